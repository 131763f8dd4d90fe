/- Draws of set functors do not fail. No condition beside those that each theorem names. -/
import Derived.Test.YtcnehblmgfbfoaaGreatVj
import Derived.Test.YtcnehblmgfbfoaaGreatPj
set_option linter.unusedVariables false
set_option linter.unusedSectionVars false
set_option linter.unusedSimpArgs false
namespace Go.Proofs.YtcnehblmgfbfoaaGreat
open Go Go.Li
theorem Sh.okC {f:aK} (h:Sh f):pq 8 800 f.aC:=
 ⟨h.cat.o0,h.cat.o8,by have:=h.cat.m; omega,h.cat.tl,h.cat.il,h.cat.kl,fun y hy=>by
  obtain ⟨i,h0,h1,rfl⟩:=JV hy
  exact h.cat.row i h0 (by rw [← h.cat.kl]; exact h1)⟩
theorem Src.at2 {x:List Int} {s t:aL} {h:Int} (S:Src x s) (T:Src x t):0≤t.At∧t.At≤x.length:=have _:=S; have _:=h; ⟨T.a0,T.a1⟩
theorem afz (z:Int):∃ y,qz .quo .i64 z (7:Int)=some y:=by
 simp only [qz]
 rw [if_neg (by decide)]
 exact ⟨_,rfl⟩
theorem afA (z:Int):∃ y,qz .quo .i64 z (5:Int)=some y:=by
 simp only [qz]
 rw [if_neg (by decide)]
 exact ⟨_,rfl⟩
section
variable {x:List Int} (B:Fe x)
include B
theorem YS {s:aL} (S:Src x s) {c:aH} (C:lg c) (hs:dk c) {size:Int} (z0:0≤size) (z1:size≤100):Ok (pC s c size) fun y=>(Sh y.1∧y.1.aC=c∧En y.1)∧Src x y.2:=by
 have o0:=C.o0
 have o8:=C.o8
 unfold pC
 refine ly (ol (fun z:Int×Int×Int=>(0≤z.1∧z.1≤6)∧0≤z.2.1∧z.2.1≤x.length) (fun z=>(6 - z.1).toNat) ⟨⟨by show (0:Int)≤0; omega,by show (0:Int)≤6; omega⟩,S.a0,S.a1⟩ ?_)
 rintro ⟨k,a,h⟩ ⟨⟨k0,k1⟩,a0,a1⟩
 dsimp only at k0 k1 a0 a1
 show Ok (pB s c size k a h) _
 unfold pB
 refine od (fun hk=>?_) fun hk=>os ⟨rfl,?_⟩
 ·refine ob (db B (S.at_ (h:=h) a0 a1) 4) fun y hy=>?_
  have hy4:=hy.1.2 (by omega)
  refine ol (fun z:List Int×Int×Int×Int=>(0≤z.2.1∧(z.1.length:Int)+z.2.1≤3)∧0≤z.2.2.1∧z.2.2.1≤x.length) (fun z=>z.2.1.toNat) ⟨⟨hy.1.1,by show ((0:Nat):Int)+y.1≤3; omega⟩,hy.2.a0,hy.2.a1⟩ ?_
  rintro ⟨zs,j,a,h⟩ ⟨⟨j0,j1⟩,a0,a1⟩
  dsimp only at j0 j1 a0 a1
  show Ok (oY s c zs j a h) _
  unfold oY
  refine ob (P:=fun g=>g=true→0 < j∧0 < c.aD) (od (fun h1=>os fun h2=>⟨by omega,by have:=of_decide_eq_true h2; omega⟩) fun h1=>os fun h2=>by cases h2) fun g hg=>oc (fun e=>?_) fun _=>os ⟨rfl,?_⟩
  ·have hj:=hg e
   have hw:ai (j - 1)=j - 1:=dT (by omega) (by omega)
   refine ob (db B (S.at_ (h:=h) a0 a1) _) fun u hu=>fj (by omega) (by omega) (os ⟨⟨⟨?_,?_⟩,hu.2.a0,hu.2.a1⟩,?_⟩)
   all_goals dsimp only
   all_goals (rw [hw]; try simp only [List.length_append,List.length_singleton])
   all_goals omega
  ·dsimp only
   refine ob (YN C hs (zs:=zs) (by omega)) fun f hf=>?_
   have hF:=hf.1
   have JX:=hf.2.1
   have wj:=hF.sl
   refine JS o0 (by omega) (by omega) (ob (db B (S.at_ (h:=h) a0 a1) 4) fun y hy=>?_)
   have hy4:=hy.1.2 (by omega)
   refine ol (fun z:Int×Int×Int×List (List (List Int))=>(0≤z.1∧z.1≤3)∧(0≤z.2.1∧z.2.1≤x.length)∧(z.2.2.2.length:Int)=c.aD∧∀ i:Int,0≤i→i < c.aD→Lu (gi f.aP i) (gl z.2.2.2 i)∧((gl z.2.2.2 i).length:Int)+z.1≤3) (fun z=>z.1.toNat) ⟨⟨hy.1.1,by show _≤(3:Int); omega⟩,⟨hy.2.a0,hy.2.a1⟩,by dsimp only; rw [List.length_replicate]; omega,fun i _ _=>?_⟩ ?_
   ·dsimp only
    rw [F8]
    exact ⟨(by intro r hr; cases hr),by show ((0:Nat):Int)+y.1≤3; omega⟩
   rintro ⟨j,a,h,ps⟩ ⟨⟨j0,j1⟩,⟨a0,a1⟩,JY,yM⟩
   dsimp only at j0 j1 a0 a1 JY yM
   show Ok (oZ s c f j a h ps) _
   unfold oZ
   refine ob (P:=fun g=>g=true→0 < j∧0 < c.aD) (od (fun h1=>os fun h2=>⟨by omega,by have:=of_decide_eq_true h2; omega⟩) fun h1=>os fun h2=>by cases h2) fun g hg=>oc (fun e=>?_) fun _=>os ⟨rfl,?_⟩
   ·have hj:=hg e
    have hw:ai (j - 1)=j - 1:=dT (by omega) (by omega)
    refine ob (db B (S.at_ (h:=h) a0 a1) _) fun u hu=>?_
    have DN:=hu.1.2 (by omega)
    have me:=hF.s u.1 hu.1.1 (by rw [JX]; exact DN)
    have hpu:=yM u.1 hu.1.1 DN
    refine oe (bQ hu.1.1 (by rw [wj,JX]; exact DN)) (od (fun hgt=>?_) fun _=>os ⟨⟨⟨?_,?_⟩,⟨hu.2.a0,hu.2.a1⟩,JY,fun i i0 i1=>?_⟩,?_⟩)
    ·refine oe (wS hu.1.1 (by rw [JY]; exact DN)) (oe (bQ hu.1.1 (by rw [wj,JX]; exact DN)) (ob (db B (S.on (h:=u.2.aj) hu.2) _) fun v hv=>oe (bQ hu.1.1 (by rw [wj,JX]; exact DN)) (ob (db B (S.on (h:=v.2.aj) hv.2) _) fun w w9=>fj (by omega) (by omega) (oe (wS hu.1.1 (by rw [JY]; exact DN)) (os ⟨⟨⟨?_,?_⟩,⟨w9.2.a0,w9.2.a1⟩,?_,fun i i0 i1=>?_⟩,?_⟩)))))
     all_goals dsimp only
     ·rw [hw]; omega
     ·rw [hw]; omega
     ·rw [List.length_set]; exact JY
     ·rw [hw,xC hu.1.1 (by rw [JY]; exact DN) i0]
      have hi:=yM i i0 i1
      split
      ·rename_i ei
       rw [ei]
       refine ⟨fun r hr=>?_,by rw [List.length_append,List.length_singleton]; omega⟩
       rcases List.mem_append.1 hr with hr | hr
       ·exact hpu.1 r hr
       ·rw [List.mem_singleton.1 hr]
        exact ⟨v.1,w.1,[],rfl,⟨hv.1.1,hv.1.2 (by omega)⟩,w9.1.1,w9.1.2 (by omega)⟩
      ·exact ⟨hi.1,by omega⟩
     ·rw [hw]; omega
    all_goals dsimp only
    ·rw [hw]; omega
    ·rw [hw]; omega
    ·rw [hw]; have:=yM i i0 i1; exact ⟨this.1,by omega⟩
    ·rw [hw]; omega
   ·dsimp only
    refine ob (YK hF (ps:=ps) (by rw [JX]; exact JY) fun i i0 i1=>by have:=yM i i0 (by rw [← JX]; exact i1); exact ⟨this.1,by omega⟩) fun q hq=>?_
    have hql:=hq.1.sl
    have PJ:q.aC=c:=hq.2.1.trans JX
    rw [PJ] at hql
    refine ol (fun z:Bool×Int=>0≤z.2∧z.2≤q.aP.length) (fun z=>(q.aP.length - z.2).toNat) ⟨by show (0:Int)≤0; omega,by show (0:Int)≤_; omega⟩ ?_
    rintro ⟨b,i⟩ ⟨i0,i1⟩
    dsimp only at i0 i1
    show Ok (pA size q b i) _
    unfold pA
    refine od (fun hi=>?_) fun hi=>os ⟨rfl,?_⟩
    ·have hw:=w1 i0 hi (by omega)
     refine ob (P:=fun _=>True) (oc (fun _=>oe (bQ i0 hi) (os trivial)) fun _=>os trivial) fun g _=>os ⟨⟨?_,?_⟩,?_⟩
     all_goals dsimp only
     all_goals rw [hw]
     all_goals omega
    ·dsimp only
     refine oc (fun _=>os ⟨⟨hq.1,PJ,hq.2.2 hf.2.2⟩,S.at_ a0 a1⟩) fun _=>os ⟨⟨⟨?_,?_⟩,a0,a1⟩,?_⟩
     all_goals have hw:=w1 k0 hk (by omega)
     all_goals dsimp only
     all_goals rw [hw]
     all_goals omega
 ·dsimp only
  have me:ai ((if (2:Int) < size then 2 else size)+1)=(if (2:Int) < size then 2 else size)+1:=dT (by split <;> omega) (by split <;> omega)
  rw [me]
  refine ob (db B (S.at_ (h:=h) a0 a1) _) fun u hu=>?_
  have DN:=hu.1.2 (by split <;> omega)
  refine ob (UU C hs hu.1.1 (by split at DN <;> omega)) fun f hf=>os ⟨hf,S.on hu.2⟩
omit B in
theorem ib.Dm {f:aK} (h:ib f) {c:aH} (hc:dk c):ib (aK.mk c f.aP f.aO):=⟨hc,h.s,h.k,h.r⟩
theorem YT {s:aL} (S:Src x s) {f:aK} (F:Sh f):Ok (pD s f) fun y=>ib y.1∧Src x y.2:=by
 have hf:=F.sm
 have xV:=F.al
 have m:=F.cat.m
 have o8:=F.cat.o8
 have wj:=F.sl
 have row:∀ a:Int,0≤a→a < f.aO.length→(gr f.aO a).length≤200:=fun a a0 a1=>by
  have h1:=(F.act a a0 (by omega)).1
  have h2:=F.cat.fr a0 (by omega)
  have h3:=F.s _ h2.1 h2.2
  omega
 unfold pD
 refine ly (oe (Ef hf) (ob (db B S _) fun y hy=>?_))
 have T:=S.on (h:=y.2.aj) hy.2
 have dp:ib f∧Src x (aL.mk s.Code y.2.At y.2.aj):=⟨hf,T⟩
 have cell:Ok ((aZ (aL.mk s.Code y.2.At y.2.aj) ((f.aO.length:Int)))>>=fun s8=>(((bif decide ((f.aO.length:Int) > (0:Int)) then ((idx f.aO (s8.1))>>=fun RP=>(some (decide ((RP.length:Int) > (0:Int))))) else (some (false))))>>=fun RQ=>(bif RQ then ((idx f.aO (s8.1))>>=fun Jy=>((idx f.aO (s8.1))>>=fun RR=>((aZ (aL.mk s.Code s8.2.At s8.2.aj) ((RR.length:Int)))>>=fun A5=>((aZ (aL.mk s.Code A5.2.At A5.2.aj) ((4:Int)))>>=fun Eb=>((aZ (aL.mk s.Code Eb.2.At Eb.2.aj) ((8:Int)))>>=fun Ec=>((qz .quo .i64 (Ec.1) ((7:Int)))>>=fun RS=>((idx Jy (A5.1))>>=fun _=>(some (Out.ret (S:=Unit) (((aK.mk f.aC f.aP (f.aO.set (s8.1).toNat (Jy.set (A5.1).toNat (ai (Eb.1 - RS))))),(aL.mk s.Code Ec.2.At Ec.2.aj)))))))))))) else (some (Out.ret ((f,(aL.mk s.Code s8.2.At s8.2.aj)))))))) (Rt fun y=>ib y.1∧Src x y.2):=by
  refine ob (db B T _) fun a ha=>?_
  have ha2:=S.on (h:=a.2.aj) ha.2
  refine ob (P:=fun g=>g=true→0 < f.aO.length∧0 < (gr f.aO a.1).length) (od (fun h1=>oe (cb ha.1.1 (ha.1.2 (by omega))) (os fun h2=>⟨by omega,by have:=of_decide_eq_true h2; omega⟩)) fun _=>os fun h2=>by cases h2) fun g hg=>oc (fun e=>?_) fun _=>os ⟨hf,ha2⟩
  have hh:=hg e
  have h1:=ha.1.2 (by omega)
  have hr:=row a.1 ha.1.1 h1
  refine oe (cb ha.1.1 h1) (oe (cb ha.1.1 h1) (ob (db B ha2 _) fun b hb=>ob (db B (S.on (h:=b.2.aj) hb.2) _) fun d hd=>ob (db B (S.on (h:=d.2.aj) hd.2) _) fun i hi=>?_))
  obtain ⟨q,eq⟩:=afz i.1
  refine oe eq (oe (bQ hb.1.1 (hb.1.2 (by omega))) (os ⟨⟨hf.c,hf.s,by dsimp only; rw [List.length_set]; exact hf.k,tF hf.r (by rw [List.length_set]; omega)⟩,S.on hi.2⟩))
 refine oc (fun _=>?_) fun _=>oc (fun _=>?_) fun _=>oc (fun _=>cell) fun _=>oc (fun _=>cell) fun _=>oc (fun _=>?_) fun _=>os dp
 ·exact ob (PD B T F.okC) fun u hu=>os ⟨hf.Dm hu.1,S.on hu.2⟩
 ·refine od (fun h1=>?_) fun _=>os dp
  refine ob (db B T _) fun u hu=>ob (Pz B (S.on (h:=u.2.aj) hu.2) (by simp)) fun v hv=>oe (bQ hu.1.1 (hu.1.2 (by omega))) (os ⟨⟨hf.c,by dsimp only; rw [List.length_set]; exact hf.s,hf.k,hf.r⟩,S.on hv.2⟩)
 ·exact fj (by omega) (by omega) (os ⟨⟨hf.c,hf.s,by dsimp only; rw [List.length_append,List.length_singleton]; omega,kp hf.r (by simp)⟩,T⟩)
theorem JZ {s:aL} (S:Src x s) {c:aH} (hs:dk c) {size:Int} (z0:0≤size) (z1:size≤100):Ok (kE s c size) fun y=>ib y.1∧Src x y.2:=by
 unfold kE
 refine ly (oe (Ps hs) (oc (fun _=>os ⟨⟨hs,by simp,by simp,jo⟩,S⟩) fun e=>?_))
 have C:lg c:=vr (by simpa using e)
 refine ob (YS B S C hs z0 z1) fun f hf=>ob (db B (S.on (h:=f.2.aj) hf.2) _) fun u hu=>oc (fun _=>?_) fun _=>os ⟨hf.1.1.sm,S.on hu.2⟩
 exact ob (YT B (S.on (h:=u.2.aj) hu.2) hf.1.1) fun v hv=>os ⟨hv.1,S.on hv.2⟩
theorem PK {s:aL} (S:Src x s):Ok (mG s) fun y=>dk y.1∧Src x y.2:=by
 unfold mG
 refine ly (ob (db B S _) fun u hu=>oc (fun _=>?_) fun _=>?_)
 ·exact ob (PE B (S.on (h:=u.2.aj) hu.2) _ _) fun v hv=>os ⟨hv.1,S.on hv.2⟩
 ·exact ob (PE B (S.on (h:=u.2.aj) hu.2) _ _) fun v hv=>os ⟨hv.1,S.on hv.2⟩
theorem YU {s:aL} (S:Src x s) {size:Int} (z0:0≤size) (z1:size≤100):Ok (pF s size) fun y=>ib y.1∧ib y.2.1∧Src x y.2.2:=by
 unfold pF
 refine ly (ob (PK B S) fun c hc=>ob (JZ B (S.on (h:=c.2.aj) hc.2) hc.1 z0 z1) fun f hf=>ob (db B (S.on (h:=f.2.aj) hf.2) _) fun u hu=>oc (fun _=>?_) fun _=>?_)
 ·exact ob (PK B (S.on (h:=u.2.aj) hu.2)) fun d hd=>ob (JZ B (S.on (h:=d.2.aj) hd.2) hd.1 z0 z1) fun g hg=>os ⟨hf.1,hg.1,S.on hg.2⟩
 ·exact ob (JZ B (S.on (h:=u.2.aj) hu.2) hc.1 z0 z1) fun g hg=>os ⟨hf.1,hg.1,S.on hg.2⟩
end
end Go.Proofs.YtcnehblmgfbfoaaGreat
