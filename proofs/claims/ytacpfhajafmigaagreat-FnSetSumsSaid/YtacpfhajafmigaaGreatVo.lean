/- Draws of set functors do not fail. No condition beside those that each theorem names. -/
import Derived.Test.YtacpfhajafmigaaGreatVn
import Derived.Test.YtacpfhajafmigaaGreatRu
namespace Go.Proofs.YtacpfhajafmigaaGreat
open Go Go.Li
theorem Sh.okC {f:aF} (h:Sh f):OkC 8 800 f.aA:=
 ⟨h.cat.o0,h.cat.o8,by have:=h.cat.m; omega,h.cat.tl,h.cat.il,h.cat.kl,fun y hy=>by
  obtain ⟨i,h0,h1,rfl⟩:=mem_gr hy
  exact h.cat.row i h0 (by rw [← h.cat.kl]; exact h1)⟩
theorem Src.at2 {x:List Int} {s t:aL} {h:Int} (S:Src x s) (T:Src x t):0≤t.At∧t.At≤x.length:=have _:=S; have _:=h; ⟨T.a0,T.a1⟩
theorem quo7 (z:Int):∃ y,aop .quo .i64 z (7:Int)=some y:=by
 simp only [aop]
 rw [if_neg (by decide)]
 exact ⟨_,rfl⟩
theorem quo5 (z:Int):∃ y,aop .quo .i64 z (5:Int)=some y:=by
 simp only [aop]
 rw [if_neg (by decide)]
 exact ⟨_,rfl⟩
section
variable {x:List Int} (B:Byt x)
include B
theorem some19 {s:aL} (S:Src x s) {c:aI} (C:Cat c) (hs:CatSmall c) {size:Int} (z0:0≤size) (z1:size≤100):Ok (kU s c size) fun y=>(Sh y.1∧y.1.aA=c∧OneF y.1)∧Src x y.2:=by
 have o0:=C.o0
 have o8:=C.o8
 unfold kU
 refine orr (ol (fun z:Int×Int×Int=>(0≤z.1∧z.1≤6)∧0≤z.2.1∧z.2.1≤x.length) (fun z=>(6 - z.1).toNat) ⟨⟨by show (0:Int)≤0; omega,by show (0:Int)≤6; omega⟩,S.a0,S.a1⟩ ?_)
 rintro ⟨k,a,h⟩ ⟨⟨k0,k1⟩,a0,a1⟩
 dsimp only at k0 k1 a0 a1
 show Ok (nU s c size k a h) _
 unfold nU
 refine od (fun hk=>?_) fun hk=>os ⟨rfl,?_⟩
 ·refine ob (nextOk B (S.at_ (h:=h) a0 a1) 4) fun y hy=>?_
  have hy4:=hy.1.2 (by omega)
  refine ol (fun z:List Int×Int×Int×Int=>(0≤z.2.1∧(z.1.length:Int)+z.2.1≤3)∧0≤z.2.2.1∧z.2.2.1≤x.length) (fun z=>z.2.1.toNat) ⟨⟨hy.1.1,by show ((0:Nat):Int)+y.1≤3; omega⟩,hy.2.a0,hy.2.a1⟩ ?_
  rintro ⟨zs,j,a,h⟩ ⟨⟨j0,j1⟩,a0,a1⟩
  dsimp only at j0 j1 a0 a1
  show Ok (nR s c zs j a h) _
  unfold nR
  refine ob (P:=fun g=>g=true→0 < j∧0 < c.aH) (od (fun h1=>os fun h2=>⟨by omega,by have:=of_decide_eq_true h2; omega⟩) fun h1=>os fun h2=>by cases h2) fun g hg=>oc (fun e=>?_) fun _=>os ⟨rfl,?_⟩
  ·have hj:=hg e
   have hw:w64 (j - 1)=j - 1:=dJ (by omega) (by omega)
   refine ob (nextOk B (S.at_ (h:=h) a0 a1) _) fun u hu=>oft (by omega) (by omega) (os ⟨⟨⟨?_,?_⟩,hu.2.a0,hu.2.a1⟩,?_⟩)
   all_goals dsimp only
   all_goals (rw [hw]; try simp only [List.length_append,List.length_singleton])
   all_goals omega
  ·dsimp only
   refine ob (freeOk C hs (zs:=zs) (by omega)) fun f hf=>?_
   have hF:=hf.1
   have hsh:=hf.2.1
   have hsl:=hF.sl
   refine omk o0 (by omega) (by omega) (ob (nextOk B (S.at_ (h:=h) a0 a1) 4) fun y hy=>?_)
   have hy4:=hy.1.2 (by omega)
   refine ol (fun z:Int×Int×Int×List (List (List Int))=>(0≤z.1∧z.1≤3)∧(0≤z.2.1∧z.2.1≤x.length)∧(z.2.2.2.length:Int)=c.aH∧∀ i:Int,0≤i→i < c.aH→Prs (gi f.aM i) (gl z.2.2.2 i)∧((gl z.2.2.2 i).length:Int)+z.1≤3) (fun z=>z.1.toNat) ⟨⟨hy.1.1,by show _≤(3:Int); omega⟩,⟨hy.2.a0,hy.2.a1⟩,by dsimp only; rw [List.length_replicate]; omega,fun i _ _=>?_⟩ ?_
   ·dsimp only
    rw [gl_rep]
    exact ⟨(by intro r hr; cases hr),by show ((0:Nat):Int)+y.1≤3; omega⟩
   rintro ⟨j,a,h,ps⟩ ⟨⟨j0,j1⟩,⟨a0,a1⟩,hpl,hps⟩
   dsimp only at j0 j1 a0 a1 hpl hps
   show Ok (nS s c f j a h ps) _
   unfold nS
   refine ob (P:=fun g=>g=true→0 < j∧0 < c.aH) (od (fun h1=>os fun h2=>⟨by omega,by have:=of_decide_eq_true h2; omega⟩) fun h1=>os fun h2=>by cases h2) fun g hg=>oc (fun e=>?_) fun _=>os ⟨rfl,?_⟩
   ·have hj:=hg e
    have hw:w64 (j - 1)=j - 1:=dJ (by omega) (by omega)
    refine ob (nextOk B (S.at_ (h:=h) a0 a1) _) fun u hu=>?_
    have hu1:=hu.1.2 (by omega)
    have hsz:=hF.s u.1 hu.1.1 (by rw [hsh]; exact hu1)
    have hpu:=hps u.1 hu.1.1 hu1
    refine oe (bS hu.1.1 (by rw [hsl,hsh]; exact hu1)) (od (fun hgt=>?_) fun _=>os ⟨⟨⟨?_,?_⟩,⟨hu.2.a0,hu.2.a1⟩,hpl,fun i i0 i1=>?_⟩,?_⟩)
    ·refine oe (idx_gl hu.1.1 (by rw [hpl]; exact hu1)) (oe (bS hu.1.1 (by rw [hsl,hsh]; exact hu1)) (ob (nextOk B (S.on (h:=u.2.Hash) hu.2) _) fun v hv=>oe (bS hu.1.1 (by rw [hsl,hsh]; exact hu1)) (ob (nextOk B (S.on (h:=v.2.Hash) hv.2) _) fun w hw'=>oft (by omega) (by omega) (oe (idx_gl hu.1.1 (by rw [hpl]; exact hu1)) (os ⟨⟨⟨?_,?_⟩,⟨hw'.2.a0,hw'.2.a1⟩,?_,fun i i0 i1=>?_⟩,?_⟩)))))
     all_goals dsimp only
     ·rw [hw]; omega
     ·rw [hw]; omega
     ·rw [List.length_set]; exact hpl
     ·rw [hw,gl_set hu.1.1 (by rw [hpl]; exact hu1) i0]
      have hi:=hps i i0 i1
      split
      ·rename_i ei
       rw [ei]
       refine ⟨fun r hr=>?_,by rw [List.length_append,List.length_singleton]; omega⟩
       rcases List.mem_append.1 hr with hr | hr
       ·exact hpu.1 r hr
       ·rw [List.mem_singleton.1 hr]
        exact ⟨v.1,w.1,[],rfl,⟨hv.1.1,hv.1.2 (by omega)⟩,hw'.1.1,hw'.1.2 (by omega)⟩
      ·exact ⟨hi.1,by omega⟩
     ·rw [hw]; omega
    all_goals dsimp only
    ·rw [hw]; omega
    ·rw [hw]; omega
    ·rw [hw]; have:=hps i i0 i1; exact ⟨this.1,by omega⟩
    ·rw [hw]; omega
   ·dsimp only
    refine ob (glueOk hF (ps:=ps) (by rw [hsh]; exact hpl) fun i i0 i1=>by have:=hps i i0 (by rw [← hsh]; exact i1); exact ⟨this.1,by omega⟩) fun q hq=>?_
    have hql:=hq.1.sl
    have hqs:q.aA=c:=hq.2.1.trans hsh
    rw [hqs] at hql
    refine ol (fun z:Bool×Int=>0≤z.2∧z.2≤q.aM.length) (fun z=>(q.aM.length - z.2).toNat) ⟨by show (0:Int)≤0; omega,by show (0:Int)≤_; omega⟩ ?_
    rintro ⟨b,i⟩ ⟨i0,i1⟩
    dsimp only at i0 i1
    show Ok (nT size q b i) _
    unfold nT
    refine od (fun hi=>?_) fun hi=>os ⟨rfl,?_⟩
    ·have hw:=w1 i0 hi (by omega)
     refine ob (P:=fun _=>True) (oc (fun _=>oe (bS i0 hi) (os trivial)) fun _=>os trivial) fun g _=>os ⟨⟨?_,?_⟩,?_⟩
     all_goals dsimp only
     all_goals rw [hw]
     all_goals omega
    ·dsimp only
     refine oc (fun _=>os ⟨⟨hq.1,hqs,hq.2.2 hf.2.2⟩,S.at_ a0 a1⟩) fun _=>os ⟨⟨⟨?_,?_⟩,a0,a1⟩,?_⟩
     all_goals have hw:=w1 k0 hk (by omega)
     all_goals dsimp only
     all_goals rw [hw]
     all_goals omega
 ·dsimp only
  have hsz:w64 ((if (2:Int) < size then 2 else size)+1)=(if (2:Int) < size then 2 else size)+1:=dJ (by split <;> omega) (by split <;> omega)
  rw [hsz]
  refine ob (nextOk B (S.at_ (h:=h) a0 a1) _) fun u hu=>?_
  have hu1:=hu.1.2 (by split <;> omega)
  refine ob (constOk C hs hu.1.1 (by split at hu1 <;> omega)) fun f hf=>os ⟨hf,S.on hu.2⟩
omit B in
theorem SFSmall.upd {f:aF} (h:SFSmall f) {c:aI} (hc:CatSmall c):SFSmall (aF.mk c f.aM f.aN):=⟨hc,h.s,h.k,h.r⟩
theorem bend19 {s:aL} (S:Src x s) {f:aF} (F:Sh f):Ok (nV s f) fun y=>SFSmall y.1∧Src x y.2:=by
 have hf:=F.sm
 have hal:=F.al
 have m:=F.cat.m
 have o8:=F.cat.o8
 have hsl:=F.sl
 have row:∀ a:Int,0≤a→a < f.aN.length→(gr f.aN a).length≤200:=fun a a0 a1=>by
  have h1:=(F.act a a0 (by omega)).1
  have h2:=F.cat.fr a0 (by omega)
  have h3:=F.s _ h2.1 h2.2
  omega
 unfold nV
 refine orr (oe (specOwnF hf) (ob (nextOk B S _) fun y hy=>?_))
 have T:=S.on (h:=y.2.Hash) hy.2
 have keep:SFSmall f∧Src x (aL.mk s.Code y.2.At y.2.Hash):=⟨hf,T⟩
 have cell:Ok ((bF (aL.mk s.Code y.2.At y.2.Hash) ((f.aN.length:Int)))>>=fun y203=>(((bif decide ((f.aN.length:Int) > (0:Int)) then ((idx f.aN (y203.1))>>=fun e212=>(some (decide ((e212.length:Int) > (0:Int))))) else (some (false))))>>=fun g209=>(bif g209 then ((idx f.aN (y203.1))>>=fun e222=>((idx f.aN (y203.1))>>=fun e229=>((bF (aL.mk s.Code y203.2.At y203.2.Hash) ((e229.length:Int)))>>=fun y237=>((bF (aL.mk s.Code y237.2.At y237.2.Hash) ((4:Int)))>>=fun y243=>((bF (aL.mk s.Code y243.2.At y243.2.Hash) ((8:Int)))>>=fun y249=>((aop .quo .i64 (y249.1) ((7:Int)))>>=fun z255=>((idx e222 (y237.1))>>=fun _=>(some (Out.ret (S:=Unit) (((aF.mk f.aA f.aM (f.aN.set (y203.1).toNat (e222.set (y237.1).toNat (w64 (y243.1 - z255))))),(aL.mk s.Code y249.2.At y249.2.Hash)))))))))))) else (some (Out.ret ((f,(aL.mk s.Code y203.2.At y203.2.Hash)))))))) (Rt fun y=>SFSmall y.1∧Src x y.2):=by
  refine ob (nextOk B T _) fun a ha=>?_
  have ha2:=S.on (h:=a.2.Hash) ha.2
  refine ob (P:=fun g=>g=true→0 < f.aN.length∧0 < (gr f.aN a.1).length) (od (fun h1=>oe (idx_gr ha.1.1 (ha.1.2 (by omega))) (os fun h2=>⟨by omega,by have:=of_decide_eq_true h2; omega⟩)) fun _=>os fun h2=>by cases h2) fun g hg=>oc (fun e=>?_) fun _=>os ⟨hf,ha2⟩
  have hh:=hg e
  have h1:=ha.1.2 (by omega)
  have hr:=row a.1 ha.1.1 h1
  refine oe (idx_gr ha.1.1 h1) (oe (idx_gr ha.1.1 h1) (ob (nextOk B ha2 _) fun b hb=>ob (nextOk B (S.on (h:=b.2.Hash) hb.2) _) fun d hd=>ob (nextOk B (S.on (h:=d.2.Hash) hd.2) _) fun i hi=>?_))
  obtain ⟨q,eq⟩:=quo7 i.1
  refine oe eq (oe (bS hb.1.1 (hb.1.2 (by omega))) (os ⟨⟨hf.c,hf.s,by dsimp only; rw [List.length_set]; exact hf.k,set_all hf.r (by rw [List.length_set]; omega)⟩,S.on hi.2⟩))
 refine oc (fun _=>?_) fun _=>oc (fun _=>?_) fun _=>oc (fun _=>cell) fun _=>oc (fun _=>cell) fun _=>oc (fun _=>?_) fun _=>os keep
 ·exact ob (bendOk B T F.okC) fun u hu=>os ⟨hf.upd hu.1,S.on hu.2⟩
 ·refine od (fun h1=>?_) fun _=>os keep
  refine ob (nextOk B T _) fun u hu=>ob (pickOk B (S.on (h:=u.2.Hash) hu.2) (by simp)) fun v hv=>oe (bS hu.1.1 (hu.1.2 (by omega))) (os ⟨⟨hf.c,by dsimp only; rw [List.length_set]; exact hf.s,hf.k,hf.r⟩,S.on hv.2⟩)
 ·exact oft (by omega) (by omega) (os ⟨⟨hf.c,hf.s,by dsimp only; rw [List.length_append,List.length_singleton]; omega,app_all hf.r (by simp)⟩,T⟩)
theorem draw19 {s:aL} (S:Src x s) {c:aI} (hs:CatSmall c) {size:Int} (z0:0≤size) (z1:size≤100):Ok (iQ s c size) fun y=>SFSmall y.1∧Src x y.2:=by
 unfold iQ
 refine orr (oe (specIs hs) (oc (fun _=>os ⟨⟨hs,by simp,by simp,nil_all⟩,S⟩) fun e=>?_))
 have C:Cat c:=cat_of (by simpa using e)
 refine ob (some19 B S C hs z0 z1) fun f hf=>ob (nextOk B (S.on (h:=f.2.Hash) hf.2) _) fun u hu=>oc (fun _=>?_) fun _=>os ⟨hf.1.1.sm,S.on hu.2⟩
 exact ob (bend19 B (S.on (h:=u.2.Hash) hu.2) hf.1.1) fun v hv=>os ⟨hv.1,S.on hv.2⟩
theorem base19 {s:aL} (S:Src x s):Ok (kR s) fun y=>CatSmall y.1∧Src x y.2:=by
 unfold kR
 refine orr (ob (nextOk B S _) fun u hu=>oc (fun _=>?_) fun _=>?_)
 ·exact ob (drawOk B (S.on (h:=u.2.Hash) hu.2) _ _) fun v hv=>os ⟨hv.1,S.on hv.2⟩
 ·exact ob (drawOk B (S.on (h:=u.2.Hash) hu.2) _ _) fun v hv=>os ⟨hv.1,S.on hv.2⟩
theorem pair19 {s:aL} (S:Src x s) {size:Int} (z0:0≤size) (z1:size≤100):Ok (nW s size) fun y=>SFSmall y.1∧SFSmall y.2.1∧Src x y.2.2:=by
 unfold nW
 refine orr (ob (base19 B S) fun c hc=>ob (draw19 B (S.on (h:=c.2.Hash) hc.2) hc.1 z0 z1) fun f hf=>ob (nextOk B (S.on (h:=f.2.Hash) hf.2) _) fun u hu=>oc (fun _=>?_) fun _=>?_)
 ·exact ob (base19 B (S.on (h:=u.2.Hash) hu.2)) fun d hd=>ob (draw19 B (S.on (h:=d.2.Hash) hd.2) hd.1 z0 z1) fun g hg=>os ⟨hf.1,hg.1,S.on hg.2⟩
 ·exact ob (draw19 B (S.on (h:=u.2.Hash) hu.2) hc.1 z0 z1) fun g hg=>os ⟨hf.1,hg.1,S.on hg.2⟩
end
end Go.Proofs.YtacpfhajafmigaaGreat
