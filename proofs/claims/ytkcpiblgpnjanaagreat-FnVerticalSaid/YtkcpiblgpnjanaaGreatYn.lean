/- Functors that are looked for in depth: the reference's search does not fail, and finds one where there is one. No condition beside those that each theorem names. -/
import Derived.Test.YtkcpiblgpnjanaaGreatYi
import Derived.Test.YtkcpiblgpnjanaaGreatYk
namespace Go.Proofs.YtkcpiblgpnjanaaGreat
open Go Go.Li
set_option linter.unusedVariables false
set_option linter.unusedSectionVars false
def sU (r:List Int):Nat:=(r.filter fun v=>decide (v < 0)).length
theorem JT {r:List Int} {d:Nat} {v:Int} (hv:0≤v):sU (r.set d v)≤sU r∧(d < r.length→gi r d < 0→sU (r.set d v) < sU r):=by
 unfold sU
 induction r generalizing d with
 | nil=>exact ⟨by simp,fun h=>by simp at h⟩
 | cons a r ih=>
  cases d with
  | zero=>
   have e0:(List.filter (fun v=>decide (v < 0)) (v :: r))=List.filter (fun v=>decide (v < 0)) r:=by rw [List.filter_cons,if_neg (by simp; omega)]
   rw [List.set_cons_zero,e0,List.filter_cons]
   refine ⟨by split <;> simp,fun _ h=>?_⟩
   have h:a < 0:=h
   rw [if_pos (by simpa using h)]; simp
  | succ d=>
   rw [List.set_cons_succ,List.filter_cons,List.filter_cons]
   obtain ⟨h1,h2⟩:=ih (d:=d)
   refine ⟨by split <;> (try simp only [List.length_cons]) <;> omega,fun hl hg=>?_⟩
   have hg:gi r d < 0:=by
    have e:gi (a :: r) ((d+1:Nat):Int)=gi r (d:Int):=rfl
    rwa [e] at hg
   have:=h2 (by simp at hl; omega) hg
   split <;> (try simp only [List.length_cons]) <;> omega
theorem LM {c:aI} (hl:c.To.length=c.aG.length) (hm:c.aG.length≤100000) (x y:Int):Ok (lF c x y) fun l=>l.length≤c.aG.length∧∀ f,f∈l↔(0≤f∧f < c.aG.length)∧gi c.aG f=x∧gi c.To f=y:=by
 unfold lF
 refine j7 (ol (fun z:List Int×Int=>(0≤z.2∧z.2≤c.aG.length)∧(z.1.length:Int)≤z.2∧∀ f,f∈z.1↔(0≤f∧f < z.2)∧gi c.aG f=x∧gi c.To f=y) (fun z=>(c.aG.length - z.2).toNat) ⟨⟨by show (0:Int)≤0; omega,by show (0:Int)≤_; omega⟩,by show (0:Int)≤0; omega,fun f=>⟨(fun h=>nomatch h),fun h=>by have:=h.1; omega⟩⟩ ?_)
 rintro ⟨l,i⟩ ⟨⟨i0,i1⟩,yO,uP⟩
 dsimp only at i0 i1 yO uP
 show Ok (pJ c x y l i) _
 unfold pJ
 refine od (fun hi=>?_) fun hi=>os ⟨rfl,os ⟨by omega,fun f=>(uP f).trans ⟨fun h=>⟨⟨h.1.1,by omega⟩,h.2⟩,fun h=>⟨⟨h.1.1,by omega⟩,h.2⟩⟩⟩⟩
 have hw:=w1 i0 hi (by omega)
 refine oe (x:=(gi c.aG i == x && gi c.To i == y)) (by rw [cM i0 hi,aH,cM i0 (by omega),aH,jv,rV]) (oc (fun eg=>fh (by omega) (by omega) (os ⟨⟨⟨?_,?_⟩,?_,fun f=>?_⟩,?_⟩)) fun eg=>os ⟨⟨⟨?_,?_⟩,?_,fun f=>?_⟩,?_⟩)
 all_goals try dsimp only
 all_goals rw [hw]
 all_goals first | (simp only [List.length_append,List.length_singleton]; omega) | omega | skip
 ·simp only [Bool.and_eq_true,beq_iff_eq] at eg
  rw [List.mem_append,List.mem_singleton,uP f]
  constructor
  ·rintro (h | rfl)
   ·exact ⟨⟨h.1.1,by omega⟩,h.2⟩
   ·exact ⟨⟨i0,by omega⟩,eg⟩
  ·rintro ⟨h,h2⟩
   by_cases e:f=i
   ·exact .inr e
   ·exact .inl ⟨⟨h.1,by omega⟩,h2⟩
 ·rw [uP f]
  constructor
  ·exact fun h=>⟨⟨h.1.1,by omega⟩,h.2⟩
  ·rintro ⟨h,h2⟩
   by_cases e:f=i
   ·subst e
    rw [h2.1,h2.2] at eg
    simp at eg
   ·exact ⟨⟨h.1,by omega⟩,h2⟩
structure PA (c d:aI) (xs ys:List Int):Prop where
 len:ys.length=c.aG.length
 ok:∀ a:Int,0≤a→a < c.aG.length→0≤gi ys a→gi ys a < d.aG.length∧gi d.aG (gi ys a)=gi xs (gi c.aG a)∧gi d.To (gi ys a)=gi xs (gi c.To a)
theorem PA.set {c d:aI} {xs ys:List Int} (P:PA c d xs ys) {a v:Int} (a0:0≤a) (a1:a < c.aG.length) (h:0≤v→v < d.aG.length∧gi d.aG v=gi xs (gi c.aG a)∧gi d.To v=gi xs (gi c.To a)):PA c d xs (ys.set a.toNat v):=by
 have hl:=P.len
 refine ⟨by rw [List.length_set]; exact hl,fun b b0 b1=>?_⟩
 rw [rm a0 (by omega) b0]
 by_cases e:b=a
 ·rw [if_pos e,e]; exact h
 ·rw [if_neg e]; exact P.ok b b0 b1
def LP (c d:aI) (A:List Int):Prop:=∀ a b:Int,0≤a→a < c.aG.length→0≤b→b < c.aG.length→gi c.To a=gi c.aG b→gi A (gk c.aF a b)=gk d.aF (gi A a) (gi A b)
def Ar (c:aI) (ys A:List Int):Prop:=∀ a:Int,0≤a→a < c.aG.length→0≤gi ys a→gi ys a=gi A a
structure FJ (c d:aI) (xs xD ys:List Int):Prop where
 p:PA c d xs ys
 mono:∀ a:Int,0≤a→0≤gi xD a→gi ys a=gi xD a
 ext:∀ A,LP c d A→Ar c xD A→Ar c ys A
 ng:sU ys≤sU xD
section
variable {c d:aI} {xs xD ys:List Int} (T:Ty c) (U:Ty d)
include T U
theorem FJ.step (J:FJ c d xs xD ys) {a b:Int} (a0:0≤a) (a1:a < c.aG.length) (b0:0≤b) (b1:b < c.aG.length) (hh:0≤gk c.aF a b) (ha:0≤gi ys a) (hb:0≤gi ys b) :
  gk c.aF a b < c.aG.length∧gi ys a < d.aG.length∧gi ys b < d.aG.length∧
  ((0≤gi ys (gk c.aF a b)→gi ys (gk c.aF a b)=gk d.aF (gi ys a) (gi ys b))→FJ c d xs xD (ys.set (gk c.aF a b).toNat (gk d.aF (gi ys a) (gi ys b)))∧sU (ys.set (gk c.aF a b).toNat (gk d.aF (gi ys a) (gi ys b)))≤sU ys∧(gi ys (gk c.aF a b) < 0→sU (ys.set (gk c.aF a b).toNat (gk d.aF (gi ys a) (gi ys b))) < sU ys))∧
  (0≤gi ys (gk c.aF a b)→gi ys (gk c.aF a b)≠gk d.aF (gi ys a) (gi ys b)→∀ A,LP c d A→¬ Ar c xD A):=by
 have e:gi c.To a=gi c.aG b:=Classical.byContradiction fun ne=>by
  have:=T.none a b a0 a1 b0 b1 ne
  omega
 have k:=T.cell a b a0 a1 b0 b1 e
 have pa:=J.p.ok a a0 a1 ha
 have pb:=J.p.ok b b0 b1 hb
 have m:=U.cell _ _ ha pa.1 hb pb.1 (by rw [pa.2.2,pb.2.1,e])
 have hl:=J.p.len
 refine ⟨k.1.2,pa.1,pb.1,fun hc=>?_,fun h0 kh A hA hE=>kh ?_⟩
 ·have hn:=JT (r:=ys) (d:=(gk c.aF a b).toNat) m.1.1
  refine ⟨⟨J.p.set hh k.1.2 fun _=>⟨m.1.2,by rw [m.2.1,pa.2.1,k.2.1],by rw [m.2.2,pb.2.2,k.2.2]⟩,fun x x0 hx=>?_,fun A hA hE=>?_,by have:=J.ng; omega⟩,hn.1,fun C8=>hn.2 (by omega) (by rw [show (((gk c.aF a b).toNat:Nat):Int)=gk c.aF a b by omega]; exact C8)⟩
  ·have hm:=J.mono x x0 hx
   rw [rm hh (by omega) x0]
   by_cases ex:x=gk c.aF a b
   ·rw [if_pos ex]
    rw [← ex] at hc
    rw [← hc (by omega),hm]
   ·rw [if_neg ex]; exact hm
  ·have Iy:=J.ext A hA hE
   intro x x0 x1 hx
   rw [rm hh (by omega) x0] at hx ⊢
   by_cases ex:x=gk c.aF a b
   ·rw [if_pos ex,ex,hA a b a0 a1 b0 b1 e,← Iy a a0 a1 ha,← Iy b b0 b1 hb]
   ·rw [if_neg ex] at hx ⊢
    exact Iy x x0 x1 hx
 ·have Iy:=J.ext A hA hE
  rw [Iy _ hh k.1.2 h0,hA a b a0 a1 b0 b1 e,← Iy a a0 a1 ha,← Iy b b0 b1 hb]
theorem Tl (cm:c.aG.length≤1000) (P:PA c d xs xD):Ok (nB c d xD) fun y=>(y.1=true→FJ c d xs xD y.2)∧(y.1=false→∀ A,LP c d A→¬ Ar c xD A):=by
 unfold nB
 refine j7 (ol (fun z:Bool×List Int=>FJ c d xs xD z.2) (fun z=>(if z.1 then 1 else 0)+sU z.2) ⟨P,fun _ _ _=>rfl,fun _ _ h=>h,Nat.le_refl _⟩ ?_)
 rintro ⟨more,Ot⟩ J0
 dsimp only at J0
 show Ok (nO c d more Ot) _
 unfold nO
 refine oc (fun R8=>?_) fun R8=>os ⟨rfl,os ⟨fun _=>J0,fun h=>by cases h⟩⟩
 subst R8
 refine ol (fun z:Bool×Int×List Int=>(0≤z.2.1∧z.2.1≤c.aG.length)∧FJ c d xs xD z.2.2∧sU z.2.2≤sU Ot∧(z.1=true→sU z.2.2 < sU Ot)) (fun z=>(c.aG.length - z.2.1).toNat) ⟨⟨by show (0:Int)≤0; omega,by show (0:Int)≤_; omega⟩,J0,Nat.le_refl _,fun h=>by cases h⟩ ?_
 rintro ⟨more,a,ys2⟩ ⟨⟨a0,a1⟩,J1,n1,n2⟩
 dsimp only at a0 a1 J1 n1 n2
 show Ok (nN c d more a ys2) _
 unfold nN
 rw [J1.p.len]
 refine od (fun ha=>?_) fun ha=>os ⟨rfl,os ⟨J1,?_⟩⟩
 ·refine ol (fun z:Bool×Int×List Int=>(0≤z.2.1∧z.2.1≤c.aG.length)∧FJ c d xs xD z.2.2∧sU z.2.2≤sU Ot∧(z.1=true→sU z.2.2 < sU Ot)) (fun z=>(c.aG.length - z.2.1).toNat) ⟨⟨by show (0:Int)≤0; omega,by show (0:Int)≤_; omega⟩,J1,n1,n2⟩ ?_
  rintro ⟨more,b,FQ⟩ ⟨⟨b0,b1⟩,J2,m1,m2⟩
  dsimp only at b0 b1 J2 m1 m2
  show Ok (nM c d a more b FQ) _
  unfold nM
  rw [J2.p.len]
  have hw:=w1 a0 ha (by omega)
  refine od (fun hb=>?_) fun hb=>os ⟨rfl,os ⟨⟨⟨?_,?_⟩,J2,m1,m2⟩,?_⟩⟩
  ·have hwb:=w1 b0 hb (by omega)
   have hl:=J2.p.len
   refine oe (T.mi a0 ha) (oe (T.lz a0 ha b0 hb) ?_)
   have ht:=T.Cg a0 ha b0 hb
   refine oe (x:=(decide (gk c.aF a b < 0) || (decide (gi FQ a < 0) || decide (gi FQ b < 0)))) ?_ (oc (fun eg=>os ⟨⟨⟨?_,?_⟩,J2,m1,m2⟩,?_⟩) fun eg=>?_)
   ·rw [cM a0 (by omega),aH,cM b0 (by omega),aH,jv,wJ,jv,wJ]
   ·dsimp only; omega
   ·dsimp only; omega
   ·dsimp only; omega
   simp only [Bool.or_eq_false_iff,decide_eq_false_iff_not] at eg
   obtain ⟨g1,g2,g3⟩:=eg
   obtain ⟨s1,s2,s3,s4,s5⟩:=J2.step T U a0 ha b0 hb (by omega) (by omega) (by omega)
   refine oe (cM a0 (by omega)) (oe (U.mi (by omega) s2) (oe (cM b0 (by omega)) (oe (U.lz (by omega) s2 (by omega) s3) ?_)))
   refine oe (x:=(decide (gi FQ (gk c.aF a b) ≥ 0) && (gi FQ (gk c.aF a b) != gk d.aF (gi FQ a) (gi FQ b)))) ?_ (oc (fun eg=>os ?_) fun eg=>?_)
   ·rw [cM (by omega) (by omega),aH,aH,jv,rV]
   ·simp only [Bool.and_eq_true,decide_eq_true_eq,bne_iff_ne] at eg
    exact ⟨fun h=>(by cases h),fun _=>s5 eg.1 eg.2⟩
   ·obtain ⟨q1,q2,q3⟩:=s4 (fun h=>by
     rw [decide_eq_true (by omega),Bool.true_and] at eg
     simpa using eg)
    refine oe (x:=(more || decide (gi FQ (gk c.aF a b) < 0))) ?_ (oe (cM (by omega) (by omega)) (os ⟨⟨⟨?_,?_⟩,q1,by dsimp only; omega,fun h=>?_⟩,?_⟩))
    ·rw [cM (by omega) (by omega),aH,jv,wJ]
    ·dsimp only; omega
    ·dsimp only; omega
    ·dsimp only at h ⊢
     rw [Bool.or_eq_true,decide_eq_true_eq] at h
     rcases h with h | h
     ·have:=m2 h; omega
     ·have:=q3 h; omega
    ·dsimp only; omega
  all_goals dsimp only
  all_goals rw [hw]
  all_goals omega
 ·dsimp only
  cases more with
  | true=>have:=n2 rfl; simp; omega
  | false=>simp; omega
end
structure FT (c d:aI) (O A:List Int):Prop where
 ol:(O.length:Int)=c.aE
 oo:∀ y∈O,0≤y∧y < d.aE
 ar:∀ a:Int,0≤a→a < c.aG.length→(0≤gi A a∧gi A a < d.aG.length)∧gi d.aG (gi A a)=gi O (gi c.aG a)∧gi d.To (gi A a)=gi O (gi c.To a)
 un:∀ x:Int,0≤x→x < c.aE→gi A (gi c.aJ x)=gi d.aJ (gi O x)
 co:LP c d A
def Full (c d:aI) (xs q:List Int):Prop:=PA c d xs q∧∀ a:Int,0≤a→a < c.aG.length→0≤gi q a
section
variable {c d:aI} {xs:List Int} (T:Ty c) (U:Ty d) (cm:c.aG.length≤1000) (dm:d.aG.length≤1000) (hob:(xs.length:Int)=c.aE) (MO:∀ y∈xs,0≤y∧y < d.aE)
include T U cm dm hob MO
theorem QP (n:Nat):∀ {ys:List Int} {f:Int} {found:List (List Int)} (_:PA c d xs ys) (_:0≤f) (_:f≤c.aG.length) (_:∀ a:Int,0≤a→a < f→0≤gi ys a) (_:sU ys < n) (_:found.length≤200) (_:∀ q∈found,Full c d xs q),
  Ok (iE n c d xs ys f found) fun y=>found.length≤y.length∧y.length≤201∧(∀ q∈y,Full c d xs q)∧∀ A,FT c d xs A→Ar c ys A→0 < y.length:=by
 induction n with
 | zero=>intro ys f found _ _ _ _ h; omega
 | succ n ih=>
  intro ys f found P f0 f1 Iz hng Js eh
  show Ok (kT (iE n) c d xs ys f found) _
  unfold kT
  have hl:=P.len
  refine j7 (ol (fun z:Int=>(0≤z∧z≤c.aG.length)∧∀ a:Int,0≤a→a < z→0≤gi ys a) (fun z=>(c.aG.length - z).toNat) ⟨⟨f0,f1⟩,Iz⟩ ?_)
  rintro f ⟨⟨f0,f1⟩,Iz⟩
  unfold pY
  rw [hl]
  refine ob (P:=fun g=>(g=true→f < c.aG.length∧0≤gi ys f)∧(g=false→f < c.aG.length→gi ys f < 0)) (od (fun h=>oe (cM f0 (by omega)) (os ⟨fun h2=>⟨h,of_decide_eq_true h2⟩,fun h2 _=>by have:=of_decide_eq_false h2; omega⟩)) fun h=>os ⟨fun h2=>(by cases h2),fun _ h2=>absurd h2 h⟩) fun g hg=>oc (fun eg=>os ⟨⟨⟨?_,?_⟩,fun a a0 a1=>?_⟩,?_⟩) fun eg=>os ⟨rfl,?_⟩
  ·have:=hg.1 eg; rw [w1 f0 this.1 (by omega)]; omega
  ·have:=hg.1 eg; rw [w1 f0 this.1 (by omega)]; omega
  ·have:=hg.1 eg
   rw [w1 f0 this.1 (by omega)] at a1
   by_cases e:a=f
   ·rw [e]; exact this.2
   ·exact Iz a a0 (by omega)
  ·have:=hg.1 eg; rw [w1 f0 this.1 (by omega)]; dsimp only; omega
  have C8:=hg.2 eg
  refine oc (fun e=>?_) fun e=>?_
  ·have e:f=c.aG.length:=by simpa using e
   refine oe (gv ys (by omega)) (fh (by omega) (by omega) (os ⟨?_,?_,gy eh ⟨P,fun a a0 a1=>Iz a a0 (by omega)⟩,fun A _ _=>?_⟩))
   all_goals simp only [List.length_append,List.length_singleton]
   all_goals omega
  ·have e : ¬ f=c.aG.length:=by simpa using e
   have hf:f < c.aG.length:=by omega
   have C8:=C8 hf
   have kf:=T.fr f0 hf
   have kt:=T.to f0 hf
   refine oe (T.ju f0 hf) (oe (cM kf.1 (by omega)) (oe (T.j6 f0 hf) (oe (cM kt.1 (by omega)) (ob (LM U.tl (by omega) _ _) fun r5 hh=>?_))))
   refine ol (fun z:List (List Int)×Int=>(0≤z.2∧z.2≤r5.length)∧(found.length≤z.1.length∧z.1.length≤201)∧(∀ q∈z.1,Full c d xs q)∧∀ A,FT c d xs A→Ar c ys A→0 < z.1.length∨∀ j:Int,0≤j→j < z.2→gi r5 j≠gi A f) (fun z=>(r5.length - z.2).toNat) ⟨⟨by show (0:Int)≤0; omega,by show (0:Int)≤_; omega⟩,⟨Nat.le_refl _,by dsimp only; omega⟩,eh,fun A _ _=>.inr fun j j0 j1=>by dsimp only at j1; omega⟩ ?_
   rintro ⟨fd,i⟩ ⟨⟨i0,i1⟩,⟨h1,h2⟩,h3,h4⟩
   dsimp only at i0 i1 h1 h2 h3 h4
   show Ok (mQ (iE n) c d xs ys f r5 fd i) _
   unfold mQ
   refine ob (P:=fun g=>(g=true→i < r5.length∧fd.length≤200)∧(g=false→r5.length≤i∨200 < fd.length)) (od (fun h=>os ⟨fun h2=>⟨h,by have:=of_decide_eq_true h2; omega⟩,fun h2=>.inr (by have:=of_decide_eq_false h2; omega)⟩) fun h=>os ⟨fun h2=>(by cases h2),fun _=>.inl (by omega)⟩) fun g hg=>oc (fun eg=>?_) fun eg=>os ⟨rfl,os ⟨h1,h2,h3,fun A hA hE=>?_⟩⟩
   ·obtain ⟨hi,R9⟩:=hg.1 eg
    have hw:=w1 i0 hi (by omega)
    have hv:=(hh.2 _).1 (dx i0 hi)
    have P2:PA c d xs (ys.set f.toNat (gi r5 i)):=P.set f0 hf fun _=>⟨hv.1.2,hv.2.1,hv.2.2⟩
    refine oe (gv ys (by omega)) (oe (cM i0 hi) (oe (cM f0 (by omega)) (ob (Tl T U cm P2) fun y hy=>?_)))
    have Zv:∀ A,Ar c ys A→gi r5 i=gi A f→Ar c (ys.set f.toNat (gi r5 i)) A:=fun A hE e2 x x0 x1 hx=>by
     rw [rm f0 (by omega) x0] at hx ⊢
     by_cases ex:x=f
     ·rw [if_pos ex,ex]; exact e2
     ·rw [if_neg ex] at hx ⊢; exact hE x x0 x1 hx
    refine oc (fun ey=>?_) fun ey=>os ⟨⟨⟨?_,?_⟩,⟨h1,h2⟩,h3,fun A hA hE=>?_⟩,?_⟩
    ·have J:=hy.1 ey
     have RC:0≤gi y.2 f:=by
      have h0:gi (ys.set f.toNat (gi r5 i)) f=gi r5 i:=by rw [rm f0 (by omega) f0,if_pos rfl]
      rw [J.mono f f0 (by rw [h0]; exact hv.1.1),h0]; exact hv.1.1
     have Jy:=(JT (r:=ys) (d:=f.toNat) hv.1.1).2 (by omega) (by rw [show ((f.toNat:Nat):Int)=f by omega]; exact C8)
     have hn3:=J.ng
     have hwf:=w1 f0 hf (by omega)
     rw [hwf]
     refine ob (ih J.p (by omega) (by omega) (fun a a0 a1=>?_) (by omega) R9 h3) fun z hz=>os ⟨⟨⟨?_,?_⟩,⟨?_,hz.2.1⟩,hz.2.2.1,fun A hA hE=>?_⟩,?_⟩
     ·by_cases ea:a=f
      ·rw [ea]; exact RC
      ·have:=Iz a a0 (by omega)
       have hs:gi (ys.set f.toNat (gi r5 i)) a=gi ys a:=by rw [rm f0 (by omega) a0,if_neg ea]
       rw [J.mono a a0 (by rw [hs]; exact this),hs]; exact this
     ·dsimp only; rw [hw]; omega
     ·dsimp only; rw [hw]; omega
     ·dsimp only; have:=hz.1; omega
     ·dsimp only
      by_cases e2:gi r5 i=gi A f
      ·exact .inl (hz.2.2.2 A hA (J.ext A hA.co (Zv A hE e2)))
      ·rcases h4 A hA hE with h | h
       ·exact .inl (by have:=hz.1; omega)
       ·refine .inr fun j j0 j1=>?_
        rw [hw] at j1
        by_cases ej:j=i
        ·rw [ej]; exact e2
        ·exact h j j0 (by omega)
     ·dsimp only; rw [hw]; omega
    ·dsimp only; rw [hw]; omega
    ·dsimp only; rw [hw]; omega
    ·dsimp only
     rcases h4 A hA hE with h | h
     ·exact .inl h
     ·refine .inr fun j j0 j1=>?_
      rw [hw] at j1
      by_cases ej:j=i
      ·rw [ej]
       exact fun e2=>hy.2 ey A hA.co (Zv A hE e2)
      ·exact h j j0 (by omega)
    ·dsimp only; rw [hw]; omega
   ·try dsimp only
    rcases hg.2 eg with h | h
    ·rcases h4 A hA hE with h5 | h5
     ·exact h5
     ·exfalso
      have ka:=hA.ar f f0 hf
      obtain ⟨j,j0,j1,ej⟩:=xA ((hh.2 (gi A f)).2 ⟨ka.1,ka.2.1,ka.2.2⟩)
      exact h5 j j0 (by omega) ej
    ·omega
end
end Go.Proofs.YtkcpiblgpnjanaaGreat
namespace Go.Proofs.YtkcpiblgpnjanaaGreat
open Go Go.Li
set_option linter.unusedVariables false
set_option linter.unusedSectionVars false
structure BU (xs O:List Int):Prop where
 l:xs.length≤O.length
 g:∀ x:Int,0≤x→x < xs.length→gi O x=gi xs x
theorem BU.app {xs O:List Int} (h:BU xs O) (hl:xs.length < O.length):BU (xs++[gi O xs.length]) O:=by
 refine ⟨by simp only [List.length_append,List.length_singleton]; omega,fun x x0 x1=>?_⟩
 simp only [List.length_append,List.length_singleton] at x1
 rw [kq x0]
 by_cases e:x < xs.length
 ·rw [if_pos e]; exact h.g x x0 e
 ·rw [if_neg e,if_pos (by omega),show x=(xs.length:Int) by omega]
theorem BU.all {xs O:List Int} (h:BU xs O) (e:O.length=xs.length):O=xs:=Ee e h.g
structure T7 (c:aI):Prop where
 t:Ty c
 m:c.aG.length≤63
 o:c.aE≤63
 s:fu c
structure FF (c d:aI) (f:aN):Prop where
 s:f.aA=c
 t:f.aC=d
 ol:(f.aE.length:Int)=c.aE
 oo:∀ y∈f.aE,0≤y∧y < d.aE
 ar:Full c d f.aE f.ae
theorem FT.full {c d:aI} {O A:List Int} (h:FT c d O A) (e:A.length=c.aG.length):Full c d O A:=⟨⟨e,fun a a0 a1 _=>⟨(h.ar a a0 a1).1.2,(h.ar a a0 a1).2⟩⟩,fun a a0 a1=>(h.ar a a0 a1).1.1⟩
theorem W7 (r:List Int):sU r≤r.length:=List.length_filter_le _ _
section
variable {c d:aI} (T:T7 c) (U:T7 d)
include T U
theorem FF.small {f:aN} (F:FF c d f):ie f:=⟨F.s ▸ T.s,F.t ▸ U.s,by have:=F.ol; have:=T.o; omega,by have:=F.ar.1.len; have:=T.m; omega⟩
theorem Tn (xs:List Int):Ok (nA c d xs) fun b=>∀ O A,FT c d O A→BU xs O→b=true:=by
 have cm:=T.m
 have dm:=U.m
 unfold nA
 refine j7 (ol (fun z:Int=>0≤z∧z≤c.aG.length) (fun z=>(c.aG.length - z).toNat) ⟨by omega,by omega⟩ ?_)
 rintro i ⟨i0,i1⟩
 unfold qB
 refine od (fun hi=>?_) fun hi=>os ⟨rfl,os fun _ _ _ _=>rfl⟩
 have hw:=w1 i0 hi (by omega)
 have kf:=T.t.fr i0 hi
 have kt:=T.t.to i0 hi
 have nx:∀ {E:Int→Prop} {G:Bool→Prop},Ok (some (Out.norm (ak (i+1)):Out Int Bool)) (JM 0 (fun z:Int=>0≤z∧z≤c.aG.length) (fun z=>(c.aG.length - z).toNat) (c.aG.length - i).toNat E G):=by
  intro E G
  refine os ⟨⟨?_,?_⟩,?_⟩
  all_goals (try dsimp only)
  all_goals rw [hw]
  all_goals omega
 refine oe (T.t.ju i0 hi) (oe (T.t.j6 i0 hi) (od (fun hx=>od (fun hy=>oe (cM kf.1 hx) (oe (cM kt.1 hy) (ob (LM U.t.tl (by omega) _ _) fun r5 hh=>oc (fun e=>os ?_) fun e=>nx))) fun _=>nx) fun _=>nx))
 intro O A hA hp
 exfalso
 have e:r5.length=0:=by
  have:=of_decide_eq_true e
  omega
 have ka:=hA.ar i i0 hi
 have:=(hh.2 (gi A i)).2 ⟨ka.1,by rw [ka.2.1,hp.g _ kf.1 hx],by rw [ka.2.2,hp.g _ kt.1 hy]⟩
 rw [List.length_eq_zero_iff.1 e] at this
 exact nomatch this
theorem QQ (n:Nat):∀ {xs:List Int} {found:List aN} (_:(xs.length:Int)≤c.aE) (_:∀ y∈xs,0≤y∧y < d.aE) (_:c.aE - xs.length < n) (_:found.length≤200) (_:∀ q∈found,FF c d q),
  Ok (iF n c d xs found) fun y=>(found.length≤y.length∧y.length≤201)∧(∀ q∈y,FF c d q)∧∀ O A,FT c d O A→BU xs O→0 < y.length:=by
 have cm:=T.m
 have dm:=U.m
 have co:=T.o
 have d8:=U.o
 induction n with
 | zero=>intro xs found h1 _ h2; omega
 | succ n ih=>
  intro xs found hl ho hn Js eh
  show Ok (kU (iF n) c d xs found) _
  unfold kU
  refine j7 (ob (Tn T U xs) fun b hb=>oc (fun e=>os ⟨⟨Nat.le_refl _,by omega⟩,eh,fun O A hA hp=>?_⟩) fun e=>oc (fun e2=>?_) fun e2=>?_)
  ·rw [hb O A hA hp] at e; cases e
  ·have e2:(xs.length:Int)=c.aE:=by simpa using e2
   refine ol (fun z:List Int×Int=>(0≤z.2∧z.2≤c.aG.length)∧(z.1.length:Int)=z.2∧∀ v∈z.1,v = -1) (fun z=>(c.aG.length - z.2).toNat) ⟨⟨by show (0:Int)≤0; omega,by show (0:Int)≤_; omega⟩,rfl,gn⟩ ?_
   rintro ⟨l,i⟩ ⟨⟨i0,i1⟩,xT,hv⟩
   dsimp only at i0 i1 xT hv
   show Ok (mR c l i) _
   unfold mR
   refine od (fun hi=>fh (by omega) (by omega) (os ⟨⟨⟨?_,?_⟩,?_,gy hv rfl⟩,?_⟩)) fun hi=>os ⟨rfl,?_⟩
   ·dsimp only; rw [w1 i0 hi (by omega)]; omega
   ·dsimp only; rw [w1 i0 hi (by omega)]; omega
   ·dsimp only; rw [w1 i0 hi (by omega),List.length_append,List.length_singleton]; omega
   ·dsimp only; rw [w1 i0 hi (by omega)]; omega
   have P0:PA c d xs l:=⟨by omega,fun a a0 a1 h=>by rw [hv _ (dx a0 (by omega))] at h; omega⟩
   refine ol (fun z:Int×List Int=>(0≤z.1∧z.1≤xs.length)∧PA c d xs z.2∧∀ A,FT c d xs A→Ar c z.2 A) (fun z=>(xs.length - z.1).toNat) ⟨⟨by show (0:Int)≤0; omega,by show (0:Int)≤_; omega⟩,P0,fun A hA a a0 a1 h=>by dsimp only at h; rw [hv _ (dx a0 (by omega))] at h; omega⟩ ?_
   rintro ⟨j,ys⟩ ⟨⟨j0,j1⟩,P,hE⟩
   dsimp only at j0 j1 P hE
   have W8:=P.len
   show Ok (mS c d xs j ys) _
   unfold mS
   refine od (fun hj=>?_) fun hj=>os ⟨rfl,?_⟩
   ·have kx:=ho _ (dx j0 hj)
    have ki:=T.t.id j0 (by omega)
    have ku:=U.t.id kx.1 kx.2
    refine oe (T.t.rj j0 (by omega)) (oe (cM j0 hj) (oe (U.t.rj kx.1 kx.2) (oe (cM ki.1 (by omega)) (os ⟨⟨⟨?_,?_⟩,P.set ki.1 ki.2 fun _=>⟨ku.2,?_,?_⟩,fun A hA a a0 a1 h=>?_⟩,?_⟩))))
    ·dsimp only; rw [w1 j0 hj (by omega)]; omega
    ·dsimp only; rw [w1 j0 hj (by omega)]; omega
    ·rw [U.t.wk _ kx.1 kx.2,T.t.wk _ j0 (by omega)]
    ·rw [U.t.yc _ kx.1 kx.2,T.t.yc _ j0 (by omega)]
    ·dsimp only at h ⊢
     rw [rm ki.1 (by omega) a0] at h ⊢
     by_cases ea:a=gi c.aJ j
     ·rw [if_pos ea,ea,hA.un j j0 (by omega)]
     ·rw [if_neg ea] at h ⊢
      exact hE A hA a a0 a1 h
    ·dsimp only; rw [w1 j0 hj (by omega)]; omega
   ·refine ob (QP T.t U.t (by omega) (by omega) e2 ho 64 P (by omega) (by omega) (fun a a0 a1=>by omega) (by have:=W7 ys; omega) (by simp) gn) fun y hy=>?_
    have RF:=hy.2.1
    refine ol (fun z:List aN×Int=>(0≤z.2∧z.2≤y.length)∧(found.length≤z.1.length∧z.1.length≤201)∧(∀ q∈z.1,FF c d q)∧(0 < z.2→0 < z.1.length)) (fun z=>(y.length - z.2).toNat) ⟨⟨by show (0:Int)≤0; omega,by show (0:Int)≤_; omega⟩,⟨Nat.le_refl _,by dsimp only; omega⟩,eh,fun h=>by dsimp only at h; omega⟩ ?_
    rintro ⟨fd,k⟩ ⟨⟨k0,k1⟩,⟨h1,h2⟩,h3,h4⟩
    dsimp only at k0 k1 h1 h2 h3 h4
    show Ok (mT c d xs y fd k) _
    unfold mT
    refine ob (P:=fun g=>(g=true→k < y.length∧fd.length≤200)∧(g=false→y.length≤k∨200 < fd.length)) (od (fun h=>os ⟨fun h2=>⟨h,by have:=of_decide_eq_true h2; omega⟩,fun h2=>.inr (by have:=of_decide_eq_false h2; omega)⟩) fun h=>os ⟨fun h2=>(by cases h2),fun _=>.inl (by omega)⟩) fun g hg=>oc (fun eg=>?_) fun eg=>os ⟨rfl,os ⟨⟨h1,h2⟩,h3,fun O A hA hp=>?_⟩⟩
    ·obtain ⟨hk,R9⟩:=hg.1 eg
     refine oi k0 hk fun q hq=>oe (Aq T.s U.s (by omega) (by have:=(hy.2.2.1 q hq).1.len; omega)) (fh (by omega) (by omega) (os ⟨⟨⟨?_,?_⟩,⟨?_,?_⟩,gy h3 ⟨rfl,rfl,e2,ho,hy.2.2.1 q hq⟩,fun _=>?_⟩,?_⟩))
     all_goals (try dsimp only)
     all_goals (try rw [w1 k0 hk (by omega)])
     all_goals (try simp only [List.length_append,List.length_singleton])
     all_goals omega
    ·have eO:O=xs:=hp.all (by have:=hA.ol; omega)
     rw [eO] at hA
     have h5:=hy.2.2.2 A hA (hE A hA)
     show 0 < fd.length
     rcases hg.2 eg with h | h
     ·exact h4 (by omega)
     ·omega
  ·have e2 : ¬ (xs.length:Int)=c.aE:=by simpa using e2
   have d0:=U.t.o0
   refine ol (fun z:List aN×Int=>(0≤z.2∧z.2≤d.aE)∧(found.length≤z.1.length∧z.1.length≤201)∧(∀ q∈z.1,FF c d q)∧∀ O A,FT c d O A→BU xs O→0 < z.1.length∨∀ j:Int,0≤j→j < z.2→gi O xs.length≠j) (fun z=>(d.aE - z.2).toNat) ⟨⟨by show (0:Int)≤0; omega,by show (0:Int)≤_; omega⟩,⟨Nat.le_refl _,by dsimp only; omega⟩,eh,fun O A _ _=>.inr fun j j0 j1=>by dsimp only at j1; omega⟩ ?_
   rintro ⟨fd,k⟩ ⟨⟨k0,k1⟩,⟨h1,h2⟩,h3,h4⟩
   dsimp only at k0 k1 h1 h2 h3 h4
   show Ok (mU (iF n) c d xs fd k) _
   unfold mU
   refine ob (P:=fun g=>(g=true→k < d.aE∧fd.length≤200)∧(g=false→d.aE≤k∨200 < fd.length)) (od (fun h=>os ⟨fun h2=>⟨h,by have:=of_decide_eq_true h2; omega⟩,fun h2=>.inr (by have:=of_decide_eq_false h2; omega)⟩) fun h=>os ⟨fun h2=>(by cases h2),fun _=>.inl (by omega)⟩) fun g hg=>oc (fun eg=>?_) fun eg=>os ⟨rfl,os ⟨⟨h1,h2⟩,h3,fun O A hA hp=>?_⟩⟩
   ·obtain ⟨hk,R9⟩:=hg.1 eg
    have hw:=w1 k0 hk (by omega)
    refine oe (gv xs (by omega)) (fh (by omega) (by omega) (ob (ih (xs:=xs++[k]) (found:=fd) (by rw [List.length_append,List.length_singleton]; omega) (gy ho ⟨k0,hk⟩) (by rw [List.length_append,List.length_singleton]; omega) R9 h3) fun z hz=>os ⟨⟨⟨?_,?_⟩,⟨?_,hz.1.2⟩,hz.2.1,fun O A hA hp=>?_⟩,?_⟩))
    ·dsimp only; rw [hw]; omega
    ·dsimp only; rw [hw]; omega
    ·dsimp only; have:=hz.1.1; omega
    ·dsimp only
     by_cases e3:gi O xs.length=k
     ·refine .inl (hz.2.2 O A hA ?_)
      have:=hp.app (by have:=hA.ol; omega)
      rwa [e3] at this
     ·rcases h4 O A hA hp with h | h
      ·exact .inl (by have:=hz.1.1; omega)
      ·refine .inr fun j j0 j1=>?_
       rw [hw] at j1
       by_cases ej:j=k
       ·rw [ej]; exact e3
       ·exact h j j0 (by omega)
    ·dsimp only; rw [hw]; omega
   ·show 0 < fd.length
    rcases hg.2 eg with h | h
    ·rcases h4 O A hA hp with h5 | h5
     ·exact h5
     ·exfalso
      have kb:=hA.oo _ (dx (l:=O) (j:=xs.length) (by omega) (by have:=hA.ol; omega))
      exact h5 _ kb.1 (by omega) rfl
    ·omega
theorem Gg:Ok (kF c d) fun y=>y.length≤201∧(∀ q∈y,FF c d q)∧∀ O A,FT c d O A→0 < y.length:=by
 unfold kF
 have o0:=T.t.o0
 have co:=T.o
 refine j7 (ob (QQ T U 64 (xs:=[]) (found:=[]) (by simpa using o0) gn (by simp; omega) (by simp) gn) fun y hy=>os ⟨hy.1.2,hy.2.1,fun O A hA=>hy.2.2 O A hA ⟨by simp,fun x x0 x1=>by simp at x1; omega⟩⟩)
omit U in
theorem QR:Ok (mI c) fun _=>True:=by
 have cm:=T.m
 unfold mI
 refine j7 (ol (fun z:List Int×Int=>(0≤z.2∧z.2≤c.aG.length)∧(z.1.length:Int)≤z.2) (fun z=>(c.aG.length - z.2).toNat) ⟨⟨by show (0:Int)≤0; omega,by show (0:Int)≤_; omega⟩,by show (0:Int)≤0; omega⟩ ?_)
 rintro ⟨l,i⟩ ⟨⟨i0,i1⟩,hl⟩
 dsimp only at i0 i1 hl
 show Ok (mP c l i) _
 unfold mP
 refine od (fun hi=>?_) fun hi=>os ⟨rfl,os trivial⟩
 have kf:=T.t.fr i0 hi
 have u:Ok (oB c i) fun _=>True:=by
  unfold oB
  exact j7 (oe (T.t.ju i0 hi) (oe (T.t.rj kf.1 kf.2) (os trivial)))
 refine ob u fun b _=>oc (fun _=>fh (by omega) (by omega) (os ⟨⟨⟨?_,?_⟩,?_⟩,?_⟩)) fun _=>os ⟨⟨⟨?_,?_⟩,?_⟩,?_⟩
 all_goals (try dsimp only)
 all_goals rw [w1 i0 hi (by omega)]
 all_goals (try simp only [List.length_append,List.length_singleton])
 all_goals omega
theorem ES:Ok (iS c d) fun _=>True:=by
 unfold iS
 exact j7 (ob (QR T) fun y _=>od (fun _=>os trivial) fun _=>os trivial)
theorem Ej {v:Int} (v0:0≤v) (v1:v < d.aE):Ok (jJ c d v) fun f=>FF c d f∧FT c d f.aE f.ae:=by
 unfold jJ
 have c0:=T.t.o0
 have cm:=T.m
 have co:=T.o
 have ki:=U.t.id v0 v1
 refine j7 (ol (fun z:List Int×Int=>(0≤z.2∧z.2≤c.aE)∧(z.1.length:Int)=z.2∧∀ y∈z.1,y=v) (fun z=>(c.aE - z.2).toNat) ⟨⟨by show (0:Int)≤0; omega,by show (0:Int)≤_; omega⟩,rfl,gn⟩ ?_)
 rintro ⟨l,i⟩ ⟨⟨i0,i1⟩,hl,hv⟩
 dsimp only at i0 i1 hl hv
 show Ok (lJ c v l i) _
 unfold lJ
 refine od (fun hi=>fh (by omega) (by omega) (os ⟨⟨⟨?_,?_⟩,?_,gy hv rfl⟩,?_⟩)) fun hi=>os ⟨rfl,?_⟩
 ·dsimp only; rw [w1 i0 hi (by omega)]; omega
 ·dsimp only; rw [w1 i0 hi (by omega)]; omega
 ·dsimp only; rw [w1 i0 hi (by omega),List.length_append,List.length_singleton]; omega
 ·dsimp only; rw [w1 i0 hi (by omega)]; omega
 refine ol (fun z:List Int×Int=>(0≤z.2∧z.2≤c.aG.length)∧(z.1.length:Int)=z.2∧∀ y∈z.1,y=gi d.aJ v) (fun z=>(c.aG.length - z.2).toNat) ⟨⟨by show (0:Int)≤0; omega,by show (0:Int)≤_; omega⟩,rfl,gn⟩ ?_
 rintro ⟨m,j⟩ ⟨⟨j0,j1⟩,hm,AN⟩
 dsimp only at j0 j1 hm AN
 show Ok (lK c d v m j) _
 unfold lK
 refine od (fun hj=>oe (U.t.rj v0 v1) (fh (by omega) (by omega) (os ⟨⟨⟨?_,?_⟩,?_,gy AN rfl⟩,?_⟩))) fun hj=>os ⟨rfl,oe (Aq T.s U.s (by omega) (by omega)) (os ?_)⟩
 ·dsimp only; rw [w1 j0 hj (by omega)]; omega
 ·dsimp only; rw [w1 j0 hj (by omega)]; omega
 ·dsimp only; rw [w1 j0 hj (by omega),List.length_append,List.length_singleton]; omega
 ·dsimp only; rw [w1 j0 hj (by omega)]; omega
 have lo:∀ x:Int,0≤x→x < c.aE→gi l x=v:=fun x x0 x1=>hv _ (dx x0 (by omega))
 have la:∀ a:Int,0≤a→a < c.aG.length→gi m a=gi d.aJ v:=fun x x0 x1=>AN _ (dx x0 (by omega))
 have oo:∀ y∈l,0≤y∧y < d.aE:=fun y hy=>by rw [hv y hy]; exact ⟨v0,v1⟩
 have H:FT c d l m:=by
  refine ⟨by omega,oo,fun a a0 a1=>?_,fun x x0 x1=>?_,fun a b a0 a1 b0 b1 e=>?_⟩
  ·rw [la a a0 a1]
   exact ⟨ki,by rw [U.t.wk _ v0 v1,lo _ (T.t.fr a0 a1).1 (T.t.fr a0 a1).2],by rw [U.t.yc _ v0 v1,lo _ (T.t.to a0 a1).1 (T.t.to a0 a1).2]⟩
  ·rw [la _ (T.t.id x0 x1).1 (T.t.id x0 x1).2,lo x x0 x1]
  ·have k:=T.t.cell a b a0 a1 b0 b1 e
   rw [la _ k.1.1 k.1.2,la a a0 a1,la b b0 b1]
   exact (U.t.uu v v0 v1).symm
 exact ⟨⟨rfl,rfl,H.ol,oo,H.full (by omega)⟩,H⟩
omit U in
theorem Ek:Ok (jK c) fun f=>FF c c f∧FT c c f.aE f.ae:=by
 unfold jK
 have c0:=T.t.o0
 have cm:=T.m
 have co:=T.o
 refine j7 (ol (fun z:List Int×Int=>(0≤z.2∧z.2≤c.aE)∧(z.1.length:Int)=z.2∧∀ j:Int,0≤j→j < z.2→gi z.1 j=j) (fun z=>(c.aE - z.2).toNat) ⟨⟨by show (0:Int)≤0; omega,by show (0:Int)≤_; omega⟩,rfl,fun j j0 j1=>by dsimp only at j1; omega⟩ ?_)
 rintro ⟨l,i⟩ ⟨⟨i0,i1⟩,hl,hv⟩
 dsimp only at i0 i1 hl hv
 show Ok (oC c l i) _
 unfold oC
 refine od (fun hi=>fh (by omega) (by omega) (os ⟨⟨⟨?_,?_⟩,?_,fun j j0 j1=>?_⟩,?_⟩)) fun hi=>os ⟨rfl,?_⟩
 ·dsimp only; rw [w1 i0 hi (by omega)]; omega
 ·dsimp only; rw [w1 i0 hi (by omega)]; omega
 ·dsimp only; rw [w1 i0 hi (by omega),List.length_append,List.length_singleton]; omega
 ·dsimp only at j1 ⊢
  rw [w1 i0 hi (by omega)] at j1
  rw [kq j0]
  by_cases e:j < l.length
  ·rw [if_pos e]; exact hv j j0 (by omega)
  ·rw [if_neg e,if_pos (by omega)]; omega
 ·dsimp only; rw [w1 i0 hi (by omega)]; omega
 refine ol (fun z:List Int×Int=>(0≤z.2∧z.2≤c.aG.length)∧(z.1.length:Int)=z.2∧∀ j:Int,0≤j→j < z.2→gi z.1 j=j) (fun z=>(c.aG.length - z.2).toNat) ⟨⟨by show (0:Int)≤0; omega,by show (0:Int)≤_; omega⟩,rfl,fun j j0 j1=>by dsimp only at j1; omega⟩ ?_
 rintro ⟨m,j⟩ ⟨⟨j0,j1⟩,hm,AN⟩
 dsimp only at j0 j1 hm AN
 show Ok (oD c m j) _
 unfold oD
 refine od (fun hj=>fh (by omega) (by omega) (os ⟨⟨⟨?_,?_⟩,?_,fun q q0 q1=>?_⟩,?_⟩)) fun hj=>os ⟨rfl,oe (Aq T.s T.s (by omega) (by omega)) (os ?_)⟩
 ·dsimp only; rw [w1 j0 hj (by omega)]; omega
 ·dsimp only; rw [w1 j0 hj (by omega)]; omega
 ·dsimp only; rw [w1 j0 hj (by omega),List.length_append,List.length_singleton]; omega
 ·dsimp only at q1 ⊢
  rw [w1 j0 hj (by omega)] at q1
  rw [kq q0]
  by_cases e:q < m.length
  ·rw [if_pos e]; exact AN q q0 (by omega)
  ·rw [if_neg e,if_pos (by omega)]; omega
 ·dsimp only; rw [w1 j0 hj (by omega)]; omega
 have lo:∀ x:Int,0≤x→x < c.aE→gi l x=x:=fun x x0 x1=>hv _ x0 (by omega)
 have la:∀ a:Int,0≤a→a < c.aG.length→gi m a=a:=fun x x0 x1=>AN _ x0 (by omega)
 have oo:∀ y∈l,0≤y∧y < c.aE:=fun y hy=>by
  obtain ⟨i,i0,i1,rfl⟩:=xA hy
  rw [lo i i0 (by omega)]; omega
 have H:FT c c l m:=by
  refine ⟨by omega,oo,fun a a0 a1=>?_,fun x x0 x1=>?_,fun a b a0 a1 b0 b1 e=>?_⟩
  ·rw [la a a0 a1]
   exact ⟨⟨a0,a1⟩,by rw [lo _ (T.t.fr a0 a1).1 (T.t.fr a0 a1).2],by rw [lo _ (T.t.to a0 a1).1 (T.t.to a0 a1).2]⟩
  ·rw [la _ (T.t.id x0 x1).1 (T.t.id x0 x1).2,lo x x0 x1]
  ·have k:=T.t.cell a b a0 a1 b0 b1 e
   rw [la _ k.1.1 k.1.2,la a a0 a1,la b b0 b1]
 exact ⟨⟨rfl,rfl,H.ol,oo,H.full (by omega)⟩,H⟩
end
def N7 (c d:aI):Prop:=∀ l,iS c d=some true→kF c d=some l→0 < l.length
theorem Ck {c d:aI} {O A:List Int} (T:T7 c) (U:T7 d) (h:FT c d O A):N7 c d:=by
 intro l _ e
 obtain ⟨l',e',h'⟩:=Gg T U
 rw [e] at e'
 cases e'
 exact h'.2.2 O A h
theorem JU {y:aI} {o m:Int} (h:jw 8 800 y∧Ty y∧((y.aE≤o∧(y.aG.length:Int)≤m)∨jw 1 4 y)) (ho:o≤63) (hm:m≤63):T7 y:=by
 refine ⟨h.2.1,?_,?_,h.1.small (by omega) (by omega)⟩
 ·rcases h.2.2 with h | h
  ·omega
  ·have:=h.m; omega
 ·rcases h.2.2 with h | h
  ·omega
  ·have:=h.o; omega
section
variable {x:List Int} (B:BK x) {s:aL} (S:Src x s)
include B S
theorem Ya {c:aI} (T:T7 c) {o m:Int} (ho:o≤63) (hm:m≤63):Ok (oE s c o m) fun y=>(∃ d,T7 d∧FF c d y.1∧N7 c d)∧Src x y.2:=by
 unfold oE
 refine j7 (ob (Oj B S o m) fun y hy=>?_)
 have U:T7 y.1:=JU hy.1 ho hm
 have S1:=S.on (h:=y.2.av) hy.2
 obtain ⟨b,eb,_⟩:=ES T U
 refine oe eb (oc (fun hb=>?_) fun _=>?_)
 ·obtain ⟨l,el,hl⟩:=Gg T U
  refine oe el (od (fun h0=>ob (dt B S1 _) fun z hz=>oi hz.1.1 (hz.1.2 (by omega)) fun f hf=>os ⟨⟨y.1,U,hl.2.1 f hf,fun l' _ e'=>by rw [el] at e'; cases e'; omega⟩,S.on hz.2⟩) fun _=>?_)
  exact od (fun ho=>ob (dt B S1 _) fun z hz=>oc (fun _=>ob (dt B (S.on hz.2) _) fun w hw=>ob (Ej T U hw.1.1 (hw.1.2 (by omega))) fun f hf=>os ⟨⟨y.1,U,hf.1,Ck T U hf.2⟩,S.on hw.2⟩) fun _=>ob (Ek T) fun f hf=>os ⟨⟨c,T,hf.1,Ck T T hf.2⟩,S.on hz.2⟩) fun _=>ob (Ek T) fun f hf=>os ⟨⟨c,T,hf.1,Ck T T hf.2⟩,S1⟩
 ·exact od (fun ho=>ob (dt B S1 _) fun z hz=>oc (fun _=>ob (dt B (S.on hz.2) _) fun w hw=>ob (Ej T U hw.1.1 (hw.1.2 (by omega))) fun f hf=>os ⟨⟨y.1,U,hf.1,Ck T U hf.2⟩,S.on hw.2⟩) fun _=>ob (Ek T) fun f hf=>os ⟨⟨c,T,hf.1,Ck T T hf.2⟩,S.on hz.2⟩) fun _=>ob (Ek T) fun f hf=>os ⟨⟨c,T,hf.1,Ck T T hf.2⟩,S1⟩
theorem JV:Ok (lX s) fun y=>ie y.1∧Src x y.2:=by
 unfold lX
 refine j7 (ob (Oj B S 4 10) fun y hy=>?_)
 have T:T7 y.1:=JU hy.1 (by omega) (by omega)
 refine ob (Ya B (S.on hy.2) T (by omega) (by omega)) fun z hz=>?_
 obtain ⟨⟨d,U,F,_⟩,S2⟩:=hz
 have fs:ie z.1:=F.small T U
 have fk:=F.ol
 have co:=T.o
 refine ob (dt B (S.on S2) _) fun w hw=>oc (fun _=>?_) fun _=>oc (fun _=>?_) fun _=>oc (fun _=>?_) fun _=>os ⟨fs,S.on hw.2⟩
 ·exact ob (Wu B (S.on hw.2) (c:=z.1.aA) (by rw [F.s]; exact hy.1.1)) fun u hu=>os ⟨⟨hu.1,fs.t,fs.o,fs.a⟩,S.on hu.2⟩
 ·refine od (fun h=>ob (dt B (S.on hw.2) _) fun u hu=>ob (dt B (S.on hu.2) _) fun v hv=>oe (cM hu.1.1 (hu.1.2 (by omega))) (os ⟨⟨fs.s,fs.t,fs.o,?_⟩,S.on hv.2⟩)) fun _=>os ⟨fs,S.on hw.2⟩
  show (List.set _ _ _).length≤_
  rw [List.length_set]; exact fs.a
 ·refine fh (by omega) (by omega) (os ⟨⟨fs.s,fs.t,?_,fs.a⟩,S.on hw.2⟩)
  show (z.1.aE++[(0:Int)]).length≤_
  rw [List.length_append,List.length_singleton]; omega
end
end Go.Proofs.YtkcpiblgpnjanaaGreat
namespace Go.Proofs.YtkcpiblgpnjanaaGreat
open Go Go.Li
set_option linter.unusedVariables false
set_option linter.unusedSectionVars false
theorem Yb {n:Int} (n0:0≤n) (n1:n≤63) {rs:List (List Int)} (hr:∀ r∈rs,r.length=2∧∀ y∈r,0≤y∧y < n) (hl:rs.length≤1000):Ok (oO n rs) fun q=>(q.length:Int)=n:=by
 unfold oO
 refine j7 (ol (fun z:List Int×Int=>(0≤z.2∧z.2≤n)∧(z.1.length:Int)=z.2) (fun z=>(n - z.2).toNat) ⟨⟨by show (0:Int)≤0; omega,by show (0:Int)≤_; omega⟩,rfl⟩ ?_)
 rintro ⟨l,i⟩ ⟨⟨i0,i1⟩,xT⟩
 dsimp only at i0 i1 xT
 show Ok (oL n l i) _
 unfold oL
 refine od (fun hi=>fh (by omega) (by omega) (os ⟨⟨⟨?_,?_⟩,?_⟩,?_⟩)) fun hi=>os ⟨rfl,?_⟩
 ·dsimp only; rw [w1 i0 hi (by omega)]; omega
 ·dsimp only; rw [w1 i0 hi (by omega)]; omega
 ·dsimp only; rw [w1 i0 hi (by omega),List.length_append,List.length_singleton]; omega
 ·dsimp only; rw [w1 i0 hi (by omega)]; omega
 refine ol (fun z:Int×List Int=>(0≤z.1∧z.1≤rs.length)∧(z.2.length:Int)=n) (fun z=>(rs.length - z.1).toNat) ⟨⟨by show (0:Int)≤0; omega,by show (0:Int)≤_; omega⟩,by dsimp only; omega⟩ ?_
 rintro ⟨j,ys⟩ ⟨⟨j0,j1⟩,hy⟩
 dsimp only at j0 j1 hy
 show Ok (oN rs j ys) _
 unfold oN
 refine od (fun hj=>?_) fun hj=>os ⟨rfl,ob (Lt (by omega)) fun q hq=>os (by show (q.length:Int)=n; have:=hq.1; omega)⟩
 have hw:=w1 j0 hj (by omega)
 have Zw:=hr _ (qj j0 hj)
 have k0:=Zw.2 _ (dx (l:=gr rs j) (j:=0) (by omega) (by omega))
 have k1:=Zw.2 _ (dx (l:=gr rs j) (j:=1) (by omega) (by omega))
 refine oe (rf j0 hj) (oe (cM (by omega) (by omega)) (oe (cM k0.1 (by omega)) (oe (rf j0 hj) (oe (cM (by omega) (by omega)) (oe (cM k1.1 (by omega)) ?_)))))
 refine ol (fun z:Int×List Int=>(0≤z.1∧z.1≤z.2.length)∧(z.2.length:Int)=n) (fun z=>(z.2.length - z.1).toNat) ⟨⟨by show (0:Int)≤0; omega,by show (0:Int)≤_; omega⟩,hy⟩ ?_
 rintro ⟨k,zs⟩ ⟨⟨a0,a1⟩,hz⟩
 dsimp only at a0 a1 hz
 show Ok (oM _ _ k zs) _
 unfold oM
 refine ob (P:=fun g=>g=true→k < zs.length) (od (fun h=>os fun _=>h) fun _=>os fun h=>by cases h) fun g hg=>oc (fun eg=>?_) fun eg=>os ⟨rfl,os ⟨⟨⟨?_,?_⟩,hz⟩,?_⟩⟩
 ·have hk:=hg eg
  refine oe (cM a0 hk) (oc (fun _=>oe (cM a0 hk) (os ⟨⟨⟨?_,?_⟩,?_⟩,?_⟩)) fun _=>os ⟨⟨⟨?_,?_⟩,?_⟩,?_⟩)
  all_goals (try dsimp only)
  all_goals (try simp only [List.length_set])
  all_goals (try rw [w1 a0 hk (by omega)])
  all_goals omega
 all_goals (try dsimp only)
 all_goals rw [hw]
 all_goals omega
structure PP (c d:aI) (xs:List Int):Prop where
 len:(xs.length:Int)=c.aE
 ok:∀ y∈xs,y < d.aG.length
def JW (r:List Int):Nat:=(r.filter fun v=>v == -1).length
theorem Ou (r:List Int):JW r≤r.length:=List.length_filter_le _ _
theorem Tp {r:List Int} {d:Nat} {v:Int} (hv:0≤v) (hl:d < r.length) (hg:gi r d = -1):JW (r.set d v) < JW r:=by
 unfold JW
 induction r generalizing d with
 | nil=>simp at hl
 | cons a r ih=>
  cases d with
  | zero=>
   have h:a = -1:=hg
   rw [List.set_cons_zero,List.filter_cons,if_neg (by simp; omega),List.filter_cons,if_pos (by simpa using h)]
   simp
  | succ d=>
   rw [List.set_cons_succ,List.filter_cons,List.filter_cons]
   have hg:gi r d = -1:=by
    have e:gi (a :: r) ((d+1:Nat):Int)=gi r (d:Int):=rfl
    rwa [e] at hg
   have:=ih (d:=d) (by simp at hl; omega) hg
   split <;> (try simp only [List.length_cons]) <;> omega
structure GS (c:aI) (f g:aN) (m:Int) (s:dH):Prop where
 f1:s.F=f
 g1:s.G=g
 i1:s.xU=false
 m1:s.u5=m
 n1:(s.Found.length:Int)≤m
 q1:∀ q∈s.Found,(q.length:Int)=c.aE
section
variable {c d:aI} {f g:aN} (T:T7 c) (U:T7 d) (F:FF c d f) (G:FF c d g)
include T U F G
theorem QS {p:List Int} (hp:(p.length:Int)=c.aE) {a:Int} (a0:0≤a) (a1:a < c.aG.length) (h1:0≤gi p (gi c.aG a)∧gi p (gi c.aG a) < d.aG.length) (h2:0≤gi p (gi c.To a)∧gi p (gi c.To a) < d.aG.length):Ok (fU f g p a) fun _=>True:=by
 unfold fU
 rw [F.s,F.t]
 have fl:=F.ar.1.len
 have gl:=G.ar.1.len
 have kf:=T.t.fr a0 a1
 have kt:=T.t.to a0 a1
 have f0:=F.ar.2 a a0 a1
 have f1:=(F.ar.1.ok a a0 a1 f0).1
 have g0:=G.ar.2 a a0 a1
 have g1:=(G.ar.1.ok a a0 a1 g0).1
 exact j7 (oe (cM a0 (by omega)) (oe (U.t.mi f0 f1) (oe (T.t.j6 a0 a1) (oe (cM kt.1 (by omega)) (oe (U.t.lz f0 f1 h2.1 h2.2) (oe (T.t.ju a0 a1) (oe (cM kf.1 (by omega)) (oe (U.t.mi h1.1 h1.2) (oe (cM a0 (by omega)) (oe (U.t.lz h1.1 h1.2 g0 g1) (os trivial)))))))))))
theorem FR {m:Int} {fd:List (List Int)} {xs:List Int} (P:PP c d xs) {x:Int} (x0:0≤x) (x1:x < c.aE):Ok (jY (dH.mk f g false m fd) xs x) fun y=>y.length≤d.aG.length∧∀ v∈y,0≤v∧v < d.aG.length:=by
 have cm:=T.m
 have dm:=U.m
 have fo:=F.ol
 have go:=G.ol
 have pl:=P.len
 have co:=T.o
 unfold jY
 dsimp only
 rw [F.t]
 refine j7 (oe (cM x0 (by omega)) (oe (cM x0 (by omega)) (ob (LM U.t.tl (by omega) _ _) fun r5 hh=>?_)))
 have Rv:=hh.1
 refine ol (fun z:List Int×Int=>(0≤z.2∧z.2≤r5.length)∧(z.1.length:Int)≤z.2∧∀ v∈z.1,0≤v∧v < d.aG.length) (fun z=>(r5.length - z.2).toNat) ⟨⟨by show (0:Int)≤0; omega,by show (0:Int)≤_; omega⟩,by show (0:Int)≤0; omega,gn⟩ ?_
 rintro ⟨l,i⟩ ⟨⟨i0,i1⟩,hl,hv⟩
 dsimp only at i0 i1 hl hv
 show Ok (mB (dH.mk f g false m fd) xs x r5 l i) _
 unfold mB
 dsimp only
 refine od (fun hi=>?_) fun hi=>os ⟨rfl,os ⟨by show l.length≤_; omega,hv⟩⟩
 refine ob (P:=fun g=>g=false) (oc (fun h=>by cases h) fun _=>os rfl) fun g2 gp=>oc (fun e=>by rw [gp] at e; cases e) fun _=>?_
 refine oe (gv xs (by omega)) (oe (cM i0 hi) (oe (cM x0 (by omega)) ?_))
 have kv:=(hh.2 _).1 (dx i0 hi)
 have l6:((xs.set x.toNat (gi r5 i)).length:Int)=c.aE:=by rw [List.length_set]; exact pl
 have GB:∀ y∈xs.set x.toNat (gi r5 i),y < d.aG.length:=vc P.ok kv.1.2
 refine ol (fun z:Bool×Int=>0≤z.2∧z.2≤c.aG.length) (fun z=>(c.aG.length - z.2).toNat) ⟨by show (0:Int)≤0; omega,by show (0:Int)≤_; omega⟩ ?_
 rintro ⟨b,j⟩ ⟨j0,j1⟩
 dsimp only at j0 j1
 show Ok (mA (dH.mk f g false m fd) x xs (gi r5 i) b j) _
 unfold mA
 dsimp only
 generalize xs.set x.toNat (gi r5 i)=p at l6 GB
 have fal:=F.ar.1.len
 refine ob (P:=fun g=>g=true→j < c.aG.length) (oc (fun _=>os fun h=>by have:=of_decide_eq_true h; omega) fun _=>os fun h=>(by cases h)) fun g3 GX=>oc (fun eg=>?_) fun eg=>os ⟨rfl,?_⟩
 ·have hj:=GX eg
  have kf:=T.t.fr j0 hj
  have kt:=T.t.to j0 hj
  rw [F.s]
  have tail:Ok (idx p (gi c.aG j)>>=fun e=>bif decide (e < (0:Int)) then (some (true)) else ((idx p (gi c.To j))>>=fun e=>(bif decide (e < (0:Int)) then (some (true)) else ((fU f g p j)>>=fun y=>(some (y)))))) fun _=>True:=
   oe (cM kf.1 (by omega)) (od (fun _=>os trivial) fun n1=>oe (cM kt.1 (by omega)) (od (fun _=>os trivial) fun n2=>ob (QS T U F G l6 j0 hj ⟨by omega,GB _ (dx kf.1 (by omega))⟩ ⟨by omega,GB _ (dx kt.1 (by omega))⟩) fun _ _=>os trivial))
  refine oe (T.t.ju j0 hj) (oe (T.t.j6 j0 hj) (og (oc (fun _=>oc (fun _=>os trivial) fun _=>tail) fun _=>tail) fun g4=>os ⟨⟨?_,?_⟩,?_⟩))
  all_goals (try dsimp only)
  all_goals rw [w1 j0 hj (by omega)]
  all_goals omega
 ·refine oc (fun _=>oe (cM i0 hi) (fh (by omega) (by omega) (os ⟨⟨⟨?_,?_⟩,?_,gy hv kv.1⟩,?_⟩))) fun _=>os ⟨⟨⟨?_,?_⟩,?_,hv⟩,?_⟩
  all_goals (try dsimp only)
  all_goals rw [w1 i0 hi (by omega)]
  all_goals (try simp only [List.length_append,List.length_singleton])
  all_goals omega
theorem W9 {m:Int} (hm:m≤100) (n:Nat):∀ {fd:List (List Int)} {xs:List Int} (_:PP c d xs) (_:JW xs < n) (_:(fd.length:Int) < m) (_:∀ q∈fd,(q.length:Int)=c.aE),Ok (iW n (dH.mk f g false m fd) xs) (GS c f g m):=by
 have co:=T.o
 have dm:=U.m
 induction n with
 | zero=>intro fd xs _ h; omega
 | succ n ih=>
  intro fd xs P hn hf hq
  have S0:GS c f g m (dH.mk f g false m fd):=⟨rfl,rfl,rfl,rfl,by show (fd.length:Int)≤m; omega,hq⟩
  show Ok (oP (iW n) (dH.mk f g false m fd) xs) _
  unfold oP
  have W8:=P.len
  have Za:ak ((xs.length:Int) - 1)=xs.length - 1:=eL (by omega) (by omega)
  rw [Za]
  refine off (ol (fun z:Int×Int=>(-1≤z.2∧z.2 < xs.length)∧(-1≤z.1∧z.1 < xs.length)∧(0≤z.1→gi xs z.1 = -1)) (fun z=>(z.2+1).toNat) ⟨⟨by dsimp only; omega,by dsimp only; omega⟩,⟨by dsimp only; omega,by dsimp only; omega⟩,fun h=>by dsimp only at h; omega⟩ ?_)
  rintro ⟨r,i⟩ ⟨⟨i0,i1⟩,⟨r0,r1⟩,hr⟩
  dsimp only at i0 i1 r0 r1 hr
  show Ok (pV (dH.mk f g false m fd) xs r i) _
  unfold pV
  refine od (fun hi=>?_) fun hi=>os ⟨rfl,?_⟩
  ·have Zx:ak (i - 1)=i - 1:=eL (by omega) (by omega)
   refine oe (cM (by omega) i1) (oc (fun e=>?_) fun e=>os ⟨⟨⟨?_,?_⟩,⟨?_,?_⟩,?_⟩,?_⟩)
   ·have e:gi xs i = -1:=by simpa using e
    refine ob (FR T U F G P (by omega) (by omega)) fun y hy=>oc (fun _=>os S0) fun _=>os ⟨⟨⟨?_,?_⟩,⟨?_,?_⟩,fun _=>e⟩,?_⟩
    all_goals (try dsimp only)
    all_goals (try rw [Zx])
    all_goals omega
   all_goals (try dsimp only)
   all_goals (try rw [Zx])
   all_goals first | omega | exact hr
  ·refine od (fun US=>oe (gv xs (by omega)) (fh (by show (fd.length+1) * 24≤_; omega) (by show fd.length+1≤_; omega) (os ⟨rfl,rfl,rfl,rfl,?_,gy hq W8⟩))) fun US=>ob (FR T U F G P (by omega) (by omega)) fun y hy=>?_
   ·show ((fd++[xs]).length:Int)≤m
    rw [List.length_append,List.length_singleton]; omega
   have hyl:=hy.1
   refine ol (fun z:Int×Int×Int×Int×Int×Bool×Int×List (List Int)=>(0≤z.1∧z.1≤y.length)∧z.2.1=f.aA.aE∧z.2.2.1=f.aC.aE∧z.2.2.2.1=g.aA.aE∧z.2.2.2.2.1=g.aC.aE∧z.2.2.2.2.2.1=false∧z.2.2.2.2.2.2.1=m∧(z.2.2.2.2.2.2.2.length:Int)≤m∧∀ q∈z.2.2.2.2.2.2.2,(q.length:Int)=c.aE) (fun z=>(y.length - z.1).toNat) ⟨⟨by show (0:Int)≤0; omega,by show (0:Int)≤_; omega⟩,rfl,rfl,rfl,rfl,rfl,rfl,by dsimp only; omega,hq⟩ ?_
   rintro ⟨i,a,b,c1,c2,is,mo,fe⟩ ⟨⟨i0,i1⟩,ha,hb,hc,hd,Zy,Nd,Js,Xa⟩
   dsimp only at i0 i1 ha hb hc hd Zy Nd Js Xa
   subst ha hb hc hd Zy Nd
   show Ok (pW (iW n) (dH.mk f g false mo fd) xs r y i f.aA.aE f.aC.aE g.aA.aE g.aC.aE false mo fe) _
   unfold pW
   refine ob (P:=fun g=>g=true→i < y.length∧(fe.length:Int) < mo) (od (fun h=>os fun h2=>⟨h,of_decide_eq_true h2⟩) fun _=>os fun h=>(by cases h)) fun g3 GX=>oc (fun eg=>?_) fun eg=>os ⟨rfl,os ⟨rfl,rfl,rfl,rfl,Js,Xa⟩⟩
   obtain ⟨hi,AP⟩:=GX eg
   have kv:=hy.2 _ (dx i0 hi)
   refine oe (gv xs (by omega)) (oe (cM i0 hi) (oe (cM (by omega) r1) ?_))
   have P2:PP c d (xs.set r.toNat (gi y i)):=⟨by rw [List.length_set]; exact W8,vc P.ok kv.2⟩
   have hc:JW (xs.set r.toNat (gi y i)) < n:=by
    have:=Tp (r:=xs) (d:=r.toNat) kv.1 (by omega) (by rw [show ((r.toNat:Nat):Int)=r by omega]; exact hr (by omega))
    omega
   show Ok (iW n (dH.mk f g false mo fe) (xs.set r.toNat (gi y i))>>=_) _
   refine ob (ih P2 hc AP Xa) fun z hz=>os ⟨⟨⟨?_,?_⟩,?_,?_,?_,?_,hz.i1,hz.m1,hz.n1,hz.q1⟩,?_⟩
   ·dsimp only; rw [w1 i0 hi (by omega)]; omega
   ·dsimp only; rw [w1 i0 hi (by omega)]; omega
   ·dsimp only; rw [hz.f1]
   ·dsimp only; rw [hz.f1]
   ·dsimp only; rw [hz.g1]
   ·dsimp only; rw [hz.g1]
   ·dsimp only; rw [w1 i0 hi (by omega)]; omega
theorem Ov {m:Int} (m1:1≤m) (hm:m≤100):Ok (mX f g m) fun y=>(y.length:Int)≤m∧∀ q∈y,(q.length:Int)=c.aE:=by
 have cm:=T.m
 have co:=T.o
 have c0:=T.t.o0
 have dm:=U.m
 unfold mX
 suffices h:Ok (oT f g false m) fun y=>(y.length:Int)≤m∧∀ q∈y,(q.length:Int)=c.aE from j7 (ob h fun y hy=>os hy)
 unfold oT
 refine j7 (ol (fun z:List (List Int)×Int=>(0≤z.2∧z.2≤c.aG.length)∧(z.1.length:Int)=z.2∧∀ r∈z.1,r.length=2∧∀ y∈r,0≤y∧y < c.aE) (fun z=>(c.aG.length - z.2).toNat) ⟨⟨by show (0:Int)≤0; omega,by show (0:Int)≤_; omega⟩,rfl,gn⟩ ?_)
 rintro ⟨l,i⟩ ⟨⟨i0,i1⟩,hl,hv⟩
 dsimp only at i0 i1 hl hv
 show Ok (oQ f l i) _
 unfold oQ
 rw [F.s]
 refine od (fun hi=>?_) fun hi=>os ⟨rfl,?_⟩
 ·have kf:=T.t.fr i0 hi
  have kt:=T.t.to i0 hi
  refine oe (T.t.ju i0 hi) (oe (T.t.j6 i0 hi) (fh (by omega) (by omega) (os ⟨⟨⟨?_,?_⟩,?_,gy hv ⟨rfl,fun y hy=>?_⟩⟩,?_⟩)))
  ·dsimp only; rw [w1 i0 hi (by omega)]; omega
  ·dsimp only; rw [w1 i0 hi (by omega)]; omega
  ·dsimp only; rw [w1 i0 hi (by omega),List.length_append,List.length_singleton]; omega
  ·rcases List.mem_cons.1 hy with rfl | hy
   ·exact kf
   ·rw [List.mem_singleton.1 hy]; exact kt
  ·dsimp only; rw [w1 i0 hi (by omega)]; omega
 refine ob (Yb c0 co hv (by omega)) fun q hq=>?_
 refine ol (fun z:List Int×Int=>(0≤z.2∧z.2≤q.length)∧(z.1.length:Int)=z.2∧∀ v∈z.1,v < 0) (fun z=>(q.length - z.2).toNat) ⟨⟨by show (0:Int)≤0; omega,by show (0:Int)≤_; omega⟩,rfl,gn⟩ ?_
 rintro ⟨l1,k⟩ ⟨⟨k0,k1⟩,hl1,Fe⟩
 dsimp only at k0 k1 hl1 Fe
 show Ok (oS f g false q l1 k) _
 unfold oS
 refine od (fun hk=>fh (by omega) (by omega) ?_) fun hk=>os ⟨rfl,ob (W9 T U F G hm 64 ⟨by omega,fun y hy=>by have:=Fe y hy; omega⟩ (by have:=Ou l1; omega) (by simp; omega) gn) fun y hy=>os ⟨hy.n1,hy.q1⟩⟩
 refine ol (fun z:List Int×Int=>(0≤z.2∧z.2≤q.length)∧(z.1.length:Int)=z.2∧∀ v∈z.1,v < 0) (fun z=>(q.length - z.2).toNat) ⟨⟨by show (0:Int)≤0; omega,by show (0:Int)≤_; omega⟩,rfl,gn⟩ ?_
 rintro ⟨l2,e⟩ ⟨⟨e0,e1⟩,qd,AN⟩
 dsimp only at e0 e1 qd AN
 show Ok (oR q k l2 e) _
 unfold oR
 refine od (fun he=>oe (cM e0 he) (oc (fun _=>fh (by omega) (by omega) (os ⟨⟨⟨?_,?_⟩,?_,gy AN (by omega)⟩,?_⟩)) fun _=>fh (by omega) (by omega) (os ⟨⟨⟨?_,?_⟩,?_,gy AN (by omega)⟩,?_⟩))) fun he=>os ⟨rfl,ob (W9 T U F G (m:=1) (by omega) 64 ⟨by omega,fun y hy=>by have:=AN y hy; omega⟩ (by have:=Ou l2; omega) (by simp) gn) fun y hy=>oc (fun _=>os ⟨by show ((0:Nat):Int)≤m; omega,gn⟩) fun _=>os ⟨⟨⟨?_,?_⟩,?_,gy Fe (by omega)⟩,?_⟩⟩
 all_goals (try dsimp only)
 all_goals first | rw [w1 e0 he (by omega)] | rw [w1 k0 hk (by omega)]
 all_goals (try simp only [List.length_append,List.length_singleton])
 all_goals omega
end
theorem tb {c:aI} (C:rW c):T7 c:=by
 have m:=C.m
 have o8:=C.o8
 have kr:∀ r∈c.aF,r.length=c.aG.length:=fun r hr=>by
  obtain ⟨i,i0,i1,rfl⟩:=Wy hr
  exact C.row i i0 (by rw [← C.kl]; exact i1)
 refine ⟨⟨C.o0,C.f,C.tl,C.t,C.kl,kr,C.il,C.i,C.wk,C.yc,fun f g f0 f1 g0 g1 e=>?_,C.none,fun x x0 x1=>?_⟩,by omega,by omega,⟨by omega,by rw [C.tl]; omega,by have:=C.il; omega,by rw [C.kl]; omega,fun r hr=>by rw [kr r hr]; omega⟩⟩
 ·have k:=C.cell f g f0 f1 g0 g1 e
  exact ⟨⟨k.1,k.2.1⟩,k.2.2⟩
 ·have k:=C.id x0 x1
  have h:=C.Ge _ k.1 k.2
  rw [C.wk x x0 x1] at h
  exact h
theorem IB {f:aN} (F:CC f):FF f.aA f.aC f:=⟨rfl,rfl,F.ol,F.oo,⟨F.al,fun a a0 a1 _=>⟨(F.ar a0 a1).2,F.fr a a0 a1,F.to a a0 a1⟩⟩,fun a a0 a1=>(F.ar a0 a1).1⟩
theorem Ow {f:aN} (F:CC f):FT f.aA f.aC f.aE f.ae:=⟨F.ol,F.oo,fun a a0 a1=>⟨F.ar a0 a1,F.fr a a0 a1,F.to a a0 a1⟩,F.un,F.co⟩
theorem Sa {c d:aI} {f:aN} (U:T7 d) (F:FF c d f) (fs:ie f):jP f=some (thenS f.aE f.aC.aJ):=by
 unfold jP
 rw [Om _ _ fs.o (fun x hx=>by have:=F.oo x hx; have:=U.t.il; rw [F.t]; omega)]; rfl
section
variable {x:List Int} (B:BK x) {s:aL} (S:Src x s)
include B S
theorem Sb (n:Int):Ok (kQ s n) fun y=>Src x y.2:=by
 unfold kQ
 exact j7 (ob (dt B S _) fun y hy=>oc (fun _=>ob (N3 B (S.on hy.2) (by simp)) fun z hz=>os (S.on hz.2)) fun _=>ob (dt B (S.on hy.2) _) fun z hz=>os (S.on hz.2))
theorem Tq:Ok (oJ s) fun y=>(ie y.1∧ie y.2.1)∧Src x y.2.2:=by
 unfold oJ
 refine j7 (ob (JV B S) fun y hy=>ob (dt B (S.on hy.2) _) fun z hz=>oc (fun _=>ob (JV B (S.on hz.2)) fun w hw=>os ⟨⟨hy.1,hw.1⟩,S.on hw.2⟩) fun _=>oc (fun _=>os ⟨⟨hy.1,hy.1⟩,S.on hz.2⟩) fun _=>oc (fun _=>os ⟨⟨hy.1,hy.1⟩,S.on hz.2⟩) fun _=>?_)
 refine ob (P:=fun g=>g=true→j8 y.1=true) (oe (vR hy.1) (oc (fun h=>ob (ES (tb (rq h).c) (tb (rq h).d)) fun b _=>os fun _=>h) fun _=>os fun h=>(by cases h))) fun g hg=>oc (fun e=>?_) fun _=>os ⟨⟨hy.1,hy.1⟩,S.on hz.2⟩
 have F:=rq (hg e)
 refine ob (Gg (tb F.c) (tb F.d)) fun l hl=>ob (dt B (S.on hz.2) _) fun w hw=>oi hw.1.1 (hw.1.2 (by have:=hl.2.2 _ _ (Ow F); omega)) fun f hf=>os ⟨⟨hy.1,(hl.2.1 f hf).small (tb F.c) (tb F.d)⟩,S.on hw.2⟩
theorem ET:Ok (jQ s) fun y=>iw y.1∧Src x y.2:=by
 unfold jQ
 refine j7 (ob (Tq B S) fun y hy=>?_)
 obtain ⟨⟨hf,hg⟩,S1⟩:=hy
 refine ob (P:=fun g=>g=false→j8 y.1=true∧j8 y.2.1=true∧(mx y.1.aA y.2.1.aA && mx y.1.aC y.2.1.aC)=true) ?_ fun g Cy=>oc (fun _=>os ⟨⟨hf,hg,by show (0:Nat)≤_; omega⟩,S.on S1⟩) fun e=>?_
 ·refine oe (vR hf) (oc (fun _=>os fun h=>(by cases h)) fun h1=>oe (vR hg) (oc (fun _=>os fun h=>(by cases h)) fun h2=>oe (BS hf) (os fun h3=>?_)))
  exact ⟨by simpa using h1,by simpa using h2,by simpa using h3⟩
 obtain ⟨h1,h2,h3⟩:=Cy e
 rw [Bool.and_eq_true,rU,rU] at h3
 have F:=rq h1
 have T:=tb F.c
 have U:=tb F.d
 have Ff:=IB F
 have Fg:FF y.1.aA y.1.aC y.2.1:=by
  have:=IB (rq h2)
  rwa [← h3.1,← h3.2] at this
 have co:=T.o
 refine ob (Ov T U Ff Fg (by omega) (by omega)) fun l hl=>od (fun h0=>ob (dt B (S.on S1) _) fun z hz=>oi hz.1.1 (hz.1.2 (by omega)) fun q hq=>ob (dt B (S.on hz.2) _) fun w hw=>?_) fun _=>?_
 ·have ql:=hl.2 q hq
  have small:∀ p:List Int,p.length=q.length→iw (aP.mk y.1 y.2.1 p):=fun p hp=>⟨hf,hg,by show p.length≤_; omega⟩
  exact oc (fun _=>od (fun hq0=>oe (gv q (by omega)) (ob (dt B (S.on hw.2) _) fun u hu=>ob (Sb B (S.on hu.2) _) fun v hv=>oe (cM hu.1.1 (hu.1.2 (by omega))) (os ⟨small _ (by rw [List.length_set]),S.on hv⟩))) fun _=>os ⟨small _ rfl,S.on hw.2⟩) fun _=>os ⟨small _ rfl,S.on hw.2⟩
 ·have sl:(thenS y.1.aE y.1.aC.aJ).length≤1048576:=by rw [sH]; exact hf.o
  refine oe (Sa U Ff hf) (oe (yx hf hf sl) (ob (dt B (S.on S1) _) fun w hw=>?_))
  have small:∀ p:List Int,p.length≤1048576→iw (aP.mk y.1 y.1 p):=fun p hp=>⟨hf,hf,hp⟩
  dsimp only
  exact oc (fun _=>od (fun hq0=>oe (gv _ sl) (ob (dt B (S.on hw.2) _) fun u hu=>ob (Sb B (S.on hu.2) _) fun v hv=>oe (cM hu.1.1 (hu.1.2 (by omega))) (os ⟨small _ (by rw [List.length_set]; exact sl),S.on hv⟩))) fun _=>os ⟨small _ sl,S.on hw.2⟩) fun _=>os ⟨small _ sl,S.on hw.2⟩
end
theorem Src.JX {x:List Int} {t:aL} {h:Int} (T:Src x t):Src x (aL.mk x t.At h):=⟨rfl,T.a0,T.a1⟩
end Go.Proofs.YtkcpiblgpnjanaaGreat
