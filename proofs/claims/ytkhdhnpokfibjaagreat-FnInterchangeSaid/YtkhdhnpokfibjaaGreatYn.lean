/- Functors that are looked for in depth: the reference's search does not fail, and finds one where there is one. No condition beside those that each theorem names. -/
import Derived.Test.YtkhdhnpokfibjaaGreatYi
import Derived.Test.YtkhdhnpokfibjaaGreatYk
set_option linter.unusedVariables false
set_option linter.unusedSimpArgs false
set_option linter.unusedSectionVars false
namespace Go.Proofs.YtkhdhnpokfibjaaGreat
open Go Go.Li
set_option linter.unusedVariables false
def ng7 (r:List Int):Nat:=(r.filter fun v=>decide (v < 0)).length
theorem ng7_set {r:List Int} {d:Nat} {v:Int} (hv:0≤v):ng7 (r.set d v)≤ng7 r∧(d < r.length→gi r d < 0→ng7 (r.set d v) < ng7 r):=by
 unfold ng7
 induction r generalizing d with
 | nil=>exact ⟨by simp,fun h=>by simp at h⟩
 | cons a r ih=>
  cases d with
  | zero=>
   have e0:(List.filter (fun v=>decide (v < 0)) (v :: r))=List.filter (fun v=>decide (v < 0)) r:=by rw [List.filter_cons,if_neg (by simp; omega)]
   rw [List.set_cons_zero,e0,List.filter_cons]
   refine ⟨by split <;> simp,fun _ h=>?_⟩
   have h:a < 0:=h
   rw [if_pos (by simpa using h)]; simp
  | succ d=>
   rw [List.set_cons_succ,List.filter_cons,List.filter_cons]
   obtain ⟨h1,h2⟩:=ih (d:=d)
   refine ⟨by split <;> (try simp only [List.length_cons]) <;> omega,fun hl hg=>?_⟩
   have hg:gi r d < 0:=by
    have e:gi (a :: r) ((d+1:Nat):Int)=gi r (d:Int):=rfl
    rwa [e] at hg
   have:=h2 (by simp at hl; omega) hg
   split <;> (try simp only [List.length_cons]) <;> omega
theorem homOk {c:aI} (hl:c.To.length=c.aG.length) (hm:c.aG.length≤100000) (x y:Int):Ok (lA c x y) fun l=>l.length≤c.aG.length∧∀ f,f∈l↔(0≤f∧f < c.aG.length)∧gi c.aG f=x∧gi c.To f=y:=by
 unfold lA
 refine orr (ol (fun z:List Int×Int=>(0≤z.2∧z.2≤c.aG.length)∧(z.1.length:Int)≤z.2∧∀ f,f∈z.1↔(0≤f∧f < z.2)∧gi c.aG f=x∧gi c.To f=y) (fun z=>(c.aG.length - z.2).toNat) ⟨⟨by show (0:Int)≤0; omega,by show (0:Int)≤_; omega⟩,by show (0:Int)≤0; omega,fun f=>⟨(fun h=>nomatch h),fun h=>by have:=h.1; omega⟩⟩ ?_)
 rintro ⟨l,i⟩ ⟨⟨i0,i1⟩,hl',hm'⟩
 dsimp only at i0 i1 hl' hm'
 show Ok (pB c x y l i) _
 unfold pB
 refine od (fun hi=>?_) fun hi=>os ⟨rfl,os ⟨by omega,fun f=>(hm' f).trans ⟨fun h=>⟨⟨h.1.1,by omega⟩,h.2⟩,fun h=>⟨⟨h.1.1,by omega⟩,h.2⟩⟩⟩⟩
 have hw:=w1 i0 hi (by omega)
 refine oe (x:=(gi c.aG i == x && gi c.To i == y)) (by rw [cU i0 hi,aH,cU i0 (by omega),aH,cond_some,cond_and]) (oc (fun eg=>oft (by omega) (by omega) (os ⟨⟨⟨?_,?_⟩,?_,fun f=>?_⟩,?_⟩)) fun eg=>os ⟨⟨⟨?_,?_⟩,?_,fun f=>?_⟩,?_⟩)
 all_goals try dsimp only
 all_goals rw [hw]
 all_goals first | (simp only [List.length_append,List.length_singleton]; omega) | omega | skip
 ·simp only [Bool.and_eq_true,beq_iff_eq] at eg
  rw [List.mem_append,List.mem_singleton,hm' f]
  constructor
  ·rintro (h | rfl)
   ·exact ⟨⟨h.1.1,by omega⟩,h.2⟩
   ·exact ⟨⟨i0,by omega⟩,eg⟩
  ·rintro ⟨h,h2⟩
   by_cases e:f=i
   ·exact .inr e
   ·exact .inl ⟨⟨h.1,by omega⟩,h2⟩
 ·rw [hm' f]
  constructor
  ·exact fun h=>⟨⟨h.1.1,by omega⟩,h.2⟩
  ·rintro ⟨h,h2⟩
   by_cases e:f=i
   ·subst e
    rw [h2.1,h2.2] at eg
    simp at eg
   ·exact ⟨⟨h.1,by omega⟩,h2⟩
structure PA (c d:aI) (xs ys:List Int):Prop where
 len:ys.length=c.aG.length
 ok:∀ a:Int,0≤a→a < c.aG.length→0≤gi ys a→gi ys a < d.aG.length∧gi d.aG (gi ys a)=gi xs (gi c.aG a)∧gi d.To (gi ys a)=gi xs (gi c.To a)
theorem PA.set {c d:aI} {xs ys:List Int} (P:PA c d xs ys) {a v:Int} (a0:0≤a) (a1:a < c.aG.length) (h:0≤v→v < d.aG.length∧gi d.aG v=gi xs (gi c.aG a)∧gi d.To v=gi xs (gi c.To a)):PA c d xs (ys.set a.toNat v):=by
 have hl:=P.len
 refine ⟨by rw [List.length_set]; exact hl,fun b b0 b1=>?_⟩
 rw [gi_setI a0 (by omega) b0]
 by_cases e:b=a
 ·rw [if_pos e,e]; exact h
 ·rw [if_neg e]; exact P.ok b b0 b1
def Cmp7 (c d:aI) (A:List Int):Prop:=∀ a b:Int,0≤a→a < c.aG.length→0≤b→b < c.aG.length→gi c.To a=gi c.aG b→gi A (gk c.aF a b)=gk d.aF (gi A a) (gi A b)
def Ext7 (c:aI) (ys A:List Int):Prop:=∀ a:Int,0≤a→a < c.aG.length→0≤gi ys a→gi ys a=gi A a
structure FJ (c d:aI) (xs ys0 ys:List Int):Prop where
 p:PA c d xs ys
 mono:∀ a:Int,0≤a→0≤gi ys0 a→gi ys a=gi ys0 a
 ext:∀ A,Cmp7 c d A→Ext7 c ys0 A→Ext7 c ys A
 ng:ng7 ys≤ng7 ys0
section
variable {c d:aI} {xs ys0 ys:List Int} (T:Ty c) (U:Ty d)
include T U
theorem FJ.step (J:FJ c d xs ys0 ys) {a b:Int} (a0:0≤a) (a1:a < c.aG.length) (b0:0≤b) (b1:b < c.aG.length) (hh:0≤gk c.aF a b) (ha:0≤gi ys a) (hb:0≤gi ys b) :
  gk c.aF a b < c.aG.length∧gi ys a < d.aG.length∧gi ys b < d.aG.length∧
  ((0≤gi ys (gk c.aF a b)→gi ys (gk c.aF a b)=gk d.aF (gi ys a) (gi ys b))→FJ c d xs ys0 (ys.set (gk c.aF a b).toNat (gk d.aF (gi ys a) (gi ys b)))∧ng7 (ys.set (gk c.aF a b).toNat (gk d.aF (gi ys a) (gi ys b)))≤ng7 ys∧(gi ys (gk c.aF a b) < 0→ng7 (ys.set (gk c.aF a b).toNat (gk d.aF (gi ys a) (gi ys b))) < ng7 ys))∧
  (0≤gi ys (gk c.aF a b)→gi ys (gk c.aF a b)≠gk d.aF (gi ys a) (gi ys b)→∀ A,Cmp7 c d A→¬ Ext7 c ys0 A):=by
 have e:gi c.To a=gi c.aG b:=Classical.byContradiction fun ne=>by
  have:=T.none a b a0 a1 b0 b1 ne
  omega
 have k:=T.cell a b a0 a1 b0 b1 e
 have pa:=J.p.ok a a0 a1 ha
 have pb:=J.p.ok b b0 b1 hb
 have m:=U.cell _ _ ha pa.1 hb pb.1 (by rw [pa.2.2,pb.2.1,e])
 have hl:=J.p.len
 refine ⟨k.1.2,pa.1,pb.1,fun hc=>?_,fun h0 hne A hA hE=>hne ?_⟩
 ·have hn:=ng7_set (r:=ys) (d:=(gk c.aF a b).toNat) m.1.1
  refine ⟨⟨J.p.set hh k.1.2 fun _=>⟨m.1.2,by rw [m.2.1,pa.2.1,k.2.1],by rw [m.2.2,pb.2.2,k.2.2]⟩,fun x x0 hx=>?_,fun A hA hE=>?_,by have:=J.ng; omega⟩,hn.1,fun hneg=>hn.2 (by omega) (by rw [show (((gk c.aF a b).toNat:Nat):Int)=gk c.aF a b by omega]; exact hneg)⟩
  ·have hm:=J.mono x x0 hx
   rw [gi_setI hh (by omega) x0]
   by_cases ex:x=gk c.aF a b
   ·rw [if_pos ex]
    rw [← ex] at hc
    rw [← hc (by omega),hm]
   ·rw [if_neg ex]; exact hm
  ·have hE':=J.ext A hA hE
   intro x x0 x1 hx
   rw [gi_setI hh (by omega) x0] at hx ⊢
   by_cases ex:x=gk c.aF a b
   ·rw [if_pos ex,ex,hA a b a0 a1 b0 b1 e,← hE' a a0 a1 ha,← hE' b b0 b1 hb]
   ·rw [if_neg ex] at hx ⊢
    exact hE' x x0 x1 hx
 ·have hE':=J.ext A hA hE
  rw [hE' _ hh k.1.2 h0,hA a b a0 a1 b0 b1 e,← hE' a a0 a1 ha,← hE' b b0 b1 hb]
theorem forceOk (cm:c.aG.length≤1000) (P:PA c d xs ys0):Ok (mX c d ys0) fun y=>(y.1=true→FJ c d xs ys0 y.2)∧(y.1=false→∀ A,Cmp7 c d A→¬ Ext7 c ys0 A):=by
 unfold mX
 refine orr (ol (fun z:Bool×List Int=>FJ c d xs ys0 z.2) (fun z=>(if z.1 then 1 else 0)+ng7 z.2) ⟨P,fun _ _ _=>rfl,fun _ _ h=>h,Nat.le_refl _⟩ ?_)
 rintro ⟨more,ys1⟩ J0
 dsimp only at J0
 show Ok (nK c d more ys1) _
 unfold nK
 refine oc (fun hmore=>?_) fun hmore=>os ⟨rfl,os ⟨fun _=>J0,fun h=>by cases h⟩⟩
 subst hmore
 refine ol (fun z:Bool×Int×List Int=>(0≤z.2.1∧z.2.1≤c.aG.length)∧FJ c d xs ys0 z.2.2∧ng7 z.2.2≤ng7 ys1∧(z.1=true→ng7 z.2.2 < ng7 ys1)) (fun z=>(c.aG.length - z.2.1).toNat) ⟨⟨by show (0:Int)≤0; omega,by show (0:Int)≤_; omega⟩,J0,Nat.le_refl _,fun h=>by cases h⟩ ?_
 rintro ⟨more,a,ys2⟩ ⟨⟨a0,a1⟩,J1,n1,n2⟩
 dsimp only at a0 a1 J1 n1 n2
 show Ok (nJ c d more a ys2) _
 unfold nJ
 rw [J1.p.len]
 refine od (fun ha=>?_) fun ha=>os ⟨rfl,os ⟨J1,?_⟩⟩
 ·refine ol (fun z:Bool×Int×List Int=>(0≤z.2.1∧z.2.1≤c.aG.length)∧FJ c d xs ys0 z.2.2∧ng7 z.2.2≤ng7 ys1∧(z.1=true→ng7 z.2.2 < ng7 ys1)) (fun z=>(c.aG.length - z.2.1).toNat) ⟨⟨by show (0:Int)≤0; omega,by show (0:Int)≤_; omega⟩,J1,n1,n2⟩ ?_
  rintro ⟨more,b,ys3⟩ ⟨⟨b0,b1⟩,J2,m1,m2⟩
  dsimp only at b0 b1 J2 m1 m2
  show Ok (nI c d a more b ys3) _
  unfold nI
  rw [J2.p.len]
  have hw:=w1 a0 ha (by omega)
  refine od (fun hb=>?_) fun hb=>os ⟨rfl,os ⟨⟨⟨?_,?_⟩,J2,m1,m2⟩,?_⟩⟩
  ·have hwb:=w1 b0 hb (by omega)
   have hl:=J2.p.len
   refine oe (T.idxK a0 ha) (oe (T.idxC a0 ha b0 hb) ?_)
   have ht:=T.comp_lt a0 ha b0 hb
   refine oe (x:=(decide (gk c.aF a b < 0) || (decide (gi ys3 a < 0) || decide (gi ys3 b < 0)))) ?_ (oc (fun eg=>os ⟨⟨⟨?_,?_⟩,J2,m1,m2⟩,?_⟩) fun eg=>?_)
   ·rw [cU a0 (by omega),aH,cU b0 (by omega),aH,cond_some,cond_or,cond_some,cond_or]
   ·dsimp only; omega
   ·dsimp only; omega
   ·dsimp only; omega
   simp only [Bool.or_eq_false_iff,decide_eq_false_iff_not] at eg
   obtain ⟨g1,g2,g3⟩:=eg
   obtain ⟨s1,s2,s3,s4,s5⟩:=J2.step T U a0 ha b0 hb (by omega) (by omega) (by omega)
   refine oe (cU a0 (by omega)) (oe (U.idxK (by omega) s2) (oe (cU b0 (by omega)) (oe (U.idxC (by omega) s2 (by omega) s3) ?_)))
   refine oe (x:=(decide (gi ys3 (gk c.aF a b) ≥ 0) && (gi ys3 (gk c.aF a b) != gk d.aF (gi ys3 a) (gi ys3 b)))) ?_ (oc (fun eg=>os ?_) fun eg=>?_)
   ·rw [cU (by omega) (by omega),aH,aH,cond_some,cond_and]
   ·simp only [Bool.and_eq_true,decide_eq_true_eq,bne_iff_ne] at eg
    exact ⟨fun h=>(by cases h),fun _=>s5 eg.1 eg.2⟩
   ·obtain ⟨q1,q2,q3⟩:=s4 (fun h=>by
     rw [decide_eq_true (by omega),Bool.true_and] at eg
     simpa using eg)
    refine oe (x:=(more || decide (gi ys3 (gk c.aF a b) < 0))) ?_ (oe (cU (by omega) (by omega)) (os ⟨⟨⟨?_,?_⟩,q1,by dsimp only; omega,fun h=>?_⟩,?_⟩))
    ·rw [cU (by omega) (by omega),aH,cond_some,cond_or]
    ·dsimp only; omega
    ·dsimp only; omega
    ·dsimp only at h ⊢
     rw [Bool.or_eq_true,decide_eq_true_eq] at h
     rcases h with h | h
     ·have:=m2 h; omega
     ·have:=q3 h; omega
    ·dsimp only; omega
  all_goals dsimp only
  all_goals rw [hw]
  all_goals omega
 ·dsimp only
  cases more with
  | true=>have:=n2 rfl; simp; omega
  | false=>simp; omega
end
structure FT (c d:aI) (O A:List Int):Prop where
 ol:(O.length:Int)=c.aD
 oo:∀ y∈O,0≤y∧y < d.aD
 ar:∀ a:Int,0≤a→a < c.aG.length→(0≤gi A a∧gi A a < d.aG.length)∧gi d.aG (gi A a)=gi O (gi c.aG a)∧gi d.To (gi A a)=gi O (gi c.To a)
 un:∀ x:Int,0≤x→x < c.aD→gi A (gi c.aJ x)=gi d.aJ (gi O x)
 co:Cmp7 c d A
def Full (c d:aI) (xs q:List Int):Prop:=PA c d xs q∧∀ a:Int,0≤a→a < c.aG.length→0≤gi q a
section
variable {c d:aI} {xs:List Int} (T:Ty c) (U:Ty d) (cm:c.aG.length≤1000) (dm:d.aG.length≤1000) (hob:(xs.length:Int)=c.aD) (hoo:∀ y∈xs,0≤y∧y < d.aD)
include T U cm dm hob hoo
theorem arrowsOk (n:Nat):∀ {ys:List Int} {f:Int} {found:List (List Int)} (_:PA c d xs ys) (_:0≤f) (_:f≤c.aG.length) (_:∀ a:Int,0≤a→a < f→0≤gi ys a) (_:ng7 ys < n) (_:found.length≤200) (_:∀ q∈found,Full c d xs q),
  Ok (hY n c d xs ys f found) fun y=>found.length≤y.length∧y.length≤201∧(∀ q∈y,Full c d xs q)∧∀ A,FT c d xs A→Ext7 c ys A→0 < y.length:=by
 induction n with
 | zero=>intro ys f found _ _ _ _ h; omega
 | succ n ih=>
  intro ys f found P f0 f1 hpre hng hfl hall
  show Ok (kN (hY n) c d xs ys f found) _
  unfold kN
  have hl:=P.len
  refine orr (ol (fun z:Int=>(0≤z∧z≤c.aG.length)∧∀ a:Int,0≤a→a < z→0≤gi ys a) (fun z=>(c.aG.length - z).toNat) ⟨⟨f0,f1⟩,hpre⟩ ?_)
  rintro f ⟨⟨f0,f1⟩,hpre⟩
  unfold pQ
  rw [hl]
  refine ob (P:=fun g=>(g=true→f < c.aG.length∧0≤gi ys f)∧(g=false→f < c.aG.length→gi ys f < 0)) (od (fun h=>oe (cU f0 (by omega)) (os ⟨fun h2=>⟨h,of_decide_eq_true h2⟩,fun h2 _=>by have:=of_decide_eq_false h2; omega⟩)) fun h=>os ⟨fun h2=>(by cases h2),fun _ h2=>absurd h2 h⟩) fun g hg=>oc (fun eg=>os ⟨⟨⟨?_,?_⟩,fun a a0 a1=>?_⟩,?_⟩) fun eg=>os ⟨rfl,?_⟩
  ·have:=hg.1 eg; rw [w1 f0 this.1 (by omega)]; omega
  ·have:=hg.1 eg; rw [w1 f0 this.1 (by omega)]; omega
  ·have:=hg.1 eg
   rw [w1 f0 this.1 (by omega)] at a1
   by_cases e:a=f
   ·rw [e]; exact this.2
   ·exact hpre a a0 (by omega)
  ·have:=hg.1 eg; rw [w1 f0 this.1 (by omega)]; dsimp only; omega
  have hneg:=hg.2 eg
  refine oc (fun e=>?_) fun e=>?_
  ·have e:f=c.aG.length:=by simpa using e
   refine oe (specOwn0 ys (by omega)) (oft (by omega) (by omega) (os ⟨?_,?_,app_all hall ⟨P,fun a a0 a1=>hpre a a0 (by omega)⟩,fun A _ _=>?_⟩))
   all_goals simp only [List.length_append,List.length_singleton]
   all_goals omega
  ·have e : ¬ f=c.aG.length:=by simpa using e
   have hf:f < c.aG.length:=by omega
   have hneg:=hneg hf
   have kf:=T.fr f0 hf
   have kt:=T.to f0 hf
   refine oe (T.idxF f0 hf) (oe (cU kf.1 (by omega)) (oe (T.idxT f0 hf) (oe (cU kt.1 (by omega)) (ob (homOk U.tl (by omega) _ _) fun hom hh=>?_))))
   refine ol (fun z:List (List Int)×Int=>(0≤z.2∧z.2≤hom.length)∧(found.length≤z.1.length∧z.1.length≤201)∧(∀ q∈z.1,Full c d xs q)∧∀ A,FT c d xs A→Ext7 c ys A→0 < z.1.length∨∀ j:Int,0≤j→j < z.2→gi hom j≠gi A f) (fun z=>(hom.length - z.2).toNat) ⟨⟨by show (0:Int)≤0; omega,by show (0:Int)≤_; omega⟩,⟨Nat.le_refl _,by dsimp only; omega⟩,hall,fun A _ _=>.inr fun j j0 j1=>by dsimp only at j1; omega⟩ ?_
   rintro ⟨fd,i⟩ ⟨⟨i0,i1⟩,⟨h1,h2⟩,h3,h4⟩
   dsimp only at i0 i1 h1 h2 h3 h4
   show Ok (mN (hY n) c d xs ys f hom fd i) _
   unfold mN
   refine ob (P:=fun g=>(g=true→i < hom.length∧fd.length≤200)∧(g=false→hom.length≤i∨200 < fd.length)) (od (fun h=>os ⟨fun h2=>⟨h,by have:=of_decide_eq_true h2; omega⟩,fun h2=>.inr (by have:=of_decide_eq_false h2; omega)⟩) fun h=>os ⟨fun h2=>(by cases h2),fun _=>.inl (by omega)⟩) fun g hg=>oc (fun eg=>?_) fun eg=>os ⟨rfl,os ⟨h1,h2,h3,fun A hA hE=>?_⟩⟩
   ·obtain ⟨hi,hfd⟩:=hg.1 eg
    have hw:=w1 i0 hi (by omega)
    have hv:=(hh.2 _).1 (gi_mem i0 hi)
    have P2:PA c d xs (ys.set f.toNat (gi hom i)):=P.set f0 hf fun _=>⟨hv.1.2,hv.2.1,hv.2.2⟩
    refine oe (specOwn0 ys (by omega)) (oe (cU i0 hi) (oe (cU f0 (by omega)) (ob (forceOk T U cm P2) fun y hy=>?_)))
    have hE2:∀ A,Ext7 c ys A→gi hom i=gi A f→Ext7 c (ys.set f.toNat (gi hom i)) A:=fun A hE e2 x x0 x1 hx=>by
     rw [gi_setI f0 (by omega) x0] at hx ⊢
     by_cases ex:x=f
     ·rw [if_pos ex,ex]; exact e2
     ·rw [if_neg ex] at hx ⊢; exact hE x x0 x1 hx
    refine oc (fun ey=>?_) fun ey=>os ⟨⟨⟨?_,?_⟩,⟨h1,h2⟩,h3,fun A hA hE=>?_⟩,?_⟩
    ·have J:=hy.1 ey
     have hfn:0≤gi y.2 f:=by
      have h0:gi (ys.set f.toNat (gi hom i)) f=gi hom i:=by rw [gi_setI f0 (by omega) f0,if_pos rfl]
      rw [J.mono f f0 (by rw [h0]; exact hv.1.1),h0]; exact hv.1.1
     have hn2:=(ng7_set (r:=ys) (d:=f.toNat) hv.1.1).2 (by omega) (by rw [show ((f.toNat:Nat):Int)=f by omega]; exact hneg)
     have hn3:=J.ng
     have hwf:=w1 f0 hf (by omega)
     rw [hwf]
     refine ob (ih J.p (by omega) (by omega) (fun a a0 a1=>?_) (by omega) hfd h3) fun z hz=>os ⟨⟨⟨?_,?_⟩,⟨?_,hz.2.1⟩,hz.2.2.1,fun A hA hE=>?_⟩,?_⟩
     ·by_cases ea:a=f
      ·rw [ea]; exact hfn
      ·have:=hpre a a0 (by omega)
       have hs:gi (ys.set f.toNat (gi hom i)) a=gi ys a:=by rw [gi_setI f0 (by omega) a0,if_neg ea]
       rw [J.mono a a0 (by rw [hs]; exact this),hs]; exact this
     ·dsimp only; rw [hw]; omega
     ·dsimp only; rw [hw]; omega
     ·dsimp only; have:=hz.1; omega
     ·dsimp only
      by_cases e2:gi hom i=gi A f
      ·exact .inl (hz.2.2.2 A hA (J.ext A hA.co (hE2 A hE e2)))
      ·rcases h4 A hA hE with h | h
       ·exact .inl (by have:=hz.1; omega)
       ·refine .inr fun j j0 j1=>?_
        rw [hw] at j1
        by_cases ej:j=i
        ·rw [ej]; exact e2
        ·exact h j j0 (by omega)
     ·dsimp only; rw [hw]; omega
    ·dsimp only; rw [hw]; omega
    ·dsimp only; rw [hw]; omega
    ·dsimp only
     rcases h4 A hA hE with h | h
     ·exact .inl h
     ·refine .inr fun j j0 j1=>?_
      rw [hw] at j1
      by_cases ej:j=i
      ·rw [ej]
       exact fun e2=>hy.2 ey A hA.co (hE2 A hE e2)
      ·exact h j j0 (by omega)
    ·dsimp only; rw [hw]; omega
   ·try dsimp only
    rcases hg.2 eg with h | h
    ·rcases h4 A hA hE with h5 | h5
     ·exact h5
     ·exfalso
      have ka:=hA.ar f f0 hf
      obtain ⟨j,j0,j1,ej⟩:=mem_gi ((hh.2 (gi A f)).2 ⟨ka.1,ka.2.1,ka.2.2⟩)
      exact h5 j j0 (by omega) ej
    ·omega
end
end Go.Proofs.YtkhdhnpokfibjaaGreat
namespace Go.Proofs.YtkhdhnpokfibjaaGreat
open Go Go.Li
set_option linter.unusedVariables false
structure Pre7 (xs O:List Int):Prop where
 l:xs.length≤O.length
 g:∀ x:Int,0≤x→x < xs.length→gi O x=gi xs x
theorem Pre7.app {xs O:List Int} (h:Pre7 xs O) (hl:xs.length < O.length):Pre7 (xs++[gi O xs.length]) O:=by
 refine ⟨by simp only [List.length_append,List.length_singleton]; omega,fun x x0 x1=>?_⟩
 simp only [List.length_append,List.length_singleton] at x1
 rw [gi_app x0]
 by_cases e:x < xs.length
 ·rw [if_pos e]; exact h.g x x0 e
 ·rw [if_neg e,if_pos (by omega),show x=(xs.length:Int) by omega]
theorem Pre7.all {xs O:List Int} (h:Pre7 xs O) (e:O.length=xs.length):O=xs:=gi_ext e h.g
structure T7 (c:aI):Prop where
 t:Ty c
 m:c.aG.length≤63
 o:c.aD≤63
 s:CatSmall c
structure FF (c d:aI) (f:aN):Prop where
 s:f.aA=c
 t:f.aB=d
 ol:(f.aD.length:Int)=c.aD
 oo:∀ y∈f.aD,0≤y∧y < d.aD
 ar:Full c d f.aD f.Arrows
theorem FT.full {c d:aI} {O A:List Int} (h:FT c d O A) (e:A.length=c.aG.length):Full c d O A:=⟨⟨e,fun a a0 a1 _=>⟨(h.ar a a0 a1).1.2,(h.ar a a0 a1).2⟩⟩,fun a a0 a1=>(h.ar a a0 a1).1.1⟩
theorem ng7_le (r:List Int):ng7 r≤r.length:=List.length_filter_le _ _
section
variable {c d:aI} (T:T7 c) (U:T7 d)
include T U
theorem FF.small {f:aN} (F:FF c d f):FSmall f:=⟨F.s ▸ T.s,F.t ▸ U.s,by have:=F.ol; have:=T.o; omega,by have:=F.ar.1.len; have:=T.m; omega⟩
theorem roomsOk (xs:List Int):Ok (mW c d xs) fun b=>∀ O A,FT c d O A→Pre7 xs O→b=true:=by
 have cm:=T.m
 have dm:=U.m
 unfold mW
 refine orr (ol (fun z:Int=>0≤z∧z≤c.aG.length) (fun z=>(c.aG.length - z).toNat) ⟨by omega,by omega⟩ ?_)
 rintro i ⟨i0,i1⟩
 unfold pT
 refine od (fun hi=>?_) fun hi=>os ⟨rfl,os fun _ _ _ _=>rfl⟩
 have hw:=w1 i0 hi (by omega)
 have kf:=T.t.fr i0 hi
 have kt:=T.t.to i0 hi
 have nx:∀ {E:Int→Prop} {G:Bool→Prop},Ok (some (Out.norm (w64 (i+1)):Out Int Bool)) (Stp 0 (fun z:Int=>0≤z∧z≤c.aG.length) (fun z=>(c.aG.length - z).toNat) (c.aG.length - i).toNat E G):=by
  intro E G
  refine os ⟨⟨?_,?_⟩,?_⟩
  all_goals (try dsimp only)
  all_goals rw [hw]
  all_goals omega
 refine oe (T.t.idxF i0 hi) (oe (T.t.idxT i0 hi) (od (fun hx=>od (fun hy=>oe (cU kf.1 hx) (oe (cU kt.1 hy) (ob (homOk U.t.tl (by omega) _ _) fun hom hh=>oc (fun e=>os ?_) fun e=>nx))) fun _=>nx) fun _=>nx))
 intro O A hA hp
 exfalso
 have e:hom.length=0:=by
  have:=of_decide_eq_true e
  omega
 have ka:=hA.ar i i0 hi
 have:=(hh.2 (gi A i)).2 ⟨ka.1,by rw [ka.2.1,hp.g _ kf.1 hx],by rw [ka.2.2,hp.g _ kt.1 hy]⟩
 rw [List.length_eq_zero_iff.1 e] at this
 exact nomatch this
theorem searchOk (n:Nat):∀ {xs:List Int} {found:List aN} (_:(xs.length:Int)≤c.aD) (_:∀ y∈xs,0≤y∧y < d.aD) (_:c.aD - xs.length < n) (_:found.length≤200) (_:∀ q∈found,FF c d q),
  Ok (iA n c d xs found) fun y=>(found.length≤y.length∧y.length≤201)∧(∀ q∈y,FF c d q)∧∀ O A,FT c d O A→Pre7 xs O→0 < y.length:=by
 have cm:=T.m
 have dm:=U.m
 have co:=T.o
 have d8:=U.o
 induction n with
 | zero=>intro xs found h1 _ h2; omega
 | succ n ih=>
  intro xs found hl ho hn hfl hall
  show Ok (kO (iA n) c d xs found) _
  unfold kO
  refine orr (ob (roomsOk T U xs) fun b hb=>oc (fun e=>os ⟨⟨Nat.le_refl _,by omega⟩,hall,fun O A hA hp=>?_⟩) fun e=>oc (fun e2=>?_) fun e2=>?_)
  ·rw [hb O A hA hp] at e; cases e
  ·have e2:(xs.length:Int)=c.aD:=by simpa using e2
   refine ol (fun z:List Int×Int=>(0≤z.2∧z.2≤c.aG.length)∧(z.1.length:Int)=z.2∧∀ v∈z.1,v = -1) (fun z=>(c.aG.length - z.2).toNat) ⟨⟨by show (0:Int)≤0; omega,by show (0:Int)≤_; omega⟩,rfl,nil_all⟩ ?_
   rintro ⟨l,i⟩ ⟨⟨i0,i1⟩,hl0,hv⟩
   dsimp only at i0 i1 hl0 hv
   show Ok (mO c l i) _
   unfold mO
   refine od (fun hi=>oft (by omega) (by omega) (os ⟨⟨⟨?_,?_⟩,?_,app_all hv rfl⟩,?_⟩)) fun hi=>os ⟨rfl,?_⟩
   ·dsimp only; rw [w1 i0 hi (by omega)]; omega
   ·dsimp only; rw [w1 i0 hi (by omega)]; omega
   ·dsimp only; rw [w1 i0 hi (by omega),List.length_append,List.length_singleton]; omega
   ·dsimp only; rw [w1 i0 hi (by omega)]; omega
   have P0:PA c d xs l:=⟨by omega,fun a a0 a1 h=>by rw [hv _ (gi_mem a0 (by omega))] at h; omega⟩
   refine ol (fun z:Int×List Int=>(0≤z.1∧z.1≤xs.length)∧PA c d xs z.2∧∀ A,FT c d xs A→Ext7 c z.2 A) (fun z=>(xs.length - z.1).toNat) ⟨⟨by show (0:Int)≤0; omega,by show (0:Int)≤_; omega⟩,P0,fun A hA a a0 a1 h=>by dsimp only at h; rw [hv _ (gi_mem a0 (by omega))] at h; omega⟩ ?_
   rintro ⟨j,ys⟩ ⟨⟨j0,j1⟩,P,hE⟩
   dsimp only at j0 j1 P hE
   have hpl:=P.len
   show Ok (mP c d xs j ys) _
   unfold mP
   refine od (fun hj=>?_) fun hj=>os ⟨rfl,?_⟩
   ·have kx:=ho _ (gi_mem j0 hj)
    have ki:=T.t.id j0 (by omega)
    have ku:=U.t.id kx.1 kx.2
    refine oe (T.t.idxI j0 (by omega)) (oe (cU j0 hj) (oe (U.t.idxI kx.1 kx.2) (oe (cU ki.1 (by omega)) (os ⟨⟨⟨?_,?_⟩,P.set ki.1 ki.2 fun _=>⟨ku.2,?_,?_⟩,fun A hA a a0 a1 h=>?_⟩,?_⟩))))
    ·dsimp only; rw [w1 j0 hj (by omega)]; omega
    ·dsimp only; rw [w1 j0 hj (by omega)]; omega
    ·rw [U.t.idf _ kx.1 kx.2,T.t.idf _ j0 (by omega)]
    ·rw [U.t.idt _ kx.1 kx.2,T.t.idt _ j0 (by omega)]
    ·dsimp only at h ⊢
     rw [gi_setI ki.1 (by omega) a0] at h ⊢
     by_cases ea:a=gi c.aJ j
     ·rw [if_pos ea,ea,hA.un j j0 (by omega)]
     ·rw [if_neg ea] at h ⊢
      exact hE A hA a a0 a1 h
    ·dsimp only; rw [w1 j0 hj (by omega)]; omega
   ·refine ob (arrowsOk T.t U.t (by omega) (by omega) e2 ho 64 P (by omega) (by omega) (fun a a0 a1=>by omega) (by have:=ng7_le ys; omega) (by simp) nil_all) fun y hy=>?_
    have hy2:=hy.2.1
    refine ol (fun z:List aN×Int=>(0≤z.2∧z.2≤y.length)∧(found.length≤z.1.length∧z.1.length≤201)∧(∀ q∈z.1,FF c d q)∧(0 < z.2→0 < z.1.length)) (fun z=>(y.length - z.2).toNat) ⟨⟨by show (0:Int)≤0; omega,by show (0:Int)≤_; omega⟩,⟨Nat.le_refl _,by dsimp only; omega⟩,hall,fun h=>by dsimp only at h; omega⟩ ?_
    rintro ⟨fd,k⟩ ⟨⟨k0,k1⟩,⟨h1,h2⟩,h3,h4⟩
    dsimp only at k0 k1 h1 h2 h3 h4
    show Ok (mQ c d xs y fd k) _
    unfold mQ
    refine ob (P:=fun g=>(g=true→k < y.length∧fd.length≤200)∧(g=false→y.length≤k∨200 < fd.length)) (od (fun h=>os ⟨fun h2=>⟨h,by have:=of_decide_eq_true h2; omega⟩,fun h2=>.inr (by have:=of_decide_eq_false h2; omega)⟩) fun h=>os ⟨fun h2=>(by cases h2),fun _=>.inl (by omega)⟩) fun g hg=>oc (fun eg=>?_) fun eg=>os ⟨rfl,os ⟨⟨h1,h2⟩,h3,fun O A hA hp=>?_⟩⟩
    ·obtain ⟨hk,hfd⟩:=hg.1 eg
     refine oi k0 hk fun q hq=>oe (specMake T.s U.s (by omega) (by have:=(hy.2.2.1 q hq).1.len; omega)) (oft (by omega) (by omega) (os ⟨⟨⟨?_,?_⟩,⟨?_,?_⟩,app_all h3 ⟨rfl,rfl,e2,ho,hy.2.2.1 q hq⟩,fun _=>?_⟩,?_⟩))
     all_goals (try dsimp only)
     all_goals (try rw [w1 k0 hk (by omega)])
     all_goals (try simp only [List.length_append,List.length_singleton])
     all_goals omega
    ·have eO:O=xs:=hp.all (by have:=hA.ol; omega)
     rw [eO] at hA
     have h5:=hy.2.2.2 A hA (hE A hA)
     show 0 < fd.length
     rcases hg.2 eg with h | h
     ·exact h4 (by omega)
     ·omega
  ·have e2 : ¬ (xs.length:Int)=c.aD:=by simpa using e2
   have d0:=U.t.o0
   refine ol (fun z:List aN×Int=>(0≤z.2∧z.2≤d.aD)∧(found.length≤z.1.length∧z.1.length≤201)∧(∀ q∈z.1,FF c d q)∧∀ O A,FT c d O A→Pre7 xs O→0 < z.1.length∨∀ j:Int,0≤j→j < z.2→gi O xs.length≠j) (fun z=>(d.aD - z.2).toNat) ⟨⟨by show (0:Int)≤0; omega,by show (0:Int)≤_; omega⟩,⟨Nat.le_refl _,by dsimp only; omega⟩,hall,fun O A _ _=>.inr fun j j0 j1=>by dsimp only at j1; omega⟩ ?_
   rintro ⟨fd,k⟩ ⟨⟨k0,k1⟩,⟨h1,h2⟩,h3,h4⟩
   dsimp only at k0 k1 h1 h2 h3 h4
   show Ok (mR (iA n) c d xs fd k) _
   unfold mR
   refine ob (P:=fun g=>(g=true→k < d.aD∧fd.length≤200)∧(g=false→d.aD≤k∨200 < fd.length)) (od (fun h=>os ⟨fun h2=>⟨h,by have:=of_decide_eq_true h2; omega⟩,fun h2=>.inr (by have:=of_decide_eq_false h2; omega)⟩) fun h=>os ⟨fun h2=>(by cases h2),fun _=>.inl (by omega)⟩) fun g hg=>oc (fun eg=>?_) fun eg=>os ⟨rfl,os ⟨⟨h1,h2⟩,h3,fun O A hA hp=>?_⟩⟩
   ·obtain ⟨hk,hfd⟩:=hg.1 eg
    have hw:=w1 k0 hk (by omega)
    refine oe (specOwn0 xs (by omega)) (oft (by omega) (by omega) (ob (ih (xs:=xs++[k]) (found:=fd) (by rw [List.length_append,List.length_singleton]; omega) (app_all ho ⟨k0,hk⟩) (by rw [List.length_append,List.length_singleton]; omega) hfd h3) fun z hz=>os ⟨⟨⟨?_,?_⟩,⟨?_,hz.1.2⟩,hz.2.1,fun O A hA hp=>?_⟩,?_⟩))
    ·dsimp only; rw [hw]; omega
    ·dsimp only; rw [hw]; omega
    ·dsimp only; have:=hz.1.1; omega
    ·dsimp only
     by_cases e3:gi O xs.length=k
     ·refine .inl (hz.2.2 O A hA ?_)
      have:=hp.app (by have:=hA.ol; omega)
      rwa [e3] at this
     ·rcases h4 O A hA hp with h | h
      ·exact .inl (by have:=hz.1.1; omega)
      ·refine .inr fun j j0 j1=>?_
       rw [hw] at j1
       by_cases ej:j=k
       ·rw [ej]; exact e3
       ·exact h j j0 (by omega)
    ·dsimp only; rw [hw]; omega
   ·show 0 < fd.length
    rcases hg.2 eg with h | h
    ·rcases h4 O A hA hp with h5 | h5
     ·exact h5
     ·exfalso
      have kb:=hA.oo _ (gi_mem (l:=O) (j:=xs.length) (by omega) (by have:=hA.ol; omega))
      exact h5 _ kb.1 (by omega) rfl
    ·omega
theorem allOk:Ok (jZ c d) fun y=>y.length≤201∧(∀ q∈y,FF c d q)∧∀ O A,FT c d O A→0 < y.length:=by
 unfold jZ
 have o0:=T.t.o0
 have co:=T.o
 refine orr (ob (searchOk T U 64 (xs:=[]) (found:=[]) (by simpa using o0) nil_all (by simp; omega) (by simp) nil_all) fun y hy=>os ⟨hy.1.2,hy.2.1,fun O A hA=>hy.2.2 O A hA ⟨by simp,fun x x0 x1=>by simp at x1; omega⟩⟩)
omit U in
theorem movingOk:Ok (mC c) fun _=>True:=by
 have cm:=T.m
 unfold mC
 refine orr (ol (fun z:List Int×Int=>(0≤z.2∧z.2≤c.aG.length)∧(z.1.length:Int)≤z.2) (fun z=>(c.aG.length - z.2).toNat) ⟨⟨by show (0:Int)≤0; omega,by show (0:Int)≤_; omega⟩,by show (0:Int)≤0; omega⟩ ?_)
 rintro ⟨l,i⟩ ⟨⟨i0,i1⟩,hl⟩
 dsimp only at i0 i1 hl
 show Ok (mM c l i) _
 unfold mM
 refine od (fun hi=>?_) fun hi=>os ⟨rfl,os trivial⟩
 have kf:=T.t.fr i0 hi
 have u:Ok (nX c i) fun _=>True:=by
  unfold nX
  exact orr (oe (T.t.idxF i0 hi) (oe (T.t.idxI kf.1 kf.2) (os trivial)))
 refine ob u fun b _=>oc (fun _=>oft (by omega) (by omega) (os ⟨⟨⟨?_,?_⟩,?_⟩,?_⟩)) fun _=>os ⟨⟨⟨?_,?_⟩,?_⟩,?_⟩
 all_goals (try dsimp only)
 all_goals rw [w1 i0 hi (by omega)]
 all_goals (try simp only [List.length_append,List.length_singleton])
 all_goals omega
theorem smallOk:Ok (iN c d) fun _=>True:=by
 unfold iN
 exact orr (ob (movingOk T) fun y _=>od (fun _=>os trivial) fun _=>os trivial)
theorem constantOk {v:Int} (v0:0≤v) (v1:v < d.aD):Ok (jE c d v) fun f=>FF c d f∧FT c d f.aD f.Arrows:=by
 unfold jE
 have c0:=T.t.o0
 have cm:=T.m
 have co:=T.o
 have ki:=U.t.id v0 v1
 refine orr (ol (fun z:List Int×Int=>(0≤z.2∧z.2≤c.aD)∧(z.1.length:Int)=z.2∧∀ y∈z.1,y=v) (fun z=>(c.aD - z.2).toNat) ⟨⟨by show (0:Int)≤0; omega,by show (0:Int)≤_; omega⟩,rfl,nil_all⟩ ?_)
 rintro ⟨l,i⟩ ⟨⟨i0,i1⟩,hl,hv⟩
 dsimp only at i0 i1 hl hv
 show Ok (lE c v l i) _
 unfold lE
 refine od (fun hi=>oft (by omega) (by omega) (os ⟨⟨⟨?_,?_⟩,?_,app_all hv rfl⟩,?_⟩)) fun hi=>os ⟨rfl,?_⟩
 ·dsimp only; rw [w1 i0 hi (by omega)]; omega
 ·dsimp only; rw [w1 i0 hi (by omega)]; omega
 ·dsimp only; rw [w1 i0 hi (by omega),List.length_append,List.length_singleton]; omega
 ·dsimp only; rw [w1 i0 hi (by omega)]; omega
 refine ol (fun z:List Int×Int=>(0≤z.2∧z.2≤c.aG.length)∧(z.1.length:Int)=z.2∧∀ y∈z.1,y=gi d.aJ v) (fun z=>(c.aG.length - z.2).toNat) ⟨⟨by show (0:Int)≤0; omega,by show (0:Int)≤_; omega⟩,rfl,nil_all⟩ ?_
 rintro ⟨m,j⟩ ⟨⟨j0,j1⟩,hm,hv2⟩
 dsimp only at j0 j1 hm hv2
 show Ok (lF c d v m j) _
 unfold lF
 refine od (fun hj=>oe (U.t.idxI v0 v1) (oft (by omega) (by omega) (os ⟨⟨⟨?_,?_⟩,?_,app_all hv2 rfl⟩,?_⟩))) fun hj=>os ⟨rfl,oe (specMake T.s U.s (by omega) (by omega)) (os ?_)⟩
 ·dsimp only; rw [w1 j0 hj (by omega)]; omega
 ·dsimp only; rw [w1 j0 hj (by omega)]; omega
 ·dsimp only; rw [w1 j0 hj (by omega),List.length_append,List.length_singleton]; omega
 ·dsimp only; rw [w1 j0 hj (by omega)]; omega
 have lo:∀ x:Int,0≤x→x < c.aD→gi l x=v:=fun x x0 x1=>hv _ (gi_mem x0 (by omega))
 have la:∀ a:Int,0≤a→a < c.aG.length→gi m a=gi d.aJ v:=fun x x0 x1=>hv2 _ (gi_mem x0 (by omega))
 have oo:∀ y∈l,0≤y∧y < d.aD:=fun y hy=>by rw [hv y hy]; exact ⟨v0,v1⟩
 have H:FT c d l m:=by
  refine ⟨by omega,oo,fun a a0 a1=>?_,fun x x0 x1=>?_,fun a b a0 a1 b0 b1 e=>?_⟩
  ·rw [la a a0 a1]
   exact ⟨ki,by rw [U.t.idf _ v0 v1,lo _ (T.t.fr a0 a1).1 (T.t.fr a0 a1).2],by rw [U.t.idt _ v0 v1,lo _ (T.t.to a0 a1).1 (T.t.to a0 a1).2]⟩
  ·rw [la _ (T.t.id x0 x1).1 (T.t.id x0 x1).2,lo x x0 x1]
  ·have k:=T.t.cell a b a0 a1 b0 b1 e
   rw [la _ k.1.1 k.1.2,la a a0 a1,la b b0 b1]
   exact (U.t.uu v v0 v1).symm
 exact ⟨⟨rfl,rfl,H.ol,oo,H.full (by omega)⟩,H⟩
omit U in
theorem selfOk:Ok (jF c) fun f=>FF c c f∧FT c c f.aD f.Arrows:=by
 unfold jF
 have c0:=T.t.o0
 have cm:=T.m
 have co:=T.o
 refine orr (ol (fun z:List Int×Int=>(0≤z.2∧z.2≤c.aD)∧(z.1.length:Int)=z.2∧∀ j:Int,0≤j→j < z.2→gi z.1 j=j) (fun z=>(c.aD - z.2).toNat) ⟨⟨by show (0:Int)≤0; omega,by show (0:Int)≤_; omega⟩,rfl,fun j j0 j1=>by dsimp only at j1; omega⟩ ?_)
 rintro ⟨l,i⟩ ⟨⟨i0,i1⟩,hl,hv⟩
 dsimp only at i0 i1 hl hv
 show Ok (nY c l i) _
 unfold nY
 refine od (fun hi=>oft (by omega) (by omega) (os ⟨⟨⟨?_,?_⟩,?_,fun j j0 j1=>?_⟩,?_⟩)) fun hi=>os ⟨rfl,?_⟩
 ·dsimp only; rw [w1 i0 hi (by omega)]; omega
 ·dsimp only; rw [w1 i0 hi (by omega)]; omega
 ·dsimp only; rw [w1 i0 hi (by omega),List.length_append,List.length_singleton]; omega
 ·dsimp only at j1 ⊢
  rw [w1 i0 hi (by omega)] at j1
  rw [gi_app j0]
  by_cases e:j < l.length
  ·rw [if_pos e]; exact hv j j0 (by omega)
  ·rw [if_neg e,if_pos (by omega)]; omega
 ·dsimp only; rw [w1 i0 hi (by omega)]; omega
 refine ol (fun z:List Int×Int=>(0≤z.2∧z.2≤c.aG.length)∧(z.1.length:Int)=z.2∧∀ j:Int,0≤j→j < z.2→gi z.1 j=j) (fun z=>(c.aG.length - z.2).toNat) ⟨⟨by show (0:Int)≤0; omega,by show (0:Int)≤_; omega⟩,rfl,fun j j0 j1=>by dsimp only at j1; omega⟩ ?_
 rintro ⟨m,j⟩ ⟨⟨j0,j1⟩,hm,hv2⟩
 dsimp only at j0 j1 hm hv2
 show Ok (nZ c m j) _
 unfold nZ
 refine od (fun hj=>oft (by omega) (by omega) (os ⟨⟨⟨?_,?_⟩,?_,fun q q0 q1=>?_⟩,?_⟩)) fun hj=>os ⟨rfl,oe (specMake T.s T.s (by omega) (by omega)) (os ?_)⟩
 ·dsimp only; rw [w1 j0 hj (by omega)]; omega
 ·dsimp only; rw [w1 j0 hj (by omega)]; omega
 ·dsimp only; rw [w1 j0 hj (by omega),List.length_append,List.length_singleton]; omega
 ·dsimp only at q1 ⊢
  rw [w1 j0 hj (by omega)] at q1
  rw [gi_app q0]
  by_cases e:q < m.length
  ·rw [if_pos e]; exact hv2 q q0 (by omega)
  ·rw [if_neg e,if_pos (by omega)]; omega
 ·dsimp only; rw [w1 j0 hj (by omega)]; omega
 have lo:∀ x:Int,0≤x→x < c.aD→gi l x=x:=fun x x0 x1=>hv _ x0 (by omega)
 have la:∀ a:Int,0≤a→a < c.aG.length→gi m a=a:=fun x x0 x1=>hv2 _ x0 (by omega)
 have oo:∀ y∈l,0≤y∧y < c.aD:=fun y hy=>by
  obtain ⟨i,i0,i1,rfl⟩:=mem_gi hy
  rw [lo i i0 (by omega)]; omega
 have H:FT c c l m:=by
  refine ⟨by omega,oo,fun a a0 a1=>?_,fun x x0 x1=>?_,fun a b a0 a1 b0 b1 e=>?_⟩
  ·rw [la a a0 a1]
   exact ⟨⟨a0,a1⟩,by rw [lo _ (T.t.fr a0 a1).1 (T.t.fr a0 a1).2],by rw [lo _ (T.t.to a0 a1).1 (T.t.to a0 a1).2]⟩
  ·rw [la _ (T.t.id x0 x1).1 (T.t.id x0 x1).2,lo x x0 x1]
  ·have k:=T.t.cell a b a0 a1 b0 b1 e
   rw [la _ k.1.1 k.1.2,la a a0 a1,la b b0 b1]
 exact ⟨⟨rfl,rfl,H.ol,oo,H.full (by omega)⟩,H⟩
end
def N7 (c d:aI):Prop:=∀ l,iN c d=some true→jZ c d=some l→0 < l.length
theorem N7_of {c d:aI} {O A:List Int} (T:T7 c) (U:T7 d) (h:FT c d O A):N7 c d:=by
 intro l _ e
 obtain ⟨l',e',h'⟩:=allOk T U
 rw [e] at e'
 cases e'
 exact h'.2.2 O A h
theorem t7_some {y:aI} {o m:Int} (h:OkC 8 800 y∧Ty y∧((y.aD≤o∧(y.aG.length:Int)≤m)∨OkC 1 4 y)) (ho:o≤63) (hm:m≤63):T7 y:=by
 refine ⟨h.2.1,?_,?_,h.1.small (by omega) (by omega)⟩
 ·rcases h.2.2 with h | h
  ·omega
  ·have:=h.m; omega
 ·rcases h.2.2 with h | h
  ·omega
  ·have:=h.o; omega
section
variable {x:List Int} (B:Byt x) {s:aL} (S:Src x s)
include B S
theorem someF {c:aI} (T:T7 c) {o m:Int} (ho:o≤63) (hm:m≤63):Ok (lP s c o m) fun y=>(∃ d,T7 d∧FF c d y.1∧N7 c d)∧Src x y.2:=by
 unfold lP
 refine orr (ob (someTy B S o m) fun y hy=>?_)
 have U:T7 y.1:=t7_some hy.1 ho hm
 have S1:=S.on (h:=y.2.Hash) hy.2
 obtain ⟨b,eb,_⟩:=smallOk T U
 refine oe eb (oc (fun hb=>?_) fun _=>?_)
 ·obtain ⟨l,el,hl⟩:=allOk T U
  refine oe el (od (fun h0=>ob (nextOk B S1 _) fun z hz=>oi hz.1.1 (hz.1.2 (by omega)) fun f hf=>os ⟨⟨y.1,U,hl.2.1 f hf,fun l' _ e'=>by rw [el] at e'; cases e'; omega⟩,S.on hz.2⟩) fun _=>?_)
  exact od (fun ho=>ob (nextOk B S1 _) fun z hz=>oc (fun _=>ob (nextOk B (S.on hz.2) _) fun w hw=>ob (constantOk T U hw.1.1 (hw.1.2 (by omega))) fun f hf=>os ⟨⟨y.1,U,hf.1,N7_of T U hf.2⟩,S.on hw.2⟩) fun _=>ob (selfOk T) fun f hf=>os ⟨⟨c,T,hf.1,N7_of T T hf.2⟩,S.on hz.2⟩) fun _=>ob (selfOk T) fun f hf=>os ⟨⟨c,T,hf.1,N7_of T T hf.2⟩,S1⟩
 ·exact od (fun ho=>ob (nextOk B S1 _) fun z hz=>oc (fun _=>ob (nextOk B (S.on hz.2) _) fun w hw=>ob (constantOk T U hw.1.1 (hw.1.2 (by omega))) fun f hf=>os ⟨⟨y.1,U,hf.1,N7_of T U hf.2⟩,S.on hw.2⟩) fun _=>ob (selfOk T) fun f hf=>os ⟨⟨c,T,hf.1,N7_of T T hf.2⟩,S.on hz.2⟩) fun _=>ob (selfOk T) fun f hf=>os ⟨⟨c,T,hf.1,N7_of T T hf.2⟩,S1⟩
theorem draw6Ok:Ok (lR s) fun y=>FSmall y.1∧Src x y.2:=by
 unfold lR
 refine orr (ob (someTy B S 4 10) fun y hy=>?_)
 have T:T7 y.1:=t7_some hy.1 (by omega) (by omega)
 refine ob (someF B (S.on hy.2) T (by omega) (by omega)) fun z hz=>?_
 obtain ⟨⟨d,U,F,_⟩,S2⟩:=hz
 have fs:FSmall z.1:=F.small T U
 have hol:=F.ol
 have co:=T.o
 refine ob (nextOk B (S.on S2) _) fun w hw=>oc (fun _=>?_) fun _=>oc (fun _=>?_) fun _=>oc (fun _=>?_) fun _=>os ⟨fs,S.on hw.2⟩
 ·exact ob (bendOk B (S.on hw.2) (c:=z.1.aA) (by rw [F.s]; exact hy.1.1)) fun u hu=>os ⟨⟨hu.1,fs.t,fs.o,fs.a⟩,S.on hu.2⟩
 ·refine od (fun h=>ob (nextOk B (S.on hw.2) _) fun u hu=>ob (nextOk B (S.on hu.2) _) fun v hv=>oe (cU hu.1.1 (hu.1.2 (by omega))) (os ⟨⟨fs.s,fs.t,fs.o,?_⟩,S.on hv.2⟩)) fun _=>os ⟨fs,S.on hw.2⟩
  show (List.set _ _ _).length≤_
  rw [List.length_set]; exact fs.a
 ·refine oft (by omega) (by omega) (os ⟨⟨fs.s,fs.t,?_,fs.a⟩,S.on hw.2⟩)
  show (z.1.aD++[(0:Int)]).length≤_
  rw [List.length_append,List.length_singleton]; omega
end
end Go.Proofs.YtkhdhnpokfibjaaGreat
namespace Go.Proofs.YtkhdhnpokfibjaaGreat
open Go Go.Li
set_option linter.unusedVariables false
theorem join7 {n:Int} (n0:0≤n) (n1:n≤63) {rs:List (List Int)} (hr:∀ r∈rs,r.length=2∧∀ y∈r,0≤y∧y < n) (hl:rs.length≤1000):Ok (oI n rs) fun q=>(q.length:Int)=n:=by
 unfold oI
 refine orr (ol (fun z:List Int×Int=>(0≤z.2∧z.2≤n)∧(z.1.length:Int)=z.2) (fun z=>(n - z.2).toNat) ⟨⟨by show (0:Int)≤0; omega,by show (0:Int)≤_; omega⟩,rfl⟩ ?_)
 rintro ⟨l,i⟩ ⟨⟨i0,i1⟩,hl0⟩
 dsimp only at i0 i1 hl0
 show Ok (oF n l i) _
 unfold oF
 refine od (fun hi=>oft (by omega) (by omega) (os ⟨⟨⟨?_,?_⟩,?_⟩,?_⟩)) fun hi=>os ⟨rfl,?_⟩
 ·dsimp only; rw [w1 i0 hi (by omega)]; omega
 ·dsimp only; rw [w1 i0 hi (by omega)]; omega
 ·dsimp only; rw [w1 i0 hi (by omega),List.length_append,List.length_singleton]; omega
 ·dsimp only; rw [w1 i0 hi (by omega)]; omega
 refine ol (fun z:Int×List Int=>(0≤z.1∧z.1≤rs.length)∧(z.2.length:Int)=n) (fun z=>(rs.length - z.1).toNat) ⟨⟨by show (0:Int)≤0; omega,by show (0:Int)≤_; omega⟩,by dsimp only; omega⟩ ?_
 rintro ⟨j,ys⟩ ⟨⟨j0,j1⟩,hy⟩
 dsimp only at j0 j1 hy
 show Ok (oH rs j ys) _
 unfold oH
 refine od (fun hj=>?_) fun hj=>os ⟨rfl,ob (classes_ok (by omega)) fun q hq=>os (by show (q.length:Int)=n; have:=hq.1; omega)⟩
 have hw:=w1 j0 hj (by omega)
 have hrr:=hr _ (gr_mem j0 hj)
 have k0:=hrr.2 _ (gi_mem (l:=gr rs j) (j:=0) (by omega) (by omega))
 have k1:=hrr.2 _ (gi_mem (l:=gr rs j) (j:=1) (by omega) (by omega))
 refine oe (idx_gr j0 hj) (oe (cU (by omega) (by omega)) (oe (cU k0.1 (by omega)) (oe (idx_gr j0 hj) (oe (cU (by omega) (by omega)) (oe (cU k1.1 (by omega)) ?_)))))
 refine ol (fun z:Int×List Int=>(0≤z.1∧z.1≤z.2.length)∧(z.2.length:Int)=n) (fun z=>(z.2.length - z.1).toNat) ⟨⟨by show (0:Int)≤0; omega,by show (0:Int)≤_; omega⟩,hy⟩ ?_
 rintro ⟨k,zs⟩ ⟨⟨a0,a1⟩,hz⟩
 dsimp only at a0 a1 hz
 show Ok (oG _ _ k zs) _
 unfold oG
 refine ob (P:=fun g=>g=true→k < zs.length) (od (fun h=>os fun _=>h) fun _=>os fun h=>by cases h) fun g hg=>oc (fun eg=>?_) fun eg=>os ⟨rfl,os ⟨⟨⟨?_,?_⟩,hz⟩,?_⟩⟩
 ·have hk:=hg eg
  refine oe (cU a0 hk) (oc (fun _=>oe (cU a0 hk) (os ⟨⟨⟨?_,?_⟩,?_⟩,?_⟩)) fun _=>os ⟨⟨⟨?_,?_⟩,?_⟩,?_⟩)
  all_goals (try dsimp only)
  all_goals (try simp only [List.length_set])
  all_goals (try rw [w1 a0 hk (by omega)])
  all_goals omega
 all_goals (try dsimp only)
 all_goals rw [hw]
 all_goals omega
structure PP (c d:aI) (xs:List Int):Prop where
 len:(xs.length:Int)=c.aD
 ok:∀ y∈xs,y < d.aG.length
def cm1 (r:List Int):Nat:=(r.filter fun v=>v == -1).length
theorem cm1_le (r:List Int):cm1 r≤r.length:=List.length_filter_le _ _
theorem cm1_set {r:List Int} {d:Nat} {v:Int} (hv:0≤v) (hl:d < r.length) (hg:gi r d = -1):cm1 (r.set d v) < cm1 r:=by
 unfold cm1
 induction r generalizing d with
 | nil=>simp at hl
 | cons a r ih=>
  cases d with
  | zero=>
   have h:a = -1:=hg
   rw [List.set_cons_zero,List.filter_cons,if_neg (by simp; omega),List.filter_cons,if_pos (by simpa using h)]
   simp
  | succ d=>
   rw [List.set_cons_succ,List.filter_cons,List.filter_cons]
   have hg:gi r d = -1:=by
    have e:gi (a :: r) ((d+1:Nat):Int)=gi r (d:Int):=rfl
    rwa [e] at hg
   have:=ih (d:=d) (by simp at hl; omega) hg
   split <;> (try simp only [List.length_cons]) <;> omega
structure GS (c:aI) (f g:aN) (m:Int) (s:dY):Prop where
 f1:s.F=f
 g1:s.G=g
 i1:s.Iso=false
 m1:s.Most=m
 n1:(s.Found.length:Int)≤m
 q1:∀ q∈s.Found,(q.length:Int)=c.aD
section
variable {c d:aI} {f g:aN} (T:T7 c) (U:T7 d) (F:FF c d f) (G:FF c d g)
include T U F G
theorem squareOk {p:List Int} (hp:(p.length:Int)=c.aD) {a:Int} (a0:0≤a) (a1:a < c.aG.length) (h1:0≤gi p (gi c.aG a)∧gi p (gi c.aG a) < d.aG.length) (h2:0≤gi p (gi c.To a)∧gi p (gi c.To a) < d.aG.length):Ok (fX f g p a) fun _=>True:=by
 unfold fX
 rw [F.s,F.t]
 have fl:=F.ar.1.len
 have gl:=G.ar.1.len
 have kf:=T.t.fr a0 a1
 have kt:=T.t.to a0 a1
 have f0:=F.ar.2 a a0 a1
 have f1:=(F.ar.1.ok a a0 a1 f0).1
 have g0:=G.ar.2 a a0 a1
 have g1:=(G.ar.1.ok a a0 a1 g0).1
 exact orr (oe (cU a0 (by omega)) (oe (U.t.idxK f0 f1) (oe (T.t.idxT a0 a1) (oe (cU kt.1 (by omega)) (oe (U.t.idxC f0 f1 h2.1 h2.2) (oe (T.t.idxF a0 a1) (oe (cU kf.1 (by omega)) (oe (U.t.idxK h1.1 h1.2) (oe (cU a0 (by omega)) (oe (U.t.idxC h1.1 h1.2 g0 g1) (os trivial)))))))))))
theorem choicesOk {m:Int} {fd:List (List Int)} {xs:List Int} (P:PP c d xs) {x:Int} (x0:0≤x) (x1:x < c.aD):Ok (jQ (dY.mk f g false m fd) xs x) fun y=>y.length≤d.aG.length∧∀ v∈y,0≤v∧v < d.aG.length:=by
 have cm:=T.m
 have dm:=U.m
 have fo:=F.ol
 have go:=G.ol
 have pl:=P.len
 have co:=T.o
 unfold jQ
 dsimp only
 rw [F.t]
 refine orr (oe (cU x0 (by omega)) (oe (cU x0 (by omega)) (ob (homOk U.t.tl (by omega) _ _) fun hom hh=>?_)))
 have hhl:=hh.1
 refine ol (fun z:List Int×Int=>(0≤z.2∧z.2≤hom.length)∧(z.1.length:Int)≤z.2∧∀ v∈z.1,0≤v∧v < d.aG.length) (fun z=>(hom.length - z.2).toNat) ⟨⟨by show (0:Int)≤0; omega,by show (0:Int)≤_; omega⟩,by show (0:Int)≤0; omega,nil_all⟩ ?_
 rintro ⟨l,i⟩ ⟨⟨i0,i1⟩,hl,hv⟩
 dsimp only at i0 i1 hl hv
 show Ok (lV (dY.mk f g false m fd) xs x hom l i) _
 unfold lV
 dsimp only
 refine od (fun hi=>?_) fun hi=>os ⟨rfl,os ⟨by show l.length≤_; omega,hv⟩⟩
 refine ob (P:=fun g=>g=false) (oc (fun h=>by cases h) fun _=>os rfl) fun g2 hg2=>oc (fun e=>by rw [hg2] at e; cases e) fun _=>?_
 refine oe (specOwn0 xs (by omega)) (oe (cU i0 hi) (oe (cU x0 (by omega)) ?_))
 have kv:=(hh.2 _).1 (gi_mem i0 hi)
 have hp2:((xs.set x.toNat (gi hom i)).length:Int)=c.aD:=by rw [List.length_set]; exact pl
 have ho2:∀ y∈xs.set x.toNat (gi hom i),y < d.aG.length:=set_all P.ok kv.1.2
 refine ol (fun z:Bool×Int=>0≤z.2∧z.2≤c.aG.length) (fun z=>(c.aG.length - z.2).toNat) ⟨by show (0:Int)≤0; omega,by show (0:Int)≤_; omega⟩ ?_
 rintro ⟨b,j⟩ ⟨j0,j1⟩
 dsimp only at j0 j1
 show Ok (lU (dY.mk f g false m fd) x xs (gi hom i) b j) _
 unfold lU
 dsimp only
 generalize xs.set x.toNat (gi hom i)=p at hp2 ho2
 have fal:=F.ar.1.len
 refine ob (P:=fun g=>g=true→j < c.aG.length) (oc (fun _=>os fun h=>by have:=of_decide_eq_true h; omega) fun _=>os fun h=>(by cases h)) fun g3 hg3=>oc (fun eg=>?_) fun eg=>os ⟨rfl,?_⟩
 ·have hj:=hg3 eg
  have kf:=T.t.fr j0 hj
  have kt:=T.t.to j0 hj
  rw [F.s]
  have tail:Ok (idx p (gi c.aG j)>>=fun e=>bif decide (e < (0:Int)) then (some (true)) else ((idx p (gi c.To j))>>=fun e=>(bif decide (e < (0:Int)) then (some (true)) else ((fX f g p j)>>=fun y=>(some (y)))))) fun _=>True:=
   oe (cU kf.1 (by omega)) (od (fun _=>os trivial) fun n1=>oe (cU kt.1 (by omega)) (od (fun _=>os trivial) fun n2=>ob (squareOk T U F G hp2 j0 hj ⟨by omega,ho2 _ (gi_mem kf.1 (by omega))⟩ ⟨by omega,ho2 _ (gi_mem kt.1 (by omega))⟩) fun _ _=>os trivial))
  refine oe (T.t.idxF j0 hj) (oe (T.t.idxT j0 hj) (og (oc (fun _=>oc (fun _=>os trivial) fun _=>tail) fun _=>tail) fun g4=>os ⟨⟨?_,?_⟩,?_⟩))
  all_goals (try dsimp only)
  all_goals rw [w1 j0 hj (by omega)]
  all_goals omega
 ·refine oc (fun _=>oe (cU i0 hi) (oft (by omega) (by omega) (os ⟨⟨⟨?_,?_⟩,?_,app_all hv kv.1⟩,?_⟩))) fun _=>os ⟨⟨⟨?_,?_⟩,?_,hv⟩,?_⟩
  all_goals (try dsimp only)
  all_goals rw [w1 i0 hi (by omega)]
  all_goals (try simp only [List.length_append,List.length_singleton])
  all_goals omega
theorem goOk {m:Int} (hm:m≤100) (n:Nat):∀ {fd:List (List Int)} {xs:List Int} (_:PP c d xs) (_:cm1 xs < n) (_:(fd.length:Int) < m) (_:∀ q∈fd,(q.length:Int)=c.aD),Ok (iQ n (dY.mk f g false m fd) xs) (GS c f g m):=by
 have co:=T.o
 have dm:=U.m
 induction n with
 | zero=>intro fd xs _ h; omega
 | succ n ih=>
  intro fd xs P hn hf hq
  have S0:GS c f g m (dY.mk f g false m fd):=⟨rfl,rfl,rfl,rfl,by show (fd.length:Int)≤m; omega,hq⟩
  show Ok (oJ (iQ n) (dY.mk f g false m fd) xs) _
  unfold oJ
  have hpl:=P.len
  have hw0:w64 ((xs.length:Int) - 1)=xs.length - 1:=eX (by omega) (by omega)
  rw [hw0]
  refine off (ol (fun z:Int×Int=>(-1≤z.2∧z.2 < xs.length)∧(-1≤z.1∧z.1 < xs.length)∧(0≤z.1→gi xs z.1 = -1)) (fun z=>(z.2+1).toNat) ⟨⟨by dsimp only; omega,by dsimp only; omega⟩,⟨by dsimp only; omega,by dsimp only; omega⟩,fun h=>by dsimp only at h; omega⟩ ?_)
  rintro ⟨r,i⟩ ⟨⟨i0,i1⟩,⟨r0,r1⟩,hr⟩
  dsimp only at i0 i1 r0 r1 hr
  show Ok (pN (dY.mk f g false m fd) xs r i) _
  unfold pN
  refine od (fun hi=>?_) fun hi=>os ⟨rfl,?_⟩
  ·have hwm:w64 (i - 1)=i - 1:=eX (by omega) (by omega)
   refine oe (cU (by omega) i1) (oc (fun e=>?_) fun e=>os ⟨⟨⟨?_,?_⟩,⟨?_,?_⟩,?_⟩,?_⟩)
   ·have e:gi xs i = -1:=by simpa using e
    refine ob (choicesOk T U F G P (by omega) (by omega)) fun y hy=>oc (fun _=>os S0) fun _=>os ⟨⟨⟨?_,?_⟩,⟨?_,?_⟩,fun _=>e⟩,?_⟩
    all_goals (try dsimp only)
    all_goals (try rw [hwm])
    all_goals omega
   all_goals (try dsimp only)
   all_goals (try rw [hwm])
   all_goals first | omega | exact hr
  ·refine od (fun hr0=>oe (specOwn0 xs (by omega)) (oft (by show (fd.length+1) * 24≤_; omega) (by show fd.length+1≤_; omega) (os ⟨rfl,rfl,rfl,rfl,?_,app_all hq hpl⟩))) fun hr0=>ob (choicesOk T U F G P (by omega) (by omega)) fun y hy=>?_
   ·show ((fd++[xs]).length:Int)≤m
    rw [List.length_append,List.length_singleton]; omega
   have hyl:=hy.1
   refine ol (fun z:Int×Int×Int×Int×Int×Bool×Int×List (List Int)=>(0≤z.1∧z.1≤y.length)∧z.2.1=f.aA.aD∧z.2.2.1=f.aB.aD∧z.2.2.2.1=g.aA.aD∧z.2.2.2.2.1=g.aB.aD∧z.2.2.2.2.2.1=false∧z.2.2.2.2.2.2.1=m∧(z.2.2.2.2.2.2.2.length:Int)≤m∧∀ q∈z.2.2.2.2.2.2.2,(q.length:Int)=c.aD) (fun z=>(y.length - z.1).toNat) ⟨⟨by show (0:Int)≤0; omega,by show (0:Int)≤_; omega⟩,rfl,rfl,rfl,rfl,rfl,rfl,by dsimp only; omega,hq⟩ ?_
   rintro ⟨i,a,b,c1,c2,is,mo,fe⟩ ⟨⟨i0,i1⟩,ha,hb,hc,hd,hi2,hm2,hfl,hfq⟩
   dsimp only at i0 i1 ha hb hc hd hi2 hm2 hfl hfq
   subst ha hb hc hd hi2 hm2
   show Ok (pO (iQ n) (dY.mk f g false mo fd) xs r y i f.aA.aD f.aB.aD g.aA.aD g.aB.aD false mo fe) _
   unfold pO
   refine ob (P:=fun g=>g=true→i < y.length∧(fe.length:Int) < mo) (od (fun h=>os fun h2=>⟨h,of_decide_eq_true h2⟩) fun _=>os fun h=>(by cases h)) fun g3 hg3=>oc (fun eg=>?_) fun eg=>os ⟨rfl,os ⟨rfl,rfl,rfl,rfl,hfl,hfq⟩⟩
   obtain ⟨hi,hfe⟩:=hg3 eg
   have kv:=hy.2 _ (gi_mem i0 hi)
   refine oe (specOwn0 xs (by omega)) (oe (cU i0 hi) (oe (cU (by omega) r1) ?_))
   have P2:PP c d (xs.set r.toNat (gi y i)):=⟨by rw [List.length_set]; exact hpl,set_all P.ok kv.2⟩
   have hc:cm1 (xs.set r.toNat (gi y i)) < n:=by
    have:=cm1_set (r:=xs) (d:=r.toNat) kv.1 (by omega) (by rw [show ((r.toNat:Nat):Int)=r by omega]; exact hr (by omega))
    omega
   show Ok (iQ n (dY.mk f g false mo fe) (xs.set r.toNat (gi y i))>>=_) _
   refine ob (ih P2 hc hfe hfq) fun z hz=>os ⟨⟨⟨?_,?_⟩,?_,?_,?_,?_,hz.i1,hz.m1,hz.n1,hz.q1⟩,?_⟩
   ·dsimp only; rw [w1 i0 hi (by omega)]; omega
   ·dsimp only; rw [w1 i0 hi (by omega)]; omega
   ·dsimp only; rw [hz.f1]
   ·dsimp only; rw [hz.f1]
   ·dsimp only; rw [hz.g1]
   ·dsimp only; rw [hz.g1]
   ·dsimp only; rw [w1 i0 hi (by omega)]; omega
theorem all7Ok {m:Int} (m1:1≤m) (hm:m≤100):Ok (lB f g m) fun y=>(y.length:Int)≤m∧∀ q∈y,(q.length:Int)=c.aD:=by
 have cm:=T.m
 have co:=T.o
 have c0:=T.t.o0
 have dm:=U.m
 unfold lB
 suffices h:Ok (oO f g false m) fun y=>(y.length:Int)≤m∧∀ q∈y,(q.length:Int)=c.aD from orr (ob h fun y hy=>os hy)
 unfold oO
 refine orr (ol (fun z:List (List Int)×Int=>(0≤z.2∧z.2≤c.aG.length)∧(z.1.length:Int)=z.2∧∀ r∈z.1,r.length=2∧∀ y∈r,0≤y∧y < c.aD) (fun z=>(c.aG.length - z.2).toNat) ⟨⟨by show (0:Int)≤0; omega,by show (0:Int)≤_; omega⟩,rfl,nil_all⟩ ?_)
 rintro ⟨l,i⟩ ⟨⟨i0,i1⟩,hl,hv⟩
 dsimp only at i0 i1 hl hv
 show Ok (oL f l i) _
 unfold oL
 rw [F.s]
 refine od (fun hi=>?_) fun hi=>os ⟨rfl,?_⟩
 ·have kf:=T.t.fr i0 hi
  have kt:=T.t.to i0 hi
  refine oe (T.t.idxF i0 hi) (oe (T.t.idxT i0 hi) (oft (by omega) (by omega) (os ⟨⟨⟨?_,?_⟩,?_,app_all hv ⟨rfl,fun y hy=>?_⟩⟩,?_⟩)))
  ·dsimp only; rw [w1 i0 hi (by omega)]; omega
  ·dsimp only; rw [w1 i0 hi (by omega)]; omega
  ·dsimp only; rw [w1 i0 hi (by omega),List.length_append,List.length_singleton]; omega
  ·rcases List.mem_cons.1 hy with rfl | hy
   ·exact kf
   ·rw [List.mem_singleton.1 hy]; exact kt
  ·dsimp only; rw [w1 i0 hi (by omega)]; omega
 refine ob (join7 c0 co hv (by omega)) fun q hq=>?_
 refine ol (fun z:List Int×Int=>(0≤z.2∧z.2≤q.length)∧(z.1.length:Int)=z.2∧∀ v∈z.1,v < 0) (fun z=>(q.length - z.2).toNat) ⟨⟨by show (0:Int)≤0; omega,by show (0:Int)≤_; omega⟩,rfl,nil_all⟩ ?_
 rintro ⟨l1,k⟩ ⟨⟨k0,k1⟩,hl1,hv1⟩
 dsimp only at k0 k1 hl1 hv1
 show Ok (oN f g false q l1 k) _
 unfold oN
 refine od (fun hk=>oft (by omega) (by omega) ?_) fun hk=>os ⟨rfl,ob (goOk T U F G hm 64 ⟨by omega,fun y hy=>by have:=hv1 y hy; omega⟩ (by have:=cm1_le l1; omega) (by simp; omega) nil_all) fun y hy=>os ⟨hy.n1,hy.q1⟩⟩
 refine ol (fun z:List Int×Int=>(0≤z.2∧z.2≤q.length)∧(z.1.length:Int)=z.2∧∀ v∈z.1,v < 0) (fun z=>(q.length - z.2).toNat) ⟨⟨by show (0:Int)≤0; omega,by show (0:Int)≤_; omega⟩,rfl,nil_all⟩ ?_
 rintro ⟨l2,e⟩ ⟨⟨e0,e1⟩,hl2,hv2⟩
 dsimp only at e0 e1 hl2 hv2
 show Ok (oM q k l2 e) _
 unfold oM
 refine od (fun he=>oe (cU e0 he) (oc (fun _=>oft (by omega) (by omega) (os ⟨⟨⟨?_,?_⟩,?_,app_all hv2 (by omega)⟩,?_⟩)) fun _=>oft (by omega) (by omega) (os ⟨⟨⟨?_,?_⟩,?_,app_all hv2 (by omega)⟩,?_⟩))) fun he=>os ⟨rfl,ob (goOk T U F G (m:=1) (by omega) 64 ⟨by omega,fun y hy=>by have:=hv2 y hy; omega⟩ (by have:=cm1_le l2; omega) (by simp) nil_all) fun y hy=>oc (fun _=>os ⟨by show ((0:Nat):Int)≤m; omega,nil_all⟩) fun _=>os ⟨⟨⟨?_,?_⟩,?_,app_all hv1 (by omega)⟩,?_⟩⟩
 all_goals (try dsimp only)
 all_goals first | rw [w1 e0 he (by omega)] | rw [w1 k0 hk (by omega)]
 all_goals (try simp only [List.length_append,List.length_singleton])
 all_goals omega
end
theorem ty_cat {c:aI} (C:Cat c):T7 c:=by
 have m:=C.m
 have o8:=C.o8
 have kr:∀ r∈c.aF,r.length=c.aG.length:=fun r hr=>by
  obtain ⟨i,i0,i1,rfl⟩:=mem_gr hr
  exact C.row i i0 (by rw [← C.kl]; exact i1)
 refine ⟨⟨C.o0,C.f,C.tl,C.t,C.kl,kr,C.il,C.i,C.idf,C.idt,fun f g f0 f1 g0 g1 e=>?_,C.none,fun x x0 x1=>?_⟩,by omega,by omega,⟨by omega,by rw [C.tl]; omega,by have:=C.il; omega,by rw [C.kl]; omega,fun r hr=>by rw [kr r hr]; omega⟩⟩
 ·have k:=C.cell f g f0 f1 g0 g1 e
  exact ⟨⟨k.1,k.2.1⟩,k.2.2⟩
 ·have k:=C.id x0 x1
  have h:=C.unitL _ k.1 k.2
  rw [C.idf x x0 x1] at h
  exact h
theorem ff_fun {f:aN} (F:Fun f):FF f.aA f.aB f:=⟨rfl,rfl,F.ol,F.oo,⟨F.al,fun a a0 a1 _=>⟨(F.ar a0 a1).2,F.fr a a0 a1,F.to a a0 a1⟩⟩,fun a a0 a1=>(F.ar a0 a1).1⟩
theorem ft_fun {f:aN} (F:Fun f):FT f.aA f.aB f.aD f.Arrows:=⟨F.ol,F.oo,fun a a0 a1=>⟨F.ar a0 a1,F.fr a a0 a1,F.to a a0 a1⟩,F.un,F.co⟩
theorem self7 {c d:aI} {f:aN} (U:T7 d) (F:FF c d f) (fs:FSmall f):kI f=some (thenS f.aD f.aB.aJ):=by
 unfold kI
 rw [specThenL _ _ fs.o (fun x hx=>by have:=F.oo x hx; have:=U.t.il; rw [F.t]; omega)]; rfl
section
variable {x:List Int} (B:Byt x) {s:aL} (S:Src x s)
include B S
theorem numOk (n:Int):Ok (kJ s n) fun y=>Src x y.2:=by
 unfold kJ
 exact orr (ob (nextOk B S _) fun y hy=>oc (fun _=>ob (pickOk B (S.on hy.2) (by simp)) fun z hz=>os (S.on hz.2)) fun _=>ob (nextOk B (S.on hy.2) _) fun z hz=>os (S.on hz.2))
theorem pair7Ok:Ok (oE s) fun y=>(FSmall y.1∧FSmall y.2.1)∧Src x y.2.2:=by
 unfold oE
 refine orr (ob (draw6Ok B S) fun y hy=>ob (nextOk B (S.on hy.2) _) fun z hz=>oc (fun _=>ob (draw6Ok B (S.on hz.2)) fun w hw=>os ⟨⟨hy.1,hw.1⟩,S.on hw.2⟩) fun _=>oc (fun _=>os ⟨⟨hy.1,hy.1⟩,S.on hz.2⟩) fun _=>oc (fun _=>os ⟨⟨hy.1,hy.1⟩,S.on hz.2⟩) fun _=>?_)
 refine ob (P:=fun g=>g=true→funB y.1=true) (oe (specIsFun hy.1) (oc (fun h=>ob (smallOk (ty_cat (fun_of h).c) (ty_cat (fun_of h).d)) fun b _=>os fun _=>h) fun _=>os fun h=>(by cases h))) fun g hg=>oc (fun e=>?_) fun _=>os ⟨⟨hy.1,hy.1⟩,S.on hz.2⟩
 have F:=fun_of (hg e)
 refine ob (allOk (ty_cat F.c) (ty_cat F.d)) fun l hl=>ob (nextOk B (S.on hz.2) _) fun w hw=>oi hw.1.1 (hw.1.2 (by have:=hl.2.2 _ _ (ft_fun F); omega)) fun f hf=>os ⟨⟨hy.1,(hl.2.1 f hf).small (ty_cat F.c) (ty_cat F.d)⟩,S.on hw.2⟩
theorem draw7Ok:Ok (jJ s) fun y=>TSmall y.1∧Src x y.2:=by
 unfold jJ
 refine orr (ob (pair7Ok B S) fun y hy=>?_)
 obtain ⟨⟨hf,hg⟩,S1⟩:=hy
 refine ob (P:=fun g=>g=false→funB y.1=true∧funB y.2.1=true∧(sameB y.1.aA y.2.1.aA && sameB y.1.aB y.2.1.aB)=true) ?_ fun g hgd=>oc (fun _=>os ⟨⟨hf,hg,by show (0:Nat)≤_; omega⟩,S.on S1⟩) fun e=>?_
 ·refine oe (specIsFun hf) (oc (fun _=>os fun h=>(by cases h)) fun h1=>oe (specIsFun hg) (oc (fun _=>os fun h=>(by cases h)) fun h2=>oe (specParallel hf) (os fun h3=>?_)))
  exact ⟨by simpa using h1,by simpa using h2,by simpa using h3⟩
 obtain ⟨h1,h2,h3⟩:=hgd e
 rw [Bool.and_eq_true,sameB_eq,sameB_eq] at h3
 have F:=fun_of h1
 have T:=ty_cat F.c
 have U:=ty_cat F.d
 have Ff:=ff_fun F
 have Fg:FF y.1.aA y.1.aB y.2.1:=by
  have:=ff_fun (fun_of h2)
  rwa [← h3.1,← h3.2] at this
 have co:=T.o
 refine ob (all7Ok T U Ff Fg (by omega) (by omega)) fun l hl=>od (fun h0=>ob (nextOk B (S.on S1) _) fun z hz=>oi hz.1.1 (hz.1.2 (by omega)) fun q hq=>ob (nextOk B (S.on hz.2) _) fun w hw=>?_) fun _=>?_
 ·have ql:=hl.2 q hq
  have small:∀ p:List Int,p.length=q.length→TSmall (aM.mk y.1 y.2.1 p):=fun p hp=>⟨hf,hg,by show p.length≤_; omega⟩
  exact oc (fun _=>od (fun hq0=>oe (specOwn0 q (by omega)) (ob (nextOk B (S.on hw.2) _) fun u hu=>ob (numOk B (S.on hu.2) _) fun v hv=>oe (cU hu.1.1 (hu.1.2 (by omega))) (os ⟨small _ (by rw [List.length_set]),S.on hv⟩))) fun _=>os ⟨small _ rfl,S.on hw.2⟩) fun _=>os ⟨small _ rfl,S.on hw.2⟩
 ·have sl:(thenS y.1.aD y.1.aB.aJ).length≤1048576:=by rw [thenS_len]; exact hf.o
  refine oe (self7 U Ff hf) (oe (specMake7 hf hf sl) (ob (nextOk B (S.on S1) _) fun w hw=>?_))
  have small:∀ p:List Int,p.length≤1048576→TSmall (aM.mk y.1 y.1 p):=fun p hp=>⟨hf,hf,hp⟩
  dsimp only
  exact oc (fun _=>od (fun hq0=>oe (specOwn0 _ sl) (ob (nextOk B (S.on hw.2) _) fun u hu=>ob (numOk B (S.on hu.2) _) fun v hv=>oe (cU hu.1.1 (hu.1.2 (by omega))) (os ⟨small _ (by rw [List.length_set]; exact sl),S.on hv⟩))) fun _=>os ⟨small _ sl,S.on hw.2⟩) fun _=>os ⟨small _ sl,S.on hw.2⟩
end
theorem Src.on' {x:List Int} {t:aL} {h:Int} (T:Src x t):Src x (aL.mk x t.At h):=⟨rfl,T.a0,T.a1⟩
theorem drawHor {x:List Int} (B:Byt x):Ok (fY x) fun y=>TSmall y.1∧TSmall y.2:=by
 unfold fY
 refine orr (ob (fromOk B) fun y hy=>?_)
 obtain ⟨s,rfl,S⟩:=hy
 show Ok (jJ (aL.mk x s.At s.Hash)>>=_) _
 refine ob (draw7Ok B S.on') fun t ht=>oe (specIs7 ht.1) (oc (fun _=>ob (draw7Ok B ht.2.on') fun w hw=>os ⟨ht.1,hw.1⟩) fun e=>?_)
 have N:=nat_of (show natB t.1=true by simpa using e)
 have T:=ty_cat N.f.d
 refine ob (nextOk B ht.2.on' _) fun z hz=>oc (fun _=>ob (draw7Ok B hz.2.on') fun w hw=>os ⟨ht.1,hw.1⟩) fun _=>ob (someF B hz.2.on' T (by omega) (by omega)) fun w hw=>?_
 obtain ⟨⟨d,U,F,n7⟩,S2⟩:=hw
 have fs:=F.small T U
 have co:=T.o
 have sl:(thenS w.1.aD w.1.aB.aJ).length≤1048576:=by rw [thenS_len]; exact fs.o
 obtain ⟨b,eb,_⟩:=smallOk T U
 rw [← F.s,← F.t] at eb
 refine oe eb (oc (fun hb=>?_) fun _=>?_)
 ·subst hb
  rw [F.s,F.t] at eb
  obtain ⟨l,el,hl⟩:=allOk T U
  have hne:=n7 l eb el
  rw [← F.s,← F.t] at el
  refine oe el (ob (nextOk B S2.on' _) fun u hu=>oi hu.1.1 (hu.1.2 (by omega)) fun g hg=>?_)
  have G:=hl.2.1 g hg
  have gs:=G.small T U
  refine ob (all7Ok T U F G (by omega) (by omega)) fun p hp=>od (fun h0=>ob (nextOk B hu.2.on' _) fun v hv=>oi hv.1.1 (hv.1.2 (by omega)) fun q hq=>?_) fun _=>oe (self7 U F fs) (oe (specMake7 fs fs sl) (os ⟨ht.1,⟨fs,fs,sl⟩⟩))
  have ql:q.length≤1048576:=by have:=hp.2 q hq; omega
  exact oe (specMake7 fs gs ql) (os ⟨ht.1,⟨fs,gs,ql⟩⟩)
 ·refine ob (all7Ok T U F F (by omega) (by omega)) fun p hp=>od (fun h0=>ob (nextOk B S2.on' _) fun v hv=>oi hv.1.1 (hv.1.2 (by omega)) fun q hq=>?_) fun _=>oe (self7 U F fs) (oe (specMake7 fs fs sl) (os ⟨ht.1,⟨fs,fs,sl⟩⟩))
  have ql:q.length≤1048576:=by have:=hp.2 q hq; omega
  exact oe (specMake7 fs fs ql) (os ⟨ht.1,⟨fs,fs,ql⟩⟩)
end Go.Proofs.YtkhdhnpokfibjaaGreat
