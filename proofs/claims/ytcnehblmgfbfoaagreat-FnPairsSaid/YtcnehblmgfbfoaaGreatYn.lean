/- Functors that are looked for in depth: the reference's search does not fail, and finds one where there is one. No condition beside those that each theorem names. -/
import Derived.Test.YtcnehblmgfbfoaaGreatYi
import Derived.Test.YtcnehblmgfbfoaaGreatYk
set_option linter.unusedVariables false
set_option linter.unusedSectionVars false
set_option linter.unusedSimpArgs false
namespace Go.Proofs.YtcnehblmgfbfoaaGreat
open Go Go.Li
set_option linter.unusedVariables false
set_option linter.unusedSectionVars false
def q9 (r:List Int):Nat:=(r.filter fun v=>decide (v < 0)).length
theorem Ib {r:List Int} {d:Nat} {v:Int} (hv:0≤v):q9 (r.set d v)≤q9 r∧(d < r.length→gi r d < 0→q9 (r.set d v) < q9 r):=by
 unfold q9
 induction r generalizing d with
 | nil=>exact ⟨by simp,fun h=>by simp at h⟩
 | cons a r ih=>
  cases d with
  | zero=>
   have e0:(List.filter (fun v=>decide (v < 0)) (v :: r))=List.filter (fun v=>decide (v < 0)) r:=by rw [List.filter_cons,if_neg (by simp; omega)]
   rw [List.set_cons_zero,e0,List.filter_cons]
   refine ⟨by split <;> simp,fun _ h=>?_⟩
   have h:a < 0:=h
   rw [if_pos (by simpa using h)]; simp
  | succ d=>
   rw [List.set_cons_succ,List.filter_cons,List.filter_cons]
   obtain ⟨h1,h2⟩:=ih (d:=d)
   refine ⟨by split <;> (try simp only [List.length_cons]) <;> omega,fun hl hg=>?_⟩
   have hg:gi r d < 0:=by
    have e:gi (a :: r) ((d+1:Nat):Int)=gi r (d:Int):=rfl
    rwa [e] at hg
   have:=h2 (by simp at hl; omega) hg
   split <;> (try simp only [List.length_cons]) <;> omega
theorem Pj {c:aD} (hl:c.To.length=c.aB.length) (hm:c.aB.length≤100000) (x y:Int):Ok (kQ c x y) fun l=>l.length≤c.aB.length∧∀ f,f∈l↔(0≤f∧f < c.aB.length)∧gi c.aB f=x∧gi c.To f=y:=by
 unfold kQ
 refine km (ol (fun z:List Int×Int=>(0≤z.2∧z.2≤c.aB.length)∧(z.1.length:Int)≤z.2∧∀ f,f∈z.1↔(0≤f∧f < z.2)∧gi c.aB f=x∧gi c.To f=y) (fun z=>(c.aB.length - z.2).toNat) ⟨⟨by show (0:Int)≤0; omega,by show (0:Int)≤_; omega⟩,by show (0:Int)≤0; omega,fun f=>⟨(fun h=>nomatch h),fun h=>by have:=h.1; omega⟩⟩ ?_)
 rintro ⟨l,i⟩ ⟨⟨i0,i1⟩,BL,s6⟩
 dsimp only at i0 i1 BL s6
 show Ok (mJ c x y l i) _
 unfold mJ
 refine od (fun hi=>?_) fun hi=>os ⟨rfl,os ⟨by omega,fun f=>(s6 f).trans ⟨fun h=>⟨⟨h.1.1,by omega⟩,h.2⟩,fun h=>⟨⟨h.1.1,by omega⟩,h.2⟩⟩⟩⟩
 have hw:=w1 i0 hi (by omega)
 refine oe (x:=(gi c.aB i == x && gi c.To i == y)) (by rw [bV i0 hi,aE,bV i0 (by omega),aE,qQ,Gs]) (oc (fun eg=>fw (by omega) (by omega) (os ⟨⟨⟨?_,?_⟩,?_,fun f=>?_⟩,?_⟩)) fun eg=>os ⟨⟨⟨?_,?_⟩,?_,fun f=>?_⟩,?_⟩)
 all_goals try dsimp only
 all_goals rw [hw]
 all_goals first | (simp only [List.length_append,List.length_singleton]; omega) | omega | skip
 ·simp only [Bool.and_eq_true,beq_iff_eq] at eg
  rw [List.mem_append,List.mem_singleton,s6 f]
  constructor
  ·rintro (h | rfl)
   ·exact ⟨⟨h.1.1,by omega⟩,h.2⟩
   ·exact ⟨⟨i0,by omega⟩,eg⟩
  ·rintro ⟨h,h2⟩
   by_cases e:f=i
   ·exact .inr e
   ·exact .inl ⟨⟨h.1,by omega⟩,h2⟩
 ·rw [s6 f]
  constructor
  ·exact fun h=>⟨⟨h.1.1,by omega⟩,h.2⟩
  ·rintro ⟨h,h2⟩
   by_cases e:f=i
   ·subst e
    rw [h2.1,h2.2] at eg
    simp at eg
   ·exact ⟨⟨h.1,by omega⟩,h2⟩
structure PA (c d:aD) (xs ys:List Int):Prop where
 len:ys.length=c.aB.length
 ok:∀ a:Int,0≤a→a < c.aB.length→0≤gi ys a→gi ys a < d.aB.length∧gi d.aB (gi ys a)=gi xs (gi c.aB a)∧gi d.To (gi ys a)=gi xs (gi c.To a)
theorem PA.set {c d:aD} {xs ys:List Int} (P:PA c d xs ys) {a v:Int} (a0:0≤a) (a1:a < c.aB.length) (h:0≤v→v < d.aB.length∧gi d.aB v=gi xs (gi c.aB a)∧gi d.To v=gi xs (gi c.To a)):PA c d xs (ys.set a.toNat v):=by
 have hl:=P.len
 refine ⟨by rw [List.length_set]; exact hl,fun b b0 b1=>?_⟩
 rw [qb a0 (by omega) b0]
 by_cases e:b=a
 ·rw [if_pos e,e]; exact h
 ·rw [if_neg e]; exact P.ok b b0 b1
def JB (c d:aD) (A:List Int):Prop:=∀ a b:Int,0≤a→a < c.aB.length→0≤b→b < c.aB.length→gi c.To a=gi c.aB b→gi A (gk c.aC a b)=gk d.aC (gi A a) (gi A b)
def yG (c:aD) (ys A:List Int):Prop:=∀ a:Int,0≤a→a < c.aB.length→0≤gi ys a→gi ys a=gi A a
structure FJ (c d:aD) (xs v7 ys:List Int):Prop where
 p:PA c d xs ys
 mono:∀ a:Int,0≤a→0≤gi v7 a→gi ys a=gi v7 a
 ext:∀ A,JB c d A→yG c v7 A→yG c ys A
 ng:q9 ys≤q9 v7
section
variable {c d:aD} {xs v7 ys:List Int} (T:Ty c) (U:Ty d)
include T U
theorem FJ.step (J:FJ c d xs v7 ys) {a b:Int} (a0:0≤a) (a1:a < c.aB.length) (b0:0≤b) (b1:b < c.aB.length) (hh:0≤gk c.aC a b) (ha:0≤gi ys a) (hb:0≤gi ys b) :
  gk c.aC a b < c.aB.length∧gi ys a < d.aB.length∧gi ys b < d.aB.length∧
  ((0≤gi ys (gk c.aC a b)→gi ys (gk c.aC a b)=gk d.aC (gi ys a) (gi ys b))→FJ c d xs v7 (ys.set (gk c.aC a b).toNat (gk d.aC (gi ys a) (gi ys b)))∧q9 (ys.set (gk c.aC a b).toNat (gk d.aC (gi ys a) (gi ys b)))≤q9 ys∧(gi ys (gk c.aC a b) < 0→q9 (ys.set (gk c.aC a b).toNat (gk d.aC (gi ys a) (gi ys b))) < q9 ys))∧
  (0≤gi ys (gk c.aC a b)→gi ys (gk c.aC a b)≠gk d.aC (gi ys a) (gi ys b)→∀ A,JB c d A→¬ yG c v7 A):=by
 have e:gi c.To a=gi c.aB b:=Classical.byContradiction fun ne=>by
  have:=T.none a b a0 a1 b0 b1 ne
  omega
 have k:=T.cell a b a0 a1 b0 b1 e
 have pa:=J.p.ok a a0 a1 ha
 have pb:=J.p.ok b b0 b1 hb
 have m:=U.cell _ _ ha pa.1 hb pb.1 (by rw [pa.2.2,pb.2.1,e])
 have hl:=J.p.len
 refine ⟨k.1.2,pa.1,pb.1,fun hc=>?_,fun h0 pN A hA hE=>pN ?_⟩
 ·have hn:=Ib (r:=ys) (d:=(gk c.aC a b).toNat) m.1.1
  refine ⟨⟨J.p.set hh k.1.2 fun _=>⟨m.1.2,by rw [m.2.1,pa.2.1,k.2.1],by rw [m.2.2,pb.2.2,k.2.2]⟩,fun x x0 hx=>?_,fun A hA hE=>?_,by have:=J.ng; omega⟩,hn.1,fun GA=>hn.2 (by omega) (by rw [show (((gk c.aC a b).toNat:Nat):Int)=gk c.aC a b by omega]; exact GA)⟩
  ·have hm:=J.mono x x0 hx
   rw [qb hh (by omega) x0]
   by_cases ex:x=gk c.aC a b
   ·rw [if_pos ex]
    rw [← ex] at hc
    rw [← hc (by omega),hm]
   ·rw [if_neg ex]; exact hm
  ·have GB:=J.ext A hA hE
   intro x x0 x1 hx
   rw [qb hh (by omega) x0] at hx ⊢
   by_cases ex:x=gk c.aC a b
   ·rw [if_pos ex,ex,hA a b a0 a1 b0 b1 e,← GB a a0 a1 ha,← GB b b0 b1 hb]
   ·rw [if_neg ex] at hx ⊢
    exact GB x x0 x1 hx
 ·have GB:=J.ext A hA hE
  rw [GB _ hh k.1.2 h0,hA a b a0 a1 b0 b1 e,← GB a a0 a1 ha,← GB b b0 b1 hb]
theorem Qm (cm:c.aB.length≤1000) (P:PA c d xs v7):Ok (kT c d v7) fun y=>(y.1=true→FJ c d xs v7 y.2)∧(y.1=false→∀ A,JB c d A→¬ yG c v7 A):=by
 unfold kT
 refine km (ol (fun z:Bool×List Int=>FJ c d xs v7 z.2) (fun z=>(if z.1 then 1 else 0)+q9 z.2) ⟨P,fun _ _ _=>rfl,fun _ _ h=>h,Nat.le_refl _⟩ ?_)
 rintro ⟨more,Lz⟩ J0
 dsimp only at J0
 show Ok (lD c d more Lz) _
 unfold lD
 refine oc (fun Pk=>?_) fun Pk=>os ⟨rfl,os ⟨fun _=>J0,fun h=>by cases h⟩⟩
 subst Pk
 refine ol (fun z:Bool×Int×List Int=>(0≤z.2.1∧z.2.1≤c.aB.length)∧FJ c d xs v7 z.2.2∧q9 z.2.2≤q9 Lz∧(z.1=true→q9 z.2.2 < q9 Lz)) (fun z=>(c.aB.length - z.2.1).toNat) ⟨⟨by show (0:Int)≤0; omega,by show (0:Int)≤_; omega⟩,J0,Nat.le_refl _,fun h=>by cases h⟩ ?_
 rintro ⟨more,a,ys2⟩ ⟨⟨a0,a1⟩,J1,n1,n2⟩
 dsimp only at a0 a1 J1 n1 n2
 show Ok (lC c d more a ys2) _
 unfold lC
 rw [J1.p.len]
 refine od (fun ha=>?_) fun ha=>os ⟨rfl,os ⟨J1,?_⟩⟩
 ·refine ol (fun z:Bool×Int×List Int=>(0≤z.2.1∧z.2.1≤c.aB.length)∧FJ c d xs v7 z.2.2∧q9 z.2.2≤q9 Lz∧(z.1=true→q9 z.2.2 < q9 Lz)) (fun z=>(c.aB.length - z.2.1).toNat) ⟨⟨by show (0:Int)≤0; omega,by show (0:Int)≤_; omega⟩,J1,n1,n2⟩ ?_
  rintro ⟨more,b,DX⟩ ⟨⟨b0,b1⟩,J2,m1,m2⟩
  dsimp only at b0 b1 J2 m1 m2
  show Ok (lB c d a more b DX) _
  unfold lB
  rw [J2.p.len]
  have hw:=w1 a0 ha (by omega)
  refine od (fun hb=>?_) fun hb=>os ⟨rfl,os ⟨⟨⟨?_,?_⟩,J2,m1,m2⟩,?_⟩⟩
  ·have hwb:=w1 b0 hb (by omega)
   have hl:=J2.p.len
   refine oe (T.mx a0 ha) (oe (T.l8 a0 ha b0 hb) ?_)
   have ht:=T.uX a0 ha b0 hb
   refine oe (x:=(decide (gk c.aC a b < 0) || (decide (gi DX a < 0) || decide (gi DX b < 0)))) ?_ (oc (fun eg=>os ⟨⟨⟨?_,?_⟩,J2,m1,m2⟩,?_⟩) fun eg=>?_)
   ·rw [bV a0 (by omega),aE,bV b0 (by omega),aE,qQ,xB,qQ,xB]
   ·dsimp only; omega
   ·dsimp only; omega
   ·dsimp only; omega
   simp only [Bool.or_eq_false_iff,decide_eq_false_iff_not] at eg
   obtain ⟨g1,g2,g3⟩:=eg
   obtain ⟨s1,s2,s3,s4,s5⟩:=J2.step T U a0 ha b0 hb (by omega) (by omega) (by omega)
   refine oe (bV a0 (by omega)) (oe (U.mx (by omega) s2) (oe (bV b0 (by omega)) (oe (U.l8 (by omega) s2 (by omega) s3) ?_)))
   refine oe (x:=(decide (gi DX (gk c.aC a b) ≥ 0) && (gi DX (gk c.aC a b) != gk d.aC (gi DX a) (gi DX b)))) ?_ (oc (fun eg=>os ?_) fun eg=>?_)
   ·rw [bV (by omega) (by omega),aE,aE,qQ,Gs]
   ·simp only [Bool.and_eq_true,decide_eq_true_eq,bne_iff_ne] at eg
    exact ⟨fun h=>(by cases h),fun _=>s5 eg.1 eg.2⟩
   ·obtain ⟨q1,q2,q3⟩:=s4 (fun h=>by
     rw [decide_eq_true (by omega),Bool.true_and] at eg
     simpa using eg)
    refine oe (x:=(more || decide (gi DX (gk c.aC a b) < 0))) ?_ (oe (bV (by omega) (by omega)) (os ⟨⟨⟨?_,?_⟩,q1,by dsimp only; omega,fun h=>?_⟩,?_⟩))
    ·rw [bV (by omega) (by omega),aE,qQ,xB]
    ·dsimp only; omega
    ·dsimp only; omega
    ·dsimp only at h ⊢
     rw [Bool.or_eq_true,decide_eq_true_eq] at h
     rcases h with h | h
     ·have:=m2 h; omega
     ·have:=q3 h; omega
    ·dsimp only; omega
  all_goals dsimp only
  all_goals rw [hw]
  all_goals omega
 ·dsimp only
  cases more with
  | true=>have:=n2 rfl; simp; omega
  | false=>simp; omega
end
structure FT (c d:aD) (O A:List Int):Prop where
 ol:(O.length:Int)=c.aA
 oo:∀ y∈O,0≤y∧y < d.aA
 ar:∀ a:Int,0≤a→a < c.aB.length→(0≤gi A a∧gi A a < d.aB.length)∧gi d.aB (gi A a)=gi O (gi c.aB a)∧gi d.To (gi A a)=gi O (gi c.To a)
 un:∀ x:Int,0≤x→x < c.aA→gi A (gi c.aF x)=gi d.aF (gi O x)
 co:JB c d A
def Full (c d:aD) (xs q:List Int):Prop:=PA c d xs q∧∀ a:Int,0≤a→a < c.aB.length→0≤gi q a
section
variable {c d:aD} {xs:List Int} (T:Ty c) (U:Ty d) (cm:c.aB.length≤1000) (dm:d.aB.length≤1000) (hob:(xs.length:Int)=c.aA) (Kk:∀ y∈xs,0≤y∧y < d.aA)
include T U cm dm hob Kk
theorem N0 (n:Nat):∀ {ys:List Int} {f:Int} {found:List (List Int)} (_:PA c d xs ys) (_:0≤f) (_:f≤c.aB.length) (_:∀ a:Int,0≤a→a < f→0≤gi ys a) (_:q9 ys < n) (_:found.length≤200) (_:∀ q∈found,Full c d xs q),
  Ok (eX n c d xs ys f found) fun y=>found.length≤y.length∧y.length≤201∧(∀ q∈y,Full c d xs q)∧∀ A,FT c d xs A→yG c ys A→0 < y.length:=by
 induction n with
 | zero=>intro ys f found _ _ _ _ h; omega
 | succ n ih=>
  intro ys f found P f0 f1 GC hng RL dp
  show Ok (iO (eX n) c d xs ys f found) _
  unfold iO
  have hl:=P.len
  refine km (ol (fun z:Int=>(0≤z∧z≤c.aB.length)∧∀ a:Int,0≤a→a < z→0≤gi ys a) (fun z=>(c.aB.length - z).toNat) ⟨⟨f0,f1⟩,GC⟩ ?_)
  rintro f ⟨⟨f0,f1⟩,GC⟩
  unfold mY
  rw [hl]
  refine ob (P:=fun g=>(g=true→f < c.aB.length∧0≤gi ys f)∧(g=false→f < c.aB.length→gi ys f < 0)) (od (fun h=>oe (bV f0 (by omega)) (os ⟨fun h2=>⟨h,of_decide_eq_true h2⟩,fun h2 _=>by have:=of_decide_eq_false h2; omega⟩)) fun h=>os ⟨fun h2=>(by cases h2),fun _ h2=>absurd h2 h⟩) fun g hg=>oc (fun eg=>os ⟨⟨⟨?_,?_⟩,fun a a0 a1=>?_⟩,?_⟩) fun eg=>os ⟨rfl,?_⟩
  ·have:=hg.1 eg; rw [w1 f0 this.1 (by omega)]; omega
  ·have:=hg.1 eg; rw [w1 f0 this.1 (by omega)]; omega
  ·have:=hg.1 eg
   rw [w1 f0 this.1 (by omega)] at a1
   by_cases e:a=f
   ·rw [e]; exact this.2
   ·exact GC a a0 (by omega)
  ·have:=hg.1 eg; rw [w1 f0 this.1 (by omega)]; dsimp only; omega
  have GA:=hg.2 eg
  refine oc (fun e=>?_) fun e=>?_
  ·have e:f=c.aB.length:=by simpa using e
   refine oe (jc ys (by omega)) (fw (by omega) (by omega) (os ⟨?_,?_,jw dp ⟨P,fun a a0 a1=>GC a a0 (by omega)⟩,fun A _ _=>?_⟩))
   all_goals simp only [List.length_append,List.length_singleton]
   all_goals omega
  ·have e : ¬ f=c.aB.length:=by simpa using e
   have hf:f < c.aB.length:=by omega
   have GA:=GA hf
   have kf:=T.fr f0 hf
   have kt:=T.to f0 hf
   refine oe (T.j5 f0 hf) (oe (bV kf.1 (by omega)) (oe (T.ke f0 hf) (oe (bV kt.1 (by omega)) (ob (Pj U.tl (by omega) _ _) fun tQ hh=>?_))))
   refine ol (fun z:List (List Int)×Int=>(0≤z.2∧z.2≤tQ.length)∧(found.length≤z.1.length∧z.1.length≤201)∧(∀ q∈z.1,Full c d xs q)∧∀ A,FT c d xs A→yG c ys A→0 < z.1.length∨∀ j:Int,0≤j→j < z.2→gi tQ j≠gi A f) (fun z=>(tQ.length - z.2).toNat) ⟨⟨by show (0:Int)≤0; omega,by show (0:Int)≤_; omega⟩,⟨Nat.le_refl _,by dsimp only; omega⟩,dp,fun A _ _=>.inr fun j j0 j1=>by dsimp only at j1; omega⟩ ?_
   rintro ⟨fd,i⟩ ⟨⟨i0,i1⟩,⟨h1,h2⟩,h3,h4⟩
   dsimp only at i0 i1 h1 h2 h3 h4
   show Ok (kF (eX n) c d xs ys f tQ fd i) _
   unfold kF
   refine ob (P:=fun g=>(g=true→i < tQ.length∧fd.length≤200)∧(g=false→tQ.length≤i∨200 < fd.length)) (od (fun h=>os ⟨fun h2=>⟨h,by have:=of_decide_eq_true h2; omega⟩,fun h2=>.inr (by have:=of_decide_eq_false h2; omega)⟩) fun h=>os ⟨fun h2=>(by cases h2),fun _=>.inl (by omega)⟩) fun g hg=>oc (fun eg=>?_) fun eg=>os ⟨rfl,os ⟨h1,h2,h3,fun A hA hE=>?_⟩⟩
   ·obtain ⟨hi,Pl⟩:=hg.1 eg
    have hw:=w1 i0 hi (by omega)
    have hv:=(hh.2 _).1 (gw i0 hi)
    have P2:PA c d xs (ys.set f.toNat (gi tQ i)):=P.set f0 hf fun _=>⟨hv.1.2,hv.2.1,hv.2.2⟩
    refine oe (jc ys (by omega)) (oe (bV i0 hi) (oe (bV f0 (by omega)) (ob (Qm T U cm P2) fun y hy=>?_)))
    have WK:∀ A,yG c ys A→gi tQ i=gi A f→yG c (ys.set f.toNat (gi tQ i)) A:=fun A hE e2 x x0 x1 hx=>by
     rw [qb f0 (by omega) x0] at hx ⊢
     by_cases ex:x=f
     ·rw [if_pos ex,ex]; exact e2
     ·rw [if_neg ex] at hx ⊢; exact hE x x0 x1 hx
    refine oc (fun ey=>?_) fun ey=>os ⟨⟨⟨?_,?_⟩,⟨h1,h2⟩,h3,fun A hA hE=>?_⟩,?_⟩
    ·have J:=hy.1 ey
     have ON:0≤gi y.2 f:=by
      have h0:gi (ys.set f.toNat (gi tQ i)) f=gi tQ i:=by rw [qb f0 (by omega) f0,if_pos rfl]
      rw [J.mono f f0 (by rw [h0]; exact hv.1.1),h0]; exact hv.1.1
     have HM:=(Ib (r:=ys) (d:=f.toNat) hv.1.1).2 (by omega) (by rw [show ((f.toNat:Nat):Int)=f by omega]; exact GA)
     have hn3:=J.ng
     have hwf:=w1 f0 hf (by omega)
     rw [hwf]
     refine ob (ih J.p (by omega) (by omega) (fun a a0 a1=>?_) (by omega) Pl h3) fun z hz=>os ⟨⟨⟨?_,?_⟩,⟨?_,hz.2.1⟩,hz.2.2.1,fun A hA hE=>?_⟩,?_⟩
     ·by_cases ea:a=f
      ·rw [ea]; exact ON
      ·have:=GC a a0 (by omega)
       have hs:gi (ys.set f.toNat (gi tQ i)) a=gi ys a:=by rw [qb f0 (by omega) a0,if_neg ea]
       rw [J.mono a a0 (by rw [hs]; exact this),hs]; exact this
     ·dsimp only; rw [hw]; omega
     ·dsimp only; rw [hw]; omega
     ·dsimp only; have:=hz.1; omega
     ·dsimp only
      by_cases e2:gi tQ i=gi A f
      ·exact .inl (hz.2.2.2 A hA (J.ext A hA.co (WK A hE e2)))
      ·rcases h4 A hA hE with h | h
       ·exact .inl (by have:=hz.1; omega)
       ·refine .inr fun j j0 j1=>?_
        rw [hw] at j1
        by_cases ej:j=i
        ·rw [ej]; exact e2
        ·exact h j j0 (by omega)
     ·dsimp only; rw [hw]; omega
    ·dsimp only; rw [hw]; omega
    ·dsimp only; rw [hw]; omega
    ·dsimp only
     rcases h4 A hA hE with h | h
     ·exact .inl h
     ·refine .inr fun j j0 j1=>?_
      rw [hw] at j1
      by_cases ej:j=i
      ·rw [ej]
       exact fun e2=>hy.2 ey A hA.co (WK A hE e2)
      ·exact h j j0 (by omega)
    ·dsimp only; rw [hw]; omega
   ·try dsimp only
    rcases hg.2 eg with h | h
    ·rcases h4 A hA hE with h5 | h5
     ·exact h5
     ·exfalso
      have ka:=hA.ar f f0 hf
      obtain ⟨j,j0,j1,ej⟩:=xD ((hh.2 (gi A f)).2 ⟨ka.1,ka.2.1,ka.2.2⟩)
      exact h5 j j0 (by omega) ej
    ·omega
end
end Go.Proofs.YtcnehblmgfbfoaaGreat
namespace Go.Proofs.YtcnehblmgfbfoaaGreat
open Go Go.Li
set_option linter.unusedVariables false
set_option linter.unusedSectionVars false
structure zV (xs O:List Int):Prop where
 l:xs.length≤O.length
 g:∀ x:Int,0≤x→x < xs.length→gi O x=gi xs x
theorem zV.app {xs O:List Int} (h:zV xs O) (hl:xs.length < O.length):zV (xs++[gi O xs.length]) O:=by
 refine ⟨by simp only [List.length_append,List.length_singleton]; omega,fun x x0 x1=>?_⟩
 simp only [List.length_append,List.length_singleton] at x1
 rw [mm x0]
 by_cases e:x < xs.length
 ·rw [if_pos e]; exact h.g x x0 e
 ·rw [if_neg e,if_pos (by omega),show x=(xs.length:Int) by omega]
theorem zV.all {xs O:List Int} (h:zV xs O) (e:O.length=xs.length):O=xs:=tU e h.g
structure T7 (c:aD):Prop where
 t:Ty c
 m:c.aB.length≤63
 o:c.aA≤63
 s:dv c
structure FF (c d:aD) (f:aN):Prop where
 s:f.aG=c
 t:f.aH=d
 ol:(f.aA.length:Int)=c.aA
 oo:∀ y∈f.aA,0≤y∧y < d.aA
 ar:Full c d f.aA f.ae
theorem FT.full {c d:aD} {O A:List Int} (h:FT c d O A) (e:A.length=c.aB.length):Full c d O A:=⟨⟨e,fun a a0 a1 _=>⟨(h.ar a a0 a1).1.2,(h.ar a a0 a1).2⟩⟩,fun a a0 a1=>(h.ar a a0 a1).1.1⟩
theorem Us (r:List Int):q9 r≤r.length:=List.length_filter_le _ _
section
variable {c d:aD} (T:T7 c) (U:T7 d)
include T U
theorem FF.small {f:aN} (F:FF c d f):ew f:=⟨F.s ▸ T.s,F.t ▸ U.s,by have:=F.ol; have:=T.o; omega,by have:=F.ar.1.len; have:=T.m; omega⟩
theorem Qn (xs:List Int):Ok (kS c d xs) fun b=>∀ O A,FT c d O A→zV xs O→b=true:=by
 have cm:=T.m
 have dm:=U.m
 unfold kS
 refine km (ol (fun z:Int=>0≤z∧z≤c.aB.length) (fun z=>(c.aB.length - z).toNat) ⟨by omega,by omega⟩ ?_)
 rintro i ⟨i0,i1⟩
 unfold nC
 refine od (fun hi=>?_) fun hi=>os ⟨rfl,os fun _ _ _ _=>rfl⟩
 have hw:=w1 i0 hi (by omega)
 have kf:=T.t.fr i0 hi
 have kt:=T.t.to i0 hi
 have nx:∀ {E:Int→Prop} {G:Bool→Prop},Ok (some (Out.norm (ai (i+1)):Out Int Bool)) (HY 0 (fun z:Int=>0≤z∧z≤c.aB.length) (fun z=>(c.aB.length - z).toNat) (c.aB.length - i).toNat E G):=by
  intro E G
  refine os ⟨⟨?_,?_⟩,?_⟩
  all_goals (try dsimp only)
  all_goals rw [hw]
  all_goals omega
 refine oe (T.t.j5 i0 hi) (oe (T.t.ke i0 hi) (od (fun hx=>od (fun hy=>oe (bV kf.1 hx) (oe (bV kt.1 hy) (ob (Pj U.t.tl (by omega) _ _) fun tQ hh=>oc (fun e=>os ?_) fun e=>nx))) fun _=>nx) fun _=>nx))
 intro O A hA hp
 exfalso
 have e:tQ.length=0:=by
  have:=of_decide_eq_true e
  omega
 have ka:=hA.ar i i0 hi
 have:=(hh.2 (gi A i)).2 ⟨ka.1,by rw [ka.2.1,hp.g _ kf.1 hx],by rw [ka.2.2,hp.g _ kt.1 hy]⟩
 rw [List.length_eq_zero_iff.1 e] at this
 exact nomatch this
theorem N1 (n:Nat):∀ {xs:List Int} {found:List aN} (_:(xs.length:Int)≤c.aA) (_:∀ y∈xs,0≤y∧y < d.aA) (_:c.aA - xs.length < n) (_:found.length≤200) (_:∀ q∈found,FF c d q),
  Ok (eY n c d xs found) fun y=>(found.length≤y.length∧y.length≤201)∧(∀ q∈y,FF c d q)∧∀ O A,FT c d O A→zV xs O→0 < y.length:=by
 have cm:=T.m
 have dm:=U.m
 have co:=T.o
 have d8:=U.o
 induction n with
 | zero=>intro xs found h1 _ h2; omega
 | succ n ih=>
  intro xs found hl ho hn RL dp
  show Ok (iP (eY n) c d xs found) _
  unfold iP
  refine km (ob (Qn T U xs) fun b hb=>oc (fun e=>os ⟨⟨Nat.le_refl _,by omega⟩,dp,fun O A hA hp=>?_⟩) fun e=>oc (fun e2=>?_) fun e2=>?_)
  ·rw [hb O A hA hp] at e; cases e
  ·have e2:(xs.length:Int)=c.aA:=by simpa using e2
   refine ol (fun z:List Int×Int=>(0≤z.2∧z.2≤c.aB.length)∧(z.1.length:Int)=z.2∧∀ v∈z.1,v = -1) (fun z=>(c.aB.length - z.2).toNat) ⟨⟨by show (0:Int)≤0; omega,by show (0:Int)≤_; omega⟩,rfl,jv⟩ ?_
   rintro ⟨l,i⟩ ⟨⟨i0,i1⟩,yN,hv⟩
   dsimp only at i0 i1 yN hv
   show Ok (kG c l i) _
   unfold kG
   refine od (fun hi=>fw (by omega) (by omega) (os ⟨⟨⟨?_,?_⟩,?_,jw hv rfl⟩,?_⟩)) fun hi=>os ⟨rfl,?_⟩
   ·dsimp only; rw [w1 i0 hi (by omega)]; omega
   ·dsimp only; rw [w1 i0 hi (by omega)]; omega
   ·dsimp only; rw [w1 i0 hi (by omega),List.length_append,List.length_singleton]; omega
   ·dsimp only; rw [w1 i0 hi (by omega)]; omega
   have P0:PA c d xs l:=⟨by omega,fun a a0 a1 h=>by rw [hv _ (gw a0 (by omega))] at h; omega⟩
   refine ol (fun z:Int×List Int=>(0≤z.1∧z.1≤xs.length)∧PA c d xs z.2∧∀ A,FT c d xs A→yG c z.2 A) (fun z=>(xs.length - z.1).toNat) ⟨⟨by show (0:Int)≤0; omega,by show (0:Int)≤_; omega⟩,P0,fun A hA a a0 a1 h=>by dsimp only at h; rw [hv _ (gw a0 (by omega))] at h; omega⟩ ?_
   rintro ⟨j,ys⟩ ⟨⟨j0,j1⟩,P,hE⟩
   dsimp only at j0 j1 P hE
   have hpl:=P.len
   show Ok (kH c d xs j ys) _
   unfold kH
   refine od (fun hj=>?_) fun hj=>os ⟨rfl,?_⟩
   ·have kx:=ho _ (gw j0 hj)
    have ki:=T.t.id j0 (by omega)
    have ku:=U.t.id kx.1 kx.2
    refine oe (T.t.l6 j0 (by omega)) (oe (bV j0 hj) (oe (U.t.l6 kx.1 kx.2) (oe (bV ki.1 (by omega)) (os ⟨⟨⟨?_,?_⟩,P.set ki.1 ki.2 fun _=>⟨ku.2,?_,?_⟩,fun A hA a a0 a1 h=>?_⟩,?_⟩))))
    ·dsimp only; rw [w1 j0 hj (by omega)]; omega
    ·dsimp only; rw [w1 j0 hj (by omega)]; omega
    ·rw [U.t.qK _ kx.1 kx.2,T.t.qK _ j0 (by omega)]
    ·rw [U.t.rz _ kx.1 kx.2,T.t.rz _ j0 (by omega)]
    ·dsimp only at h ⊢
     rw [qb ki.1 (by omega) a0] at h ⊢
     by_cases ea:a=gi c.aF j
     ·rw [if_pos ea,ea,hA.un j j0 (by omega)]
     ·rw [if_neg ea] at h ⊢
      exact hE A hA a a0 a1 h
    ·dsimp only; rw [w1 j0 hj (by omega)]; omega
   ·refine ob (N0 T.t U.t (by omega) (by omega) e2 ho 64 P (by omega) (by omega) (fun a a0 a1=>by omega) (by have:=Us ys; omega) (by simp) jv) fun y hy=>?_
    have OR:=hy.2.1
    refine ol (fun z:List aN×Int=>(0≤z.2∧z.2≤y.length)∧(found.length≤z.1.length∧z.1.length≤201)∧(∀ q∈z.1,FF c d q)∧(0 < z.2→0 < z.1.length)) (fun z=>(y.length - z.2).toNat) ⟨⟨by show (0:Int)≤0; omega,by show (0:Int)≤_; omega⟩,⟨Nat.le_refl _,by dsimp only; omega⟩,dp,fun h=>by dsimp only at h; omega⟩ ?_
    rintro ⟨fd,k⟩ ⟨⟨k0,k1⟩,⟨h1,h2⟩,h3,h4⟩
    dsimp only at k0 k1 h1 h2 h3 h4
    show Ok (kI c d xs y fd k) _
    unfold kI
    refine ob (P:=fun g=>(g=true→k < y.length∧fd.length≤200)∧(g=false→y.length≤k∨200 < fd.length)) (od (fun h=>os ⟨fun h2=>⟨h,by have:=of_decide_eq_true h2; omega⟩,fun h2=>.inr (by have:=of_decide_eq_false h2; omega)⟩) fun h=>os ⟨fun h2=>(by cases h2),fun _=>.inl (by omega)⟩) fun g hg=>oc (fun eg=>?_) fun eg=>os ⟨rfl,os ⟨⟨h1,h2⟩,h3,fun O A hA hp=>?_⟩⟩
    ·obtain ⟨hk,Pl⟩:=hg.1 eg
     refine oi k0 hk fun q hq=>oe (vu T.s U.s (by omega) (by have:=(hy.2.2.1 q hq).1.len; omega)) (fw (by omega) (by omega) (os ⟨⟨⟨?_,?_⟩,⟨?_,?_⟩,jw h3 ⟨rfl,rfl,e2,ho,hy.2.2.1 q hq⟩,fun _=>?_⟩,?_⟩))
     all_goals (try dsimp only)
     all_goals (try rw [w1 k0 hk (by omega)])
     all_goals (try simp only [List.length_append,List.length_singleton])
     all_goals omega
    ·have eO:O=xs:=hp.all (by have:=hA.ol; omega)
     rw [eO] at hA
     have h5:=hy.2.2.2 A hA (hE A hA)
     show 0 < fd.length
     rcases hg.2 eg with h | h
     ·exact h4 (by omega)
     ·omega
  ·have e2 : ¬ (xs.length:Int)=c.aA:=by simpa using e2
   have d0:=U.t.o0
   refine ol (fun z:List aN×Int=>(0≤z.2∧z.2≤d.aA)∧(found.length≤z.1.length∧z.1.length≤201)∧(∀ q∈z.1,FF c d q)∧∀ O A,FT c d O A→zV xs O→0 < z.1.length∨∀ j:Int,0≤j→j < z.2→gi O xs.length≠j) (fun z=>(d.aA - z.2).toNat) ⟨⟨by show (0:Int)≤0; omega,by show (0:Int)≤_; omega⟩,⟨Nat.le_refl _,by dsimp only; omega⟩,dp,fun O A _ _=>.inr fun j j0 j1=>by dsimp only at j1; omega⟩ ?_
   rintro ⟨fd,k⟩ ⟨⟨k0,k1⟩,⟨h1,h2⟩,h3,h4⟩
   dsimp only at k0 k1 h1 h2 h3 h4
   show Ok (kJ (eY n) c d xs fd k) _
   unfold kJ
   refine ob (P:=fun g=>(g=true→k < d.aA∧fd.length≤200)∧(g=false→d.aA≤k∨200 < fd.length)) (od (fun h=>os ⟨fun h2=>⟨h,by have:=of_decide_eq_true h2; omega⟩,fun h2=>.inr (by have:=of_decide_eq_false h2; omega)⟩) fun h=>os ⟨fun h2=>(by cases h2),fun _=>.inl (by omega)⟩) fun g hg=>oc (fun eg=>?_) fun eg=>os ⟨rfl,os ⟨⟨h1,h2⟩,h3,fun O A hA hp=>?_⟩⟩
   ·obtain ⟨hk,Pl⟩:=hg.1 eg
    have hw:=w1 k0 hk (by omega)
    refine oe (jc xs (by omega)) (fw (by omega) (by omega) (ob (ih (xs:=xs++[k]) (found:=fd) (by rw [List.length_append,List.length_singleton]; omega) (jw ho ⟨k0,hk⟩) (by rw [List.length_append,List.length_singleton]; omega) Pl h3) fun z hz=>os ⟨⟨⟨?_,?_⟩,⟨?_,hz.1.2⟩,hz.2.1,fun O A hA hp=>?_⟩,?_⟩))
    ·dsimp only; rw [hw]; omega
    ·dsimp only; rw [hw]; omega
    ·dsimp only; have:=hz.1.1; omega
    ·dsimp only
     by_cases e3:gi O xs.length=k
     ·refine .inl (hz.2.2 O A hA ?_)
      have:=hp.app (by have:=hA.ol; omega)
      rwa [e3] at this
     ·rcases h4 O A hA hp with h | h
      ·exact .inl (by have:=hz.1.1; omega)
      ·refine .inr fun j j0 j1=>?_
       rw [hw] at j1
       by_cases ej:j=k
       ·rw [ej]; exact e3
       ·exact h j j0 (by omega)
    ·dsimp only; rw [hw]; omega
   ·show 0 < fd.length
    rcases hg.2 eg with h | h
    ·rcases h4 O A hA hp with h5 | h5
     ·exact h5
     ·exfalso
      have kb:=hA.oo _ (gw (l:=O) (j:=xs.length) (by omega) (by have:=hA.ol; omega))
      exact h5 _ kb.1 (by omega) rfl
    ·omega
theorem IU:Ok (gX c d) fun y=>y.length≤201∧(∀ q∈y,FF c d q)∧∀ O A,FT c d O A→0 < y.length:=by
 unfold gX
 have o0:=T.t.o0
 have co:=T.o
 refine km (ob (N1 T U 64 (xs:=[]) (found:=[]) (by simpa using o0) jv (by simp; omega) (by simp) jv) fun y hy=>os ⟨hy.1.2,hy.2.1,fun O A hA=>hy.2.2 O A hA ⟨by simp,fun x x0 x1=>by simp at x1; omega⟩⟩)
omit U in
theorem N2:Ok (jX c) fun _=>True:=by
 have cm:=T.m
 unfold jX
 refine km (ol (fun z:List Int×Int=>(0≤z.2∧z.2≤c.aB.length)∧(z.1.length:Int)≤z.2) (fun z=>(c.aB.length - z.2).toNat) ⟨⟨by show (0:Int)≤0; omega,by show (0:Int)≤_; omega⟩,by show (0:Int)≤0; omega⟩ ?_)
 rintro ⟨l,i⟩ ⟨⟨i0,i1⟩,hl⟩
 dsimp only at i0 i1 hl
 show Ok (kE c l i) _
 unfold kE
 refine od (fun hi=>?_) fun hi=>os ⟨rfl,os trivial⟩
 have kf:=T.t.fr i0 hi
 have u:Ok (lQ c i) fun _=>True:=by
  unfold lQ
  exact km (oe (T.t.j5 i0 hi) (oe (T.t.l6 kf.1 kf.2) (os trivial)))
 refine ob u fun b _=>oc (fun _=>fw (by omega) (by omega) (os ⟨⟨⟨?_,?_⟩,?_⟩,?_⟩)) fun _=>os ⟨⟨⟨?_,?_⟩,?_⟩,?_⟩
 all_goals (try dsimp only)
 all_goals rw [w1 i0 hi (by omega)]
 all_goals (try simp only [List.length_append,List.length_singleton])
 all_goals omega
theorem HG:Ok (gN c d) fun _=>True:=by
 unfold gN
 exact km (ob (N2 T) fun y _=>od (fun _=>os trivial) fun _=>os trivial)
theorem CL {v:Int} (v0:0≤v) (v1:v < d.aA):Ok (gE c d v) fun f=>FF c d f∧FT c d f.aA f.ae:=by
 unfold gE
 have c0:=T.t.o0
 have cm:=T.m
 have co:=T.o
 have ki:=U.t.id v0 v1
 refine km (ol (fun z:List Int×Int=>(0≤z.2∧z.2≤c.aA)∧(z.1.length:Int)=z.2∧∀ y∈z.1,y=v) (fun z=>(c.aA - z.2).toNat) ⟨⟨by show (0:Int)≤0; omega,by show (0:Int)≤_; omega⟩,rfl,jv⟩ ?_)
 rintro ⟨l,i⟩ ⟨⟨i0,i1⟩,hl,hv⟩
 dsimp only at i0 i1 hl hv
 show Ok (jB c v l i) _
 unfold jB
 refine od (fun hi=>fw (by omega) (by omega) (os ⟨⟨⟨?_,?_⟩,?_,jw hv rfl⟩,?_⟩)) fun hi=>os ⟨rfl,?_⟩
 ·dsimp only; rw [w1 i0 hi (by omega)]; omega
 ·dsimp only; rw [w1 i0 hi (by omega)]; omega
 ·dsimp only; rw [w1 i0 hi (by omega),List.length_append,List.length_singleton]; omega
 ·dsimp only; rw [w1 i0 hi (by omega)]; omega
 refine ol (fun z:List Int×Int=>(0≤z.2∧z.2≤c.aB.length)∧(z.1.length:Int)=z.2∧∀ y∈z.1,y=gi d.aF v) (fun z=>(c.aB.length - z.2).toNat) ⟨⟨by show (0:Int)≤0; omega,by show (0:Int)≤_; omega⟩,rfl,jv⟩ ?_
 rintro ⟨m,j⟩ ⟨⟨j0,j1⟩,hm,GD⟩
 dsimp only at j0 j1 hm GD
 show Ok (jC c d v m j) _
 unfold jC
 refine od (fun hj=>oe (U.t.l6 v0 v1) (fw (by omega) (by omega) (os ⟨⟨⟨?_,?_⟩,?_,jw GD rfl⟩,?_⟩))) fun hj=>os ⟨rfl,oe (vu T.s U.s (by omega) (by omega)) (os ?_)⟩
 ·dsimp only; rw [w1 j0 hj (by omega)]; omega
 ·dsimp only; rw [w1 j0 hj (by omega)]; omega
 ·dsimp only; rw [w1 j0 hj (by omega),List.length_append,List.length_singleton]; omega
 ·dsimp only; rw [w1 j0 hj (by omega)]; omega
 have lo:∀ x:Int,0≤x→x < c.aA→gi l x=v:=fun x x0 x1=>hv _ (gw x0 (by omega))
 have la:∀ a:Int,0≤a→a < c.aB.length→gi m a=gi d.aF v:=fun x x0 x1=>GD _ (gw x0 (by omega))
 have oo:∀ y∈l,0≤y∧y < d.aA:=fun y hy=>by rw [hv y hy]; exact ⟨v0,v1⟩
 have H:FT c d l m:=by
  refine ⟨by omega,oo,fun a a0 a1=>?_,fun x x0 x1=>?_,fun a b a0 a1 b0 b1 e=>?_⟩
  ·rw [la a a0 a1]
   exact ⟨ki,by rw [U.t.qK _ v0 v1,lo _ (T.t.fr a0 a1).1 (T.t.fr a0 a1).2],by rw [U.t.rz _ v0 v1,lo _ (T.t.to a0 a1).1 (T.t.to a0 a1).2]⟩
  ·rw [la _ (T.t.id x0 x1).1 (T.t.id x0 x1).2,lo x x0 x1]
  ·have k:=T.t.cell a b a0 a1 b0 b1 e
   rw [la _ k.1.1 k.1.2,la a a0 a1,la b b0 b1]
   exact (U.t.uu v v0 v1).symm
 exact ⟨⟨rfl,rfl,H.ol,oo,H.full (by omega)⟩,H⟩
omit U in
theorem xl:Ok (eA c) fun f=>FF c c f∧FT c c f.aA f.ae:=by
 unfold eA
 have c0:=T.t.o0
 have cm:=T.m
 have co:=T.o
 refine km (ol (fun z:List Int×Int=>(0≤z.2∧z.2≤c.aA)∧(z.1.length:Int)=z.2∧∀ j:Int,0≤j→j < z.2→gi z.1 j=j) (fun z=>(c.aA - z.2).toNat) ⟨⟨by show (0:Int)≤0; omega,by show (0:Int)≤_; omega⟩,rfl,fun j j0 j1=>by dsimp only at j1; omega⟩ ?_)
 rintro ⟨l,i⟩ ⟨⟨i0,i1⟩,hl,hv⟩
 dsimp only at i0 i1 hl hv
 show Ok (lR c l i) _
 unfold lR
 refine od (fun hi=>fw (by omega) (by omega) (os ⟨⟨⟨?_,?_⟩,?_,fun j j0 j1=>?_⟩,?_⟩)) fun hi=>os ⟨rfl,?_⟩
 ·dsimp only; rw [w1 i0 hi (by omega)]; omega
 ·dsimp only; rw [w1 i0 hi (by omega)]; omega
 ·dsimp only; rw [w1 i0 hi (by omega),List.length_append,List.length_singleton]; omega
 ·dsimp only at j1 ⊢
  rw [w1 i0 hi (by omega)] at j1
  rw [mm j0]
  by_cases e:j < l.length
  ·rw [if_pos e]; exact hv j j0 (by omega)
  ·rw [if_neg e,if_pos (by omega)]; omega
 ·dsimp only; rw [w1 i0 hi (by omega)]; omega
 refine ol (fun z:List Int×Int=>(0≤z.2∧z.2≤c.aB.length)∧(z.1.length:Int)=z.2∧∀ j:Int,0≤j→j < z.2→gi z.1 j=j) (fun z=>(c.aB.length - z.2).toNat) ⟨⟨by show (0:Int)≤0; omega,by show (0:Int)≤_; omega⟩,rfl,fun j j0 j1=>by dsimp only at j1; omega⟩ ?_
 rintro ⟨m,j⟩ ⟨⟨j0,j1⟩,hm,GD⟩
 dsimp only at j0 j1 hm GD
 show Ok (lS c m j) _
 unfold lS
 refine od (fun hj=>fw (by omega) (by omega) (os ⟨⟨⟨?_,?_⟩,?_,fun q q0 q1=>?_⟩,?_⟩)) fun hj=>os ⟨rfl,oe (vu T.s T.s (by omega) (by omega)) (os ?_)⟩
 ·dsimp only; rw [w1 j0 hj (by omega)]; omega
 ·dsimp only; rw [w1 j0 hj (by omega)]; omega
 ·dsimp only; rw [w1 j0 hj (by omega),List.length_append,List.length_singleton]; omega
 ·dsimp only at q1 ⊢
  rw [w1 j0 hj (by omega)] at q1
  rw [mm q0]
  by_cases e:q < m.length
  ·rw [if_pos e]; exact GD q q0 (by omega)
  ·rw [if_neg e,if_pos (by omega)]; omega
 ·dsimp only; rw [w1 j0 hj (by omega)]; omega
 have lo:∀ x:Int,0≤x→x < c.aA→gi l x=x:=fun x x0 x1=>hv _ x0 (by omega)
 have la:∀ a:Int,0≤a→a < c.aB.length→gi m a=a:=fun x x0 x1=>GD _ x0 (by omega)
 have oo:∀ y∈l,0≤y∧y < c.aA:=fun y hy=>by
  obtain ⟨i,i0,i1,rfl⟩:=xD hy
  rw [lo i i0 (by omega)]; omega
 have H:FT c c l m:=by
  refine ⟨by omega,oo,fun a a0 a1=>?_,fun x x0 x1=>?_,fun a b a0 a1 b0 b1 e=>?_⟩
  ·rw [la a a0 a1]
   exact ⟨⟨a0,a1⟩,by rw [lo _ (T.t.fr a0 a1).1 (T.t.fr a0 a1).2],by rw [lo _ (T.t.to a0 a1).1 (T.t.to a0 a1).2]⟩
  ·rw [la _ (T.t.id x0 x1).1 (T.t.id x0 x1).2,lo x x0 x1]
  ·have k:=T.t.cell a b a0 a1 b0 b1 e
   rw [la _ k.1.1 k.1.2,la a a0 a1,la b b0 b1]
 exact ⟨⟨rfl,rfl,H.ol,oo,H.full (by omega)⟩,H⟩
end
def N7 (c d:aD):Prop:=∀ l,gN c d=some true→gX c d=some l→0 < l.length
theorem AA {c d:aD} {O A:List Int} (T:T7 c) (U:T7 d) (h:FT c d O A):N7 c d:=by
 intro l _ e
 obtain ⟨l',e',h'⟩:=IU T U
 rw [e] at e'
 cases e'
 exact h'.2.2 O A h
theorem Ah {y:aD} {o m:Int} (h:jb 8 800 y∧Ty y∧((y.aA≤o∧(y.aB.length:Int)≤m)∨jb 1 4 y)) (ho:o≤63) (hm:m≤63):T7 y:=by
 refine ⟨h.2.1,?_,?_,h.1.small (by omega) (by omega)⟩
 ·rcases h.2.2 with h | h
  ·omega
  ·have:=h.m; omega
 ·rcases h.2.2 with h | h
  ·omega
  ·have:=h.o; omega
section
variable {x:List Int} (B:vx x) {s:aM} (S:Src x s)
include B S
theorem IT {c:aD} (T:T7 c) {o m:Int} (ho:o≤63) (hm:m≤63):Ok (iK s c o m) fun y=>(∃ d,T7 d∧FF c d y.1∧N7 c d)∧Src x y.2:=by
 unfold iK
 refine km (ob (Cd B S o m) fun y hy=>?_)
 have U:T7 y.1:=Ah hy.1 ho hm
 have S1:=S.on (h:=y.2.av) hy.2
 obtain ⟨b,eb,_⟩:=HG T U
 refine oe eb (oc (fun hb=>?_) fun _=>?_)
 ·obtain ⟨l,el,hl⟩:=IU T U
  refine oe el (od (fun h0=>ob (dw B S1 _) fun z hz=>oi hz.1.1 (hz.1.2 (by omega)) fun f hf=>os ⟨⟨y.1,U,hl.2.1 f hf,fun l' _ e'=>by rw [el] at e'; cases e'; omega⟩,S.on hz.2⟩) fun _=>?_)
  exact od (fun ho=>ob (dw B S1 _) fun z hz=>oc (fun _=>ob (dw B (S.on hz.2) _) fun w hw=>ob (CL T U hw.1.1 (hw.1.2 (by omega))) fun f hf=>os ⟨⟨y.1,U,hf.1,AA T U hf.2⟩,S.on hw.2⟩) fun _=>ob (xl T) fun f hf=>os ⟨⟨c,T,hf.1,AA T T hf.2⟩,S.on hz.2⟩) fun _=>ob (xl T) fun f hf=>os ⟨⟨c,T,hf.1,AA T T hf.2⟩,S1⟩
 ·exact od (fun ho=>ob (dw B S1 _) fun z hz=>oc (fun _=>ob (dw B (S.on hz.2) _) fun w hw=>ob (CL T U hw.1.1 (hw.1.2 (by omega))) fun f hf=>os ⟨⟨y.1,U,hf.1,AA T U hf.2⟩,S.on hw.2⟩) fun _=>ob (xl T) fun f hf=>os ⟨⟨c,T,hf.1,AA T T hf.2⟩,S.on hz.2⟩) fun _=>ob (xl T) fun f hf=>os ⟨⟨c,T,hf.1,AA T T hf.2⟩,S1⟩
theorem Ai:Ok (gF s) fun y=>ew y.1∧Src x y.2:=by
 unfold gF
 refine km (ob (Cd B S 4 10) fun y hy=>?_)
 have T:T7 y.1:=Ah hy.1 (by omega) (by omega)
 refine ob (IT B (S.on hy.2) T (by omega) (by omega)) fun z hz=>?_
 obtain ⟨⟨d,U,F,_⟩,S2⟩:=hz
 have fs:ew z.1:=F.small T U
 have fh:=F.ol
 have co:=T.o
 refine ob (dw B (S.on S2) _) fun w hw=>oc (fun _=>?_) fun _=>oc (fun _=>?_) fun _=>oc (fun _=>?_) fun _=>os ⟨fs,S.on hw.2⟩
 ·exact ob (TX B (S.on hw.2) (c:=z.1.aG) (by rw [F.s]; exact hy.1.1)) fun u hu=>os ⟨⟨hu.1,fs.t,fs.o,fs.a⟩,S.on hu.2⟩
 ·refine od (fun h=>ob (dw B (S.on hw.2) _) fun u hu=>ob (dw B (S.on hu.2) _) fun v hv=>oe (bV hu.1.1 (hu.1.2 (by omega))) (os ⟨⟨fs.s,fs.t,fs.o,?_⟩,S.on hv.2⟩)) fun _=>os ⟨fs,S.on hw.2⟩
  show (List.set _ _ _).length≤_
  rw [List.length_set]; exact fs.a
 ·refine fw (by omega) (by omega) (os ⟨⟨fs.s,fs.t,?_,fs.a⟩,S.on hw.2⟩)
  show (z.1.aA++[(0:Int)]).length≤_
  rw [List.length_append,List.length_singleton]; omega
end
end Go.Proofs.YtcnehblmgfbfoaaGreat
namespace Go.Proofs.YtcnehblmgfbfoaaGreat
open Go Go.Li
set_option linter.unusedVariables false
set_option linter.unusedSectionVars false
structure PP (c d:aD) (xs:List Int):Prop where
 len:(xs.length:Int)=c.aA
 ok:∀ y∈xs,y < d.aB.length
def Ut (d:aD) (f g:aN) (j v:Int):Prop:=(0≤v∧v < d.aB.length)∧gi d.aB v=gi f.aA j∧gi d.To v=gi g.aA j
structure PQ (c d:aD) (f g:aN) (k:Bool) (xs:List Int):Prop where
 len:(xs.length:Int)=c.aA
 ok:∀ j:Int,0≤j→j < xs.length→Ut d f g j (gi xs j)∨gi xs j = -1∨(gi xs j = -2∧k=true)
theorem PQ.pp {c d:aD} {f g:aN} {k:Bool} {xs:List Int} (P:PQ c d f g k xs):PP c d xs:=⟨P.len,fun y hy=>by
 obtain ⟨j,j0,j1,rfl⟩:=xD hy
 rcases P.ok j j0 j1 with h | h | h
 ·exact h.1.2
 ·omega
 ·omega⟩
theorem PQ.set {c d:aD} {f g:aN} {k:Bool} {xs:List Int} (P:PQ c d f g k xs) {r v:Int} (r0:0≤r) (r1:r < xs.length) (h:Ut d f g r v):PQ c d f g k (xs.set r.toNat v):=⟨by rw [List.length_set]; exact P.len,fun j j0 j1=>by
 rw [List.length_set] at j1
 rw [qb r0 r1 j0]
 by_cases e:j=r
 ·rw [if_pos e,e]; exact Or.inl h
 ·rw [if_neg e]; exact P.ok j j0 j1⟩
section
variable {c d:aD} {f g:aN} (T:T7 c) (U:T7 d) (F:FF c d f) (G:FF c d g)
include T U F G
end
theorem bx {c:aD} (C:gu c):T7 c:=by
 have m:=C.m
 have o8:=C.o8
 have kr:∀ r∈c.aC,r.length=c.aB.length:=fun r hr=>by
  obtain ⟨i,i0,i1,rfl⟩:=T0 hr
  exact C.row i i0 (by rw [← C.kl]; exact i1)
 refine ⟨⟨C.o0,C.f,C.tl,C.t,C.kl,kr,C.il,C.i,C.qK,C.rz,fun f g f0 f1 g0 g1 e=>?_,C.none,fun x x0 x1=>?_⟩,by omega,by omega,⟨by omega,by rw [C.tl]; omega,by have:=C.il; omega,by rw [C.kl]; omega,fun r hr=>by rw [kr r hr]; omega⟩⟩
 ·have k:=C.cell f g f0 f1 g0 g1 e
  exact ⟨⟨k.1,k.2.1⟩,k.2.2⟩
 ·have k:=C.id x0 x1
  have h:=C.uI _ k.1 k.2
  rw [C.qK x x0 x1] at h
  exact h
section
variable {x:List Int} (B:vx x) {s:aM} (S:Src x s)
include B S
end
theorem Src.zu {x:List Int} {t:aM} {h:Int} (T:Src x t):Src x (aM.mk x t.At h):=⟨rfl,T.a0,T.a1⟩
end Go.Proofs.YtcnehblmgfbfoaaGreat
