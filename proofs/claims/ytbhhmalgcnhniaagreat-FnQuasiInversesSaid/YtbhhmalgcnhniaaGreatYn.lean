/- Functors that are looked for in depth: the reference's search does not fail, and finds one where there is one. No condition beside those that each theorem names. -/
import Derived.Test.YtbhhmalgcnhniaaGreatYi
import Derived.Test.YtbhhmalgcnhniaaGreatYk
namespace Go.Proofs.YtbhhmalgcnhniaaGreat
open Go Go.Li
set_option linter.unusedVariables false
set_option linter.unusedSectionVars false
def tf (r:List Int):Nat:=(r.filter fun v=>decide (v < 0)).length
theorem Jq {r:List Int} {d:Nat} {v:Int} (hv:0≤v):tf (r.set d v)≤tf r∧(d < r.length→gi r d < 0→tf (r.set d v) < tf r):=by
 unfold tf
 induction r generalizing d with
 | nil=>exact ⟨by simp,fun h=>by simp at h⟩
 | cons a r ih=>
  cases d with
  | zero=>
   have e0:(List.filter (fun v=>decide (v < 0)) (v :: r))=List.filter (fun v=>decide (v < 0)) r:=by rw [List.filter_cons,if_neg (by simp; omega)]
   rw [List.set_cons_zero,e0,List.filter_cons]
   refine ⟨by split <;> simp,fun _ h=>?_⟩
   have h:a < 0:=h
   rw [if_pos (by simpa using h)]; simp
  | succ d=>
   rw [List.set_cons_succ,List.filter_cons,List.filter_cons]
   obtain ⟨h1,h2⟩:=ih (d:=d)
   refine ⟨by split <;> (try simp only [List.length_cons]) <;> omega,fun hl hg=>?_⟩
   have hg:gi r d < 0:=by
    have e:gi (a :: r) ((d+1:Nat):Int)=gi r (d:Int):=rfl
    rwa [e] at hg
   have:=h2 (by simp at hl; omega) hg
   split <;> (try simp only [List.length_cons]) <;> omega
theorem KS {c:aG} (hl:c.To.length=c.aF.length) (hm:c.aF.length≤100000) (x y:Int):Ok (eU c x y) fun l=>l.length≤c.aF.length∧∀ f,f∈l↔(0≤f∧f < c.aF.length)∧gi c.aF f=x∧gi c.To f=y:=by
 unfold eU
 refine lj (ol (fun z:List Int×Int=>(0≤z.2∧z.2≤c.aF.length)∧(z.1.length:Int)≤z.2∧∀ f,f∈z.1↔(0≤f∧f < z.2)∧gi c.aF f=x∧gi c.To f=y) (fun z=>(c.aF.length - z.2).toNat) ⟨⟨by show (0:Int)≤0; omega,by show (0:Int)≤_; omega⟩,by show (0:Int)≤0; omega,fun f=>⟨(fun h=>nomatch h),fun h=>by have:=h.1; omega⟩⟩ ?_)
 rintro ⟨l,i⟩ ⟨⟨i0,i1⟩,CV,uY⟩
 dsimp only at i0 i1 CV uY
 show Ok (iG c x y l i) _
 unfold iG
 refine od (fun hi=>?_) fun hi=>os ⟨rfl,os ⟨by omega,fun f=>(uY f).trans ⟨fun h=>⟨⟨h.1.1,by omega⟩,h.2⟩,fun h=>⟨⟨h.1.1,by omega⟩,h.2⟩⟩⟩⟩
 have hw:=w1 i0 hi (by omega)
 refine oe (x:=(gi c.aF i == x && gi c.To i == y)) (by rw [bL i0 hi,aE,bL i0 (by omega),aE,rb,CJ]) (oc (fun eg=>fj (by omega) (by omega) (os ⟨⟨⟨?_,?_⟩,?_,fun f=>?_⟩,?_⟩)) fun eg=>os ⟨⟨⟨?_,?_⟩,?_,fun f=>?_⟩,?_⟩)
 all_goals try dsimp only
 all_goals rw [hw]
 all_goals first | (simp only [List.length_append,List.length_singleton]; omega) | omega | skip
 ·simp only [Bool.and_eq_true,beq_iff_eq] at eg
  rw [List.mem_append,List.mem_singleton,uY f]
  constructor
  ·rintro (h | rfl)
   ·exact ⟨⟨h.1.1,by omega⟩,h.2⟩
   ·exact ⟨⟨i0,by omega⟩,eg⟩
  ·rintro ⟨h,h2⟩
   by_cases e:f=i
   ·exact .inr e
   ·exact .inl ⟨⟨h.1,by omega⟩,h2⟩
 ·rw [uY f]
  constructor
  ·exact fun h=>⟨⟨h.1.1,by omega⟩,h.2⟩
  ·rintro ⟨h,h2⟩
   by_cases e:f=i
   ·subst e
    rw [h2.1,h2.2] at eg
    simp at eg
   ·exact ⟨⟨h.1,by omega⟩,h2⟩
structure PA (c d:aG) (xs ys:List Int):Prop where
 len:ys.length=c.aF.length
 ok:∀ a:Int,0≤a→a < c.aF.length→0≤gi ys a→gi ys a < d.aF.length∧gi d.aF (gi ys a)=gi xs (gi c.aF a)∧gi d.To (gi ys a)=gi xs (gi c.To a)
theorem PA.set {c d:aG} {xs ys:List Int} (P:PA c d xs ys) {a v:Int} (a0:0≤a) (a1:a < c.aF.length) (h:0≤v→v < d.aF.length∧gi d.aF v=gi xs (gi c.aF a)∧gi d.To v=gi xs (gi c.To a)):PA c d xs (ys.set a.toNat v):=by
 have hl:=P.len
 refine ⟨by rw [List.length_set]; exact hl,fun b b0 b1=>?_⟩
 rw [qv a0 (by omega) b0]
 by_cases e:b=a
 ·rw [if_pos e,e]; exact h
 ·rw [if_neg e]; exact P.ok b b0 b1
def KX (c d:aG) (A:List Int):Prop:=∀ a b:Int,0≤a→a < c.aF.length→0≤b→b < c.aF.length→gi c.To a=gi c.aF b→gi A (gk c.aC a b)=gk d.aC (gi A a) (gi A b)
def Ab (c:aG) (ys A:List Int):Prop:=∀ a:Int,0≤a→a < c.aF.length→0≤gi ys a→gi ys a=gi A a
structure FJ (c d:aG) (xs xH ys:List Int):Prop where
 p:PA c d xs ys
 mono:∀ a:Int,0≤a→0≤gi xH a→gi ys a=gi xH a
 ext:∀ A,KX c d A→Ab c xH A→Ab c ys A
 ng:tf ys≤tf xH
section
variable {c d:aG} {xs xH ys:List Int} (T:Ty c) (U:Ty d)
include T U
theorem FJ.step (J:FJ c d xs xH ys) {a b:Int} (a0:0≤a) (a1:a < c.aF.length) (b0:0≤b) (b1:b < c.aF.length) (hh:0≤gk c.aC a b) (ha:0≤gi ys a) (hb:0≤gi ys b) :
  gk c.aC a b < c.aF.length∧gi ys a < d.aF.length∧gi ys b < d.aF.length∧
  ((0≤gi ys (gk c.aC a b)→gi ys (gk c.aC a b)=gk d.aC (gi ys a) (gi ys b))→FJ c d xs xH (ys.set (gk c.aC a b).toNat (gk d.aC (gi ys a) (gi ys b)))∧tf (ys.set (gk c.aC a b).toNat (gk d.aC (gi ys a) (gi ys b)))≤tf ys∧(gi ys (gk c.aC a b) < 0→tf (ys.set (gk c.aC a b).toNat (gk d.aC (gi ys a) (gi ys b))) < tf ys))∧
  (0≤gi ys (gk c.aC a b)→gi ys (gk c.aC a b)≠gk d.aC (gi ys a) (gi ys b)→∀ A,KX c d A→¬ Ab c xH A):=by
 have e:gi c.To a=gi c.aF b:=Classical.byContradiction fun ne=>by
  have:=T.none a b a0 a1 b0 b1 ne
  omega
 have k:=T.cell a b a0 a1 b0 b1 e
 have pa:=J.p.ok a a0 a1 ha
 have pb:=J.p.ok b b0 b1 hb
 have m:=U.cell _ _ ha pa.1 hb pb.1 (by rw [pa.2.2,pb.2.1,e])
 have hl:=J.p.len
 refine ⟨k.1.2,pa.1,pb.1,fun hc=>?_,fun h0 qc A hA hE=>qc ?_⟩
 ·have hn:=Jq (r:=ys) (d:=(gk c.aC a b).toNat) m.1.1
  refine ⟨⟨J.p.set hh k.1.2 fun _=>⟨m.1.2,by rw [m.2.1,pa.2.1,k.2.1],by rw [m.2.2,pb.2.2,k.2.2]⟩,fun x x0 hx=>?_,fun A hA hE=>?_,by have:=J.ng; omega⟩,hn.1,fun Ib=>hn.2 (by omega) (by rw [show (((gk c.aC a b).toNat:Nat):Int)=gk c.aC a b by omega]; exact Ib)⟩
  ·have hm:=J.mono x x0 hx
   rw [qv hh (by omega) x0]
   by_cases ex:x=gk c.aC a b
   ·rw [if_pos ex]
    rw [← ex] at hc
    rw [← hc (by omega),hm]
   ·rw [if_neg ex]; exact hm
  ·have Ic:=J.ext A hA hE
   intro x x0 x1 hx
   rw [qv hh (by omega) x0] at hx ⊢
   by_cases ex:x=gk c.aC a b
   ·rw [if_pos ex,ex,hA a b a0 a1 b0 b1 e,← Ic a a0 a1 ha,← Ic b b0 b1 hb]
   ·rw [if_neg ex] at hx ⊢
    exact Ic x x0 x1 hx
 ·have Ic:=J.ext A hA hE
  rw [Ic _ hh k.1.2 h0,hA a b a0 a1 b0 b1 e,← Ic a a0 a1 ha,← Ic b b0 b1 hb]
theorem Sm (cm:c.aF.length≤1000) (P:PA c d xs xH):Ok (oF c d xH) fun y=>(y.1=true→FJ c d xs xH y.2)∧(y.1=false→∀ A,KX c d A→¬ Ab c xH A):=by
 unfold oF
 refine lj (ol (fun z:Bool×List Int=>FJ c d xs xH z.2) (fun z=>(if z.1 then 1 else 0)+tf z.2) ⟨P,fun _ _ _=>rfl,fun _ _ h=>h,Nat.le_refl _⟩ ?_)
 rintro ⟨more,Nq⟩ J0
 dsimp only at J0
 show Ok (oT c d more Nq) _
 unfold oT
 refine oc (fun Q9=>?_) fun Q9=>os ⟨rfl,os ⟨fun _=>J0,fun h=>by cases h⟩⟩
 subst Q9
 refine ol (fun z:Bool×Int×List Int=>(0≤z.2.1∧z.2.1≤c.aF.length)∧FJ c d xs xH z.2.2∧tf z.2.2≤tf Nq∧(z.1=true→tf z.2.2 < tf Nq)) (fun z=>(c.aF.length - z.2.1).toNat) ⟨⟨by show (0:Int)≤0; omega,by show (0:Int)≤_; omega⟩,J0,Nat.le_refl _,fun h=>by cases h⟩ ?_
 rintro ⟨more,a,ys2⟩ ⟨⟨a0,a1⟩,J1,n1,n2⟩
 dsimp only at a0 a1 J1 n1 n2
 show Ok (oS c d more a ys2) _
 unfold oS
 rw [J1.p.len]
 refine od (fun ha=>?_) fun ha=>os ⟨rfl,os ⟨J1,?_⟩⟩
 ·refine ol (fun z:Bool×Int×List Int=>(0≤z.2.1∧z.2.1≤c.aF.length)∧FJ c d xs xH z.2.2∧tf z.2.2≤tf Nq∧(z.1=true→tf z.2.2 < tf Nq)) (fun z=>(c.aF.length - z.2.1).toNat) ⟨⟨by show (0:Int)≤0; omega,by show (0:Int)≤_; omega⟩,J1,n1,n2⟩ ?_
  rintro ⟨more,b,Fj⟩ ⟨⟨b0,b1⟩,J2,m1,m2⟩
  dsimp only at b0 b1 J2 m1 m2
  show Ok (oR c d a more b Fj) _
  unfold oR
  rw [J2.p.len]
  have hw:=w1 a0 ha (by omega)
  refine od (fun hb=>?_) fun hb=>os ⟨rfl,os ⟨⟨⟨?_,?_⟩,J2,m1,m2⟩,?_⟩⟩
  ·have hwb:=w1 b0 hb (by omega)
   have hl:=J2.p.len
   refine oe (T.nq a0 ha) (oe (T.me a0 ha b0 hb) ?_)
   have ht:=T.BT a0 ha b0 hb
   refine oe (x:=(decide (gk c.aC a b < 0) || (decide (gi Fj a < 0) || decide (gi Fj b < 0)))) ?_ (oc (fun eg=>os ⟨⟨⟨?_,?_⟩,J2,m1,m2⟩,?_⟩) fun eg=>?_)
   ·rw [bL a0 (by omega),aE,bL b0 (by omega),aE,rb,yU,rb,yU]
   ·dsimp only; omega
   ·dsimp only; omega
   ·dsimp only; omega
   simp only [Bool.or_eq_false_iff,decide_eq_false_iff_not] at eg
   obtain ⟨g1,g2,g3⟩:=eg
   obtain ⟨s1,s2,s3,s4,s5⟩:=J2.step T U a0 ha b0 hb (by omega) (by omega) (by omega)
   refine oe (bL a0 (by omega)) (oe (U.nq (by omega) s2) (oe (bL b0 (by omega)) (oe (U.me (by omega) s2 (by omega) s3) ?_)))
   refine oe (x:=(decide (gi Fj (gk c.aC a b) ≥ 0) && (gi Fj (gk c.aC a b) != gk d.aC (gi Fj a) (gi Fj b)))) ?_ (oc (fun eg=>os ?_) fun eg=>?_)
   ·rw [bL (by omega) (by omega),aE,aE,rb,CJ]
   ·simp only [Bool.and_eq_true,decide_eq_true_eq,bne_iff_ne] at eg
    exact ⟨fun h=>(by cases h),fun _=>s5 eg.1 eg.2⟩
   ·obtain ⟨q1,q2,q3⟩:=s4 (fun h=>by
     rw [decide_eq_true (by omega),Bool.true_and] at eg
     simpa using eg)
    refine oe (x:=(more || decide (gi Fj (gk c.aC a b) < 0))) ?_ (oe (bL (by omega) (by omega)) (os ⟨⟨⟨?_,?_⟩,q1,by dsimp only; omega,fun h=>?_⟩,?_⟩))
    ·rw [bL (by omega) (by omega),aE,rb,yU]
    ·dsimp only; omega
    ·dsimp only; omega
    ·dsimp only at h ⊢
     rw [Bool.or_eq_true,decide_eq_true_eq] at h
     rcases h with h | h
     ·have:=m2 h; omega
     ·have:=q3 h; omega
    ·dsimp only; omega
  all_goals dsimp only
  all_goals rw [hw]
  all_goals omega
 ·dsimp only
  cases more with
  | true=>have:=n2 rfl; simp; omega
  | false=>simp; omega
end
structure FT (c d:aG) (O A:List Int):Prop where
 ol:(O.length:Int)=c.aA
 oo:∀ y∈O,0≤y∧y < d.aA
 ar:∀ a:Int,0≤a→a < c.aF.length→(0≤gi A a∧gi A a < d.aF.length)∧gi d.aF (gi A a)=gi O (gi c.aF a)∧gi d.To (gi A a)=gi O (gi c.To a)
 un:∀ x:Int,0≤x→x < c.aA→gi A (gi c.aH x)=gi d.aH (gi O x)
 co:KX c d A
def Full (c d:aG) (xs q:List Int):Prop:=PA c d xs q∧∀ a:Int,0≤a→a < c.aF.length→0≤gi q a
section
variable {c d:aG} {xs:List Int} (T:Ty c) (U:Ty d) (cm:c.aF.length≤1000) (dm:d.aF.length≤1000) (hob:(xs.length:Int)=c.aA) (LM:∀ y∈xs,0≤y∧y < d.aA)
include T U cm dm hob LM
theorem PZ (n:Nat):∀ {ys:List Int} {f:Int} {found:List (List Int)} (_:PA c d xs ys) (_:0≤f) (_:f≤c.aF.length) (_:∀ a:Int,0≤a→a < f→0≤gi ys a) (_:tf ys < n) (_:found.length≤200) (_:∀ q∈found,Full c d xs q),
  Ok (iI n c d xs ys f found) fun y=>found.length≤y.length∧y.length≤201∧(∀ q∈y,Full c d xs q)∧∀ A,FT c d xs A→Ab c ys A→0 < y.length:=by
 induction n with
 | zero=>intro ys f found _ _ _ _ h; omega
 | succ n ih=>
  intro ys f found P f0 f1 Ie hng T1 dx
  show Ok (lS (iI n) c d xs ys f found) _
  unfold lS
  have hl:=P.len
  refine lj (ol (fun z:Int=>(0≤z∧z≤c.aF.length)∧∀ a:Int,0≤a→a < z→0≤gi ys a) (fun z=>(c.aF.length - z).toNat) ⟨⟨f0,f1⟩,Ie⟩ ?_)
  rintro f ⟨⟨f0,f1⟩,Ie⟩
  unfold rM
  rw [hl]
  refine ob (P:=fun g=>(g=true→f < c.aF.length∧0≤gi ys f)∧(g=false→f < c.aF.length→gi ys f < 0)) (od (fun h=>oe (bL f0 (by omega)) (os ⟨fun h2=>⟨h,of_decide_eq_true h2⟩,fun h2 _=>by have:=of_decide_eq_false h2; omega⟩)) fun h=>os ⟨fun h2=>(by cases h2),fun _ h2=>absurd h2 h⟩) fun g hg=>oc (fun eg=>os ⟨⟨⟨?_,?_⟩,fun a a0 a1=>?_⟩,?_⟩) fun eg=>os ⟨rfl,?_⟩
  ·have:=hg.1 eg; rw [w1 f0 this.1 (by omega)]; omega
  ·have:=hg.1 eg; rw [w1 f0 this.1 (by omega)]; omega
  ·have:=hg.1 eg
   rw [w1 f0 this.1 (by omega)] at a1
   by_cases e:a=f
   ·rw [e]; exact this.2
   ·exact Ie a a0 (by omega)
  ·have:=hg.1 eg; rw [w1 f0 this.1 (by omega)]; dsimp only; omega
  have Ib:=hg.2 eg
  refine oc (fun e=>?_) fun e=>?_
  ·have e:f=c.aF.length:=by simpa using e
   refine oe (j3 ys (by omega)) (fj (by omega) (by omega) (os ⟨?_,?_,ib dx ⟨P,fun a a0 a1=>Ie a a0 (by omega)⟩,fun A _ _=>?_⟩))
   all_goals simp only [List.length_append,List.length_singleton]
   all_goals omega
  ·have e : ¬ f=c.aF.length:=by simpa using e
   have hf:f < c.aF.length:=by omega
   have Ib:=Ib hf
   have kf:=T.fr f0 hf
   have kt:=T.to f0 hf
   refine oe (T.ic f0 hf) (oe (bL kf.1 (by omega)) (oe (T.ig f0 hf) (oe (bL kt.1 (by omega)) (ob (KS U.tl (by omega) _ _) fun vL hh=>?_))))
   refine ol (fun z:List (List Int)×Int=>(0≤z.2∧z.2≤vL.length)∧(found.length≤z.1.length∧z.1.length≤201)∧(∀ q∈z.1,Full c d xs q)∧∀ A,FT c d xs A→Ab c ys A→0 < z.1.length∨∀ j:Int,0≤j→j < z.2→gi vL j≠gi A f) (fun z=>(vL.length - z.2).toNat) ⟨⟨by show (0:Int)≤0; omega,by show (0:Int)≤_; omega⟩,⟨Nat.le_refl _,by dsimp only; omega⟩,dx,fun A _ _=>.inr fun j j0 j1=>by dsimp only at j1; omega⟩ ?_
   rintro ⟨fd,i⟩ ⟨⟨i0,i1⟩,⟨h1,h2⟩,h3,h4⟩
   dsimp only at i0 i1 h1 h2 h3 h4
   show Ok (nR (iI n) c d xs ys f vL fd i) _
   unfold nR
   refine ob (P:=fun g=>(g=true→i < vL.length∧fd.length≤200)∧(g=false→vL.length≤i∨200 < fd.length)) (od (fun h=>os ⟨fun h2=>⟨h,by have:=of_decide_eq_true h2; omega⟩,fun h2=>.inr (by have:=of_decide_eq_false h2; omega)⟩) fun h=>os ⟨fun h2=>(by cases h2),fun _=>.inl (by omega)⟩) fun g hg=>oc (fun eg=>?_) fun eg=>os ⟨rfl,os ⟨h1,h2,h3,fun A hA hE=>?_⟩⟩
   ·obtain ⟨hi,Ra⟩:=hg.1 eg
    have hw:=w1 i0 hi (by omega)
    have hv:=(hh.2 _).1 (eh i0 hi)
    have P2:PA c d xs (ys.set f.toNat (gi vL i)):=P.set f0 hf fun _=>⟨hv.1.2,hv.2.1,hv.2.2⟩
    refine oe (j3 ys (by omega)) (oe (bL i0 hi) (oe (bL f0 (by omega)) (ob (Sm T U cm P2) fun y hy=>?_)))
    have YU:∀ A,Ab c ys A→gi vL i=gi A f→Ab c (ys.set f.toNat (gi vL i)) A:=fun A hE e2 x x0 x1 hx=>by
     rw [qv f0 (by omega) x0] at hx ⊢
     by_cases ex:x=f
     ·rw [if_pos ex,ex]; exact e2
     ·rw [if_neg ex] at hx ⊢; exact hE x x0 x1 hx
    refine oc (fun ey=>?_) fun ey=>os ⟨⟨⟨?_,?_⟩,⟨h1,h2⟩,h3,fun A hA hE=>?_⟩,?_⟩
    ·have J:=hy.1 ey
     have QB:0≤gi y.2 f:=by
      have h0:gi (ys.set f.toNat (gi vL i)) f=gi vL i:=by rw [qv f0 (by omega) f0,if_pos rfl]
      rw [J.mono f f0 (by rw [h0]; exact hv.1.1),h0]; exact hv.1.1
     have QO:=(Jq (r:=ys) (d:=f.toNat) hv.1.1).2 (by omega) (by rw [show ((f.toNat:Nat):Int)=f by omega]; exact Ib)
     have hn3:=J.ng
     have hwf:=w1 f0 hf (by omega)
     rw [hwf]
     refine ob (ih J.p (by omega) (by omega) (fun a a0 a1=>?_) (by omega) Ra h3) fun z hz=>os ⟨⟨⟨?_,?_⟩,⟨?_,hz.2.1⟩,hz.2.2.1,fun A hA hE=>?_⟩,?_⟩
     ·by_cases ea:a=f
      ·rw [ea]; exact QB
      ·have:=Ie a a0 (by omega)
       have hs:gi (ys.set f.toNat (gi vL i)) a=gi ys a:=by rw [qv f0 (by omega) a0,if_neg ea]
       rw [J.mono a a0 (by rw [hs]; exact this),hs]; exact this
     ·dsimp only; rw [hw]; omega
     ·dsimp only; rw [hw]; omega
     ·dsimp only; have:=hz.1; omega
     ·dsimp only
      by_cases e2:gi vL i=gi A f
      ·exact .inl (hz.2.2.2 A hA (J.ext A hA.co (YU A hE e2)))
      ·rcases h4 A hA hE with h | h
       ·exact .inl (by have:=hz.1; omega)
       ·refine .inr fun j j0 j1=>?_
        rw [hw] at j1
        by_cases ej:j=i
        ·rw [ej]; exact e2
        ·exact h j j0 (by omega)
     ·dsimp only; rw [hw]; omega
    ·dsimp only; rw [hw]; omega
    ·dsimp only; rw [hw]; omega
    ·dsimp only
     rcases h4 A hA hE with h | h
     ·exact .inl h
     ·refine .inr fun j j0 j1=>?_
      rw [hw] at j1
      by_cases ej:j=i
      ·rw [ej]
       exact fun e2=>hy.2 ey A hA.co (YU A hE e2)
      ·exact h j j0 (by omega)
    ·dsimp only; rw [hw]; omega
   ·try dsimp only
    rcases hg.2 eg with h | h
    ·rcases h4 A hA hE with h5 | h5
     ·exact h5
     ·exfalso
      have ka:=hA.ar f f0 hf
      obtain ⟨j,j0,j1,ej⟩:=j7 ((hh.2 (gi A f)).2 ⟨ka.1,ka.2.1,ka.2.2⟩)
      exact h5 j j0 (by omega) ej
    ·omega
end
end Go.Proofs.YtbhhmalgcnhniaaGreat
namespace Go.Proofs.YtbhhmalgcnhniaaGreat
open Go Go.Li
set_option linter.unusedVariables false
set_option linter.unusedSectionVars false
structure Bv (xs O:List Int):Prop where
 l:xs.length≤O.length
 g:∀ x:Int,0≤x→x < xs.length→gi O x=gi xs x
theorem Bv.app {xs O:List Int} (h:Bv xs O) (hl:xs.length < O.length):Bv (xs++[gi O xs.length]) O:=by
 refine ⟨by simp only [List.length_append,List.length_singleton]; omega,fun x x0 x1=>?_⟩
 simp only [List.length_append,List.length_singleton] at x1
 rw [ll x0]
 by_cases e:x < xs.length
 ·rw [if_pos e]; exact h.g x x0 e
 ·rw [if_neg e,if_pos (by omega),show x=(xs.length:Int) by omega]
theorem Bv.all {xs O:List Int} (h:Bv xs O) (e:O.length=xs.length):O=xs:=V3 e h.g
structure T7 (c:aG):Prop where
 t:Ty c
 m:c.aF.length≤63
 o:c.aA≤63
 s:fg c
structure FF (c d:aG) (f:aJ):Prop where
 s:f.aD=c
 t:f.aB=d
 ol:(f.aA.length:Int)=c.aA
 oo:∀ y∈f.aA,0≤y∧y < d.aA
 ar:Full c d f.aA f.ab
theorem FT.full {c d:aG} {O A:List Int} (h:FT c d O A) (e:A.length=c.aF.length):Full c d O A:=⟨⟨e,fun a a0 a1 _=>⟨(h.ar a a0 a1).1.2,(h.ar a a0 a1).2⟩⟩,fun a a0 a1=>(h.ar a a0 a1).1.1⟩
theorem WA (r:List Int):tf r≤r.length:=List.length_filter_le _ _
section
variable {c d:aG} (T:T7 c) (U:T7 d)
include T U
theorem FF.small {f:aJ} (F:FF c d f):gq f:=⟨F.s ▸ T.s,F.t ▸ U.s,by have:=F.ol; have:=T.o; omega,by have:=F.ar.1.len; have:=T.m; omega⟩
theorem Sn (xs:List Int):Ok (oE c d xs) fun b=>∀ O A,FT c d O A→Bv xs O→b=true:=by
 have cm:=T.m
 have dm:=U.m
 unfold oE
 refine lj (ol (fun z:Int=>0≤z∧z≤c.aF.length) (fun z=>(c.aF.length - z).toNat) ⟨by omega,by omega⟩ ?_)
 rintro i ⟨i0,i1⟩
 unfold rR
 refine od (fun hi=>?_) fun hi=>os ⟨rfl,os fun _ _ _ _=>rfl⟩
 have hw:=w1 i0 hi (by omega)
 have kf:=T.t.fr i0 hi
 have kt:=T.t.to i0 hi
 have nx:∀ {E:Int→Prop} {G:Bool→Prop},Ok (some (Out.norm (aj (i+1)):Out Int Bool)) (HT 0 (fun z:Int=>0≤z∧z≤c.aF.length) (fun z=>(c.aF.length - z).toNat) (c.aF.length - i).toNat E G):=by
  intro E G
  refine os ⟨⟨?_,?_⟩,?_⟩
  all_goals (try dsimp only)
  all_goals rw [hw]
  all_goals omega
 refine oe (T.t.ic i0 hi) (oe (T.t.ig i0 hi) (od (fun hx=>od (fun hy=>oe (bL kf.1 hx) (oe (bL kt.1 hy) (ob (KS U.t.tl (by omega) _ _) fun vL hh=>oc (fun e=>os ?_) fun e=>nx))) fun _=>nx) fun _=>nx))
 intro O A hA hp
 exfalso
 have e:vL.length=0:=by
  have:=of_decide_eq_true e
  omega
 have ka:=hA.ar i i0 hi
 have:=(hh.2 (gi A i)).2 ⟨ka.1,by rw [ka.2.1,hp.g _ kf.1 hx],by rw [ka.2.2,hp.g _ kt.1 hy]⟩
 rw [List.length_eq_zero_iff.1 e] at this
 exact nomatch this
theorem P1 (n:Nat):∀ {xs:List Int} {found:List aJ} (_:(xs.length:Int)≤c.aA) (_:∀ y∈xs,0≤y∧y < d.aA) (_:c.aA - xs.length < n) (_:found.length≤200) (_:∀ q∈found,FF c d q),
  Ok (iJ n c d xs found) fun y=>(found.length≤y.length∧y.length≤201)∧(∀ q∈y,FF c d q)∧∀ O A,FT c d O A→Bv xs O→0 < y.length:=by
 have cm:=T.m
 have dm:=U.m
 have co:=T.o
 have d8:=U.o
 induction n with
 | zero=>intro xs found h1 _ h2; omega
 | succ n ih=>
  intro xs found hl ho hn T1 dx
  show Ok (lT (iJ n) c d xs found) _
  unfold lT
  refine lj (ob (Sn T U xs) fun b hb=>oc (fun e=>os ⟨⟨Nat.le_refl _,by omega⟩,dx,fun O A hA hp=>?_⟩) fun e=>oc (fun e2=>?_) fun e2=>?_)
  ·rw [hb O A hA hp] at e; cases e
  ·have e2:(xs.length:Int)=c.aA:=by simpa using e2
   refine ol (fun z:List Int×Int=>(0≤z.2∧z.2≤c.aF.length)∧(z.1.length:Int)=z.2∧∀ v∈z.1,v = -1) (fun z=>(c.aF.length - z.2).toNat) ⟨⟨by show (0:Int)≤0; omega,by show (0:Int)≤_; omega⟩,rfl,jw⟩ ?_
   rintro ⟨l,i⟩ ⟨⟨i0,i1⟩,De,hv⟩
   dsimp only at i0 i1 De hv
   show Ok (nS c l i) _
   unfold nS
   refine od (fun hi=>fj (by omega) (by omega) (os ⟨⟨⟨?_,?_⟩,?_,ib hv rfl⟩,?_⟩)) fun hi=>os ⟨rfl,?_⟩
   ·dsimp only; rw [w1 i0 hi (by omega)]; omega
   ·dsimp only; rw [w1 i0 hi (by omega)]; omega
   ·dsimp only; rw [w1 i0 hi (by omega),List.length_append,List.length_singleton]; omega
   ·dsimp only; rw [w1 i0 hi (by omega)]; omega
   have P0:PA c d xs l:=⟨by omega,fun a a0 a1 h=>by rw [hv _ (eh a0 (by omega))] at h; omega⟩
   refine ol (fun z:Int×List Int=>(0≤z.1∧z.1≤xs.length)∧PA c d xs z.2∧∀ A,FT c d xs A→Ab c z.2 A) (fun z=>(xs.length - z.1).toNat) ⟨⟨by show (0:Int)≤0; omega,by show (0:Int)≤_; omega⟩,P0,fun A hA a a0 a1 h=>by dsimp only at h; rw [hv _ (eh a0 (by omega))] at h; omega⟩ ?_
   rintro ⟨j,ys⟩ ⟨⟨j0,j1⟩,P,hE⟩
   dsimp only at j0 j1 P hE
   have hpl:=P.len
   show Ok (nT c d xs j ys) _
   unfold nT
   refine od (fun hj=>?_) fun hj=>os ⟨rfl,?_⟩
   ·have kx:=ho _ (eh j0 hj)
    have ki:=T.t.id j0 (by omega)
    have ku:=U.t.id kx.1 kx.2
    refine oe (T.t.kz j0 (by omega)) (oe (bL j0 hj) (oe (U.t.kz kx.1 kx.2) (oe (bL ki.1 (by omega)) (os ⟨⟨⟨?_,?_⟩,P.set ki.1 ki.2 fun _=>⟨ku.2,?_,?_⟩,fun A hA a a0 a1 h=>?_⟩,?_⟩))))
    ·dsimp only; rw [w1 j0 hj (by omega)]; omega
    ·dsimp only; rw [w1 j0 hj (by omega)]; omega
    ·rw [U.t.u4 _ kx.1 kx.2,T.t.u4 _ j0 (by omega)]
    ·rw [U.t.wu _ kx.1 kx.2,T.t.wu _ j0 (by omega)]
    ·dsimp only at h ⊢
     rw [qv ki.1 (by omega) a0] at h ⊢
     by_cases ea:a=gi c.aH j
     ·rw [if_pos ea,ea,hA.un j j0 (by omega)]
     ·rw [if_neg ea] at h ⊢
      exact hE A hA a a0 a1 h
    ·dsimp only; rw [w1 j0 hj (by omega)]; omega
   ·refine ob (PZ T.t U.t (by omega) (by omega) e2 ho 64 P (by omega) (by omega) (fun a a0 a1=>by omega) (by have:=WA ys; omega) (by simp) jw) fun y hy=>?_
    have G0:=hy.2.1
    refine ol (fun z:List aJ×Int=>(0≤z.2∧z.2≤y.length)∧(found.length≤z.1.length∧z.1.length≤201)∧(∀ q∈z.1,FF c d q)∧(0 < z.2→0 < z.1.length)) (fun z=>(y.length - z.2).toNat) ⟨⟨by show (0:Int)≤0; omega,by show (0:Int)≤_; omega⟩,⟨Nat.le_refl _,by dsimp only; omega⟩,dx,fun h=>by dsimp only at h; omega⟩ ?_
    rintro ⟨fd,k⟩ ⟨⟨k0,k1⟩,⟨h1,h2⟩,h3,h4⟩
    dsimp only at k0 k1 h1 h2 h3 h4
    show Ok (nU c d xs y fd k) _
    unfold nU
    refine ob (P:=fun g=>(g=true→k < y.length∧fd.length≤200)∧(g=false→y.length≤k∨200 < fd.length)) (od (fun h=>os ⟨fun h2=>⟨h,by have:=of_decide_eq_true h2; omega⟩,fun h2=>.inr (by have:=of_decide_eq_false h2; omega)⟩) fun h=>os ⟨fun h2=>(by cases h2),fun _=>.inl (by omega)⟩) fun g hg=>oc (fun eg=>?_) fun eg=>os ⟨rfl,os ⟨⟨h1,h2⟩,h3,fun O A hA hp=>?_⟩⟩
    ·obtain ⟨hk,Ra⟩:=hg.1 eg
     refine oi k0 hk fun q hq=>oe (xy T.s U.s (by omega) (by have:=(hy.2.2.1 q hq).1.len; omega)) (fj (by omega) (by omega) (os ⟨⟨⟨?_,?_⟩,⟨?_,?_⟩,ib h3 ⟨rfl,rfl,e2,ho,hy.2.2.1 q hq⟩,fun _=>?_⟩,?_⟩))
     all_goals (try dsimp only)
     all_goals (try rw [w1 k0 hk (by omega)])
     all_goals (try simp only [List.length_append,List.length_singleton])
     all_goals omega
    ·have eO:O=xs:=hp.all (by have:=hA.ol; omega)
     rw [eO] at hA
     have h5:=hy.2.2.2 A hA (hE A hA)
     show 0 < fd.length
     rcases hg.2 eg with h | h
     ·exact h4 (by omega)
     ·omega
  ·have e2 : ¬ (xs.length:Int)=c.aA:=by simpa using e2
   have d0:=U.t.o0
   refine ol (fun z:List aJ×Int=>(0≤z.2∧z.2≤d.aA)∧(found.length≤z.1.length∧z.1.length≤201)∧(∀ q∈z.1,FF c d q)∧∀ O A,FT c d O A→Bv xs O→0 < z.1.length∨∀ j:Int,0≤j→j < z.2→gi O xs.length≠j) (fun z=>(d.aA - z.2).toNat) ⟨⟨by show (0:Int)≤0; omega,by show (0:Int)≤_; omega⟩,⟨Nat.le_refl _,by dsimp only; omega⟩,dx,fun O A _ _=>.inr fun j j0 j1=>by dsimp only at j1; omega⟩ ?_
   rintro ⟨fd,k⟩ ⟨⟨k0,k1⟩,⟨h1,h2⟩,h3,h4⟩
   dsimp only at k0 k1 h1 h2 h3 h4
   show Ok (nV (iJ n) c d xs fd k) _
   unfold nV
   refine ob (P:=fun g=>(g=true→k < d.aA∧fd.length≤200)∧(g=false→d.aA≤k∨200 < fd.length)) (od (fun h=>os ⟨fun h2=>⟨h,by have:=of_decide_eq_true h2; omega⟩,fun h2=>.inr (by have:=of_decide_eq_false h2; omega)⟩) fun h=>os ⟨fun h2=>(by cases h2),fun _=>.inl (by omega)⟩) fun g hg=>oc (fun eg=>?_) fun eg=>os ⟨rfl,os ⟨⟨h1,h2⟩,h3,fun O A hA hp=>?_⟩⟩
   ·obtain ⟨hk,Ra⟩:=hg.1 eg
    have hw:=w1 k0 hk (by omega)
    refine oe (j3 xs (by omega)) (fj (by omega) (by omega) (ob (ih (xs:=xs++[k]) (found:=fd) (by rw [List.length_append,List.length_singleton]; omega) (ib ho ⟨k0,hk⟩) (by rw [List.length_append,List.length_singleton]; omega) Ra h3) fun z hz=>os ⟨⟨⟨?_,?_⟩,⟨?_,hz.1.2⟩,hz.2.1,fun O A hA hp=>?_⟩,?_⟩))
    ·dsimp only; rw [hw]; omega
    ·dsimp only; rw [hw]; omega
    ·dsimp only; have:=hz.1.1; omega
    ·dsimp only
     by_cases e3:gi O xs.length=k
     ·refine .inl (hz.2.2 O A hA ?_)
      have:=hp.app (by have:=hA.ol; omega)
      rwa [e3] at this
     ·rcases h4 O A hA hp with h | h
      ·exact .inl (by have:=hz.1.1; omega)
      ·refine .inr fun j j0 j1=>?_
       rw [hw] at j1
       by_cases ej:j=k
       ·rw [ej]; exact e3
       ·exact h j j0 (by omega)
    ·dsimp only; rw [hw]; omega
   ·show 0 < fd.length
    rcases hg.2 eg with h | h
    ·rcases h4 O A hA hp with h5 | h5
     ·exact h5
     ·exfalso
      have kb:=hA.oo _ (eh (l:=O) (j:=xs.length) (by omega) (by have:=hA.ol; omega))
      exact h5 _ kb.1 (by omega) rfl
    ·omega
theorem Rb:Ok (mH c d) fun y=>y.length≤201∧(∀ q∈y,FF c d q)∧∀ O A,FT c d O A→0 < y.length:=by
 unfold mH
 have o0:=T.t.o0
 have co:=T.o
 refine lj (ob (P1 T U 64 (xs:=[]) (found:=[]) (by simpa using o0) jw (by simp; omega) (by simp) jw) fun y hy=>os ⟨hy.1.2,hy.2.1,fun O A hA=>hy.2.2 O A hA ⟨by simp,fun x x0 x1=>by simp at x1; omega⟩⟩)
omit U in
theorem P3:Ok (nI c) fun _=>True:=by
 have cm:=T.m
 unfold nI
 refine lj (ol (fun z:List Int×Int=>(0≤z.2∧z.2≤c.aF.length)∧(z.1.length:Int)≤z.2) (fun z=>(c.aF.length - z.2).toNat) ⟨⟨by show (0:Int)≤0; omega,by show (0:Int)≤_; omega⟩,by show (0:Int)≤0; omega⟩ ?_)
 rintro ⟨l,i⟩ ⟨⟨i0,i1⟩,hl⟩
 dsimp only at i0 i1 hl
 show Ok (nQ c l i) _
 unfold nQ
 refine od (fun hi=>?_) fun hi=>os ⟨rfl,os trivial⟩
 have kf:=T.t.fr i0 hi
 have u:Ok (iQ c i) fun _=>True:=by
  unfold iQ
  exact lj (oe (T.t.ic i0 hi) (oe (T.t.kz kf.1 kf.2) (os trivial)))
 refine ob u fun b _=>oc (fun _=>fj (by omega) (by omega) (os ⟨⟨⟨?_,?_⟩,?_⟩,?_⟩)) fun _=>os ⟨⟨⟨?_,?_⟩,?_⟩,?_⟩
 all_goals (try dsimp only)
 all_goals rw [w1 i0 hi (by omega)]
 all_goals (try simp only [List.length_append,List.length_singleton])
 all_goals omega
theorem Sp:Ok (mD c d) fun _=>True:=by
 unfold mD
 exact lj (ob (P3 T) fun y _=>od (fun _=>os trivial) fun _=>os trivial)
theorem DY {v:Int} (v0:0≤v) (v1:v < d.aA):Ok (jW c d v) fun f=>FF c d f∧FT c d f.aA f.ab:=by
 unfold jW
 have c0:=T.t.o0
 have cm:=T.m
 have co:=T.o
 have ki:=U.t.id v0 v1
 refine lj (ol (fun z:List Int×Int=>(0≤z.2∧z.2≤c.aA)∧(z.1.length:Int)=z.2∧∀ y∈z.1,y=v) (fun z=>(c.aA - z.2).toNat) ⟨⟨by show (0:Int)≤0; omega,by show (0:Int)≤_; omega⟩,rfl,jw⟩ ?_)
 rintro ⟨l,i⟩ ⟨⟨i0,i1⟩,hl,hv⟩
 dsimp only at i0 i1 hl hv
 show Ok (mK c v l i) _
 unfold mK
 refine od (fun hi=>fj (by omega) (by omega) (os ⟨⟨⟨?_,?_⟩,?_,ib hv rfl⟩,?_⟩)) fun hi=>os ⟨rfl,?_⟩
 ·dsimp only; rw [w1 i0 hi (by omega)]; omega
 ·dsimp only; rw [w1 i0 hi (by omega)]; omega
 ·dsimp only; rw [w1 i0 hi (by omega),List.length_append,List.length_singleton]; omega
 ·dsimp only; rw [w1 i0 hi (by omega)]; omega
 refine ol (fun z:List Int×Int=>(0≤z.2∧z.2≤c.aF.length)∧(z.1.length:Int)=z.2∧∀ y∈z.1,y=gi d.aH v) (fun z=>(c.aF.length - z.2).toNat) ⟨⟨by show (0:Int)≤0; omega,by show (0:Int)≤_; omega⟩,rfl,jw⟩ ?_
 rintro ⟨m,j⟩ ⟨⟨j0,j1⟩,hm,Ig⟩
 dsimp only at j0 j1 hm Ig
 show Ok (mL c d v m j) _
 unfold mL
 refine od (fun hj=>oe (U.t.kz v0 v1) (fj (by omega) (by omega) (os ⟨⟨⟨?_,?_⟩,?_,ib Ig rfl⟩,?_⟩))) fun hj=>os ⟨rfl,oe (xy T.s U.s (by omega) (by omega)) (os ?_)⟩
 ·dsimp only; rw [w1 j0 hj (by omega)]; omega
 ·dsimp only; rw [w1 j0 hj (by omega)]; omega
 ·dsimp only; rw [w1 j0 hj (by omega),List.length_append,List.length_singleton]; omega
 ·dsimp only; rw [w1 j0 hj (by omega)]; omega
 have lo:∀ x:Int,0≤x→x < c.aA→gi l x=v:=fun x x0 x1=>hv _ (eh x0 (by omega))
 have la:∀ a:Int,0≤a→a < c.aF.length→gi m a=gi d.aH v:=fun x x0 x1=>Ig _ (eh x0 (by omega))
 have oo:∀ y∈l,0≤y∧y < d.aA:=fun y hy=>by rw [hv y hy]; exact ⟨v0,v1⟩
 have H:FT c d l m:=by
  refine ⟨by omega,oo,fun a a0 a1=>?_,fun x x0 x1=>?_,fun a b a0 a1 b0 b1 e=>?_⟩
  ·rw [la a a0 a1]
   exact ⟨ki,by rw [U.t.u4 _ v0 v1,lo _ (T.t.fr a0 a1).1 (T.t.fr a0 a1).2],by rw [U.t.wu _ v0 v1,lo _ (T.t.to a0 a1).1 (T.t.to a0 a1).2]⟩
  ·rw [la _ (T.t.id x0 x1).1 (T.t.id x0 x1).2,lo x x0 x1]
  ·have k:=T.t.cell a b a0 a1 b0 b1 e
   rw [la _ k.1.1 k.1.2,la a a0 a1,la b b0 b1]
   exact (U.t.uu v v0 v1).symm
 exact ⟨⟨rfl,rfl,H.ol,oo,H.full (by omega)⟩,H⟩
omit U in
theorem Bp:Ok (iR c) fun f=>FF c c f∧FT c c f.aA f.ab:=by
 unfold iR
 have c0:=T.t.o0
 have cm:=T.m
 have co:=T.o
 refine lj (ol (fun z:List Int×Int=>(0≤z.2∧z.2≤c.aA)∧(z.1.length:Int)=z.2∧∀ j:Int,0≤j→j < z.2→gi z.1 j=j) (fun z=>(c.aA - z.2).toNat) ⟨⟨by show (0:Int)≤0; omega,by show (0:Int)≤_; omega⟩,rfl,fun j j0 j1=>by dsimp only at j1; omega⟩ ?_)
 rintro ⟨l,i⟩ ⟨⟨i0,i1⟩,hl,hv⟩
 dsimp only at i0 i1 hl hv
 show Ok (pF c l i) _
 unfold pF
 refine od (fun hi=>fj (by omega) (by omega) (os ⟨⟨⟨?_,?_⟩,?_,fun j j0 j1=>?_⟩,?_⟩)) fun hi=>os ⟨rfl,?_⟩
 ·dsimp only; rw [w1 i0 hi (by omega)]; omega
 ·dsimp only; rw [w1 i0 hi (by omega)]; omega
 ·dsimp only; rw [w1 i0 hi (by omega),List.length_append,List.length_singleton]; omega
 ·dsimp only at j1 ⊢
  rw [w1 i0 hi (by omega)] at j1
  rw [ll j0]
  by_cases e:j < l.length
  ·rw [if_pos e]; exact hv j j0 (by omega)
  ·rw [if_neg e,if_pos (by omega)]; omega
 ·dsimp only; rw [w1 i0 hi (by omega)]; omega
 refine ol (fun z:List Int×Int=>(0≤z.2∧z.2≤c.aF.length)∧(z.1.length:Int)=z.2∧∀ j:Int,0≤j→j < z.2→gi z.1 j=j) (fun z=>(c.aF.length - z.2).toNat) ⟨⟨by show (0:Int)≤0; omega,by show (0:Int)≤_; omega⟩,rfl,fun j j0 j1=>by dsimp only at j1; omega⟩ ?_
 rintro ⟨m,j⟩ ⟨⟨j0,j1⟩,hm,Ig⟩
 dsimp only at j0 j1 hm Ig
 show Ok (pG c m j) _
 unfold pG
 refine od (fun hj=>fj (by omega) (by omega) (os ⟨⟨⟨?_,?_⟩,?_,fun q q0 q1=>?_⟩,?_⟩)) fun hj=>os ⟨rfl,oe (xy T.s T.s (by omega) (by omega)) (os ?_)⟩
 ·dsimp only; rw [w1 j0 hj (by omega)]; omega
 ·dsimp only; rw [w1 j0 hj (by omega)]; omega
 ·dsimp only; rw [w1 j0 hj (by omega),List.length_append,List.length_singleton]; omega
 ·dsimp only at q1 ⊢
  rw [w1 j0 hj (by omega)] at q1
  rw [ll q0]
  by_cases e:q < m.length
  ·rw [if_pos e]; exact Ig q q0 (by omega)
  ·rw [if_neg e,if_pos (by omega)]; omega
 ·dsimp only; rw [w1 j0 hj (by omega)]; omega
 have lo:∀ x:Int,0≤x→x < c.aA→gi l x=x:=fun x x0 x1=>hv _ x0 (by omega)
 have la:∀ a:Int,0≤a→a < c.aF.length→gi m a=a:=fun x x0 x1=>Ig _ x0 (by omega)
 have oo:∀ y∈l,0≤y∧y < c.aA:=fun y hy=>by
  obtain ⟨i,i0,i1,rfl⟩:=j7 hy
  rw [lo i i0 (by omega)]; omega
 have H:FT c c l m:=by
  refine ⟨by omega,oo,fun a a0 a1=>?_,fun x x0 x1=>?_,fun a b a0 a1 b0 b1 e=>?_⟩
  ·rw [la a a0 a1]
   exact ⟨⟨a0,a1⟩,by rw [lo _ (T.t.fr a0 a1).1 (T.t.fr a0 a1).2],by rw [lo _ (T.t.to a0 a1).1 (T.t.to a0 a1).2]⟩
  ·rw [la _ (T.t.id x0 x1).1 (T.t.id x0 x1).2,lo x x0 x1]
  ·have k:=T.t.cell a b a0 a1 b0 b1 e
   rw [la _ k.1.1 k.1.2,la a a0 a1,la b b0 b1]
 exact ⟨⟨rfl,rfl,H.ol,oo,H.full (by omega)⟩,H⟩
end
def N7 (c d:aG):Prop:=∀ l,mD c d=some true→mH c d=some l→0 < l.length
theorem BW {c d:aG} {O A:List Int} (T:T7 c) (U:T7 d) (h:FT c d O A):N7 c d:=by
 intro l _ e
 obtain ⟨l',e',h'⟩:=Rb T U
 rw [e] at e'
 cases e'
 exact h'.2.2 O A h
theorem Eo {y:aG} {o m:Int} (h:jg 8 800 y∧Ty y∧((y.aA≤o∧(y.aF.length:Int)≤m)∨jg 1 4 y)) (ho:o≤63) (hm:m≤63):T7 y:=by
 refine ⟨h.2.1,?_,?_,h.1.small (by omega) (by omega)⟩
 ·rcases h.2.2 with h | h
  ·omega
  ·have:=h.m; omega
 ·rcases h.2.2 with h | h
  ·omega
  ·have:=h.o; omega
section
variable {x:List Int} (B:xB x) {s:aM} (S:Src x s)
include B S
theorem XM {c:aG} (T:T7 c) {o m:Int} (ho:o≤63) (hm:m≤63):Ok (pH s c o m) fun y=>(∃ d,T7 d∧FF c d y.1∧N7 c d)∧Src x y.2:=by
 unfold pH
 refine lj (ob (HP B S o m) fun y hy=>?_)
 have U:T7 y.1:=Eo hy.1 ho hm
 have S1:=S.on (h:=y.2.aw) hy.2
 obtain ⟨b,eb,_⟩:=Sp T U
 refine oe eb (oc (fun hb=>?_) fun _=>?_)
 ·obtain ⟨l,el,hl⟩:=Rb T U
  refine oe el (od (fun h0=>ob (ei B S1 _) fun z hz=>oi hz.1.1 (hz.1.2 (by omega)) fun f hf=>os ⟨⟨y.1,U,hl.2.1 f hf,fun l' _ e'=>by rw [el] at e'; cases e'; omega⟩,S.on hz.2⟩) fun _=>?_)
  exact od (fun ho=>ob (ei B S1 _) fun z hz=>oc (fun _=>ob (ei B (S.on hz.2) _) fun w hw=>ob (DY T U hw.1.1 (hw.1.2 (by omega))) fun f hf=>os ⟨⟨y.1,U,hf.1,BW T U hf.2⟩,S.on hw.2⟩) fun _=>ob (Bp T) fun f hf=>os ⟨⟨c,T,hf.1,BW T T hf.2⟩,S.on hz.2⟩) fun _=>ob (Bp T) fun f hf=>os ⟨⟨c,T,hf.1,BW T T hf.2⟩,S1⟩
 ·exact od (fun ho=>ob (ei B S1 _) fun z hz=>oc (fun _=>ob (ei B (S.on hz.2) _) fun w hw=>ob (DY T U hw.1.1 (hw.1.2 (by omega))) fun f hf=>os ⟨⟨y.1,U,hf.1,BW T U hf.2⟩,S.on hw.2⟩) fun _=>ob (Bp T) fun f hf=>os ⟨⟨c,T,hf.1,BW T T hf.2⟩,S.on hz.2⟩) fun _=>ob (Bp T) fun f hf=>os ⟨⟨c,T,hf.1,BW T T hf.2⟩,S1⟩
theorem Sf:Ok (pK s) fun y=>gq y.1∧Src x y.2:=by
 unfold pK
 refine lj (ob (HP B S 4 10) fun y hy=>?_)
 have T:T7 y.1:=Eo hy.1 (by omega) (by omega)
 refine ob (XM B (S.on hy.2) T (by omega) (by omega)) fun z hz=>?_
 obtain ⟨⟨d,U,F,_⟩,S2⟩:=hz
 have fs:gq z.1:=F.small T U
 have ew:=F.ol
 have co:=T.o
 refine ob (ei B (S.on S2) _) fun w hw=>oc (fun _=>?_) fun _=>oc (fun _=>?_) fun _=>oc (fun _=>?_) fun _=>os ⟨fs,S.on hw.2⟩
 ·exact ob (V0 B (S.on hw.2) (c:=z.1.aD) (by rw [F.s]; exact hy.1.1)) fun u hu=>os ⟨⟨hu.1,fs.t,fs.o,fs.a⟩,S.on hu.2⟩
 ·refine od (fun h=>ob (ei B (S.on hw.2) _) fun u hu=>ob (ei B (S.on hu.2) _) fun v hv=>oe (bL hu.1.1 (hu.1.2 (by omega))) (os ⟨⟨fs.s,fs.t,fs.o,?_⟩,S.on hv.2⟩)) fun _=>os ⟨fs,S.on hw.2⟩
  show (List.set _ _ _).length≤_
  rw [List.length_set]; exact fs.a
 ·refine fj (by omega) (by omega) (os ⟨⟨fs.s,fs.t,?_,fs.a⟩,S.on hw.2⟩)
  show (z.1.aA++[(0:Int)]).length≤_
  rw [List.length_append,List.length_singleton]; omega
end
end Go.Proofs.YtbhhmalgcnhniaaGreat
namespace Go.Proofs.YtbhhmalgcnhniaaGreat
open Go Go.Li
set_option linter.unusedVariables false
set_option linter.unusedSectionVars false
structure PP (c d:aG) (xs:List Int):Prop where
 len:(xs.length:Int)=c.aA
 ok:∀ y∈xs,y < d.aF.length
def WB (d:aG) (f g:aJ) (j v:Int):Prop:=(0≤v∧v < d.aF.length)∧gi d.aF v=gi f.aA j∧gi d.To v=gi g.aA j
structure PQ (c d:aG) (f g:aJ) (k:Bool) (xs:List Int):Prop where
 len:(xs.length:Int)=c.aA
 ok:∀ j:Int,0≤j→j < xs.length→WB d f g j (gi xs j)∨gi xs j = -1∨(gi xs j = -2∧k=true)
theorem PQ.pp {c d:aG} {f g:aJ} {k:Bool} {xs:List Int} (P:PQ c d f g k xs):PP c d xs:=⟨P.len,fun y hy=>by
 obtain ⟨j,j0,j1,rfl⟩:=j7 hy
 rcases P.ok j j0 j1 with h | h | h
 ·exact h.1.2
 ·omega
 ·omega⟩
theorem PQ.set {c d:aG} {f g:aJ} {k:Bool} {xs:List Int} (P:PQ c d f g k xs) {r v:Int} (r0:0≤r) (r1:r < xs.length) (h:WB d f g r v):PQ c d f g k (xs.set r.toNat v):=⟨by rw [List.length_set]; exact P.len,fun j j0 j1=>by
 rw [List.length_set] at j1
 rw [qv r0 r1 j0]
 by_cases e:j=r
 ·rw [if_pos e,e]; exact Or.inl h
 ·rw [if_neg e]; exact P.ok j j0 j1⟩
section
variable {c d:aG} {f g:aJ} (T:T7 c) (U:T7 d) (F:FF c d f) (G:FF c d g)
include T U F G
end
theorem DN {f:aJ} (F:Cm f):FF f.aD f.aB f:=⟨rfl,rfl,F.ol,F.oo,⟨F.al,fun a a0 a1 _=>⟨(F.ar a0 a1).2,F.fr a a0 a1,F.to a a0 a1⟩⟩,fun a a0 a1=>(F.ar a0 a1).1⟩
section
variable {x:List Int} (B:xB x) {s:aM} (S:Src x s)
include B S
end
theorem Src.M1 {x:List Int} {t:aM} {h:Int} (T:Src x t):Src x (aM.mk x t.At h):=⟨rfl,T.a0,T.a1⟩
end Go.Proofs.YtbhhmalgcnhniaaGreat
