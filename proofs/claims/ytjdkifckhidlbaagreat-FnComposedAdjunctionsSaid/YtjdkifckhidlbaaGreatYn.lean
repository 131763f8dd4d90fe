/- Functors that are looked for in depth: the reference's search does not fail, and finds one where there is one. No condition beside those that each theorem names. -/
import Derived.Test.YtjdkifckhidlbaaGreatYi
import Derived.Test.YtjdkifckhidlbaaGreatYk
namespace Go.Proofs.YtjdkifckhidlbaaGreat
open Go Go.Li
set_option linter.unusedVariables false
set_option linter.unusedSectionVars false
def uz (r:List Int):Nat:=(r.filter fun v=>decide (v < 0)).length
theorem K5 {r:List Int} {d:Nat} {v:Int} (hv:0≤v):uz (r.set d v)≤uz r∧(d < r.length→gi r d < 0→uz (r.set d v) < uz r):=by
 unfold uz
 induction r generalizing d with
 | nil=>exact ⟨by simp,fun h=>by simp at h⟩
 | cons a r ih=>
  cases d with
  | zero=>
   have e0:(List.filter (fun v=>decide (v < 0)) (v :: r))=List.filter (fun v=>decide (v < 0)) r:=by rw [List.filter_cons,if_neg (by simp; omega)]
   rw [List.set_cons_zero,e0,List.filter_cons]
   refine ⟨by split <;> simp,fun _ h=>?_⟩
   have h:a < 0:=h
   rw [if_pos (by simpa using h)]; simp
  | succ d=>
   rw [List.set_cons_succ,List.filter_cons,List.filter_cons]
   obtain ⟨h1,h2⟩:=ih (d:=d)
   refine ⟨by split <;> (try simp only [List.length_cons]) <;> omega,fun hl hg=>?_⟩
   have hg:gi r d < 0:=by
    have e:gi (a :: r) ((d+1:Nat):Int)=gi r (d:Int):=rfl
    rwa [e] at hg
   have:=h2 (by simp at hl; omega) hg
   split <;> (try simp only [List.length_cons]) <;> omega
theorem C1 {c:aI} (hl:c.To.length=c.aH.length) (hm:c.aH.length≤100000) (x y:Int):Ok (iX c x y) fun l=>l.length≤c.aH.length∧∀ f,f∈l↔(0≤f∧f < c.aH.length)∧gi c.aH f=x∧gi c.To f=y:=by
 unfold iX
 refine jv (ol (fun z:List Int×Int=>(0≤z.2∧z.2≤c.aH.length)∧(z.1.length:Int)≤z.2∧∀ f,f∈z.1↔(0≤f∧f < z.2)∧gi c.aH f=x∧gi c.To f=y) (fun z=>(c.aH.length - z.2).toNat) ⟨⟨by show (0:Int)≤0; omega,by show (0:Int)≤_; omega⟩,by show (0:Int)≤0; omega,fun f=>⟨(fun h=>nomatch h),fun h=>by have:=h.1; omega⟩⟩ ?_)
 rintro ⟨l,i⟩ ⟨⟨i0,i1⟩,zO,vY⟩
 dsimp only at i0 i1 zO vY
 show Ok (pW c x y l i) _
 unfold pW
 refine od (fun hi=>?_) fun hi=>os ⟨rfl,os ⟨by omega,fun f=>(vY f).trans ⟨fun h=>⟨⟨h.1.1,by omega⟩,h.2⟩,fun h=>⟨⟨h.1.1,by omega⟩,h.2⟩⟩⟩⟩
 have hw:=w1 i0 hi (by omega)
 refine oe (x:=(gi c.aH i == x && gi c.To i == y)) (by rw [cH i0 hi,aG,cH i0 (by omega),aG,r8,DS]) (oc (fun eg=>fk (by omega) (by omega) (os ⟨⟨⟨?_,?_⟩,?_,fun f=>?_⟩,?_⟩)) fun eg=>os ⟨⟨⟨?_,?_⟩,?_,fun f=>?_⟩,?_⟩)
 all_goals try dsimp only
 all_goals rw [hw]
 all_goals first | (simp only [List.length_append,List.length_singleton]; omega) | omega | skip
 ·simp only [Bool.and_eq_true,beq_iff_eq] at eg
  rw [List.mem_append,List.mem_singleton,vY f]
  constructor
  ·rintro (h | rfl)
   ·exact ⟨⟨h.1.1,by omega⟩,h.2⟩
   ·exact ⟨⟨i0,by omega⟩,eg⟩
  ·rintro ⟨h,h2⟩
   by_cases e:f=i
   ·exact .inr e
   ·exact .inl ⟨⟨h.1,by omega⟩,h2⟩
 ·rw [vY f]
  constructor
  ·exact fun h=>⟨⟨h.1.1,by omega⟩,h.2⟩
  ·rintro ⟨h,h2⟩
   by_cases e:f=i
   ·subst e
    rw [h2.1,h2.2] at eg
    simp at eg
   ·exact ⟨⟨h.1,by omega⟩,h2⟩
structure PA (c d:aI) (xs ys:List Int):Prop where
 len:ys.length=c.aH.length
 ok:∀ a:Int,0≤a→a < c.aH.length→0≤gi ys a→gi ys a < d.aH.length∧gi d.aH (gi ys a)=gi xs (gi c.aH a)∧gi d.To (gi ys a)=gi xs (gi c.To a)
theorem PA.set {c d:aI} {xs ys:List Int} (P:PA c d xs ys) {a v:Int} (a0:0≤a) (a1:a < c.aH.length) (h:0≤v→v < d.aH.length∧gi d.aH v=gi xs (gi c.aH a)∧gi d.To v=gi xs (gi c.To a)):PA c d xs (ys.set a.toNat v):=by
 have hl:=P.len
 refine ⟨by rw [List.length_set]; exact hl,fun b b0 b1=>?_⟩
 rw [tG a0 (by omega) b0]
 by_cases e:b=a
 ·rw [if_pos e,e]; exact h
 ·rw [if_neg e]; exact P.ok b b0 b1
def MO (c d:aI) (A:List Int):Prop:=∀ a b:Int,0≤a→a < c.aH.length→0≤b→b < c.aH.length→gi c.To a=gi c.aH b→gi A (gk c.aE a b)=gk d.aE (gi A a) (gi A b)
def Bq (c:aI) (ys A:List Int):Prop:=∀ a:Int,0≤a→a < c.aH.length→0≤gi ys a→gi ys a=gi A a
structure FJ (c d:aI) (xs yK ys:List Int):Prop where
 p:PA c d xs ys
 mono:∀ a:Int,0≤a→0≤gi yK a→gi ys a=gi yK a
 ext:∀ A,MO c d A→Bq c yK A→Bq c ys A
 ng:uz ys≤uz yK
section
variable {c d:aI} {xs yK ys:List Int} (T:Ty c) (U:Ty d)
include T U
theorem FJ.step (J:FJ c d xs yK ys) {a b:Int} (a0:0≤a) (a1:a < c.aH.length) (b0:0≤b) (b1:b < c.aH.length) (hh:0≤gk c.aE a b) (ha:0≤gi ys a) (hb:0≤gi ys b) :
  gk c.aE a b < c.aH.length∧gi ys a < d.aH.length∧gi ys b < d.aH.length∧
  ((0≤gi ys (gk c.aE a b)→gi ys (gk c.aE a b)=gk d.aE (gi ys a) (gi ys b))→FJ c d xs yK (ys.set (gk c.aE a b).toNat (gk d.aE (gi ys a) (gi ys b)))∧uz (ys.set (gk c.aE a b).toNat (gk d.aE (gi ys a) (gi ys b)))≤uz ys∧(gi ys (gk c.aE a b) < 0→uz (ys.set (gk c.aE a b).toNat (gk d.aE (gi ys a) (gi ys b))) < uz ys))∧
  (0≤gi ys (gk c.aE a b)→gi ys (gk c.aE a b)≠gk d.aE (gi ys a) (gi ys b)→∀ A,MO c d A→¬ Bq c yK A):=by
 have e:gi c.To a=gi c.aH b:=Classical.byContradiction fun ne=>by
  have:=T.none a b a0 a1 b0 b1 ne
  omega
 have k:=T.cell a b a0 a1 b0 b1 e
 have pa:=J.p.ok a a0 a1 ha
 have pb:=J.p.ok b b0 b1 hb
 have m:=U.cell _ _ ha pa.1 hb pb.1 (by rw [pa.2.2,pb.2.1,e])
 have hl:=J.p.len
 refine ⟨k.1.2,pa.1,pb.1,fun hc=>?_,fun h0 o7 A hA hE=>o7 ?_⟩
 ·have hn:=K5 (r:=ys) (d:=(gk c.aE a b).toNat) m.1.1
  refine ⟨⟨J.p.set hh k.1.2 fun _=>⟨m.1.2,by rw [m.2.1,pa.2.1,k.2.1],by rw [m.2.2,pb.2.2,k.2.2]⟩,fun x x0 hx=>?_,fun A hA hE=>?_,by have:=J.ng; omega⟩,hn.1,fun JD=>hn.2 (by omega) (by rw [show (((gk c.aE a b).toNat:Nat):Int)=gk c.aE a b by omega]; exact JD)⟩
  ·have hm:=J.mono x x0 hx
   rw [tG hh (by omega) x0]
   by_cases ex:x=gk c.aE a b
   ·rw [if_pos ex]
    rw [← ex] at hc
    rw [← hc (by omega),hm]
   ·rw [if_neg ex]; exact hm
  ·have JE:=J.ext A hA hE
   intro x x0 x1 hx
   rw [tG hh (by omega) x0] at hx ⊢
   by_cases ex:x=gk c.aE a b
   ·rw [if_pos ex,ex,hA a b a0 a1 b0 b1 e,← JE a a0 a1 ha,← JE b b0 b1 hb]
   ·rw [if_neg ex] at hx ⊢
    exact JE x x0 x1 hx
 ·have JE:=J.ext A hA hE
  rw [JE _ hh k.1.2 h0,hA a b a0 a1 b0 b1 e,← JE a a0 a1 ha,← JE b b0 b1 hb]
theorem Ux (cm:c.aH.length≤1000) (P:PA c d xs yK):Ok (nW c d yK) fun y=>(y.1=true→FJ c d xs yK y.2)∧(y.1=false→∀ A,MO c d A→¬ Bq c yK A):=by
 unfold nW
 refine jv (ol (fun z:Bool×List Int=>FJ c d xs yK z.2) (fun z=>(if z.1 then 1 else 0)+uz z.2) ⟨P,fun _ _ _=>rfl,fun _ _ h=>h,Nat.le_refl _⟩ ?_)
 rintro ⟨more,Pd⟩ J0
 dsimp only at J0
 show Ok (oM c d more Pd) _
 unfold oM
 refine oc (fun Tn=>?_) fun Tn=>os ⟨rfl,os ⟨fun _=>J0,fun h=>by cases h⟩⟩
 subst Tn
 refine ol (fun z:Bool×Int×List Int=>(0≤z.2.1∧z.2.1≤c.aH.length)∧FJ c d xs yK z.2.2∧uz z.2.2≤uz Pd∧(z.1=true→uz z.2.2 < uz Pd)) (fun z=>(c.aH.length - z.2.1).toNat) ⟨⟨by show (0:Int)≤0; omega,by show (0:Int)≤_; omega⟩,J0,Nat.le_refl _,fun h=>by cases h⟩ ?_
 rintro ⟨more,a,ys2⟩ ⟨⟨a0,a1⟩,J1,n1,n2⟩
 dsimp only at a0 a1 J1 n1 n2
 show Ok (oL c d more a ys2) _
 unfold oL
 rw [J1.p.len]
 refine od (fun ha=>?_) fun ha=>os ⟨rfl,os ⟨J1,?_⟩⟩
 ·refine ol (fun z:Bool×Int×List Int=>(0≤z.2.1∧z.2.1≤c.aH.length)∧FJ c d xs yK z.2.2∧uz z.2.2≤uz Pd∧(z.1=true→uz z.2.2 < uz Pd)) (fun z=>(c.aH.length - z.2.1).toNat) ⟨⟨by show (0:Int)≤0; omega,by show (0:Int)≤_; omega⟩,J1,n1,n2⟩ ?_
  rintro ⟨more,b,GV⟩ ⟨⟨b0,b1⟩,J2,m1,m2⟩
  dsimp only at b0 b1 J2 m1 m2
  show Ok (oJ c d a more b GV) _
  unfold oJ
  rw [J2.p.len]
  have hw:=w1 a0 ha (by omega)
  refine od (fun hb=>?_) fun hb=>os ⟨rfl,os ⟨⟨⟨?_,?_⟩,J2,m1,m2⟩,?_⟩⟩
  ·have hwb:=w1 b0 hb (by omega)
   have hl:=J2.p.len
   refine oe (T.o5 a0 ha) (oe (T.nt a0 ha b0 hb) ?_)
   have ht:=T.C3 a0 ha b0 hb
   refine oe (x:=(decide (gk c.aE a b < 0) || (decide (gi GV a < 0) || decide (gi GV b < 0)))) ?_ (oc (fun eg=>os ⟨⟨⟨?_,?_⟩,J2,m1,m2⟩,?_⟩) fun eg=>?_)
   ·rw [cH a0 (by omega),aG,cH b0 (by omega),aG,r8,xI,r8,xI]
   ·dsimp only; omega
   ·dsimp only; omega
   ·dsimp only; omega
   simp only [Bool.or_eq_false_iff,decide_eq_false_iff_not] at eg
   obtain ⟨g1,g2,g3⟩:=eg
   obtain ⟨s1,s2,s3,s4,s5⟩:=J2.step T U a0 ha b0 hb (by omega) (by omega) (by omega)
   refine oe (cH a0 (by omega)) (oe (U.o5 (by omega) s2) (oe (cH b0 (by omega)) (oe (U.nt (by omega) s2 (by omega) s3) ?_)))
   refine oe (x:=(decide (gi GV (gk c.aE a b) ≥ 0) && (gi GV (gk c.aE a b) != gk d.aE (gi GV a) (gi GV b)))) ?_ (oc (fun eg=>os ?_) fun eg=>?_)
   ·rw [cH (by omega) (by omega),aG,aG,r8,DS]
   ·simp only [Bool.and_eq_true,decide_eq_true_eq,bne_iff_ne] at eg
    exact ⟨fun h=>(by cases h),fun _=>s5 eg.1 eg.2⟩
   ·obtain ⟨q1,q2,q3⟩:=s4 (fun h=>by
     rw [decide_eq_true (by omega),Bool.true_and] at eg
     simpa using eg)
    refine oe (x:=(more || decide (gi GV (gk c.aE a b) < 0))) ?_ (oe (cH (by omega) (by omega)) (os ⟨⟨⟨?_,?_⟩,q1,by dsimp only; omega,fun h=>?_⟩,?_⟩))
    ·rw [cH (by omega) (by omega),aG,r8,xI]
    ·dsimp only; omega
    ·dsimp only; omega
    ·dsimp only at h ⊢
     rw [Bool.or_eq_true,decide_eq_true_eq] at h
     rcases h with h | h
     ·have:=m2 h; omega
     ·have:=q3 h; omega
    ·dsimp only; omega
  all_goals dsimp only
  all_goals rw [hw]
  all_goals omega
 ·dsimp only
  cases more with
  | true=>have:=n2 rfl; simp; omega
  | false=>simp; omega
end
structure FT (c d:aI) (O A:List Int):Prop where
 ol:(O.length:Int)=c.aA
 oo:∀ y∈O,0≤y∧y < d.aA
 ar:∀ a:Int,0≤a→a < c.aH.length→(0≤gi A a∧gi A a < d.aH.length)∧gi d.aH (gi A a)=gi O (gi c.aH a)∧gi d.To (gi A a)=gi O (gi c.To a)
 un:∀ x:Int,0≤x→x < c.aA→gi A (gi c.aJ x)=gi d.aJ (gi O x)
 co:MO c d A
def Full (c d:aI) (xs q:List Int):Prop:=PA c d xs q∧∀ a:Int,0≤a→a < c.aH.length→0≤gi q a
section
variable {c d:aI} {xs:List Int} (T:Ty c) (U:Ty d) (cm:c.aH.length≤1000) (dm:d.aH.length≤1000) (hob:(xs.length:Int)=c.aA) (NN:∀ y∈xs,0≤y∧y < d.aA)
include T U cm dm hob NN
theorem RM (n:Nat):∀ {ys:List Int} {f:Int} {found:List (List Int)} (_:PA c d xs ys) (_:0≤f) (_:f≤c.aH.length) (_:∀ a:Int,0≤a→a < f→0≤gi ys a) (_:uz ys < n) (_:found.length≤200) (_:∀ q∈found,Full c d xs q),
  Ok (iV n c d xs ys f found) fun y=>found.length≤y.length∧y.length≤201∧(∀ q∈y,Full c d xs q)∧∀ A,FT c d xs A→Bq c ys A→0 < y.length:=by
 induction n with
 | zero=>intro ys f found _ _ _ _ h; omega
 | succ n ih=>
  intro ys f found P f0 f1 JF hng Si fq
  show Ok (lQ (iV n) c d xs ys f found) _
  unfold lQ
  have hl:=P.len
  refine jv (ol (fun z:Int=>(0≤z∧z≤c.aH.length)∧∀ a:Int,0≤a→a < z→0≤gi ys a) (fun z=>(c.aH.length - z).toNat) ⟨⟨f0,f1⟩,JF⟩ ?_)
  rintro f ⟨⟨f0,f1⟩,JF⟩
  unfold qU
  rw [hl]
  refine ob (P:=fun g=>(g=true→f < c.aH.length∧0≤gi ys f)∧(g=false→f < c.aH.length→gi ys f < 0)) (od (fun h=>oe (cH f0 (by omega)) (os ⟨fun h2=>⟨h,of_decide_eq_true h2⟩,fun h2 _=>by have:=of_decide_eq_false h2; omega⟩)) fun h=>os ⟨fun h2=>(by cases h2),fun _ h2=>absurd h2 h⟩) fun g hg=>oc (fun eg=>os ⟨⟨⟨?_,?_⟩,fun a a0 a1=>?_⟩,?_⟩) fun eg=>os ⟨rfl,?_⟩
  ·have:=hg.1 eg; rw [w1 f0 this.1 (by omega)]; omega
  ·have:=hg.1 eg; rw [w1 f0 this.1 (by omega)]; omega
  ·have:=hg.1 eg
   rw [w1 f0 this.1 (by omega)] at a1
   by_cases e:a=f
   ·rw [e]; exact this.2
   ·exact JF a a0 (by omega)
  ·have:=hg.1 eg; rw [w1 f0 this.1 (by omega)]; dsimp only; omega
  have JD:=hg.2 eg
  refine oc (fun e=>?_) fun e=>?_
  ·have e:f=c.aH.length:=by simpa using e
   refine oe (ee ys (by omega)) (fk (by omega) (by omega) (os ⟨?_,?_,jf fq ⟨P,fun a a0 a1=>JF a a0 (by omega)⟩,fun A _ _=>?_⟩))
   all_goals simp only [List.length_append,List.length_singleton]
   all_goals omega
  ·have e : ¬ f=c.aH.length:=by simpa using e
   have hf:f < c.aH.length:=by omega
   have JD:=JD hf
   have kf:=T.fr f0 hf
   have kt:=T.to f0 hf
   refine oe (T.lg f0 hf) (oe (cH kf.1 (by omega)) (oe (T.ma f0 hf) (oe (cH kt.1 (by omega)) (ob (C1 U.tl (by omega) _ _) fun wS hh=>?_))))
   refine ol (fun z:List (List Int)×Int=>(0≤z.2∧z.2≤wS.length)∧(found.length≤z.1.length∧z.1.length≤201)∧(∀ q∈z.1,Full c d xs q)∧∀ A,FT c d xs A→Bq c ys A→0 < z.1.length∨∀ j:Int,0≤j→j < z.2→gi wS j≠gi A f) (fun z=>(wS.length - z.2).toNat) ⟨⟨by show (0:Int)≤0; omega,by show (0:Int)≤_; omega⟩,⟨Nat.le_refl _,by dsimp only; omega⟩,fq,fun A _ _=>.inr fun j j0 j1=>by dsimp only at j1; omega⟩ ?_
   rintro ⟨fd,i⟩ ⟨⟨i0,i1⟩,⟨h1,h2⟩,h3,h4⟩
   dsimp only at i0 i1 h1 h2 h3 h4
   show Ok (nK (iV n) c d xs ys f wS fd i) _
   unfold nK
   refine ob (P:=fun g=>(g=true→i < wS.length∧fd.length≤200)∧(g=false→wS.length≤i∨200 < fd.length)) (od (fun h=>os ⟨fun h2=>⟨h,by have:=of_decide_eq_true h2; omega⟩,fun h2=>.inr (by have:=of_decide_eq_false h2; omega)⟩) fun h=>os ⟨fun h2=>(by cases h2),fun _=>.inl (by omega)⟩) fun g hg=>oc (fun eg=>?_) fun eg=>os ⟨rfl,os ⟨h1,h2,h3,fun A hA hE=>?_⟩⟩
   ·obtain ⟨hi,Tp⟩:=hg.1 eg
    have hw:=w1 i0 hi (by omega)
    have hv:=(hh.2 _).1 (fj i0 hi)
    have P2:PA c d xs (ys.set f.toNat (gi wS i)):=P.set f0 hf fun _=>⟨hv.1.2,hv.2.1,hv.2.2⟩
    refine oe (ee ys (by omega)) (oe (cH i0 hi) (oe (cH f0 (by omega)) (ob (Ux T U cm P2) fun y hy=>?_)))
    have hE2:∀ A,Bq c ys A→gi wS i=gi A f→Bq c (ys.set f.toNat (gi wS i)) A:=fun A hE e2 x x0 x1 hx=>by
     rw [tG f0 (by omega) x0] at hx ⊢
     by_cases ex:x=f
     ·rw [if_pos ex,ex]; exact e2
     ·rw [if_neg ex] at hx ⊢; exact hE x x0 x1 hx
    refine oc (fun ey=>?_) fun ey=>os ⟨⟨⟨?_,?_⟩,⟨h1,h2⟩,h3,fun A hA hE=>?_⟩,?_⟩
    ·have J:=hy.1 ey
     have Sr:0≤gi y.2 f:=by
      have h0:gi (ys.set f.toNat (gi wS i)) f=gi wS i:=by rw [tG f0 (by omega) f0,if_pos rfl]
      rw [J.mono f f0 (by rw [h0]; exact hv.1.1),h0]; exact hv.1.1
     have KF:=(K5 (r:=ys) (d:=f.toNat) hv.1.1).2 (by omega) (by rw [show ((f.toNat:Nat):Int)=f by omega]; exact JD)
     have hn3:=J.ng
     have hwf:=w1 f0 hf (by omega)
     rw [hwf]
     refine ob (ih J.p (by omega) (by omega) (fun a a0 a1=>?_) (by omega) Tp h3) fun z hz=>os ⟨⟨⟨?_,?_⟩,⟨?_,hz.2.1⟩,hz.2.2.1,fun A hA hE=>?_⟩,?_⟩
     ·by_cases ea:a=f
      ·rw [ea]; exact Sr
      ·have:=JF a a0 (by omega)
       have hs:gi (ys.set f.toNat (gi wS i)) a=gi ys a:=by rw [tG f0 (by omega) a0,if_neg ea]
       rw [J.mono a a0 (by rw [hs]; exact this),hs]; exact this
     ·dsimp only; rw [hw]; omega
     ·dsimp only; rw [hw]; omega
     ·dsimp only; have:=hz.1; omega
     ·dsimp only
      by_cases e2:gi wS i=gi A f
      ·exact .inl (hz.2.2.2 A hA (J.ext A hA.co (hE2 A hE e2)))
      ·rcases h4 A hA hE with h | h
       ·exact .inl (by have:=hz.1; omega)
       ·refine .inr fun j j0 j1=>?_
        rw [hw] at j1
        by_cases ej:j=i
        ·rw [ej]; exact e2
        ·exact h j j0 (by omega)
     ·dsimp only; rw [hw]; omega
    ·dsimp only; rw [hw]; omega
    ·dsimp only; rw [hw]; omega
    ·dsimp only
     rcases h4 A hA hE with h | h
     ·exact .inl h
     ·refine .inr fun j j0 j1=>?_
      rw [hw] at j1
      by_cases ej:j=i
      ·rw [ej]
       exact fun e2=>hy.2 ey A hA.co (hE2 A hE e2)
      ·exact h j j0 (by omega)
    ·dsimp only; rw [hw]; omega
   ·try dsimp only
    rcases hg.2 eg with h | h
    ·rcases h4 A hA hE with h5 | h5
     ·exact h5
     ·exfalso
      have ka:=hA.ar f f0 hf
      obtain ⟨j,j0,j1,ej⟩:=ue ((hh.2 (gi A f)).2 ⟨ka.1,ka.2.1,ka.2.2⟩)
      exact h5 j j0 (by omega) ej
    ·omega
end
end Go.Proofs.YtjdkifckhidlbaaGreat
namespace Go.Proofs.YtjdkifckhidlbaaGreat
open Go Go.Li
set_option linter.unusedVariables false
set_option linter.unusedSectionVars false
structure CA (xs O:List Int):Prop where
 l:xs.length≤O.length
 g:∀ x:Int,0≤x→x < xs.length→gi O x=gi xs x
theorem CA.app {xs O:List Int} (h:CA xs O) (hl:xs.length < O.length):CA (xs++[gi O xs.length]) O:=by
 refine ⟨by simp only [List.length_append,List.length_singleton]; omega,fun x x0 x1=>?_⟩
 simp only [List.length_append,List.length_singleton] at x1
 rw [mb x0]
 by_cases e:x < xs.length
 ·rw [if_pos e]; exact h.g x x0 e
 ·rw [if_neg e,if_pos (by omega),show x=(xs.length:Int) by omega]
theorem CA.all {xs O:List Int} (h:CA xs O) (e:O.length=xs.length):O=xs:=Ck e h.g
structure T7 (c:aI):Prop where
 t:Ty c
 m:c.aH.length≤63
 o:c.aA≤63
 s:fx c
structure FF (c d:aI) (f:aO):Prop where
 s:f.aB=c
 t:f.aF=d
 ol:(f.aA.length:Int)=c.aA
 oo:∀ y∈f.aA,0≤y∧y < d.aA
 ar:Full c d f.aA f.ae
theorem FT.full {c d:aI} {O A:List Int} (h:FT c d O A) (e:A.length=c.aH.length):Full c d O A:=⟨⟨e,fun a a0 a1 _=>⟨(h.ar a a0 a1).1.2,(h.ar a a0 a1).2⟩⟩,fun a a0 a1=>(h.ar a a0 a1).1.1⟩
theorem YC (r:List Int):uz r≤r.length:=List.length_filter_le _ _
section
variable {c d:aI} (T:T7 c) (U:T7 d)
include T U
theorem FF.small {f:aO} (F:FF c d f):jo f:=⟨F.s ▸ T.s,F.t ▸ U.s,by have:=F.ol; have:=T.o; omega,by have:=F.ar.1.len; have:=T.m; omega⟩
theorem Uy (xs:List Int):Ok (nV c d xs) fun b=>∀ O A,FT c d O A→CA xs O→b=true:=by
 have cm:=T.m
 have dm:=U.m
 unfold nV
 refine jv (ol (fun z:Int=>0≤z∧z≤c.aH.length) (fun z=>(c.aH.length - z).toNat) ⟨by omega,by omega⟩ ?_)
 rintro i ⟨i0,i1⟩
 unfold qX
 refine od (fun hi=>?_) fun hi=>os ⟨rfl,os fun _ _ _ _=>rfl⟩
 have hw:=w1 i0 hi (by omega)
 have kf:=T.t.fr i0 hi
 have kt:=T.t.to i0 hi
 have nx:∀ {E:Int→Prop} {G:Bool→Prop},Ok (some (Out.norm (ao (i+1)):Out Int Bool)) (E8 0 (fun z:Int=>0≤z∧z≤c.aH.length) (fun z=>(c.aH.length - z).toNat) (c.aH.length - i).toNat E G):=by
  intro E G
  refine os ⟨⟨?_,?_⟩,?_⟩
  all_goals (try dsimp only)
  all_goals rw [hw]
  all_goals omega
 refine oe (T.t.lg i0 hi) (oe (T.t.ma i0 hi) (od (fun hx=>od (fun hy=>oe (cH kf.1 hx) (oe (cH kt.1 hy) (ob (C1 U.t.tl (by omega) _ _) fun wS hh=>oc (fun e=>os ?_) fun e=>nx))) fun _=>nx) fun _=>nx))
 intro O A hA hp
 exfalso
 have e:wS.length=0:=by
  have:=of_decide_eq_true e
  omega
 have ka:=hA.ar i i0 hi
 have:=(hh.2 (gi A i)).2 ⟨ka.1,by rw [ka.2.1,hp.g _ kf.1 hx],by rw [ka.2.2,hp.g _ kt.1 hy]⟩
 rw [List.length_eq_zero_iff.1 e] at this
 exact nomatch this
theorem RN (n:Nat):∀ {xs:List Int} {found:List aO} (_:(xs.length:Int)≤c.aA) (_:∀ y∈xs,0≤y∧y < d.aA) (_:c.aA - xs.length < n) (_:found.length≤200) (_:∀ q∈found,FF c d q),
  Ok (iW n c d xs found) fun y=>(found.length≤y.length∧y.length≤201)∧(∀ q∈y,FF c d q)∧∀ O A,FT c d O A→CA xs O→0 < y.length:=by
 have cm:=T.m
 have dm:=U.m
 have co:=T.o
 have d8:=U.o
 induction n with
 | zero=>intro xs found h1 _ h2; omega
 | succ n ih=>
  intro xs found hl ho hn Si fq
  show Ok (lR (iW n) c d xs found) _
  unfold lR
  refine jv (ob (Uy T U xs) fun b hb=>oc (fun e=>os ⟨⟨Nat.le_refl _,by omega⟩,fq,fun O A hA hp=>?_⟩) fun e=>oc (fun e2=>?_) fun e2=>?_)
  ·rw [hb O A hA hp] at e; cases e
  ·have e2:(xs.length:Int)=c.aA:=by simpa using e2
   refine ol (fun z:List Int×Int=>(0≤z.2∧z.2≤c.aH.length)∧(z.1.length:Int)=z.2∧∀ v∈z.1,v = -1) (fun z=>(c.aH.length - z.2).toNat) ⟨⟨by show (0:Int)≤0; omega,by show (0:Int)≤_; omega⟩,rfl,lu⟩ ?_
   rintro ⟨l,i⟩ ⟨⟨i0,i1⟩,Ew,hv⟩
   dsimp only at i0 i1 Ew hv
   show Ok (nL c l i) _
   unfold nL
   refine od (fun hi=>fk (by omega) (by omega) (os ⟨⟨⟨?_,?_⟩,?_,jf hv rfl⟩,?_⟩)) fun hi=>os ⟨rfl,?_⟩
   ·dsimp only; rw [w1 i0 hi (by omega)]; omega
   ·dsimp only; rw [w1 i0 hi (by omega)]; omega
   ·dsimp only; rw [w1 i0 hi (by omega),List.length_append,List.length_singleton]; omega
   ·dsimp only; rw [w1 i0 hi (by omega)]; omega
   have P0:PA c d xs l:=⟨by omega,fun a a0 a1 h=>by rw [hv _ (fj a0 (by omega))] at h; omega⟩
   refine ol (fun z:Int×List Int=>(0≤z.1∧z.1≤xs.length)∧PA c d xs z.2∧∀ A,FT c d xs A→Bq c z.2 A) (fun z=>(xs.length - z.1).toNat) ⟨⟨by show (0:Int)≤0; omega,by show (0:Int)≤_; omega⟩,P0,fun A hA a a0 a1 h=>by dsimp only at h; rw [hv _ (fj a0 (by omega))] at h; omega⟩ ?_
   rintro ⟨j,ys⟩ ⟨⟨j0,j1⟩,P,hE⟩
   dsimp only at j0 j1 P hE
   have hpl:=P.len
   show Ok (nM c d xs j ys) _
   unfold nM
   refine od (fun hj=>?_) fun hj=>os ⟨rfl,?_⟩
   ·have kx:=ho _ (fj j0 hj)
    have ki:=T.t.id j0 (by omega)
    have ku:=U.t.id kx.1 kx.2
    refine oe (T.t.oK j0 (by omega)) (oe (cH j0 hj) (oe (U.t.oK kx.1 kx.2) (oe (cH ki.1 (by omega)) (os ⟨⟨⟨?_,?_⟩,P.set ki.1 ki.2 fun _=>⟨ku.2,?_,?_⟩,fun A hA a a0 a1 h=>?_⟩,?_⟩))))
    ·dsimp only; rw [w1 j0 hj (by omega)]; omega
    ·dsimp only; rw [w1 j0 hj (by omega)]; omega
    ·rw [U.t.vf _ kx.1 kx.2,T.t.vf _ j0 (by omega)]
    ·rw [U.t.vZ _ kx.1 kx.2,T.t.vZ _ j0 (by omega)]
    ·dsimp only at h ⊢
     rw [tG ki.1 (by omega) a0] at h ⊢
     by_cases ea:a=gi c.aJ j
     ·rw [if_pos ea,ea,hA.un j j0 (by omega)]
     ·rw [if_neg ea] at h ⊢
      exact hE A hA a a0 a1 h
    ·dsimp only; rw [w1 j0 hj (by omega)]; omega
   ·refine ob (RM T.t U.t (by omega) (by omega) e2 ho 64 P (by omega) (by omega) (fun a a0 a1=>by omega) (by have:=YC ys; omega) (by simp) lu) fun y hy=>?_
    have Iy:=hy.2.1
    refine ol (fun z:List aO×Int=>(0≤z.2∧z.2≤y.length)∧(found.length≤z.1.length∧z.1.length≤201)∧(∀ q∈z.1,FF c d q)∧(0 < z.2→0 < z.1.length)) (fun z=>(y.length - z.2).toNat) ⟨⟨by show (0:Int)≤0; omega,by show (0:Int)≤_; omega⟩,⟨Nat.le_refl _,by dsimp only; omega⟩,fq,fun h=>by dsimp only at h; omega⟩ ?_
    rintro ⟨fd,k⟩ ⟨⟨k0,k1⟩,⟨h1,h2⟩,h3,h4⟩
    dsimp only at k0 k1 h1 h2 h3 h4
    show Ok (nN c d xs y fd k) _
    unfold nN
    refine ob (P:=fun g=>(g=true→k < y.length∧fd.length≤200)∧(g=false→y.length≤k∨200 < fd.length)) (od (fun h=>os ⟨fun h2=>⟨h,by have:=of_decide_eq_true h2; omega⟩,fun h2=>.inr (by have:=of_decide_eq_false h2; omega)⟩) fun h=>os ⟨fun h2=>(by cases h2),fun _=>.inl (by omega)⟩) fun g hg=>oc (fun eg=>?_) fun eg=>os ⟨rfl,os ⟨⟨h1,h2⟩,h3,fun O A hA hp=>?_⟩⟩
    ·obtain ⟨hk,Tp⟩:=hg.1 eg
     refine oi k0 hk fun q hq=>oe (sx T.s U.s (by omega) (by have:=(hy.2.2.1 q hq).1.len; omega)) (fk (by omega) (by omega) (os ⟨⟨⟨?_,?_⟩,⟨?_,?_⟩,jf h3 ⟨rfl,rfl,e2,ho,hy.2.2.1 q hq⟩,fun _=>?_⟩,?_⟩))
     all_goals (try dsimp only)
     all_goals (try rw [w1 k0 hk (by omega)])
     all_goals (try simp only [List.length_append,List.length_singleton])
     all_goals omega
    ·have eO:O=xs:=hp.all (by have:=hA.ol; omega)
     rw [eO] at hA
     have h5:=hy.2.2.2 A hA (hE A hA)
     show 0 < fd.length
     rcases hg.2 eg with h | h
     ·exact h4 (by omega)
     ·omega
  ·have e2 : ¬ (xs.length:Int)=c.aA:=by simpa using e2
   have d0:=U.t.o0
   refine ol (fun z:List aO×Int=>(0≤z.2∧z.2≤d.aA)∧(found.length≤z.1.length∧z.1.length≤201)∧(∀ q∈z.1,FF c d q)∧∀ O A,FT c d O A→CA xs O→0 < z.1.length∨∀ j:Int,0≤j→j < z.2→gi O xs.length≠j) (fun z=>(d.aA - z.2).toNat) ⟨⟨by show (0:Int)≤0; omega,by show (0:Int)≤_; omega⟩,⟨Nat.le_refl _,by dsimp only; omega⟩,fq,fun O A _ _=>.inr fun j j0 j1=>by dsimp only at j1; omega⟩ ?_
   rintro ⟨fd,k⟩ ⟨⟨k0,k1⟩,⟨h1,h2⟩,h3,h4⟩
   dsimp only at k0 k1 h1 h2 h3 h4
   show Ok (nO (iW n) c d xs fd k) _
   unfold nO
   refine ob (P:=fun g=>(g=true→k < d.aA∧fd.length≤200)∧(g=false→d.aA≤k∨200 < fd.length)) (od (fun h=>os ⟨fun h2=>⟨h,by have:=of_decide_eq_true h2; omega⟩,fun h2=>.inr (by have:=of_decide_eq_false h2; omega)⟩) fun h=>os ⟨fun h2=>(by cases h2),fun _=>.inl (by omega)⟩) fun g hg=>oc (fun eg=>?_) fun eg=>os ⟨rfl,os ⟨⟨h1,h2⟩,h3,fun O A hA hp=>?_⟩⟩
   ·obtain ⟨hk,Tp⟩:=hg.1 eg
    have hw:=w1 k0 hk (by omega)
    refine oe (ee xs (by omega)) (fk (by omega) (by omega) (ob (ih (xs:=xs++[k]) (found:=fd) (by rw [List.length_append,List.length_singleton]; omega) (jf ho ⟨k0,hk⟩) (by rw [List.length_append,List.length_singleton]; omega) Tp h3) fun z hz=>os ⟨⟨⟨?_,?_⟩,⟨?_,hz.1.2⟩,hz.2.1,fun O A hA hp=>?_⟩,?_⟩))
    ·dsimp only; rw [hw]; omega
    ·dsimp only; rw [hw]; omega
    ·dsimp only; have:=hz.1.1; omega
    ·dsimp only
     by_cases e3:gi O xs.length=k
     ·refine .inl (hz.2.2 O A hA ?_)
      have:=hp.app (by have:=hA.ol; omega)
      rwa [e3] at this
     ·rcases h4 O A hA hp with h | h
      ·exact .inl (by have:=hz.1.1; omega)
      ·refine .inr fun j j0 j1=>?_
       rw [hw] at j1
       by_cases ej:j=k
       ·rw [ej]; exact e3
       ·exact h j j0 (by omega)
    ·dsimp only; rw [hw]; omega
   ·show 0 < fd.length
    rcases hg.2 eg with h | h
    ·rcases h4 O A hA hp with h5 | h5
     ·exact h5
     ·exfalso
      have kb:=hA.oo _ (fj (l:=O) (j:=xs.length) (by omega) (by have:=hA.ol; omega))
      exact h5 _ kb.1 (by omega) rfl
    ·omega
theorem Tq:Ok (nT c d) fun y=>y.length≤201∧(∀ q∈y,FF c d q)∧∀ O A,FT c d O A→0 < y.length:=by
 unfold nT
 have o0:=T.t.o0
 have co:=T.o
 refine jv (ob (RN T U 64 (xs:=[]) (found:=[]) (by simpa using o0) lu (by simp; omega) (by simp) lu) fun y hy=>os ⟨hy.1.2,hy.2.1,fun O A hA=>hy.2.2 O A hA ⟨by simp,fun x x0 x1=>by simp at x1; omega⟩⟩)
omit U in
theorem RP:Ok (nB c) fun _=>True:=by
 have cm:=T.m
 unfold nB
 refine jv (ol (fun z:List Int×Int=>(0≤z.2∧z.2≤c.aH.length)∧(z.1.length:Int)≤z.2) (fun z=>(c.aH.length - z.2).toNat) ⟨⟨by show (0:Int)≤0; omega,by show (0:Int)≤_; omega⟩,by show (0:Int)≤0; omega⟩ ?_)
 rintro ⟨l,i⟩ ⟨⟨i0,i1⟩,hl⟩
 dsimp only at i0 i1 hl
 show Ok (nJ c l i) _
 unfold nJ
 refine od (fun hi=>?_) fun hi=>os ⟨rfl,os trivial⟩
 have kf:=T.t.fr i0 hi
 have u:Ok (gO c i) fun _=>True:=by
  unfold gO
  exact jv (oe (T.t.lg i0 hi) (oe (T.t.oK kf.1 kf.2) (os trivial)))
 refine ob u fun b _=>oc (fun _=>fk (by omega) (by omega) (os ⟨⟨⟨?_,?_⟩,?_⟩,?_⟩)) fun _=>os ⟨⟨⟨?_,?_⟩,?_⟩,?_⟩
 all_goals (try dsimp only)
 all_goals rw [w1 i0 hi (by omega)]
 all_goals (try simp only [List.length_append,List.length_singleton])
 all_goals omega
theorem Uz:Ok (lZ c d) fun _=>True:=by
 unfold lZ
 exact jv (ob (RP T) fun y _=>od (fun _=>os trivial) fun _=>os trivial)
theorem Ff {v:Int} (v0:0≤v) (v1:v < d.aA):Ok (kF c d v) fun f=>FF c d f∧FT c d f.aA f.ae:=by
 unfold kF
 have c0:=T.t.o0
 have cm:=T.m
 have co:=T.o
 have ki:=U.t.id v0 v1
 refine jv (ol (fun z:List Int×Int=>(0≤z.2∧z.2≤c.aA)∧(z.1.length:Int)=z.2∧∀ y∈z.1,y=v) (fun z=>(c.aA - z.2).toNat) ⟨⟨by show (0:Int)≤0; omega,by show (0:Int)≤_; omega⟩,rfl,lu⟩ ?_)
 rintro ⟨l,i⟩ ⟨⟨i0,i1⟩,hl,hv⟩
 dsimp only at i0 i1 hl hv
 show Ok (mG c v l i) _
 unfold mG
 refine od (fun hi=>fk (by omega) (by omega) (os ⟨⟨⟨?_,?_⟩,?_,jf hv rfl⟩,?_⟩)) fun hi=>os ⟨rfl,?_⟩
 ·dsimp only; rw [w1 i0 hi (by omega)]; omega
 ·dsimp only; rw [w1 i0 hi (by omega)]; omega
 ·dsimp only; rw [w1 i0 hi (by omega),List.length_append,List.length_singleton]; omega
 ·dsimp only; rw [w1 i0 hi (by omega)]; omega
 refine ol (fun z:List Int×Int=>(0≤z.2∧z.2≤c.aH.length)∧(z.1.length:Int)=z.2∧∀ y∈z.1,y=gi d.aJ v) (fun z=>(c.aH.length - z.2).toNat) ⟨⟨by show (0:Int)≤0; omega,by show (0:Int)≤_; omega⟩,rfl,lu⟩ ?_
 rintro ⟨m,j⟩ ⟨⟨j0,j1⟩,hm,JG⟩
 dsimp only at j0 j1 hm JG
 show Ok (mH c d v m j) _
 unfold mH
 refine od (fun hj=>oe (U.t.oK v0 v1) (fk (by omega) (by omega) (os ⟨⟨⟨?_,?_⟩,?_,jf JG rfl⟩,?_⟩))) fun hj=>os ⟨rfl,oe (sx T.s U.s (by omega) (by omega)) (os ?_)⟩
 ·dsimp only; rw [w1 j0 hj (by omega)]; omega
 ·dsimp only; rw [w1 j0 hj (by omega)]; omega
 ·dsimp only; rw [w1 j0 hj (by omega),List.length_append,List.length_singleton]; omega
 ·dsimp only; rw [w1 j0 hj (by omega)]; omega
 have lo:∀ x:Int,0≤x→x < c.aA→gi l x=v:=fun x x0 x1=>hv _ (fj x0 (by omega))
 have la:∀ a:Int,0≤a→a < c.aH.length→gi m a=gi d.aJ v:=fun x x0 x1=>JG _ (fj x0 (by omega))
 have oo:∀ y∈l,0≤y∧y < d.aA:=fun y hy=>by rw [hv y hy]; exact ⟨v0,v1⟩
 have H:FT c d l m:=by
  refine ⟨by omega,oo,fun a a0 a1=>?_,fun x x0 x1=>?_,fun a b a0 a1 b0 b1 e=>?_⟩
  ·rw [la a a0 a1]
   exact ⟨ki,by rw [U.t.vf _ v0 v1,lo _ (T.t.fr a0 a1).1 (T.t.fr a0 a1).2],by rw [U.t.vZ _ v0 v1,lo _ (T.t.to a0 a1).1 (T.t.to a0 a1).2]⟩
  ·rw [la _ (T.t.id x0 x1).1 (T.t.id x0 x1).2,lo x x0 x1]
  ·have k:=T.t.cell a b a0 a1 b0 b1 e
   rw [la _ k.1.1 k.1.2,la a a0 a1,la b b0 b1]
   exact (U.t.uu v v0 v1).symm
 exact ⟨⟨rfl,rfl,H.ol,oo,H.full (by omega)⟩,H⟩
omit U in
theorem yG:Ok (eK c) fun f=>FF c c f∧FT c c f.aA f.ae:=by
 unfold eK
 have c0:=T.t.o0
 have cm:=T.m
 have co:=T.o
 refine jv (ol (fun z:List Int×Int=>(0≤z.2∧z.2≤c.aA)∧(z.1.length:Int)=z.2∧∀ j:Int,0≤j→j < z.2→gi z.1 j=j) (fun z=>(c.aA - z.2).toNat) ⟨⟨by show (0:Int)≤0; omega,by show (0:Int)≤_; omega⟩,rfl,fun j j0 j1=>by dsimp only at j1; omega⟩ ?_)
 rintro ⟨l,i⟩ ⟨⟨i0,i1⟩,hl,hv⟩
 dsimp only at i0 i1 hl hv
 show Ok (hY c l i) _
 unfold hY
 refine od (fun hi=>fk (by omega) (by omega) (os ⟨⟨⟨?_,?_⟩,?_,fun j j0 j1=>?_⟩,?_⟩)) fun hi=>os ⟨rfl,?_⟩
 ·dsimp only; rw [w1 i0 hi (by omega)]; omega
 ·dsimp only; rw [w1 i0 hi (by omega)]; omega
 ·dsimp only; rw [w1 i0 hi (by omega),List.length_append,List.length_singleton]; omega
 ·dsimp only at j1 ⊢
  rw [w1 i0 hi (by omega)] at j1
  rw [mb j0]
  by_cases e:j < l.length
  ·rw [if_pos e]; exact hv j j0 (by omega)
  ·rw [if_neg e,if_pos (by omega)]; omega
 ·dsimp only; rw [w1 i0 hi (by omega)]; omega
 refine ol (fun z:List Int×Int=>(0≤z.2∧z.2≤c.aH.length)∧(z.1.length:Int)=z.2∧∀ j:Int,0≤j→j < z.2→gi z.1 j=j) (fun z=>(c.aH.length - z.2).toNat) ⟨⟨by show (0:Int)≤0; omega,by show (0:Int)≤_; omega⟩,rfl,fun j j0 j1=>by dsimp only at j1; omega⟩ ?_
 rintro ⟨m,j⟩ ⟨⟨j0,j1⟩,hm,JG⟩
 dsimp only at j0 j1 hm JG
 show Ok (iA c m j) _
 unfold iA
 refine od (fun hj=>fk (by omega) (by omega) (os ⟨⟨⟨?_,?_⟩,?_,fun q q0 q1=>?_⟩,?_⟩)) fun hj=>os ⟨rfl,oe (sx T.s T.s (by omega) (by omega)) (os ?_)⟩
 ·dsimp only; rw [w1 j0 hj (by omega)]; omega
 ·dsimp only; rw [w1 j0 hj (by omega)]; omega
 ·dsimp only; rw [w1 j0 hj (by omega),List.length_append,List.length_singleton]; omega
 ·dsimp only at q1 ⊢
  rw [w1 j0 hj (by omega)] at q1
  rw [mb q0]
  by_cases e:q < m.length
  ·rw [if_pos e]; exact JG q q0 (by omega)
  ·rw [if_neg e,if_pos (by omega)]; omega
 ·dsimp only; rw [w1 j0 hj (by omega)]; omega
 have lo:∀ x:Int,0≤x→x < c.aA→gi l x=x:=fun x x0 x1=>hv _ x0 (by omega)
 have la:∀ a:Int,0≤a→a < c.aH.length→gi m a=a:=fun x x0 x1=>JG _ x0 (by omega)
 have oo:∀ y∈l,0≤y∧y < c.aA:=fun y hy=>by
  obtain ⟨i,i0,i1,rfl⟩:=ue hy
  rw [lo i i0 (by omega)]; omega
 have H:FT c c l m:=by
  refine ⟨by omega,oo,fun a a0 a1=>?_,fun x x0 x1=>?_,fun a b a0 a1 b0 b1 e=>?_⟩
  ·rw [la a a0 a1]
   exact ⟨⟨a0,a1⟩,by rw [lo _ (T.t.fr a0 a1).1 (T.t.fr a0 a1).2],by rw [lo _ (T.t.to a0 a1).1 (T.t.to a0 a1).2]⟩
  ·rw [la _ (T.t.id x0 x1).1 (T.t.id x0 x1).2,lo x x0 x1]
  ·have k:=T.t.cell a b a0 a1 b0 b1 e
   rw [la _ k.1.1 k.1.2,la a a0 a1,la b b0 b1]
 exact ⟨⟨rfl,rfl,H.ol,oo,H.full (by omega)⟩,H⟩
end
def N7 (c d:aI):Prop:=∀ l,lZ c d=some true→nT c d=some l→0 < l.length
theorem C5 {c d:aI} {O A:List Int} (T:T7 c) (U:T7 d) (h:FT c d O A):N7 c d:=by
 intro l _ e
 obtain ⟨l',e',h'⟩:=Tq T U
 rw [e] at e'
 cases e'
 exact h'.2.2 O A h
theorem Ak {y:aI} {o m:Int} (h:lh 8 800 y∧Ty y∧((y.aA≤o∧(y.aH.length:Int)≤m)∨lh 1 4 y)) (ho:o≤63) (hm:m≤63):T7 y:=by
 refine ⟨h.2.1,?_,?_,h.1.small (by omega) (by omega)⟩
 ·rcases h.2.2 with h | h
  ·omega
  ·have:=h.m; omega
 ·rcases h.2.2 with h | h
  ·omega
  ·have:=h.o; omega
section
variable {x:List Int} (B:zm x) {s:aL} (S:Src x s)
include B S
theorem MG {c:aI} (T:T7 c) {o m:Int} (ho:o≤63) (hm:m≤63):Ok (lK s c o m) fun y=>(∃ d,T7 d∧FF c d y.1∧N7 c d)∧Src x y.2:=by
 unfold lK
 refine jv (ob (Cu B S o m) fun y hy=>?_)
 have U:T7 y.1:=Ak hy.1 ho hm
 have S1:=S.on (h:=y.2.av) hy.2
 obtain ⟨b,eb,_⟩:=Uz T U
 refine oe eb (oc (fun hb=>?_) fun _=>?_)
 ·obtain ⟨l,el,hl⟩:=Tq T U
  refine oe el (od (fun h0=>ob (er B S1 _) fun z hz=>oi hz.1.1 (hz.1.2 (by omega)) fun f hf=>os ⟨⟨y.1,U,hl.2.1 f hf,fun l' _ e'=>by rw [el] at e'; cases e'; omega⟩,S.on hz.2⟩) fun _=>?_)
  exact od (fun ho=>ob (er B S1 _) fun z hz=>oc (fun _=>ob (er B (S.on hz.2) _) fun w hw=>ob (Ff T U hw.1.1 (hw.1.2 (by omega))) fun f hf=>os ⟨⟨y.1,U,hf.1,C5 T U hf.2⟩,S.on hw.2⟩) fun _=>ob (yG T) fun f hf=>os ⟨⟨c,T,hf.1,C5 T T hf.2⟩,S.on hz.2⟩) fun _=>ob (yG T) fun f hf=>os ⟨⟨c,T,hf.1,C5 T T hf.2⟩,S1⟩
 ·exact od (fun ho=>ob (er B S1 _) fun z hz=>oc (fun _=>ob (er B (S.on hz.2) _) fun w hw=>ob (Ff T U hw.1.1 (hw.1.2 (by omega))) fun f hf=>os ⟨⟨y.1,U,hf.1,C5 T U hf.2⟩,S.on hw.2⟩) fun _=>ob (yG T) fun f hf=>os ⟨⟨c,T,hf.1,C5 T T hf.2⟩,S.on hz.2⟩) fun _=>ob (yG T) fun f hf=>os ⟨⟨c,T,hf.1,C5 T T hf.2⟩,S1⟩
theorem Un:Ok (pJ s) fun y=>jo y.1∧Src x y.2:=by
 unfold pJ
 refine jv (ob (Cu B S 4 10) fun y hy=>?_)
 have T:T7 y.1:=Ak hy.1 (by omega) (by omega)
 refine ob (MG B (S.on hy.2) T (by omega) (by omega)) fun z hz=>?_
 obtain ⟨⟨d,U,F,_⟩,S2⟩:=hz
 have fs:jo z.1:=F.small T U
 have gp:=F.ol
 have co:=T.o
 refine ob (er B (S.on S2) _) fun w hw=>oc (fun _=>?_) fun _=>oc (fun _=>?_) fun _=>oc (fun _=>?_) fun _=>os ⟨fs,S.on hw.2⟩
 ·exact ob (X8 B (S.on hw.2) (c:=z.1.aB) (by rw [F.s]; exact hy.1.1)) fun u hu=>os ⟨⟨hu.1,fs.t,fs.o,fs.a⟩,S.on hu.2⟩
 ·refine od (fun h=>ob (er B (S.on hw.2) _) fun u hu=>ob (er B (S.on hu.2) _) fun v hv=>oe (cH hu.1.1 (hu.1.2 (by omega))) (os ⟨⟨fs.s,fs.t,fs.o,?_⟩,S.on hv.2⟩)) fun _=>os ⟨fs,S.on hw.2⟩
  show (List.set _ _ _).length≤_
  rw [List.length_set]; exact fs.a
 ·refine fk (by omega) (by omega) (os ⟨⟨fs.s,fs.t,?_,fs.a⟩,S.on hw.2⟩)
  show (z.1.aA++[(0:Int)]).length≤_
  rw [List.length_append,List.length_singleton]; omega
end
end Go.Proofs.YtjdkifckhidlbaaGreat
namespace Go.Proofs.YtjdkifckhidlbaaGreat
open Go Go.Li
set_option linter.unusedVariables false
set_option linter.unusedSectionVars false
section
variable {c d:aI} {f g:aO} (T:T7 c) (U:T7 d) (F:FF c d f) (G:FF c d g)
include T U F G
end
theorem X1 {c:aI} (C:nr c):T7 c:=by
 have m:=C.m
 have o8:=C.o8
 have kr:∀ r∈c.aE,r.length=c.aH.length:=fun r hr=>by
  obtain ⟨i,i0,i1,rfl⟩:=OU hr
  exact C.row i i0 (by rw [← C.kl]; exact i1)
 refine ⟨⟨C.o0,C.f,C.tl,C.t,C.kl,kr,C.il,C.i,C.vf,C.vZ,fun f g f0 f1 g0 g1 e=>?_,C.none,fun x x0 x1=>?_⟩,by omega,by omega,⟨by omega,by rw [C.tl]; omega,by have:=C.il; omega,by rw [C.kl]; omega,fun r hr=>by rw [kr r hr]; omega⟩⟩
 ·have k:=C.cell f g f0 f1 g0 g1 e
  exact ⟨⟨k.1,k.2.1⟩,k.2.2⟩
 ·have k:=C.id x0 x1
  have h:=C.CZ _ k.1 k.2
  rw [C.vf x x0 x1] at h
  exact h
section
variable {x:List Int} (B:zm x) {s:aL} (S:Src x s)
include B S
theorem aan (n:Int):Ok (nC s n) fun y=>Src x y.2:=by
 unfold nC
 exact jv (ob (er B S _) fun y hy=>oc (fun _=>ob (O6 B (S.on hy.2) (by simp)) fun z hz=>os (S.on hz.2)) fun _=>ob (er B (S.on hy.2) _) fun z hz=>os (S.on hz.2))
end
theorem Src.S8 {x:List Int} {t:aL} {h:Int} (T:Src x t):Src x (aL.mk x t.At h):=⟨rfl,T.a0,T.a1⟩
end Go.Proofs.YtjdkifckhidlbaaGreat
