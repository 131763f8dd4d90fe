/- Functors that are looked for in depth: the reference's search does not fail, and finds one where there is one. No condition beside those that each theorem names. -/
import Derived.Test.YtbhhmalgcnhniaaGreatYi
import Derived.Test.YtbhhmalgcnhniaaGreatYk
set_option linter.unusedVariables false
set_option linter.unusedSectionVars false
set_option linter.unusedSimpArgs false
namespace Go.Proofs.YtbhhmalgcnhniaaGreat
open Go Go.Li
set_option linter.unusedVariables false
set_option linter.unusedSectionVars false
set_option linter.unusedSimpArgs false
def rY (r:List Int):Nat:=(r.filter fun v=>decide (v < 0)).length
theorem Ja {r:List Int} {d:Nat} {v:Int} (hv:0≤v):rY (r.set d v)≤rY r∧(d < r.length→gi r d < 0→rY (r.set d v) < rY r):=by
 unfold rY
 induction r generalizing d with
 | nil=>exact ⟨by simp,fun h=>by simp at h⟩
 | cons a r ih=>
  cases d with
  | zero=>
   have e0:(List.filter (fun v=>decide (v < 0)) (v :: r))=List.filter (fun v=>decide (v < 0)) r:=by rw [List.filter_cons,if_neg (by simp; omega)]
   rw [List.set_cons_zero,e0,List.filter_cons]
   refine ⟨by split <;> simp,fun _ h=>?_⟩
   have h:a < 0:=h
   rw [if_pos (by simpa using h)]; simp
  | succ d=>
   rw [List.set_cons_succ,List.filter_cons,List.filter_cons]
   obtain ⟨h1,h2⟩:=ih (d:=d)
   refine ⟨by split <;> (try simp only [List.length_cons]) <;> omega,fun hl hg=>?_⟩
   have hg:gi r d < 0:=by
    have e:gi (a :: r) ((d+1:Nat):Int)=gi r (d:Int):=rfl
    rwa [e] at hg
   have:=h2 (by simp at hl; omega) hg
   split <;> (try simp only [List.length_cons]) <;> omega
theorem QW {c:aC} (hl:c.To.length=c.aA.length) (hm:c.aA.length≤100000) (x y:Int):Ok (lV c x y) fun l=>l.length≤c.aA.length∧∀ f,f∈l↔(0≤f∧f < c.aA.length)∧gi c.aA f=x∧gi c.To f=y:=by
 unfold lV
 refine ew (ol (fun z:List Int×Int=>(0≤z.2∧z.2≤c.aA.length)∧(z.1.length:Int)≤z.2∧∀ f,f∈z.1↔(0≤f∧f < z.2)∧gi c.aA f=x∧gi c.To f=y) (fun z=>(c.aA.length - z.2).toNat) ⟨⟨by show (0:Int)≤0; omega,by show (0:Int)≤_; omega⟩,by show (0:Int)≤0; omega,fun f=>⟨(fun h=>nomatch h),fun h=>by have:=h.1; omega⟩⟩ ?_)
 rintro ⟨l,i⟩ ⟨⟨i0,i1⟩,xB,qb⟩
 dsimp only at i0 i1 xB qb
 show Ok (nK c x y l i) _
 unfold nK
 refine od (fun hi=>?_) fun hi=>os ⟨rfl,os ⟨by omega,fun f=>(qb f).trans ⟨fun h=>⟨⟨h.1.1,by omega⟩,h.2⟩,fun h=>⟨⟨h.1.1,by omega⟩,h.2⟩⟩⟩⟩
 have hw:=w1 i0 hi (by omega)
 refine oe (x:=(gi c.aA i == x && gi c.To i == y)) (by rw [aZ i0 hi,aE,aZ i0 (by omega),aE,rM,Hh]) (oc (fun eg=>de (by omega) (by omega) (os ⟨⟨⟨?_,?_⟩,?_,fun f=>?_⟩,?_⟩)) fun eg=>os ⟨⟨⟨?_,?_⟩,?_,fun f=>?_⟩,?_⟩)
 all_goals try dsimp only
 all_goals rw [hw]
 all_goals first | (simp only [List.length_append,List.length_singleton]; omega) | omega | skip
 ·simp only [Bool.and_eq_true,beq_iff_eq] at eg
  rw [List.mem_append,List.mem_singleton,qb f]
  constructor
  ·rintro (h | rfl)
   ·exact ⟨⟨h.1.1,by omega⟩,h.2⟩
   ·exact ⟨⟨i0,by omega⟩,eg⟩
  ·rintro ⟨h,h2⟩
   by_cases e:f=i
   ·exact .inr e
   ·exact .inl ⟨⟨h.1,by omega⟩,h2⟩
 ·rw [qb f]
  constructor
  ·exact fun h=>⟨⟨h.1.1,by omega⟩,h.2⟩
  ·rintro ⟨h,h2⟩
   by_cases e:f=i
   ·subst e
    rw [h2.1,h2.2] at eg
    simp at eg
   ·exact ⟨⟨h.1,by omega⟩,h2⟩
structure PA (c d:aC) (xs ys:List Int):Prop where
 len:ys.length=c.aA.length
 ok:∀ a:Int,0≤a→a < c.aA.length→0≤gi ys a→gi ys a < d.aA.length∧gi d.aA (gi ys a)=gi xs (gi c.aA a)∧gi d.To (gi ys a)=gi xs (gi c.To a)
theorem PA.set {c d:aC} {xs ys:List Int} (P:PA c d xs ys) {a v:Int} (a0:0≤a) (a1:a < c.aA.length) (h:0≤v→v < d.aA.length∧gi d.aA v=gi xs (gi c.aA a)∧gi d.To v=gi xs (gi c.To a)):PA c d xs (ys.set a.toNat v):=by
 have hl:=P.len
 refine ⟨by rw [List.length_set]; exact hl,fun b b0 b1=>?_⟩
 rw [jo a0 (by omega) b0]
 by_cases e:b=a
 ·rw [if_pos e,e]; exact h
 ·rw [if_neg e]; exact P.ok b b0 b1
def KN (c d:aC) (A:List Int):Prop:=∀ a b:Int,0≤a→a < c.aA.length→0≤b→b < c.aA.length→gi c.To a=gi c.aA b→gi A (gk c.aB a b)=gk d.aB (gi A a) (gi A b)
def zq (c:aC) (ys A:List Int):Prop:=∀ a:Int,0≤a→a < c.aA.length→0≤gi ys a→gi ys a=gi A a
structure FJ (c d:aC) (xs wK ys:List Int):Prop where
 p:PA c d xs ys
 mono:∀ a:Int,0≤a→0≤gi wK a→gi ys a=gi wK a
 ext:∀ A,KN c d A→zq c wK A→zq c ys A
 ng:rY ys≤rY wK
section
variable {c d:aC} {xs wK ys:List Int} (T:Ty c) (U:Ty d)
include T U
theorem FJ.step (J:FJ c d xs wK ys) {a b:Int} (a0:0≤a) (a1:a < c.aA.length) (b0:0≤b) (b1:b < c.aA.length) (hh:0≤gk c.aB a b) (ha:0≤gi ys a) (hb:0≤gi ys b) :
  gk c.aB a b < c.aA.length∧gi ys a < d.aA.length∧gi ys b < d.aA.length∧
  ((0≤gi ys (gk c.aB a b)→gi ys (gk c.aB a b)=gk d.aB (gi ys a) (gi ys b))→FJ c d xs wK (ys.set (gk c.aB a b).toNat (gk d.aB (gi ys a) (gi ys b)))∧rY (ys.set (gk c.aB a b).toNat (gk d.aB (gi ys a) (gi ys b)))≤rY ys∧(gi ys (gk c.aB a b) < 0→rY (ys.set (gk c.aB a b).toNat (gk d.aB (gi ys a) (gi ys b))) < rY ys))∧
  (0≤gi ys (gk c.aB a b)→gi ys (gk c.aB a b)≠gk d.aB (gi ys a) (gi ys b)→∀ A,KN c d A→¬ zq c wK A):=by
 have e:gi c.To a=gi c.aA b:=Classical.byContradiction fun ne=>by
  have:=T.none a b a0 a1 b0 b1 ne
  omega
 have k:=T.cell a b a0 a1 b0 b1 e
 have pa:=J.p.ok a a0 a1 ha
 have pb:=J.p.ok b b0 b1 hb
 have m:=U.cell _ _ ha pa.1 hb pb.1 (by rw [pa.2.2,pb.2.1,e])
 have hl:=J.p.len
 refine ⟨k.1.2,pa.1,pb.1,fun hc=>?_,fun h0 iv A hA hE=>iv ?_⟩
 ·have hn:=Ja (r:=ys) (d:=(gk c.aB a b).toNat) m.1.1
  refine ⟨⟨J.p.set hh k.1.2 fun _=>⟨m.1.2,by rw [m.2.1,pa.2.1,k.2.1],by rw [m.2.2,pb.2.2,k.2.2]⟩,fun x x0 hx=>?_,fun A hA hE=>?_,by have:=J.ng; omega⟩,hn.1,fun zg=>hn.2 (by omega) (by rw [show (((gk c.aB a b).toNat:Nat):Int)=gk c.aB a b by omega]; exact zg)⟩
  ·have hm:=J.mono x x0 hx
   rw [jo hh (by omega) x0]
   by_cases ex:x=gk c.aB a b
   ·rw [if_pos ex]
    rw [← ex] at hc
    rw [← hc (by omega),hm]
   ·rw [if_neg ex]; exact hm
  ·have Hy:=J.ext A hA hE
   intro x x0 x1 hx
   rw [jo hh (by omega) x0] at hx ⊢
   by_cases ex:x=gk c.aB a b
   ·rw [if_pos ex,ex,hA a b a0 a1 b0 b1 e,← Hy a a0 a1 ha,← Hy b b0 b1 hb]
   ·rw [if_neg ex] at hx ⊢
    exact Hy x x0 x1 hx
 ·have Hy:=J.ext A hA hE
  rw [Hy _ hh k.1.2 h0,hA a b a0 a1 b0 b1 e,← Hy a a0 a1 ha,← Hy b b0 b1 hb]
theorem R5 (cm:c.aA.length≤1000) (P:PA c d xs wK):Ok (mE c d wK) fun y=>(y.1=true→FJ c d xs wK y.2)∧(y.1=false→∀ A,KN c d A→¬ zq c wK A):=by
 unfold mE
 refine ew (ol (fun z:Bool×List Int=>FJ c d xs wK z.2) (fun z=>(if z.1 then 1 else 0)+rY z.2) ⟨P,fun _ _ _=>rfl,fun _ _ h=>h,Nat.le_refl _⟩ ?_)
 rintro ⟨more,Nu⟩ J0
 dsimp only at J0
 show Ok (mN c d more Nu) _
 unfold mN
 refine oc (fun QY=>?_) fun QY=>os ⟨rfl,os ⟨fun _=>J0,fun h=>by cases h⟩⟩
 subst QY
 refine ol (fun z:Bool×Int×List Int=>(0≤z.2.1∧z.2.1≤c.aA.length)∧FJ c d xs wK z.2.2∧rY z.2.2≤rY Nu∧(z.1=true→rY z.2.2 < rY Nu)) (fun z=>(c.aA.length - z.2.1).toNat) ⟨⟨by show (0:Int)≤0; omega,by show (0:Int)≤_; omega⟩,J0,Nat.le_refl _,fun h=>by cases h⟩ ?_
 rintro ⟨more,a,ys2⟩ ⟨⟨a0,a1⟩,J1,n1,n2⟩
 dsimp only at a0 a1 J1 n1 n2
 show Ok (mM c d more a ys2) _
 unfold mM
 rw [J1.p.len]
 refine od (fun ha=>?_) fun ha=>os ⟨rfl,os ⟨J1,?_⟩⟩
 ·refine ol (fun z:Bool×Int×List Int=>(0≤z.2.1∧z.2.1≤c.aA.length)∧FJ c d xs wK z.2.2∧rY z.2.2≤rY Nu∧(z.1=true→rY z.2.2 < rY Nu)) (fun z=>(c.aA.length - z.2.1).toNat) ⟨⟨by show (0:Int)≤0; omega,by show (0:Int)≤_; omega⟩,J1,n1,n2⟩ ?_
  rintro ⟨more,b,EK⟩ ⟨⟨b0,b1⟩,J2,m1,m2⟩
  dsimp only at b0 b1 J2 m1 m2
  show Ok (mL c d a more b EK) _
  unfold mL
  rw [J2.p.len]
  have hw:=w1 a0 ha (by omega)
  refine od (fun hb=>?_) fun hb=>os ⟨rfl,os ⟨⟨⟨?_,?_⟩,J2,m1,m2⟩,?_⟩⟩
  ·have AH:=w1 b0 hb (by omega)
   have hl:=J2.p.len
   refine oe (T.nm a0 ha) (oe (T.mg a0 ha b0 hb) ?_)
   have ht:=T.Bj a0 ha b0 hb
   refine oe (x:=(decide (gk c.aB a b < 0) || (decide (gi EK a < 0) || decide (gi EK b < 0)))) ?_ (oc (fun eg=>os ⟨⟨⟨?_,?_⟩,J2,m1,m2⟩,?_⟩) fun eg=>?_)
   ·rw [aZ a0 (by omega),aE,aZ b0 (by omega),aE,rM,x8,rM,x8]
   ·dsimp only; omega
   ·dsimp only; omega
   ·dsimp only; omega
   simp only [Bool.or_eq_false_iff,decide_eq_false_iff_not] at eg
   obtain ⟨g1,g2,g3⟩:=eg
   obtain ⟨s1,s2,s3,s4,s5⟩:=J2.step T U a0 ha b0 hb (by omega) (by omega) (by omega)
   refine oe (aZ a0 (by omega)) (oe (U.nm (by omega) s2) (oe (aZ b0 (by omega)) (oe (U.mg (by omega) s2 (by omega) s3) ?_)))
   refine oe (x:=(decide (gi EK (gk c.aB a b) ≥ 0) && (gi EK (gk c.aB a b) != gk d.aB (gi EK a) (gi EK b)))) ?_ (oc (fun eg=>os ?_) fun eg=>?_)
   ·rw [aZ (by omega) (by omega),aE,aE,rM,Hh]
   ·simp only [Bool.and_eq_true,decide_eq_true_eq,bne_iff_ne] at eg
    exact ⟨fun h=>(by cases h),fun _=>s5 eg.1 eg.2⟩
   ·obtain ⟨q1,q2,q3⟩:=s4 (fun h=>by
     rw [decide_eq_true (by omega),Bool.true_and] at eg
     simpa using eg)
    refine oe (x:=(more || decide (gi EK (gk c.aB a b) < 0))) ?_ (oe (aZ (by omega) (by omega)) (os ⟨⟨⟨?_,?_⟩,q1,by dsimp only; omega,fun h=>?_⟩,?_⟩))
    ·rw [aZ (by omega) (by omega),aE,rM,x8]
    ·dsimp only; omega
    ·dsimp only; omega
    ·dsimp only at h ⊢
     rw [Bool.or_eq_true,decide_eq_true_eq] at h
     rcases h with h | h
     ·have:=m2 h; omega
     ·have:=q3 h; omega
    ·dsimp only; omega
  all_goals dsimp only
  all_goals rw [hw]
  all_goals omega
 ·dsimp only
  cases more with
  | true=>have:=n2 rfl; simp; omega
  | false=>simp; omega
end
structure FT (c d:aC) (O A:List Int):Prop where
 ol:(O.length:Int)=c.aD
 oo:∀ y∈O,0≤y∧y < d.aD
 ar:∀ a:Int,0≤a→a < c.aA.length→(0≤gi A a∧gi A a < d.aA.length)∧gi d.aA (gi A a)=gi O (gi c.aA a)∧gi d.To (gi A a)=gi O (gi c.To a)
 un:∀ x:Int,0≤x→x < c.aD→gi A (gi c.aF x)=gi d.aF (gi O x)
 co:KN c d A
def Full (c d:aC) (xs q:List Int):Prop:=PA c d xs q∧∀ a:Int,0≤a→a < c.aA.length→0≤gi q a
section
variable {c d:aC} {xs:List Int} (T:Ty c) (U:Ty d) (cm:c.aA.length≤1000) (dm:d.aA.length≤1000) (hob:(xs.length:Int)=c.aD) (LB:∀ y∈xs,0≤y∧y < d.aD)
include T U cm dm hob LB
theorem PS (n:Nat):∀ {ys:List Int} {f:Int} {found:List (List Int)} (_:PA c d xs ys) (_:0≤f) (_:f≤c.aA.length) (_:∀ a:Int,0≤a→a < f→0≤gi ys a) (_:rY ys < n) (_:found.length≤200) (_:∀ q∈found,Full c d xs q),
  Ok (eX n c d xs ys f found) fun y=>found.length≤y.length∧y.length≤201∧(∀ q∈y,Full c d xs q)∧∀ A,FT c d xs A→zq c ys A→0 < y.length:=by
 induction n with
 | zero=>intro ys f found _ _ _ _ h; omega
 | succ n ih=>
  intro ys f found P f0 f1 Hz hng TJ cq
  show Ok (jL (eX n) c d xs ys f found) _
  unfold jL
  have hl:=P.len
  refine ew (ol (fun z:Int=>(0≤z∧z≤c.aA.length)∧∀ a:Int,0≤a→a < z→0≤gi ys a) (fun z=>(c.aA.length - z).toNat) ⟨⟨f0,f1⟩,Hz⟩ ?_)
  rintro f ⟨⟨f0,f1⟩,Hz⟩
  unfold nY
  rw [hl]
  refine ob (P:=fun g=>(g=true→f < c.aA.length∧0≤gi ys f)∧(g=false→f < c.aA.length→gi ys f < 0)) (od (fun h=>oe (aZ f0 (by omega)) (os ⟨fun h2=>⟨h,of_decide_eq_true h2⟩,fun h2 _=>by have:=of_decide_eq_false h2; omega⟩)) fun h=>os ⟨fun h2=>(by cases h2),fun _ h2=>absurd h2 h⟩) fun g hg=>oc (fun eg=>os ⟨⟨⟨?_,?_⟩,fun a a0 a1=>?_⟩,?_⟩) fun eg=>os ⟨rfl,?_⟩
  ·have:=hg.1 eg; rw [w1 f0 this.1 (by omega)]; omega
  ·have:=hg.1 eg; rw [w1 f0 this.1 (by omega)]; omega
  ·have:=hg.1 eg
   rw [w1 f0 this.1 (by omega)] at a1
   by_cases e:a=f
   ·rw [e]; exact this.2
   ·exact Hz a a0 (by omega)
  ·have:=hg.1 eg; rw [w1 f0 this.1 (by omega)]; dsimp only; omega
  have zg:=hg.2 eg
  refine oc (fun e=>?_) fun e=>?_
  ·have e:f=c.aA.length:=by simpa using e
   refine oe (jq ys (by omega)) (de (by omega) (by omega) (os ⟨?_,?_,ik cq ⟨P,fun a a0 a1=>Hz a a0 (by omega)⟩,fun A _ _=>?_⟩))
   all_goals simp only [List.length_append,List.length_singleton]
   all_goals omega
  ·have e : ¬ f=c.aA.length:=by simpa using e
   have hf:f < c.aA.length:=by omega
   have zg:=zg hf
   have kf:=T.fr f0 hf
   have kt:=T.to f0 hf
   refine oe (T.iH f0 hf) (oe (aZ kf.1 (by omega)) (oe (T.jd f0 hf) (oe (aZ kt.1 (by omega)) (ob (QW U.tl (by omega) _ _) fun uG hh=>?_))))
   refine ol (fun z:List (List Int)×Int=>(0≤z.2∧z.2≤uG.length)∧(found.length≤z.1.length∧z.1.length≤201)∧(∀ q∈z.1,Full c d xs q)∧∀ A,FT c d xs A→zq c ys A→0 < z.1.length∨∀ j:Int,0≤j→j < z.2→gi uG j≠gi A f) (fun z=>(uG.length - z.2).toNat) ⟨⟨by show (0:Int)≤0; omega,by show (0:Int)≤_; omega⟩,⟨Nat.le_refl _,by dsimp only; omega⟩,cq,fun A _ _=>.inr fun j j0 j1=>by dsimp only at j1; omega⟩ ?_
   rintro ⟨fd,i⟩ ⟨⟨i0,i1⟩,⟨h1,h2⟩,h3,h4⟩
   dsimp only at i0 i1 h1 h2 h3 h4
   show Ok (lN (eX n) c d xs ys f uG fd i) _
   unfold lN
   refine ob (P:=fun g=>(g=true→i < uG.length∧fd.length≤200)∧(g=false→uG.length≤i∨200 < fd.length)) (od (fun h=>os ⟨fun h2=>⟨h,by have:=of_decide_eq_true h2; omega⟩,fun h2=>.inr (by have:=of_decide_eq_false h2; omega)⟩) fun h=>os ⟨fun h2=>(by cases h2),fun _=>.inl (by omega)⟩) fun g hg=>oc (fun eg=>?_) fun eg=>os ⟨rfl,os ⟨h1,h2,h3,fun A hA hE=>?_⟩⟩
   ·obtain ⟨hi,QZ⟩:=hg.1 eg
    have hw:=w1 i0 hi (by omega)
    have hv:=(hh.2 _).1 (ib i0 hi)
    have P2:PA c d xs (ys.set f.toNat (gi uG i)):=P.set f0 hf fun _=>⟨hv.1.2,hv.2.1,hv.2.2⟩
    refine oe (jq ys (by omega)) (oe (aZ i0 hi) (oe (aZ f0 (by omega)) (ob (R5 T U cm P2) fun y hy=>?_)))
    have Y2:∀ A,zq c ys A→gi uG i=gi A f→zq c (ys.set f.toNat (gi uG i)) A:=fun A hE e2 x x0 x1 hx=>by
     rw [jo f0 (by omega) x0] at hx ⊢
     by_cases ex:x=f
     ·rw [if_pos ex,ex]; exact e2
     ·rw [if_neg ex] at hx ⊢; exact hE x x0 x1 hx
    refine oc (fun ey=>?_) fun ey=>os ⟨⟨⟨?_,?_⟩,⟨h1,h2⟩,h3,fun A hA hE=>?_⟩,?_⟩
    ·have J:=hy.1 ey
     have Qw:0≤gi y.2 f:=by
      have h0:gi (ys.set f.toNat (gi uG i)) f=gi uG i:=by rw [jo f0 (by omega) f0,if_pos rfl]
      rw [J.mono f f0 (by rw [h0]; exact hv.1.1),h0]; exact hv.1.1
     have IB:=(Ja (r:=ys) (d:=f.toNat) hv.1.1).2 (by omega) (by rw [show ((f.toNat:Nat):Int)=f by omega]; exact zg)
     have hn3:=J.ng
     have AB:=w1 f0 hf (by omega)
     rw [AB]
     refine ob (ih J.p (by omega) (by omega) (fun a a0 a1=>?_) (by omega) QZ h3) fun z hz=>os ⟨⟨⟨?_,?_⟩,⟨?_,hz.2.1⟩,hz.2.2.1,fun A hA hE=>?_⟩,?_⟩
     ·by_cases ea:a=f
      ·rw [ea]; exact Qw
      ·have:=Hz a a0 (by omega)
       have hs:gi (ys.set f.toNat (gi uG i)) a=gi ys a:=by rw [jo f0 (by omega) a0,if_neg ea]
       rw [J.mono a a0 (by rw [hs]; exact this),hs]; exact this
     ·dsimp only; rw [hw]; omega
     ·dsimp only; rw [hw]; omega
     ·dsimp only; have:=hz.1; omega
     ·dsimp only
      by_cases e2:gi uG i=gi A f
      ·exact .inl (hz.2.2.2 A hA (J.ext A hA.co (Y2 A hE e2)))
      ·rcases h4 A hA hE with h | h
       ·exact .inl (by have:=hz.1; omega)
       ·refine .inr fun j j0 j1=>?_
        rw [hw] at j1
        by_cases ej:j=i
        ·rw [ej]; exact e2
        ·exact h j j0 (by omega)
     ·dsimp only; rw [hw]; omega
    ·dsimp only; rw [hw]; omega
    ·dsimp only; rw [hw]; omega
    ·dsimp only
     rcases h4 A hA hE with h | h
     ·exact .inl h
     ·refine .inr fun j j0 j1=>?_
      rw [hw] at j1
      by_cases ej:j=i
      ·rw [ej]
       exact fun e2=>hy.2 ey A hA.co (Y2 A hE e2)
      ·exact h j j0 (by omega)
    ·dsimp only; rw [hw]; omega
   ·try dsimp only
    rcases hg.2 eg with h | h
    ·rcases h4 A hA hE with h5 | h5
     ·exact h5
     ·exfalso
      have ka:=hA.ar f f0 hf
      obtain ⟨j,j0,j1,ej⟩:=rL ((hh.2 (gi A f)).2 ⟨ka.1,ka.2.1,ka.2.2⟩)
      exact h5 j j0 (by omega) ej
    ·omega
end
end Go.Proofs.YtbhhmalgcnhniaaGreat
namespace Go.Proofs.YtbhhmalgcnhniaaGreat
open Go Go.Li
set_option linter.unusedVariables false
set_option linter.unusedSectionVars false
set_option linter.unusedSimpArgs false
structure AO (xs O:List Int):Prop where
 l:xs.length≤O.length
 g:∀ x:Int,0≤x→x < xs.length→gi O x=gi xs x
theorem AO.app {xs O:List Int} (h:AO xs O) (hl:xs.length < O.length):AO (xs++[gi O xs.length]) O:=by
 refine ⟨by simp only [List.length_append,List.length_singleton]; omega,fun x x0 x1=>?_⟩
 simp only [List.length_append,List.length_singleton] at x1
 rw [nt x0]
 by_cases e:x < xs.length
 ·rw [if_pos e]; exact h.g x x0 e
 ·rw [if_neg e,if_pos (by omega),show x=(xs.length:Int) by omega]
theorem AO.all {xs O:List Int} (h:AO xs O) (e:O.length=xs.length):O=xs:=sc e h.g
structure T7 (c:aC):Prop where
 t:Ty c
 m:c.aA.length≤63
 o:c.aD≤63
 s:fk c
structure FF (c d:aC) (f:aO):Prop where
 s:f.aH=c
 t:f.aL=d
 ol:(f.aD.length:Int)=c.aD
 oo:∀ y∈f.aD,0≤y∧y < d.aD
 ar:Full c d f.aD f.an
theorem FT.full {c d:aC} {O A:List Int} (h:FT c d O A) (e:A.length=c.aA.length):Full c d O A:=⟨⟨e,fun a a0 a1 _=>⟨(h.ar a a0 a1).1.2,(h.ar a a0 a1).2⟩⟩,fun a a0 a1=>(h.ar a a0 a1).1.1⟩
theorem WJ (r:List Int):rY r≤r.length:=List.length_filter_le _ _
section
variable {c d:aC} (T:T7 c) (U:T7 d)
include T U
theorem FF.small {f:aO} (F:FF c d f):pW f:=⟨F.s ▸ T.s,F.t ▸ U.s,by have:=F.ol; have:=T.o; omega,by have:=F.ar.1.len; have:=T.m; omega⟩
theorem R6 (xs:List Int):Ok (mD c d xs) fun b=>∀ O A,FT c d O A→AO xs O→b=true:=by
 have cm:=T.m
 have dm:=U.m
 unfold mD
 refine ew (ol (fun z:Int=>0≤z∧z≤c.aA.length) (fun z=>(c.aA.length - z).toNat) ⟨by omega,by omega⟩ ?_)
 rintro i ⟨i0,i1⟩
 unfold oC
 refine od (fun hi=>?_) fun hi=>os ⟨rfl,os fun _ _ _ _=>rfl⟩
 have hw:=w1 i0 hi (by omega)
 have kf:=T.t.fr i0 hi
 have kt:=T.t.to i0 hi
 have nx:∀ {E:Int→Prop} {G:Bool→Prop},Ok (some (Out.norm (ak (i+1)):Out Int Bool)) (EC 0 (fun z:Int=>0≤z∧z≤c.aA.length) (fun z=>(c.aA.length - z).toNat) (c.aA.length - i).toNat E G):=by
  intro E G
  refine os ⟨⟨?_,?_⟩,?_⟩
  all_goals (try dsimp only)
  all_goals rw [hw]
  all_goals omega
 refine oe (T.t.iH i0 hi) (oe (T.t.jd i0 hi) (od (fun hx=>od (fun hy=>oe (aZ kf.1 hx) (oe (aZ kt.1 hy) (ob (QW U.t.tl (by omega) _ _) fun uG hh=>oc (fun e=>os ?_) fun e=>nx))) fun _=>nx) fun _=>nx))
 intro O A hA hp
 exfalso
 have e:uG.length=0:=by
  have:=of_decide_eq_true e
  omega
 have ka:=hA.ar i i0 hi
 have:=(hh.2 (gi A i)).2 ⟨ka.1,by rw [ka.2.1,hp.g _ kf.1 hx],by rw [ka.2.2,hp.g _ kt.1 hy]⟩
 rw [List.length_eq_zero_iff.1 e] at this
 exact nomatch this
theorem PT (n:Nat):∀ {xs:List Int} {found:List aO} (_:(xs.length:Int)≤c.aD) (_:∀ y∈xs,0≤y∧y < d.aD) (_:c.aD - xs.length < n) (_:found.length≤200) (_:∀ q∈found,FF c d q),
  Ok (eY n c d xs found) fun y=>(found.length≤y.length∧y.length≤201)∧(∀ q∈y,FF c d q)∧∀ O A,FT c d O A→AO xs O→0 < y.length:=by
 have cm:=T.m
 have dm:=U.m
 have co:=T.o
 have d8:=U.o
 induction n with
 | zero=>intro xs found h1 _ h2; omega
 | succ n ih=>
  intro xs found hl ho hn TJ cq
  show Ok (jM (eY n) c d xs found) _
  unfold jM
  refine ew (ob (R6 T U xs) fun b hb=>oc (fun e=>os ⟨⟨Nat.le_refl _,by omega⟩,cq,fun O A hA hp=>?_⟩) fun e=>oc (fun e2=>?_) fun e2=>?_)
  ·rw [hb O A hA hp] at e; cases e
  ·have e2:(xs.length:Int)=c.aD:=by simpa using e2
   refine ol (fun z:List Int×Int=>(0≤z.2∧z.2≤c.aA.length)∧(z.1.length:Int)=z.2∧∀ v∈z.1,v = -1) (fun z=>(c.aA.length - z.2).toNat) ⟨⟨by show (0:Int)≤0; omega,by show (0:Int)≤_; omega⟩,rfl,iz⟩ ?_
   rintro ⟨l,i⟩ ⟨⟨i0,i1⟩,CP,hv⟩
   dsimp only at i0 i1 CP hv
   show Ok (lO c l i) _
   unfold lO
   refine od (fun hi=>de (by omega) (by omega) (os ⟨⟨⟨?_,?_⟩,?_,ik hv rfl⟩,?_⟩)) fun hi=>os ⟨rfl,?_⟩
   ·dsimp only; rw [w1 i0 hi (by omega)]; omega
   ·dsimp only; rw [w1 i0 hi (by omega)]; omega
   ·dsimp only; rw [w1 i0 hi (by omega),List.length_append,List.length_singleton]; omega
   ·dsimp only; rw [w1 i0 hi (by omega)]; omega
   have P0:PA c d xs l:=⟨by omega,fun a a0 a1 h=>by rw [hv _ (ib a0 (by omega))] at h; omega⟩
   refine ol (fun z:Int×List Int=>(0≤z.1∧z.1≤xs.length)∧PA c d xs z.2∧∀ A,FT c d xs A→zq c z.2 A) (fun z=>(xs.length - z.1).toNat) ⟨⟨by show (0:Int)≤0; omega,by show (0:Int)≤_; omega⟩,P0,fun A hA a a0 a1 h=>by dsimp only at h; rw [hv _ (ib a0 (by omega))] at h; omega⟩ ?_
   rintro ⟨j,ys⟩ ⟨⟨j0,j1⟩,P,hE⟩
   dsimp only at j0 j1 P hE
   have hpl:=P.len
   show Ok (lP c d xs j ys) _
   unfold lP
   refine od (fun hj=>?_) fun hj=>os ⟨rfl,?_⟩
   ·have kx:=ho _ (ib j0 hj)
    have ki:=T.t.id j0 (by omega)
    have ku:=U.t.id kx.1 kx.2
    refine oe (T.t.p4 j0 (by omega)) (oe (aZ j0 hj) (oe (U.t.p4 kx.1 kx.2) (oe (aZ ki.1 (by omega)) (os ⟨⟨⟨?_,?_⟩,P.set ki.1 ki.2 fun _=>⟨ku.2,?_,?_⟩,fun A hA a a0 a1 h=>?_⟩,?_⟩))))
    ·dsimp only; rw [w1 j0 hj (by omega)]; omega
    ·dsimp only; rw [w1 j0 hj (by omega)]; omega
    ·rw [U.t.tM _ kx.1 kx.2,T.t.tM _ j0 (by omega)]
    ·rw [U.t.rH _ kx.1 kx.2,T.t.rH _ j0 (by omega)]
    ·dsimp only at h ⊢
     rw [jo ki.1 (by omega) a0] at h ⊢
     by_cases ea:a=gi c.aF j
     ·rw [if_pos ea,ea,hA.un j j0 (by omega)]
     ·rw [if_neg ea] at h ⊢
      exact hE A hA a a0 a1 h
    ·dsimp only; rw [w1 j0 hj (by omega)]; omega
   ·refine ob (PS T.t U.t (by omega) (by omega) e2 ho 64 P (by omega) (by omega) (fun a a0 a1=>by omega) (by have:=WJ ys; omega) (by simp) iz) fun y hy=>?_
    have Qz:=hy.2.1
    refine ol (fun z:List aO×Int=>(0≤z.2∧z.2≤y.length)∧(found.length≤z.1.length∧z.1.length≤201)∧(∀ q∈z.1,FF c d q)∧(0 < z.2→0 < z.1.length)) (fun z=>(y.length - z.2).toNat) ⟨⟨by show (0:Int)≤0; omega,by show (0:Int)≤_; omega⟩,⟨Nat.le_refl _,by dsimp only; omega⟩,cq,fun h=>by dsimp only at h; omega⟩ ?_
    rintro ⟨fd,k⟩ ⟨⟨k0,k1⟩,⟨h1,h2⟩,h3,h4⟩
    dsimp only at k0 k1 h1 h2 h3 h4
    show Ok (lQ c d xs y fd k) _
    unfold lQ
    refine ob (P:=fun g=>(g=true→k < y.length∧fd.length≤200)∧(g=false→y.length≤k∨200 < fd.length)) (od (fun h=>os ⟨fun h2=>⟨h,by have:=of_decide_eq_true h2; omega⟩,fun h2=>.inr (by have:=of_decide_eq_false h2; omega)⟩) fun h=>os ⟨fun h2=>(by cases h2),fun _=>.inl (by omega)⟩) fun g hg=>oc (fun eg=>?_) fun eg=>os ⟨rfl,os ⟨⟨h1,h2⟩,h3,fun O A hA hp=>?_⟩⟩
    ·obtain ⟨hk,QZ⟩:=hg.1 eg
     refine oi k0 hk fun q hq=>oe (wG T.s U.s (by omega) (by have:=(hy.2.2.1 q hq).1.len; omega)) (de (by omega) (by omega) (os ⟨⟨⟨?_,?_⟩,⟨?_,?_⟩,ik h3 ⟨rfl,rfl,e2,ho,hy.2.2.1 q hq⟩,fun _=>?_⟩,?_⟩))
     all_goals (try dsimp only)
     all_goals (try rw [w1 k0 hk (by omega)])
     all_goals (try simp only [List.length_append,List.length_singleton])
     all_goals omega
    ·have eO:O=xs:=hp.all (by have:=hA.ol; omega)
     rw [eO] at hA
     have h5:=hy.2.2.2 A hA (hE A hA)
     show 0 < fd.length
     rcases hg.2 eg with h | h
     ·exact h4 (by omega)
     ·omega
  ·have e2 : ¬ (xs.length:Int)=c.aD:=by simpa using e2
   have d0:=U.t.o0
   refine ol (fun z:List aO×Int=>(0≤z.2∧z.2≤d.aD)∧(found.length≤z.1.length∧z.1.length≤201)∧(∀ q∈z.1,FF c d q)∧∀ O A,FT c d O A→AO xs O→0 < z.1.length∨∀ j:Int,0≤j→j < z.2→gi O xs.length≠j) (fun z=>(d.aD - z.2).toNat) ⟨⟨by show (0:Int)≤0; omega,by show (0:Int)≤_; omega⟩,⟨Nat.le_refl _,by dsimp only; omega⟩,cq,fun O A _ _=>.inr fun j j0 j1=>by dsimp only at j1; omega⟩ ?_
   rintro ⟨fd,k⟩ ⟨⟨k0,k1⟩,⟨h1,h2⟩,h3,h4⟩
   dsimp only at k0 k1 h1 h2 h3 h4
   show Ok (lR (eY n) c d xs fd k) _
   unfold lR
   refine ob (P:=fun g=>(g=true→k < d.aD∧fd.length≤200)∧(g=false→d.aD≤k∨200 < fd.length)) (od (fun h=>os ⟨fun h2=>⟨h,by have:=of_decide_eq_true h2; omega⟩,fun h2=>.inr (by have:=of_decide_eq_false h2; omega)⟩) fun h=>os ⟨fun h2=>(by cases h2),fun _=>.inl (by omega)⟩) fun g hg=>oc (fun eg=>?_) fun eg=>os ⟨rfl,os ⟨⟨h1,h2⟩,h3,fun O A hA hp=>?_⟩⟩
   ·obtain ⟨hk,QZ⟩:=hg.1 eg
    have hw:=w1 k0 hk (by omega)
    refine oe (jq xs (by omega)) (de (by omega) (by omega) (ob (ih (xs:=xs++[k]) (found:=fd) (by rw [List.length_append,List.length_singleton]; omega) (ik ho ⟨k0,hk⟩) (by rw [List.length_append,List.length_singleton]; omega) QZ h3) fun z hz=>os ⟨⟨⟨?_,?_⟩,⟨?_,hz.1.2⟩,hz.2.1,fun O A hA hp=>?_⟩,?_⟩))
    ·dsimp only; rw [hw]; omega
    ·dsimp only; rw [hw]; omega
    ·dsimp only; have:=hz.1.1; omega
    ·dsimp only
     by_cases e3:gi O xs.length=k
     ·refine .inl (hz.2.2 O A hA ?_)
      have:=hp.app (by have:=hA.ol; omega)
      rwa [e3] at this
     ·rcases h4 O A hA hp with h | h
      ·exact .inl (by have:=hz.1.1; omega)
      ·refine .inr fun j j0 j1=>?_
       rw [hw] at j1
       by_cases ej:j=k
       ·rw [ej]; exact e3
       ·exact h j j0 (by omega)
    ·dsimp only; rw [hw]; omega
   ·show 0 < fd.length
    rcases hg.2 eg with h | h
    ·rcases h4 O A hA hp with h5 | h5
     ·exact h5
     ·exfalso
      have kb:=hA.oo _ (ib (l:=O) (j:=xs.length) (by omega) (by have:=hA.ol; omega))
      exact h5 _ kb.1 (by omega) rfl
    ·omega
theorem Q0:Ok (jR c d) fun y=>y.length≤201∧(∀ q∈y,FF c d q)∧∀ O A,FT c d O A→0 < y.length:=by
 unfold jR
 have o0:=T.t.o0
 have co:=T.o
 refine ew (ob (PT T U 64 (xs:=[]) (found:=[]) (by simpa using o0) iz (by simp; omega) (by simp) iz) fun y hy=>os ⟨hy.1.2,hy.2.1,fun O A hA=>hy.2.2 O A hA ⟨by simp,fun x x0 x1=>by simp at x1; omega⟩⟩)
omit U in
theorem PU:Ok (lG c) fun _=>True:=by
 have cm:=T.m
 unfold lG
 refine ew (ol (fun z:List Int×Int=>(0≤z.2∧z.2≤c.aA.length)∧(z.1.length:Int)≤z.2) (fun z=>(c.aA.length - z.2).toNat) ⟨⟨by show (0:Int)≤0; omega,by show (0:Int)≤_; omega⟩,by show (0:Int)≤0; omega⟩ ?_)
 rintro ⟨l,i⟩ ⟨⟨i0,i1⟩,hl⟩
 dsimp only at i0 i1 hl
 show Ok (lM c l i) _
 unfold lM
 refine od (fun hi=>?_) fun hi=>os ⟨rfl,os trivial⟩
 have kf:=T.t.fr i0 hi
 have u:Ok (nF c i) fun _=>True:=by
  unfold nF
  exact ew (oe (T.t.iH i0 hi) (oe (T.t.p4 kf.1 kf.2) (os trivial)))
 refine ob u fun b _=>oc (fun _=>de (by omega) (by omega) (os ⟨⟨⟨?_,?_⟩,?_⟩,?_⟩)) fun _=>os ⟨⟨⟨?_,?_⟩,?_⟩,?_⟩
 all_goals (try dsimp only)
 all_goals rw [w1 i0 hi (by omega)]
 all_goals (try simp only [List.length_append,List.length_singleton])
 all_goals omega
theorem R7:Ok (jP c d) fun _=>True:=by
 unfold jP
 exact ew (ob (PU T) fun y _=>od (fun _=>os trivial) fun _=>os trivial)
theorem Dw {v:Int} (v0:0≤v) (v1:v < d.aD):Ok (gZ c d v) fun f=>FF c d f∧FT c d f.aD f.an:=by
 unfold gZ
 have c0:=T.t.o0
 have cm:=T.m
 have co:=T.o
 have ki:=U.t.id v0 v1
 refine ew (ol (fun z:List Int×Int=>(0≤z.2∧z.2≤c.aD)∧(z.1.length:Int)=z.2∧∀ y∈z.1,y=v) (fun z=>(c.aD - z.2).toNat) ⟨⟨by show (0:Int)≤0; omega,by show (0:Int)≤_; omega⟩,rfl,iz⟩ ?_)
 rintro ⟨l,i⟩ ⟨⟨i0,i1⟩,hl,hv⟩
 dsimp only at i0 i1 hl hv
 show Ok (kE c v l i) _
 unfold kE
 refine od (fun hi=>de (by omega) (by omega) (os ⟨⟨⟨?_,?_⟩,?_,ik hv rfl⟩,?_⟩)) fun hi=>os ⟨rfl,?_⟩
 ·dsimp only; rw [w1 i0 hi (by omega)]; omega
 ·dsimp only; rw [w1 i0 hi (by omega)]; omega
 ·dsimp only; rw [w1 i0 hi (by omega),List.length_append,List.length_singleton]; omega
 ·dsimp only; rw [w1 i0 hi (by omega)]; omega
 refine ol (fun z:List Int×Int=>(0≤z.2∧z.2≤c.aA.length)∧(z.1.length:Int)=z.2∧∀ y∈z.1,y=gi d.aF v) (fun z=>(c.aA.length - z.2).toNat) ⟨⟨by show (0:Int)≤0; omega,by show (0:Int)≤_; omega⟩,rfl,iz⟩ ?_
 rintro ⟨m,j⟩ ⟨⟨j0,j1⟩,hm,HA⟩
 dsimp only at j0 j1 hm HA
 show Ok (kF c d v m j) _
 unfold kF
 refine od (fun hj=>oe (U.t.p4 v0 v1) (de (by omega) (by omega) (os ⟨⟨⟨?_,?_⟩,?_,ik HA rfl⟩,?_⟩))) fun hj=>os ⟨rfl,oe (wG T.s U.s (by omega) (by omega)) (os ?_)⟩
 ·dsimp only; rw [w1 j0 hj (by omega)]; omega
 ·dsimp only; rw [w1 j0 hj (by omega)]; omega
 ·dsimp only; rw [w1 j0 hj (by omega),List.length_append,List.length_singleton]; omega
 ·dsimp only; rw [w1 j0 hj (by omega)]; omega
 have lo:∀ x:Int,0≤x→x < c.aD→gi l x=v:=fun x x0 x1=>hv _ (ib x0 (by omega))
 have la:∀ a:Int,0≤a→a < c.aA.length→gi m a=gi d.aF v:=fun x x0 x1=>HA _ (ib x0 (by omega))
 have oo:∀ y∈l,0≤y∧y < d.aD:=fun y hy=>by rw [hv y hy]; exact ⟨v0,v1⟩
 have H:FT c d l m:=by
  refine ⟨by omega,oo,fun a a0 a1=>?_,fun x x0 x1=>?_,fun a b a0 a1 b0 b1 e=>?_⟩
  ·rw [la a a0 a1]
   exact ⟨ki,by rw [U.t.tM _ v0 v1,lo _ (T.t.fr a0 a1).1 (T.t.fr a0 a1).2],by rw [U.t.rH _ v0 v1,lo _ (T.t.to a0 a1).1 (T.t.to a0 a1).2]⟩
  ·rw [la _ (T.t.id x0 x1).1 (T.t.id x0 x1).2,lo x x0 x1]
  ·have k:=T.t.cell a b a0 a1 b0 b1 e
   rw [la _ k.1.1 k.1.2,la a a0 a1,la b b0 b1]
   exact (U.t.uu v v0 v1).symm
 exact ⟨⟨rfl,rfl,H.ol,oo,H.full (by omega)⟩,H⟩
omit U in
theorem Dx:Ok (dK c) fun f=>FF c c f∧FT c c f.aD f.an:=by
 unfold dK
 have c0:=T.t.o0
 have cm:=T.m
 have co:=T.o
 refine ew (ol (fun z:List Int×Int=>(0≤z.2∧z.2≤c.aD)∧(z.1.length:Int)=z.2∧∀ j:Int,0≤j→j < z.2→gi z.1 j=j) (fun z=>(c.aD - z.2).toNat) ⟨⟨by show (0:Int)≤0; omega,by show (0:Int)≤_; omega⟩,rfl,fun j j0 j1=>by dsimp only at j1; omega⟩ ?_)
 rintro ⟨l,i⟩ ⟨⟨i0,i1⟩,hl,hv⟩
 dsimp only at i0 i1 hl hv
 show Ok (eA c l i) _
 unfold eA
 refine od (fun hi=>de (by omega) (by omega) (os ⟨⟨⟨?_,?_⟩,?_,fun j j0 j1=>?_⟩,?_⟩)) fun hi=>os ⟨rfl,?_⟩
 ·dsimp only; rw [w1 i0 hi (by omega)]; omega
 ·dsimp only; rw [w1 i0 hi (by omega)]; omega
 ·dsimp only; rw [w1 i0 hi (by omega),List.length_append,List.length_singleton]; omega
 ·dsimp only at j1 ⊢
  rw [w1 i0 hi (by omega)] at j1
  rw [nt j0]
  by_cases e:j < l.length
  ·rw [if_pos e]; exact hv j j0 (by omega)
  ·rw [if_neg e,if_pos (by omega)]; omega
 ·dsimp only; rw [w1 i0 hi (by omega)]; omega
 refine ol (fun z:List Int×Int=>(0≤z.2∧z.2≤c.aA.length)∧(z.1.length:Int)=z.2∧∀ j:Int,0≤j→j < z.2→gi z.1 j=j) (fun z=>(c.aA.length - z.2).toNat) ⟨⟨by show (0:Int)≤0; omega,by show (0:Int)≤_; omega⟩,rfl,fun j j0 j1=>by dsimp only at j1; omega⟩ ?_
 rintro ⟨m,j⟩ ⟨⟨j0,j1⟩,hm,HA⟩
 dsimp only at j0 j1 hm HA
 show Ok (eB c m j) _
 unfold eB
 refine od (fun hj=>de (by omega) (by omega) (os ⟨⟨⟨?_,?_⟩,?_,fun q q0 q1=>?_⟩,?_⟩)) fun hj=>os ⟨rfl,oe (wG T.s T.s (by omega) (by omega)) (os ?_)⟩
 ·dsimp only; rw [w1 j0 hj (by omega)]; omega
 ·dsimp only; rw [w1 j0 hj (by omega)]; omega
 ·dsimp only; rw [w1 j0 hj (by omega),List.length_append,List.length_singleton]; omega
 ·dsimp only at q1 ⊢
  rw [w1 j0 hj (by omega)] at q1
  rw [nt q0]
  by_cases e:q < m.length
  ·rw [if_pos e]; exact HA q q0 (by omega)
  ·rw [if_neg e,if_pos (by omega)]; omega
 ·dsimp only; rw [w1 j0 hj (by omega)]; omega
 have lo:∀ x:Int,0≤x→x < c.aD→gi l x=x:=fun x x0 x1=>hv _ x0 (by omega)
 have la:∀ a:Int,0≤a→a < c.aA.length→gi m a=a:=fun x x0 x1=>HA _ x0 (by omega)
 have oo:∀ y∈l,0≤y∧y < c.aD:=fun y hy=>by
  obtain ⟨i,i0,i1,rfl⟩:=rL hy
  rw [lo i i0 (by omega)]; omega
 have H:FT c c l m:=by
  refine ⟨by omega,oo,fun a a0 a1=>?_,fun x x0 x1=>?_,fun a b a0 a1 b0 b1 e=>?_⟩
  ·rw [la a a0 a1]
   exact ⟨⟨a0,a1⟩,by rw [lo _ (T.t.fr a0 a1).1 (T.t.fr a0 a1).2],by rw [lo _ (T.t.to a0 a1).1 (T.t.to a0 a1).2]⟩
  ·rw [la _ (T.t.id x0 x1).1 (T.t.id x0 x1).2,lo x x0 x1]
  ·have k:=T.t.cell a b a0 a1 b0 b1 e
   rw [la _ k.1.1 k.1.2,la a a0 a1,la b b0 b1]
 exact ⟨⟨rfl,rfl,H.ol,oo,H.full (by omega)⟩,H⟩
end
def N7 (c d:aC):Prop:=∀ l,jP c d=some true→jR c d=some l→0 < l.length
theorem Bp {c d:aC} {O A:List Int} (T:T7 c) (U:T7 d) (h:FT c d O A):N7 c d:=by
 intro l _ e
 obtain ⟨l',e',h'⟩:=Q0 T U
 rw [e] at e'
 cases e'
 exact h'.2.2 O A h
theorem Jb {y:aC} {o m:Int} (h:iu 8 800 y∧Ty y∧((y.aD≤o∧(y.aA.length:Int)≤m)∨iu 1 4 y)) (ho:o≤63) (hm:m≤63):T7 y:=by
 refine ⟨h.2.1,?_,?_,h.1.small (by omega) (by omega)⟩
 ·rcases h.2.2 with h | h
  ·omega
  ·have:=h.m; omega
 ·rcases h.2.2 with h | h
  ·omega
  ·have:=h.o; omega
section
variable {x:List Int} (B:tO x) {s:aI} (S:Src x s)
include B S
theorem XB {c:aC} (T:T7 c) {o m:Int} (ho:o≤63) (hm:m≤63):Ok (nG s c o m) fun y=>(∃ d,T7 d∧FF c d y.1∧N7 c d)∧Src x y.2:=by
 unfold nG
 refine ew (ob (Np B S o m) fun y hy=>?_)
 have U:T7 y.1:=Jb hy.1 ho hm
 have S1:=S.on (h:=y.2.au) hy.2
 obtain ⟨b,eb,_⟩:=R7 T U
 refine oe eb (oc (fun hb=>?_) fun _=>?_)
 ·obtain ⟨l,el,hl⟩:=Q0 T U
  refine oe el (od (fun h0=>ob (b9 B S1 _) fun z hz=>oi hz.1.1 (hz.1.2 (by omega)) fun f hf=>os ⟨⟨y.1,U,hl.2.1 f hf,fun l' _ e'=>by rw [el] at e'; cases e'; omega⟩,S.on hz.2⟩) fun _=>?_)
  exact od (fun ho=>ob (b9 B S1 _) fun z hz=>oc (fun _=>ob (b9 B (S.on hz.2) _) fun w hw=>ob (Dw T U hw.1.1 (hw.1.2 (by omega))) fun f hf=>os ⟨⟨y.1,U,hf.1,Bp T U hf.2⟩,S.on hw.2⟩) fun _=>ob (Dx T) fun f hf=>os ⟨⟨c,T,hf.1,Bp T T hf.2⟩,S.on hz.2⟩) fun _=>ob (Dx T) fun f hf=>os ⟨⟨c,T,hf.1,Bp T T hf.2⟩,S1⟩
 ·exact od (fun ho=>ob (b9 B S1 _) fun z hz=>oc (fun _=>ob (b9 B (S.on hz.2) _) fun w hw=>ob (Dw T U hw.1.1 (hw.1.2 (by omega))) fun f hf=>os ⟨⟨y.1,U,hf.1,Bp T U hf.2⟩,S.on hw.2⟩) fun _=>ob (Dx T) fun f hf=>os ⟨⟨c,T,hf.1,Bp T T hf.2⟩,S.on hz.2⟩) fun _=>ob (Dx T) fun f hf=>os ⟨⟨c,T,hf.1,Bp T T hf.2⟩,S1⟩
theorem R1:Ok (kU s) fun y=>pW y.1∧Src x y.2:=by
 unfold kU
 refine ew (ob (Np B S 4 10) fun y hy=>?_)
 have T:T7 y.1:=Jb hy.1 (by omega) (by omega)
 refine ob (XB B (S.on hy.2) T (by omega) (by omega)) fun z hz=>?_
 obtain ⟨⟨d,U,F,_⟩,S2⟩:=hz
 have fs:pW z.1:=F.small T U
 have gv:=F.ol
 have co:=T.o
 refine ob (b9 B (S.on S2) _) fun w hw=>oc (fun _=>?_) fun _=>oc (fun _=>?_) fun _=>oc (fun _=>?_) fun _=>os ⟨fs,S.on hw.2⟩
 ·exact ob (M9 B (S.on hw.2) (c:=z.1.aH) (by rw [F.s]; exact hy.1.1)) fun u hu=>os ⟨⟨hu.1,fs.t,fs.o,fs.a⟩,S.on hu.2⟩
 ·refine od (fun h=>ob (b9 B (S.on hw.2) _) fun u hu=>ob (b9 B (S.on hu.2) _) fun v hv=>oe (aZ hu.1.1 (hu.1.2 (by omega))) (os ⟨⟨fs.s,fs.t,fs.o,?_⟩,S.on hv.2⟩)) fun _=>os ⟨fs,S.on hw.2⟩
  show (List.set _ _ _).length≤_
  rw [List.length_set]; exact fs.a
 ·refine de (by omega) (by omega) (os ⟨⟨fs.s,fs.t,?_,fs.a⟩,S.on hw.2⟩)
  show (z.1.aD++[(0:Int)]).length≤_
  rw [List.length_append,List.length_singleton]; omega
end
end Go.Proofs.YtbhhmalgcnhniaaGreat
namespace Go.Proofs.YtbhhmalgcnhniaaGreat
open Go Go.Li
set_option linter.unusedVariables false
set_option linter.unusedSectionVars false
set_option linter.unusedSimpArgs false
structure PP (c d:aC) (xs:List Int):Prop where
 len:(xs.length:Int)=c.aD
 ok:∀ y∈xs,y < d.aA.length
def WK (d:aC) (f g:aO) (j v:Int):Prop:=(0≤v∧v < d.aA.length)∧gi d.aA v=gi f.aD j∧gi d.To v=gi g.aD j
structure PQ (c d:aC) (f g:aO) (k:Bool) (xs:List Int):Prop where
 len:(xs.length:Int)=c.aD
 ok:∀ j:Int,0≤j→j < xs.length→WK d f g j (gi xs j)∨gi xs j = -1∨(gi xs j = -2∧k=true)
theorem PQ.pp {c d:aC} {f g:aO} {k:Bool} {xs:List Int} (P:PQ c d f g k xs):PP c d xs:=⟨P.len,fun y hy=>by
 obtain ⟨j,j0,j1,rfl⟩:=rL hy
 rcases P.ok j j0 j1 with h | h | h
 ·exact h.1.2
 ·omega
 ·omega⟩
theorem PQ.set {c d:aC} {f g:aO} {k:Bool} {xs:List Int} (P:PQ c d f g k xs) {r v:Int} (r0:0≤r) (r1:r < xs.length) (h:WK d f g r v):PQ c d f g k (xs.set r.toNat v):=⟨by rw [List.length_set]; exact P.len,fun j j0 j1=>by
 rw [List.length_set] at j1
 rw [jo r0 r1 j0]
 by_cases e:j=r
 ·rw [if_pos e,e]; exact Or.inl h
 ·rw [if_neg e]; exact P.ok j j0 j1⟩
section
variable {c d:aC} {f g:aO} (T:T7 c) (U:T7 d) (F:FF c d f) (G:FF c d g)
include T U F G
end
section
variable {x:List Int} (B:tO x) {s:aI} (S:Src x s)
include B S
theorem Xu (n:Int):Ok (lA s n) fun y=>Src x y.2:=by
 unfold lA
 exact ew (ob (b9 B S _) fun y hy=>oc (fun _=>ob (M7 B (S.on hy.2) (by simp)) fun z hz=>os (S.on hz.2)) fun _=>ob (b9 B (S.on hy.2) _) fun z hz=>os (S.on hz.2))
end
theorem Src.V1 {x:List Int} {t:aI} {h:Int} (T:Src x t):Src x (aI.mk x t.At h):=⟨rfl,T.a0,T.a1⟩
end Go.Proofs.YtbhhmalgcnhniaaGreat
