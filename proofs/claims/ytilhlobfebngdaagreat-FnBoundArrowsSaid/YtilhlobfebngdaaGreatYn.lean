/- Functors that are looked for in depth: the reference's search does not fail, and finds one where there is one. No condition beside those that each theorem names. -/
import Derived.Test.YtilhlobfebngdaaGreatYi
import Derived.Test.YtilhlobfebngdaaGreatYk
namespace Go.Proofs.YtilhlobfebngdaaGreat
open Go Go.Li
set_option linter.unusedVariables false
set_option linter.unusedSectionVars false
def vq (r:List Int):Nat:=(r.filter fun v=>decide (v < 0)).length
theorem NL {r:List Int} {d:Nat} {v:Int} (hv:0≤v):vq (r.set d v)≤vq r∧(d < r.length→gi r d < 0→vq (r.set d v) < vq r):=by
 unfold vq
 induction r generalizing d with
 | nil=>exact ⟨by simp,fun h=>by simp at h⟩
 | cons a r ih=>
  cases d with
  | zero=>
   have e0:(List.filter (fun v=>decide (v < 0)) (v :: r))=List.filter (fun v=>decide (v < 0)) r:=by rw [List.filter_cons,if_neg (by simp; omega)]
   rw [List.set_cons_zero,e0,List.filter_cons]
   refine ⟨by split <;> simp,fun _ h=>?_⟩
   have h:a < 0:=h
   rw [if_pos (by simpa using h)]; simp
  | succ d=>
   rw [List.set_cons_succ,List.filter_cons,List.filter_cons]
   obtain ⟨h1,h2⟩:=ih (d:=d)
   refine ⟨by split <;> (try simp only [List.length_cons]) <;> omega,fun hl hg=>?_⟩
   have hg:gi r d < 0:=by
    have e:gi (a :: r) ((d+1:Nat):Int)=gi r (d:Int):=rfl
    rwa [e] at hg
   have:=h2 (by simp at hl; omega) hg
   split <;> (try simp only [List.length_cons]) <;> omega
theorem CR {c:aF} (hl:c.To.length=c.aE.length) (hm:c.aE.length≤100000) (x y:Int):Ok (eY c x y) fun l=>l.length≤c.aE.length∧∀ f,f∈l↔(0≤f∧f < c.aE.length)∧gi c.aE f=x∧gi c.To f=y:=by
 unfold eY
 refine ie (ol (fun z:List Int×Int=>(0≤z.2∧z.2≤c.aE.length)∧(z.1.length:Int)≤z.2∧∀ f,f∈z.1↔(0≤f∧f < z.2)∧gi c.aE f=x∧gi c.To f=y) (fun z=>(c.aE.length - z.2).toNat) ⟨⟨by show (0:Int)≤0; omega,by show (0:Int)≤_; omega⟩,by show (0:Int)≤0; omega,fun f=>⟨(fun h=>nomatch h),fun h=>by have:=h.1; omega⟩⟩ ?_)
 rintro ⟨l,i⟩ ⟨⟨i0,i1⟩,F8,xm⟩
 dsimp only at i0 i1 F8 xm
 show Ok (jL c x y l i) _
 unfold jL
 refine od (fun hi=>?_) fun hi=>os ⟨rfl,os ⟨by omega,fun f=>(xm f).trans ⟨fun h=>⟨⟨h.1.1,by omega⟩,h.2⟩,fun h=>⟨⟨h.1.1,by omega⟩,h.2⟩⟩⟩⟩
 have hw:=w1 i0 hi (by omega)
 refine oe (x:=(gi c.aE i == x && gi c.To i == y)) (by rw [bQ i0 hi,aD,bQ i0 (by omega),aD,qu,FP]) (oc (fun eg=>dt (by omega) (by omega) (os ⟨⟨⟨?_,?_⟩,?_,fun f=>?_⟩,?_⟩)) fun eg=>os ⟨⟨⟨?_,?_⟩,?_,fun f=>?_⟩,?_⟩)
 all_goals try dsimp only
 all_goals rw [hw]
 all_goals first | (simp only [List.length_append,List.length_singleton]; omega) | omega | skip
 ·simp only [Bool.and_eq_true,beq_iff_eq] at eg
  rw [List.mem_append,List.mem_singleton,xm f]
  constructor
  ·rintro (h | rfl)
   ·exact ⟨⟨h.1.1,by omega⟩,h.2⟩
   ·exact ⟨⟨i0,by omega⟩,eg⟩
  ·rintro ⟨h,h2⟩
   by_cases e:f=i
   ·exact .inr e
   ·exact .inl ⟨⟨h.1,by omega⟩,h2⟩
 ·rw [xm f]
  constructor
  ·exact fun h=>⟨⟨h.1.1,by omega⟩,h.2⟩
  ·rintro ⟨h,h2⟩
   by_cases e:f=i
   ·subst e
    rw [h2.1,h2.2] at eg
    simp at eg
   ·exact ⟨⟨h.1,by omega⟩,h2⟩
structure PA (c d:aF) (xs ys:List Int):Prop where
 len:ys.length=c.aE.length
 ok:∀ a:Int,0≤a→a < c.aE.length→0≤gi ys a→gi ys a < d.aE.length∧gi d.aE (gi ys a)=gi xs (gi c.aE a)∧gi d.To (gi ys a)=gi xs (gi c.To a)
theorem PA.set {c d:aF} {xs ys:List Int} (P:PA c d xs ys) {a v:Int} (a0:0≤a) (a1:a < c.aE.length) (h:0≤v→v < d.aE.length∧gi d.aE v=gi xs (gi c.aE a)∧gi d.To v=gi xs (gi c.To a)):PA c d xs (ys.set a.toNat v):=by
 have hl:=P.len
 refine ⟨by rw [List.length_set]; exact hl,fun b b0 b1=>?_⟩
 rw [sd a0 (by omega) b0]
 by_cases e:b=a
 ·rw [if_pos e,e]; exact h
 ·rw [if_neg e]; exact P.ok b b0 b1
def Pg (c d:aF) (A:List Int):Prop:=∀ a b:Int,0≤a→a < c.aE.length→0≤b→b < c.aE.length→gi c.To a=gi c.aE b→gi A (gk c.aC a b)=gk d.aC (gi A a) (gi A b)
def CY (c:aF) (ys A:List Int):Prop:=∀ a:Int,0≤a→a < c.aE.length→0≤gi ys a→gi ys a=gi A a
structure FJ (c d:aF) (xs AA ys:List Int):Prop where
 p:PA c d xs ys
 mono:∀ a:Int,0≤a→0≤gi AA a→gi ys a=gi AA a
 ext:∀ A,Pg c d A→CY c AA A→CY c ys A
 ng:vq ys≤vq AA
section
variable {c d:aF} {xs AA ys:List Int} (T:Ty c) (U:Ty d)
include T U
theorem FJ.step (J:FJ c d xs AA ys) {a b:Int} (a0:0≤a) (a1:a < c.aE.length) (b0:0≤b) (b1:b < c.aE.length) (hh:0≤gk c.aC a b) (ha:0≤gi ys a) (hb:0≤gi ys b) :
  gk c.aC a b < c.aE.length∧gi ys a < d.aE.length∧gi ys b < d.aE.length∧
  ((0≤gi ys (gk c.aC a b)→gi ys (gk c.aC a b)=gk d.aC (gi ys a) (gi ys b))→FJ c d xs AA (ys.set (gk c.aC a b).toNat (gk d.aC (gi ys a) (gi ys b)))∧vq (ys.set (gk c.aC a b).toNat (gk d.aC (gi ys a) (gi ys b)))≤vq ys∧(gi ys (gk c.aC a b) < 0→vq (ys.set (gk c.aC a b).toNat (gk d.aC (gi ys a) (gi ys b))) < vq ys))∧
  (0≤gi ys (gk c.aC a b)→gi ys (gk c.aC a b)≠gk d.aC (gi ys a) (gi ys b)→∀ A,Pg c d A→¬ CY c AA A):=by
 have e:gi c.To a=gi c.aE b:=Classical.byContradiction fun ne=>by
  have:=T.none a b a0 a1 b0 b1 ne
  omega
 have k:=T.cell a b a0 a1 b0 b1 e
 have pa:=J.p.ok a a0 a1 ha
 have pb:=J.p.ok b b0 b1 hb
 have m:=U.cell _ _ ha pa.1 hb pb.1 (by rw [pa.2.2,pb.2.1,e])
 have hl:=J.p.len
 refine ⟨k.1.2,pa.1,pb.1,fun hc=>?_,fun h0 rb A hA hE=>rb ?_⟩
 ·have hn:=NL (r:=ys) (d:=(gk c.aC a b).toNat) m.1.1
  refine ⟨⟨J.p.set hh k.1.2 fun _=>⟨m.1.2,by rw [m.2.1,pa.2.1,k.2.1],by rw [m.2.2,pb.2.2,k.2.2]⟩,fun x x0 hx=>?_,fun A hA hE=>?_,by have:=J.ng; omega⟩,hn.1,fun FW=>hn.2 (by omega) (by rw [show (((gk c.aC a b).toNat:Nat):Int)=gk c.aC a b by omega]; exact FW)⟩
  ·have hm:=J.mono x x0 hx
   rw [sd hh (by omega) x0]
   by_cases ex:x=gk c.aC a b
   ·rw [if_pos ex]
    rw [← ex] at hc
    rw [← hc (by omega),hm]
   ·rw [if_neg ex]; exact hm
  ·have L8:=J.ext A hA hE
   intro x x0 x1 hx
   rw [sd hh (by omega) x0] at hx ⊢
   by_cases ex:x=gk c.aC a b
   ·rw [if_pos ex,ex,hA a b a0 a1 b0 b1 e,← L8 a a0 a1 ha,← L8 b b0 b1 hb]
   ·rw [if_neg ex] at hx ⊢
    exact L8 x x0 x1 hx
 ·have L8:=J.ext A hA hE
  rw [L8 _ hh k.1.2 h0,hA a b a0 a1 b0 b1 e,← L8 a a0 a1 ha,← L8 b b0 b1 hb]
theorem Xg (cm:c.aE.length≤1000) (P:PA c d xs AA):Ok (pY c d AA) fun y=>(y.1=true→FJ c d xs AA y.2)∧(y.1=false→∀ A,Pg c d A→¬ CY c AA A):=by
 unfold pY
 refine ie (ol (fun z:Bool×List Int=>FJ c d xs AA z.2) (fun z=>(if z.1 then 1 else 0)+vq z.2) ⟨P,fun _ _ _=>rfl,fun _ _ h=>h,Nat.le_refl _⟩ ?_)
 rintro ⟨more,RG⟩ J0
 dsimp only at J0
 show Ok (qK c d more RG) _
 unfold qK
 refine oc (fun V9=>?_) fun V9=>os ⟨rfl,os ⟨fun _=>J0,fun h=>by cases h⟩⟩
 subst V9
 refine ol (fun z:Bool×Int×List Int=>(0≤z.2.1∧z.2.1≤c.aE.length)∧FJ c d xs AA z.2.2∧vq z.2.2≤vq RG∧(z.1=true→vq z.2.2 < vq RG)) (fun z=>(c.aE.length - z.2.1).toNat) ⟨⟨by show (0:Int)≤0; omega,by show (0:Int)≤_; omega⟩,J0,Nat.le_refl _,fun h=>by cases h⟩ ?_
 rintro ⟨more,a,ys2⟩ ⟨⟨a0,a1⟩,J1,n1,n2⟩
 dsimp only at a0 a1 J1 n1 n2
 show Ok (qJ c d more a ys2) _
 unfold qJ
 rw [J1.p.len]
 refine od (fun ha=>?_) fun ha=>os ⟨rfl,os ⟨J1,?_⟩⟩
 ·refine ol (fun z:Bool×Int×List Int=>(0≤z.2.1∧z.2.1≤c.aE.length)∧FJ c d xs AA z.2.2∧vq z.2.2≤vq RG∧(z.1=true→vq z.2.2 < vq RG)) (fun z=>(c.aE.length - z.2.1).toNat) ⟨⟨by show (0:Int)≤0; omega,by show (0:Int)≤_; omega⟩,J1,n1,n2⟩ ?_
  rintro ⟨more,b,I1⟩ ⟨⟨b0,b1⟩,J2,m1,m2⟩
  dsimp only at b0 b1 J2 m1 m2
  show Ok (qI c d a more b I1) _
  unfold qI
  rw [J2.p.len]
  have hw:=w1 a0 ha (by omega)
  refine od (fun hb=>?_) fun hb=>os ⟨rfl,os ⟨⟨⟨?_,?_⟩,J2,m1,m2⟩,?_⟩⟩
  ·have hwb:=w1 b0 hb (by omega)
   have hl:=J2.p.len
   refine oe (T.ni a0 ha) (oe (T.mi a0 ha b0 hb) ?_)
   have ht:=T.EV a0 ha b0 hb
   refine oe (x:=(decide (gk c.aC a b < 0) || (decide (gi I1 a < 0) || decide (gi I1 b < 0)))) ?_ (oc (fun eg=>os ⟨⟨⟨?_,?_⟩,J2,m1,m2⟩,?_⟩) fun eg=>?_)
   ·rw [bQ a0 (by omega),aD,bQ b0 (by omega),aD,qu,zn,qu,zn]
   ·dsimp only; omega
   ·dsimp only; omega
   ·dsimp only; omega
   simp only [Bool.or_eq_false_iff,decide_eq_false_iff_not] at eg
   obtain ⟨g1,g2,g3⟩:=eg
   obtain ⟨s1,s2,s3,s4,s5⟩:=J2.step T U a0 ha b0 hb (by omega) (by omega) (by omega)
   refine oe (bQ a0 (by omega)) (oe (U.ni (by omega) s2) (oe (bQ b0 (by omega)) (oe (U.mi (by omega) s2 (by omega) s3) ?_)))
   refine oe (x:=(decide (gi I1 (gk c.aC a b) ≥ 0) && (gi I1 (gk c.aC a b) != gk d.aC (gi I1 a) (gi I1 b)))) ?_ (oc (fun eg=>os ?_) fun eg=>?_)
   ·rw [bQ (by omega) (by omega),aD,aD,qu,FP]
   ·simp only [Bool.and_eq_true,decide_eq_true_eq,bne_iff_ne] at eg
    exact ⟨fun h=>(by cases h),fun _=>s5 eg.1 eg.2⟩
   ·obtain ⟨q1,q2,q3⟩:=s4 (fun h=>by
     rw [decide_eq_true (by omega),Bool.true_and] at eg
     simpa using eg)
    refine oe (x:=(more || decide (gi I1 (gk c.aC a b) < 0))) ?_ (oe (bQ (by omega) (by omega)) (os ⟨⟨⟨?_,?_⟩,q1,by dsimp only; omega,fun h=>?_⟩,?_⟩))
    ·rw [bQ (by omega) (by omega),aD,qu,zn]
    ·dsimp only; omega
    ·dsimp only; omega
    ·dsimp only at h ⊢
     rw [Bool.or_eq_true,decide_eq_true_eq] at h
     rcases h with h | h
     ·have:=m2 h; omega
     ·have:=q3 h; omega
    ·dsimp only; omega
  all_goals dsimp only
  all_goals rw [hw]
  all_goals omega
 ·dsimp only
  cases more with
  | true=>have:=n2 rfl; simp; omega
  | false=>simp; omega
end
structure FT (c d:aF) (O A:List Int):Prop where
 ol:(O.length:Int)=c.aA
 oo:∀ y∈O,0≤y∧y < d.aA
 ar:∀ a:Int,0≤a→a < c.aE.length→(0≤gi A a∧gi A a < d.aE.length)∧gi d.aE (gi A a)=gi O (gi c.aE a)∧gi d.To (gi A a)=gi O (gi c.To a)
 un:∀ x:Int,0≤x→x < c.aA→gi A (gi c.aH x)=gi d.aH (gi O x)
 co:Pg c d A
def Full (c d:aF) (xs q:List Int):Prop:=PA c d xs q∧∀ a:Int,0≤a→a < c.aE.length→0≤gi q a
section
variable {c d:aF} {xs:List Int} (T:Ty c) (U:Ty d) (cm:c.aE.length≤1000) (dm:d.aE.length≤1000) (hob:(xs.length:Int)=c.aA) (PZ:∀ y∈xs,0≤y∧y < d.aA)
include T U cm dm hob PZ
theorem UD (n:Nat):∀ {ys:List Int} {f:Int} {found:List (List Int)} (_:PA c d xs ys) (_:0≤f) (_:f≤c.aE.length) (_:∀ a:Int,0≤a→a < f→0≤gi ys a) (_:vq ys < n) (_:found.length≤200) (_:∀ q∈found,Full c d xs q),
  Ok (jM n c d xs ys f found) fun y=>found.length≤y.length∧y.length≤201∧(∀ q∈y,Full c d xs q)∧∀ A,FT c d xs A→CY c ys A→0 < y.length:=by
 induction n with
 | zero=>intro ys f found _ _ _ _ h; omega
 | succ n ih=>
  intro ys f found P f0 f1 L9 hng Km fq
  show Ok (mW (jM n) c d xs ys f found) _
  unfold mW
  have hl:=P.len
  refine ie (ol (fun z:Int=>(0≤z∧z≤c.aE.length)∧∀ a:Int,0≤a→a < z→0≤gi ys a) (fun z=>(c.aE.length - z).toNat) ⟨⟨f0,f1⟩,L9⟩ ?_)
  rintro f ⟨⟨f0,f1⟩,L9⟩
  unfold tM
  rw [hl]
  refine ob (P:=fun g=>(g=true→f < c.aE.length∧0≤gi ys f)∧(g=false→f < c.aE.length→gi ys f < 0)) (od (fun h=>oe (bQ f0 (by omega)) (os ⟨fun h2=>⟨h,of_decide_eq_true h2⟩,fun h2 _=>by have:=of_decide_eq_false h2; omega⟩)) fun h=>os ⟨fun h2=>(by cases h2),fun _ h2=>absurd h2 h⟩) fun g hg=>oc (fun eg=>os ⟨⟨⟨?_,?_⟩,fun a a0 a1=>?_⟩,?_⟩) fun eg=>os ⟨rfl,?_⟩
  ·have:=hg.1 eg; rw [w1 f0 this.1 (by omega)]; omega
  ·have:=hg.1 eg; rw [w1 f0 this.1 (by omega)]; omega
  ·have:=hg.1 eg
   rw [w1 f0 this.1 (by omega)] at a1
   by_cases e:a=f
   ·rw [e]; exact this.2
   ·exact L9 a a0 (by omega)
  ·have:=hg.1 eg; rw [w1 f0 this.1 (by omega)]; dsimp only; omega
  have FW:=hg.2 eg
  refine oc (fun e=>?_) fun e=>?_
  ·have e:f=c.aE.length:=by simpa using e
   refine oe (fv ys (by omega)) (dt (by omega) (by omega) (os ⟨?_,?_,ew fq ⟨P,fun a a0 a1=>L9 a a0 (by omega)⟩,fun A _ _=>?_⟩))
   all_goals simp only [List.length_append,List.length_singleton]
   all_goals omega
  ·have e : ¬ f=c.aE.length:=by simpa using e
   have hf:f < c.aE.length:=by omega
   have FW:=FW hf
   have kf:=T.fr f0 hf
   have kt:=T.to f0 hf
   refine oe (T.jc f0 hf) (oe (bQ kf.1 (by omega)) (oe (T.jm f0 hf) (oe (bQ kt.1 (by omega)) (ob (CR U.tl (by omega) _ _) fun tf hh=>?_))))
   refine ol (fun z:List (List Int)×Int=>(0≤z.2∧z.2≤tf.length)∧(found.length≤z.1.length∧z.1.length≤201)∧(∀ q∈z.1,Full c d xs q)∧∀ A,FT c d xs A→CY c ys A→0 < z.1.length∨∀ j:Int,0≤j→j < z.2→gi tf j≠gi A f) (fun z=>(tf.length - z.2).toNat) ⟨⟨by show (0:Int)≤0; omega,by show (0:Int)≤_; omega⟩,⟨Nat.le_refl _,by dsimp only; omega⟩,fq,fun A _ _=>.inr fun j j0 j1=>by dsimp only at j1; omega⟩ ?_
   rintro ⟨fd,i⟩ ⟨⟨i0,i1⟩,⟨h1,h2⟩,h3,h4⟩
   dsimp only at i0 i1 h1 h2 h3 h4
   show Ok (pJ (jM n) c d xs ys f tf fd i) _
   unfold pJ
   refine ob (P:=fun g=>(g=true→i < tf.length∧fd.length≤200)∧(g=false→tf.length≤i∨200 < fd.length)) (od (fun h=>os ⟨fun h2=>⟨h,by have:=of_decide_eq_true h2; omega⟩,fun h2=>.inr (by have:=of_decide_eq_false h2; omega)⟩) fun h=>os ⟨fun h2=>(by cases h2),fun _=>.inl (by omega)⟩) fun g hg=>oc (fun eg=>?_) fun eg=>os ⟨rfl,os ⟨h1,h2,h3,fun A hA hE=>?_⟩⟩
   ·obtain ⟨hi,Wd⟩:=hg.1 eg
    have hw:=w1 i0 hi (by omega)
    have hv:=(hh.2 _).1 (dc i0 hi)
    have P2:PA c d xs (ys.set f.toNat (gi tf i)):=P.set f0 hf fun _=>⟨hv.1.2,hv.2.1,hv.2.2⟩
    refine oe (fv ys (by omega)) (oe (bQ i0 hi) (oe (bQ f0 (by omega)) (ob (Xg T U cm P2) fun y hy=>?_)))
    have hE2:∀ A,CY c ys A→gi tf i=gi A f→CY c (ys.set f.toNat (gi tf i)) A:=fun A hE e2 x x0 x1 hx=>by
     rw [sd f0 (by omega) x0] at hx ⊢
     by_cases ex:x=f
     ·rw [if_pos ex,ex]; exact e2
     ·rw [if_neg ex] at hx ⊢; exact hE x x0 x1 hx
    refine oc (fun ey=>?_) fun ey=>os ⟨⟨⟨?_,?_⟩,⟨h1,h2⟩,h3,fun A hA hE=>?_⟩,?_⟩
    ·have J:=hy.1 ey
     have Vj:0≤gi y.2 f:=by
      have h0:gi (ys.set f.toNat (gi tf i)) f=gi tf i:=by rw [sd f0 (by omega) f0,if_pos rfl]
      rw [J.mono f f0 (by rw [h0]; exact hv.1.1),h0]; exact hv.1.1
     have Nb:=(NL (r:=ys) (d:=f.toNat) hv.1.1).2 (by omega) (by rw [show ((f.toNat:Nat):Int)=f by omega]; exact FW)
     have hn3:=J.ng
     have hwf:=w1 f0 hf (by omega)
     rw [hwf]
     refine ob (ih J.p (by omega) (by omega) (fun a a0 a1=>?_) (by omega) Wd h3) fun z hz=>os ⟨⟨⟨?_,?_⟩,⟨?_,hz.2.1⟩,hz.2.2.1,fun A hA hE=>?_⟩,?_⟩
     ·by_cases ea:a=f
      ·rw [ea]; exact Vj
      ·have:=L9 a a0 (by omega)
       have hs:gi (ys.set f.toNat (gi tf i)) a=gi ys a:=by rw [sd f0 (by omega) a0,if_neg ea]
       rw [J.mono a a0 (by rw [hs]; exact this),hs]; exact this
     ·dsimp only; rw [hw]; omega
     ·dsimp only; rw [hw]; omega
     ·dsimp only; have:=hz.1; omega
     ·dsimp only
      by_cases e2:gi tf i=gi A f
      ·exact .inl (hz.2.2.2 A hA (J.ext A hA.co (hE2 A hE e2)))
      ·rcases h4 A hA hE with h | h
       ·exact .inl (by have:=hz.1; omega)
       ·refine .inr fun j j0 j1=>?_
        rw [hw] at j1
        by_cases ej:j=i
        ·rw [ej]; exact e2
        ·exact h j j0 (by omega)
     ·dsimp only; rw [hw]; omega
    ·dsimp only; rw [hw]; omega
    ·dsimp only; rw [hw]; omega
    ·dsimp only
     rcases h4 A hA hE with h | h
     ·exact .inl h
     ·refine .inr fun j j0 j1=>?_
      rw [hw] at j1
      by_cases ej:j=i
      ·rw [ej]
       exact fun e2=>hy.2 ey A hA.co (hE2 A hE e2)
      ·exact h j j0 (by omega)
    ·dsimp only; rw [hw]; omega
   ·try dsimp only
    rcases hg.2 eg with h | h
    ·rcases h4 A hA hE with h5 | h5
     ·exact h5
     ·exfalso
      have ka:=hA.ar f f0 hf
      obtain ⟨j,j0,j1,ej⟩:=my ((hh.2 (gi A f)).2 ⟨ka.1,ka.2.1,ka.2.2⟩)
      exact h5 j j0 (by omega) ej
    ·omega
end
end Go.Proofs.YtilhlobfebngdaaGreat
namespace Go.Proofs.YtilhlobfebngdaaGreat
open Go Go.Li
set_option linter.unusedVariables false
set_option linter.unusedSectionVars false
structure Eo (xs O:List Int):Prop where
 l:xs.length≤O.length
 g:∀ x:Int,0≤x→x < xs.length→gi O x=gi xs x
theorem Eo.app {xs O:List Int} (h:Eo xs O) (hl:xs.length < O.length):Eo (xs++[gi O xs.length]) O:=by
 refine ⟨by simp only [List.length_append,List.length_singleton]; omega,fun x x0 x1=>?_⟩
 simp only [List.length_append,List.length_singleton] at x1
 rw [lr x0]
 by_cases e:x < xs.length
 ·rw [if_pos e]; exact h.g x x0 e
 ·rw [if_neg e,if_pos (by omega),show x=(xs.length:Int) by omega]
theorem Eo.all {xs O:List Int} (h:Eo xs O) (e:O.length=xs.length):O=xs:=aa1 e h.g
structure T7 (c:aF):Prop where
 t:Ty c
 m:c.aE.length≤63
 o:c.aA≤63
 s:gh c
structure FF (c d:aF) (f:aP):Prop where
 s:f.aB=c
 t:f.aG=d
 ol:(f.aA.length:Int)=c.aA
 oo:∀ y∈f.aA,0≤y∧y < d.aA
 ar:Full c d f.aA f.ab
theorem FT.full {c d:aF} {O A:List Int} (h:FT c d O A) (e:A.length=c.aE.length):Full c d O A:=⟨⟨e,fun a a0 a1 _=>⟨(h.ar a a0 a1).1.2,(h.ar a a0 a1).2⟩⟩,fun a a0 a1=>(h.ar a a0 a1).1.1⟩
theorem abF (r:List Int):vq r≤r.length:=List.length_filter_le _ _
section
variable {c d:aF} (T:T7 c) (U:T7 d)
include T U
theorem FF.small {f:aP} (F:FF c d f):kq f:=⟨F.s ▸ T.s,F.t ▸ U.s,by have:=F.ol; have:=T.o; omega,by have:=F.ar.1.len; have:=T.m; omega⟩
theorem Xh (xs:List Int):Ok (pX c d xs) fun b=>∀ O A,FT c d O A→Eo xs O→b=true:=by
 have cm:=T.m
 have dm:=U.m
 unfold pX
 refine ie (ol (fun z:Int=>0≤z∧z≤c.aE.length) (fun z=>(c.aE.length - z).toNat) ⟨by omega,by omega⟩ ?_)
 rintro i ⟨i0,i1⟩
 unfold tR
 refine od (fun hi=>?_) fun hi=>os ⟨rfl,os fun _ _ _ _=>rfl⟩
 have hw:=w1 i0 hi (by omega)
 have kf:=T.t.fr i0 hi
 have kt:=T.t.to i0 hi
 have nx:∀ {E:Int→Prop} {G:Bool→Prop},Ok (some (Out.norm (aj (i+1)):Out Int Bool)) (IW 0 (fun z:Int=>0≤z∧z≤c.aE.length) (fun z=>(c.aE.length - z).toNat) (c.aE.length - i).toNat E G):=by
  intro E G
  refine os ⟨⟨?_,?_⟩,?_⟩
  all_goals (try dsimp only)
  all_goals rw [hw]
  all_goals omega
 refine oe (T.t.jc i0 hi) (oe (T.t.jm i0 hi) (od (fun hx=>od (fun hy=>oe (bQ kf.1 hx) (oe (bQ kt.1 hy) (ob (CR U.t.tl (by omega) _ _) fun tf hh=>oc (fun e=>os ?_) fun e=>nx))) fun _=>nx) fun _=>nx))
 intro O A hA hp
 exfalso
 have e:tf.length=0:=by
  have:=of_decide_eq_true e
  omega
 have ka:=hA.ar i i0 hi
 have:=(hh.2 (gi A i)).2 ⟨ka.1,by rw [ka.2.1,hp.g _ kf.1 hx],by rw [ka.2.2,hp.g _ kt.1 hy]⟩
 rw [List.length_eq_zero_iff.1 e] at this
 exact nomatch this
theorem UE (n:Nat):∀ {xs:List Int} {found:List aP} (_:(xs.length:Int)≤c.aA) (_:∀ y∈xs,0≤y∧y < d.aA) (_:c.aA - xs.length < n) (_:found.length≤200) (_:∀ q∈found,FF c d q),
  Ok (jN n c d xs found) fun y=>(found.length≤y.length∧y.length≤201)∧(∀ q∈y,FF c d q)∧∀ O A,FT c d O A→Eo xs O→0 < y.length:=by
 have cm:=T.m
 have dm:=U.m
 have co:=T.o
 have d8:=U.o
 induction n with
 | zero=>intro xs found h1 _ h2; omega
 | succ n ih=>
  intro xs found hl ho hn Km fq
  show Ok (mX (jN n) c d xs found) _
  unfold mX
  refine ie (ob (Xh T U xs) fun b hb=>oc (fun e=>os ⟨⟨Nat.le_refl _,by omega⟩,fq,fun O A hA hp=>?_⟩) fun e=>oc (fun e2=>?_) fun e2=>?_)
  ·rw [hb O A hA hp] at e; cases e
  ·have e2:(xs.length:Int)=c.aA:=by simpa using e2
   refine ol (fun z:List Int×Int=>(0≤z.2∧z.2≤c.aE.length)∧(z.1.length:Int)=z.2∧∀ v∈z.1,v = -1) (fun z=>(c.aE.length - z.2).toNat) ⟨⟨by show (0:Int)≤0; omega,by show (0:Int)≤_; omega⟩,rfl,ei⟩ ?_
   rintro ⟨l,i⟩ ⟨⟨i0,i1⟩,DN,hv⟩
   dsimp only at i0 i1 DN hv
   show Ok (pK c l i) _
   unfold pK
   refine od (fun hi=>dt (by omega) (by omega) (os ⟨⟨⟨?_,?_⟩,?_,ew hv rfl⟩,?_⟩)) fun hi=>os ⟨rfl,?_⟩
   ·dsimp only; rw [w1 i0 hi (by omega)]; omega
   ·dsimp only; rw [w1 i0 hi (by omega)]; omega
   ·dsimp only; rw [w1 i0 hi (by omega),List.length_append,List.length_singleton]; omega
   ·dsimp only; rw [w1 i0 hi (by omega)]; omega
   have P0:PA c d xs l:=⟨by omega,fun a a0 a1 h=>by rw [hv _ (dc a0 (by omega))] at h; omega⟩
   refine ol (fun z:Int×List Int=>(0≤z.1∧z.1≤xs.length)∧PA c d xs z.2∧∀ A,FT c d xs A→CY c z.2 A) (fun z=>(xs.length - z.1).toNat) ⟨⟨by show (0:Int)≤0; omega,by show (0:Int)≤_; omega⟩,P0,fun A hA a a0 a1 h=>by dsimp only at h; rw [hv _ (dc a0 (by omega))] at h; omega⟩ ?_
   rintro ⟨j,ys⟩ ⟨⟨j0,j1⟩,P,hE⟩
   dsimp only at j0 j1 P hE
   have hpl:=P.len
   show Ok (pL c d xs j ys) _
   unfold pL
   refine od (fun hj=>?_) fun hj=>os ⟨rfl,?_⟩
   ·have kx:=ho _ (dc j0 hj)
    have ki:=T.t.id j0 (by omega)
    have ku:=U.t.id kx.1 kx.2
    refine oe (T.t.ou j0 (by omega)) (oe (bQ j0 hj) (oe (U.t.ou kx.1 kx.2) (oe (bQ ki.1 (by omega)) (os ⟨⟨⟨?_,?_⟩,P.set ki.1 ki.2 fun _=>⟨ku.2,?_,?_⟩,fun A hA a a0 a1 h=>?_⟩,?_⟩))))
    ·dsimp only; rw [w1 j0 hj (by omega)]; omega
    ·dsimp only; rw [w1 j0 hj (by omega)]; omega
    ·rw [U.t.yu _ kx.1 kx.2,T.t.yu _ j0 (by omega)]
    ·rw [U.t.yS _ kx.1 kx.2,T.t.yS _ j0 (by omega)]
    ·dsimp only at h ⊢
     rw [sd ki.1 (by omega) a0] at h ⊢
     by_cases ea:a=gi c.aH j
     ·rw [if_pos ea,ea,hA.un j j0 (by omega)]
     ·rw [if_neg ea] at h ⊢
      exact hE A hA a a0 a1 h
    ·dsimp only; rw [w1 j0 hj (by omega)]; omega
   ·refine ob (UD T.t U.t (by omega) (by omega) e2 ho 64 P (by omega) (by omega) (fun a a0 a1=>by omega) (by have:=abF ys; omega) (by simp) ei) fun y hy=>?_
    have DO:=hy.2.1
    refine ol (fun z:List aP×Int=>(0≤z.2∧z.2≤y.length)∧(found.length≤z.1.length∧z.1.length≤201)∧(∀ q∈z.1,FF c d q)∧(0 < z.2→0 < z.1.length)) (fun z=>(y.length - z.2).toNat) ⟨⟨by show (0:Int)≤0; omega,by show (0:Int)≤_; omega⟩,⟨Nat.le_refl _,by dsimp only; omega⟩,fq,fun h=>by dsimp only at h; omega⟩ ?_
    rintro ⟨fd,k⟩ ⟨⟨k0,k1⟩,⟨h1,h2⟩,h3,h4⟩
    dsimp only at k0 k1 h1 h2 h3 h4
    show Ok (pM c d xs y fd k) _
    unfold pM
    refine ob (P:=fun g=>(g=true→k < y.length∧fd.length≤200)∧(g=false→y.length≤k∨200 < fd.length)) (od (fun h=>os ⟨fun h2=>⟨h,by have:=of_decide_eq_true h2; omega⟩,fun h2=>.inr (by have:=of_decide_eq_false h2; omega)⟩) fun h=>os ⟨fun h2=>(by cases h2),fun _=>.inl (by omega)⟩) fun g hg=>oc (fun eg=>?_) fun eg=>os ⟨rfl,os ⟨⟨h1,h2⟩,h3,fun O A hA hp=>?_⟩⟩
    ·obtain ⟨hk,Wd⟩:=hg.1 eg
     refine oi k0 hk fun q hq=>oe (nk T.s U.s (by omega) (by have:=(hy.2.2.1 q hq).1.len; omega)) (dt (by omega) (by omega) (os ⟨⟨⟨?_,?_⟩,⟨?_,?_⟩,ew h3 ⟨rfl,rfl,e2,ho,hy.2.2.1 q hq⟩,fun _=>?_⟩,?_⟩))
     all_goals (try dsimp only)
     all_goals (try rw [w1 k0 hk (by omega)])
     all_goals (try simp only [List.length_append,List.length_singleton])
     all_goals omega
    ·have eO:O=xs:=hp.all (by have:=hA.ol; omega)
     rw [eO] at hA
     have h5:=hy.2.2.2 A hA (hE A hA)
     show 0 < fd.length
     rcases hg.2 eg with h | h
     ·exact h4 (by omega)
     ·omega
  ·have e2 : ¬ (xs.length:Int)=c.aA:=by simpa using e2
   have d0:=U.t.o0
   refine ol (fun z:List aP×Int=>(0≤z.2∧z.2≤d.aA)∧(found.length≤z.1.length∧z.1.length≤201)∧(∀ q∈z.1,FF c d q)∧∀ O A,FT c d O A→Eo xs O→0 < z.1.length∨∀ j:Int,0≤j→j < z.2→gi O xs.length≠j) (fun z=>(d.aA - z.2).toNat) ⟨⟨by show (0:Int)≤0; omega,by show (0:Int)≤_; omega⟩,⟨Nat.le_refl _,by dsimp only; omega⟩,fq,fun O A _ _=>.inr fun j j0 j1=>by dsimp only at j1; omega⟩ ?_
   rintro ⟨fd,k⟩ ⟨⟨k0,k1⟩,⟨h1,h2⟩,h3,h4⟩
   dsimp only at k0 k1 h1 h2 h3 h4
   show Ok (pN (jN n) c d xs fd k) _
   unfold pN
   refine ob (P:=fun g=>(g=true→k < d.aA∧fd.length≤200)∧(g=false→d.aA≤k∨200 < fd.length)) (od (fun h=>os ⟨fun h2=>⟨h,by have:=of_decide_eq_true h2; omega⟩,fun h2=>.inr (by have:=of_decide_eq_false h2; omega)⟩) fun h=>os ⟨fun h2=>(by cases h2),fun _=>.inl (by omega)⟩) fun g hg=>oc (fun eg=>?_) fun eg=>os ⟨rfl,os ⟨⟨h1,h2⟩,h3,fun O A hA hp=>?_⟩⟩
   ·obtain ⟨hk,Wd⟩:=hg.1 eg
    have hw:=w1 k0 hk (by omega)
    refine oe (fv xs (by omega)) (dt (by omega) (by omega) (ob (ih (xs:=xs++[k]) (found:=fd) (by rw [List.length_append,List.length_singleton]; omega) (ew ho ⟨k0,hk⟩) (by rw [List.length_append,List.length_singleton]; omega) Wd h3) fun z hz=>os ⟨⟨⟨?_,?_⟩,⟨?_,hz.1.2⟩,hz.2.1,fun O A hA hp=>?_⟩,?_⟩))
    ·dsimp only; rw [hw]; omega
    ·dsimp only; rw [hw]; omega
    ·dsimp only; have:=hz.1.1; omega
    ·dsimp only
     by_cases e3:gi O xs.length=k
     ·refine .inl (hz.2.2 O A hA ?_)
      have:=hp.app (by have:=hA.ol; omega)
      rwa [e3] at this
     ·rcases h4 O A hA hp with h | h
      ·exact .inl (by have:=hz.1.1; omega)
      ·refine .inr fun j j0 j1=>?_
       rw [hw] at j1
       by_cases ej:j=k
       ·rw [ej]; exact e3
       ·exact h j j0 (by omega)
    ·dsimp only; rw [hw]; omega
   ·show 0 < fd.length
    rcases hg.2 eg with h | h
    ·rcases h4 O A hA hp with h5 | h5
     ·exact h5
     ·exfalso
      have kb:=hA.oo _ (dc (l:=O) (j:=xs.length) (by omega) (by have:=hA.ol; omega))
      exact h5 _ kb.1 (by omega) rfl
    ·omega
theorem Pa:Ok (mD c d) fun y=>y.length≤201∧(∀ q∈y,FF c d q)∧∀ O A,FT c d O A→0 < y.length:=by
 unfold mD
 have o0:=T.t.o0
 have co:=T.o
 refine ie (ob (UE T U 64 (xs:=[]) (found:=[]) (by simpa using o0) ei (by simp; omega) (by simp) ei) fun y hy=>os ⟨hy.1.2,hy.2.1,fun O A hA=>hy.2.2 O A hA ⟨by simp,fun x x0 x1=>by simp at x1; omega⟩⟩)
omit U in
theorem UF:Ok (pA c) fun _=>True:=by
 have cm:=T.m
 unfold pA
 refine ie (ol (fun z:List Int×Int=>(0≤z.2∧z.2≤c.aE.length)∧(z.1.length:Int)≤z.2) (fun z=>(c.aE.length - z.2).toNat) ⟨⟨by show (0:Int)≤0; omega,by show (0:Int)≤_; omega⟩,by show (0:Int)≤0; omega⟩ ?_)
 rintro ⟨l,i⟩ ⟨⟨i0,i1⟩,hl⟩
 dsimp only at i0 i1 hl
 show Ok (pO c l i) _
 unfold pO
 refine od (fun hi=>?_) fun hi=>os ⟨rfl,os trivial⟩
 have kf:=T.t.fr i0 hi
 have u:Ok (gS c i) fun _=>True:=by
  unfold gS
  exact ie (oe (T.t.jc i0 hi) (oe (T.t.ou kf.1 kf.2) (os trivial)))
 refine ob u fun b _=>oc (fun _=>dt (by omega) (by omega) (os ⟨⟨⟨?_,?_⟩,?_⟩,?_⟩)) fun _=>os ⟨⟨⟨?_,?_⟩,?_⟩,?_⟩
 all_goals (try dsimp only)
 all_goals rw [w1 i0 hi (by omega)]
 all_goals (try simp only [List.length_append,List.length_singleton])
 all_goals omega
theorem Xi:Ok (nL c d) fun _=>True:=by
 unfold nL
 exact ie (ob (UF T) fun y _=>od (fun _=>os trivial) fun _=>os trivial)
theorem Hl {v:Int} (v0:0≤v) (v1:v < d.aA):Ok (lE c d v) fun f=>FF c d f∧FT c d f.aA f.ab:=by
 unfold lE
 have c0:=T.t.o0
 have cm:=T.m
 have co:=T.o
 have ki:=U.t.id v0 v1
 refine ie (ol (fun z:List Int×Int=>(0≤z.2∧z.2≤c.aA)∧(z.1.length:Int)=z.2∧∀ y∈z.1,y=v) (fun z=>(c.aA - z.2).toNat) ⟨⟨by show (0:Int)≤0; omega,by show (0:Int)≤_; omega⟩,rfl,ei⟩ ?_)
 rintro ⟨l,i⟩ ⟨⟨i0,i1⟩,hl,hv⟩
 dsimp only at i0 i1 hl hv
 show Ok (nQ c v l i) _
 unfold nQ
 refine od (fun hi=>dt (by omega) (by omega) (os ⟨⟨⟨?_,?_⟩,?_,ew hv rfl⟩,?_⟩)) fun hi=>os ⟨rfl,?_⟩
 ·dsimp only; rw [w1 i0 hi (by omega)]; omega
 ·dsimp only; rw [w1 i0 hi (by omega)]; omega
 ·dsimp only; rw [w1 i0 hi (by omega),List.length_append,List.length_singleton]; omega
 ·dsimp only; rw [w1 i0 hi (by omega)]; omega
 refine ol (fun z:List Int×Int=>(0≤z.2∧z.2≤c.aE.length)∧(z.1.length:Int)=z.2∧∀ y∈z.1,y=gi d.aH v) (fun z=>(c.aE.length - z.2).toNat) ⟨⟨by show (0:Int)≤0; omega,by show (0:Int)≤_; omega⟩,rfl,ei⟩ ?_
 rintro ⟨m,j⟩ ⟨⟨j0,j1⟩,hm,Dl⟩
 dsimp only at j0 j1 hm Dl
 show Ok (nR c d v m j) _
 unfold nR
 refine od (fun hj=>oe (U.t.ou v0 v1) (dt (by omega) (by omega) (os ⟨⟨⟨?_,?_⟩,?_,ew Dl rfl⟩,?_⟩))) fun hj=>os ⟨rfl,oe (nk T.s U.s (by omega) (by omega)) (os ?_)⟩
 ·dsimp only; rw [w1 j0 hj (by omega)]; omega
 ·dsimp only; rw [w1 j0 hj (by omega)]; omega
 ·dsimp only; rw [w1 j0 hj (by omega),List.length_append,List.length_singleton]; omega
 ·dsimp only; rw [w1 j0 hj (by omega)]; omega
 have lo:∀ x:Int,0≤x→x < c.aA→gi l x=v:=fun x x0 x1=>hv _ (dc x0 (by omega))
 have la:∀ a:Int,0≤a→a < c.aE.length→gi m a=gi d.aH v:=fun x x0 x1=>Dl _ (dc x0 (by omega))
 have oo:∀ y∈l,0≤y∧y < d.aA:=fun y hy=>by rw [hv y hy]; exact ⟨v0,v1⟩
 have H:FT c d l m:=by
  refine ⟨by omega,oo,fun a a0 a1=>?_,fun x x0 x1=>?_,fun a b a0 a1 b0 b1 e=>?_⟩
  ·rw [la a a0 a1]
   exact ⟨ki,by rw [U.t.yu _ v0 v1,lo _ (T.t.fr a0 a1).1 (T.t.fr a0 a1).2],by rw [U.t.yS _ v0 v1,lo _ (T.t.to a0 a1).1 (T.t.to a0 a1).2]⟩
  ·rw [la _ (T.t.id x0 x1).1 (T.t.id x0 x1).2,lo x x0 x1]
  ·have k:=T.t.cell a b a0 a1 b0 b1 e
   rw [la _ k.1.1 k.1.2,la a a0 a1,la b b0 b1]
   exact (U.t.uu v v0 v1).symm
 exact ⟨⟨rfl,rfl,H.ol,oo,H.full (by omega)⟩,H⟩
omit U in
theorem yw:Ok (eJ c) fun f=>FF c c f∧FT c c f.aA f.ab:=by
 unfold eJ
 have c0:=T.t.o0
 have cm:=T.m
 have co:=T.o
 refine ie (ol (fun z:List Int×Int=>(0≤z.2∧z.2≤c.aA)∧(z.1.length:Int)=z.2∧∀ j:Int,0≤j→j < z.2→gi z.1 j=j) (fun z=>(c.aA - z.2).toNat) ⟨⟨by show (0:Int)≤0; omega,by show (0:Int)≤_; omega⟩,rfl,fun j j0 j1=>by dsimp only at j1; omega⟩ ?_)
 rintro ⟨l,i⟩ ⟨⟨i0,i1⟩,hl,hv⟩
 dsimp only at i0 i1 hl hv
 show Ok (eZ c l i) _
 unfold eZ
 refine od (fun hi=>dt (by omega) (by omega) (os ⟨⟨⟨?_,?_⟩,?_,fun j j0 j1=>?_⟩,?_⟩)) fun hi=>os ⟨rfl,?_⟩
 ·dsimp only; rw [w1 i0 hi (by omega)]; omega
 ·dsimp only; rw [w1 i0 hi (by omega)]; omega
 ·dsimp only; rw [w1 i0 hi (by omega),List.length_append,List.length_singleton]; omega
 ·dsimp only at j1 ⊢
  rw [w1 i0 hi (by omega)] at j1
  rw [lr j0]
  by_cases e:j < l.length
  ·rw [if_pos e]; exact hv j j0 (by omega)
  ·rw [if_neg e,if_pos (by omega)]; omega
 ·dsimp only; rw [w1 i0 hi (by omega)]; omega
 refine ol (fun z:List Int×Int=>(0≤z.2∧z.2≤c.aE.length)∧(z.1.length:Int)=z.2∧∀ j:Int,0≤j→j < z.2→gi z.1 j=j) (fun z=>(c.aE.length - z.2).toNat) ⟨⟨by show (0:Int)≤0; omega,by show (0:Int)≤_; omega⟩,rfl,fun j j0 j1=>by dsimp only at j1; omega⟩ ?_
 rintro ⟨m,j⟩ ⟨⟨j0,j1⟩,hm,Dl⟩
 dsimp only at j0 j1 hm Dl
 show Ok (fA c m j) _
 unfold fA
 refine od (fun hj=>dt (by omega) (by omega) (os ⟨⟨⟨?_,?_⟩,?_,fun q q0 q1=>?_⟩,?_⟩)) fun hj=>os ⟨rfl,oe (nk T.s T.s (by omega) (by omega)) (os ?_)⟩
 ·dsimp only; rw [w1 j0 hj (by omega)]; omega
 ·dsimp only; rw [w1 j0 hj (by omega)]; omega
 ·dsimp only; rw [w1 j0 hj (by omega),List.length_append,List.length_singleton]; omega
 ·dsimp only at q1 ⊢
  rw [w1 j0 hj (by omega)] at q1
  rw [lr q0]
  by_cases e:q < m.length
  ·rw [if_pos e]; exact Dl q q0 (by omega)
  ·rw [if_neg e,if_pos (by omega)]; omega
 ·dsimp only; rw [w1 j0 hj (by omega)]; omega
 have lo:∀ x:Int,0≤x→x < c.aA→gi l x=x:=fun x x0 x1=>hv _ x0 (by omega)
 have la:∀ a:Int,0≤a→a < c.aE.length→gi m a=a:=fun x x0 x1=>Dl _ x0 (by omega)
 have oo:∀ y∈l,0≤y∧y < c.aA:=fun y hy=>by
  obtain ⟨i,i0,i1,rfl⟩:=my hy
  rw [lo i i0 (by omega)]; omega
 have H:FT c c l m:=by
  refine ⟨by omega,oo,fun a a0 a1=>?_,fun x x0 x1=>?_,fun a b a0 a1 b0 b1 e=>?_⟩
  ·rw [la a a0 a1]
   exact ⟨⟨a0,a1⟩,by rw [lo _ (T.t.fr a0 a1).1 (T.t.fr a0 a1).2],by rw [lo _ (T.t.to a0 a1).1 (T.t.to a0 a1).2]⟩
  ·rw [la _ (T.t.id x0 x1).1 (T.t.id x0 x1).2,lo x x0 x1]
  ·have k:=T.t.cell a b a0 a1 b0 b1 e
   rw [la _ k.1.1 k.1.2,la a a0 a1,la b b0 b1]
 exact ⟨⟨rfl,rfl,H.ol,oo,H.full (by omega)⟩,H⟩
end
def N7 (c d:aF):Prop:=∀ l,nL c d=some true→mD c d=some l→0 < l.length
theorem EX {c d:aF} {O A:List Int} (T:T7 c) (U:T7 d) (h:FT c d O A):N7 c d:=by
 intro l _ e
 obtain ⟨l',e',h'⟩:=Pa T U
 rw [e] at e'
 cases e'
 exact h'.2.2 O A h
theorem zo {y:aF} {o m:Int} (h:j7 8 800 y∧Ty y∧((y.aA≤o∧(y.aE.length:Int)≤m)∨j7 1 4 y)) (ho:o≤63) (hm:m≤63):T7 y:=by
 refine ⟨h.2.1,?_,?_,h.1.small (by omega) (by omega)⟩
 ·rcases h.2.2 with h | h
  ·omega
  ·have:=h.m; omega
 ·rcases h.2.2 with h | h
  ·omega
  ·have:=h.o; omega
section
variable {x:List Int} (B:yT x) {s:aJ} (S:Src x s)
include B S
theorem VM {c:aF} (T:T7 c) {o m:Int} (ho:o≤63) (hm:m≤63):Ok (oH s c o m) fun y=>(∃ d,T7 d∧FF c d y.1∧N7 c d)∧Src x y.2:=by
 unfold oH
 refine ie (ob (B5 B S o m) fun y hy=>?_)
 have U:T7 y.1:=zo hy.1 ho hm
 have S1:=S.on (h:=y.2.an) hy.2
 obtain ⟨b,eb,_⟩:=Xi T U
 refine oe eb (oc (fun hb=>?_) fun _=>?_)
 ·obtain ⟨l,el,hl⟩:=Pa T U
  refine oe el (od (fun h0=>ob (dk B S1 _) fun z hz=>oi hz.1.1 (hz.1.2 (by omega)) fun f hf=>os ⟨⟨y.1,U,hl.2.1 f hf,fun l' _ e'=>by rw [el] at e'; cases e'; omega⟩,S.on hz.2⟩) fun _=>?_)
  exact od (fun ho=>ob (dk B S1 _) fun z hz=>oc (fun _=>ob (dk B (S.on hz.2) _) fun w hw=>ob (Hl T U hw.1.1 (hw.1.2 (by omega))) fun f hf=>os ⟨⟨y.1,U,hf.1,EX T U hf.2⟩,S.on hw.2⟩) fun _=>ob (yw T) fun f hf=>os ⟨⟨c,T,hf.1,EX T T hf.2⟩,S.on hz.2⟩) fun _=>ob (yw T) fun f hf=>os ⟨⟨c,T,hf.1,EX T T hf.2⟩,S1⟩
 ·exact od (fun ho=>ob (dk B S1 _) fun z hz=>oc (fun _=>ob (dk B (S.on hz.2) _) fun w hw=>ob (Hl T U hw.1.1 (hw.1.2 (by omega))) fun f hf=>os ⟨⟨y.1,U,hf.1,EX T U hf.2⟩,S.on hw.2⟩) fun _=>ob (yw T) fun f hf=>os ⟨⟨c,T,hf.1,EX T T hf.2⟩,S.on hz.2⟩) fun _=>ob (yw T) fun f hf=>os ⟨⟨c,T,hf.1,EX T T hf.2⟩,S1⟩
theorem Xd:Ok (rR s) fun y=>kq y.1∧Src x y.2:=by
 unfold rR
 refine ie (ob (B5 B S 4 10) fun y hy=>?_)
 have T:T7 y.1:=zo hy.1 (by omega) (by omega)
 refine ob (VM B (S.on hy.2) T (by omega) (by omega)) fun z hz=>?_
 obtain ⟨⟨d,U,F,_⟩,S2⟩:=hz
 have fs:kq z.1:=F.small T U
 have gv:=F.ol
 have co:=T.o
 refine ob (dk B (S.on S2) _) fun w hw=>oc (fun _=>?_) fun _=>oc (fun _=>?_) fun _=>oc (fun _=>?_) fun _=>os ⟨fs,S.on hw.2⟩
 ·exact ob (aaX B (S.on hw.2) (c:=z.1.aB) (by rw [F.s]; exact hy.1.1)) fun u hu=>os ⟨⟨hu.1,fs.t,fs.o,fs.a⟩,S.on hu.2⟩
 ·refine od (fun h=>ob (dk B (S.on hw.2) _) fun u hu=>ob (dk B (S.on hu.2) _) fun v hv=>oe (bQ hu.1.1 (hu.1.2 (by omega))) (os ⟨⟨fs.s,fs.t,fs.o,?_⟩,S.on hv.2⟩)) fun _=>os ⟨fs,S.on hw.2⟩
  show (List.set _ _ _).length≤_
  rw [List.length_set]; exact fs.a
 ·refine dt (by omega) (by omega) (os ⟨⟨fs.s,fs.t,?_,fs.a⟩,S.on hw.2⟩)
  show (z.1.aA++[(0:Int)]).length≤_
  rw [List.length_append,List.length_singleton]; omega
end
end Go.Proofs.YtilhlobfebngdaaGreat
namespace Go.Proofs.YtilhlobfebngdaaGreat
open Go Go.Li
set_option linter.unusedVariables false
set_option linter.unusedSectionVars false
theorem acI {n:Int} (n0:0≤n) (n1:n≤63) {rs:List (List Int)} (hr:∀ r∈rs,r.length=2∧∀ y∈r,0≤y∧y < n) (hl:rs.length≤1000):Ok (rD n rs) fun q=>(q.length:Int)=n:=by
 unfold rD
 refine ie (ol (fun z:List Int×Int=>(0≤z.2∧z.2≤n)∧(z.1.length:Int)=z.2) (fun z=>(n - z.2).toNat) ⟨⟨by show (0:Int)≤0; omega,by show (0:Int)≤_; omega⟩,rfl⟩ ?_)
 rintro ⟨l,i⟩ ⟨⟨i0,i1⟩,DN⟩
 dsimp only at i0 i1 DN
 show Ok (rA n l i) _
 unfold rA
 refine od (fun hi=>dt (by omega) (by omega) (os ⟨⟨⟨?_,?_⟩,?_⟩,?_⟩)) fun hi=>os ⟨rfl,?_⟩
 ·dsimp only; rw [w1 i0 hi (by omega)]; omega
 ·dsimp only; rw [w1 i0 hi (by omega)]; omega
 ·dsimp only; rw [w1 i0 hi (by omega),List.length_append,List.length_singleton]; omega
 ·dsimp only; rw [w1 i0 hi (by omega)]; omega
 refine ol (fun z:Int×List Int=>(0≤z.1∧z.1≤rs.length)∧(z.2.length:Int)=n) (fun z=>(rs.length - z.1).toNat) ⟨⟨by show (0:Int)≤0; omega,by show (0:Int)≤_; omega⟩,by dsimp only; omega⟩ ?_
 rintro ⟨j,ys⟩ ⟨⟨j0,j1⟩,hy⟩
 dsimp only at j0 j1 hy
 show Ok (rC rs j ys) _
 unfold rC
 refine od (fun hj=>?_) fun hj=>os ⟨rfl,ob (Pd (by omega)) fun q hq=>os (by show (q.length:Int)=n; have:=hq.1; omega)⟩
 have hw:=w1 j0 hj (by omega)
 have hrr:=hr _ (fy j0 hj)
 have k0:=hrr.2 _ (dc (l:=gr rs j) (j:=0) (by omega) (by omega))
 have k1:=hrr.2 _ (dc (l:=gr rs j) (j:=1) (by omega) (by omega))
 refine oe (fx j0 hj) (oe (bQ (by omega) (by omega)) (oe (bQ k0.1 (by omega)) (oe (fx j0 hj) (oe (bQ (by omega) (by omega)) (oe (bQ k1.1 (by omega)) ?_)))))
 refine ol (fun z:Int×List Int=>(0≤z.1∧z.1≤z.2.length)∧(z.2.length:Int)=n) (fun z=>(z.2.length - z.1).toNat) ⟨⟨by show (0:Int)≤0; omega,by show (0:Int)≤_; omega⟩,hy⟩ ?_
 rintro ⟨k,zs⟩ ⟨⟨a0,a1⟩,hz⟩
 dsimp only at a0 a1 hz
 show Ok (rB _ _ k zs) _
 unfold rB
 refine ob (P:=fun g=>g=true→k < zs.length) (od (fun h=>os fun _=>h) fun _=>os fun h=>by cases h) fun g hg=>oc (fun eg=>?_) fun eg=>os ⟨rfl,os ⟨⟨⟨?_,?_⟩,hz⟩,?_⟩⟩
 ·have hk:=hg eg
  refine oe (bQ a0 hk) (oc (fun _=>oe (bQ a0 hk) (os ⟨⟨⟨?_,?_⟩,?_⟩,?_⟩)) fun _=>os ⟨⟨⟨?_,?_⟩,?_⟩,?_⟩)
  all_goals (try dsimp only)
  all_goals (try simp only [List.length_set])
  all_goals (try rw [w1 a0 hk (by omega)])
  all_goals omega
 all_goals (try dsimp only)
 all_goals rw [hw]
 all_goals omega
structure PP (c d:aF) (xs:List Int):Prop where
 len:(xs.length:Int)=c.aA
 ok:∀ y∈xs,y < d.aE.length
def NM (r:List Int):Nat:=(r.filter fun v=>v == -1).length
theorem RH (r:List Int):NM r≤r.length:=List.length_filter_le _ _
theorem Xj {r:List Int} {d:Nat} {v:Int} (hv:0≤v) (hl:d < r.length) (hg:gi r d = -1):NM (r.set d v) < NM r:=by
 unfold NM
 induction r generalizing d with
 | nil=>simp at hl
 | cons a r ih=>
  cases d with
  | zero=>
   have h:a = -1:=hg
   rw [List.set_cons_zero,List.filter_cons,if_neg (by simp; omega),List.filter_cons,if_pos (by simpa using h)]
   simp
  | succ d=>
   rw [List.set_cons_succ,List.filter_cons,List.filter_cons]
   have hg:gi r d = -1:=by
    have e:gi (a :: r) ((d+1:Nat):Int)=gi r (d:Int):=rfl
    rwa [e] at hg
   have:=ih (d:=d) (by simp at hl; omega) hg
   split <;> (try simp only [List.length_cons]) <;> omega
def Ma (d:aF) (f g:aP) (j v:Int):Prop:=(0≤v∧v < d.aE.length)∧gi d.aE v=gi f.aA j∧gi d.To v=gi g.aA j
structure PQ (c d:aF) (f g:aP) (k:Bool) (xs:List Int):Prop where
 len:(xs.length:Int)=c.aA
 ok:∀ j:Int,0≤j→j < xs.length→Ma d f g j (gi xs j)∨gi xs j = -1∨(gi xs j = -2∧k=true)
structure CQ (c d:aF) (f g:aP) (k:Bool) (xs:List Int):Prop where
 len:(xs.length:Int)=c.aA
 ok:∀ j:Int,0≤j→j < xs.length→Ma d f g j (gi xs j)∨(gi xs j = -2∧k=true)
theorem PQ.pp {c d:aF} {f g:aP} {k:Bool} {xs:List Int} (P:PQ c d f g k xs):PP c d xs:=⟨P.len,fun y hy=>by
 obtain ⟨j,j0,j1,rfl⟩:=my hy
 rcases P.ok j j0 j1 with h | h | h
 ·exact h.1.2
 ·omega
 ·omega⟩
theorem PQ.set {c d:aF} {f g:aP} {k:Bool} {xs:List Int} (P:PQ c d f g k xs) {r v:Int} (r0:0≤r) (r1:r < xs.length) (h:Ma d f g r v):PQ c d f g k (xs.set r.toNat v):=⟨by rw [List.length_set]; exact P.len,fun j j0 j1=>by
 rw [List.length_set] at j1
 rw [sd r0 r1 j0]
 by_cases e:j=r
 ·rw [if_pos e,e]; exact Or.inl h
 ·rw [if_neg e]; exact P.ok j j0 j1⟩
structure GS (c d:aF) (f g:aP) (k:Bool) (m:Int) (s:dD):Prop where
 f1:s.F=f
 g1:s.G=g
 i1:s.AS=false
 m1:s.xN=m
 n1:(s.Found.length:Int)≤m
 q1:∀ q∈s.Found,CQ c d f g k q
section
variable {c d:aF} {f g:aP} (T:T7 c) (U:T7 d) (F:FF c d f) (G:FF c d g)
include T U F G
theorem UG {p:List Int} (hp:(p.length:Int)=c.aA) {a:Int} (a0:0≤a) (a1:a < c.aE.length) (h1:0≤gi p (gi c.aE a)∧gi p (gi c.aE a) < d.aE.length) (h2:0≤gi p (gi c.To a)∧gi p (gi c.To a) < d.aE.length):Ok (kY f g p a) fun _=>True:=by
 unfold kY
 rw [F.s,F.t]
 have fl:=F.ar.1.len
 have gl:=G.ar.1.len
 have kf:=T.t.fr a0 a1
 have kt:=T.t.to a0 a1
 have f0:=F.ar.2 a a0 a1
 have f1:=(F.ar.1.ok a a0 a1 f0).1
 have g0:=G.ar.2 a a0 a1
 have g1:=(G.ar.1.ok a a0 a1 g0).1
 exact ie (oe (bQ a0 (by omega)) (oe (U.t.ni f0 f1) (oe (T.t.jm a0 a1) (oe (bQ kt.1 (by omega)) (oe (U.t.mi f0 f1 h2.1 h2.2) (oe (T.t.jc a0 a1) (oe (bQ kf.1 (by omega)) (oe (U.t.ni h1.1 h1.2) (oe (bQ a0 (by omega)) (oe (U.t.mi h1.1 h1.2 g0 g1) (os trivial)))))))))))
theorem I2 {m:Int} {fd:List (List Int)} {xs:List Int} (P:PP c d xs) {x:Int} (x0:0≤x) (x1:x < c.aA):Ok (lT (dD.mk f g false m fd) xs x) fun y=>y.length≤d.aE.length∧∀ v∈y,Ma d f g x v:=by
 have cm:=T.m
 have dm:=U.m
 have fo:=F.ol
 have go:=G.ol
 have pl:=P.len
 have co:=T.o
 unfold lT
 dsimp only
 rw [F.t]
 refine ie (oe (bQ x0 (by omega)) (oe (bQ x0 (by omega)) (ob (CR U.t.tl (by omega) _ _) fun tf hh=>?_)))
 have Vb:=hh.1
 refine ol (fun z:List Int×Int=>(0≤z.2∧z.2≤tf.length)∧(z.1.length:Int)≤z.2∧∀ v∈z.1,Ma d f g x v) (fun z=>(tf.length - z.2).toNat) ⟨⟨by show (0:Int)≤0; omega,by show (0:Int)≤_; omega⟩,by show (0:Int)≤0; omega,ei⟩ ?_
 rintro ⟨l,i⟩ ⟨⟨i0,i1⟩,hl,hv⟩
 dsimp only at i0 i1 hl hv
 show Ok (oF (dD.mk f g false m fd) xs x tf l i) _
 unfold oF
 dsimp only
 refine od (fun hi=>?_) fun hi=>os ⟨rfl,os ⟨by show l.length≤_; omega,hv⟩⟩
 refine ob (P:=fun g=>g=false) (oc (fun h=>by cases h) fun _=>os rfl) fun g2 mw=>oc (fun e=>by rw [mw] at e; cases e) fun _=>?_
 refine oe (fv xs (by omega)) (oe (bQ i0 hi) (oe (bQ x0 (by omega)) ?_))
 have kv:=(hh.2 _).1 (dc i0 hi)
 have n7:((xs.set x.toNat (gi tf i)).length:Int)=c.aA:=by rw [List.length_set]; exact pl
 have Gb:∀ y∈xs.set x.toNat (gi tf i),y < d.aE.length:=zp P.ok kv.1.2
 refine ol (fun z:Bool×Int=>0≤z.2∧z.2≤c.aE.length) (fun z=>(c.aE.length - z.2).toNat) ⟨by show (0:Int)≤0; omega,by show (0:Int)≤_; omega⟩ ?_
 rintro ⟨b,j⟩ ⟨j0,j1⟩
 dsimp only at j0 j1
 show Ok (oE (dD.mk f g false m fd) x xs (gi tf i) b j) _
 unfold oE
 dsimp only
 generalize xs.set x.toNat (gi tf i)=p at n7 Gb
 have fal:=F.ar.1.len
 refine ob (P:=fun g=>g=true→j < c.aE.length) (oc (fun _=>os fun h=>by have:=of_decide_eq_true h; omega) fun _=>os fun h=>(by cases h)) fun g3 hg3=>oc (fun eg=>?_) fun eg=>os ⟨rfl,?_⟩
 ·have hj:=hg3 eg
  have kf:=T.t.fr j0 hj
  have kt:=T.t.to j0 hj
  rw [F.s]
  have tail:Ok (idx p (gi c.aE j)>>=fun e=>bif decide (e < (0:Int)) then (some (true)) else ((idx p (gi c.To j))>>=fun e=>(bif decide (e < (0:Int)) then (some (true)) else ((kY f g p j)>>=fun y=>(some (y)))))) fun _=>True:=
   oe (bQ kf.1 (by omega)) (od (fun _=>os trivial) fun n1=>oe (bQ kt.1 (by omega)) (od (fun _=>os trivial) fun n2=>ob (UG T U F G n7 j0 hj ⟨by omega,Gb _ (dc kf.1 (by omega))⟩ ⟨by omega,Gb _ (dc kt.1 (by omega))⟩) fun _ _=>os trivial))
  refine oe (T.t.jc j0 hj) (oe (T.t.jm j0 hj) (og (oc (fun _=>oc (fun _=>os trivial) fun _=>tail) fun _=>tail) fun g4=>os ⟨⟨?_,?_⟩,?_⟩))
  all_goals (try dsimp only)
  all_goals rw [w1 j0 hj (by omega)]
  all_goals omega
 ·refine oc (fun _=>oe (bQ i0 hi) (dt (by omega) (by omega) (os ⟨⟨⟨?_,?_⟩,?_,ew hv kv⟩,?_⟩))) fun _=>os ⟨⟨⟨?_,?_⟩,?_,hv⟩,?_⟩
  all_goals (try dsimp only)
  all_goals rw [w1 i0 hi (by omega)]
  all_goals (try simp only [List.length_append,List.length_singleton])
  all_goals omega
theorem abH {k:Bool} {m:Int} (hm:m≤300) (n:Nat):∀ {fd:List (List Int)} {xs:List Int} (_:PQ c d f g k xs) (_:NM xs < n) (_:(fd.length:Int) < m) (_:∀ q∈fd,CQ c d f g k q),Ok (kN n (dD.mk f g false m fd) xs) (GS c d f g k m):=by
 have co:=T.o
 have dm:=U.m
 induction n with
 | zero=>intro fd xs _ h; omega
 | succ n ih=>
  intro fd xs P hn hf hq
  have S0:GS c d f g k m (dD.mk f g false m fd):=⟨rfl,rfl,rfl,rfl,by show (fd.length:Int)≤m; omega,hq⟩
  show Ok (rE (kN n) (dD.mk f g false m fd) xs) _
  unfold rE
  have hpl:=P.len
  have hw0:aj ((xs.length:Int) - 1)=xs.length - 1:=eH (by omega) (by omega)
  rw [hw0]
  refine off (ol (fun z:Int×Int=>(-1≤z.2∧z.2 < xs.length)∧(-1≤z.1∧z.1 < xs.length)∧(0≤z.1→gi xs z.1 = -1)∧∀ j:Int,z.2 < j→j < xs.length→z.1 < 0→gi xs j≠-1) (fun z=>(z.2+1).toNat) ⟨⟨by dsimp only; omega,by dsimp only; omega⟩,⟨by dsimp only; omega,by dsimp only; omega⟩,fun h=>by dsimp only at h; omega,fun j j0 j1=>by dsimp only at j0; omega⟩ ?_)
  rintro ⟨r,i⟩ ⟨⟨i0,i1⟩,⟨r0,r1⟩,hr,hrn⟩
  dsimp only at i0 i1 r0 r1 hr hrn
  show Ok (tD (dD.mk f g false m fd) xs r i) _
  unfold tD
  refine od (fun hi=>?_) fun hi=>os ⟨rfl,?_⟩
  ·have hwm:aj (i - 1)=i - 1:=eH (by omega) (by omega)
   refine oe (bQ (by omega) i1) (oc (fun e=>?_) fun e=>os ⟨⟨⟨?_,?_⟩,⟨?_,?_⟩,?_,?_⟩,?_⟩)
   ·have e:gi xs i = -1:=by simpa using e
    refine ob (I2 T U F G P.pp (by omega) (by omega)) fun y hy=>oc (fun _=>os S0) fun _=>os ⟨⟨⟨?_,?_⟩,⟨?_,?_⟩,fun _=>e,fun j _ _ h=>absurd h ?_⟩,?_⟩
    all_goals (try dsimp only)
    all_goals (try rw [hwm])
    all_goals omega
   all_goals (try dsimp only)
   all_goals (try rw [hwm])
   all_goals first | omega | exact hr | skip
   intro j j0 j1 h
   by_cases ej:j=i
   ·rw [ej]; exact by simpa using e
   ·exact hrn j (by omega) j1 h
  ·refine od (fun YO=>oe (fv xs (by omega)) (dt (by show (fd.length+1) * 24≤_; omega) (by show fd.length+1≤_; omega) (os ⟨rfl,rfl,rfl,rfl,?_,ew hq ⟨hpl,fun j j0 j1=>?_⟩⟩))) fun YO=>ob (I2 T U F G P.pp (by omega) (by omega)) fun y hy=>?_
   ·show ((fd++[xs]).length:Int)≤m
    rw [List.length_append,List.length_singleton]; omega
   ·rcases P.ok j j0 j1 with h | h | h
    ·exact Or.inl h
    ·exact absurd h (hrn j (by omega) j1 (by omega))
    ·exact Or.inr h
   have hyl:=hy.1
   refine ol (fun z:Int×Int×Int×Int×Int×Bool×Int×List (List Int)=>(0≤z.1∧z.1≤y.length)∧z.2.1=f.aB.aA∧z.2.2.1=f.aG.aA∧z.2.2.2.1=g.aB.aA∧z.2.2.2.2.1=g.aG.aA∧z.2.2.2.2.2.1=false∧z.2.2.2.2.2.2.1=m∧(z.2.2.2.2.2.2.2.length:Int)≤m∧∀ q∈z.2.2.2.2.2.2.2,CQ c d f g k q) (fun z=>(y.length - z.1).toNat) ⟨⟨by show (0:Int)≤0; omega,by show (0:Int)≤_; omega⟩,rfl,rfl,rfl,rfl,rfl,rfl,by dsimp only; omega,hq⟩ ?_
   rintro ⟨i,a,b,c1,c2,is,mo,fe⟩ ⟨⟨i0,i1⟩,ha,hb,hc,hd,hi2,LJ,Km,hfq⟩
   dsimp only at i0 i1 ha hb hc hd hi2 LJ Km hfq
   subst ha hb hc hd hi2 LJ
   show Ok (tE (kN n) (dD.mk f g false mo fd) xs r y i f.aB.aA f.aG.aA g.aB.aA g.aG.aA false mo fe) _
   unfold tE
   refine ob (P:=fun g=>g=true→i < y.length∧(fe.length:Int) < mo) (od (fun h=>os fun h2=>⟨h,of_decide_eq_true h2⟩) fun _=>os fun h=>(by cases h)) fun g3 hg3=>oc (fun eg=>?_) fun eg=>os ⟨rfl,os ⟨rfl,rfl,rfl,rfl,Km,hfq⟩⟩
   obtain ⟨hi,Dn⟩:=hg3 eg
   have kv:=hy.2 _ (dc i0 hi)
   refine oe (fv xs (by omega)) (oe (bQ i0 hi) (oe (bQ (by omega) r1) ?_))
   have P2:PQ c d f g k (xs.set r.toNat (gi y i)):=P.set (by omega) r1 kv
   have hc:NM (xs.set r.toNat (gi y i)) < n:=by
    have:=Xj (r:=xs) (d:=r.toNat) kv.1.1 (by omega) (by rw [show ((r.toNat:Nat):Int)=r by omega]; exact hr (by omega))
    omega
   show Ok (kN n (dD.mk f g false mo fe) (xs.set r.toNat (gi y i))>>=_) _
   refine ob (ih P2 hc Dn hfq) fun z hz=>os ⟨⟨⟨?_,?_⟩,?_,?_,?_,?_,hz.i1,hz.m1,hz.n1,hz.q1⟩,?_⟩
   ·dsimp only; rw [w1 i0 hi (by omega)]; omega
   ·dsimp only; rw [w1 i0 hi (by omega)]; omega
   ·dsimp only; rw [hz.f1]
   ·dsimp only; rw [hz.f1]
   ·dsimp only; rw [hz.g1]
   ·dsimp only; rw [hz.g1]
   ·dsimp only; rw [w1 i0 hi (by omega)]; omega
theorem Xc {m:Int} (m1:1≤m) (hm:m≤300):Ok (rK f g false m) fun y=>(y.length:Int)≤m∧∀ q∈y,CQ c d f g false q:=by
 have cm:=T.m
 have co:=T.o
 have c0:=T.t.o0
 have dm:=U.m
 unfold rK
 refine ie (ol (fun z:List (List Int)×Int=>(0≤z.2∧z.2≤c.aE.length)∧(z.1.length:Int)=z.2∧∀ r∈z.1,r.length=2∧∀ y∈r,0≤y∧y < c.aA) (fun z=>(c.aE.length - z.2).toNat) ⟨⟨by show (0:Int)≤0; omega,by show (0:Int)≤_; omega⟩,rfl,ei⟩ ?_)
 rintro ⟨l,i⟩ ⟨⟨i0,i1⟩,hl,hv⟩
 dsimp only at i0 i1 hl hv
 show Ok (rF f l i) _
 unfold rF
 rw [F.s]
 refine od (fun hi=>?_) fun hi=>os ⟨rfl,?_⟩
 ·have kf:=T.t.fr i0 hi
  have kt:=T.t.to i0 hi
  refine oe (T.t.jc i0 hi) (oe (T.t.jm i0 hi) (dt (by omega) (by omega) (os ⟨⟨⟨?_,?_⟩,?_,ew hv ⟨rfl,fun y hy=>?_⟩⟩,?_⟩)))
  ·dsimp only; rw [w1 i0 hi (by omega)]; omega
  ·dsimp only; rw [w1 i0 hi (by omega)]; omega
  ·dsimp only; rw [w1 i0 hi (by omega),List.length_append,List.length_singleton]; omega
  ·rcases List.mem_cons.1 hy with rfl | hy
   ·exact kf
   ·rw [List.mem_singleton.1 hy]; exact kt
  ·dsimp only; rw [w1 i0 hi (by omega)]; omega
 refine ob (acI c0 co hv (by omega)) fun q hq=>?_
 refine ol (fun z:List Int×Int=>(0≤z.2∧z.2≤q.length)∧(z.1.length:Int)=z.2∧∀ v∈z.1,v = -1) (fun z=>(q.length - z.2).toNat) ⟨⟨by show (0:Int)≤0; omega,by show (0:Int)≤_; omega⟩,rfl,ei⟩ ?_
 rintro ⟨l1,k⟩ ⟨⟨k0,k1⟩,hl1,P3⟩
 dsimp only at k0 k1 hl1 P3
 show Ok (rH f g false q l1 k) _
 unfold rH
 refine od (fun hk=>dt (by omega) (by omega) ?_) fun hk=>os ⟨rfl,ob (abH T U F G (k:=false) hm 64 ⟨by omega,fun j j0 j1=>Or.inr (Or.inl (P3 _ (dc j0 j1)))⟩ (by have:=RH l1; omega) (by simp; omega) ei) fun y hy=>os ⟨hy.n1,hy.q1⟩⟩
 refine ol (fun z:List Int×Int=>(0≤z.2∧z.2≤q.length)∧(z.1.length:Int)=z.2∧∀ v∈z.1,v = -1∨v = -2) (fun z=>(q.length - z.2).toNat) ⟨⟨by show (0:Int)≤0; omega,by show (0:Int)≤_; omega⟩,rfl,ei⟩ ?_
 rintro ⟨l2,e⟩ ⟨⟨e0,e1⟩,vj,Dl⟩
 dsimp only at e0 e1 vj Dl
 show Ok (rG q k l2 e) _
 unfold rG
 refine od (fun he=>oe (bQ e0 he) (oc (fun _=>dt (by omega) (by omega) (os ⟨⟨⟨?_,?_⟩,?_,ew Dl (by decide)⟩,?_⟩)) fun _=>dt (by omega) (by omega) (os ⟨⟨⟨?_,?_⟩,?_,ew Dl (by decide)⟩,?_⟩))) fun he=>os ⟨rfl,ob (abH T U F G (k:=true) (m:=1) (by omega) 64 ⟨by omega,fun j j0 j1=>Or.inr ((Dl _ (dc j0 j1)).imp id fun h=>⟨h,rfl⟩)⟩ (by have:=RH l2; omega) (by simp) ei) fun y hy=>oc (fun _=>os ⟨by show ((0:Nat):Int)≤m; omega,ei⟩) fun _=>os ⟨⟨⟨?_,?_⟩,?_,ew P3 rfl⟩,?_⟩⟩
 all_goals (try dsimp only)
 all_goals first | rw [w1 e0 he (by omega)] | rw [w1 k0 hk (by omega)]
 all_goals (try simp only [List.length_append,List.length_singleton])
 all_goals omega
end
section
variable {x:List Int} (B:yT x) {s:aJ} (S:Src x s)
include B S
theorem G7 (n:Int):Ok (iA s n) fun y=>Src x y.2:=by
 unfold iA
 exact ie (ob (dk B S _) fun y hy=>oc (fun _=>ob (Rj B (S.on hy.2) (by simp)) fun z hz=>os (S.on hz.2)) fun _=>ob (dk B (S.on hy.2) _) fun z hz=>os (S.on hz.2))
end
theorem Src.G6 {x:List Int} {t:aJ} {h:Int} (T:Src x t):Src x (aJ.mk x t.At h):=⟨rfl,T.a0,T.a1⟩
end Go.Proofs.YtilhlobfebngdaaGreat
