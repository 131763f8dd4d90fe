/- Functors that are looked for in depth: the reference's search does not fail, and finds one where there is one. No condition beside those that each theorem names. -/
import Derived.Test.YtilhlobfebngdaaGreatYi
import Derived.Test.YtilhlobfebngdaaGreatYk
namespace Go.Proofs.YtilhlobfebngdaaGreat
open Go Go.Li
set_option linter.unusedVariables false
set_option linter.unusedSectionVars false
def uk (r:List Int):Nat:=(r.filter fun v=>decide (v < 0)).length
theorem LY {r:List Int} {d:Nat} {v:Int} (hv:0≤v):uk (r.set d v)≤uk r∧(d < r.length→gi r d < 0→uk (r.set d v) < uk r):=by
 unfold uk
 induction r generalizing d with
 | nil=>exact ⟨by simp,fun h=>by simp at h⟩
 | cons a r ih=>
  cases d with
  | zero=>
   have e0:(List.filter (fun v=>decide (v < 0)) (v :: r))=List.filter (fun v=>decide (v < 0)) r:=by rw [List.filter_cons,if_neg (by simp; omega)]
   rw [List.set_cons_zero,e0,List.filter_cons]
   refine ⟨by split <;> simp,fun _ h=>?_⟩
   have h:a < 0:=h
   rw [if_pos (by simpa using h)]; simp
  | succ d=>
   rw [List.set_cons_succ,List.filter_cons,List.filter_cons]
   obtain ⟨h1,h2⟩:=ih (d:=d)
   refine ⟨by split <;> (try simp only [List.length_cons]) <;> omega,fun hl hg=>?_⟩
   have hg:gi r d < 0:=by
    have e:gi (a :: r) ((d+1:Nat):Int)=gi r (d:Int):=rfl
    rwa [e] at hg
   have:=h2 (by simp at hl; omega) hg
   split <;> (try simp only [List.length_cons]) <;> omega
theorem BS {c:aI} (hl:c.To.length=c.aG.length) (hm:c.aG.length≤100000) (x y:Int):Ok (eY c x y) fun l=>l.length≤c.aG.length∧∀ f,f∈l↔(0≤f∧f < c.aG.length)∧gi c.aG f=x∧gi c.To f=y:=by
 unfold eY
 refine gj (ol (fun z:List Int×Int=>(0≤z.2∧z.2≤c.aG.length)∧(z.1.length:Int)≤z.2∧∀ f,f∈z.1↔(0≤f∧f < z.2)∧gi c.aG f=x∧gi c.To f=y) (fun z=>(c.aG.length - z.2).toNat) ⟨⟨by show (0:Int)≤0; omega,by show (0:Int)≤_; omega⟩,by show (0:Int)≤0; omega,fun f=>⟨(fun h=>nomatch h),fun h=>by have:=h.1; omega⟩⟩ ?_)
 rintro ⟨l,i⟩ ⟨⟨i0,i1⟩,EL,wk⟩
 dsimp only at i0 i1 EL wk
 show Ok (iY c x y l i) _
 unfold iY
 refine od (fun hi=>?_) fun hi=>os ⟨rfl,os ⟨by omega,fun f=>(wk f).trans ⟨fun h=>⟨⟨h.1.1,by omega⟩,h.2⟩,fun h=>⟨⟨h.1.1,by omega⟩,h.2⟩⟩⟩⟩
 have hw:=w1 i0 hi (by omega)
 refine oe (x:=(gi c.aG i == x && gi c.To i == y)) (by rw [bS i0 hi,aF,bS i0 (by omega),aF,p9,Es]) (oc (fun eg=>dp (by omega) (by omega) (os ⟨⟨⟨?_,?_⟩,?_,fun f=>?_⟩,?_⟩)) fun eg=>os ⟨⟨⟨?_,?_⟩,?_,fun f=>?_⟩,?_⟩)
 all_goals try dsimp only
 all_goals rw [hw]
 all_goals first | (simp only [List.length_append,List.length_singleton]; omega) | omega | skip
 ·simp only [Bool.and_eq_true,beq_iff_eq] at eg
  rw [List.mem_append,List.mem_singleton,wk f]
  constructor
  ·rintro (h | rfl)
   ·exact ⟨⟨h.1.1,by omega⟩,h.2⟩
   ·exact ⟨⟨i0,by omega⟩,eg⟩
  ·rintro ⟨h,h2⟩
   by_cases e:f=i
   ·exact .inr e
   ·exact .inl ⟨⟨h.1,by omega⟩,h2⟩
 ·rw [wk f]
  constructor
  ·exact fun h=>⟨⟨h.1.1,by omega⟩,h.2⟩
  ·rintro ⟨h,h2⟩
   by_cases e:f=i
   ·subst e
    rw [h2.1,h2.2] at eg
    simp at eg
   ·exact ⟨⟨h.1,by omega⟩,h2⟩
structure PA (c d:aI) (xs ys:List Int):Prop where
 len:ys.length=c.aG.length
 ok:∀ a:Int,0≤a→a < c.aG.length→0≤gi ys a→gi ys a < d.aG.length∧gi d.aG (gi ys a)=gi xs (gi c.aG a)∧gi d.To (gi ys a)=gi xs (gi c.To a)
theorem PA.set {c d:aI} {xs ys:List Int} (P:PA c d xs ys) {a v:Int} (a0:0≤a) (a1:a < c.aG.length) (h:0≤v→v < d.aG.length∧gi d.aG v=gi xs (gi c.aG a)∧gi d.To v=gi xs (gi c.To a)):PA c d xs (ys.set a.toNat v):=by
 have hl:=P.len
 refine ⟨by rw [List.length_set]; exact hl,fun b b0 b1=>?_⟩
 rw [qz a0 (by omega) b0]
 by_cases e:b=a
 ·rw [if_pos e,e]; exact h
 ·rw [if_neg e]; exact P.ok b b0 b1
def Nv (c d:aI) (A:List Int):Prop:=∀ a b:Int,0≤a→a < c.aG.length→0≤b→b < c.aG.length→gi c.To a=gi c.aG b→gi A (gk c.aE a b)=gk d.aE (gi A a) (gi A b)
def B1 (c:aI) (ys A:List Int):Prop:=∀ a:Int,0≤a→a < c.aG.length→0≤gi ys a→gi ys a=gi A a
structure FJ (c d:aI) (xs zw ys:List Int):Prop where
 p:PA c d xs ys
 mono:∀ a:Int,0≤a→0≤gi zw a→gi ys a=gi zw a
 ext:∀ A,Nv c d A→B1 c zw A→B1 c ys A
 ng:uk ys≤uk zw
section
variable {c d:aI} {xs zw ys:List Int} (T:Ty c) (U:Ty d)
include T U
theorem FJ.step (J:FJ c d xs zw ys) {a b:Int} (a0:0≤a) (a1:a < c.aG.length) (b0:0≤b) (b1:b < c.aG.length) (hh:0≤gk c.aE a b) (ha:0≤gi ys a) (hb:0≤gi ys b) :
  gk c.aE a b < c.aG.length∧gi ys a < d.aG.length∧gi ys b < d.aG.length∧
  ((0≤gi ys (gk c.aE a b)→gi ys (gk c.aE a b)=gk d.aE (gi ys a) (gi ys b))→FJ c d xs zw (ys.set (gk c.aE a b).toNat (gk d.aE (gi ys a) (gi ys b)))∧uk (ys.set (gk c.aE a b).toNat (gk d.aE (gi ys a) (gi ys b)))≤uk ys∧(gi ys (gk c.aE a b) < 0→uk (ys.set (gk c.aE a b).toNat (gk d.aE (gi ys a) (gi ys b))) < uk ys))∧
  (0≤gi ys (gk c.aE a b)→gi ys (gk c.aE a b)≠gk d.aE (gi ys a) (gi ys b)→∀ A,Nv c d A→¬ B1 c zw A):=by
 have e:gi c.To a=gi c.aG b:=Classical.byContradiction fun ne=>by
  have:=T.none a b a0 a1 b0 b1 ne
  omega
 have k:=T.cell a b a0 a1 b0 b1 e
 have pa:=J.p.ok a a0 a1 ha
 have pb:=J.p.ok b b0 b1 hb
 have m:=U.cell _ _ ha pa.1 hb pb.1 (by rw [pa.2.2,pb.2.1,e])
 have hl:=J.p.len
 refine ⟨k.1.2,pa.1,pb.1,fun hc=>?_,fun h0 q9 A hA hE=>q9 ?_⟩
 ·have hn:=LY (r:=ys) (d:=(gk c.aE a b).toNat) m.1.1
  refine ⟨⟨J.p.set hh k.1.2 fun _=>⟨m.1.2,by rw [m.2.1,pa.2.1,k.2.1],by rw [m.2.2,pb.2.2,k.2.2]⟩,fun x x0 hx=>?_,fun A hA hE=>?_,by have:=J.ng; omega⟩,hn.1,fun EA=>hn.2 (by omega) (by rw [show (((gk c.aE a b).toNat:Nat):Int)=gk c.aE a b by omega]; exact EA)⟩
  ·have hm:=J.mono x x0 hx
   rw [qz hh (by omega) x0]
   by_cases ex:x=gk c.aE a b
   ·rw [if_pos ex]
    rw [← ex] at hc
    rw [← hc (by omega),hm]
   ·rw [if_neg ex]; exact hm
  ·have Ko:=J.ext A hA hE
   intro x x0 x1 hx
   rw [qz hh (by omega) x0] at hx ⊢
   by_cases ex:x=gk c.aE a b
   ·rw [if_pos ex,ex,hA a b a0 a1 b0 b1 e,← Ko a a0 a1 ha,← Ko b b0 b1 hb]
   ·rw [if_neg ex] at hx ⊢
    exact Ko x x0 x1 hx
 ·have Ko:=J.ext A hA hE
  rw [Ko _ hh k.1.2 h0,hA a b a0 a1 b0 b1 e,← Ko a a0 a1 ha,← Ko b b0 b1 hb]
theorem UX (cm:c.aG.length≤1000) (P:PA c d xs zw):Ok (pC c d zw) fun y=>(y.1=true→FJ c d xs zw y.2)∧(y.1=false→∀ A,Nv c d A→¬ B1 c zw A):=by
 unfold pC
 refine gj (ol (fun z:Bool×List Int=>FJ c d xs zw z.2) (fun z=>(if z.1 then 1 else 0)+uk z.2) ⟨P,fun _ _ _=>rfl,fun _ _ h=>h,Nat.le_refl _⟩ ?_)
 rintro ⟨more,Py⟩ J0
 dsimp only at J0
 show Ok (pQ c d more Py) _
 unfold pQ
 refine oc (fun TU=>?_) fun TU=>os ⟨rfl,os ⟨fun _=>J0,fun h=>by cases h⟩⟩
 subst TU
 refine ol (fun z:Bool×Int×List Int=>(0≤z.2.1∧z.2.1≤c.aG.length)∧FJ c d xs zw z.2.2∧uk z.2.2≤uk Py∧(z.1=true→uk z.2.2 < uk Py)) (fun z=>(c.aG.length - z.2.1).toNat) ⟨⟨by show (0:Int)≤0; omega,by show (0:Int)≤_; omega⟩,J0,Nat.le_refl _,fun h=>by cases h⟩ ?_
 rintro ⟨more,a,ys2⟩ ⟨⟨a0,a1⟩,J1,n1,n2⟩
 dsimp only at a0 a1 J1 n1 n2
 show Ok (pP c d more a ys2) _
 unfold pP
 rw [J1.p.len]
 refine od (fun ha=>?_) fun ha=>os ⟨rfl,os ⟨J1,?_⟩⟩
 ·refine ol (fun z:Bool×Int×List Int=>(0≤z.2.1∧z.2.1≤c.aG.length)∧FJ c d xs zw z.2.2∧uk z.2.2≤uk Py∧(z.1=true→uk z.2.2 < uk Py)) (fun z=>(c.aG.length - z.2.1).toNat) ⟨⟨by show (0:Int)≤0; omega,by show (0:Int)≤_; omega⟩,J1,n1,n2⟩ ?_
  rintro ⟨more,b,Hx⟩ ⟨⟨b0,b1⟩,J2,m1,m2⟩
  dsimp only at b0 b1 J2 m1 m2
  show Ok (pO c d a more b Hx) _
  unfold pO
  rw [J2.p.len]
  have hw:=w1 a0 ha (by omega)
  refine od (fun hb=>?_) fun hb=>os ⟨rfl,os ⟨⟨⟨?_,?_⟩,J2,m1,m2⟩,?_⟩⟩
  ·have hwb:=w1 b0 hb (by omega)
   have hl:=J2.p.len
   refine oe (T.me a0 ha) (oe (T.lv a0 ha b0 hb) ?_)
   have ht:=T.DF a0 ha b0 hb
   refine oe (x:=(decide (gk c.aE a b < 0) || (decide (gi Hx a < 0) || decide (gi Hx b < 0)))) ?_ (oc (fun eg=>os ⟨⟨⟨?_,?_⟩,J2,m1,m2⟩,?_⟩) fun eg=>?_)
   ·rw [bS a0 (by omega),aF,bS b0 (by omega),aF,p9,yn,p9,yn]
   ·dsimp only; omega
   ·dsimp only; omega
   ·dsimp only; omega
   simp only [Bool.or_eq_false_iff,decide_eq_false_iff_not] at eg
   obtain ⟨g1,g2,g3⟩:=eg
   obtain ⟨s1,s2,s3,s4,s5⟩:=J2.step T U a0 ha b0 hb (by omega) (by omega) (by omega)
   refine oe (bS a0 (by omega)) (oe (U.me (by omega) s2) (oe (bS b0 (by omega)) (oe (U.lv (by omega) s2 (by omega) s3) ?_)))
   refine oe (x:=(decide (gi Hx (gk c.aE a b) ≥ 0) && (gi Hx (gk c.aE a b) != gk d.aE (gi Hx a) (gi Hx b)))) ?_ (oc (fun eg=>os ?_) fun eg=>?_)
   ·rw [bS (by omega) (by omega),aF,aF,p9,Es]
   ·simp only [Bool.and_eq_true,decide_eq_true_eq,bne_iff_ne] at eg
    exact ⟨fun h=>(by cases h),fun _=>s5 eg.1 eg.2⟩
   ·obtain ⟨q1,q2,q3⟩:=s4 (fun h=>by
     rw [decide_eq_true (by omega),Bool.true_and] at eg
     simpa using eg)
    refine oe (x:=(more || decide (gi Hx (gk c.aE a b) < 0))) ?_ (oe (bS (by omega) (by omega)) (os ⟨⟨⟨?_,?_⟩,q1,by dsimp only; omega,fun h=>?_⟩,?_⟩))
    ·rw [bS (by omega) (by omega),aF,p9,yn]
    ·dsimp only; omega
    ·dsimp only; omega
    ·dsimp only at h ⊢
     rw [Bool.or_eq_true,decide_eq_true_eq] at h
     rcases h with h | h
     ·have:=m2 h; omega
     ·have:=q3 h; omega
    ·dsimp only; omega
  all_goals dsimp only
  all_goals rw [hw]
  all_goals omega
 ·dsimp only
  cases more with
  | true=>have:=n2 rfl; simp; omega
  | false=>simp; omega
end
structure FT (c d:aI) (O A:List Int):Prop where
 ol:(O.length:Int)=c.aA
 oo:∀ y∈O,0≤y∧y < d.aA
 ar:∀ a:Int,0≤a→a < c.aG.length→(0≤gi A a∧gi A a < d.aG.length)∧gi d.aG (gi A a)=gi O (gi c.aG a)∧gi d.To (gi A a)=gi O (gi c.To a)
 un:∀ x:Int,0≤x→x < c.aA→gi A (gi c.aJ x)=gi d.aJ (gi O x)
 co:Nv c d A
def Full (c d:aI) (xs q:List Int):Prop:=PA c d xs q∧∀ a:Int,0≤a→a < c.aG.length→0≤gi q a
section
variable {c d:aI} {xs:List Int} (T:Ty c) (U:Ty d) (cm:c.aG.length≤1000) (dm:d.aG.length≤1000) (hob:(xs.length:Int)=c.aA) (Oh:∀ y∈xs,0≤y∧y < d.aA)
include T U cm dm hob Oh
theorem Sk (n:Nat):∀ {ys:List Int} {f:Int} {found:List (List Int)} (_:PA c d xs ys) (_:0≤f) (_:f≤c.aG.length) (_:∀ a:Int,0≤a→a < f→0≤gi ys a) (_:uk ys < n) (_:found.length≤200) (_:∀ q∈found,Full c d xs q),
  Ok (iZ n c d xs ys f found) fun y=>found.length≤y.length∧y.length≤201∧(∀ q∈y,Full c d xs q)∧∀ A,FT c d xs A→B1 c ys A→0 < y.length:=by
 induction n with
 | zero=>intro ys f found _ _ _ _ h; omega
 | succ n ih=>
  intro ys f found P f0 f1 Kr hng I0 ew
  show Ok (mC (iZ n) c d xs ys f found) _
  unfold mC
  have hl:=P.len
  refine gj (ol (fun z:Int=>(0≤z∧z≤c.aG.length)∧∀ a:Int,0≤a→a < z→0≤gi ys a) (fun z=>(c.aG.length - z).toNat) ⟨⟨f0,f1⟩,Kr⟩ ?_)
  rintro f ⟨⟨f0,f1⟩,Kr⟩
  unfold sX
  rw [hl]
  refine ob (P:=fun g=>(g=true→f < c.aG.length∧0≤gi ys f)∧(g=false→f < c.aG.length→gi ys f < 0)) (od (fun h=>oe (bS f0 (by omega)) (os ⟨fun h2=>⟨h,of_decide_eq_true h2⟩,fun h2 _=>by have:=of_decide_eq_false h2; omega⟩)) fun h=>os ⟨fun h2=>(by cases h2),fun _ h2=>absurd h2 h⟩) fun g hg=>oc (fun eg=>os ⟨⟨⟨?_,?_⟩,fun a a0 a1=>?_⟩,?_⟩) fun eg=>os ⟨rfl,?_⟩
  ·have:=hg.1 eg; rw [w1 f0 this.1 (by omega)]; omega
  ·have:=hg.1 eg; rw [w1 f0 this.1 (by omega)]; omega
  ·have:=hg.1 eg
   rw [w1 f0 this.1 (by omega)] at a1
   by_cases e:a=f
   ·rw [e]; exact this.2
   ·exact Kr a a0 (by omega)
  ·have:=hg.1 eg; rw [w1 f0 this.1 (by omega)]; dsimp only; omega
  have EA:=hg.2 eg
  refine oc (fun e=>?_) fun e=>?_
  ·have e:f=c.aG.length:=by simpa using e
   refine oe (fc ys (by omega)) (dp (by omega) (by omega) (os ⟨?_,?_,dw ew ⟨P,fun a a0 a1=>Kr a a0 (by omega)⟩,fun A _ _=>?_⟩))
   all_goals simp only [List.length_append,List.length_singleton]
   all_goals omega
  ·have e : ¬ f=c.aG.length:=by simpa using e
   have hf:f < c.aG.length:=by omega
   have EA:=EA hf
   have kf:=T.fr f0 hf
   have kt:=T.to f0 hf
   refine oe (T.iq f0 hf) (oe (bS kf.1 (by omega)) (oe (T.jf f0 hf) (oe (bS kt.1 (by omega)) (ob (BS U.tl (by omega) _ _) fun sa hh=>?_))))
   refine ol (fun z:List (List Int)×Int=>(0≤z.2∧z.2≤sa.length)∧(found.length≤z.1.length∧z.1.length≤201)∧(∀ q∈z.1,Full c d xs q)∧∀ A,FT c d xs A→B1 c ys A→0 < z.1.length∨∀ j:Int,0≤j→j < z.2→gi sa j≠gi A f) (fun z=>(sa.length - z.2).toNat) ⟨⟨by show (0:Int)≤0; omega,by show (0:Int)≤_; omega⟩,⟨Nat.le_refl _,by dsimp only; omega⟩,ew,fun A _ _=>.inr fun j j0 j1=>by dsimp only at j1; omega⟩ ?_
   rintro ⟨fd,i⟩ ⟨⟨i0,i1⟩,⟨h1,h2⟩,h3,h4⟩
   dsimp only at i0 i1 h1 h2 h3 h4
   show Ok (oQ (iZ n) c d xs ys f sa fd i) _
   unfold oQ
   refine ob (P:=fun g=>(g=true→i < sa.length∧fd.length≤200)∧(g=false→sa.length≤i∨200 < fd.length)) (od (fun h=>os ⟨fun h2=>⟨h,by have:=of_decide_eq_true h2; omega⟩,fun h2=>.inr (by have:=of_decide_eq_false h2; omega)⟩) fun h=>os ⟨fun h2=>(by cases h2),fun _=>.inl (by omega)⟩) fun g hg=>oc (fun eg=>?_) fun eg=>os ⟨rfl,os ⟨h1,h2,h3,fun A hA hE=>?_⟩⟩
   ·obtain ⟨hi,TV⟩:=hg.1 eg
    have hw:=w1 i0 hi (by omega)
    have hv:=(hh.2 _).1 (cy i0 hi)
    have P2:PA c d xs (ys.set f.toNat (gi sa i)):=P.set f0 hf fun _=>⟨hv.1.2,hv.2.1,hv.2.2⟩
    refine oe (fc ys (by omega)) (oe (bS i0 hi) (oe (bS f0 (by omega)) (ob (UX T U cm P2) fun y hy=>?_)))
    have hE2:∀ A,B1 c ys A→gi sa i=gi A f→B1 c (ys.set f.toNat (gi sa i)) A:=fun A hE e2 x x0 x1 hx=>by
     rw [qz f0 (by omega) x0] at hx ⊢
     by_cases ex:x=f
     ·rw [if_pos ex,ex]; exact e2
     ·rw [if_neg ex] at hx ⊢; exact hE x x0 x1 hx
    refine oc (fun ey=>?_) fun ey=>os ⟨⟨⟨?_,?_⟩,⟨h1,h2⟩,h3,fun A hA hE=>?_⟩,?_⟩
    ·have J:=hy.1 ey
     have Tb:0≤gi y.2 f:=by
      have h0:gi (ys.set f.toNat (gi sa i)) f=gi sa i:=by rw [qz f0 (by omega) f0,if_pos rfl]
      rw [J.mono f f0 (by rw [h0]; exact hv.1.1),h0]; exact hv.1.1
     have Tn:=(LY (r:=ys) (d:=f.toNat) hv.1.1).2 (by omega) (by rw [show ((f.toNat:Nat):Int)=f by omega]; exact EA)
     have hn3:=J.ng
     have hwf:=w1 f0 hf (by omega)
     rw [hwf]
     refine ob (ih J.p (by omega) (by omega) (fun a a0 a1=>?_) (by omega) TV h3) fun z hz=>os ⟨⟨⟨?_,?_⟩,⟨?_,hz.2.1⟩,hz.2.2.1,fun A hA hE=>?_⟩,?_⟩
     ·by_cases ea:a=f
      ·rw [ea]; exact Tb
      ·have:=Kr a a0 (by omega)
       have hs:gi (ys.set f.toNat (gi sa i)) a=gi ys a:=by rw [qz f0 (by omega) a0,if_neg ea]
       rw [J.mono a a0 (by rw [hs]; exact this),hs]; exact this
     ·dsimp only; rw [hw]; omega
     ·dsimp only; rw [hw]; omega
     ·dsimp only; have:=hz.1; omega
     ·dsimp only
      by_cases e2:gi sa i=gi A f
      ·exact .inl (hz.2.2.2 A hA (J.ext A hA.co (hE2 A hE e2)))
      ·rcases h4 A hA hE with h | h
       ·exact .inl (by have:=hz.1; omega)
       ·refine .inr fun j j0 j1=>?_
        rw [hw] at j1
        by_cases ej:j=i
        ·rw [ej]; exact e2
        ·exact h j j0 (by omega)
     ·dsimp only; rw [hw]; omega
    ·dsimp only; rw [hw]; omega
    ·dsimp only; rw [hw]; omega
    ·dsimp only
     rcases h4 A hA hE with h | h
     ·exact .inl h
     ·refine .inr fun j j0 j1=>?_
      rw [hw] at j1
      by_cases ej:j=i
      ·rw [ej]
       exact fun e2=>hy.2 ey A hA.co (hE2 A hE e2)
      ·exact h j j0 (by omega)
    ·dsimp only; rw [hw]; omega
   ·try dsimp only
    rcases hg.2 eg with h | h
    ·rcases h4 A hA hE with h5 | h5
     ·exact h5
     ·exfalso
      have ka:=hA.ar f f0 hf
      obtain ⟨j,j0,j1,ej⟩:=mb ((hh.2 (gi A f)).2 ⟨ka.1,ka.2.1,ka.2.2⟩)
      exact h5 j j0 (by omega) ej
    ·omega
end
end Go.Proofs.YtilhlobfebngdaaGreat
namespace Go.Proofs.YtilhlobfebngdaaGreat
open Go Go.Li
set_option linter.unusedVariables false
set_option linter.unusedSectionVars false
structure Dd (xs O:List Int):Prop where
 l:xs.length≤O.length
 g:∀ x:Int,0≤x→x < xs.length→gi O x=gi xs x
theorem Dd.app {xs O:List Int} (h:Dd xs O) (hl:xs.length < O.length):Dd (xs++[gi O xs.length]) O:=by
 refine ⟨by simp only [List.length_append,List.length_singleton]; omega,fun x x0 x1=>?_⟩
 simp only [List.length_append,List.length_singleton] at x1
 rw [ks x0]
 by_cases e:x < xs.length
 ·rw [if_pos e]; exact h.g x x0 e
 ·rw [if_neg e,if_pos (by omega),show x=(xs.length:Int) by omega]
theorem Dd.all {xs O:List Int} (h:Dd xs O) (e:O.length=xs.length):O=xs:=Yw e h.g
structure T7 (c:aI):Prop where
 t:Ty c
 m:c.aG.length≤63
 o:c.aA≤63
 s:gq c
structure FF (c d:aI) (f:aQ):Prop where
 s:f.aB=c
 t:f.aH=d
 ol:(f.aA.length:Int)=c.aA
 oo:∀ y∈f.aA,0≤y∧y < d.aA
 ar:Full c d f.aA f.ab
theorem FT.full {c d:aI} {O A:List Int} (h:FT c d O A) (e:A.length=c.aG.length):Full c d O A:=⟨⟨e,fun a a0 a1 _=>⟨(h.ar a a0 a1).1.2,(h.ar a a0 a1).2⟩⟩,fun a a0 a1=>(h.ar a a0 a1).1.1⟩
theorem YX (r:List Int):uk r≤r.length:=List.length_filter_le _ _
section
variable {c d:aI} (T:T7 c) (U:T7 d)
include T U
theorem FF.small {f:aQ} (F:FF c d f):j6 f:=⟨F.s ▸ T.s,F.t ▸ U.s,by have:=F.ol; have:=T.o; omega,by have:=F.ar.1.len; have:=T.m; omega⟩
theorem UY (xs:List Int):Ok (pB c d xs) fun b=>∀ O A,FT c d O A→Dd xs O→b=true:=by
 have cm:=T.m
 have dm:=U.m
 unfold pB
 refine gj (ol (fun z:Int=>0≤z∧z≤c.aG.length) (fun z=>(c.aG.length - z).toNat) ⟨by omega,by omega⟩ ?_)
 rintro i ⟨i0,i1⟩
 unfold tD
 refine od (fun hi=>?_) fun hi=>os ⟨rfl,os fun _ _ _ _=>rfl⟩
 have hw:=w1 i0 hi (by omega)
 have kf:=T.t.fr i0 hi
 have kt:=T.t.to i0 hi
 have nx:∀ {E:Int→Prop} {G:Bool→Prop},Ok (some (Out.norm (ao (i+1)):Out Int Bool)) (Hj 0 (fun z:Int=>0≤z∧z≤c.aG.length) (fun z=>(c.aG.length - z).toNat) (c.aG.length - i).toNat E G):=by
  intro E G
  refine os ⟨⟨?_,?_⟩,?_⟩
  all_goals (try dsimp only)
  all_goals rw [hw]
  all_goals omega
 refine oe (T.t.iq i0 hi) (oe (T.t.jf i0 hi) (od (fun hx=>od (fun hy=>oe (bS kf.1 hx) (oe (bS kt.1 hy) (ob (BS U.t.tl (by omega) _ _) fun sa hh=>oc (fun e=>os ?_) fun e=>nx))) fun _=>nx) fun _=>nx))
 intro O A hA hp
 exfalso
 have e:sa.length=0:=by
  have:=of_decide_eq_true e
  omega
 have ka:=hA.ar i i0 hi
 have:=(hh.2 (gi A i)).2 ⟨ka.1,by rw [ka.2.1,hp.g _ kf.1 hx],by rw [ka.2.2,hp.g _ kt.1 hy]⟩
 rw [List.length_eq_zero_iff.1 e] at this
 exact nomatch this
theorem Sl (n:Nat):∀ {xs:List Int} {found:List aQ} (_:(xs.length:Int)≤c.aA) (_:∀ y∈xs,0≤y∧y < d.aA) (_:c.aA - xs.length < n) (_:found.length≤200) (_:∀ q∈found,FF c d q),
  Ok (jA n c d xs found) fun y=>(found.length≤y.length∧y.length≤201)∧(∀ q∈y,FF c d q)∧∀ O A,FT c d O A→Dd xs O→0 < y.length:=by
 have cm:=T.m
 have dm:=U.m
 have co:=T.o
 have d8:=U.o
 induction n with
 | zero=>intro xs found h1 _ h2; omega
 | succ n ih=>
  intro xs found hl ho hn I0 ew
  show Ok (mD (jA n) c d xs found) _
  unfold mD
  refine gj (ob (UY T U xs) fun b hb=>oc (fun e=>os ⟨⟨Nat.le_refl _,by omega⟩,ew,fun O A hA hp=>?_⟩) fun e=>oc (fun e2=>?_) fun e2=>?_)
  ·rw [hb O A hA hp] at e; cases e
  ·have e2:(xs.length:Int)=c.aA:=by simpa using e2
   refine ol (fun z:List Int×Int=>(0≤z.2∧z.2≤c.aG.length)∧(z.1.length:Int)=z.2∧∀ v∈z.1,v = -1) (fun z=>(c.aG.length - z.2).toNat) ⟨⟨by show (0:Int)≤0; omega,by show (0:Int)≤_; omega⟩,rfl,du⟩ ?_
   rintro ⟨l,i⟩ ⟨⟨i0,i1⟩,CH,hv⟩
   dsimp only at i0 i1 CH hv
   show Ok (oR c l i) _
   unfold oR
   refine od (fun hi=>dp (by omega) (by omega) (os ⟨⟨⟨?_,?_⟩,?_,dw hv rfl⟩,?_⟩)) fun hi=>os ⟨rfl,?_⟩
   ·dsimp only; rw [w1 i0 hi (by omega)]; omega
   ·dsimp only; rw [w1 i0 hi (by omega)]; omega
   ·dsimp only; rw [w1 i0 hi (by omega),List.length_append,List.length_singleton]; omega
   ·dsimp only; rw [w1 i0 hi (by omega)]; omega
   have P0:PA c d xs l:=⟨by omega,fun a a0 a1 h=>by rw [hv _ (cy a0 (by omega))] at h; omega⟩
   refine ol (fun z:Int×List Int=>(0≤z.1∧z.1≤xs.length)∧PA c d xs z.2∧∀ A,FT c d xs A→B1 c z.2 A) (fun z=>(xs.length - z.1).toNat) ⟨⟨by show (0:Int)≤0; omega,by show (0:Int)≤_; omega⟩,P0,fun A hA a a0 a1 h=>by dsimp only at h; rw [hv _ (cy a0 (by omega))] at h; omega⟩ ?_
   rintro ⟨j,ys⟩ ⟨⟨j0,j1⟩,P,hE⟩
   dsimp only at j0 j1 P hE
   have hpl:=P.len
   show Ok (oS c d xs j ys) _
   unfold oS
   refine od (fun hj=>?_) fun hj=>os ⟨rfl,?_⟩
   ·have kx:=ho _ (cy j0 hj)
    have ki:=T.t.id j0 (by omega)
    have ku:=U.t.id kx.1 kx.2
    refine oe (T.t.nh j0 (by omega)) (oe (bS j0 hj) (oe (U.t.nh kx.1 kx.2) (oe (bS ki.1 (by omega)) (os ⟨⟨⟨?_,?_⟩,P.set ki.1 ki.2 fun _=>⟨ku.2,?_,?_⟩,fun A hA a a0 a1 h=>?_⟩,?_⟩))))
    ·dsimp only; rw [w1 j0 hj (by omega)]; omega
    ·dsimp only; rw [w1 j0 hj (by omega)]; omega
    ·rw [U.t.xu _ kx.1 kx.2,T.t.xu _ j0 (by omega)]
    ·rw [U.t.xS _ kx.1 kx.2,T.t.xS _ j0 (by omega)]
    ·dsimp only at h ⊢
     rw [qz ki.1 (by omega) a0] at h ⊢
     by_cases ea:a=gi c.aJ j
     ·rw [if_pos ea,ea,hA.un j j0 (by omega)]
     ·rw [if_neg ea] at h ⊢
      exact hE A hA a a0 a1 h
    ·dsimp only; rw [w1 j0 hj (by omega)]; omega
   ·refine ob (Sk T.t U.t (by omega) (by omega) e2 ho 64 P (by omega) (by omega) (fun a a0 a1=>by omega) (by have:=YX ys; omega) (by simp) du) fun y hy=>?_
    have CI:=hy.2.1
    refine ol (fun z:List aQ×Int=>(0≤z.2∧z.2≤y.length)∧(found.length≤z.1.length∧z.1.length≤201)∧(∀ q∈z.1,FF c d q)∧(0 < z.2→0 < z.1.length)) (fun z=>(y.length - z.2).toNat) ⟨⟨by show (0:Int)≤0; omega,by show (0:Int)≤_; omega⟩,⟨Nat.le_refl _,by dsimp only; omega⟩,ew,fun h=>by dsimp only at h; omega⟩ ?_
    rintro ⟨fd,k⟩ ⟨⟨k0,k1⟩,⟨h1,h2⟩,h3,h4⟩
    dsimp only at k0 k1 h1 h2 h3 h4
    show Ok (oT c d xs y fd k) _
    unfold oT
    refine ob (P:=fun g=>(g=true→k < y.length∧fd.length≤200)∧(g=false→y.length≤k∨200 < fd.length)) (od (fun h=>os ⟨fun h2=>⟨h,by have:=of_decide_eq_true h2; omega⟩,fun h2=>.inr (by have:=of_decide_eq_false h2; omega)⟩) fun h=>os ⟨fun h2=>(by cases h2),fun _=>.inl (by omega)⟩) fun g hg=>oc (fun eg=>?_) fun eg=>os ⟨rfl,os ⟨⟨h1,h2⟩,h3,fun O A hA hp=>?_⟩⟩
    ·obtain ⟨hk,TV⟩:=hg.1 eg
     refine oi k0 hk fun q hq=>oe (mr T.s U.s (by omega) (by have:=(hy.2.2.1 q hq).1.len; omega)) (dp (by omega) (by omega) (os ⟨⟨⟨?_,?_⟩,⟨?_,?_⟩,dw h3 ⟨rfl,rfl,e2,ho,hy.2.2.1 q hq⟩,fun _=>?_⟩,?_⟩))
     all_goals (try dsimp only)
     all_goals (try rw [w1 k0 hk (by omega)])
     all_goals (try simp only [List.length_append,List.length_singleton])
     all_goals omega
    ·have eO:O=xs:=hp.all (by have:=hA.ol; omega)
     rw [eO] at hA
     have h5:=hy.2.2.2 A hA (hE A hA)
     show 0 < fd.length
     rcases hg.2 eg with h | h
     ·exact h4 (by omega)
     ·omega
  ·have e2 : ¬ (xs.length:Int)=c.aA:=by simpa using e2
   have d0:=U.t.o0
   refine ol (fun z:List aQ×Int=>(0≤z.2∧z.2≤d.aA)∧(found.length≤z.1.length∧z.1.length≤201)∧(∀ q∈z.1,FF c d q)∧∀ O A,FT c d O A→Dd xs O→0 < z.1.length∨∀ j:Int,0≤j→j < z.2→gi O xs.length≠j) (fun z=>(d.aA - z.2).toNat) ⟨⟨by show (0:Int)≤0; omega,by show (0:Int)≤_; omega⟩,⟨Nat.le_refl _,by dsimp only; omega⟩,ew,fun O A _ _=>.inr fun j j0 j1=>by dsimp only at j1; omega⟩ ?_
   rintro ⟨fd,k⟩ ⟨⟨k0,k1⟩,⟨h1,h2⟩,h3,h4⟩
   dsimp only at k0 k1 h1 h2 h3 h4
   show Ok (oU (jA n) c d xs fd k) _
   unfold oU
   refine ob (P:=fun g=>(g=true→k < d.aA∧fd.length≤200)∧(g=false→d.aA≤k∨200 < fd.length)) (od (fun h=>os ⟨fun h2=>⟨h,by have:=of_decide_eq_true h2; omega⟩,fun h2=>.inr (by have:=of_decide_eq_false h2; omega)⟩) fun h=>os ⟨fun h2=>(by cases h2),fun _=>.inl (by omega)⟩) fun g hg=>oc (fun eg=>?_) fun eg=>os ⟨rfl,os ⟨⟨h1,h2⟩,h3,fun O A hA hp=>?_⟩⟩
   ·obtain ⟨hk,TV⟩:=hg.1 eg
    have hw:=w1 k0 hk (by omega)
    refine oe (fc xs (by omega)) (dp (by omega) (by omega) (ob (ih (xs:=xs++[k]) (found:=fd) (by rw [List.length_append,List.length_singleton]; omega) (dw ho ⟨k0,hk⟩) (by rw [List.length_append,List.length_singleton]; omega) TV h3) fun z hz=>os ⟨⟨⟨?_,?_⟩,⟨?_,hz.1.2⟩,hz.2.1,fun O A hA hp=>?_⟩,?_⟩))
    ·dsimp only; rw [hw]; omega
    ·dsimp only; rw [hw]; omega
    ·dsimp only; have:=hz.1.1; omega
    ·dsimp only
     by_cases e3:gi O xs.length=k
     ·refine .inl (hz.2.2 O A hA ?_)
      have:=hp.app (by have:=hA.ol; omega)
      rwa [e3] at this
     ·rcases h4 O A hA hp with h | h
      ·exact .inl (by have:=hz.1.1; omega)
      ·refine .inr fun j j0 j1=>?_
       rw [hw] at j1
       by_cases ej:j=k
       ·rw [ej]; exact e3
       ·exact h j j0 (by omega)
    ·dsimp only; rw [hw]; omega
   ·show 0 < fd.length
    rcases hg.2 eg with h | h
    ·rcases h4 O A hA hp with h5 | h5
     ·exact h5
     ·exfalso
      have kb:=hA.oo _ (cy (l:=O) (j:=xs.length) (by omega) (by have:=hA.ol; omega))
      exact h5 _ kb.1 (by omega) rfl
    ·omega
theorem Nj:Ok (lM c d) fun y=>y.length≤201∧(∀ q∈y,FF c d q)∧∀ O A,FT c d O A→0 < y.length:=by
 unfold lM
 have o0:=T.t.o0
 have co:=T.o
 refine gj (ob (Sl T U 64 (xs:=[]) (found:=[]) (by simpa using o0) du (by simp; omega) (by simp) du) fun y hy=>os ⟨hy.1.2,hy.2.1,fun O A hA=>hy.2.2 O A hA ⟨by simp,fun x x0 x1=>by simp at x1; omega⟩⟩)
omit U in
theorem Sm:Ok (oE c) fun _=>True:=by
 have cm:=T.m
 unfold oE
 refine gj (ol (fun z:List Int×Int=>(0≤z.2∧z.2≤c.aG.length)∧(z.1.length:Int)≤z.2) (fun z=>(c.aG.length - z.2).toNat) ⟨⟨by show (0:Int)≤0; omega,by show (0:Int)≤_; omega⟩,by show (0:Int)≤0; omega⟩ ?_)
 rintro ⟨l,i⟩ ⟨⟨i0,i1⟩,hl⟩
 dsimp only at i0 i1 hl
 show Ok (oV c l i) _
 unfold oV
 refine od (fun hi=>?_) fun hi=>os ⟨rfl,os trivial⟩
 have kf:=T.t.fr i0 hi
 have u:Ok (gF c i) fun _=>True:=by
  unfold gF
  exact gj (oe (T.t.iq i0 hi) (oe (T.t.nh kf.1 kf.2) (os trivial)))
 refine ob u fun b _=>oc (fun _=>dp (by omega) (by omega) (os ⟨⟨⟨?_,?_⟩,?_⟩,?_⟩)) fun _=>os ⟨⟨⟨?_,?_⟩,?_⟩,?_⟩
 all_goals (try dsimp only)
 all_goals rw [w1 i0 hi (by omega)]
 all_goals (try simp only [List.length_append,List.length_singleton])
 all_goals omega
theorem UZ:Ok (mV c d) fun _=>True:=by
 unfold mV
 exact gj (ob (Sm T) fun y _=>od (fun _=>os trivial) fun _=>os trivial)
theorem FQ {v:Int} (v0:0≤v) (v1:v < d.aA):Ok (kP c d v) fun f=>FF c d f∧FT c d f.aA f.ab:=by
 unfold kP
 have c0:=T.t.o0
 have cm:=T.m
 have co:=T.o
 have ki:=U.t.id v0 v1
 refine gj (ol (fun z:List Int×Int=>(0≤z.2∧z.2≤c.aA)∧(z.1.length:Int)=z.2∧∀ y∈z.1,y=v) (fun z=>(c.aA - z.2).toNat) ⟨⟨by show (0:Int)≤0; omega,by show (0:Int)≤_; omega⟩,rfl,du⟩ ?_)
 rintro ⟨l,i⟩ ⟨⟨i0,i1⟩,hl,hv⟩
 dsimp only at i0 i1 hl hv
 show Ok (mZ c v l i) _
 unfold mZ
 refine od (fun hi=>dp (by omega) (by omega) (os ⟨⟨⟨?_,?_⟩,?_,dw hv rfl⟩,?_⟩)) fun hi=>os ⟨rfl,?_⟩
 ·dsimp only; rw [w1 i0 hi (by omega)]; omega
 ·dsimp only; rw [w1 i0 hi (by omega)]; omega
 ·dsimp only; rw [w1 i0 hi (by omega),List.length_append,List.length_singleton]; omega
 ·dsimp only; rw [w1 i0 hi (by omega)]; omega
 refine ol (fun z:List Int×Int=>(0≤z.2∧z.2≤c.aG.length)∧(z.1.length:Int)=z.2∧∀ y∈z.1,y=gi d.aJ v) (fun z=>(c.aG.length - z.2).toNat) ⟨⟨by show (0:Int)≤0; omega,by show (0:Int)≤_; omega⟩,rfl,du⟩ ?_
 rintro ⟨m,j⟩ ⟨⟨j0,j1⟩,hm,Ce⟩
 dsimp only at j0 j1 hm Ce
 show Ok (nA c d v m j) _
 unfold nA
 refine od (fun hj=>oe (U.t.nh v0 v1) (dp (by omega) (by omega) (os ⟨⟨⟨?_,?_⟩,?_,dw Ce rfl⟩,?_⟩))) fun hj=>os ⟨rfl,oe (mr T.s U.s (by omega) (by omega)) (os ?_)⟩
 ·dsimp only; rw [w1 j0 hj (by omega)]; omega
 ·dsimp only; rw [w1 j0 hj (by omega)]; omega
 ·dsimp only; rw [w1 j0 hj (by omega),List.length_append,List.length_singleton]; omega
 ·dsimp only; rw [w1 j0 hj (by omega)]; omega
 have lo:∀ x:Int,0≤x→x < c.aA→gi l x=v:=fun x x0 x1=>hv _ (cy x0 (by omega))
 have la:∀ a:Int,0≤a→a < c.aG.length→gi m a=gi d.aJ v:=fun x x0 x1=>Ce _ (cy x0 (by omega))
 have oo:∀ y∈l,0≤y∧y < d.aA:=fun y hy=>by rw [hv y hy]; exact ⟨v0,v1⟩
 have H:FT c d l m:=by
  refine ⟨by omega,oo,fun a a0 a1=>?_,fun x x0 x1=>?_,fun a b a0 a1 b0 b1 e=>?_⟩
  ·rw [la a a0 a1]
   exact ⟨ki,by rw [U.t.xu _ v0 v1,lo _ (T.t.fr a0 a1).1 (T.t.fr a0 a1).2],by rw [U.t.xS _ v0 v1,lo _ (T.t.to a0 a1).1 (T.t.to a0 a1).2]⟩
  ·rw [la _ (T.t.id x0 x1).1 (T.t.id x0 x1).2,lo x x0 x1]
  ·have k:=T.t.cell a b a0 a1 b0 b1 e
   rw [la _ k.1.1 k.1.2,la a a0 a1,la b b0 b1]
   exact (U.t.uu v v0 v1).symm
 exact ⟨⟨rfl,rfl,H.ol,oo,H.full (by omega)⟩,H⟩
omit U in
theorem xy:Ok (eK c) fun f=>FF c c f∧FT c c f.aA f.ab:=by
 unfold eK
 have c0:=T.t.o0
 have cm:=T.m
 have co:=T.o
 refine gj (ol (fun z:List Int×Int=>(0≤z.2∧z.2≤c.aA)∧(z.1.length:Int)=z.2∧∀ j:Int,0≤j→j < z.2→gi z.1 j=j) (fun z=>(c.aA - z.2).toNat) ⟨⟨by show (0:Int)≤0; omega,by show (0:Int)≤_; omega⟩,rfl,fun j j0 j1=>by dsimp only at j1; omega⟩ ?_)
 rintro ⟨l,i⟩ ⟨⟨i0,i1⟩,hl,hv⟩
 dsimp only at i0 i1 hl hv
 show Ok (eZ c l i) _
 unfold eZ
 refine od (fun hi=>dp (by omega) (by omega) (os ⟨⟨⟨?_,?_⟩,?_,fun j j0 j1=>?_⟩,?_⟩)) fun hi=>os ⟨rfl,?_⟩
 ·dsimp only; rw [w1 i0 hi (by omega)]; omega
 ·dsimp only; rw [w1 i0 hi (by omega)]; omega
 ·dsimp only; rw [w1 i0 hi (by omega),List.length_append,List.length_singleton]; omega
 ·dsimp only at j1 ⊢
  rw [w1 i0 hi (by omega)] at j1
  rw [ks j0]
  by_cases e:j < l.length
  ·rw [if_pos e]; exact hv j j0 (by omega)
  ·rw [if_neg e,if_pos (by omega)]; omega
 ·dsimp only; rw [w1 i0 hi (by omega)]; omega
 refine ol (fun z:List Int×Int=>(0≤z.2∧z.2≤c.aG.length)∧(z.1.length:Int)=z.2∧∀ j:Int,0≤j→j < z.2→gi z.1 j=j) (fun z=>(c.aG.length - z.2).toNat) ⟨⟨by show (0:Int)≤0; omega,by show (0:Int)≤_; omega⟩,rfl,fun j j0 j1=>by dsimp only at j1; omega⟩ ?_
 rintro ⟨m,j⟩ ⟨⟨j0,j1⟩,hm,Ce⟩
 dsimp only at j0 j1 hm Ce
 show Ok (fA c m j) _
 unfold fA
 refine od (fun hj=>dp (by omega) (by omega) (os ⟨⟨⟨?_,?_⟩,?_,fun q q0 q1=>?_⟩,?_⟩)) fun hj=>os ⟨rfl,oe (mr T.s T.s (by omega) (by omega)) (os ?_)⟩
 ·dsimp only; rw [w1 j0 hj (by omega)]; omega
 ·dsimp only; rw [w1 j0 hj (by omega)]; omega
 ·dsimp only; rw [w1 j0 hj (by omega),List.length_append,List.length_singleton]; omega
 ·dsimp only at q1 ⊢
  rw [w1 j0 hj (by omega)] at q1
  rw [ks q0]
  by_cases e:q < m.length
  ·rw [if_pos e]; exact Ce q q0 (by omega)
  ·rw [if_neg e,if_pos (by omega)]; omega
 ·dsimp only; rw [w1 j0 hj (by omega)]; omega
 have lo:∀ x:Int,0≤x→x < c.aA→gi l x=x:=fun x x0 x1=>hv _ x0 (by omega)
 have la:∀ a:Int,0≤a→a < c.aG.length→gi m a=a:=fun x x0 x1=>Ce _ x0 (by omega)
 have oo:∀ y∈l,0≤y∧y < c.aA:=fun y hy=>by
  obtain ⟨i,i0,i1,rfl⟩:=mb hy
  rw [lo i i0 (by omega)]; omega
 have H:FT c c l m:=by
  refine ⟨by omega,oo,fun a a0 a1=>?_,fun x x0 x1=>?_,fun a b a0 a1 b0 b1 e=>?_⟩
  ·rw [la a a0 a1]
   exact ⟨⟨a0,a1⟩,by rw [lo _ (T.t.fr a0 a1).1 (T.t.fr a0 a1).2],by rw [lo _ (T.t.to a0 a1).1 (T.t.to a0 a1).2]⟩
  ·rw [la _ (T.t.id x0 x1).1 (T.t.id x0 x1).2,lo x x0 x1]
  ·have k:=T.t.cell a b a0 a1 b0 b1 e
   rw [la _ k.1.1 k.1.2,la a a0 a1,la b b0 b1]
 exact ⟨⟨rfl,rfl,H.ol,oo,H.full (by omega)⟩,H⟩
end
def N7 (c d:aI):Prop:=∀ l,mV c d=some true→lM c d=some l→0 < l.length
theorem DH {c d:aI} {O A:List Int} (T:T7 c) (U:T7 d) (h:FT c d O A):N7 c d:=by
 intro l _ e
 obtain ⟨l',e',h'⟩:=Nj T U
 rw [e] at e'
 cases e'
 exact h'.2.2 O A h
theorem yo {y:aI} {o m:Int} (h:j3 8 800 y∧Ty y∧((y.aA≤o∧(y.aG.length:Int)≤m)∨j3 1 4 y)) (ho:o≤63) (hm:m≤63):T7 y:=by
 refine ⟨h.2.1,?_,?_,h.1.small (by omega) (by omega)⟩
 ·rcases h.2.2 with h | h
  ·omega
  ·have:=h.m; omega
 ·rcases h.2.2 with h | h
  ·omega
  ·have:=h.o; omega
section
variable {x:List Int} (B:xU x) {s:aK} (S:Src x s)
include B S
theorem TB {c:aI} (T:T7 c) {o m:Int} (ho:o≤63) (hm:m≤63):Ok (nP s c o m) fun y=>(∃ d,T7 d∧FF c d y.1∧N7 c d)∧Src x y.2:=by
 unfold nP
 refine gj (ob (AT B S o m) fun y hy=>?_)
 have U:T7 y.1:=yo hy.1 ho hm
 have S1:=S.on (h:=y.2.av) hy.2
 obtain ⟨b,eb,_⟩:=UZ T U
 refine oe eb (oc (fun hb=>?_) fun _=>?_)
 ·obtain ⟨l,el,hl⟩:=Nj T U
  refine oe el (od (fun h0=>ob (dn B S1 _) fun z hz=>oi hz.1.1 (hz.1.2 (by omega)) fun f hf=>os ⟨⟨y.1,U,hl.2.1 f hf,fun l' _ e'=>by rw [el] at e'; cases e'; omega⟩,S.on hz.2⟩) fun _=>?_)
  exact od (fun ho=>ob (dn B S1 _) fun z hz=>oc (fun _=>ob (dn B (S.on hz.2) _) fun w hw=>ob (FQ T U hw.1.1 (hw.1.2 (by omega))) fun f hf=>os ⟨⟨y.1,U,hf.1,DH T U hf.2⟩,S.on hw.2⟩) fun _=>ob (xy T) fun f hf=>os ⟨⟨c,T,hf.1,DH T T hf.2⟩,S.on hz.2⟩) fun _=>ob (xy T) fun f hf=>os ⟨⟨c,T,hf.1,DH T T hf.2⟩,S1⟩
 ·exact od (fun ho=>ob (dn B S1 _) fun z hz=>oc (fun _=>ob (dn B (S.on hz.2) _) fun w hw=>ob (FQ T U hw.1.1 (hw.1.2 (by omega))) fun f hf=>os ⟨⟨y.1,U,hf.1,DH T U hf.2⟩,S.on hw.2⟩) fun _=>ob (xy T) fun f hf=>os ⟨⟨c,T,hf.1,DH T T hf.2⟩,S.on hz.2⟩) fun _=>ob (xy T) fun f hf=>os ⟨⟨c,T,hf.1,DH T T hf.2⟩,S1⟩
theorem US:Ok (qV s) fun y=>j6 y.1∧Src x y.2:=by
 unfold qV
 refine gj (ob (AT B S 4 10) fun y hy=>?_)
 have T:T7 y.1:=yo hy.1 (by omega) (by omega)
 refine ob (TB B (S.on hy.2) T (by omega) (by omega)) fun z hz=>?_
 obtain ⟨⟨d,U,F,_⟩,S2⟩:=hz
 have fs:j6 z.1:=F.small T U
 have gu:=F.ol
 have co:=T.o
 refine ob (dn B (S.on S2) _) fun w hw=>oc (fun _=>?_) fun _=>oc (fun _=>?_) fun _=>oc (fun _=>?_) fun _=>os ⟨fs,S.on hw.2⟩
 ·exact ob (Ys B (S.on hw.2) (c:=z.1.aB) (by rw [F.s]; exact hy.1.1)) fun u hu=>os ⟨⟨hu.1,fs.t,fs.o,fs.a⟩,S.on hu.2⟩
 ·refine od (fun h=>ob (dn B (S.on hw.2) _) fun u hu=>ob (dn B (S.on hu.2) _) fun v hv=>oe (bS hu.1.1 (hu.1.2 (by omega))) (os ⟨⟨fs.s,fs.t,fs.o,?_⟩,S.on hv.2⟩)) fun _=>os ⟨fs,S.on hw.2⟩
  show (List.set _ _ _).length≤_
  rw [List.length_set]; exact fs.a
 ·refine dp (by omega) (by omega) (os ⟨⟨fs.s,fs.t,?_,fs.a⟩,S.on hw.2⟩)
  show (z.1.aA++[(0:Int)]).length≤_
  rw [List.length_append,List.length_singleton]; omega
end
end Go.Proofs.YtilhlobfebngdaaGreat
namespace Go.Proofs.YtilhlobfebngdaaGreat
open Go Go.Li
set_option linter.unusedVariables false
set_option linter.unusedSectionVars false
theorem ZX {n:Int} (n0:0≤n) (n1:n≤63) {rs:List (List Int)} (hr:∀ r∈rs,r.length=2∧∀ y∈r,0≤y∧y < n) (hl:rs.length≤1000):Ok (qJ n rs) fun q=>(q.length:Int)=n:=by
 unfold qJ
 refine gj (ol (fun z:List Int×Int=>(0≤z.2∧z.2≤n)∧(z.1.length:Int)=z.2) (fun z=>(n - z.2).toNat) ⟨⟨by show (0:Int)≤0; omega,by show (0:Int)≤_; omega⟩,rfl⟩ ?_)
 rintro ⟨l,i⟩ ⟨⟨i0,i1⟩,CH⟩
 dsimp only at i0 i1 CH
 show Ok (qG n l i) _
 unfold qG
 refine od (fun hi=>dp (by omega) (by omega) (os ⟨⟨⟨?_,?_⟩,?_⟩,?_⟩)) fun hi=>os ⟨rfl,?_⟩
 ·dsimp only; rw [w1 i0 hi (by omega)]; omega
 ·dsimp only; rw [w1 i0 hi (by omega)]; omega
 ·dsimp only; rw [w1 i0 hi (by omega),List.length_append,List.length_singleton]; omega
 ·dsimp only; rw [w1 i0 hi (by omega)]; omega
 refine ol (fun z:Int×List Int=>(0≤z.1∧z.1≤rs.length)∧(z.2.length:Int)=n) (fun z=>(rs.length - z.1).toNat) ⟨⟨by show (0:Int)≤0; omega,by show (0:Int)≤_; omega⟩,by dsimp only; omega⟩ ?_
 rintro ⟨j,ys⟩ ⟨⟨j0,j1⟩,hy⟩
 dsimp only at j0 j1 hy
 show Ok (qI rs j ys) _
 unfold qI
 refine od (fun hj=>?_) fun hj=>os ⟨rfl,ob (Nr (by omega)) fun q hq=>os (by show (q.length:Int)=n; have:=hq.1; omega)⟩
 have hw:=w1 j0 hj (by omega)
 have hrr:=hr _ (kq j0 hj)
 have k0:=hrr.2 _ (cy (l:=gr rs j) (j:=0) (by omega) (by omega))
 have k1:=hrr.2 _ (cy (l:=gr rs j) (j:=1) (by omega) (by omega))
 refine oe (jz j0 hj) (oe (bS (by omega) (by omega)) (oe (bS k0.1 (by omega)) (oe (jz j0 hj) (oe (bS (by omega) (by omega)) (oe (bS k1.1 (by omega)) ?_)))))
 refine ol (fun z:Int×List Int=>(0≤z.1∧z.1≤z.2.length)∧(z.2.length:Int)=n) (fun z=>(z.2.length - z.1).toNat) ⟨⟨by show (0:Int)≤0; omega,by show (0:Int)≤_; omega⟩,hy⟩ ?_
 rintro ⟨k,zs⟩ ⟨⟨a0,a1⟩,hz⟩
 dsimp only at a0 a1 hz
 show Ok (qH _ _ k zs) _
 unfold qH
 refine ob (P:=fun g=>g=true→k < zs.length) (od (fun h=>os fun _=>h) fun _=>os fun h=>by cases h) fun g hg=>oc (fun eg=>?_) fun eg=>os ⟨rfl,os ⟨⟨⟨?_,?_⟩,hz⟩,?_⟩⟩
 ·have hk:=hg eg
  refine oe (bS a0 hk) (oc (fun _=>oe (bS a0 hk) (os ⟨⟨⟨?_,?_⟩,?_⟩,?_⟩)) fun _=>os ⟨⟨⟨?_,?_⟩,?_⟩,?_⟩)
  all_goals (try dsimp only)
  all_goals (try simp only [List.length_set])
  all_goals (try rw [w1 a0 hk (by omega)])
  all_goals omega
 all_goals (try dsimp only)
 all_goals rw [hw]
 all_goals omega
structure PP (c d:aI) (xs:List Int):Prop where
 len:(xs.length:Int)=c.aA
 ok:∀ y∈xs,y < d.aG.length
def LZ (r:List Int):Nat:=(r.filter fun v=>v == -1).length
theorem Pz (r:List Int):LZ r≤r.length:=List.length_filter_le _ _
theorem U0 {r:List Int} {d:Nat} {v:Int} (hv:0≤v) (hl:d < r.length) (hg:gi r d = -1):LZ (r.set d v) < LZ r:=by
 unfold LZ
 induction r generalizing d with
 | nil=>simp at hl
 | cons a r ih=>
  cases d with
  | zero=>
   have h:a = -1:=hg
   rw [List.set_cons_zero,List.filter_cons,if_neg (by simp; omega),List.filter_cons,if_pos (by simpa using h)]
   simp
  | succ d=>
   rw [List.set_cons_succ,List.filter_cons,List.filter_cons]
   have hg:gi r d = -1:=by
    have e:gi (a :: r) ((d+1:Nat):Int)=gi r (d:Int):=rfl
    rwa [e] at hg
   have:=ih (d:=d) (by simp at hl; omega) hg
   split <;> (try simp only [List.length_cons]) <;> omega
def Ks (d:aI) (f g:aQ) (j v:Int):Prop:=(0≤v∧v < d.aG.length)∧gi d.aG v=gi f.aA j∧gi d.To v=gi g.aA j
structure PQ (c d:aI) (f g:aQ) (k:Bool) (xs:List Int):Prop where
 len:(xs.length:Int)=c.aA
 ok:∀ j:Int,0≤j→j < xs.length→Ks d f g j (gi xs j)∨gi xs j = -1∨(gi xs j = -2∧k=true)
structure CQ (c d:aI) (f g:aQ) (k:Bool) (xs:List Int):Prop where
 len:(xs.length:Int)=c.aA
 ok:∀ j:Int,0≤j→j < xs.length→Ks d f g j (gi xs j)∨(gi xs j = -2∧k=true)
theorem PQ.pp {c d:aI} {f g:aQ} {k:Bool} {xs:List Int} (P:PQ c d f g k xs):PP c d xs:=⟨P.len,fun y hy=>by
 obtain ⟨j,j0,j1,rfl⟩:=mb hy
 rcases P.ok j j0 j1 with h | h | h
 ·exact h.1.2
 ·omega
 ·omega⟩
theorem PQ.set {c d:aI} {f g:aQ} {k:Bool} {xs:List Int} (P:PQ c d f g k xs) {r v:Int} (r0:0≤r) (r1:r < xs.length) (h:Ks d f g r v):PQ c d f g k (xs.set r.toNat v):=⟨by rw [List.length_set]; exact P.len,fun j j0 j1=>by
 rw [List.length_set] at j1
 rw [qz r0 r1 j0]
 by_cases e:j=r
 ·rw [if_pos e,e]; exact Or.inl h
 ·rw [if_neg e]; exact P.ok j j0 j1⟩
structure GS (c d:aI) (f g:aQ) (k:Bool) (m:Int) (s:dC):Prop where
 f1:s.F=f
 g1:s.G=g
 i1:s.zN=false
 m1:s.wM=m
 n1:(s.Found.length:Int)≤m
 q1:∀ q∈s.Found,CQ c d f g k q
section
variable {c d:aI} {f g:aQ} (T:T7 c) (U:T7 d) (F:FF c d f) (G:FF c d g)
include T U F G
theorem Sn {p:List Int} (hp:(p.length:Int)=c.aA) {a:Int} (a0:0≤a) (a1:a < c.aG.length) (h1:0≤gi p (gi c.aG a)∧gi p (gi c.aG a) < d.aG.length) (h2:0≤gi p (gi c.To a)∧gi p (gi c.To a) < d.aG.length):Ok (kF f g p a) fun _=>True:=by
 unfold kF
 rw [F.s,F.t]
 have fl:=F.ar.1.len
 have gl:=G.ar.1.len
 have kf:=T.t.fr a0 a1
 have kt:=T.t.to a0 a1
 have f0:=F.ar.2 a a0 a1
 have f1:=(F.ar.1.ok a a0 a1 f0).1
 have g0:=G.ar.2 a a0 a1
 have g1:=(G.ar.1.ok a a0 a1 g0).1
 exact gj (oe (bS a0 (by omega)) (oe (U.t.me f0 f1) (oe (T.t.jf a0 a1) (oe (bS kt.1 (by omega)) (oe (U.t.lv f0 f1 h2.1 h2.2) (oe (T.t.iq a0 a1) (oe (bS kf.1 (by omega)) (oe (U.t.me h1.1 h1.2) (oe (bS a0 (by omega)) (oe (U.t.lv h1.1 h1.2 g0 g1) (os trivial)))))))))))
theorem Hy {m:Int} {fd:List (List Int)} {xs:List Int} (P:PP c d xs) {x:Int} (x0:0≤x) (x1:x < c.aA):Ok (lC (dC.mk f g false m fd) xs x) fun y=>y.length≤d.aG.length∧∀ v∈y,Ks d f g x v:=by
 have cm:=T.m
 have dm:=U.m
 have fo:=F.ol
 have go:=G.ol
 have pl:=P.len
 have co:=T.o
 unfold lC
 dsimp only
 rw [F.t]
 refine gj (oe (bS x0 (by omega)) (oe (bS x0 (by omega)) (ob (BS U.t.tl (by omega) _ _) fun sa hh=>?_)))
 have SZ:=hh.1
 refine ol (fun z:List Int×Int=>(0≤z.2∧z.2≤sa.length)∧(z.1.length:Int)≤z.2∧∀ v∈z.1,Ks d f g x v) (fun z=>(sa.length - z.2).toNat) ⟨⟨by show (0:Int)≤0; omega,by show (0:Int)≤_; omega⟩,by show (0:Int)≤0; omega,du⟩ ?_
 rintro ⟨l,i⟩ ⟨⟨i0,i1⟩,hl,hv⟩
 dsimp only at i0 i1 hl hv
 show Ok (nN (dC.mk f g false m fd) xs x sa l i) _
 unfold nN
 dsimp only
 refine od (fun hi=>?_) fun hi=>os ⟨rfl,os ⟨by show l.length≤_; omega,hv⟩⟩
 refine ob (P:=fun g=>g=false) (oc (fun h=>by cases h) fun _=>os rfl) fun g2 ox=>oc (fun e=>by rw [ox] at e; cases e) fun _=>?_
 refine oe (fc xs (by omega)) (oe (bS i0 hi) (oe (bS x0 (by omega)) ?_))
 have kv:=(hh.2 _).1 (cy i0 hi)
 have n5:((xs.set x.toNat (gi sa i)).length:Int)=c.aA:=by rw [List.length_set]; exact pl
 have EN:∀ y∈xs.set x.toNat (gi sa i),y < d.aG.length:=yq P.ok kv.1.2
 refine ol (fun z:Bool×Int=>0≤z.2∧z.2≤c.aG.length) (fun z=>(c.aG.length - z.2).toNat) ⟨by show (0:Int)≤0; omega,by show (0:Int)≤_; omega⟩ ?_
 rintro ⟨b,j⟩ ⟨j0,j1⟩
 dsimp only at j0 j1
 show Ok (nM (dC.mk f g false m fd) x xs (gi sa i) b j) _
 unfold nM
 dsimp only
 generalize xs.set x.toNat (gi sa i)=p at n5 EN
 have fal:=F.ar.1.len
 refine ob (P:=fun g=>g=true→j < c.aG.length) (oc (fun _=>os fun h=>by have:=of_decide_eq_true h; omega) fun _=>os fun h=>(by cases h)) fun g3 YY=>oc (fun eg=>?_) fun eg=>os ⟨rfl,?_⟩
 ·have hj:=YY eg
  have kf:=T.t.fr j0 hj
  have kt:=T.t.to j0 hj
  rw [F.s]
  have tail:Ok (idx p (gi c.aG j)>>=fun e=>bif decide (e < (0:Int)) then (some (true)) else ((idx p (gi c.To j))>>=fun e=>(bif decide (e < (0:Int)) then (some (true)) else ((kF f g p j)>>=fun y=>(some (y)))))) fun _=>True:=
   oe (bS kf.1 (by omega)) (od (fun _=>os trivial) fun n1=>oe (bS kt.1 (by omega)) (od (fun _=>os trivial) fun n2=>ob (Sn T U F G n5 j0 hj ⟨by omega,EN _ (cy kf.1 (by omega))⟩ ⟨by omega,EN _ (cy kt.1 (by omega))⟩) fun _ _=>os trivial))
  refine oe (T.t.iq j0 hj) (oe (T.t.jf j0 hj) (og (oc (fun _=>oc (fun _=>os trivial) fun _=>tail) fun _=>tail) fun g4=>os ⟨⟨?_,?_⟩,?_⟩))
  all_goals (try dsimp only)
  all_goals rw [w1 j0 hj (by omega)]
  all_goals omega
 ·refine oc (fun _=>oe (bS i0 hi) (dp (by omega) (by omega) (os ⟨⟨⟨?_,?_⟩,?_,dw hv kv⟩,?_⟩))) fun _=>os ⟨⟨⟨?_,?_⟩,?_,hv⟩,?_⟩
  all_goals (try dsimp only)
  all_goals rw [w1 i0 hi (by omega)]
  all_goals (try simp only [List.length_append,List.length_singleton])
  all_goals omega
theorem YZ {k:Bool} {m:Int} (hm:m≤300) (n:Nat):∀ {fd:List (List Int)} {xs:List Int} (_:PQ c d f g k xs) (_:LZ xs < n) (_:(fd.length:Int) < m) (_:∀ q∈fd,CQ c d f g k q),Ok (jU n (dC.mk f g false m fd) xs) (GS c d f g k m):=by
 have co:=T.o
 have dm:=U.m
 induction n with
 | zero=>intro fd xs _ h; omega
 | succ n ih=>
  intro fd xs P hn hf hq
  have S0:GS c d f g k m (dC.mk f g false m fd):=⟨rfl,rfl,rfl,rfl,by show (fd.length:Int)≤m; omega,hq⟩
  show Ok (qK (jU n) (dC.mk f g false m fd) xs) _
  unfold qK
  have hpl:=P.len
  have hw0:ao ((xs.length:Int) - 1)=xs.length - 1:=eI (by omega) (by omega)
  rw [hw0]
  refine off (ol (fun z:Int×Int=>(-1≤z.2∧z.2 < xs.length)∧(-1≤z.1∧z.1 < xs.length)∧(0≤z.1→gi xs z.1 = -1)∧∀ j:Int,z.2 < j→j < xs.length→z.1 < 0→gi xs j≠-1) (fun z=>(z.2+1).toNat) ⟨⟨by dsimp only; omega,by dsimp only; omega⟩,⟨by dsimp only; omega,by dsimp only; omega⟩,fun h=>by dsimp only at h; omega,fun j j0 j1=>by dsimp only at j0; omega⟩ ?_)
  rintro ⟨r,i⟩ ⟨⟨i0,i1⟩,⟨r0,r1⟩,hr,Y0⟩
  dsimp only at i0 i1 r0 r1 hr Y0
  show Ok (sM (dC.mk f g false m fd) xs r i) _
  unfold sM
  refine od (fun hi=>?_) fun hi=>os ⟨rfl,?_⟩
  ·have hwm:ao (i - 1)=i - 1:=eI (by omega) (by omega)
   refine oe (bS (by omega) i1) (oc (fun e=>?_) fun e=>os ⟨⟨⟨?_,?_⟩,⟨?_,?_⟩,?_,?_⟩,?_⟩)
   ·have e:gi xs i = -1:=by simpa using e
    refine ob (Hy T U F G P.pp (by omega) (by omega)) fun y hy=>oc (fun _=>os S0) fun _=>os ⟨⟨⟨?_,?_⟩,⟨?_,?_⟩,fun _=>e,fun j _ _ h=>absurd h ?_⟩,?_⟩
    all_goals (try dsimp only)
    all_goals (try rw [hwm])
    all_goals omega
   all_goals (try dsimp only)
   all_goals (try rw [hwm])
   all_goals first | omega | exact hr | skip
   intro j j0 j1 h
   by_cases ej:j=i
   ·rw [ej]; exact by simpa using e
   ·exact Y0 j (by omega) j1 h
  ·refine od (fun Wz=>oe (fc xs (by omega)) (dp (by show (fd.length+1) * 24≤_; omega) (by show fd.length+1≤_; omega) (os ⟨rfl,rfl,rfl,rfl,?_,dw hq ⟨hpl,fun j j0 j1=>?_⟩⟩))) fun Wz=>ob (Hy T U F G P.pp (by omega) (by omega)) fun y hy=>?_
   ·show ((fd++[xs]).length:Int)≤m
    rw [List.length_append,List.length_singleton]; omega
   ·rcases P.ok j j0 j1 with h | h | h
    ·exact Or.inl h
    ·exact absurd h (Y0 j (by omega) j1 (by omega))
    ·exact Or.inr h
   have hyl:=hy.1
   refine ol (fun z:Int×Int×Int×Int×Int×Bool×Int×List (List Int)=>(0≤z.1∧z.1≤y.length)∧z.2.1=f.aB.aA∧z.2.2.1=f.aH.aA∧z.2.2.2.1=g.aB.aA∧z.2.2.2.2.1=g.aH.aA∧z.2.2.2.2.2.1=false∧z.2.2.2.2.2.2.1=m∧(z.2.2.2.2.2.2.2.length:Int)≤m∧∀ q∈z.2.2.2.2.2.2.2,CQ c d f g k q) (fun z=>(y.length - z.1).toNat) ⟨⟨by show (0:Int)≤0; omega,by show (0:Int)≤_; omega⟩,rfl,rfl,rfl,rfl,rfl,rfl,by dsimp only; omega,hq⟩ ?_
   rintro ⟨i,a,b,c1,c2,is,mo,fe⟩ ⟨⟨i0,i1⟩,ha,hb,hc,hd,hi2,J9,I0,Y1⟩
   dsimp only at i0 i1 ha hb hc hd hi2 J9 I0 Y1
   subst ha hb hc hd hi2 J9
   show Ok (sN (jU n) (dC.mk f g false mo fd) xs r y i f.aB.aA f.aH.aA g.aB.aA g.aH.aA false mo fe) _
   unfold sN
   refine ob (P:=fun g=>g=true→i < y.length∧(fe.length:Int) < mo) (od (fun h=>os fun h2=>⟨h,of_decide_eq_true h2⟩) fun _=>os fun h=>(by cases h)) fun g3 YY=>oc (fun eg=>?_) fun eg=>os ⟨rfl,os ⟨rfl,rfl,rfl,rfl,I0,Y1⟩⟩
   obtain ⟨hi,ED⟩:=YY eg
   have kv:=hy.2 _ (cy i0 hi)
   refine oe (fc xs (by omega)) (oe (bS i0 hi) (oe (bS (by omega) r1) ?_))
   have P2:PQ c d f g k (xs.set r.toNat (gi y i)):=P.set (by omega) r1 kv
   have hc:LZ (xs.set r.toNat (gi y i)) < n:=by
    have:=U0 (r:=xs) (d:=r.toNat) kv.1.1 (by omega) (by rw [show ((r.toNat:Nat):Int)=r by omega]; exact hr (by omega))
    omega
   show Ok (jU n (dC.mk f g false mo fe) (xs.set r.toNat (gi y i))>>=_) _
   refine ob (ih P2 hc ED Y1) fun z hz=>os ⟨⟨⟨?_,?_⟩,?_,?_,?_,?_,hz.i1,hz.m1,hz.n1,hz.q1⟩,?_⟩
   ·dsimp only; rw [w1 i0 hi (by omega)]; omega
   ·dsimp only; rw [w1 i0 hi (by omega)]; omega
   ·dsimp only; rw [hz.f1]
   ·dsimp only; rw [hz.f1]
   ·dsimp only; rw [hz.g1]
   ·dsimp only; rw [hz.g1]
   ·dsimp only; rw [w1 i0 hi (by omega)]; omega
theorem UR {m:Int} (m1:1≤m) (hm:m≤300):Ok (qO f g false m) fun y=>(y.length:Int)≤m∧∀ q∈y,CQ c d f g false q:=by
 have cm:=T.m
 have co:=T.o
 have c0:=T.t.o0
 have dm:=U.m
 unfold qO
 refine gj (ol (fun z:List (List Int)×Int=>(0≤z.2∧z.2≤c.aG.length)∧(z.1.length:Int)=z.2∧∀ r∈z.1,r.length=2∧∀ y∈r,0≤y∧y < c.aA) (fun z=>(c.aG.length - z.2).toNat) ⟨⟨by show (0:Int)≤0; omega,by show (0:Int)≤_; omega⟩,rfl,du⟩ ?_)
 rintro ⟨l,i⟩ ⟨⟨i0,i1⟩,hl,hv⟩
 dsimp only at i0 i1 hl hv
 show Ok (qL f l i) _
 unfold qL
 rw [F.s]
 refine od (fun hi=>?_) fun hi=>os ⟨rfl,?_⟩
 ·have kf:=T.t.fr i0 hi
  have kt:=T.t.to i0 hi
  refine oe (T.t.iq i0 hi) (oe (T.t.jf i0 hi) (dp (by omega) (by omega) (os ⟨⟨⟨?_,?_⟩,?_,dw hv ⟨rfl,fun y hy=>?_⟩⟩,?_⟩)))
  ·dsimp only; rw [w1 i0 hi (by omega)]; omega
  ·dsimp only; rw [w1 i0 hi (by omega)]; omega
  ·dsimp only; rw [w1 i0 hi (by omega),List.length_append,List.length_singleton]; omega
  ·rcases List.mem_cons.1 hy with rfl | hy
   ·exact kf
   ·rw [List.mem_singleton.1 hy]; exact kt
  ·dsimp only; rw [w1 i0 hi (by omega)]; omega
 refine ob (ZX c0 co hv (by omega)) fun q hq=>?_
 refine ol (fun z:List Int×Int=>(0≤z.2∧z.2≤q.length)∧(z.1.length:Int)=z.2∧∀ v∈z.1,v = -1) (fun z=>(q.length - z.2).toNat) ⟨⟨by show (0:Int)≤0; omega,by show (0:Int)≤_; omega⟩,rfl,du⟩ ?_
 rintro ⟨l1,k⟩ ⟨⟨k0,k1⟩,Pe,Oj⟩
 dsimp only at k0 k1 Pe Oj
 show Ok (qN f g false q l1 k) _
 unfold qN
 refine od (fun hk=>dp (by omega) (by omega) ?_) fun hk=>os ⟨rfl,ob (YZ T U F G (k:=false) hm 64 ⟨by omega,fun j j0 j1=>Or.inr (Or.inl (Oj _ (cy j0 j1)))⟩ (by have:=Pz l1; omega) (by simp; omega) du) fun y hy=>os ⟨hy.n1,hy.q1⟩⟩
 refine ol (fun z:List Int×Int=>(0≤z.2∧z.2≤q.length)∧(z.1.length:Int)=z.2∧∀ v∈z.1,v = -1∨v = -2) (fun z=>(q.length - z.2).toNat) ⟨⟨by show (0:Int)≤0; omega,by show (0:Int)≤_; omega⟩,rfl,du⟩ ?_
 rintro ⟨l2,e⟩ ⟨⟨e0,e1⟩,vm,Ce⟩
 dsimp only at e0 e1 vm Ce
 show Ok (qM q k l2 e) _
 unfold qM
 refine od (fun he=>oe (bS e0 he) (oc (fun _=>dp (by omega) (by omega) (os ⟨⟨⟨?_,?_⟩,?_,dw Ce (by decide)⟩,?_⟩)) fun _=>dp (by omega) (by omega) (os ⟨⟨⟨?_,?_⟩,?_,dw Ce (by decide)⟩,?_⟩))) fun he=>os ⟨rfl,ob (YZ T U F G (k:=true) (m:=1) (by omega) 64 ⟨by omega,fun j j0 j1=>Or.inr ((Ce _ (cy j0 j1)).imp id fun h=>⟨h,rfl⟩)⟩ (by have:=Pz l2; omega) (by simp) du) fun y hy=>oc (fun _=>os ⟨by show ((0:Nat):Int)≤m; omega,du⟩) fun _=>os ⟨⟨⟨?_,?_⟩,?_,dw Oj rfl⟩,?_⟩⟩
 all_goals (try dsimp only)
 all_goals first | rw [w1 e0 he (by omega)] | rw [w1 k0 hk (by omega)]
 all_goals (try simp only [List.length_append,List.length_singleton])
 all_goals omega
end
section
variable {x:List Int} (B:xU x) {s:aK} (S:Src x s)
include B S
theorem FM (n:Int):Ok (eL s n) fun y=>Src x y.2:=by
 unfold eL
 exact gj (ob (dn B S _) fun y hy=>oc (fun _=>ob (Pp B (S.on hy.2) (by simp)) fun z hz=>os (S.on hz.2)) fun _=>ob (dn B (S.on hy.2) _) fun z hz=>os (S.on hz.2))
end
theorem Src.LP {x:List Int} {t:aK} {h:Int} (T:Src x t):Src x (aK.mk x t.At h):=⟨rfl,T.a0,T.a1⟩
end Go.Proofs.YtilhlobfebngdaaGreat
