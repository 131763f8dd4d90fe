/- Is a table a category: the reference and the program agree, and what is known of a category. No condition beside those that each theorem names. -/
import Derived.Test.YtbhhmalgcnhniaaGreatPa
namespace Go.Li
open Go
section
variable {S S1 R α:Type} {body:S1→Option (Out S1 R)}
theorem sz {k:Nat} {f:S1→Option (Out S R)} {s0 e:S1} (l:List α) (p:α→Bool) (G:R→Prop) (st:Nat→S1) (h0:st 0=s0) (step:∀ i x,l[i]? = some x→p x=false→body (st i)=some (.norm (st (i+1))))
  (Mx:∀ i x,l[i]? = some x→p x=true→∃ y,body (st i)=some (.ret y)∧G y) (last:body (st l.length)=some (.exit k e)) :
  (l.any p=true∧∃ y,af (ae k (ag body s0)) f=some (.ret y)∧G y)∨(l.any p=false∧af (ae k (ag body s0)) f=f e):=by
 have key:∀ (m:List α) (i:Nat),l.drop i=m→i≤l.length→(m.any p=true∧∃ y,ag body (st i)=some (.ret y)∧G y)∨(m.any p=false∧ag body (st i)=some (.exit k e)):=by
  intro m
  induction m with
  | nil=>
   intro i hd hi
   have:i=l.length:=by have:=congrArg List.length hd; simp at this; omega
   subst this
   exact .inr ⟨rfl,rq last⟩
  | cons x m ih=>
   intro i hd hi
   have bh:i < l.length:=by
    rcases Nat.lt_or_ge i l.length with h | h
    ·exact h
    ·rw [List.drop_eq_nil_of_le h] at hd; cases hd
   have hx:l[i]? = some x:=by
    rw [List.drop_eq_getElem_cons bh] at hd
    rw [List.getElem?_eq_getElem bh]; exact congrArg some (List.cons.inj hd).1
   have iq:l.drop (i+1)=m:=by
    rw [List.drop_eq_getElem_cons bh] at hd; exact (List.cons.inj hd).2
   cases hp:p x with
   | true=>
    obtain ⟨y,hy,hg⟩:=Mx i x hx hp
    exact .inl ⟨by simp [hp],y,x8 hy,hg⟩
   | false=>
    rw [p5,step i x hx hp]
    simpa [hp] using ih (i+1) iq bh
 rcases key l 0 rfl (Nat.zero_le _) with ⟨h1,y,h2,h3⟩ | ⟨h1,h2⟩
 ·rw [h0] at h2; exact .inl ⟨h1,y,AY h2,h3⟩
 ·rw [h0] at h2; exact .inr ⟨h1,vn h2⟩
theorem MA {n i x:Nat} (h:(List.range n)[i]? = some x):x=i∧i < n:=by
 have hi:=bb h
 rw [List.getElem?_eq_getElem hi] at h
 simp at h hi
 exact ⟨h.symm,hi⟩
end
def gi (l:List Int) (j:Int):Int:=l.getD j.toNat 0
def gr (l:List (List Int)) (j:Int):List Int:=l.getD j.toNat []
def gk (l:List (List Int)) (i j:Int):Int:=gi (gr l i) j
theorem bL {l:List Int} {j:Int} (h0:0≤j) (h1:j < l.length):idx l j=some (gi l j):=by
 rw [AZ h0 h1]; unfold gi; rw [List.getD_eq_getElem?_getD,List.getElem?_eq_getElem (by omega)]; rfl
theorem j6 {l:List (List Int)} {j:Int} (h0:0≤j) (h1:j < l.length):idx l j=some (gr l j):=by
 rw [AZ h0 h1]; unfold gr; rw [List.getD_eq_getElem?_getD,List.getElem?_eq_getElem (by omega)]; rfl
theorem eh {l:List Int} {j:Int} (h0:0≤j) (h1:j < l.length):gi l j∈l:=by
 unfold gi; rw [List.getD_eq_getElem?_getD,List.getElem?_eq_getElem (by omega)]; exact List.getElem_mem _
theorem kv {l:List (List Int)} {j:Int} (h0:0≤j) (h1:j < l.length):gr l j∈l:=by
 unfold gr; rw [List.getD_eq_getElem?_getD,List.getElem?_eq_getElem (by omega)]; exact List.getElem_mem _
def ns (n:Nat):List Int:=(List.range n).map Int.ofNat
theorem dg {n i:Nat} {x:Int} (h:(ns n)[i]? = some x):x=(i:Int)∧i < n:=by
 unfold ns at h
 rw [List.getElem?_map] at h
 cases hr:(List.range n)[i]? with
 | none=>rw [hr] at h; cases h
 | some y=>
  rw [hr] at h
  obtain ⟨rfl,hi⟩:=MA hr
  exact ⟨(Option.some.inj h).symm,hi⟩
theorem cN (n:Nat):(ns n).length=n:=by simp [ns]
theorem dh {n:Nat} {x:Int}:x∈ns n↔0≤x∧x < n:=by
 unfold ns
 simp only [List.mem_map,List.mem_range]
 constructor
 ·rintro ⟨a,h1,rfl⟩; simp; omega
 ·rintro ⟨h1,h2⟩; exact ⟨x.toNat,by omega,by simp; omega⟩
end Go.Li
namespace Go.Proofs.YtbhhmalgcnhniaaGreat
open Go Go.Li
def ot (n:Int) (f:List Int):Bool:=f.all fun y=>decide (0≤y) && decide (y < n)
theorem pd {n:Int} {f:List Int}:ot n f=true↔∀ y∈f,0≤y∧y < n:=by simp [ot]
theorem n8 {α:Type} (l:List α) (p:α→Bool):l.any (fun x=>!p x) = !l.all p:=by
 induction l with
 | nil=>rfl
 | cons a l ih=>simp only [List.any_cons,List.all_cons,ih,Bool.not_and]
theorem BP (n:Int) (f:List Int) (hf:f.length≤1048576000):kZ n f=some (ot n f):=by
 unfold kZ
 refine (congrArg ak (jc f (fun y=>!(decide (0≤y) && decide (y < n))) (fun i=>(i:Int)) rfl ?_ ?_ (e:=(f.length:Int)) (y:=false) ?_)).trans ?_
 ·intro i x hx hp
  have hi:=bb hx
  unfold nL
  simp only [Bool.not_eq_false',Bool.and_eq_true,decide_eq_true_eq] at hp
  rw [ao (by omega),cond_true,bu,hx,aE,ay (by omega),cond_false,aE,ay (by omega),aE,cond_false,bF (by omega)]
 ·intro i x hx hp
  have hi:=bb hx
  unfold nL
  rw [ao (by omega),cond_true,bu,hx,aE,aE]
  by_cases h:x < 0
  ·rw [ao h,cond_true,aE,cond_true]
  ·have:n≤x:=by simp at hp; omega
   rw [ay h,cond_false,ao (by omega),aE,cond_true]
 ·unfold nL
  rw [ay (by omega),cond_false]
 ·rw [n8]
  show ak (if (!ot n f)=true then _ else _)=_
  cases ot n f <;> rfl
theorem BQ (n a b:Int):lM n a b=some (decide (a≤n) && decide (n≤b)):=by
 unfold lM
 by_cases h:a≤n
 ·rw [ao (show n ≥ a from h),cond_true]; rfl
 ·rw [ay (show ¬ n ≥ a from h),cond_false]; rfl
theorem Vk (n a b:Int):rP n a b=some (decide (a≤n) && decide (n≤b)):=by
 unfold rP
 by_cases h:a≤n
 ·rw [ao (show n ≥ a from h),cond_true]; rfl
 ·rw [ay (show ¬ n ≥ a from h),cond_false]; rfl
theorem within (f:List Int) (n:Int) (hf:f.length≤1048576000) (hn:0≤n) (QO:n≤1048576000):iL f n=some (ot n f):=by
 unfold iL
 refine (congrArg ak (jc f (fun y=>!(decide (0≤y) && decide (y < n))) (fun i=>(i:Int)) rfl ?_ ?_ (e:=(f.length:Int)) (y:=false) ?_)).trans ?_
 ·intro i x hx hp
  have hi:=bb hx
  unfold nK
  simp only [Bool.not_eq_false',Bool.and_eq_true,decide_eq_true_eq] at hp
  rw [ao (by omega),cond_true,bu,hx,aE,dM (by omega) (by omega),BQ,aE,ao hp.1,ao (by omega)]
  simp only [Bool.and_self,Bool.not_true,cond_false]
  rw [bF (by omega)]
 ·intro i x hx hp
  have hi:=bb hx
  unfold nK
  rw [ao (by omega),cond_true,bu,hx,aE,dM (by omega) (by omega),BQ,aE]
  have:(decide (0≤x) && decide (x≤n - 1))=false:=by
   by_cases h:x < 0
   ·rw [ay (by omega)]; rfl
   ·have:n≤x:=by simp at hp; omega
    rw [ay (show ¬ x≤n - 1 by omega),Bool.and_false]
  rw [this]; rfl
 ·unfold nK
  rw [ay (by omega),cond_false]
 ·rw [n8]
  show ak (if (!ot n f)=true then _ else _)=_
  cases ot n f <;> rfl
def vy (c:aG):Bool:=((decide (0≤c.aA) && decide (c.aA≤8)) && (decide (c.aF.length≤40) && ot c.aA c.aF)) && (((c.To.length == c.aF.length) && ot c.aA c.To) && ((c.aC.length == c.aF.length) && (((c.aH.length:Int) == c.aA) && ot c.aF.length c.aH)))
def yQ (c:aG) (x:Int):Bool:=gi c.aF (gi c.aH x) == x && gi c.To (gi c.aH x) == x
def uM (c:aG) (f g:Int):Bool:=
 if gi c.To f=gi c.aF g then (decide (0≤gk c.aC f g) && decide (gk c.aC f g < c.aF.length)) && (gi c.aF (gk c.aC f g) == gi c.aF f && gi c.To (gk c.aC f g) == gi c.To g)
 else gk c.aC f g == -1
def xq (c:aG) (f:Int):Bool:=((gr c.aC f).length == c.aF.length) && (ns c.aF.length).all fun g=>uM c f g
def py (c:aG):Bool:=vy c && ((ns c.aH.length).all (yQ c) && (ns c.aF.length).all (xq c))
structure Head (c:aG):Prop where
 o0:0≤c.aA
 o8:c.aA≤8
 m:c.aF.length≤40
 f:∀ x∈c.aF,0≤x∧x < c.aA
 tl:c.To.length=c.aF.length
 t:∀ x∈c.To,0≤x∧x < c.aA
 kl:c.aC.length=c.aF.length
 il:(c.aH.length:Int)=c.aA
 i:∀ x∈c.aH,0≤x∧x < c.aF.length
theorem El {c:aG} (h:vy c=true):Head c:=by
 unfold vy at h
 simp only [Bool.and_eq_true,decide_eq_true_eq,pd,beq_iff_eq] at h
 obtain ⟨⟨⟨h1,h2⟩,h3,h4⟩,⟨h5,h6⟩,h7,h8,h9⟩:=h
 exact ⟨h1,h2,h3,h4,h5,h6,h7,h8,h9⟩
set_option linter.unusedSectionVars false
namespace Head
variable {c:aG} (h:Head c)
include h
theorem fr {f:Int} (h0:0≤f) (h1:f < c.aF.length):0≤gi c.aF f∧gi c.aF f < c.aA:=h.f _ (eh h0 h1)
theorem to {f:Int} (h0:0≤f) (h1:f < c.aF.length):0≤gi c.To f∧gi c.To f < c.aA:=h.t _ (eh h0 (by rw [h.tl]; exact h1))
theorem id {x:Int} (h0:0≤x) (h1:x < c.aA):0≤gi c.aH x∧gi c.aH x < c.aF.length:=h.i _ (eh h0 (by rw [h.il]; exact h1))
theorem ic {f:Int} (h0:0≤f) (h1:f < c.aF.length):idx c.aF f=some (gi c.aF f):=bL h0 h1
theorem ig {f:Int} (h0:0≤f) (h1:f < c.aF.length):idx c.To f=some (gi c.To f):=bL h0 (by rw [h.tl]; exact h1)
theorem kz {x:Int} (h0:0≤x) (h1:x < c.aA):idx c.aH x=some (gi c.aH x):=bL h0 (by rw [h.il]; exact h1)
theorem nq {f:Int} (h0:0≤f) (h1:f < c.aF.length):idx c.aC f=some (gr c.aC f):=j6 h0 (by rw [h.kl]; exact h1)
end Head
theorem MB {c:aG} (hs:fg c):pQ c=some (py c):=by
 obtain ⟨z1,z2,z3,z4,z5⟩:=hs
 have ends:∀ (l:List Int) (n:Nat) (o:Int),l.length≤1048576→mZ l (n:Int) o=some ((l.length == n) && ot o l):=by
  intro l n o hl
  unfold mZ
  by_cases e:l.length=n
  ·rw [show ((l.length:Int) == (n:Int))=true by simp [e],cond_true,BP _ _ (by omega),show (l.length == n)=true by simp [e]]; rfl
  ·rw [show ((l.length:Int) == (n:Int))=false by simp; omega,cond_false,show (l.length == n)=false by simp [e]]; rfl
 unfold pQ
 rw [Vk,aE,ends _ _ _ z1,ends _ _ _ z2]
 have e1:((c.aC.length:Int) != (c.aF.length:Int)) = !(c.aC.length == c.aF.length):=by
  by_cases e:c.aC.length=c.aF.length
  ·simp [e]
  ·rw [show (c.aC.length == c.aF.length)=false by simp [e]]; simp; omega
 have e2:decide ((c.aF.length:Int) > 40) = !decide (c.aF.length≤40):=by
  by_cases e:c.aF.length≤40
  ·rw [ao e,ay (by omega)]; rfl
  ·rw [ay e,ao (by omega)]; rfl
 rw [e1,e2,BP _ _ (by omega)]
 cases hh:vy c with
 | false=>
  have:py c=false:=by unfold py; rw [hh]; rfl
  rw [this]
  unfold vy at hh
  generalize (decide (0≤c.aA) && decide (c.aA≤8))=a1 at *
  generalize decide (c.aF.length≤40)=a2 at *
  generalize ot c.aA c.aF=a3 at *
  generalize (c.To.length == c.aF.length)=a4 at *
  generalize ot c.aA c.To=a5 at *
  generalize (c.aC.length == c.aF.length)=a6 at *
  have e3:((c.aH.length:Int) != c.aA) = !((c.aH.length:Int) == c.aA):=rfl
  rw [e3]
  generalize ((c.aH.length:Int) == c.aA)=a7 at *
  generalize ot (c.aF.length:Int) c.aH=a8 at *
  simp only [beq_self_eq_true,Bool.true_and]
  cases a1 <;> first | rfl | (cases a2 <;> first | rfl | (cases a3 <;> first | rfl | (cases a4 <;> first | rfl | (cases a5 <;> first | rfl | (cases a6 <;> first | rfl | (cases a7 <;> first | rfl | (cases a8 <;> first | rfl | (cases hh))))))))
 | true=>
  have H:=El hh
  have Hv:=hh
  unfold vy at Hv
  simp only [Bool.and_eq_true] at Hv
  obtain ⟨⟨⟨b1,IB⟩,b2,b3⟩,⟨b4,b5⟩,b6,b7,b8⟩:=Hv
  rw [b1,IB,b2,b3,b4,b5,b6,b8,show ((c.aH.length:Int) != c.aA) = !((c.aH.length:Int) == c.aA) from rfl,b7]
  simp only [beq_self_eq_true,Bool.and_self,Bool.not_true,cond_false,aE]
  have hm:=H.m
  have pq:=H.il
  refine (congrArg ak (jc (ns c.aH.length) (fun x=>!yQ c x) (fun i=>(i:Int)) rfl ?_ ?_ (e:=(c.aH.length:Int)) (y:=false) ?_)).trans ?_
  ·intro i x hx hp
   obtain ⟨rfl,hi⟩:=dg hx
   have:=H.id (x:=(i:Int)) (by omega) (by omega)
   unfold mR
   unfold yQ at hp
   simp only [Bool.not_eq_false',Bool.and_eq_true,beq_iff_eq] at hp
   rw [ao (by omega),cond_true,H.kz (by omega) (by omega),aE,H.ic this.1 this.2,aE,hp.1,bne_self_eq_false,cond_false,aE,H.ig this.1 this.2,aE,hp.2,bne_self_eq_false,aE,cond_false,bF (by omega)]
  ·intro i x hx hp
   obtain ⟨rfl,hi⟩:=dg hx
   have:=H.id (x:=(i:Int)) (by omega) (by omega)
   unfold mR
   unfold yQ at hp
   rw [ao (by omega),cond_true,H.kz (by omega) (by omega),aE,H.ic this.1 this.2,aE]
   by_cases e:gi c.aF (gi c.aH i)=i
   ·rw [e,bne_self_eq_false,cond_false,aE,H.ig this.1 this.2,aE]
    have:(gi c.To (gi c.aH i) != (i:Int))=true:=by
     rw [e] at hp; simpa using hp
    rw [this]; rfl
   ·rw [show (gi c.aF (gi c.aH i) != (i:Int))=true by simp [e]]; rfl
  ·unfold mR
   rw [cN,ay (by omega),cond_false]
  rw [n8]
  unfold py
  rw [hh]
  cases tC:(ns c.aH.length).all (yQ c) with
  | false=>rfl
  | true=>
   simp only [Bool.not_true,Bool.false_eq_true,if_false,Bool.true_and]
   refine (congrArg ak (jc (ns c.aF.length) (fun f=>!xq c f) (fun i=>(i:Int)) rfl ?_ ?_ (e:=(c.aF.length:Int)) (y:=false) ?_)).trans ?_
   rotate_left 2
   ·unfold pP
    rw [cN,ay (by omega),cond_false]
   ·rw [n8]
    cases (ns c.aF.length).all (xq c) <;> rfl
   all_goals
    intro i x hx hp
    obtain ⟨rfl,hi⟩:=dg hx
    have hK:=H.nq (f:=(i:Int)) (by omega) (by omega)
    have inner:(gr c.aC i).length=c.aF.length→af (S:=Int) (ae 4 (ag (mS c i) (0:Int))) (fun yr=>(some (Out.norm (aj ((i:Int)+(1:Int)))))) =
      if (ns c.aF.length).any (fun g=>!uM c i g) then some (.ret false) else some (Out.norm (aj ((i:Int)+(1:Int)))):=by
     intro hr
     refine jc (ns c.aF.length) (fun g=>!uM c i g) (fun j=>(j:Int)) rfl ?_ ?_ (e:=(c.aF.length:Int)) (y:=false) ?_
     rotate_left 2
     ·unfold mS
      rw [cN,ay (by omega),cond_false]
     all_goals
      intro j y hy hq
      obtain ⟨rfl,hj⟩:=dg hy
      unfold mS
      rw [ao (by omega),cond_true,hK,aE,bL (by omega) (by omega),aE,H.ig (by omega) (by omega),aE,H.ic (by omega) (by omega),aE]
      unfold uM gk at hq
      by_cases e:gi c.To i=gi c.aF j
      ·rw [if_pos e] at hq
       rw [show (gi c.To (i:Int) != gi c.aF (j:Int))=false by simp [e],cond_false]
       by_cases l0:gi (gr c.aC i) j < 0
       ·rw [ay (show ¬ 0≤gi (gr c.aC i) j by omega)] at hq
        rw [ao l0,cond_true,aE,cond_true]
        all_goals (first | rfl | simp at hq)
       ·rw [ao (show 0≤gi (gr c.aC i) j by omega)] at hq
        rw [ay l0,cond_false]
        by_cases l1:gi (gr c.aC i) j < c.aF.length
        ·rw [ao l1] at hq
         rw [ay (show ¬ gi (gr c.aC i) j ≥ c.aF.length by omega),cond_false,H.ic (by omega) l1,aE,H.ic (by omega) (by omega),aE]
         by_cases q1:gi c.aF (gi (gr c.aC i) j)=gi c.aF i
         ·rw [show (gi c.aF (gi (gr c.aC (i:Int)) (j:Int)) == gi c.aF (i:Int))=true by simp [q1]] at hq
          rw [show (gi c.aF (gi (gr c.aC (i:Int)) (j:Int)) != gi c.aF (i:Int))=false by simp [q1],cond_false,H.ig (by omega) l1,aE,H.ig (by omega) (by omega),aE,aE]
          simp only [Bool.and_self,Bool.true_and] at hq
          rw [show (gi c.To (gi (gr c.aC (i:Int)) (j:Int)) != gi c.To (j:Int)) = !(gi c.To (gi (gr c.aC (i:Int)) (j:Int)) == gi c.To (j:Int)) from rfl,hq]
          all_goals (first | rfl | rw [cond_false,bF (by omega)])
         ·rw [show (gi c.aF (gi (gr c.aC (i:Int)) (j:Int)) == gi c.aF (i:Int))=false by simp [q1]] at hq
          rw [show (gi c.aF (gi (gr c.aC (i:Int)) (j:Int)) != gi c.aF (i:Int))=true by simp [q1],cond_true]
          all_goals (first | rfl | simp at hq)
        ·rw [ay l1] at hq
         rw [ao (show gi (gr c.aC i) j ≥ c.aF.length by omega),cond_true]
         all_goals (first | rfl | simp at hq)
      ·rw [if_neg e] at hq
       rw [show (gi c.To (i:Int) != gi c.aF (j:Int))=true by simp [e],cond_true,show (gi (gr c.aC (i:Int)) (j:Int) != -1) = !(gi (gr c.aC (i:Int)) (j:Int) == -1) from rfl,hq]
       all_goals (first | rfl | rw [cond_false,bF (by omega)])
    unfold pP
    rw [ao (by omega),cond_true,hK,aE]
    unfold xq at hp
    by_cases hr:(gr c.aC i).length=c.aF.length
    ·rw [show (((gr c.aC (i:Int)).length:Int) != (c.aF.length:Int))=false by simp [hr],cond_false,inner hr,n8]
     rw [show ((gr c.aC (i:Int)).length == c.aF.length)=true by simp [hr],Bool.true_and] at hp
     rw [hp,bF (by omega)]
     rfl
    ·rw [show (((gr c.aC (i:Int)).length:Int) != (c.aF.length:Int))=true by (simp; omega),cond_true]
     all_goals (rw [show ((gr c.aC (i:Int)).length == c.aF.length)=false by simp [hr],Bool.false_and] at hp; first | rfl | simp at hp)
end Go.Proofs.YtbhhmalgcnhniaaGreat
namespace Go.Proofs.YtbhhmalgcnhniaaGreat
open Go Go.Li
set_option linter.unusedSectionVars false
theorem A3 {c:aG} (H:Head c) {f:Int} (h0:0≤f) (h1:f < c.aF.length):dW c f=some (sY.mk (gi c.aF f) (gi c.To f)):=by
 unfold dW
 rw [H.ic h0 h1,aE,H.ig h0 h1,aE]; rfl
theorem MC {c:aG} (hs:fg c):jA c=some (py c):=by
 obtain ⟨z1,z2,z3,z4,z5⟩:=hs
 unfold jA cX
 rw [show ak (S:=Unit) (some (Out.ret (c.aF.length:Int)))=some (c.aF.length:Int) from rfl,aE,BQ,aE]
 have e1:((c.aC.length:Int) != (c.aF.length:Int)) = !(c.aC.length == c.aF.length):=by
  by_cases e:c.aC.length=c.aF.length
  ·simp [e]
  ·rw [show (c.aC.length == c.aF.length)=false by simp [e]]; simp; omega
 have e1':((c.To.length:Int) != (c.aF.length:Int)) = !(c.To.length == c.aF.length):=by
  by_cases e:c.To.length=c.aF.length
  ·simp [e]
  ·rw [show (c.To.length == c.aF.length)=false by simp [e]]; simp; omega
 have e2:decide ((c.aF.length:Int) > 40) = !decide (c.aF.length≤40):=by
  by_cases e:c.aF.length≤40
  ·rw [ao e,ay (by omega)]; rfl
  ·rw [ay e,ao (by omega)]; rfl
 have e3:((c.aH.length:Int) != c.aA) = !((c.aH.length:Int) == c.aA):=rfl
 rw [e1,e1',e2,e3,within c.aH _ (by omega) (by omega) (by omega)]
 cases hh:vy c with
 | false=>
  have:py c=false:=by unfold py; rw [hh]; rfl
  rw [this]
  unfold vy at hh
  cases ha:(decide (0≤c.aA) && decide (c.aA≤8)) with
  | false=>rfl
  | true=>
   rw [ha] at hh
   simp only [Bool.and_eq_true,decide_eq_true_eq] at ha
   rw [within c.aF _ (by omega) ha.1 (by omega),within c.To _ (by omega) ha.1 (by omega)]
   generalize decide (c.aF.length≤40)=a2 at *
   generalize ot c.aA c.aF=a3 at *
   generalize (c.To.length == c.aF.length)=a4 at *
   generalize ot c.aA c.To=a5 at *
   generalize (c.aC.length == c.aF.length)=a6 at *
   generalize ((c.aH.length:Int) == c.aA)=a7 at *
   generalize ot (c.aF.length:Int) c.aH=a8 at *
   cases a2 <;> first | rfl | (cases a4 <;> first | rfl | (cases a3 <;> first | rfl | (cases a5 <;> first | rfl | (cases a7 <;> first | rfl | (cases a8 <;> first | rfl | (cases a6 <;> first | rfl | (cases hh)))))))
 | true=>
  have H:=El hh
  have Hv:=hh
  unfold vy at Hv
  simp only [Bool.and_eq_true] at Hv
  obtain ⟨⟨⟨b1,IB⟩,b2,b3⟩,⟨b4,b5⟩,b6,b7,b8⟩:=Hv
  rw [within c.aF _ (by omega) H.o0 (by have:=H.o8; omega),within c.To _ (by omega) H.o0 (by have:=H.o8; omega)]
  rw [b1,IB,b2,b3,b4,b5,b6,b8,b7]
  simp only [Bool.and_self,Bool.not_true,cond_false,aE]
  have hm:=H.m
  have pq:=H.il
  have CZ:=H.kl
  refine (congrArg ak (jc (ns c.aH.length) (fun x=>!yQ c x) (fun i=>(i:Int)) rfl ?_ ?_ (e:=(c.aH.length:Int)) (y:=false) ?_)).trans ?_
  ·intro i x hx hp
   obtain ⟨rfl,hi⟩:=dg hx
   have:=H.id (x:=(i:Int)) (by omega) (by omega)
   unfold gO
   unfold yQ at hp
   simp only [Bool.not_eq_false'] at hp
   rw [ao (by omega),cond_true,H.kz (by omega) (by omega),aE,A3 H this.1 this.2,aE]
   dsimp only
   rw [hp,Bool.not_true,cond_false,bF (by omega)]
  ·intro i x hx hp
   obtain ⟨rfl,hi⟩:=dg hx
   have:=H.id (x:=(i:Int)) (by omega) (by omega)
   unfold gO
   unfold yQ at hp
   rw [ao (by omega),cond_true,H.kz (by omega) (by omega),aE,A3 H this.1 this.2,aE]
   dsimp only
   rw [hp,cond_true]
  ·unfold gO
   rw [cN,ay (by omega),cond_false]
  rw [n8]
  unfold py
  rw [hh]
  cases tC:(ns c.aH.length).all (yQ c) with
  | false=>rfl
  | true=>
   simp only [Bool.not_true,Bool.false_eq_true,if_false,Bool.true_and]
   refine (congrArg ak (jc (ns c.aF.length) (fun f=>!xq c f) (fun i=>(i:Int)) rfl ?_ ?_ (e:=(c.aF.length:Int)) (y:=false) ?_)).trans ?_
   rotate_left 2
   ·unfold kB
    rw [cN,ay (by omega),cond_false]
   ·rw [n8]
    cases (ns c.aF.length).all (xq c) <;> rfl
   all_goals
    intro i x hx hp
    obtain ⟨rfl,hi⟩:=dg hx
    have hK:=H.nq (f:=(i:Int)) (by omega) (by omega)
    have inner:(gr c.aC i).length=c.aF.length→af (S:=Int) (ae 4 (ag (gP c (c.aF.length:Int) i (gr c.aC i)) (0:Int))) (fun yr=>(some (Out.norm (aj ((i:Int)+(1:Int)))))) =
      if (ns c.aF.length).any (fun g=>!uM c i g) then some (.ret false) else some (Out.norm (aj ((i:Int)+(1:Int)))):=by
     intro hr
     refine jc (ns c.aF.length) (fun g=>!uM c i g) (fun j=>(j:Int)) rfl ?_ ?_ (e:=(c.aF.length:Int)) (y:=false) ?_
     rotate_left 2
     ·unfold gP
      rw [cN,ay (by omega),cond_false]
     all_goals
      intro j y hy hq
      obtain ⟨rfl,hj⟩:=dg hy
      unfold gP
      rw [ao (by omega),cond_true,bL (by omega) (by omega),aE,H.ig (by omega) (by omega),aE,H.ic (by omega) (by omega),aE,dM (a:=(c.aF.length:Int) - 1) (by omega) (by omega),BQ,aE]
      unfold uM gk at hq
      by_cases e:gi c.To i=gi c.aF j
      ·rw [if_pos e] at hq
       rw [show (gi c.To (i:Int) != gi c.aF (j:Int))=false by simp [e],cond_false]
       by_cases l0:0≤gi (gr c.aC i) j∧gi (gr c.aC i) j < c.aF.length
       ·rw [ao l0.1,ao l0.2] at hq
        rw [ao l0.1,ao (show gi (gr c.aC i) j≤(c.aF.length:Int) - 1 by omega)]
        simp only [Bool.and_self,Bool.not_true,cond_false,Bool.true_and] at hq ⊢
        rw [A3 H l0.1 l0.2,aE,H.ic (by omega) (by omega),aE,H.ig (by omega) (by omega),aE,aE]
        dsimp only
        rw [hq]
        all_goals (first | rfl | rw [cond_false,bF (by omega)])
       ·have l1:(decide (0≤gi (gr c.aC i) j) && decide (gi (gr c.aC i) j < c.aF.length))=false:=by
         rcases Classical.not_and_iff_not_or_not.1 l0 with h | h
         ·rw [ay h]; rfl
         ·rw [ay h,Bool.and_false]
        have l2:(decide (0≤gi (gr c.aC i) j) && decide (gi (gr c.aC i) j≤(c.aF.length:Int) - 1))=false:=by
         rcases Classical.not_and_iff_not_or_not.1 l0 with h | h
         ·rw [ay h]; rfl
         ·rw [ay (show ¬ gi (gr c.aC i) j≤(c.aF.length:Int) - 1 by omega),Bool.and_false]
        rw [l1] at hq
        rw [l2]
        all_goals (first | rfl | simp at hq)
      ·rw [if_neg e] at hq
       rw [show (gi c.To (i:Int) != gi c.aF (j:Int))=true by simp [e],cond_true,show (gi (gr c.aC (i:Int)) (j:Int) != -1) = !(gi (gr c.aC (i:Int)) (j:Int) == -1) from rfl,hq]
       all_goals (first | rfl | rw [cond_false,bF (by omega)])
    unfold kB
    rw [ao (by omega),cond_true,hK,aE]
    unfold xq at hp
    by_cases hr:(gr c.aC i).length=c.aF.length
    ·rw [show (((gr c.aC (i:Int)).length:Int) != (c.aF.length:Int))=false by simp [hr],cond_false,inner hr,n8]
     rw [show ((gr c.aC (i:Int)).length == c.aF.length)=true by simp [hr],Bool.true_and] at hp
     rw [hp,bF (by omega)]
     rfl
    ·rw [show (((gr c.aC (i:Int)).length:Int) != (c.aF.length:Int))=true by (simp; omega),cond_true]
     all_goals (rw [show ((gr c.aC (i:Int)).length == c.aF.length)=false by simp [hr],Bool.false_and] at hp; first | rfl | simp at hp)
end Go.Proofs.YtbhhmalgcnhniaaGreat
namespace Go.Proofs.YtbhhmalgcnhniaaGreat
open Go Go.Li
structure sA (c:aG):Prop extends Head c where
 u4:∀ x:Int,0≤x→x < c.aA→gi c.aF (gi c.aH x)=x
 wu:∀ x:Int,0≤x→x < c.aA→gi c.To (gi c.aH x)=x
 row:∀ f:Int,0≤f→f < c.aF.length→(gr c.aC f).length=c.aF.length
 cell:∀ f g:Int,0≤f→f < c.aF.length→0≤g→g < c.aF.length→gi c.To f=gi c.aF g→
  0≤gk c.aC f g∧gk c.aC f g < c.aF.length∧gi c.aF (gk c.aC f g)=gi c.aF f∧gi c.To (gk c.aC f g)=gi c.To g
 none:∀ f g:Int,0≤f→f < c.aF.length→0≤g→g < c.aF.length→gi c.To f≠gi c.aF g→gk c.aC f g = -1
theorem CF {c:aG} (h:py c=true):sA c:=by
 unfold py at h
 simp only [Bool.and_eq_true,List.all_eq_true] at h
 obtain ⟨h1,h2,h3⟩:=h
 have H:=El h1
 have pq:=H.il
 have tC:∀ x,0≤x→x < c.aA→yQ c x=true:=fun x a b=>h2 x (dh.2 ⟨a,by omega⟩)
 have bj:∀ f,0≤f→f < (c.aF.length:Int)→xq c f=true:=fun f a b=>h3 f (dh.2 ⟨a,b⟩)
 have jy:∀ f g,0≤f→f < (c.aF.length:Int)→0≤g→g < (c.aF.length:Int)→uM c f g=true:=fun f g a b a' b'=>by
  have:=bj f a b
  unfold xq at this
  simp only [Bool.and_eq_true,List.all_eq_true] at this
  exact this.2 g (dh.2 ⟨a',b'⟩)
 refine { H with
  u4:=fun x a b=>?_
  wu:=fun x a b=>?_
  row:=fun f a b=>?_
  cell:=fun f g a b a' b' e=>?_
  none:=fun f g a b a' b' e=>?_ }
 ·have:=tC x a b; unfold yQ at this; simp at this; exact this.1
 ·have:=tC x a b; unfold yQ at this; simp at this; exact this.2
 ·have:=bj f a b; unfold xq at this; simp only [Bool.and_eq_true,beq_iff_eq] at this; exact this.1
 ·have:=jy f g a b a' b'; unfold uM at this; rw [if_pos e] at this; simp only [Bool.and_eq_true,decide_eq_true_eq,beq_iff_eq] at this; exact ⟨this.1.1,this.1.2,this.2.1,this.2.2⟩
 ·have:=jy f g a b a' b'; unfold uM at this; rw [if_neg e] at this; simpa using this
namespace sA
variable {c:aG} (h:sA c)
include h
theorem me {f g:Int} (h0:0≤f) (h1:f < c.aF.length) (h2:0≤g) (h3:g < c.aF.length):idx (gr c.aC f) g=some (gk c.aC f g):=bL h2 (by rw [h.row f h0 h1]; exact h3)
theorem jv {f g:Int} (h0:0≤f) (h1:f < c.aF.length) (h2:0≤g) (h3:g < c.aF.length):cA c f g=some (gk c.aC f g):=by
 unfold cA; rw [h.nq h0 h1,aE,h.me h0 h1 h2 h3,aE]; rfl
theorem thenS {f g:Int} (h0:0≤f) (h1:f < c.aF.length) (h2:0≤g) (h3:g < c.aF.length):fY c f g=some (gk c.aC f g):=by
 unfold fY; rw [h.nq h0 h1,aE,h.me h0 h1 h2 h3,aE]; rfl
end sA
def uN (c:aG) (f:Int):Bool:=gk c.aC (gi c.aH (gi c.aF f)) f == f && gk c.aC f (gi c.aH (gi c.To f)) == f
def wh (c:aG) (f g h:Int):Bool:=gi c.To g == gi c.aF h && gk c.aC (gk c.aC f g) h != gk c.aC f (gk c.aC g h)
def A4 (c:aG) (f g:Int):Bool:=gi c.To f == gi c.aF g && (ns c.aF.length).any (wh c f g)
def Em (c:aG) (f:Int):Bool:=(ns c.aF.length).any (A4 c f)
def zV (c:aG):Bool:=(ns c.aF.length).all (uN c) && !((ns c.aF.length).any (Em c))
theorem Jg {c:aG} {k1 k2 k4 k6:Nat} {L0:Int→Option (Out Int (Int×Int×Int×Int))} {L1:Int→Option (Out Int (Int×Int×Int×Int))} {L2:Int→Int→Option (Out Int (Int×Int×Int×Int))} {L3:Int→Int→Int→Option (Out Int (Int×Int×Int×Int))} {z:Int×Int×Int×Int} (hz:z.1=0)
  (a0:∀ i:Nat,i < c.aF.length→uN c i=true→L0 i=some (.norm ((i+1:Nat):Int)))
  (a1:∀ i:Nat,i < c.aF.length→uN c i=false→∃ y,L0 i=some (.ret y)∧y.1≠0)
  (a2:L0 c.aF.length=some (.exit k1 c.aF.length))
  (b0:∀ i:Nat,i < c.aF.length→L1 i=af (ae k4 (ag (L2 i) 0)) fun _=>some (.norm ((i+1:Nat):Int)))
  (b2:L1 c.aF.length=some (.exit k2 c.aF.length))
  (d0:∀ i j:Nat,i < c.aF.length→j < c.aF.length→gi c.To i≠gi c.aF j→L2 i j=some (.norm ((j+1:Nat):Int)))
  (d1:∀ i j:Nat,i < c.aF.length→j < c.aF.length→gi c.To i=gi c.aF j→L2 i j=af (ae k6 (ag (L3 i j) 0)) fun _=>some (.norm ((j+1:Nat):Int)))
  (d2:∀ i:Nat,L2 i c.aF.length=some (.exit k4 c.aF.length))
  (e0:∀ i j h:Nat,i < c.aF.length→j < c.aF.length→h < c.aF.length→gi c.To i=gi c.aF j→wh c i j h=false→L3 i j h=some (.norm ((h+1:Nat):Int)))
  (e1:∀ i j h:Nat,i < c.aF.length→j < c.aF.length→h < c.aF.length→gi c.To i=gi c.aF j→wh c i j h=true→∃ y,L3 i j h=some (.ret y)∧y.1≠0)
  (e2:∀ i j:Nat,L3 i j c.aF.length=some (.exit k6 c.aF.length)) :
  ∃ y,ak (S:=Unit) (af (ae k1 (ag L0 0)) fun _=>af (ae k2 (ag L1 0)) fun _=>some (.ret z))=some y∧(y.1 == 0)=zV c:=by
 have YF:∀ i j:Nat,i < c.aF.length→j < c.aF.length→gi c.To i=gi c.aF j→
   ((ns c.aF.length).any (wh c i j)=true∧∃ y,af (S:=Int) (ae k6 (ag (L3 i j) 0)) (fun _=>some (.norm ((j+1:Nat):Int)))=some (.ret y)∧y.1≠0)∨
   ((ns c.aF.length).any (wh c i j)=false∧af (S:=Int) (ae k6 (ag (L3 i j) 0)) (fun _=>some (.norm ((j+1:Nat):Int)))=some (.norm ((j+1:Nat):Int))):=by
  intro i j hi hj he
  refine sz (ns c.aF.length) (wh c i j) (fun y:Int×Int×Int×Int=>y.1≠0) (fun h=>(h:Int)) rfl ?_ ?_ (e:=(c.aF.length:Int)) (by rw [cN]; exact e2 i j)
  ·intro h x hx hp; obtain ⟨rfl,hh⟩:=dg hx; exact e0 i j h hi hj hh he hp
  ·intro h x hx hp; obtain ⟨rfl,hh⟩:=dg hx; exact e1 i j h hi hj hh he hp
 have YG:∀ i:Nat,i < c.aF.length→
   ((ns c.aF.length).any (A4 c i)=true∧∃ y,af (S:=Int) (ae k4 (ag (L2 i) 0)) (fun _=>some (.norm ((i+1:Nat):Int)))=some (.ret y)∧y.1≠0)∨
   ((ns c.aF.length).any (A4 c i)=false∧af (S:=Int) (ae k4 (ag (L2 i) 0)) (fun _=>some (.norm ((i+1:Nat):Int)))=some (.norm ((i+1:Nat):Int))):=by
  intro i hi
  refine sz (ns c.aF.length) (A4 c i) (fun y:Int×Int×Int×Int=>y.1≠0) (fun h=>(h:Int)) rfl ?_ ?_ (e:=(c.aF.length:Int)) (by rw [cN]; exact d2 i)
  ·intro j x hx hp
   obtain ⟨rfl,hj⟩:=dg hx
   by_cases he:gi c.To i=gi c.aF j
   ·rw [d1 i j hi hj he]
    rcases YF i j hi hj he with ⟨h1,_⟩ | ⟨_,h2⟩
    ·unfold A4 at hp; rw [h1] at hp; simp [he] at hp
    ·exact h2
   ·exact d0 i j hi hj he
  ·intro j x hx hp
   obtain ⟨rfl,hj⟩:=dg hx
   unfold A4 at hp
   simp only [Bool.and_eq_true,beq_iff_eq] at hp
   rw [d1 i j hi hj hp.1]
   rcases YF i j hi hj hp.1 with ⟨_,h⟩ | ⟨h1,_⟩
   ·exact h
   ·rw [hp.2] at h1; cases h1
 rcases sz (s0:=(0:Int)) (S:=Unit) (R:=Int×Int×Int×Int) (k:=k1) (body:=L0) (f:=fun _=>af (ae k2 (ag L1 0)) fun _=>some (.ret z)) (ns c.aF.length) (fun i=>!uN c i) (fun y:Int×Int×Int×Int=>y.1≠0) (fun i=>(i:Int)) rfl
   (fun i x hx hp=>by obtain ⟨rfl,hi⟩:=dg hx; exact a0 i hi (by simpa using hp)) (fun i x hx hp=>by obtain ⟨rfl,hi⟩:=dg hx; exact a1 i hi (by simpa using hp)) (e:=(c.aF.length:Int)) (by rw [cN]; exact a2) with ⟨h1,y,h2,h3⟩ | ⟨h1,h2⟩
 ·refine ⟨y,by rw [h2]; rfl,?_⟩
  unfold zV
  rw [n8] at h1
  simp only [Bool.not_eq_true'] at h1
  rw [h1]
  simpa using h3
 ·rw [n8] at h1
  simp only [Bool.not_eq_false'] at h1
  rw [h2]
  rcases sz (s0:=(0:Int)) (S:=Unit) (R:=Int×Int×Int×Int) (k:=k2) (body:=L1) (f:=fun _=>some (.ret z)) (ns c.aF.length) (Em c) (fun y:Int×Int×Int×Int=>y.1≠0) (fun i=>(i:Int)) rfl
   (fun i x hx hp=>by
    obtain ⟨rfl,hi⟩:=dg hx
    rw [b0 i hi]
    rcases YG i hi with ⟨q1,_⟩ | ⟨_,q2⟩
    ·unfold Em at hp; rw [q1] at hp; cases hp
    ·exact q2)
   (fun i x hx hp=>by
    obtain ⟨rfl,hi⟩:=dg hx
    rw [b0 i hi]
    rcases YG i hi with ⟨_,q⟩ | ⟨q1,_⟩
    ·exact q
    ·unfold Em at hp; rw [q1] at hp; cases hp) (e:=(c.aF.length:Int)) (by rw [cN]; exact b2) with ⟨g1,y,g2,g3⟩ | ⟨g1,g2⟩
  ·refine ⟨y,by rw [g2]; rfl,?_⟩
   unfold zV
   rw [h1,g1]
   simpa using g3
  ·refine ⟨z,by rw [g2]; rfl,?_⟩
   unfold zV
   rw [h1,g1,hz]
   rfl
section
variable {c:aG} (H:sA c)
include H
theorem MD:∃ y,oI c=some y∧(y.1 == 0)=zV c:=by
 have hm:=H.m
 have pq:=H.il
 have u0:∀ i:Nat,i < c.aF.length→mB c i=if uN c i then some (Out.norm ((i+1:Nat):Int)) else some (Out.ret ((1:Int),(i:Int),(0:Int),(0:Int))):=by
  intro i hi
  have f1:=H.fr (f:=(i:Int)) (by omega) (by omega)
  have t1:=H.to (f:=(i:Int)) (by omega) (by omega)
  have i1:=H.id f1.1 f1.2
  have i2:=H.id t1.1 t1.2
  unfold mB
  rw [ao (by omega),cond_true,H.ic (by omega) (by omega),aE,H.kz f1.1 f1.2,aE,H.nq i1.1 i1.2,aE,H.me i1.1 i1.2 (by omega) (by omega),aE]
  rw [H.nq (by omega) (by omega),aE,H.ig (by omega) (by omega),aE,H.kz t1.1 t1.2,aE,H.me (by omega) (by omega) i2.1 i2.2,aE]
  unfold uN
  by_cases e1:gk c.aC (gi c.aH (gi c.aF i)) i=i
  ·by_cases e2:gk c.aC i (gi c.aH (gi c.To i))=i
   ·simp [e1,e2,bF (show i < 9223372036854775807 by omega)]
   ·simp [e1,e2,sa e2]
  ·simp [e1,sa e1]
 unfold oI
 refine Jg (c:=c) (z:=(0,0,0,0)) rfl (L2:=kD c) (L3:=kC c) (k4:=4) (k6:=6) ?_ ?_ ?_ ?_ ?_ ?_ ?_ ?_ ?_ ?_ ?_
 ·intro i hi hp; rw [u0 i hi,hp]; rfl
 ·intro i hi hp; rw [u0 i hi,hp]; exact ⟨_,rfl,by simp⟩
 ·unfold mB; rw [ay (by omega),cond_false]
 ·intro i hi; unfold oU; rw [ao (by omega),cond_true,bF (by omega)]
 ·unfold oU; rw [ay (by omega),cond_false]
 ·intro i j hi hj he
  unfold kD
  rw [ao (by omega),cond_true,H.ig (by omega) (by omega),aE,H.ic (by omega) (by omega),aE,show (gi c.To (i:Int) != gi c.aF (j:Int))=true by simp [he],cond_true,bF (by omega)]
 ·intro i j hi hj he
  unfold kD
  rw [ao (by omega),cond_true,H.ig (by omega) (by omega),aE,H.ic (by omega) (by omega),aE,show (gi c.To (i:Int) != gi c.aF (j:Int))=false by simp [he],cond_false,bF (by omega)]
 ·intro i; unfold kD; rw [ay (by omega),cond_false]
 ·intro i j h hi hj hh he hp
  unfold kC
  rw [ao (by omega),cond_true,H.ig (by omega) (by omega),aE,H.ic (by omega) (by omega),aE]
  unfold wh at hp
  by_cases e:gi c.To j=gi c.aF h
  ·have c1:=H.cell i j (by omega) (by omega) (by omega) (by omega) he
   have c2:=H.cell j h (by omega) (by omega) (by omega) (by omega) e
   rw [show (gi c.To (j:Int) == gi c.aF (h:Int))=true by simp [e]] at hp ⊢
   rw [cond_true,H.nq (by omega) (by omega),aE,H.me (by omega) (by omega) (by omega) (by omega),aE,H.nq c1.1 c1.2.1,aE,H.me c1.1 c1.2.1 (by omega) (by omega),aE,aE,H.nq (by omega) (by omega),aE,H.me (by omega) (by omega) (by omega) (by omega),aE,H.me (by omega) (by omega) c2.1 c2.2.1,aE]
   rw [Bool.true_and] at hp
   rw [hp,aE,cond_false,bF (by omega)]
  ·rw [show (gi c.To (j:Int) == gi c.aF (h:Int))=false by simp [e],cond_false,aE,cond_false,bF (by omega)]
 ·intro i j h hi hj hh he hp
  unfold kC
  rw [ao (by omega),cond_true,H.ig (by omega) (by omega),aE,H.ic (by omega) (by omega),aE]
  unfold wh at hp
  simp only [Bool.and_eq_true] at hp
  have e:gi c.To j=gi c.aF h:=by simpa using hp.1
  have c1:=H.cell i j (by omega) (by omega) (by omega) (by omega) he
  have c2:=H.cell j h (by omega) (by omega) (by omega) (by omega) e
  rw [hp.1,cond_true,H.nq (by omega) (by omega),aE,H.me (by omega) (by omega) (by omega) (by omega),aE,H.nq c1.1 c1.2.1,aE,H.me c1.1 c1.2.1 (by omega) (by omega),aE,aE,H.nq (by omega) (by omega),aE,H.me (by omega) (by omega) (by omega) (by omega),aE,H.me (by omega) (by omega) c2.1 c2.2.1,aE]
  rw [hp.2,aE,cond_true]
  exact ⟨_,rfl,by simp⟩
 ·intro i j; unfold kC; rw [ay (by omega),cond_false]
theorem ME:∃ y,kE c=some y∧(y.1 == 0)=zV c:=by
 have hm:=H.m
 have pq:=H.il
 have u0:∀ i:Nat,i < c.aF.length→iM c c.aF.length i=if uN c i then some (Out.norm ((i+1:Nat):Int)) else some (Out.ret ((1:Int),(i:Int),(0:Int),(0:Int))):=by
  intro i hi
  have f1:=H.fr (f:=(i:Int)) (by omega) (by omega)
  have t1:=H.to (f:=(i:Int)) (by omega) (by omega)
  have i1:=H.id f1.1 f1.2
  have i2:=H.id t1.1 t1.2
  unfold iM
  rw [ao (by omega),cond_true,H.ic (by omega) (by omega),aE,H.kz f1.1 f1.2,aE,H.jv i1.1 i1.2 (by omega) (by omega),aE]
  rw [H.ig (by omega) (by omega),aE,H.kz t1.1 t1.2,aE,H.jv (by omega) (by omega) i2.1 i2.2,aE]
  unfold uN
  by_cases e1:gk c.aC (gi c.aH (gi c.aF i)) i=i
  ·by_cases e2:gk c.aC i (gi c.aH (gi c.To i))=i
   ·simp [e1,e2,bF (show i < 9223372036854775807 by omega)]
   ·simp [e1,e2,sa e2]
  ·simp [e1,sa e1]
 have pos:∀ i j:Nat,i < c.aF.length→j < c.aF.length→(gi c.To i=gi c.aF j→0≤gk c.aC i j)∧(gi c.To i≠gi c.aF j→gk c.aC i j < 0):=by
  intro i j hi hj
  refine ⟨fun e=>(H.cell i j (by omega) (by omega) (by omega) (by omega) e).1,fun e=>?_⟩
  rw [H.none i j (by omega) (by omega) (by omega) (by omega) e]; decide
 unfold kE cX
 rw [show ak (S:=Unit) (some (Out.ret (c.aF.length:Int)))=some (c.aF.length:Int) from rfl,aE]
 refine Jg (c:=c) (z:=(0,0,0,0)) rfl (L2:=gA c c.aF.length) (L3:=fZ c c.aF.length) (k4:=4) (k6:=6) ?_ ?_ ?_ ?_ ?_ ?_ ?_ ?_ ?_ ?_ ?_
 ·intro i hi hp; rw [u0 i hi,hp]; rfl
 ·intro i hi hp; rw [u0 i hi,hp]; exact ⟨_,rfl,by simp⟩
 ·unfold iM; rw [ay (by omega),cond_false]
 ·intro i hi; unfold kW; rw [ao (by omega),cond_true,bF (by omega)]
 ·unfold kW; rw [ay (by omega),cond_false]
 ·intro i j hi hj he
  unfold gA
  rw [ao (by omega),cond_true,H.jv (by omega) (by omega) (by omega) (by omega),aE,ao ((pos i j hi hj).2 he),cond_true,bF (by omega)]
 ·intro i j hi hj he
  have:=(pos i j hi hj).1 he
  unfold gA
  rw [ao (by omega),cond_true,H.jv (by omega) (by omega) (by omega) (by omega),aE,ay (by omega),cond_false,bF (by omega)]
 ·intro i; unfold gA; rw [ay (by omega),cond_false]
 ·intro i j h hi hj hh he hp
  unfold fZ
  rw [ao (by omega),cond_true,H.jv (by omega) (by omega) (by omega) (by omega),aE]
  unfold wh at hp
  by_cases e:gi c.To j=gi c.aF h
  ·have c1:=H.cell i j (by omega) (by omega) (by omega) (by omega) he
   have c2:=H.cell j h (by omega) (by omega) (by omega) (by omega) e
   rw [show (gi c.To (j:Int) == gi c.aF (h:Int))=true by simp [e],Bool.true_and] at hp
   rw [ao (show gk c.aC j h ≥ 0 from c2.1),cond_true,H.jv (by omega) (by omega) (by omega) (by omega),aE,H.jv c1.1 c1.2.1 (by omega) (by omega),aE,aE,H.jv (by omega) (by omega) c2.1 c2.2.1,aE,hp,aE,cond_false,bF (by omega)]
  ·have:=(pos j h hj hh).2 e
   rw [ay (show ¬ gk c.aC j h ≥ 0 by omega),cond_false,aE,cond_false,bF (by omega)]
 ·intro i j h hi hj hh he hp
  unfold fZ
  unfold wh at hp
  simp only [Bool.and_eq_true] at hp
  have e:gi c.To j=gi c.aF h:=by simpa using hp.1
  have c1:=H.cell i j (by omega) (by omega) (by omega) (by omega) he
  have c2:=H.cell j h (by omega) (by omega) (by omega) (by omega) e
  rw [ao (by omega),cond_true,H.jv (by omega) (by omega) (by omega) (by omega),aE,ao (show gk c.aC j h ≥ 0 from c2.1),cond_true,H.jv (by omega) (by omega) (by omega) (by omega),aE,H.jv c1.1 c1.2.1 (by omega) (by omega),aE,aE,H.jv (by omega) (by omega) c2.1 c2.2.1,aE,hp.2,aE,cond_true]
  exact ⟨_,rfl,by simp⟩
 ·intro i j; unfold fZ; rw [ay (by omega),cond_false]
end
structure lr (c:aG):Prop extends sA c where
 FD:∀ f:Int,0≤f→f < c.aF.length→gk c.aC (gi c.aH (gi c.aF f)) f=f
 FG:∀ f:Int,0≤f→f < c.aF.length→gk c.aC f (gi c.aH (gi c.To f))=f
 assoc:∀ f g h:Int,0≤f→f < c.aF.length→0≤g→g < c.aF.length→0≤h→h < c.aF.length→gi c.To f=gi c.aF g→gi c.To g=gi c.aF h→
  gk c.aC (gk c.aC f g) h=gk c.aC f (gk c.aC g h)
def ou (c:aG):Bool:=py c && zV c
theorem xr {c:aG} (h:ou c=true):lr c:=by
 unfold ou at h
 simp only [Bool.and_eq_true] at h
 obtain ⟨h1,h2⟩:=h
 have H:=CF h1
 unfold zV at h2
 simp only [Bool.and_eq_true,List.all_eq_true,Bool.not_eq_true',List.any_eq_false] at h2
 obtain ⟨h2,h3⟩:=h2
 refine { H with
  FD:=fun f a b=>?_
  FG:=fun f a b=>?_
  assoc:=fun f g h a b a' b' a'' b'' e1 e2=>?_ }
 ·have:=h2 f (dh.2 ⟨a,b⟩); unfold uN at this; simp at this; exact this.1
 ·have:=h2 f (dh.2 ⟨a,b⟩); unfold uN at this; simp at this; exact this.2
 ·have:=h3 f (dh.2 ⟨a,b⟩)
  unfold Em at this
  simp only [List.any_eq_true,not_exists,not_and] at this
  have:=this g (dh.2 ⟨a',b'⟩)
  unfold A4 at this
  simp only [Bool.and_eq_true,beq_iff_eq,List.any_eq_true,not_and,not_exists] at this
  have:=this e1 h (dh.2 ⟨a'',b''⟩)
  unfold wh at this
  simpa [e2] using this
theorem MG {c:aG} (hs:fg c):pR c=some (ou c):=by
 unfold pR
 rw [MB hs,aE]
 unfold ou
 cases h:py c with
 | false=>rfl
 | true=>
  obtain ⟨y,h1,h2⟩:=MD (CF h)
  rw [Bool.not_true,cond_false,h1,aE,h2]; rfl
theorem Hx {c:aG} (hs:fg c):fN c=some (ou c):=by
 unfold fN
 rw [MC hs,aE]
 unfold ou
 cases h:py c with
 | false=>rfl
 | true=>
  obtain ⟨y,h1,h2⟩:=ME (CF h)
  rw [Bool.not_true,cond_false,h1,aE,h2]; rfl
end Go.Proofs.YtbhhmalgcnhniaaGreat
