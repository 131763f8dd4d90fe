/- Is a table a category: the reference and the program agree, and what is known of a category. No condition beside those that each theorem names. -/
import Derived.Test.YtilhlobfebngdaaGreatPa
namespace Go.Li
open Go
section
variable {S S1 R α:Type} {body:S1→Option (Out S1 R)}
theorem zj {k:Nat} {f:S1→Option (Out S R)} {s0 e:S1} (l:List α) (p:α→Bool) (G:R→Prop) (st:Nat→S1) (h0:st 0=s0) (step:∀ i x,l[i]? = some x→p x=false→body (st i)=some (.norm (st (i+1))))
  (OZ:∀ i x,l[i]? = some x→p x=true→∃ y,body (st i)=some (.ret y)∧G y) (last:body (st l.length)=some (.exit k e)) :
  (l.any p=true∧∃ y,ah (ae k (aj body s0)) f=some (.ret y)∧G y)∨(l.any p=false∧ah (ae k (aj body s0)) f=f e):=by
 have key:∀ (m:List α) (i:Nat),l.drop i=m→i≤l.length→(m.any p=true∧∃ y,aj body (st i)=some (.ret y)∧G y)∨(m.any p=false∧aj body (st i)=some (.exit k e)):=by
  intro m
  induction m with
  | nil=>
   intro i hd hi
   have:i=l.length:=by have:=congrArg List.length hd; simp at this; omega
   subst this
   exact .inr ⟨rfl,yf last⟩
  | cons x m ih=>
   intro i hd hi
   have bp:i < l.length:=by
    rcases Nat.lt_or_ge i l.length with h | h
    ·exact h
    ·rw [List.drop_eq_nil_of_le h] at hd; cases hd
   have hx:l[i]? = some x:=by
    rw [List.drop_eq_getElem_cons bp] at hd
    rw [List.getElem?_eq_getElem bp]; exact congrArg some (List.cons.inj hd).1
   have jh:l.drop (i+1)=m:=by
    rw [List.drop_eq_getElem_cons bp] at hd; exact (List.cons.inj hd).2
   cases hp:p x with
   | true=>
    obtain ⟨y,hy,hg⟩:=OZ i x hx hp
    exact .inl ⟨by simp [hp],y,C1 hy,hg⟩
   | false=>
    rw [u9,step i x hx hp]
    simpa [hp] using ih (i+1) jh bp
 rcases key l 0 rfl (Nat.zero_le _) with ⟨h1,y,h2,h3⟩ | ⟨h1,h2⟩
 ·rw [h0] at h2; exact .inl ⟨h1,y,FC h2,h3⟩
 ·rw [h0] at h2; exact .inr ⟨h1,AM h2⟩
theorem O1 {n i x:Nat} (h:(List.range n)[i]? = some x):x=i∧i < n:=by
 have hi:=cg h
 rw [List.getElem?_eq_getElem hi] at h
 simp at h hi
 exact ⟨h.symm,hi⟩
end
def gi (l:List Int) (j:Int):Int:=l.getD j.toNat 0
def gr (l:List (List Int)) (j:Int):List Int:=l.getD j.toNat []
def gk (l:List (List Int)) (i j:Int):Int:=gi (gr l i) j
theorem bS {l:List Int} {j:Int} (h0:0≤j) (h1:j < l.length):idx l j=some (gi l j):=by
 rw [C2 h0 h1]; unfold gi; rw [List.getD_eq_getElem?_getD,List.getElem?_eq_getElem (by omega)]; rfl
theorem jz {l:List (List Int)} {j:Int} (h0:0≤j) (h1:j < l.length):idx l j=some (gr l j):=by
 rw [C2 h0 h1]; unfold gr; rw [List.getD_eq_getElem?_getD,List.getElem?_eq_getElem (by omega)]; rfl
theorem cy {l:List Int} {j:Int} (h0:0≤j) (h1:j < l.length):gi l j∈l:=by
 unfold gi; rw [List.getD_eq_getElem?_getD,List.getElem?_eq_getElem (by omega)]; exact List.getElem_mem _
theorem kq {l:List (List Int)} {j:Int} (h0:0≤j) (h1:j < l.length):gr l j∈l:=by
 unfold gr; rw [List.getD_eq_getElem?_getD,List.getElem?_eq_getElem (by omega)]; exact List.getElem_mem _
def ns (n:Nat):List Int:=(List.range n).map Int.ofNat
theorem gh {n i:Nat} {x:Int} (h:(ns n)[i]? = some x):x=(i:Int)∧i < n:=by
 unfold ns at h
 rw [List.getElem?_map] at h
 cases hr:(List.range n)[i]? with
 | none=>rw [hr] at h; cases h
 | some y=>
  rw [hr] at h
  obtain ⟨rfl,hi⟩:=O1 hr
  exact ⟨(Option.some.inj h).symm,hi⟩
theorem cT (n:Nat):(ns n).length=n:=by simp [ns]
theorem fj {n:Nat} {x:Int}:x∈ns n↔0≤x∧x < n:=by
 unfold ns
 simp only [List.mem_map,List.mem_range]
 constructor
 ·rintro ⟨a,h1,rfl⟩; simp; omega
 ·rintro ⟨h1,h2⟩; exact ⟨x.toNat,by omega,by simp; omega⟩
end Go.Li
namespace Go.Proofs.YtilhlobfebngdaaGreat
open Go Go.Li
def kj (n:Int) (f:List Int):Bool:=f.all fun y=>decide (0≤y) && decide (y < n)
theorem ou {n:Int} {f:List Int}:kj n f=true↔∀ y∈f,0≤y∧y < n:=by simp [kj]
theorem ov {α:Type} (l:List α) (p:α→Bool):l.any (fun x=>!p x) = !l.all p:=by
 induction l with
 | nil=>rfl
 | cons a l ih=>simp only [List.any_cons,List.all_cons,ih,Bool.not_and]
theorem AO (n:Int) (f:List Int) (hf:f.length≤1048576000):jZ n f=some (kj n f):=by
 unfold jZ
 refine (congrArg aq (lp f (fun y=>!(decide (0≤y) && decide (y < n))) (fun i=>(i:Int)) rfl ?_ ?_ (e:=(f.length:Int)) (y:=false) ?_)).trans ?_
 ·intro i x hx hp
  have hi:=cg hx
  unfold oF
  simp only [Bool.not_eq_false',Bool.and_eq_true,decide_eq_true_eq] at hp
  rw [bb (by omega),cond_true,cw,hx,aF,br (by omega),cond_false,aF,br (by omega),aF,cond_false,cA (by omega)]
 ·intro i x hx hp
  have hi:=cg hx
  unfold oF
  rw [bb (by omega),cond_true,cw,hx,aF,aF]
  by_cases h:x < 0
  ·rw [bb h,cond_true,aF,cond_true]
  ·have:n≤x:=by simp at hp; omega
   rw [br h,cond_false,bb (by omega),aF,cond_true]
 ·unfold oF
  rw [br (by omega),cond_false]
 ·rw [ov]
  show aq (if (!kj n f)=true then _ else _)=_
  cases kj n f <;> rfl
theorem DB (n a b:Int):lZ n a b=some (decide (a≤n) && decide (n≤b)):=by
 unfold lZ
 by_cases h:a≤n
 ·rw [bb (show n ≥ a from h),cond_true]; rfl
 ·rw [br (show ¬ n ≥ a from h),cond_false]; rfl
theorem XN (n a b:Int):tA n a b=some (decide (a≤n) && decide (n≤b)):=by
 unfold tA
 by_cases h:a≤n
 ·rw [bb (show n ≥ a from h),cond_true]; rfl
 ·rw [br (show ¬ n ≥ a from h),cond_false]; rfl
theorem within (f:List Int) (n:Int) (hf:f.length≤1048576000) (hn:0≤n) (Tn:n≤1048576000):gK f n=some (kj n f):=by
 unfold gK
 refine (congrArg aq (lp f (fun y=>!(decide (0≤y) && decide (y < n))) (fun i=>(i:Int)) rfl ?_ ?_ (e:=(f.length:Int)) (y:=false) ?_)).trans ?_
 ·intro i x hx hp
  have hi:=cg hx
  unfold oH
  simp only [Bool.not_eq_false',Bool.and_eq_true,decide_eq_true_eq] at hp
  rw [bb (by omega),cond_true,cw,hx,aF,eI (by omega) (by omega),DB,aF,bb hp.1,bb (by omega)]
  simp only [Bool.and_self,Bool.not_true,cond_false]
  rw [cA (by omega)]
 ·intro i x hx hp
  have hi:=cg hx
  unfold oH
  rw [bb (by omega),cond_true,cw,hx,aF,eI (by omega) (by omega),DB,aF]
  have:(decide (0≤x) && decide (x≤n - 1))=false:=by
   by_cases h:x < 0
   ·rw [br (by omega)]; rfl
   ·have:n≤x:=by simp at hp; omega
    rw [br (show ¬ x≤n - 1 by omega),Bool.and_false]
  rw [this]; rfl
 ·unfold oH
  rw [br (by omega),cond_false]
 ·rw [ov]
  show aq (if (!kj n f)=true then _ else _)=_
  cases kj n f <;> rfl
def w6 (c:aI):Bool:=((decide (0≤c.aA) && decide (c.aA≤8)) && (decide (c.aG.length≤40) && kj c.aA c.aG)) && (((c.To.length == c.aG.length) && kj c.aA c.To) && ((c.aE.length == c.aG.length) && (((c.aJ.length:Int) == c.aA) && kj c.aG.length c.aJ)))
def AP (c:aI) (x:Int):Bool:=gi c.aG (gi c.aJ x) == x && gi c.To (gi c.aJ x) == x
def vZ (c:aI) (f g:Int):Bool:=
 if gi c.To f=gi c.aG g then (decide (0≤gk c.aE f g) && decide (gk c.aE f g < c.aG.length)) && (gi c.aG (gk c.aE f g) == gi c.aG f && gi c.To (gk c.aE f g) == gi c.To g)
 else gk c.aE f g == -1
def zk (c:aI) (f:Int):Bool:=((gr c.aE f).length == c.aG.length) && (ns c.aG.length).all fun g=>vZ c f g
def p8 (c:aI):Bool:=w6 c && ((ns c.aJ.length).all (AP c) && (ns c.aG.length).all (zk c))
structure Head (c:aI):Prop where
 o0:0≤c.aA
 o8:c.aA≤8
 m:c.aG.length≤40
 f:∀ x∈c.aG,0≤x∧x < c.aA
 tl:c.To.length=c.aG.length
 t:∀ x∈c.To,0≤x∧x < c.aA
 kl:c.aE.length=c.aG.length
 il:(c.aJ.length:Int)=c.aA
 i:∀ x∈c.aJ,0≤x∧x < c.aG.length
theorem Gr {c:aI} (h:w6 c=true):Head c:=by
 unfold w6 at h
 simp only [Bool.and_eq_true,decide_eq_true_eq,ou,beq_iff_eq] at h
 obtain ⟨⟨⟨h1,h2⟩,h3,h4⟩,⟨h5,h6⟩,h7,h8,h9⟩:=h
 exact ⟨h1,h2,h3,h4,h5,h6,h7,h8,h9⟩
set_option linter.unusedSectionVars false
namespace Head
variable {c:aI} (h:Head c)
include h
theorem fr {f:Int} (h0:0≤f) (h1:f < c.aG.length):0≤gi c.aG f∧gi c.aG f < c.aA:=h.f _ (cy h0 h1)
theorem to {f:Int} (h0:0≤f) (h1:f < c.aG.length):0≤gi c.To f∧gi c.To f < c.aA:=h.t _ (cy h0 (by rw [h.tl]; exact h1))
theorem id {x:Int} (h0:0≤x) (h1:x < c.aA):0≤gi c.aJ x∧gi c.aJ x < c.aG.length:=h.i _ (cy h0 (by rw [h.il]; exact h1))
theorem iq {f:Int} (h0:0≤f) (h1:f < c.aG.length):idx c.aG f=some (gi c.aG f):=bS h0 h1
theorem jf {f:Int} (h0:0≤f) (h1:f < c.aG.length):idx c.To f=some (gi c.To f):=bS h0 (by rw [h.tl]; exact h1)
theorem nh {x:Int} (h0:0≤x) (h1:x < c.aA):idx c.aJ x=some (gi c.aJ x):=bS h0 (by rw [h.il]; exact h1)
theorem me {f:Int} (h0:0≤f) (h1:f < c.aG.length):idx c.aE f=some (gr c.aE f):=jz h0 (by rw [h.kl]; exact h1)
end Head
theorem O2 {c:aI} (hs:gq c):qX c=some (p8 c):=by
 obtain ⟨z1,z2,z3,z4,z5⟩:=hs
 have ends:∀ (l:List Int) (n:Nat) (o:Int),l.length≤1048576→nS l (n:Int) o=some ((l.length == n) && kj o l):=by
  intro l n o hl
  unfold nS
  by_cases e:l.length=n
  ·rw [show ((l.length:Int) == (n:Int))=true by simp [e],cond_true,AO _ _ (by omega),show (l.length == n)=true by simp [e]]; rfl
  ·rw [show ((l.length:Int) == (n:Int))=false by simp; omega,cond_false,show (l.length == n)=false by simp [e]]; rfl
 unfold qX
 rw [XN,aF,ends _ _ _ z1,ends _ _ _ z2]
 have e1:((c.aE.length:Int) != (c.aG.length:Int)) = !(c.aE.length == c.aG.length):=by
  by_cases e:c.aE.length=c.aG.length
  ·simp [e]
  ·rw [show (c.aE.length == c.aG.length)=false by simp [e]]; simp; omega
 have e2:decide ((c.aG.length:Int) > 40) = !decide (c.aG.length≤40):=by
  by_cases e:c.aG.length≤40
  ·rw [bb e,br (by omega)]; rfl
  ·rw [br e,bb (by omega)]; rfl
 rw [e1,e2,AO _ _ (by omega)]
 cases hh:w6 c with
 | false=>
  have:p8 c=false:=by unfold p8; rw [hh]; rfl
  rw [this]
  unfold w6 at hh
  generalize (decide (0≤c.aA) && decide (c.aA≤8))=a1 at *
  generalize decide (c.aG.length≤40)=a2 at *
  generalize kj c.aA c.aG=a3 at *
  generalize (c.To.length == c.aG.length)=a4 at *
  generalize kj c.aA c.To=a5 at *
  generalize (c.aE.length == c.aG.length)=a6 at *
  have e3:((c.aJ.length:Int) != c.aA) = !((c.aJ.length:Int) == c.aA):=rfl
  rw [e3]
  generalize ((c.aJ.length:Int) == c.aA)=a7 at *
  generalize kj (c.aG.length:Int) c.aJ=a8 at *
  simp only [beq_self_eq_true,Bool.true_and]
  cases a1 <;> first | rfl | (cases a2 <;> first | rfl | (cases a3 <;> first | rfl | (cases a4 <;> first | rfl | (cases a5 <;> first | rfl | (cases a6 <;> first | rfl | (cases a7 <;> first | rfl | (cases a8 <;> first | rfl | (cases hh))))))))
 | true=>
  have H:=Gr hh
  have JR:=hh
  unfold w6 at JR
  simp only [Bool.and_eq_true] at JR
  obtain ⟨⟨⟨b1,KT⟩,b2,b3⟩,⟨b4,b5⟩,b6,b7,b8⟩:=JR
  rw [b1,KT,b2,b3,b4,b5,b6,b8,show ((c.aJ.length:Int) != c.aA) = !((c.aJ.length:Int) == c.aA) from rfl,b7]
  simp only [beq_self_eq_true,Bool.and_self,Bool.not_true,cond_false,aF]
  have hm:=H.m
  have uj:=H.il
  refine (congrArg aq (lp (ns c.aJ.length) (fun x=>!AP c x) (fun i=>(i:Int)) rfl ?_ ?_ (e:=(c.aJ.length:Int)) (y:=false) ?_)).trans ?_
  ·intro i x hx hp
   obtain ⟨rfl,hi⟩:=gh hx
   have:=H.id (x:=(i:Int)) (by omega) (by omega)
   unfold nE
   unfold AP at hp
   simp only [Bool.not_eq_false',Bool.and_eq_true,beq_iff_eq] at hp
   rw [bb (by omega),cond_true,H.nh (by omega) (by omega),aF,H.iq this.1 this.2,aF,hp.1,bne_self_eq_false,cond_false,aF,H.jf this.1 this.2,aF,hp.2,bne_self_eq_false,aF,cond_false,cA (by omega)]
  ·intro i x hx hp
   obtain ⟨rfl,hi⟩:=gh hx
   have:=H.id (x:=(i:Int)) (by omega) (by omega)
   unfold nE
   unfold AP at hp
   rw [bb (by omega),cond_true,H.nh (by omega) (by omega),aF,H.iq this.1 this.2,aF]
   by_cases e:gi c.aG (gi c.aJ i)=i
   ·rw [e,bne_self_eq_false,cond_false,aF,H.jf this.1 this.2,aF]
    have:(gi c.To (gi c.aJ i) != (i:Int))=true:=by
     rw [e] at hp; simpa using hp
    rw [this]; rfl
   ·rw [show (gi c.aG (gi c.aJ i) != (i:Int))=true by simp [e]]; rfl
  ·unfold nE
   rw [cT,br (by omega),cond_false]
  rw [ov]
  unfold p8
  rw [hh]
  cases uY:(ns c.aJ.length).all (AP c) with
  | false=>rfl
  | true=>
   simp only [Bool.not_true,Bool.false_eq_true,if_false,Bool.true_and]
   refine (congrArg aq (lp (ns c.aG.length) (fun f=>!zk c f) (fun i=>(i:Int)) rfl ?_ ?_ (e:=(c.aG.length:Int)) (y:=false) ?_)).trans ?_
   rotate_left 2
   ·unfold qW
    rw [cT,br (by omega),cond_false]
   ·rw [ov]
    cases (ns c.aG.length).all (zk c) <;> rfl
   all_goals
    intro i x hx hp
    obtain ⟨rfl,hi⟩:=gh hx
    have hK:=H.me (f:=(i:Int)) (by omega) (by omega)
    have inner:(gr c.aE i).length=c.aG.length→ah (S:=Int) (ae 4 (aj (nF c i) (0:Int))) (fun Ao=>(some (Out.norm (ao ((i:Int)+(1:Int)))))) =
      if (ns c.aG.length).any (fun g=>!vZ c i g) then some (.ret false) else some (Out.norm (ao ((i:Int)+(1:Int)))):=by
     intro hr
     refine lp (ns c.aG.length) (fun g=>!vZ c i g) (fun j=>(j:Int)) rfl ?_ ?_ (e:=(c.aG.length:Int)) (y:=false) ?_
     rotate_left 2
     ·unfold nF
      rw [cT,br (by omega),cond_false]
     all_goals
      intro j y hy hq
      obtain ⟨rfl,hj⟩:=gh hy
      unfold nF
      rw [bb (by omega),cond_true,hK,aF,bS (by omega) (by omega),aF,H.jf (by omega) (by omega),aF,H.iq (by omega) (by omega),aF]
      unfold vZ gk at hq
      by_cases e:gi c.To i=gi c.aG j
      ·rw [if_pos e] at hq
       rw [show (gi c.To (i:Int) != gi c.aG (j:Int))=false by simp [e],cond_false]
       by_cases l0:gi (gr c.aE i) j < 0
       ·rw [br (show ¬ 0≤gi (gr c.aE i) j by omega)] at hq
        rw [bb l0,cond_true,aF,cond_true]
        all_goals (first | rfl | simp at hq)
       ·rw [bb (show 0≤gi (gr c.aE i) j by omega)] at hq
        rw [br l0,cond_false]
        by_cases l1:gi (gr c.aE i) j < c.aG.length
        ·rw [bb l1] at hq
         rw [br (show ¬ gi (gr c.aE i) j ≥ c.aG.length by omega),cond_false,H.iq (by omega) l1,aF,H.iq (by omega) (by omega),aF]
         by_cases q1:gi c.aG (gi (gr c.aE i) j)=gi c.aG i
         ·rw [show (gi c.aG (gi (gr c.aE (i:Int)) (j:Int)) == gi c.aG (i:Int))=true by simp [q1]] at hq
          rw [show (gi c.aG (gi (gr c.aE (i:Int)) (j:Int)) != gi c.aG (i:Int))=false by simp [q1],cond_false,H.jf (by omega) l1,aF,H.jf (by omega) (by omega),aF,aF]
          simp only [Bool.and_self,Bool.true_and] at hq
          rw [show (gi c.To (gi (gr c.aE (i:Int)) (j:Int)) != gi c.To (j:Int)) = !(gi c.To (gi (gr c.aE (i:Int)) (j:Int)) == gi c.To (j:Int)) from rfl,hq]
          all_goals (first | rfl | rw [cond_false,cA (by omega)])
         ·rw [show (gi c.aG (gi (gr c.aE (i:Int)) (j:Int)) == gi c.aG (i:Int))=false by simp [q1]] at hq
          rw [show (gi c.aG (gi (gr c.aE (i:Int)) (j:Int)) != gi c.aG (i:Int))=true by simp [q1],cond_true]
          all_goals (first | rfl | simp at hq)
        ·rw [br l1] at hq
         rw [bb (show gi (gr c.aE i) j ≥ c.aG.length by omega),cond_true]
         all_goals (first | rfl | simp at hq)
      ·rw [if_neg e] at hq
       rw [show (gi c.To (i:Int) != gi c.aG (j:Int))=true by simp [e],cond_true,show (gi (gr c.aE (i:Int)) (j:Int) != -1) = !(gi (gr c.aE (i:Int)) (j:Int) == -1) from rfl,hq]
       all_goals (first | rfl | rw [cond_false,cA (by omega)])
    unfold qW
    rw [bb (by omega),cond_true,hK,aF]
    unfold zk at hp
    by_cases hr:(gr c.aE i).length=c.aG.length
    ·rw [show (((gr c.aE (i:Int)).length:Int) != (c.aG.length:Int))=false by simp [hr],cond_false,inner hr,ov]
     rw [show ((gr c.aE (i:Int)).length == c.aG.length)=true by simp [hr],Bool.true_and] at hp
     rw [hp,cA (by omega)]
     rfl
    ·rw [show (((gr c.aE (i:Int)).length:Int) != (c.aG.length:Int))=true by (simp; omega),cond_true]
     all_goals (rw [show ((gr c.aE (i:Int)).length == c.aG.length)=false by simp [hr],Bool.false_and] at hp; first | rfl | simp at hp)
end Go.Proofs.YtilhlobfebngdaaGreat
namespace Go.Proofs.YtilhlobfebngdaaGreat
open Go Go.Li
set_option linter.unusedSectionVars false
theorem C3 {c:aI} (H:Head c) {f:Int} (h0:0≤f) (h1:f < c.aG.length):eR c f=some (uT.mk (gi c.aG f) (gi c.To f)):=by
 unfold eR
 rw [H.iq h0 h1,aF,H.jf h0 h1,aF]; rfl
theorem O3 {c:aI} (hs:gq c):jK c=some (p8 c):=by
 obtain ⟨z1,z2,z3,z4,z5⟩:=hs
 unfold jK dH
 rw [show aq (S:=Unit) (some (Out.ret (c.aG.length:Int)))=some (c.aG.length:Int) from rfl,aF,DB,aF]
 have e1:((c.aE.length:Int) != (c.aG.length:Int)) = !(c.aE.length == c.aG.length):=by
  by_cases e:c.aE.length=c.aG.length
  ·simp [e]
  ·rw [show (c.aE.length == c.aG.length)=false by simp [e]]; simp; omega
 have e1':((c.To.length:Int) != (c.aG.length:Int)) = !(c.To.length == c.aG.length):=by
  by_cases e:c.To.length=c.aG.length
  ·simp [e]
  ·rw [show (c.To.length == c.aG.length)=false by simp [e]]; simp; omega
 have e2:decide ((c.aG.length:Int) > 40) = !decide (c.aG.length≤40):=by
  by_cases e:c.aG.length≤40
  ·rw [bb e,br (by omega)]; rfl
  ·rw [br e,bb (by omega)]; rfl
 have e3:((c.aJ.length:Int) != c.aA) = !((c.aJ.length:Int) == c.aA):=rfl
 rw [e1,e1',e2,e3,within c.aJ _ (by omega) (by omega) (by omega)]
 cases hh:w6 c with
 | false=>
  have:p8 c=false:=by unfold p8; rw [hh]; rfl
  rw [this]
  unfold w6 at hh
  cases ha:(decide (0≤c.aA) && decide (c.aA≤8)) with
  | false=>rfl
  | true=>
   rw [ha] at hh
   simp only [Bool.and_eq_true,decide_eq_true_eq] at ha
   rw [within c.aG _ (by omega) ha.1 (by omega),within c.To _ (by omega) ha.1 (by omega)]
   generalize decide (c.aG.length≤40)=a2 at *
   generalize kj c.aA c.aG=a3 at *
   generalize (c.To.length == c.aG.length)=a4 at *
   generalize kj c.aA c.To=a5 at *
   generalize (c.aE.length == c.aG.length)=a6 at *
   generalize ((c.aJ.length:Int) == c.aA)=a7 at *
   generalize kj (c.aG.length:Int) c.aJ=a8 at *
   cases a2 <;> first | rfl | (cases a4 <;> first | rfl | (cases a3 <;> first | rfl | (cases a5 <;> first | rfl | (cases a7 <;> first | rfl | (cases a8 <;> first | rfl | (cases a6 <;> first | rfl | (cases hh)))))))
 | true=>
  have H:=Gr hh
  have JR:=hh
  unfold w6 at JR
  simp only [Bool.and_eq_true] at JR
  obtain ⟨⟨⟨b1,KT⟩,b2,b3⟩,⟨b4,b5⟩,b6,b7,b8⟩:=JR
  rw [within c.aG _ (by omega) H.o0 (by have:=H.o8; omega),within c.To _ (by omega) H.o0 (by have:=H.o8; omega)]
  rw [b1,KT,b2,b3,b4,b5,b6,b8,b7]
  simp only [Bool.and_self,Bool.not_true,cond_false,aF]
  have hm:=H.m
  have uj:=H.il
  have DM:=H.kl
  refine (congrArg aq (lp (ns c.aJ.length) (fun x=>!AP c x) (fun i=>(i:Int)) rfl ?_ ?_ (e:=(c.aJ.length:Int)) (y:=false) ?_)).trans ?_
  ·intro i x hx hp
   obtain ⟨rfl,hi⟩:=gh hx
   have:=H.id (x:=(i:Int)) (by omega) (by omega)
   unfold iC
   unfold AP at hp
   simp only [Bool.not_eq_false'] at hp
   rw [bb (by omega),cond_true,H.nh (by omega) (by omega),aF,C3 H this.1 this.2,aF]
   dsimp only
   rw [hp,Bool.not_true,cond_false,cA (by omega)]
  ·intro i x hx hp
   obtain ⟨rfl,hi⟩:=gh hx
   have:=H.id (x:=(i:Int)) (by omega) (by omega)
   unfold iC
   unfold AP at hp
   rw [bb (by omega),cond_true,H.nh (by omega) (by omega),aF,C3 H this.1 this.2,aF]
   dsimp only
   rw [hp,cond_true]
  ·unfold iC
   rw [cT,br (by omega),cond_false]
  rw [ov]
  unfold p8
  rw [hh]
  cases uY:(ns c.aJ.length).all (AP c) with
  | false=>rfl
  | true=>
   simp only [Bool.not_true,Bool.false_eq_true,if_false,Bool.true_and]
   refine (congrArg aq (lp (ns c.aG.length) (fun f=>!zk c f) (fun i=>(i:Int)) rfl ?_ ?_ (e:=(c.aG.length:Int)) (y:=false) ?_)).trans ?_
   rotate_left 2
   ·unfold kV
    rw [cT,br (by omega),cond_false]
   ·rw [ov]
    cases (ns c.aG.length).all (zk c) <;> rfl
   all_goals
    intro i x hx hp
    obtain ⟨rfl,hi⟩:=gh hx
    have hK:=H.me (f:=(i:Int)) (by omega) (by omega)
    have inner:(gr c.aE i).length=c.aG.length→ah (S:=Int) (ae 4 (aj (iD c (c.aG.length:Int) i (gr c.aE i)) (0:Int))) (fun Ao=>(some (Out.norm (ao ((i:Int)+(1:Int)))))) =
      if (ns c.aG.length).any (fun g=>!vZ c i g) then some (.ret false) else some (Out.norm (ao ((i:Int)+(1:Int)))):=by
     intro hr
     refine lp (ns c.aG.length) (fun g=>!vZ c i g) (fun j=>(j:Int)) rfl ?_ ?_ (e:=(c.aG.length:Int)) (y:=false) ?_
     rotate_left 2
     ·unfold iD
      rw [cT,br (by omega),cond_false]
     all_goals
      intro j y hy hq
      obtain ⟨rfl,hj⟩:=gh hy
      unfold iD
      rw [bb (by omega),cond_true,bS (by omega) (by omega),aF,H.jf (by omega) (by omega),aF,H.iq (by omega) (by omega),aF,eI (a:=(c.aG.length:Int) - 1) (by omega) (by omega),DB,aF]
      unfold vZ gk at hq
      by_cases e:gi c.To i=gi c.aG j
      ·rw [if_pos e] at hq
       rw [show (gi c.To (i:Int) != gi c.aG (j:Int))=false by simp [e],cond_false]
       by_cases l0:0≤gi (gr c.aE i) j∧gi (gr c.aE i) j < c.aG.length
       ·rw [bb l0.1,bb l0.2] at hq
        rw [bb l0.1,bb (show gi (gr c.aE i) j≤(c.aG.length:Int) - 1 by omega)]
        simp only [Bool.and_self,Bool.not_true,cond_false,Bool.true_and] at hq ⊢
        rw [C3 H l0.1 l0.2,aF,H.iq (by omega) (by omega),aF,H.jf (by omega) (by omega),aF,aF]
        dsimp only
        rw [hq]
        all_goals (first | rfl | rw [cond_false,cA (by omega)])
       ·have l1:(decide (0≤gi (gr c.aE i) j) && decide (gi (gr c.aE i) j < c.aG.length))=false:=by
         rcases Classical.not_and_iff_not_or_not.1 l0 with h | h
         ·rw [br h]; rfl
         ·rw [br h,Bool.and_false]
        have l2:(decide (0≤gi (gr c.aE i) j) && decide (gi (gr c.aE i) j≤(c.aG.length:Int) - 1))=false:=by
         rcases Classical.not_and_iff_not_or_not.1 l0 with h | h
         ·rw [br h]; rfl
         ·rw [br (show ¬ gi (gr c.aE i) j≤(c.aG.length:Int) - 1 by omega),Bool.and_false]
        rw [l1] at hq
        rw [l2]
        all_goals (first | rfl | simp at hq)
      ·rw [if_neg e] at hq
       rw [show (gi c.To (i:Int) != gi c.aG (j:Int))=true by simp [e],cond_true,show (gi (gr c.aE (i:Int)) (j:Int) != -1) = !(gi (gr c.aE (i:Int)) (j:Int) == -1) from rfl,hq]
       all_goals (first | rfl | rw [cond_false,cA (by omega)])
    unfold kV
    rw [bb (by omega),cond_true,hK,aF]
    unfold zk at hp
    by_cases hr:(gr c.aE i).length=c.aG.length
    ·rw [show (((gr c.aE (i:Int)).length:Int) != (c.aG.length:Int))=false by simp [hr],cond_false,inner hr,ov]
     rw [show ((gr c.aE (i:Int)).length == c.aG.length)=true by simp [hr],Bool.true_and] at hp
     rw [hp,cA (by omega)]
     rfl
    ·rw [show (((gr c.aE (i:Int)).length:Int) != (c.aG.length:Int))=true by (simp; omega),cond_true]
     all_goals (rw [show ((gr c.aE (i:Int)).length == c.aG.length)=false by simp [hr],Bool.false_and] at hp; first | rfl | simp at hp)
end Go.Proofs.YtilhlobfebngdaaGreat
namespace Go.Proofs.YtilhlobfebngdaaGreat
open Go Go.Li
structure tQ (c:aI):Prop extends Head c where
 xu:∀ x:Int,0≤x→x < c.aA→gi c.aG (gi c.aJ x)=x
 xS:∀ x:Int,0≤x→x < c.aA→gi c.To (gi c.aJ x)=x
 row:∀ f:Int,0≤f→f < c.aG.length→(gr c.aE f).length=c.aG.length
 cell:∀ f g:Int,0≤f→f < c.aG.length→0≤g→g < c.aG.length→gi c.To f=gi c.aG g→
  0≤gk c.aE f g∧gk c.aE f g < c.aG.length∧gi c.aG (gk c.aE f g)=gi c.aG f∧gi c.To (gk c.aE f g)=gi c.To g
 none:∀ f g:Int,0≤f→f < c.aG.length→0≤g→g < c.aG.length→gi c.To f≠gi c.aG g→gk c.aE f g = -1
theorem Ep {c:aI} (h:p8 c=true):tQ c:=by
 unfold p8 at h
 simp only [Bool.and_eq_true,List.all_eq_true] at h
 obtain ⟨h1,h2,h3⟩:=h
 have H:=Gr h1
 have uj:=H.il
 have uY:∀ x,0≤x→x < c.aA→AP c x=true:=fun x a b=>h2 x (fj.2 ⟨a,by omega⟩)
 have bj:∀ f,0≤f→f < (c.aG.length:Int)→zk c f=true:=fun f a b=>h3 f (fj.2 ⟨a,b⟩)
 have kz:∀ f g,0≤f→f < (c.aG.length:Int)→0≤g→g < (c.aG.length:Int)→vZ c f g=true:=fun f g a b a' b'=>by
  have:=bj f a b
  unfold zk at this
  simp only [Bool.and_eq_true,List.all_eq_true] at this
  exact this.2 g (fj.2 ⟨a',b'⟩)
 refine { H with
  xu:=fun x a b=>?_
  xS:=fun x a b=>?_
  row:=fun f a b=>?_
  cell:=fun f g a b a' b' e=>?_
  none:=fun f g a b a' b' e=>?_ }
 ·have:=uY x a b; unfold AP at this; simp at this; exact this.1
 ·have:=uY x a b; unfold AP at this; simp at this; exact this.2
 ·have:=bj f a b; unfold zk at this; simp only [Bool.and_eq_true,beq_iff_eq] at this; exact this.1
 ·have:=kz f g a b a' b'; unfold vZ at this; rw [if_pos e] at this; simp only [Bool.and_eq_true,decide_eq_true_eq,beq_iff_eq] at this; exact ⟨this.1.1,this.1.2,this.2.1,this.2.2⟩
 ·have:=kz f g a b a' b'; unfold vZ at this; rw [if_neg e] at this; simpa using this
namespace tQ
variable {c:aI} (h:tQ c)
include h
theorem lv {f g:Int} (h0:0≤f) (h1:f < c.aG.length) (h2:0≤g) (h3:g < c.aG.length):idx (gr c.aE f) g=some (gk c.aE f g):=bS h2 (by rw [h.row f h0 h1]; exact h3)
theorem qn {f g:Int} (h0:0≤f) (h1:f < c.aG.length) (h2:0≤g) (h3:g < c.aG.length):cG c f g=some (gk c.aE f g):=by
 unfold cG; rw [h.me h0 h1,aF,h.lv h0 h1 h2 h3,aF]; rfl
theorem thenS {f g:Int} (h0:0≤f) (h1:f < c.aG.length) (h2:0≤g) (h3:g < c.aG.length):dN c f g=some (gk c.aE f g):=by
 unfold dN; rw [h.me h0 h1,aF,h.lv h0 h1 h2 h3,aF]; rfl
end tQ
def v7 (c:aI) (f:Int):Bool:=gk c.aE (gi c.aJ (gi c.aG f)) f == f && gk c.aE f (gi c.aJ (gi c.To f)) == f
def xM (c:aI) (f g h:Int):Bool:=gi c.To g == gi c.aG h && gk c.aE (gk c.aE f g) h != gk c.aE f (gk c.aE g h)
def C4 (c:aI) (f g:Int):Bool:=gi c.To f == gi c.aG g && (ns c.aG.length).any (xM c f g)
def Gs (c:aI) (f:Int):Bool:=(ns c.aG.length).any (C4 c f)
def BO (c:aI):Bool:=(ns c.aG.length).all (v7 c) && !((ns c.aG.length).any (Gs c))
theorem Ly {c:aI} {k1 k2 k4 k6:Nat} {L0:Int→Option (Out Int (Int×Int×Int×Int))} {L1:Int→Option (Out Int (Int×Int×Int×Int))} {L2:Int→Int→Option (Out Int (Int×Int×Int×Int))} {L3:Int→Int→Int→Option (Out Int (Int×Int×Int×Int))} {z:Int×Int×Int×Int} (hz:z.1=0)
  (a0:∀ i:Nat,i < c.aG.length→v7 c i=true→L0 i=some (.norm ((i+1:Nat):Int)))
  (a1:∀ i:Nat,i < c.aG.length→v7 c i=false→∃ y,L0 i=some (.ret y)∧y.1≠0)
  (a2:L0 c.aG.length=some (.exit k1 c.aG.length))
  (b0:∀ i:Nat,i < c.aG.length→L1 i=ah (ae k4 (aj (L2 i) 0)) fun _=>some (.norm ((i+1:Nat):Int)))
  (b2:L1 c.aG.length=some (.exit k2 c.aG.length))
  (d0:∀ i j:Nat,i < c.aG.length→j < c.aG.length→gi c.To i≠gi c.aG j→L2 i j=some (.norm ((j+1:Nat):Int)))
  (d1:∀ i j:Nat,i < c.aG.length→j < c.aG.length→gi c.To i=gi c.aG j→L2 i j=ah (ae k6 (aj (L3 i j) 0)) fun _=>some (.norm ((j+1:Nat):Int)))
  (d2:∀ i:Nat,L2 i c.aG.length=some (.exit k4 c.aG.length))
  (e0:∀ i j h:Nat,i < c.aG.length→j < c.aG.length→h < c.aG.length→gi c.To i=gi c.aG j→xM c i j h=false→L3 i j h=some (.norm ((h+1:Nat):Int)))
  (e1:∀ i j h:Nat,i < c.aG.length→j < c.aG.length→h < c.aG.length→gi c.To i=gi c.aG j→xM c i j h=true→∃ y,L3 i j h=some (.ret y)∧y.1≠0)
  (e2:∀ i j:Nat,L3 i j c.aG.length=some (.exit k6 c.aG.length)) :
  ∃ y,aq (S:=Unit) (ah (ae k1 (aj L0 0)) fun _=>ah (ae k2 (aj L1 0)) fun _=>some (.ret z))=some y∧(y.1 == 0)=BO c:=by
 have in3:∀ i j:Nat,i < c.aG.length→j < c.aG.length→gi c.To i=gi c.aG j→
   ((ns c.aG.length).any (xM c i j)=true∧∃ y,ah (S:=Int) (ae k6 (aj (L3 i j) 0)) (fun _=>some (.norm ((j+1:Nat):Int)))=some (.ret y)∧y.1≠0)∨
   ((ns c.aG.length).any (xM c i j)=false∧ah (S:=Int) (ae k6 (aj (L3 i j) 0)) (fun _=>some (.norm ((j+1:Nat):Int)))=some (.norm ((j+1:Nat):Int))):=by
  intro i j hi hj he
  refine zj (ns c.aG.length) (xM c i j) (fun y:Int×Int×Int×Int=>y.1≠0) (fun h=>(h:Int)) rfl ?_ ?_ (e:=(c.aG.length:Int)) (by rw [cT]; exact e2 i j)
  ·intro h x hx hp; obtain ⟨rfl,hh⟩:=gh hx; exact e0 i j h hi hj hh he hp
  ·intro h x hx hp; obtain ⟨rfl,hh⟩:=gh hx; exact e1 i j h hi hj hh he hp
 have in2:∀ i:Nat,i < c.aG.length→
   ((ns c.aG.length).any (C4 c i)=true∧∃ y,ah (S:=Int) (ae k4 (aj (L2 i) 0)) (fun _=>some (.norm ((i+1:Nat):Int)))=some (.ret y)∧y.1≠0)∨
   ((ns c.aG.length).any (C4 c i)=false∧ah (S:=Int) (ae k4 (aj (L2 i) 0)) (fun _=>some (.norm ((i+1:Nat):Int)))=some (.norm ((i+1:Nat):Int))):=by
  intro i hi
  refine zj (ns c.aG.length) (C4 c i) (fun y:Int×Int×Int×Int=>y.1≠0) (fun h=>(h:Int)) rfl ?_ ?_ (e:=(c.aG.length:Int)) (by rw [cT]; exact d2 i)
  ·intro j x hx hp
   obtain ⟨rfl,hj⟩:=gh hx
   by_cases he:gi c.To i=gi c.aG j
   ·rw [d1 i j hi hj he]
    rcases in3 i j hi hj he with ⟨h1,_⟩ | ⟨_,h2⟩
    ·unfold C4 at hp; rw [h1] at hp; simp [he] at hp
    ·exact h2
   ·exact d0 i j hi hj he
  ·intro j x hx hp
   obtain ⟨rfl,hj⟩:=gh hx
   unfold C4 at hp
   simp only [Bool.and_eq_true,beq_iff_eq] at hp
   rw [d1 i j hi hj hp.1]
   rcases in3 i j hi hj hp.1 with ⟨_,h⟩ | ⟨h1,_⟩
   ·exact h
   ·rw [hp.2] at h1; cases h1
 rcases zj (s0:=(0:Int)) (S:=Unit) (R:=Int×Int×Int×Int) (k:=k1) (body:=L0) (f:=fun _=>ah (ae k2 (aj L1 0)) fun _=>some (.ret z)) (ns c.aG.length) (fun i=>!v7 c i) (fun y:Int×Int×Int×Int=>y.1≠0) (fun i=>(i:Int)) rfl
   (fun i x hx hp=>by obtain ⟨rfl,hi⟩:=gh hx; exact a0 i hi (by simpa using hp)) (fun i x hx hp=>by obtain ⟨rfl,hi⟩:=gh hx; exact a1 i hi (by simpa using hp)) (e:=(c.aG.length:Int)) (by rw [cT]; exact a2) with ⟨h1,y,h2,h3⟩ | ⟨h1,h2⟩
 ·refine ⟨y,by rw [h2]; rfl,?_⟩
  unfold BO
  rw [ov] at h1
  simp only [Bool.not_eq_true'] at h1
  rw [h1]
  simpa using h3
 ·rw [ov] at h1
  simp only [Bool.not_eq_false'] at h1
  rw [h2]
  rcases zj (s0:=(0:Int)) (S:=Unit) (R:=Int×Int×Int×Int) (k:=k2) (body:=L1) (f:=fun _=>some (.ret z)) (ns c.aG.length) (Gs c) (fun y:Int×Int×Int×Int=>y.1≠0) (fun i=>(i:Int)) rfl
   (fun i x hx hp=>by
    obtain ⟨rfl,hi⟩:=gh hx
    rw [b0 i hi]
    rcases in2 i hi with ⟨q1,_⟩ | ⟨_,q2⟩
    ·unfold Gs at hp; rw [q1] at hp; cases hp
    ·exact q2)
   (fun i x hx hp=>by
    obtain ⟨rfl,hi⟩:=gh hx
    rw [b0 i hi]
    rcases in2 i hi with ⟨_,q⟩ | ⟨q1,_⟩
    ·exact q
    ·unfold Gs at hp; rw [q1] at hp; cases hp) (e:=(c.aG.length:Int)) (by rw [cT]; exact b2) with ⟨g1,y,g2,g3⟩ | ⟨g1,g2⟩
  ·refine ⟨y,by rw [g2]; rfl,?_⟩
   unfold BO
   rw [h1,g1]
   simpa using g3
  ·refine ⟨z,by rw [g2]; rfl,?_⟩
   unfold BO
   rw [h1,g1,hz]
   rfl
section
variable {c:aI} (H:tQ c)
include H
theorem O4:∃ y,pE c=some y∧(y.1 == 0)=BO c:=by
 have hm:=H.m
 have uj:=H.il
 have u0:∀ i:Nat,i < c.aG.length→mG c i=if v7 c i then some (Out.norm ((i+1:Nat):Int)) else some (Out.ret ((1:Int),(i:Int),(0:Int),(0:Int))):=by
  intro i hi
  have f1:=H.fr (f:=(i:Int)) (by omega) (by omega)
  have t1:=H.to (f:=(i:Int)) (by omega) (by omega)
  have i1:=H.id f1.1 f1.2
  have i2:=H.id t1.1 t1.2
  unfold mG
  rw [bb (by omega),cond_true,H.iq (by omega) (by omega),aF,H.nh f1.1 f1.2,aF,H.me i1.1 i1.2,aF,H.lv i1.1 i1.2 (by omega) (by omega),aF]
  rw [H.me (by omega) (by omega),aF,H.jf (by omega) (by omega),aF,H.nh t1.1 t1.2,aF,H.lv (by omega) (by omega) i2.1 i2.2,aF]
  unfold v7
  by_cases e1:gk c.aE (gi c.aJ (gi c.aG i)) i=i
  ·by_cases e2:gk c.aE i (gi c.aJ (gi c.To i))=i
   ·simp [e1,e2,cA (show i < 9223372036854775807 by omega)]
   ·simp [e1,e2,o6 e2]
  ·simp [e1,o6 e1]
 unfold pE
 refine Ly (c:=c) (z:=(0,0,0,0)) rfl (L2:=kS c) (L3:=kR c) (k4:=4) (k6:=6) ?_ ?_ ?_ ?_ ?_ ?_ ?_ ?_ ?_ ?_ ?_
 ·intro i hi hp; rw [u0 i hi,hp]; rfl
 ·intro i hi hp; rw [u0 i hi,hp]; exact ⟨_,rfl,by simp⟩
 ·unfold mG; rw [br (by omega),cond_false]
 ·intro i hi; unfold pV; rw [bb (by omega),cond_true,cA (by omega)]
 ·unfold pV; rw [br (by omega),cond_false]
 ·intro i j hi hj he
  unfold kS
  rw [bb (by omega),cond_true,H.jf (by omega) (by omega),aF,H.iq (by omega) (by omega),aF,show (gi c.To (i:Int) != gi c.aG (j:Int))=true by simp [he],cond_true,cA (by omega)]
 ·intro i j hi hj he
  unfold kS
  rw [bb (by omega),cond_true,H.jf (by omega) (by omega),aF,H.iq (by omega) (by omega),aF,show (gi c.To (i:Int) != gi c.aG (j:Int))=false by simp [he],cond_false,cA (by omega)]
 ·intro i; unfold kS; rw [br (by omega),cond_false]
 ·intro i j h hi hj hh he hp
  unfold kR
  rw [bb (by omega),cond_true,H.jf (by omega) (by omega),aF,H.iq (by omega) (by omega),aF]
  unfold xM at hp
  by_cases e:gi c.To j=gi c.aG h
  ·have c1:=H.cell i j (by omega) (by omega) (by omega) (by omega) he
   have c2:=H.cell j h (by omega) (by omega) (by omega) (by omega) e
   rw [show (gi c.To (j:Int) == gi c.aG (h:Int))=true by simp [e]] at hp ⊢
   rw [cond_true,H.me (by omega) (by omega),aF,H.lv (by omega) (by omega) (by omega) (by omega),aF,H.me c1.1 c1.2.1,aF,H.lv c1.1 c1.2.1 (by omega) (by omega),aF,aF,H.me (by omega) (by omega),aF,H.lv (by omega) (by omega) (by omega) (by omega),aF,H.lv (by omega) (by omega) c2.1 c2.2.1,aF]
   rw [Bool.true_and] at hp
   rw [hp,aF,cond_false,cA (by omega)]
  ·rw [show (gi c.To (j:Int) == gi c.aG (h:Int))=false by simp [e],cond_false,aF,cond_false,cA (by omega)]
 ·intro i j h hi hj hh he hp
  unfold kR
  rw [bb (by omega),cond_true,H.jf (by omega) (by omega),aF,H.iq (by omega) (by omega),aF]
  unfold xM at hp
  simp only [Bool.and_eq_true] at hp
  have e:gi c.To j=gi c.aG h:=by simpa using hp.1
  have c1:=H.cell i j (by omega) (by omega) (by omega) (by omega) he
  have c2:=H.cell j h (by omega) (by omega) (by omega) (by omega) e
  rw [hp.1,cond_true,H.me (by omega) (by omega),aF,H.lv (by omega) (by omega) (by omega) (by omega),aF,H.me c1.1 c1.2.1,aF,H.lv c1.1 c1.2.1 (by omega) (by omega),aF,aF,H.me (by omega) (by omega),aF,H.lv (by omega) (by omega) (by omega) (by omega),aF,H.lv (by omega) (by omega) c2.1 c2.2.1,aF]
  rw [hp.2,aF,cond_true]
  exact ⟨_,rfl,by simp⟩
 ·intro i j; unfold kR; rw [br (by omega),cond_false]
theorem O5:∃ y,kX c=some y∧(y.1 == 0)=BO c:=by
 have hm:=H.m
 have uj:=H.il
 have u0:∀ i:Nat,i < c.aG.length→jD c c.aG.length i=if v7 c i then some (Out.norm ((i+1:Nat):Int)) else some (Out.ret ((1:Int),(i:Int),(0:Int),(0:Int))):=by
  intro i hi
  have f1:=H.fr (f:=(i:Int)) (by omega) (by omega)
  have t1:=H.to (f:=(i:Int)) (by omega) (by omega)
  have i1:=H.id f1.1 f1.2
  have i2:=H.id t1.1 t1.2
  unfold jD
  rw [bb (by omega),cond_true,H.iq (by omega) (by omega),aF,H.nh f1.1 f1.2,aF,H.qn i1.1 i1.2 (by omega) (by omega),aF]
  rw [H.jf (by omega) (by omega),aF,H.nh t1.1 t1.2,aF,H.qn (by omega) (by omega) i2.1 i2.2,aF]
  unfold v7
  by_cases e1:gk c.aE (gi c.aJ (gi c.aG i)) i=i
  ·by_cases e2:gk c.aE i (gi c.aJ (gi c.To i))=i
   ·simp [e1,e2,cA (show i < 9223372036854775807 by omega)]
   ·simp [e1,e2,o6 e2]
  ·simp [e1,o6 e1]
 have pos:∀ i j:Nat,i < c.aG.length→j < c.aG.length→(gi c.To i=gi c.aG j→0≤gk c.aE i j)∧(gi c.To i≠gi c.aG j→gk c.aE i j < 0):=by
  intro i j hi hj
  refine ⟨fun e=>(H.cell i j (by omega) (by omega) (by omega) (by omega) e).1,fun e=>?_⟩
  rw [H.none i j (by omega) (by omega) (by omega) (by omega) e]; decide
 unfold kX dH
 rw [show aq (S:=Unit) (some (Out.ret (c.aG.length:Int)))=some (c.aG.length:Int) from rfl,aF]
 refine Ly (c:=c) (z:=(0,0,0,0)) rfl (L2:=gR c c.aG.length) (L3:=gQ c c.aG.length) (k4:=4) (k6:=6) ?_ ?_ ?_ ?_ ?_ ?_ ?_ ?_ ?_ ?_ ?_
 ·intro i hi hp; rw [u0 i hi,hp]; rfl
 ·intro i hi hp; rw [u0 i hi,hp]; exact ⟨_,rfl,by simp⟩
 ·unfold jD; rw [br (by omega),cond_false]
 ·intro i hi; unfold lO; rw [bb (by omega),cond_true,cA (by omega)]
 ·unfold lO; rw [br (by omega),cond_false]
 ·intro i j hi hj he
  unfold gR
  rw [bb (by omega),cond_true,H.qn (by omega) (by omega) (by omega) (by omega),aF,bb ((pos i j hi hj).2 he),cond_true,cA (by omega)]
 ·intro i j hi hj he
  have:=(pos i j hi hj).1 he
  unfold gR
  rw [bb (by omega),cond_true,H.qn (by omega) (by omega) (by omega) (by omega),aF,br (by omega),cond_false,cA (by omega)]
 ·intro i; unfold gR; rw [br (by omega),cond_false]
 ·intro i j h hi hj hh he hp
  unfold gQ
  rw [bb (by omega),cond_true,H.qn (by omega) (by omega) (by omega) (by omega),aF]
  unfold xM at hp
  by_cases e:gi c.To j=gi c.aG h
  ·have c1:=H.cell i j (by omega) (by omega) (by omega) (by omega) he
   have c2:=H.cell j h (by omega) (by omega) (by omega) (by omega) e
   rw [show (gi c.To (j:Int) == gi c.aG (h:Int))=true by simp [e],Bool.true_and] at hp
   rw [bb (show gk c.aE j h ≥ 0 from c2.1),cond_true,H.qn (by omega) (by omega) (by omega) (by omega),aF,H.qn c1.1 c1.2.1 (by omega) (by omega),aF,aF,H.qn (by omega) (by omega) c2.1 c2.2.1,aF,hp,aF,cond_false,cA (by omega)]
  ·have:=(pos j h hj hh).2 e
   rw [br (show ¬ gk c.aE j h ≥ 0 by omega),cond_false,aF,cond_false,cA (by omega)]
 ·intro i j h hi hj hh he hp
  unfold gQ
  unfold xM at hp
  simp only [Bool.and_eq_true] at hp
  have e:gi c.To j=gi c.aG h:=by simpa using hp.1
  have c1:=H.cell i j (by omega) (by omega) (by omega) (by omega) he
  have c2:=H.cell j h (by omega) (by omega) (by omega) (by omega) e
  rw [bb (by omega),cond_true,H.qn (by omega) (by omega) (by omega) (by omega),aF,bb (show gk c.aE j h ≥ 0 from c2.1),cond_true,H.qn (by omega) (by omega) (by omega) (by omega),aF,H.qn c1.1 c1.2.1 (by omega) (by omega),aF,aF,H.qn (by omega) (by omega) c2.1 c2.2.1,aF,hp.2,aF,cond_true]
  exact ⟨_,rfl,by simp⟩
 ·intro i j; unfold gQ; rw [br (by omega),cond_false]
end
structure km (c:aI):Prop extends tQ c where
 Nb:∀ f:Int,0≤f→f < c.aG.length→gk c.aE (gi c.aJ (gi c.aG f)) f=f
 HM:∀ f:Int,0≤f→f < c.aG.length→gk c.aE f (gi c.aJ (gi c.To f))=f
 assoc:∀ f g h:Int,0≤f→f < c.aG.length→0≤g→g < c.aG.length→0≤h→h < c.aG.length→gi c.To f=gi c.aG g→gi c.To g=gi c.aG h→
  gk c.aE (gk c.aE f g) h=gk c.aE f (gk c.aE g h)
def o7 (c:aI):Bool:=p8 c && BO c
theorem zl {c:aI} (h:o7 c=true):km c:=by
 unfold o7 at h
 simp only [Bool.and_eq_true] at h
 obtain ⟨h1,h2⟩:=h
 have H:=Ep h1
 unfold BO at h2
 simp only [Bool.and_eq_true,List.all_eq_true,Bool.not_eq_true',List.any_eq_false] at h2
 obtain ⟨h2,h3⟩:=h2
 refine { H with
  Nb:=fun f a b=>?_
  HM:=fun f a b=>?_
  assoc:=fun f g h a b a' b' a'' b'' e1 e2=>?_ }
 ·have:=h2 f (fj.2 ⟨a,b⟩); unfold v7 at this; simp at this; exact this.1
 ·have:=h2 f (fj.2 ⟨a,b⟩); unfold v7 at this; simp at this; exact this.2
 ·have:=h3 f (fj.2 ⟨a,b⟩)
  unfold Gs at this
  simp only [List.any_eq_true,not_exists,not_and] at this
  have:=this g (fj.2 ⟨a',b'⟩)
  unfold C4 at this
  simp only [Bool.and_eq_true,beq_iff_eq,List.any_eq_true,not_and,not_exists] at this
  have:=this e1 h (fj.2 ⟨a'',b''⟩)
  unfold xM at this
  simpa [e2] using this
theorem O6 {c:aI} (hs:gq c):qY c=some (o7 c):=by
 unfold qY
 rw [O2 hs,aF]
 unfold o7
 cases h:p8 c with
 | false=>rfl
 | true=>
  obtain ⟨y,h1,h2⟩:=O4 (Ep h)
  rw [Bool.not_true,cond_false,h1,aF,h2]; rfl
theorem JS {c:aI} (hs:gq c):gG c=some (o7 c):=by
 unfold gG
 rw [O3 hs,aF]
 unfold o7
 cases h:p8 c with
 | false=>rfl
 | true=>
  obtain ⟨y,h1,h2⟩:=O5 (Ep h)
  rw [Bool.not_true,cond_false,h1,aF,h2]; rfl
end Go.Proofs.YtilhlobfebngdaaGreat
