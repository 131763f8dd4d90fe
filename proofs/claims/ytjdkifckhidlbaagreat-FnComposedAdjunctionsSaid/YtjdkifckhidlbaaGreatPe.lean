/- Is a table a category: the reference and the program agree, and what is known of a category. No condition beside those that each theorem names. -/
import Derived.Test.YtjdkifckhidlbaaGreatPa
namespace Go.Li
open Go
section
variable {S S1 R α:Type} {body:S1→Option (Out S1 R)}
theorem yz {k:Nat} {f:S1→Option (Out S R)} {s0 e:S1} (l:List α) (p:α→Bool) (G:R→Prop) (st:Nat→S1) (h0:st 0=s0) (step:∀ i x,l[i]? = some x→p x=false→body (st i)=some (.norm (st (i+1))))
  (Oz:∀ i x,l[i]? = some x→p x=true→∃ y,body (st i)=some (.ret y)∧G y) (last:body (st l.length)=some (.exit k e)) :
  (l.any p=true∧∃ y,ai (af k (aj body s0)) f=some (.ret y)∧G y)∨(l.any p=false∧ai (af k (aj body s0)) f=f e):=by
 have key:∀ (m:List α) (i:Nat),l.drop i=m→i≤l.length→(m.any p=true∧∃ y,aj body (st i)=some (.ret y)∧G y)∨(m.any p=false∧aj body (st i)=some (.exit k e)):=by
  intro m
  induction m with
  | nil=>
   intro i hd hi
   have:i=l.length:=by have:=congrArg List.length hd; simp at this; omega
   subst this
   exact .inr ⟨rfl,xD last⟩
  | cons x m ih=>
   intro i hd hi
   have bj:i < l.length:=by
    rcases Nat.lt_or_ge i l.length with h | h
    ·exact h
    ·rw [List.drop_eq_nil_of_le h] at hd; cases hd
   have hx:l[i]? = some x:=by
    rw [List.drop_eq_getElem_cons bj] at hd
    rw [List.getElem?_eq_getElem bj]; exact congrArg some (List.cons.inj hd).1
   have jb:l.drop (i+1)=m:=by
    rw [List.drop_eq_getElem_cons bj] at hd; exact (List.cons.inj hd).2
   cases hp:p x with
   | true=>
    obtain ⟨y,hy,hg⟩:=Oz i x hx hp
    exact .inl ⟨by simp [hp],y,Cg hy,hg⟩
   | false=>
    rw [uQ,step i x hx hp]
    simpa [hp] using ih (i+1) jb bj
 rcases key l 0 rfl (Nat.zero_le _) with ⟨h1,y,h2,h3⟩ | ⟨h1,h2⟩
 ·rw [h0] at h2; exact .inl ⟨h1,y,EX h2,h3⟩
 ·rw [h0] at h2; exact .inr ⟨h1,Ac h2⟩
theorem OB {n i x:Nat} (h:(List.range n)[i]? = some x):x=i∧i < n:=by
 have hi:=cj h
 rw [List.getElem?_eq_getElem hi] at h
 simp at h hi
 exact ⟨h.symm,hi⟩
end
def gi (l:List Int) (j:Int):Int:=l.getD j.toNat 0
def gr (l:List (List Int)) (j:Int):List Int:=l.getD j.toNat []
def gk (l:List (List Int)) (i j:Int):Int:=gi (gr l i) j
theorem cH {l:List Int} {j:Int} (h0:0≤j) (h1:j < l.length):idx l j=some (gi l j):=by
 rw [Ch h0 h1]; unfold gi; rw [List.getD_eq_getElem?_getD,List.getElem?_eq_getElem (by omega)]; rfl
theorem mm {l:List (List Int)} {j:Int} (h0:0≤j) (h1:j < l.length):idx l j=some (gr l j):=by
 rw [Ch h0 h1]; unfold gr; rw [List.getD_eq_getElem?_getD,List.getElem?_eq_getElem (by omega)]; rfl
theorem fj {l:List Int} {j:Int} (h0:0≤j) (h1:j < l.length):gi l j∈l:=by
 unfold gi; rw [List.getD_eq_getElem?_getD,List.getElem?_eq_getElem (by omega)]; exact List.getElem_mem _
theorem nn {l:List (List Int)} {j:Int} (h0:0≤j) (h1:j < l.length):gr l j∈l:=by
 unfold gr; rw [List.getD_eq_getElem?_getD,List.getElem?_eq_getElem (by omega)]; exact List.getElem_mem _
def ns (n:Nat):List Int:=(List.range n).map Int.ofNat
theorem iu {n i:Nat} {x:Int} (h:(ns n)[i]? = some x):x=(i:Int)∧i < n:=by
 unfold ns at h
 rw [List.getElem?_map] at h
 cases hr:(List.range n)[i]? with
 | none=>rw [hr] at h; cases h
 | some y=>
  rw [hr] at h
  obtain ⟨rfl,hi⟩:=OB hr
  exact ⟨(Option.some.inj h).symm,hi⟩
theorem dC (n:Nat):(ns n).length=n:=by simp [ns]
theorem gq {n:Nat} {x:Int}:x∈ns n↔0≤x∧x < n:=by
 unfold ns
 simp only [List.mem_map,List.mem_range]
 constructor
 ·rintro ⟨a,h1,rfl⟩; simp; omega
 ·rintro ⟨h1,h2⟩; exact ⟨x.toNat,by omega,by simp; omega⟩
end Go.Li
namespace Go.Proofs.YtjdkifckhidlbaaGreat
open Go Go.Li
def qk (n:Int) (f:List Int):Bool:=f.all fun y=>decide (0≤y) && decide (y < n)
theorem qm {n:Int} {f:List Int}:qk n f=true↔∀ y∈f,0≤y∧y < n:=by simp [qk]
theorem qn {α:Type} (l:List α) (p:α→Bool):l.any (fun x=>!p x) = !l.all p:=by
 induction l with
 | nil=>rfl
 | cons a l ih=>simp only [List.any_cons,List.all_cons,ih,Bool.not_and]
theorem Af (n:Int) (f:List Int) (hf:f.length≤1048576000):jU n f=some (qk n f):=by
 unfold jU
 refine (congrArg aq (mg f (fun y=>!(decide (0≤y) && decide (y < n))) (fun i=>(i:Int)) rfl ?_ ?_ (e:=(f.length:Int)) (y:=false) ?_)).trans ?_
 ·intro i x hx hp
  have hi:=cj hx
  unfold nD
  simp only [Bool.not_eq_false',Bool.and_eq_true,decide_eq_true_eq] at hp
  rw [bc (by omega),cond_true,di,hx,aG,br (by omega),cond_false,aG,br (by omega),aG,cond_false,cI (by omega)]
 ·intro i x hx hp
  have hi:=cj hx
  unfold nD
  rw [bc (by omega),cond_true,di,hx,aG,aG]
  by_cases h:x < 0
  ·rw [bc h,cond_true,aG,cond_true]
  ·have:n≤x:=by simp at hp; omega
   rw [br h,cond_false,bc (by omega),aG,cond_true]
 ·unfold nD
  rw [br (by omega),cond_false]
 ·rw [qn]
  show aq (if (!qk n f)=true then _ else _)=_
  cases qk n f <;> rfl
theorem Ag (n a b:Int):gP n a b=some (decide (a≤n) && decide (n≤b)):=by
 unfold gP
 by_cases h:a≤n
 ·rw [bc (show n ≥ a from h),cond_true]; rfl
 ·rw [br (show ¬ n ≥ a from h),cond_false]; rfl
theorem Xw (n a b:Int):qV n a b=some (decide (a≤n) && decide (n≤b)):=by
 unfold qV
 by_cases h:a≤n
 ·rw [bc (show n ≥ a from h),cond_true]; rfl
 ·rw [br (show ¬ n ≥ a from h),cond_false]; rfl
theorem within (f:List Int) (n:Int) (hf:f.length≤1048576000) (hn:0≤n) (KF:n≤1048576000):iY f n=some (qk n f):=by
 unfold iY
 refine (congrArg aq (mg f (fun y=>!(decide (0≤y) && decide (y < n))) (fun i=>(i:Int)) rfl ?_ ?_ (e:=(f.length:Int)) (y:=false) ?_)).trans ?_
 ·intro i x hx hp
  have hi:=cj hx
  unfold nE
  simp only [Bool.not_eq_false',Bool.and_eq_true,decide_eq_true_eq] at hp
  rw [bc (by omega),cond_true,di,hx,aG,dL (by omega) (by omega),Ag,aG,bc hp.1,bc (by omega)]
  simp only [Bool.and_self,Bool.not_true,cond_false]
  rw [cI (by omega)]
 ·intro i x hx hp
  have hi:=cj hx
  unfold nE
  rw [bc (by omega),cond_true,di,hx,aG,dL (by omega) (by omega),Ag,aG]
  have:(decide (0≤x) && decide (x≤n - 1))=false:=by
   by_cases h:x < 0
   ·rw [br (by omega)]; rfl
   ·have:n≤x:=by simp at hp; omega
    rw [br (show ¬ x≤n - 1 by omega),Bool.and_false]
  rw [this]; rfl
 ·unfold nE
  rw [br (by omega),cond_false]
 ·rw [qn]
  show aq (if (!qk n f)=true then _ else _)=_
  cases qk n f <;> rfl
def wM (c:aI):Bool:=((decide (0≤c.aA) && decide (c.aA≤8)) && (decide (c.aH.length≤40) && qk c.aA c.aH)) && (((c.To.length == c.aH.length) && qk c.aA c.To) && ((c.aE.length == c.aH.length) && (((c.aJ.length:Int) == c.aA) && qk c.aH.length c.aJ)))
def Ah (c:aI) (x:Int):Bool:=gi c.aH (gi c.aJ x) == x && gi c.To (gi c.aJ x) == x
def vN (c:aI) (f g:Int):Bool:=
 if gi c.To f=gi c.aH g then (decide (0≤gk c.aE f g) && decide (gk c.aE f g < c.aH.length)) && (gi c.aH (gk c.aE f g) == gi c.aH f && gi c.To (gk c.aE f g) == gi c.To g)
 else gk c.aE f g == -1
def yA (c:aI) (f:Int):Bool:=((gr c.aE f).length == c.aH.length) && (ns c.aH.length).all fun g=>vN c f g
def r7 (c:aI):Bool:=wM c && ((ns c.aJ.length).all (Ah c) && (ns c.aH.length).all (yA c))
structure Head (c:aI):Prop where
 o0:0≤c.aA
 o8:c.aA≤8
 m:c.aH.length≤40
 f:∀ x∈c.aH,0≤x∧x < c.aA
 tl:c.To.length=c.aH.length
 t:∀ x∈c.To,0≤x∧x < c.aA
 kl:c.aE.length=c.aH.length
 il:(c.aJ.length:Int)=c.aA
 i:∀ x∈c.aJ,0≤x∧x < c.aH.length
theorem FH {c:aI} (h:wM c=true):Head c:=by
 unfold wM at h
 simp only [Bool.and_eq_true,decide_eq_true_eq,qm,beq_iff_eq] at h
 obtain ⟨⟨⟨h1,h2⟩,h3,h4⟩,⟨h5,h6⟩,h7,h8,h9⟩:=h
 exact ⟨h1,h2,h3,h4,h5,h6,h7,h8,h9⟩
set_option linter.unusedSectionVars false
namespace Head
variable {c:aI} (h:Head c)
include h
theorem fr {f:Int} (h0:0≤f) (h1:f < c.aH.length):0≤gi c.aH f∧gi c.aH f < c.aA:=h.f _ (fj h0 h1)
theorem to {f:Int} (h0:0≤f) (h1:f < c.aH.length):0≤gi c.To f∧gi c.To f < c.aA:=h.t _ (fj h0 (by rw [h.tl]; exact h1))
theorem id {x:Int} (h0:0≤x) (h1:x < c.aA):0≤gi c.aJ x∧gi c.aJ x < c.aH.length:=h.i _ (fj h0 (by rw [h.il]; exact h1))
theorem lg {f:Int} (h0:0≤f) (h1:f < c.aH.length):idx c.aH f=some (gi c.aH f):=cH h0 h1
theorem ma {f:Int} (h0:0≤f) (h1:f < c.aH.length):idx c.To f=some (gi c.To f):=cH h0 (by rw [h.tl]; exact h1)
theorem oK {x:Int} (h0:0≤x) (h1:x < c.aA):idx c.aJ x=some (gi c.aJ x):=cH h0 (by rw [h.il]; exact h1)
theorem o5 {f:Int} (h0:0≤f) (h1:f < c.aH.length):idx c.aE f=some (gr c.aE f):=mm h0 (by rw [h.kl]; exact h1)
end Head
theorem OC {c:aI} (hs:fx c):pL c=some (r7 c):=by
 obtain ⟨z1,z2,z3,z4,z5⟩:=hs
 have ends:∀ (l:List Int) (n:Nat) (o:Int),l.length≤1048576→mQ l (n:Int) o=some ((l.length == n) && qk o l):=by
  intro l n o hl
  unfold mQ
  by_cases e:l.length=n
  ·rw [show ((l.length:Int) == (n:Int))=true by simp [e],cond_true,Af _ _ (by omega),show (l.length == n)=true by simp [e]]; rfl
  ·rw [show ((l.length:Int) == (n:Int))=false by simp; omega,cond_false,show (l.length == n)=false by simp [e]]; rfl
 unfold pL
 rw [Xw,aG,ends _ _ _ z1,ends _ _ _ z2]
 have e1:((c.aE.length:Int) != (c.aH.length:Int)) = !(c.aE.length == c.aH.length):=by
  by_cases e:c.aE.length=c.aH.length
  ·simp [e]
  ·rw [show (c.aE.length == c.aH.length)=false by simp [e]]; simp; omega
 have e2:decide ((c.aH.length:Int) > 40) = !decide (c.aH.length≤40):=by
  by_cases e:c.aH.length≤40
  ·rw [bc e,br (by omega)]; rfl
  ·rw [br e,bc (by omega)]; rfl
 rw [e1,e2,Af _ _ (by omega)]
 cases hh:wM c with
 | false=>
  have:r7 c=false:=by unfold r7; rw [hh]; rfl
  rw [this]
  unfold wM at hh
  generalize (decide (0≤c.aA) && decide (c.aA≤8))=a1 at *
  generalize decide (c.aH.length≤40)=a2 at *
  generalize qk c.aA c.aH=a3 at *
  generalize (c.To.length == c.aH.length)=a4 at *
  generalize qk c.aA c.To=a5 at *
  generalize (c.aE.length == c.aH.length)=a6 at *
  have e3:((c.aJ.length:Int) != c.aA) = !((c.aJ.length:Int) == c.aA):=rfl
  rw [e3]
  generalize ((c.aJ.length:Int) == c.aA)=a7 at *
  generalize qk (c.aH.length:Int) c.aJ=a8 at *
  simp only [beq_self_eq_true,Bool.true_and]
  cases a1 <;> first | rfl | (cases a2 <;> first | rfl | (cases a3 <;> first | rfl | (cases a4 <;> first | rfl | (cases a5 <;> first | rfl | (cases a6 <;> first | rfl | (cases a7 <;> first | rfl | (cases a8 <;> first | rfl | (cases hh))))))))
 | true=>
  have H:=FH hh
  have I1:=hh
  unfold wM at I1
  simp only [Bool.and_eq_true] at I1
  obtain ⟨⟨⟨b1,J5⟩,b2,b3⟩,⟨b4,b5⟩,b6,b7,b8⟩:=I1
  rw [b1,J5,b2,b3,b4,b5,b6,b8,show ((c.aJ.length:Int) != c.aA) = !((c.aJ.length:Int) == c.aA) from rfl,b7]
  simp only [beq_self_eq_true,Bool.and_self,Bool.not_true,cond_false,aG]
  have hm:=H.m
  have ux:=H.il
  refine (congrArg aq (mg (ns c.aJ.length) (fun x=>!Ah c x) (fun i=>(i:Int)) rfl ?_ ?_ (e:=(c.aJ.length:Int)) (y:=false) ?_)).trans ?_
  ·intro i x hx hp
   obtain ⟨rfl,hi⟩:=iu hx
   have:=H.id (x:=(i:Int)) (by omega) (by omega)
   unfold mJ
   unfold Ah at hp
   simp only [Bool.not_eq_false',Bool.and_eq_true,beq_iff_eq] at hp
   rw [bc (by omega),cond_true,H.oK (by omega) (by omega),aG,H.lg this.1 this.2,aG,hp.1,bne_self_eq_false,cond_false,aG,H.ma this.1 this.2,aG,hp.2,bne_self_eq_false,aG,cond_false,cI (by omega)]
  ·intro i x hx hp
   obtain ⟨rfl,hi⟩:=iu hx
   have:=H.id (x:=(i:Int)) (by omega) (by omega)
   unfold mJ
   unfold Ah at hp
   rw [bc (by omega),cond_true,H.oK (by omega) (by omega),aG,H.lg this.1 this.2,aG]
   by_cases e:gi c.aH (gi c.aJ i)=i
   ·rw [e,bne_self_eq_false,cond_false,aG,H.ma this.1 this.2,aG]
    have:(gi c.To (gi c.aJ i) != (i:Int))=true:=by
     rw [e] at hp; simpa using hp
    rw [this]; rfl
   ·rw [show (gi c.aH (gi c.aJ i) != (i:Int))=true by simp [e]]; rfl
  ·unfold mJ
   rw [dC,br (by omega),cond_false]
  rw [qn]
  unfold r7
  rw [hh]
  cases uG:(ns c.aJ.length).all (Ah c) with
  | false=>rfl
  | true=>
   simp only [Bool.not_true,Bool.false_eq_true,if_false,Bool.true_and]
   refine (congrArg aq (mg (ns c.aH.length) (fun f=>!yA c f) (fun i=>(i:Int)) rfl ?_ ?_ (e:=(c.aH.length:Int)) (y:=false) ?_)).trans ?_
   rotate_left 2
   ·unfold pK
    rw [dC,br (by omega),cond_false]
   ·rw [qn]
    cases (ns c.aH.length).all (yA c) <;> rfl
   all_goals
    intro i x hx hp
    obtain ⟨rfl,hi⟩:=iu hx
    have hK:=H.o5 (f:=(i:Int)) (by omega) (by omega)
    have inner:(gr c.aE i).length=c.aH.length→ai (S:=Int) (af 4 (aj (mK c i) (0:Int))) (fun zG=>(some (Out.norm (ao ((i:Int)+(1:Int)))))) =
      if (ns c.aH.length).any (fun g=>!vN c i g) then some (.ret false) else some (Out.norm (ao ((i:Int)+(1:Int)))):=by
     intro hr
     refine mg (ns c.aH.length) (fun g=>!vN c i g) (fun j=>(j:Int)) rfl ?_ ?_ (e:=(c.aH.length:Int)) (y:=false) ?_
     rotate_left 2
     ·unfold mK
      rw [dC,br (by omega),cond_false]
     all_goals
      intro j y hy hq
      obtain ⟨rfl,hj⟩:=iu hy
      unfold mK
      rw [bc (by omega),cond_true,hK,aG,cH (by omega) (by omega),aG,H.ma (by omega) (by omega),aG,H.lg (by omega) (by omega),aG]
      unfold vN gk at hq
      by_cases e:gi c.To i=gi c.aH j
      ·rw [if_pos e] at hq
       rw [show (gi c.To (i:Int) != gi c.aH (j:Int))=false by simp [e],cond_false]
       by_cases l0:gi (gr c.aE i) j < 0
       ·rw [br (show ¬ 0≤gi (gr c.aE i) j by omega)] at hq
        rw [bc l0,cond_true,aG,cond_true]
        all_goals (first | rfl | simp at hq)
       ·rw [bc (show 0≤gi (gr c.aE i) j by omega)] at hq
        rw [br l0,cond_false]
        by_cases l1:gi (gr c.aE i) j < c.aH.length
        ·rw [bc l1] at hq
         rw [br (show ¬ gi (gr c.aE i) j ≥ c.aH.length by omega),cond_false,H.lg (by omega) l1,aG,H.lg (by omega) (by omega),aG]
         by_cases q1:gi c.aH (gi (gr c.aE i) j)=gi c.aH i
         ·rw [show (gi c.aH (gi (gr c.aE (i:Int)) (j:Int)) == gi c.aH (i:Int))=true by simp [q1]] at hq
          rw [show (gi c.aH (gi (gr c.aE (i:Int)) (j:Int)) != gi c.aH (i:Int))=false by simp [q1],cond_false,H.ma (by omega) l1,aG,H.ma (by omega) (by omega),aG,aG]
          simp only [Bool.and_self,Bool.true_and] at hq
          rw [show (gi c.To (gi (gr c.aE (i:Int)) (j:Int)) != gi c.To (j:Int)) = !(gi c.To (gi (gr c.aE (i:Int)) (j:Int)) == gi c.To (j:Int)) from rfl,hq]
          all_goals (first | rfl | rw [cond_false,cI (by omega)])
         ·rw [show (gi c.aH (gi (gr c.aE (i:Int)) (j:Int)) == gi c.aH (i:Int))=false by simp [q1]] at hq
          rw [show (gi c.aH (gi (gr c.aE (i:Int)) (j:Int)) != gi c.aH (i:Int))=true by simp [q1],cond_true]
          all_goals (first | rfl | simp at hq)
        ·rw [br l1] at hq
         rw [bc (show gi (gr c.aE i) j ≥ c.aH.length by omega),cond_true]
         all_goals (first | rfl | simp at hq)
      ·rw [if_neg e] at hq
       rw [show (gi c.To (i:Int) != gi c.aH (j:Int))=true by simp [e],cond_true,show (gi (gr c.aE (i:Int)) (j:Int) != -1) = !(gi (gr c.aE (i:Int)) (j:Int) == -1) from rfl,hq]
       all_goals (first | rfl | rw [cond_false,cI (by omega)])
    unfold pK
    rw [bc (by omega),cond_true,hK,aG]
    unfold yA at hp
    by_cases hr:(gr c.aE i).length=c.aH.length
    ·rw [show (((gr c.aE (i:Int)).length:Int) != (c.aH.length:Int))=false by simp [hr],cond_false,inner hr,qn]
     rw [show ((gr c.aE (i:Int)).length == c.aH.length)=true by simp [hr],Bool.true_and] at hp
     rw [hp,cI (by omega)]
     rfl
    ·rw [show (((gr c.aE (i:Int)).length:Int) != (c.aH.length:Int))=true by (simp; omega),cond_true]
     all_goals (rw [show ((gr c.aE (i:Int)).length == c.aH.length)=false by simp [hr],Bool.false_and] at hp; first | rfl | simp at hp)
end Go.Proofs.YtjdkifckhidlbaaGreat
namespace Go.Proofs.YtjdkifckhidlbaaGreat
open Go Go.Li
set_option linter.unusedSectionVars false
theorem E4 {c:aI} (H:Head c) {f:Int} (h0:0≤f) (h1:f < c.aH.length):eV c f=some (qW.mk (gi c.aH f) (gi c.To f)):=by
 unfold eV
 rw [H.lg h0 h1,aG,H.ma h0 h1,aG]; rfl
theorem OD {c:aI} (hs:fx c):jH c=some (r7 c):=by
 obtain ⟨z1,z2,z3,z4,z5⟩:=hs
 unfold jH dB
 rw [show aq (S:=Unit) (some (Out.ret (c.aH.length:Int)))=some (c.aH.length:Int) from rfl,aG,Ag,aG]
 have e1:((c.aE.length:Int) != (c.aH.length:Int)) = !(c.aE.length == c.aH.length):=by
  by_cases e:c.aE.length=c.aH.length
  ·simp [e]
  ·rw [show (c.aE.length == c.aH.length)=false by simp [e]]; simp; omega
 have e1':((c.To.length:Int) != (c.aH.length:Int)) = !(c.To.length == c.aH.length):=by
  by_cases e:c.To.length=c.aH.length
  ·simp [e]
  ·rw [show (c.To.length == c.aH.length)=false by simp [e]]; simp; omega
 have e2:decide ((c.aH.length:Int) > 40) = !decide (c.aH.length≤40):=by
  by_cases e:c.aH.length≤40
  ·rw [bc e,br (by omega)]; rfl
  ·rw [br e,bc (by omega)]; rfl
 have e3:((c.aJ.length:Int) != c.aA) = !((c.aJ.length:Int) == c.aA):=rfl
 rw [e1,e1',e2,e3,within c.aJ _ (by omega) (by omega) (by omega)]
 cases hh:wM c with
 | false=>
  have:r7 c=false:=by unfold r7; rw [hh]; rfl
  rw [this]
  unfold wM at hh
  cases ha:(decide (0≤c.aA) && decide (c.aA≤8)) with
  | false=>rfl
  | true=>
   rw [ha] at hh
   simp only [Bool.and_eq_true,decide_eq_true_eq] at ha
   rw [within c.aH _ (by omega) ha.1 (by omega),within c.To _ (by omega) ha.1 (by omega)]
   generalize decide (c.aH.length≤40)=a2 at *
   generalize qk c.aA c.aH=a3 at *
   generalize (c.To.length == c.aH.length)=a4 at *
   generalize qk c.aA c.To=a5 at *
   generalize (c.aE.length == c.aH.length)=a6 at *
   generalize ((c.aJ.length:Int) == c.aA)=a7 at *
   generalize qk (c.aH.length:Int) c.aJ=a8 at *
   cases a2 <;> first | rfl | (cases a4 <;> first | rfl | (cases a3 <;> first | rfl | (cases a5 <;> first | rfl | (cases a7 <;> first | rfl | (cases a8 <;> first | rfl | (cases a6 <;> first | rfl | (cases hh)))))))
 | true=>
  have H:=FH hh
  have I1:=hh
  unfold wM at I1
  simp only [Bool.and_eq_true] at I1
  obtain ⟨⟨⟨b1,J5⟩,b2,b3⟩,⟨b4,b5⟩,b6,b7,b8⟩:=I1
  rw [within c.aH _ (by omega) H.o0 (by have:=H.o8; omega),within c.To _ (by omega) H.o0 (by have:=H.o8; omega)]
  rw [b1,J5,b2,b3,b4,b5,b6,b8,b7]
  simp only [Bool.and_self,Bool.not_true,cond_false,aG]
  have hm:=H.m
  have ux:=H.il
  have BA:=H.kl
  refine (congrArg aq (mg (ns c.aJ.length) (fun x=>!Ah c x) (fun i=>(i:Int)) rfl ?_ ?_ (e:=(c.aJ.length:Int)) (y:=false) ?_)).trans ?_
  ·intro i x hx hp
   obtain ⟨rfl,hi⟩:=iu hx
   have:=H.id (x:=(i:Int)) (by omega) (by omega)
   unfold iC
   unfold Ah at hp
   simp only [Bool.not_eq_false'] at hp
   rw [bc (by omega),cond_true,H.oK (by omega) (by omega),aG,E4 H this.1 this.2,aG]
   dsimp only
   rw [hp,Bool.not_true,cond_false,cI (by omega)]
  ·intro i x hx hp
   obtain ⟨rfl,hi⟩:=iu hx
   have:=H.id (x:=(i:Int)) (by omega) (by omega)
   unfold iC
   unfold Ah at hp
   rw [bc (by omega),cond_true,H.oK (by omega) (by omega),aG,E4 H this.1 this.2,aG]
   dsimp only
   rw [hp,cond_true]
  ·unfold iC
   rw [dC,br (by omega),cond_false]
  rw [qn]
  unfold r7
  rw [hh]
  cases uG:(ns c.aJ.length).all (Ah c) with
  | false=>rfl
  | true=>
   simp only [Bool.not_true,Bool.false_eq_true,if_false,Bool.true_and]
   refine (congrArg aq (mg (ns c.aH.length) (fun f=>!yA c f) (fun i=>(i:Int)) rfl ?_ ?_ (e:=(c.aH.length:Int)) (y:=false) ?_)).trans ?_
   rotate_left 2
   ·unfold kL
    rw [dC,br (by omega),cond_false]
   ·rw [qn]
    cases (ns c.aH.length).all (yA c) <;> rfl
   all_goals
    intro i x hx hp
    obtain ⟨rfl,hi⟩:=iu hx
    have hK:=H.o5 (f:=(i:Int)) (by omega) (by omega)
    have inner:(gr c.aE i).length=c.aH.length→ai (S:=Int) (af 4 (aj (iD c (c.aH.length:Int) i (gr c.aE i)) (0:Int))) (fun zG=>(some (Out.norm (ao ((i:Int)+(1:Int)))))) =
      if (ns c.aH.length).any (fun g=>!vN c i g) then some (.ret false) else some (Out.norm (ao ((i:Int)+(1:Int)))):=by
     intro hr
     refine mg (ns c.aH.length) (fun g=>!vN c i g) (fun j=>(j:Int)) rfl ?_ ?_ (e:=(c.aH.length:Int)) (y:=false) ?_
     rotate_left 2
     ·unfold iD
      rw [dC,br (by omega),cond_false]
     all_goals
      intro j y hy hq
      obtain ⟨rfl,hj⟩:=iu hy
      unfold iD
      rw [bc (by omega),cond_true,cH (by omega) (by omega),aG,H.ma (by omega) (by omega),aG,H.lg (by omega) (by omega),aG,dL (a:=(c.aH.length:Int) - 1) (by omega) (by omega),Ag,aG]
      unfold vN gk at hq
      by_cases e:gi c.To i=gi c.aH j
      ·rw [if_pos e] at hq
       rw [show (gi c.To (i:Int) != gi c.aH (j:Int))=false by simp [e],cond_false]
       by_cases l0:0≤gi (gr c.aE i) j∧gi (gr c.aE i) j < c.aH.length
       ·rw [bc l0.1,bc l0.2] at hq
        rw [bc l0.1,bc (show gi (gr c.aE i) j≤(c.aH.length:Int) - 1 by omega)]
        simp only [Bool.and_self,Bool.not_true,cond_false,Bool.true_and] at hq ⊢
        rw [E4 H l0.1 l0.2,aG,H.lg (by omega) (by omega),aG,H.ma (by omega) (by omega),aG,aG]
        dsimp only
        rw [hq]
        all_goals (first | rfl | rw [cond_false,cI (by omega)])
       ·have l1:(decide (0≤gi (gr c.aE i) j) && decide (gi (gr c.aE i) j < c.aH.length))=false:=by
         rcases Classical.not_and_iff_not_or_not.1 l0 with h | h
         ·rw [br h]; rfl
         ·rw [br h,Bool.and_false]
        have l2:(decide (0≤gi (gr c.aE i) j) && decide (gi (gr c.aE i) j≤(c.aH.length:Int) - 1))=false:=by
         rcases Classical.not_and_iff_not_or_not.1 l0 with h | h
         ·rw [br h]; rfl
         ·rw [br (show ¬ gi (gr c.aE i) j≤(c.aH.length:Int) - 1 by omega),Bool.and_false]
        rw [l1] at hq
        rw [l2]
        all_goals (first | rfl | simp at hq)
      ·rw [if_neg e] at hq
       rw [show (gi c.To (i:Int) != gi c.aH (j:Int))=true by simp [e],cond_true,show (gi (gr c.aE (i:Int)) (j:Int) != -1) = !(gi (gr c.aE (i:Int)) (j:Int) == -1) from rfl,hq]
       all_goals (first | rfl | rw [cond_false,cI (by omega)])
    unfold kL
    rw [bc (by omega),cond_true,hK,aG]
    unfold yA at hp
    by_cases hr:(gr c.aE i).length=c.aH.length
    ·rw [show (((gr c.aE (i:Int)).length:Int) != (c.aH.length:Int))=false by simp [hr],cond_false,inner hr,qn]
     rw [show ((gr c.aE (i:Int)).length == c.aH.length)=true by simp [hr],Bool.true_and] at hp
     rw [hp,cI (by omega)]
     rfl
    ·rw [show (((gr c.aE (i:Int)).length:Int) != (c.aH.length:Int))=true by (simp; omega),cond_true]
     all_goals (rw [show ((gr c.aE (i:Int)).length == c.aH.length)=false by simp [hr],Bool.false_and] at hp; first | rfl | simp at hp)
end Go.Proofs.YtjdkifckhidlbaaGreat
namespace Go.Proofs.YtjdkifckhidlbaaGreat
open Go Go.Li
structure rL (c:aI):Prop extends Head c where
 vf:∀ x:Int,0≤x→x < c.aA→gi c.aH (gi c.aJ x)=x
 vZ:∀ x:Int,0≤x→x < c.aA→gi c.To (gi c.aJ x)=x
 row:∀ f:Int,0≤f→f < c.aH.length→(gr c.aE f).length=c.aH.length
 cell:∀ f g:Int,0≤f→f < c.aH.length→0≤g→g < c.aH.length→gi c.To f=gi c.aH g→
  0≤gk c.aE f g∧gk c.aE f g < c.aH.length∧gi c.aH (gk c.aE f g)=gi c.aH f∧gi c.To (gk c.aE f g)=gi c.To g
 none:∀ f g:Int,0≤f→f < c.aH.length→0≤g→g < c.aH.length→gi c.To f≠gi c.aH g→gk c.aE f g = -1
theorem DQ {c:aI} (h:r7 c=true):rL c:=by
 unfold r7 at h
 simp only [Bool.and_eq_true,List.all_eq_true] at h
 obtain ⟨h1,h2,h3⟩:=h
 have H:=FH h1
 have ux:=H.il
 have uG:∀ x,0≤x→x < c.aA→Ah c x=true:=fun x a b=>h2 x (gq.2 ⟨a,by omega⟩)
 have bg:∀ f,0≤f→f < (c.aH.length:Int)→yA c f=true:=fun f a b=>h3 f (gq.2 ⟨a,b⟩)
 have j4:∀ f g,0≤f→f < (c.aH.length:Int)→0≤g→g < (c.aH.length:Int)→vN c f g=true:=fun f g a b a' b'=>by
  have:=bg f a b
  unfold yA at this
  simp only [Bool.and_eq_true,List.all_eq_true] at this
  exact this.2 g (gq.2 ⟨a',b'⟩)
 refine { H with
  vf:=fun x a b=>?_
  vZ:=fun x a b=>?_
  row:=fun f a b=>?_
  cell:=fun f g a b a' b' e=>?_
  none:=fun f g a b a' b' e=>?_ }
 ·have:=uG x a b; unfold Ah at this; simp at this; exact this.1
 ·have:=uG x a b; unfold Ah at this; simp at this; exact this.2
 ·have:=bg f a b; unfold yA at this; simp only [Bool.and_eq_true,beq_iff_eq] at this; exact this.1
 ·have:=j4 f g a b a' b'; unfold vN at this; rw [if_pos e] at this; simp only [Bool.and_eq_true,decide_eq_true_eq,beq_iff_eq] at this; exact ⟨this.1.1,this.1.2,this.2.1,this.2.2⟩
 ·have:=j4 f g a b a' b'; unfold vN at this; rw [if_neg e] at this; simpa using this
namespace rL
variable {c:aI} (h:rL c)
include h
theorem nt {f g:Int} (h0:0≤f) (h1:f < c.aH.length) (h2:0≤g) (h3:g < c.aH.length):idx (gr c.aE f) g=some (gk c.aE f g):=cH h2 (by rw [h.row f h0 h1]; exact h3)
theorem qe {f g:Int} (h0:0≤f) (h1:f < c.aH.length) (h2:0≤g) (h3:g < c.aH.length):cY c f g=some (gk c.aE f g):=by
 unfold cY; rw [h.o5 h0 h1,aG,h.nt h0 h1 h2 h3,aG]; rfl
theorem thenS {f g:Int} (h0:0≤f) (h1:f < c.aH.length) (h2:0≤g) (h3:g < c.aH.length):eL c f g=some (gk c.aE f g):=by
 unfold eL; rw [h.o5 h0 h1,aG,h.nt h0 h1 h2 h3,aG]; rfl
end rL
def vO (c:aI) (f:Int):Bool:=gk c.aE (gi c.aJ (gi c.aH f)) f == f && gk c.aE f (gi c.aJ (gi c.To f)) == f
def xg (c:aI) (f g h:Int):Bool:=gi c.To g == gi c.aH h && gk c.aE (gk c.aE f g) h != gk c.aE f (gk c.aE g h)
def Ci (c:aI) (f g:Int):Bool:=gi c.To f == gi c.aH g && (ns c.aH.length).any (xg c f g)
def FI (c:aI) (f:Int):Bool:=(ns c.aH.length).any (Ci c f)
def Bb (c:aI):Bool:=(ns c.aH.length).all (vO c) && !((ns c.aH.length).any (FI c))
theorem KN {c:aI} {k1 k2 k4 k6:Nat} {L0:Int→Option (Out Int (Int×Int×Int×Int))} {L1:Int→Option (Out Int (Int×Int×Int×Int))} {L2:Int→Int→Option (Out Int (Int×Int×Int×Int))} {L3:Int→Int→Int→Option (Out Int (Int×Int×Int×Int))} {z:Int×Int×Int×Int} (hz:z.1=0)
  (a0:∀ i:Nat,i < c.aH.length→vO c i=true→L0 i=some (.norm ((i+1:Nat):Int)))
  (a1:∀ i:Nat,i < c.aH.length→vO c i=false→∃ y,L0 i=some (.ret y)∧y.1≠0)
  (a2:L0 c.aH.length=some (.exit k1 c.aH.length))
  (b0:∀ i:Nat,i < c.aH.length→L1 i=ai (af k4 (aj (L2 i) 0)) fun _=>some (.norm ((i+1:Nat):Int)))
  (b2:L1 c.aH.length=some (.exit k2 c.aH.length))
  (d0:∀ i j:Nat,i < c.aH.length→j < c.aH.length→gi c.To i≠gi c.aH j→L2 i j=some (.norm ((j+1:Nat):Int)))
  (d1:∀ i j:Nat,i < c.aH.length→j < c.aH.length→gi c.To i=gi c.aH j→L2 i j=ai (af k6 (aj (L3 i j) 0)) fun _=>some (.norm ((j+1:Nat):Int)))
  (d2:∀ i:Nat,L2 i c.aH.length=some (.exit k4 c.aH.length))
  (e0:∀ i j h:Nat,i < c.aH.length→j < c.aH.length→h < c.aH.length→gi c.To i=gi c.aH j→xg c i j h=false→L3 i j h=some (.norm ((h+1:Nat):Int)))
  (e1:∀ i j h:Nat,i < c.aH.length→j < c.aH.length→h < c.aH.length→gi c.To i=gi c.aH j→xg c i j h=true→∃ y,L3 i j h=some (.ret y)∧y.1≠0)
  (e2:∀ i j:Nat,L3 i j c.aH.length=some (.exit k6 c.aH.length)) :
  ∃ y,aq (S:=Unit) (ai (af k1 (aj L0 0)) fun _=>ai (af k2 (aj L1 0)) fun _=>some (.ret z))=some y∧(y.1 == 0)=Bb c:=by
 have in3:∀ i j:Nat,i < c.aH.length→j < c.aH.length→gi c.To i=gi c.aH j→
   ((ns c.aH.length).any (xg c i j)=true∧∃ y,ai (S:=Int) (af k6 (aj (L3 i j) 0)) (fun _=>some (.norm ((j+1:Nat):Int)))=some (.ret y)∧y.1≠0)∨
   ((ns c.aH.length).any (xg c i j)=false∧ai (S:=Int) (af k6 (aj (L3 i j) 0)) (fun _=>some (.norm ((j+1:Nat):Int)))=some (.norm ((j+1:Nat):Int))):=by
  intro i j hi hj he
  refine yz (ns c.aH.length) (xg c i j) (fun y:Int×Int×Int×Int=>y.1≠0) (fun h=>(h:Int)) rfl ?_ ?_ (e:=(c.aH.length:Int)) (by rw [dC]; exact e2 i j)
  ·intro h x hx hp; obtain ⟨rfl,hh⟩:=iu hx; exact e0 i j h hi hj hh he hp
  ·intro h x hx hp; obtain ⟨rfl,hh⟩:=iu hx; exact e1 i j h hi hj hh he hp
 have in2:∀ i:Nat,i < c.aH.length→
   ((ns c.aH.length).any (Ci c i)=true∧∃ y,ai (S:=Int) (af k4 (aj (L2 i) 0)) (fun _=>some (.norm ((i+1:Nat):Int)))=some (.ret y)∧y.1≠0)∨
   ((ns c.aH.length).any (Ci c i)=false∧ai (S:=Int) (af k4 (aj (L2 i) 0)) (fun _=>some (.norm ((i+1:Nat):Int)))=some (.norm ((i+1:Nat):Int))):=by
  intro i hi
  refine yz (ns c.aH.length) (Ci c i) (fun y:Int×Int×Int×Int=>y.1≠0) (fun h=>(h:Int)) rfl ?_ ?_ (e:=(c.aH.length:Int)) (by rw [dC]; exact d2 i)
  ·intro j x hx hp
   obtain ⟨rfl,hj⟩:=iu hx
   by_cases he:gi c.To i=gi c.aH j
   ·rw [d1 i j hi hj he]
    rcases in3 i j hi hj he with ⟨h1,_⟩ | ⟨_,h2⟩
    ·unfold Ci at hp; rw [h1] at hp; simp [he] at hp
    ·exact h2
   ·exact d0 i j hi hj he
  ·intro j x hx hp
   obtain ⟨rfl,hj⟩:=iu hx
   unfold Ci at hp
   simp only [Bool.and_eq_true,beq_iff_eq] at hp
   rw [d1 i j hi hj hp.1]
   rcases in3 i j hi hj hp.1 with ⟨_,h⟩ | ⟨h1,_⟩
   ·exact h
   ·rw [hp.2] at h1; cases h1
 rcases yz (s0:=(0:Int)) (S:=Unit) (R:=Int×Int×Int×Int) (k:=k1) (body:=L0) (f:=fun _=>ai (af k2 (aj L1 0)) fun _=>some (.ret z)) (ns c.aH.length) (fun i=>!vO c i) (fun y:Int×Int×Int×Int=>y.1≠0) (fun i=>(i:Int)) rfl
   (fun i x hx hp=>by obtain ⟨rfl,hi⟩:=iu hx; exact a0 i hi (by simpa using hp)) (fun i x hx hp=>by obtain ⟨rfl,hi⟩:=iu hx; exact a1 i hi (by simpa using hp)) (e:=(c.aH.length:Int)) (by rw [dC]; exact a2) with ⟨h1,y,h2,h3⟩ | ⟨h1,h2⟩
 ·refine ⟨y,by rw [h2]; rfl,?_⟩
  unfold Bb
  rw [qn] at h1
  simp only [Bool.not_eq_true'] at h1
  rw [h1]
  simpa using h3
 ·rw [qn] at h1
  simp only [Bool.not_eq_false'] at h1
  rw [h2]
  rcases yz (s0:=(0:Int)) (S:=Unit) (R:=Int×Int×Int×Int) (k:=k2) (body:=L1) (f:=fun _=>some (.ret z)) (ns c.aH.length) (FI c) (fun y:Int×Int×Int×Int=>y.1≠0) (fun i=>(i:Int)) rfl
   (fun i x hx hp=>by
    obtain ⟨rfl,hi⟩:=iu hx
    rw [b0 i hi]
    rcases in2 i hi with ⟨q1,_⟩ | ⟨_,q2⟩
    ·unfold FI at hp; rw [q1] at hp; cases hp
    ·exact q2)
   (fun i x hx hp=>by
    obtain ⟨rfl,hi⟩:=iu hx
    rw [b0 i hi]
    rcases in2 i hi with ⟨_,q⟩ | ⟨q1,_⟩
    ·exact q
    ·unfold FI at hp; rw [q1] at hp; cases hp) (e:=(c.aH.length:Int)) (by rw [dC]; exact b2) with ⟨g1,y,g2,g3⟩ | ⟨g1,g2⟩
  ·refine ⟨y,by rw [g2]; rfl,?_⟩
   unfold Bb
   rw [h1,g1]
   simpa using g3
  ·refine ⟨z,by rw [g2]; rfl,?_⟩
   unfold Bb
   rw [h1,g1,hz]
   rfl
section
variable {c:aI} (H:rL c)
include H
theorem OF:∃ y,nX c=some y∧(y.1 == 0)=Bb c:=by
 have hm:=H.m
 have ux:=H.il
 have u0:∀ i:Nat,i < c.aH.length→lS c i=if vO c i then some (Out.norm ((i+1:Nat):Int)) else some (Out.ret ((1:Int),(i:Int),(0:Int),(0:Int))):=by
  intro i hi
  have f1:=H.fr (f:=(i:Int)) (by omega) (by omega)
  have t1:=H.to (f:=(i:Int)) (by omega) (by omega)
  have i1:=H.id f1.1 f1.2
  have i2:=H.id t1.1 t1.2
  unfold lS
  rw [bc (by omega),cond_true,H.lg (by omega) (by omega),aG,H.oK f1.1 f1.2,aG,H.o5 i1.1 i1.2,aG,H.nt i1.1 i1.2 (by omega) (by omega),aG]
  rw [H.o5 (by omega) (by omega),aG,H.ma (by omega) (by omega),aG,H.oK t1.1 t1.2,aG,H.nt (by omega) (by omega) i2.1 i2.2,aG]
  unfold vO
  by_cases e1:gk c.aE (gi c.aJ (gi c.aH i)) i=i
  ·by_cases e2:gk c.aE i (gi c.aJ (gi c.To i))=i
   ·simp [e1,e2,cI (show i < 9223372036854775807 by omega)]
   ·simp [e1,e2,sn e2]
  ·simp [e1,sn e1]
 unfold nX
 refine KN (c:=c) (z:=(0,0,0,0)) rfl (L2:=kJ c) (L3:=kI c) (k4:=4) (k6:=6) ?_ ?_ ?_ ?_ ?_ ?_ ?_ ?_ ?_ ?_ ?_
 ·intro i hi hp; rw [u0 i hi,hp]; rfl
 ·intro i hi hp; rw [u0 i hi,hp]; exact ⟨_,rfl,by simp⟩
 ·unfold lS; rw [br (by omega),cond_false]
 ·intro i hi; unfold oR; rw [bc (by omega),cond_true,cI (by omega)]
 ·unfold oR; rw [br (by omega),cond_false]
 ·intro i j hi hj he
  unfold kJ
  rw [bc (by omega),cond_true,H.ma (by omega) (by omega),aG,H.lg (by omega) (by omega),aG,show (gi c.To (i:Int) != gi c.aH (j:Int))=true by simp [he],cond_true,cI (by omega)]
 ·intro i j hi hj he
  unfold kJ
  rw [bc (by omega),cond_true,H.ma (by omega) (by omega),aG,H.lg (by omega) (by omega),aG,show (gi c.To (i:Int) != gi c.aH (j:Int))=false by simp [he],cond_false,cI (by omega)]
 ·intro i; unfold kJ; rw [br (by omega),cond_false]
 ·intro i j h hi hj hh he hp
  unfold kI
  rw [bc (by omega),cond_true,H.ma (by omega) (by omega),aG,H.lg (by omega) (by omega),aG]
  unfold xg at hp
  by_cases e:gi c.To j=gi c.aH h
  ·have c1:=H.cell i j (by omega) (by omega) (by omega) (by omega) he
   have c2:=H.cell j h (by omega) (by omega) (by omega) (by omega) e
   rw [show (gi c.To (j:Int) == gi c.aH (h:Int))=true by simp [e]] at hp ⊢
   rw [cond_true,H.o5 (by omega) (by omega),aG,H.nt (by omega) (by omega) (by omega) (by omega),aG,H.o5 c1.1 c1.2.1,aG,H.nt c1.1 c1.2.1 (by omega) (by omega),aG,aG,H.o5 (by omega) (by omega),aG,H.nt (by omega) (by omega) (by omega) (by omega),aG,H.nt (by omega) (by omega) c2.1 c2.2.1,aG]
   rw [Bool.true_and] at hp
   rw [hp,aG,cond_false,cI (by omega)]
  ·rw [show (gi c.To (j:Int) == gi c.aH (h:Int))=false by simp [e],cond_false,aG,cond_false,cI (by omega)]
 ·intro i j h hi hj hh he hp
  unfold kI
  rw [bc (by omega),cond_true,H.ma (by omega) (by omega),aG,H.lg (by omega) (by omega),aG]
  unfold xg at hp
  simp only [Bool.and_eq_true] at hp
  have e:gi c.To j=gi c.aH h:=by simpa using hp.1
  have c1:=H.cell i j (by omega) (by omega) (by omega) (by omega) he
  have c2:=H.cell j h (by omega) (by omega) (by omega) (by omega) e
  rw [hp.1,cond_true,H.o5 (by omega) (by omega),aG,H.nt (by omega) (by omega) (by omega) (by omega),aG,H.o5 c1.1 c1.2.1,aG,H.nt c1.1 c1.2.1 (by omega) (by omega),aG,aG,H.o5 (by omega) (by omega),aG,H.nt (by omega) (by omega) (by omega) (by omega),aG,H.nt (by omega) (by omega) c2.1 c2.2.1,aG]
  rw [hp.2,aG,cond_true]
  exact ⟨_,rfl,by simp⟩
 ·intro i j; unfold kI; rw [br (by omega),cond_false]
theorem OG:∃ y,kN c=some y∧(y.1 == 0)=Bb c:=by
 have hm:=H.m
 have ux:=H.il
 have u0:∀ i:Nat,i < c.aH.length→iZ c c.aH.length i=if vO c i then some (Out.norm ((i+1:Nat):Int)) else some (Out.ret ((1:Int),(i:Int),(0:Int),(0:Int))):=by
  intro i hi
  have f1:=H.fr (f:=(i:Int)) (by omega) (by omega)
  have t1:=H.to (f:=(i:Int)) (by omega) (by omega)
  have i1:=H.id f1.1 f1.2
  have i2:=H.id t1.1 t1.2
  unfold iZ
  rw [bc (by omega),cond_true,H.lg (by omega) (by omega),aG,H.oK f1.1 f1.2,aG,H.qe i1.1 i1.2 (by omega) (by omega),aG]
  rw [H.ma (by omega) (by omega),aG,H.oK t1.1 t1.2,aG,H.qe (by omega) (by omega) i2.1 i2.2,aG]
  unfold vO
  by_cases e1:gk c.aE (gi c.aJ (gi c.aH i)) i=i
  ·by_cases e2:gk c.aE i (gi c.aJ (gi c.To i))=i
   ·simp [e1,e2,cI (show i < 9223372036854775807 by omega)]
   ·simp [e1,e2,sn e2]
  ·simp [e1,sn e1]
 have pos:∀ i j:Nat,i < c.aH.length→j < c.aH.length→(gi c.To i=gi c.aH j→0≤gk c.aE i j)∧(gi c.To i≠gi c.aH j→gk c.aE i j < 0):=by
  intro i j hi hj
  refine ⟨fun e=>(H.cell i j (by omega) (by omega) (by omega) (by omega) e).1,fun e=>?_⟩
  rw [H.none i j (by omega) (by omega) (by omega) (by omega) e]; decide
 unfold kN dB
 rw [show aq (S:=Unit) (some (Out.ret (c.aH.length:Int)))=some (c.aH.length:Int) from rfl,aG]
 refine KN (c:=c) (z:=(0,0,0,0)) rfl (L2:=gR c c.aH.length) (L3:=gQ c c.aH.length) (k4:=4) (k6:=6) ?_ ?_ ?_ ?_ ?_ ?_ ?_ ?_ ?_ ?_ ?_
 ·intro i hi hp; rw [u0 i hi,hp]; rfl
 ·intro i hi hp; rw [u0 i hi,hp]; exact ⟨_,rfl,by simp⟩
 ·unfold iZ; rw [br (by omega),cond_false]
 ·intro i hi; unfold lB; rw [bc (by omega),cond_true,cI (by omega)]
 ·unfold lB; rw [br (by omega),cond_false]
 ·intro i j hi hj he
  unfold gR
  rw [bc (by omega),cond_true,H.qe (by omega) (by omega) (by omega) (by omega),aG,bc ((pos i j hi hj).2 he),cond_true,cI (by omega)]
 ·intro i j hi hj he
  have:=(pos i j hi hj).1 he
  unfold gR
  rw [bc (by omega),cond_true,H.qe (by omega) (by omega) (by omega) (by omega),aG,br (by omega),cond_false,cI (by omega)]
 ·intro i; unfold gR; rw [br (by omega),cond_false]
 ·intro i j h hi hj hh he hp
  unfold gQ
  rw [bc (by omega),cond_true,H.qe (by omega) (by omega) (by omega) (by omega),aG]
  unfold xg at hp
  by_cases e:gi c.To j=gi c.aH h
  ·have c1:=H.cell i j (by omega) (by omega) (by omega) (by omega) he
   have c2:=H.cell j h (by omega) (by omega) (by omega) (by omega) e
   rw [show (gi c.To (j:Int) == gi c.aH (h:Int))=true by simp [e],Bool.true_and] at hp
   rw [bc (show gk c.aE j h ≥ 0 from c2.1),cond_true,H.qe (by omega) (by omega) (by omega) (by omega),aG,H.qe c1.1 c1.2.1 (by omega) (by omega),aG,aG,H.qe (by omega) (by omega) c2.1 c2.2.1,aG,hp,aG,cond_false,cI (by omega)]
  ·have:=(pos j h hj hh).2 e
   rw [br (show ¬ gk c.aE j h ≥ 0 by omega),cond_false,aG,cond_false,cI (by omega)]
 ·intro i j h hi hj hh he hp
  unfold gQ
  unfold xg at hp
  simp only [Bool.and_eq_true] at hp
  have e:gi c.To j=gi c.aH h:=by simpa using hp.1
  have c1:=H.cell i j (by omega) (by omega) (by omega) (by omega) he
  have c2:=H.cell j h (by omega) (by omega) (by omega) (by omega) e
  rw [bc (by omega),cond_true,H.qe (by omega) (by omega) (by omega) (by omega),aG,bc (show gk c.aE j h ≥ 0 from c2.1),cond_true,H.qe (by omega) (by omega) (by omega) (by omega),aG,H.qe c1.1 c1.2.1 (by omega) (by omega),aG,aG,H.qe (by omega) (by omega) c2.1 c2.2.1,aG,hp.2,aG,cond_true]
  exact ⟨_,rfl,by simp⟩
 ·intro i j; unfold gQ; rw [br (by omega),cond_false]
end
structure nr (c:aI):Prop extends rL c where
 CZ:∀ f:Int,0≤f→f < c.aH.length→gk c.aE (gi c.aJ (gi c.aH f)) f=f
 C0:∀ f:Int,0≤f→f < c.aH.length→gk c.aE f (gi c.aJ (gi c.To f))=f
 assoc:∀ f g h:Int,0≤f→f < c.aH.length→0≤g→g < c.aH.length→0≤h→h < c.aH.length→gi c.To f=gi c.aH g→gi c.To g=gi c.aH h→
  gk c.aE (gk c.aE f g) h=gk c.aE f (gk c.aE g h)
def qx (c:aI):Bool:=r7 c && Bb c
theorem yB {c:aI} (h:qx c=true):nr c:=by
 unfold qx at h
 simp only [Bool.and_eq_true] at h
 obtain ⟨h1,h2⟩:=h
 have H:=DQ h1
 unfold Bb at h2
 simp only [Bool.and_eq_true,List.all_eq_true,Bool.not_eq_true',List.any_eq_false] at h2
 obtain ⟨h2,h3⟩:=h2
 refine { H with
  CZ:=fun f a b=>?_
  C0:=fun f a b=>?_
  assoc:=fun f g h a b a' b' a'' b'' e1 e2=>?_ }
 ·have:=h2 f (gq.2 ⟨a,b⟩); unfold vO at this; simp at this; exact this.1
 ·have:=h2 f (gq.2 ⟨a,b⟩); unfold vO at this; simp at this; exact this.2
 ·have:=h3 f (gq.2 ⟨a,b⟩)
  unfold FI at this
  simp only [List.any_eq_true,not_exists,not_and] at this
  have:=this g (gq.2 ⟨a',b'⟩)
  unfold Ci at this
  simp only [Bool.and_eq_true,beq_iff_eq,List.any_eq_true,not_and,not_exists] at this
  have:=this e1 h (gq.2 ⟨a'',b''⟩)
  unfold xg at this
  simpa [e2] using this
theorem OH {c:aI} (hs:fx c):pM c=some (qx c):=by
 unfold pM
 rw [OC hs,aG]
 unfold qx
 cases h:r7 c with
 | false=>rfl
 | true=>
  obtain ⟨y,h1,h2⟩:=OF (DQ h)
  rw [Bool.not_true,cond_false,h1,aG,h2]; rfl
theorem OI {c:aI} (hs:fx c):iE c=some (qx c):=by
 unfold iE
 rw [OD hs,aG]
 unfold qx
 cases h:r7 c with
 | false=>rfl
 | true=>
  obtain ⟨y,h1,h2⟩:=OG (DQ h)
  rw [Bool.not_true,cond_false,h1,aG,h2]; rfl
end Go.Proofs.YtjdkifckhidlbaaGreat
