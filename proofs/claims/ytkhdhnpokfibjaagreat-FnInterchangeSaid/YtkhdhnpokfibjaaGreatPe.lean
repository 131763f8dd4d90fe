/- Is a table a category: the reference and the program agree, and what is known of a category. No condition beside those that each theorem names. -/
import Derived.Test.YtkhdhnpokfibjaaGreatPa
namespace Go.Li
open Go
section
variable {S S1 R α:Type} {body:S1→Option (Out S1 R)}
theorem for_anyg {k:Nat} {f:S1→Option (Out S R)} {s0 e:S1} (l:List α) (p:α→Bool) (G:R→Prop) (st:Nat→S1) (h0:st 0=s0) (step:∀ i x,l[i]? = some x→p x=false→body (st i)=some (.norm (st (i+1))))
  (hit:∀ i x,l[i]? = some x→p x=true→∃ y,body (st i)=some (.ret y)∧G y) (last:body (st l.length)=some (.exit k e)) :
  (l.any p=true∧∃ y,lbind (blockM k (loopM body s0)) f=some (.ret y)∧G y)∨(l.any p=false∧lbind (blockM k (loopM body s0)) f=f e):=by
 have key:∀ (m:List α) (i:Nat),l.drop i=m→i≤l.length→(m.any p=true∧∃ y,loopM body (st i)=some (.ret y)∧G y)∨(m.any p=false∧loopM body (st i)=some (.exit k e)):=by
  intro m
  induction m with
  | nil=>
   intro i hd hi
   have:i=l.length:=by have:=congrArg List.length hd; simp at this; omega
   subst this
   exact .inr ⟨rfl,loopM_exit last⟩
  | cons x m ih=>
   intro i hd hi
   have hlt:i < l.length:=by
    rcases Nat.lt_or_ge i l.length with h | h
    ·exact h
    ·rw [List.drop_eq_nil_of_le h] at hd; cases hd
   have hx:l[i]? = some x:=by
    rw [List.drop_eq_getElem_cons hlt] at hd
    rw [List.getElem?_eq_getElem hlt]; exact congrArg some (List.cons.inj hd).1
   have hd':l.drop (i+1)=m:=by
    rw [List.drop_eq_getElem_cons hlt] at hd; exact (List.cons.inj hd).2
   cases hp:p x with
   | true=>
    obtain ⟨y,hy,hg⟩:=hit i x hx hp
    exact .inl ⟨by simp [hp],y,loopM_ret hy,hg⟩
   | false=>
    rw [loopM_eq,step i x hx hp]
    simpa [hp] using ih (i+1) hd' hlt
 rcases key l 0 rfl (Nat.zero_le _) with ⟨h1,y,h2,h3⟩ | ⟨h1,h2⟩
 ·rw [h0] at h2; exact .inl ⟨h1,y,lb_ret h2,h3⟩
 ·rw [h0] at h2; exact .inr ⟨h1,lb_exit h2⟩
theorem range_get {n i x:Nat} (h:(List.range n)[i]? = some x):x=i∧i < n:=by
 have hi:=getElem?_lt h
 rw [List.getElem?_eq_getElem hi] at h
 simp at h hi
 exact ⟨h.symm,hi⟩
end
def gi (l:List Int) (j:Int):Int:=l.getD j.toNat 0
def gr (l:List (List Int)) (j:Int):List Int:=l.getD j.toNat []
def gk (l:List (List Int)) (i j:Int):Int:=gi (gr l i) j
theorem cU {l:List Int} {j:Int} (h0:0≤j) (h1:j < l.length):idx l j=some (gi l j):=by
 rw [idx_lt h0 h1]; unfold gi; rw [List.getD_eq_getElem?_getD,List.getElem?_eq_getElem (by omega)]; rfl
theorem idx_gr {l:List (List Int)} {j:Int} (h0:0≤j) (h1:j < l.length):idx l j=some (gr l j):=by
 rw [idx_lt h0 h1]; unfold gr; rw [List.getD_eq_getElem?_getD,List.getElem?_eq_getElem (by omega)]; rfl
theorem gi_mem {l:List Int} {j:Int} (h0:0≤j) (h1:j < l.length):gi l j∈l:=by
 unfold gi; rw [List.getD_eq_getElem?_getD,List.getElem?_eq_getElem (by omega)]; exact List.getElem_mem _
theorem gr_mem {l:List (List Int)} {j:Int} (h0:0≤j) (h1:j < l.length):gr l j∈l:=by
 unfold gr; rw [List.getD_eq_getElem?_getD,List.getElem?_eq_getElem (by omega)]; exact List.getElem_mem _
def ns (n:Nat):List Int:=(List.range n).map Int.ofNat
theorem ns_get {n i:Nat} {x:Int} (h:(ns n)[i]? = some x):x=(i:Int)∧i < n:=by
 unfold ns at h
 rw [List.getElem?_map] at h
 cases hr:(List.range n)[i]? with
 | none=>rw [hr] at h; cases h
 | some y=>
  rw [hr] at h
  obtain ⟨rfl,hi⟩:=range_get hr
  exact ⟨(Option.some.inj h).symm,hi⟩
theorem fB (n:Nat):(ns n).length=n:=by simp [ns]
theorem ns_mem {n:Nat} {x:Int}:x∈ns n↔0≤x∧x < n:=by
 unfold ns
 simp only [List.mem_map,List.mem_range]
 constructor
 ·rintro ⟨a,h1,rfl⟩; simp; omega
 ·rintro ⟨h1,h2⟩; exact ⟨x.toNat,by omega,by simp; omega⟩
end Go.Li
namespace Go.Proofs.YtkhdhnpokfibjaaGreat
open Go Go.Li
def inS (n:Int) (f:List Int):Bool:=f.all fun y=>decide (0≤y) && decide (y < n)
theorem inS_iff {n:Int} {f:List Int}:inS n f=true↔∀ y∈f,0≤y∧y < n:=by simp [inS]
theorem any_not {α:Type} (l:List α) (p:α→Bool):l.any (fun x=>!p x) = !l.all p:=by
 induction l with
 | nil=>rfl
 | cons a l ih=>simp only [List.any_cons,List.all_cons,ih,Bool.not_and]
theorem specMap (n:Int) (f:List Int) (hf:f.length≤1048576000):iU n f=some (inS n f):=by
 unfold iU
 refine (congrArg retM (for_anyb f (fun y=>!(decide (0≤y) && decide (y < n))) (fun i=>(i:Int)) rfl ?_ ?_ (e:=(f.length:Int)) (y:=false) ?_)).trans ?_
 ·intro i x hx hp
  have hi:=getElem?_lt hx
  unfold mD
  simp only [Bool.not_eq_false',Bool.and_eq_true,decide_eq_true_eq] at hp
  rw [decT (by omega),cond_true,idx_nat,hx,aH,decF (by omega),cond_false,aH,decF (by omega),aH,cond_false,cP (by omega)]
 ·intro i x hx hp
  have hi:=getElem?_lt hx
  unfold mD
  rw [decT (by omega),cond_true,idx_nat,hx,aH,aH]
  by_cases h:x < 0
  ·rw [decT h,cond_true,aH,cond_true]
  ·have:n≤x:=by simp at hp; omega
   rw [decF h,cond_false,decT (by omega),aH,cond_true]
 ·unfold mD
  rw [decF (by omega),cond_false]
 ·rw [any_not]
  show retM (if (!inS n f)=true then _ else _)=_
  cases inS n f <;> rfl
theorem inRange (n a b:Int):kK n a b=some (decide (a≤n) && decide (n≤b)):=by
 unfold kK
 by_cases h:a≤n
 ·rw [decT (show n ≥ a from h),cond_true]; rfl
 ·rw [decF (show ¬ n ≥ a from h),cond_false]; rfl
theorem specIn (n a b:Int):pS n a b=some (decide (a≤n) && decide (n≤b)):=by
 unfold pS
 by_cases h:a≤n
 ·rw [decT (show n ≥ a from h),cond_true]; rfl
 ·rw [decF (show ¬ n ≥ a from h),cond_false]; rfl
theorem within (f:List Int) (n:Int) (hf:f.length≤1048576000) (hn:0≤n) (hn2:n≤1048576000):iB f n=some (inS n f):=by
 unfold iB
 refine (congrArg retM (for_anyb f (fun y=>!(decide (0≤y) && decide (y < n))) (fun i=>(i:Int)) rfl ?_ ?_ (e:=(f.length:Int)) (y:=false) ?_)).trans ?_
 ·intro i x hx hp
  have hi:=getElem?_lt hx
  unfold mG
  simp only [Bool.not_eq_false',Bool.and_eq_true,decide_eq_true_eq] at hp
  rw [decT (by omega),cond_true,idx_nat,hx,aH,eX (by omega) (by omega),inRange,aH,decT hp.1,decT (by omega)]
  simp only [Bool.and_self,Bool.not_true,cond_false]
  rw [cP (by omega)]
 ·intro i x hx hp
  have hi:=getElem?_lt hx
  unfold mG
  rw [decT (by omega),cond_true,idx_nat,hx,aH,eX (by omega) (by omega),inRange,aH]
  have:(decide (0≤x) && decide (x≤n - 1))=false:=by
   by_cases h:x < 0
   ·rw [decF (by omega)]; rfl
   ·have:n≤x:=by simp at hp; omega
    rw [decF (show ¬ x≤n - 1 by omega),Bool.and_false]
  rw [this]; rfl
 ·unfold mG
  rw [decF (by omega),cond_false]
 ·rw [any_not]
  show retM (if (!inS n f)=true then _ else _)=_
  cases inS n f <;> rfl
def headB (c:aI):Bool:=((decide (0≤c.aD) && decide (c.aD≤8)) && (decide (c.aG.length≤40) && inS c.aD c.aG)) && (((c.To.length == c.aG.length) && inS c.aD c.To) && ((c.aF.length == c.aG.length) && (((c.aJ.length:Int) == c.aD) && inS c.aG.length c.aJ)))
def idB (c:aI) (x:Int):Bool:=gi c.aG (gi c.aJ x) == x && gi c.To (gi c.aJ x) == x
def cellB (c:aI) (f g:Int):Bool:=
 if gi c.To f=gi c.aG g then (decide (0≤gk c.aF f g) && decide (gk c.aF f g < c.aG.length)) && (gi c.aG (gk c.aF f g) == gi c.aG f && gi c.To (gk c.aF f g) == gi c.To g)
 else gk c.aF f g == -1
def rowB (c:aI) (f:Int):Bool:=((gr c.aF f).length == c.aG.length) && (ns c.aG.length).all fun g=>cellB c f g
def shapeB (c:aI):Bool:=headB c && ((ns c.aJ.length).all (idB c) && (ns c.aG.length).all (rowB c))
structure Head (c:aI):Prop where
 o0:0≤c.aD
 o8:c.aD≤8
 m:c.aG.length≤40
 f:∀ x∈c.aG,0≤x∧x < c.aD
 tl:c.To.length=c.aG.length
 t:∀ x∈c.To,0≤x∧x < c.aD
 kl:c.aF.length=c.aG.length
 il:(c.aJ.length:Int)=c.aD
 i:∀ x∈c.aJ,0≤x∧x < c.aG.length
theorem head_of {c:aI} (h:headB c=true):Head c:=by
 unfold headB at h
 simp only [Bool.and_eq_true,decide_eq_true_eq,inS_iff,beq_iff_eq] at h
 obtain ⟨⟨⟨h1,h2⟩,h3,h4⟩,⟨h5,h6⟩,h7,h8,h9⟩:=h
 exact ⟨h1,h2,h3,h4,h5,h6,h7,h8,h9⟩
set_option linter.unusedSectionVars false
namespace Head
variable {c:aI} (h:Head c)
include h
theorem fr {f:Int} (h0:0≤f) (h1:f < c.aG.length):0≤gi c.aG f∧gi c.aG f < c.aD:=h.f _ (gi_mem h0 h1)
theorem to {f:Int} (h0:0≤f) (h1:f < c.aG.length):0≤gi c.To f∧gi c.To f < c.aD:=h.t _ (gi_mem h0 (by rw [h.tl]; exact h1))
theorem id {x:Int} (h0:0≤x) (h1:x < c.aD):0≤gi c.aJ x∧gi c.aJ x < c.aG.length:=h.i _ (gi_mem h0 (by rw [h.il]; exact h1))
theorem idxF {f:Int} (h0:0≤f) (h1:f < c.aG.length):idx c.aG f=some (gi c.aG f):=cU h0 h1
theorem idxT {f:Int} (h0:0≤f) (h1:f < c.aG.length):idx c.To f=some (gi c.To f):=cU h0 (by rw [h.tl]; exact h1)
theorem idxI {x:Int} (h0:0≤x) (h1:x < c.aD):idx c.aJ x=some (gi c.aJ x):=cU h0 (by rw [h.il]; exact h1)
theorem idxK {f:Int} (h0:0≤f) (h1:f < c.aG.length):idx c.aF f=some (gr c.aF f):=idx_gr h0 (by rw [h.kl]; exact h1)
end Head
theorem specShape {c:aI} (hs:CatSmall c):oC c=some (shapeB c):=by
 obtain ⟨z1,z2,z3,z4,z5⟩:=hs
 have ends:∀ (l:List Int) (n:Nat) (o:Int),l.length≤1048576→lS l (n:Int) o=some ((l.length == n) && inS o l):=by
  intro l n o hl
  unfold lS
  by_cases e:l.length=n
  ·rw [show ((l.length:Int) == (n:Int))=true by simp [e],cond_true,specMap _ _ (by omega),show (l.length == n)=true by simp [e]]; rfl
  ·rw [show ((l.length:Int) == (n:Int))=false by simp; omega,cond_false,show (l.length == n)=false by simp [e]]; rfl
 unfold oC
 rw [specIn,aH,ends _ _ _ z1,ends _ _ _ z2]
 have e1:((c.aF.length:Int) != (c.aG.length:Int)) = !(c.aF.length == c.aG.length):=by
  by_cases e:c.aF.length=c.aG.length
  ·simp [e]
  ·rw [show (c.aF.length == c.aG.length)=false by simp [e]]; simp; omega
 have e2:decide ((c.aG.length:Int) > 40) = !decide (c.aG.length≤40):=by
  by_cases e:c.aG.length≤40
  ·rw [decT e,decF (by omega)]; rfl
  ·rw [decF e,decT (by omega)]; rfl
 rw [e1,e2,specMap _ _ (by omega)]
 cases hh:headB c with
 | false=>
  have:shapeB c=false:=by unfold shapeB; rw [hh]; rfl
  rw [this]
  unfold headB at hh
  generalize (decide (0≤c.aD) && decide (c.aD≤8))=a1 at *
  generalize decide (c.aG.length≤40)=a2 at *
  generalize inS c.aD c.aG=a3 at *
  generalize (c.To.length == c.aG.length)=a4 at *
  generalize inS c.aD c.To=a5 at *
  generalize (c.aF.length == c.aG.length)=a6 at *
  have e3:((c.aJ.length:Int) != c.aD) = !((c.aJ.length:Int) == c.aD):=rfl
  rw [e3]
  generalize ((c.aJ.length:Int) == c.aD)=a7 at *
  generalize inS (c.aG.length:Int) c.aJ=a8 at *
  simp only [beq_self_eq_true,Bool.true_and]
  cases a1 <;> first | rfl | (cases a2 <;> first | rfl | (cases a3 <;> first | rfl | (cases a4 <;> first | rfl | (cases a5 <;> first | rfl | (cases a6 <;> first | rfl | (cases a7 <;> first | rfl | (cases a8 <;> first | rfl | (cases hh))))))))
 | true=>
  have H:=head_of hh
  have hh':=hh
  unfold headB at hh'
  simp only [Bool.and_eq_true] at hh'
  obtain ⟨⟨⟨b1,b1'⟩,b2,b3⟩,⟨b4,b5⟩,b6,b7,b8⟩:=hh'
  rw [b1,b1',b2,b3,b4,b5,b6,b8,show ((c.aJ.length:Int) != c.aD) = !((c.aJ.length:Int) == c.aD) from rfl,b7]
  simp only [beq_self_eq_true,Bool.and_self,Bool.not_true,cond_false,aH]
  have hm:=H.m
  have hil:=H.il
  refine (congrArg retM (for_anyb (ns c.aJ.length) (fun x=>!idB c x) (fun i=>(i:Int)) rfl ?_ ?_ (e:=(c.aJ.length:Int)) (y:=false) ?_)).trans ?_
  ·intro i x hx hp
   obtain ⟨rfl,hi⟩:=ns_get hx
   have:=H.id (x:=(i:Int)) (by omega) (by omega)
   unfold lH
   unfold idB at hp
   simp only [Bool.not_eq_false',Bool.and_eq_true,beq_iff_eq] at hp
   rw [decT (by omega),cond_true,H.idxI (by omega) (by omega),aH,H.idxF this.1 this.2,aH,hp.1,bne_self_eq_false,cond_false,aH,H.idxT this.1 this.2,aH,hp.2,bne_self_eq_false,aH,cond_false,cP (by omega)]
  ·intro i x hx hp
   obtain ⟨rfl,hi⟩:=ns_get hx
   have:=H.id (x:=(i:Int)) (by omega) (by omega)
   unfold lH
   unfold idB at hp
   rw [decT (by omega),cond_true,H.idxI (by omega) (by omega),aH,H.idxF this.1 this.2,aH]
   by_cases e:gi c.aG (gi c.aJ i)=i
   ·rw [e,bne_self_eq_false,cond_false,aH,H.idxT this.1 this.2,aH]
    have:(gi c.To (gi c.aJ i) != (i:Int))=true:=by
     rw [e] at hp; simpa using hp
    rw [this]; rfl
   ·rw [show (gi c.aG (gi c.aJ i) != (i:Int))=true by simp [e]]; rfl
  ·unfold lH
   rw [fB,decF (by omega),cond_false]
  rw [any_not]
  unfold shapeB
  rw [hh]
  cases hid:(ns c.aJ.length).all (idB c) with
  | false=>rfl
  | true=>
   simp only [Bool.not_true,Bool.false_eq_true,if_false,Bool.true_and]
   refine (congrArg retM (for_anyb (ns c.aG.length) (fun f=>!rowB c f) (fun i=>(i:Int)) rfl ?_ ?_ (e:=(c.aG.length:Int)) (y:=false) ?_)).trans ?_
   rotate_left 2
   ·unfold oB
    rw [fB,decF (by omega),cond_false]
   ·rw [any_not]
    cases (ns c.aG.length).all (rowB c) <;> rfl
   all_goals
    intro i x hx hp
    obtain ⟨rfl,hi⟩:=ns_get hx
    have hK:=H.idxK (f:=(i:Int)) (by omega) (by omega)
    have inner:(gr c.aF i).length=c.aG.length→lbind (S:=Int) (blockM 4 (loopM (lJ c i) (0:Int))) (fun s2_6=>(some (Out.norm (w64 ((i:Int)+(1:Int)))))) =
      if (ns c.aG.length).any (fun g=>!cellB c i g) then some (.ret false) else some (Out.norm (w64 ((i:Int)+(1:Int)))):=by
     intro hr
     refine for_anyb (ns c.aG.length) (fun g=>!cellB c i g) (fun j=>(j:Int)) rfl ?_ ?_ (e:=(c.aG.length:Int)) (y:=false) ?_
     rotate_left 2
     ·unfold lJ
      rw [fB,decF (by omega),cond_false]
     all_goals
      intro j y hy hq
      obtain ⟨rfl,hj⟩:=ns_get hy
      unfold lJ
      rw [decT (by omega),cond_true,hK,aH,cU (by omega) (by omega),aH,H.idxT (by omega) (by omega),aH,H.idxF (by omega) (by omega),aH]
      unfold cellB gk at hq
      by_cases e:gi c.To i=gi c.aG j
      ·rw [if_pos e] at hq
       rw [show (gi c.To (i:Int) != gi c.aG (j:Int))=false by simp [e],cond_false]
       by_cases l0:gi (gr c.aF i) j < 0
       ·rw [decF (show ¬ 0≤gi (gr c.aF i) j by omega)] at hq
        rw [decT l0,cond_true,aH,cond_true]
        all_goals (first | rfl | simp at hq)
       ·rw [decT (show 0≤gi (gr c.aF i) j by omega)] at hq
        rw [decF l0,cond_false]
        by_cases l1:gi (gr c.aF i) j < c.aG.length
        ·rw [decT l1] at hq
         rw [decF (show ¬ gi (gr c.aF i) j ≥ c.aG.length by omega),cond_false,H.idxF (by omega) l1,aH,H.idxF (by omega) (by omega),aH]
         by_cases q1:gi c.aG (gi (gr c.aF i) j)=gi c.aG i
         ·rw [show (gi c.aG (gi (gr c.aF (i:Int)) (j:Int)) == gi c.aG (i:Int))=true by simp [q1]] at hq
          rw [show (gi c.aG (gi (gr c.aF (i:Int)) (j:Int)) != gi c.aG (i:Int))=false by simp [q1],cond_false,H.idxT (by omega) l1,aH,H.idxT (by omega) (by omega),aH,aH]
          simp only [Bool.and_self,Bool.true_and] at hq
          rw [show (gi c.To (gi (gr c.aF (i:Int)) (j:Int)) != gi c.To (j:Int)) = !(gi c.To (gi (gr c.aF (i:Int)) (j:Int)) == gi c.To (j:Int)) from rfl,hq]
          all_goals (first | rfl | rw [cond_false,cP (by omega)])
         ·rw [show (gi c.aG (gi (gr c.aF (i:Int)) (j:Int)) == gi c.aG (i:Int))=false by simp [q1]] at hq
          rw [show (gi c.aG (gi (gr c.aF (i:Int)) (j:Int)) != gi c.aG (i:Int))=true by simp [q1],cond_true]
          all_goals (first | rfl | simp at hq)
        ·rw [decF l1] at hq
         rw [decT (show gi (gr c.aF i) j ≥ c.aG.length by omega),cond_true]
         all_goals (first | rfl | simp at hq)
      ·rw [if_neg e] at hq
       rw [show (gi c.To (i:Int) != gi c.aG (j:Int))=true by simp [e],cond_true,show (gi (gr c.aF (i:Int)) (j:Int) != -1) = !(gi (gr c.aF (i:Int)) (j:Int) == -1) from rfl,hq]
       all_goals (first | rfl | rw [cond_false,cP (by omega)])
    unfold oB
    rw [decT (by omega),cond_true,hK,aH]
    unfold rowB at hp
    by_cases hr:(gr c.aF i).length=c.aG.length
    ·rw [show (((gr c.aF (i:Int)).length:Int) != (c.aG.length:Int))=false by simp [hr],cond_false,inner hr,any_not]
     rw [show ((gr c.aF (i:Int)).length == c.aG.length)=true by simp [hr],Bool.true_and] at hp
     rw [hp,cP (by omega)]
     rfl
    ·rw [show (((gr c.aF (i:Int)).length:Int) != (c.aG.length:Int))=true by (simp; omega),cond_true]
     all_goals (rw [show ((gr c.aF (i:Int)).length == c.aG.length)=false by simp [hr],Bool.false_and] at hp; first | rfl | simp at hp)
end Go.Proofs.YtkhdhnpokfibjaaGreat
namespace Go.Proofs.YtkhdhnpokfibjaaGreat
open Go Go.Li
set_option linter.unusedSectionVars false
theorem endsOf {c:aI} (H:Head c) {f:Int} (h0:0≤f) (h1:f < c.aG.length):fI c f=some (rF.mk (gi c.aG f) (gi c.To f)):=by
 unfold fI
 rw [H.idxF h0 h1,aH,H.idxT h0 h1,aH]; rfl
theorem implShape {c:aI} (hs:CatSmall c):iK c=some (shapeB c):=by
 obtain ⟨z1,z2,z3,z4,z5⟩:=hs
 unfold iK eW
 rw [show retM (S:=Unit) (some (Out.ret (c.aG.length:Int)))=some (c.aG.length:Int) from rfl,aH,inRange,aH]
 have e1:((c.aF.length:Int) != (c.aG.length:Int)) = !(c.aF.length == c.aG.length):=by
  by_cases e:c.aF.length=c.aG.length
  ·simp [e]
  ·rw [show (c.aF.length == c.aG.length)=false by simp [e]]; simp; omega
 have e1':((c.To.length:Int) != (c.aG.length:Int)) = !(c.To.length == c.aG.length):=by
  by_cases e:c.To.length=c.aG.length
  ·simp [e]
  ·rw [show (c.To.length == c.aG.length)=false by simp [e]]; simp; omega
 have e2:decide ((c.aG.length:Int) > 40) = !decide (c.aG.length≤40):=by
  by_cases e:c.aG.length≤40
  ·rw [decT e,decF (by omega)]; rfl
  ·rw [decF e,decT (by omega)]; rfl
 have e3:((c.aJ.length:Int) != c.aD) = !((c.aJ.length:Int) == c.aD):=rfl
 rw [e1,e1',e2,e3,within c.aJ _ (by omega) (by omega) (by omega)]
 cases hh:headB c with
 | false=>
  have:shapeB c=false:=by unfold shapeB; rw [hh]; rfl
  rw [this]
  unfold headB at hh
  cases ha:(decide (0≤c.aD) && decide (c.aD≤8)) with
  | false=>rfl
  | true=>
   rw [ha] at hh
   simp only [Bool.and_eq_true,decide_eq_true_eq] at ha
   rw [within c.aG _ (by omega) ha.1 (by omega),within c.To _ (by omega) ha.1 (by omega)]
   generalize decide (c.aG.length≤40)=a2 at *
   generalize inS c.aD c.aG=a3 at *
   generalize (c.To.length == c.aG.length)=a4 at *
   generalize inS c.aD c.To=a5 at *
   generalize (c.aF.length == c.aG.length)=a6 at *
   generalize ((c.aJ.length:Int) == c.aD)=a7 at *
   generalize inS (c.aG.length:Int) c.aJ=a8 at *
   cases a2 <;> first | rfl | (cases a4 <;> first | rfl | (cases a3 <;> first | rfl | (cases a5 <;> first | rfl | (cases a7 <;> first | rfl | (cases a8 <;> first | rfl | (cases a6 <;> first | rfl | (cases hh)))))))
 | true=>
  have H:=head_of hh
  have hh':=hh
  unfold headB at hh'
  simp only [Bool.and_eq_true] at hh'
  obtain ⟨⟨⟨b1,b1'⟩,b2,b3⟩,⟨b4,b5⟩,b6,b7,b8⟩:=hh'
  rw [within c.aG _ (by omega) H.o0 (by have:=H.o8; omega),within c.To _ (by omega) H.o0 (by have:=H.o8; omega)]
  rw [b1,b1',b2,b3,b4,b5,b6,b8,b7]
  simp only [Bool.and_self,Bool.not_true,cond_false,aH]
  have hm:=H.m
  have hil:=H.il
  have hkl:=H.kl
  refine (congrArg retM (for_anyb (ns c.aJ.length) (fun x=>!idB c x) (fun i=>(i:Int)) rfl ?_ ?_ (e:=(c.aJ.length:Int)) (y:=false) ?_)).trans ?_
  ·intro i x hx hp
   obtain ⟨rfl,hi⟩:=ns_get hx
   have:=H.id (x:=(i:Int)) (by omega) (by omega)
   unfold gK
   unfold idB at hp
   simp only [Bool.not_eq_false'] at hp
   rw [decT (by omega),cond_true,H.idxI (by omega) (by omega),aH,endsOf H this.1 this.2,aH]
   dsimp only
   rw [hp,Bool.not_true,cond_false,cP (by omega)]
  ·intro i x hx hp
   obtain ⟨rfl,hi⟩:=ns_get hx
   have:=H.id (x:=(i:Int)) (by omega) (by omega)
   unfold gK
   unfold idB at hp
   rw [decT (by omega),cond_true,H.idxI (by omega) (by omega),aH,endsOf H this.1 this.2,aH]
   dsimp only
   rw [hp,cond_true]
  ·unfold gK
   rw [fB,decF (by omega),cond_false]
  rw [any_not]
  unfold shapeB
  rw [hh]
  cases hid:(ns c.aJ.length).all (idB c) with
  | false=>rfl
  | true=>
   simp only [Bool.not_true,Bool.false_eq_true,if_false,Bool.true_and]
   refine (congrArg retM (for_anyb (ns c.aG.length) (fun f=>!rowB c f) (fun i=>(i:Int)) rfl ?_ ?_ (e:=(c.aG.length:Int)) (y:=false) ?_)).trans ?_
   rotate_left 2
   ·unfold jK
    rw [fB,decF (by omega),cond_false]
   ·rw [any_not]
    cases (ns c.aG.length).all (rowB c) <;> rfl
   all_goals
    intro i x hx hp
    obtain ⟨rfl,hi⟩:=ns_get hx
    have hK:=H.idxK (f:=(i:Int)) (by omega) (by omega)
    have inner:(gr c.aF i).length=c.aG.length→lbind (S:=Int) (blockM 4 (loopM (gL c (c.aG.length:Int) i (gr c.aF i)) (0:Int))) (fun s2_6=>(some (Out.norm (w64 ((i:Int)+(1:Int)))))) =
      if (ns c.aG.length).any (fun g=>!cellB c i g) then some (.ret false) else some (Out.norm (w64 ((i:Int)+(1:Int)))):=by
     intro hr
     refine for_anyb (ns c.aG.length) (fun g=>!cellB c i g) (fun j=>(j:Int)) rfl ?_ ?_ (e:=(c.aG.length:Int)) (y:=false) ?_
     rotate_left 2
     ·unfold gL
      rw [fB,decF (by omega),cond_false]
     all_goals
      intro j y hy hq
      obtain ⟨rfl,hj⟩:=ns_get hy
      unfold gL
      rw [decT (by omega),cond_true,cU (by omega) (by omega),aH,H.idxT (by omega) (by omega),aH,H.idxF (by omega) (by omega),aH,eX (a:=(c.aG.length:Int) - 1) (by omega) (by omega),inRange,aH]
      unfold cellB gk at hq
      by_cases e:gi c.To i=gi c.aG j
      ·rw [if_pos e] at hq
       rw [show (gi c.To (i:Int) != gi c.aG (j:Int))=false by simp [e],cond_false]
       by_cases l0:0≤gi (gr c.aF i) j∧gi (gr c.aF i) j < c.aG.length
       ·rw [decT l0.1,decT l0.2] at hq
        rw [decT l0.1,decT (show gi (gr c.aF i) j≤(c.aG.length:Int) - 1 by omega)]
        simp only [Bool.and_self,Bool.not_true,cond_false,Bool.true_and] at hq ⊢
        rw [endsOf H l0.1 l0.2,aH,H.idxF (by omega) (by omega),aH,H.idxT (by omega) (by omega),aH,aH]
        dsimp only
        rw [hq]
        all_goals (first | rfl | rw [cond_false,cP (by omega)])
       ·have l1:(decide (0≤gi (gr c.aF i) j) && decide (gi (gr c.aF i) j < c.aG.length))=false:=by
         rcases Classical.not_and_iff_not_or_not.1 l0 with h | h
         ·rw [decF h]; rfl
         ·rw [decF h,Bool.and_false]
        have l2:(decide (0≤gi (gr c.aF i) j) && decide (gi (gr c.aF i) j≤(c.aG.length:Int) - 1))=false:=by
         rcases Classical.not_and_iff_not_or_not.1 l0 with h | h
         ·rw [decF h]; rfl
         ·rw [decF (show ¬ gi (gr c.aF i) j≤(c.aG.length:Int) - 1 by omega),Bool.and_false]
        rw [l1] at hq
        rw [l2]
        all_goals (first | rfl | simp at hq)
      ·rw [if_neg e] at hq
       rw [show (gi c.To (i:Int) != gi c.aG (j:Int))=true by simp [e],cond_true,show (gi (gr c.aF (i:Int)) (j:Int) != -1) = !(gi (gr c.aF (i:Int)) (j:Int) == -1) from rfl,hq]
       all_goals (first | rfl | rw [cond_false,cP (by omega)])
    unfold jK
    rw [decT (by omega),cond_true,hK,aH]
    unfold rowB at hp
    by_cases hr:(gr c.aF i).length=c.aG.length
    ·rw [show (((gr c.aF (i:Int)).length:Int) != (c.aG.length:Int))=false by simp [hr],cond_false,inner hr,any_not]
     rw [show ((gr c.aF (i:Int)).length == c.aG.length)=true by simp [hr],Bool.true_and] at hp
     rw [hp,cP (by omega)]
     rfl
    ·rw [show (((gr c.aF (i:Int)).length:Int) != (c.aG.length:Int))=true by (simp; omega),cond_true]
     all_goals (rw [show ((gr c.aF (i:Int)).length == c.aG.length)=false by simp [hr],Bool.false_and] at hp; first | rfl | simp at hp)
end Go.Proofs.YtkhdhnpokfibjaaGreat
namespace Go.Proofs.YtkhdhnpokfibjaaGreat
open Go Go.Li
structure qD (c:aI):Prop extends Head c where
 idf:∀ x:Int,0≤x→x < c.aD→gi c.aG (gi c.aJ x)=x
 idt:∀ x:Int,0≤x→x < c.aD→gi c.To (gi c.aJ x)=x
 row:∀ f:Int,0≤f→f < c.aG.length→(gr c.aF f).length=c.aG.length
 cell:∀ f g:Int,0≤f→f < c.aG.length→0≤g→g < c.aG.length→gi c.To f=gi c.aG g→
  0≤gk c.aF f g∧gk c.aF f g < c.aG.length∧gi c.aG (gk c.aF f g)=gi c.aG f∧gi c.To (gk c.aF f g)=gi c.To g
 none:∀ f g:Int,0≤f→f < c.aG.length→0≤g→g < c.aG.length→gi c.To f≠gi c.aG g→gk c.aF f g = -1
theorem shape_of {c:aI} (h:shapeB c=true):qD c:=by
 unfold shapeB at h
 simp only [Bool.and_eq_true,List.all_eq_true] at h
 obtain ⟨h1,h2,h3⟩:=h
 have H:=head_of h1
 have hil:=H.il
 have hid:∀ x,0≤x→x < c.aD→idB c x=true:=fun x a b=>h2 x (ns_mem.2 ⟨a,by omega⟩)
 have hrow:∀ f,0≤f→f < (c.aG.length:Int)→rowB c f=true:=fun f a b=>h3 f (ns_mem.2 ⟨a,b⟩)
 have hcell:∀ f g,0≤f→f < (c.aG.length:Int)→0≤g→g < (c.aG.length:Int)→cellB c f g=true:=fun f g a b a' b'=>by
  have:=hrow f a b
  unfold rowB at this
  simp only [Bool.and_eq_true,List.all_eq_true] at this
  exact this.2 g (ns_mem.2 ⟨a',b'⟩)
 refine { H with
  idf:=fun x a b=>?_
  idt:=fun x a b=>?_
  row:=fun f a b=>?_
  cell:=fun f g a b a' b' e=>?_
  none:=fun f g a b a' b' e=>?_ }
 ·have:=hid x a b; unfold idB at this; simp at this; exact this.1
 ·have:=hid x a b; unfold idB at this; simp at this; exact this.2
 ·have:=hrow f a b; unfold rowB at this; simp only [Bool.and_eq_true,beq_iff_eq] at this; exact this.1
 ·have:=hcell f g a b a' b'; unfold cellB at this; rw [if_pos e] at this; simp only [Bool.and_eq_true,decide_eq_true_eq,beq_iff_eq] at this; exact ⟨this.1.1,this.1.2,this.2.1,this.2.2⟩
 ·have:=hcell f g a b a' b'; unfold cellB at this; rw [if_neg e] at this; simpa using this
namespace qD
variable {c:aI} (h:qD c)
include h
theorem idxC {f g:Int} (h0:0≤f) (h1:f < c.aG.length) (h2:0≤g) (h3:g < c.aG.length):idx (gr c.aF f) g=some (gk c.aF f g):=cU h2 (by rw [h.row f h0 h1]; exact h3)
theorem thenI {f g:Int} (h0:0≤f) (h1:f < c.aG.length) (h2:0≤g) (h3:g < c.aG.length):eJ c f g=some (gk c.aF f g):=by
 unfold eJ; rw [h.idxK h0 h1,aH,h.idxC h0 h1 h2 h3,aH]; rfl
end qD
def unitB (c:aI) (f:Int):Bool:=gk c.aF (gi c.aJ (gi c.aG f)) f == f && gk c.aF f (gi c.aJ (gi c.To f)) == f
def bad3 (c:aI) (f g h:Int):Bool:=gi c.To g == gi c.aG h && gk c.aF (gk c.aF f g) h != gk c.aF f (gk c.aF g h)
def bad2 (c:aI) (f g:Int):Bool:=gi c.To f == gi c.aG g && (ns c.aG.length).any (bad3 c f g)
def bad1 (c:aI) (f:Int):Bool:=(ns c.aG.length).any (bad2 c f)
def lawB (c:aI):Bool:=(ns c.aG.length).all (unitB c) && !((ns c.aG.length).any (bad1 c))
theorem faultOf {c:aI} {k1 k2 k4 k6:Nat} {L0:Int→Option (Out Int (Int×Int×Int×Int))} {L1:Int→Option (Out Int (Int×Int×Int×Int))} {L2:Int→Int→Option (Out Int (Int×Int×Int×Int))} {L3:Int→Int→Int→Option (Out Int (Int×Int×Int×Int))} {z:Int×Int×Int×Int} (hz:z.1=0)
  (a0:∀ i:Nat,i < c.aG.length→unitB c i=true→L0 i=some (.norm ((i+1:Nat):Int)))
  (a1:∀ i:Nat,i < c.aG.length→unitB c i=false→∃ y,L0 i=some (.ret y)∧y.1≠0)
  (a2:L0 c.aG.length=some (.exit k1 c.aG.length))
  (b0:∀ i:Nat,i < c.aG.length→L1 i=lbind (blockM k4 (loopM (L2 i) 0)) fun _=>some (.norm ((i+1:Nat):Int)))
  (b2:L1 c.aG.length=some (.exit k2 c.aG.length))
  (d0:∀ i j:Nat,i < c.aG.length→j < c.aG.length→gi c.To i≠gi c.aG j→L2 i j=some (.norm ((j+1:Nat):Int)))
  (d1:∀ i j:Nat,i < c.aG.length→j < c.aG.length→gi c.To i=gi c.aG j→L2 i j=lbind (blockM k6 (loopM (L3 i j) 0)) fun _=>some (.norm ((j+1:Nat):Int)))
  (d2:∀ i:Nat,L2 i c.aG.length=some (.exit k4 c.aG.length))
  (e0:∀ i j h:Nat,i < c.aG.length→j < c.aG.length→h < c.aG.length→gi c.To i=gi c.aG j→bad3 c i j h=false→L3 i j h=some (.norm ((h+1:Nat):Int)))
  (e1:∀ i j h:Nat,i < c.aG.length→j < c.aG.length→h < c.aG.length→gi c.To i=gi c.aG j→bad3 c i j h=true→∃ y,L3 i j h=some (.ret y)∧y.1≠0)
  (e2:∀ i j:Nat,L3 i j c.aG.length=some (.exit k6 c.aG.length)) :
  ∃ y,retM (S:=Unit) (lbind (blockM k1 (loopM L0 0)) fun _=>lbind (blockM k2 (loopM L1 0)) fun _=>some (.ret z))=some y∧(y.1 == 0)=lawB c:=by
 have in3:∀ i j:Nat,i < c.aG.length→j < c.aG.length→gi c.To i=gi c.aG j→
   ((ns c.aG.length).any (bad3 c i j)=true∧∃ y,lbind (S:=Int) (blockM k6 (loopM (L3 i j) 0)) (fun _=>some (.norm ((j+1:Nat):Int)))=some (.ret y)∧y.1≠0)∨
   ((ns c.aG.length).any (bad3 c i j)=false∧lbind (S:=Int) (blockM k6 (loopM (L3 i j) 0)) (fun _=>some (.norm ((j+1:Nat):Int)))=some (.norm ((j+1:Nat):Int))):=by
  intro i j hi hj he
  refine for_anyg (ns c.aG.length) (bad3 c i j) (fun y:Int×Int×Int×Int=>y.1≠0) (fun h=>(h:Int)) rfl ?_ ?_ (e:=(c.aG.length:Int)) (by rw [fB]; exact e2 i j)
  ·intro h x hx hp; obtain ⟨rfl,hh⟩:=ns_get hx; exact e0 i j h hi hj hh he hp
  ·intro h x hx hp; obtain ⟨rfl,hh⟩:=ns_get hx; exact e1 i j h hi hj hh he hp
 have in2:∀ i:Nat,i < c.aG.length→
   ((ns c.aG.length).any (bad2 c i)=true∧∃ y,lbind (S:=Int) (blockM k4 (loopM (L2 i) 0)) (fun _=>some (.norm ((i+1:Nat):Int)))=some (.ret y)∧y.1≠0)∨
   ((ns c.aG.length).any (bad2 c i)=false∧lbind (S:=Int) (blockM k4 (loopM (L2 i) 0)) (fun _=>some (.norm ((i+1:Nat):Int)))=some (.norm ((i+1:Nat):Int))):=by
  intro i hi
  refine for_anyg (ns c.aG.length) (bad2 c i) (fun y:Int×Int×Int×Int=>y.1≠0) (fun h=>(h:Int)) rfl ?_ ?_ (e:=(c.aG.length:Int)) (by rw [fB]; exact d2 i)
  ·intro j x hx hp
   obtain ⟨rfl,hj⟩:=ns_get hx
   by_cases he:gi c.To i=gi c.aG j
   ·rw [d1 i j hi hj he]
    rcases in3 i j hi hj he with ⟨h1,_⟩ | ⟨_,h2⟩
    ·unfold bad2 at hp; rw [h1] at hp; simp [he] at hp
    ·exact h2
   ·exact d0 i j hi hj he
  ·intro j x hx hp
   obtain ⟨rfl,hj⟩:=ns_get hx
   unfold bad2 at hp
   simp only [Bool.and_eq_true,beq_iff_eq] at hp
   rw [d1 i j hi hj hp.1]
   rcases in3 i j hi hj hp.1 with ⟨_,h⟩ | ⟨h1,_⟩
   ·exact h
   ·rw [hp.2] at h1; cases h1
 rcases for_anyg (s0:=(0:Int)) (S:=Unit) (R:=Int×Int×Int×Int) (k:=k1) (body:=L0) (f:=fun _=>lbind (blockM k2 (loopM L1 0)) fun _=>some (.ret z)) (ns c.aG.length) (fun i=>!unitB c i) (fun y:Int×Int×Int×Int=>y.1≠0) (fun i=>(i:Int)) rfl
   (fun i x hx hp=>by obtain ⟨rfl,hi⟩:=ns_get hx; exact a0 i hi (by simpa using hp)) (fun i x hx hp=>by obtain ⟨rfl,hi⟩:=ns_get hx; exact a1 i hi (by simpa using hp)) (e:=(c.aG.length:Int)) (by rw [fB]; exact a2) with ⟨h1,y,h2,h3⟩ | ⟨h1,h2⟩
 ·refine ⟨y,by rw [h2]; rfl,?_⟩
  unfold lawB
  rw [any_not] at h1
  simp only [Bool.not_eq_true'] at h1
  rw [h1]
  simpa using h3
 ·rw [any_not] at h1
  simp only [Bool.not_eq_false'] at h1
  rw [h2]
  rcases for_anyg (s0:=(0:Int)) (S:=Unit) (R:=Int×Int×Int×Int) (k:=k2) (body:=L1) (f:=fun _=>some (.ret z)) (ns c.aG.length) (bad1 c) (fun y:Int×Int×Int×Int=>y.1≠0) (fun i=>(i:Int)) rfl
   (fun i x hx hp=>by
    obtain ⟨rfl,hi⟩:=ns_get hx
    rw [b0 i hi]
    rcases in2 i hi with ⟨q1,_⟩ | ⟨_,q2⟩
    ·unfold bad1 at hp; rw [q1] at hp; cases hp
    ·exact q2)
   (fun i x hx hp=>by
    obtain ⟨rfl,hi⟩:=ns_get hx
    rw [b0 i hi]
    rcases in2 i hi with ⟨_,q⟩ | ⟨q1,_⟩
    ·exact q
    ·unfold bad1 at hp; rw [q1] at hp; cases hp) (e:=(c.aG.length:Int)) (by rw [fB]; exact b2) with ⟨g1,y,g2,g3⟩ | ⟨g1,g2⟩
  ·refine ⟨y,by rw [g2]; rfl,?_⟩
   unfold lawB
   rw [h1,g1]
   simpa using g3
  ·refine ⟨z,by rw [g2]; rfl,?_⟩
   unfold lawB
   rw [h1,g1,hz]
   rfl
section
variable {c:aI} (H:qD c)
include H
theorem specFault:∃ y,mY c=some y∧(y.1 == 0)=lawB c:=by
 have hm:=H.m
 have hil:=H.il
 have u0:∀ i:Nat,i < c.aG.length→kP c i=if unitB c i then some (Out.norm ((i+1:Nat):Int)) else some (Out.ret ((1:Int),(i:Int),(0:Int),(0:Int))):=by
  intro i hi
  have f1:=H.fr (f:=(i:Int)) (by omega) (by omega)
  have t1:=H.to (f:=(i:Int)) (by omega) (by omega)
  have i1:=H.id f1.1 f1.2
  have i2:=H.id t1.1 t1.2
  unfold kP
  rw [decT (by omega),cond_true,H.idxF (by omega) (by omega),aH,H.idxI f1.1 f1.2,aH,H.idxK i1.1 i1.2,aH,H.idxC i1.1 i1.2 (by omega) (by omega),aH]
  rw [H.idxK (by omega) (by omega),aH,H.idxT (by omega) (by omega),aH,H.idxI t1.1 t1.2,aH,H.idxC (by omega) (by omega) i2.1 i2.2,aH]
  unfold unitB
  by_cases e1:gk c.aF (gi c.aJ (gi c.aG i)) i=i
  ·by_cases e2:gk c.aF i (gi c.aJ (gi c.To i))=i
   ·simp [e1,e2,cP (show i < 9223372036854775807 by omega)]
   ·simp [e1,e2,bneT e2]
  ·simp [e1,bneT e1]
 unfold mY
 refine faultOf (c:=c) (z:=(0,0,0,0)) rfl (L2:=jH c) (L3:=jG c) (k4:=4) (k6:=6) ?_ ?_ ?_ ?_ ?_ ?_ ?_ ?_ ?_ ?_ ?_
 ·intro i hi hp; rw [u0 i hi,hp]; rfl
 ·intro i hi hp; rw [u0 i hi,hp]; exact ⟨_,rfl,by simp⟩
 ·unfold kP; rw [decF (by omega),cond_false]
 ·intro i hi; unfold nL; rw [decT (by omega),cond_true,cP (by omega)]
 ·unfold nL; rw [decF (by omega),cond_false]
 ·intro i j hi hj he
  unfold jH
  rw [decT (by omega),cond_true,H.idxT (by omega) (by omega),aH,H.idxF (by omega) (by omega),aH,show (gi c.To (i:Int) != gi c.aG (j:Int))=true by simp [he],cond_true,cP (by omega)]
 ·intro i j hi hj he
  unfold jH
  rw [decT (by omega),cond_true,H.idxT (by omega) (by omega),aH,H.idxF (by omega) (by omega),aH,show (gi c.To (i:Int) != gi c.aG (j:Int))=false by simp [he],cond_false,cP (by omega)]
 ·intro i; unfold jH; rw [decF (by omega),cond_false]
 ·intro i j h hi hj hh he hp
  unfold jG
  rw [decT (by omega),cond_true,H.idxT (by omega) (by omega),aH,H.idxF (by omega) (by omega),aH]
  unfold bad3 at hp
  by_cases e:gi c.To j=gi c.aG h
  ·have c1:=H.cell i j (by omega) (by omega) (by omega) (by omega) he
   have c2:=H.cell j h (by omega) (by omega) (by omega) (by omega) e
   rw [show (gi c.To (j:Int) == gi c.aG (h:Int))=true by simp [e]] at hp ⊢
   rw [cond_true,H.idxK (by omega) (by omega),aH,H.idxC (by omega) (by omega) (by omega) (by omega),aH,H.idxK c1.1 c1.2.1,aH,H.idxC c1.1 c1.2.1 (by omega) (by omega),aH,aH,H.idxK (by omega) (by omega),aH,H.idxC (by omega) (by omega) (by omega) (by omega),aH,H.idxC (by omega) (by omega) c2.1 c2.2.1,aH]
   rw [Bool.true_and] at hp
   rw [hp,aH,cond_false,cP (by omega)]
  ·rw [show (gi c.To (j:Int) == gi c.aG (h:Int))=false by simp [e],cond_false,aH,cond_false,cP (by omega)]
 ·intro i j h hi hj hh he hp
  unfold jG
  rw [decT (by omega),cond_true,H.idxT (by omega) (by omega),aH,H.idxF (by omega) (by omega),aH]
  unfold bad3 at hp
  simp only [Bool.and_eq_true] at hp
  have e:gi c.To j=gi c.aG h:=by simpa using hp.1
  have c1:=H.cell i j (by omega) (by omega) (by omega) (by omega) he
  have c2:=H.cell j h (by omega) (by omega) (by omega) (by omega) e
  rw [hp.1,cond_true,H.idxK (by omega) (by omega),aH,H.idxC (by omega) (by omega) (by omega) (by omega),aH,H.idxK c1.1 c1.2.1,aH,H.idxC c1.1 c1.2.1 (by omega) (by omega),aH,aH,H.idxK (by omega) (by omega),aH,H.idxC (by omega) (by omega) (by omega) (by omega),aH,H.idxC (by omega) (by omega) c2.1 c2.2.1,aH]
  rw [hp.2,aH,cond_true]
  exact ⟨_,rfl,by simp⟩
 ·intro i j; unfold jG; rw [decF (by omega),cond_false]
theorem implFault:∃ y,jM c=some y∧(y.1 == 0)=lawB c:=by
 have hm:=H.m
 have hil:=H.il
 have u0:∀ i:Nat,i < c.aG.length→iC c c.aG.length i=if unitB c i then some (Out.norm ((i+1:Nat):Int)) else some (Out.ret ((1:Int),(i:Int),(0:Int),(0:Int))):=by
  intro i hi
  have f1:=H.fr (f:=(i:Int)) (by omega) (by omega)
  have t1:=H.to (f:=(i:Int)) (by omega) (by omega)
  have i1:=H.id f1.1 f1.2
  have i2:=H.id t1.1 t1.2
  unfold iC
  rw [decT (by omega),cond_true,H.idxF (by omega) (by omega),aH,H.idxI f1.1 f1.2,aH,H.thenI i1.1 i1.2 (by omega) (by omega),aH]
  rw [H.idxT (by omega) (by omega),aH,H.idxI t1.1 t1.2,aH,H.thenI (by omega) (by omega) i2.1 i2.2,aH]
  unfold unitB
  by_cases e1:gk c.aF (gi c.aJ (gi c.aG i)) i=i
  ·by_cases e2:gk c.aF i (gi c.aJ (gi c.To i))=i
   ·simp [e1,e2,cP (show i < 9223372036854775807 by omega)]
   ·simp [e1,e2,bneT e2]
  ·simp [e1,bneT e1]
 have pos:∀ i j:Nat,i < c.aG.length→j < c.aG.length→(gi c.To i=gi c.aG j→0≤gk c.aF i j)∧(gi c.To i≠gi c.aG j→gk c.aF i j < 0):=by
  intro i j hi hj
  refine ⟨fun e=>(H.cell i j (by omega) (by omega) (by omega) (by omega) e).1,fun e=>?_⟩
  rw [H.none i j (by omega) (by omega) (by omega) (by omega) e]; decide
 unfold jM eW
 rw [show retM (S:=Unit) (some (Out.ret (c.aG.length:Int)))=some (c.aG.length:Int) from rfl,aH]
 refine faultOf (c:=c) (z:=(0,0,0,0)) rfl (L2:=gD c c.aG.length) (L3:=gC c c.aG.length) (k4:=4) (k6:=6) ?_ ?_ ?_ ?_ ?_ ?_ ?_ ?_ ?_ ?_ ?_
 ·intro i hi hp; rw [u0 i hi,hp]; rfl
 ·intro i hi hp; rw [u0 i hi,hp]; exact ⟨_,rfl,by simp⟩
 ·unfold iC; rw [decF (by omega),cond_false]
 ·intro i hi; unfold kA; rw [decT (by omega),cond_true,cP (by omega)]
 ·unfold kA; rw [decF (by omega),cond_false]
 ·intro i j hi hj he
  unfold gD
  rw [decT (by omega),cond_true,H.thenI (by omega) (by omega) (by omega) (by omega),aH,decT ((pos i j hi hj).2 he),cond_true,cP (by omega)]
 ·intro i j hi hj he
  have:=(pos i j hi hj).1 he
  unfold gD
  rw [decT (by omega),cond_true,H.thenI (by omega) (by omega) (by omega) (by omega),aH,decF (by omega),cond_false,cP (by omega)]
 ·intro i; unfold gD; rw [decF (by omega),cond_false]
 ·intro i j h hi hj hh he hp
  unfold gC
  rw [decT (by omega),cond_true,H.thenI (by omega) (by omega) (by omega) (by omega),aH]
  unfold bad3 at hp
  by_cases e:gi c.To j=gi c.aG h
  ·have c1:=H.cell i j (by omega) (by omega) (by omega) (by omega) he
   have c2:=H.cell j h (by omega) (by omega) (by omega) (by omega) e
   rw [show (gi c.To (j:Int) == gi c.aG (h:Int))=true by simp [e],Bool.true_and] at hp
   rw [decT (show gk c.aF j h ≥ 0 from c2.1),cond_true,H.thenI (by omega) (by omega) (by omega) (by omega),aH,H.thenI c1.1 c1.2.1 (by omega) (by omega),aH,aH,H.thenI (by omega) (by omega) c2.1 c2.2.1,aH,hp,aH,cond_false,cP (by omega)]
  ·have:=(pos j h hj hh).2 e
   rw [decF (show ¬ gk c.aF j h ≥ 0 by omega),cond_false,aH,cond_false,cP (by omega)]
 ·intro i j h hi hj hh he hp
  unfold gC
  unfold bad3 at hp
  simp only [Bool.and_eq_true] at hp
  have e:gi c.To j=gi c.aG h:=by simpa using hp.1
  have c1:=H.cell i j (by omega) (by omega) (by omega) (by omega) he
  have c2:=H.cell j h (by omega) (by omega) (by omega) (by omega) e
  rw [decT (by omega),cond_true,H.thenI (by omega) (by omega) (by omega) (by omega),aH,decT (show gk c.aF j h ≥ 0 from c2.1),cond_true,H.thenI (by omega) (by omega) (by omega) (by omega),aH,H.thenI c1.1 c1.2.1 (by omega) (by omega),aH,aH,H.thenI (by omega) (by omega) c2.1 c2.2.1,aH,hp.2,aH,cond_true]
  exact ⟨_,rfl,by simp⟩
 ·intro i j; unfold gC; rw [decF (by omega),cond_false]
end
structure Cat (c:aI):Prop extends qD c where
 unitL:∀ f:Int,0≤f→f < c.aG.length→gk c.aF (gi c.aJ (gi c.aG f)) f=f
 unitR:∀ f:Int,0≤f→f < c.aG.length→gk c.aF f (gi c.aJ (gi c.To f))=f
 assoc:∀ f g h:Int,0≤f→f < c.aG.length→0≤g→g < c.aG.length→0≤h→h < c.aG.length→gi c.To f=gi c.aG g→gi c.To g=gi c.aG h→
  gk c.aF (gk c.aF f g) h=gk c.aF f (gk c.aF g h)
def catB (c:aI):Bool:=shapeB c && lawB c
theorem cat_of {c:aI} (h:catB c=true):Cat c:=by
 unfold catB at h
 simp only [Bool.and_eq_true] at h
 obtain ⟨h1,h2⟩:=h
 have H:=shape_of h1
 unfold lawB at h2
 simp only [Bool.and_eq_true,List.all_eq_true,Bool.not_eq_true',List.any_eq_false] at h2
 obtain ⟨h2,h3⟩:=h2
 refine { H with
  unitL:=fun f a b=>?_
  unitR:=fun f a b=>?_
  assoc:=fun f g h a b a' b' a'' b'' e1 e2=>?_ }
 ·have:=h2 f (ns_mem.2 ⟨a,b⟩); unfold unitB at this; simp at this; exact this.1
 ·have:=h2 f (ns_mem.2 ⟨a,b⟩); unfold unitB at this; simp at this; exact this.2
 ·have:=h3 f (ns_mem.2 ⟨a,b⟩)
  unfold bad1 at this
  simp only [List.any_eq_true,not_exists,not_and] at this
  have:=this g (ns_mem.2 ⟨a',b'⟩)
  unfold bad2 at this
  simp only [Bool.and_eq_true,beq_iff_eq,List.any_eq_true,not_and,not_exists] at this
  have:=this e1 h (ns_mem.2 ⟨a'',b''⟩)
  unfold bad3 at this
  simpa [e2] using this
theorem specIs {c:aI} (hs:CatSmall c):oD c=some (catB c):=by
 unfold oD
 rw [specShape hs,aH]
 unfold catB
 cases h:shapeB c with
 | false=>rfl
 | true=>
  obtain ⟨y,h1,h2⟩:=specFault (shape_of h)
  rw [Bool.not_true,cond_false,h1,aH,h2]; rfl
theorem implIs {c:aI} (hs:CatSmall c):gM c=some (catB c):=by
 unfold gM
 rw [implShape hs,aH]
 unfold catB
 cases h:shapeB c with
 | false=>rfl
 | true=>
  obtain ⟨y,h1,h2⟩:=implFault (shape_of h)
  rw [Bool.not_true,cond_false,h1,aH,h2]; rfl
end Go.Proofs.YtkhdhnpokfibjaaGreat
