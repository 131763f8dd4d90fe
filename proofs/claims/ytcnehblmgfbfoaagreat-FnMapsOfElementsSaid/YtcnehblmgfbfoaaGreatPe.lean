/- Is a table a category: the reference and the program agree, and what is known of a category. No condition beside those that each theorem names. -/
import Derived.Test.YtcnehblmgfbfoaaGreatPa
set_option linter.unusedVariables false
set_option linter.unusedSectionVars false
set_option linter.unusedSimpArgs false
namespace Go.Li
open Go
section
variable {S S1 R α:Type} {body:S1→Option (Out S1 R)}
theorem yH {k:Nat} {f:S1→Option (Out S R)} {s0 e:S1} (l:List α) (p:α→Bool) (G:R→Prop) (st:Nat→S1) (h0:st 0=s0) (step:∀ i x,l[i]? = some x→p x=false→body (st i)=some (.norm (st (i+1))))
  (Pj:∀ i x,l[i]? = some x→p x=true→∃ y,body (st i)=some (.ret y)∧G y) (last:body (st l.length)=some (.exit k e)) :
  (l.any p=true∧∃ y,ag (ae k (af body s0)) f=some (.ret y)∧G y)∨(l.any p=false∧ag (ae k (af body s0)) f=f e):=by
 have key:∀ (m:List α) (i:Nat),l.drop i=m→i≤l.length→(m.any p=true∧∃ y,af body (st i)=some (.ret y)∧G y)∨(m.any p=false∧af body (st i)=some (.exit k e)):=by
  intro m
  induction m with
  | nil=>
   intro i hd hi
   have:i=l.length:=by have:=congrArg List.length hd; simp at this; omega
   subst this
   exact .inr ⟨rfl,xz last⟩
  | cons x m ih=>
   intro i hd hi
   have bb:i < l.length:=by
    rcases Nat.lt_or_ge i l.length with h | h
    ·exact h
    ·rw [List.drop_eq_nil_of_le h] at hd; cases hd
   have hx:l[i]? = some x:=by
    rw [List.drop_eq_getElem_cons bb] at hd
    rw [List.getElem?_eq_getElem bb]; exact congrArg some (List.cons.inj hd).1
   have fx:l.drop (i+1)=m:=by
    rw [List.drop_eq_getElem_cons bb] at hd; exact (List.cons.inj hd).2
   cases hp:p x with
   | true=>
    obtain ⟨y,hy,hg⟩:=Pj i x hx hp
    exact .inl ⟨by simp [hp],y,CC hy,hg⟩
   | false=>
    rw [uo,step i x hx hp]
    simpa [hp] using ih (i+1) fx bb
 rcases key l 0 rfl (Nat.zero_le _) with ⟨h1,y,h2,h3⟩ | ⟨h1,h2⟩
 ·rw [h0] at h2; exact .inl ⟨h1,y,FU h2,h3⟩
 ·rw [h0] at h2; exact .inr ⟨h1,Af h2⟩
theorem Pl {n i x:Nat} (h:(List.range n)[i]? = some x):x=i∧i < n:=by
 have hi:=bf h
 rw [List.getElem?_eq_getElem hi] at h
 simp at h hi
 exact ⟨h.symm,hi⟩
end
def gi (l:List Int) (j:Int):Int:=l.getD j.toNat 0
def gr (l:List (List Int)) (j:Int):List Int:=l.getD j.toNat []
def gk (l:List (List Int)) (i j:Int):Int:=gi (gr l i) j
theorem bQ {l:List Int} {j:Int} (h0:0≤j) (h1:j < l.length):idx l j=some (gi l j):=by
 rw [sU h0 h1]; unfold gi; rw [List.getD_eq_getElem?_getD,List.getElem?_eq_getElem (by omega)]; rfl
theorem cb {l:List (List Int)} {j:Int} (h0:0≤j) (h1:j < l.length):idx l j=some (gr l j):=by
 rw [sU h0 h1]; unfold gr; rw [List.getD_eq_getElem?_getD,List.getElem?_eq_getElem (by omega)]; rfl
theorem fy {l:List Int} {j:Int} (h0:0≤j) (h1:j < l.length):gi l j∈l:=by
 unfold gi; rw [List.getD_eq_getElem?_getD,List.getElem?_eq_getElem (by omega)]; exact List.getElem_mem _
theorem j6 {l:List (List Int)} {j:Int} (h0:0≤j) (h1:j < l.length):gr l j∈l:=by
 unfold gr; rw [List.getD_eq_getElem?_getD,List.getElem?_eq_getElem (by omega)]; exact List.getElem_mem _
def ns (n:Nat):List Int:=(List.range n).map Int.ofNat
theorem c8 {n i:Nat} {x:Int} (h:(ns n)[i]? = some x):x=(i:Int)∧i < n:=by
 unfold ns at h
 rw [List.getElem?_map] at h
 cases hr:(List.range n)[i]? with
 | none=>rw [hr] at h; cases h
 | some y=>
  rw [hr] at h
  obtain ⟨rfl,hi⟩:=Pl hr
  exact ⟨(Option.some.inj h).symm,hi⟩
theorem cH (n:Nat):(ns n).length=n:=by simp [ns]
theorem dv {n:Nat} {x:Int}:x∈ns n↔0≤x∧x < n:=by
 unfold ns
 simp only [List.mem_map,List.mem_range]
 constructor
 ·rintro ⟨a,h1,rfl⟩; simp; omega
 ·rintro ⟨h1,h2⟩; exact ⟨x.toNat,by omega,by simp; omega⟩
end Go.Li
namespace Go.Proofs.YtcnehblmgfbfoaaGreat
open Go Go.Li
def qb (n:Int) (f:List Int):Bool:=f.all fun y=>decide (0≤y) && decide (y < n)
theorem tD {n:Int} {f:List Int}:qb n f=true↔∀ y∈f,0≤y∧y < n:=by simp [qb]
theorem ko {α:Type} (l:List α) (p:α→Bool):l.any (fun x=>!p x) = !l.all p:=by
 induction l with
 | nil=>rfl
 | cons a l ih=>simp only [List.any_cons,List.all_cons,ih,Bool.not_and]
theorem Gz (n:Int) (f:List Int) (hf:f.length≤1048576000):iM n f=some (qb n f):=by
 unfold iM
 refine (congrArg ao (kc f (fun y=>!(decide (0≤y) && decide (y < n))) (fun i=>(i:Int)) rfl ?_ ?_ (e:=(f.length:Int)) (y:=false) ?_)).trans ?_
 ·intro i x hx hp
  have hi:=bf hx
  unfold mP
  simp only [Bool.not_eq_false',Bool.and_eq_true,decide_eq_true_eq] at hp
  rw [aw (by omega),cond_true,bn,hx,aA,aX (by omega),cond_false,aA,aX (by omega),aA,cond_false,bB (by omega)]
 ·intro i x hx hp
  have hi:=bf hx
  unfold mP
  rw [aw (by omega),cond_true,bn,hx,aA,aA]
  by_cases h:x < 0
  ·rw [aw h,cond_true,aA,cond_true]
  ·have:n≤x:=by simp at hp; omega
   rw [aX h,cond_false,aw (by omega),aA,cond_true]
 ·unfold mP
  rw [aX (by omega),cond_false]
 ·rw [ko]
  show ao (if (!qb n f)=true then _ else _)=_
  cases qb n f <;> rfl
theorem Df (n a b:Int):kF n a b=some (decide (a≤n) && decide (n≤b)):=by
 unfold kF
 by_cases h:a≤n
 ·rw [aw (show n ≥ a from h),cond_true]; rfl
 ·rw [aX (show ¬ n ≥ a from h),cond_false]; rfl
theorem Pm (n a b:Int):oC n a b=some (decide (a≤n) && decide (n≤b)):=by
 unfold oC
 by_cases h:a≤n
 ·rw [aw (show n ≥ a from h),cond_true]; rfl
 ·rw [aX (show ¬ n ≥ a from h),cond_false]; rfl
theorem within (f:List Int) (n:Int) (hf:f.length≤1048576000) (hn:0≤n) (Je:n≤1048576000):fX f n=some (qb n f):=by
 unfold fX
 refine (congrArg ao (kc f (fun y=>!(decide (0≤y) && decide (y < n))) (fun i=>(i:Int)) rfl ?_ ?_ (e:=(f.length:Int)) (y:=false) ?_)).trans ?_
 ·intro i x hx hp
  have hi:=bf hx
  unfold mR
  simp only [Bool.not_eq_false',Bool.and_eq_true,decide_eq_true_eq] at hp
  rw [aw (by omega),cond_true,bn,hx,aA,dT (by omega) (by omega),Df,aA,aw hp.1,aw (by omega)]
  simp only [Bool.and_self,Bool.not_true,cond_false]
  rw [bB (by omega)]
 ·intro i x hx hp
  have hi:=bf hx
  unfold mR
  rw [aw (by omega),cond_true,bn,hx,aA,dT (by omega) (by omega),Df,aA]
  have:(decide (0≤x) && decide (x≤n - 1))=false:=by
   by_cases h:x < 0
   ·rw [aX (by omega)]; rfl
   ·have:n≤x:=by simp at hp; omega
    rw [aX (show ¬ x≤n - 1 by omega),Bool.and_false]
  rw [this]; rfl
 ·unfold mR
  rw [aX (by omega),cond_false]
 ·rw [ko]
  show ao (if (!qb n f)=true then _ else _)=_
  cases qb n f <;> rfl
def wg (c:aH):Bool:=((decide (0≤c.aD) && decide (c.aD≤8)) && (decide (c.aG.length≤40) && qb c.aD c.aG)) && (((c.To.length == c.aG.length) && qb c.aD c.To) && ((c.aB.length == c.aG.length) && (((c.aI.length:Int) == c.aD) && qb c.aG.length c.aI)))
def Ag (c:aH) (x:Int):Bool:=gi c.aG (gi c.aI x) == x && gi c.To (gi c.aI x) == x
def vo (c:aH) (f g:Int):Bool:=
 if gi c.To f=gi c.aG g then (decide (0≤gk c.aB f g) && decide (gk c.aB f g < c.aG.length)) && (gi c.aG (gk c.aB f g) == gi c.aG f && gi c.To (gk c.aB f g) == gi c.To g)
 else gk c.aB f g == -1
def yI (c:aH) (f:Int):Bool:=((gr c.aB f).length == c.aG.length) && (ns c.aG.length).all fun g=>vo c f g
def qc (c:aH):Bool:=wg c && ((ns c.aI.length).all (Ag c) && (ns c.aG.length).all (yI c))
structure Head (c:aH):Prop where
 o0:0≤c.aD
 o8:c.aD≤8
 m:c.aG.length≤40
 f:∀ x∈c.aG,0≤x∧x < c.aD
 tl:c.To.length=c.aG.length
 t:∀ x∈c.To,0≤x∧x < c.aD
 kl:c.aB.length=c.aG.length
 il:(c.aI.length:Int)=c.aD
 i:∀ x∈c.aI,0≤x∧x < c.aG.length
theorem GA {c:aH} (h:wg c=true):Head c:=by
 unfold wg at h
 simp only [Bool.and_eq_true,decide_eq_true_eq,tD,beq_iff_eq] at h
 obtain ⟨⟨⟨h1,h2⟩,h3,h4⟩,⟨h5,h6⟩,h7,h8,h9⟩:=h
 exact ⟨h1,h2,h3,h4,h5,h6,h7,h8,h9⟩
set_option linter.unusedSectionVars false
namespace Head
variable {c:aH} (h:Head c)
include h
theorem fr {f:Int} (h0:0≤f) (h1:f < c.aG.length):0≤gi c.aG f∧gi c.aG f < c.aD:=h.f _ (fy h0 h1)
theorem to {f:Int} (h0:0≤f) (h1:f < c.aG.length):0≤gi c.To f∧gi c.To f < c.aD:=h.t _ (fy h0 (by rw [h.tl]; exact h1))
theorem id {x:Int} (h0:0≤x) (h1:x < c.aD):0≤gi c.aI x∧gi c.aI x < c.aG.length:=h.i _ (fy h0 (by rw [h.il]; exact h1))
theorem lh {f:Int} (h0:0≤f) (h1:f < c.aG.length):idx c.aG f=some (gi c.aG f):=bQ h0 h1
theorem l8 {f:Int} (h0:0≤f) (h1:f < c.aG.length):idx c.To f=some (gi c.To f):=bQ h0 (by rw [h.tl]; exact h1)
theorem um {x:Int} (h0:0≤x) (h1:x < c.aD):idx c.aI x=some (gi c.aI x):=bQ h0 (by rw [h.il]; exact h1)
theorem tQ {f:Int} (h0:0≤f) (h1:f < c.aG.length):idx c.aB f=some (gr c.aB f):=cb h0 (by rw [h.kl]; exact h1)
end Head
theorem Pn {c:aH} (hs:dk c):oE c=some (qc c):=by
 obtain ⟨z1,z2,z3,z4,z5⟩:=hs
 have ends:∀ (l:List Int) (n:Nat) (o:Int),l.length≤1048576→mH l (n:Int) o=some ((l.length == n) && qb o l):=by
  intro l n o hl
  unfold mH
  by_cases e:l.length=n
  ·rw [show ((l.length:Int) == (n:Int))=true by simp [e],cond_true,Gz _ _ (by omega),show (l.length == n)=true by simp [e]]; rfl
  ·rw [show ((l.length:Int) == (n:Int))=false by simp; omega,cond_false,show (l.length == n)=false by simp [e]]; rfl
 unfold oE
 rw [Pm,aA,ends _ _ _ z1,ends _ _ _ z2]
 have e1:((c.aB.length:Int) != (c.aG.length:Int)) = !(c.aB.length == c.aG.length):=by
  by_cases e:c.aB.length=c.aG.length
  ·simp [e]
  ·rw [show (c.aB.length == c.aG.length)=false by simp [e]]; simp; omega
 have e2:decide ((c.aG.length:Int) > 40) = !decide (c.aG.length≤40):=by
  by_cases e:c.aG.length≤40
  ·rw [aw e,aX (by omega)]; rfl
  ·rw [aX e,aw (by omega)]; rfl
 rw [e1,e2,Gz _ _ (by omega)]
 cases hh:wg c with
 | false=>
  have:qc c=false:=by unfold qc; rw [hh]; rfl
  rw [this]
  unfold wg at hh
  generalize (decide (0≤c.aD) && decide (c.aD≤8))=a1 at *
  generalize decide (c.aG.length≤40)=a2 at *
  generalize qb c.aD c.aG=a3 at *
  generalize (c.To.length == c.aG.length)=a4 at *
  generalize qb c.aD c.To=a5 at *
  generalize (c.aB.length == c.aG.length)=a6 at *
  have e3:((c.aI.length:Int) != c.aD) = !((c.aI.length:Int) == c.aD):=rfl
  rw [e3]
  generalize ((c.aI.length:Int) == c.aD)=a7 at *
  generalize qb (c.aG.length:Int) c.aI=a8 at *
  simp only [beq_self_eq_true,Bool.true_and]
  cases a1 <;> first | rfl | (cases a2 <;> first | rfl | (cases a3 <;> first | rfl | (cases a4 <;> first | rfl | (cases a5 <;> first | rfl | (cases a6 <;> first | rfl | (cases a7 <;> first | rfl | (cases a8 <;> first | rfl | (cases hh))))))))
 | true=>
  have H:=GA hh
  have yJ:=hh
  unfold wg at yJ
  simp only [Bool.and_eq_true] at yJ
  obtain ⟨⟨⟨b1,Kr⟩,b2,b3⟩,⟨b4,b5⟩,b6,b7,b8⟩:=yJ
  rw [b1,Kr,b2,b3,b4,b5,b6,b8,show ((c.aI.length:Int) != c.aD) = !((c.aI.length:Int) == c.aD) from rfl,b7]
  simp only [beq_self_eq_true,Bool.and_self,Bool.not_true,cond_false,aA]
  have hm:=H.m
  have sW:=H.il
  refine (congrArg ao (kc (ns c.aI.length) (fun x=>!Ag c x) (fun i=>(i:Int)) rfl ?_ ?_ (e:=(c.aI.length:Int)) (y:=false) ?_)).trans ?_
  ·intro i x hx hp
   obtain ⟨rfl,hi⟩:=c8 hx
   have:=H.id (x:=(i:Int)) (by omega) (by omega)
   unfold lR
   unfold Ag at hp
   simp only [Bool.not_eq_false',Bool.and_eq_true,beq_iff_eq] at hp
   rw [aw (by omega),cond_true,H.um (by omega) (by omega),aA,H.lh this.1 this.2,aA,hp.1,bne_self_eq_false,cond_false,aA,H.l8 this.1 this.2,aA,hp.2,bne_self_eq_false,aA,cond_false,bB (by omega)]
  ·intro i x hx hp
   obtain ⟨rfl,hi⟩:=c8 hx
   have:=H.id (x:=(i:Int)) (by omega) (by omega)
   unfold lR
   unfold Ag at hp
   rw [aw (by omega),cond_true,H.um (by omega) (by omega),aA,H.lh this.1 this.2,aA]
   by_cases e:gi c.aG (gi c.aI i)=i
   ·rw [e,bne_self_eq_false,cond_false,aA,H.l8 this.1 this.2,aA]
    have:(gi c.To (gi c.aI i) != (i:Int))=true:=by
     rw [e] at hp; simpa using hp
    rw [this]; rfl
   ·rw [show (gi c.aG (gi c.aI i) != (i:Int))=true by simp [e]]; rfl
  ·unfold lR
   rw [cH,aX (by omega),cond_false]
  rw [ko]
  unfold qc
  rw [hh]
  cases sF:(ns c.aI.length).all (Ag c) with
  | false=>rfl
  | true=>
   simp only [Bool.not_true,Bool.false_eq_true,if_false,Bool.true_and]
   refine (congrArg ao (kc (ns c.aG.length) (fun f=>!yI c f) (fun i=>(i:Int)) rfl ?_ ?_ (e:=(c.aG.length:Int)) (y:=false) ?_)).trans ?_
   rotate_left 2
   ·unfold oD
    rw [cH,aX (by omega),cond_false]
   ·rw [ko]
    cases (ns c.aG.length).all (yI c) <;> rfl
   all_goals
    intro i x hx hp
    obtain ⟨rfl,hi⟩:=c8 hx
    have hK:=H.tQ (f:=(i:Int)) (by omega) (by omega)
    have inner:(gr c.aB i).length=c.aG.length→ag (S:=Int) (ae 4 (af (lS c i) (0:Int))) (fun zK=>(some (Out.norm (ai ((i:Int)+(1:Int)))))) =
      if (ns c.aG.length).any (fun g=>!vo c i g) then some (.ret false) else some (Out.norm (ai ((i:Int)+(1:Int)))):=by
     intro hr
     refine kc (ns c.aG.length) (fun g=>!vo c i g) (fun j=>(j:Int)) rfl ?_ ?_ (e:=(c.aG.length:Int)) (y:=false) ?_
     rotate_left 2
     ·unfold lS
      rw [cH,aX (by omega),cond_false]
     all_goals
      intro j y hy hq
      obtain ⟨rfl,hj⟩:=c8 hy
      unfold lS
      rw [aw (by omega),cond_true,hK,aA,bQ (by omega) (by omega),aA,H.l8 (by omega) (by omega),aA,H.lh (by omega) (by omega),aA]
      unfold vo gk at hq
      by_cases e:gi c.To i=gi c.aG j
      ·rw [if_pos e] at hq
       rw [show (gi c.To (i:Int) != gi c.aG (j:Int))=false by simp [e],cond_false]
       by_cases l0:gi (gr c.aB i) j < 0
       ·rw [aX (show ¬ 0≤gi (gr c.aB i) j by omega)] at hq
        rw [aw l0,cond_true,aA,cond_true]
        all_goals (first | rfl | simp at hq)
       ·rw [aw (show 0≤gi (gr c.aB i) j by omega)] at hq
        rw [aX l0,cond_false]
        by_cases l1:gi (gr c.aB i) j < c.aG.length
        ·rw [aw l1] at hq
         rw [aX (show ¬ gi (gr c.aB i) j ≥ c.aG.length by omega),cond_false,H.lh (by omega) l1,aA,H.lh (by omega) (by omega),aA]
         by_cases q1:gi c.aG (gi (gr c.aB i) j)=gi c.aG i
         ·rw [show (gi c.aG (gi (gr c.aB (i:Int)) (j:Int)) == gi c.aG (i:Int))=true by simp [q1]] at hq
          rw [show (gi c.aG (gi (gr c.aB (i:Int)) (j:Int)) != gi c.aG (i:Int))=false by simp [q1],cond_false,H.l8 (by omega) l1,aA,H.l8 (by omega) (by omega),aA,aA]
          simp only [Bool.and_self,Bool.true_and] at hq
          rw [show (gi c.To (gi (gr c.aB (i:Int)) (j:Int)) != gi c.To (j:Int)) = !(gi c.To (gi (gr c.aB (i:Int)) (j:Int)) == gi c.To (j:Int)) from rfl,hq]
          all_goals (first | rfl | rw [cond_false,bB (by omega)])
         ·rw [show (gi c.aG (gi (gr c.aB (i:Int)) (j:Int)) == gi c.aG (i:Int))=false by simp [q1]] at hq
          rw [show (gi c.aG (gi (gr c.aB (i:Int)) (j:Int)) != gi c.aG (i:Int))=true by simp [q1],cond_true]
          all_goals (first | rfl | simp at hq)
        ·rw [aX l1] at hq
         rw [aw (show gi (gr c.aB i) j ≥ c.aG.length by omega),cond_true]
         all_goals (first | rfl | simp at hq)
      ·rw [if_neg e] at hq
       rw [show (gi c.To (i:Int) != gi c.aG (j:Int))=true by simp [e],cond_true,show (gi (gr c.aB (i:Int)) (j:Int) != -1) = !(gi (gr c.aB (i:Int)) (j:Int) == -1) from rfl,hq]
       all_goals (first | rfl | rw [cond_false,bB (by omega)])
    unfold oD
    rw [aw (by omega),cond_true,hK,aA]
    unfold yI at hp
    by_cases hr:(gr c.aB i).length=c.aG.length
    ·rw [show (((gr c.aB (i:Int)).length:Int) != (c.aG.length:Int))=false by simp [hr],cond_false,inner hr,ko]
     rw [show ((gr c.aB (i:Int)).length == c.aG.length)=true by simp [hr],Bool.true_and] at hp
     rw [hp,bB (by omega)]
     rfl
    ·rw [show (((gr c.aB (i:Int)).length:Int) != (c.aG.length:Int))=true by (simp; omega),cond_true]
     all_goals (rw [show ((gr c.aB (i:Int)).length == c.aG.length)=false by simp [hr],Bool.false_and] at hp; first | rfl | simp at hp)
end Go.Proofs.YtcnehblmgfbfoaaGreat
namespace Go.Proofs.YtcnehblmgfbfoaaGreat
open Go Go.Li
set_option linter.unusedSectionVars false
theorem JJ {c:aH} (H:Head c) {f:Int} (h0:0≤f) (h1:f < c.aG.length):gY c f=some (rO.mk (gi c.aG f) (gi c.To f)):=by
 unfold gY
 rw [H.lh h0 h1,aA,H.l8 h0 h1,aA]; rfl
theorem Pp {c:aH} (hs:dk c):iC c=some (qc c):=by
 obtain ⟨z1,z2,z3,z4,z5⟩:=hs
 unfold iC dE
 rw [show ao (S:=Unit) (some (Out.ret (c.aG.length:Int)))=some (c.aG.length:Int) from rfl,aA,Df,aA]
 have e1:((c.aB.length:Int) != (c.aG.length:Int)) = !(c.aB.length == c.aG.length):=by
  by_cases e:c.aB.length=c.aG.length
  ·simp [e]
  ·rw [show (c.aB.length == c.aG.length)=false by simp [e]]; simp; omega
 have Tn:((c.To.length:Int) != (c.aG.length:Int)) = !(c.To.length == c.aG.length):=by
  by_cases e:c.To.length=c.aG.length
  ·simp [e]
  ·rw [show (c.To.length == c.aG.length)=false by simp [e]]; simp; omega
 have e2:decide ((c.aG.length:Int) > 40) = !decide (c.aG.length≤40):=by
  by_cases e:c.aG.length≤40
  ·rw [aw e,aX (by omega)]; rfl
  ·rw [aX e,aw (by omega)]; rfl
 have e3:((c.aI.length:Int) != c.aD) = !((c.aI.length:Int) == c.aD):=rfl
 rw [e1,Tn,e2,e3,within c.aI _ (by omega) (by omega) (by omega)]
 cases hh:wg c with
 | false=>
  have:qc c=false:=by unfold qc; rw [hh]; rfl
  rw [this]
  unfold wg at hh
  cases ha:(decide (0≤c.aD) && decide (c.aD≤8)) with
  | false=>rfl
  | true=>
   rw [ha] at hh
   simp only [Bool.and_eq_true,decide_eq_true_eq] at ha
   rw [within c.aG _ (by omega) ha.1 (by omega),within c.To _ (by omega) ha.1 (by omega)]
   generalize decide (c.aG.length≤40)=a2 at *
   generalize qb c.aD c.aG=a3 at *
   generalize (c.To.length == c.aG.length)=a4 at *
   generalize qb c.aD c.To=a5 at *
   generalize (c.aB.length == c.aG.length)=a6 at *
   generalize ((c.aI.length:Int) == c.aD)=a7 at *
   generalize qb (c.aG.length:Int) c.aI=a8 at *
   cases a2 <;> first | rfl | (cases a4 <;> first | rfl | (cases a3 <;> first | rfl | (cases a5 <;> first | rfl | (cases a7 <;> first | rfl | (cases a8 <;> first | rfl | (cases a6 <;> first | rfl | (cases hh)))))))
 | true=>
  have H:=GA hh
  have yJ:=hh
  unfold wg at yJ
  simp only [Bool.and_eq_true] at yJ
  obtain ⟨⟨⟨b1,Kr⟩,b2,b3⟩,⟨b4,b5⟩,b6,b7,b8⟩:=yJ
  rw [within c.aG _ (by omega) H.o0 (by have:=H.o8; omega),within c.To _ (by omega) H.o0 (by have:=H.o8; omega)]
  rw [b1,Kr,b2,b3,b4,b5,b6,b8,b7]
  simp only [Bool.and_self,Bool.not_true,cond_false,aA]
  have hm:=H.m
  have sW:=H.il
  have Dr:=H.kl
  refine (congrArg ao (kc (ns c.aI.length) (fun x=>!Ag c x) (fun i=>(i:Int)) rfl ?_ ?_ (e:=(c.aI.length:Int)) (y:=false) ?_)).trans ?_
  ·intro i x hx hp
   obtain ⟨rfl,hi⟩:=c8 hx
   have:=H.id (x:=(i:Int)) (by omega) (by omega)
   unfold gD
   unfold Ag at hp
   simp only [Bool.not_eq_false'] at hp
   rw [aw (by omega),cond_true,H.um (by omega) (by omega),aA,JJ H this.1 this.2,aA]
   dsimp only
   rw [hp,Bool.not_true,cond_false,bB (by omega)]
  ·intro i x hx hp
   obtain ⟨rfl,hi⟩:=c8 hx
   have:=H.id (x:=(i:Int)) (by omega) (by omega)
   unfold gD
   unfold Ag at hp
   rw [aw (by omega),cond_true,H.um (by omega) (by omega),aA,JJ H this.1 this.2,aA]
   dsimp only
   rw [hp,cond_true]
  ·unfold gD
   rw [cH,aX (by omega),cond_false]
  rw [ko]
  unfold qc
  rw [hh]
  cases sF:(ns c.aI.length).all (Ag c) with
  | false=>rfl
  | true=>
   simp only [Bool.not_true,Bool.false_eq_true,if_false,Bool.true_and]
   refine (congrArg ao (kc (ns c.aG.length) (fun f=>!yI c f) (fun i=>(i:Int)) rfl ?_ ?_ (e:=(c.aG.length:Int)) (y:=false) ?_)).trans ?_
   rotate_left 2
   ·unfold iZ
    rw [cH,aX (by omega),cond_false]
   ·rw [ko]
    cases (ns c.aG.length).all (yI c) <;> rfl
   all_goals
    intro i x hx hp
    obtain ⟨rfl,hi⟩:=c8 hx
    have hK:=H.tQ (f:=(i:Int)) (by omega) (by omega)
    have inner:(gr c.aB i).length=c.aG.length→ag (S:=Int) (ae 4 (af (gF c (c.aG.length:Int) i (gr c.aB i)) (0:Int))) (fun zK=>(some (Out.norm (ai ((i:Int)+(1:Int)))))) =
      if (ns c.aG.length).any (fun g=>!vo c i g) then some (.ret false) else some (Out.norm (ai ((i:Int)+(1:Int)))):=by
     intro hr
     refine kc (ns c.aG.length) (fun g=>!vo c i g) (fun j=>(j:Int)) rfl ?_ ?_ (e:=(c.aG.length:Int)) (y:=false) ?_
     rotate_left 2
     ·unfold gF
      rw [cH,aX (by omega),cond_false]
     all_goals
      intro j y hy hq
      obtain ⟨rfl,hj⟩:=c8 hy
      unfold gF
      rw [aw (by omega),cond_true,bQ (by omega) (by omega),aA,H.l8 (by omega) (by omega),aA,H.lh (by omega) (by omega),aA,dT (a:=(c.aG.length:Int) - 1) (by omega) (by omega),Df,aA]
      unfold vo gk at hq
      by_cases e:gi c.To i=gi c.aG j
      ·rw [if_pos e] at hq
       rw [show (gi c.To (i:Int) != gi c.aG (j:Int))=false by simp [e],cond_false]
       by_cases l0:0≤gi (gr c.aB i) j∧gi (gr c.aB i) j < c.aG.length
       ·rw [aw l0.1,aw l0.2] at hq
        rw [aw l0.1,aw (show gi (gr c.aB i) j≤(c.aG.length:Int) - 1 by omega)]
        simp only [Bool.and_self,Bool.not_true,cond_false,Bool.true_and] at hq ⊢
        rw [JJ H l0.1 l0.2,aA,H.lh (by omega) (by omega),aA,H.l8 (by omega) (by omega),aA,aA]
        dsimp only
        rw [hq]
        all_goals (first | rfl | rw [cond_false,bB (by omega)])
       ·have l1:(decide (0≤gi (gr c.aB i) j) && decide (gi (gr c.aB i) j < c.aG.length))=false:=by
         rcases Classical.not_and_iff_not_or_not.1 l0 with h | h
         ·rw [aX h]; rfl
         ·rw [aX h,Bool.and_false]
        have l2:(decide (0≤gi (gr c.aB i) j) && decide (gi (gr c.aB i) j≤(c.aG.length:Int) - 1))=false:=by
         rcases Classical.not_and_iff_not_or_not.1 l0 with h | h
         ·rw [aX h]; rfl
         ·rw [aX (show ¬ gi (gr c.aB i) j≤(c.aG.length:Int) - 1 by omega),Bool.and_false]
        rw [l1] at hq
        rw [l2]
        all_goals (first | rfl | simp at hq)
      ·rw [if_neg e] at hq
       rw [show (gi c.To (i:Int) != gi c.aG (j:Int))=true by simp [e],cond_true,show (gi (gr c.aB (i:Int)) (j:Int) != -1) = !(gi (gr c.aB (i:Int)) (j:Int) == -1) from rfl,hq]
       all_goals (first | rfl | rw [cond_false,bB (by omega)])
    unfold iZ
    rw [aw (by omega),cond_true,hK,aA]
    unfold yI at hp
    by_cases hr:(gr c.aB i).length=c.aG.length
    ·rw [show (((gr c.aB (i:Int)).length:Int) != (c.aG.length:Int))=false by simp [hr],cond_false,inner hr,ko]
     rw [show ((gr c.aB (i:Int)).length == c.aG.length)=true by simp [hr],Bool.true_and] at hp
     rw [hp,bB (by omega)]
     rfl
    ·rw [show (((gr c.aB (i:Int)).length:Int) != (c.aG.length:Int))=true by (simp; omega),cond_true]
     all_goals (rw [show ((gr c.aB (i:Int)).length == c.aG.length)=false by simp [hr],Bool.false_and] at hp; first | rfl | simp at hp)
end Go.Proofs.YtcnehblmgfbfoaaGreat
namespace Go.Proofs.YtcnehblmgfbfoaaGreat
open Go Go.Li
structure aC (c:aH):Prop extends Head c where
 zb:∀ x:Int,0≤x→x < c.aD→gi c.aG (gi c.aI x)=x
 G5:∀ x:Int,0≤x→x < c.aD→gi c.To (gi c.aI x)=x
 row:∀ f:Int,0≤f→f < c.aG.length→(gr c.aB f).length=c.aG.length
 cell:∀ f g:Int,0≤f→f < c.aG.length→0≤g→g < c.aG.length→gi c.To f=gi c.aG g→
  0≤gk c.aB f g∧gk c.aB f g < c.aG.length∧gi c.aG (gk c.aB f g)=gi c.aG f∧gi c.To (gk c.aB f g)=gi c.To g
 none:∀ f g:Int,0≤f→f < c.aG.length→0≤g→g < c.aG.length→gi c.To f≠gi c.aG g→gk c.aB f g = -1
theorem Ed {c:aH} (h:qc c=true):aC c:=by
 unfold qc at h
 simp only [Bool.and_eq_true,List.all_eq_true] at h
 obtain ⟨h1,h2,h3⟩:=h
 have H:=GA h1
 have sW:=H.il
 have sF:∀ x,0≤x→x < c.aD→Ag c x=true:=fun x a b=>h2 x (dv.2 ⟨a,by omega⟩)
 have av:∀ f,0≤f→f < (c.aG.length:Int)→yI c f=true:=fun f a b=>h3 f (dv.2 ⟨a,b⟩)
 have ik:∀ f g,0≤f→f < (c.aG.length:Int)→0≤g→g < (c.aG.length:Int)→vo c f g=true:=fun f g a b a' b'=>by
  have:=av f a b
  unfold yI at this
  simp only [Bool.and_eq_true,List.all_eq_true] at this
  exact this.2 g (dv.2 ⟨a',b'⟩)
 refine { H with
  zb:=fun x a b=>?_
  G5:=fun x a b=>?_
  row:=fun f a b=>?_
  cell:=fun f g a b a' b' e=>?_
  none:=fun f g a b a' b' e=>?_ }
 ·have:=sF x a b; unfold Ag at this; simp at this; exact this.1
 ·have:=sF x a b; unfold Ag at this; simp at this; exact this.2
 ·have:=av f a b; unfold yI at this; simp only [Bool.and_eq_true,beq_iff_eq] at this; exact this.1
 ·have:=ik f g a b a' b'; unfold vo at this; rw [if_pos e] at this; simp only [Bool.and_eq_true,decide_eq_true_eq,beq_iff_eq] at this; exact ⟨this.1.1,this.1.2,this.2.1,this.2.2⟩
 ·have:=ik f g a b a' b'; unfold vo at this; rw [if_neg e] at this; simpa using this
namespace aC
variable {c:aH} (h:aC c)
include h
theorem tR {f g:Int} (h0:0≤f) (h1:f < c.aG.length) (h2:0≤g) (h3:g < c.aG.length):idx (gr c.aB f) g=some (gk c.aB f g):=bQ h2 (by rw [h.row f h0 h1]; exact h3)
theorem sy {f g:Int} (h0:0≤f) (h1:f < c.aG.length) (h2:0≤g) (h3:g < c.aG.length):dJ c f g=some (gk c.aB f g):=by
 unfold dJ; rw [h.tQ h0 h1,aA,h.tR h0 h1 h2 h3,aA]; rfl
theorem thenS {f g:Int} (h0:0≤f) (h1:f < c.aG.length) (h2:0≤g) (h3:g < c.aG.length):kB c f g=some (gk c.aB f g):=by
 unfold kB; rw [h.tQ h0 h1,aA,h.tR h0 h1 h2 h3,aA]; rfl
end aC
def vq (c:aH) (f:Int):Bool:=gk c.aB (gi c.aI (gi c.aG f)) f == f && gk c.aB f (gi c.aI (gi c.To f)) == f
def w3 (c:aH) (f g h:Int):Bool:=gi c.To g == gi c.aG h && gk c.aB (gk c.aB f g) h != gk c.aB f (gk c.aB g h)
def CD (c:aH) (f g:Int):Bool:=gi c.To f == gi c.aG g && (ns c.aG.length).any (w3 c f g)
def GB (c:aH) (f:Int):Bool:=(ns c.aG.length).any (CD c f)
def Bv (c:aH):Bool:=(ns c.aG.length).all (vq c) && !((ns c.aG.length).any (GB c))
theorem Lk {c:aH} {k1 k2 k4 k6:Nat} {L0:Int→Option (Out Int (Int×Int×Int×Int))} {L1:Int→Option (Out Int (Int×Int×Int×Int))} {L2:Int→Int→Option (Out Int (Int×Int×Int×Int))} {L3:Int→Int→Int→Option (Out Int (Int×Int×Int×Int))} {z:Int×Int×Int×Int} (hz:z.1=0)
  (a0:∀ i:Nat,i < c.aG.length→vq c i=true→L0 i=some (.norm ((i+1:Nat):Int)))
  (a1:∀ i:Nat,i < c.aG.length→vq c i=false→∃ y,L0 i=some (.ret y)∧y.1≠0)
  (a2:L0 c.aG.length=some (.exit k1 c.aG.length))
  (b0:∀ i:Nat,i < c.aG.length→L1 i=ag (ae k4 (af (L2 i) 0)) fun _=>some (.norm ((i+1:Nat):Int)))
  (b2:L1 c.aG.length=some (.exit k2 c.aG.length))
  (d0:∀ i j:Nat,i < c.aG.length→j < c.aG.length→gi c.To i≠gi c.aG j→L2 i j=some (.norm ((j+1:Nat):Int)))
  (d1:∀ i j:Nat,i < c.aG.length→j < c.aG.length→gi c.To i=gi c.aG j→L2 i j=ag (ae k6 (af (L3 i j) 0)) fun _=>some (.norm ((j+1:Nat):Int)))
  (d2:∀ i:Nat,L2 i c.aG.length=some (.exit k4 c.aG.length))
  (e0:∀ i j h:Nat,i < c.aG.length→j < c.aG.length→h < c.aG.length→gi c.To i=gi c.aG j→w3 c i j h=false→L3 i j h=some (.norm ((h+1:Nat):Int)))
  (e1:∀ i j h:Nat,i < c.aG.length→j < c.aG.length→h < c.aG.length→gi c.To i=gi c.aG j→w3 c i j h=true→∃ y,L3 i j h=some (.ret y)∧y.1≠0)
  (e2:∀ i j:Nat,L3 i j c.aG.length=some (.exit k6 c.aG.length)) :
  ∃ y,ao (S:=Unit) (ag (ae k1 (af L0 0)) fun _=>ag (ae k2 (af L1 0)) fun _=>some (.ret z))=some y∧(y.1 == 0)=Bv c:=by
 have in3:∀ i j:Nat,i < c.aG.length→j < c.aG.length→gi c.To i=gi c.aG j→
   ((ns c.aG.length).any (w3 c i j)=true∧∃ y,ag (S:=Int) (ae k6 (af (L3 i j) 0)) (fun _=>some (.norm ((j+1:Nat):Int)))=some (.ret y)∧y.1≠0)∨
   ((ns c.aG.length).any (w3 c i j)=false∧ag (S:=Int) (ae k6 (af (L3 i j) 0)) (fun _=>some (.norm ((j+1:Nat):Int)))=some (.norm ((j+1:Nat):Int))):=by
  intro i j hi hj he
  refine yH (ns c.aG.length) (w3 c i j) (fun y:Int×Int×Int×Int=>y.1≠0) (fun h=>(h:Int)) rfl ?_ ?_ (e:=(c.aG.length:Int)) (by rw [cH]; exact e2 i j)
  ·intro h x hx hp; obtain ⟨rfl,hh⟩:=c8 hx; exact e0 i j h hi hj hh he hp
  ·intro h x hx hp; obtain ⟨rfl,hh⟩:=c8 hx; exact e1 i j h hi hj hh he hp
 have in2:∀ i:Nat,i < c.aG.length→
   ((ns c.aG.length).any (CD c i)=true∧∃ y,ag (S:=Int) (ae k4 (af (L2 i) 0)) (fun _=>some (.norm ((i+1:Nat):Int)))=some (.ret y)∧y.1≠0)∨
   ((ns c.aG.length).any (CD c i)=false∧ag (S:=Int) (ae k4 (af (L2 i) 0)) (fun _=>some (.norm ((i+1:Nat):Int)))=some (.norm ((i+1:Nat):Int))):=by
  intro i hi
  refine yH (ns c.aG.length) (CD c i) (fun y:Int×Int×Int×Int=>y.1≠0) (fun h=>(h:Int)) rfl ?_ ?_ (e:=(c.aG.length:Int)) (by rw [cH]; exact d2 i)
  ·intro j x hx hp
   obtain ⟨rfl,hj⟩:=c8 hx
   by_cases he:gi c.To i=gi c.aG j
   ·rw [d1 i j hi hj he]
    rcases in3 i j hi hj he with ⟨h1,_⟩ | ⟨_,h2⟩
    ·unfold CD at hp; rw [h1] at hp; simp [he] at hp
    ·exact h2
   ·exact d0 i j hi hj he
  ·intro j x hx hp
   obtain ⟨rfl,hj⟩:=c8 hx
   unfold CD at hp
   simp only [Bool.and_eq_true,beq_iff_eq] at hp
   rw [d1 i j hi hj hp.1]
   rcases in3 i j hi hj hp.1 with ⟨_,h⟩ | ⟨h1,_⟩
   ·exact h
   ·rw [hp.2] at h1; cases h1
 rcases yH (s0:=(0:Int)) (S:=Unit) (R:=Int×Int×Int×Int) (k:=k1) (body:=L0) (f:=fun _=>ag (ae k2 (af L1 0)) fun _=>some (.ret z)) (ns c.aG.length) (fun i=>!vq c i) (fun y:Int×Int×Int×Int=>y.1≠0) (fun i=>(i:Int)) rfl
   (fun i x hx hp=>by obtain ⟨rfl,hi⟩:=c8 hx; exact a0 i hi (by simpa using hp)) (fun i x hx hp=>by obtain ⟨rfl,hi⟩:=c8 hx; exact a1 i hi (by simpa using hp)) (e:=(c.aG.length:Int)) (by rw [cH]; exact a2) with ⟨h1,y,h2,h3⟩ | ⟨h1,h2⟩
 ·refine ⟨y,by rw [h2]; rfl,?_⟩
  unfold Bv
  rw [ko] at h1
  simp only [Bool.not_eq_true'] at h1
  rw [h1]
  simpa using h3
 ·rw [ko] at h1
  simp only [Bool.not_eq_false'] at h1
  rw [h2]
  rcases yH (s0:=(0:Int)) (S:=Unit) (R:=Int×Int×Int×Int) (k:=k2) (body:=L1) (f:=fun _=>some (.ret z)) (ns c.aG.length) (GB c) (fun y:Int×Int×Int×Int=>y.1≠0) (fun i=>(i:Int)) rfl
   (fun i x hx hp=>by
    obtain ⟨rfl,hi⟩:=c8 hx
    rw [b0 i hi]
    rcases in2 i hi with ⟨q1,_⟩ | ⟨_,q2⟩
    ·unfold GB at hp; rw [q1] at hp; cases hp
    ·exact q2)
   (fun i x hx hp=>by
    obtain ⟨rfl,hi⟩:=c8 hx
    rw [b0 i hi]
    rcases in2 i hi with ⟨_,q⟩ | ⟨q1,_⟩
    ·exact q
    ·unfold GB at hp; rw [q1] at hp; cases hp) (e:=(c.aG.length:Int)) (by rw [cH]; exact b2) with ⟨g1,y,g2,g3⟩ | ⟨g1,g2⟩
  ·refine ⟨y,by rw [g2]; rfl,?_⟩
   unfold Bv
   rw [h1,g1]
   simpa using g3
  ·refine ⟨z,by rw [g2]; rfl,?_⟩
   unfold Bv
   rw [h1,g1,hz]
   rfl
section
variable {c:aH} (H:aC c)
include H
theorem Pq:∃ y,nC c=some y∧(y.1 == 0)=Bv c:=by
 have hm:=H.m
 have sW:=H.il
 have u0:∀ i:Nat,i < c.aG.length→kM c i=if vq c i then some (Out.norm ((i+1:Nat):Int)) else some (Out.ret ((1:Int),(i:Int),(0:Int),(0:Int))):=by
  intro i hi
  have f1:=H.fr (f:=(i:Int)) (by omega) (by omega)
  have t1:=H.to (f:=(i:Int)) (by omega) (by omega)
  have i1:=H.id f1.1 f1.2
  have i2:=H.id t1.1 t1.2
  unfold kM
  rw [aw (by omega),cond_true,H.lh (by omega) (by omega),aA,H.um f1.1 f1.2,aA,H.tQ i1.1 i1.2,aA,H.tR i1.1 i1.2 (by omega) (by omega),aA]
  rw [H.tQ (by omega) (by omega),aA,H.l8 (by omega) (by omega),aA,H.um t1.1 t1.2,aA,H.tR (by omega) (by omega) i2.1 i2.2,aA]
  unfold vq
  by_cases e1:gk c.aB (gi c.aI (gi c.aG i)) i=i
  ·by_cases e2:gk c.aB i (gi c.aI (gi c.To i))=i
   ·simp [e1,e2,bB (show i < 9223372036854775807 by omega)]
   ·simp [e1,e2,tO e2]
  ·simp [e1,tO e1]
 unfold nC
 refine Lk (c:=c) (z:=(0,0,0,0)) rfl (L2:=iU c) (L3:=iS c) (k4:=4) (k6:=6) ?_ ?_ ?_ ?_ ?_ ?_ ?_ ?_ ?_ ?_ ?_
 ·intro i hi hp; rw [u0 i hi,hp]; rfl
 ·intro i hi hp; rw [u0 i hi,hp]; exact ⟨_,rfl,by simp⟩
 ·unfold kM; rw [aX (by omega),cond_false]
 ·intro i hi; unfold nO; rw [aw (by omega),cond_true,bB (by omega)]
 ·unfold nO; rw [aX (by omega),cond_false]
 ·intro i j hi hj he
  unfold iU
  rw [aw (by omega),cond_true,H.l8 (by omega) (by omega),aA,H.lh (by omega) (by omega),aA,show (gi c.To (i:Int) != gi c.aG (j:Int))=true by simp [he],cond_true,bB (by omega)]
 ·intro i j hi hj he
  unfold iU
  rw [aw (by omega),cond_true,H.l8 (by omega) (by omega),aA,H.lh (by omega) (by omega),aA,show (gi c.To (i:Int) != gi c.aG (j:Int))=false by simp [he],cond_false,bB (by omega)]
 ·intro i; unfold iU; rw [aX (by omega),cond_false]
 ·intro i j h hi hj hh he hp
  unfold iS
  rw [aw (by omega),cond_true,H.l8 (by omega) (by omega),aA,H.lh (by omega) (by omega),aA]
  unfold w3 at hp
  by_cases e:gi c.To j=gi c.aG h
  ·have c1:=H.cell i j (by omega) (by omega) (by omega) (by omega) he
   have c2:=H.cell j h (by omega) (by omega) (by omega) (by omega) e
   rw [show (gi c.To (j:Int) == gi c.aG (h:Int))=true by simp [e]] at hp ⊢
   rw [cond_true,H.tQ (by omega) (by omega),aA,H.tR (by omega) (by omega) (by omega) (by omega),aA,H.tQ c1.1 c1.2.1,aA,H.tR c1.1 c1.2.1 (by omega) (by omega),aA,aA,H.tQ (by omega) (by omega),aA,H.tR (by omega) (by omega) (by omega) (by omega),aA,H.tR (by omega) (by omega) c2.1 c2.2.1,aA]
   rw [Bool.true_and] at hp
   rw [hp,aA,cond_false,bB (by omega)]
  ·rw [show (gi c.To (j:Int) == gi c.aG (h:Int))=false by simp [e],cond_false,aA,cond_false,bB (by omega)]
 ·intro i j h hi hj hh he hp
  unfold iS
  rw [aw (by omega),cond_true,H.l8 (by omega) (by omega),aA,H.lh (by omega) (by omega),aA]
  unfold w3 at hp
  simp only [Bool.and_eq_true] at hp
  have e:gi c.To j=gi c.aG h:=by simpa using hp.1
  have c1:=H.cell i j (by omega) (by omega) (by omega) (by omega) he
  have c2:=H.cell j h (by omega) (by omega) (by omega) (by omega) e
  rw [hp.1,cond_true,H.tQ (by omega) (by omega),aA,H.tR (by omega) (by omega) (by omega) (by omega),aA,H.tQ c1.1 c1.2.1,aA,H.tR c1.1 c1.2.1 (by omega) (by omega),aA,aA,H.tQ (by omega) (by omega),aA,H.tR (by omega) (by omega) (by omega) (by omega),aA,H.tR (by omega) (by omega) c2.1 c2.2.1,aA]
  rw [hp.2,aA,cond_true]
  exact ⟨_,rfl,by simp⟩
 ·intro i j; unfold iS; rw [aX (by omega),cond_false]
theorem Pr:∃ y,jF c=some y∧(y.1 == 0)=Bv c:=by
 have hm:=H.m
 have sW:=H.il
 have u0:∀ i:Nat,i < c.aG.length→gU c c.aG.length i=if vq c i then some (Out.norm ((i+1:Nat):Int)) else some (Out.ret ((1:Int),(i:Int),(0:Int),(0:Int))):=by
  intro i hi
  have f1:=H.fr (f:=(i:Int)) (by omega) (by omega)
  have t1:=H.to (f:=(i:Int)) (by omega) (by omega)
  have i1:=H.id f1.1 f1.2
  have i2:=H.id t1.1 t1.2
  unfold gU
  rw [aw (by omega),cond_true,H.lh (by omega) (by omega),aA,H.um f1.1 f1.2,aA,H.sy i1.1 i1.2 (by omega) (by omega),aA]
  rw [H.l8 (by omega) (by omega),aA,H.um t1.1 t1.2,aA,H.sy (by omega) (by omega) i2.1 i2.2,aA]
  unfold vq
  by_cases e1:gk c.aB (gi c.aI (gi c.aG i)) i=i
  ·by_cases e2:gk c.aB i (gi c.aI (gi c.To i))=i
   ·simp [e1,e2,bB (show i < 9223372036854775807 by omega)]
   ·simp [e1,e2,tO e2]
  ·simp [e1,tO e1]
 have pos:∀ i j:Nat,i < c.aG.length→j < c.aG.length→(gi c.To i=gi c.aG j→0≤gk c.aB i j)∧(gi c.To i≠gi c.aG j→gk c.aB i j < 0):=by
  intro i j hi hj
  refine ⟨fun e=>(H.cell i j (by omega) (by omega) (by omega) (by omega) e).1,fun e=>?_⟩
  rw [H.none i j (by omega) (by omega) (by omega) (by omega) e]; decide
 unfold jF dE
 rw [show ao (S:=Unit) (some (Out.ret (c.aG.length:Int)))=some (c.aG.length:Int) from rfl,aA]
 refine Lk (c:=c) (z:=(0,0,0,0)) rfl (L2:=fL c c.aG.length) (L3:=fK c c.aG.length) (k4:=4) (k6:=6) ?_ ?_ ?_ ?_ ?_ ?_ ?_ ?_ ?_ ?_ ?_
 ·intro i hi hp; rw [u0 i hi,hp]; rfl
 ·intro i hi hp; rw [u0 i hi,hp]; exact ⟨_,rfl,by simp⟩
 ·unfold gU; rw [aX (by omega),cond_false]
 ·intro i hi; unfold jU; rw [aw (by omega),cond_true,bB (by omega)]
 ·unfold jU; rw [aX (by omega),cond_false]
 ·intro i j hi hj he
  unfold fL
  rw [aw (by omega),cond_true,H.sy (by omega) (by omega) (by omega) (by omega),aA,aw ((pos i j hi hj).2 he),cond_true,bB (by omega)]
 ·intro i j hi hj he
  have:=(pos i j hi hj).1 he
  unfold fL
  rw [aw (by omega),cond_true,H.sy (by omega) (by omega) (by omega) (by omega),aA,aX (by omega),cond_false,bB (by omega)]
 ·intro i; unfold fL; rw [aX (by omega),cond_false]
 ·intro i j h hi hj hh he hp
  unfold fK
  rw [aw (by omega),cond_true,H.sy (by omega) (by omega) (by omega) (by omega),aA]
  unfold w3 at hp
  by_cases e:gi c.To j=gi c.aG h
  ·have c1:=H.cell i j (by omega) (by omega) (by omega) (by omega) he
   have c2:=H.cell j h (by omega) (by omega) (by omega) (by omega) e
   rw [show (gi c.To (j:Int) == gi c.aG (h:Int))=true by simp [e],Bool.true_and] at hp
   rw [aw (show gk c.aB j h ≥ 0 from c2.1),cond_true,H.sy (by omega) (by omega) (by omega) (by omega),aA,H.sy c1.1 c1.2.1 (by omega) (by omega),aA,aA,H.sy (by omega) (by omega) c2.1 c2.2.1,aA,hp,aA,cond_false,bB (by omega)]
  ·have:=(pos j h hj hh).2 e
   rw [aX (show ¬ gk c.aB j h ≥ 0 by omega),cond_false,aA,cond_false,bB (by omega)]
 ·intro i j h hi hj hh he hp
  unfold fK
  unfold w3 at hp
  simp only [Bool.and_eq_true] at hp
  have e:gi c.To j=gi c.aG h:=by simpa using hp.1
  have c1:=H.cell i j (by omega) (by omega) (by omega) (by omega) he
  have c2:=H.cell j h (by omega) (by omega) (by omega) (by omega) e
  rw [aw (by omega),cond_true,H.sy (by omega) (by omega) (by omega) (by omega),aA,aw (show gk c.aB j h ≥ 0 from c2.1),cond_true,H.sy (by omega) (by omega) (by omega) (by omega),aA,H.sy c1.1 c1.2.1 (by omega) (by omega),aA,aA,H.sy (by omega) (by omega) c2.1 c2.2.1,aA,hp.2,aA,cond_true]
  exact ⟨_,rfl,by simp⟩
 ·intro i j; unfold fK; rw [aX (by omega),cond_false]
end
structure lg (c:aH):Prop extends aC c where
 HC:∀ f:Int,0≤f→f < c.aG.length→gk c.aB (gi c.aI (gi c.aG f)) f=f
 C3:∀ f:Int,0≤f→f < c.aG.length→gk c.aB f (gi c.aI (gi c.To f))=f
 assoc:∀ f g h:Int,0≤f→f < c.aG.length→0≤g→g < c.aG.length→0≤h→h < c.aG.length→gi c.To f=gi c.aG g→gi c.To g=gi c.aG h→
  gk c.aB (gk c.aB f g) h=gk c.aB f (gk c.aB g h)
def p6 (c:aH):Bool:=qc c && Bv c
theorem vr {c:aH} (h:p6 c=true):lg c:=by
 unfold p6 at h
 simp only [Bool.and_eq_true] at h
 obtain ⟨h1,h2⟩:=h
 have H:=Ed h1
 unfold Bv at h2
 simp only [Bool.and_eq_true,List.all_eq_true,Bool.not_eq_true',List.any_eq_false] at h2
 obtain ⟨h2,h3⟩:=h2
 refine { H with
  HC:=fun f a b=>?_
  C3:=fun f a b=>?_
  assoc:=fun f g h a b a' b' a'' b'' e1 e2=>?_ }
 ·have:=h2 f (dv.2 ⟨a,b⟩); unfold vq at this; simp at this; exact this.1
 ·have:=h2 f (dv.2 ⟨a,b⟩); unfold vq at this; simp at this; exact this.2
 ·have:=h3 f (dv.2 ⟨a,b⟩)
  unfold GB at this
  simp only [List.any_eq_true,not_exists,not_and] at this
  have:=this g (dv.2 ⟨a',b'⟩)
  unfold CD at this
  simp only [Bool.and_eq_true,beq_iff_eq,List.any_eq_true,not_and,not_exists] at this
  have:=this e1 h (dv.2 ⟨a'',b''⟩)
  unfold w3 at this
  simpa [e2] using this
theorem Ps {c:aH} (hs:dk c):oF c=some (p6 c):=by
 unfold oF
 rw [Pn hs,aA]
 unfold p6
 cases h:qc c with
 | false=>rfl
 | true=>
  obtain ⟨y,h1,h2⟩:=Pq (Ed h)
  rw [Bool.not_true,cond_false,h1,aA,h2]; rfl
theorem JK {c:aH} (hs:dk c):eU c=some (p6 c):=by
 unfold eU
 rw [Pp hs,aA]
 unfold p6
 cases h:qc c with
 | false=>rfl
 | true=>
  obtain ⟨y,h1,h2⟩:=Pr (Ed h)
  rw [Bool.not_true,cond_false,h1,aA,h2]; rfl
end Go.Proofs.YtcnehblmgfbfoaaGreat
