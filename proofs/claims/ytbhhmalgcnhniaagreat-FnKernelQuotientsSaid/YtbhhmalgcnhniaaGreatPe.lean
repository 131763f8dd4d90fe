/- Is a table a category: the reference and the program agree, and what is known of a category. No condition beside those that each theorem names. -/
import Derived.Test.YtbhhmalgcnhniaaGreatPa
set_option linter.unusedVariables false
set_option linter.unusedSectionVars false
set_option linter.unusedSimpArgs false
namespace Go.Li
open Go
section
variable {S S1 R α:Type} {body:S1→Option (Out S1 R)}
theorem yX {k:Nat} {f:S1→Option (Out S R)} {s0 e:S1} (l:List α) (p:α→Bool) (G:R→Prop) (st:Nat→S1) (h0:st 0=s0) (step:∀ i x,l[i]? = some x→p x=false→body (st i)=some (.norm (st (i+1))))
  (Mw:∀ i x,l[i]? = some x→p x=true→∃ y,body (st i)=some (.ret y)∧G y) (last:body (st l.length)=some (.exit k e)) :
  (l.any p=true∧∃ y,ae (ab k (aj body s0)) f=some (.ret y)∧G y)∨(l.any p=false∧ae (ab k (aj body s0)) f=f e):=by
 have key:∀ (m:List α) (i:Nat),l.drop i=m→i≤l.length→(m.any p=true∧∃ y,aj body (st i)=some (.ret y)∧G y)∨(m.any p=false∧aj body (st i)=some (.exit k e)):=by
  intro m
  induction m with
  | nil=>
   intro i hd hi
   have:i=l.length:=by have:=congrArg List.length hd; simp at this; omega
   subst this
   exact .inr ⟨rfl,vu last⟩
  | cons x m ih=>
   intro i hd hi
   have av:i < l.length:=by
    rcases Nat.lt_or_ge i l.length with h | h
    ·exact h
    ·rw [List.drop_eq_nil_of_le h] at hd; cases hd
   have hx:l[i]? = some x:=by
    rw [List.drop_eq_getElem_cons av] at hd
    rw [List.getElem?_eq_getElem av]; exact congrArg some (List.cons.inj hd).1
   have j6:l.drop (i+1)=m:=by
    rw [List.drop_eq_getElem_cons av] at hd; exact (List.cons.inj hd).2
   cases hp:p x with
   | true=>
    obtain ⟨y,hy,hg⟩:=Mw i x hx hp
    exact .inl ⟨by simp [hp],y,Ar hy,hg⟩
   | false=>
    rw [su,step i x hx hp]
    simpa [hp] using ih (i+1) j6 av
 rcases key l 0 rfl (Nat.zero_le _) with ⟨h1,y,h2,h3⟩ | ⟨h1,h2⟩
 ·rw [h0] at h2; exact .inl ⟨h1,y,Dd h2,h3⟩
 ·rw [h0] at h2; exact .inr ⟨h1,xV h2⟩
theorem Mz {n i x:Nat} (h:(List.range n)[i]? = some x):x=i∧i < n:=by
 have hi:=db h
 rw [List.getElem?_eq_getElem hi] at h
 simp at h hi
 exact ⟨h.symm,hi⟩
end
def gi (l:List Int) (j:Int):Int:=l.getD j.toNat 0
def gr (l:List (List Int)) (j:Int):List Int:=l.getD j.toNat []
def gk (l:List (List Int)) (i j:Int):Int:=gi (gr l i) j
theorem aZ {l:List Int} {j:Int} (h0:0≤j) (h1:j < l.length):idx l j=some (gi l j):=by
 rw [As h0 h1]; unfold gi; rw [List.getD_eq_getElem?_getD,List.getElem?_eq_getElem (by omega)]; rfl
theorem jf {l:List (List Int)} {j:Int} (h0:0≤j) (h1:j < l.length):idx l j=some (gr l j):=by
 rw [As h0 h1]; unfold gr; rw [List.getD_eq_getElem?_getD,List.getElem?_eq_getElem (by omega)]; rfl
theorem ib {l:List Int} {j:Int} (h0:0≤j) (h1:j < l.length):gi l j∈l:=by
 unfold gi; rw [List.getD_eq_getElem?_getD,List.getElem?_eq_getElem (by omega)]; exact List.getElem_mem _
theorem ic {l:List (List Int)} {j:Int} (h0:0≤j) (h1:j < l.length):gr l j∈l:=by
 unfold gr; rw [List.getD_eq_getElem?_getD,List.getElem?_eq_getElem (by omega)]; exact List.getElem_mem _
def ns (n:Nat):List Int:=(List.range n).map Int.ofNat
theorem jc {n i:Nat} {x:Int} (h:(ns n)[i]? = some x):x=(i:Int)∧i < n:=by
 unfold ns at h
 rw [List.getElem?_map] at h
 cases hr:(List.range n)[i]? with
 | none=>rw [hr] at h; cases h
 | some y=>
  rw [hr] at h
  obtain ⟨rfl,hi⟩:=Mz hr
  exact ⟨(Option.some.inj h).symm,hi⟩
theorem bR (n:Nat):(ns n).length=n:=by simp [ns]
theorem dy {n:Nat} {x:Int}:x∈ns n↔0≤x∧x < n:=by
 unfold ns
 simp only [List.mem_map,List.mem_range]
 constructor
 ·rintro ⟨a,h1,rfl⟩; simp; omega
 ·rintro ⟨h1,h2⟩; exact ⟨x.toNat,by omega,by simp; omega⟩
end Go.Li
namespace Go.Proofs.YtbhhmalgcnhniaaGreat
open Go Go.Li
set_option linter.unusedVariables false
set_option linter.unusedSectionVars false
set_option linter.unusedSimpArgs false
def lj (n:Int) (f:List Int):Bool:=f.all fun y=>decide (0≤y) && decide (y < n)
theorem ni {n:Int} {f:List Int}:lj n f=true↔∀ y∈f,0≤y∧y < n:=by simp [lj]
theorem qm {α:Type} (l:List α) (p:α→Bool):l.any (fun x=>!p x) = !l.all p:=by
 induction l with
 | nil=>rfl
 | cons a l ih=>simp only [List.any_cons,List.all_cons,ih,Bool.not_and]
theorem xW (n:Int) (f:List Int) (hf:f.length≤1048576000):gF n f=some (lj n f):=by
 unfold gF
 refine (congrArg aq (mf f (fun y=>!(decide (0≤y) && decide (y < n))) (fun i=>(i:Int)) rfl ?_ ?_ (e:=(f.length:Int)) (y:=false) ?_)).trans ?_
 ·intro i x hx hp
  have hi:=db hx
  unfold lB
  simp only [Bool.not_eq_false',Bool.and_eq_true,decide_eq_true_eq] at hp
  rw [bm (by omega),cond_true,fj,hx,aE,br (by omega),cond_false,aE,br (by omega),aE,cond_false,bI (by omega)]
 ·intro i x hx hp
  have hi:=db hx
  unfold lB
  rw [bm (by omega),cond_true,fj,hx,aE,aE]
  by_cases h:x < 0
  ·rw [bm h,cond_true,aE,cond_true]
  ·have:n≤x:=by simp at hp; omega
   rw [br h,cond_false,bm (by omega),aE,cond_true]
 ·unfold lB
  rw [br (by omega),cond_false]
 ·rw [qm]
  show aq (if (!lj n f)=true then _ else _)=_
  cases lj n f <;> rfl
theorem A8 (n a b:Int):dV n a b=some (decide (a≤n) && decide (n≤b)):=by
 unfold dV
 by_cases h:a≤n
 ·rw [bm (show n ≥ a from h),cond_true]; rfl
 ·rw [br (show ¬ n ≥ a from h),cond_false]; rfl
theorem Vu (n a b:Int):nZ n a b=some (decide (a≤n) && decide (n≤b)):=by
 unfold nZ
 by_cases h:a≤n
 ·rw [bm (show n ≥ a from h),cond_true]; rfl
 ·rw [br (show ¬ n ≥ a from h),cond_false]; rfl
theorem within (f:List Int) (n:Int) (hf:f.length≤1048576000) (hn:0≤n) (IB:n≤1048576000):eZ f n=some (lj n f):=by
 unfold eZ
 refine (congrArg aq (mf f (fun y=>!(decide (0≤y) && decide (y < n))) (fun i=>(i:Int)) rfl ?_ ?_ (e:=(f.length:Int)) (y:=false) ?_)).trans ?_
 ·intro i x hx hp
  have hi:=db hx
  unfold lC
  simp only [Bool.not_eq_false',Bool.and_eq_true,decide_eq_true_eq] at hp
  rw [bm (by omega),cond_true,fj,hx,aE,bT (by omega) (by omega),A8,aE,bm hp.1,bm (by omega)]
  simp only [Bool.and_self,Bool.not_true,cond_false]
  rw [bI (by omega)]
 ·intro i x hx hp
  have hi:=db hx
  unfold lC
  rw [bm (by omega),cond_true,fj,hx,aE,bT (by omega) (by omega),A8,aE]
  have:(decide (0≤x) && decide (x≤n - 1))=false:=by
   by_cases h:x < 0
   ·rw [br (by omega)]; rfl
   ·have:n≤x:=by simp at hp; omega
    rw [br (show ¬ x≤n - 1 by omega),Bool.and_false]
  rw [this]; rfl
 ·unfold lC
  rw [br (by omega),cond_false]
 ·rw [qm]
  show aq (if (!lj n f)=true then _ else _)=_
  cases lj n f <;> rfl
def uw (c:aC):Bool:=((decide (0≤c.aD) && decide (c.aD≤8)) && (decide (c.aA.length≤40) && lj c.aD c.aA)) && (((c.To.length == c.aA.length) && lj c.aD c.To) && ((c.aB.length == c.aA.length) && (((c.aF.length:Int) == c.aD) && lj c.aA.length c.aF)))
def xX (c:aC) (x:Int):Bool:=gi c.aA (gi c.aF x) == x && gi c.To (gi c.aF x) == x
def tC (c:aC) (f g:Int):Bool:=
 if gi c.To f=gi c.aA g then (decide (0≤gk c.aB f g) && decide (gk c.aB f g < c.aA.length)) && (gi c.aA (gk c.aB f g) == gi c.aA f && gi c.To (gk c.aB f g) == gi c.To g)
 else gk c.aB f g == -1
def wC (c:aC) (f:Int):Bool:=((gr c.aB f).length == c.aA.length) && (ns c.aA.length).all fun g=>tC c f g
def pV (c:aC):Bool:=uw c && ((ns c.aF.length).all (xX c) && (ns c.aA.length).all (wC c))
structure Head (c:aC):Prop where
 o0:0≤c.aD
 o8:c.aD≤8
 m:c.aA.length≤40
 f:∀ x∈c.aA,0≤x∧x < c.aD
 tl:c.To.length=c.aA.length
 t:∀ x∈c.To,0≤x∧x < c.aD
 kl:c.aB.length=c.aA.length
 il:(c.aF.length:Int)=c.aD
 i:∀ x∈c.aF,0≤x∧x < c.aA.length
theorem DU {c:aC} (h:uw c=true):Head c:=by
 unfold uw at h
 simp only [Bool.and_eq_true,decide_eq_true_eq,ni,beq_iff_eq] at h
 obtain ⟨⟨⟨h1,h2⟩,h3,h4⟩,⟨h5,h6⟩,h7,h8,h9⟩:=h
 exact ⟨h1,h2,h3,h4,h5,h6,h7,h8,h9⟩
namespace Head
variable {c:aC} (h:Head c)
include h
theorem fr {f:Int} (h0:0≤f) (h1:f < c.aA.length):0≤gi c.aA f∧gi c.aA f < c.aD:=h.f _ (ib h0 h1)
theorem to {f:Int} (h0:0≤f) (h1:f < c.aA.length):0≤gi c.To f∧gi c.To f < c.aD:=h.t _ (ib h0 (by rw [h.tl]; exact h1))
theorem id {x:Int} (h0:0≤x) (h1:x < c.aD):0≤gi c.aF x∧gi c.aF x < c.aA.length:=h.i _ (ib h0 (by rw [h.il]; exact h1))
theorem iH {f:Int} (h0:0≤f) (h1:f < c.aA.length):idx c.aA f=some (gi c.aA f):=aZ h0 h1
theorem jd {f:Int} (h0:0≤f) (h1:f < c.aA.length):idx c.To f=some (gi c.To f):=aZ h0 (by rw [h.tl]; exact h1)
theorem p4 {x:Int} (h0:0≤x) (h1:x < c.aD):idx c.aF x=some (gi c.aF x):=aZ h0 (by rw [h.il]; exact h1)
theorem nm {f:Int} (h0:0≤f) (h1:f < c.aA.length):idx c.aB f=some (gr c.aB f):=jf h0 (by rw [h.kl]; exact h1)
end Head
theorem MA {c:aC} (hs:fk c):mX c=some (pV c):=by
 obtain ⟨z1,z2,z3,z4,z5⟩:=hs
 have ends:∀ (l:List Int) (n:Nat) (o:Int),l.length≤1048576→kP l (n:Int) o=some ((l.length == n) && lj o l):=by
  intro l n o hl
  unfold kP
  by_cases e:l.length=n
  ·rw [show ((l.length:Int) == (n:Int))=true by simp [e],cond_true,xW _ _ (by omega),show (l.length == n)=true by simp [e]]; rfl
  ·rw [show ((l.length:Int) == (n:Int))=false by simp; omega,cond_false,show (l.length == n)=false by simp [e]]; rfl
 unfold mX
 rw [Vu,aE,ends _ _ _ z1,ends _ _ _ z2]
 have e1:((c.aB.length:Int) != (c.aA.length:Int)) = !(c.aB.length == c.aA.length):=by
  by_cases e:c.aB.length=c.aA.length
  ·simp [e]
  ·rw [show (c.aB.length == c.aA.length)=false by simp [e]]; simp; omega
 have e2:decide ((c.aA.length:Int) > 40) = !decide (c.aA.length≤40):=by
  by_cases e:c.aA.length≤40
  ·rw [bm e,br (by omega)]; rfl
  ·rw [br e,bm (by omega)]; rfl
 rw [e1,e2,xW _ _ (by omega)]
 cases hh:uw c with
 | false=>
  have:pV c=false:=by unfold pV; rw [hh]; rfl
  rw [this]
  unfold uw at hh
  generalize (decide (0≤c.aD) && decide (c.aD≤8))=a1 at *
  generalize decide (c.aA.length≤40)=a2 at *
  generalize lj c.aD c.aA=a3 at *
  generalize (c.To.length == c.aA.length)=a4 at *
  generalize lj c.aD c.To=a5 at *
  generalize (c.aB.length == c.aA.length)=a6 at *
  have e3:((c.aF.length:Int) != c.aD) = !((c.aF.length:Int) == c.aD):=rfl
  rw [e3]
  generalize ((c.aF.length:Int) == c.aD)=a7 at *
  generalize lj (c.aA.length:Int) c.aF=a8 at *
  simp only [beq_self_eq_true,Bool.true_and]
  cases a1 <;> first | rfl | (cases a2 <;> first | rfl | (cases a3 <;> first | rfl | (cases a4 <;> first | rfl | (cases a5 <;> first | rfl | (cases a6 <;> first | rfl | (cases a7 <;> first | rfl | (cases a8 <;> first | rfl | (cases hh))))))))
 | true=>
  have H:=DU hh
  have G4:=hh
  unfold uw at G4
  simp only [Bool.and_eq_true] at G4
  obtain ⟨⟨⟨b1,r5⟩,b2,b3⟩,⟨b4,b5⟩,b6,b7,b8⟩:=G4
  rw [b1,r5,b2,b3,b4,b5,b6,b8,show ((c.aF.length:Int) != c.aD) = !((c.aF.length:Int) == c.aD) from rfl,b7]
  simp only [beq_self_eq_true,Bool.and_self,Bool.not_true,cond_false,aE]
  have hm:=H.m
  have qY:=H.il
  refine (congrArg aq (mf (ns c.aF.length) (fun x=>!xX c x) (fun i=>(i:Int)) rfl ?_ ?_ (e:=(c.aF.length:Int)) (y:=false) ?_)).trans ?_
  ·intro i x hx hp
   obtain ⟨rfl,hi⟩:=jc hx
   have:=H.id (x:=(i:Int)) (by omega) (by omega)
   unfold kH
   unfold xX at hp
   simp only [Bool.not_eq_false',Bool.and_eq_true,beq_iff_eq] at hp
   rw [bm (by omega),cond_true,H.p4 (by omega) (by omega),aE,H.iH this.1 this.2,aE,hp.1,bne_self_eq_false,cond_false,aE,H.jd this.1 this.2,aE,hp.2,bne_self_eq_false,aE,cond_false,bI (by omega)]
  ·intro i x hx hp
   obtain ⟨rfl,hi⟩:=jc hx
   have:=H.id (x:=(i:Int)) (by omega) (by omega)
   unfold kH
   unfold xX at hp
   rw [bm (by omega),cond_true,H.p4 (by omega) (by omega),aE,H.iH this.1 this.2,aE]
   by_cases e:gi c.aA (gi c.aF i)=i
   ·rw [e,bne_self_eq_false,cond_false,aE,H.jd this.1 this.2,aE]
    have:(gi c.To (gi c.aF i) != (i:Int))=true:=by
     rw [e] at hp; simpa using hp
    rw [this]; rfl
   ·rw [show (gi c.aA (gi c.aF i) != (i:Int))=true by simp [e]]; rfl
  ·unfold kH
   rw [bR,br (by omega),cond_false]
  rw [qm]
  unfold pV
  rw [hh]
  cases tL:(ns c.aF.length).all (xX c) with
  | false=>rfl
  | true=>
   simp only [Bool.not_true,Bool.false_eq_true,if_false,Bool.true_and]
   refine (congrArg aq (mf (ns c.aA.length) (fun f=>!wC c f) (fun i=>(i:Int)) rfl ?_ ?_ (e:=(c.aA.length:Int)) (y:=false) ?_)).trans ?_
   rotate_left 2
   ·unfold mW
    rw [bR,br (by omega),cond_false]
   ·rw [qm]
    cases (ns c.aA.length).all (wC c) <;> rfl
   all_goals
    intro i x hx hp
    obtain ⟨rfl,hi⟩:=jc hx
    have hK:=H.nm (f:=(i:Int)) (by omega) (by omega)
    have inner:(gr c.aB i).length=c.aA.length→ae (S:=Int) (ab 4 (aj (kI c i) (0:Int))) (fun rE=>(some (Out.norm (ak ((i:Int)+(1:Int)))))) =
      if (ns c.aA.length).any (fun g=>!tC c i g) then some (.ret false) else some (Out.norm (ak ((i:Int)+(1:Int)))):=by
     intro hr
     refine mf (ns c.aA.length) (fun g=>!tC c i g) (fun j=>(j:Int)) rfl ?_ ?_ (e:=(c.aA.length:Int)) (y:=false) ?_
     rotate_left 2
     ·unfold kI
      rw [bR,br (by omega),cond_false]
     all_goals
      intro j y hy hq
      obtain ⟨rfl,hj⟩:=jc hy
      unfold kI
      rw [bm (by omega),cond_true,hK,aE,aZ (by omega) (by omega),aE,H.jd (by omega) (by omega),aE,H.iH (by omega) (by omega),aE]
      unfold tC gk at hq
      by_cases e:gi c.To i=gi c.aA j
      ·rw [if_pos e] at hq
       rw [show (gi c.To (i:Int) != gi c.aA (j:Int))=false by simp [e],cond_false]
       by_cases l0:gi (gr c.aB i) j < 0
       ·rw [br (show ¬ 0≤gi (gr c.aB i) j by omega)] at hq
        rw [bm l0,cond_true,aE,cond_true]
        all_goals (first | rfl | simp at hq)
       ·rw [bm (show 0≤gi (gr c.aB i) j by omega)] at hq
        rw [br l0,cond_false]
        by_cases l1:gi (gr c.aB i) j < c.aA.length
        ·rw [bm l1] at hq
         rw [br (show ¬ gi (gr c.aB i) j ≥ c.aA.length by omega),cond_false,H.iH (by omega) l1,aE,H.iH (by omega) (by omega),aE]
         by_cases q1:gi c.aA (gi (gr c.aB i) j)=gi c.aA i
         ·rw [show (gi c.aA (gi (gr c.aB (i:Int)) (j:Int)) == gi c.aA (i:Int))=true by simp [q1]] at hq
          rw [show (gi c.aA (gi (gr c.aB (i:Int)) (j:Int)) != gi c.aA (i:Int))=false by simp [q1],cond_false,H.jd (by omega) l1,aE,H.jd (by omega) (by omega),aE,aE]
          simp only [Bool.and_self,Bool.true_and] at hq
          rw [show (gi c.To (gi (gr c.aB (i:Int)) (j:Int)) != gi c.To (j:Int)) = !(gi c.To (gi (gr c.aB (i:Int)) (j:Int)) == gi c.To (j:Int)) from rfl,hq]
          all_goals (first | rfl | rw [cond_false,bI (by omega)])
         ·rw [show (gi c.aA (gi (gr c.aB (i:Int)) (j:Int)) == gi c.aA (i:Int))=false by simp [q1]] at hq
          rw [show (gi c.aA (gi (gr c.aB (i:Int)) (j:Int)) != gi c.aA (i:Int))=true by simp [q1],cond_true]
          all_goals (first | rfl | simp at hq)
        ·rw [br l1] at hq
         rw [bm (show gi (gr c.aB i) j ≥ c.aA.length by omega),cond_true]
         all_goals (first | rfl | simp at hq)
      ·rw [if_neg e] at hq
       rw [show (gi c.To (i:Int) != gi c.aA (j:Int))=true by simp [e],cond_true,show (gi (gr c.aB (i:Int)) (j:Int) != -1) = !(gi (gr c.aB (i:Int)) (j:Int) == -1) from rfl,hq]
       all_goals (first | rfl | rw [cond_false,bI (by omega)])
    unfold mW
    rw [bm (by omega),cond_true,hK,aE]
    unfold wC at hp
    by_cases hr:(gr c.aB i).length=c.aA.length
    ·rw [show (((gr c.aB (i:Int)).length:Int) != (c.aA.length:Int))=false by simp [hr],cond_false,inner hr,qm]
     rw [show ((gr c.aB (i:Int)).length == c.aA.length)=true by simp [hr],Bool.true_and] at hp
     rw [hp,bI (by omega)]
     rfl
    ·rw [show (((gr c.aB (i:Int)).length:Int) != (c.aA.length:Int))=true by (simp; omega),cond_true]
     all_goals (rw [show ((gr c.aB (i:Int)).length == c.aA.length)=false by simp [hr],Bool.false_and] at hp; first | rfl | simp at hp)
end Go.Proofs.YtbhhmalgcnhniaaGreat
namespace Go.Proofs.YtbhhmalgcnhniaaGreat
open Go Go.Li
set_option linter.unusedVariables false
set_option linter.unusedSectionVars false
set_option linter.unusedSimpArgs false
theorem Au {c:aC} (H:Head c) {f:Int} (h0:0≤f) (h1:f < c.aA.length):bU c f=some (pJ.mk (gi c.aA f) (gi c.To f)):=by
 unfold bU
 rw [H.iH h0 h1,aE,H.jd h0 h1,aE]; rfl
theorem MB {c:aC} (hs:fk c):fL c=some (pV c):=by
 obtain ⟨z1,z2,z3,z4,z5⟩:=hs
 unfold fL bS
 rw [show aq (S:=Unit) (some (Out.ret (c.aA.length:Int)))=some (c.aA.length:Int) from rfl,aE,A8,aE]
 have e1:((c.aB.length:Int) != (c.aA.length:Int)) = !(c.aB.length == c.aA.length):=by
  by_cases e:c.aB.length=c.aA.length
  ·simp [e]
  ·rw [show (c.aB.length == c.aA.length)=false by simp [e]]; simp; omega
 have e1':((c.To.length:Int) != (c.aA.length:Int)) = !(c.To.length == c.aA.length):=by
  by_cases e:c.To.length=c.aA.length
  ·simp [e]
  ·rw [show (c.To.length == c.aA.length)=false by simp [e]]; simp; omega
 have e2:decide ((c.aA.length:Int) > 40) = !decide (c.aA.length≤40):=by
  by_cases e:c.aA.length≤40
  ·rw [bm e,br (by omega)]; rfl
  ·rw [br e,bm (by omega)]; rfl
 have e3:((c.aF.length:Int) != c.aD) = !((c.aF.length:Int) == c.aD):=rfl
 rw [e1,e1',e2,e3,within c.aF _ (by omega) (by omega) (by omega)]
 cases hh:uw c with
 | false=>
  have:pV c=false:=by unfold pV; rw [hh]; rfl
  rw [this]
  unfold uw at hh
  cases ha:(decide (0≤c.aD) && decide (c.aD≤8)) with
  | false=>rfl
  | true=>
   rw [ha] at hh
   simp only [Bool.and_eq_true,decide_eq_true_eq] at ha
   rw [within c.aA _ (by omega) ha.1 (by omega),within c.To _ (by omega) ha.1 (by omega)]
   generalize decide (c.aA.length≤40)=a2 at *
   generalize lj c.aD c.aA=a3 at *
   generalize (c.To.length == c.aA.length)=a4 at *
   generalize lj c.aD c.To=a5 at *
   generalize (c.aB.length == c.aA.length)=a6 at *
   generalize ((c.aF.length:Int) == c.aD)=a7 at *
   generalize lj (c.aA.length:Int) c.aF=a8 at *
   cases a2 <;> first | rfl | (cases a4 <;> first | rfl | (cases a3 <;> first | rfl | (cases a5 <;> first | rfl | (cases a7 <;> first | rfl | (cases a8 <;> first | rfl | (cases a6 <;> first | rfl | (cases hh)))))))
 | true=>
  have H:=DU hh
  have G4:=hh
  unfold uw at G4
  simp only [Bool.and_eq_true] at G4
  obtain ⟨⟨⟨b1,r5⟩,b2,b3⟩,⟨b4,b5⟩,b6,b7,b8⟩:=G4
  rw [within c.aA _ (by omega) H.o0 (by have:=H.o8; omega),within c.To _ (by omega) H.o0 (by have:=H.o8; omega)]
  rw [b1,r5,b2,b3,b4,b5,b6,b8,b7]
  simp only [Bool.and_self,Bool.not_true,cond_false,aE]
  have hm:=H.m
  have qY:=H.il
  have CB:=H.kl
  refine (congrArg aq (mf (ns c.aF.length) (fun x=>!xX c x) (fun i=>(i:Int)) rfl ?_ ?_ (e:=(c.aF.length:Int)) (y:=false) ?_)).trans ?_
  ·intro i x hx hp
   obtain ⟨rfl,hi⟩:=jc hx
   have:=H.id (x:=(i:Int)) (by omega) (by omega)
   unfold dW
   unfold xX at hp
   simp only [Bool.not_eq_false'] at hp
   rw [bm (by omega),cond_true,H.p4 (by omega) (by omega),aE,Au H this.1 this.2,aE]
   dsimp only
   rw [hp,Bool.not_true,cond_false,bI (by omega)]
  ·intro i x hx hp
   obtain ⟨rfl,hi⟩:=jc hx
   have:=H.id (x:=(i:Int)) (by omega) (by omega)
   unfold dW
   unfold xX at hp
   rw [bm (by omega),cond_true,H.p4 (by omega) (by omega),aE,Au H this.1 this.2,aE]
   dsimp only
   rw [hp,cond_true]
  ·unfold dW
   rw [bR,br (by omega),cond_false]
  rw [qm]
  unfold pV
  rw [hh]
  cases tL:(ns c.aF.length).all (xX c) with
  | false=>rfl
  | true=>
   simp only [Bool.not_true,Bool.false_eq_true,if_false,Bool.true_and]
   refine (congrArg aq (mf (ns c.aA.length) (fun f=>!wC c f) (fun i=>(i:Int)) rfl ?_ ?_ (e:=(c.aA.length:Int)) (y:=false) ?_)).trans ?_
   rotate_left 2
   ·unfold gT
    rw [bR,br (by omega),cond_false]
   ·rw [qm]
    cases (ns c.aA.length).all (wC c) <;> rfl
   all_goals
    intro i x hx hp
    obtain ⟨rfl,hi⟩:=jc hx
    have hK:=H.nm (f:=(i:Int)) (by omega) (by omega)
    have inner:(gr c.aB i).length=c.aA.length→ae (S:=Int) (ab 4 (aj (dX c (c.aA.length:Int) i (gr c.aB i)) (0:Int))) (fun rE=>(some (Out.norm (ak ((i:Int)+(1:Int)))))) =
      if (ns c.aA.length).any (fun g=>!tC c i g) then some (.ret false) else some (Out.norm (ak ((i:Int)+(1:Int)))):=by
     intro hr
     refine mf (ns c.aA.length) (fun g=>!tC c i g) (fun j=>(j:Int)) rfl ?_ ?_ (e:=(c.aA.length:Int)) (y:=false) ?_
     rotate_left 2
     ·unfold dX
      rw [bR,br (by omega),cond_false]
     all_goals
      intro j y hy hq
      obtain ⟨rfl,hj⟩:=jc hy
      unfold dX
      rw [bm (by omega),cond_true,aZ (by omega) (by omega),aE,H.jd (by omega) (by omega),aE,H.iH (by omega) (by omega),aE,bT (a:=(c.aA.length:Int) - 1) (by omega) (by omega),A8,aE]
      unfold tC gk at hq
      by_cases e:gi c.To i=gi c.aA j
      ·rw [if_pos e] at hq
       rw [show (gi c.To (i:Int) != gi c.aA (j:Int))=false by simp [e],cond_false]
       by_cases l0:0≤gi (gr c.aB i) j∧gi (gr c.aB i) j < c.aA.length
       ·rw [bm l0.1,bm l0.2] at hq
        rw [bm l0.1,bm (show gi (gr c.aB i) j≤(c.aA.length:Int) - 1 by omega)]
        simp only [Bool.and_self,Bool.not_true,cond_false,Bool.true_and] at hq ⊢
        rw [Au H l0.1 l0.2,aE,H.iH (by omega) (by omega),aE,H.jd (by omega) (by omega),aE,aE]
        dsimp only
        rw [hq]
        all_goals (first | rfl | rw [cond_false,bI (by omega)])
       ·have l1:(decide (0≤gi (gr c.aB i) j) && decide (gi (gr c.aB i) j < c.aA.length))=false:=by
         rcases Classical.not_and_iff_not_or_not.1 l0 with h | h
         ·rw [br h]; rfl
         ·rw [br h,Bool.and_false]
        have l2:(decide (0≤gi (gr c.aB i) j) && decide (gi (gr c.aB i) j≤(c.aA.length:Int) - 1))=false:=by
         rcases Classical.not_and_iff_not_or_not.1 l0 with h | h
         ·rw [br h]; rfl
         ·rw [br (show ¬ gi (gr c.aB i) j≤(c.aA.length:Int) - 1 by omega),Bool.and_false]
        rw [l1] at hq
        rw [l2]
        all_goals (first | rfl | simp at hq)
      ·rw [if_neg e] at hq
       rw [show (gi c.To (i:Int) != gi c.aA (j:Int))=true by simp [e],cond_true,show (gi (gr c.aB (i:Int)) (j:Int) != -1) = !(gi (gr c.aB (i:Int)) (j:Int) == -1) from rfl,hq]
       all_goals (first | rfl | rw [cond_false,bI (by omega)])
    unfold gT
    rw [bm (by omega),cond_true,hK,aE]
    unfold wC at hp
    by_cases hr:(gr c.aB i).length=c.aA.length
    ·rw [show (((gr c.aB (i:Int)).length:Int) != (c.aA.length:Int))=false by simp [hr],cond_false,inner hr,qm]
     rw [show ((gr c.aB (i:Int)).length == c.aA.length)=true by simp [hr],Bool.true_and] at hp
     rw [hp,bI (by omega)]
     rfl
    ·rw [show (((gr c.aB (i:Int)).length:Int) != (c.aA.length:Int))=true by (simp; omega),cond_true]
     all_goals (rw [show ((gr c.aB (i:Int)).length == c.aA.length)=false by simp [hr],Bool.false_and] at hp; first | rfl | simp at hp)
end Go.Proofs.YtbhhmalgcnhniaaGreat
namespace Go.Proofs.YtbhhmalgcnhniaaGreat
open Go Go.Li
set_option linter.unusedVariables false
set_option linter.unusedSectionVars false
set_option linter.unusedSimpArgs false
structure oM (c:aC):Prop extends Head c where
 tM:∀ x:Int,0≤x→x < c.aD→gi c.aA (gi c.aF x)=x
 rH:∀ x:Int,0≤x→x < c.aD→gi c.To (gi c.aF x)=x
 row:∀ f:Int,0≤f→f < c.aA.length→(gr c.aB f).length=c.aA.length
 cell:∀ f g:Int,0≤f→f < c.aA.length→0≤g→g < c.aA.length→gi c.To f=gi c.aA g→
  0≤gk c.aB f g∧gk c.aB f g < c.aA.length∧gi c.aA (gk c.aB f g)=gi c.aA f∧gi c.To (gk c.aB f g)=gi c.To g
 none:∀ f g:Int,0≤f→f < c.aA.length→0≤g→g < c.aA.length→gi c.To f≠gi c.aA g→gk c.aB f g = -1
theorem Ce {c:aC} (h:pV c=true):oM c:=by
 unfold pV at h
 simp only [Bool.and_eq_true,List.all_eq_true] at h
 obtain ⟨h1,h2,h3⟩:=h
 have H:=DU h1
 have qY:=H.il
 have tL:∀ x,0≤x→x < c.aD→xX c x=true:=fun x a b=>h2 x (dy.2 ⟨a,by omega⟩)
 have bc:∀ f,0≤f→f < (c.aA.length:Int)→wC c f=true:=fun f a b=>h3 f (dy.2 ⟨a,b⟩)
 have j8:∀ f g,0≤f→f < (c.aA.length:Int)→0≤g→g < (c.aA.length:Int)→tC c f g=true:=fun f g a b a' b'=>by
  have:=bc f a b
  unfold wC at this
  simp only [Bool.and_eq_true,List.all_eq_true] at this
  exact this.2 g (dy.2 ⟨a',b'⟩)
 refine { H with
  tM:=fun x a b=>?_
  rH:=fun x a b=>?_
  row:=fun f a b=>?_
  cell:=fun f g a b a' b' e=>?_
  none:=fun f g a b a' b' e=>?_ }
 ·have:=tL x a b; unfold xX at this; simp at this; exact this.1
 ·have:=tL x a b; unfold xX at this; simp at this; exact this.2
 ·have:=bc f a b; unfold wC at this; simp only [Bool.and_eq_true,beq_iff_eq] at this; exact this.1
 ·have:=j8 f g a b a' b'; unfold tC at this; rw [if_pos e] at this; simp only [Bool.and_eq_true,decide_eq_true_eq,beq_iff_eq] at this; exact ⟨this.1.1,this.1.2,this.2.1,this.2.2⟩
 ·have:=j8 f g a b a' b'; unfold tC at this; rw [if_neg e] at this; simpa using this
namespace oM
variable {c:aC} (h:oM c)
include h
theorem mg {f g:Int} (h0:0≤f) (h1:f < c.aA.length) (h2:0≤g) (h3:g < c.aA.length):idx (gr c.aB f) g=some (gk c.aB f g):=aZ h2 (by rw [h.row f h0 h1]; exact h3)
theorem n4 {f g:Int} (h0:0≤f) (h1:f < c.aA.length) (h2:0≤g) (h3:g < c.aA.length):bN c f g=some (gk c.aB f g):=by
 unfold bN; rw [h.nm h0 h1,aE,h.mg h0 h1 h2 h3,aE]; rfl
theorem thenS {f g:Int} (h0:0≤f) (h1:f < c.aA.length) (h2:0≤g) (h3:g < c.aA.length):gV c f g=some (gk c.aB f g):=by
 unfold gV; rw [h.nm h0 h1,aE,h.mg h0 h1 h2 h3,aE]; rfl
end oM
def tD (c:aC) (f:Int):Bool:=gk c.aB (gi c.aF (gi c.aA f)) f == f && gk c.aB f (gi c.aF (gi c.To f)) == f
def vc (c:aC) (f g h:Int):Bool:=gi c.To g == gi c.aA h && gk c.aB (gk c.aB f g) h != gk c.aB f (gk c.aB g h)
def Aw (c:aC) (f g:Int):Bool:=gi c.To f == gi c.aA g && (ns c.aA.length).any (vc c f g)
def DV (c:aC) (f:Int):Bool:=(ns c.aA.length).any (Aw c f)
def yY (c:aC):Bool:=(ns c.aA.length).all (tD c) && !((ns c.aA.length).any (DV c))
theorem IN {c:aC} {k1 k2 k4 k6:Nat} {L0:Int→Option (Out Int (Int×Int×Int×Int))} {L1:Int→Option (Out Int (Int×Int×Int×Int))} {L2:Int→Int→Option (Out Int (Int×Int×Int×Int))} {L3:Int→Int→Int→Option (Out Int (Int×Int×Int×Int))} {z:Int×Int×Int×Int} (hz:z.1=0)
  (a0:∀ i:Nat,i < c.aA.length→tD c i=true→L0 i=some (.norm ((i+1:Nat):Int)))
  (a1:∀ i:Nat,i < c.aA.length→tD c i=false→∃ y,L0 i=some (.ret y)∧y.1≠0)
  (a2:L0 c.aA.length=some (.exit k1 c.aA.length))
  (b0:∀ i:Nat,i < c.aA.length→L1 i=ae (ab k4 (aj (L2 i) 0)) fun _=>some (.norm ((i+1:Nat):Int)))
  (b2:L1 c.aA.length=some (.exit k2 c.aA.length))
  (d0:∀ i j:Nat,i < c.aA.length→j < c.aA.length→gi c.To i≠gi c.aA j→L2 i j=some (.norm ((j+1:Nat):Int)))
  (d1:∀ i j:Nat,i < c.aA.length→j < c.aA.length→gi c.To i=gi c.aA j→L2 i j=ae (ab k6 (aj (L3 i j) 0)) fun _=>some (.norm ((j+1:Nat):Int)))
  (d2:∀ i:Nat,L2 i c.aA.length=some (.exit k4 c.aA.length))
  (e0:∀ i j h:Nat,i < c.aA.length→j < c.aA.length→h < c.aA.length→gi c.To i=gi c.aA j→vc c i j h=false→L3 i j h=some (.norm ((h+1:Nat):Int)))
  (e1:∀ i j h:Nat,i < c.aA.length→j < c.aA.length→h < c.aA.length→gi c.To i=gi c.aA j→vc c i j h=true→∃ y,L3 i j h=some (.ret y)∧y.1≠0)
  (e2:∀ i j:Nat,L3 i j c.aA.length=some (.exit k6 c.aA.length)) :
  ∃ y,aq (S:=Unit) (ae (ab k1 (aj L0 0)) fun _=>ae (ab k2 (aj L1 0)) fun _=>some (.ret z))=some y∧(y.1 == 0)=yY c:=by
 have Yz:∀ i j:Nat,i < c.aA.length→j < c.aA.length→gi c.To i=gi c.aA j→
   ((ns c.aA.length).any (vc c i j)=true∧∃ y,ae (S:=Int) (ab k6 (aj (L3 i j) 0)) (fun _=>some (.norm ((j+1:Nat):Int)))=some (.ret y)∧y.1≠0)∨
   ((ns c.aA.length).any (vc c i j)=false∧ae (S:=Int) (ab k6 (aj (L3 i j) 0)) (fun _=>some (.norm ((j+1:Nat):Int)))=some (.norm ((j+1:Nat):Int))):=by
  intro i j hi hj he
  refine yX (ns c.aA.length) (vc c i j) (fun y:Int×Int×Int×Int=>y.1≠0) (fun h=>(h:Int)) rfl ?_ ?_ (e:=(c.aA.length:Int)) (by rw [bR]; exact e2 i j)
  ·intro h x hx hp; obtain ⟨rfl,hh⟩:=jc hx; exact e0 i j h hi hj hh he hp
  ·intro h x hx hp; obtain ⟨rfl,hh⟩:=jc hx; exact e1 i j h hi hj hh he hp
 have YA:∀ i:Nat,i < c.aA.length→
   ((ns c.aA.length).any (Aw c i)=true∧∃ y,ae (S:=Int) (ab k4 (aj (L2 i) 0)) (fun _=>some (.norm ((i+1:Nat):Int)))=some (.ret y)∧y.1≠0)∨
   ((ns c.aA.length).any (Aw c i)=false∧ae (S:=Int) (ab k4 (aj (L2 i) 0)) (fun _=>some (.norm ((i+1:Nat):Int)))=some (.norm ((i+1:Nat):Int))):=by
  intro i hi
  refine yX (ns c.aA.length) (Aw c i) (fun y:Int×Int×Int×Int=>y.1≠0) (fun h=>(h:Int)) rfl ?_ ?_ (e:=(c.aA.length:Int)) (by rw [bR]; exact d2 i)
  ·intro j x hx hp
   obtain ⟨rfl,hj⟩:=jc hx
   by_cases he:gi c.To i=gi c.aA j
   ·rw [d1 i j hi hj he]
    rcases Yz i j hi hj he with ⟨h1,_⟩ | ⟨_,h2⟩
    ·unfold Aw at hp; rw [h1] at hp; simp [he] at hp
    ·exact h2
   ·exact d0 i j hi hj he
  ·intro j x hx hp
   obtain ⟨rfl,hj⟩:=jc hx
   unfold Aw at hp
   simp only [Bool.and_eq_true,beq_iff_eq] at hp
   rw [d1 i j hi hj hp.1]
   rcases Yz i j hi hj hp.1 with ⟨_,h⟩ | ⟨h1,_⟩
   ·exact h
   ·rw [hp.2] at h1; cases h1
 rcases yX (s0:=(0:Int)) (S:=Unit) (R:=Int×Int×Int×Int) (k:=k1) (body:=L0) (f:=fun _=>ae (ab k2 (aj L1 0)) fun _=>some (.ret z)) (ns c.aA.length) (fun i=>!tD c i) (fun y:Int×Int×Int×Int=>y.1≠0) (fun i=>(i:Int)) rfl
   (fun i x hx hp=>by obtain ⟨rfl,hi⟩:=jc hx; exact a0 i hi (by simpa using hp)) (fun i x hx hp=>by obtain ⟨rfl,hi⟩:=jc hx; exact a1 i hi (by simpa using hp)) (e:=(c.aA.length:Int)) (by rw [bR]; exact a2) with ⟨h1,y,h2,h3⟩ | ⟨h1,h2⟩
 ·refine ⟨y,by rw [h2]; rfl,?_⟩
  unfold yY
  rw [qm] at h1
  simp only [Bool.not_eq_true'] at h1
  rw [h1]
  simpa using h3
 ·rw [qm] at h1
  simp only [Bool.not_eq_false'] at h1
  rw [h2]
  rcases yX (s0:=(0:Int)) (S:=Unit) (R:=Int×Int×Int×Int) (k:=k2) (body:=L1) (f:=fun _=>some (.ret z)) (ns c.aA.length) (DV c) (fun y:Int×Int×Int×Int=>y.1≠0) (fun i=>(i:Int)) rfl
   (fun i x hx hp=>by
    obtain ⟨rfl,hi⟩:=jc hx
    rw [b0 i hi]
    rcases YA i hi with ⟨q1,_⟩ | ⟨_,q2⟩
    ·unfold DV at hp; rw [q1] at hp; cases hp
    ·exact q2)
   (fun i x hx hp=>by
    obtain ⟨rfl,hi⟩:=jc hx
    rw [b0 i hi]
    rcases YA i hi with ⟨_,q⟩ | ⟨q1,_⟩
    ·exact q
    ·unfold DV at hp; rw [q1] at hp; cases hp) (e:=(c.aA.length:Int)) (by rw [bR]; exact b2) with ⟨g1,y,g2,g3⟩ | ⟨g1,g2⟩
  ·refine ⟨y,by rw [g2]; rfl,?_⟩
   unfold yY
   rw [h1,g1]
   simpa using g3
  ·refine ⟨z,by rw [g2]; rfl,?_⟩
   unfold yY
   rw [h1,g1,hz]
   rfl
section
variable {c:aC} (H:oM c)
include H
theorem MC:∃ y,lY c=some y∧(y.1 == 0)=yY c:=by
 have hm:=H.m
 have qY:=H.il
 have u0:∀ i:Nat,i < c.aA.length→jF c i=if tD c i then some (Out.norm ((i+1:Nat):Int)) else some (Out.ret ((1:Int),(i:Int),(0:Int),(0:Int))):=by
  intro i hi
  have f1:=H.fr (f:=(i:Int)) (by omega) (by omega)
  have t1:=H.to (f:=(i:Int)) (by omega) (by omega)
  have i1:=H.id f1.1 f1.2
  have i2:=H.id t1.1 t1.2
  unfold jF
  rw [bm (by omega),cond_true,H.iH (by omega) (by omega),aE,H.p4 f1.1 f1.2,aE,H.nm i1.1 i1.2,aE,H.mg i1.1 i1.2 (by omega) (by omega),aE]
  rw [H.nm (by omega) (by omega),aE,H.jd (by omega) (by omega),aE,H.p4 t1.1 t1.2,aE,H.mg (by omega) (by omega) i2.1 i2.2,aE]
  unfold tD
  by_cases e1:gk c.aB (gi c.aF (gi c.aA i)) i=i
  ·by_cases e2:gk c.aB i (gi c.aF (gi c.To i))=i
   ·simp [e1,e2,bI (show i < 9223372036854775807 by omega)]
   ·simp [e1,e2,wz e2]
  ·simp [e1,wz e1]
 unfold lY
 refine IN (c:=c) (z:=(0,0,0,0)) rfl (L2:=gS c) (L3:=gR c) (k4:=4) (k6:=6) ?_ ?_ ?_ ?_ ?_ ?_ ?_ ?_ ?_ ?_ ?_
 ·intro i hi hp; rw [u0 i hi,hp]; rfl
 ·intro i hi hp; rw [u0 i hi,hp]; exact ⟨_,rfl,by simp⟩
 ·unfold jF; rw [br (by omega),cond_false]
 ·intro i hi; unfold mH; rw [bm (by omega),cond_true,bI (by omega)]
 ·unfold mH; rw [br (by omega),cond_false]
 ·intro i j hi hj he
  unfold gS
  rw [bm (by omega),cond_true,H.jd (by omega) (by omega),aE,H.iH (by omega) (by omega),aE,show (gi c.To (i:Int) != gi c.aA (j:Int))=true by simp [he],cond_true,bI (by omega)]
 ·intro i j hi hj he
  unfold gS
  rw [bm (by omega),cond_true,H.jd (by omega) (by omega),aE,H.iH (by omega) (by omega),aE,show (gi c.To (i:Int) != gi c.aA (j:Int))=false by simp [he],cond_false,bI (by omega)]
 ·intro i; unfold gS; rw [br (by omega),cond_false]
 ·intro i j h hi hj hh he hp
  unfold gR
  rw [bm (by omega),cond_true,H.jd (by omega) (by omega),aE,H.iH (by omega) (by omega),aE]
  unfold vc at hp
  by_cases e:gi c.To j=gi c.aA h
  ·have c1:=H.cell i j (by omega) (by omega) (by omega) (by omega) he
   have c2:=H.cell j h (by omega) (by omega) (by omega) (by omega) e
   rw [show (gi c.To (j:Int) == gi c.aA (h:Int))=true by simp [e]] at hp ⊢
   rw [cond_true,H.nm (by omega) (by omega),aE,H.mg (by omega) (by omega) (by omega) (by omega),aE,H.nm c1.1 c1.2.1,aE,H.mg c1.1 c1.2.1 (by omega) (by omega),aE,aE,H.nm (by omega) (by omega),aE,H.mg (by omega) (by omega) (by omega) (by omega),aE,H.mg (by omega) (by omega) c2.1 c2.2.1,aE]
   rw [Bool.true_and] at hp
   rw [hp,aE,cond_false,bI (by omega)]
  ·rw [show (gi c.To (j:Int) == gi c.aA (h:Int))=false by simp [e],cond_false,aE,cond_false,bI (by omega)]
 ·intro i j h hi hj hh he hp
  unfold gR
  rw [bm (by omega),cond_true,H.jd (by omega) (by omega),aE,H.iH (by omega) (by omega),aE]
  unfold vc at hp
  simp only [Bool.and_eq_true] at hp
  have e:gi c.To j=gi c.aA h:=by simpa using hp.1
  have c1:=H.cell i j (by omega) (by omega) (by omega) (by omega) he
  have c2:=H.cell j h (by omega) (by omega) (by omega) (by omega) e
  rw [hp.1,cond_true,H.nm (by omega) (by omega),aE,H.mg (by omega) (by omega) (by omega) (by omega),aE,H.nm c1.1 c1.2.1,aE,H.mg c1.1 c1.2.1 (by omega) (by omega),aE,aE,H.nm (by omega) (by omega),aE,H.mg (by omega) (by omega) (by omega) (by omega),aE,H.mg (by omega) (by omega) c2.1 c2.2.1,aE]
  rw [hp.2,aE,cond_true]
  exact ⟨_,rfl,by simp⟩
 ·intro i j; unfold gR; rw [br (by omega),cond_false]
theorem MD:∃ y,iC c=some y∧(y.1 == 0)=yY c:=by
 have hm:=H.m
 have qY:=H.il
 have u0:∀ i:Nat,i < c.aA.length→fA c c.aA.length i=if tD c i then some (Out.norm ((i+1:Nat):Int)) else some (Out.ret ((1:Int),(i:Int),(0:Int),(0:Int))):=by
  intro i hi
  have f1:=H.fr (f:=(i:Int)) (by omega) (by omega)
  have t1:=H.to (f:=(i:Int)) (by omega) (by omega)
  have i1:=H.id f1.1 f1.2
  have i2:=H.id t1.1 t1.2
  unfold fA
  rw [bm (by omega),cond_true,H.iH (by omega) (by omega),aE,H.p4 f1.1 f1.2,aE,H.n4 i1.1 i1.2 (by omega) (by omega),aE]
  rw [H.jd (by omega) (by omega),aE,H.p4 t1.1 t1.2,aE,H.n4 (by omega) (by omega) i2.1 i2.2,aE]
  unfold tD
  by_cases e1:gk c.aB (gi c.aF (gi c.aA i)) i=i
  ·by_cases e2:gk c.aB i (gi c.aF (gi c.To i))=i
   ·simp [e1,e2,bI (show i < 9223372036854775807 by omega)]
   ·simp [e1,e2,wz e2]
  ·simp [e1,wz e1]
 have pos:∀ i j:Nat,i < c.aA.length→j < c.aA.length→(gi c.To i=gi c.aA j→0≤gk c.aB i j)∧(gi c.To i≠gi c.aA j→gk c.aB i j < 0):=by
  intro i j hi hj
  refine ⟨fun e=>(H.cell i j (by omega) (by omega) (by omega) (by omega) e).1,fun e=>?_⟩
  rw [H.none i j (by omega) (by omega) (by omega) (by omega) e]; decide
 unfold iC bS
 rw [show aq (S:=Unit) (some (Out.ret (c.aA.length:Int)))=some (c.aA.length:Int) from rfl,aE]
 refine IN (c:=c) (z:=(0,0,0,0)) rfl (L2:=dF c c.aA.length) (L3:=dE c c.aA.length) (k4:=4) (k6:=6) ?_ ?_ ?_ ?_ ?_ ?_ ?_ ?_ ?_ ?_ ?_
 ·intro i hi hp; rw [u0 i hi,hp]; rfl
 ·intro i hi hp; rw [u0 i hi,hp]; exact ⟨_,rfl,by simp⟩
 ·unfold fA; rw [br (by omega),cond_false]
 ·intro i hi; unfold iO; rw [bm (by omega),cond_true,bI (by omega)]
 ·unfold iO; rw [br (by omega),cond_false]
 ·intro i j hi hj he
  unfold dF
  rw [bm (by omega),cond_true,H.n4 (by omega) (by omega) (by omega) (by omega),aE,bm ((pos i j hi hj).2 he),cond_true,bI (by omega)]
 ·intro i j hi hj he
  have:=(pos i j hi hj).1 he
  unfold dF
  rw [bm (by omega),cond_true,H.n4 (by omega) (by omega) (by omega) (by omega),aE,br (by omega),cond_false,bI (by omega)]
 ·intro i; unfold dF; rw [br (by omega),cond_false]
 ·intro i j h hi hj hh he hp
  unfold dE
  rw [bm (by omega),cond_true,H.n4 (by omega) (by omega) (by omega) (by omega),aE]
  unfold vc at hp
  by_cases e:gi c.To j=gi c.aA h
  ·have c1:=H.cell i j (by omega) (by omega) (by omega) (by omega) he
   have c2:=H.cell j h (by omega) (by omega) (by omega) (by omega) e
   rw [show (gi c.To (j:Int) == gi c.aA (h:Int))=true by simp [e],Bool.true_and] at hp
   rw [bm (show gk c.aB j h ≥ 0 from c2.1),cond_true,H.n4 (by omega) (by omega) (by omega) (by omega),aE,H.n4 c1.1 c1.2.1 (by omega) (by omega),aE,aE,H.n4 (by omega) (by omega) c2.1 c2.2.1,aE,hp,aE,cond_false,bI (by omega)]
  ·have:=(pos j h hj hh).2 e
   rw [br (show ¬ gk c.aB j h ≥ 0 by omega),cond_false,aE,cond_false,bI (by omega)]
 ·intro i j h hi hj hh he hp
  unfold dE
  unfold vc at hp
  simp only [Bool.and_eq_true] at hp
  have e:gi c.To j=gi c.aA h:=by simpa using hp.1
  have c1:=H.cell i j (by omega) (by omega) (by omega) (by omega) he
  have c2:=H.cell j h (by omega) (by omega) (by omega) (by omega) e
  rw [bm (by omega),cond_true,H.n4 (by omega) (by omega) (by omega) (by omega),aE,bm (show gk c.aB j h ≥ 0 from c2.1),cond_true,H.n4 (by omega) (by omega) (by omega) (by omega),aE,H.n4 c1.1 c1.2.1 (by omega) (by omega),aE,aE,H.n4 (by omega) (by omega) c2.1 c2.2.1,aE,hp.2,aE,cond_true]
  exact ⟨_,rfl,by simp⟩
 ·intro i j; unfold dE; rw [br (by omega),cond_false]
end
structure l3 (c:aC):Prop extends oM c where
 A9:∀ f:Int,0≤f→f < c.aA.length→gk c.aB (gi c.aF (gi c.aA f)) f=f
 yZ:∀ f:Int,0≤f→f < c.aA.length→gk c.aB f (gi c.aF (gi c.To f))=f
 assoc:∀ f g h:Int,0≤f→f < c.aA.length→0≤g→g < c.aA.length→0≤h→h < c.aA.length→gi c.To f=gi c.aA g→gi c.To g=gi c.aA h→
  gk c.aB (gk c.aB f g) h=gk c.aB f (gk c.aB g h)
def lz (c:aC):Bool:=pV c && yY c
theorem rK {c:aC} (h:lz c=true):l3 c:=by
 unfold lz at h
 simp only [Bool.and_eq_true] at h
 obtain ⟨h1,h2⟩:=h
 have H:=Ce h1
 unfold yY at h2
 simp only [Bool.and_eq_true,List.all_eq_true,Bool.not_eq_true',List.any_eq_false] at h2
 obtain ⟨h2,h3⟩:=h2
 refine { H with
  A9:=fun f a b=>?_
  yZ:=fun f a b=>?_
  assoc:=fun f g h a b a' b' a'' b'' e1 e2=>?_ }
 ·have:=h2 f (dy.2 ⟨a,b⟩); unfold tD at this; simp at this; exact this.1
 ·have:=h2 f (dy.2 ⟨a,b⟩); unfold tD at this; simp at this; exact this.2
 ·have:=h3 f (dy.2 ⟨a,b⟩)
  unfold DV at this
  simp only [List.any_eq_true,not_exists,not_and] at this
  have:=this g (dy.2 ⟨a',b'⟩)
  unfold Aw at this
  simp only [Bool.and_eq_true,beq_iff_eq,List.any_eq_true,not_and,not_exists] at this
  have:=this e1 h (dy.2 ⟨a'',b''⟩)
  unfold vc at this
  simpa [e2] using this
theorem xY {c:aC} (hs:fk c):fZ c=some (lz c):=by
 unfold fZ
 rw [MA hs,aE]
 unfold lz
 cases h:pV c with
 | false=>rfl
 | true=>
  obtain ⟨y,h1,h2⟩:=MC (Ce h)
  rw [Bool.not_true,cond_false,h1,aE,h2]; rfl
theorem Ax {c:aC} (hs:fk c):cH c=some (lz c):=by
 unfold cH
 rw [MB hs,aE]
 unfold lz
 cases h:pV c with
 | false=>rfl
 | true=>
  obtain ⟨y,h1,h2⟩:=MD (Ce h)
  rw [Bool.not_true,cond_false,h1,aE,h2]; rfl
end Go.Proofs.YtbhhmalgcnhniaaGreat
