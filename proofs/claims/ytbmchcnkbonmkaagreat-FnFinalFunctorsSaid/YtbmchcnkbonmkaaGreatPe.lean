/- Is a table a category: the reference and the program agree, and what is known of a category. No condition beside those that each theorem names. -/
import Derived.Test.YtbmchcnkbonmkaaGreatPa
namespace Go.Li
open Go
section
variable {S S1 R α:Type} {body:S1→Option (Out S1 R)}
theorem yU {k:Nat} {f:S1→Option (Out S R)} {s0 e:S1} (l:List α) (p:α→Bool) (G:R→Prop) (st:Nat→S1) (h0:st 0=s0) (step:∀ i x,l[i]? = some x→p x=false→body (st i)=some (.norm (st (i+1))))
  (ON:∀ i x,l[i]? = some x→p x=true→∃ y,body (st i)=some (.ret y)∧G y) (last:body (st l.length)=some (.exit k e)) :
  (l.any p=true∧∃ y,ae (ab k (af body s0)) f=some (.ret y)∧G y)∨(l.any p=false∧ae (ab k (af body s0)) f=f e):=by
 have key:∀ (m:List α) (i:Nat),l.drop i=m→i≤l.length→(m.any p=true∧∃ y,af body (st i)=some (.ret y)∧G y)∨(m.any p=false∧af body (st i)=some (.exit k e)):=by
  intro m
  induction m with
  | nil=>
   intro i hd hi
   have:i=l.length:=by have:=congrArg List.length hd; simp at this; omega
   subst this
   exact .inr ⟨rfl,mj last⟩
  | cons x m ih=>
   intro i hd hi
   have bc:i < l.length:=by
    rcases Nat.lt_or_ge i l.length with h | h
    ·exact h
    ·rw [List.drop_eq_nil_of_le h] at hd; cases hd
   have hx:l[i]? = some x:=by
    rw [List.drop_eq_getElem_cons bc] at hd
    rw [List.getElem?_eq_getElem bc]; exact congrArg some (List.cons.inj hd).1
   have jk:l.drop (i+1)=m:=by
    rw [List.drop_eq_getElem_cons bc] at hd; exact (List.cons.inj hd).2
   cases hp:p x with
   | true=>
    obtain ⟨y,hy,hg⟩:=ON i x hx hp
    exact .inl ⟨by simp [hp],y,CA hy,hg⟩
   | false=>
    rw [o4,step i x hx hp]
    simpa [hp] using ih (i+1) jk bc
 rcases key l 0 rfl (Nat.zero_le _) with ⟨h1,y,h2,h3⟩ | ⟨h1,h2⟩
 ·rw [h0] at h2; exact .inl ⟨h1,y,CB h2,h3⟩
 ·rw [h0] at h2; exact .inr ⟨h1,uh h2⟩
theorem OQ {n i x:Nat} (h:(List.range n)[i]? = some x):x=i∧i < n:=by
 have hi:=bd h
 rw [List.getElem?_eq_getElem hi] at h
 simp at h hi
 exact ⟨h.symm,hi⟩
end
def gi (l:List Int) (j:Int):Int:=l.getD j.toNat 0
def gr (l:List (List Int)) (j:Int):List Int:=l.getD j.toNat []
def gk (l:List (List Int)) (i j:Int):Int:=gi (gr l i) j
theorem bI {l:List Int} {j:Int} (h0:0≤j) (h1:j < l.length):idx l j=some (gi l j):=by
 rw [uJ h0 h1]; unfold gi; rw [List.getD_eq_getElem?_getD,List.getElem?_eq_getElem (by omega)]; rfl
theorem l8 {l:List (List Int)} {j:Int} (h0:0≤j) (h1:j < l.length):idx l j=some (gr l j):=by
 rw [uJ h0 h1]; unfold gr; rw [List.getD_eq_getElem?_getD,List.getElem?_eq_getElem (by omega)]; rfl
theorem fj {l:List Int} {j:Int} (h0:0≤j) (h1:j < l.length):gi l j∈l:=by
 unfold gi; rw [List.getD_eq_getElem?_getD,List.getElem?_eq_getElem (by omega)]; exact List.getElem_mem _
theorem pj {l:List (List Int)} {j:Int} (h0:0≤j) (h1:j < l.length):gr l j∈l:=by
 unfold gr; rw [List.getD_eq_getElem?_getD,List.getElem?_eq_getElem (by omega)]; exact List.getElem_mem _
def ns (n:Nat):List Int:=(List.range n).map Int.ofNat
theorem ij {n i:Nat} {x:Int} (h:(ns n)[i]? = some x):x=(i:Int)∧i < n:=by
 unfold ns at h
 rw [List.getElem?_map] at h
 cases hr:(List.range n)[i]? with
 | none=>rw [hr] at h; cases h
 | some y=>
  rw [hr] at h
  obtain ⟨rfl,hi⟩:=OQ hr
  exact ⟨(Option.some.inj h).symm,hi⟩
theorem bZ (n:Nat):(ns n).length=n:=by simp [ns]
theorem bp {n:Nat} {x:Int}:x∈ns n↔0≤x∧x < n:=by
 unfold ns
 simp only [List.mem_map,List.mem_range]
 constructor
 ·rintro ⟨a,h1,rfl⟩; simp; omega
 ·rintro ⟨h1,h2⟩; exact ⟨x.toNat,by omega,by simp; omega⟩
end Go.Li
namespace Go.Proofs.YtbmchcnkbonmkaaGreat
open Go Go.Li
def rb (n:Int) (f:List Int):Bool:=f.all fun y=>decide (0≤y) && decide (y < n)
theorem sT {n:Int} {f:List Int}:rb n f=true↔∀ y∈f,0≤y∧y < n:=by simp [rb]
theorem ov {α:Type} (l:List α) (p:α→Bool):l.any (fun x=>!p x) = !l.all p:=by
 induction l with
 | nil=>rfl
 | cons a l ih=>simp only [List.any_cons,List.all_cons,ih,Bool.not_and]
theorem C2 (n:Int) (f:List Int) (hf:f.length≤1048576000):kC n f=some (rb n f):=by
 unfold kC
 refine (congrArg ak (l4 f (fun y=>!(decide (0≤y) && decide (y < n))) (fun i=>(i:Int)) rfl ?_ ?_ (e:=(f.length:Int)) (y:=false) ?_)).trans ?_
 ·intro i x hx hp
  have hi:=bd hx
  unfold mR
  simp only [Bool.not_eq_false',Bool.and_eq_true,decide_eq_true_eq] at hp
  rw [aq (by omega),cond_true,bx,hx,aD,ba (by omega),cond_false,aD,ba (by omega),aD,cond_false,bH (by omega)]
 ·intro i x hx hp
  have hi:=bd hx
  unfold mR
  rw [aq (by omega),cond_true,bx,hx,aD,aD]
  by_cases h:x < 0
  ·rw [aq h,cond_true,aD,cond_true]
  ·have:n≤x:=by simp at hp; omega
   rw [ba h,cond_false,aq (by omega),aD,cond_true]
 ·unfold mR
  rw [ba (by omega),cond_false]
 ·rw [ov]
  show ak (if (!rb n f)=true then _ else _)=_
  cases rb n f <;> rfl
theorem C3 (n a b:Int):eM n a b=some (decide (a≤n) && decide (n≤b)):=by
 unfold eM
 by_cases h:a≤n
 ·rw [aq (show n ≥ a from h),cond_true]; rfl
 ·rw [ba (show ¬ n ≥ a from h),cond_false]; rfl
theorem X5 (n a b:Int):qS n a b=some (decide (a≤n) && decide (n≤b)):=by
 unfold qS
 by_cases h:a≤n
 ·rw [aq (show n ≥ a from h),cond_true]; rfl
 ·rw [ba (show ¬ n ≥ a from h),cond_false]; rfl
theorem within (f:List Int) (n:Int) (hf:f.length≤1048576000) (hn:0≤n) (KX:n≤1048576000):eW f n=some (rb n f):=by
 unfold eW
 refine (congrArg ak (l4 f (fun y=>!(decide (0≤y) && decide (y < n))) (fun i=>(i:Int)) rfl ?_ ?_ (e:=(f.length:Int)) (y:=false) ?_)).trans ?_
 ·intro i x hx hp
  have hi:=bd hx
  unfold iN
  simp only [Bool.not_eq_false',Bool.and_eq_true,decide_eq_true_eq] at hp
  rw [aq (by omega),cond_true,bx,hx,aD,cV (by omega) (by omega),C3,aD,aq hp.1,aq (by omega)]
  simp only [Bool.and_self,Bool.not_true,cond_false]
  rw [bH (by omega)]
 ·intro i x hx hp
  have hi:=bd hx
  unfold iN
  rw [aq (by omega),cond_true,bx,hx,aD,cV (by omega) (by omega),C3,aD]
  have:(decide (0≤x) && decide (x≤n - 1))=false:=by
   by_cases h:x < 0
   ·rw [ba (by omega)]; rfl
   ·have:n≤x:=by simp at hp; omega
    rw [ba (show ¬ x≤n - 1 by omega),Bool.and_false]
  rw [this]; rfl
 ·unfold iN
  rw [ba (by omega),cond_false]
 ·rw [ov]
  show ak (if (!rb n f)=true then _ else _)=_
  cases rb n f <;> rfl
def wI (c:aG):Bool:=((decide (0≤c.aA) && decide (c.aA≤8)) && (decide (c.aC.length≤40) && rb c.aA c.aC)) && (((c.To.length == c.aC.length) && rb c.aA c.To) && ((c.aB.length == c.aC.length) && (((c.aH.length:Int) == c.aA) && rb c.aC.length c.aH)))
def Az (c:aG) (x:Int):Bool:=gi c.aC (gi c.aH x) == x && gi c.To (gi c.aH x) == x
def vK (c:aG) (f g:Int):Bool:=
 if gi c.To f=gi c.aC g then (decide (0≤gk c.aB f g) && decide (gk c.aB f g < c.aC.length)) && (gi c.aC (gk c.aB f g) == gi c.aC f && gi c.To (gk c.aB f g) == gi c.To g)
 else gk c.aB f g == -1
def yV (c:aG) (f:Int):Bool:=((gr c.aB f).length == c.aC.length) && (ns c.aC.length).all fun g=>vK c f g
def r5 (c:aG):Bool:=wI c && ((ns c.aH.length).all (Az c) && (ns c.aC.length).all (yV c))
structure Head (c:aG):Prop where
 o0:0≤c.aA
 o8:c.aA≤8
 m:c.aC.length≤40
 f:∀ x∈c.aC,0≤x∧x < c.aA
 tl:c.To.length=c.aC.length
 t:∀ x∈c.To,0≤x∧x < c.aA
 kl:c.aB.length=c.aC.length
 il:(c.aH.length:Int)=c.aA
 i:∀ x∈c.aH,0≤x∧x < c.aC.length
theorem FW {c:aG} (h:wI c=true):Head c:=by
 unfold wI at h
 simp only [Bool.and_eq_true,decide_eq_true_eq,sT,beq_iff_eq] at h
 obtain ⟨⟨⟨h1,h2⟩,h3,h4⟩,⟨h5,h6⟩,h7,h8,h9⟩:=h
 exact ⟨h1,h2,h3,h4,h5,h6,h7,h8,h9⟩
set_option linter.unusedSectionVars false
namespace Head
variable {c:aG} (h:Head c)
include h
theorem fr {f:Int} (h0:0≤f) (h1:f < c.aC.length):0≤gi c.aC f∧gi c.aC f < c.aA:=h.f _ (fj h0 h1)
theorem to {f:Int} (h0:0≤f) (h1:f < c.aC.length):0≤gi c.To f∧gi c.To f < c.aA:=h.t _ (fj h0 (by rw [h.tl]; exact h1))
theorem id {x:Int} (h0:0≤x) (h1:x < c.aA):0≤gi c.aH x∧gi c.aH x < c.aC.length:=h.i _ (fj h0 (by rw [h.il]; exact h1))
theorem ji {f:Int} (h0:0≤f) (h1:f < c.aC.length):idx c.aC f=some (gi c.aC f):=bI h0 h1
theorem jj {f:Int} (h0:0≤f) (h1:f < c.aC.length):idx c.To f=some (gi c.To f):=bI h0 (by rw [h.tl]; exact h1)
theorem qw {x:Int} (h0:0≤x) (h1:x < c.aA):idx c.aH x=some (gi c.aH x):=bI h0 (by rw [h.il]; exact h1)
theorem mm {f:Int} (h0:0≤f) (h1:f < c.aC.length):idx c.aB f=some (gr c.aB f):=l8 h0 (by rw [h.kl]; exact h1)
end Head
theorem OR {c:aG} (hs:ir c):pG c=some (r5 c):=by
 obtain ⟨z1,z2,z3,z4,z5⟩:=hs
 have ends:∀ (l:List Int) (n:Nat) (o:Int),l.length≤1048576→mD l (n:Int) o=some ((l.length == n) && rb o l):=by
  intro l n o hl
  unfold mD
  by_cases e:l.length=n
  ·rw [show ((l.length:Int) == (n:Int))=true by simp [e],cond_true,C2 _ _ (by omega),show (l.length == n)=true by simp [e]]; rfl
  ·rw [show ((l.length:Int) == (n:Int))=false by simp; omega,cond_false,show (l.length == n)=false by simp [e]]; rfl
 unfold pG
 rw [X5,aD,ends _ _ _ z1,ends _ _ _ z2]
 have e1:((c.aB.length:Int) != (c.aC.length:Int)) = !(c.aB.length == c.aC.length):=by
  by_cases e:c.aB.length=c.aC.length
  ·simp [e]
  ·rw [show (c.aB.length == c.aC.length)=false by simp [e]]; simp; omega
 have e2:decide ((c.aC.length:Int) > 40) = !decide (c.aC.length≤40):=by
  by_cases e:c.aC.length≤40
  ·rw [aq e,ba (by omega)]; rfl
  ·rw [ba e,aq (by omega)]; rfl
 rw [e1,e2,C2 _ _ (by omega)]
 cases hh:wI c with
 | false=>
  have:r5 c=false:=by unfold r5; rw [hh]; rfl
  rw [this]
  unfold wI at hh
  generalize (decide (0≤c.aA) && decide (c.aA≤8))=a1 at *
  generalize decide (c.aC.length≤40)=a2 at *
  generalize rb c.aA c.aC=a3 at *
  generalize (c.To.length == c.aC.length)=a4 at *
  generalize rb c.aA c.To=a5 at *
  generalize (c.aB.length == c.aC.length)=a6 at *
  have e3:((c.aH.length:Int) != c.aA) = !((c.aH.length:Int) == c.aA):=rfl
  rw [e3]
  generalize ((c.aH.length:Int) == c.aA)=a7 at *
  generalize rb (c.aC.length:Int) c.aH=a8 at *
  simp only [beq_self_eq_true,Bool.true_and]
  cases a1 <;> first | rfl | (cases a2 <;> first | rfl | (cases a3 <;> first | rfl | (cases a4 <;> first | rfl | (cases a5 <;> first | rfl | (cases a6 <;> first | rfl | (cases a7 <;> first | rfl | (cases a8 <;> first | rfl | (cases hh))))))))
 | true=>
  have H:=FW hh
  have Jl:=hh
  unfold wI at Jl
  simp only [Bool.and_eq_true] at Jl
  obtain ⟨⟨⟨b1,Km⟩,b2,b3⟩,⟨b4,b5⟩,b6,b7,b8⟩:=Jl
  rw [b1,Km,b2,b3,b4,b5,b6,b8,show ((c.aH.length:Int) != c.aA) = !((c.aH.length:Int) == c.aA) from rfl,b7]
  simp only [beq_self_eq_true,Bool.and_self,Bool.not_true,cond_false,aD]
  have hm:=H.m
  have ux:=H.il
  refine (congrArg ak (l4 (ns c.aH.length) (fun x=>!Az c x) (fun i=>(i:Int)) rfl ?_ ?_ (e:=(c.aH.length:Int)) (y:=false) ?_)).trans ?_
  ·intro i x hx hp
   obtain ⟨rfl,hi⟩:=ij hx
   have:=H.id (x:=(i:Int)) (by omega) (by omega)
   unfold lT
   unfold Az at hp
   simp only [Bool.not_eq_false',Bool.and_eq_true,beq_iff_eq] at hp
   rw [aq (by omega),cond_true,H.qw (by omega) (by omega),aD,H.ji this.1 this.2,aD,hp.1,bne_self_eq_false,cond_false,aD,H.jj this.1 this.2,aD,hp.2,bne_self_eq_false,aD,cond_false,bH (by omega)]
  ·intro i x hx hp
   obtain ⟨rfl,hi⟩:=ij hx
   have:=H.id (x:=(i:Int)) (by omega) (by omega)
   unfold lT
   unfold Az at hp
   rw [aq (by omega),cond_true,H.qw (by omega) (by omega),aD,H.ji this.1 this.2,aD]
   by_cases e:gi c.aC (gi c.aH i)=i
   ·rw [e,bne_self_eq_false,cond_false,aD,H.jj this.1 this.2,aD]
    have:(gi c.To (gi c.aH i) != (i:Int))=true:=by
     rw [e] at hp; simpa using hp
    rw [this]; rfl
   ·rw [show (gi c.aC (gi c.aH i) != (i:Int))=true by simp [e]]; rfl
  ·unfold lT
   rw [bZ,ba (by omega),cond_false]
  rw [ov]
  unfold r5
  rw [hh]
  cases v7:(ns c.aH.length).all (Az c) with
  | false=>rfl
  | true=>
   simp only [Bool.not_true,Bool.false_eq_true,if_false,Bool.true_and]
   refine (congrArg ak (l4 (ns c.aC.length) (fun f=>!yV c f) (fun i=>(i:Int)) rfl ?_ ?_ (e:=(c.aC.length:Int)) (y:=false) ?_)).trans ?_
   rotate_left 2
   ·unfold pF
    rw [bZ,ba (by omega),cond_false]
   ·rw [ov]
    cases (ns c.aC.length).all (yV c) <;> rfl
   all_goals
    intro i x hx hp
    obtain ⟨rfl,hi⟩:=ij hx
    have hK:=H.mm (f:=(i:Int)) (by omega) (by omega)
    have inner:(gr c.aB i).length=c.aC.length→ae (S:=Int) (ab 4 (af (lU c i) (0:Int))) (fun z7=>(some (Out.norm (aj ((i:Int)+(1:Int)))))) =
      if (ns c.aC.length).any (fun g=>!vK c i g) then some (.ret false) else some (Out.norm (aj ((i:Int)+(1:Int)))):=by
     intro hr
     refine l4 (ns c.aC.length) (fun g=>!vK c i g) (fun j=>(j:Int)) rfl ?_ ?_ (e:=(c.aC.length:Int)) (y:=false) ?_
     rotate_left 2
     ·unfold lU
      rw [bZ,ba (by omega),cond_false]
     all_goals
      intro j y hy hq
      obtain ⟨rfl,hj⟩:=ij hy
      unfold lU
      rw [aq (by omega),cond_true,hK,aD,bI (by omega) (by omega),aD,H.jj (by omega) (by omega),aD,H.ji (by omega) (by omega),aD]
      unfold vK gk at hq
      by_cases e:gi c.To i=gi c.aC j
      ·rw [if_pos e] at hq
       rw [show (gi c.To (i:Int) != gi c.aC (j:Int))=false by simp [e],cond_false]
       by_cases l0:gi (gr c.aB i) j < 0
       ·rw [ba (show ¬ 0≤gi (gr c.aB i) j by omega)] at hq
        rw [aq l0,cond_true,aD,cond_true]
        all_goals (first | rfl | simp at hq)
       ·rw [aq (show 0≤gi (gr c.aB i) j by omega)] at hq
        rw [ba l0,cond_false]
        by_cases l1:gi (gr c.aB i) j < c.aC.length
        ·rw [aq l1] at hq
         rw [ba (show ¬ gi (gr c.aB i) j ≥ c.aC.length by omega),cond_false,H.ji (by omega) l1,aD,H.ji (by omega) (by omega),aD]
         by_cases q1:gi c.aC (gi (gr c.aB i) j)=gi c.aC i
         ·rw [show (gi c.aC (gi (gr c.aB (i:Int)) (j:Int)) == gi c.aC (i:Int))=true by simp [q1]] at hq
          rw [show (gi c.aC (gi (gr c.aB (i:Int)) (j:Int)) != gi c.aC (i:Int))=false by simp [q1],cond_false,H.jj (by omega) l1,aD,H.jj (by omega) (by omega),aD,aD]
          simp only [Bool.and_self,Bool.true_and] at hq
          rw [show (gi c.To (gi (gr c.aB (i:Int)) (j:Int)) != gi c.To (j:Int)) = !(gi c.To (gi (gr c.aB (i:Int)) (j:Int)) == gi c.To (j:Int)) from rfl,hq]
          all_goals (first | rfl | rw [cond_false,bH (by omega)])
         ·rw [show (gi c.aC (gi (gr c.aB (i:Int)) (j:Int)) == gi c.aC (i:Int))=false by simp [q1]] at hq
          rw [show (gi c.aC (gi (gr c.aB (i:Int)) (j:Int)) != gi c.aC (i:Int))=true by simp [q1],cond_true]
          all_goals (first | rfl | simp at hq)
        ·rw [ba l1] at hq
         rw [aq (show gi (gr c.aB i) j ≥ c.aC.length by omega),cond_true]
         all_goals (first | rfl | simp at hq)
      ·rw [if_neg e] at hq
       rw [show (gi c.To (i:Int) != gi c.aC (j:Int))=true by simp [e],cond_true,show (gi (gr c.aB (i:Int)) (j:Int) != -1) = !(gi (gr c.aB (i:Int)) (j:Int) == -1) from rfl,hq]
       all_goals (first | rfl | rw [cond_false,bH (by omega)])
    unfold pF
    rw [aq (by omega),cond_true,hK,aD]
    unfold yV at hp
    by_cases hr:(gr c.aB i).length=c.aC.length
    ·rw [show (((gr c.aB (i:Int)).length:Int) != (c.aC.length:Int))=false by simp [hr],cond_false,inner hr,ov]
     rw [show ((gr c.aB (i:Int)).length == c.aC.length)=true by simp [hr],Bool.true_and] at hp
     rw [hp,bH (by omega)]
     rfl
    ·rw [show (((gr c.aB (i:Int)).length:Int) != (c.aC.length:Int))=true by (simp; omega),cond_true]
     all_goals (rw [show ((gr c.aB (i:Int)).length == c.aC.length)=false by simp [hr],Bool.false_and] at hp; first | rfl | simp at hp)
end Go.Proofs.YtbmchcnkbonmkaaGreat
namespace Go.Proofs.YtbmchcnkbonmkaaGreat
open Go Go.Li
set_option linter.unusedSectionVars false
theorem Jm {c:aG} (H:Head c) {f:Int} (h0:0≤f) (h1:f < c.aC.length):dT c f=some (sM.mk (gi c.aC f) (gi c.To f)):=by
 unfold dT
 rw [H.ji h0 h1,aD,H.jj h0 h1,aD]; rfl
theorem OS {c:aG} (hs:ir c):gU c=some (r5 c):=by
 obtain ⟨z1,z2,z3,z4,z5⟩:=hs
 unfold gU cH
 rw [show ak (S:=Unit) (some (Out.ret (c.aC.length:Int)))=some (c.aC.length:Int) from rfl,aD,C3,aD]
 have e1:((c.aB.length:Int) != (c.aC.length:Int)) = !(c.aB.length == c.aC.length):=by
  by_cases e:c.aB.length=c.aC.length
  ·simp [e]
  ·rw [show (c.aB.length == c.aC.length)=false by simp [e]]; simp; omega
 have e1':((c.To.length:Int) != (c.aC.length:Int)) = !(c.To.length == c.aC.length):=by
  by_cases e:c.To.length=c.aC.length
  ·simp [e]
  ·rw [show (c.To.length == c.aC.length)=false by simp [e]]; simp; omega
 have e2:decide ((c.aC.length:Int) > 40) = !decide (c.aC.length≤40):=by
  by_cases e:c.aC.length≤40
  ·rw [aq e,ba (by omega)]; rfl
  ·rw [ba e,aq (by omega)]; rfl
 have e3:((c.aH.length:Int) != c.aA) = !((c.aH.length:Int) == c.aA):=rfl
 rw [e1,e1',e2,e3,within c.aH _ (by omega) (by omega) (by omega)]
 cases hh:wI c with
 | false=>
  have:r5 c=false:=by unfold r5; rw [hh]; rfl
  rw [this]
  unfold wI at hh
  cases ha:(decide (0≤c.aA) && decide (c.aA≤8)) with
  | false=>rfl
  | true=>
   rw [ha] at hh
   simp only [Bool.and_eq_true,decide_eq_true_eq] at ha
   rw [within c.aC _ (by omega) ha.1 (by omega),within c.To _ (by omega) ha.1 (by omega)]
   generalize decide (c.aC.length≤40)=a2 at *
   generalize rb c.aA c.aC=a3 at *
   generalize (c.To.length == c.aC.length)=a4 at *
   generalize rb c.aA c.To=a5 at *
   generalize (c.aB.length == c.aC.length)=a6 at *
   generalize ((c.aH.length:Int) == c.aA)=a7 at *
   generalize rb (c.aC.length:Int) c.aH=a8 at *
   cases a2 <;> first | rfl | (cases a4 <;> first | rfl | (cases a3 <;> first | rfl | (cases a5 <;> first | rfl | (cases a7 <;> first | rfl | (cases a8 <;> first | rfl | (cases a6 <;> first | rfl | (cases hh)))))))
 | true=>
  have H:=FW hh
  have Jl:=hh
  unfold wI at Jl
  simp only [Bool.and_eq_true] at Jl
  obtain ⟨⟨⟨b1,Km⟩,b2,b3⟩,⟨b4,b5⟩,b6,b7,b8⟩:=Jl
  rw [within c.aC _ (by omega) H.o0 (by have:=H.o8; omega),within c.To _ (by omega) H.o0 (by have:=H.o8; omega)]
  rw [b1,Km,b2,b3,b4,b5,b6,b8,b7]
  simp only [Bool.and_self,Bool.not_true,cond_false,aD]
  have hm:=H.m
  have ux:=H.il
  have De:=H.kl
  refine (congrArg ak (l4 (ns c.aH.length) (fun x=>!Az c x) (fun i=>(i:Int)) rfl ?_ ?_ (e:=(c.aH.length:Int)) (y:=false) ?_)).trans ?_
  ·intro i x hx hp
   obtain ⟨rfl,hi⟩:=ij hx
   have:=H.id (x:=(i:Int)) (by omega) (by omega)
   unfold fJ
   unfold Az at hp
   simp only [Bool.not_eq_false'] at hp
   rw [aq (by omega),cond_true,H.qw (by omega) (by omega),aD,Jm H this.1 this.2,aD]
   dsimp only
   rw [hp,Bool.not_true,cond_false,bH (by omega)]
  ·intro i x hx hp
   obtain ⟨rfl,hi⟩:=ij hx
   have:=H.id (x:=(i:Int)) (by omega) (by omega)
   unfold fJ
   unfold Az at hp
   rw [aq (by omega),cond_true,H.qw (by omega) (by omega),aD,Jm H this.1 this.2,aD]
   dsimp only
   rw [hp,cond_true]
  ·unfold fJ
   rw [bZ,ba (by omega),cond_false]
  rw [ov]
  unfold r5
  rw [hh]
  cases v7:(ns c.aH.length).all (Az c) with
  | false=>rfl
  | true=>
   simp only [Bool.not_true,Bool.false_eq_true,if_false,Bool.true_and]
   refine (congrArg ak (l4 (ns c.aC.length) (fun f=>!yV c f) (fun i=>(i:Int)) rfl ?_ ?_ (e:=(c.aC.length:Int)) (y:=false) ?_)).trans ?_
   rotate_left 2
   ·unfold jE
    rw [bZ,ba (by omega),cond_false]
   ·rw [ov]
    cases (ns c.aC.length).all (yV c) <;> rfl
   all_goals
    intro i x hx hp
    obtain ⟨rfl,hi⟩:=ij hx
    have hK:=H.mm (f:=(i:Int)) (by omega) (by omega)
    have inner:(gr c.aB i).length=c.aC.length→ae (S:=Int) (ab 4 (af (fK c (c.aC.length:Int) i (gr c.aB i)) (0:Int))) (fun z7=>(some (Out.norm (aj ((i:Int)+(1:Int)))))) =
      if (ns c.aC.length).any (fun g=>!vK c i g) then some (.ret false) else some (Out.norm (aj ((i:Int)+(1:Int)))):=by
     intro hr
     refine l4 (ns c.aC.length) (fun g=>!vK c i g) (fun j=>(j:Int)) rfl ?_ ?_ (e:=(c.aC.length:Int)) (y:=false) ?_
     rotate_left 2
     ·unfold fK
      rw [bZ,ba (by omega),cond_false]
     all_goals
      intro j y hy hq
      obtain ⟨rfl,hj⟩:=ij hy
      unfold fK
      rw [aq (by omega),cond_true,bI (by omega) (by omega),aD,H.jj (by omega) (by omega),aD,H.ji (by omega) (by omega),aD,cV (a:=(c.aC.length:Int) - 1) (by omega) (by omega),C3,aD]
      unfold vK gk at hq
      by_cases e:gi c.To i=gi c.aC j
      ·rw [if_pos e] at hq
       rw [show (gi c.To (i:Int) != gi c.aC (j:Int))=false by simp [e],cond_false]
       by_cases l0:0≤gi (gr c.aB i) j∧gi (gr c.aB i) j < c.aC.length
       ·rw [aq l0.1,aq l0.2] at hq
        rw [aq l0.1,aq (show gi (gr c.aB i) j≤(c.aC.length:Int) - 1 by omega)]
        simp only [Bool.and_self,Bool.not_true,cond_false,Bool.true_and] at hq ⊢
        rw [Jm H l0.1 l0.2,aD,H.ji (by omega) (by omega),aD,H.jj (by omega) (by omega),aD,aD]
        dsimp only
        rw [hq]
        all_goals (first | rfl | rw [cond_false,bH (by omega)])
       ·have l1:(decide (0≤gi (gr c.aB i) j) && decide (gi (gr c.aB i) j < c.aC.length))=false:=by
         rcases Classical.not_and_iff_not_or_not.1 l0 with h | h
         ·rw [ba h]; rfl
         ·rw [ba h,Bool.and_false]
        have l2:(decide (0≤gi (gr c.aB i) j) && decide (gi (gr c.aB i) j≤(c.aC.length:Int) - 1))=false:=by
         rcases Classical.not_and_iff_not_or_not.1 l0 with h | h
         ·rw [ba h]; rfl
         ·rw [ba (show ¬ gi (gr c.aB i) j≤(c.aC.length:Int) - 1 by omega),Bool.and_false]
        rw [l1] at hq
        rw [l2]
        all_goals (first | rfl | simp at hq)
      ·rw [if_neg e] at hq
       rw [show (gi c.To (i:Int) != gi c.aC (j:Int))=true by simp [e],cond_true,show (gi (gr c.aB (i:Int)) (j:Int) != -1) = !(gi (gr c.aB (i:Int)) (j:Int) == -1) from rfl,hq]
       all_goals (first | rfl | rw [cond_false,bH (by omega)])
    unfold jE
    rw [aq (by omega),cond_true,hK,aD]
    unfold yV at hp
    by_cases hr:(gr c.aB i).length=c.aC.length
    ·rw [show (((gr c.aB (i:Int)).length:Int) != (c.aC.length:Int))=false by simp [hr],cond_false,inner hr,ov]
     rw [show ((gr c.aB (i:Int)).length == c.aC.length)=true by simp [hr],Bool.true_and] at hp
     rw [hp,bH (by omega)]
     rfl
    ·rw [show (((gr c.aB (i:Int)).length:Int) != (c.aC.length:Int))=true by (simp; omega),cond_true]
     all_goals (rw [show ((gr c.aB (i:Int)).length == c.aC.length)=false by simp [hr],Bool.false_and] at hp; first | rfl | simp at hp)
end Go.Proofs.YtbmchcnkbonmkaaGreat
namespace Go.Proofs.YtbmchcnkbonmkaaGreat
open Go Go.Li
structure rF (c:aG):Prop extends Head c where
 uK:∀ x:Int,0≤x→x < c.aA→gi c.aC (gi c.aH x)=x
 vL:∀ x:Int,0≤x→x < c.aA→gi c.To (gi c.aH x)=x
 row:∀ f:Int,0≤f→f < c.aC.length→(gr c.aB f).length=c.aC.length
 cell:∀ f g:Int,0≤f→f < c.aC.length→0≤g→g < c.aC.length→gi c.To f=gi c.aC g→
  0≤gk c.aB f g∧gk c.aB f g < c.aC.length∧gi c.aC (gk c.aB f g)=gi c.aC f∧gi c.To (gk c.aB f g)=gi c.To g
 none:∀ f g:Int,0≤f→f < c.aC.length→0≤g→g < c.aC.length→gi c.To f≠gi c.aC g→gk c.aB f g = -1
theorem D3 {c:aG} (h:r5 c=true):rF c:=by
 unfold r5 at h
 simp only [Bool.and_eq_true,List.all_eq_true] at h
 obtain ⟨h1,h2,h3⟩:=h
 have H:=FW h1
 have ux:=H.il
 have v7:∀ x,0≤x→x < c.aA→Az c x=true:=fun x a b=>h2 x (bp.2 ⟨a,by omega⟩)
 have bg:∀ f,0≤f→f < (c.aC.length:Int)→yV c f=true:=fun f a b=>h3 f (bp.2 ⟨a,b⟩)
 have ke:∀ f g,0≤f→f < (c.aC.length:Int)→0≤g→g < (c.aC.length:Int)→vK c f g=true:=fun f g a b a' b'=>by
  have:=bg f a b
  unfold yV at this
  simp only [Bool.and_eq_true,List.all_eq_true] at this
  exact this.2 g (bp.2 ⟨a',b'⟩)
 refine { H with
  uK:=fun x a b=>?_
  vL:=fun x a b=>?_
  row:=fun f a b=>?_
  cell:=fun f g a b a' b' e=>?_
  none:=fun f g a b a' b' e=>?_ }
 ·have:=v7 x a b; unfold Az at this; simp at this; exact this.1
 ·have:=v7 x a b; unfold Az at this; simp at this; exact this.2
 ·have:=bg f a b; unfold yV at this; simp only [Bool.and_eq_true,beq_iff_eq] at this; exact this.1
 ·have:=ke f g a b a' b'; unfold vK at this; rw [if_pos e] at this; simp only [Bool.and_eq_true,decide_eq_true_eq,beq_iff_eq] at this; exact ⟨this.1.1,this.1.2,this.2.1,this.2.2⟩
 ·have:=ke f g a b a' b'; unfold vK at this; rw [if_neg e] at this; simpa using this
namespace rF
variable {c:aG} (h:rF c)
include h
theorem l5 {f g:Int} (h0:0≤f) (h1:f < c.aC.length) (h2:0≤g) (h3:g < c.aC.length):idx (gr c.aB f) g=some (gk c.aB f g):=bI h2 (by rw [h.row f h0 h1]; exact h3)
theorem q9 {f g:Int} (h0:0≤f) (h1:f < c.aC.length) (h2:0≤g) (h3:g < c.aC.length):cG c f g=some (gk c.aB f g):=by
 unfold cG; rw [h.mm h0 h1,aD,h.l5 h0 h1 h2 h3,aD]; rfl
theorem thenS {f g:Int} (h0:0≤f) (h1:f < c.aC.length) (h2:0≤g) (h3:g < c.aC.length):gO c f g=some (gk c.aB f g):=by
 unfold gO; rw [h.mm h0 h1,aD,h.l5 h0 h1 h2 h3,aD]; rfl
end rF
def vM (c:aG) (f:Int):Bool:=gk c.aB (gi c.aH (gi c.aC f)) f == f && gk c.aB f (gi c.aH (gi c.To f)) == f
def xq (c:aG) (f g h:Int):Bool:=gi c.To g == gi c.aC h && gk c.aB (gk c.aB f g) h != gk c.aB f (gk c.aB g h)
def CC (c:aG) (f g:Int):Bool:=gi c.To f == gi c.aC g && (ns c.aC.length).any (xq c f g)
def FX (c:aG) (f:Int):Bool:=(ns c.aC.length).any (CC c f)
def Bz (c:aG):Bool:=(ns c.aC.length).all (vM c) && !((ns c.aC.length).any (FX c))
theorem Lc {c:aG} {k1 k2 k4 k6:Nat} {L0:Int→Option (Out Int (Int×Int×Int×Int))} {L1:Int→Option (Out Int (Int×Int×Int×Int))} {L2:Int→Int→Option (Out Int (Int×Int×Int×Int))} {L3:Int→Int→Int→Option (Out Int (Int×Int×Int×Int))} {z:Int×Int×Int×Int} (hz:z.1=0)
  (a0:∀ i:Nat,i < c.aC.length→vM c i=true→L0 i=some (.norm ((i+1:Nat):Int)))
  (a1:∀ i:Nat,i < c.aC.length→vM c i=false→∃ y,L0 i=some (.ret y)∧y.1≠0)
  (a2:L0 c.aC.length=some (.exit k1 c.aC.length))
  (b0:∀ i:Nat,i < c.aC.length→L1 i=ae (ab k4 (af (L2 i) 0)) fun _=>some (.norm ((i+1:Nat):Int)))
  (b2:L1 c.aC.length=some (.exit k2 c.aC.length))
  (d0:∀ i j:Nat,i < c.aC.length→j < c.aC.length→gi c.To i≠gi c.aC j→L2 i j=some (.norm ((j+1:Nat):Int)))
  (d1:∀ i j:Nat,i < c.aC.length→j < c.aC.length→gi c.To i=gi c.aC j→L2 i j=ae (ab k6 (af (L3 i j) 0)) fun _=>some (.norm ((j+1:Nat):Int)))
  (d2:∀ i:Nat,L2 i c.aC.length=some (.exit k4 c.aC.length))
  (e0:∀ i j h:Nat,i < c.aC.length→j < c.aC.length→h < c.aC.length→gi c.To i=gi c.aC j→xq c i j h=false→L3 i j h=some (.norm ((h+1:Nat):Int)))
  (e1:∀ i j h:Nat,i < c.aC.length→j < c.aC.length→h < c.aC.length→gi c.To i=gi c.aC j→xq c i j h=true→∃ y,L3 i j h=some (.ret y)∧y.1≠0)
  (e2:∀ i j:Nat,L3 i j c.aC.length=some (.exit k6 c.aC.length)) :
  ∃ y,ak (S:=Unit) (ae (ab k1 (af L0 0)) fun _=>ae (ab k2 (af L1 0)) fun _=>some (.ret z))=some y∧(y.1 == 0)=Bz c:=by
 have in3:∀ i j:Nat,i < c.aC.length→j < c.aC.length→gi c.To i=gi c.aC j→
   ((ns c.aC.length).any (xq c i j)=true∧∃ y,ae (S:=Int) (ab k6 (af (L3 i j) 0)) (fun _=>some (.norm ((j+1:Nat):Int)))=some (.ret y)∧y.1≠0)∨
   ((ns c.aC.length).any (xq c i j)=false∧ae (S:=Int) (ab k6 (af (L3 i j) 0)) (fun _=>some (.norm ((j+1:Nat):Int)))=some (.norm ((j+1:Nat):Int))):=by
  intro i j hi hj he
  refine yU (ns c.aC.length) (xq c i j) (fun y:Int×Int×Int×Int=>y.1≠0) (fun h=>(h:Int)) rfl ?_ ?_ (e:=(c.aC.length:Int)) (by rw [bZ]; exact e2 i j)
  ·intro h x hx hp; obtain ⟨rfl,hh⟩:=ij hx; exact e0 i j h hi hj hh he hp
  ·intro h x hx hp; obtain ⟨rfl,hh⟩:=ij hx; exact e1 i j h hi hj hh he hp
 have in2:∀ i:Nat,i < c.aC.length→
   ((ns c.aC.length).any (CC c i)=true∧∃ y,ae (S:=Int) (ab k4 (af (L2 i) 0)) (fun _=>some (.norm ((i+1:Nat):Int)))=some (.ret y)∧y.1≠0)∨
   ((ns c.aC.length).any (CC c i)=false∧ae (S:=Int) (ab k4 (af (L2 i) 0)) (fun _=>some (.norm ((i+1:Nat):Int)))=some (.norm ((i+1:Nat):Int))):=by
  intro i hi
  refine yU (ns c.aC.length) (CC c i) (fun y:Int×Int×Int×Int=>y.1≠0) (fun h=>(h:Int)) rfl ?_ ?_ (e:=(c.aC.length:Int)) (by rw [bZ]; exact d2 i)
  ·intro j x hx hp
   obtain ⟨rfl,hj⟩:=ij hx
   by_cases he:gi c.To i=gi c.aC j
   ·rw [d1 i j hi hj he]
    rcases in3 i j hi hj he with ⟨h1,_⟩ | ⟨_,h2⟩
    ·unfold CC at hp; rw [h1] at hp; simp [he] at hp
    ·exact h2
   ·exact d0 i j hi hj he
  ·intro j x hx hp
   obtain ⟨rfl,hj⟩:=ij hx
   unfold CC at hp
   simp only [Bool.and_eq_true,beq_iff_eq] at hp
   rw [d1 i j hi hj hp.1]
   rcases in3 i j hi hj hp.1 with ⟨_,h⟩ | ⟨h1,_⟩
   ·exact h
   ·rw [hp.2] at h1; cases h1
 rcases yU (s0:=(0:Int)) (S:=Unit) (R:=Int×Int×Int×Int) (k:=k1) (body:=L0) (f:=fun _=>ae (ab k2 (af L1 0)) fun _=>some (.ret z)) (ns c.aC.length) (fun i=>!vM c i) (fun y:Int×Int×Int×Int=>y.1≠0) (fun i=>(i:Int)) rfl
   (fun i x hx hp=>by obtain ⟨rfl,hi⟩:=ij hx; exact a0 i hi (by simpa using hp)) (fun i x hx hp=>by obtain ⟨rfl,hi⟩:=ij hx; exact a1 i hi (by simpa using hp)) (e:=(c.aC.length:Int)) (by rw [bZ]; exact a2) with ⟨h1,y,h2,h3⟩ | ⟨h1,h2⟩
 ·refine ⟨y,by rw [h2]; rfl,?_⟩
  unfold Bz
  rw [ov] at h1
  simp only [Bool.not_eq_true'] at h1
  rw [h1]
  simpa using h3
 ·rw [ov] at h1
  simp only [Bool.not_eq_false'] at h1
  rw [h2]
  rcases yU (s0:=(0:Int)) (S:=Unit) (R:=Int×Int×Int×Int) (k:=k2) (body:=L1) (f:=fun _=>some (.ret z)) (ns c.aC.length) (FX c) (fun y:Int×Int×Int×Int=>y.1≠0) (fun i=>(i:Int)) rfl
   (fun i x hx hp=>by
    obtain ⟨rfl,hi⟩:=ij hx
    rw [b0 i hi]
    rcases in2 i hi with ⟨q1,_⟩ | ⟨_,q2⟩
    ·unfold FX at hp; rw [q1] at hp; cases hp
    ·exact q2)
   (fun i x hx hp=>by
    obtain ⟨rfl,hi⟩:=ij hx
    rw [b0 i hi]
    rcases in2 i hi with ⟨_,q⟩ | ⟨q1,_⟩
    ·exact q
    ·unfold FX at hp; rw [q1] at hp; cases hp) (e:=(c.aC.length:Int)) (by rw [bZ]; exact b2) with ⟨g1,y,g2,g3⟩ | ⟨g1,g2⟩
  ·refine ⟨y,by rw [g2]; rfl,?_⟩
   unfold Bz
   rw [h1,g1]
   simpa using g3
  ·refine ⟨z,by rw [g2]; rfl,?_⟩
   unfold Bz
   rw [h1,g1,hz]
   rfl
section
variable {c:aG} (H:rF c)
include H
theorem OT:∃ y,nV c=some y∧(y.1 == 0)=Bz c:=by
 have hm:=H.m
 have ux:=H.il
 have u0:∀ i:Nat,i < c.aC.length→lB c i=if vM c i then some (Out.norm ((i+1:Nat):Int)) else some (Out.ret ((1:Int),(i:Int),(0:Int),(0:Int))):=by
  intro i hi
  have f1:=H.fr (f:=(i:Int)) (by omega) (by omega)
  have t1:=H.to (f:=(i:Int)) (by omega) (by omega)
  have i1:=H.id f1.1 f1.2
  have i2:=H.id t1.1 t1.2
  unfold lB
  rw [aq (by omega),cond_true,H.ji (by omega) (by omega),aD,H.qw f1.1 f1.2,aD,H.mm i1.1 i1.2,aD,H.l5 i1.1 i1.2 (by omega) (by omega),aD]
  rw [H.mm (by omega) (by omega),aD,H.jj (by omega) (by omega),aD,H.qw t1.1 t1.2,aD,H.l5 (by omega) (by omega) i2.1 i2.2,aD]
  unfold vM
  by_cases e1:gk c.aB (gi c.aH (gi c.aC i)) i=i
  ·by_cases e2:gk c.aB i (gi c.aH (gi c.To i))=i
   ·simp [e1,e2,bH (show i < 9223372036854775807 by omega)]
   ·simp [e1,e2,yR e2]
  ·simp [e1,yR e1]
 unfold nV
 refine Lc (c:=c) (z:=(0,0,0,0)) rfl (L2:=jI c) (L3:=jH c) (k4:=4) (k6:=6) ?_ ?_ ?_ ?_ ?_ ?_ ?_ ?_ ?_ ?_ ?_
 ·intro i hi hp; rw [u0 i hi,hp]; rfl
 ·intro i hi hp; rw [u0 i hi,hp]; exact ⟨_,rfl,by simp⟩
 ·unfold lB; rw [ba (by omega),cond_false]
 ·intro i hi; unfold oH; rw [aq (by omega),cond_true,bH (by omega)]
 ·unfold oH; rw [ba (by omega),cond_false]
 ·intro i j hi hj he
  unfold jI
  rw [aq (by omega),cond_true,H.jj (by omega) (by omega),aD,H.ji (by omega) (by omega),aD,show (gi c.To (i:Int) != gi c.aC (j:Int))=true by simp [he],cond_true,bH (by omega)]
 ·intro i j hi hj he
  unfold jI
  rw [aq (by omega),cond_true,H.jj (by omega) (by omega),aD,H.ji (by omega) (by omega),aD,show (gi c.To (i:Int) != gi c.aC (j:Int))=false by simp [he],cond_false,bH (by omega)]
 ·intro i; unfold jI; rw [ba (by omega),cond_false]
 ·intro i j h hi hj hh he hp
  unfold jH
  rw [aq (by omega),cond_true,H.jj (by omega) (by omega),aD,H.ji (by omega) (by omega),aD]
  unfold xq at hp
  by_cases e:gi c.To j=gi c.aC h
  ·have c1:=H.cell i j (by omega) (by omega) (by omega) (by omega) he
   have c2:=H.cell j h (by omega) (by omega) (by omega) (by omega) e
   rw [show (gi c.To (j:Int) == gi c.aC (h:Int))=true by simp [e]] at hp ⊢
   rw [cond_true,H.mm (by omega) (by omega),aD,H.l5 (by omega) (by omega) (by omega) (by omega),aD,H.mm c1.1 c1.2.1,aD,H.l5 c1.1 c1.2.1 (by omega) (by omega),aD,aD,H.mm (by omega) (by omega),aD,H.l5 (by omega) (by omega) (by omega) (by omega),aD,H.l5 (by omega) (by omega) c2.1 c2.2.1,aD]
   rw [Bool.true_and] at hp
   rw [hp,aD,cond_false,bH (by omega)]
  ·rw [show (gi c.To (j:Int) == gi c.aC (h:Int))=false by simp [e],cond_false,aD,cond_false,bH (by omega)]
 ·intro i j h hi hj hh he hp
  unfold jH
  rw [aq (by omega),cond_true,H.jj (by omega) (by omega),aD,H.ji (by omega) (by omega),aD]
  unfold xq at hp
  simp only [Bool.and_eq_true] at hp
  have e:gi c.To j=gi c.aC h:=by simpa using hp.1
  have c1:=H.cell i j (by omega) (by omega) (by omega) (by omega) he
  have c2:=H.cell j h (by omega) (by omega) (by omega) (by omega) e
  rw [hp.1,cond_true,H.mm (by omega) (by omega),aD,H.l5 (by omega) (by omega) (by omega) (by omega),aD,H.mm c1.1 c1.2.1,aD,H.l5 c1.1 c1.2.1 (by omega) (by omega),aD,aD,H.mm (by omega) (by omega),aD,H.l5 (by omega) (by omega) (by omega) (by omega),aD,H.l5 (by omega) (by omega) c2.1 c2.2.1,aD]
  rw [hp.2,aD,cond_true]
  exact ⟨_,rfl,by simp⟩
 ·intro i j; unfold jH; rw [ba (by omega),cond_false]
theorem OU:∃ y,jN c=some y∧(y.1 == 0)=Bz c:=by
 have hm:=H.m
 have ux:=H.il
 have u0:∀ i:Nat,i < c.aC.length→gJ c c.aC.length i=if vM c i then some (Out.norm ((i+1:Nat):Int)) else some (Out.ret ((1:Int),(i:Int),(0:Int),(0:Int))):=by
  intro i hi
  have f1:=H.fr (f:=(i:Int)) (by omega) (by omega)
  have t1:=H.to (f:=(i:Int)) (by omega) (by omega)
  have i1:=H.id f1.1 f1.2
  have i2:=H.id t1.1 t1.2
  unfold gJ
  rw [aq (by omega),cond_true,H.ji (by omega) (by omega),aD,H.qw f1.1 f1.2,aD,H.q9 i1.1 i1.2 (by omega) (by omega),aD]
  rw [H.jj (by omega) (by omega),aD,H.qw t1.1 t1.2,aD,H.q9 (by omega) (by omega) i2.1 i2.2,aD]
  unfold vM
  by_cases e1:gk c.aB (gi c.aH (gi c.aC i)) i=i
  ·by_cases e2:gk c.aB i (gi c.aH (gi c.To i))=i
   ·simp [e1,e2,bH (show i < 9223372036854775807 by omega)]
   ·simp [e1,e2,yR e2]
  ·simp [e1,yR e1]
 have pos:∀ i j:Nat,i < c.aC.length→j < c.aC.length→(gi c.To i=gi c.aC j→0≤gk c.aB i j)∧(gi c.To i≠gi c.aC j→gk c.aB i j < 0):=by
  intro i j hi hj
  refine ⟨fun e=>(H.cell i j (by omega) (by omega) (by omega) (by omega) e).1,fun e=>?_⟩
  rw [H.none i j (by omega) (by omega) (by omega) (by omega) e]; decide
 unfold jN cH
 rw [show ak (S:=Unit) (some (Out.ret (c.aC.length:Int)))=some (c.aC.length:Int) from rfl,aD]
 refine Lc (c:=c) (z:=(0,0,0,0)) rfl (L2:=eY c c.aC.length) (L3:=eX c c.aC.length) (k4:=4) (k6:=6) ?_ ?_ ?_ ?_ ?_ ?_ ?_ ?_ ?_ ?_ ?_
 ·intro i hi hp; rw [u0 i hi,hp]; rfl
 ·intro i hi hp; rw [u0 i hi,hp]; exact ⟨_,rfl,by simp⟩
 ·unfold gJ; rw [ba (by omega),cond_false]
 ·intro i hi; unfold kB; rw [aq (by omega),cond_true,bH (by omega)]
 ·unfold kB; rw [ba (by omega),cond_false]
 ·intro i j hi hj he
  unfold eY
  rw [aq (by omega),cond_true,H.q9 (by omega) (by omega) (by omega) (by omega),aD,aq ((pos i j hi hj).2 he),cond_true,bH (by omega)]
 ·intro i j hi hj he
  have:=(pos i j hi hj).1 he
  unfold eY
  rw [aq (by omega),cond_true,H.q9 (by omega) (by omega) (by omega) (by omega),aD,ba (by omega),cond_false,bH (by omega)]
 ·intro i; unfold eY; rw [ba (by omega),cond_false]
 ·intro i j h hi hj hh he hp
  unfold eX
  rw [aq (by omega),cond_true,H.q9 (by omega) (by omega) (by omega) (by omega),aD]
  unfold xq at hp
  by_cases e:gi c.To j=gi c.aC h
  ·have c1:=H.cell i j (by omega) (by omega) (by omega) (by omega) he
   have c2:=H.cell j h (by omega) (by omega) (by omega) (by omega) e
   rw [show (gi c.To (j:Int) == gi c.aC (h:Int))=true by simp [e],Bool.true_and] at hp
   rw [aq (show gk c.aB j h ≥ 0 from c2.1),cond_true,H.q9 (by omega) (by omega) (by omega) (by omega),aD,H.q9 c1.1 c1.2.1 (by omega) (by omega),aD,aD,H.q9 (by omega) (by omega) c2.1 c2.2.1,aD,hp,aD,cond_false,bH (by omega)]
  ·have:=(pos j h hj hh).2 e
   rw [ba (show ¬ gk c.aB j h ≥ 0 by omega),cond_false,aD,cond_false,bH (by omega)]
 ·intro i j h hi hj hh he hp
  unfold eX
  unfold xq at hp
  simp only [Bool.and_eq_true] at hp
  have e:gi c.To j=gi c.aC h:=by simpa using hp.1
  have c1:=H.cell i j (by omega) (by omega) (by omega) (by omega) he
  have c2:=H.cell j h (by omega) (by omega) (by omega) (by omega) e
  rw [aq (by omega),cond_true,H.q9 (by omega) (by omega) (by omega) (by omega),aD,aq (show gk c.aB j h ≥ 0 from c2.1),cond_true,H.q9 (by omega) (by omega) (by omega) (by omega),aD,H.q9 c1.1 c1.2.1 (by omega) (by omega),aD,aD,H.q9 (by omega) (by omega) c2.1 c2.2.1,aD,hp.2,aD,cond_true]
  exact ⟨_,rfl,by simp⟩
 ·intro i j; unfold eX; rw [ba (by omega),cond_false]
end
structure mc (c:aG):Prop extends rF c where
 vN:∀ f:Int,0≤f→f < c.aC.length→gk c.aB (gi c.aH (gi c.aC f)) f=f
 EZ:∀ f:Int,0≤f→f < c.aC.length→gk c.aB f (gi c.aH (gi c.To f))=f
 assoc:∀ f g h:Int,0≤f→f < c.aC.length→0≤g→g < c.aC.length→0≤h→h < c.aC.length→gi c.To f=gi c.aC g→gi c.To g=gi c.aC h→
  gk c.aB (gk c.aB f g) h=gk c.aB f (gk c.aB g h)
def ri (c:aG):Bool:=r5 c && Bz c
theorem wX {c:aG} (h:ri c=true):mc c:=by
 unfold ri at h
 simp only [Bool.and_eq_true] at h
 obtain ⟨h1,h2⟩:=h
 have H:=D3 h1
 unfold Bz at h2
 simp only [Bool.and_eq_true,List.all_eq_true,Bool.not_eq_true',List.any_eq_false] at h2
 obtain ⟨h2,h3⟩:=h2
 refine { H with
  vN:=fun f a b=>?_
  EZ:=fun f a b=>?_
  assoc:=fun f g h a b a' b' a'' b'' e1 e2=>?_ }
 ·have:=h2 f (bp.2 ⟨a,b⟩); unfold vM at this; simp at this; exact this.1
 ·have:=h2 f (bp.2 ⟨a,b⟩); unfold vM at this; simp at this; exact this.2
 ·have:=h3 f (bp.2 ⟨a,b⟩)
  unfold FX at this
  simp only [List.any_eq_true,not_exists,not_and] at this
  have:=this g (bp.2 ⟨a',b'⟩)
  unfold CC at this
  simp only [Bool.and_eq_true,beq_iff_eq,List.any_eq_true,not_and,not_exists] at this
  have:=this e1 h (bp.2 ⟨a'',b''⟩)
  unfold xq at this
  simpa [e2] using this
theorem OV {c:aG} (hs:ir c):pH c=some (ri c):=by
 unfold pH
 rw [OR hs,aD]
 unfold ri
 cases h:r5 c with
 | false=>rfl
 | true=>
  obtain ⟨y,h1,h2⟩:=OT (D3 h)
  rw [Bool.not_true,cond_false,h1,aD,h2]; rfl
theorem Jn {c:aG} (hs:ir c):eN c=some (ri c):=by
 unfold eN
 rw [OS hs,aD]
 unfold ri
 cases h:r5 c with
 | false=>rfl
 | true=>
  obtain ⟨y,h1,h2⟩:=OU (D3 h)
  rw [Bool.not_true,cond_false,h1,aD,h2]; rfl
end Go.Proofs.YtbmchcnkbonmkaaGreat
