/- Is a table a category: the reference and the program agree, and what is known of a category. No condition beside those that each theorem names. -/
import Derived.Test.YtilhlobfebngdaaGreatPa
namespace Go.Li
open Go
section
variable {S S1 R α:Type} {body:S1→Option (Out S1 R)}
theorem An {k:Nat} {f:S1→Option (Out S R)} {s0 e:S1} (l:List α) (p:α→Bool) (G:R→Prop) (st:Nat→S1) (h0:st 0=s0) (step:∀ i x,l[i]? = some x→p x=false→body (st i)=some (.norm (st (i+1))))
  (QJ:∀ i x,l[i]? = some x→p x=true→∃ y,body (st i)=some (.ret y)∧G y) (last:body (st l.length)=some (.exit k e)) :
  (l.any p=true∧∃ y,af (ae k (ah body s0)) f=some (.ret y)∧G y)∨(l.any p=false∧af (ae k (ah body s0)) f=f e):=by
 have key:∀ (m:List α) (i:Nat),l.drop i=m→i≤l.length→(m.any p=true∧∃ y,ah body (st i)=some (.ret y)∧G y)∨(m.any p=false∧ah body (st i)=some (.exit k e)):=by
  intro m
  induction m with
  | nil=>
   intro i hd hi
   have:i=l.length:=by have:=congrArg List.length hd; simp at this; omega
   subst this
   exact .inr ⟨rfl,zg last⟩
  | cons x m ih=>
   intro i hd hi
   have bn:i < l.length:=by
    rcases Nat.lt_or_ge i l.length with h | h
    ·exact h
    ·rw [List.drop_eq_nil_of_le h] at hd; cases hd
   have hx:l[i]? = some x:=by
    rw [List.drop_eq_getElem_cons bn] at hd
    rw [List.getElem?_eq_getElem bn]; exact congrArg some (List.cons.inj hd).1
   have ju:l.drop (i+1)=m:=by
    rw [List.drop_eq_getElem_cons bn] at hd; exact (List.cons.inj hd).2
   cases hp:p x with
   | true=>
    obtain ⟨y,hy,hg⟩:=QJ i x hx hp
    exact .inl ⟨by simp [hp],y,D6 hy,hg⟩
   | false=>
    rw [vY,step i x hx hp]
    simpa [hp] using ih (i+1) ju bn
 rcases key l 0 rfl (Nat.zero_le _) with ⟨h1,y,h2,h3⟩ | ⟨h1,h2⟩
 ·rw [h0] at h2; exact .inl ⟨h1,y,GY h2,h3⟩
 ·rw [h0] at h2; exact .inr ⟨h1,BW h2⟩
theorem QM {n i x:Nat} (h:(List.range n)[i]? = some x):x=i∧i < n:=by
 have hi:=cc h
 rw [List.getElem?_eq_getElem hi] at h
 simp at h hi
 exact ⟨h.symm,hi⟩
end
def gi (l:List Int) (j:Int):Int:=l.getD j.toNat 0
def gr (l:List (List Int)) (j:Int):List Int:=l.getD j.toNat []
def gk (l:List (List Int)) (i j:Int):Int:=gi (gr l i) j
theorem bQ {l:List Int} {j:Int} (h0:0≤j) (h1:j < l.length):idx l j=some (gi l j):=by
 rw [D8 h0 h1]; unfold gi; rw [List.getD_eq_getElem?_getD,List.getElem?_eq_getElem (by omega)]; rfl
theorem fx {l:List (List Int)} {j:Int} (h0:0≤j) (h1:j < l.length):idx l j=some (gr l j):=by
 rw [D8 h0 h1]; unfold gr; rw [List.getD_eq_getElem?_getD,List.getElem?_eq_getElem (by omega)]; rfl
theorem dc {l:List Int} {j:Int} (h0:0≤j) (h1:j < l.length):gi l j∈l:=by
 unfold gi; rw [List.getD_eq_getElem?_getD,List.getElem?_eq_getElem (by omega)]; exact List.getElem_mem _
theorem fy {l:List (List Int)} {j:Int} (h0:0≤j) (h1:j < l.length):gr l j∈l:=by
 unfold gr; rw [List.getD_eq_getElem?_getD,List.getElem?_eq_getElem (by omega)]; exact List.getElem_mem _
def ns (n:Nat):List Int:=(List.range n).map Int.ofNat
theorem dy {n i:Nat} {x:Int} (h:(ns n)[i]? = some x):x=(i:Int)∧i < n:=by
 unfold ns at h
 rw [List.getElem?_map] at h
 cases hr:(List.range n)[i]? with
 | none=>rw [hr] at h; cases h
 | some y=>
  rw [hr] at h
  obtain ⟨rfl,hi⟩:=QM hr
  exact ⟨(Option.some.inj h).symm,hi⟩
theorem cN (n:Nat):(ns n).length=n:=by simp [ns]
theorem fg {n:Nat} {x:Int}:x∈ns n↔0≤x∧x < n:=by
 unfold ns
 simp only [List.mem_map,List.mem_range]
 constructor
 ·rintro ⟨a,h1,rfl⟩; simp; omega
 ·rintro ⟨h1,h2⟩; exact ⟨x.toNat,by omega,by simp; omega⟩
end Go.Li
namespace Go.Proofs.YtilhlobfebngdaaGreat
open Go Go.Li
def np (n:Int) (f:List Int):Bool:=f.all fun y=>decide (0≤y) && decide (y < n)
theorem qg {n:Int} {f:List Int}:np n f=true↔∀ y∈f,0≤y∧y < n:=by simp [np]
theorem pg {α:Type} (l:List α) (p:α→Bool):l.any (fun x=>!p x) = !l.all p:=by
 induction l with
 | nil=>rfl
 | cons a l ih=>simp only [List.any_cons,List.all_cons,ih,Bool.not_and]
theorem BZ (n:Int) (f:List Int) (hf:f.length≤1048576000):kR n f=some (np n f):=by
 unfold kR
 refine (congrArg ak (l4 f (fun y=>!(decide (0≤y) && decide (y < n))) (fun i=>(i:Int)) rfl ?_ ?_ (e:=(f.length:Int)) (y:=false) ?_)).trans ?_
 ·intro i x hx hp
  have hi:=cc hx
  unfold pB
  simp only [Bool.not_eq_false',Bool.and_eq_true,decide_eq_true_eq] at hp
  rw [au (by omega),cond_true,ch,hx,aD,ay (by omega),cond_false,aD,ay (by omega),aD,cond_false,bR (by omega)]
 ·intro i x hx hp
  have hi:=cc hx
  unfold pB
  rw [au (by omega),cond_true,ch,hx,aD,aD]
  by_cases h:x < 0
  ·rw [au h,cond_true,aD,cond_true]
  ·have:n≤x:=by simp at hp; omega
   rw [ay h,cond_false,au (by omega),aD,cond_true]
 ·unfold pB
  rw [ay (by omega),cond_false]
 ·rw [pg]
  show ak (if (!np n f)=true then _ else _)=_
  cases np n f <;> rfl
theorem EM (n a b:Int):mS n a b=some (decide (a≤n) && decide (n≤b)):=by
 unfold mS
 by_cases h:a≤n
 ·rw [au (show n ≥ a from h),cond_true]; rfl
 ·rw [ay (show ¬ n ≥ a from h),cond_false]; rfl
theorem aab (n a b:Int):tP n a b=some (decide (a≤n) && decide (n≤b)):=by
 unfold tP
 by_cases h:a≤n
 ·rw [au (show n ≥ a from h),cond_true]; rfl
 ·rw [ay (show ¬ n ≥ a from h),cond_false]; rfl
theorem within (f:List Int) (n:Int) (hf:f.length≤1048576000) (hn:0≤n) (Nb:n≤1048576000):gT f n=some (np n f):=by
 unfold gT
 refine (congrArg ak (l4 f (fun y=>!(decide (0≤y) && decide (y < n))) (fun i=>(i:Int)) rfl ?_ ?_ (e:=(f.length:Int)) (y:=false) ?_)).trans ?_
 ·intro i x hx hp
  have hi:=cc hx
  unfold pD
  simp only [Bool.not_eq_false',Bool.and_eq_true,decide_eq_true_eq] at hp
  rw [au (by omega),cond_true,ch,hx,aD,eH (by omega) (by omega),EM,aD,au hp.1,au (by omega)]
  simp only [Bool.and_self,Bool.not_true,cond_false]
  rw [bR (by omega)]
 ·intro i x hx hp
  have hi:=cc hx
  unfold pD
  rw [au (by omega),cond_true,ch,hx,aD,eH (by omega) (by omega),EM,aD]
  have:(decide (0≤x) && decide (x≤n - 1))=false:=by
   by_cases h:x < 0
   ·rw [ay (by omega)]; rfl
   ·have:n≤x:=by simp at hp; omega
    rw [ay (show ¬ x≤n - 1 by omega),Bool.and_false]
  rw [this]; rfl
 ·unfold pD
  rw [ay (by omega),cond_false]
 ·rw [pg]
  show ak (if (!np n f)=true then _ else _)=_
  cases np n f <;> rfl
def x8 (c:aF):Bool:=((decide (0≤c.aA) && decide (c.aA≤8)) && (decide (c.aE.length≤40) && np c.aA c.aE)) && (((c.To.length == c.aE.length) && np c.aA c.To) && ((c.aC.length == c.aE.length) && (((c.aH.length:Int) == c.aA) && np c.aE.length c.aH)))
def B0 (c:aF) (x:Int):Bool:=gi c.aE (gi c.aH x) == x && gi c.To (gi c.aH x) == x
def w6 (c:aF) (f g:Int):Bool:=
 if gi c.To f=gi c.aE g then (decide (0≤gk c.aC f g) && decide (gk c.aC f g < c.aE.length)) && (gi c.aE (gk c.aC f g) == gi c.aE f && gi c.To (gk c.aC f g) == gi c.To g)
 else gk c.aC f g == -1
def Ao (c:aF) (f:Int):Bool:=((gr c.aC f).length == c.aE.length) && (ns c.aE.length).all fun g=>w6 c f g
def qt (c:aF):Bool:=x8 c && ((ns c.aH.length).all (B0 c) && (ns c.aE.length).all (Ao c))
structure Head (c:aF):Prop where
 o0:0≤c.aA
 o8:c.aA≤8
 m:c.aE.length≤40
 f:∀ x∈c.aE,0≤x∧x < c.aA
 tl:c.To.length=c.aE.length
 t:∀ x∈c.To,0≤x∧x < c.aA
 kl:c.aC.length=c.aE.length
 il:(c.aH.length:Int)=c.aA
 i:∀ x∈c.aH,0≤x∧x < c.aE.length
theorem HP {c:aF} (h:x8 c=true):Head c:=by
 unfold x8 at h
 simp only [Bool.and_eq_true,decide_eq_true_eq,qg,beq_iff_eq] at h
 obtain ⟨⟨⟨h1,h2⟩,h3,h4⟩,⟨h5,h6⟩,h7,h8,h9⟩:=h
 exact ⟨h1,h2,h3,h4,h5,h6,h7,h8,h9⟩
set_option linter.unusedSectionVars false
namespace Head
variable {c:aF} (h:Head c)
include h
theorem fr {f:Int} (h0:0≤f) (h1:f < c.aE.length):0≤gi c.aE f∧gi c.aE f < c.aA:=h.f _ (dc h0 h1)
theorem to {f:Int} (h0:0≤f) (h1:f < c.aE.length):0≤gi c.To f∧gi c.To f < c.aA:=h.t _ (dc h0 (by rw [h.tl]; exact h1))
theorem id {x:Int} (h0:0≤x) (h1:x < c.aA):0≤gi c.aH x∧gi c.aH x < c.aE.length:=h.i _ (dc h0 (by rw [h.il]; exact h1))
theorem jc {f:Int} (h0:0≤f) (h1:f < c.aE.length):idx c.aE f=some (gi c.aE f):=bQ h0 h1
theorem jm {f:Int} (h0:0≤f) (h1:f < c.aE.length):idx c.To f=some (gi c.To f):=bQ h0 (by rw [h.tl]; exact h1)
theorem ou {x:Int} (h0:0≤x) (h1:x < c.aA):idx c.aH x=some (gi c.aH x):=bQ h0 (by rw [h.il]; exact h1)
theorem ni {f:Int} (h0:0≤f) (h1:f < c.aE.length):idx c.aC f=some (gr c.aC f):=fx h0 (by rw [h.kl]; exact h1)
end Head
theorem QN {c:aF} (hs:gh c):rT c=some (qt c):=by
 obtain ⟨z1,z2,z3,z4,z5⟩:=hs
 have ends:∀ (l:List Int) (n:Nat) (o:Int),l.length≤1048576→oL l (n:Int) o=some ((l.length == n) && np o l):=by
  intro l n o hl
  unfold oL
  by_cases e:l.length=n
  ·rw [show ((l.length:Int) == (n:Int))=true by simp [e],cond_true,BZ _ _ (by omega),show (l.length == n)=true by simp [e]]; rfl
  ·rw [show ((l.length:Int) == (n:Int))=false by simp; omega,cond_false,show (l.length == n)=false by simp [e]]; rfl
 unfold rT
 rw [aab,aD,ends _ _ _ z1,ends _ _ _ z2]
 have e1:((c.aC.length:Int) != (c.aE.length:Int)) = !(c.aC.length == c.aE.length):=by
  by_cases e:c.aC.length=c.aE.length
  ·simp [e]
  ·rw [show (c.aC.length == c.aE.length)=false by simp [e]]; simp; omega
 have e2:decide ((c.aE.length:Int) > 40) = !decide (c.aE.length≤40):=by
  by_cases e:c.aE.length≤40
  ·rw [au e,ay (by omega)]; rfl
  ·rw [ay e,au (by omega)]; rfl
 rw [e1,e2,BZ _ _ (by omega)]
 cases hh:x8 c with
 | false=>
  have:qt c=false:=by unfold qt; rw [hh]; rfl
  rw [this]
  unfold x8 at hh
  generalize (decide (0≤c.aA) && decide (c.aA≤8))=a1 at *
  generalize decide (c.aE.length≤40)=a2 at *
  generalize np c.aA c.aE=a3 at *
  generalize (c.To.length == c.aE.length)=a4 at *
  generalize np c.aA c.To=a5 at *
  generalize (c.aC.length == c.aE.length)=a6 at *
  have e3:((c.aH.length:Int) != c.aA) = !((c.aH.length:Int) == c.aA):=rfl
  rw [e3]
  generalize ((c.aH.length:Int) == c.aA)=a7 at *
  generalize np (c.aE.length:Int) c.aH=a8 at *
  simp only [beq_self_eq_true,Bool.true_and]
  cases a1 <;> first | rfl | (cases a2 <;> first | rfl | (cases a3 <;> first | rfl | (cases a4 <;> first | rfl | (cases a5 <;> first | rfl | (cases a6 <;> first | rfl | (cases a7 <;> first | rfl | (cases a8 <;> first | rfl | (cases hh))))))))
 | true=>
  have H:=HP hh
  have Lk:=hh
  unfold x8 at Lk
  simp only [Bool.and_eq_true] at Lk
  obtain ⟨⟨⟨b1,MA⟩,b2,b3⟩,⟨b4,b5⟩,b6,b7,b8⟩:=Lk
  rw [b1,MA,b2,b3,b4,b5,b6,b8,show ((c.aH.length:Int) != c.aA) = !((c.aH.length:Int) == c.aA) from rfl,b7]
  simp only [beq_self_eq_true,Bool.and_self,Bool.not_true,cond_false,aD]
  have hm:=H.m
  have vp:=H.il
  refine (congrArg ak (l4 (ns c.aH.length) (fun x=>!B0 c x) (fun i=>(i:Int)) rfl ?_ ?_ (e:=(c.aH.length:Int)) (y:=false) ?_)).trans ?_
  ·intro i x hx hp
   obtain ⟨rfl,hi⟩:=dy hx
   have:=H.id (x:=(i:Int)) (by omega) (by omega)
   unfold nV
   unfold B0 at hp
   simp only [Bool.not_eq_false',Bool.and_eq_true,beq_iff_eq] at hp
   rw [au (by omega),cond_true,H.ou (by omega) (by omega),aD,H.jc this.1 this.2,aD,hp.1,bne_self_eq_false,cond_false,aD,H.jm this.1 this.2,aD,hp.2,bne_self_eq_false,aD,cond_false,bR (by omega)]
  ·intro i x hx hp
   obtain ⟨rfl,hi⟩:=dy hx
   have:=H.id (x:=(i:Int)) (by omega) (by omega)
   unfold nV
   unfold B0 at hp
   rw [au (by omega),cond_true,H.ou (by omega) (by omega),aD,H.jc this.1 this.2,aD]
   by_cases e:gi c.aE (gi c.aH i)=i
   ·rw [e,bne_self_eq_false,cond_false,aD,H.jm this.1 this.2,aD]
    have:(gi c.To (gi c.aH i) != (i:Int))=true:=by
     rw [e] at hp; simpa using hp
    rw [this]; rfl
   ·rw [show (gi c.aE (gi c.aH i) != (i:Int))=true by simp [e]]; rfl
  ·unfold nV
   rw [cN,ay (by omega),cond_false]
  rw [pg]
  unfold qt
  rw [hh]
  cases vz:(ns c.aH.length).all (B0 c) with
  | false=>rfl
  | true=>
   simp only [Bool.not_true,Bool.false_eq_true,if_false,Bool.true_and]
   refine (congrArg ak (l4 (ns c.aE.length) (fun f=>!Ao c f) (fun i=>(i:Int)) rfl ?_ ?_ (e:=(c.aE.length:Int)) (y:=false) ?_)).trans ?_
   rotate_left 2
   ·unfold rS
    rw [cN,ay (by omega),cond_false]
   ·rw [pg]
    cases (ns c.aE.length).all (Ao c) <;> rfl
   all_goals
    intro i x hx hp
    obtain ⟨rfl,hi⟩:=dy hx
    have hK:=H.ni (f:=(i:Int)) (by omega) (by omega)
    have inner:(gr c.aC i).length=c.aE.length→af (S:=Int) (ae 4 (ah (nW c i) (0:Int))) (fun BE=>(some (Out.norm (aj ((i:Int)+(1:Int)))))) =
      if (ns c.aE.length).any (fun g=>!w6 c i g) then some (.ret false) else some (Out.norm (aj ((i:Int)+(1:Int)))):=by
     intro hr
     refine l4 (ns c.aE.length) (fun g=>!w6 c i g) (fun j=>(j:Int)) rfl ?_ ?_ (e:=(c.aE.length:Int)) (y:=false) ?_
     rotate_left 2
     ·unfold nW
      rw [cN,ay (by omega),cond_false]
     all_goals
      intro j y hy hq
      obtain ⟨rfl,hj⟩:=dy hy
      unfold nW
      rw [au (by omega),cond_true,hK,aD,bQ (by omega) (by omega),aD,H.jm (by omega) (by omega),aD,H.jc (by omega) (by omega),aD]
      unfold w6 gk at hq
      by_cases e:gi c.To i=gi c.aE j
      ·rw [if_pos e] at hq
       rw [show (gi c.To (i:Int) != gi c.aE (j:Int))=false by simp [e],cond_false]
       by_cases l0:gi (gr c.aC i) j < 0
       ·rw [ay (show ¬ 0≤gi (gr c.aC i) j by omega)] at hq
        rw [au l0,cond_true,aD,cond_true]
        all_goals (first | rfl | simp at hq)
       ·rw [au (show 0≤gi (gr c.aC i) j by omega)] at hq
        rw [ay l0,cond_false]
        by_cases l1:gi (gr c.aC i) j < c.aE.length
        ·rw [au l1] at hq
         rw [ay (show ¬ gi (gr c.aC i) j ≥ c.aE.length by omega),cond_false,H.jc (by omega) l1,aD,H.jc (by omega) (by omega),aD]
         by_cases q1:gi c.aE (gi (gr c.aC i) j)=gi c.aE i
         ·rw [show (gi c.aE (gi (gr c.aC (i:Int)) (j:Int)) == gi c.aE (i:Int))=true by simp [q1]] at hq
          rw [show (gi c.aE (gi (gr c.aC (i:Int)) (j:Int)) != gi c.aE (i:Int))=false by simp [q1],cond_false,H.jm (by omega) l1,aD,H.jm (by omega) (by omega),aD,aD]
          simp only [Bool.and_self,Bool.true_and] at hq
          rw [show (gi c.To (gi (gr c.aC (i:Int)) (j:Int)) != gi c.To (j:Int)) = !(gi c.To (gi (gr c.aC (i:Int)) (j:Int)) == gi c.To (j:Int)) from rfl,hq]
          all_goals (first | rfl | rw [cond_false,bR (by omega)])
         ·rw [show (gi c.aE (gi (gr c.aC (i:Int)) (j:Int)) == gi c.aE (i:Int))=false by simp [q1]] at hq
          rw [show (gi c.aE (gi (gr c.aC (i:Int)) (j:Int)) != gi c.aE (i:Int))=true by simp [q1],cond_true]
          all_goals (first | rfl | simp at hq)
        ·rw [ay l1] at hq
         rw [au (show gi (gr c.aC i) j ≥ c.aE.length by omega),cond_true]
         all_goals (first | rfl | simp at hq)
      ·rw [if_neg e] at hq
       rw [show (gi c.To (i:Int) != gi c.aE (j:Int))=true by simp [e],cond_true,show (gi (gr c.aC (i:Int)) (j:Int) != -1) = !(gi (gr c.aC (i:Int)) (j:Int) == -1) from rfl,hq]
       all_goals (first | rfl | rw [cond_false,bR (by omega)])
    unfold rS
    rw [au (by omega),cond_true,hK,aD]
    unfold Ao at hp
    by_cases hr:(gr c.aC i).length=c.aE.length
    ·rw [show (((gr c.aC (i:Int)).length:Int) != (c.aE.length:Int))=false by simp [hr],cond_false,inner hr,pg]
     rw [show ((gr c.aC (i:Int)).length == c.aE.length)=true by simp [hr],Bool.true_and] at hp
     rw [hp,bR (by omega)]
     rfl
    ·rw [show (((gr c.aC (i:Int)).length:Int) != (c.aE.length:Int))=true by (simp; omega),cond_true]
     all_goals (rw [show ((gr c.aC (i:Int)).length == c.aE.length)=false by simp [hr],Bool.false_and] at hp; first | rfl | simp at hp)
end Go.Proofs.YtilhlobfebngdaaGreat
namespace Go.Proofs.YtilhlobfebngdaaGreat
open Go Go.Li
set_option linter.unusedSectionVars false
theorem D9 {c:aF} (H:Head c) {f:Int} (h0:0≤f) (h1:f < c.aE.length):eQ c f=some (vL.mk (gi c.aE f) (gi c.To f)):=by
 unfold eQ
 rw [H.jc h0 h1,aD,H.jm h0 h1,aD]; rfl
theorem QO {c:aF} (hs:gh c):jZ c=some (qt c):=by
 obtain ⟨z1,z2,z3,z4,z5⟩:=hs
 unfold jZ cY
 rw [show ak (S:=Unit) (some (Out.ret (c.aE.length:Int)))=some (c.aE.length:Int) from rfl,aD,EM,aD]
 have e1:((c.aC.length:Int) != (c.aE.length:Int)) = !(c.aC.length == c.aE.length):=by
  by_cases e:c.aC.length=c.aE.length
  ·simp [e]
  ·rw [show (c.aC.length == c.aE.length)=false by simp [e]]; simp; omega
 have e1':((c.To.length:Int) != (c.aE.length:Int)) = !(c.To.length == c.aE.length):=by
  by_cases e:c.To.length=c.aE.length
  ·simp [e]
  ·rw [show (c.To.length == c.aE.length)=false by simp [e]]; simp; omega
 have e2:decide ((c.aE.length:Int) > 40) = !decide (c.aE.length≤40):=by
  by_cases e:c.aE.length≤40
  ·rw [au e,ay (by omega)]; rfl
  ·rw [ay e,au (by omega)]; rfl
 have e3:((c.aH.length:Int) != c.aA) = !((c.aH.length:Int) == c.aA):=rfl
 rw [e1,e1',e2,e3,within c.aH _ (by omega) (by omega) (by omega)]
 cases hh:x8 c with
 | false=>
  have:qt c=false:=by unfold qt; rw [hh]; rfl
  rw [this]
  unfold x8 at hh
  cases ha:(decide (0≤c.aA) && decide (c.aA≤8)) with
  | false=>rfl
  | true=>
   rw [ha] at hh
   simp only [Bool.and_eq_true,decide_eq_true_eq] at ha
   rw [within c.aE _ (by omega) ha.1 (by omega),within c.To _ (by omega) ha.1 (by omega)]
   generalize decide (c.aE.length≤40)=a2 at *
   generalize np c.aA c.aE=a3 at *
   generalize (c.To.length == c.aE.length)=a4 at *
   generalize np c.aA c.To=a5 at *
   generalize (c.aC.length == c.aE.length)=a6 at *
   generalize ((c.aH.length:Int) == c.aA)=a7 at *
   generalize np (c.aE.length:Int) c.aH=a8 at *
   cases a2 <;> first | rfl | (cases a4 <;> first | rfl | (cases a3 <;> first | rfl | (cases a5 <;> first | rfl | (cases a7 <;> first | rfl | (cases a8 <;> first | rfl | (cases a6 <;> first | rfl | (cases hh)))))))
 | true=>
  have H:=HP hh
  have Lk:=hh
  unfold x8 at Lk
  simp only [Bool.and_eq_true] at Lk
  obtain ⟨⟨⟨b1,MA⟩,b2,b3⟩,⟨b4,b5⟩,b6,b7,b8⟩:=Lk
  rw [within c.aE _ (by omega) H.o0 (by have:=H.o8; omega),within c.To _ (by omega) H.o0 (by have:=H.o8; omega)]
  rw [b1,MA,b2,b3,b4,b5,b6,b8,b7]
  simp only [Bool.and_self,Bool.not_true,cond_false,aD]
  have hm:=H.m
  have vp:=H.il
  have E2:=H.kl
  refine (congrArg ak (l4 (ns c.aH.length) (fun x=>!B0 c x) (fun i=>(i:Int)) rfl ?_ ?_ (e:=(c.aH.length:Int)) (y:=false) ?_)).trans ?_
  ·intro i x hx hp
   obtain ⟨rfl,hi⟩:=dy hx
   have:=H.id (x:=(i:Int)) (by omega) (by omega)
   unfold iP
   unfold B0 at hp
   simp only [Bool.not_eq_false'] at hp
   rw [au (by omega),cond_true,H.ou (by omega) (by omega),aD,D9 H this.1 this.2,aD]
   dsimp only
   rw [hp,Bool.not_true,cond_false,bR (by omega)]
  ·intro i x hx hp
   obtain ⟨rfl,hi⟩:=dy hx
   have:=H.id (x:=(i:Int)) (by omega) (by omega)
   unfold iP
   unfold B0 at hp
   rw [au (by omega),cond_true,H.ou (by omega) (by omega),aD,D9 H this.1 this.2,aD]
   dsimp only
   rw [hp,cond_true]
  ·unfold iP
   rw [cN,ay (by omega),cond_false]
  rw [pg]
  unfold qt
  rw [hh]
  cases vz:(ns c.aH.length).all (B0 c) with
  | false=>rfl
  | true=>
   simp only [Bool.not_true,Bool.false_eq_true,if_false,Bool.true_and]
   refine (congrArg ak (l4 (ns c.aE.length) (fun f=>!Ao c f) (fun i=>(i:Int)) rfl ?_ ?_ (e:=(c.aE.length:Int)) (y:=false) ?_)).trans ?_
   rotate_left 2
   ·unfold lH
    rw [cN,ay (by omega),cond_false]
   ·rw [pg]
    cases (ns c.aE.length).all (Ao c) <;> rfl
   all_goals
    intro i x hx hp
    obtain ⟨rfl,hi⟩:=dy hx
    have hK:=H.ni (f:=(i:Int)) (by omega) (by omega)
    have inner:(gr c.aC i).length=c.aE.length→af (S:=Int) (ae 4 (ah (iQ c (c.aE.length:Int) i (gr c.aC i)) (0:Int))) (fun BE=>(some (Out.norm (aj ((i:Int)+(1:Int)))))) =
      if (ns c.aE.length).any (fun g=>!w6 c i g) then some (.ret false) else some (Out.norm (aj ((i:Int)+(1:Int)))):=by
     intro hr
     refine l4 (ns c.aE.length) (fun g=>!w6 c i g) (fun j=>(j:Int)) rfl ?_ ?_ (e:=(c.aE.length:Int)) (y:=false) ?_
     rotate_left 2
     ·unfold iQ
      rw [cN,ay (by omega),cond_false]
     all_goals
      intro j y hy hq
      obtain ⟨rfl,hj⟩:=dy hy
      unfold iQ
      rw [au (by omega),cond_true,bQ (by omega) (by omega),aD,H.jm (by omega) (by omega),aD,H.jc (by omega) (by omega),aD,eH (a:=(c.aE.length:Int) - 1) (by omega) (by omega),EM,aD]
      unfold w6 gk at hq
      by_cases e:gi c.To i=gi c.aE j
      ·rw [if_pos e] at hq
       rw [show (gi c.To (i:Int) != gi c.aE (j:Int))=false by simp [e],cond_false]
       by_cases l0:0≤gi (gr c.aC i) j∧gi (gr c.aC i) j < c.aE.length
       ·rw [au l0.1,au l0.2] at hq
        rw [au l0.1,au (show gi (gr c.aC i) j≤(c.aE.length:Int) - 1 by omega)]
        simp only [Bool.and_self,Bool.not_true,cond_false,Bool.true_and] at hq ⊢
        rw [D9 H l0.1 l0.2,aD,H.jc (by omega) (by omega),aD,H.jm (by omega) (by omega),aD,aD]
        dsimp only
        rw [hq]
        all_goals (first | rfl | rw [cond_false,bR (by omega)])
       ·have l1:(decide (0≤gi (gr c.aC i) j) && decide (gi (gr c.aC i) j < c.aE.length))=false:=by
         rcases Classical.not_and_iff_not_or_not.1 l0 with h | h
         ·rw [ay h]; rfl
         ·rw [ay h,Bool.and_false]
        have l2:(decide (0≤gi (gr c.aC i) j) && decide (gi (gr c.aC i) j≤(c.aE.length:Int) - 1))=false:=by
         rcases Classical.not_and_iff_not_or_not.1 l0 with h | h
         ·rw [ay h]; rfl
         ·rw [ay (show ¬ gi (gr c.aC i) j≤(c.aE.length:Int) - 1 by omega),Bool.and_false]
        rw [l1] at hq
        rw [l2]
        all_goals (first | rfl | simp at hq)
      ·rw [if_neg e] at hq
       rw [show (gi c.To (i:Int) != gi c.aE (j:Int))=true by simp [e],cond_true,show (gi (gr c.aC (i:Int)) (j:Int) != -1) = !(gi (gr c.aC (i:Int)) (j:Int) == -1) from rfl,hq]
       all_goals (first | rfl | rw [cond_false,bR (by omega)])
    unfold lH
    rw [au (by omega),cond_true,hK,aD]
    unfold Ao at hp
    by_cases hr:(gr c.aC i).length=c.aE.length
    ·rw [show (((gr c.aC (i:Int)).length:Int) != (c.aE.length:Int))=false by simp [hr],cond_false,inner hr,pg]
     rw [show ((gr c.aC (i:Int)).length == c.aE.length)=true by simp [hr],Bool.true_and] at hp
     rw [hp,bR (by omega)]
     rfl
    ·rw [show (((gr c.aC (i:Int)).length:Int) != (c.aE.length:Int))=true by (simp; omega),cond_true]
     all_goals (rw [show ((gr c.aC (i:Int)).length == c.aE.length)=false by simp [hr],Bool.false_and] at hp; first | rfl | simp at hp)
end Go.Proofs.YtilhlobfebngdaaGreat
namespace Go.Proofs.YtilhlobfebngdaaGreat
open Go Go.Li
structure uG (c:aF):Prop extends Head c where
 yu:∀ x:Int,0≤x→x < c.aA→gi c.aE (gi c.aH x)=x
 yS:∀ x:Int,0≤x→x < c.aA→gi c.To (gi c.aH x)=x
 row:∀ f:Int,0≤f→f < c.aE.length→(gr c.aC f).length=c.aE.length
 cell:∀ f g:Int,0≤f→f < c.aE.length→0≤g→g < c.aE.length→gi c.To f=gi c.aE g→
  0≤gk c.aC f g∧gk c.aC f g < c.aE.length∧gi c.aE (gk c.aC f g)=gi c.aE f∧gi c.To (gk c.aC f g)=gi c.To g
 none:∀ f g:Int,0≤f→f < c.aE.length→0≤g→g < c.aE.length→gi c.To f≠gi c.aE g→gk c.aC f g = -1
theorem FL {c:aF} (h:qt c=true):uG c:=by
 unfold qt at h
 simp only [Bool.and_eq_true,List.all_eq_true] at h
 obtain ⟨h1,h2,h3⟩:=h
 have H:=HP h1
 have vp:=H.il
 have vz:∀ x,0≤x→x < c.aA→B0 c x=true:=fun x a b=>h2 x (fg.2 ⟨a,by omega⟩)
 have bd:∀ f,0≤f→f < (c.aE.length:Int)→Ao c f=true:=fun f a b=>h3 f (fg.2 ⟨a,b⟩)
 have km:∀ f g,0≤f→f < (c.aE.length:Int)→0≤g→g < (c.aE.length:Int)→w6 c f g=true:=fun f g a b a' b'=>by
  have:=bd f a b
  unfold Ao at this
  simp only [Bool.and_eq_true,List.all_eq_true] at this
  exact this.2 g (fg.2 ⟨a',b'⟩)
 refine { H with
  yu:=fun x a b=>?_
  yS:=fun x a b=>?_
  row:=fun f a b=>?_
  cell:=fun f g a b a' b' e=>?_
  none:=fun f g a b a' b' e=>?_ }
 ·have:=vz x a b; unfold B0 at this; simp at this; exact this.1
 ·have:=vz x a b; unfold B0 at this; simp at this; exact this.2
 ·have:=bd f a b; unfold Ao at this; simp only [Bool.and_eq_true,beq_iff_eq] at this; exact this.1
 ·have:=km f g a b a' b'; unfold w6 at this; rw [if_pos e] at this; simp only [Bool.and_eq_true,decide_eq_true_eq,beq_iff_eq] at this; exact ⟨this.1.1,this.1.2,this.2.1,this.2.2⟩
 ·have:=km f g a b a' b'; unfold w6 at this; rw [if_neg e] at this; simpa using this
namespace uG
variable {c:aF} (h:uG c)
include h
theorem mi {f g:Int} (h0:0≤f) (h1:f < c.aE.length) (h2:0≤g) (h3:g < c.aE.length):idx (gr c.aC f) g=some (gk c.aC f g):=bQ h2 (by rw [h.row f h0 h1]; exact h3)
theorem rv {f g:Int} (h0:0≤f) (h1:f < c.aE.length) (h2:0≤g) (h3:g < c.aE.length):cT c f g=some (gk c.aC f g):=by
 unfold cT; rw [h.ni h0 h1,aD,h.mi h0 h1 h2 h3,aD]; rfl
theorem thenS {f g:Int} (h0:0≤f) (h1:f < c.aE.length) (h2:0≤g) (h3:g < c.aE.length):eK c f g=some (gk c.aC f g):=by
 unfold eK; rw [h.ni h0 h1,aD,h.mi h0 h1 h2 h3,aD]; rfl
end uG
def w7 (c:aF) (f:Int):Bool:=gk c.aC (gi c.aH (gi c.aE f)) f == f && gk c.aC f (gi c.aH (gi c.To f)) == f
def yJ (c:aF) (f g h:Int):Bool:=gi c.To g == gi c.aE h && gk c.aC (gk c.aC f g) h != gk c.aC f (gk c.aC g h)
def Ea (c:aF) (f g:Int):Bool:=gi c.To f == gi c.aE g && (ns c.aE.length).any (yJ c f g)
def HQ (c:aF) (f:Int):Bool:=(ns c.aE.length).any (Ea c f)
def CK (c:aF):Bool:=(ns c.aE.length).all (w7 c) && !((ns c.aE.length).any (HQ c))
theorem No {c:aF} {k1 k2 k4 k6:Nat} {L0:Int→Option (Out Int (Int×Int×Int×Int))} {L1:Int→Option (Out Int (Int×Int×Int×Int))} {L2:Int→Int→Option (Out Int (Int×Int×Int×Int))} {L3:Int→Int→Int→Option (Out Int (Int×Int×Int×Int))} {z:Int×Int×Int×Int} (hz:z.1=0)
  (a0:∀ i:Nat,i < c.aE.length→w7 c i=true→L0 i=some (.norm ((i+1:Nat):Int)))
  (a1:∀ i:Nat,i < c.aE.length→w7 c i=false→∃ y,L0 i=some (.ret y)∧y.1≠0)
  (a2:L0 c.aE.length=some (.exit k1 c.aE.length))
  (b0:∀ i:Nat,i < c.aE.length→L1 i=af (ae k4 (ah (L2 i) 0)) fun _=>some (.norm ((i+1:Nat):Int)))
  (b2:L1 c.aE.length=some (.exit k2 c.aE.length))
  (d0:∀ i j:Nat,i < c.aE.length→j < c.aE.length→gi c.To i≠gi c.aE j→L2 i j=some (.norm ((j+1:Nat):Int)))
  (d1:∀ i j:Nat,i < c.aE.length→j < c.aE.length→gi c.To i=gi c.aE j→L2 i j=af (ae k6 (ah (L3 i j) 0)) fun _=>some (.norm ((j+1:Nat):Int)))
  (d2:∀ i:Nat,L2 i c.aE.length=some (.exit k4 c.aE.length))
  (e0:∀ i j h:Nat,i < c.aE.length→j < c.aE.length→h < c.aE.length→gi c.To i=gi c.aE j→yJ c i j h=false→L3 i j h=some (.norm ((h+1:Nat):Int)))
  (e1:∀ i j h:Nat,i < c.aE.length→j < c.aE.length→h < c.aE.length→gi c.To i=gi c.aE j→yJ c i j h=true→∃ y,L3 i j h=some (.ret y)∧y.1≠0)
  (e2:∀ i j:Nat,L3 i j c.aE.length=some (.exit k6 c.aE.length)) :
  ∃ y,ak (S:=Unit) (af (ae k1 (ah L0 0)) fun _=>af (ae k2 (ah L1 0)) fun _=>some (.ret z))=some y∧(y.1 == 0)=CK c:=by
 have in3:∀ i j:Nat,i < c.aE.length→j < c.aE.length→gi c.To i=gi c.aE j→
   ((ns c.aE.length).any (yJ c i j)=true∧∃ y,af (S:=Int) (ae k6 (ah (L3 i j) 0)) (fun _=>some (.norm ((j+1:Nat):Int)))=some (.ret y)∧y.1≠0)∨
   ((ns c.aE.length).any (yJ c i j)=false∧af (S:=Int) (ae k6 (ah (L3 i j) 0)) (fun _=>some (.norm ((j+1:Nat):Int)))=some (.norm ((j+1:Nat):Int))):=by
  intro i j hi hj he
  refine An (ns c.aE.length) (yJ c i j) (fun y:Int×Int×Int×Int=>y.1≠0) (fun h=>(h:Int)) rfl ?_ ?_ (e:=(c.aE.length:Int)) (by rw [cN]; exact e2 i j)
  ·intro h x hx hp; obtain ⟨rfl,hh⟩:=dy hx; exact e0 i j h hi hj hh he hp
  ·intro h x hx hp; obtain ⟨rfl,hh⟩:=dy hx; exact e1 i j h hi hj hh he hp
 have in2:∀ i:Nat,i < c.aE.length→
   ((ns c.aE.length).any (Ea c i)=true∧∃ y,af (S:=Int) (ae k4 (ah (L2 i) 0)) (fun _=>some (.norm ((i+1:Nat):Int)))=some (.ret y)∧y.1≠0)∨
   ((ns c.aE.length).any (Ea c i)=false∧af (S:=Int) (ae k4 (ah (L2 i) 0)) (fun _=>some (.norm ((i+1:Nat):Int)))=some (.norm ((i+1:Nat):Int))):=by
  intro i hi
  refine An (ns c.aE.length) (Ea c i) (fun y:Int×Int×Int×Int=>y.1≠0) (fun h=>(h:Int)) rfl ?_ ?_ (e:=(c.aE.length:Int)) (by rw [cN]; exact d2 i)
  ·intro j x hx hp
   obtain ⟨rfl,hj⟩:=dy hx
   by_cases he:gi c.To i=gi c.aE j
   ·rw [d1 i j hi hj he]
    rcases in3 i j hi hj he with ⟨h1,_⟩ | ⟨_,h2⟩
    ·unfold Ea at hp; rw [h1] at hp; simp [he] at hp
    ·exact h2
   ·exact d0 i j hi hj he
  ·intro j x hx hp
   obtain ⟨rfl,hj⟩:=dy hx
   unfold Ea at hp
   simp only [Bool.and_eq_true,beq_iff_eq] at hp
   rw [d1 i j hi hj hp.1]
   rcases in3 i j hi hj hp.1 with ⟨_,h⟩ | ⟨h1,_⟩
   ·exact h
   ·rw [hp.2] at h1; cases h1
 rcases An (s0:=(0:Int)) (S:=Unit) (R:=Int×Int×Int×Int) (k:=k1) (body:=L0) (f:=fun _=>af (ae k2 (ah L1 0)) fun _=>some (.ret z)) (ns c.aE.length) (fun i=>!w7 c i) (fun y:Int×Int×Int×Int=>y.1≠0) (fun i=>(i:Int)) rfl
   (fun i x hx hp=>by obtain ⟨rfl,hi⟩:=dy hx; exact a0 i hi (by simpa using hp)) (fun i x hx hp=>by obtain ⟨rfl,hi⟩:=dy hx; exact a1 i hi (by simpa using hp)) (e:=(c.aE.length:Int)) (by rw [cN]; exact a2) with ⟨h1,y,h2,h3⟩ | ⟨h1,h2⟩
 ·refine ⟨y,by rw [h2]; rfl,?_⟩
  unfold CK
  rw [pg] at h1
  simp only [Bool.not_eq_true'] at h1
  rw [h1]
  simpa using h3
 ·rw [pg] at h1
  simp only [Bool.not_eq_false'] at h1
  rw [h2]
  rcases An (s0:=(0:Int)) (S:=Unit) (R:=Int×Int×Int×Int) (k:=k2) (body:=L1) (f:=fun _=>some (.ret z)) (ns c.aE.length) (HQ c) (fun y:Int×Int×Int×Int=>y.1≠0) (fun i=>(i:Int)) rfl
   (fun i x hx hp=>by
    obtain ⟨rfl,hi⟩:=dy hx
    rw [b0 i hi]
    rcases in2 i hi with ⟨q1,_⟩ | ⟨_,q2⟩
    ·unfold HQ at hp; rw [q1] at hp; cases hp
    ·exact q2)
   (fun i x hx hp=>by
    obtain ⟨rfl,hi⟩:=dy hx
    rw [b0 i hi]
    rcases in2 i hi with ⟨_,q⟩ | ⟨q1,_⟩
    ·exact q
    ·unfold HQ at hp; rw [q1] at hp; cases hp) (e:=(c.aE.length:Int)) (by rw [cN]; exact b2) with ⟨g1,y,g2,g3⟩ | ⟨g1,g2⟩
  ·refine ⟨y,by rw [g2]; rfl,?_⟩
   unfold CK
   rw [h1,g1]
   simpa using g3
  ·refine ⟨z,by rw [g2]; rfl,?_⟩
   unfold CK
   rw [h1,g1,hz]
   rfl
section
variable {c:aF} (H:uG c)
include H
theorem QP:∃ y,qA c=some y∧(y.1 == 0)=CK c:=by
 have hm:=H.m
 have vp:=H.il
 have u0:∀ i:Nat,i < c.aE.length→mZ c i=if w7 c i then some (Out.norm ((i+1:Nat):Int)) else some (Out.ret ((1:Int),(i:Int),(0:Int),(0:Int))):=by
  intro i hi
  have f1:=H.fr (f:=(i:Int)) (by omega) (by omega)
  have t1:=H.to (f:=(i:Int)) (by omega) (by omega)
  have i1:=H.id f1.1 f1.2
  have i2:=H.id t1.1 t1.2
  unfold mZ
  rw [au (by omega),cond_true,H.jc (by omega) (by omega),aD,H.ou f1.1 f1.2,aD,H.ni i1.1 i1.2,aD,H.mi i1.1 i1.2 (by omega) (by omega),aD]
  rw [H.ni (by omega) (by omega),aD,H.jm (by omega) (by omega),aD,H.ou t1.1 t1.2,aD,H.mi (by omega) (by omega) i2.1 i2.2,aD]
  unfold w7
  by_cases e1:gk c.aC (gi c.aH (gi c.aE i)) i=i
  ·by_cases e2:gk c.aC i (gi c.aH (gi c.To i))=i
   ·simp [e1,e2,bR (show i < 9223372036854775807 by omega)]
   ·simp [e1,e2,qd e2]
  ·simp [e1,qd e1]
 unfold qA
 refine No (c:=c) (z:=(0,0,0,0)) rfl (L2:=lG c) (L3:=lF c) (k4:=4) (k6:=6) ?_ ?_ ?_ ?_ ?_ ?_ ?_ ?_ ?_ ?_ ?_
 ·intro i hi hp; rw [u0 i hi,hp]; rfl
 ·intro i hi hp; rw [u0 i hi,hp]; exact ⟨_,rfl,by simp⟩
 ·unfold mZ; rw [ay (by omega),cond_false]
 ·intro i hi; unfold qP; rw [au (by omega),cond_true,bR (by omega)]
 ·unfold qP; rw [ay (by omega),cond_false]
 ·intro i j hi hj he
  unfold lG
  rw [au (by omega),cond_true,H.jm (by omega) (by omega),aD,H.jc (by omega) (by omega),aD,show (gi c.To (i:Int) != gi c.aE (j:Int))=true by simp [he],cond_true,bR (by omega)]
 ·intro i j hi hj he
  unfold lG
  rw [au (by omega),cond_true,H.jm (by omega) (by omega),aD,H.jc (by omega) (by omega),aD,show (gi c.To (i:Int) != gi c.aE (j:Int))=false by simp [he],cond_false,bR (by omega)]
 ·intro i; unfold lG; rw [ay (by omega),cond_false]
 ·intro i j h hi hj hh he hp
  unfold lF
  rw [au (by omega),cond_true,H.jm (by omega) (by omega),aD,H.jc (by omega) (by omega),aD]
  unfold yJ at hp
  by_cases e:gi c.To j=gi c.aE h
  ·have c1:=H.cell i j (by omega) (by omega) (by omega) (by omega) he
   have c2:=H.cell j h (by omega) (by omega) (by omega) (by omega) e
   rw [show (gi c.To (j:Int) == gi c.aE (h:Int))=true by simp [e]] at hp ⊢
   rw [cond_true,H.ni (by omega) (by omega),aD,H.mi (by omega) (by omega) (by omega) (by omega),aD,H.ni c1.1 c1.2.1,aD,H.mi c1.1 c1.2.1 (by omega) (by omega),aD,aD,H.ni (by omega) (by omega),aD,H.mi (by omega) (by omega) (by omega) (by omega),aD,H.mi (by omega) (by omega) c2.1 c2.2.1,aD]
   rw [Bool.true_and] at hp
   rw [hp,aD,cond_false,bR (by omega)]
  ·rw [show (gi c.To (j:Int) == gi c.aE (h:Int))=false by simp [e],cond_false,aD,cond_false,bR (by omega)]
 ·intro i j h hi hj hh he hp
  unfold lF
  rw [au (by omega),cond_true,H.jm (by omega) (by omega),aD,H.jc (by omega) (by omega),aD]
  unfold yJ at hp
  simp only [Bool.and_eq_true] at hp
  have e:gi c.To j=gi c.aE h:=by simpa using hp.1
  have c1:=H.cell i j (by omega) (by omega) (by omega) (by omega) he
  have c2:=H.cell j h (by omega) (by omega) (by omega) (by omega) e
  rw [hp.1,cond_true,H.ni (by omega) (by omega),aD,H.mi (by omega) (by omega) (by omega) (by omega),aD,H.ni c1.1 c1.2.1,aD,H.mi c1.1 c1.2.1 (by omega) (by omega),aD,aD,H.ni (by omega) (by omega),aD,H.mi (by omega) (by omega) (by omega) (by omega),aD,H.mi (by omega) (by omega) c2.1 c2.2.1,aD]
  rw [hp.2,aD,cond_true]
  exact ⟨_,rfl,by simp⟩
 ·intro i j; unfold lF; rw [ay (by omega),cond_false]
theorem QQ:∃ y,lO c=some y∧(y.1 == 0)=CK c:=by
 have hm:=H.m
 have vp:=H.il
 have u0:∀ i:Nat,i < c.aE.length→jQ c c.aE.length i=if w7 c i then some (Out.norm ((i+1:Nat):Int)) else some (Out.ret ((1:Int),(i:Int),(0:Int),(0:Int))):=by
  intro i hi
  have f1:=H.fr (f:=(i:Int)) (by omega) (by omega)
  have t1:=H.to (f:=(i:Int)) (by omega) (by omega)
  have i1:=H.id f1.1 f1.2
  have i2:=H.id t1.1 t1.2
  unfold jQ
  rw [au (by omega),cond_true,H.jc (by omega) (by omega),aD,H.ou f1.1 f1.2,aD,H.rv i1.1 i1.2 (by omega) (by omega),aD]
  rw [H.jm (by omega) (by omega),aD,H.ou t1.1 t1.2,aD,H.rv (by omega) (by omega) i2.1 i2.2,aD]
  unfold w7
  by_cases e1:gk c.aC (gi c.aH (gi c.aE i)) i=i
  ·by_cases e2:gk c.aC i (gi c.aH (gi c.To i))=i
   ·simp [e1,e2,bR (show i < 9223372036854775807 by omega)]
   ·simp [e1,e2,qd e2]
  ·simp [e1,qd e1]
 have pos:∀ i j:Nat,i < c.aE.length→j < c.aE.length→(gi c.To i=gi c.aE j→0≤gk c.aC i j)∧(gi c.To i≠gi c.aE j→gk c.aC i j < 0):=by
  intro i j hi hj
  refine ⟨fun e=>(H.cell i j (by omega) (by omega) (by omega) (by omega) e).1,fun e=>?_⟩
  rw [H.none i j (by omega) (by omega) (by omega) (by omega) e]; decide
 unfold lO cY
 rw [show ak (S:=Unit) (some (Out.ret (c.aE.length:Int)))=some (c.aE.length:Int) from rfl,aD]
 refine No (c:=c) (z:=(0,0,0,0)) rfl (L2:=gV c c.aE.length) (L3:=gU c c.aE.length) (k4:=4) (k6:=6) ?_ ?_ ?_ ?_ ?_ ?_ ?_ ?_ ?_ ?_ ?_
 ·intro i hi hp; rw [u0 i hi,hp]; rfl
 ·intro i hi hp; rw [u0 i hi,hp]; exact ⟨_,rfl,by simp⟩
 ·unfold jQ; rw [ay (by omega),cond_false]
 ·intro i hi; unfold mH; rw [au (by omega),cond_true,bR (by omega)]
 ·unfold mH; rw [ay (by omega),cond_false]
 ·intro i j hi hj he
  unfold gV
  rw [au (by omega),cond_true,H.rv (by omega) (by omega) (by omega) (by omega),aD,au ((pos i j hi hj).2 he),cond_true,bR (by omega)]
 ·intro i j hi hj he
  have:=(pos i j hi hj).1 he
  unfold gV
  rw [au (by omega),cond_true,H.rv (by omega) (by omega) (by omega) (by omega),aD,ay (by omega),cond_false,bR (by omega)]
 ·intro i; unfold gV; rw [ay (by omega),cond_false]
 ·intro i j h hi hj hh he hp
  unfold gU
  rw [au (by omega),cond_true,H.rv (by omega) (by omega) (by omega) (by omega),aD]
  unfold yJ at hp
  by_cases e:gi c.To j=gi c.aE h
  ·have c1:=H.cell i j (by omega) (by omega) (by omega) (by omega) he
   have c2:=H.cell j h (by omega) (by omega) (by omega) (by omega) e
   rw [show (gi c.To (j:Int) == gi c.aE (h:Int))=true by simp [e],Bool.true_and] at hp
   rw [au (show gk c.aC j h ≥ 0 from c2.1),cond_true,H.rv (by omega) (by omega) (by omega) (by omega),aD,H.rv c1.1 c1.2.1 (by omega) (by omega),aD,aD,H.rv (by omega) (by omega) c2.1 c2.2.1,aD,hp,aD,cond_false,bR (by omega)]
  ·have:=(pos j h hj hh).2 e
   rw [ay (show ¬ gk c.aC j h ≥ 0 by omega),cond_false,aD,cond_false,bR (by omega)]
 ·intro i j h hi hj hh he hp
  unfold gU
  unfold yJ at hp
  simp only [Bool.and_eq_true] at hp
  have e:gi c.To j=gi c.aE h:=by simpa using hp.1
  have c1:=H.cell i j (by omega) (by omega) (by omega) (by omega) he
  have c2:=H.cell j h (by omega) (by omega) (by omega) (by omega) e
  rw [au (by omega),cond_true,H.rv (by omega) (by omega) (by omega) (by omega),aD,au (show gk c.aC j h ≥ 0 from c2.1),cond_true,H.rv (by omega) (by omega) (by omega) (by omega),aD,H.rv c1.1 c1.2.1 (by omega) (by omega),aD,aD,H.rv (by omega) (by omega) c2.1 c2.2.1,aD,hp.2,aD,cond_true]
  exact ⟨_,rfl,by simp⟩
 ·intro i j; unfold gU; rw [ay (by omega),cond_false]
end
structure l5 (c:aF):Prop extends uG c where
 Vz:∀ f:Int,0≤f→f < c.aE.length→gk c.aC (gi c.aH (gi c.aE f)) f=f
 Jf:∀ f:Int,0≤f→f < c.aE.length→gk c.aC f (gi c.aH (gi c.To f))=f
 assoc:∀ f g h:Int,0≤f→f < c.aE.length→0≤g→g < c.aE.length→0≤h→h < c.aE.length→gi c.To f=gi c.aE g→gi c.To g=gi c.aE h→
  gk c.aC (gk c.aC f g) h=gk c.aC f (gk c.aC g h)
def py (c:aF):Bool:=qt c && CK c
theorem Ap {c:aF} (h:py c=true):l5 c:=by
 unfold py at h
 simp only [Bool.and_eq_true] at h
 obtain ⟨h1,h2⟩:=h
 have H:=FL h1
 unfold CK at h2
 simp only [Bool.and_eq_true,List.all_eq_true,Bool.not_eq_true',List.any_eq_false] at h2
 obtain ⟨h2,h3⟩:=h2
 refine { H with
  Vz:=fun f a b=>?_
  Jf:=fun f a b=>?_
  assoc:=fun f g h a b a' b' a'' b'' e1 e2=>?_ }
 ·have:=h2 f (fg.2 ⟨a,b⟩); unfold w7 at this; simp at this; exact this.1
 ·have:=h2 f (fg.2 ⟨a,b⟩); unfold w7 at this; simp at this; exact this.2
 ·have:=h3 f (fg.2 ⟨a,b⟩)
  unfold HQ at this
  simp only [List.any_eq_true,not_exists,not_and] at this
  have:=this g (fg.2 ⟨a',b'⟩)
  unfold Ea at this
  simp only [Bool.and_eq_true,beq_iff_eq,List.any_eq_true,not_and,not_exists] at this
  have:=this e1 h (fg.2 ⟨a'',b''⟩)
  unfold yJ at this
  simpa [e2] using this
theorem QR {c:aF} (hs:gh c):rU c=some (py c):=by
 unfold rU
 rw [QN hs,aD]
 unfold py
 cases h:qt c with
 | false=>rfl
 | true=>
  obtain ⟨y,h1,h2⟩:=QP (FL h)
  rw [Bool.not_true,cond_false,h1,aD,h2]; rfl
theorem QS {c:aF} (hs:gh c):iR c=some (py c):=by
 unfold iR
 rw [QO hs,aD]
 unfold py
 cases h:qt c with
 | false=>rfl
 | true=>
  obtain ⟨y,h1,h2⟩:=QQ (FL h)
  rw [Bool.not_true,cond_false,h1,aD,h2]; rfl
end Go.Proofs.YtilhlobfebngdaaGreat
