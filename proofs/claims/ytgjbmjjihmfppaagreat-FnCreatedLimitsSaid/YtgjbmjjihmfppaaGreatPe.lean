/- Is a table a category: the reference and the program agree, and what is known of a category. No condition beside those that each theorem names. -/
import Derived.Test.YtgjbmjjihmfppaaGreatPa
namespace Go.Li
open Go
section
variable {S S1 R α:Type} {body:S1→Option (Out S1 R)}
theorem yW {k:Nat} {f:S1→Option (Out S R)} {s0 e:S1} (l:List α) (p:α→Bool) (G:R→Prop) (st:Nat→S1) (h0:st 0=s0) (step:∀ i x,l[i]? = some x→p x=false→body (st i)=some (.norm (st (i+1))))
  (OV:∀ i x,l[i]? = some x→p x=true→∃ y,body (st i)=some (.ret y)∧G y) (last:body (st l.length)=some (.exit k e)) :
  (l.any p=true∧∃ y,ag (ae k (aj body s0)) f=some (.ret y)∧G y)∨(l.any p=false∧ag (ae k (aj body s0)) f=f e):=by
 have key:∀ (m:List α) (i:Nat),l.drop i=m→i≤l.length→(m.any p=true∧∃ y,aj body (st i)=some (.ret y)∧G y)∨(m.any p=false∧aj body (st i)=some (.exit k e)):=by
  intro m
  induction m with
  | nil=>
   intro i hd hi
   have:i=l.length:=by have:=congrArg List.length hd; simp at this; omega
   subst this
   exact .inr ⟨rfl,mh last⟩
  | cons x m ih=>
   intro i hd hi
   have bn:i < l.length:=by
    rcases Nat.lt_or_ge i l.length with h | h
    ·exact h
    ·rw [List.drop_eq_nil_of_le h] at hd; cases hd
   have hx:l[i]? = some x:=by
    rw [List.drop_eq_getElem_cons bn] at hd
    rw [List.getElem?_eq_getElem bn]; exact congrArg some (List.cons.inj hd).1
   have jd:l.drop (i+1)=m:=by
    rw [List.drop_eq_getElem_cons bn] at hd; exact (List.cons.inj hd).2
   cases hp:p x with
   | true=>
    obtain ⟨y,hy,hg⟩:=OV i x hx hp
    exact .inl ⟨by simp [hp],y,CF hy,hg⟩
   | false=>
    rw [n5,step i x hx hp]
    simpa [hp] using ih (i+1) jd bn
 rcases key l 0 rfl (Nat.zero_le _) with ⟨h1,y,h2,h3⟩ | ⟨h1,h2⟩
 ·rw [h0] at h2; exact .inl ⟨h1,y,CG h2,h3⟩
 ·rw [h0] at h2; exact .inr ⟨h1,um h2⟩
theorem OY {n i x:Nat} (h:(List.range n)[i]? = some x):x=i∧i < n:=by
 have hi:=bg h
 rw [List.getElem?_eq_getElem hi] at h
 simp at h hi
 exact ⟨h.symm,hi⟩
end
def gi (l:List Int) (j:Int):Int:=l.getD j.toNat 0
def gr (l:List (List Int)) (j:Int):List Int:=l.getD j.toNat []
def gk (l:List (List Int)) (i j:Int):Int:=gi (gr l i) j
theorem cH {l:List Int} {j:Int} (h0:0≤j) (h1:j < l.length):idx l j=some (gi l j):=by
 rw [yU h0 h1]; unfold gi; rw [List.getD_eq_getElem?_getD,List.getElem?_eq_getElem (by omega)]; rfl
theorem sf {l:List (List Int)} {j:Int} (h0:0≤j) (h1:j < l.length):idx l j=some (gr l j):=by
 rw [yU h0 h1]; unfold gr; rw [List.getD_eq_getElem?_getD,List.getElem?_eq_getElem (by omega)]; rfl
theorem fu {l:List Int} {j:Int} (h0:0≤j) (h1:j < l.length):gi l j∈l:=by
 unfold gi; rw [List.getD_eq_getElem?_getD,List.getElem?_eq_getElem (by omega)]; exact List.getElem_mem _
theorem rb {l:List (List Int)} {j:Int} (h0:0≤j) (h1:j < l.length):gr l j∈l:=by
 unfold gr; rw [List.getD_eq_getElem?_getD,List.getElem?_eq_getElem (by omega)]; exact List.getElem_mem _
def ns (n:Nat):List Int:=(List.range n).map Int.ofNat
theorem gu {n i:Nat} {x:Int} (h:(ns n)[i]? = some x):x=(i:Int)∧i < n:=by
 unfold ns at h
 rw [List.getElem?_map] at h
 cases hr:(List.range n)[i]? with
 | none=>rw [hr] at h; cases h
 | some y=>
  rw [hr] at h
  obtain ⟨rfl,hi⟩:=OY hr
  exact ⟨(Option.some.inj h).symm,hi⟩
theorem dF (n:Nat):(ns n).length=n:=by simp [ns]
theorem bw {n:Nat} {x:Int}:x∈ns n↔0≤x∧x < n:=by
 unfold ns
 simp only [List.mem_map,List.mem_range]
 constructor
 ·rintro ⟨a,h1,rfl⟩; simp; omega
 ·rintro ⟨h1,h2⟩; exact ⟨x.toNat,by omega,by simp; omega⟩
end Go.Li
namespace Go.Proofs.YtgjbmjjihmfppaaGreat
open Go Go.Li
def p7 (n:Int) (f:List Int):Bool:=f.all fun y=>decide (0≤y) && decide (y < n)
theorem qt {n:Int} {f:List Int}:p7 n f=true↔∀ y∈f,0≤y∧y < n:=by simp [p7]
theorem ni {α:Type} (l:List α) (p:α→Bool):l.any (fun x=>!p x) = !l.all p:=by
 induction l with
 | nil=>rfl
 | cons a l ih=>simp only [List.any_cons,List.all_cons,ih,Bool.not_and]
theorem De (n:Int) (f:List Int) (hf:f.length≤1048576000):jY n f=some (p7 n f):=by
 unfold jY
 refine (congrArg ao (jc f (fun y=>!(decide (0≤y) && decide (y < n))) (fun i=>(i:Int)) rfl ?_ ?_ (e:=(f.length:Int)) (y:=false) ?_)).trans ?_
 ·intro i x hx hp
  have hi:=bg hx
  unfold mS
  simp only [Bool.not_eq_false',Bool.and_eq_true,decide_eq_true_eq] at hp
  rw [av (by omega),cond_true,bp,hx,aF,bc (by omega),cond_false,aF,bc (by omega),aF,cond_false,bQ (by omega)]
 ·intro i x hx hp
  have hi:=bg hx
  unfold mS
  rw [av (by omega),cond_true,bp,hx,aF,aF]
  by_cases h:x < 0
  ·rw [av h,cond_true,aF,cond_true]
  ·have:n≤x:=by simp at hp; omega
   rw [bc h,cond_false,av (by omega),aF,cond_true]
 ·unfold mS
  rw [bc (by omega),cond_false]
 ·rw [ni]
  show ao (if (!p7 n f)=true then _ else _)=_
  cases p7 n f <;> rfl
theorem Df (n a b:Int):kL n a b=some (decide (a≤n) && decide (n≤b)):=by
 unfold kL
 by_cases h:a≤n
 ·rw [av (show n ≥ a from h),cond_true]; rfl
 ·rw [bc (show ¬ n ≥ a from h),cond_false]; rfl
theorem Ya (n a b:Int):qV n a b=some (decide (a≤n) && decide (n≤b)):=by
 unfold qV
 by_cases h:a≤n
 ·rw [av (show n ≥ a from h),cond_true]; rfl
 ·rw [bc (show ¬ n ≥ a from h),cond_false]; rfl
theorem within (f:List Int) (n:Int) (hf:f.length≤1048576000) (hn:0≤n) (K2:n≤1048576000):gU f n=some (p7 n f):=by
 unfold gU
 refine (congrArg ao (jc f (fun y=>!(decide (0≤y) && decide (y < n))) (fun i=>(i:Int)) rfl ?_ ?_ (e:=(f.length:Int)) (y:=false) ?_)).trans ?_
 ·intro i x hx hp
  have hi:=bg hx
  unfold mU
  simp only [Bool.not_eq_false',Bool.and_eq_true,decide_eq_true_eq] at hp
  rw [av (by omega),cond_true,bp,hx,aF,dW (by omega) (by omega),Df,aF,av hp.1,av (by omega)]
  simp only [Bool.and_self,Bool.not_true,cond_false]
  rw [bQ (by omega)]
 ·intro i x hx hp
  have hi:=bg hx
  unfold mU
  rw [av (by omega),cond_true,bp,hx,aF,dW (by omega) (by omega),Df,aF]
  have:(decide (0≤x) && decide (x≤n - 1))=false:=by
   by_cases h:x < 0
   ·rw [bc (by omega)]; rfl
   ·have:n≤x:=by simp at hp; omega
    rw [bc (show ¬ x≤n - 1 by omega),Bool.and_false]
  rw [this]; rfl
 ·unfold mU
  rw [bc (by omega),cond_false]
 ·rw [ni]
  show ao (if (!p7 n f)=true then _ else _)=_
  cases p7 n f <;> rfl
def wW (c:aG):Bool:=((decide (0≤c.aA) && decide (c.aA≤8)) && (decide (c.aE.length≤40) && p7 c.aA c.aE)) && (((c.To.length == c.aE.length) && p7 c.aA c.To) && ((c.aB.length == c.aE.length) && (((c.aH.length:Int) == c.aA) && p7 c.aE.length c.aH)))
def AB (c:aG) (x:Int):Bool:=gi c.aE (gi c.aH x) == x && gi c.To (gi c.aH x) == x
def vT (c:aG) (f g:Int):Bool:=
 if gi c.To f=gi c.aE g then (decide (0≤gk c.aB f g) && decide (gk c.aB f g < c.aE.length)) && (gi c.aE (gk c.aB f g) == gi c.aE f && gi c.To (gk c.aB f g) == gi c.To g)
 else gk c.aB f g == -1
def yX (c:aG) (f:Int):Bool:=((gr c.aB f).length == c.aE.length) && (ns c.aE.length).all fun g=>vT c f g
def rf (c:aG):Bool:=wW c && ((ns c.aH.length).all (AB c) && (ns c.aE.length).all (yX c))
structure Head (c:aG):Prop where
 o0:0≤c.aA
 o8:c.aA≤8
 m:c.aE.length≤40
 f:∀ x∈c.aE,0≤x∧x < c.aA
 tl:c.To.length=c.aE.length
 t:∀ x∈c.To,0≤x∧x < c.aA
 kl:c.aB.length=c.aE.length
 il:(c.aH.length:Int)=c.aA
 i:∀ x∈c.aH,0≤x∧x < c.aE.length
theorem F6 {c:aG} (h:wW c=true):Head c:=by
 unfold wW at h
 simp only [Bool.and_eq_true,decide_eq_true_eq,qt,beq_iff_eq] at h
 obtain ⟨⟨⟨h1,h2⟩,h3,h4⟩,⟨h5,h6⟩,h7,h8,h9⟩:=h
 exact ⟨h1,h2,h3,h4,h5,h6,h7,h8,h9⟩
set_option linter.unusedSectionVars false
namespace Head
variable {c:aG} (h:Head c)
include h
theorem fr {f:Int} (h0:0≤f) (h1:f < c.aE.length):0≤gi c.aE f∧gi c.aE f < c.aA:=h.f _ (fu h0 h1)
theorem to {f:Int} (h0:0≤f) (h1:f < c.aE.length):0≤gi c.To f∧gi c.To f < c.aA:=h.t _ (fu h0 (by rw [h.tl]; exact h1))
theorem id {x:Int} (h0:0≤x) (h1:x < c.aA):0≤gi c.aH x∧gi c.aH x < c.aE.length:=h.i _ (fu h0 (by rw [h.il]; exact h1))
theorem jx {f:Int} (h0:0≤f) (h1:f < c.aE.length):idx c.aE f=some (gi c.aE f):=cH h0 h1
theorem kz {f:Int} (h0:0≤f) (h1:f < c.aE.length):idx c.To f=some (gi c.To f):=cH h0 (by rw [h.tl]; exact h1)
theorem p8 {x:Int} (h0:0≤x) (h1:x < c.aA):idx c.aH x=some (gi c.aH x):=cH h0 (by rw [h.il]; exact h1)
theorem mq {f:Int} (h0:0≤f) (h1:f < c.aE.length):idx c.aB f=some (gr c.aB f):=sf h0 (by rw [h.kl]; exact h1)
end Head
theorem OZ {c:aG} (hs:gx c):pB c=some (rf c):=by
 obtain ⟨z1,z2,z3,z4,z5⟩:=hs
 have ends:∀ (l:List Int) (n:Nat) (o:Int),l.length≤1048576→mC l (n:Int) o=some ((l.length == n) && p7 o l):=by
  intro l n o hl
  unfold mC
  by_cases e:l.length=n
  ·rw [show ((l.length:Int) == (n:Int))=true by simp [e],cond_true,De _ _ (by omega),show (l.length == n)=true by simp [e]]; rfl
  ·rw [show ((l.length:Int) == (n:Int))=false by simp; omega,cond_false,show (l.length == n)=false by simp [e]]; rfl
 unfold pB
 rw [Ya,aF,ends _ _ _ z1,ends _ _ _ z2]
 have e1:((c.aB.length:Int) != (c.aE.length:Int)) = !(c.aB.length == c.aE.length):=by
  by_cases e:c.aB.length=c.aE.length
  ·simp [e]
  ·rw [show (c.aB.length == c.aE.length)=false by simp [e]]; simp; omega
 have e2:decide ((c.aE.length:Int) > 40) = !decide (c.aE.length≤40):=by
  by_cases e:c.aE.length≤40
  ·rw [av e,bc (by omega)]; rfl
  ·rw [bc e,av (by omega)]; rfl
 rw [e1,e2,De _ _ (by omega)]
 cases hh:wW c with
 | false=>
  have:rf c=false:=by unfold rf; rw [hh]; rfl
  rw [this]
  unfold wW at hh
  generalize (decide (0≤c.aA) && decide (c.aA≤8))=a1 at *
  generalize decide (c.aE.length≤40)=a2 at *
  generalize p7 c.aA c.aE=a3 at *
  generalize (c.To.length == c.aE.length)=a4 at *
  generalize p7 c.aA c.To=a5 at *
  generalize (c.aB.length == c.aE.length)=a6 at *
  have e3:((c.aH.length:Int) != c.aA) = !((c.aH.length:Int) == c.aA):=rfl
  rw [e3]
  generalize ((c.aH.length:Int) == c.aA)=a7 at *
  generalize p7 (c.aE.length:Int) c.aH=a8 at *
  simp only [beq_self_eq_true,Bool.true_and]
  cases a1 <;> first | rfl | (cases a2 <;> first | rfl | (cases a3 <;> first | rfl | (cases a4 <;> first | rfl | (cases a5 <;> first | rfl | (cases a6 <;> first | rfl | (cases a7 <;> first | rfl | (cases a8 <;> first | rfl | (cases hh))))))))
 | true=>
  have H:=F6 hh
  have Jv:=hh
  unfold wW at Jv
  simp only [Bool.and_eq_true] at Jv
  obtain ⟨⟨⟨b1,Kz⟩,b2,b3⟩,⟨b4,b5⟩,b6,b7,b8⟩:=Jv
  rw [b1,Kz,b2,b3,b4,b5,b6,b8,show ((c.aH.length:Int) != c.aA) = !((c.aH.length:Int) == c.aA) from rfl,b7]
  simp only [beq_self_eq_true,Bool.and_self,Bool.not_true,cond_false,aF]
  have hm:=H.m
  have uy:=H.il
  refine (congrArg ao (jc (ns c.aH.length) (fun x=>!AB c x) (fun i=>(i:Int)) rfl ?_ ?_ (e:=(c.aH.length:Int)) (y:=false) ?_)).trans ?_
  ·intro i x hx hp
   obtain ⟨rfl,hi⟩:=gu hx
   have:=H.id (x:=(i:Int)) (by omega) (by omega)
   unfold lU
   unfold AB at hp
   simp only [Bool.not_eq_false',Bool.and_eq_true,beq_iff_eq] at hp
   rw [av (by omega),cond_true,H.p8 (by omega) (by omega),aF,H.jx this.1 this.2,aF,hp.1,bne_self_eq_false,cond_false,aF,H.kz this.1 this.2,aF,hp.2,bne_self_eq_false,aF,cond_false,bQ (by omega)]
  ·intro i x hx hp
   obtain ⟨rfl,hi⟩:=gu hx
   have:=H.id (x:=(i:Int)) (by omega) (by omega)
   unfold lU
   unfold AB at hp
   rw [av (by omega),cond_true,H.p8 (by omega) (by omega),aF,H.jx this.1 this.2,aF]
   by_cases e:gi c.aE (gi c.aH i)=i
   ·rw [e,bne_self_eq_false,cond_false,aF,H.kz this.1 this.2,aF]
    have:(gi c.To (gi c.aH i) != (i:Int))=true:=by
     rw [e] at hp; simpa using hp
    rw [this]; rfl
   ·rw [show (gi c.aE (gi c.aH i) != (i:Int))=true by simp [e]]; rfl
  ·unfold lU
   rw [dF,bc (by omega),cond_false]
  rw [ni]
  unfold rf
  rw [hh]
  cases xQ:(ns c.aH.length).all (AB c) with
  | false=>rfl
  | true=>
   simp only [Bool.not_true,Bool.false_eq_true,if_false,Bool.true_and]
   refine (congrArg ao (jc (ns c.aE.length) (fun f=>!yX c f) (fun i=>(i:Int)) rfl ?_ ?_ (e:=(c.aE.length:Int)) (y:=false) ?_)).trans ?_
   rotate_left 2
   ·unfold pA
    rw [dF,bc (by omega),cond_false]
   ·rw [ni]
    cases (ns c.aE.length).all (yX c) <;> rfl
   all_goals
    intro i x hx hp
    obtain ⟨rfl,hi⟩:=gu hx
    have hK:=H.mq (f:=(i:Int)) (by omega) (by omega)
    have inner:(gr c.aB i).length=c.aE.length→ag (S:=Int) (ae 4 (aj (lV c i) (0:Int))) (fun zY=>(some (Out.norm (an ((i:Int)+(1:Int)))))) =
      if (ns c.aE.length).any (fun g=>!vT c i g) then some (.ret false) else some (Out.norm (an ((i:Int)+(1:Int)))):=by
     intro hr
     refine jc (ns c.aE.length) (fun g=>!vT c i g) (fun j=>(j:Int)) rfl ?_ ?_ (e:=(c.aE.length:Int)) (y:=false) ?_
     rotate_left 2
     ·unfold lV
      rw [dF,bc (by omega),cond_false]
     all_goals
      intro j y hy hq
      obtain ⟨rfl,hj⟩:=gu hy
      unfold lV
      rw [av (by omega),cond_true,hK,aF,cH (by omega) (by omega),aF,H.kz (by omega) (by omega),aF,H.jx (by omega) (by omega),aF]
      unfold vT gk at hq
      by_cases e:gi c.To i=gi c.aE j
      ·rw [if_pos e] at hq
       rw [show (gi c.To (i:Int) != gi c.aE (j:Int))=false by simp [e],cond_false]
       by_cases l0:gi (gr c.aB i) j < 0
       ·rw [bc (show ¬ 0≤gi (gr c.aB i) j by omega)] at hq
        rw [av l0,cond_true,aF,cond_true]
        all_goals (first | rfl | simp at hq)
       ·rw [av (show 0≤gi (gr c.aB i) j by omega)] at hq
        rw [bc l0,cond_false]
        by_cases l1:gi (gr c.aB i) j < c.aE.length
        ·rw [av l1] at hq
         rw [bc (show ¬ gi (gr c.aB i) j ≥ c.aE.length by omega),cond_false,H.jx (by omega) l1,aF,H.jx (by omega) (by omega),aF]
         by_cases q1:gi c.aE (gi (gr c.aB i) j)=gi c.aE i
         ·rw [show (gi c.aE (gi (gr c.aB (i:Int)) (j:Int)) == gi c.aE (i:Int))=true by simp [q1]] at hq
          rw [show (gi c.aE (gi (gr c.aB (i:Int)) (j:Int)) != gi c.aE (i:Int))=false by simp [q1],cond_false,H.kz (by omega) l1,aF,H.kz (by omega) (by omega),aF,aF]
          simp only [Bool.and_self,Bool.true_and] at hq
          rw [show (gi c.To (gi (gr c.aB (i:Int)) (j:Int)) != gi c.To (j:Int)) = !(gi c.To (gi (gr c.aB (i:Int)) (j:Int)) == gi c.To (j:Int)) from rfl,hq]
          all_goals (first | rfl | rw [cond_false,bQ (by omega)])
         ·rw [show (gi c.aE (gi (gr c.aB (i:Int)) (j:Int)) == gi c.aE (i:Int))=false by simp [q1]] at hq
          rw [show (gi c.aE (gi (gr c.aB (i:Int)) (j:Int)) != gi c.aE (i:Int))=true by simp [q1],cond_true]
          all_goals (first | rfl | simp at hq)
        ·rw [bc l1] at hq
         rw [av (show gi (gr c.aB i) j ≥ c.aE.length by omega),cond_true]
         all_goals (first | rfl | simp at hq)
      ·rw [if_neg e] at hq
       rw [show (gi c.To (i:Int) != gi c.aE (j:Int))=true by simp [e],cond_true,show (gi (gr c.aB (i:Int)) (j:Int) != -1) = !(gi (gr c.aB (i:Int)) (j:Int) == -1) from rfl,hq]
       all_goals (first | rfl | rw [cond_false,bQ (by omega)])
    unfold pA
    rw [av (by omega),cond_true,hK,aF]
    unfold yX at hp
    by_cases hr:(gr c.aB i).length=c.aE.length
    ·rw [show (((gr c.aB (i:Int)).length:Int) != (c.aE.length:Int))=false by simp [hr],cond_false,inner hr,ni]
     rw [show ((gr c.aB (i:Int)).length == c.aE.length)=true by simp [hr],Bool.true_and] at hp
     rw [hp,bQ (by omega)]
     rfl
    ·rw [show (((gr c.aB (i:Int)).length:Int) != (c.aE.length:Int))=true by (simp; omega),cond_true]
     all_goals (rw [show ((gr c.aB (i:Int)).length == c.aE.length)=false by simp [hr],Bool.false_and] at hp; first | rfl | simp at hp)
end Go.Proofs.YtgjbmjjihmfppaaGreat
namespace Go.Proofs.YtgjbmjjihmfppaaGreat
open Go Go.Li
set_option linter.unusedSectionVars false
theorem Jw {c:aG} (H:Head c) {f:Int} (h0:0≤f) (h1:f < c.aE.length):gY c f=some (sS.mk (gi c.aE f) (gi c.To f)):=by
 unfold gY
 rw [H.jx h0 h1,aF,H.kz h0 h1,aF]; rfl
theorem O0 {c:aG} (hs:gx c):iC c=some (rf c):=by
 obtain ⟨z1,z2,z3,z4,z5⟩:=hs
 unfold iC dS
 rw [show ao (S:=Unit) (some (Out.ret (c.aE.length:Int)))=some (c.aE.length:Int) from rfl,aF,Df,aF]
 have e1:((c.aB.length:Int) != (c.aE.length:Int)) = !(c.aB.length == c.aE.length):=by
  by_cases e:c.aB.length=c.aE.length
  ·simp [e]
  ·rw [show (c.aB.length == c.aE.length)=false by simp [e]]; simp; omega
 have e1':((c.To.length:Int) != (c.aE.length:Int)) = !(c.To.length == c.aE.length):=by
  by_cases e:c.To.length=c.aE.length
  ·simp [e]
  ·rw [show (c.To.length == c.aE.length)=false by simp [e]]; simp; omega
 have e2:decide ((c.aE.length:Int) > 40) = !decide (c.aE.length≤40):=by
  by_cases e:c.aE.length≤40
  ·rw [av e,bc (by omega)]; rfl
  ·rw [bc e,av (by omega)]; rfl
 have e3:((c.aH.length:Int) != c.aA) = !((c.aH.length:Int) == c.aA):=rfl
 rw [e1,e1',e2,e3,within c.aH _ (by omega) (by omega) (by omega)]
 cases hh:wW c with
 | false=>
  have:rf c=false:=by unfold rf; rw [hh]; rfl
  rw [this]
  unfold wW at hh
  cases ha:(decide (0≤c.aA) && decide (c.aA≤8)) with
  | false=>rfl
  | true=>
   rw [ha] at hh
   simp only [Bool.and_eq_true,decide_eq_true_eq] at ha
   rw [within c.aE _ (by omega) ha.1 (by omega),within c.To _ (by omega) ha.1 (by omega)]
   generalize decide (c.aE.length≤40)=a2 at *
   generalize p7 c.aA c.aE=a3 at *
   generalize (c.To.length == c.aE.length)=a4 at *
   generalize p7 c.aA c.To=a5 at *
   generalize (c.aB.length == c.aE.length)=a6 at *
   generalize ((c.aH.length:Int) == c.aA)=a7 at *
   generalize p7 (c.aE.length:Int) c.aH=a8 at *
   cases a2 <;> first | rfl | (cases a4 <;> first | rfl | (cases a3 <;> first | rfl | (cases a5 <;> first | rfl | (cases a7 <;> first | rfl | (cases a8 <;> first | rfl | (cases a6 <;> first | rfl | (cases hh)))))))
 | true=>
  have H:=F6 hh
  have Jv:=hh
  unfold wW at Jv
  simp only [Bool.and_eq_true] at Jv
  obtain ⟨⟨⟨b1,Kz⟩,b2,b3⟩,⟨b4,b5⟩,b6,b7,b8⟩:=Jv
  rw [within c.aE _ (by omega) H.o0 (by have:=H.o8; omega),within c.To _ (by omega) H.o0 (by have:=H.o8; omega)]
  rw [b1,Kz,b2,b3,b4,b5,b6,b8,b7]
  simp only [Bool.and_self,Bool.not_true,cond_false,aF]
  have hm:=H.m
  have uy:=H.il
  have Es:=H.kl
  refine (congrArg ao (jc (ns c.aH.length) (fun x=>!AB c x) (fun i=>(i:Int)) rfl ?_ ?_ (e:=(c.aH.length:Int)) (y:=false) ?_)).trans ?_
  ·intro i x hx hp
   obtain ⟨rfl,hi⟩:=gu hx
   have:=H.id (x:=(i:Int)) (by omega) (by omega)
   unfold fQ
   unfold AB at hp
   simp only [Bool.not_eq_false'] at hp
   rw [av (by omega),cond_true,H.p8 (by omega) (by omega),aF,Jw H this.1 this.2,aF]
   dsimp only
   rw [hp,Bool.not_true,cond_false,bQ (by omega)]
  ·intro i x hx hp
   obtain ⟨rfl,hi⟩:=gu hx
   have:=H.id (x:=(i:Int)) (by omega) (by omega)
   unfold fQ
   unfold AB at hp
   rw [av (by omega),cond_true,H.p8 (by omega) (by omega),aF,Jw H this.1 this.2,aF]
   dsimp only
   rw [hp,cond_true]
  ·unfold fQ
   rw [dF,bc (by omega),cond_false]
  rw [ni]
  unfold rf
  rw [hh]
  cases xQ:(ns c.aH.length).all (AB c) with
  | false=>rfl
  | true=>
   simp only [Bool.not_true,Bool.false_eq_true,if_false,Bool.true_and]
   refine (congrArg ao (jc (ns c.aE.length) (fun f=>!yX c f) (fun i=>(i:Int)) rfl ?_ ?_ (e:=(c.aE.length:Int)) (y:=false) ?_)).trans ?_
   rotate_left 2
   ·unfold jE
    rw [dF,bc (by omega),cond_false]
   ·rw [ni]
    cases (ns c.aE.length).all (yX c) <;> rfl
   all_goals
    intro i x hx hp
    obtain ⟨rfl,hi⟩:=gu hx
    have hK:=H.mq (f:=(i:Int)) (by omega) (by omega)
    have inner:(gr c.aB i).length=c.aE.length→ag (S:=Int) (ae 4 (aj (fR c (c.aE.length:Int) i (gr c.aB i)) (0:Int))) (fun zY=>(some (Out.norm (an ((i:Int)+(1:Int)))))) =
      if (ns c.aE.length).any (fun g=>!vT c i g) then some (.ret false) else some (Out.norm (an ((i:Int)+(1:Int)))):=by
     intro hr
     refine jc (ns c.aE.length) (fun g=>!vT c i g) (fun j=>(j:Int)) rfl ?_ ?_ (e:=(c.aE.length:Int)) (y:=false) ?_
     rotate_left 2
     ·unfold fR
      rw [dF,bc (by omega),cond_false]
     all_goals
      intro j y hy hq
      obtain ⟨rfl,hj⟩:=gu hy
      unfold fR
      rw [av (by omega),cond_true,cH (by omega) (by omega),aF,H.kz (by omega) (by omega),aF,H.jx (by omega) (by omega),aF,dW (a:=(c.aE.length:Int) - 1) (by omega) (by omega),Df,aF]
      unfold vT gk at hq
      by_cases e:gi c.To i=gi c.aE j
      ·rw [if_pos e] at hq
       rw [show (gi c.To (i:Int) != gi c.aE (j:Int))=false by simp [e],cond_false]
       by_cases l0:0≤gi (gr c.aB i) j∧gi (gr c.aB i) j < c.aE.length
       ·rw [av l0.1,av l0.2] at hq
        rw [av l0.1,av (show gi (gr c.aB i) j≤(c.aE.length:Int) - 1 by omega)]
        simp only [Bool.and_self,Bool.not_true,cond_false,Bool.true_and] at hq ⊢
        rw [Jw H l0.1 l0.2,aF,H.jx (by omega) (by omega),aF,H.kz (by omega) (by omega),aF,aF]
        dsimp only
        rw [hq]
        all_goals (first | rfl | rw [cond_false,bQ (by omega)])
       ·have l1:(decide (0≤gi (gr c.aB i) j) && decide (gi (gr c.aB i) j < c.aE.length))=false:=by
         rcases Classical.not_and_iff_not_or_not.1 l0 with h | h
         ·rw [bc h]; rfl
         ·rw [bc h,Bool.and_false]
        have l2:(decide (0≤gi (gr c.aB i) j) && decide (gi (gr c.aB i) j≤(c.aE.length:Int) - 1))=false:=by
         rcases Classical.not_and_iff_not_or_not.1 l0 with h | h
         ·rw [bc h]; rfl
         ·rw [bc (show ¬ gi (gr c.aB i) j≤(c.aE.length:Int) - 1 by omega),Bool.and_false]
        rw [l1] at hq
        rw [l2]
        all_goals (first | rfl | simp at hq)
      ·rw [if_neg e] at hq
       rw [show (gi c.To (i:Int) != gi c.aE (j:Int))=true by simp [e],cond_true,show (gi (gr c.aB (i:Int)) (j:Int) != -1) = !(gi (gr c.aB (i:Int)) (j:Int) == -1) from rfl,hq]
       all_goals (first | rfl | rw [cond_false,bQ (by omega)])
    unfold jE
    rw [av (by omega),cond_true,hK,aF]
    unfold yX at hp
    by_cases hr:(gr c.aB i).length=c.aE.length
    ·rw [show (((gr c.aB (i:Int)).length:Int) != (c.aE.length:Int))=false by simp [hr],cond_false,inner hr,ni]
     rw [show ((gr c.aB (i:Int)).length == c.aE.length)=true by simp [hr],Bool.true_and] at hp
     rw [hp,bQ (by omega)]
     rfl
    ·rw [show (((gr c.aB (i:Int)).length:Int) != (c.aE.length:Int))=true by (simp; omega),cond_true]
     all_goals (rw [show ((gr c.aB (i:Int)).length == c.aE.length)=false by simp [hr],Bool.false_and] at hp; first | rfl | simp at hp)
end Go.Proofs.YtgjbmjjihmfppaaGreat
namespace Go.Proofs.YtgjbmjjihmfppaaGreat
open Go Go.Li
structure rQ (c:aG):Prop extends Head c where
 wh:∀ x:Int,0≤x→x < c.aA→gi c.aE (gi c.aH x)=x
 xR:∀ x:Int,0≤x→x < c.aA→gi c.To (gi c.aH x)=x
 row:∀ f:Int,0≤f→f < c.aE.length→(gr c.aB f).length=c.aE.length
 cell:∀ f g:Int,0≤f→f < c.aE.length→0≤g→g < c.aE.length→gi c.To f=gi c.aE g→
  0≤gk c.aB f g∧gk c.aB f g < c.aE.length∧gi c.aE (gk c.aB f g)=gi c.aE f∧gi c.To (gk c.aB f g)=gi c.To g
 none:∀ f g:Int,0≤f→f < c.aE.length→0≤g→g < c.aE.length→gi c.To f≠gi c.aE g→gk c.aB f g = -1
theorem D9 {c:aG} (h:rf c=true):rQ c:=by
 unfold rf at h
 simp only [Bool.and_eq_true,List.all_eq_true] at h
 obtain ⟨h1,h2,h3⟩:=h
 have H:=F6 h1
 have uy:=H.il
 have xQ:∀ x,0≤x→x < c.aA→AB c x=true:=fun x a b=>h2 x (bw.2 ⟨a,by omega⟩)
 have bm:∀ f,0≤f→f < (c.aE.length:Int)→yX c f=true:=fun f a b=>h3 f (bw.2 ⟨a,b⟩)
 have lh:∀ f g,0≤f→f < (c.aE.length:Int)→0≤g→g < (c.aE.length:Int)→vT c f g=true:=fun f g a b a' b'=>by
  have:=bm f a b
  unfold yX at this
  simp only [Bool.and_eq_true,List.all_eq_true] at this
  exact this.2 g (bw.2 ⟨a',b'⟩)
 refine { H with
  wh:=fun x a b=>?_
  xR:=fun x a b=>?_
  row:=fun f a b=>?_
  cell:=fun f g a b a' b' e=>?_
  none:=fun f g a b a' b' e=>?_ }
 ·have:=xQ x a b; unfold AB at this; simp at this; exact this.1
 ·have:=xQ x a b; unfold AB at this; simp at this; exact this.2
 ·have:=bm f a b; unfold yX at this; simp only [Bool.and_eq_true,beq_iff_eq] at this; exact this.1
 ·have:=lh f g a b a' b'; unfold vT at this; rw [if_pos e] at this; simp only [Bool.and_eq_true,decide_eq_true_eq,beq_iff_eq] at this; exact ⟨this.1.1,this.1.2,this.2.1,this.2.2⟩
 ·have:=lh f g a b a' b'; unfold vT at this; rw [if_neg e] at this; simpa using this
namespace rQ
variable {c:aG} (h:rQ c)
include h
theorem l8 {f g:Int} (h0:0≤f) (h1:f < c.aE.length) (h2:0≤g) (h3:g < c.aE.length):idx (gr c.aB f) g=some (gk c.aB f g):=cH h2 (by rw [h.row f h0 h1]; exact h3)
theorem sY {f g:Int} (h0:0≤f) (h1:f < c.aE.length) (h2:0≤g) (h3:g < c.aE.length):dM c f g=some (gk c.aB f g):=by
 unfold dM; rw [h.mq h0 h1,aF,h.l8 h0 h1 h2 h3,aF]; rfl
theorem thenS {f g:Int} (h0:0≤f) (h1:f < c.aE.length) (h2:0≤g) (h3:g < c.aE.length):kU c f g=some (gk c.aB f g):=by
 unfold kU; rw [h.mq h0 h1,aF,h.l8 h0 h1 h2 h3,aF]; rfl
end rQ
def vU (c:aG) (f:Int):Bool:=gk c.aB (gi c.aH (gi c.aE f)) f == f && gk c.aB f (gi c.aH (gi c.To f)) == f
def xH (c:aG) (f g h:Int):Bool:=gi c.To g == gi c.aE h && gk c.aB (gk c.aB f g) h != gk c.aB f (gk c.aB g h)
def CH (c:aG) (f g:Int):Bool:=gi c.To f == gi c.aE g && (ns c.aE.length).any (xH c f g)
def F7 (c:aG) (f:Int):Bool:=(ns c.aE.length).any (CH c f)
def BC (c:aG):Bool:=(ns c.aE.length).all (vU c) && !((ns c.aE.length).any (F7 c))
theorem Lc {c:aG} {k1 k2 k4 k6:Nat} {L0:Int→Option (Out Int (Int×Int×Int×Int))} {L1:Int→Option (Out Int (Int×Int×Int×Int))} {L2:Int→Int→Option (Out Int (Int×Int×Int×Int))} {L3:Int→Int→Int→Option (Out Int (Int×Int×Int×Int))} {z:Int×Int×Int×Int} (hz:z.1=0)
  (a0:∀ i:Nat,i < c.aE.length→vU c i=true→L0 i=some (.norm ((i+1:Nat):Int)))
  (a1:∀ i:Nat,i < c.aE.length→vU c i=false→∃ y,L0 i=some (.ret y)∧y.1≠0)
  (a2:L0 c.aE.length=some (.exit k1 c.aE.length))
  (b0:∀ i:Nat,i < c.aE.length→L1 i=ag (ae k4 (aj (L2 i) 0)) fun _=>some (.norm ((i+1:Nat):Int)))
  (b2:L1 c.aE.length=some (.exit k2 c.aE.length))
  (d0:∀ i j:Nat,i < c.aE.length→j < c.aE.length→gi c.To i≠gi c.aE j→L2 i j=some (.norm ((j+1:Nat):Int)))
  (d1:∀ i j:Nat,i < c.aE.length→j < c.aE.length→gi c.To i=gi c.aE j→L2 i j=ag (ae k6 (aj (L3 i j) 0)) fun _=>some (.norm ((j+1:Nat):Int)))
  (d2:∀ i:Nat,L2 i c.aE.length=some (.exit k4 c.aE.length))
  (e0:∀ i j h:Nat,i < c.aE.length→j < c.aE.length→h < c.aE.length→gi c.To i=gi c.aE j→xH c i j h=false→L3 i j h=some (.norm ((h+1:Nat):Int)))
  (e1:∀ i j h:Nat,i < c.aE.length→j < c.aE.length→h < c.aE.length→gi c.To i=gi c.aE j→xH c i j h=true→∃ y,L3 i j h=some (.ret y)∧y.1≠0)
  (e2:∀ i j:Nat,L3 i j c.aE.length=some (.exit k6 c.aE.length)) :
  ∃ y,ao (S:=Unit) (ag (ae k1 (aj L0 0)) fun _=>ag (ae k2 (aj L1 0)) fun _=>some (.ret z))=some y∧(y.1 == 0)=BC c:=by
 have in3:∀ i j:Nat,i < c.aE.length→j < c.aE.length→gi c.To i=gi c.aE j→
   ((ns c.aE.length).any (xH c i j)=true∧∃ y,ag (S:=Int) (ae k6 (aj (L3 i j) 0)) (fun _=>some (.norm ((j+1:Nat):Int)))=some (.ret y)∧y.1≠0)∨
   ((ns c.aE.length).any (xH c i j)=false∧ag (S:=Int) (ae k6 (aj (L3 i j) 0)) (fun _=>some (.norm ((j+1:Nat):Int)))=some (.norm ((j+1:Nat):Int))):=by
  intro i j hi hj he
  refine yW (ns c.aE.length) (xH c i j) (fun y:Int×Int×Int×Int=>y.1≠0) (fun h=>(h:Int)) rfl ?_ ?_ (e:=(c.aE.length:Int)) (by rw [dF]; exact e2 i j)
  ·intro h x hx hp; obtain ⟨rfl,hh⟩:=gu hx; exact e0 i j h hi hj hh he hp
  ·intro h x hx hp; obtain ⟨rfl,hh⟩:=gu hx; exact e1 i j h hi hj hh he hp
 have in2:∀ i:Nat,i < c.aE.length→
   ((ns c.aE.length).any (CH c i)=true∧∃ y,ag (S:=Int) (ae k4 (aj (L2 i) 0)) (fun _=>some (.norm ((i+1:Nat):Int)))=some (.ret y)∧y.1≠0)∨
   ((ns c.aE.length).any (CH c i)=false∧ag (S:=Int) (ae k4 (aj (L2 i) 0)) (fun _=>some (.norm ((i+1:Nat):Int)))=some (.norm ((i+1:Nat):Int))):=by
  intro i hi
  refine yW (ns c.aE.length) (CH c i) (fun y:Int×Int×Int×Int=>y.1≠0) (fun h=>(h:Int)) rfl ?_ ?_ (e:=(c.aE.length:Int)) (by rw [dF]; exact d2 i)
  ·intro j x hx hp
   obtain ⟨rfl,hj⟩:=gu hx
   by_cases he:gi c.To i=gi c.aE j
   ·rw [d1 i j hi hj he]
    rcases in3 i j hi hj he with ⟨h1,_⟩ | ⟨_,h2⟩
    ·unfold CH at hp; rw [h1] at hp; simp [he] at hp
    ·exact h2
   ·exact d0 i j hi hj he
  ·intro j x hx hp
   obtain ⟨rfl,hj⟩:=gu hx
   unfold CH at hp
   simp only [Bool.and_eq_true,beq_iff_eq] at hp
   rw [d1 i j hi hj hp.1]
   rcases in3 i j hi hj hp.1 with ⟨_,h⟩ | ⟨h1,_⟩
   ·exact h
   ·rw [hp.2] at h1; cases h1
 rcases yW (s0:=(0:Int)) (S:=Unit) (R:=Int×Int×Int×Int) (k:=k1) (body:=L0) (f:=fun _=>ag (ae k2 (aj L1 0)) fun _=>some (.ret z)) (ns c.aE.length) (fun i=>!vU c i) (fun y:Int×Int×Int×Int=>y.1≠0) (fun i=>(i:Int)) rfl
   (fun i x hx hp=>by obtain ⟨rfl,hi⟩:=gu hx; exact a0 i hi (by simpa using hp)) (fun i x hx hp=>by obtain ⟨rfl,hi⟩:=gu hx; exact a1 i hi (by simpa using hp)) (e:=(c.aE.length:Int)) (by rw [dF]; exact a2) with ⟨h1,y,h2,h3⟩ | ⟨h1,h2⟩
 ·refine ⟨y,by rw [h2]; rfl,?_⟩
  unfold BC
  rw [ni] at h1
  simp only [Bool.not_eq_true'] at h1
  rw [h1]
  simpa using h3
 ·rw [ni] at h1
  simp only [Bool.not_eq_false'] at h1
  rw [h2]
  rcases yW (s0:=(0:Int)) (S:=Unit) (R:=Int×Int×Int×Int) (k:=k2) (body:=L1) (f:=fun _=>some (.ret z)) (ns c.aE.length) (F7 c) (fun y:Int×Int×Int×Int=>y.1≠0) (fun i=>(i:Int)) rfl
   (fun i x hx hp=>by
    obtain ⟨rfl,hi⟩:=gu hx
    rw [b0 i hi]
    rcases in2 i hi with ⟨q1,_⟩ | ⟨_,q2⟩
    ·unfold F7 at hp; rw [q1] at hp; cases hp
    ·exact q2)
   (fun i x hx hp=>by
    obtain ⟨rfl,hi⟩:=gu hx
    rw [b0 i hi]
    rcases in2 i hi with ⟨_,q⟩ | ⟨q1,_⟩
    ·exact q
    ·unfold F7 at hp; rw [q1] at hp; cases hp) (e:=(c.aE.length:Int)) (by rw [dF]; exact b2) with ⟨g1,y,g2,g3⟩ | ⟨g1,g2⟩
  ·refine ⟨y,by rw [g2]; rfl,?_⟩
   unfold BC
   rw [h1,g1]
   simpa using g3
  ·refine ⟨z,by rw [g2]; rfl,?_⟩
   unfold BC
   rw [h1,g1,hz]
   rfl
section
variable {c:aG} (H:rQ c)
include H
theorem O1:∃ y,nO c=some y∧(y.1 == 0)=BC c:=by
 have hm:=H.m
 have uy:=H.il
 have u0:∀ i:Nat,i < c.aE.length→lB c i=if vU c i then some (Out.norm ((i+1:Nat):Int)) else some (Out.ret ((1:Int),(i:Int),(0:Int),(0:Int))):=by
  intro i hi
  have f1:=H.fr (f:=(i:Int)) (by omega) (by omega)
  have t1:=H.to (f:=(i:Int)) (by omega) (by omega)
  have i1:=H.id f1.1 f1.2
  have i2:=H.id t1.1 t1.2
  unfold lB
  rw [av (by omega),cond_true,H.jx (by omega) (by omega),aF,H.p8 f1.1 f1.2,aF,H.mq i1.1 i1.2,aF,H.l8 i1.1 i1.2 (by omega) (by omega),aF]
  rw [H.mq (by omega) (by omega),aF,H.kz (by omega) (by omega),aF,H.p8 t1.1 t1.2,aF,H.l8 (by omega) (by omega) i2.1 i2.2,aF]
  unfold vU
  by_cases e1:gk c.aB (gi c.aH (gi c.aE i)) i=i
  ·by_cases e2:gk c.aB i (gi c.aH (gi c.To i))=i
   ·simp [e1,e2,bQ (show i < 9223372036854775807 by omega)]
   ·simp [e1,e2,vS e2]
  ·simp [e1,vS e1]
 unfold nO
 refine Lc (c:=c) (z:=(0,0,0,0)) rfl (L2:=jD c) (L3:=jC c) (k4:=4) (k6:=6) ?_ ?_ ?_ ?_ ?_ ?_ ?_ ?_ ?_ ?_ ?_
 ·intro i hi hp; rw [u0 i hi,hp]; rfl
 ·intro i hi hp; rw [u0 i hi,hp]; exact ⟨_,rfl,by simp⟩
 ·unfold lB; rw [bc (by omega),cond_false]
 ·intro i hi; unfold oC; rw [av (by omega),cond_true,bQ (by omega)]
 ·unfold oC; rw [bc (by omega),cond_false]
 ·intro i j hi hj he
  unfold jD
  rw [av (by omega),cond_true,H.kz (by omega) (by omega),aF,H.jx (by omega) (by omega),aF,show (gi c.To (i:Int) != gi c.aE (j:Int))=true by simp [he],cond_true,bQ (by omega)]
 ·intro i j hi hj he
  unfold jD
  rw [av (by omega),cond_true,H.kz (by omega) (by omega),aF,H.jx (by omega) (by omega),aF,show (gi c.To (i:Int) != gi c.aE (j:Int))=false by simp [he],cond_false,bQ (by omega)]
 ·intro i; unfold jD; rw [bc (by omega),cond_false]
 ·intro i j h hi hj hh he hp
  unfold jC
  rw [av (by omega),cond_true,H.kz (by omega) (by omega),aF,H.jx (by omega) (by omega),aF]
  unfold xH at hp
  by_cases e:gi c.To j=gi c.aE h
  ·have c1:=H.cell i j (by omega) (by omega) (by omega) (by omega) he
   have c2:=H.cell j h (by omega) (by omega) (by omega) (by omega) e
   rw [show (gi c.To (j:Int) == gi c.aE (h:Int))=true by simp [e]] at hp ⊢
   rw [cond_true,H.mq (by omega) (by omega),aF,H.l8 (by omega) (by omega) (by omega) (by omega),aF,H.mq c1.1 c1.2.1,aF,H.l8 c1.1 c1.2.1 (by omega) (by omega),aF,aF,H.mq (by omega) (by omega),aF,H.l8 (by omega) (by omega) (by omega) (by omega),aF,H.l8 (by omega) (by omega) c2.1 c2.2.1,aF]
   rw [Bool.true_and] at hp
   rw [hp,aF,cond_false,bQ (by omega)]
  ·rw [show (gi c.To (j:Int) == gi c.aE (h:Int))=false by simp [e],cond_false,aF,cond_false,bQ (by omega)]
 ·intro i j h hi hj hh he hp
  unfold jC
  rw [av (by omega),cond_true,H.kz (by omega) (by omega),aF,H.jx (by omega) (by omega),aF]
  unfold xH at hp
  simp only [Bool.and_eq_true] at hp
  have e:gi c.To j=gi c.aE h:=by simpa using hp.1
  have c1:=H.cell i j (by omega) (by omega) (by omega) (by omega) he
  have c2:=H.cell j h (by omega) (by omega) (by omega) (by omega) e
  rw [hp.1,cond_true,H.mq (by omega) (by omega),aF,H.l8 (by omega) (by omega) (by omega) (by omega),aF,H.mq c1.1 c1.2.1,aF,H.l8 c1.1 c1.2.1 (by omega) (by omega),aF,aF,H.mq (by omega) (by omega),aF,H.l8 (by omega) (by omega) (by omega) (by omega),aF,H.l8 (by omega) (by omega) c2.1 c2.2.1,aF]
  rw [hp.2,aF,cond_true]
  exact ⟨_,rfl,by simp⟩
 ·intro i j; unfold jC; rw [bc (by omega),cond_false]
theorem O2:∃ y,jG c=some y∧(y.1 == 0)=BC c:=by
 have hm:=H.m
 have uy:=H.il
 have u0:∀ i:Nat,i < c.aE.length→gV c c.aE.length i=if vU c i then some (Out.norm ((i+1:Nat):Int)) else some (Out.ret ((1:Int),(i:Int),(0:Int),(0:Int))):=by
  intro i hi
  have f1:=H.fr (f:=(i:Int)) (by omega) (by omega)
  have t1:=H.to (f:=(i:Int)) (by omega) (by omega)
  have i1:=H.id f1.1 f1.2
  have i2:=H.id t1.1 t1.2
  unfold gV
  rw [av (by omega),cond_true,H.jx (by omega) (by omega),aF,H.p8 f1.1 f1.2,aF,H.sY i1.1 i1.2 (by omega) (by omega),aF]
  rw [H.kz (by omega) (by omega),aF,H.p8 t1.1 t1.2,aF,H.sY (by omega) (by omega) i2.1 i2.2,aF]
  unfold vU
  by_cases e1:gk c.aB (gi c.aH (gi c.aE i)) i=i
  ·by_cases e2:gk c.aB i (gi c.aH (gi c.To i))=i
   ·simp [e1,e2,bQ (show i < 9223372036854775807 by omega)]
   ·simp [e1,e2,vS e2]
  ·simp [e1,vS e1]
 have pos:∀ i j:Nat,i < c.aE.length→j < c.aE.length→(gi c.To i=gi c.aE j→0≤gk c.aB i j)∧(gi c.To i≠gi c.aE j→gk c.aB i j < 0):=by
  intro i j hi hj
  refine ⟨fun e=>(H.cell i j (by omega) (by omega) (by omega) (by omega) e).1,fun e=>?_⟩
  rw [H.none i j (by omega) (by omega) (by omega) (by omega) e]; decide
 unfold jG dS
 rw [show ao (S:=Unit) (some (Out.ret (c.aE.length:Int)))=some (c.aE.length:Int) from rfl,aF]
 refine Lc (c:=c) (z:=(0,0,0,0)) rfl (L2:=fE c c.aE.length) (L3:=fD c c.aE.length) (k4:=4) (k6:=6) ?_ ?_ ?_ ?_ ?_ ?_ ?_ ?_ ?_ ?_ ?_
 ·intro i hi hp; rw [u0 i hi,hp]; rfl
 ·intro i hi hp; rw [u0 i hi,hp]; exact ⟨_,rfl,by simp⟩
 ·unfold gV; rw [bc (by omega),cond_false]
 ·intro i hi; unfold jZ; rw [av (by omega),cond_true,bQ (by omega)]
 ·unfold jZ; rw [bc (by omega),cond_false]
 ·intro i j hi hj he
  unfold fE
  rw [av (by omega),cond_true,H.sY (by omega) (by omega) (by omega) (by omega),aF,av ((pos i j hi hj).2 he),cond_true,bQ (by omega)]
 ·intro i j hi hj he
  have:=(pos i j hi hj).1 he
  unfold fE
  rw [av (by omega),cond_true,H.sY (by omega) (by omega) (by omega) (by omega),aF,bc (by omega),cond_false,bQ (by omega)]
 ·intro i; unfold fE; rw [bc (by omega),cond_false]
 ·intro i j h hi hj hh he hp
  unfold fD
  rw [av (by omega),cond_true,H.sY (by omega) (by omega) (by omega) (by omega),aF]
  unfold xH at hp
  by_cases e:gi c.To j=gi c.aE h
  ·have c1:=H.cell i j (by omega) (by omega) (by omega) (by omega) he
   have c2:=H.cell j h (by omega) (by omega) (by omega) (by omega) e
   rw [show (gi c.To (j:Int) == gi c.aE (h:Int))=true by simp [e],Bool.true_and] at hp
   rw [av (show gk c.aB j h ≥ 0 from c2.1),cond_true,H.sY (by omega) (by omega) (by omega) (by omega),aF,H.sY c1.1 c1.2.1 (by omega) (by omega),aF,aF,H.sY (by omega) (by omega) c2.1 c2.2.1,aF,hp,aF,cond_false,bQ (by omega)]
  ·have:=(pos j h hj hh).2 e
   rw [bc (show ¬ gk c.aB j h ≥ 0 by omega),cond_false,aF,cond_false,bQ (by omega)]
 ·intro i j h hi hj hh he hp
  unfold fD
  unfold xH at hp
  simp only [Bool.and_eq_true] at hp
  have e:gi c.To j=gi c.aE h:=by simpa using hp.1
  have c1:=H.cell i j (by omega) (by omega) (by omega) (by omega) he
  have c2:=H.cell j h (by omega) (by omega) (by omega) (by omega) e
  rw [av (by omega),cond_true,H.sY (by omega) (by omega) (by omega) (by omega),aF,av (show gk c.aB j h ≥ 0 from c2.1),cond_true,H.sY (by omega) (by omega) (by omega) (by omega),aF,H.sY c1.1 c1.2.1 (by omega) (by omega),aF,aF,H.sY (by omega) (by omega) c2.1 c2.2.1,aF,hp.2,aF,cond_true]
  exact ⟨_,rfl,by simp⟩
 ·intro i j; unfold fD; rw [bc (by omega),cond_false]
end
structure pq (c:aG):Prop extends rQ c where
 Dg:∀ f:Int,0≤f→f < c.aE.length→gk c.aB (gi c.aH (gi c.aE f)) f=f
 Hs:∀ f:Int,0≤f→f < c.aE.length→gk c.aB f (gi c.aH (gi c.To f))=f
 assoc:∀ f g h:Int,0≤f→f < c.aE.length→0≤g→g < c.aE.length→0≤h→h < c.aE.length→gi c.To f=gi c.aE g→gi c.To g=gi c.aE h→
  gk c.aB (gk c.aB f g) h=gk c.aB f (gk c.aB g h)
def p9 (c:aG):Bool:=rf c && BC c
theorem yY {c:aG} (h:p9 c=true):pq c:=by
 unfold p9 at h
 simp only [Bool.and_eq_true] at h
 obtain ⟨h1,h2⟩:=h
 have H:=D9 h1
 unfold BC at h2
 simp only [Bool.and_eq_true,List.all_eq_true,Bool.not_eq_true',List.any_eq_false] at h2
 obtain ⟨h2,h3⟩:=h2
 refine { H with
  Dg:=fun f a b=>?_
  Hs:=fun f a b=>?_
  assoc:=fun f g h a b a' b' a'' b'' e1 e2=>?_ }
 ·have:=h2 f (bw.2 ⟨a,b⟩); unfold vU at this; simp at this; exact this.1
 ·have:=h2 f (bw.2 ⟨a,b⟩); unfold vU at this; simp at this; exact this.2
 ·have:=h3 f (bw.2 ⟨a,b⟩)
  unfold F7 at this
  simp only [List.any_eq_true,not_exists,not_and] at this
  have:=this g (bw.2 ⟨a',b'⟩)
  unfold CH at this
  simp only [Bool.and_eq_true,beq_iff_eq,List.any_eq_true,not_and,not_exists] at this
  have:=this e1 h (bw.2 ⟨a'',b''⟩)
  unfold xH at this
  simpa [e2] using this
theorem O3 {c:aG} (hs:gx c):pC c=some (p9 c):=by
 unfold pC
 rw [OZ hs,aF]
 unfold p9
 cases h:rf c with
 | false=>rfl
 | true=>
  obtain ⟨y,h1,h2⟩:=O1 (D9 h)
  rw [Bool.not_true,cond_false,h1,aF,h2]; rfl
theorem O4 {c:aG} (hs:gx c):fS c=some (p9 c):=by
 unfold fS
 rw [O0 hs,aF]
 unfold p9
 cases h:rf c with
 | false=>rfl
 | true=>
  obtain ⟨y,h1,h2⟩:=O2 (D9 h)
  rw [Bool.not_true,cond_false,h1,aF,h2]; rfl
end Go.Proofs.YtgjbmjjihmfppaaGreat
