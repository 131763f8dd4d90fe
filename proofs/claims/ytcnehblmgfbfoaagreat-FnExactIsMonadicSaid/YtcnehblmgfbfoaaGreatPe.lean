/- Is a table a category: the reference and the program agree, and what is known of a category. No condition beside those that each theorem names. -/
import Derived.Test.YtcnehblmgfbfoaaGreatPa
set_option linter.unusedVariables false
set_option linter.unusedSectionVars false
set_option linter.unusedSimpArgs false
namespace Go.Li
open Go
section
variable {S S1 R α:Type} {body:S1→Option (Out S1 R)}
theorem uI {k:Nat} {f:S1→Option (Out S R)} {s0 e:S1} (l:List α) (p:α→Bool) (G:R→Prop) (st:Nat→S1) (h0:st 0=s0) (step:∀ i x,l[i]? = some x→p x=false→body (st i)=some (.norm (st (i+1))))
  (JP:∀ i x,l[i]? = some x→p x=true→∃ y,body (st i)=some (.ret y)∧G y) (last:body (st l.length)=some (.exit k e)) :
  (l.any p=true∧∃ y,aj (ag k (ai body s0)) f=some (.ret y)∧G y)∨(l.any p=false∧aj (ag k (ai body s0)) f=f e):=by
 have key:∀ (m:List α) (i:Nat),l.drop i=m→i≤l.length→(m.any p=true∧∃ y,ai body (st i)=some (.ret y)∧G y)∨(m.any p=false∧ai body (st i)=some (.exit k e)):=by
  intro m
  induction m with
  | nil=>
   intro i hd hi
   have:i=l.length:=by have:=congrArg List.length hd; simp at this; omega
   subst this
   exact .inr ⟨rfl,o7 last⟩
  | cons x m ih=>
   intro i hd hi
   have bo:i < l.length:=by
    rcases Nat.lt_or_ge i l.length with h | h
    ·exact h
    ·rw [List.drop_eq_nil_of_le h] at hd; cases hd
   have hx:l[i]? = some x:=by
    rw [List.drop_eq_getElem_cons bo] at hd
    rw [List.getElem?_eq_getElem bo]; exact congrArg some (List.cons.inj hd).1
   have ie:l.drop (i+1)=m:=by
    rw [List.drop_eq_getElem_cons bo] at hd; exact (List.cons.inj hd).2
   cases hp:p x with
   | true=>
    obtain ⟨y,hy,hg⟩:=JP i x hx hp
    exact .inl ⟨by simp [hp],y,vh hy,hg⟩
   | false=>
    rw [nk,step i x hx hp]
    simpa [hp] using ih (i+1) ie bo
 rcases key l 0 rfl (Nat.zero_le _) with ⟨h1,y,h2,h3⟩ | ⟨h1,h2⟩
 ·rw [h0] at h2; exact .inl ⟨h1,y,wi h2,h3⟩
 ·rw [h0] at h2; exact .inr ⟨h1,sB h2⟩
theorem JS {n i x:Nat} (h:(List.range n)[i]? = some x):x=i∧i < n:=by
 have hi:=bc h
 rw [List.getElem?_eq_getElem hi] at h
 simp at h hi
 exact ⟨h.symm,hi⟩
end
def gi (l:List Int) (j:Int):Int:=l.getD j.toNat 0
def gr (l:List (List Int)) (j:Int):List Int:=l.getD j.toNat []
def gk (l:List (List Int)) (i j:Int):Int:=gi (gr l i) j
theorem dE {l:List Int} {j:Int} (h0:0≤j) (h1:j < l.length):idx l j=some (gi l j):=by
 rw [Eu h0 h1]; unfold gi; rw [List.getD_eq_getElem?_getD,List.getElem?_eq_getElem (by omega)]; rfl
theorem po {l:List (List Int)} {j:Int} (h0:0≤j) (h1:j < l.length):idx l j=some (gr l j):=by
 rw [Eu h0 h1]; unfold gr; rw [List.getD_eq_getElem?_getD,List.getElem?_eq_getElem (by omega)]; rfl
theorem ks {l:List Int} {j:Int} (h0:0≤j) (h1:j < l.length):gi l j∈l:=by
 unfold gi; rw [List.getD_eq_getElem?_getD,List.getElem?_eq_getElem (by omega)]; exact List.getElem_mem _
theorem nx {l:List (List Int)} {j:Int} (h0:0≤j) (h1:j < l.length):gr l j∈l:=by
 unfold gr; rw [List.getD_eq_getElem?_getD,List.getElem?_eq_getElem (by omega)]; exact List.getElem_mem _
def ns (n:Nat):List Int:=(List.range n).map Int.ofNat
theorem cj {n i:Nat} {x:Int} (h:(ns n)[i]? = some x):x=(i:Int)∧i < n:=by
 unfold ns at h
 rw [List.getElem?_map] at h
 cases hr:(List.range n)[i]? with
 | none=>rw [hr] at h; cases h
 | some y=>
  rw [hr] at h
  obtain ⟨rfl,hi⟩:=JS hr
  exact ⟨(Option.some.inj h).symm,hi⟩
theorem cJ (n:Nat):(ns n).length=n:=by simp [ns]
theorem dj {n:Nat} {x:Int}:x∈ns n↔0≤x∧x < n:=by
 unfold ns
 simp only [List.mem_map,List.mem_range]
 constructor
 ·rintro ⟨a,h1,rfl⟩; simp; omega
 ·rintro ⟨h1,h2⟩; exact ⟨x.toNat,by omega,by simp; omega⟩
end Go.Li
namespace Go.Proofs.YtcnehblmgfbfoaaGreat
open Go Go.Li
def na (n:Int) (f:List Int):Bool:=f.all fun y=>decide (0≤y) && decide (y < n)
theorem mr {n:Int} {f:List Int}:na n f=true↔∀ y∈f,0≤y∧y < n:=by simp [na]
theorem lq {α:Type} (l:List α) (p:α→Bool):l.any (fun x=>!p x) = !l.all p:=by
 induction l with
 | nil=>rfl
 | cons a l ih=>simp only [List.any_cons,List.all_cons,ih,Bool.not_and]
theorem wj (n:Int) (f:List Int) (hf:f.length≤1048576000):jX n f=some (na n f):=by
 unfold jX
 refine (congrArg an (gh f (fun y=>!(decide (0≤y) && decide (y < n))) (fun i=>(i:Int)) rfl ?_ ?_ (e:=(f.length:Int)) (y:=false) ?_)).trans ?_
 ·intro i x hx hp
  have hi:=bc hx
  unfold nO
  simp only [Bool.not_eq_false',Bool.and_eq_true,decide_eq_true_eq] at hp
  rw [ao (by omega),cond_true,bf,hx,aB,av (by omega),cond_false,aB,av (by omega),aB,cond_false,bR (by omega)]
 ·intro i x hx hp
  have hi:=bc hx
  unfold nO
  rw [ao (by omega),cond_true,bf,hx,aB,aB]
  by_cases h:x < 0
  ·rw [ao h,cond_true,aB,cond_true]
  ·have:n≤x:=by simp at hp; omega
   rw [av h,cond_false,ao (by omega),aB,cond_true]
 ·unfold nO
  rw [av (by omega),cond_false]
 ·rw [lq]
  show an (if (!na n f)=true then _ else _)=_
  cases na n f <;> rfl
theorem yR (n a b:Int):mD n a b=some (decide (a≤n) && decide (n≤b)):=by
 unfold mD
 by_cases h:a≤n
 ·rw [ao (show n ≥ a from h),cond_true]; rfl
 ·rw [av (show ¬ n ≥ a from h),cond_false]; rfl
theorem SF (n a b:Int):pH n a b=some (decide (a≤n) && decide (n≤b)):=by
 unfold pH
 by_cases h:a≤n
 ·rw [ao (show n ≥ a from h),cond_true]; rfl
 ·rw [av (show ¬ n ≥ a from h),cond_false]; rfl
theorem within (f:List Int) (n:Int) (hf:f.length≤1048576000) (hn:0≤n) (Js:n≤1048576000):iO f n=some (na n f):=by
 unfold iO
 refine (congrArg an (gh f (fun y=>!(decide (0≤y) && decide (y < n))) (fun i=>(i:Int)) rfl ?_ ?_ (e:=(f.length:Int)) (y:=false) ?_)).trans ?_
 ·intro i x hx hp
  have hi:=bc hx
  unfold nR
  simp only [Bool.not_eq_false',Bool.and_eq_true,decide_eq_true_eq] at hp
  rw [ao (by omega),cond_true,bf,hx,aB,oS (by omega) (by omega),yR,aB,ao hp.1,ao (by omega)]
  simp only [Bool.and_self,Bool.not_true,cond_false]
  rw [bR (by omega)]
 ·intro i x hx hp
  have hi:=bc hx
  unfold nR
  rw [ao (by omega),cond_true,bf,hx,aB,oS (by omega) (by omega),yR,aB]
  have:(decide (0≤x) && decide (x≤n - 1))=false:=by
   by_cases h:x < 0
   ·rw [av (by omega)]; rfl
   ·have:n≤x:=by simp at hp; omega
    rw [av (show ¬ x≤n - 1 by omega),Bool.and_false]
  rw [this]; rfl
 ·unfold nR
  rw [av (by omega),cond_false]
 ·rw [lq]
  show an (if (!na n f)=true then _ else _)=_
  cases na n f <;> rfl
def sL (c:aJ):Bool:=((decide (0≤c.aE) && decide (c.aE≤8)) && (decide (c.aH.length≤40) && na c.aE c.aH)) && (((c.To.length == c.aH.length) && na c.aE c.To) && ((c.aG.length == c.aH.length) && (((c.aI.length:Int) == c.aE) && na c.aH.length c.aI)))
def wk (c:aJ) (x:Int):Bool:=gi c.aH (gi c.aI x) == x && gi c.To (gi c.aI x) == x
def sc (c:aJ) (f g:Int):Bool:=
 if gi c.To f=gi c.aH g then (decide (0≤gk c.aG f g) && decide (gk c.aG f g < c.aH.length)) && (gi c.aH (gk c.aG f g) == gi c.aH f && gi c.To (gk c.aG f g) == gi c.To g)
 else gk c.aG f g == -1
def uJ (c:aJ) (f:Int):Bool:=((gr c.aG f).length == c.aH.length) && (ns c.aH.length).all fun g=>sc c f g
def nb (c:aJ):Bool:=sL c && ((ns c.aI.length).all (wk c) && (ns c.aH.length).all (uJ c))
structure Head (c:aJ):Prop where
 o0:0≤c.aE
 o8:c.aE≤8
 m:c.aH.length≤40
 f:∀ x∈c.aH,0≤x∧x < c.aE
 tl:c.To.length=c.aH.length
 t:∀ x∈c.To,0≤x∧x < c.aE
 kl:c.aG.length=c.aH.length
 il:(c.aI.length:Int)=c.aE
 i:∀ x∈c.aI,0≤x∧x < c.aH.length
theorem Bi {c:aJ} (h:sL c=true):Head c:=by
 unfold sL at h
 simp only [Bool.and_eq_true,decide_eq_true_eq,mr,beq_iff_eq] at h
 obtain ⟨⟨⟨h1,h2⟩,h3,h4⟩,⟨h5,h6⟩,h7,h8,h9⟩:=h
 exact ⟨h1,h2,h3,h4,h5,h6,h7,h8,h9⟩
set_option linter.unusedSectionVars false
namespace Head
variable {c:aJ} (h:Head c)
include h
theorem fr {f:Int} (h0:0≤f) (h1:f < c.aH.length):0≤gi c.aH f∧gi c.aH f < c.aE:=h.f _ (ks h0 h1)
theorem to {f:Int} (h0:0≤f) (h1:f < c.aH.length):0≤gi c.To f∧gi c.To f < c.aE:=h.t _ (ks h0 (by rw [h.tl]; exact h1))
theorem id {x:Int} (h0:0≤x) (h1:x < c.aE):0≤gi c.aI x∧gi c.aI x < c.aH.length:=h.i _ (ks h0 (by rw [h.il]; exact h1))
theorem fx {f:Int} (h0:0≤f) (h1:f < c.aH.length):idx c.aH f=some (gi c.aH f):=dE h0 h1
theorem gw {f:Int} (h0:0≤f) (h1:f < c.aH.length):idx c.To f=some (gi c.To f):=dE h0 (by rw [h.tl]; exact h1)
theorem lg {x:Int} (h0:0≤x) (h1:x < c.aE):idx c.aI x=some (gi c.aI x):=dE h0 (by rw [h.il]; exact h1)
theorem qt {f:Int} (h0:0≤f) (h1:f < c.aH.length):idx c.aG f=some (gr c.aG f):=po h0 (by rw [h.kl]; exact h1)
end Head
theorem JT {c:aJ} (hs:ew c):oI c=some (nb c):=by
 obtain ⟨z1,z2,z3,z4,z5⟩:=hs
 have ends:∀ (l:List Int) (n:Nat) (o:Int),l.length≤1048576→nD l (n:Int) o=some ((l.length == n) && na o l):=by
  intro l n o hl
  unfold nD
  by_cases e:l.length=n
  ·rw [show ((l.length:Int) == (n:Int))=true by simp [e],cond_true,wj _ _ (by omega),show (l.length == n)=true by simp [e]]; rfl
  ·rw [show ((l.length:Int) == (n:Int))=false by simp; omega,cond_false,show (l.length == n)=false by simp [e]]; rfl
 unfold oI
 rw [SF,aB,ends _ _ _ z1,ends _ _ _ z2]
 have e1:((c.aG.length:Int) != (c.aH.length:Int)) = !(c.aG.length == c.aH.length):=by
  by_cases e:c.aG.length=c.aH.length
  ·simp [e]
  ·rw [show (c.aG.length == c.aH.length)=false by simp [e]]; simp; omega
 have e2:decide ((c.aH.length:Int) > 40) = !decide (c.aH.length≤40):=by
  by_cases e:c.aH.length≤40
  ·rw [ao e,av (by omega)]; rfl
  ·rw [av e,ao (by omega)]; rfl
 rw [e1,e2,wj _ _ (by omega)]
 cases hh:sL c with
 | false=>
  have:nb c=false:=by unfold nb; rw [hh]; rfl
  rw [this]
  unfold sL at hh
  generalize (decide (0≤c.aE) && decide (c.aE≤8))=a1 at *
  generalize decide (c.aH.length≤40)=a2 at *
  generalize na c.aE c.aH=a3 at *
  generalize (c.To.length == c.aH.length)=a4 at *
  generalize na c.aE c.To=a5 at *
  generalize (c.aG.length == c.aH.length)=a6 at *
  have e3:((c.aI.length:Int) != c.aE) = !((c.aI.length:Int) == c.aE):=rfl
  rw [e3]
  generalize ((c.aI.length:Int) == c.aE)=a7 at *
  generalize na (c.aH.length:Int) c.aI=a8 at *
  simp only [beq_self_eq_true,Bool.true_and]
  cases a1 <;> first | rfl | (cases a2 <;> first | rfl | (cases a3 <;> first | rfl | (cases a4 <;> first | rfl | (cases a5 <;> first | rfl | (cases a6 <;> first | rfl | (cases a7 <;> first | rfl | (cases a8 <;> first | rfl | (cases hh))))))))
 | true=>
  have H:=Bi hh
  have Ev:=hh
  unfold sL at Ev
  simp only [Bool.and_eq_true] at Ev
  obtain ⟨⟨⟨b1,FW⟩,b2,b3⟩,⟨b4,b5⟩,b6,b7,b8⟩:=Ev
  rw [b1,FW,b2,b3,b4,b5,b6,b8,show ((c.aI.length:Int) != c.aE) = !((c.aI.length:Int) == c.aE) from rfl,b7]
  simp only [beq_self_eq_true,Bool.and_self,Bool.not_true,cond_false,aB]
  have hm:=H.m
  have Ew:=H.il
  refine (congrArg an (gh (ns c.aI.length) (fun x=>!wk c x) (fun i=>(i:Int)) rfl ?_ ?_ (e:=(c.aI.length:Int)) (y:=false) ?_)).trans ?_
  ·intro i x hx hp
   obtain ⟨rfl,hi⟩:=cj hx
   have:=H.id (x:=(i:Int)) (by omega) (by omega)
   unfold mZ
   unfold wk at hp
   simp only [Bool.not_eq_false',Bool.and_eq_true,beq_iff_eq] at hp
   rw [ao (by omega),cond_true,H.lg (by omega) (by omega),aB,H.fx this.1 this.2,aB,hp.1,bne_self_eq_false,cond_false,aB,H.gw this.1 this.2,aB,hp.2,bne_self_eq_false,aB,cond_false,bR (by omega)]
  ·intro i x hx hp
   obtain ⟨rfl,hi⟩:=cj hx
   have:=H.id (x:=(i:Int)) (by omega) (by omega)
   unfold mZ
   unfold wk at hp
   rw [ao (by omega),cond_true,H.lg (by omega) (by omega),aB,H.fx this.1 this.2,aB]
   by_cases e:gi c.aH (gi c.aI i)=i
   ·rw [e,bne_self_eq_false,cond_false,aB,H.gw this.1 this.2,aB]
    have:(gi c.To (gi c.aI i) != (i:Int))=true:=by
     rw [e] at hp; simpa using hp
    rw [this]; rfl
   ·rw [show (gi c.aH (gi c.aI i) != (i:Int))=true by simp [e]]; rfl
  ·unfold mZ
   rw [cJ,av (by omega),cond_false]
  rw [lq]
  unfold nb
  rw [hh]
  cases N2:(ns c.aI.length).all (wk c) with
  | false=>rfl
  | true=>
   simp only [Bool.not_true,Bool.false_eq_true,if_false,Bool.true_and]
   refine (congrArg an (gh (ns c.aH.length) (fun f=>!uJ c f) (fun i=>(i:Int)) rfl ?_ ?_ (e:=(c.aH.length:Int)) (y:=false) ?_)).trans ?_
   rotate_left 2
   ·unfold oH
    rw [cJ,av (by omega),cond_false]
   ·rw [lq]
    cases (ns c.aH.length).all (uJ c) <;> rfl
   all_goals
    intro i x hx hp
    obtain ⟨rfl,hi⟩:=cj hx
    have hK:=H.qt (f:=(i:Int)) (by omega) (by omega)
    have inner:(gr c.aG i).length=c.aH.length→aj (S:=Int) (ag 4 (ai (nA c i) (0:Int))) (fun vA=>(some (Out.norm (bg ((i:Int)+(1:Int)))))) =
      if (ns c.aH.length).any (fun g=>!sc c i g) then some (.ret false) else some (Out.norm (bg ((i:Int)+(1:Int)))):=by
     intro hr
     refine gh (ns c.aH.length) (fun g=>!sc c i g) (fun j=>(j:Int)) rfl ?_ ?_ (e:=(c.aH.length:Int)) (y:=false) ?_
     rotate_left 2
     ·unfold nA
      rw [cJ,av (by omega),cond_false]
     all_goals
      intro j y hy hq
      obtain ⟨rfl,hj⟩:=cj hy
      unfold nA
      rw [ao (by omega),cond_true,hK,aB,dE (by omega) (by omega),aB,H.gw (by omega) (by omega),aB,H.fx (by omega) (by omega),aB]
      unfold sc gk at hq
      by_cases e:gi c.To i=gi c.aH j
      ·rw [if_pos e] at hq
       rw [show (gi c.To (i:Int) != gi c.aH (j:Int))=false by simp [e],cond_false]
       by_cases l0:gi (gr c.aG i) j < 0
       ·rw [av (show ¬ 0≤gi (gr c.aG i) j by omega)] at hq
        rw [ao l0,cond_true,aB,cond_true]
        all_goals (first | rfl | simp at hq)
       ·rw [ao (show 0≤gi (gr c.aG i) j by omega)] at hq
        rw [av l0,cond_false]
        by_cases l1:gi (gr c.aG i) j < c.aH.length
        ·rw [ao l1] at hq
         rw [av (show ¬ gi (gr c.aG i) j ≥ c.aH.length by omega),cond_false,H.fx (by omega) l1,aB,H.fx (by omega) (by omega),aB]
         by_cases q1:gi c.aH (gi (gr c.aG i) j)=gi c.aH i
         ·rw [show (gi c.aH (gi (gr c.aG (i:Int)) (j:Int)) == gi c.aH (i:Int))=true by simp [q1]] at hq
          rw [show (gi c.aH (gi (gr c.aG (i:Int)) (j:Int)) != gi c.aH (i:Int))=false by simp [q1],cond_false,H.gw (by omega) l1,aB,H.gw (by omega) (by omega),aB,aB]
          simp only [Bool.and_self,Bool.true_and] at hq
          rw [show (gi c.To (gi (gr c.aG (i:Int)) (j:Int)) != gi c.To (j:Int)) = !(gi c.To (gi (gr c.aG (i:Int)) (j:Int)) == gi c.To (j:Int)) from rfl,hq]
          all_goals (first | rfl | rw [cond_false,bR (by omega)])
         ·rw [show (gi c.aH (gi (gr c.aG (i:Int)) (j:Int)) == gi c.aH (i:Int))=false by simp [q1]] at hq
          rw [show (gi c.aH (gi (gr c.aG (i:Int)) (j:Int)) != gi c.aH (i:Int))=true by simp [q1],cond_true]
          all_goals (first | rfl | simp at hq)
        ·rw [av l1] at hq
         rw [ao (show gi (gr c.aG i) j ≥ c.aH.length by omega),cond_true]
         all_goals (first | rfl | simp at hq)
      ·rw [if_neg e] at hq
       rw [show (gi c.To (i:Int) != gi c.aH (j:Int))=true by simp [e],cond_true,show (gi (gr c.aG (i:Int)) (j:Int) != -1) = !(gi (gr c.aG (i:Int)) (j:Int) == -1) from rfl,hq]
       all_goals (first | rfl | rw [cond_false,bR (by omega)])
    unfold oH
    rw [ao (by omega),cond_true,hK,aB]
    unfold uJ at hp
    by_cases hr:(gr c.aG i).length=c.aH.length
    ·rw [show (((gr c.aG (i:Int)).length:Int) != (c.aH.length:Int))=false by simp [hr],cond_false,inner hr,lq]
     rw [show ((gr c.aG (i:Int)).length == c.aH.length)=true by simp [hr],Bool.true_and] at hp
     rw [hp,bR (by omega)]
     rfl
    ·rw [show (((gr c.aG (i:Int)).length:Int) != (c.aH.length:Int))=true by (simp; omega),cond_true]
     all_goals (rw [show ((gr c.aG (i:Int)).length == c.aH.length)=false by simp [hr],Bool.false_and] at hp; first | rfl | simp at hp)
end Go.Proofs.YtcnehblmgfbfoaaGreat
namespace Go.Proofs.YtcnehblmgfbfoaaGreat
open Go Go.Li
set_option linter.unusedSectionVars false
theorem wm {c:aJ} (H:Head c) {f:Int} (h0:0≤f) (h1:f < c.aH.length):eC c f=some (pV.mk (gi c.aH f) (gi c.To f)):=by
 unfold eC
 rw [H.fx h0 h1,aB,H.gw h0 h1,aB]; rfl
theorem JU {c:aJ} (hs:ew c):jE c=some (nb c):=by
 obtain ⟨z1,z2,z3,z4,z5⟩:=hs
 unfold jE dD
 rw [show an (S:=Unit) (some (Out.ret (c.aH.length:Int)))=some (c.aH.length:Int) from rfl,aB,yR,aB]
 have e1:((c.aG.length:Int) != (c.aH.length:Int)) = !(c.aG.length == c.aH.length):=by
  by_cases e:c.aG.length=c.aH.length
  ·simp [e]
  ·rw [show (c.aG.length == c.aH.length)=false by simp [e]]; simp; omega
 have e1':((c.To.length:Int) != (c.aH.length:Int)) = !(c.To.length == c.aH.length):=by
  by_cases e:c.To.length=c.aH.length
  ·simp [e]
  ·rw [show (c.To.length == c.aH.length)=false by simp [e]]; simp; omega
 have e2:decide ((c.aH.length:Int) > 40) = !decide (c.aH.length≤40):=by
  by_cases e:c.aH.length≤40
  ·rw [ao e,av (by omega)]; rfl
  ·rw [av e,ao (by omega)]; rfl
 have e3:((c.aI.length:Int) != c.aE) = !((c.aI.length:Int) == c.aE):=rfl
 rw [e1,e1',e2,e3,within c.aI _ (by omega) (by omega) (by omega)]
 cases hh:sL c with
 | false=>
  have:nb c=false:=by unfold nb; rw [hh]; rfl
  rw [this]
  unfold sL at hh
  cases ha:(decide (0≤c.aE) && decide (c.aE≤8)) with
  | false=>rfl
  | true=>
   rw [ha] at hh
   simp only [Bool.and_eq_true,decide_eq_true_eq] at ha
   rw [within c.aH _ (by omega) ha.1 (by omega),within c.To _ (by omega) ha.1 (by omega)]
   generalize decide (c.aH.length≤40)=a2 at *
   generalize na c.aE c.aH=a3 at *
   generalize (c.To.length == c.aH.length)=a4 at *
   generalize na c.aE c.To=a5 at *
   generalize (c.aG.length == c.aH.length)=a6 at *
   generalize ((c.aI.length:Int) == c.aE)=a7 at *
   generalize na (c.aH.length:Int) c.aI=a8 at *
   cases a2 <;> first | rfl | (cases a4 <;> first | rfl | (cases a3 <;> first | rfl | (cases a5 <;> first | rfl | (cases a7 <;> first | rfl | (cases a8 <;> first | rfl | (cases a6 <;> first | rfl | (cases hh)))))))
 | true=>
  have H:=Bi hh
  have Ev:=hh
  unfold sL at Ev
  simp only [Bool.and_eq_true] at Ev
  obtain ⟨⟨⟨b1,FW⟩,b2,b3⟩,⟨b4,b5⟩,b6,b7,b8⟩:=Ev
  rw [within c.aH _ (by omega) H.o0 (by have:=H.o8; omega),within c.To _ (by omega) H.o0 (by have:=H.o8; omega)]
  rw [b1,FW,b2,b3,b4,b5,b6,b8,b7]
  simp only [Bool.and_self,Bool.not_true,cond_false,aB]
  have hm:=H.m
  have Ew:=H.il
  have Nl:=H.kl
  refine (congrArg an (gh (ns c.aI.length) (fun x=>!wk c x) (fun i=>(i:Int)) rfl ?_ ?_ (e:=(c.aI.length:Int)) (y:=false) ?_)).trans ?_
  ·intro i x hx hp
   obtain ⟨rfl,hi⟩:=cj hx
   have:=H.id (x:=(i:Int)) (by omega) (by omega)
   unfold gS
   unfold wk at hp
   simp only [Bool.not_eq_false'] at hp
   rw [ao (by omega),cond_true,H.lg (by omega) (by omega),aB,wm H this.1 this.2,aB]
   dsimp only
   rw [hp,Bool.not_true,cond_false,bR (by omega)]
  ·intro i x hx hp
   obtain ⟨rfl,hi⟩:=cj hx
   have:=H.id (x:=(i:Int)) (by omega) (by omega)
   unfold gS
   unfold wk at hp
   rw [ao (by omega),cond_true,H.lg (by omega) (by omega),aB,wm H this.1 this.2,aB]
   dsimp only
   rw [hp,cond_true]
  ·unfold gS
   rw [cJ,av (by omega),cond_false]
  rw [lq]
  unfold nb
  rw [hh]
  cases N2:(ns c.aI.length).all (wk c) with
  | false=>rfl
  | true=>
   simp only [Bool.not_true,Bool.false_eq_true,if_false,Bool.true_and]
   refine (congrArg an (gh (ns c.aH.length) (fun f=>!uJ c f) (fun i=>(i:Int)) rfl ?_ ?_ (e:=(c.aH.length:Int)) (y:=false) ?_)).trans ?_
   rotate_left 2
   ·unfold kG
    rw [cJ,av (by omega),cond_false]
   ·rw [lq]
    cases (ns c.aH.length).all (uJ c) <;> rfl
   all_goals
    intro i x hx hp
    obtain ⟨rfl,hi⟩:=cj hx
    have hK:=H.qt (f:=(i:Int)) (by omega) (by omega)
    have inner:(gr c.aG i).length=c.aH.length→aj (S:=Int) (ag 4 (ai (gT c (c.aH.length:Int) i (gr c.aG i)) (0:Int))) (fun vA=>(some (Out.norm (bg ((i:Int)+(1:Int)))))) =
      if (ns c.aH.length).any (fun g=>!sc c i g) then some (.ret false) else some (Out.norm (bg ((i:Int)+(1:Int)))):=by
     intro hr
     refine gh (ns c.aH.length) (fun g=>!sc c i g) (fun j=>(j:Int)) rfl ?_ ?_ (e:=(c.aH.length:Int)) (y:=false) ?_
     rotate_left 2
     ·unfold gT
      rw [cJ,av (by omega),cond_false]
     all_goals
      intro j y hy hq
      obtain ⟨rfl,hj⟩:=cj hy
      unfold gT
      rw [ao (by omega),cond_true,dE (by omega) (by omega),aB,H.gw (by omega) (by omega),aB,H.fx (by omega) (by omega),aB,oS (a:=(c.aH.length:Int) - 1) (by omega) (by omega),yR,aB]
      unfold sc gk at hq
      by_cases e:gi c.To i=gi c.aH j
      ·rw [if_pos e] at hq
       rw [show (gi c.To (i:Int) != gi c.aH (j:Int))=false by simp [e],cond_false]
       by_cases l0:0≤gi (gr c.aG i) j∧gi (gr c.aG i) j < c.aH.length
       ·rw [ao l0.1,ao l0.2] at hq
        rw [ao l0.1,ao (show gi (gr c.aG i) j≤(c.aH.length:Int) - 1 by omega)]
        simp only [Bool.and_self,Bool.not_true,cond_false,Bool.true_and] at hq ⊢
        rw [wm H l0.1 l0.2,aB,H.fx (by omega) (by omega),aB,H.gw (by omega) (by omega),aB,aB]
        dsimp only
        rw [hq]
        all_goals (first | rfl | rw [cond_false,bR (by omega)])
       ·have l1:(decide (0≤gi (gr c.aG i) j) && decide (gi (gr c.aG i) j < c.aH.length))=false:=by
         rcases Classical.not_and_iff_not_or_not.1 l0 with h | h
         ·rw [av h]; rfl
         ·rw [av h,Bool.and_false]
        have l2:(decide (0≤gi (gr c.aG i) j) && decide (gi (gr c.aG i) j≤(c.aH.length:Int) - 1))=false:=by
         rcases Classical.not_and_iff_not_or_not.1 l0 with h | h
         ·rw [av h]; rfl
         ·rw [av (show ¬ gi (gr c.aG i) j≤(c.aH.length:Int) - 1 by omega),Bool.and_false]
        rw [l1] at hq
        rw [l2]
        all_goals (first | rfl | simp at hq)
      ·rw [if_neg e] at hq
       rw [show (gi c.To (i:Int) != gi c.aH (j:Int))=true by simp [e],cond_true,show (gi (gr c.aG (i:Int)) (j:Int) != -1) = !(gi (gr c.aG (i:Int)) (j:Int) == -1) from rfl,hq]
       all_goals (first | rfl | rw [cond_false,bR (by omega)])
    unfold kG
    rw [ao (by omega),cond_true,hK,aB]
    unfold uJ at hp
    by_cases hr:(gr c.aG i).length=c.aH.length
    ·rw [show (((gr c.aG (i:Int)).length:Int) != (c.aH.length:Int))=false by simp [hr],cond_false,inner hr,lq]
     rw [show ((gr c.aG (i:Int)).length == c.aH.length)=true by simp [hr],Bool.true_and] at hp
     rw [hp,bR (by omega)]
     rfl
    ·rw [show (((gr c.aG (i:Int)).length:Int) != (c.aH.length:Int))=true by (simp; omega),cond_true]
     all_goals (rw [show ((gr c.aG (i:Int)).length == c.aH.length)=false by simp [hr],Bool.false_and] at hp; first | rfl | simp at hp)
end Go.Proofs.YtcnehblmgfbfoaaGreat
namespace Go.Proofs.YtcnehblmgfbfoaaGreat
open Go Go.Li
structure pP (c:aJ):Prop extends Head c where
 BZ:∀ x:Int,0≤x→x < c.aE→gi c.aH (gi c.aI x)=x
 GC:∀ x:Int,0≤x→x < c.aE→gi c.To (gi c.aI x)=x
 row:∀ f:Int,0≤f→f < c.aH.length→(gr c.aG f).length=c.aH.length
 cell:∀ f g:Int,0≤f→f < c.aH.length→0≤g→g < c.aH.length→gi c.To f=gi c.aH g→
  0≤gk c.aG f g∧gk c.aG f g < c.aH.length∧gi c.aH (gk c.aG f g)=gi c.aH f∧gi c.To (gk c.aG f g)=gi c.To g
 none:∀ f g:Int,0≤f→f < c.aH.length→0≤g→g < c.aH.length→gi c.To f≠gi c.aH g→gk c.aG f g = -1
theorem zE {c:aJ} (h:nb c=true):pP c:=by
 unfold nb at h
 simp only [Bool.and_eq_true,List.all_eq_true] at h
 obtain ⟨h1,h2,h3⟩:=h
 have H:=Bi h1
 have Ew:=H.il
 have N2:∀ x,0≤x→x < c.aE→wk c x=true:=fun x a b=>h2 x (dj.2 ⟨a,by omega⟩)
 have br:∀ f,0≤f→f < (c.aH.length:Int)→uJ c f=true:=fun f a b=>h3 f (dj.2 ⟨a,b⟩)
 have oK:∀ f g,0≤f→f < (c.aH.length:Int)→0≤g→g < (c.aH.length:Int)→sc c f g=true:=fun f g a b a' b'=>by
  have:=br f a b
  unfold uJ at this
  simp only [Bool.and_eq_true,List.all_eq_true] at this
  exact this.2 g (dj.2 ⟨a',b'⟩)
 refine { H with
  BZ:=fun x a b=>?_
  GC:=fun x a b=>?_
  row:=fun f a b=>?_
  cell:=fun f g a b a' b' e=>?_
  none:=fun f g a b a' b' e=>?_ }
 ·have:=N2 x a b; unfold wk at this; simp at this; exact this.1
 ·have:=N2 x a b; unfold wk at this; simp at this; exact this.2
 ·have:=br f a b; unfold uJ at this; simp only [Bool.and_eq_true,beq_iff_eq] at this; exact this.1
 ·have:=oK f g a b a' b'; unfold sc at this; rw [if_pos e] at this; simp only [Bool.and_eq_true,decide_eq_true_eq,beq_iff_eq] at this; exact ⟨this.1.1,this.1.2,this.2.1,this.2.2⟩
 ·have:=oK f g a b a' b'; unfold sc at this; rw [if_neg e] at this; simpa using this
namespace pP
variable {c:aJ} (h:pP c)
include h
theorem qu {f g:Int} (h0:0≤f) (h1:f < c.aH.length) (h2:0≤g) (h3:g < c.aH.length):idx (gr c.aG f) g=some (gk c.aG f g):=dE h2 (by rw [h.row f h0 h1]; exact h3)
theorem kj {f g:Int} (h0:0≤f) (h1:f < c.aH.length) (h2:0≤g) (h3:g < c.aH.length):cP c f g=some (gk c.aG f g):=by
 unfold cP; rw [h.qt h0 h1,aB,h.qu h0 h1 h2 h3,aB]; rfl
theorem thenS {f g:Int} (h0:0≤f) (h1:f < c.aH.length) (h2:0≤g) (h3:g < c.aH.length):dF c f g=some (gk c.aG f g):=by
 unfold dF; rw [h.qt h0 h1,aB,h.qu h0 h1 h2 h3,aB]; rfl
end pP
def sd (c:aJ) (f:Int):Bool:=gk c.aG (gi c.aI (gi c.aH f)) f == f && gk c.aG f (gi c.aI (gi c.To f)) == f
def tx (c:aJ) (f g h:Int):Bool:=gi c.To g == gi c.aH h && gk c.aG (gk c.aG f g) h != gk c.aG f (gk c.aG g h)
def yn (c:aJ) (f g:Int):Bool:=gi c.To f == gi c.aH g && (ns c.aH.length).any (tx c f g)
def Bj (c:aJ) (f:Int):Bool:=(ns c.aH.length).any (yn c f)
def xd (c:aJ):Bool:=(ns c.aH.length).all (sd c) && !((ns c.aH.length).any (Bj c))
theorem GU {c:aJ} {k1 k2 k4 k6:Nat} {L0:Int→Option (Out Int (Int×Int×Int×Int))} {L1:Int→Option (Out Int (Int×Int×Int×Int))} {L2:Int→Int→Option (Out Int (Int×Int×Int×Int))} {L3:Int→Int→Int→Option (Out Int (Int×Int×Int×Int))} {z:Int×Int×Int×Int} (hz:z.1=0)
  (a0:∀ i:Nat,i < c.aH.length→sd c i=true→L0 i=some (.norm ((i+1:Nat):Int)))
  (a1:∀ i:Nat,i < c.aH.length→sd c i=false→∃ y,L0 i=some (.ret y)∧y.1≠0)
  (a2:L0 c.aH.length=some (.exit k1 c.aH.length))
  (b0:∀ i:Nat,i < c.aH.length→L1 i=aj (ag k4 (ai (L2 i) 0)) fun _=>some (.norm ((i+1:Nat):Int)))
  (b2:L1 c.aH.length=some (.exit k2 c.aH.length))
  (d0:∀ i j:Nat,i < c.aH.length→j < c.aH.length→gi c.To i≠gi c.aH j→L2 i j=some (.norm ((j+1:Nat):Int)))
  (d1:∀ i j:Nat,i < c.aH.length→j < c.aH.length→gi c.To i=gi c.aH j→L2 i j=aj (ag k6 (ai (L3 i j) 0)) fun _=>some (.norm ((j+1:Nat):Int)))
  (d2:∀ i:Nat,L2 i c.aH.length=some (.exit k4 c.aH.length))
  (e0:∀ i j h:Nat,i < c.aH.length→j < c.aH.length→h < c.aH.length→gi c.To i=gi c.aH j→tx c i j h=false→L3 i j h=some (.norm ((h+1:Nat):Int)))
  (e1:∀ i j h:Nat,i < c.aH.length→j < c.aH.length→h < c.aH.length→gi c.To i=gi c.aH j→tx c i j h=true→∃ y,L3 i j h=some (.ret y)∧y.1≠0)
  (e2:∀ i j:Nat,L3 i j c.aH.length=some (.exit k6 c.aH.length)) :
  ∃ y,an (S:=Unit) (aj (ag k1 (ai L0 0)) fun _=>aj (ag k2 (ai L1 0)) fun _=>some (.ret z))=some y∧(y.1 == 0)=xd c:=by
 have V1:∀ i j:Nat,i < c.aH.length→j < c.aH.length→gi c.To i=gi c.aH j→
   ((ns c.aH.length).any (tx c i j)=true∧∃ y,aj (S:=Int) (ag k6 (ai (L3 i j) 0)) (fun _=>some (.norm ((j+1:Nat):Int)))=some (.ret y)∧y.1≠0)∨
   ((ns c.aH.length).any (tx c i j)=false∧aj (S:=Int) (ag k6 (ai (L3 i j) 0)) (fun _=>some (.norm ((j+1:Nat):Int)))=some (.norm ((j+1:Nat):Int))):=by
  intro i j hi hj he
  refine uI (ns c.aH.length) (tx c i j) (fun y:Int×Int×Int×Int=>y.1≠0) (fun h=>(h:Int)) rfl ?_ ?_ (e:=(c.aH.length:Int)) (by rw [cJ]; exact e2 i j)
  ·intro h x hx hp; obtain ⟨rfl,hh⟩:=cj hx; exact e0 i j h hi hj hh he hp
  ·intro h x hx hp; obtain ⟨rfl,hh⟩:=cj hx; exact e1 i j h hi hj hh he hp
 have V2:∀ i:Nat,i < c.aH.length→
   ((ns c.aH.length).any (yn c i)=true∧∃ y,aj (S:=Int) (ag k4 (ai (L2 i) 0)) (fun _=>some (.norm ((i+1:Nat):Int)))=some (.ret y)∧y.1≠0)∨
   ((ns c.aH.length).any (yn c i)=false∧aj (S:=Int) (ag k4 (ai (L2 i) 0)) (fun _=>some (.norm ((i+1:Nat):Int)))=some (.norm ((i+1:Nat):Int))):=by
  intro i hi
  refine uI (ns c.aH.length) (yn c i) (fun y:Int×Int×Int×Int=>y.1≠0) (fun h=>(h:Int)) rfl ?_ ?_ (e:=(c.aH.length:Int)) (by rw [cJ]; exact d2 i)
  ·intro j x hx hp
   obtain ⟨rfl,hj⟩:=cj hx
   by_cases he:gi c.To i=gi c.aH j
   ·rw [d1 i j hi hj he]
    rcases V1 i j hi hj he with ⟨h1,_⟩ | ⟨_,h2⟩
    ·unfold yn at hp; rw [h1] at hp; simp [he] at hp
    ·exact h2
   ·exact d0 i j hi hj he
  ·intro j x hx hp
   obtain ⟨rfl,hj⟩:=cj hx
   unfold yn at hp
   simp only [Bool.and_eq_true,beq_iff_eq] at hp
   rw [d1 i j hi hj hp.1]
   rcases V1 i j hi hj hp.1 with ⟨_,h⟩ | ⟨h1,_⟩
   ·exact h
   ·rw [hp.2] at h1; cases h1
 rcases uI (s0:=(0:Int)) (S:=Unit) (R:=Int×Int×Int×Int) (k:=k1) (body:=L0) (f:=fun _=>aj (ag k2 (ai L1 0)) fun _=>some (.ret z)) (ns c.aH.length) (fun i=>!sd c i) (fun y:Int×Int×Int×Int=>y.1≠0) (fun i=>(i:Int)) rfl
   (fun i x hx hp=>by obtain ⟨rfl,hi⟩:=cj hx; exact a0 i hi (by simpa using hp)) (fun i x hx hp=>by obtain ⟨rfl,hi⟩:=cj hx; exact a1 i hi (by simpa using hp)) (e:=(c.aH.length:Int)) (by rw [cJ]; exact a2) with ⟨h1,y,h2,h3⟩ | ⟨h1,h2⟩
 ·refine ⟨y,by rw [h2]; rfl,?_⟩
  unfold xd
  rw [lq] at h1
  simp only [Bool.not_eq_true'] at h1
  rw [h1]
  simpa using h3
 ·rw [lq] at h1
  simp only [Bool.not_eq_false'] at h1
  rw [h2]
  rcases uI (s0:=(0:Int)) (S:=Unit) (R:=Int×Int×Int×Int) (k:=k2) (body:=L1) (f:=fun _=>some (.ret z)) (ns c.aH.length) (Bj c) (fun y:Int×Int×Int×Int=>y.1≠0) (fun i=>(i:Int)) rfl
   (fun i x hx hp=>by
    obtain ⟨rfl,hi⟩:=cj hx
    rw [b0 i hi]
    rcases V2 i hi with ⟨q1,_⟩ | ⟨_,q2⟩
    ·unfold Bj at hp; rw [q1] at hp; cases hp
    ·exact q2)
   (fun i x hx hp=>by
    obtain ⟨rfl,hi⟩:=cj hx
    rw [b0 i hi]
    rcases V2 i hi with ⟨_,q⟩ | ⟨q1,_⟩
    ·exact q
    ·unfold Bj at hp; rw [q1] at hp; cases hp) (e:=(c.aH.length:Int)) (by rw [cJ]; exact b2) with ⟨g1,y,g2,g3⟩ | ⟨g1,g2⟩
  ·refine ⟨y,by rw [g2]; rfl,?_⟩
   unfold xd
   rw [h1,g1]
   simpa using g3
  ·refine ⟨z,by rw [g2]; rfl,?_⟩
   unfold xd
   rw [h1,g1,hz]
   rfl
section
variable {c:aJ} (H:pP c)
include H
theorem JV:∃ y,nX c=some y∧(y.1 == 0)=xd c:=by
 have hm:=H.m
 have Ew:=H.il
 have u0:∀ i:Nat,i < c.aH.length→mL c i=if sd c i then some (Out.norm ((i+1:Nat):Int)) else some (Out.ret ((1:Int),(i:Int),(0:Int),(0:Int))):=by
  intro i hi
  have f1:=H.fr (f:=(i:Int)) (by omega) (by omega)
  have t1:=H.to (f:=(i:Int)) (by omega) (by omega)
  have i1:=H.id f1.1 f1.2
  have i2:=H.id t1.1 t1.2
  unfold mL
  rw [ao (by omega),cond_true,H.fx (by omega) (by omega),aB,H.lg f1.1 f1.2,aB,H.qt i1.1 i1.2,aB,H.qu i1.1 i1.2 (by omega) (by omega),aB]
  rw [H.qt (by omega) (by omega),aB,H.gw (by omega) (by omega),aB,H.lg t1.1 t1.2,aB,H.qu (by omega) (by omega) i2.1 i2.2,aB]
  unfold sd
  by_cases e1:gk c.aG (gi c.aI (gi c.aH i)) i=i
  ·by_cases e2:gk c.aG i (gi c.aI (gi c.To i))=i
   ·simp [e1,e2,bR (show i < 9223372036854775807 by omega)]
   ·simp [e1,e2,qq e2]
  ·simp [e1,qq e1]
 unfold nX
 refine GU (c:=c) (z:=(0,0,0,0)) rfl (L2:=kD c) (L3:=kC c) (k4:=4) (k6:=6) ?_ ?_ ?_ ?_ ?_ ?_ ?_ ?_ ?_ ?_ ?_
 ·intro i hi hp; rw [u0 i hi,hp]; rfl
 ·intro i hi hp; rw [u0 i hi,hp]; exact ⟨_,rfl,by simp⟩
 ·unfold mL; rw [av (by omega),cond_false]
 ·intro i hi; unfold oD; rw [ao (by omega),cond_true,bR (by omega)]
 ·unfold oD; rw [av (by omega),cond_false]
 ·intro i j hi hj he
  unfold kD
  rw [ao (by omega),cond_true,H.gw (by omega) (by omega),aB,H.fx (by omega) (by omega),aB,show (gi c.To (i:Int) != gi c.aH (j:Int))=true by simp [he],cond_true,bR (by omega)]
 ·intro i j hi hj he
  unfold kD
  rw [ao (by omega),cond_true,H.gw (by omega) (by omega),aB,H.fx (by omega) (by omega),aB,show (gi c.To (i:Int) != gi c.aH (j:Int))=false by simp [he],cond_false,bR (by omega)]
 ·intro i; unfold kD; rw [av (by omega),cond_false]
 ·intro i j h hi hj hh he hp
  unfold kC
  rw [ao (by omega),cond_true,H.gw (by omega) (by omega),aB,H.fx (by omega) (by omega),aB]
  unfold tx at hp
  by_cases e:gi c.To j=gi c.aH h
  ·have c1:=H.cell i j (by omega) (by omega) (by omega) (by omega) he
   have c2:=H.cell j h (by omega) (by omega) (by omega) (by omega) e
   rw [show (gi c.To (j:Int) == gi c.aH (h:Int))=true by simp [e]] at hp ⊢
   rw [cond_true,H.qt (by omega) (by omega),aB,H.qu (by omega) (by omega) (by omega) (by omega),aB,H.qt c1.1 c1.2.1,aB,H.qu c1.1 c1.2.1 (by omega) (by omega),aB,aB,H.qt (by omega) (by omega),aB,H.qu (by omega) (by omega) (by omega) (by omega),aB,H.qu (by omega) (by omega) c2.1 c2.2.1,aB]
   rw [Bool.true_and] at hp
   rw [hp,aB,cond_false,bR (by omega)]
  ·rw [show (gi c.To (j:Int) == gi c.aH (h:Int))=false by simp [e],cond_false,aB,cond_false,bR (by omega)]
 ·intro i j h hi hj hh he hp
  unfold kC
  rw [ao (by omega),cond_true,H.gw (by omega) (by omega),aB,H.fx (by omega) (by omega),aB]
  unfold tx at hp
  simp only [Bool.and_eq_true] at hp
  have e:gi c.To j=gi c.aH h:=by simpa using hp.1
  have c1:=H.cell i j (by omega) (by omega) (by omega) (by omega) he
  have c2:=H.cell j h (by omega) (by omega) (by omega) (by omega) e
  rw [hp.1,cond_true,H.qt (by omega) (by omega),aB,H.qu (by omega) (by omega) (by omega) (by omega),aB,H.qt c1.1 c1.2.1,aB,H.qu c1.1 c1.2.1 (by omega) (by omega),aB,aB,H.qt (by omega) (by omega),aB,H.qu (by omega) (by omega) (by omega) (by omega),aB,H.qu (by omega) (by omega) c2.1 c2.2.1,aB]
  rw [hp.2,aB,cond_true]
  exact ⟨_,rfl,by simp⟩
 ·intro i j; unfold kC; rw [av (by omega),cond_false]
theorem JW:∃ y,kN c=some y∧(y.1 == 0)=xd c:=by
 have hm:=H.m
 have Ew:=H.il
 have u0:∀ i:Nat,i < c.aH.length→iP c c.aH.length i=if sd c i then some (Out.norm ((i+1:Nat):Int)) else some (Out.ret ((1:Int),(i:Int),(0:Int),(0:Int))):=by
  intro i hi
  have f1:=H.fr (f:=(i:Int)) (by omega) (by omega)
  have t1:=H.to (f:=(i:Int)) (by omega) (by omega)
  have i1:=H.id f1.1 f1.2
  have i2:=H.id t1.1 t1.2
  unfold iP
  rw [ao (by omega),cond_true,H.fx (by omega) (by omega),aB,H.lg f1.1 f1.2,aB,H.kj i1.1 i1.2 (by omega) (by omega),aB]
  rw [H.gw (by omega) (by omega),aB,H.lg t1.1 t1.2,aB,H.kj (by omega) (by omega) i2.1 i2.2,aB]
  unfold sd
  by_cases e1:gk c.aG (gi c.aI (gi c.aH i)) i=i
  ·by_cases e2:gk c.aG i (gi c.aI (gi c.To i))=i
   ·simp [e1,e2,bR (show i < 9223372036854775807 by omega)]
   ·simp [e1,e2,qq e2]
  ·simp [e1,qq e1]
 have pos:∀ i j:Nat,i < c.aH.length→j < c.aH.length→(gi c.To i=gi c.aH j→0≤gk c.aG i j)∧(gi c.To i≠gi c.aH j→gk c.aG i j < 0):=by
  intro i j hi hj
  refine ⟨fun e=>(H.cell i j (by omega) (by omega) (by omega) (by omega) e).1,fun e=>?_⟩
  rw [H.none i j (by omega) (by omega) (by omega) (by omega) e]; decide
 unfold kN dD
 rw [show an (S:=Unit) (some (Out.ret (c.aH.length:Int)))=some (c.aH.length:Int) from rfl,aB]
 refine GU (c:=c) (z:=(0,0,0,0)) rfl (L2:=gI c c.aH.length) (L3:=gH c c.aH.length) (k4:=4) (k6:=6) ?_ ?_ ?_ ?_ ?_ ?_ ?_ ?_ ?_ ?_ ?_
 ·intro i hi hp; rw [u0 i hi,hp]; rfl
 ·intro i hi hp; rw [u0 i hi,hp]; exact ⟨_,rfl,by simp⟩
 ·unfold iP; rw [av (by omega),cond_false]
 ·intro i hi; unfold lL; rw [ao (by omega),cond_true,bR (by omega)]
 ·unfold lL; rw [av (by omega),cond_false]
 ·intro i j hi hj he
  unfold gI
  rw [ao (by omega),cond_true,H.kj (by omega) (by omega) (by omega) (by omega),aB,ao ((pos i j hi hj).2 he),cond_true,bR (by omega)]
 ·intro i j hi hj he
  have:=(pos i j hi hj).1 he
  unfold gI
  rw [ao (by omega),cond_true,H.kj (by omega) (by omega) (by omega) (by omega),aB,av (by omega),cond_false,bR (by omega)]
 ·intro i; unfold gI; rw [av (by omega),cond_false]
 ·intro i j h hi hj hh he hp
  unfold gH
  rw [ao (by omega),cond_true,H.kj (by omega) (by omega) (by omega) (by omega),aB]
  unfold tx at hp
  by_cases e:gi c.To j=gi c.aH h
  ·have c1:=H.cell i j (by omega) (by omega) (by omega) (by omega) he
   have c2:=H.cell j h (by omega) (by omega) (by omega) (by omega) e
   rw [show (gi c.To (j:Int) == gi c.aH (h:Int))=true by simp [e],Bool.true_and] at hp
   rw [ao (show gk c.aG j h ≥ 0 from c2.1),cond_true,H.kj (by omega) (by omega) (by omega) (by omega),aB,H.kj c1.1 c1.2.1 (by omega) (by omega),aB,aB,H.kj (by omega) (by omega) c2.1 c2.2.1,aB,hp,aB,cond_false,bR (by omega)]
  ·have:=(pos j h hj hh).2 e
   rw [av (show ¬ gk c.aG j h ≥ 0 by omega),cond_false,aB,cond_false,bR (by omega)]
 ·intro i j h hi hj hh he hp
  unfold gH
  unfold tx at hp
  simp only [Bool.and_eq_true] at hp
  have e:gi c.To j=gi c.aH h:=by simpa using hp.1
  have c1:=H.cell i j (by omega) (by omega) (by omega) (by omega) he
  have c2:=H.cell j h (by omega) (by omega) (by omega) (by omega) e
  rw [ao (by omega),cond_true,H.kj (by omega) (by omega) (by omega) (by omega),aB,ao (show gk c.aG j h ≥ 0 from c2.1),cond_true,H.kj (by omega) (by omega) (by omega) (by omega),aB,H.kj c1.1 c1.2.1 (by omega) (by omega),aB,aB,H.kj (by omega) (by omega) c2.1 c2.2.1,aB,hp.2,aB,cond_true]
  exact ⟨_,rfl,by simp⟩
 ·intro i j; unfold gH; rw [av (by omega),cond_false]
end
structure gj (c:aJ):Prop extends pP c where
 Ad:∀ f:Int,0≤f→f < c.aH.length→gk c.aG (gi c.aI (gi c.aH f)) f=f
 Ae:∀ f:Int,0≤f→f < c.aH.length→gk c.aG f (gi c.aI (gi c.To f))=f
 assoc:∀ f g h:Int,0≤f→f < c.aH.length→0≤g→g < c.aH.length→0≤h→h < c.aH.length→gi c.To f=gi c.aH g→gi c.To g=gi c.aH h→
  gk c.aG (gk c.aG f g) h=gk c.aG f (gk c.aG g h)
def l9 (c:aJ):Bool:=nb c && xd c
theorem uK {c:aJ} (h:l9 c=true):gj c:=by
 unfold l9 at h
 simp only [Bool.and_eq_true] at h
 obtain ⟨h1,h2⟩:=h
 have H:=zE h1
 unfold xd at h2
 simp only [Bool.and_eq_true,List.all_eq_true,Bool.not_eq_true',List.any_eq_false] at h2
 obtain ⟨h2,h3⟩:=h2
 refine { H with
  Ad:=fun f a b=>?_
  Ae:=fun f a b=>?_
  assoc:=fun f g h a b a' b' a'' b'' e1 e2=>?_ }
 ·have:=h2 f (dj.2 ⟨a,b⟩); unfold sd at this; simp at this; exact this.1
 ·have:=h2 f (dj.2 ⟨a,b⟩); unfold sd at this; simp at this; exact this.2
 ·have:=h3 f (dj.2 ⟨a,b⟩)
  unfold Bj at this
  simp only [List.any_eq_true,not_exists,not_and] at this
  have:=this g (dj.2 ⟨a',b'⟩)
  unfold yn at this
  simp only [Bool.and_eq_true,beq_iff_eq,List.any_eq_true,not_and,not_exists] at this
  have:=this e1 h (dj.2 ⟨a'',b''⟩)
  unfold tx at this
  simpa [e2] using this
theorem JX {c:aJ} (hs:ew c):oJ c=some (l9 c):=by
 unfold oJ
 rw [JT hs,aB]
 unfold l9
 cases h:nb c with
 | false=>rfl
 | true=>
  obtain ⟨y,h1,h2⟩:=JV (zE h)
  rw [Bool.not_true,cond_false,h1,aB,h2]; rfl
theorem JY {c:aJ} (hs:ew c):gU c=some (l9 c):=by
 unfold gU
 rw [JU hs,aB]
 unfold l9
 cases h:nb c with
 | false=>rfl
 | true=>
  obtain ⟨y,h1,h2⟩:=JW (zE h)
  rw [Bool.not_true,cond_false,h1,aB,h2]; rfl
end Go.Proofs.YtcnehblmgfbfoaaGreat
