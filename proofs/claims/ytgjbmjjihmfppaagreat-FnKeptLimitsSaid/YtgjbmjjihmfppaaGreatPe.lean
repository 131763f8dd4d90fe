/- Is a table a category: the reference and the program agree, and what is known of a category. No condition beside those that each theorem names. -/
import Derived.Test.YtgjbmjjihmfppaaGreatPa
namespace Go.Li
open Go
section
variable {S S1 R α:Type} {body:S1→Option (Out S1 R)}
theorem xP {k:Nat} {f:S1→Option (Out S R)} {s0 e:S1} (l:List α) (p:α→Bool) (G:R→Prop) (st:Nat→S1) (h0:st 0=s0) (step:∀ i x,l[i]? = some x→p x=false→body (st i)=some (.norm (st (i+1))))
  (Np:∀ i x,l[i]? = some x→p x=true→∃ y,body (st i)=some (.ret y)∧G y) (last:body (st l.length)=some (.exit k e)) :
  (l.any p=true∧∃ y,ag (ae k (ai body s0)) f=some (.ret y)∧G y)∨(l.any p=false∧ag (ae k (ai body s0)) f=f e):=by
 have key:∀ (m:List α) (i:Nat),l.drop i=m→i≤l.length→(m.any p=true∧∃ y,ai body (st i)=some (.ret y)∧G y)∨(m.any p=false∧ai body (st i)=some (.exit k e)):=by
  intro m
  induction m with
  | nil=>
   intro i hd hi
   have:i=l.length:=by have:=congrArg List.length hd; simp at this; omega
   subst this
   exact .inr ⟨rfl,lv last⟩
  | cons x m ih=>
   intro i hd hi
   have bj:i < l.length:=by
    rcases Nat.lt_or_ge i l.length with h | h
    ·exact h
    ·rw [List.drop_eq_nil_of_le h] at hd; cases hd
   have hx:l[i]? = some x:=by
    rw [List.drop_eq_getElem_cons bj] at hd
    rw [List.getElem?_eq_getElem bj]; exact congrArg some (List.cons.inj hd).1
   have iz:l.drop (i+1)=m:=by
    rw [List.drop_eq_getElem_cons bj] at hd; exact (List.cons.inj hd).2
   cases hp:p x with
   | true=>
    obtain ⟨y,hy,hg⟩:=Np i x hx hp
    exact .inl ⟨by simp [hp],y,BM hy,hg⟩
   | false=>
    rw [nk,step i x hx hp]
    simpa [hp] using ih (i+1) iz bj
 rcases key l 0 rfl (Nat.zero_le _) with ⟨h1,y,h2,h3⟩ | ⟨h1,h2⟩
 ·rw [h0] at h2; exact .inl ⟨h1,y,BN h2,h3⟩
 ·rw [h0] at h2; exact .inr ⟨h1,th h2⟩
theorem Nr {n i x:Nat} (h:(List.range n)[i]? = some x):x=i∧i < n:=by
 have hi:=bm h
 rw [List.getElem?_eq_getElem hi] at h
 simp at h hi
 exact ⟨h.symm,hi⟩
end
def gi (l:List Int) (j:Int):Int:=l.getD j.toNat 0
def gr (l:List (List Int)) (j:Int):List Int:=l.getD j.toNat []
def gk (l:List (List Int)) (i j:Int):Int:=gi (gr l i) j
theorem cB {l:List Int} {j:Int} (h0:0≤j) (h1:j < l.length):idx l j=some (gi l j):=by
 rw [vY h0 h1]; unfold gi; rw [List.getD_eq_getElem?_getD,List.getElem?_eq_getElem (by omega)]; rfl
theorem rq {l:List (List Int)} {j:Int} (h0:0≤j) (h1:j < l.length):idx l j=some (gr l j):=by
 rw [vY h0 h1]; unfold gr; rw [List.getD_eq_getElem?_getD,List.getElem?_eq_getElem (by omega)]; rfl
theorem ep {l:List Int} {j:Int} (h0:0≤j) (h1:j < l.length):gi l j∈l:=by
 unfold gi; rw [List.getD_eq_getElem?_getD,List.getElem?_eq_getElem (by omega)]; exact List.getElem_mem _
theorem qh {l:List (List Int)} {j:Int} (h0:0≤j) (h1:j < l.length):gr l j∈l:=by
 unfold gr; rw [List.getD_eq_getElem?_getD,List.getElem?_eq_getElem (by omega)]; exact List.getElem_mem _
def ns (n:Nat):List Int:=(List.range n).map Int.ofNat
theorem ic {n i:Nat} {x:Int} (h:(ns n)[i]? = some x):x=(i:Int)∧i < n:=by
 unfold ns at h
 rw [List.getElem?_map] at h
 cases hr:(List.range n)[i]? with
 | none=>rw [hr] at h; cases h
 | some y=>
  rw [hr] at h
  obtain ⟨rfl,hi⟩:=Nr hr
  exact ⟨(Option.some.inj h).symm,hi⟩
theorem dD (n:Nat):(ns n).length=n:=by simp [ns]
theorem bz {n:Nat} {x:Int}:x∈ns n↔0≤x∧x < n:=by
 unfold ns
 simp only [List.mem_map,List.mem_range]
 constructor
 ·rintro ⟨a,h1,rfl⟩; simp; omega
 ·rintro ⟨h1,h2⟩; exact ⟨x.toNat,by omega,by simp; omega⟩
end Go.Li
namespace Go.Proofs.YtgjbmjjihmfppaaGreat
open Go Go.Li
def pw (n:Int) (f:List Int):Bool:=f.all fun y=>decide (0≤y) && decide (y < n)
theorem ru {n:Int} {f:List Int}:pw n f=true↔∀ y∈f,0≤y∧y < n:=by simp [pw]
theorem mj {α:Type} (l:List α) (p:α→Bool):l.any (fun x=>!p x) = !l.all p:=by
 induction l with
 | nil=>rfl
 | cons a l ih=>simp only [List.any_cons,List.all_cons,ih,Bool.not_and]
theorem Cg (n:Int) (f:List Int) (hf:f.length≤1048576000):jQ n f=some (pw n f):=by
 unfold jQ
 refine (congrArg ak (jy f (fun y=>!(decide (0≤y) && decide (y < n))) (fun i=>(i:Int)) rfl ?_ ?_ (e:=(f.length:Int)) (y:=false) ?_)).trans ?_
 ·intro i x hx hp
  have hi:=bm hx
  unfold mJ
  simp only [Bool.not_eq_false',Bool.and_eq_true,decide_eq_true_eq] at hp
  rw [av (by omega),cond_true,bu,hx,aG,bd (by omega),cond_false,aG,bd (by omega),aG,cond_false,bN (by omega)]
 ·intro i x hx hp
  have hi:=bm hx
  unfold mJ
  rw [av (by omega),cond_true,bu,hx,aG,aG]
  by_cases h:x < 0
  ·rw [av h,cond_true,aG,cond_true]
  ·have:n≤x:=by simp at hp; omega
   rw [bd h,cond_false,av (by omega),aG,cond_true]
 ·unfold mJ
  rw [bd (by omega),cond_false]
 ·rw [mj]
  show ak (if (!pw n f)=true then _ else _)=_
  cases pw n f <;> rfl
theorem Ch (n a b:Int):eX n a b=some (decide (a≤n) && decide (n≤b)):=by
 unfold eX
 by_cases h:a≤n
 ·rw [av (show n ≥ a from h),cond_true]; rfl
 ·rw [bd (show ¬ n ≥ a from h),cond_false]; rfl
theorem V4 (n a b:Int):qR n a b=some (decide (a≤n) && decide (n≤b)):=by
 unfold qR
 by_cases h:a≤n
 ·rw [av (show n ≥ a from h),cond_true]; rfl
 ·rw [bd (show ¬ n ≥ a from h),cond_false]; rfl
theorem within (f:List Int) (n:Int) (hf:f.length≤1048576000) (hn:0≤n) (JO:n≤1048576000):fA f n=some (pw n f):=by
 unfold fA
 refine (congrArg ak (jy f (fun y=>!(decide (0≤y) && decide (y < n))) (fun i=>(i:Int)) rfl ?_ ?_ (e:=(f.length:Int)) (y:=false) ?_)).trans ?_
 ·intro i x hx hp
  have hi:=bm hx
  unfold iK
  simp only [Bool.not_eq_false',Bool.and_eq_true,decide_eq_true_eq] at hp
  rw [av (by omega),cond_true,bu,hx,aG,dK (by omega) (by omega),Ch,aG,av hp.1,av (by omega)]
  simp only [Bool.and_self,Bool.not_true,cond_false]
  rw [bN (by omega)]
 ·intro i x hx hp
  have hi:=bm hx
  unfold iK
  rw [av (by omega),cond_true,bu,hx,aG,dK (by omega) (by omega),Ch,aG]
  have:(decide (0≤x) && decide (x≤n - 1))=false:=by
   by_cases h:x < 0
   ·rw [bd (by omega)]; rfl
   ·have:n≤x:=by simp at hp; omega
    rw [bd (show ¬ x≤n - 1 by omega),Bool.and_false]
  rw [this]; rfl
 ·unfold iK
  rw [bd (by omega),cond_false]
 ·rw [mj]
  show ak (if (!pw n f)=true then _ else _)=_
  cases pw n f <;> rfl
def vG (c:aI):Bool:=((decide (0≤c.aA) && decide (c.aA≤8)) && (decide (c.aF.length≤40) && pw c.aA c.aF)) && (((c.To.length == c.aF.length) && pw c.aA c.To) && ((c.aD.length == c.aF.length) && (((c.aJ.length:Int) == c.aA) && pw c.aF.length c.aJ)))
def zr (c:aI) (x:Int):Bool:=gi c.aF (gi c.aJ x) == x && gi c.To (gi c.aJ x) == x
def uU (c:aI) (f g:Int):Bool:=
 if gi c.To f=gi c.aF g then (decide (0≤gk c.aD f g) && decide (gk c.aD f g < c.aF.length)) && (gi c.aF (gk c.aD f g) == gi c.aF f && gi c.To (gk c.aD f g) == gi c.To g)
 else gk c.aD f g == -1
def xQ (c:aI) (f:Int):Bool:=((gr c.aD f).length == c.aF.length) && (ns c.aF.length).all fun g=>uU c f g
def qi (c:aI):Bool:=vG c && ((ns c.aJ.length).all (zr c) && (ns c.aF.length).all (xQ c))
structure Head (c:aI):Prop where
 o0:0≤c.aA
 o8:c.aA≤8
 m:c.aF.length≤40
 f:∀ x∈c.aF,0≤x∧x < c.aA
 tl:c.To.length=c.aF.length
 t:∀ x∈c.To,0≤x∧x < c.aA
 kl:c.aD.length=c.aF.length
 il:(c.aJ.length:Int)=c.aA
 i:∀ x∈c.aJ,0≤x∧x < c.aF.length
theorem EH {c:aI} (h:vG c=true):Head c:=by
 unfold vG at h
 simp only [Bool.and_eq_true,decide_eq_true_eq,ru,beq_iff_eq] at h
 obtain ⟨⟨⟨h1,h2⟩,h3,h4⟩,⟨h5,h6⟩,h7,h8,h9⟩:=h
 exact ⟨h1,h2,h3,h4,h5,h6,h7,h8,h9⟩
set_option linter.unusedSectionVars false
namespace Head
variable {c:aI} (h:Head c)
include h
theorem fr {f:Int} (h0:0≤f) (h1:f < c.aF.length):0≤gi c.aF f∧gi c.aF f < c.aA:=h.f _ (ep h0 h1)
theorem to {f:Int} (h0:0≤f) (h1:f < c.aF.length):0≤gi c.To f∧gi c.To f < c.aA:=h.t _ (ep h0 (by rw [h.tl]; exact h1))
theorem id {x:Int} (h0:0≤x) (h1:x < c.aA):0≤gi c.aJ x∧gi c.aJ x < c.aF.length:=h.i _ (ep h0 (by rw [h.il]; exact h1))
theorem ja {f:Int} (h0:0≤f) (h1:f < c.aF.length):idx c.aF f=some (gi c.aF f):=cB h0 h1
theorem je {f:Int} (h0:0≤f) (h1:f < c.aF.length):idx c.To f=some (gi c.To f):=cB h0 (by rw [h.tl]; exact h1)
theorem oK {x:Int} (h0:0≤x) (h1:x < c.aA):idx c.aJ x=some (gi c.aJ x):=cB h0 (by rw [h.il]; exact h1)
theorem mb {f:Int} (h0:0≤f) (h1:f < c.aF.length):idx c.aD f=some (gr c.aD f):=rq h0 (by rw [h.kl]; exact h1)
end Head
theorem Ns {c:aI} (hs:gh c):oX c=some (qi c):=by
 obtain ⟨z1,z2,z3,z4,z5⟩:=hs
 have ends:∀ (l:List Int) (n:Nat) (o:Int),l.length≤1048576→lR l (n:Int) o=some ((l.length == n) && pw o l):=by
  intro l n o hl
  unfold lR
  by_cases e:l.length=n
  ·rw [show ((l.length:Int) == (n:Int))=true by simp [e],cond_true,Cg _ _ (by omega),show (l.length == n)=true by simp [e]]; rfl
  ·rw [show ((l.length:Int) == (n:Int))=false by simp; omega,cond_false,show (l.length == n)=false by simp [e]]; rfl
 unfold oX
 rw [V4,aG,ends _ _ _ z1,ends _ _ _ z2]
 have e1:((c.aD.length:Int) != (c.aF.length:Int)) = !(c.aD.length == c.aF.length):=by
  by_cases e:c.aD.length=c.aF.length
  ·simp [e]
  ·rw [show (c.aD.length == c.aF.length)=false by simp [e]]; simp; omega
 have e2:decide ((c.aF.length:Int) > 40) = !decide (c.aF.length≤40):=by
  by_cases e:c.aF.length≤40
  ·rw [av e,bd (by omega)]; rfl
  ·rw [bd e,av (by omega)]; rfl
 rw [e1,e2,Cg _ _ (by omega)]
 cases hh:vG c with
 | false=>
  have:qi c=false:=by unfold qi; rw [hh]; rfl
  rw [this]
  unfold vG at hh
  generalize (decide (0≤c.aA) && decide (c.aA≤8))=a1 at *
  generalize decide (c.aF.length≤40)=a2 at *
  generalize pw c.aA c.aF=a3 at *
  generalize (c.To.length == c.aF.length)=a4 at *
  generalize pw c.aA c.To=a5 at *
  generalize (c.aD.length == c.aF.length)=a6 at *
  have e3:((c.aJ.length:Int) != c.aA) = !((c.aJ.length:Int) == c.aA):=rfl
  rw [e3]
  generalize ((c.aJ.length:Int) == c.aA)=a7 at *
  generalize pw (c.aF.length:Int) c.aJ=a8 at *
  simp only [beq_self_eq_true,Bool.true_and]
  cases a1 <;> first | rfl | (cases a2 <;> first | rfl | (cases a3 <;> first | rfl | (cases a4 <;> first | rfl | (cases a5 <;> first | rfl | (cases a6 <;> first | rfl | (cases a7 <;> first | rfl | (cases a8 <;> first | rfl | (cases hh))))))))
 | true=>
  have H:=EH hh
  have Il:=hh
  unfold vG at Il
  simp only [Bool.and_eq_true] at Il
  obtain ⟨⟨⟨b1,Jj⟩,b2,b3⟩,⟨b4,b5⟩,b6,b7,b8⟩:=Il
  rw [b1,Jj,b2,b3,b4,b5,b6,b8,show ((c.aJ.length:Int) != c.aA) = !((c.aJ.length:Int) == c.aA) from rfl,b7]
  simp only [beq_self_eq_true,Bool.and_self,Bool.not_true,cond_false,aG]
  have hm:=H.m
  have tw:=H.il
  refine (congrArg ak (jy (ns c.aJ.length) (fun x=>!zr c x) (fun i=>(i:Int)) rfl ?_ ?_ (e:=(c.aJ.length:Int)) (y:=false) ?_)).trans ?_
  ·intro i x hx hp
   obtain ⟨rfl,hi⟩:=ic hx
   have:=H.id (x:=(i:Int)) (by omega) (by omega)
   unfold lH
   unfold zr at hp
   simp only [Bool.not_eq_false',Bool.and_eq_true,beq_iff_eq] at hp
   rw [av (by omega),cond_true,H.oK (by omega) (by omega),aG,H.ja this.1 this.2,aG,hp.1,bne_self_eq_false,cond_false,aG,H.je this.1 this.2,aG,hp.2,bne_self_eq_false,aG,cond_false,bN (by omega)]
  ·intro i x hx hp
   obtain ⟨rfl,hi⟩:=ic hx
   have:=H.id (x:=(i:Int)) (by omega) (by omega)
   unfold lH
   unfold zr at hp
   rw [av (by omega),cond_true,H.oK (by omega) (by omega),aG,H.ja this.1 this.2,aG]
   by_cases e:gi c.aF (gi c.aJ i)=i
   ·rw [e,bne_self_eq_false,cond_false,aG,H.je this.1 this.2,aG]
    have:(gi c.To (gi c.aJ i) != (i:Int))=true:=by
     rw [e] at hp; simpa using hp
    rw [this]; rfl
   ·rw [show (gi c.aF (gi c.aJ i) != (i:Int))=true by simp [e]]; rfl
  ·unfold lH
   rw [dD,bd (by omega),cond_false]
  rw [mj]
  unfold qi
  rw [hh]
  cases wJ:(ns c.aJ.length).all (zr c) with
  | false=>rfl
  | true=>
   simp only [Bool.not_true,Bool.false_eq_true,if_false,Bool.true_and]
   refine (congrArg ak (jy (ns c.aF.length) (fun f=>!xQ c f) (fun i=>(i:Int)) rfl ?_ ?_ (e:=(c.aF.length:Int)) (y:=false) ?_)).trans ?_
   rotate_left 2
   ·unfold oW
    rw [dD,bd (by omega),cond_false]
   ·rw [mj]
    cases (ns c.aF.length).all (xQ c) <;> rfl
   all_goals
    intro i x hx hp
    obtain ⟨rfl,hi⟩:=ic hx
    have hK:=H.mb (f:=(i:Int)) (by omega) (by omega)
    have inner:(gr c.aD i).length=c.aF.length→ag (S:=Int) (ae 4 (ai (lJ c i) (0:Int))) (fun yR=>(some (Out.norm (aj ((i:Int)+(1:Int)))))) =
      if (ns c.aF.length).any (fun g=>!uU c i g) then some (.ret false) else some (Out.norm (aj ((i:Int)+(1:Int)))):=by
     intro hr
     refine jy (ns c.aF.length) (fun g=>!uU c i g) (fun j=>(j:Int)) rfl ?_ ?_ (e:=(c.aF.length:Int)) (y:=false) ?_
     rotate_left 2
     ·unfold lJ
      rw [dD,bd (by omega),cond_false]
     all_goals
      intro j y hy hq
      obtain ⟨rfl,hj⟩:=ic hy
      unfold lJ
      rw [av (by omega),cond_true,hK,aG,cB (by omega) (by omega),aG,H.je (by omega) (by omega),aG,H.ja (by omega) (by omega),aG]
      unfold uU gk at hq
      by_cases e:gi c.To i=gi c.aF j
      ·rw [if_pos e] at hq
       rw [show (gi c.To (i:Int) != gi c.aF (j:Int))=false by simp [e],cond_false]
       by_cases l0:gi (gr c.aD i) j < 0
       ·rw [bd (show ¬ 0≤gi (gr c.aD i) j by omega)] at hq
        rw [av l0,cond_true,aG,cond_true]
        all_goals (first | rfl | simp at hq)
       ·rw [av (show 0≤gi (gr c.aD i) j by omega)] at hq
        rw [bd l0,cond_false]
        by_cases l1:gi (gr c.aD i) j < c.aF.length
        ·rw [av l1] at hq
         rw [bd (show ¬ gi (gr c.aD i) j ≥ c.aF.length by omega),cond_false,H.ja (by omega) l1,aG,H.ja (by omega) (by omega),aG]
         by_cases q1:gi c.aF (gi (gr c.aD i) j)=gi c.aF i
         ·rw [show (gi c.aF (gi (gr c.aD (i:Int)) (j:Int)) == gi c.aF (i:Int))=true by simp [q1]] at hq
          rw [show (gi c.aF (gi (gr c.aD (i:Int)) (j:Int)) != gi c.aF (i:Int))=false by simp [q1],cond_false,H.je (by omega) l1,aG,H.je (by omega) (by omega),aG,aG]
          simp only [Bool.and_self,Bool.true_and] at hq
          rw [show (gi c.To (gi (gr c.aD (i:Int)) (j:Int)) != gi c.To (j:Int)) = !(gi c.To (gi (gr c.aD (i:Int)) (j:Int)) == gi c.To (j:Int)) from rfl,hq]
          all_goals (first | rfl | rw [cond_false,bN (by omega)])
         ·rw [show (gi c.aF (gi (gr c.aD (i:Int)) (j:Int)) == gi c.aF (i:Int))=false by simp [q1]] at hq
          rw [show (gi c.aF (gi (gr c.aD (i:Int)) (j:Int)) != gi c.aF (i:Int))=true by simp [q1],cond_true]
          all_goals (first | rfl | simp at hq)
        ·rw [bd l1] at hq
         rw [av (show gi (gr c.aD i) j ≥ c.aF.length by omega),cond_true]
         all_goals (first | rfl | simp at hq)
      ·rw [if_neg e] at hq
       rw [show (gi c.To (i:Int) != gi c.aF (j:Int))=true by simp [e],cond_true,show (gi (gr c.aD (i:Int)) (j:Int) != -1) = !(gi (gr c.aD (i:Int)) (j:Int) == -1) from rfl,hq]
       all_goals (first | rfl | rw [cond_false,bN (by omega)])
    unfold oW
    rw [av (by omega),cond_true,hK,aG]
    unfold xQ at hp
    by_cases hr:(gr c.aD i).length=c.aF.length
    ·rw [show (((gr c.aD (i:Int)).length:Int) != (c.aF.length:Int))=false by simp [hr],cond_false,inner hr,mj]
     rw [show ((gr c.aD (i:Int)).length == c.aF.length)=true by simp [hr],Bool.true_and] at hp
     rw [hp,bN (by omega)]
     rfl
    ·rw [show (((gr c.aD (i:Int)).length:Int) != (c.aF.length:Int))=true by (simp; omega),cond_true]
     all_goals (rw [show ((gr c.aD (i:Int)).length == c.aF.length)=false by simp [hr],Bool.false_and] at hp; first | rfl | simp at hp)
end Go.Proofs.YtgjbmjjihmfppaaGreat
namespace Go.Proofs.YtgjbmjjihmfppaaGreat
open Go Go.Li
set_option linter.unusedSectionVars false
theorem Im {c:aI} (H:Head c) {f:Int} (h0:0≤f) (h1:f < c.aF.length):eE c f=some (sH.mk (gi c.aF f) (gi c.To f)):=by
 unfold eE
 rw [H.ja h0 h1,aG,H.je h0 h1,aG]; rfl
theorem Nu {c:aI} (hs:gh c):gX c=some (qi c):=by
 obtain ⟨z1,z2,z3,z4,z5⟩:=hs
 unfold gX dI
 rw [show ak (S:=Unit) (some (Out.ret (c.aF.length:Int)))=some (c.aF.length:Int) from rfl,aG,Ch,aG]
 have e1:((c.aD.length:Int) != (c.aF.length:Int)) = !(c.aD.length == c.aF.length):=by
  by_cases e:c.aD.length=c.aF.length
  ·simp [e]
  ·rw [show (c.aD.length == c.aF.length)=false by simp [e]]; simp; omega
 have e1':((c.To.length:Int) != (c.aF.length:Int)) = !(c.To.length == c.aF.length):=by
  by_cases e:c.To.length=c.aF.length
  ·simp [e]
  ·rw [show (c.To.length == c.aF.length)=false by simp [e]]; simp; omega
 have e2:decide ((c.aF.length:Int) > 40) = !decide (c.aF.length≤40):=by
  by_cases e:c.aF.length≤40
  ·rw [av e,bd (by omega)]; rfl
  ·rw [bd e,av (by omega)]; rfl
 have e3:((c.aJ.length:Int) != c.aA) = !((c.aJ.length:Int) == c.aA):=rfl
 rw [e1,e1',e2,e3,within c.aJ _ (by omega) (by omega) (by omega)]
 cases hh:vG c with
 | false=>
  have:qi c=false:=by unfold qi; rw [hh]; rfl
  rw [this]
  unfold vG at hh
  cases ha:(decide (0≤c.aA) && decide (c.aA≤8)) with
  | false=>rfl
  | true=>
   rw [ha] at hh
   simp only [Bool.and_eq_true,decide_eq_true_eq] at ha
   rw [within c.aF _ (by omega) ha.1 (by omega),within c.To _ (by omega) ha.1 (by omega)]
   generalize decide (c.aF.length≤40)=a2 at *
   generalize pw c.aA c.aF=a3 at *
   generalize (c.To.length == c.aF.length)=a4 at *
   generalize pw c.aA c.To=a5 at *
   generalize (c.aD.length == c.aF.length)=a6 at *
   generalize ((c.aJ.length:Int) == c.aA)=a7 at *
   generalize pw (c.aF.length:Int) c.aJ=a8 at *
   cases a2 <;> first | rfl | (cases a4 <;> first | rfl | (cases a3 <;> first | rfl | (cases a5 <;> first | rfl | (cases a7 <;> first | rfl | (cases a8 <;> first | rfl | (cases a6 <;> first | rfl | (cases hh)))))))
 | true=>
  have H:=EH hh
  have Il:=hh
  unfold vG at Il
  simp only [Bool.and_eq_true] at Il
  obtain ⟨⟨⟨b1,Jj⟩,b2,b3⟩,⟨b4,b5⟩,b6,b7,b8⟩:=Il
  rw [within c.aF _ (by omega) H.o0 (by have:=H.o8; omega),within c.To _ (by omega) H.o0 (by have:=H.o8; omega)]
  rw [b1,Jj,b2,b3,b4,b5,b6,b8,b7]
  simp only [Bool.and_self,Bool.not_true,cond_false,aG]
  have hm:=H.m
  have tw:=H.il
  have Dv:=H.kl
  refine (congrArg ak (jy (ns c.aJ.length) (fun x=>!zr c x) (fun i=>(i:Int)) rfl ?_ ?_ (e:=(c.aJ.length:Int)) (y:=false) ?_)).trans ?_
  ·intro i x hx hp
   obtain ⟨rfl,hi⟩:=ic hx
   have:=H.id (x:=(i:Int)) (by omega) (by omega)
   unfold fQ
   unfold zr at hp
   simp only [Bool.not_eq_false'] at hp
   rw [av (by omega),cond_true,H.oK (by omega) (by omega),aG,Im H this.1 this.2,aG]
   dsimp only
   rw [hp,Bool.not_true,cond_false,bN (by omega)]
  ·intro i x hx hp
   obtain ⟨rfl,hi⟩:=ic hx
   have:=H.id (x:=(i:Int)) (by omega) (by omega)
   unfold fQ
   unfold zr at hp
   rw [av (by omega),cond_true,H.oK (by omega) (by omega),aG,Im H this.1 this.2,aG]
   dsimp only
   rw [hp,cond_true]
  ·unfold fQ
   rw [dD,bd (by omega),cond_false]
  rw [mj]
  unfold qi
  rw [hh]
  cases wJ:(ns c.aJ.length).all (zr c) with
  | false=>rfl
  | true=>
   simp only [Bool.not_true,Bool.false_eq_true,if_false,Bool.true_and]
   refine (congrArg ak (jy (ns c.aF.length) (fun f=>!xQ c f) (fun i=>(i:Int)) rfl ?_ ?_ (e:=(c.aF.length:Int)) (y:=false) ?_)).trans ?_
   rotate_left 2
   ·unfold iW
    rw [dD,bd (by omega),cond_false]
   ·rw [mj]
    cases (ns c.aF.length).all (xQ c) <;> rfl
   all_goals
    intro i x hx hp
    obtain ⟨rfl,hi⟩:=ic hx
    have hK:=H.mb (f:=(i:Int)) (by omega) (by omega)
    have inner:(gr c.aD i).length=c.aF.length→ag (S:=Int) (ae 4 (ai (fR c (c.aF.length:Int) i (gr c.aD i)) (0:Int))) (fun yR=>(some (Out.norm (aj ((i:Int)+(1:Int)))))) =
      if (ns c.aF.length).any (fun g=>!uU c i g) then some (.ret false) else some (Out.norm (aj ((i:Int)+(1:Int)))):=by
     intro hr
     refine jy (ns c.aF.length) (fun g=>!uU c i g) (fun j=>(j:Int)) rfl ?_ ?_ (e:=(c.aF.length:Int)) (y:=false) ?_
     rotate_left 2
     ·unfold fR
      rw [dD,bd (by omega),cond_false]
     all_goals
      intro j y hy hq
      obtain ⟨rfl,hj⟩:=ic hy
      unfold fR
      rw [av (by omega),cond_true,cB (by omega) (by omega),aG,H.je (by omega) (by omega),aG,H.ja (by omega) (by omega),aG,dK (a:=(c.aF.length:Int) - 1) (by omega) (by omega),Ch,aG]
      unfold uU gk at hq
      by_cases e:gi c.To i=gi c.aF j
      ·rw [if_pos e] at hq
       rw [show (gi c.To (i:Int) != gi c.aF (j:Int))=false by simp [e],cond_false]
       by_cases l0:0≤gi (gr c.aD i) j∧gi (gr c.aD i) j < c.aF.length
       ·rw [av l0.1,av l0.2] at hq
        rw [av l0.1,av (show gi (gr c.aD i) j≤(c.aF.length:Int) - 1 by omega)]
        simp only [Bool.and_self,Bool.not_true,cond_false,Bool.true_and] at hq ⊢
        rw [Im H l0.1 l0.2,aG,H.ja (by omega) (by omega),aG,H.je (by omega) (by omega),aG,aG]
        dsimp only
        rw [hq]
        all_goals (first | rfl | rw [cond_false,bN (by omega)])
       ·have l1:(decide (0≤gi (gr c.aD i) j) && decide (gi (gr c.aD i) j < c.aF.length))=false:=by
         rcases Classical.not_and_iff_not_or_not.1 l0 with h | h
         ·rw [bd h]; rfl
         ·rw [bd h,Bool.and_false]
        have l2:(decide (0≤gi (gr c.aD i) j) && decide (gi (gr c.aD i) j≤(c.aF.length:Int) - 1))=false:=by
         rcases Classical.not_and_iff_not_or_not.1 l0 with h | h
         ·rw [bd h]; rfl
         ·rw [bd (show ¬ gi (gr c.aD i) j≤(c.aF.length:Int) - 1 by omega),Bool.and_false]
        rw [l1] at hq
        rw [l2]
        all_goals (first | rfl | simp at hq)
      ·rw [if_neg e] at hq
       rw [show (gi c.To (i:Int) != gi c.aF (j:Int))=true by simp [e],cond_true,show (gi (gr c.aD (i:Int)) (j:Int) != -1) = !(gi (gr c.aD (i:Int)) (j:Int) == -1) from rfl,hq]
       all_goals (first | rfl | rw [cond_false,bN (by omega)])
    unfold iW
    rw [av (by omega),cond_true,hK,aG]
    unfold xQ at hp
    by_cases hr:(gr c.aD i).length=c.aF.length
    ·rw [show (((gr c.aD (i:Int)).length:Int) != (c.aF.length:Int))=false by simp [hr],cond_false,inner hr,mj]
     rw [show ((gr c.aD (i:Int)).length == c.aF.length)=true by simp [hr],Bool.true_and] at hp
     rw [hp,bN (by omega)]
     rfl
    ·rw [show (((gr c.aD (i:Int)).length:Int) != (c.aF.length:Int))=true by (simp; omega),cond_true]
     all_goals (rw [show ((gr c.aD (i:Int)).length == c.aF.length)=false by simp [hr],Bool.false_and] at hp; first | rfl | simp at hp)
end Go.Proofs.YtgjbmjjihmfppaaGreat
namespace Go.Proofs.YtgjbmjjihmfppaaGreat
open Go Go.Li
structure rI (c:aI):Prop extends Head c where
 v7:∀ x:Int,0≤x→x < c.aA→gi c.aF (gi c.aJ x)=x
 xR:∀ x:Int,0≤x→x < c.aA→gi c.To (gi c.aJ x)=x
 row:∀ f:Int,0≤f→f < c.aF.length→(gr c.aD f).length=c.aF.length
 cell:∀ f g:Int,0≤f→f < c.aF.length→0≤g→g < c.aF.length→gi c.To f=gi c.aF g→
  0≤gk c.aD f g∧gk c.aD f g < c.aF.length∧gi c.aF (gk c.aD f g)=gi c.aF f∧gi c.To (gk c.aD f g)=gi c.To g
 none:∀ f g:Int,0≤f→f < c.aF.length→0≤g→g < c.aF.length→gi c.To f≠gi c.aF g→gk c.aD f g = -1
theorem C7 {c:aI} (h:qi c=true):rI c:=by
 unfold qi at h
 simp only [Bool.and_eq_true,List.all_eq_true] at h
 obtain ⟨h1,h2,h3⟩:=h
 have H:=EH h1
 have tw:=H.il
 have wJ:∀ x,0≤x→x < c.aA→zr c x=true:=fun x a b=>h2 x (bz.2 ⟨a,by omega⟩)
 have bh:∀ f,0≤f→f < (c.aF.length:Int)→xQ c f=true:=fun f a b=>h3 f (bz.2 ⟨a,b⟩)
 have j4:∀ f g,0≤f→f < (c.aF.length:Int)→0≤g→g < (c.aF.length:Int)→uU c f g=true:=fun f g a b a' b'=>by
  have:=bh f a b
  unfold xQ at this
  simp only [Bool.and_eq_true,List.all_eq_true] at this
  exact this.2 g (bz.2 ⟨a',b'⟩)
 refine { H with
  v7:=fun x a b=>?_
  xR:=fun x a b=>?_
  row:=fun f a b=>?_
  cell:=fun f g a b a' b' e=>?_
  none:=fun f g a b a' b' e=>?_ }
 ·have:=wJ x a b; unfold zr at this; simp at this; exact this.1
 ·have:=wJ x a b; unfold zr at this; simp at this; exact this.2
 ·have:=bh f a b; unfold xQ at this; simp only [Bool.and_eq_true,beq_iff_eq] at this; exact this.1
 ·have:=j4 f g a b a' b'; unfold uU at this; rw [if_pos e] at this; simp only [Bool.and_eq_true,decide_eq_true_eq,beq_iff_eq] at this; exact ⟨this.1.1,this.1.2,this.2.1,this.2.2⟩
 ·have:=j4 f g a b a' b'; unfold uU at this; rw [if_neg e] at this; simpa using this
namespace rI
variable {c:aI} (h:rI c)
include h
theorem lg {f g:Int} (h0:0≤f) (h1:f < c.aF.length) (h2:0≤g) (h3:g < c.aF.length):idx (gr c.aD f) g=some (gk c.aD f g):=cB h2 (by rw [h.row f h0 h1]; exact h3)
theorem rf {f g:Int} (h0:0≤f) (h1:f < c.aF.length) (h2:0≤g) (h3:g < c.aF.length):cZ c f g=some (gk c.aD f g):=by
 unfold cZ; rw [h.mb h0 h1,aG,h.lg h0 h1 h2 h3,aG]; rfl
theorem thenS {f g:Int} (h0:0≤f) (h1:f < c.aF.length) (h2:0≤g) (h3:g < c.aF.length):kI c f g=some (gk c.aD f g):=by
 unfold kI; rw [h.mb h0 h1,aG,h.lg h0 h1 h2 h3,aG]; rfl
end rI
def uV (c:aI) (f:Int):Bool:=gk c.aD (gi c.aJ (gi c.aF f)) f == f && gk c.aD f (gi c.aJ (gi c.To f)) == f
def wy (c:aI) (f g h:Int):Bool:=gi c.To g == gi c.aF h && gk c.aD (gk c.aD f g) h != gk c.aD f (gk c.aD g h)
def BO (c:aI) (f g:Int):Bool:=gi c.To f == gi c.aF g && (ns c.aF.length).any (wy c f g)
def EI (c:aI) (f:Int):Bool:=(ns c.aF.length).any (BO c f)
def Ap (c:aI):Bool:=(ns c.aF.length).all (uV c) && !((ns c.aF.length).any (EI c))
theorem JY {c:aI} {k1 k2 k4 k6:Nat} {L0:Int→Option (Out Int (Int×Int×Int×Int))} {L1:Int→Option (Out Int (Int×Int×Int×Int))} {L2:Int→Int→Option (Out Int (Int×Int×Int×Int))} {L3:Int→Int→Int→Option (Out Int (Int×Int×Int×Int))} {z:Int×Int×Int×Int} (hz:z.1=0)
  (a0:∀ i:Nat,i < c.aF.length→uV c i=true→L0 i=some (.norm ((i+1:Nat):Int)))
  (a1:∀ i:Nat,i < c.aF.length→uV c i=false→∃ y,L0 i=some (.ret y)∧y.1≠0)
  (a2:L0 c.aF.length=some (.exit k1 c.aF.length))
  (b0:∀ i:Nat,i < c.aF.length→L1 i=ag (ae k4 (ai (L2 i) 0)) fun _=>some (.norm ((i+1:Nat):Int)))
  (b2:L1 c.aF.length=some (.exit k2 c.aF.length))
  (d0:∀ i j:Nat,i < c.aF.length→j < c.aF.length→gi c.To i≠gi c.aF j→L2 i j=some (.norm ((j+1:Nat):Int)))
  (d1:∀ i j:Nat,i < c.aF.length→j < c.aF.length→gi c.To i=gi c.aF j→L2 i j=ag (ae k6 (ai (L3 i j) 0)) fun _=>some (.norm ((j+1:Nat):Int)))
  (d2:∀ i:Nat,L2 i c.aF.length=some (.exit k4 c.aF.length))
  (e0:∀ i j h:Nat,i < c.aF.length→j < c.aF.length→h < c.aF.length→gi c.To i=gi c.aF j→wy c i j h=false→L3 i j h=some (.norm ((h+1:Nat):Int)))
  (e1:∀ i j h:Nat,i < c.aF.length→j < c.aF.length→h < c.aF.length→gi c.To i=gi c.aF j→wy c i j h=true→∃ y,L3 i j h=some (.ret y)∧y.1≠0)
  (e2:∀ i j:Nat,L3 i j c.aF.length=some (.exit k6 c.aF.length)) :
  ∃ y,ak (S:=Unit) (ag (ae k1 (ai L0 0)) fun _=>ag (ae k2 (ai L1 0)) fun _=>some (.ret z))=some y∧(y.1 == 0)=Ap c:=by
 have Zh:∀ i j:Nat,i < c.aF.length→j < c.aF.length→gi c.To i=gi c.aF j→
   ((ns c.aF.length).any (wy c i j)=true∧∃ y,ag (S:=Int) (ae k6 (ai (L3 i j) 0)) (fun _=>some (.norm ((j+1:Nat):Int)))=some (.ret y)∧y.1≠0)∨
   ((ns c.aF.length).any (wy c i j)=false∧ag (S:=Int) (ae k6 (ai (L3 i j) 0)) (fun _=>some (.norm ((j+1:Nat):Int)))=some (.norm ((j+1:Nat):Int))):=by
  intro i j hi hj he
  refine xP (ns c.aF.length) (wy c i j) (fun y:Int×Int×Int×Int=>y.1≠0) (fun h=>(h:Int)) rfl ?_ ?_ (e:=(c.aF.length:Int)) (by rw [dD]; exact e2 i j)
  ·intro h x hx hp; obtain ⟨rfl,hh⟩:=ic hx; exact e0 i j h hi hj hh he hp
  ·intro h x hx hp; obtain ⟨rfl,hh⟩:=ic hx; exact e1 i j h hi hj hh he hp
 have Zi:∀ i:Nat,i < c.aF.length→
   ((ns c.aF.length).any (BO c i)=true∧∃ y,ag (S:=Int) (ae k4 (ai (L2 i) 0)) (fun _=>some (.norm ((i+1:Nat):Int)))=some (.ret y)∧y.1≠0)∨
   ((ns c.aF.length).any (BO c i)=false∧ag (S:=Int) (ae k4 (ai (L2 i) 0)) (fun _=>some (.norm ((i+1:Nat):Int)))=some (.norm ((i+1:Nat):Int))):=by
  intro i hi
  refine xP (ns c.aF.length) (BO c i) (fun y:Int×Int×Int×Int=>y.1≠0) (fun h=>(h:Int)) rfl ?_ ?_ (e:=(c.aF.length:Int)) (by rw [dD]; exact d2 i)
  ·intro j x hx hp
   obtain ⟨rfl,hj⟩:=ic hx
   by_cases he:gi c.To i=gi c.aF j
   ·rw [d1 i j hi hj he]
    rcases Zh i j hi hj he with ⟨h1,_⟩ | ⟨_,h2⟩
    ·unfold BO at hp; rw [h1] at hp; simp [he] at hp
    ·exact h2
   ·exact d0 i j hi hj he
  ·intro j x hx hp
   obtain ⟨rfl,hj⟩:=ic hx
   unfold BO at hp
   simp only [Bool.and_eq_true,beq_iff_eq] at hp
   rw [d1 i j hi hj hp.1]
   rcases Zh i j hi hj hp.1 with ⟨_,h⟩ | ⟨h1,_⟩
   ·exact h
   ·rw [hp.2] at h1; cases h1
 rcases xP (s0:=(0:Int)) (S:=Unit) (R:=Int×Int×Int×Int) (k:=k1) (body:=L0) (f:=fun _=>ag (ae k2 (ai L1 0)) fun _=>some (.ret z)) (ns c.aF.length) (fun i=>!uV c i) (fun y:Int×Int×Int×Int=>y.1≠0) (fun i=>(i:Int)) rfl
   (fun i x hx hp=>by obtain ⟨rfl,hi⟩:=ic hx; exact a0 i hi (by simpa using hp)) (fun i x hx hp=>by obtain ⟨rfl,hi⟩:=ic hx; exact a1 i hi (by simpa using hp)) (e:=(c.aF.length:Int)) (by rw [dD]; exact a2) with ⟨h1,y,h2,h3⟩ | ⟨h1,h2⟩
 ·refine ⟨y,by rw [h2]; rfl,?_⟩
  unfold Ap
  rw [mj] at h1
  simp only [Bool.not_eq_true'] at h1
  rw [h1]
  simpa using h3
 ·rw [mj] at h1
  simp only [Bool.not_eq_false'] at h1
  rw [h2]
  rcases xP (s0:=(0:Int)) (S:=Unit) (R:=Int×Int×Int×Int) (k:=k2) (body:=L1) (f:=fun _=>some (.ret z)) (ns c.aF.length) (EI c) (fun y:Int×Int×Int×Int=>y.1≠0) (fun i=>(i:Int)) rfl
   (fun i x hx hp=>by
    obtain ⟨rfl,hi⟩:=ic hx
    rw [b0 i hi]
    rcases Zi i hi with ⟨q1,_⟩ | ⟨_,q2⟩
    ·unfold EI at hp; rw [q1] at hp; cases hp
    ·exact q2)
   (fun i x hx hp=>by
    obtain ⟨rfl,hi⟩:=ic hx
    rw [b0 i hi]
    rcases Zi i hi with ⟨_,q⟩ | ⟨q1,_⟩
    ·exact q
    ·unfold EI at hp; rw [q1] at hp; cases hp) (e:=(c.aF.length:Int)) (by rw [dD]; exact b2) with ⟨g1,y,g2,g3⟩ | ⟨g1,g2⟩
  ·refine ⟨y,by rw [g2]; rfl,?_⟩
   unfold Ap
   rw [h1,g1]
   simpa using g3
  ·refine ⟨z,by rw [g2]; rfl,?_⟩
   unfold Ap
   rw [h1,g1,hz]
   rfl
section
variable {c:aI} (H:rI c)
include H
theorem Nv:∃ y,nH c=some y∧(y.1 == 0)=Ap c:=by
 have hm:=H.m
 have tw:=H.il
 have u0:∀ i:Nat,i < c.aF.length→kR c i=if uV c i then some (Out.norm ((i+1:Nat):Int)) else some (Out.ret ((1:Int),(i:Int),(0:Int),(0:Int))):=by
  intro i hi
  have f1:=H.fr (f:=(i:Int)) (by omega) (by omega)
  have t1:=H.to (f:=(i:Int)) (by omega) (by omega)
  have i1:=H.id f1.1 f1.2
  have i2:=H.id t1.1 t1.2
  unfold kR
  rw [av (by omega),cond_true,H.ja (by omega) (by omega),aG,H.oK f1.1 f1.2,aG,H.mb i1.1 i1.2,aG,H.lg i1.1 i1.2 (by omega) (by omega),aG]
  rw [H.mb (by omega) (by omega),aG,H.je (by omega) (by omega),aG,H.oK t1.1 t1.2,aG,H.lg (by omega) (by omega) i2.1 i2.2,aG]
  unfold uV
  by_cases e1:gk c.aD (gi c.aJ (gi c.aF i)) i=i
  ·by_cases e2:gk c.aD i (gi c.aJ (gi c.To i))=i
   ·simp [e1,e2,bN (show i < 9223372036854775807 by omega)]
   ·simp [e1,e2,uT e2]
  ·simp [e1,uT e1]
 unfold nH
 refine JY (c:=c) (z:=(0,0,0,0)) rfl (L2:=iV c) (L3:=iU c) (k4:=4) (k6:=6) ?_ ?_ ?_ ?_ ?_ ?_ ?_ ?_ ?_ ?_ ?_
 ·intro i hi hp; rw [u0 i hi,hp]; rfl
 ·intro i hi hp; rw [u0 i hi,hp]; exact ⟨_,rfl,by simp⟩
 ·unfold kR; rw [bd (by omega),cond_false]
 ·intro i hi; unfold nW; rw [av (by omega),cond_true,bN (by omega)]
 ·unfold nW; rw [bd (by omega),cond_false]
 ·intro i j hi hj he
  unfold iV
  rw [av (by omega),cond_true,H.je (by omega) (by omega),aG,H.ja (by omega) (by omega),aG,show (gi c.To (i:Int) != gi c.aF (j:Int))=true by simp [he],cond_true,bN (by omega)]
 ·intro i j hi hj he
  unfold iV
  rw [av (by omega),cond_true,H.je (by omega) (by omega),aG,H.ja (by omega) (by omega),aG,show (gi c.To (i:Int) != gi c.aF (j:Int))=false by simp [he],cond_false,bN (by omega)]
 ·intro i; unfold iV; rw [bd (by omega),cond_false]
 ·intro i j h hi hj hh he hp
  unfold iU
  rw [av (by omega),cond_true,H.je (by omega) (by omega),aG,H.ja (by omega) (by omega),aG]
  unfold wy at hp
  by_cases e:gi c.To j=gi c.aF h
  ·have c1:=H.cell i j (by omega) (by omega) (by omega) (by omega) he
   have c2:=H.cell j h (by omega) (by omega) (by omega) (by omega) e
   rw [show (gi c.To (j:Int) == gi c.aF (h:Int))=true by simp [e]] at hp ⊢
   rw [cond_true,H.mb (by omega) (by omega),aG,H.lg (by omega) (by omega) (by omega) (by omega),aG,H.mb c1.1 c1.2.1,aG,H.lg c1.1 c1.2.1 (by omega) (by omega),aG,aG,H.mb (by omega) (by omega),aG,H.lg (by omega) (by omega) (by omega) (by omega),aG,H.lg (by omega) (by omega) c2.1 c2.2.1,aG]
   rw [Bool.true_and] at hp
   rw [hp,aG,cond_false,bN (by omega)]
  ·rw [show (gi c.To (j:Int) == gi c.aF (h:Int))=false by simp [e],cond_false,aG,cond_false,bN (by omega)]
 ·intro i j h hi hj hh he hp
  unfold iU
  rw [av (by omega),cond_true,H.je (by omega) (by omega),aG,H.ja (by omega) (by omega),aG]
  unfold wy at hp
  simp only [Bool.and_eq_true] at hp
  have e:gi c.To j=gi c.aF h:=by simpa using hp.1
  have c1:=H.cell i j (by omega) (by omega) (by omega) (by omega) he
  have c2:=H.cell j h (by omega) (by omega) (by omega) (by omega) e
  rw [hp.1,cond_true,H.mb (by omega) (by omega),aG,H.lg (by omega) (by omega) (by omega) (by omega),aG,H.mb c1.1 c1.2.1,aG,H.lg c1.1 c1.2.1 (by omega) (by omega),aG,aG,H.mb (by omega) (by omega),aG,H.lg (by omega) (by omega) (by omega) (by omega),aG,H.lg (by omega) (by omega) c2.1 c2.2.1,aG]
  rw [hp.2,aG,cond_true]
  exact ⟨_,rfl,by simp⟩
 ·intro i j; unfold iU; rw [bd (by omega),cond_false]
theorem Nw:∃ y,jC c=some y∧(y.1 == 0)=Ap c:=by
 have hm:=H.m
 have tw:=H.il
 have u0:∀ i:Nat,i < c.aF.length→gS c c.aF.length i=if uV c i then some (Out.norm ((i+1:Nat):Int)) else some (Out.ret ((1:Int),(i:Int),(0:Int),(0:Int))):=by
  intro i hi
  have f1:=H.fr (f:=(i:Int)) (by omega) (by omega)
  have t1:=H.to (f:=(i:Int)) (by omega) (by omega)
  have i1:=H.id f1.1 f1.2
  have i2:=H.id t1.1 t1.2
  unfold gS
  rw [av (by omega),cond_true,H.ja (by omega) (by omega),aG,H.oK f1.1 f1.2,aG,H.rf i1.1 i1.2 (by omega) (by omega),aG]
  rw [H.je (by omega) (by omega),aG,H.oK t1.1 t1.2,aG,H.rf (by omega) (by omega) i2.1 i2.2,aG]
  unfold uV
  by_cases e1:gk c.aD (gi c.aJ (gi c.aF i)) i=i
  ·by_cases e2:gk c.aD i (gi c.aJ (gi c.To i))=i
   ·simp [e1,e2,bN (show i < 9223372036854775807 by omega)]
   ·simp [e1,e2,uT e2]
  ·simp [e1,uT e1]
 have pos:∀ i j:Nat,i < c.aF.length→j < c.aF.length→(gi c.To i=gi c.aF j→0≤gk c.aD i j)∧(gi c.To i≠gi c.aF j→gk c.aD i j < 0):=by
  intro i j hi hj
  refine ⟨fun e=>(H.cell i j (by omega) (by omega) (by omega) (by omega) e).1,fun e=>?_⟩
  rw [H.none i j (by omega) (by omega) (by omega) (by omega) e]; decide
 unfold jC dI
 rw [show ak (S:=Unit) (some (Out.ret (c.aF.length:Int)))=some (c.aF.length:Int) from rfl,aG]
 refine JY (c:=c) (z:=(0,0,0,0)) rfl (L2:=fC c c.aF.length) (L3:=fB c c.aF.length) (k4:=4) (k6:=6) ?_ ?_ ?_ ?_ ?_ ?_ ?_ ?_ ?_ ?_ ?_
 ·intro i hi hp; rw [u0 i hi,hp]; rfl
 ·intro i hi hp; rw [u0 i hi,hp]; exact ⟨_,rfl,by simp⟩
 ·unfold gS; rw [bd (by omega),cond_false]
 ·intro i hi; unfold jR; rw [av (by omega),cond_true,bN (by omega)]
 ·unfold jR; rw [bd (by omega),cond_false]
 ·intro i j hi hj he
  unfold fC
  rw [av (by omega),cond_true,H.rf (by omega) (by omega) (by omega) (by omega),aG,av ((pos i j hi hj).2 he),cond_true,bN (by omega)]
 ·intro i j hi hj he
  have:=(pos i j hi hj).1 he
  unfold fC
  rw [av (by omega),cond_true,H.rf (by omega) (by omega) (by omega) (by omega),aG,bd (by omega),cond_false,bN (by omega)]
 ·intro i; unfold fC; rw [bd (by omega),cond_false]
 ·intro i j h hi hj hh he hp
  unfold fB
  rw [av (by omega),cond_true,H.rf (by omega) (by omega) (by omega) (by omega),aG]
  unfold wy at hp
  by_cases e:gi c.To j=gi c.aF h
  ·have c1:=H.cell i j (by omega) (by omega) (by omega) (by omega) he
   have c2:=H.cell j h (by omega) (by omega) (by omega) (by omega) e
   rw [show (gi c.To (j:Int) == gi c.aF (h:Int))=true by simp [e],Bool.true_and] at hp
   rw [av (show gk c.aD j h ≥ 0 from c2.1),cond_true,H.rf (by omega) (by omega) (by omega) (by omega),aG,H.rf c1.1 c1.2.1 (by omega) (by omega),aG,aG,H.rf (by omega) (by omega) c2.1 c2.2.1,aG,hp,aG,cond_false,bN (by omega)]
  ·have:=(pos j h hj hh).2 e
   rw [bd (show ¬ gk c.aD j h ≥ 0 by omega),cond_false,aG,cond_false,bN (by omega)]
 ·intro i j h hi hj hh he hp
  unfold fB
  unfold wy at hp
  simp only [Bool.and_eq_true] at hp
  have e:gi c.To j=gi c.aF h:=by simpa using hp.1
  have c1:=H.cell i j (by omega) (by omega) (by omega) (by omega) he
  have c2:=H.cell j h (by omega) (by omega) (by omega) (by omega) e
  rw [av (by omega),cond_true,H.rf (by omega) (by omega) (by omega) (by omega),aG,av (show gk c.aD j h ≥ 0 from c2.1),cond_true,H.rf (by omega) (by omega) (by omega) (by omega),aG,H.rf c1.1 c1.2.1 (by omega) (by omega),aG,aG,H.rf (by omega) (by omega) c2.1 c2.2.1,aG,hp.2,aG,cond_true]
  exact ⟨_,rfl,by simp⟩
 ·intro i j; unfold fB; rw [bd (by omega),cond_false]
end
structure oh (c:aI):Prop extends rI c where
 D7:∀ f:Int,0≤f→f < c.aF.length→gk c.aD (gi c.aJ (gi c.aF f)) f=f
 Lv:∀ f:Int,0≤f→f < c.aF.length→gk c.aD f (gi c.aJ (gi c.To f))=f
 assoc:∀ f g h:Int,0≤f→f < c.aF.length→0≤g→g < c.aF.length→0≤h→h < c.aF.length→gi c.To f=gi c.aF g→gi c.To g=gi c.aF h→
  gk c.aD (gk c.aD f g) h=gk c.aD f (gk c.aD g h)
def o3 (c:aI):Bool:=qi c && Ap c
theorem xS {c:aI} (h:o3 c=true):oh c:=by
 unfold o3 at h
 simp only [Bool.and_eq_true] at h
 obtain ⟨h1,h2⟩:=h
 have H:=C7 h1
 unfold Ap at h2
 simp only [Bool.and_eq_true,List.all_eq_true,Bool.not_eq_true',List.any_eq_false] at h2
 obtain ⟨h2,h3⟩:=h2
 refine { H with
  D7:=fun f a b=>?_
  Lv:=fun f a b=>?_
  assoc:=fun f g h a b a' b' a'' b'' e1 e2=>?_ }
 ·have:=h2 f (bz.2 ⟨a,b⟩); unfold uV at this; simp at this; exact this.1
 ·have:=h2 f (bz.2 ⟨a,b⟩); unfold uV at this; simp at this; exact this.2
 ·have:=h3 f (bz.2 ⟨a,b⟩)
  unfold EI at this
  simp only [List.any_eq_true,not_exists,not_and] at this
  have:=this g (bz.2 ⟨a',b'⟩)
  unfold BO at this
  simp only [Bool.and_eq_true,beq_iff_eq,List.any_eq_true,not_and,not_exists] at this
  have:=this e1 h (bz.2 ⟨a'',b''⟩)
  unfold wy at this
  simpa [e2] using this
theorem Nx {c:aI} (hs:gh c):oY c=some (o3 c):=by
 unfold oY
 rw [Ns hs,aG]
 unfold o3
 cases h:qi c with
 | false=>rfl
 | true=>
  obtain ⟨y,h1,h2⟩:=Nv (C7 h)
  rw [Bool.not_true,cond_false,h1,aG,h2]; rfl
theorem Ny {c:aI} (hs:gh c):fS c=some (o3 c):=by
 unfold fS
 rw [Nu hs,aG]
 unfold o3
 cases h:qi c with
 | false=>rfl
 | true=>
  obtain ⟨y,h1,h2⟩:=Nw (C7 h)
  rw [Bool.not_true,cond_false,h1,aG,h2]; rfl
end Go.Proofs.YtgjbmjjihmfppaaGreat
