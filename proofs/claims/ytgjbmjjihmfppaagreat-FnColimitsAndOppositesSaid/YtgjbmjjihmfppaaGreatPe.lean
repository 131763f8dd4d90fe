/- Is a table a category: the reference and the program agree, and what is known of a category. No condition beside those that each theorem names. -/
import Derived.Test.YtgjbmjjihmfppaaGreatPa
namespace Go.Li
open Go
section
variable {S S1 R α:Type} {body:S1→Option (Out S1 R)}
theorem yC {k:Nat} {f:S1→Option (Out S R)} {s0 e:S1} (l:List α) (p:α→Bool) (G:R→Prop) (st:Nat→S1) (h0:st 0=s0) (step:∀ i x,l[i]? = some x→p x=false→body (st i)=some (.norm (st (i+1))))
  (Ou:∀ i x,l[i]? = some x→p x=true→∃ y,body (st i)=some (.ret y)∧G y) (last:body (st l.length)=some (.exit k e)) :
  (l.any p=true∧∃ y,ah (ae k (ai body s0)) f=some (.ret y)∧G y)∨(l.any p=false∧ah (ae k (ai body s0)) f=f e):=by
 have key:∀ (m:List α) (i:Nat),l.drop i=m→i≤l.length→(m.any p=true∧∃ y,ai body (st i)=some (.ret y)∧G y)∨(m.any p=false∧ai body (st i)=some (.exit k e)):=by
  intro m
  induction m with
  | nil=>
   intro i hd hi
   have:i=l.length:=by have:=congrArg List.length hd; simp at this; omega
   subst this
   exact .inr ⟨rfl,ml last⟩
  | cons x m ih=>
   intro i hd hi
   have bm:i < l.length:=by
    rcases Nat.lt_or_ge i l.length with h | h
    ·exact h
    ·rw [List.drop_eq_nil_of_le h] at hd; cases hd
   have hx:l[i]? = some x:=by
    rw [List.drop_eq_getElem_cons bm] at hd
    rw [List.getElem?_eq_getElem bm]; exact congrArg some (List.cons.inj hd).1
   have jh:l.drop (i+1)=m:=by
    rw [List.drop_eq_getElem_cons bm] at hd; exact (List.cons.inj hd).2
   cases hp:p x with
   | true=>
    obtain ⟨y,hy,hg⟩:=Ou i x hx hp
    exact .inl ⟨by simp [hp],y,Ci hy,hg⟩
   | false=>
    rw [oh,step i x hx hp]
    simpa [hp] using ih (i+1) jh bm
 rcases key l 0 rfl (Nat.zero_le _) with ⟨h1,y,h2,h3⟩ | ⟨h1,h2⟩
 ·rw [h0] at h2; exact .inl ⟨h1,y,Cj h2,h3⟩
 ·rw [h0] at h2; exact .inr ⟨h1,tU h2⟩
theorem Ow {n i x:Nat} (h:(List.range n)[i]? = some x):x=i∧i < n:=by
 have hi:=bj h
 rw [List.getElem?_eq_getElem hi] at h
 simp at h hi
 exact ⟨h.symm,hi⟩
end
def gi (l:List Int) (j:Int):Int:=l.getD j.toNat 0
def gr (l:List (List Int)) (j:Int):List Int:=l.getD j.toNat []
def gk (l:List (List Int)) (i j:Int):Int:=gi (gr l i) j
theorem cH {l:List Int} {j:Int} (h0:0≤j) (h1:j < l.length):idx l j=some (gi l j):=by
 rw [wX h0 h1]; unfold gi; rw [List.getD_eq_getElem?_getD,List.getElem?_eq_getElem (by omega)]; rfl
theorem ny {l:List (List Int)} {j:Int} (h0:0≤j) (h1:j < l.length):idx l j=some (gr l j):=by
 rw [wX h0 h1]; unfold gr; rw [List.getD_eq_getElem?_getD,List.getElem?_eq_getElem (by omega)]; rfl
theorem fj {l:List Int} {j:Int} (h0:0≤j) (h1:j < l.length):gi l j∈l:=by
 unfold gi; rw [List.getD_eq_getElem?_getD,List.getElem?_eq_getElem (by omega)]; exact List.getElem_mem _
theorem ra {l:List (List Int)} {j:Int} (h0:0≤j) (h1:j < l.length):gr l j∈l:=by
 unfold gr; rw [List.getD_eq_getElem?_getD,List.getElem?_eq_getElem (by omega)]; exact List.getElem_mem _
def ns (n:Nat):List Int:=(List.range n).map Int.ofNat
theorem iH {n i:Nat} {x:Int} (h:(ns n)[i]? = some x):x=(i:Int)∧i < n:=by
 unfold ns at h
 rw [List.getElem?_map] at h
 cases hr:(List.range n)[i]? with
 | none=>rw [hr] at h; cases h
 | some y=>
  rw [hr] at h
  obtain ⟨rfl,hi⟩:=Ow hr
  exact ⟨(Option.some.inj h).symm,hi⟩
theorem dM (n:Nat):(ns n).length=n:=by simp [ns]
theorem ca {n:Nat} {x:Int}:x∈ns n↔0≤x∧x < n:=by
 unfold ns
 simp only [List.mem_map,List.mem_range]
 constructor
 ·rintro ⟨a,h1,rfl⟩; simp; omega
 ·rintro ⟨h1,h2⟩; exact ⟨x.toNat,by omega,by simp; omega⟩
end Go.Li
namespace Go.Proofs.YtgjbmjjihmfppaaGreat
open Go Go.Li
def qh (n:Int) (f:List Int):Bool:=f.all fun y=>decide (0≤y) && decide (y < n)
theorem sd {n:Int} {f:List Int}:qh n f=true↔∀ y∈f,0≤y∧y < n:=by simp [qh]
theorem nj {α:Type} (l:List α) (p:α→Bool):l.any (fun x=>!p x) = !l.all p:=by
 induction l with
 | nil=>rfl
 | cons a l ih=>simp only [List.any_cons,List.all_cons,ih,Bool.not_and]
theorem CQ (n:Int) (f:List Int) (hf:f.length≤1048576000):kG n f=some (qh n f):=by
 unfold kG
 refine (congrArg ak (jr f (fun y=>!(decide (0≤y) && decide (y < n))) (fun i=>(i:Int)) rfl ?_ ?_ (e:=(f.length:Int)) (y:=false) ?_)).trans ?_
 ·intro i x hx hp
  have hi:=bj hx
  unfold mX
  simp only [Bool.not_eq_false',Bool.and_eq_true,decide_eq_true_eq] at hp
  rw [av (by omega),cond_true,bu,hx,aF,aX (by omega),cond_false,aF,aX (by omega),aF,cond_false,bR (by omega)]
 ·intro i x hx hp
  have hi:=bj hx
  unfold mX
  rw [av (by omega),cond_true,bu,hx,aF,aF]
  by_cases h:x < 0
  ·rw [av h,cond_true,aF,cond_true]
  ·have:n≤x:=by simp at hp; omega
   rw [aX h,cond_false,av (by omega),aF,cond_true]
 ·unfold mX
  rw [aX (by omega),cond_false]
 ·rw [nj]
  show ak (if (!qh n f)=true then _ else _)=_
  cases qh n f <;> rfl
theorem CR (n a b:Int):kW n a b=some (decide (a≤n) && decide (n≤b)):=by
 unfold kW
 by_cases h:a≤n
 ·rw [av (show n ≥ a from h),cond_true]; rfl
 ·rw [aX (show ¬ n ≥ a from h),cond_false]; rfl
theorem Xv (n a b:Int):qR n a b=some (decide (a≤n) && decide (n≤b)):=by
 unfold qR
 by_cases h:a≤n
 ·rw [av (show n ≥ a from h),cond_true]; rfl
 ·rw [aX (show ¬ n ≥ a from h),cond_false]; rfl
theorem within (f:List Int) (n:Int) (hf:f.length≤1048576000) (hn:0≤n) (KM:n≤1048576000):iW f n=some (qh n f):=by
 unfold iW
 refine (congrArg ak (jr f (fun y=>!(decide (0≤y) && decide (y < n))) (fun i=>(i:Int)) rfl ?_ ?_ (e:=(f.length:Int)) (y:=false) ?_)).trans ?_
 ·intro i x hx hp
  have hi:=bj hx
  unfold mZ
  simp only [Bool.not_eq_false',Bool.and_eq_true,decide_eq_true_eq] at hp
  rw [av (by omega),cond_true,bu,hx,aF,dV (by omega) (by omega),CR,aF,av hp.1,av (by omega)]
  simp only [Bool.and_self,Bool.not_true,cond_false]
  rw [bR (by omega)]
 ·intro i x hx hp
  have hi:=bj hx
  unfold mZ
  rw [av (by omega),cond_true,bu,hx,aF,dV (by omega) (by omega),CR,aF]
  have:(decide (0≤x) && decide (x≤n - 1))=false:=by
   by_cases h:x < 0
   ·rw [aX (by omega)]; rfl
   ·have:n≤x:=by simp at hp; omega
    rw [aX (show ¬ x≤n - 1 by omega),Bool.and_false]
  rw [this]; rfl
 ·unfold mZ
  rw [aX (by omega),cond_false]
 ·rw [nj]
  show ak (if (!qh n f)=true then _ else _)=_
  cases qh n f <;> rfl
def wA (c:aG):Bool:=((decide (0≤c.aA) && decide (c.aA≤8)) && (decide (c.aD.length≤40) && qh c.aA c.aD)) && (((c.To.length == c.aD.length) && qh c.aA c.To) && ((c.aB.length == c.aD.length) && (((c.aH.length:Int) == c.aA) && qh c.aD.length c.aH)))
def Ac (c:aG) (x:Int):Bool:=gi c.aD (gi c.aH x) == x && gi c.To (gi c.aH x) == x
def vw (c:aG) (f g:Int):Bool:=
 if gi c.To f=gi c.aD g then (decide (0≤gk c.aB f g) && decide (gk c.aB f g < c.aD.length)) && (gi c.aD (gk c.aB f g) == gi c.aD f && gi c.To (gk c.aB f g) == gi c.To g)
 else gk c.aB f g == -1
def yD (c:aG) (f:Int):Bool:=((gr c.aB f).length == c.aD.length) && (ns c.aD.length).all fun g=>vw c f g
def rb (c:aG):Bool:=wA c && ((ns c.aH.length).all (Ac c) && (ns c.aD.length).all (yD c))
structure Head (c:aG):Prop where
 o0:0≤c.aA
 o8:c.aA≤8
 m:c.aD.length≤40
 f:∀ x∈c.aD,0≤x∧x < c.aA
 tl:c.To.length=c.aD.length
 t:∀ x∈c.To,0≤x∧x < c.aA
 kl:c.aB.length=c.aD.length
 il:(c.aH.length:Int)=c.aA
 i:∀ x∈c.aH,0≤x∧x < c.aD.length
theorem Fw {c:aG} (h:wA c=true):Head c:=by
 unfold wA at h
 simp only [Bool.and_eq_true,decide_eq_true_eq,sd,beq_iff_eq] at h
 obtain ⟨⟨⟨h1,h2⟩,h3,h4⟩,⟨h5,h6⟩,h7,h8,h9⟩:=h
 exact ⟨h1,h2,h3,h4,h5,h6,h7,h8,h9⟩
set_option linter.unusedSectionVars false
namespace Head
variable {c:aG} (h:Head c)
include h
theorem fr {f:Int} (h0:0≤f) (h1:f < c.aD.length):0≤gi c.aD f∧gi c.aD f < c.aA:=h.f _ (fj h0 h1)
theorem to {f:Int} (h0:0≤f) (h1:f < c.aD.length):0≤gi c.To f∧gi c.To f < c.aA:=h.t _ (fj h0 (by rw [h.tl]; exact h1))
theorem id {x:Int} (h0:0≤x) (h1:x < c.aA):0≤gi c.aH x∧gi c.aH x < c.aD.length:=h.i _ (fj h0 (by rw [h.il]; exact h1))
theorem js {f:Int} (h0:0≤f) (h1:f < c.aD.length):idx c.aD f=some (gi c.aD f):=cH h0 h1
theorem j3 {f:Int} (h0:0≤f) (h1:f < c.aD.length):idx c.To f=some (gi c.To f):=cH h0 (by rw [h.tl]; exact h1)
theorem p9 {x:Int} (h0:0≤x) (h1:x < c.aA):idx c.aH x=some (gi c.aH x):=cH h0 (by rw [h.il]; exact h1)
theorem mm {f:Int} (h0:0≤f) (h1:f < c.aD.length):idx c.aB f=some (gr c.aB f):=ny h0 (by rw [h.kl]; exact h1)
end Head
theorem Ox {c:aG} (hs:gv c):pH c=some (rb c):=by
 obtain ⟨z1,z2,z3,z4,z5⟩:=hs
 have ends:∀ (l:List Int) (n:Nat) (o:Int),l.length≤1048576→mK l (n:Int) o=some ((l.length == n) && qh o l):=by
  intro l n o hl
  unfold mK
  by_cases e:l.length=n
  ·rw [show ((l.length:Int) == (n:Int))=true by simp [e],cond_true,CQ _ _ (by omega),show (l.length == n)=true by simp [e]]; rfl
  ·rw [show ((l.length:Int) == (n:Int))=false by simp; omega,cond_false,show (l.length == n)=false by simp [e]]; rfl
 unfold pH
 rw [Xv,aF,ends _ _ _ z1,ends _ _ _ z2]
 have e1:((c.aB.length:Int) != (c.aD.length:Int)) = !(c.aB.length == c.aD.length):=by
  by_cases e:c.aB.length=c.aD.length
  ·simp [e]
  ·rw [show (c.aB.length == c.aD.length)=false by simp [e]]; simp; omega
 have e2:decide ((c.aD.length:Int) > 40) = !decide (c.aD.length≤40):=by
  by_cases e:c.aD.length≤40
  ·rw [av e,aX (by omega)]; rfl
  ·rw [aX e,av (by omega)]; rfl
 rw [e1,e2,CQ _ _ (by omega)]
 cases hh:wA c with
 | false=>
  have:rb c=false:=by unfold rb; rw [hh]; rfl
  rw [this]
  unfold wA at hh
  generalize (decide (0≤c.aA) && decide (c.aA≤8))=a1 at *
  generalize decide (c.aD.length≤40)=a2 at *
  generalize qh c.aA c.aD=a3 at *
  generalize (c.To.length == c.aD.length)=a4 at *
  generalize qh c.aA c.To=a5 at *
  generalize (c.aB.length == c.aD.length)=a6 at *
  have e3:((c.aH.length:Int) != c.aA) = !((c.aH.length:Int) == c.aA):=rfl
  rw [e3]
  generalize ((c.aH.length:Int) == c.aA)=a7 at *
  generalize qh (c.aD.length:Int) c.aH=a8 at *
  simp only [beq_self_eq_true,Bool.true_and]
  cases a1 <;> first | rfl | (cases a2 <;> first | rfl | (cases a3 <;> first | rfl | (cases a4 <;> first | rfl | (cases a5 <;> first | rfl | (cases a6 <;> first | rfl | (cases a7 <;> first | rfl | (cases a8 <;> first | rfl | (cases hh))))))))
 | true=>
  have H:=Fw hh
  have I9:=hh
  unfold wA at I9
  simp only [Bool.and_eq_true] at I9
  obtain ⟨⟨⟨b1,Ke⟩,b2,b3⟩,⟨b4,b5⟩,b6,b7,b8⟩:=I9
  rw [b1,Ke,b2,b3,b4,b5,b6,b8,show ((c.aH.length:Int) != c.aA) = !((c.aH.length:Int) == c.aA) from rfl,b7]
  simp only [beq_self_eq_true,Bool.and_self,Bool.not_true,cond_false,aF]
  have hm:=H.m
  have tZ:=H.il
  refine (congrArg ak (jr (ns c.aH.length) (fun x=>!Ac c x) (fun i=>(i:Int)) rfl ?_ ?_ (e:=(c.aH.length:Int)) (y:=false) ?_)).trans ?_
  ·intro i x hx hp
   obtain ⟨rfl,hi⟩:=iH hx
   have:=H.id (x:=(i:Int)) (by omega) (by omega)
   unfold mB
   unfold Ac at hp
   simp only [Bool.not_eq_false',Bool.and_eq_true,beq_iff_eq] at hp
   rw [av (by omega),cond_true,H.p9 (by omega) (by omega),aF,H.js this.1 this.2,aF,hp.1,bne_self_eq_false,cond_false,aF,H.j3 this.1 this.2,aF,hp.2,bne_self_eq_false,aF,cond_false,bR (by omega)]
  ·intro i x hx hp
   obtain ⟨rfl,hi⟩:=iH hx
   have:=H.id (x:=(i:Int)) (by omega) (by omega)
   unfold mB
   unfold Ac at hp
   rw [av (by omega),cond_true,H.p9 (by omega) (by omega),aF,H.js this.1 this.2,aF]
   by_cases e:gi c.aD (gi c.aH i)=i
   ·rw [e,bne_self_eq_false,cond_false,aF,H.j3 this.1 this.2,aF]
    have:(gi c.To (gi c.aH i) != (i:Int))=true:=by
     rw [e] at hp; simpa using hp
    rw [this]; rfl
   ·rw [show (gi c.aD (gi c.aH i) != (i:Int))=true by simp [e]]; rfl
  ·unfold mB
   rw [dM,aX (by omega),cond_false]
  rw [nj]
  unfold rb
  rw [hh]
  cases xz:(ns c.aH.length).all (Ac c) with
  | false=>rfl
  | true=>
   simp only [Bool.not_true,Bool.false_eq_true,if_false,Bool.true_and]
   refine (congrArg ak (jr (ns c.aD.length) (fun f=>!yD c f) (fun i=>(i:Int)) rfl ?_ ?_ (e:=(c.aD.length:Int)) (y:=false) ?_)).trans ?_
   rotate_left 2
   ·unfold pG
    rw [dM,aX (by omega),cond_false]
   ·rw [nj]
    cases (ns c.aD.length).all (yD c) <;> rfl
   all_goals
    intro i x hx hp
    obtain ⟨rfl,hi⟩:=iH hx
    have hK:=H.mm (f:=(i:Int)) (by omega) (by omega)
    have inner:(gr c.aB i).length=c.aD.length→ah (S:=Int) (ae 4 (ai (mC c i) (0:Int))) (fun zG=>(some (Out.norm (aj ((i:Int)+(1:Int)))))) =
      if (ns c.aD.length).any (fun g=>!vw c i g) then some (.ret false) else some (Out.norm (aj ((i:Int)+(1:Int)))):=by
     intro hr
     refine jr (ns c.aD.length) (fun g=>!vw c i g) (fun j=>(j:Int)) rfl ?_ ?_ (e:=(c.aD.length:Int)) (y:=false) ?_
     rotate_left 2
     ·unfold mC
      rw [dM,aX (by omega),cond_false]
     all_goals
      intro j y hy hq
      obtain ⟨rfl,hj⟩:=iH hy
      unfold mC
      rw [av (by omega),cond_true,hK,aF,cH (by omega) (by omega),aF,H.j3 (by omega) (by omega),aF,H.js (by omega) (by omega),aF]
      unfold vw gk at hq
      by_cases e:gi c.To i=gi c.aD j
      ·rw [if_pos e] at hq
       rw [show (gi c.To (i:Int) != gi c.aD (j:Int))=false by simp [e],cond_false]
       by_cases l0:gi (gr c.aB i) j < 0
       ·rw [aX (show ¬ 0≤gi (gr c.aB i) j by omega)] at hq
        rw [av l0,cond_true,aF,cond_true]
        all_goals (first | rfl | simp at hq)
       ·rw [av (show 0≤gi (gr c.aB i) j by omega)] at hq
        rw [aX l0,cond_false]
        by_cases l1:gi (gr c.aB i) j < c.aD.length
        ·rw [av l1] at hq
         rw [aX (show ¬ gi (gr c.aB i) j ≥ c.aD.length by omega),cond_false,H.js (by omega) l1,aF,H.js (by omega) (by omega),aF]
         by_cases q1:gi c.aD (gi (gr c.aB i) j)=gi c.aD i
         ·rw [show (gi c.aD (gi (gr c.aB (i:Int)) (j:Int)) == gi c.aD (i:Int))=true by simp [q1]] at hq
          rw [show (gi c.aD (gi (gr c.aB (i:Int)) (j:Int)) != gi c.aD (i:Int))=false by simp [q1],cond_false,H.j3 (by omega) l1,aF,H.j3 (by omega) (by omega),aF,aF]
          simp only [Bool.and_self,Bool.true_and] at hq
          rw [show (gi c.To (gi (gr c.aB (i:Int)) (j:Int)) != gi c.To (j:Int)) = !(gi c.To (gi (gr c.aB (i:Int)) (j:Int)) == gi c.To (j:Int)) from rfl,hq]
          all_goals (first | rfl | rw [cond_false,bR (by omega)])
         ·rw [show (gi c.aD (gi (gr c.aB (i:Int)) (j:Int)) == gi c.aD (i:Int))=false by simp [q1]] at hq
          rw [show (gi c.aD (gi (gr c.aB (i:Int)) (j:Int)) != gi c.aD (i:Int))=true by simp [q1],cond_true]
          all_goals (first | rfl | simp at hq)
        ·rw [aX l1] at hq
         rw [av (show gi (gr c.aB i) j ≥ c.aD.length by omega),cond_true]
         all_goals (first | rfl | simp at hq)
      ·rw [if_neg e] at hq
       rw [show (gi c.To (i:Int) != gi c.aD (j:Int))=true by simp [e],cond_true,show (gi (gr c.aB (i:Int)) (j:Int) != -1) = !(gi (gr c.aB (i:Int)) (j:Int) == -1) from rfl,hq]
       all_goals (first | rfl | rw [cond_false,bR (by omega)])
    unfold pG
    rw [av (by omega),cond_true,hK,aF]
    unfold yD at hp
    by_cases hr:(gr c.aB i).length=c.aD.length
    ·rw [show (((gr c.aB (i:Int)).length:Int) != (c.aD.length:Int))=false by simp [hr],cond_false,inner hr,nj]
     rw [show ((gr c.aB (i:Int)).length == c.aD.length)=true by simp [hr],Bool.true_and] at hp
     rw [hp,bR (by omega)]
     rfl
    ·rw [show (((gr c.aB (i:Int)).length:Int) != (c.aD.length:Int))=true by (simp; omega),cond_true]
     all_goals (rw [show ((gr c.aB (i:Int)).length == c.aD.length)=false by simp [hr],Bool.false_and] at hp; first | rfl | simp at hp)
end Go.Proofs.YtgjbmjjihmfppaaGreat
namespace Go.Proofs.YtgjbmjjihmfppaaGreat
open Go Go.Li
set_option linter.unusedSectionVars false
theorem Ja {c:aG} (H:Head c) {f:Int} (h0:0≤f) (h1:f < c.aD.length):iA c f=some (sK.mk (gi c.aD f) (gi c.To f)):=by
 unfold iA
 rw [H.js h0 h1,aF,H.j3 h0 h1,aF]; rfl
theorem Oy {c:aG} (hs:gv c):iG c=some (rb c):=by
 obtain ⟨z1,z2,z3,z4,z5⟩:=hs
 unfold iG dW
 rw [show ak (S:=Unit) (some (Out.ret (c.aD.length:Int)))=some (c.aD.length:Int) from rfl,aF,CR,aF]
 have e1:((c.aB.length:Int) != (c.aD.length:Int)) = !(c.aB.length == c.aD.length):=by
  by_cases e:c.aB.length=c.aD.length
  ·simp [e]
  ·rw [show (c.aB.length == c.aD.length)=false by simp [e]]; simp; omega
 have e1':((c.To.length:Int) != (c.aD.length:Int)) = !(c.To.length == c.aD.length):=by
  by_cases e:c.To.length=c.aD.length
  ·simp [e]
  ·rw [show (c.To.length == c.aD.length)=false by simp [e]]; simp; omega
 have e2:decide ((c.aD.length:Int) > 40) = !decide (c.aD.length≤40):=by
  by_cases e:c.aD.length≤40
  ·rw [av e,aX (by omega)]; rfl
  ·rw [aX e,av (by omega)]; rfl
 have e3:((c.aH.length:Int) != c.aA) = !((c.aH.length:Int) == c.aA):=rfl
 rw [e1,e1',e2,e3,within c.aH _ (by omega) (by omega) (by omega)]
 cases hh:wA c with
 | false=>
  have:rb c=false:=by unfold rb; rw [hh]; rfl
  rw [this]
  unfold wA at hh
  cases ha:(decide (0≤c.aA) && decide (c.aA≤8)) with
  | false=>rfl
  | true=>
   rw [ha] at hh
   simp only [Bool.and_eq_true,decide_eq_true_eq] at ha
   rw [within c.aD _ (by omega) ha.1 (by omega),within c.To _ (by omega) ha.1 (by omega)]
   generalize decide (c.aD.length≤40)=a2 at *
   generalize qh c.aA c.aD=a3 at *
   generalize (c.To.length == c.aD.length)=a4 at *
   generalize qh c.aA c.To=a5 at *
   generalize (c.aB.length == c.aD.length)=a6 at *
   generalize ((c.aH.length:Int) == c.aA)=a7 at *
   generalize qh (c.aD.length:Int) c.aH=a8 at *
   cases a2 <;> first | rfl | (cases a4 <;> first | rfl | (cases a3 <;> first | rfl | (cases a5 <;> first | rfl | (cases a7 <;> first | rfl | (cases a8 <;> first | rfl | (cases a6 <;> first | rfl | (cases hh)))))))
 | true=>
  have H:=Fw hh
  have I9:=hh
  unfold wA at I9
  simp only [Bool.and_eq_true] at I9
  obtain ⟨⟨⟨b1,Ke⟩,b2,b3⟩,⟨b4,b5⟩,b6,b7,b8⟩:=I9
  rw [within c.aD _ (by omega) H.o0 (by have:=H.o8; omega),within c.To _ (by omega) H.o0 (by have:=H.o8; omega)]
  rw [b1,Ke,b2,b3,b4,b5,b6,b8,b7]
  simp only [Bool.and_self,Bool.not_true,cond_false,aF]
  have hm:=H.m
  have tZ:=H.il
  have C6:=H.kl
  refine (congrArg ak (jr (ns c.aH.length) (fun x=>!Ac c x) (fun i=>(i:Int)) rfl ?_ ?_ (e:=(c.aH.length:Int)) (y:=false) ?_)).trans ?_
  ·intro i x hx hp
   obtain ⟨rfl,hi⟩:=iH hx
   have:=H.id (x:=(i:Int)) (by omega) (by omega)
   unfold fV
   unfold Ac at hp
   simp only [Bool.not_eq_false'] at hp
   rw [av (by omega),cond_true,H.p9 (by omega) (by omega),aF,Ja H this.1 this.2,aF]
   dsimp only
   rw [hp,Bool.not_true,cond_false,bR (by omega)]
  ·intro i x hx hp
   obtain ⟨rfl,hi⟩:=iH hx
   have:=H.id (x:=(i:Int)) (by omega) (by omega)
   unfold fV
   unfold Ac at hp
   rw [av (by omega),cond_true,H.p9 (by omega) (by omega),aF,Ja H this.1 this.2,aF]
   dsimp only
   rw [hp,cond_true]
  ·unfold fV
   rw [dM,aX (by omega),cond_false]
  rw [nj]
  unfold rb
  rw [hh]
  cases xz:(ns c.aH.length).all (Ac c) with
  | false=>rfl
  | true=>
   simp only [Bool.not_true,Bool.false_eq_true,if_false,Bool.true_and]
   refine (congrArg ak (jr (ns c.aD.length) (fun f=>!yD c f) (fun i=>(i:Int)) rfl ?_ ?_ (e:=(c.aD.length:Int)) (y:=false) ?_)).trans ?_
   rotate_left 2
   ·unfold jK
    rw [dM,aX (by omega),cond_false]
   ·rw [nj]
    cases (ns c.aD.length).all (yD c) <;> rfl
   all_goals
    intro i x hx hp
    obtain ⟨rfl,hi⟩:=iH hx
    have hK:=H.mm (f:=(i:Int)) (by omega) (by omega)
    have inner:(gr c.aB i).length=c.aD.length→ah (S:=Int) (ae 4 (ai (fW c (c.aD.length:Int) i (gr c.aB i)) (0:Int))) (fun zG=>(some (Out.norm (aj ((i:Int)+(1:Int)))))) =
      if (ns c.aD.length).any (fun g=>!vw c i g) then some (.ret false) else some (Out.norm (aj ((i:Int)+(1:Int)))):=by
     intro hr
     refine jr (ns c.aD.length) (fun g=>!vw c i g) (fun j=>(j:Int)) rfl ?_ ?_ (e:=(c.aD.length:Int)) (y:=false) ?_
     rotate_left 2
     ·unfold fW
      rw [dM,aX (by omega),cond_false]
     all_goals
      intro j y hy hq
      obtain ⟨rfl,hj⟩:=iH hy
      unfold fW
      rw [av (by omega),cond_true,cH (by omega) (by omega),aF,H.j3 (by omega) (by omega),aF,H.js (by omega) (by omega),aF,dV (a:=(c.aD.length:Int) - 1) (by omega) (by omega),CR,aF]
      unfold vw gk at hq
      by_cases e:gi c.To i=gi c.aD j
      ·rw [if_pos e] at hq
       rw [show (gi c.To (i:Int) != gi c.aD (j:Int))=false by simp [e],cond_false]
       by_cases l0:0≤gi (gr c.aB i) j∧gi (gr c.aB i) j < c.aD.length
       ·rw [av l0.1,av l0.2] at hq
        rw [av l0.1,av (show gi (gr c.aB i) j≤(c.aD.length:Int) - 1 by omega)]
        simp only [Bool.and_self,Bool.not_true,cond_false,Bool.true_and] at hq ⊢
        rw [Ja H l0.1 l0.2,aF,H.js (by omega) (by omega),aF,H.j3 (by omega) (by omega),aF,aF]
        dsimp only
        rw [hq]
        all_goals (first | rfl | rw [cond_false,bR (by omega)])
       ·have l1:(decide (0≤gi (gr c.aB i) j) && decide (gi (gr c.aB i) j < c.aD.length))=false:=by
         rcases Classical.not_and_iff_not_or_not.1 l0 with h | h
         ·rw [aX h]; rfl
         ·rw [aX h,Bool.and_false]
        have l2:(decide (0≤gi (gr c.aB i) j) && decide (gi (gr c.aB i) j≤(c.aD.length:Int) - 1))=false:=by
         rcases Classical.not_and_iff_not_or_not.1 l0 with h | h
         ·rw [aX h]; rfl
         ·rw [aX (show ¬ gi (gr c.aB i) j≤(c.aD.length:Int) - 1 by omega),Bool.and_false]
        rw [l1] at hq
        rw [l2]
        all_goals (first | rfl | simp at hq)
      ·rw [if_neg e] at hq
       rw [show (gi c.To (i:Int) != gi c.aD (j:Int))=true by simp [e],cond_true,show (gi (gr c.aB (i:Int)) (j:Int) != -1) = !(gi (gr c.aB (i:Int)) (j:Int) == -1) from rfl,hq]
       all_goals (first | rfl | rw [cond_false,bR (by omega)])
    unfold jK
    rw [av (by omega),cond_true,hK,aF]
    unfold yD at hp
    by_cases hr:(gr c.aB i).length=c.aD.length
    ·rw [show (((gr c.aB (i:Int)).length:Int) != (c.aD.length:Int))=false by simp [hr],cond_false,inner hr,nj]
     rw [show ((gr c.aB (i:Int)).length == c.aD.length)=true by simp [hr],Bool.true_and] at hp
     rw [hp,bR (by omega)]
     rfl
    ·rw [show (((gr c.aB (i:Int)).length:Int) != (c.aD.length:Int))=true by (simp; omega),cond_true]
     all_goals (rw [show ((gr c.aB (i:Int)).length == c.aD.length)=false by simp [hr],Bool.false_and] at hp; first | rfl | simp at hp)
end Go.Proofs.YtgjbmjjihmfppaaGreat
namespace Go.Proofs.YtgjbmjjihmfppaaGreat
open Go Go.Li
structure rG (c:aG):Prop extends Head c where
 vx:∀ x:Int,0≤x→x < c.aA→gi c.aD (gi c.aH x)=x
 wZ:∀ x:Int,0≤x→x < c.aA→gi c.To (gi c.aH x)=x
 row:∀ f:Int,0≤f→f < c.aD.length→(gr c.aB f).length=c.aD.length
 cell:∀ f g:Int,0≤f→f < c.aD.length→0≤g→g < c.aD.length→gi c.To f=gi c.aD g→
  0≤gk c.aB f g∧gk c.aB f g < c.aD.length∧gi c.aD (gk c.aB f g)=gi c.aD f∧gi c.To (gk c.aB f g)=gi c.To g
 none:∀ f g:Int,0≤f→f < c.aD.length→0≤g→g < c.aD.length→gi c.To f≠gi c.aD g→gk c.aB f g = -1
theorem DM {c:aG} (h:rb c=true):rG c:=by
 unfold rb at h
 simp only [Bool.and_eq_true,List.all_eq_true] at h
 obtain ⟨h1,h2,h3⟩:=h
 have H:=Fw h1
 have tZ:=H.il
 have xz:∀ x,0≤x→x < c.aA→Ac c x=true:=fun x a b=>h2 x (ca.2 ⟨a,by omega⟩)
 have bg:∀ f,0≤f→f < (c.aD.length:Int)→yD c f=true:=fun f a b=>h3 f (ca.2 ⟨a,b⟩)
 have ko:∀ f g,0≤f→f < (c.aD.length:Int)→0≤g→g < (c.aD.length:Int)→vw c f g=true:=fun f g a b a' b'=>by
  have:=bg f a b
  unfold yD at this
  simp only [Bool.and_eq_true,List.all_eq_true] at this
  exact this.2 g (ca.2 ⟨a',b'⟩)
 refine { H with
  vx:=fun x a b=>?_
  wZ:=fun x a b=>?_
  row:=fun f a b=>?_
  cell:=fun f g a b a' b' e=>?_
  none:=fun f g a b a' b' e=>?_ }
 ·have:=xz x a b; unfold Ac at this; simp at this; exact this.1
 ·have:=xz x a b; unfold Ac at this; simp at this; exact this.2
 ·have:=bg f a b; unfold yD at this; simp only [Bool.and_eq_true,beq_iff_eq] at this; exact this.1
 ·have:=ko f g a b a' b'; unfold vw at this; rw [if_pos e] at this; simp only [Bool.and_eq_true,decide_eq_true_eq,beq_iff_eq] at this; exact ⟨this.1.1,this.1.2,this.2.1,this.2.2⟩
 ·have:=ko f g a b a' b'; unfold vw at this; rw [if_neg e] at this; simpa using this
namespace rG
variable {c:aG} (h:rG c)
include h
theorem l8 {f g:Int} (h0:0≤f) (h1:f < c.aD.length) (h2:0≤g) (h3:g < c.aD.length):idx (gr c.aB f) g=some (gk c.aB f g):=cH h2 (by rw [h.row f h0 h1]; exact h3)
theorem r8 {f g:Int} (h0:0≤f) (h1:f < c.aD.length) (h2:0≤g) (h3:g < c.aD.length):dJ c f g=some (gk c.aB f g):=by
 unfold dJ; rw [h.mm h0 h1,aF,h.l8 h0 h1 h2 h3,aF]; rfl
theorem thenS {f g:Int} (h0:0≤f) (h1:f < c.aD.length) (h2:0≤g) (h3:g < c.aD.length):lB c f g=some (gk c.aB f g):=by
 unfold lB; rw [h.mm h0 h1,aF,h.l8 h0 h1 h2 h3,aF]; rfl
end rG
def vy (c:aG) (f:Int):Bool:=gk c.aB (gi c.aH (gi c.aD f)) f == f && gk c.aB f (gi c.aH (gi c.To f)) == f
def xl (c:aG) (f g h:Int):Bool:=gi c.To g == gi c.aD h && gk c.aB (gk c.aB f g) h != gk c.aB f (gk c.aB g h)
def Ck (c:aG) (f g:Int):Bool:=gi c.To f == gi c.aD g && (ns c.aD.length).any (xl c f g)
def Fx (c:aG) (f:Int):Bool:=(ns c.aD.length).any (Ck c f)
def A6 (c:aG):Bool:=(ns c.aD.length).all (vy c) && !((ns c.aD.length).any (Fx c))
theorem KT {c:aG} {k1 k2 k4 k6:Nat} {L0:Int→Option (Out Int (Int×Int×Int×Int))} {L1:Int→Option (Out Int (Int×Int×Int×Int))} {L2:Int→Int→Option (Out Int (Int×Int×Int×Int))} {L3:Int→Int→Int→Option (Out Int (Int×Int×Int×Int))} {z:Int×Int×Int×Int} (hz:z.1=0)
  (a0:∀ i:Nat,i < c.aD.length→vy c i=true→L0 i=some (.norm ((i+1:Nat):Int)))
  (a1:∀ i:Nat,i < c.aD.length→vy c i=false→∃ y,L0 i=some (.ret y)∧y.1≠0)
  (a2:L0 c.aD.length=some (.exit k1 c.aD.length))
  (b0:∀ i:Nat,i < c.aD.length→L1 i=ah (ae k4 (ai (L2 i) 0)) fun _=>some (.norm ((i+1:Nat):Int)))
  (b2:L1 c.aD.length=some (.exit k2 c.aD.length))
  (d0:∀ i j:Nat,i < c.aD.length→j < c.aD.length→gi c.To i≠gi c.aD j→L2 i j=some (.norm ((j+1:Nat):Int)))
  (d1:∀ i j:Nat,i < c.aD.length→j < c.aD.length→gi c.To i=gi c.aD j→L2 i j=ah (ae k6 (ai (L3 i j) 0)) fun _=>some (.norm ((j+1:Nat):Int)))
  (d2:∀ i:Nat,L2 i c.aD.length=some (.exit k4 c.aD.length))
  (e0:∀ i j h:Nat,i < c.aD.length→j < c.aD.length→h < c.aD.length→gi c.To i=gi c.aD j→xl c i j h=false→L3 i j h=some (.norm ((h+1:Nat):Int)))
  (e1:∀ i j h:Nat,i < c.aD.length→j < c.aD.length→h < c.aD.length→gi c.To i=gi c.aD j→xl c i j h=true→∃ y,L3 i j h=some (.ret y)∧y.1≠0)
  (e2:∀ i j:Nat,L3 i j c.aD.length=some (.exit k6 c.aD.length)) :
  ∃ y,ak (S:=Unit) (ah (ae k1 (ai L0 0)) fun _=>ah (ae k2 (ai L1 0)) fun _=>some (.ret z))=some y∧(y.1 == 0)=A6 c:=by
 have in3:∀ i j:Nat,i < c.aD.length→j < c.aD.length→gi c.To i=gi c.aD j→
   ((ns c.aD.length).any (xl c i j)=true∧∃ y,ah (S:=Int) (ae k6 (ai (L3 i j) 0)) (fun _=>some (.norm ((j+1:Nat):Int)))=some (.ret y)∧y.1≠0)∨
   ((ns c.aD.length).any (xl c i j)=false∧ah (S:=Int) (ae k6 (ai (L3 i j) 0)) (fun _=>some (.norm ((j+1:Nat):Int)))=some (.norm ((j+1:Nat):Int))):=by
  intro i j hi hj he
  refine yC (ns c.aD.length) (xl c i j) (fun y:Int×Int×Int×Int=>y.1≠0) (fun h=>(h:Int)) rfl ?_ ?_ (e:=(c.aD.length:Int)) (by rw [dM]; exact e2 i j)
  ·intro h x hx hp; obtain ⟨rfl,hh⟩:=iH hx; exact e0 i j h hi hj hh he hp
  ·intro h x hx hp; obtain ⟨rfl,hh⟩:=iH hx; exact e1 i j h hi hj hh he hp
 have in2:∀ i:Nat,i < c.aD.length→
   ((ns c.aD.length).any (Ck c i)=true∧∃ y,ah (S:=Int) (ae k4 (ai (L2 i) 0)) (fun _=>some (.norm ((i+1:Nat):Int)))=some (.ret y)∧y.1≠0)∨
   ((ns c.aD.length).any (Ck c i)=false∧ah (S:=Int) (ae k4 (ai (L2 i) 0)) (fun _=>some (.norm ((i+1:Nat):Int)))=some (.norm ((i+1:Nat):Int))):=by
  intro i hi
  refine yC (ns c.aD.length) (Ck c i) (fun y:Int×Int×Int×Int=>y.1≠0) (fun h=>(h:Int)) rfl ?_ ?_ (e:=(c.aD.length:Int)) (by rw [dM]; exact d2 i)
  ·intro j x hx hp
   obtain ⟨rfl,hj⟩:=iH hx
   by_cases he:gi c.To i=gi c.aD j
   ·rw [d1 i j hi hj he]
    rcases in3 i j hi hj he with ⟨h1,_⟩ | ⟨_,h2⟩
    ·unfold Ck at hp; rw [h1] at hp; simp [he] at hp
    ·exact h2
   ·exact d0 i j hi hj he
  ·intro j x hx hp
   obtain ⟨rfl,hj⟩:=iH hx
   unfold Ck at hp
   simp only [Bool.and_eq_true,beq_iff_eq] at hp
   rw [d1 i j hi hj hp.1]
   rcases in3 i j hi hj hp.1 with ⟨_,h⟩ | ⟨h1,_⟩
   ·exact h
   ·rw [hp.2] at h1; cases h1
 rcases yC (s0:=(0:Int)) (S:=Unit) (R:=Int×Int×Int×Int) (k:=k1) (body:=L0) (f:=fun _=>ah (ae k2 (ai L1 0)) fun _=>some (.ret z)) (ns c.aD.length) (fun i=>!vy c i) (fun y:Int×Int×Int×Int=>y.1≠0) (fun i=>(i:Int)) rfl
   (fun i x hx hp=>by obtain ⟨rfl,hi⟩:=iH hx; exact a0 i hi (by simpa using hp)) (fun i x hx hp=>by obtain ⟨rfl,hi⟩:=iH hx; exact a1 i hi (by simpa using hp)) (e:=(c.aD.length:Int)) (by rw [dM]; exact a2) with ⟨h1,y,h2,h3⟩ | ⟨h1,h2⟩
 ·refine ⟨y,by rw [h2]; rfl,?_⟩
  unfold A6
  rw [nj] at h1
  simp only [Bool.not_eq_true'] at h1
  rw [h1]
  simpa using h3
 ·rw [nj] at h1
  simp only [Bool.not_eq_false'] at h1
  rw [h2]
  rcases yC (s0:=(0:Int)) (S:=Unit) (R:=Int×Int×Int×Int) (k:=k2) (body:=L1) (f:=fun _=>some (.ret z)) (ns c.aD.length) (Fx c) (fun y:Int×Int×Int×Int=>y.1≠0) (fun i=>(i:Int)) rfl
   (fun i x hx hp=>by
    obtain ⟨rfl,hi⟩:=iH hx
    rw [b0 i hi]
    rcases in2 i hi with ⟨q1,_⟩ | ⟨_,q2⟩
    ·unfold Fx at hp; rw [q1] at hp; cases hp
    ·exact q2)
   (fun i x hx hp=>by
    obtain ⟨rfl,hi⟩:=iH hx
    rw [b0 i hi]
    rcases in2 i hi with ⟨_,q⟩ | ⟨q1,_⟩
    ·exact q
    ·unfold Fx at hp; rw [q1] at hp; cases hp) (e:=(c.aD.length:Int)) (by rw [dM]; exact b2) with ⟨g1,y,g2,g3⟩ | ⟨g1,g2⟩
  ·refine ⟨y,by rw [g2]; rfl,?_⟩
   unfold A6
   rw [h1,g1]
   simpa using g3
  ·refine ⟨z,by rw [g2]; rfl,?_⟩
   unfold A6
   rw [h1,g1,hz]
   rfl
section
variable {c:aG} (H:rG c)
include H
theorem Oz:∃ y,nU c=some y∧(y.1 == 0)=A6 c:=by
 have hm:=H.m
 have tZ:=H.il
 have u0:∀ i:Nat,i < c.aD.length→lH c i=if vy c i then some (Out.norm ((i+1:Nat):Int)) else some (Out.ret ((1:Int),(i:Int),(0:Int),(0:Int))):=by
  intro i hi
  have f1:=H.fr (f:=(i:Int)) (by omega) (by omega)
  have t1:=H.to (f:=(i:Int)) (by omega) (by omega)
  have i1:=H.id f1.1 f1.2
  have i2:=H.id t1.1 t1.2
  unfold lH
  rw [av (by omega),cond_true,H.js (by omega) (by omega),aF,H.p9 f1.1 f1.2,aF,H.mm i1.1 i1.2,aF,H.l8 i1.1 i1.2 (by omega) (by omega),aF]
  rw [H.mm (by omega) (by omega),aF,H.j3 (by omega) (by omega),aF,H.p9 t1.1 t1.2,aF,H.l8 (by omega) (by omega) i2.1 i2.2,aF]
  unfold vy
  by_cases e1:gk c.aB (gi c.aH (gi c.aD i)) i=i
  ·by_cases e2:gk c.aB i (gi c.aH (gi c.To i))=i
   ·simp [e1,e2,bR (show i < 9223372036854775807 by omega)]
   ·simp [e1,e2,vv e2]
  ·simp [e1,vv e1]
 unfold nU
 refine KT (c:=c) (z:=(0,0,0,0)) rfl (L2:=jJ c) (L3:=jI c) (k4:=4) (k6:=6) ?_ ?_ ?_ ?_ ?_ ?_ ?_ ?_ ?_ ?_ ?_
 ·intro i hi hp; rw [u0 i hi,hp]; rfl
 ·intro i hi hp; rw [u0 i hi,hp]; exact ⟨_,rfl,by simp⟩
 ·unfold lH; rw [aX (by omega),cond_false]
 ·intro i hi; unfold oI; rw [av (by omega),cond_true,bR (by omega)]
 ·unfold oI; rw [aX (by omega),cond_false]
 ·intro i j hi hj he
  unfold jJ
  rw [av (by omega),cond_true,H.j3 (by omega) (by omega),aF,H.js (by omega) (by omega),aF,show (gi c.To (i:Int) != gi c.aD (j:Int))=true by simp [he],cond_true,bR (by omega)]
 ·intro i j hi hj he
  unfold jJ
  rw [av (by omega),cond_true,H.j3 (by omega) (by omega),aF,H.js (by omega) (by omega),aF,show (gi c.To (i:Int) != gi c.aD (j:Int))=false by simp [he],cond_false,bR (by omega)]
 ·intro i; unfold jJ; rw [aX (by omega),cond_false]
 ·intro i j h hi hj hh he hp
  unfold jI
  rw [av (by omega),cond_true,H.j3 (by omega) (by omega),aF,H.js (by omega) (by omega),aF]
  unfold xl at hp
  by_cases e:gi c.To j=gi c.aD h
  ·have c1:=H.cell i j (by omega) (by omega) (by omega) (by omega) he
   have c2:=H.cell j h (by omega) (by omega) (by omega) (by omega) e
   rw [show (gi c.To (j:Int) == gi c.aD (h:Int))=true by simp [e]] at hp ⊢
   rw [cond_true,H.mm (by omega) (by omega),aF,H.l8 (by omega) (by omega) (by omega) (by omega),aF,H.mm c1.1 c1.2.1,aF,H.l8 c1.1 c1.2.1 (by omega) (by omega),aF,aF,H.mm (by omega) (by omega),aF,H.l8 (by omega) (by omega) (by omega) (by omega),aF,H.l8 (by omega) (by omega) c2.1 c2.2.1,aF]
   rw [Bool.true_and] at hp
   rw [hp,aF,cond_false,bR (by omega)]
  ·rw [show (gi c.To (j:Int) == gi c.aD (h:Int))=false by simp [e],cond_false,aF,cond_false,bR (by omega)]
 ·intro i j h hi hj hh he hp
  unfold jI
  rw [av (by omega),cond_true,H.j3 (by omega) (by omega),aF,H.js (by omega) (by omega),aF]
  unfold xl at hp
  simp only [Bool.and_eq_true] at hp
  have e:gi c.To j=gi c.aD h:=by simpa using hp.1
  have c1:=H.cell i j (by omega) (by omega) (by omega) (by omega) he
  have c2:=H.cell j h (by omega) (by omega) (by omega) (by omega) e
  rw [hp.1,cond_true,H.mm (by omega) (by omega),aF,H.l8 (by omega) (by omega) (by omega) (by omega),aF,H.mm c1.1 c1.2.1,aF,H.l8 c1.1 c1.2.1 (by omega) (by omega),aF,aF,H.mm (by omega) (by omega),aF,H.l8 (by omega) (by omega) (by omega) (by omega),aF,H.l8 (by omega) (by omega) c2.1 c2.2.1,aF]
  rw [hp.2,aF,cond_true]
  exact ⟨_,rfl,by simp⟩
 ·intro i j; unfold jI; rw [aX (by omega),cond_false]
theorem OA:∃ y,jN c=some y∧(y.1 == 0)=A6 c:=by
 have hm:=H.m
 have tZ:=H.il
 have u0:∀ i:Nat,i < c.aD.length→gY c c.aD.length i=if vy c i then some (Out.norm ((i+1:Nat):Int)) else some (Out.ret ((1:Int),(i:Int),(0:Int),(0:Int))):=by
  intro i hi
  have f1:=H.fr (f:=(i:Int)) (by omega) (by omega)
  have t1:=H.to (f:=(i:Int)) (by omega) (by omega)
  have i1:=H.id f1.1 f1.2
  have i2:=H.id t1.1 t1.2
  unfold gY
  rw [av (by omega),cond_true,H.js (by omega) (by omega),aF,H.p9 f1.1 f1.2,aF,H.r8 i1.1 i1.2 (by omega) (by omega),aF]
  rw [H.j3 (by omega) (by omega),aF,H.p9 t1.1 t1.2,aF,H.r8 (by omega) (by omega) i2.1 i2.2,aF]
  unfold vy
  by_cases e1:gk c.aB (gi c.aH (gi c.aD i)) i=i
  ·by_cases e2:gk c.aB i (gi c.aH (gi c.To i))=i
   ·simp [e1,e2,bR (show i < 9223372036854775807 by omega)]
   ·simp [e1,e2,vv e2]
  ·simp [e1,vv e1]
 have pos:∀ i j:Nat,i < c.aD.length→j < c.aD.length→(gi c.To i=gi c.aD j→0≤gk c.aB i j)∧(gi c.To i≠gi c.aD j→gk c.aB i j < 0):=by
  intro i j hi hj
  refine ⟨fun e=>(H.cell i j (by omega) (by omega) (by omega) (by omega) e).1,fun e=>?_⟩
  rw [H.none i j (by omega) (by omega) (by omega) (by omega) e]; decide
 unfold jN dW
 rw [show ak (S:=Unit) (some (Out.ret (c.aD.length:Int)))=some (c.aD.length:Int) from rfl,aF]
 refine KT (c:=c) (z:=(0,0,0,0)) rfl (L2:=fG c c.aD.length) (L3:=fF c c.aD.length) (k4:=4) (k6:=6) ?_ ?_ ?_ ?_ ?_ ?_ ?_ ?_ ?_ ?_ ?_
 ·intro i hi hp; rw [u0 i hi,hp]; rfl
 ·intro i hi hp; rw [u0 i hi,hp]; exact ⟨_,rfl,by simp⟩
 ·unfold gY; rw [aX (by omega),cond_false]
 ·intro i hi; unfold kH; rw [av (by omega),cond_true,bR (by omega)]
 ·unfold kH; rw [aX (by omega),cond_false]
 ·intro i j hi hj he
  unfold fG
  rw [av (by omega),cond_true,H.r8 (by omega) (by omega) (by omega) (by omega),aF,av ((pos i j hi hj).2 he),cond_true,bR (by omega)]
 ·intro i j hi hj he
  have:=(pos i j hi hj).1 he
  unfold fG
  rw [av (by omega),cond_true,H.r8 (by omega) (by omega) (by omega) (by omega),aF,aX (by omega),cond_false,bR (by omega)]
 ·intro i; unfold fG; rw [aX (by omega),cond_false]
 ·intro i j h hi hj hh he hp
  unfold fF
  rw [av (by omega),cond_true,H.r8 (by omega) (by omega) (by omega) (by omega),aF]
  unfold xl at hp
  by_cases e:gi c.To j=gi c.aD h
  ·have c1:=H.cell i j (by omega) (by omega) (by omega) (by omega) he
   have c2:=H.cell j h (by omega) (by omega) (by omega) (by omega) e
   rw [show (gi c.To (j:Int) == gi c.aD (h:Int))=true by simp [e],Bool.true_and] at hp
   rw [av (show gk c.aB j h ≥ 0 from c2.1),cond_true,H.r8 (by omega) (by omega) (by omega) (by omega),aF,H.r8 c1.1 c1.2.1 (by omega) (by omega),aF,aF,H.r8 (by omega) (by omega) c2.1 c2.2.1,aF,hp,aF,cond_false,bR (by omega)]
  ·have:=(pos j h hj hh).2 e
   rw [aX (show ¬ gk c.aB j h ≥ 0 by omega),cond_false,aF,cond_false,bR (by omega)]
 ·intro i j h hi hj hh he hp
  unfold fF
  unfold xl at hp
  simp only [Bool.and_eq_true] at hp
  have e:gi c.To j=gi c.aD h:=by simpa using hp.1
  have c1:=H.cell i j (by omega) (by omega) (by omega) (by omega) he
  have c2:=H.cell j h (by omega) (by omega) (by omega) (by omega) e
  rw [av (by omega),cond_true,H.r8 (by omega) (by omega) (by omega) (by omega),aF,av (show gk c.aB j h ≥ 0 from c2.1),cond_true,H.r8 (by omega) (by omega) (by omega) (by omega),aF,H.r8 c1.1 c1.2.1 (by omega) (by omega),aF,aF,H.r8 (by omega) (by omega) c2.1 c2.2.1,aF,hp.2,aF,cond_true]
  exact ⟨_,rfl,by simp⟩
 ·intro i j; unfold fF; rw [aX (by omega),cond_false]
end
structure nm (c:aG):Prop extends rG c where
 A7:∀ f:Int,0≤f→f < c.aD.length→gk c.aB (gi c.aH (gi c.aD f)) f=f
 EL:∀ f:Int,0≤f→f < c.aD.length→gk c.aB f (gi c.aH (gi c.To f))=f
 assoc:∀ f g h:Int,0≤f→f < c.aD.length→0≤g→g < c.aD.length→0≤h→h < c.aD.length→gi c.To f=gi c.aD g→gi c.To g=gi c.aD h→
  gk c.aB (gk c.aB f g) h=gk c.aB f (gk c.aB g h)
def qa (c:aG):Bool:=rb c && A6 c
theorem yE {c:aG} (h:qa c=true):nm c:=by
 unfold qa at h
 simp only [Bool.and_eq_true] at h
 obtain ⟨h1,h2⟩:=h
 have H:=DM h1
 unfold A6 at h2
 simp only [Bool.and_eq_true,List.all_eq_true,Bool.not_eq_true',List.any_eq_false] at h2
 obtain ⟨h2,h3⟩:=h2
 refine { H with
  A7:=fun f a b=>?_
  EL:=fun f a b=>?_
  assoc:=fun f g h a b a' b' a'' b'' e1 e2=>?_ }
 ·have:=h2 f (ca.2 ⟨a,b⟩); unfold vy at this; simp at this; exact this.1
 ·have:=h2 f (ca.2 ⟨a,b⟩); unfold vy at this; simp at this; exact this.2
 ·have:=h3 f (ca.2 ⟨a,b⟩)
  unfold Fx at this
  simp only [List.any_eq_true,not_exists,not_and] at this
  have:=this g (ca.2 ⟨a',b'⟩)
  unfold Ck at this
  simp only [Bool.and_eq_true,beq_iff_eq,List.any_eq_true,not_and,not_exists] at this
  have:=this e1 h (ca.2 ⟨a'',b''⟩)
  unfold xl at this
  simpa [e2] using this
theorem OB {c:aG} (hs:gv c):pI c=some (qa c):=by
 unfold pI
 rw [Ox hs,aF]
 unfold qa
 cases h:rb c with
 | false=>rfl
 | true=>
  obtain ⟨y,h1,h2⟩:=Oz (DM h)
  rw [Bool.not_true,cond_false,h1,aF,h2]; rfl
theorem OC {c:aG} (hs:gv c):fX c=some (qa c):=by
 unfold fX
 rw [Oy hs,aF]
 unfold qa
 cases h:rb c with
 | false=>rfl
 | true=>
  obtain ⟨y,h1,h2⟩:=OA (DM h)
  rw [Bool.not_true,cond_false,h1,aF,h2]; rfl
end Go.Proofs.YtgjbmjjihmfppaaGreat
