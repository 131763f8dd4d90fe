/- Is a table a category: the reference and the program agree, and what is known of a category. No condition beside those that each theorem names. -/
import Derived.Test.YtkcpiblgpnjanaaGreatPa
namespace Go.Li
open Go
section
variable {S S1 R α:Type} {body:S1→Option (Out S1 R)}
theorem tL {k:Nat} {f:S1→Option (Out S R)} {s0 e:S1} (l:List α) (p:α→Bool) (G:R→Prop) (st:Nat→S1) (h0:st 0=s0) (step:∀ i x,l[i]? = some x→p x=false→body (st i)=some (.norm (st (i+1))))
  (Nj:∀ i x,l[i]? = some x→p x=true→∃ y,body (st i)=some (.ret y)∧G y) (last:body (st l.length)=some (.exit k e)) :
  (l.any p=true∧∃ y,ah (ae k (ai body s0)) f=some (.ret y)∧G y)∨(l.any p=false∧ah (ae k (ai body s0)) f=f e):=by
 have key:∀ (m:List α) (i:Nat),l.drop i=m→i≤l.length→(m.any p=true∧∃ y,ai body (st i)=some (.ret y)∧G y)∨(m.any p=false∧ai body (st i)=some (.exit k e)):=by
  intro m
  induction m with
  | nil=>
   intro i hd hi
   have:i=l.length:=by have:=congrArg List.length hd; simp at this; omega
   subst this
   exact .inr ⟨rfl,j8 last⟩
  | cons x m ih=>
   intro i hd hi
   have bc:i < l.length:=by
    rcases Nat.lt_or_ge i l.length with h | h
    ·exact h
    ·rw [List.drop_eq_nil_of_le h] at hd; cases hd
   have hx:l[i]? = some x:=by
    rw [List.drop_eq_getElem_cons bc] at hd
    rw [List.getElem?_eq_getElem bc]; exact congrArg some (List.cons.inj hd).1
   have gp:l.drop (i+1)=m:=by
    rw [List.drop_eq_getElem_cons bc] at hd; exact (List.cons.inj hd).2
   cases hp:p x with
   | true=>
    obtain ⟨y,hy,hg⟩:=Nj i x hx hp
    exact .inl ⟨by simp [hp],y,BE hy,hg⟩
   | false=>
    rw [mh,step i x hx hp]
    simpa [hp] using ih (i+1) gp bc
 rcases key l 0 rfl (Nat.zero_le _) with ⟨h1,y,h2,h3⟩ | ⟨h1,h2⟩
 ·rw [h0] at h2; exact .inl ⟨h1,y,BF h2,h3⟩
 ·rw [h0] at h2; exact .inr ⟨h1,tc h2⟩
theorem Nn {n i x:Nat} (h:(List.range n)[i]? = some x):x=i∧i < n:=by
 have hi:=b9 h
 rw [List.getElem?_eq_getElem hi] at h
 simp at h hi
 exact ⟨h.symm,hi⟩
end
def gi (l:List Int) (j:Int):Int:=l.getD j.toNat 0
def gr (l:List (List Int)) (j:Int):List Int:=l.getD j.toNat []
def gk (l:List (List Int)) (i j:Int):Int:=gi (gr l i) j
theorem cT {l:List Int} {j:Int} (h0:0≤j) (h1:j < l.length):idx l j=some (gi l j):=by
 rw [BG h0 h1]; unfold gi; rw [List.getD_eq_getElem?_getD,List.getElem?_eq_getElem (by omega)]; rfl
theorem rT {l:List (List Int)} {j:Int} (h0:0≤j) (h1:j < l.length):idx l j=some (gr l j):=by
 rw [BG h0 h1]; unfold gr; rw [List.getD_eq_getElem?_getD,List.getElem?_eq_getElem (by omega)]; rfl
theorem er {l:List Int} {j:Int} (h0:0≤j) (h1:j < l.length):gi l j∈l:=by
 unfold gi; rw [List.getD_eq_getElem?_getD,List.getElem?_eq_getElem (by omega)]; exact List.getElem_mem _
theorem qx {l:List (List Int)} {j:Int} (h0:0≤j) (h1:j < l.length):gr l j∈l:=by
 unfold gr; rw [List.getD_eq_getElem?_getD,List.getElem?_eq_getElem (by omega)]; exact List.getElem_mem _
def ns (n:Nat):List Int:=(List.range n).map Int.ofNat
theorem fh {n i:Nat} {x:Int} (h:(ns n)[i]? = some x):x=(i:Int)∧i < n:=by
 unfold ns at h
 rw [List.getElem?_map] at h
 cases hr:(List.range n)[i]? with
 | none=>rw [hr] at h; cases h
 | some y=>
  rw [hr] at h
  obtain ⟨rfl,hi⟩:=Nn hr
  exact ⟨(Option.some.inj h).symm,hi⟩
theorem dQ (n:Nat):(ns n).length=n:=by simp [ns]
theorem da {n:Nat} {x:Int}:x∈ns n↔0≤x∧x < n:=by
 unfold ns
 simp only [List.mem_map,List.mem_range]
 constructor
 ·rintro ⟨a,h1,rfl⟩; simp; omega
 ·rintro ⟨h1,h2⟩; exact ⟨x.toNat,by omega,by simp; omega⟩
end Go.Li
namespace Go.Proofs.YtkcpiblgpnjanaaGreat
open Go Go.Li
def p9 (n:Int) (f:List Int):Bool:=f.all fun y=>decide (0≤y) && decide (y < n)
theorem sk {n:Int} {f:List Int}:p9 n f=true↔∀ y∈f,0≤y∧y < n:=by simp [p9]
theorem pr {α:Type} (l:List α) (p:α→Bool):l.any (fun x=>!p x) = !l.all p:=by
 induction l with
 | nil=>rfl
 | cons a l ih=>simp only [List.any_cons,List.all_cons,ih,Bool.not_and]
theorem Ce (n:Int) (f:List Int) (hf:f.length≤1048576000):kP n f=some (p9 n f):=by
 unfold kP
 refine (congrArg ao (kh f (fun y=>!(decide (0≤y) && decide (y < n))) (fun i=>(i:Int)) rfl ?_ ?_ (e:=(f.length:Int)) (y:=false) ?_)).trans ?_
 ·intro i x hx hp
  have hi:=b9 hx
  unfold mU
  simp only [Bool.not_eq_false',Bool.and_eq_true,decide_eq_true_eq] at hp
  rw [aX (by omega),cond_true,ca,hx,aH,bn (by omega),cond_false,aH,bn (by omega),aH,cond_false,cA (by omega)]
 ·intro i x hx hp
  have hi:=b9 hx
  unfold mU
  rw [aX (by omega),cond_true,ca,hx,aH,aH]
  by_cases h:x < 0
  ·rw [aX h,cond_true,aH,cond_true]
  ·have:n≤x:=by simp at hp; omega
   rw [bn h,cond_false,aX (by omega),aH,cond_true]
 ·unfold mU
  rw [bn (by omega),cond_false]
 ·rw [pr]
  show ao (if (!p9 n f)=true then _ else _)=_
  cases p9 n f <;> rfl
theorem Cf (n a b:Int):kY n a b=some (decide (a≤n) && decide (n≤b)):=by
 unfold kY
 by_cases h:a≤n
 ·rw [aX (show n ≥ a from h),cond_true]; rfl
 ·rw [bn (show ¬ n ≥ a from h),cond_false]; rfl
theorem V8 (n a b:Int):qA n a b=some (decide (a≤n) && decide (n≤b)):=by
 unfold qA
 by_cases h:a≤n
 ·rw [aX (show n ≥ a from h),cond_true]; rfl
 ·rw [bn (show ¬ n ≥ a from h),cond_false]; rfl
theorem within (f:List Int) (n:Int) (hf:f.length≤1048576000) (hn:0≤n) (Jp:n≤1048576000):iS f n=some (p9 n f):=by
 unfold iS
 refine (congrArg ao (kh f (fun y=>!(decide (0≤y) && decide (y < n))) (fun i=>(i:Int)) rfl ?_ ?_ (e:=(f.length:Int)) (y:=false) ?_)).trans ?_
 ·intro i x hx hp
  have hi:=b9 hx
  unfold mW
  simp only [Bool.not_eq_false',Bool.and_eq_true,decide_eq_true_eq] at hp
  rw [aX (by omega),cond_true,ca,hx,aH,eA (by omega) (by omega),Cf,aH,aX hp.1,aX (by omega)]
  simp only [Bool.and_self,Bool.not_true,cond_false]
  rw [cA (by omega)]
 ·intro i x hx hp
  have hi:=b9 hx
  unfold mW
  rw [aX (by omega),cond_true,ca,hx,aH,eA (by omega) (by omega),Cf,aH]
  have:(decide (0≤x) && decide (x≤n - 1))=false:=by
   by_cases h:x < 0
   ·rw [bn (by omega)]; rfl
   ·have:n≤x:=by simp at hp; omega
    rw [bn (show ¬ x≤n - 1 by omega),Bool.and_false]
  rw [this]; rfl
 ·unfold mW
  rw [bn (by omega),cond_false]
 ·rw [pr]
  show ao (if (!p9 n f)=true then _ else _)=_
  cases p9 n f <;> rfl
def wM (c:aI):Bool:=((decide (0≤c.aC) && decide (c.aC≤8)) && (decide (c.aG.length≤40) && p9 c.aC c.aG)) && (((c.To.length == c.aG.length) && p9 c.aC c.To) && ((c.aF.length == c.aG.length) && (((c.aJ.length:Int) == c.aC) && p9 c.aG.length c.aJ)))
def AI (c:aI) (x:Int):Bool:=gi c.aG (gi c.aJ x) == x && gi c.To (gi c.aJ x) == x
def vA (c:aI) (f g:Int):Bool:=
 if gi c.To f=gi c.aG g then (decide (0≤gk c.aF f g) && decide (gk c.aF f g < c.aG.length)) && (gi c.aG (gk c.aF f g) == gi c.aG f && gi c.To (gk c.aF f g) == gi c.To g)
 else gk c.aF f g == -1
def yy (c:aI) (f:Int):Bool:=((gr c.aF f).length == c.aG.length) && (ns c.aG.length).all fun g=>vA c f g
def rU (c:aI):Bool:=wM c && ((ns c.aJ.length).all (AI c) && (ns c.aG.length).all (yy c))
structure Head (c:aI):Prop where
 o0:0≤c.aC
 o8:c.aC≤8
 m:c.aG.length≤40
 f:∀ x∈c.aG,0≤x∧x < c.aC
 tl:c.To.length=c.aG.length
 t:∀ x∈c.To,0≤x∧x < c.aC
 kl:c.aF.length=c.aG.length
 il:(c.aJ.length:Int)=c.aC
 i:∀ x∈c.aJ,0≤x∧x < c.aG.length
theorem EB {c:aI} (h:wM c=true):Head c:=by
 unfold wM at h
 simp only [Bool.and_eq_true,decide_eq_true_eq,sk,beq_iff_eq] at h
 obtain ⟨⟨⟨h1,h2⟩,h3,h4⟩,⟨h5,h6⟩,h7,h8,h9⟩:=h
 exact ⟨h1,h2,h3,h4,h5,h6,h7,h8,h9⟩
set_option linter.unusedSectionVars false
namespace Head
variable {c:aI} (h:Head c)
include h
theorem fr {f:Int} (h0:0≤f) (h1:f < c.aG.length):0≤gi c.aG f∧gi c.aG f < c.aC:=h.f _ (er h0 h1)
theorem to {f:Int} (h0:0≤f) (h1:f < c.aG.length):0≤gi c.To f∧gi c.To f < c.aC:=h.t _ (er h0 (by rw [h.tl]; exact h1))
theorem id {x:Int} (h0:0≤x) (h1:x < c.aC):0≤gi c.aJ x∧gi c.aJ x < c.aG.length:=h.i _ (er h0 (by rw [h.il]; exact h1))
theorem iz {f:Int} (h0:0≤f) (h1:f < c.aG.length):idx c.aG f=some (gi c.aG f):=cT h0 h1
theorem jc {f:Int} (h0:0≤f) (h1:f < c.aG.length):idx c.To f=some (gi c.To f):=cT h0 (by rw [h.tl]; exact h1)
theorem ot {x:Int} (h0:0≤x) (h1:x < c.aC):idx c.aJ x=some (gi c.aJ x):=cT h0 (by rw [h.il]; exact h1)
theorem nj {f:Int} (h0:0≤f) (h1:f < c.aG.length):idx c.aF f=some (gr c.aF f):=rT h0 (by rw [h.kl]; exact h1)
end Head
theorem No {c:aI} (hs:gj c):oQ c=some (rU c):=by
 obtain ⟨z1,z2,z3,z4,z5⟩:=hs
 have ends:∀ (l:List Int) (n:Nat) (o:Int),l.length≤1048576→mJ l (n:Int) o=some ((l.length == n) && p9 o l):=by
  intro l n o hl
  unfold mJ
  by_cases e:l.length=n
  ·rw [show ((l.length:Int) == (n:Int))=true by simp [e],cond_true,Ce _ _ (by omega),show (l.length == n)=true by simp [e]]; rfl
  ·rw [show ((l.length:Int) == (n:Int))=false by simp; omega,cond_false,show (l.length == n)=false by simp [e]]; rfl
 unfold oQ
 rw [V8,aH,ends _ _ _ z1,ends _ _ _ z2]
 have e1:((c.aF.length:Int) != (c.aG.length:Int)) = !(c.aF.length == c.aG.length):=by
  by_cases e:c.aF.length=c.aG.length
  ·simp [e]
  ·rw [show (c.aF.length == c.aG.length)=false by simp [e]]; simp; omega
 have e2:decide ((c.aG.length:Int) > 40) = !decide (c.aG.length≤40):=by
  by_cases e:c.aG.length≤40
  ·rw [aX e,bn (by omega)]; rfl
  ·rw [bn e,aX (by omega)]; rfl
 rw [e1,e2,Ce _ _ (by omega)]
 cases hh:wM c with
 | false=>
  have:rU c=false:=by unfold rU; rw [hh]; rfl
  rw [this]
  unfold wM at hh
  generalize (decide (0≤c.aC) && decide (c.aC≤8))=a1 at *
  generalize decide (c.aG.length≤40)=a2 at *
  generalize p9 c.aC c.aG=a3 at *
  generalize (c.To.length == c.aG.length)=a4 at *
  generalize p9 c.aC c.To=a5 at *
  generalize (c.aF.length == c.aG.length)=a6 at *
  have e3:((c.aJ.length:Int) != c.aC) = !((c.aJ.length:Int) == c.aC):=rfl
  rw [e3]
  generalize ((c.aJ.length:Int) == c.aC)=a7 at *
  generalize p9 (c.aG.length:Int) c.aJ=a8 at *
  simp only [beq_self_eq_true,Bool.true_and]
  cases a1 <;> first | rfl | (cases a2 <;> first | rfl | (cases a3 <;> first | rfl | (cases a4 <;> first | rfl | (cases a5 <;> first | rfl | (cases a6 <;> first | rfl | (cases a7 <;> first | rfl | (cases a8 <;> first | rfl | (cases hh))))))))
 | true=>
  have H:=EB hh
  have HI:=hh
  unfold wM at HI
  simp only [Bool.and_eq_true] at HI
  obtain ⟨⟨⟨b1,IT⟩,b2,b3⟩,⟨b4,b5⟩,b6,b7,b8⟩:=HI
  rw [b1,IT,b2,b3,b4,b5,b6,b8,show ((c.aJ.length:Int) != c.aC) = !((c.aJ.length:Int) == c.aC) from rfl,b7]
  simp only [beq_self_eq_true,Bool.and_self,Bool.not_true,cond_false,aH]
  have hm:=H.m
  have tB:=H.il
  refine (congrArg ao (kh (ns c.aJ.length) (fun x=>!AI c x) (fun i=>(i:Int)) rfl ?_ ?_ (e:=(c.aJ.length:Int)) (y:=false) ?_)).trans ?_
  ·intro i x hx hp
   obtain ⟨rfl,hi⟩:=fh hx
   have:=H.id (x:=(i:Int)) (by omega) (by omega)
   unfold lW
   unfold AI at hp
   simp only [Bool.not_eq_false',Bool.and_eq_true,beq_iff_eq] at hp
   rw [aX (by omega),cond_true,H.ot (by omega) (by omega),aH,H.iz this.1 this.2,aH,hp.1,bne_self_eq_false,cond_false,aH,H.jc this.1 this.2,aH,hp.2,bne_self_eq_false,aH,cond_false,cA (by omega)]
  ·intro i x hx hp
   obtain ⟨rfl,hi⟩:=fh hx
   have:=H.id (x:=(i:Int)) (by omega) (by omega)
   unfold lW
   unfold AI at hp
   rw [aX (by omega),cond_true,H.ot (by omega) (by omega),aH,H.iz this.1 this.2,aH]
   by_cases e:gi c.aG (gi c.aJ i)=i
   ·rw [e,bne_self_eq_false,cond_false,aH,H.jc this.1 this.2,aH]
    have:(gi c.To (gi c.aJ i) != (i:Int))=true:=by
     rw [e] at hp; simpa using hp
    rw [this]; rfl
   ·rw [show (gi c.aG (gi c.aJ i) != (i:Int))=true by simp [e]]; rfl
  ·unfold lW
   rw [dQ,bn (by omega),cond_false]
  rw [pr]
  unfold rU
  rw [hh]
  cases wz:(ns c.aJ.length).all (AI c) with
  | false=>rfl
  | true=>
   simp only [Bool.not_true,Bool.false_eq_true,if_false,Bool.true_and]
   refine (congrArg ao (kh (ns c.aG.length) (fun f=>!yy c f) (fun i=>(i:Int)) rfl ?_ ?_ (e:=(c.aG.length:Int)) (y:=false) ?_)).trans ?_
   rotate_left 2
   ·unfold oP
    rw [dQ,bn (by omega),cond_false]
   ·rw [pr]
    cases (ns c.aG.length).all (yy c) <;> rfl
   all_goals
    intro i x hx hp
    obtain ⟨rfl,hi⟩:=fh hx
    have hK:=H.nj (f:=(i:Int)) (by omega) (by omega)
    have inner:(gr c.aF i).length=c.aG.length→ah (S:=Int) (ae 4 (ai (lX c i) (0:Int))) (fun yx=>(some (Out.norm (aj ((i:Int)+(1:Int)))))) =
      if (ns c.aG.length).any (fun g=>!vA c i g) then some (.ret false) else some (Out.norm (aj ((i:Int)+(1:Int)))):=by
     intro hr
     refine kh (ns c.aG.length) (fun g=>!vA c i g) (fun j=>(j:Int)) rfl ?_ ?_ (e:=(c.aG.length:Int)) (y:=false) ?_
     rotate_left 2
     ·unfold lX
      rw [dQ,bn (by omega),cond_false]
     all_goals
      intro j y hy hq
      obtain ⟨rfl,hj⟩:=fh hy
      unfold lX
      rw [aX (by omega),cond_true,hK,aH,cT (by omega) (by omega),aH,H.jc (by omega) (by omega),aH,H.iz (by omega) (by omega),aH]
      unfold vA gk at hq
      by_cases e:gi c.To i=gi c.aG j
      ·rw [if_pos e] at hq
       rw [show (gi c.To (i:Int) != gi c.aG (j:Int))=false by simp [e],cond_false]
       by_cases l0:gi (gr c.aF i) j < 0
       ·rw [bn (show ¬ 0≤gi (gr c.aF i) j by omega)] at hq
        rw [aX l0,cond_true,aH,cond_true]
        all_goals (first | rfl | simp at hq)
       ·rw [aX (show 0≤gi (gr c.aF i) j by omega)] at hq
        rw [bn l0,cond_false]
        by_cases l1:gi (gr c.aF i) j < c.aG.length
        ·rw [aX l1] at hq
         rw [bn (show ¬ gi (gr c.aF i) j ≥ c.aG.length by omega),cond_false,H.iz (by omega) l1,aH,H.iz (by omega) (by omega),aH]
         by_cases q1:gi c.aG (gi (gr c.aF i) j)=gi c.aG i
         ·rw [show (gi c.aG (gi (gr c.aF (i:Int)) (j:Int)) == gi c.aG (i:Int))=true by simp [q1]] at hq
          rw [show (gi c.aG (gi (gr c.aF (i:Int)) (j:Int)) != gi c.aG (i:Int))=false by simp [q1],cond_false,H.jc (by omega) l1,aH,H.jc (by omega) (by omega),aH,aH]
          simp only [Bool.and_self,Bool.true_and] at hq
          rw [show (gi c.To (gi (gr c.aF (i:Int)) (j:Int)) != gi c.To (j:Int)) = !(gi c.To (gi (gr c.aF (i:Int)) (j:Int)) == gi c.To (j:Int)) from rfl,hq]
          all_goals (first | rfl | rw [cond_false,cA (by omega)])
         ·rw [show (gi c.aG (gi (gr c.aF (i:Int)) (j:Int)) == gi c.aG (i:Int))=false by simp [q1]] at hq
          rw [show (gi c.aG (gi (gr c.aF (i:Int)) (j:Int)) != gi c.aG (i:Int))=true by simp [q1],cond_true]
          all_goals (first | rfl | simp at hq)
        ·rw [bn l1] at hq
         rw [aX (show gi (gr c.aF i) j ≥ c.aG.length by omega),cond_true]
         all_goals (first | rfl | simp at hq)
      ·rw [if_neg e] at hq
       rw [show (gi c.To (i:Int) != gi c.aG (j:Int))=true by simp [e],cond_true,show (gi (gr c.aF (i:Int)) (j:Int) != -1) = !(gi (gr c.aF (i:Int)) (j:Int) == -1) from rfl,hq]
       all_goals (first | rfl | rw [cond_false,cA (by omega)])
    unfold oP
    rw [aX (by omega),cond_true,hK,aH]
    unfold yy at hp
    by_cases hr:(gr c.aF i).length=c.aG.length
    ·rw [show (((gr c.aF (i:Int)).length:Int) != (c.aG.length:Int))=false by simp [hr],cond_false,inner hr,pr]
     rw [show ((gr c.aF (i:Int)).length == c.aG.length)=true by simp [hr],Bool.true_and] at hp
     rw [hp,cA (by omega)]
     rfl
    ·rw [show (((gr c.aF (i:Int)).length:Int) != (c.aG.length:Int))=true by (simp; omega),cond_true]
     all_goals (rw [show ((gr c.aF (i:Int)).length == c.aG.length)=false by simp [hr],Bool.false_and] at hp; first | rfl | simp at hp)
end Go.Proofs.YtkcpiblgpnjanaaGreat
namespace Go.Proofs.YtkcpiblgpnjanaaGreat
open Go Go.Li
set_option linter.unusedSectionVars false
theorem HJ {c:aI} (H:Head c) {f:Int} (h0:0≤f) (h1:f < c.aG.length):eX c f=some (rH.mk (gi c.aG f) (gi c.To f)):=by
 unfold eX
 rw [H.iz h0 h1,aH,H.jc h0 h1,aH]; rfl
theorem Np {c:aI} (hs:gj c):jE c=some (rU c):=by
 obtain ⟨z1,z2,z3,z4,z5⟩:=hs
 unfold jE dY
 rw [show ao (S:=Unit) (some (Out.ret (c.aG.length:Int)))=some (c.aG.length:Int) from rfl,aH,Cf,aH]
 have e1:((c.aF.length:Int) != (c.aG.length:Int)) = !(c.aF.length == c.aG.length):=by
  by_cases e:c.aF.length=c.aG.length
  ·simp [e]
  ·rw [show (c.aF.length == c.aG.length)=false by simp [e]]; simp; omega
 have e1':((c.To.length:Int) != (c.aG.length:Int)) = !(c.To.length == c.aG.length):=by
  by_cases e:c.To.length=c.aG.length
  ·simp [e]
  ·rw [show (c.To.length == c.aG.length)=false by simp [e]]; simp; omega
 have e2:decide ((c.aG.length:Int) > 40) = !decide (c.aG.length≤40):=by
  by_cases e:c.aG.length≤40
  ·rw [aX e,bn (by omega)]; rfl
  ·rw [bn e,aX (by omega)]; rfl
 have e3:((c.aJ.length:Int) != c.aC) = !((c.aJ.length:Int) == c.aC):=rfl
 rw [e1,e1',e2,e3,within c.aJ _ (by omega) (by omega) (by omega)]
 cases hh:wM c with
 | false=>
  have:rU c=false:=by unfold rU; rw [hh]; rfl
  rw [this]
  unfold wM at hh
  cases ha:(decide (0≤c.aC) && decide (c.aC≤8)) with
  | false=>rfl
  | true=>
   rw [ha] at hh
   simp only [Bool.and_eq_true,decide_eq_true_eq] at ha
   rw [within c.aG _ (by omega) ha.1 (by omega),within c.To _ (by omega) ha.1 (by omega)]
   generalize decide (c.aG.length≤40)=a2 at *
   generalize p9 c.aC c.aG=a3 at *
   generalize (c.To.length == c.aG.length)=a4 at *
   generalize p9 c.aC c.To=a5 at *
   generalize (c.aF.length == c.aG.length)=a6 at *
   generalize ((c.aJ.length:Int) == c.aC)=a7 at *
   generalize p9 (c.aG.length:Int) c.aJ=a8 at *
   cases a2 <;> first | rfl | (cases a4 <;> first | rfl | (cases a3 <;> first | rfl | (cases a5 <;> first | rfl | (cases a7 <;> first | rfl | (cases a8 <;> first | rfl | (cases a6 <;> first | rfl | (cases hh)))))))
 | true=>
  have H:=EB hh
  have HI:=hh
  unfold wM at HI
  simp only [Bool.and_eq_true] at HI
  obtain ⟨⟨⟨b1,IT⟩,b2,b3⟩,⟨b4,b5⟩,b6,b7,b8⟩:=HI
  rw [within c.aG _ (by omega) H.o0 (by have:=H.o8; omega),within c.To _ (by omega) H.o0 (by have:=H.o8; omega)]
  rw [b1,IT,b2,b3,b4,b5,b6,b8,b7]
  simp only [Bool.and_self,Bool.not_true,cond_false,aH]
  have hm:=H.m
  have tB:=H.il
  have Cp:=H.kl
  refine (congrArg ao (kh (ns c.aJ.length) (fun x=>!AI c x) (fun i=>(i:Int)) rfl ?_ ?_ (e:=(c.aJ.length:Int)) (y:=false) ?_)).trans ?_
  ·intro i x hx hp
   obtain ⟨rfl,hi⟩:=fh hx
   have:=H.id (x:=(i:Int)) (by omega) (by omega)
   unfold gT
   unfold AI at hp
   simp only [Bool.not_eq_false'] at hp
   rw [aX (by omega),cond_true,H.ot (by omega) (by omega),aH,HJ H this.1 this.2,aH]
   dsimp only
   rw [hp,Bool.not_true,cond_false,cA (by omega)]
  ·intro i x hx hp
   obtain ⟨rfl,hi⟩:=fh hx
   have:=H.id (x:=(i:Int)) (by omega) (by omega)
   unfold gT
   unfold AI at hp
   rw [aX (by omega),cond_true,H.ot (by omega) (by omega),aH,HJ H this.1 this.2,aH]
   dsimp only
   rw [hp,cond_true]
  ·unfold gT
   rw [dQ,bn (by omega),cond_false]
  rw [pr]
  unfold rU
  rw [hh]
  cases wz:(ns c.aJ.length).all (AI c) with
  | false=>rfl
  | true=>
   simp only [Bool.not_true,Bool.false_eq_true,if_false,Bool.true_and]
   refine (congrArg ao (kh (ns c.aG.length) (fun f=>!yy c f) (fun i=>(i:Int)) rfl ?_ ?_ (e:=(c.aG.length:Int)) (y:=false) ?_)).trans ?_
   rotate_left 2
   ·unfold kB
    rw [dQ,bn (by omega),cond_false]
   ·rw [pr]
    cases (ns c.aG.length).all (yy c) <;> rfl
   all_goals
    intro i x hx hp
    obtain ⟨rfl,hi⟩:=fh hx
    have hK:=H.nj (f:=(i:Int)) (by omega) (by omega)
    have inner:(gr c.aF i).length=c.aG.length→ah (S:=Int) (ae 4 (ai (gU c (c.aG.length:Int) i (gr c.aF i)) (0:Int))) (fun yx=>(some (Out.norm (aj ((i:Int)+(1:Int)))))) =
      if (ns c.aG.length).any (fun g=>!vA c i g) then some (.ret false) else some (Out.norm (aj ((i:Int)+(1:Int)))):=by
     intro hr
     refine kh (ns c.aG.length) (fun g=>!vA c i g) (fun j=>(j:Int)) rfl ?_ ?_ (e:=(c.aG.length:Int)) (y:=false) ?_
     rotate_left 2
     ·unfold gU
      rw [dQ,bn (by omega),cond_false]
     all_goals
      intro j y hy hq
      obtain ⟨rfl,hj⟩:=fh hy
      unfold gU
      rw [aX (by omega),cond_true,cT (by omega) (by omega),aH,H.jc (by omega) (by omega),aH,H.iz (by omega) (by omega),aH,eA (a:=(c.aG.length:Int) - 1) (by omega) (by omega),Cf,aH]
      unfold vA gk at hq
      by_cases e:gi c.To i=gi c.aG j
      ·rw [if_pos e] at hq
       rw [show (gi c.To (i:Int) != gi c.aG (j:Int))=false by simp [e],cond_false]
       by_cases l0:0≤gi (gr c.aF i) j∧gi (gr c.aF i) j < c.aG.length
       ·rw [aX l0.1,aX l0.2] at hq
        rw [aX l0.1,aX (show gi (gr c.aF i) j≤(c.aG.length:Int) - 1 by omega)]
        simp only [Bool.and_self,Bool.not_true,cond_false,Bool.true_and] at hq ⊢
        rw [HJ H l0.1 l0.2,aH,H.iz (by omega) (by omega),aH,H.jc (by omega) (by omega),aH,aH]
        dsimp only
        rw [hq]
        all_goals (first | rfl | rw [cond_false,cA (by omega)])
       ·have l1:(decide (0≤gi (gr c.aF i) j) && decide (gi (gr c.aF i) j < c.aG.length))=false:=by
         rcases Classical.not_and_iff_not_or_not.1 l0 with h | h
         ·rw [bn h]; rfl
         ·rw [bn h,Bool.and_false]
        have l2:(decide (0≤gi (gr c.aF i) j) && decide (gi (gr c.aF i) j≤(c.aG.length:Int) - 1))=false:=by
         rcases Classical.not_and_iff_not_or_not.1 l0 with h | h
         ·rw [bn h]; rfl
         ·rw [bn (show ¬ gi (gr c.aF i) j≤(c.aG.length:Int) - 1 by omega),Bool.and_false]
        rw [l1] at hq
        rw [l2]
        all_goals (first | rfl | simp at hq)
      ·rw [if_neg e] at hq
       rw [show (gi c.To (i:Int) != gi c.aG (j:Int))=true by simp [e],cond_true,show (gi (gr c.aF (i:Int)) (j:Int) != -1) = !(gi (gr c.aF (i:Int)) (j:Int) == -1) from rfl,hq]
       all_goals (first | rfl | rw [cond_false,cA (by omega)])
    unfold kB
    rw [aX (by omega),cond_true,hK,aH]
    unfold yy at hp
    by_cases hr:(gr c.aF i).length=c.aG.length
    ·rw [show (((gr c.aF (i:Int)).length:Int) != (c.aG.length:Int))=false by simp [hr],cond_false,inner hr,pr]
     rw [show ((gr c.aF (i:Int)).length == c.aG.length)=true by simp [hr],Bool.true_and] at hp
     rw [hp,cA (by omega)]
     rfl
    ·rw [show (((gr c.aF (i:Int)).length:Int) != (c.aG.length:Int))=true by (simp; omega),cond_true]
     all_goals (rw [show ((gr c.aF (i:Int)).length == c.aG.length)=false by simp [hr],Bool.false_and] at hp; first | rfl | simp at hp)
end Go.Proofs.YtkcpiblgpnjanaaGreat
namespace Go.Proofs.YtkcpiblgpnjanaaGreat
open Go Go.Li
structure qJ (c:aI):Prop extends Head c where
 xA:∀ x:Int,0≤x→x < c.aC→gi c.aG (gi c.aJ x)=x
 zb:∀ x:Int,0≤x→x < c.aC→gi c.To (gi c.aJ x)=x
 row:∀ f:Int,0≤f→f < c.aG.length→(gr c.aF f).length=c.aG.length
 cell:∀ f g:Int,0≤f→f < c.aG.length→0≤g→g < c.aG.length→gi c.To f=gi c.aG g→
  0≤gk c.aF f g∧gk c.aF f g < c.aG.length∧gi c.aG (gk c.aF f g)=gi c.aG f∧gi c.To (gk c.aF f g)=gi c.To g
 none:∀ f g:Int,0≤f→f < c.aG.length→0≤g→g < c.aG.length→gi c.To f≠gi c.aG g→gk c.aF f g = -1
theorem C0 {c:aI} (h:rU c=true):qJ c:=by
 unfold rU at h
 simp only [Bool.and_eq_true,List.all_eq_true] at h
 obtain ⟨h1,h2,h3⟩:=h
 have H:=EB h1
 have tB:=H.il
 have wz:∀ x,0≤x→x < c.aC→AI c x=true:=fun x a b=>h2 x (da.2 ⟨a,by omega⟩)
 have bh:∀ f,0≤f→f < (c.aG.length:Int)→yy c f=true:=fun f a b=>h3 f (da.2 ⟨a,b⟩)
 have ji:∀ f g,0≤f→f < (c.aG.length:Int)→0≤g→g < (c.aG.length:Int)→vA c f g=true:=fun f g a b a' b'=>by
  have:=bh f a b
  unfold yy at this
  simp only [Bool.and_eq_true,List.all_eq_true] at this
  exact this.2 g (da.2 ⟨a',b'⟩)
 refine { H with
  xA:=fun x a b=>?_
  zb:=fun x a b=>?_
  row:=fun f a b=>?_
  cell:=fun f g a b a' b' e=>?_
  none:=fun f g a b a' b' e=>?_ }
 ·have:=wz x a b; unfold AI at this; simp at this; exact this.1
 ·have:=wz x a b; unfold AI at this; simp at this; exact this.2
 ·have:=bh f a b; unfold yy at this; simp only [Bool.and_eq_true,beq_iff_eq] at this; exact this.1
 ·have:=ji f g a b a' b'; unfold vA at this; rw [if_pos e] at this; simp only [Bool.and_eq_true,decide_eq_true_eq,beq_iff_eq] at this; exact ⟨this.1.1,this.1.2,this.2.1,this.2.2⟩
 ·have:=ji f g a b a' b'; unfold vA at this; rw [if_neg e] at this; simpa using this
namespace qJ
variable {c:aI} (h:qJ c)
include h
theorem l9 {f g:Int} (h0:0≤f) (h1:f < c.aG.length) (h2:0≤g) (h3:g < c.aG.length):idx (gr c.aF f) g=some (gk c.aF f g):=cT h2 (by rw [h.row f h0 h1]; exact h3)
theorem qf {f g:Int} (h0:0≤f) (h1:f < c.aG.length) (h2:0≤g) (h3:g < c.aG.length):dJ c f g=some (gk c.aF f g):=by
 unfold dJ; rw [h.nj h0 h1,aH,h.l9 h0 h1 h2 h3,aH]; rfl
end qJ
def vB (c:aI) (f:Int):Bool:=gk c.aF (gi c.aJ (gi c.aG f)) f == f && gk c.aF f (gi c.aJ (gi c.To f)) == f
def xB (c:aI) (f g h:Int):Bool:=gi c.To g == gi c.aG h && gk c.aF (gk c.aF f g) h != gk c.aF f (gk c.aF g h)
def C1 (c:aI) (f g:Int):Bool:=gi c.To f == gi c.aG g && (ns c.aG.length).any (xB c f g)
def HK (c:aI) (f:Int):Bool:=(ns c.aG.length).any (C1 c f)
def BH (c:aI):Bool:=(ns c.aG.length).all (vB c) && !((ns c.aG.length).any (HK c))
theorem JD {c:aI} {k1 k2 k4 k6:Nat} {L0:Int→Option (Out Int (Int×Int×Int×Int))} {L1:Int→Option (Out Int (Int×Int×Int×Int))} {L2:Int→Int→Option (Out Int (Int×Int×Int×Int))} {L3:Int→Int→Int→Option (Out Int (Int×Int×Int×Int))} {z:Int×Int×Int×Int} (hz:z.1=0)
  (a0:∀ i:Nat,i < c.aG.length→vB c i=true→L0 i=some (.norm ((i+1:Nat):Int)))
  (a1:∀ i:Nat,i < c.aG.length→vB c i=false→∃ y,L0 i=some (.ret y)∧y.1≠0)
  (a2:L0 c.aG.length=some (.exit k1 c.aG.length))
  (b0:∀ i:Nat,i < c.aG.length→L1 i=ah (ae k4 (ai (L2 i) 0)) fun _=>some (.norm ((i+1:Nat):Int)))
  (b2:L1 c.aG.length=some (.exit k2 c.aG.length))
  (d0:∀ i j:Nat,i < c.aG.length→j < c.aG.length→gi c.To i≠gi c.aG j→L2 i j=some (.norm ((j+1:Nat):Int)))
  (d1:∀ i j:Nat,i < c.aG.length→j < c.aG.length→gi c.To i=gi c.aG j→L2 i j=ah (ae k6 (ai (L3 i j) 0)) fun _=>some (.norm ((j+1:Nat):Int)))
  (d2:∀ i:Nat,L2 i c.aG.length=some (.exit k4 c.aG.length))
  (e0:∀ i j h:Nat,i < c.aG.length→j < c.aG.length→h < c.aG.length→gi c.To i=gi c.aG j→xB c i j h=false→L3 i j h=some (.norm ((h+1:Nat):Int)))
  (e1:∀ i j h:Nat,i < c.aG.length→j < c.aG.length→h < c.aG.length→gi c.To i=gi c.aG j→xB c i j h=true→∃ y,L3 i j h=some (.ret y)∧y.1≠0)
  (e2:∀ i j:Nat,L3 i j c.aG.length=some (.exit k6 c.aG.length)) :
  ∃ y,ao (S:=Unit) (ah (ae k1 (ai L0 0)) fun _=>ah (ae k2 (ai L1 0)) fun _=>some (.ret z))=some y∧(y.1 == 0)=BH c:=by
 have Y3:∀ i j:Nat,i < c.aG.length→j < c.aG.length→gi c.To i=gi c.aG j→
   ((ns c.aG.length).any (xB c i j)=true∧∃ y,ah (S:=Int) (ae k6 (ai (L3 i j) 0)) (fun _=>some (.norm ((j+1:Nat):Int)))=some (.ret y)∧y.1≠0)∨
   ((ns c.aG.length).any (xB c i j)=false∧ah (S:=Int) (ae k6 (ai (L3 i j) 0)) (fun _=>some (.norm ((j+1:Nat):Int)))=some (.norm ((j+1:Nat):Int))):=by
  intro i j hi hj he
  refine tL (ns c.aG.length) (xB c i j) (fun y:Int×Int×Int×Int=>y.1≠0) (fun h=>(h:Int)) rfl ?_ ?_ (e:=(c.aG.length:Int)) (by rw [dQ]; exact e2 i j)
  ·intro h x hx hp; obtain ⟨rfl,hh⟩:=fh hx; exact e0 i j h hi hj hh he hp
  ·intro h x hx hp; obtain ⟨rfl,hh⟩:=fh hx; exact e1 i j h hi hj hh he hp
 have Y4:∀ i:Nat,i < c.aG.length→
   ((ns c.aG.length).any (C1 c i)=true∧∃ y,ah (S:=Int) (ae k4 (ai (L2 i) 0)) (fun _=>some (.norm ((i+1:Nat):Int)))=some (.ret y)∧y.1≠0)∨
   ((ns c.aG.length).any (C1 c i)=false∧ah (S:=Int) (ae k4 (ai (L2 i) 0)) (fun _=>some (.norm ((i+1:Nat):Int)))=some (.norm ((i+1:Nat):Int))):=by
  intro i hi
  refine tL (ns c.aG.length) (C1 c i) (fun y:Int×Int×Int×Int=>y.1≠0) (fun h=>(h:Int)) rfl ?_ ?_ (e:=(c.aG.length:Int)) (by rw [dQ]; exact d2 i)
  ·intro j x hx hp
   obtain ⟨rfl,hj⟩:=fh hx
   by_cases he:gi c.To i=gi c.aG j
   ·rw [d1 i j hi hj he]
    rcases Y3 i j hi hj he with ⟨h1,_⟩ | ⟨_,h2⟩
    ·unfold C1 at hp; rw [h1] at hp; simp [he] at hp
    ·exact h2
   ·exact d0 i j hi hj he
  ·intro j x hx hp
   obtain ⟨rfl,hj⟩:=fh hx
   unfold C1 at hp
   simp only [Bool.and_eq_true,beq_iff_eq] at hp
   rw [d1 i j hi hj hp.1]
   rcases Y3 i j hi hj hp.1 with ⟨_,h⟩ | ⟨h1,_⟩
   ·exact h
   ·rw [hp.2] at h1; cases h1
 rcases tL (s0:=(0:Int)) (S:=Unit) (R:=Int×Int×Int×Int) (k:=k1) (body:=L0) (f:=fun _=>ah (ae k2 (ai L1 0)) fun _=>some (.ret z)) (ns c.aG.length) (fun i=>!vB c i) (fun y:Int×Int×Int×Int=>y.1≠0) (fun i=>(i:Int)) rfl
   (fun i x hx hp=>by obtain ⟨rfl,hi⟩:=fh hx; exact a0 i hi (by simpa using hp)) (fun i x hx hp=>by obtain ⟨rfl,hi⟩:=fh hx; exact a1 i hi (by simpa using hp)) (e:=(c.aG.length:Int)) (by rw [dQ]; exact a2) with ⟨h1,y,h2,h3⟩ | ⟨h1,h2⟩
 ·refine ⟨y,by rw [h2]; rfl,?_⟩
  unfold BH
  rw [pr] at h1
  simp only [Bool.not_eq_true'] at h1
  rw [h1]
  simpa using h3
 ·rw [pr] at h1
  simp only [Bool.not_eq_false'] at h1
  rw [h2]
  rcases tL (s0:=(0:Int)) (S:=Unit) (R:=Int×Int×Int×Int) (k:=k2) (body:=L1) (f:=fun _=>some (.ret z)) (ns c.aG.length) (HK c) (fun y:Int×Int×Int×Int=>y.1≠0) (fun i=>(i:Int)) rfl
   (fun i x hx hp=>by
    obtain ⟨rfl,hi⟩:=fh hx
    rw [b0 i hi]
    rcases Y4 i hi with ⟨q1,_⟩ | ⟨_,q2⟩
    ·unfold HK at hp; rw [q1] at hp; cases hp
    ·exact q2)
   (fun i x hx hp=>by
    obtain ⟨rfl,hi⟩:=fh hx
    rw [b0 i hi]
    rcases Y4 i hi with ⟨_,q⟩ | ⟨q1,_⟩
    ·exact q
    ·unfold HK at hp; rw [q1] at hp; cases hp) (e:=(c.aG.length:Int)) (by rw [dQ]; exact b2) with ⟨g1,y,g2,g3⟩ | ⟨g1,g2⟩
  ·refine ⟨y,by rw [g2]; rfl,?_⟩
   unfold BH
   rw [h1,g1]
   simpa using g3
  ·refine ⟨z,by rw [g2]; rfl,?_⟩
   unfold BH
   rw [h1,g1,hz]
   rfl
section
variable {c:aI} (H:qJ c)
include H
theorem Nq:∃ y,nM c=some y∧(y.1 == 0)=BH c:=by
 have hm:=H.m
 have tB:=H.il
 have u0:∀ i:Nat,i < c.aG.length→lC c i=if vB c i then some (Out.norm ((i+1:Nat):Int)) else some (Out.ret ((1:Int),(i:Int),(0:Int),(0:Int))):=by
  intro i hi
  have f1:=H.fr (f:=(i:Int)) (by omega) (by omega)
  have t1:=H.to (f:=(i:Int)) (by omega) (by omega)
  have i1:=H.id f1.1 f1.2
  have i2:=H.id t1.1 t1.2
  unfold lC
  rw [aX (by omega),cond_true,H.iz (by omega) (by omega),aH,H.ot f1.1 f1.2,aH,H.nj i1.1 i1.2,aH,H.l9 i1.1 i1.2 (by omega) (by omega),aH]
  rw [H.nj (by omega) (by omega),aH,H.jc (by omega) (by omega),aH,H.ot t1.1 t1.2,aH,H.l9 (by omega) (by omega) i2.1 i2.2,aH]
  unfold vB
  by_cases e1:gk c.aF (gi c.aJ (gi c.aG i)) i=i
  ·by_cases e2:gk c.aF i (gi c.aJ (gi c.To i))=i
   ·simp [e1,e2,cA (show i < 9223372036854775807 by omega)]
   ·simp [e1,e2,rS e2]
  ·simp [e1,rS e1]
 unfold nM
 refine JD (c:=c) (z:=(0,0,0,0)) rfl (L2:=kA c) (L3:=jZ c) (k4:=4) (k6:=6) ?_ ?_ ?_ ?_ ?_ ?_ ?_ ?_ ?_ ?_ ?_
 ·intro i hi hp; rw [u0 i hi,hp]; rfl
 ·intro i hi hp; rw [u0 i hi,hp]; exact ⟨_,rfl,by simp⟩
 ·unfold lC; rw [bn (by omega),cond_false]
 ·intro i hi; unfold nX; rw [aX (by omega),cond_true,cA (by omega)]
 ·unfold nX; rw [bn (by omega),cond_false]
 ·intro i j hi hj he
  unfold kA
  rw [aX (by omega),cond_true,H.jc (by omega) (by omega),aH,H.iz (by omega) (by omega),aH,show (gi c.To (i:Int) != gi c.aG (j:Int))=true by simp [he],cond_true,cA (by omega)]
 ·intro i j hi hj he
  unfold kA
  rw [aX (by omega),cond_true,H.jc (by omega) (by omega),aH,H.iz (by omega) (by omega),aH,show (gi c.To (i:Int) != gi c.aG (j:Int))=false by simp [he],cond_false,cA (by omega)]
 ·intro i; unfold kA; rw [bn (by omega),cond_false]
 ·intro i j h hi hj hh he hp
  unfold jZ
  rw [aX (by omega),cond_true,H.jc (by omega) (by omega),aH,H.iz (by omega) (by omega),aH]
  unfold xB at hp
  by_cases e:gi c.To j=gi c.aG h
  ·have c1:=H.cell i j (by omega) (by omega) (by omega) (by omega) he
   have c2:=H.cell j h (by omega) (by omega) (by omega) (by omega) e
   rw [show (gi c.To (j:Int) == gi c.aG (h:Int))=true by simp [e]] at hp ⊢
   rw [cond_true,H.nj (by omega) (by omega),aH,H.l9 (by omega) (by omega) (by omega) (by omega),aH,H.nj c1.1 c1.2.1,aH,H.l9 c1.1 c1.2.1 (by omega) (by omega),aH,aH,H.nj (by omega) (by omega),aH,H.l9 (by omega) (by omega) (by omega) (by omega),aH,H.l9 (by omega) (by omega) c2.1 c2.2.1,aH]
   rw [Bool.true_and] at hp
   rw [hp,aH,cond_false,cA (by omega)]
  ·rw [show (gi c.To (j:Int) == gi c.aG (h:Int))=false by simp [e],cond_false,aH,cond_false,cA (by omega)]
 ·intro i j h hi hj hh he hp
  unfold jZ
  rw [aX (by omega),cond_true,H.jc (by omega) (by omega),aH,H.iz (by omega) (by omega),aH]
  unfold xB at hp
  simp only [Bool.and_eq_true] at hp
  have e:gi c.To j=gi c.aG h:=by simpa using hp.1
  have c1:=H.cell i j (by omega) (by omega) (by omega) (by omega) he
  have c2:=H.cell j h (by omega) (by omega) (by omega) (by omega) e
  rw [hp.1,cond_true,H.nj (by omega) (by omega),aH,H.l9 (by omega) (by omega) (by omega) (by omega),aH,H.nj c1.1 c1.2.1,aH,H.l9 c1.1 c1.2.1 (by omega) (by omega),aH,aH,H.nj (by omega) (by omega),aH,H.l9 (by omega) (by omega) (by omega) (by omega),aH,H.l9 (by omega) (by omega) c2.1 c2.2.1,aH]
  rw [hp.2,aH,cond_true]
  exact ⟨_,rfl,by simp⟩
 ·intro i j; unfold jZ; rw [bn (by omega),cond_false]
theorem Nr:∃ y,kD c=some y∧(y.1 == 0)=BH c:=by
 have hm:=H.m
 have tB:=H.il
 have u0:∀ i:Nat,i < c.aG.length→iU c c.aG.length i=if vB c i then some (Out.norm ((i+1:Nat):Int)) else some (Out.ret ((1:Int),(i:Int),(0:Int),(0:Int))):=by
  intro i hi
  have f1:=H.fr (f:=(i:Int)) (by omega) (by omega)
  have t1:=H.to (f:=(i:Int)) (by omega) (by omega)
  have i1:=H.id f1.1 f1.2
  have i2:=H.id t1.1 t1.2
  unfold iU
  rw [aX (by omega),cond_true,H.iz (by omega) (by omega),aH,H.ot f1.1 f1.2,aH,H.qf i1.1 i1.2 (by omega) (by omega),aH]
  rw [H.jc (by omega) (by omega),aH,H.ot t1.1 t1.2,aH,H.qf (by omega) (by omega) i2.1 i2.2,aH]
  unfold vB
  by_cases e1:gk c.aF (gi c.aJ (gi c.aG i)) i=i
  ·by_cases e2:gk c.aF i (gi c.aJ (gi c.To i))=i
   ·simp [e1,e2,cA (show i < 9223372036854775807 by omega)]
   ·simp [e1,e2,rS e2]
  ·simp [e1,rS e1]
 have pos:∀ i j:Nat,i < c.aG.length→j < c.aG.length→(gi c.To i=gi c.aG j→0≤gk c.aF i j)∧(gi c.To i≠gi c.aG j→gk c.aF i j < 0):=by
  intro i j hi hj
  refine ⟨fun e=>(H.cell i j (by omega) (by omega) (by omega) (by omega) e).1,fun e=>?_⟩
  rw [H.none i j (by omega) (by omega) (by omega) (by omega) e]; decide
 unfold kD dY
 rw [show ao (S:=Unit) (some (Out.ret (c.aG.length:Int)))=some (c.aG.length:Int) from rfl,aH]
 refine JD (c:=c) (z:=(0,0,0,0)) rfl (L2:=gD c c.aG.length) (L3:=gC c c.aG.length) (k4:=4) (k6:=6) ?_ ?_ ?_ ?_ ?_ ?_ ?_ ?_ ?_ ?_ ?_
 ·intro i hi hp; rw [u0 i hi,hp]; rfl
 ·intro i hi hp; rw [u0 i hi,hp]; exact ⟨_,rfl,by simp⟩
 ·unfold iU; rw [bn (by omega),cond_false]
 ·intro i hi; unfold kQ; rw [aX (by omega),cond_true,cA (by omega)]
 ·unfold kQ; rw [bn (by omega),cond_false]
 ·intro i j hi hj he
  unfold gD
  rw [aX (by omega),cond_true,H.qf (by omega) (by omega) (by omega) (by omega),aH,aX ((pos i j hi hj).2 he),cond_true,cA (by omega)]
 ·intro i j hi hj he
  have:=(pos i j hi hj).1 he
  unfold gD
  rw [aX (by omega),cond_true,H.qf (by omega) (by omega) (by omega) (by omega),aH,bn (by omega),cond_false,cA (by omega)]
 ·intro i; unfold gD; rw [bn (by omega),cond_false]
 ·intro i j h hi hj hh he hp
  unfold gC
  rw [aX (by omega),cond_true,H.qf (by omega) (by omega) (by omega) (by omega),aH]
  unfold xB at hp
  by_cases e:gi c.To j=gi c.aG h
  ·have c1:=H.cell i j (by omega) (by omega) (by omega) (by omega) he
   have c2:=H.cell j h (by omega) (by omega) (by omega) (by omega) e
   rw [show (gi c.To (j:Int) == gi c.aG (h:Int))=true by simp [e],Bool.true_and] at hp
   rw [aX (show gk c.aF j h ≥ 0 from c2.1),cond_true,H.qf (by omega) (by omega) (by omega) (by omega),aH,H.qf c1.1 c1.2.1 (by omega) (by omega),aH,aH,H.qf (by omega) (by omega) c2.1 c2.2.1,aH,hp,aH,cond_false,cA (by omega)]
  ·have:=(pos j h hj hh).2 e
   rw [bn (show ¬ gk c.aF j h ≥ 0 by omega),cond_false,aH,cond_false,cA (by omega)]
 ·intro i j h hi hj hh he hp
  unfold gC
  unfold xB at hp
  simp only [Bool.and_eq_true] at hp
  have e:gi c.To j=gi c.aG h:=by simpa using hp.1
  have c1:=H.cell i j (by omega) (by omega) (by omega) (by omega) he
  have c2:=H.cell j h (by omega) (by omega) (by omega) (by omega) e
  rw [aX (by omega),cond_true,H.qf (by omega) (by omega) (by omega) (by omega),aH,aX (show gk c.aF j h ≥ 0 from c2.1),cond_true,H.qf (by omega) (by omega) (by omega) (by omega),aH,H.qf c1.1 c1.2.1 (by omega) (by omega),aH,aH,H.qf (by omega) (by omega) c2.1 c2.2.1,aH,hp.2,aH,cond_true]
  exact ⟨_,rfl,by simp⟩
 ·intro i j; unfold gC; rw [bn (by omega),cond_false]
end
structure rN (c:aI):Prop extends qJ c where
 K5:∀ f:Int,0≤f→f < c.aG.length→gk c.aF (gi c.aJ (gi c.aG f)) f=f
 K6:∀ f:Int,0≤f→f < c.aG.length→gk c.aF f (gi c.aJ (gi c.To f))=f
 assoc:∀ f g h:Int,0≤f→f < c.aG.length→0≤g→g < c.aG.length→0≤h→h < c.aG.length→gi c.To f=gi c.aG g→gi c.To g=gi c.aG h→
  gk c.aF (gk c.aF f g) h=gk c.aF f (gk c.aF g h)
def sU (c:aI):Bool:=rU c && BH c
theorem zd {c:aI} (h:sU c=true):rN c:=by
 unfold sU at h
 simp only [Bool.and_eq_true] at h
 obtain ⟨h1,h2⟩:=h
 have H:=C0 h1
 unfold BH at h2
 simp only [Bool.and_eq_true,List.all_eq_true,Bool.not_eq_true',List.any_eq_false] at h2
 obtain ⟨h2,h3⟩:=h2
 refine { H with
  K5:=fun f a b=>?_
  K6:=fun f a b=>?_
  assoc:=fun f g h a b a' b' a'' b'' e1 e2=>?_ }
 ·have:=h2 f (da.2 ⟨a,b⟩); unfold vB at this; simp at this; exact this.1
 ·have:=h2 f (da.2 ⟨a,b⟩); unfold vB at this; simp at this; exact this.2
 ·have:=h3 f (da.2 ⟨a,b⟩)
  unfold HK at this
  simp only [List.any_eq_true,not_exists,not_and] at this
  have:=this g (da.2 ⟨a',b'⟩)
  unfold C1 at this
  simp only [Bool.and_eq_true,beq_iff_eq,List.any_eq_true,not_and,not_exists] at this
  have:=this e1 h (da.2 ⟨a'',b''⟩)
  unfold xB at this
  simpa [e2] using this
theorem Ns {c:aI} (hs:gj c):oR c=some (sU c):=by
 unfold oR
 rw [No hs,aH]
 unfold sU
 cases h:rU c with
 | false=>rfl
 | true=>
  obtain ⟨y,h1,h2⟩:=Nq (C0 h)
  rw [Bool.not_true,cond_false,h1,aH,h2]; rfl
theorem Nu {c:aI} (hs:gj c):gV c=some (sU c):=by
 unfold gV
 rw [Np hs,aH]
 unfold sU
 cases h:rU c with
 | false=>rfl
 | true=>
  obtain ⟨y,h1,h2⟩:=Nr (C0 h)
  rw [Bool.not_true,cond_false,h1,aH,h2]; rfl
end Go.Proofs.YtkcpiblgpnjanaaGreat
