/- Is a table a category: the reference and the program agree, and what is known of a category. No condition beside those that each theorem names. -/
import Derived.Test.YtjdkifckhidlbaaGreatPa
namespace Go.Li
open Go
section
variable {S S1 R α:Type} {body:S1→Option (Out S1 R)}
theorem wy {k:Nat} {f:S1→Option (Out S R)} {s0 e:S1} (l:List α) (p:α→Bool) (G:R→Prop) (st:Nat→S1) (h0:st 0=s0) (step:∀ i x,l[i]? = some x→p x=false→body (st i)=some (.norm (st (i+1))))
  (KN:∀ i x,l[i]? = some x→p x=true→∃ y,body (st i)=some (.ret y)∧G y) (last:body (st l.length)=some (.exit k e)) :
  (l.any p=true∧∃ y,ah (af k (aj body s0)) f=some (.ret y)∧G y)∨(l.any p=false∧ah (af k (aj body s0)) f=f e):=by
 have key:∀ (m:List α) (i:Nat),l.drop i=m→i≤l.length→(m.any p=true∧∃ y,aj body (st i)=some (.ret y)∧G y)∨(m.any p=false∧aj body (st i)=some (.exit k e)):=by
  intro m
  induction m with
  | nil=>
   intro i hd hi
   have:i=l.length:=by have:=congrArg List.length hd; simp at this; omega
   subst this
   exact .inr ⟨rfl,vB last⟩
  | cons x m ih=>
   intro i hd hi
   have bh:i < l.length:=by
    rcases Nat.lt_or_ge i l.length with h | h
    ·exact h
    ·rw [List.drop_eq_nil_of_le h] at hd; cases hd
   have hx:l[i]? = some x:=by
    rw [List.drop_eq_getElem_cons bh] at hd
    rw [List.getElem?_eq_getElem bh]; exact congrArg some (List.cons.inj hd).1
   have iz:l.drop (i+1)=m:=by
    rw [List.drop_eq_getElem_cons bh] at hd; exact (List.cons.inj hd).2
   cases hp:p x with
   | true=>
    obtain ⟨y,hy,hg⟩:=KN i x hx hp
    exact .inl ⟨by simp [hp],y,zR hy,hg⟩
   | false=>
    rw [sL,step i x hx hp]
    simpa [hp] using ih (i+1) iz bh
 rcases key l 0 rfl (Nat.zero_le _) with ⟨h1,y,h2,h3⟩ | ⟨h1,h2⟩
 ·rw [h0] at h2; exact .inl ⟨h1,y,Cj h2,h3⟩
 ·rw [h0] at h2; exact .inr ⟨h1,xP h2⟩
theorem KP {n i x:Nat} (h:(List.range n)[i]? = some x):x=i∧i < n:=by
 have hi:=cb h
 rw [List.getElem?_eq_getElem hi] at h
 simp at h hi
 exact ⟨h.symm,hi⟩
end
def gi (l:List Int) (j:Int):Int:=l.getD j.toNat 0
def gr (l:List (List Int)) (j:Int):List Int:=l.getD j.toNat []
def gk (l:List (List Int)) (i j:Int):Int:=gi (gr l i) j
theorem cF {l:List Int} {j:Int} (h0:0≤j) (h1:j < l.length):idx l j=some (gi l j):=by
 rw [zS h0 h1]; unfold gi; rw [List.getD_eq_getElem?_getD,List.getElem?_eq_getElem (by omega)]; rfl
theorem lz {l:List (List Int)} {j:Int} (h0:0≤j) (h1:j < l.length):idx l j=some (gr l j):=by
 rw [zS h0 h1]; unfold gr; rw [List.getD_eq_getElem?_getD,List.getElem?_eq_getElem (by omega)]; rfl
theorem ec {l:List Int} {j:Int} (h0:0≤j) (h1:j < l.length):gi l j∈l:=by
 unfold gi; rw [List.getD_eq_getElem?_getD,List.getElem?_eq_getElem (by omega)]; exact List.getElem_mem _
theorem l7 {l:List (List Int)} {j:Int} (h0:0≤j) (h1:j < l.length):gr l j∈l:=by
 unfold gr; rw [List.getD_eq_getElem?_getD,List.getElem?_eq_getElem (by omega)]; exact List.getElem_mem _
def ns (n:Nat):List Int:=(List.range n).map Int.ofNat
theorem gh {n i:Nat} {x:Int} (h:(ns n)[i]? = some x):x=(i:Int)∧i < n:=by
 unfold ns at h
 rw [List.getElem?_map] at h
 cases hr:(List.range n)[i]? with
 | none=>rw [hr] at h; cases h
 | some y=>
  rw [hr] at h
  obtain ⟨rfl,hi⟩:=KP hr
  exact ⟨(Option.some.inj h).symm,hi⟩
theorem cZ (n:Nat):(ns n).length=n:=by simp [ns]
theorem eh {n:Nat} {x:Int}:x∈ns n↔0≤x∧x < n:=by
 unfold ns
 simp only [List.mem_map,List.mem_range]
 constructor
 ·rintro ⟨a,h1,rfl⟩; simp; omega
 ·rintro ⟨h1,h2⟩; exact ⟨x.toNat,by omega,by simp; omega⟩
end Go.Li
namespace Go.Proofs.YtjdkifckhidlbaaGreat
open Go Go.Li
def n4 (n:Int) (f:List Int):Bool:=f.all fun y=>decide (0≤y) && decide (y < n)
theorem n7 {n:Int} {f:List Int}:n4 n f=true↔∀ y∈f,0≤y∧y < n:=by simp [n4]
theorem n8 {α:Type} (l:List α) (p:α→Bool):l.any (fun x=>!p x) = !l.all p:=by
 induction l with
 | nil=>rfl
 | cons a l ih=>simp only [List.any_cons,List.all_cons,ih,Bool.not_and]
theorem xR (n:Int) (f:List Int) (hf:f.length≤1048576000):iM n f=some (n4 n f):=by
 unfold iM
 refine (congrArg ao (kn f (fun y=>!(decide (0≤y) && decide (y < n))) (fun i=>(i:Int)) rfl ?_ ?_ (e:=(f.length:Int)) (y:=false) ?_)).trans ?_
 ·intro i x hx hp
  have hi:=cb hx
  unfold lU
  simp only [Bool.not_eq_false',Bool.and_eq_true,decide_eq_true_eq] at hp
  rw [aX (by omega),cond_true,cy,hx,aF,bj (by omega),cond_false,aF,bj (by omega),aF,cond_false,cH (by omega)]
 ·intro i x hx hp
  have hi:=cb hx
  unfold lU
  rw [aX (by omega),cond_true,cy,hx,aF,aF]
  by_cases h:x < 0
  ·rw [aX h,cond_true,aF,cond_true]
  ·have:n≤x:=by simp at hp; omega
   rw [bj h,cond_false,aX (by omega),aF,cond_true]
 ·unfold lU
  rw [bj (by omega),cond_false]
 ·rw [n8]
  show ao (if (!n4 n f)=true then _ else _)=_
  cases n4 n f <;> rfl
theorem xS (n a b:Int):fP n a b=some (decide (a≤n) && decide (n≤b)):=by
 unfold fP
 by_cases h:a≤n
 ·rw [aX (show n ≥ a from h),cond_true]; rfl
 ·rw [bj (show ¬ n ≥ a from h),cond_false]; rfl
theorem Tg (n a b:Int):pO n a b=some (decide (a≤n) && decide (n≤b)):=by
 unfold pO
 by_cases h:a≤n
 ·rw [aX (show n ≥ a from h),cond_true]; rfl
 ·rw [bj (show ¬ n ≥ a from h),cond_false]; rfl
theorem within (f:List Int) (n:Int) (hf:f.length≤1048576000) (hn:0≤n) (OK:n≤1048576000):fT f n=some (n4 n f):=by
 unfold fT
 refine (congrArg ao (kn f (fun y=>!(decide (0≤y) && decide (y < n))) (fun i=>(i:Int)) rfl ?_ ?_ (e:=(f.length:Int)) (y:=false) ?_)).trans ?_
 ·intro i x hx hp
  have hi:=cb hx
  unfold lV
  simp only [Bool.not_eq_false',Bool.and_eq_true,decide_eq_true_eq] at hp
  rw [aX (by omega),cond_true,cy,hx,aF,dM (by omega) (by omega),xS,aF,aX hp.1,aX (by omega)]
  simp only [Bool.and_self,Bool.not_true,cond_false]
  rw [cH (by omega)]
 ·intro i x hx hp
  have hi:=cb hx
  unfold lV
  rw [aX (by omega),cond_true,cy,hx,aF,dM (by omega) (by omega),xS,aF]
  have:(decide (0≤x) && decide (x≤n - 1))=false:=by
   by_cases h:x < 0
   ·rw [bj (by omega)]; rfl
   ·have:n≤x:=by simp at hp; omega
    rw [bj (show ¬ x≤n - 1 by omega),Bool.and_false]
  rw [this]; rfl
 ·unfold lV
  rw [bj (by omega),cond_false]
 ·rw [n8]
  show ao (if (!n4 n f)=true then _ else _)=_
  cases n4 n f <;> rfl
def uG (c:aI):Bool:=((decide (0≤c.aA) && decide (c.aA≤8)) && (decide (c.aG.length≤40) && n4 c.aA c.aG)) && (((c.To.length == c.aG.length) && n4 c.aA c.To) && ((c.aB.length == c.aG.length) && (((c.aJ.length:Int) == c.aA) && n4 c.aG.length c.aJ)))
def xT (c:aI) (x:Int):Bool:=gi c.aG (gi c.aJ x) == x && gi c.To (gi c.aJ x) == x
def tK (c:aI) (f g:Int):Bool:=
 if gi c.To f=gi c.aG g then (decide (0≤gk c.aB f g) && decide (gk c.aB f g < c.aG.length)) && (gi c.aG (gk c.aB f g) == gi c.aG f && gi c.To (gk c.aB f g) == gi c.To g)
 else gk c.aB f g == -1
def wz (c:aI) (f:Int):Bool:=((gr c.aB f).length == c.aG.length) && (ns c.aG.length).all fun g=>tK c f g
def py (c:aI):Bool:=uG c && ((ns c.aJ.length).all (xT c) && (ns c.aG.length).all (wz c))
structure Head (c:aI):Prop where
 o0:0≤c.aA
 o8:c.aA≤8
 m:c.aG.length≤40
 f:∀ x∈c.aG,0≤x∧x < c.aA
 tl:c.To.length=c.aG.length
 t:∀ x∈c.To,0≤x∧x < c.aA
 kl:c.aB.length=c.aG.length
 il:(c.aJ.length:Int)=c.aA
 i:∀ x∈c.aJ,0≤x∧x < c.aG.length
theorem CR {c:aI} (h:uG c=true):Head c:=by
 unfold uG at h
 simp only [Bool.and_eq_true,decide_eq_true_eq,n7,beq_iff_eq] at h
 obtain ⟨⟨⟨h1,h2⟩,h3,h4⟩,⟨h5,h6⟩,h7,h8,h9⟩:=h
 exact ⟨h1,h2,h3,h4,h5,h6,h7,h8,h9⟩
set_option linter.unusedSectionVars false
namespace Head
variable {c:aI} (h:Head c)
include h
theorem fr {f:Int} (h0:0≤f) (h1:f < c.aG.length):0≤gi c.aG f∧gi c.aG f < c.aA:=h.f _ (ec h0 h1)
theorem to {f:Int} (h0:0≤f) (h1:f < c.aG.length):0≤gi c.To f∧gi c.To f < c.aA:=h.t _ (ec h0 (by rw [h.tl]; exact h1))
theorem id {x:Int} (h0:0≤x) (h1:x < c.aA):0≤gi c.aJ x∧gi c.aJ x < c.aG.length:=h.i _ (ec h0 (by rw [h.il]; exact h1))
theorem iy {f:Int} (h0:0≤f) (h1:f < c.aG.length):idx c.aG f=some (gi c.aG f):=cF h0 h1
theorem j3 {f:Int} (h0:0≤f) (h1:f < c.aG.length):idx c.To f=some (gi c.To f):=cF h0 (by rw [h.tl]; exact h1)
theorem mr {x:Int} (h0:0≤x) (h1:x < c.aA):idx c.aJ x=some (gi c.aJ x):=cF h0 (by rw [h.il]; exact h1)
theorem me {f:Int} (h0:0≤f) (h1:f < c.aG.length):idx c.aB f=some (gr c.aB f):=lz h0 (by rw [h.kl]; exact h1)
end Head
theorem KQ {c:aI} (hs:fv c):oA c=some (py c):=by
 obtain ⟨z1,z2,z3,z4,z5⟩:=hs
 have ends:∀ (l:List Int) (n:Nat) (o:Int),l.length≤1048576→lE l (n:Int) o=some ((l.length == n) && n4 o l):=by
  intro l n o hl
  unfold lE
  by_cases e:l.length=n
  ·rw [show ((l.length:Int) == (n:Int))=true by simp [e],cond_true,xR _ _ (by omega),show (l.length == n)=true by simp [e]]; rfl
  ·rw [show ((l.length:Int) == (n:Int))=false by simp; omega,cond_false,show (l.length == n)=false by simp [e]]; rfl
 unfold oA
 rw [Tg,aF,ends _ _ _ z1,ends _ _ _ z2]
 have e1:((c.aB.length:Int) != (c.aG.length:Int)) = !(c.aB.length == c.aG.length):=by
  by_cases e:c.aB.length=c.aG.length
  ·simp [e]
  ·rw [show (c.aB.length == c.aG.length)=false by simp [e]]; simp; omega
 have e2:decide ((c.aG.length:Int) > 40) = !decide (c.aG.length≤40):=by
  by_cases e:c.aG.length≤40
  ·rw [aX e,bj (by omega)]; rfl
  ·rw [bj e,aX (by omega)]; rfl
 rw [e1,e2,xR _ _ (by omega)]
 cases hh:uG c with
 | false=>
  have:py c=false:=by unfold py; rw [hh]; rfl
  rw [this]
  unfold uG at hh
  generalize (decide (0≤c.aA) && decide (c.aA≤8))=a1 at *
  generalize decide (c.aG.length≤40)=a2 at *
  generalize n4 c.aA c.aG=a3 at *
  generalize (c.To.length == c.aG.length)=a4 at *
  generalize n4 c.aA c.To=a5 at *
  generalize (c.aB.length == c.aG.length)=a6 at *
  have e3:((c.aJ.length:Int) != c.aA) = !((c.aJ.length:Int) == c.aA):=rfl
  rw [e3]
  generalize ((c.aJ.length:Int) == c.aA)=a7 at *
  generalize n4 (c.aG.length:Int) c.aJ=a8 at *
  simp only [beq_self_eq_true,Bool.true_and]
  cases a1 <;> first | rfl | (cases a2 <;> first | rfl | (cases a3 <;> first | rfl | (cases a4 <;> first | rfl | (cases a5 <;> first | rfl | (cases a6 <;> first | rfl | (cases a7 <;> first | rfl | (cases a8 <;> first | rfl | (cases hh))))))))
 | true=>
  have H:=CR hh
  have Gc:=hh
  unfold uG at Gc
  simp only [Bool.and_eq_true] at Gc
  obtain ⟨⟨⟨b1,G9⟩,b2,b3⟩,⟨b4,b5⟩,b6,b7,b8⟩:=Gc
  rw [b1,G9,b2,b3,b4,b5,b6,b8,show ((c.aJ.length:Int) != c.aA) = !((c.aJ.length:Int) == c.aA) from rfl,b7]
  simp only [beq_self_eq_true,Bool.and_self,Bool.not_true,cond_false,aF]
  have hm:=H.m
  have sf:=H.il
  refine (congrArg ao (kn (ns c.aJ.length) (fun x=>!xT c x) (fun i=>(i:Int)) rfl ?_ ?_ (e:=(c.aJ.length:Int)) (y:=false) ?_)).trans ?_
  ·intro i x hx hp
   obtain ⟨rfl,hi⟩:=gh hx
   have:=H.id (x:=(i:Int)) (by omega) (by omega)
   unfold kW
   unfold xT at hp
   simp only [Bool.not_eq_false',Bool.and_eq_true,beq_iff_eq] at hp
   rw [aX (by omega),cond_true,H.mr (by omega) (by omega),aF,H.iy this.1 this.2,aF,hp.1,bne_self_eq_false,cond_false,aF,H.j3 this.1 this.2,aF,hp.2,bne_self_eq_false,aF,cond_false,cH (by omega)]
  ·intro i x hx hp
   obtain ⟨rfl,hi⟩:=gh hx
   have:=H.id (x:=(i:Int)) (by omega) (by omega)
   unfold kW
   unfold xT at hp
   rw [aX (by omega),cond_true,H.mr (by omega) (by omega),aF,H.iy this.1 this.2,aF]
   by_cases e:gi c.aG (gi c.aJ i)=i
   ·rw [e,bne_self_eq_false,cond_false,aF,H.j3 this.1 this.2,aF]
    have:(gi c.To (gi c.aJ i) != (i:Int))=true:=by
     rw [e] at hp; simpa using hp
    rw [this]; rfl
   ·rw [show (gi c.aG (gi c.aJ i) != (i:Int))=true by simp [e]]; rfl
  ·unfold kW
   rw [cZ,bj (by omega),cond_false]
  rw [n8]
  unfold py
  rw [hh]
  cases sz:(ns c.aJ.length).all (xT c) with
  | false=>rfl
  | true=>
   simp only [Bool.not_true,Bool.false_eq_true,if_false,Bool.true_and]
   refine (congrArg ao (kn (ns c.aG.length) (fun f=>!wz c f) (fun i=>(i:Int)) rfl ?_ ?_ (e:=(c.aG.length:Int)) (y:=false) ?_)).trans ?_
   rotate_left 2
   ·unfold nZ
    rw [cZ,bj (by omega),cond_false]
   ·rw [n8]
    cases (ns c.aG.length).all (wz c) <;> rfl
   all_goals
    intro i x hx hp
    obtain ⟨rfl,hi⟩:=gh hx
    have hK:=H.me (f:=(i:Int)) (by omega) (by omega)
    have inner:(gr c.aB i).length=c.aG.length→ah (S:=Int) (af 4 (aj (kX c i) (0:Int))) (fun xr=>(some (Out.norm (an ((i:Int)+(1:Int)))))) =
      if (ns c.aG.length).any (fun g=>!tK c i g) then some (.ret false) else some (Out.norm (an ((i:Int)+(1:Int)))):=by
     intro hr
     refine kn (ns c.aG.length) (fun g=>!tK c i g) (fun j=>(j:Int)) rfl ?_ ?_ (e:=(c.aG.length:Int)) (y:=false) ?_
     rotate_left 2
     ·unfold kX
      rw [cZ,bj (by omega),cond_false]
     all_goals
      intro j y hy hq
      obtain ⟨rfl,hj⟩:=gh hy
      unfold kX
      rw [aX (by omega),cond_true,hK,aF,cF (by omega) (by omega),aF,H.j3 (by omega) (by omega),aF,H.iy (by omega) (by omega),aF]
      unfold tK gk at hq
      by_cases e:gi c.To i=gi c.aG j
      ·rw [if_pos e] at hq
       rw [show (gi c.To (i:Int) != gi c.aG (j:Int))=false by simp [e],cond_false]
       by_cases l0:gi (gr c.aB i) j < 0
       ·rw [bj (show ¬ 0≤gi (gr c.aB i) j by omega)] at hq
        rw [aX l0,cond_true,aF,cond_true]
        all_goals (first | rfl | simp at hq)
       ·rw [aX (show 0≤gi (gr c.aB i) j by omega)] at hq
        rw [bj l0,cond_false]
        by_cases l1:gi (gr c.aB i) j < c.aG.length
        ·rw [aX l1] at hq
         rw [bj (show ¬ gi (gr c.aB i) j ≥ c.aG.length by omega),cond_false,H.iy (by omega) l1,aF,H.iy (by omega) (by omega),aF]
         by_cases q1:gi c.aG (gi (gr c.aB i) j)=gi c.aG i
         ·rw [show (gi c.aG (gi (gr c.aB (i:Int)) (j:Int)) == gi c.aG (i:Int))=true by simp [q1]] at hq
          rw [show (gi c.aG (gi (gr c.aB (i:Int)) (j:Int)) != gi c.aG (i:Int))=false by simp [q1],cond_false,H.j3 (by omega) l1,aF,H.j3 (by omega) (by omega),aF,aF]
          simp only [Bool.and_self,Bool.true_and] at hq
          rw [show (gi c.To (gi (gr c.aB (i:Int)) (j:Int)) != gi c.To (j:Int)) = !(gi c.To (gi (gr c.aB (i:Int)) (j:Int)) == gi c.To (j:Int)) from rfl,hq]
          all_goals (first | rfl | rw [cond_false,cH (by omega)])
         ·rw [show (gi c.aG (gi (gr c.aB (i:Int)) (j:Int)) == gi c.aG (i:Int))=false by simp [q1]] at hq
          rw [show (gi c.aG (gi (gr c.aB (i:Int)) (j:Int)) != gi c.aG (i:Int))=true by simp [q1],cond_true]
          all_goals (first | rfl | simp at hq)
        ·rw [bj l1] at hq
         rw [aX (show gi (gr c.aB i) j ≥ c.aG.length by omega),cond_true]
         all_goals (first | rfl | simp at hq)
      ·rw [if_neg e] at hq
       rw [show (gi c.To (i:Int) != gi c.aG (j:Int))=true by simp [e],cond_true,show (gi (gr c.aB (i:Int)) (j:Int) != -1) = !(gi (gr c.aB (i:Int)) (j:Int) == -1) from rfl,hq]
       all_goals (first | rfl | rw [cond_false,cH (by omega)])
    unfold nZ
    rw [aX (by omega),cond_true,hK,aF]
    unfold wz at hp
    by_cases hr:(gr c.aB i).length=c.aG.length
    ·rw [show (((gr c.aB (i:Int)).length:Int) != (c.aG.length:Int))=false by simp [hr],cond_false,inner hr,n8]
     rw [show ((gr c.aB (i:Int)).length == c.aG.length)=true by simp [hr],Bool.true_and] at hp
     rw [hp,cH (by omega)]
     rfl
    ·rw [show (((gr c.aB (i:Int)).length:Int) != (c.aG.length:Int))=true by (simp; omega),cond_true]
     all_goals (rw [show ((gr c.aB (i:Int)).length == c.aG.length)=false by simp [hr],Bool.false_and] at hp; first | rfl | simp at hp)
end Go.Proofs.YtjdkifckhidlbaaGreat
namespace Go.Proofs.YtjdkifckhidlbaaGreat
open Go Go.Li
set_option linter.unusedSectionVars false
theorem Cn {c:aI} (H:Head c) {f:Int} (h0:0≤f) (h1:f < c.aG.length):eE c f=some (pD.mk (gi c.aG f) (gi c.To f)):=by
 unfold eE
 rw [H.iy h0 h1,aF,H.j3 h0 h1,aF]; rfl
theorem KR {c:aI} (hs:fv c):hY c=some (py c):=by
 obtain ⟨z1,z2,z3,z4,z5⟩:=hs
 unfold hY cX
 rw [show ao (S:=Unit) (some (Out.ret (c.aG.length:Int)))=some (c.aG.length:Int) from rfl,aF,xS,aF]
 have e1:((c.aB.length:Int) != (c.aG.length:Int)) = !(c.aB.length == c.aG.length):=by
  by_cases e:c.aB.length=c.aG.length
  ·simp [e]
  ·rw [show (c.aB.length == c.aG.length)=false by simp [e]]; simp; omega
 have e1':((c.To.length:Int) != (c.aG.length:Int)) = !(c.To.length == c.aG.length):=by
  by_cases e:c.To.length=c.aG.length
  ·simp [e]
  ·rw [show (c.To.length == c.aG.length)=false by simp [e]]; simp; omega
 have e2:decide ((c.aG.length:Int) > 40) = !decide (c.aG.length≤40):=by
  by_cases e:c.aG.length≤40
  ·rw [aX e,bj (by omega)]; rfl
  ·rw [bj e,aX (by omega)]; rfl
 have e3:((c.aJ.length:Int) != c.aA) = !((c.aJ.length:Int) == c.aA):=rfl
 rw [e1,e1',e2,e3,within c.aJ _ (by omega) (by omega) (by omega)]
 cases hh:uG c with
 | false=>
  have:py c=false:=by unfold py; rw [hh]; rfl
  rw [this]
  unfold uG at hh
  cases ha:(decide (0≤c.aA) && decide (c.aA≤8)) with
  | false=>rfl
  | true=>
   rw [ha] at hh
   simp only [Bool.and_eq_true,decide_eq_true_eq] at ha
   rw [within c.aG _ (by omega) ha.1 (by omega),within c.To _ (by omega) ha.1 (by omega)]
   generalize decide (c.aG.length≤40)=a2 at *
   generalize n4 c.aA c.aG=a3 at *
   generalize (c.To.length == c.aG.length)=a4 at *
   generalize n4 c.aA c.To=a5 at *
   generalize (c.aB.length == c.aG.length)=a6 at *
   generalize ((c.aJ.length:Int) == c.aA)=a7 at *
   generalize n4 (c.aG.length:Int) c.aJ=a8 at *
   cases a2 <;> first | rfl | (cases a4 <;> first | rfl | (cases a3 <;> first | rfl | (cases a5 <;> first | rfl | (cases a7 <;> first | rfl | (cases a8 <;> first | rfl | (cases a6 <;> first | rfl | (cases hh)))))))
 | true=>
  have H:=CR hh
  have Gc:=hh
  unfold uG at Gc
  simp only [Bool.and_eq_true] at Gc
  obtain ⟨⟨⟨b1,G9⟩,b2,b3⟩,⟨b4,b5⟩,b6,b7,b8⟩:=Gc
  rw [within c.aG _ (by omega) H.o0 (by have:=H.o8; omega),within c.To _ (by omega) H.o0 (by have:=H.o8; omega)]
  rw [b1,G9,b2,b3,b4,b5,b6,b8,b7]
  simp only [Bool.and_self,Bool.not_true,cond_false,aF]
  have hm:=H.m
  have sf:=H.il
  have AJ:=H.kl
  refine (congrArg ao (kn (ns c.aJ.length) (fun x=>!xT c x) (fun i=>(i:Int)) rfl ?_ ?_ (e:=(c.aJ.length:Int)) (y:=false) ?_)).trans ?_
  ·intro i x hx hp
   obtain ⟨rfl,hi⟩:=gh hx
   have:=H.id (x:=(i:Int)) (by omega) (by omega)
   unfold gA
   unfold xT at hp
   simp only [Bool.not_eq_false'] at hp
   rw [aX (by omega),cond_true,H.mr (by omega) (by omega),aF,Cn H this.1 this.2,aF]
   dsimp only
   rw [hp,Bool.not_true,cond_false,cH (by omega)]
  ·intro i x hx hp
   obtain ⟨rfl,hi⟩:=gh hx
   have:=H.id (x:=(i:Int)) (by omega) (by omega)
   unfold gA
   unfold xT at hp
   rw [aX (by omega),cond_true,H.mr (by omega) (by omega),aF,Cn H this.1 this.2,aF]
   dsimp only
   rw [hp,cond_true]
  ·unfold gA
   rw [cZ,bj (by omega),cond_false]
  rw [n8]
  unfold py
  rw [hh]
  cases sz:(ns c.aJ.length).all (xT c) with
  | false=>rfl
  | true=>
   simp only [Bool.not_true,Bool.false_eq_true,if_false,Bool.true_and]
   refine (congrArg ao (kn (ns c.aG.length) (fun f=>!wz c f) (fun i=>(i:Int)) rfl ?_ ?_ (e:=(c.aG.length:Int)) (y:=false) ?_)).trans ?_
   rotate_left 2
   ·unfold jB
    rw [cZ,bj (by omega),cond_false]
   ·rw [n8]
    cases (ns c.aG.length).all (wz c) <;> rfl
   all_goals
    intro i x hx hp
    obtain ⟨rfl,hi⟩:=gh hx
    have hK:=H.me (f:=(i:Int)) (by omega) (by omega)
    have inner:(gr c.aB i).length=c.aG.length→ah (S:=Int) (af 4 (aj (gB c (c.aG.length:Int) i (gr c.aB i)) (0:Int))) (fun xr=>(some (Out.norm (an ((i:Int)+(1:Int)))))) =
      if (ns c.aG.length).any (fun g=>!tK c i g) then some (.ret false) else some (Out.norm (an ((i:Int)+(1:Int)))):=by
     intro hr
     refine kn (ns c.aG.length) (fun g=>!tK c i g) (fun j=>(j:Int)) rfl ?_ ?_ (e:=(c.aG.length:Int)) (y:=false) ?_
     rotate_left 2
     ·unfold gB
      rw [cZ,bj (by omega),cond_false]
     all_goals
      intro j y hy hq
      obtain ⟨rfl,hj⟩:=gh hy
      unfold gB
      rw [aX (by omega),cond_true,cF (by omega) (by omega),aF,H.j3 (by omega) (by omega),aF,H.iy (by omega) (by omega),aF,dM (a:=(c.aG.length:Int) - 1) (by omega) (by omega),xS,aF]
      unfold tK gk at hq
      by_cases e:gi c.To i=gi c.aG j
      ·rw [if_pos e] at hq
       rw [show (gi c.To (i:Int) != gi c.aG (j:Int))=false by simp [e],cond_false]
       by_cases l0:0≤gi (gr c.aB i) j∧gi (gr c.aB i) j < c.aG.length
       ·rw [aX l0.1,aX l0.2] at hq
        rw [aX l0.1,aX (show gi (gr c.aB i) j≤(c.aG.length:Int) - 1 by omega)]
        simp only [Bool.and_self,Bool.not_true,cond_false,Bool.true_and] at hq ⊢
        rw [Cn H l0.1 l0.2,aF,H.iy (by omega) (by omega),aF,H.j3 (by omega) (by omega),aF,aF]
        dsimp only
        rw [hq]
        all_goals (first | rfl | rw [cond_false,cH (by omega)])
       ·have l1:(decide (0≤gi (gr c.aB i) j) && decide (gi (gr c.aB i) j < c.aG.length))=false:=by
         rcases Classical.not_and_iff_not_or_not.1 l0 with h | h
         ·rw [bj h]; rfl
         ·rw [bj h,Bool.and_false]
        have l2:(decide (0≤gi (gr c.aB i) j) && decide (gi (gr c.aB i) j≤(c.aG.length:Int) - 1))=false:=by
         rcases Classical.not_and_iff_not_or_not.1 l0 with h | h
         ·rw [bj h]; rfl
         ·rw [bj (show ¬ gi (gr c.aB i) j≤(c.aG.length:Int) - 1 by omega),Bool.and_false]
        rw [l1] at hq
        rw [l2]
        all_goals (first | rfl | simp at hq)
      ·rw [if_neg e] at hq
       rw [show (gi c.To (i:Int) != gi c.aG (j:Int))=true by simp [e],cond_true,show (gi (gr c.aB (i:Int)) (j:Int) != -1) = !(gi (gr c.aB (i:Int)) (j:Int) == -1) from rfl,hq]
       all_goals (first | rfl | rw [cond_false,cH (by omega)])
    unfold jB
    rw [aX (by omega),cond_true,hK,aF]
    unfold wz at hp
    by_cases hr:(gr c.aB i).length=c.aG.length
    ·rw [show (((gr c.aB (i:Int)).length:Int) != (c.aG.length:Int))=false by simp [hr],cond_false,inner hr,n8]
     rw [show ((gr c.aB (i:Int)).length == c.aG.length)=true by simp [hr],Bool.true_and] at hp
     rw [hp,cH (by omega)]
     rfl
    ·rw [show (((gr c.aB (i:Int)).length:Int) != (c.aG.length:Int))=true by (simp; omega),cond_true]
     all_goals (rw [show ((gr c.aB (i:Int)).length == c.aG.length)=false by simp [hr],Bool.false_and] at hp; first | rfl | simp at hp)
end Go.Proofs.YtjdkifckhidlbaaGreat
namespace Go.Proofs.YtjdkifckhidlbaaGreat
open Go Go.Li
structure qA (c:aI):Prop extends Head c where
 vo:∀ x:Int,0≤x→x < c.aA→gi c.aG (gi c.aJ x)=x
 wA:∀ x:Int,0≤x→x < c.aA→gi c.To (gi c.aJ x)=x
 row:∀ f:Int,0≤f→f < c.aG.length→(gr c.aB f).length=c.aG.length
 cell:∀ f g:Int,0≤f→f < c.aG.length→0≤g→g < c.aG.length→gi c.To f=gi c.aG g→
  0≤gk c.aB f g∧gk c.aB f g < c.aG.length∧gi c.aG (gk c.aB f g)=gi c.aG f∧gi c.To (gk c.aB f g)=gi c.To g
 none:∀ f g:Int,0≤f→f < c.aG.length→0≤g→g < c.aG.length→gi c.To f≠gi c.aG g→gk c.aB f g = -1
theorem BA {c:aI} (h:py c=true):qA c:=by
 unfold py at h
 simp only [Bool.and_eq_true,List.all_eq_true] at h
 obtain ⟨h1,h2,h3⟩:=h
 have H:=CR h1
 have sf:=H.il
 have sz:∀ x,0≤x→x < c.aA→xT c x=true:=fun x a b=>h2 x (eh.2 ⟨a,by omega⟩)
 have bg:∀ f,0≤f→f < (c.aG.length:Int)→wz c f=true:=fun f a b=>h3 f (eh.2 ⟨a,b⟩)
 have kj:∀ f g,0≤f→f < (c.aG.length:Int)→0≤g→g < (c.aG.length:Int)→tK c f g=true:=fun f g a b a' b'=>by
  have:=bg f a b
  unfold wz at this
  simp only [Bool.and_eq_true,List.all_eq_true] at this
  exact this.2 g (eh.2 ⟨a',b'⟩)
 refine { H with
  vo:=fun x a b=>?_
  wA:=fun x a b=>?_
  row:=fun f a b=>?_
  cell:=fun f g a b a' b' e=>?_
  none:=fun f g a b a' b' e=>?_ }
 ·have:=sz x a b; unfold xT at this; simp at this; exact this.1
 ·have:=sz x a b; unfold xT at this; simp at this; exact this.2
 ·have:=bg f a b; unfold wz at this; simp only [Bool.and_eq_true,beq_iff_eq] at this; exact this.1
 ·have:=kj f g a b a' b'; unfold tK at this; rw [if_pos e] at this; simp only [Bool.and_eq_true,decide_eq_true_eq,beq_iff_eq] at this; exact ⟨this.1.1,this.1.2,this.2.1,this.2.2⟩
 ·have:=kj f g a b a' b'; unfold tK at this; rw [if_neg e] at this; simpa using this
namespace qA
variable {c:aI} (h:qA c)
include h
theorem l3 {f g:Int} (h0:0≤f) (h1:f < c.aG.length) (h2:0≤g) (h3:g < c.aG.length):idx (gr c.aB f) g=some (gk c.aB f g):=cF h2 (by rw [h.row f h0 h1]; exact h3)
theorem np {f g:Int} (h0:0≤f) (h1:f < c.aG.length) (h2:0≤g) (h3:g < c.aG.length):cT c f g=some (gk c.aB f g):=by
 unfold cT; rw [h.me h0 h1,aF,h.l3 h0 h1 h2 h3,aF]; rfl
theorem thenS {f g:Int} (h0:0≤f) (h1:f < c.aG.length) (h2:0≤g) (h3:g < c.aG.length):eK c f g=some (gk c.aB f g):=by
 unfold eK; rw [h.me h0 h1,aF,h.l3 h0 h1 h2 h3,aF]; rfl
end qA
def tL (c:aI) (f:Int):Bool:=gk c.aB (gi c.aJ (gi c.aG f)) f == f && gk c.aB f (gi c.aJ (gi c.To f)) == f
def vk (c:aI) (f g h:Int):Bool:=gi c.To g == gi c.aG h && gk c.aB (gk c.aB f g) h != gk c.aB f (gk c.aB g h)
def zT (c:aI) (f g:Int):Bool:=gi c.To f == gi c.aG g && (ns c.aG.length).any (vk c f g)
def CT (c:aI) (f:Int):Bool:=(ns c.aG.length).any (zT c f)
def yN (c:aI):Bool:=(ns c.aG.length).all (tL c) && !((ns c.aG.length).any (CT c))
theorem HJ {c:aI} {k1 k2 k4 k6:Nat} {L0:Int→Option (Out Int (Int×Int×Int×Int))} {L1:Int→Option (Out Int (Int×Int×Int×Int))} {L2:Int→Int→Option (Out Int (Int×Int×Int×Int))} {L3:Int→Int→Int→Option (Out Int (Int×Int×Int×Int))} {z:Int×Int×Int×Int} (hz:z.1=0)
  (a0:∀ i:Nat,i < c.aG.length→tL c i=true→L0 i=some (.norm ((i+1:Nat):Int)))
  (a1:∀ i:Nat,i < c.aG.length→tL c i=false→∃ y,L0 i=some (.ret y)∧y.1≠0)
  (a2:L0 c.aG.length=some (.exit k1 c.aG.length))
  (b0:∀ i:Nat,i < c.aG.length→L1 i=ah (af k4 (aj (L2 i) 0)) fun _=>some (.norm ((i+1:Nat):Int)))
  (b2:L1 c.aG.length=some (.exit k2 c.aG.length))
  (d0:∀ i j:Nat,i < c.aG.length→j < c.aG.length→gi c.To i≠gi c.aG j→L2 i j=some (.norm ((j+1:Nat):Int)))
  (d1:∀ i j:Nat,i < c.aG.length→j < c.aG.length→gi c.To i=gi c.aG j→L2 i j=ah (af k6 (aj (L3 i j) 0)) fun _=>some (.norm ((j+1:Nat):Int)))
  (d2:∀ i:Nat,L2 i c.aG.length=some (.exit k4 c.aG.length))
  (e0:∀ i j h:Nat,i < c.aG.length→j < c.aG.length→h < c.aG.length→gi c.To i=gi c.aG j→vk c i j h=false→L3 i j h=some (.norm ((h+1:Nat):Int)))
  (e1:∀ i j h:Nat,i < c.aG.length→j < c.aG.length→h < c.aG.length→gi c.To i=gi c.aG j→vk c i j h=true→∃ y,L3 i j h=some (.ret y)∧y.1≠0)
  (e2:∀ i j:Nat,L3 i j c.aG.length=some (.exit k6 c.aG.length)) :
  ∃ y,ao (S:=Unit) (ah (af k1 (aj L0 0)) fun _=>ah (af k2 (aj L1 0)) fun _=>some (.ret z))=some y∧(y.1 == 0)=yN c:=by
 have WK:∀ i j:Nat,i < c.aG.length→j < c.aG.length→gi c.To i=gi c.aG j→
   ((ns c.aG.length).any (vk c i j)=true∧∃ y,ah (S:=Int) (af k6 (aj (L3 i j) 0)) (fun _=>some (.norm ((j+1:Nat):Int)))=some (.ret y)∧y.1≠0)∨
   ((ns c.aG.length).any (vk c i j)=false∧ah (S:=Int) (af k6 (aj (L3 i j) 0)) (fun _=>some (.norm ((j+1:Nat):Int)))=some (.norm ((j+1:Nat):Int))):=by
  intro i j hi hj he
  refine wy (ns c.aG.length) (vk c i j) (fun y:Int×Int×Int×Int=>y.1≠0) (fun h=>(h:Int)) rfl ?_ ?_ (e:=(c.aG.length:Int)) (by rw [cZ]; exact e2 i j)
  ·intro h x hx hp; obtain ⟨rfl,hh⟩:=gh hx; exact e0 i j h hi hj hh he hp
  ·intro h x hx hp; obtain ⟨rfl,hh⟩:=gh hx; exact e1 i j h hi hj hh he hp
 have WM:∀ i:Nat,i < c.aG.length→
   ((ns c.aG.length).any (zT c i)=true∧∃ y,ah (S:=Int) (af k4 (aj (L2 i) 0)) (fun _=>some (.norm ((i+1:Nat):Int)))=some (.ret y)∧y.1≠0)∨
   ((ns c.aG.length).any (zT c i)=false∧ah (S:=Int) (af k4 (aj (L2 i) 0)) (fun _=>some (.norm ((i+1:Nat):Int)))=some (.norm ((i+1:Nat):Int))):=by
  intro i hi
  refine wy (ns c.aG.length) (zT c i) (fun y:Int×Int×Int×Int=>y.1≠0) (fun h=>(h:Int)) rfl ?_ ?_ (e:=(c.aG.length:Int)) (by rw [cZ]; exact d2 i)
  ·intro j x hx hp
   obtain ⟨rfl,hj⟩:=gh hx
   by_cases he:gi c.To i=gi c.aG j
   ·rw [d1 i j hi hj he]
    rcases WK i j hi hj he with ⟨h1,_⟩ | ⟨_,h2⟩
    ·unfold zT at hp; rw [h1] at hp; simp [he] at hp
    ·exact h2
   ·exact d0 i j hi hj he
  ·intro j x hx hp
   obtain ⟨rfl,hj⟩:=gh hx
   unfold zT at hp
   simp only [Bool.and_eq_true,beq_iff_eq] at hp
   rw [d1 i j hi hj hp.1]
   rcases WK i j hi hj hp.1 with ⟨_,h⟩ | ⟨h1,_⟩
   ·exact h
   ·rw [hp.2] at h1; cases h1
 rcases wy (s0:=(0:Int)) (S:=Unit) (R:=Int×Int×Int×Int) (k:=k1) (body:=L0) (f:=fun _=>ah (af k2 (aj L1 0)) fun _=>some (.ret z)) (ns c.aG.length) (fun i=>!tL c i) (fun y:Int×Int×Int×Int=>y.1≠0) (fun i=>(i:Int)) rfl
   (fun i x hx hp=>by obtain ⟨rfl,hi⟩:=gh hx; exact a0 i hi (by simpa using hp)) (fun i x hx hp=>by obtain ⟨rfl,hi⟩:=gh hx; exact a1 i hi (by simpa using hp)) (e:=(c.aG.length:Int)) (by rw [cZ]; exact a2) with ⟨h1,y,h2,h3⟩ | ⟨h1,h2⟩
 ·refine ⟨y,by rw [h2]; rfl,?_⟩
  unfold yN
  rw [n8] at h1
  simp only [Bool.not_eq_true'] at h1
  rw [h1]
  simpa using h3
 ·rw [n8] at h1
  simp only [Bool.not_eq_false'] at h1
  rw [h2]
  rcases wy (s0:=(0:Int)) (S:=Unit) (R:=Int×Int×Int×Int) (k:=k2) (body:=L1) (f:=fun _=>some (.ret z)) (ns c.aG.length) (CT c) (fun y:Int×Int×Int×Int=>y.1≠0) (fun i=>(i:Int)) rfl
   (fun i x hx hp=>by
    obtain ⟨rfl,hi⟩:=gh hx
    rw [b0 i hi]
    rcases WM i hi with ⟨q1,_⟩ | ⟨_,q2⟩
    ·unfold CT at hp; rw [q1] at hp; cases hp
    ·exact q2)
   (fun i x hx hp=>by
    obtain ⟨rfl,hi⟩:=gh hx
    rw [b0 i hi]
    rcases WM i hi with ⟨_,q⟩ | ⟨q1,_⟩
    ·exact q
    ·unfold CT at hp; rw [q1] at hp; cases hp) (e:=(c.aG.length:Int)) (by rw [cZ]; exact b2) with ⟨g1,y,g2,g3⟩ | ⟨g1,g2⟩
  ·refine ⟨y,by rw [g2]; rfl,?_⟩
   unfold yN
   rw [h1,g1]
   simpa using g3
  ·refine ⟨z,by rw [g2]; rfl,?_⟩
   unfold yN
   rw [h1,g1,hz]
   rfl
section
variable {c:aI} (H:qA c)
include H
theorem KS:∃ y,mO c=some y∧(y.1 == 0)=yN c:=by
 have hm:=H.m
 have sf:=H.il
 have u0:∀ i:Nat,i < c.aG.length→kE c i=if tL c i then some (Out.norm ((i+1:Nat):Int)) else some (Out.ret ((1:Int),(i:Int),(0:Int),(0:Int))):=by
  intro i hi
  have f1:=H.fr (f:=(i:Int)) (by omega) (by omega)
  have t1:=H.to (f:=(i:Int)) (by omega) (by omega)
  have i1:=H.id f1.1 f1.2
  have i2:=H.id t1.1 t1.2
  unfold kE
  rw [aX (by omega),cond_true,H.iy (by omega) (by omega),aF,H.mr f1.1 f1.2,aF,H.me i1.1 i1.2,aF,H.l3 i1.1 i1.2 (by omega) (by omega),aF]
  rw [H.me (by omega) (by omega),aF,H.j3 (by omega) (by omega),aF,H.mr t1.1 t1.2,aF,H.l3 (by omega) (by omega) i2.1 i2.2,aF]
  unfold tL
  by_cases e1:gk c.aB (gi c.aJ (gi c.aG i)) i=i
  ·by_cases e2:gk c.aB i (gi c.aJ (gi c.To i))=i
   ·simp [e1,e2,cH (show i < 9223372036854775807 by omega)]
   ·simp [e1,e2,p8 e2]
  ·simp [e1,p8 e1]
 unfold mO
 refine HJ (c:=c) (z:=(0,0,0,0)) rfl (L2:=jA c) (L3:=iZ c) (k4:=4) (k6:=6) ?_ ?_ ?_ ?_ ?_ ?_ ?_ ?_ ?_ ?_ ?_
 ·intro i hi hp; rw [u0 i hi,hp]; rfl
 ·intro i hi hp; rw [u0 i hi,hp]; exact ⟨_,rfl,by simp⟩
 ·unfold kE; rw [bj (by omega),cond_false]
 ·intro i hi; unfold nG; rw [aX (by omega),cond_true,cH (by omega)]
 ·unfold nG; rw [bj (by omega),cond_false]
 ·intro i j hi hj he
  unfold jA
  rw [aX (by omega),cond_true,H.j3 (by omega) (by omega),aF,H.iy (by omega) (by omega),aF,show (gi c.To (i:Int) != gi c.aG (j:Int))=true by simp [he],cond_true,cH (by omega)]
 ·intro i j hi hj he
  unfold jA
  rw [aX (by omega),cond_true,H.j3 (by omega) (by omega),aF,H.iy (by omega) (by omega),aF,show (gi c.To (i:Int) != gi c.aG (j:Int))=false by simp [he],cond_false,cH (by omega)]
 ·intro i; unfold jA; rw [bj (by omega),cond_false]
 ·intro i j h hi hj hh he hp
  unfold iZ
  rw [aX (by omega),cond_true,H.j3 (by omega) (by omega),aF,H.iy (by omega) (by omega),aF]
  unfold vk at hp
  by_cases e:gi c.To j=gi c.aG h
  ·have c1:=H.cell i j (by omega) (by omega) (by omega) (by omega) he
   have c2:=H.cell j h (by omega) (by omega) (by omega) (by omega) e
   rw [show (gi c.To (j:Int) == gi c.aG (h:Int))=true by simp [e]] at hp ⊢
   rw [cond_true,H.me (by omega) (by omega),aF,H.l3 (by omega) (by omega) (by omega) (by omega),aF,H.me c1.1 c1.2.1,aF,H.l3 c1.1 c1.2.1 (by omega) (by omega),aF,aF,H.me (by omega) (by omega),aF,H.l3 (by omega) (by omega) (by omega) (by omega),aF,H.l3 (by omega) (by omega) c2.1 c2.2.1,aF]
   rw [Bool.true_and] at hp
   rw [hp,aF,cond_false,cH (by omega)]
  ·rw [show (gi c.To (j:Int) == gi c.aG (h:Int))=false by simp [e],cond_false,aF,cond_false,cH (by omega)]
 ·intro i j h hi hj hh he hp
  unfold iZ
  rw [aX (by omega),cond_true,H.j3 (by omega) (by omega),aF,H.iy (by omega) (by omega),aF]
  unfold vk at hp
  simp only [Bool.and_eq_true] at hp
  have e:gi c.To j=gi c.aG h:=by simpa using hp.1
  have c1:=H.cell i j (by omega) (by omega) (by omega) (by omega) he
  have c2:=H.cell j h (by omega) (by omega) (by omega) (by omega) e
  rw [hp.1,cond_true,H.me (by omega) (by omega),aF,H.l3 (by omega) (by omega) (by omega) (by omega),aF,H.me c1.1 c1.2.1,aF,H.l3 c1.1 c1.2.1 (by omega) (by omega),aF,aF,H.me (by omega) (by omega),aF,H.l3 (by omega) (by omega) (by omega) (by omega),aF,H.l3 (by omega) (by omega) c2.1 c2.2.1,aF]
  rw [hp.2,aF,cond_true]
  exact ⟨_,rfl,by simp⟩
 ·intro i j; unfold iZ; rw [bj (by omega),cond_false]
theorem KT:∃ y,jD c=some y∧(y.1 == 0)=yN c:=by
 have hm:=H.m
 have sf:=H.il
 have u0:∀ i:Nat,i < c.aG.length→gU c c.aG.length i=if tL c i then some (Out.norm ((i+1:Nat):Int)) else some (Out.ret ((1:Int),(i:Int),(0:Int),(0:Int))):=by
  intro i hi
  have f1:=H.fr (f:=(i:Int)) (by omega) (by omega)
  have t1:=H.to (f:=(i:Int)) (by omega) (by omega)
  have i1:=H.id f1.1 f1.2
  have i2:=H.id t1.1 t1.2
  unfold gU
  rw [aX (by omega),cond_true,H.iy (by omega) (by omega),aF,H.mr f1.1 f1.2,aF,H.np i1.1 i1.2 (by omega) (by omega),aF]
  rw [H.j3 (by omega) (by omega),aF,H.mr t1.1 t1.2,aF,H.np (by omega) (by omega) i2.1 i2.2,aF]
  unfold tL
  by_cases e1:gk c.aB (gi c.aJ (gi c.aG i)) i=i
  ·by_cases e2:gk c.aB i (gi c.aJ (gi c.To i))=i
   ·simp [e1,e2,cH (show i < 9223372036854775807 by omega)]
   ·simp [e1,e2,p8 e2]
  ·simp [e1,p8 e1]
 have pos:∀ i j:Nat,i < c.aG.length→j < c.aG.length→(gi c.To i=gi c.aG j→0≤gk c.aB i j)∧(gi c.To i≠gi c.aG j→gk c.aB i j < 0):=by
  intro i j hi hj
  refine ⟨fun e=>(H.cell i j (by omega) (by omega) (by omega) (by omega) e).1,fun e=>?_⟩
  rw [H.none i j (by omega) (by omega) (by omega) (by omega) e]; decide
 unfold jD cX
 rw [show ao (S:=Unit) (some (Out.ret (c.aG.length:Int)))=some (c.aG.length:Int) from rfl,aF]
 refine HJ (c:=c) (z:=(0,0,0,0)) rfl (L2:=fR c c.aG.length) (L3:=fQ c c.aG.length) (k4:=4) (k6:=6) ?_ ?_ ?_ ?_ ?_ ?_ ?_ ?_ ?_ ?_ ?_
 ·intro i hi hp; rw [u0 i hi,hp]; rfl
 ·intro i hi hp; rw [u0 i hi,hp]; exact ⟨_,rfl,by simp⟩
 ·unfold gU; rw [bj (by omega),cond_false]
 ·intro i hi; unfold jQ; rw [aX (by omega),cond_true,cH (by omega)]
 ·unfold jQ; rw [bj (by omega),cond_false]
 ·intro i j hi hj he
  unfold fR
  rw [aX (by omega),cond_true,H.np (by omega) (by omega) (by omega) (by omega),aF,aX ((pos i j hi hj).2 he),cond_true,cH (by omega)]
 ·intro i j hi hj he
  have:=(pos i j hi hj).1 he
  unfold fR
  rw [aX (by omega),cond_true,H.np (by omega) (by omega) (by omega) (by omega),aF,bj (by omega),cond_false,cH (by omega)]
 ·intro i; unfold fR; rw [bj (by omega),cond_false]
 ·intro i j h hi hj hh he hp
  unfold fQ
  rw [aX (by omega),cond_true,H.np (by omega) (by omega) (by omega) (by omega),aF]
  unfold vk at hp
  by_cases e:gi c.To j=gi c.aG h
  ·have c1:=H.cell i j (by omega) (by omega) (by omega) (by omega) he
   have c2:=H.cell j h (by omega) (by omega) (by omega) (by omega) e
   rw [show (gi c.To (j:Int) == gi c.aG (h:Int))=true by simp [e],Bool.true_and] at hp
   rw [aX (show gk c.aB j h ≥ 0 from c2.1),cond_true,H.np (by omega) (by omega) (by omega) (by omega),aF,H.np c1.1 c1.2.1 (by omega) (by omega),aF,aF,H.np (by omega) (by omega) c2.1 c2.2.1,aF,hp,aF,cond_false,cH (by omega)]
  ·have:=(pos j h hj hh).2 e
   rw [bj (show ¬ gk c.aB j h ≥ 0 by omega),cond_false,aF,cond_false,cH (by omega)]
 ·intro i j h hi hj hh he hp
  unfold fQ
  unfold vk at hp
  simp only [Bool.and_eq_true] at hp
  have e:gi c.To j=gi c.aG h:=by simpa using hp.1
  have c1:=H.cell i j (by omega) (by omega) (by omega) (by omega) he
  have c2:=H.cell j h (by omega) (by omega) (by omega) (by omega) e
  rw [aX (by omega),cond_true,H.np (by omega) (by omega) (by omega) (by omega),aF,aX (show gk c.aB j h ≥ 0 from c2.1),cond_true,H.np (by omega) (by omega) (by omega) (by omega),aF,H.np c1.1 c1.2.1 (by omega) (by omega),aF,aF,H.np (by omega) (by omega) c2.1 c2.2.1,aF,hp.2,aF,cond_true]
  exact ⟨_,rfl,by simp⟩
 ·intro i j; unfold fQ; rw [bj (by omega),cond_false]
end
structure nq (c:aI):Prop extends qA c where
 I9:∀ f:Int,0≤f→f < c.aG.length→gk c.aB (gi c.aJ (gi c.aG f)) f=f
 Ea:∀ f:Int,0≤f→f < c.aG.length→gk c.aB f (gi c.aJ (gi c.To f))=f
 assoc:∀ f g h:Int,0≤f→f < c.aG.length→0≤g→g < c.aG.length→0≤h→h < c.aG.length→gi c.To f=gi c.aG g→gi c.To g=gi c.aG h→
  gk c.aB (gk c.aB f g) h=gk c.aB f (gk c.aB g h)
def ov (c:aI):Bool:=py c && yN c
theorem wB {c:aI} (h:ov c=true):nq c:=by
 unfold ov at h
 simp only [Bool.and_eq_true] at h
 obtain ⟨h1,h2⟩:=h
 have H:=BA h1
 unfold yN at h2
 simp only [Bool.and_eq_true,List.all_eq_true,Bool.not_eq_true',List.any_eq_false] at h2
 obtain ⟨h2,h3⟩:=h2
 refine { H with
  I9:=fun f a b=>?_
  Ea:=fun f a b=>?_
  assoc:=fun f g h a b a' b' a'' b'' e1 e2=>?_ }
 ·have:=h2 f (eh.2 ⟨a,b⟩); unfold tL at this; simp at this; exact this.1
 ·have:=h2 f (eh.2 ⟨a,b⟩); unfold tL at this; simp at this; exact this.2
 ·have:=h3 f (eh.2 ⟨a,b⟩)
  unfold CT at this
  simp only [List.any_eq_true,not_exists,not_and] at this
  have:=this g (eh.2 ⟨a',b'⟩)
  unfold zT at this
  simp only [Bool.and_eq_true,beq_iff_eq,List.any_eq_true,not_and,not_exists] at this
  have:=this e1 h (eh.2 ⟨a'',b''⟩)
  unfold vk at this
  simpa [e2] using this
theorem KU {c:aI} (hs:fv c):oB c=some (ov c):=by
 unfold oB
 rw [KQ hs,aF]
 unfold ov
 cases h:py c with
 | false=>rfl
 | true=>
  obtain ⟨y,h1,h2⟩:=KS (BA h)
  rw [Bool.not_true,cond_false,h1,aF,h2]; rfl
theorem Ge {c:aI} (hs:fv c):fE c=some (ov c):=by
 unfold fE
 rw [KR hs,aF]
 unfold ov
 cases h:py c with
 | false=>rfl
 | true=>
  obtain ⟨y,h1,h2⟩:=KT (BA h)
  rw [Bool.not_true,cond_false,h1,aF,h2]; rfl
end Go.Proofs.YtjdkifckhidlbaaGreat
