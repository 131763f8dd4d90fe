/- Is a table a category: the reference and the program agree, and what is known of a category. No condition beside those that each theorem names. -/
import Derived.Test.YtcnehblmgfbfoaaGreatPa
set_option linter.unusedVariables false
set_option linter.unusedSectionVars false
set_option linter.unusedSimpArgs false
namespace Go.Li
open Go
section
variable {S S1 R α:Type} {body:S1→Option (Out S1 R)}
theorem uf {k:Nat} {f:S1→Option (Out S R)} {s0 e:S1} (l:List α) (p:α→Bool) (G:R→Prop) (st:Nat→S1) (h0:st 0=s0) (step:∀ i x,l[i]? = some x→p x=false→body (st i)=some (.norm (st (i+1))))
  (IP:∀ i x,l[i]? = some x→p x=true→∃ y,body (st i)=some (.ret y)∧G y) (last:body (st l.length)=some (.exit k e)) :
  (l.any p=true∧∃ y,aj (ah k (ai body s0)) f=some (.ret y)∧G y)∨(l.any p=false∧aj (ah k (ai body s0)) f=f e):=by
 have key:∀ (m:List α) (i:Nat),l.drop i=m→i≤l.length→(m.any p=true∧∃ y,ai body (st i)=some (.ret y)∧G y)∨(m.any p=false∧ai body (st i)=some (.exit k e)):=by
  intro m
  induction m with
  | nil=>
   intro i hd hi
   have:i=l.length:=by have:=congrArg List.length hd; simp at this; omega
   subst this
   exact .inr ⟨rfl,rD last⟩
  | cons x m ih=>
   intro i hd hi
   have bj:i < l.length:=by
    rcases Nat.lt_or_ge i l.length with h | h
    ·exact h
    ·rw [List.drop_eq_nil_of_le h] at hd; cases hd
   have hx:l[i]? = some x:=by
    rw [List.drop_eq_getElem_cons bj] at hd
    rw [List.getElem?_eq_getElem bj]; exact congrArg some (List.cons.inj hd).1
   have gw:l.drop (i+1)=m:=by
    rw [List.drop_eq_getElem_cons bj] at hd; exact (List.cons.inj hd).2
   cases hp:p x with
   | true=>
    obtain ⟨y,hy,hg⟩:=IP i x hx hp
    exact .inl ⟨by simp [hp],y,xM hy,hg⟩
   | false=>
    rw [pY,step i x hx hp]
    simpa [hp] using ih (i+1) gw bj
 rcases key l 0 rfl (Nat.zero_le _) with ⟨h1,y,h2,h3⟩ | ⟨h1,h2⟩
 ·rw [h0] at h2; exact .inl ⟨h1,y,xN h2,h3⟩
 ·rw [h0] at h2; exact .inr ⟨h1,tz h2⟩
theorem IT {n i x:Nat} (h:(List.range n)[i]? = some x):x=i∧i < n:=by
 have hi:=bd h
 rw [List.getElem?_eq_getElem hi] at h
 simp at h hi
 exact ⟨h.symm,hi⟩
end
def gi (l:List Int) (j:Int):Int:=l.getD j.toNat 0
def gr (l:List (List Int)) (j:Int):List Int:=l.getD j.toNat []
def gk (l:List (List Int)) (i j:Int):Int:=gi (gr l i) j
theorem cI {l:List Int} {j:Int} (h0:0≤j) (h1:j < l.length):idx l j=some (gi l j):=by
 rw [DF h0 h1]; unfold gi; rw [List.getD_eq_getElem?_getD,List.getElem?_eq_getElem (by omega)]; rfl
theorem jt {l:List (List Int)} {j:Int} (h0:0≤j) (h1:j < l.length):idx l j=some (gr l j):=by
 rw [DF h0 h1]; unfold gr; rw [List.getD_eq_getElem?_getD,List.getElem?_eq_getElem (by omega)]; rfl
theorem lp {l:List Int} {j:Int} (h0:0≤j) (h1:j < l.length):gi l j∈l:=by
 unfold gi; rw [List.getD_eq_getElem?_getD,List.getElem?_eq_getElem (by omega)]; exact List.getElem_mem _
theorem jr {l:List (List Int)} {j:Int} (h0:0≤j) (h1:j < l.length):gr l j∈l:=by
 unfold gr; rw [List.getD_eq_getElem?_getD,List.getElem?_eq_getElem (by omega)]; exact List.getElem_mem _
def ns (n:Nat):List Int:=(List.range n).map Int.ofNat
theorem ca {n i:Nat} {x:Int} (h:(ns n)[i]? = some x):x=(i:Int)∧i < n:=by
 unfold ns at h
 rw [List.getElem?_map] at h
 cases hr:(List.range n)[i]? with
 | none=>rw [hr] at h; cases h
 | some y=>
  rw [hr] at h
  obtain ⟨rfl,hi⟩:=IT hr
  exact ⟨(Option.some.inj h).symm,hi⟩
theorem bS (n:Nat):(ns n).length=n:=by simp [ns]
theorem cu {n:Nat} {x:Int}:x∈ns n↔0≤x∧x < n:=by
 unfold ns
 simp only [List.mem_map,List.mem_range]
 constructor
 ·rintro ⟨a,h1,rfl⟩; simp; omega
 ·rintro ⟨h1,h2⟩; exact ⟨x.toNat,by omega,by simp; omega⟩
end Go.Li
namespace Go.Proofs.YtcnehblmgfbfoaaGreat
open Go Go.Li
def mi (n:Int) (f:List Int):Bool:=f.all fun y=>decide (0≤y) && decide (y < n)
theorem nq {n:Int} {f:List Int}:mi n f=true↔∀ y∈f,0≤y∧y < n:=by simp [mi]
theorem lg {α:Type} (l:List α) (p:α→Bool):l.any (fun x=>!p x) = !l.all p:=by
 induction l with
 | nil=>rfl
 | cons a l ih=>simp only [List.any_cons,List.all_cons,ih,Bool.not_and]
theorem vM (n:Int) (f:List Int) (hf:f.length≤1048576000):hP n f=some (mi n f):=by
 unfold hP
 refine (congrArg an (ib f (fun y=>!(decide (0≤y) && decide (y < n))) (fun i=>(i:Int)) rfl ?_ ?_ (e:=(f.length:Int)) (y:=false) ?_)).trans ?_
 ·intro i x hx hp
  have hi:=bd hx
  unfold lN
  simp only [Bool.not_eq_false',Bool.and_eq_true,decide_eq_true_eq] at hp
  rw [aq (by omega),cond_true,bh,hx,aA,au (by omega),cond_false,aA,au (by omega),aA,cond_false,bK (by omega)]
 ·intro i x hx hp
  have hi:=bd hx
  unfold lN
  rw [aq (by omega),cond_true,bh,hx,aA,aA]
  by_cases h:x < 0
  ·rw [aq h,cond_true,aA,cond_true]
  ·have:n≤x:=by simp at hp; omega
   rw [au h,cond_false,aq (by omega),aA,cond_true]
 ·unfold lN
  rw [au (by omega),cond_false]
 ·rw [lg]
  show an (if (!mi n f)=true then _ else _)=_
  cases mi n f <;> rfl
theorem yk (n a b:Int):jV n a b=some (decide (a≤n) && decide (n≤b)):=by
 unfold jV
 by_cases h:a≤n
 ·rw [aq (show n ≥ a from h),cond_true]; rfl
 ·rw [au (show ¬ n ≥ a from h),cond_false]; rfl
theorem Rf (n a b:Int):nT n a b=some (decide (a≤n) && decide (n≤b)):=by
 unfold nT
 by_cases h:a≤n
 ·rw [aq (show n ≥ a from h),cond_true]; rfl
 ·rw [au (show ¬ n ≥ a from h),cond_false]; rfl
theorem within (f:List Int) (n:Int) (hf:f.length≤1048576000) (hn:0≤n) (Ih:n≤1048576000):fY f n=some (mi n f):=by
 unfold fY
 refine (congrArg an (ib f (fun y=>!(decide (0≤y) && decide (y < n))) (fun i=>(i:Int)) rfl ?_ ?_ (e:=(f.length:Int)) (y:=false) ?_)).trans ?_
 ·intro i x hx hp
  have hi:=bd hx
  unfold lO
  simp only [Bool.not_eq_false',Bool.and_eq_true,decide_eq_true_eq] at hp
  rw [aq (by omega),cond_true,bh,hx,aA,lF (by omega) (by omega),yk,aA,aq hp.1,aq (by omega)]
  simp only [Bool.and_self,Bool.not_true,cond_false]
  rw [bK (by omega)]
 ·intro i x hx hp
  have hi:=bd hx
  unfold lO
  rw [aq (by omega),cond_true,bh,hx,aA,lF (by omega) (by omega),yk,aA]
  have:(decide (0≤x) && decide (x≤n - 1))=false:=by
   by_cases h:x < 0
   ·rw [au (by omega)]; rfl
   ·have:n≤x:=by simp at hp; omega
    rw [au (show ¬ x≤n - 1 by omega),Bool.and_false]
  rw [this]; rfl
 ·unfold lO
  rw [au (by omega),cond_false]
 ·rw [lg]
  show an (if (!mi n f)=true then _ else _)=_
  cases mi n f <;> rfl
def sa (c:aH):Bool:=((decide (0≤c.aD) && decide (c.aD≤8)) && (decide (c.aF.length≤40) && mi c.aD c.aF)) && (((c.To.length == c.aF.length) && mi c.aD c.To) && ((c.aC.length == c.aF.length) && (((c.aG.length:Int) == c.aD) && mi c.aF.length c.aG)))
def vN (c:aH) (x:Int):Bool:=gi c.aF (gi c.aG x) == x && gi c.To (gi c.aG x) == x
def rE (c:aH) (f g:Int):Bool:=
 if gi c.To f=gi c.aF g then (decide (0≤gk c.aC f g) && decide (gk c.aC f g < c.aF.length)) && (gi c.aF (gk c.aC f g) == gi c.aF f && gi c.To (gk c.aC f g) == gi c.To g)
 else gk c.aC f g == -1
def ug (c:aH) (f:Int):Bool:=((gr c.aC f).length == c.aF.length) && (ns c.aF.length).all fun g=>rE c f g
def mj (c:aH):Bool:=sa c && ((ns c.aG.length).all (vN c) && (ns c.aF.length).all (ug c))
structure Head (c:aH):Prop where
 o0:0≤c.aD
 o8:c.aD≤8
 m:c.aF.length≤40
 f:∀ x∈c.aF,0≤x∧x < c.aD
 tl:c.To.length=c.aF.length
 t:∀ x∈c.To,0≤x∧x < c.aD
 kl:c.aC.length=c.aF.length
 il:(c.aG.length:Int)=c.aD
 i:∀ x∈c.aG,0≤x∧x < c.aF.length
theorem AF {c:aH} (h:sa c=true):Head c:=by
 unfold sa at h
 simp only [Bool.and_eq_true,decide_eq_true_eq,nq,beq_iff_eq] at h
 obtain ⟨⟨⟨h1,h2⟩,h3,h4⟩,⟨h5,h6⟩,h7,h8,h9⟩:=h
 exact ⟨h1,h2,h3,h4,h5,h6,h7,h8,h9⟩
set_option linter.unusedSectionVars false
namespace Head
variable {c:aH} (h:Head c)
include h
theorem fr {f:Int} (h0:0≤f) (h1:f < c.aF.length):0≤gi c.aF f∧gi c.aF f < c.aD:=h.f _ (lp h0 h1)
theorem to {f:Int} (h0:0≤f) (h1:f < c.aF.length):0≤gi c.To f∧gi c.To f < c.aD:=h.t _ (lp h0 (by rw [h.tl]; exact h1))
theorem id {x:Int} (h0:0≤x) (h1:x < c.aD):0≤gi c.aG x∧gi c.aG x < c.aF.length:=h.i _ (lp h0 (by rw [h.il]; exact h1))
theorem jk {f:Int} (h0:0≤f) (h1:f < c.aF.length):idx c.aF f=some (gi c.aF f):=cI h0 h1
theorem jx {f:Int} (h0:0≤f) (h1:f < c.aF.length):idx c.To f=some (gi c.To f):=cI h0 (by rw [h.tl]; exact h1)
theorem py {x:Int} (h0:0≤x) (h1:x < c.aD):idx c.aG x=some (gi c.aG x):=cI h0 (by rw [h.il]; exact h1)
theorem qt {f:Int} (h0:0≤f) (h1:f < c.aF.length):idx c.aC f=some (gr c.aC f):=jt h0 (by rw [h.kl]; exact h1)
end Head
theorem IU {c:aH} (hs:de c):mP c=some (mj c):=by
 obtain ⟨z1,z2,z3,z4,z5⟩:=hs
 have ends:∀ (l:List Int) (n:Nat) (o:Int),l.length≤1048576→kV l (n:Int) o=some ((l.length == n) && mi o l):=by
  intro l n o hl
  unfold kV
  by_cases e:l.length=n
  ·rw [show ((l.length:Int) == (n:Int))=true by simp [e],cond_true,vM _ _ (by omega),show (l.length == n)=true by simp [e]]; rfl
  ·rw [show ((l.length:Int) == (n:Int))=false by simp; omega,cond_false,show (l.length == n)=false by simp [e]]; rfl
 unfold mP
 rw [Rf,aA,ends _ _ _ z1,ends _ _ _ z2]
 have e1:((c.aC.length:Int) != (c.aF.length:Int)) = !(c.aC.length == c.aF.length):=by
  by_cases e:c.aC.length=c.aF.length
  ·simp [e]
  ·rw [show (c.aC.length == c.aF.length)=false by simp [e]]; simp; omega
 have e2:decide ((c.aF.length:Int) > 40) = !decide (c.aF.length≤40):=by
  by_cases e:c.aF.length≤40
  ·rw [aq e,au (by omega)]; rfl
  ·rw [au e,aq (by omega)]; rfl
 rw [e1,e2,vM _ _ (by omega)]
 cases hh:sa c with
 | false=>
  have:mj c=false:=by unfold mj; rw [hh]; rfl
  rw [this]
  unfold sa at hh
  generalize (decide (0≤c.aD) && decide (c.aD≤8))=a1 at *
  generalize decide (c.aF.length≤40)=a2 at *
  generalize mi c.aD c.aF=a3 at *
  generalize (c.To.length == c.aF.length)=a4 at *
  generalize mi c.aD c.To=a5 at *
  generalize (c.aC.length == c.aF.length)=a6 at *
  have e3:((c.aG.length:Int) != c.aD) = !((c.aG.length:Int) == c.aD):=rfl
  rw [e3]
  generalize ((c.aG.length:Int) == c.aD)=a7 at *
  generalize mi (c.aF.length:Int) c.aG=a8 at *
  simp only [beq_self_eq_true,Bool.true_and]
  cases a1 <;> first | rfl | (cases a2 <;> first | rfl | (cases a3 <;> first | rfl | (cases a4 <;> first | rfl | (cases a5 <;> first | rfl | (cases a6 <;> first | rfl | (cases a7 <;> first | rfl | (cases a8 <;> first | rfl | (cases hh))))))))
 | true=>
  have H:=AF hh
  have DH:=hh
  unfold sa at DH
  simp only [Bool.and_eq_true] at DH
  obtain ⟨⟨⟨b1,EG⟩,b2,b3⟩,⟨b4,b5⟩,b6,b7,b8⟩:=DH
  rw [b1,EG,b2,b3,b4,b5,b6,b8,show ((c.aG.length:Int) != c.aD) = !((c.aG.length:Int) == c.aD) from rfl,b7]
  simp only [beq_self_eq_true,Bool.and_self,Bool.not_true,cond_false,aA]
  have hm:=H.m
  have qQ:=H.il
  refine (congrArg an (ib (ns c.aG.length) (fun x=>!vN c x) (fun i=>(i:Int)) rfl ?_ ?_ (e:=(c.aG.length:Int)) (y:=false) ?_)).trans ?_
  ·intro i x hx hp
   obtain ⟨rfl,hi⟩:=ca hx
   have:=H.id (x:=(i:Int)) (by omega) (by omega)
   unfold kL
   unfold vN at hp
   simp only [Bool.not_eq_false',Bool.and_eq_true,beq_iff_eq] at hp
   rw [aq (by omega),cond_true,H.py (by omega) (by omega),aA,H.jk this.1 this.2,aA,hp.1,bne_self_eq_false,cond_false,aA,H.jx this.1 this.2,aA,hp.2,bne_self_eq_false,aA,cond_false,bK (by omega)]
  ·intro i x hx hp
   obtain ⟨rfl,hi⟩:=ca hx
   have:=H.id (x:=(i:Int)) (by omega) (by omega)
   unfold kL
   unfold vN at hp
   rw [aq (by omega),cond_true,H.py (by omega) (by omega),aA,H.jk this.1 this.2,aA]
   by_cases e:gi c.aF (gi c.aG i)=i
   ·rw [e,bne_self_eq_false,cond_false,aA,H.jx this.1 this.2,aA]
    have:(gi c.To (gi c.aG i) != (i:Int))=true:=by
     rw [e] at hp; simpa using hp
    rw [this]; rfl
   ·rw [show (gi c.aF (gi c.aG i) != (i:Int))=true by simp [e]]; rfl
  ·unfold kL
   rw [bS,au (by omega),cond_false]
  rw [lg]
  unfold mj
  rw [hh]
  cases Mw:(ns c.aG.length).all (vN c) with
  | false=>rfl
  | true=>
   simp only [Bool.not_true,Bool.false_eq_true,if_false,Bool.true_and]
   refine (congrArg an (ib (ns c.aF.length) (fun f=>!ug c f) (fun i=>(i:Int)) rfl ?_ ?_ (e:=(c.aF.length:Int)) (y:=false) ?_)).trans ?_
   rotate_left 2
   ·unfold mO
    rw [bS,au (by omega),cond_false]
   ·rw [lg]
    cases (ns c.aF.length).all (ug c) <;> rfl
   all_goals
    intro i x hx hp
    obtain ⟨rfl,hi⟩:=ca hx
    have hK:=H.qt (f:=(i:Int)) (by omega) (by omega)
    have inner:(gr c.aC i).length=c.aF.length→aj (S:=Int) (ah 4 (ai (kN c i) (0:Int))) (fun vj=>(some (Out.norm (bf ((i:Int)+(1:Int)))))) =
      if (ns c.aF.length).any (fun g=>!rE c i g) then some (.ret false) else some (Out.norm (bf ((i:Int)+(1:Int)))):=by
     intro hr
     refine ib (ns c.aF.length) (fun g=>!rE c i g) (fun j=>(j:Int)) rfl ?_ ?_ (e:=(c.aF.length:Int)) (y:=false) ?_
     rotate_left 2
     ·unfold kN
      rw [bS,au (by omega),cond_false]
     all_goals
      intro j y hy hq
      obtain ⟨rfl,hj⟩:=ca hy
      unfold kN
      rw [aq (by omega),cond_true,hK,aA,cI (by omega) (by omega),aA,H.jx (by omega) (by omega),aA,H.jk (by omega) (by omega),aA]
      unfold rE gk at hq
      by_cases e:gi c.To i=gi c.aF j
      ·rw [if_pos e] at hq
       rw [show (gi c.To (i:Int) != gi c.aF (j:Int))=false by simp [e],cond_false]
       by_cases l0:gi (gr c.aC i) j < 0
       ·rw [au (show ¬ 0≤gi (gr c.aC i) j by omega)] at hq
        rw [aq l0,cond_true,aA,cond_true]
        all_goals (first | rfl | simp at hq)
       ·rw [aq (show 0≤gi (gr c.aC i) j by omega)] at hq
        rw [au l0,cond_false]
        by_cases l1:gi (gr c.aC i) j < c.aF.length
        ·rw [aq l1] at hq
         rw [au (show ¬ gi (gr c.aC i) j ≥ c.aF.length by omega),cond_false,H.jk (by omega) l1,aA,H.jk (by omega) (by omega),aA]
         by_cases q1:gi c.aF (gi (gr c.aC i) j)=gi c.aF i
         ·rw [show (gi c.aF (gi (gr c.aC (i:Int)) (j:Int)) == gi c.aF (i:Int))=true by simp [q1]] at hq
          rw [show (gi c.aF (gi (gr c.aC (i:Int)) (j:Int)) != gi c.aF (i:Int))=false by simp [q1],cond_false,H.jx (by omega) l1,aA,H.jx (by omega) (by omega),aA,aA]
          simp only [Bool.and_self,Bool.true_and] at hq
          rw [show (gi c.To (gi (gr c.aC (i:Int)) (j:Int)) != gi c.To (j:Int)) = !(gi c.To (gi (gr c.aC (i:Int)) (j:Int)) == gi c.To (j:Int)) from rfl,hq]
          all_goals (first | rfl | rw [cond_false,bK (by omega)])
         ·rw [show (gi c.aF (gi (gr c.aC (i:Int)) (j:Int)) == gi c.aF (i:Int))=false by simp [q1]] at hq
          rw [show (gi c.aF (gi (gr c.aC (i:Int)) (j:Int)) != gi c.aF (i:Int))=true by simp [q1],cond_true]
          all_goals (first | rfl | simp at hq)
        ·rw [au l1] at hq
         rw [aq (show gi (gr c.aC i) j ≥ c.aF.length by omega),cond_true]
         all_goals (first | rfl | simp at hq)
      ·rw [if_neg e] at hq
       rw [show (gi c.To (i:Int) != gi c.aF (j:Int))=true by simp [e],cond_true,show (gi (gr c.aC (i:Int)) (j:Int) != -1) = !(gi (gr c.aC (i:Int)) (j:Int) == -1) from rfl,hq]
       all_goals (first | rfl | rw [cond_false,bK (by omega)])
    unfold mO
    rw [aq (by omega),cond_true,hK,aA]
    unfold ug at hp
    by_cases hr:(gr c.aC i).length=c.aF.length
    ·rw [show (((gr c.aC (i:Int)).length:Int) != (c.aF.length:Int))=false by simp [hr],cond_false,inner hr,lg]
     rw [show ((gr c.aC (i:Int)).length == c.aF.length)=true by simp [hr],Bool.true_and] at hp
     rw [hp,bK (by omega)]
     rfl
    ·rw [show (((gr c.aC (i:Int)).length:Int) != (c.aF.length:Int))=true by (simp; omega),cond_true]
     all_goals (rw [show ((gr c.aC (i:Int)).length == c.aF.length)=false by simp [hr],Bool.false_and] at hp; first | rfl | simp at hp)
end Go.Proofs.YtcnehblmgfbfoaaGreat
namespace Go.Proofs.YtcnehblmgfbfoaaGreat
open Go Go.Li
set_option linter.unusedSectionVars false
theorem z7 {c:aH} (H:Head c) {f:Int} (h0:0≤f) (h1:f < c.aF.length):dJ c f=some (oY.mk (gi c.aF f) (gi c.To f)):=by
 unfold dJ
 rw [H.jk h0 h1,aA,H.jx h0 h1,aA]; rfl
theorem IV {c:aH} (hs:de c):gM c=some (mj c):=by
 obtain ⟨z1,z2,z3,z4,z5⟩:=hs
 unfold gM cE
 rw [show an (S:=Unit) (some (Out.ret (c.aF.length:Int)))=some (c.aF.length:Int) from rfl,aA,yk,aA]
 have e1:((c.aC.length:Int) != (c.aF.length:Int)) = !(c.aC.length == c.aF.length):=by
  by_cases e:c.aC.length=c.aF.length
  ·simp [e]
  ·rw [show (c.aC.length == c.aF.length)=false by simp [e]]; simp; omega
 have e1':((c.To.length:Int) != (c.aF.length:Int)) = !(c.To.length == c.aF.length):=by
  by_cases e:c.To.length=c.aF.length
  ·simp [e]
  ·rw [show (c.To.length == c.aF.length)=false by simp [e]]; simp; omega
 have e2:decide ((c.aF.length:Int) > 40) = !decide (c.aF.length≤40):=by
  by_cases e:c.aF.length≤40
  ·rw [aq e,au (by omega)]; rfl
  ·rw [au e,aq (by omega)]; rfl
 have e3:((c.aG.length:Int) != c.aD) = !((c.aG.length:Int) == c.aD):=rfl
 rw [e1,e1',e2,e3,within c.aG _ (by omega) (by omega) (by omega)]
 cases hh:sa c with
 | false=>
  have:mj c=false:=by unfold mj; rw [hh]; rfl
  rw [this]
  unfold sa at hh
  cases ha:(decide (0≤c.aD) && decide (c.aD≤8)) with
  | false=>rfl
  | true=>
   rw [ha] at hh
   simp only [Bool.and_eq_true,decide_eq_true_eq] at ha
   rw [within c.aF _ (by omega) ha.1 (by omega),within c.To _ (by omega) ha.1 (by omega)]
   generalize decide (c.aF.length≤40)=a2 at *
   generalize mi c.aD c.aF=a3 at *
   generalize (c.To.length == c.aF.length)=a4 at *
   generalize mi c.aD c.To=a5 at *
   generalize (c.aC.length == c.aF.length)=a6 at *
   generalize ((c.aG.length:Int) == c.aD)=a7 at *
   generalize mi (c.aF.length:Int) c.aG=a8 at *
   cases a2 <;> first | rfl | (cases a4 <;> first | rfl | (cases a3 <;> first | rfl | (cases a5 <;> first | rfl | (cases a7 <;> first | rfl | (cases a8 <;> first | rfl | (cases a6 <;> first | rfl | (cases hh)))))))
 | true=>
  have H:=AF hh
  have DH:=hh
  unfold sa at DH
  simp only [Bool.and_eq_true] at DH
  obtain ⟨⟨⟨b1,EG⟩,b2,b3⟩,⟨b4,b5⟩,b6,b7,b8⟩:=DH
  rw [within c.aF _ (by omega) H.o0 (by have:=H.o8; omega),within c.To _ (by omega) H.o0 (by have:=H.o8; omega)]
  rw [b1,EG,b2,b3,b4,b5,b6,b8,b7]
  simp only [Bool.and_self,Bool.not_true,cond_false,aA]
  have hm:=H.m
  have qQ:=H.il
  have E0:=H.kl
  refine (congrArg an (ib (ns c.aG.length) (fun x=>!vN c x) (fun i=>(i:Int)) rfl ?_ ?_ (e:=(c.aG.length:Int)) (y:=false) ?_)).trans ?_
  ·intro i x hx hp
   obtain ⟨rfl,hi⟩:=ca hx
   have:=H.id (x:=(i:Int)) (by omega) (by omega)
   unfold fG
   unfold vN at hp
   simp only [Bool.not_eq_false'] at hp
   rw [aq (by omega),cond_true,H.py (by omega) (by omega),aA,z7 H this.1 this.2,aA]
   dsimp only
   rw [hp,Bool.not_true,cond_false,bK (by omega)]
  ·intro i x hx hp
   obtain ⟨rfl,hi⟩:=ca hx
   have:=H.id (x:=(i:Int)) (by omega) (by omega)
   unfold fG
   unfold vN at hp
   rw [aq (by omega),cond_true,H.py (by omega) (by omega),aA,z7 H this.1 this.2,aA]
   dsimp only
   rw [hp,cond_true]
  ·unfold fG
   rw [bS,au (by omega),cond_false]
  rw [lg]
  unfold mj
  rw [hh]
  cases Mw:(ns c.aG.length).all (vN c) with
  | false=>rfl
  | true=>
   simp only [Bool.not_true,Bool.false_eq_true,if_false,Bool.true_and]
   refine (congrArg an (ib (ns c.aF.length) (fun f=>!ug c f) (fun i=>(i:Int)) rfl ?_ ?_ (e:=(c.aF.length:Int)) (y:=false) ?_)).trans ?_
   rotate_left 2
   ·unfold iK
    rw [bS,au (by omega),cond_false]
   ·rw [lg]
    cases (ns c.aF.length).all (ug c) <;> rfl
   all_goals
    intro i x hx hp
    obtain ⟨rfl,hi⟩:=ca hx
    have hK:=H.qt (f:=(i:Int)) (by omega) (by omega)
    have inner:(gr c.aC i).length=c.aF.length→aj (S:=Int) (ah 4 (ai (fH c (c.aF.length:Int) i (gr c.aC i)) (0:Int))) (fun vj=>(some (Out.norm (bf ((i:Int)+(1:Int)))))) =
      if (ns c.aF.length).any (fun g=>!rE c i g) then some (.ret false) else some (Out.norm (bf ((i:Int)+(1:Int)))):=by
     intro hr
     refine ib (ns c.aF.length) (fun g=>!rE c i g) (fun j=>(j:Int)) rfl ?_ ?_ (e:=(c.aF.length:Int)) (y:=false) ?_
     rotate_left 2
     ·unfold fH
      rw [bS,au (by omega),cond_false]
     all_goals
      intro j y hy hq
      obtain ⟨rfl,hj⟩:=ca hy
      unfold fH
      rw [aq (by omega),cond_true,cI (by omega) (by omega),aA,H.jx (by omega) (by omega),aA,H.jk (by omega) (by omega),aA,lF (a:=(c.aF.length:Int) - 1) (by omega) (by omega),yk,aA]
      unfold rE gk at hq
      by_cases e:gi c.To i=gi c.aF j
      ·rw [if_pos e] at hq
       rw [show (gi c.To (i:Int) != gi c.aF (j:Int))=false by simp [e],cond_false]
       by_cases l0:0≤gi (gr c.aC i) j∧gi (gr c.aC i) j < c.aF.length
       ·rw [aq l0.1,aq l0.2] at hq
        rw [aq l0.1,aq (show gi (gr c.aC i) j≤(c.aF.length:Int) - 1 by omega)]
        simp only [Bool.and_self,Bool.not_true,cond_false,Bool.true_and] at hq ⊢
        rw [z7 H l0.1 l0.2,aA,H.jk (by omega) (by omega),aA,H.jx (by omega) (by omega),aA,aA]
        dsimp only
        rw [hq]
        all_goals (first | rfl | rw [cond_false,bK (by omega)])
       ·have l1:(decide (0≤gi (gr c.aC i) j) && decide (gi (gr c.aC i) j < c.aF.length))=false:=by
         rcases Classical.not_and_iff_not_or_not.1 l0 with h | h
         ·rw [au h]; rfl
         ·rw [au h,Bool.and_false]
        have l2:(decide (0≤gi (gr c.aC i) j) && decide (gi (gr c.aC i) j≤(c.aF.length:Int) - 1))=false:=by
         rcases Classical.not_and_iff_not_or_not.1 l0 with h | h
         ·rw [au h]; rfl
         ·rw [au (show ¬ gi (gr c.aC i) j≤(c.aF.length:Int) - 1 by omega),Bool.and_false]
        rw [l1] at hq
        rw [l2]
        all_goals (first | rfl | simp at hq)
      ·rw [if_neg e] at hq
       rw [show (gi c.To (i:Int) != gi c.aF (j:Int))=true by simp [e],cond_true,show (gi (gr c.aC (i:Int)) (j:Int) != -1) = !(gi (gr c.aC (i:Int)) (j:Int) == -1) from rfl,hq]
       all_goals (first | rfl | rw [cond_false,bK (by omega)])
    unfold iK
    rw [aq (by omega),cond_true,hK,aA]
    unfold ug at hp
    by_cases hr:(gr c.aC i).length=c.aF.length
    ·rw [show (((gr c.aC (i:Int)).length:Int) != (c.aF.length:Int))=false by simp [hr],cond_false,inner hr,lg]
     rw [show ((gr c.aC (i:Int)).length == c.aF.length)=true by simp [hr],Bool.true_and] at hp
     rw [hp,bK (by omega)]
     rfl
    ·rw [show (((gr c.aC (i:Int)).length:Int) != (c.aF.length:Int))=true by (simp; omega),cond_true]
     all_goals (rw [show ((gr c.aC (i:Int)).length == c.aF.length)=false by simp [hr],Bool.false_and] at hp; first | rfl | simp at hp)
end Go.Proofs.YtcnehblmgfbfoaaGreat
namespace Go.Proofs.YtcnehblmgfbfoaaGreat
open Go Go.Li
structure oE (c:aH):Prop extends Head c where
 Fk:∀ x:Int,0≤x→x < c.aD→gi c.aF (gi c.aG x)=x
 HZ:∀ x:Int,0≤x→x < c.aD→gi c.To (gi c.aG x)=x
 row:∀ f:Int,0≤f→f < c.aF.length→(gr c.aC f).length=c.aF.length
 cell:∀ f g:Int,0≤f→f < c.aF.length→0≤g→g < c.aF.length→gi c.To f=gi c.aF g→
  0≤gk c.aC f g∧gk c.aC f g < c.aF.length∧gi c.aF (gk c.aC f g)=gi c.aF f∧gi c.To (gk c.aC f g)=gi c.To g
 none:∀ f g:Int,0≤f→f < c.aF.length→0≤g→g < c.aF.length→gi c.To f≠gi c.aF g→gk c.aC f g = -1
theorem zb {c:aH} (h:mj c=true):oE c:=by
 unfold mj at h
 simp only [Bool.and_eq_true,List.all_eq_true] at h
 obtain ⟨h1,h2,h3⟩:=h
 have H:=AF h1
 have qQ:=H.il
 have Mw:∀ x,0≤x→x < c.aD→vN c x=true:=fun x a b=>h2 x (cu.2 ⟨a,by omega⟩)
 have bo:∀ f,0≤f→f < (c.aF.length:Int)→ug c f=true:=fun f a b=>h3 f (cu.2 ⟨a,b⟩)
 have ox:∀ f g,0≤f→f < (c.aF.length:Int)→0≤g→g < (c.aF.length:Int)→rE c f g=true:=fun f g a b a' b'=>by
  have:=bo f a b
  unfold ug at this
  simp only [Bool.and_eq_true,List.all_eq_true] at this
  exact this.2 g (cu.2 ⟨a',b'⟩)
 refine { H with
  Fk:=fun x a b=>?_
  HZ:=fun x a b=>?_
  row:=fun f a b=>?_
  cell:=fun f g a b a' b' e=>?_
  none:=fun f g a b a' b' e=>?_ }
 ·have:=Mw x a b; unfold vN at this; simp at this; exact this.1
 ·have:=Mw x a b; unfold vN at this; simp at this; exact this.2
 ·have:=bo f a b; unfold ug at this; simp only [Bool.and_eq_true,beq_iff_eq] at this; exact this.1
 ·have:=ox f g a b a' b'; unfold rE at this; rw [if_pos e] at this; simp only [Bool.and_eq_true,decide_eq_true_eq,beq_iff_eq] at this; exact ⟨this.1.1,this.1.2,this.2.1,this.2.2⟩
 ·have:=ox f g a b a' b'; unfold rE at this; rw [if_neg e] at this; simpa using this
namespace oE
variable {c:aH} (h:oE c)
include h
theorem qu {f g:Int} (h0:0≤f) (h1:f < c.aF.length) (h2:0≤g) (h3:g < c.aF.length):idx (gr c.aC f) g=some (gk c.aC f g):=cI h2 (by rw [h.row f h0 h1]; exact h3)
theorem nc {f g:Int} (h0:0≤f) (h1:f < c.aF.length) (h2:0≤g) (h3:g < c.aF.length):bT c f g=some (gk c.aC f g):=by
 unfold bT; rw [h.qt h0 h1,aA,h.qu h0 h1 h2 h3,aA]; rfl
theorem thenS {f g:Int} (h0:0≤f) (h1:f < c.aF.length) (h2:0≤g) (h3:g < c.aF.length):cJ c f g=some (gk c.aC f g):=by
 unfold cJ; rw [h.qt h0 h1,aA,h.qu h0 h1 h2 h3,aA]; rfl
end oE
def rF (c:aH) (f:Int):Bool:=gk c.aC (gi c.aG (gi c.aF f)) f == f && gk c.aC f (gi c.aG (gi c.To f)) == f
def sQ (c:aH) (f g h:Int):Bool:=gi c.To g == gi c.aF h && gk c.aC (gk c.aC f g) h != gk c.aC f (gk c.aC g h)
def xP (c:aH) (f g:Int):Bool:=gi c.To f == gi c.aF g && (ns c.aF.length).any (sQ c f g)
def AH (c:aH) (f:Int):Bool:=(ns c.aF.length).any (xP c f)
def wM (c:aH):Bool:=(ns c.aF.length).all (rF c) && !((ns c.aF.length).any (AH c))
theorem FK {c:aH} {k1 k2 k4 k6:Nat} {L0:Int→Option (Out Int (Int×Int×Int×Int))} {L1:Int→Option (Out Int (Int×Int×Int×Int))} {L2:Int→Int→Option (Out Int (Int×Int×Int×Int))} {L3:Int→Int→Int→Option (Out Int (Int×Int×Int×Int))} {z:Int×Int×Int×Int} (hz:z.1=0)
  (a0:∀ i:Nat,i < c.aF.length→rF c i=true→L0 i=some (.norm ((i+1:Nat):Int)))
  (a1:∀ i:Nat,i < c.aF.length→rF c i=false→∃ y,L0 i=some (.ret y)∧y.1≠0)
  (a2:L0 c.aF.length=some (.exit k1 c.aF.length))
  (b0:∀ i:Nat,i < c.aF.length→L1 i=aj (ah k4 (ai (L2 i) 0)) fun _=>some (.norm ((i+1:Nat):Int)))
  (b2:L1 c.aF.length=some (.exit k2 c.aF.length))
  (d0:∀ i j:Nat,i < c.aF.length→j < c.aF.length→gi c.To i≠gi c.aF j→L2 i j=some (.norm ((j+1:Nat):Int)))
  (d1:∀ i j:Nat,i < c.aF.length→j < c.aF.length→gi c.To i=gi c.aF j→L2 i j=aj (ah k6 (ai (L3 i j) 0)) fun _=>some (.norm ((j+1:Nat):Int)))
  (d2:∀ i:Nat,L2 i c.aF.length=some (.exit k4 c.aF.length))
  (e0:∀ i j h:Nat,i < c.aF.length→j < c.aF.length→h < c.aF.length→gi c.To i=gi c.aF j→sQ c i j h=false→L3 i j h=some (.norm ((h+1:Nat):Int)))
  (e1:∀ i j h:Nat,i < c.aF.length→j < c.aF.length→h < c.aF.length→gi c.To i=gi c.aF j→sQ c i j h=true→∃ y,L3 i j h=some (.ret y)∧y.1≠0)
  (e2:∀ i j:Nat,L3 i j c.aF.length=some (.exit k6 c.aF.length)) :
  ∃ y,an (S:=Unit) (aj (ah k1 (ai L0 0)) fun _=>aj (ah k2 (ai L1 0)) fun _=>some (.ret z))=some y∧(y.1 == 0)=wM c:=by
 have Uu:∀ i j:Nat,i < c.aF.length→j < c.aF.length→gi c.To i=gi c.aF j→
   ((ns c.aF.length).any (sQ c i j)=true∧∃ y,aj (S:=Int) (ah k6 (ai (L3 i j) 0)) (fun _=>some (.norm ((j+1:Nat):Int)))=some (.ret y)∧y.1≠0)∨
   ((ns c.aF.length).any (sQ c i j)=false∧aj (S:=Int) (ah k6 (ai (L3 i j) 0)) (fun _=>some (.norm ((j+1:Nat):Int)))=some (.norm ((j+1:Nat):Int))):=by
  intro i j hi hj he
  refine uf (ns c.aF.length) (sQ c i j) (fun y:Int×Int×Int×Int=>y.1≠0) (fun h=>(h:Int)) rfl ?_ ?_ (e:=(c.aF.length:Int)) (by rw [bS]; exact e2 i j)
  ·intro h x hx hp; obtain ⟨rfl,hh⟩:=ca hx; exact e0 i j h hi hj hh he hp
  ·intro h x hx hp; obtain ⟨rfl,hh⟩:=ca hx; exact e1 i j h hi hj hh he hp
 have Uv:∀ i:Nat,i < c.aF.length→
   ((ns c.aF.length).any (xP c i)=true∧∃ y,aj (S:=Int) (ah k4 (ai (L2 i) 0)) (fun _=>some (.norm ((i+1:Nat):Int)))=some (.ret y)∧y.1≠0)∨
   ((ns c.aF.length).any (xP c i)=false∧aj (S:=Int) (ah k4 (ai (L2 i) 0)) (fun _=>some (.norm ((i+1:Nat):Int)))=some (.norm ((i+1:Nat):Int))):=by
  intro i hi
  refine uf (ns c.aF.length) (xP c i) (fun y:Int×Int×Int×Int=>y.1≠0) (fun h=>(h:Int)) rfl ?_ ?_ (e:=(c.aF.length:Int)) (by rw [bS]; exact d2 i)
  ·intro j x hx hp
   obtain ⟨rfl,hj⟩:=ca hx
   by_cases he:gi c.To i=gi c.aF j
   ·rw [d1 i j hi hj he]
    rcases Uu i j hi hj he with ⟨h1,_⟩ | ⟨_,h2⟩
    ·unfold xP at hp; rw [h1] at hp; simp [he] at hp
    ·exact h2
   ·exact d0 i j hi hj he
  ·intro j x hx hp
   obtain ⟨rfl,hj⟩:=ca hx
   unfold xP at hp
   simp only [Bool.and_eq_true,beq_iff_eq] at hp
   rw [d1 i j hi hj hp.1]
   rcases Uu i j hi hj hp.1 with ⟨_,h⟩ | ⟨h1,_⟩
   ·exact h
   ·rw [hp.2] at h1; cases h1
 rcases uf (s0:=(0:Int)) (S:=Unit) (R:=Int×Int×Int×Int) (k:=k1) (body:=L0) (f:=fun _=>aj (ah k2 (ai L1 0)) fun _=>some (.ret z)) (ns c.aF.length) (fun i=>!rF c i) (fun y:Int×Int×Int×Int=>y.1≠0) (fun i=>(i:Int)) rfl
   (fun i x hx hp=>by obtain ⟨rfl,hi⟩:=ca hx; exact a0 i hi (by simpa using hp)) (fun i x hx hp=>by obtain ⟨rfl,hi⟩:=ca hx; exact a1 i hi (by simpa using hp)) (e:=(c.aF.length:Int)) (by rw [bS]; exact a2) with ⟨h1,y,h2,h3⟩ | ⟨h1,h2⟩
 ·refine ⟨y,by rw [h2]; rfl,?_⟩
  unfold wM
  rw [lg] at h1
  simp only [Bool.not_eq_true'] at h1
  rw [h1]
  simpa using h3
 ·rw [lg] at h1
  simp only [Bool.not_eq_false'] at h1
  rw [h2]
  rcases uf (s0:=(0:Int)) (S:=Unit) (R:=Int×Int×Int×Int) (k:=k2) (body:=L1) (f:=fun _=>some (.ret z)) (ns c.aF.length) (AH c) (fun y:Int×Int×Int×Int=>y.1≠0) (fun i=>(i:Int)) rfl
   (fun i x hx hp=>by
    obtain ⟨rfl,hi⟩:=ca hx
    rw [b0 i hi]
    rcases Uv i hi with ⟨q1,_⟩ | ⟨_,q2⟩
    ·unfold AH at hp; rw [q1] at hp; cases hp
    ·exact q2)
   (fun i x hx hp=>by
    obtain ⟨rfl,hi⟩:=ca hx
    rw [b0 i hi]
    rcases Uv i hi with ⟨_,q⟩ | ⟨q1,_⟩
    ·exact q
    ·unfold AH at hp; rw [q1] at hp; cases hp) (e:=(c.aF.length:Int)) (by rw [bS]; exact b2) with ⟨g1,y,g2,g3⟩ | ⟨g1,g2⟩
  ·refine ⟨y,by rw [g2]; rfl,?_⟩
   unfold wM
   rw [h1,g1]
   simpa using g3
  ·refine ⟨z,by rw [g2]; rfl,?_⟩
   unfold wM
   rw [h1,g1,hz]
   rfl
section
variable {c:aH} (H:oE c)
include H
theorem IW:∃ y,mD c=some y∧(y.1 == 0)=wM c:=by
 have hm:=H.m
 have qQ:=H.il
 have u0:∀ i:Nat,i < c.aF.length→kC c i=if rF c i then some (Out.norm ((i+1:Nat):Int)) else some (Out.ret ((1:Int),(i:Int),(0:Int),(0:Int))):=by
  intro i hi
  have f1:=H.fr (f:=(i:Int)) (by omega) (by omega)
  have t1:=H.to (f:=(i:Int)) (by omega) (by omega)
  have i1:=H.id f1.1 f1.2
  have i2:=H.id t1.1 t1.2
  unfold kC
  rw [aq (by omega),cond_true,H.jk (by omega) (by omega),aA,H.py f1.1 f1.2,aA,H.qt i1.1 i1.2,aA,H.qu i1.1 i1.2 (by omega) (by omega),aA]
  rw [H.qt (by omega) (by omega),aA,H.jx (by omega) (by omega),aA,H.py t1.1 t1.2,aA,H.qu (by omega) (by omega) i2.1 i2.2,aA]
  unfold rF
  by_cases e1:gk c.aC (gi c.aG (gi c.aF i)) i=i
  ·by_cases e2:gk c.aC i (gi c.aG (gi c.To i))=i
   ·simp [e1,e2,bK (show i < 9223372036854775807 by omega)]
   ·simp [e1,e2,p5 e2]
  ·simp [e1,p5 e1]
 unfold mD
 refine FK (c:=c) (z:=(0,0,0,0)) rfl (L2:=iI c) (L3:=iG c) (k4:=4) (k6:=6) ?_ ?_ ?_ ?_ ?_ ?_ ?_ ?_ ?_ ?_ ?_
 ·intro i hi hp; rw [u0 i hi,hp]; rfl
 ·intro i hi hp; rw [u0 i hi,hp]; exact ⟨_,rfl,by simp⟩
 ·unfold kC; rw [au (by omega),cond_false]
 ·intro i hi; unfold mH; rw [aq (by omega),cond_true,bK (by omega)]
 ·unfold mH; rw [au (by omega),cond_false]
 ·intro i j hi hj he
  unfold iI
  rw [aq (by omega),cond_true,H.jx (by omega) (by omega),aA,H.jk (by omega) (by omega),aA,show (gi c.To (i:Int) != gi c.aF (j:Int))=true by simp [he],cond_true,bK (by omega)]
 ·intro i j hi hj he
  unfold iI
  rw [aq (by omega),cond_true,H.jx (by omega) (by omega),aA,H.jk (by omega) (by omega),aA,show (gi c.To (i:Int) != gi c.aF (j:Int))=false by simp [he],cond_false,bK (by omega)]
 ·intro i; unfold iI; rw [au (by omega),cond_false]
 ·intro i j h hi hj hh he hp
  unfold iG
  rw [aq (by omega),cond_true,H.jx (by omega) (by omega),aA,H.jk (by omega) (by omega),aA]
  unfold sQ at hp
  by_cases e:gi c.To j=gi c.aF h
  ·have c1:=H.cell i j (by omega) (by omega) (by omega) (by omega) he
   have c2:=H.cell j h (by omega) (by omega) (by omega) (by omega) e
   rw [show (gi c.To (j:Int) == gi c.aF (h:Int))=true by simp [e]] at hp ⊢
   rw [cond_true,H.qt (by omega) (by omega),aA,H.qu (by omega) (by omega) (by omega) (by omega),aA,H.qt c1.1 c1.2.1,aA,H.qu c1.1 c1.2.1 (by omega) (by omega),aA,aA,H.qt (by omega) (by omega),aA,H.qu (by omega) (by omega) (by omega) (by omega),aA,H.qu (by omega) (by omega) c2.1 c2.2.1,aA]
   rw [Bool.true_and] at hp
   rw [hp,aA,cond_false,bK (by omega)]
  ·rw [show (gi c.To (j:Int) == gi c.aF (h:Int))=false by simp [e],cond_false,aA,cond_false,bK (by omega)]
 ·intro i j h hi hj hh he hp
  unfold iG
  rw [aq (by omega),cond_true,H.jx (by omega) (by omega),aA,H.jk (by omega) (by omega),aA]
  unfold sQ at hp
  simp only [Bool.and_eq_true] at hp
  have e:gi c.To j=gi c.aF h:=by simpa using hp.1
  have c1:=H.cell i j (by omega) (by omega) (by omega) (by omega) he
  have c2:=H.cell j h (by omega) (by omega) (by omega) (by omega) e
  rw [hp.1,cond_true,H.qt (by omega) (by omega),aA,H.qu (by omega) (by omega) (by omega) (by omega),aA,H.qt c1.1 c1.2.1,aA,H.qu c1.1 c1.2.1 (by omega) (by omega),aA,aA,H.qt (by omega) (by omega),aA,H.qu (by omega) (by omega) (by omega) (by omega),aA,H.qu (by omega) (by omega) c2.1 c2.2.1,aA]
  rw [hp.2,aA,cond_true]
  exact ⟨_,rfl,by simp⟩
 ·intro i j; unfold iG; rw [au (by omega),cond_false]
theorem IX:∃ y,iO c=some y∧(y.1 == 0)=wM c:=by
 have hm:=H.m
 have qQ:=H.il
 have u0:∀ i:Nat,i < c.aF.length→fZ c c.aF.length i=if rF c i then some (Out.norm ((i+1:Nat):Int)) else some (Out.ret ((1:Int),(i:Int),(0:Int),(0:Int))):=by
  intro i hi
  have f1:=H.fr (f:=(i:Int)) (by omega) (by omega)
  have t1:=H.to (f:=(i:Int)) (by omega) (by omega)
  have i1:=H.id f1.1 f1.2
  have i2:=H.id t1.1 t1.2
  unfold fZ
  rw [aq (by omega),cond_true,H.jk (by omega) (by omega),aA,H.py f1.1 f1.2,aA,H.nc i1.1 i1.2 (by omega) (by omega),aA]
  rw [H.jx (by omega) (by omega),aA,H.py t1.1 t1.2,aA,H.nc (by omega) (by omega) i2.1 i2.2,aA]
  unfold rF
  by_cases e1:gk c.aC (gi c.aG (gi c.aF i)) i=i
  ·by_cases e2:gk c.aC i (gi c.aG (gi c.To i))=i
   ·simp [e1,e2,bK (show i < 9223372036854775807 by omega)]
   ·simp [e1,e2,p5 e2]
  ·simp [e1,p5 e1]
 have pos:∀ i j:Nat,i < c.aF.length→j < c.aF.length→(gi c.To i=gi c.aF j→0≤gk c.aC i j)∧(gi c.To i≠gi c.aF j→gk c.aC i j < 0):=by
  intro i j hi hj
  refine ⟨fun e=>(H.cell i j (by omega) (by omega) (by omega) (by omega) e).1,fun e=>?_⟩
  rw [H.none i j (by omega) (by omega) (by omega) (by omega) e]; decide
 unfold iO cE
 rw [show an (S:=Unit) (some (Out.ret (c.aF.length:Int)))=some (c.aF.length:Int) from rfl,aA]
 refine FK (c:=c) (z:=(0,0,0,0)) rfl (L2:=eW c c.aF.length) (L3:=eV c c.aF.length) (k4:=4) (k6:=6) ?_ ?_ ?_ ?_ ?_ ?_ ?_ ?_ ?_ ?_ ?_
 ·intro i hi hp; rw [u0 i hi,hp]; rfl
 ·intro i hi hp; rw [u0 i hi,hp]; exact ⟨_,rfl,by simp⟩
 ·unfold fZ; rw [au (by omega),cond_false]
 ·intro i hi; unfold jI; rw [aq (by omega),cond_true,bK (by omega)]
 ·unfold jI; rw [au (by omega),cond_false]
 ·intro i j hi hj he
  unfold eW
  rw [aq (by omega),cond_true,H.nc (by omega) (by omega) (by omega) (by omega),aA,aq ((pos i j hi hj).2 he),cond_true,bK (by omega)]
 ·intro i j hi hj he
  have:=(pos i j hi hj).1 he
  unfold eW
  rw [aq (by omega),cond_true,H.nc (by omega) (by omega) (by omega) (by omega),aA,au (by omega),cond_false,bK (by omega)]
 ·intro i; unfold eW; rw [au (by omega),cond_false]
 ·intro i j h hi hj hh he hp
  unfold eV
  rw [aq (by omega),cond_true,H.nc (by omega) (by omega) (by omega) (by omega),aA]
  unfold sQ at hp
  by_cases e:gi c.To j=gi c.aF h
  ·have c1:=H.cell i j (by omega) (by omega) (by omega) (by omega) he
   have c2:=H.cell j h (by omega) (by omega) (by omega) (by omega) e
   rw [show (gi c.To (j:Int) == gi c.aF (h:Int))=true by simp [e],Bool.true_and] at hp
   rw [aq (show gk c.aC j h ≥ 0 from c2.1),cond_true,H.nc (by omega) (by omega) (by omega) (by omega),aA,H.nc c1.1 c1.2.1 (by omega) (by omega),aA,aA,H.nc (by omega) (by omega) c2.1 c2.2.1,aA,hp,aA,cond_false,bK (by omega)]
  ·have:=(pos j h hj hh).2 e
   rw [au (show ¬ gk c.aC j h ≥ 0 by omega),cond_false,aA,cond_false,bK (by omega)]
 ·intro i j h hi hj hh he hp
  unfold eV
  unfold sQ at hp
  simp only [Bool.and_eq_true] at hp
  have e:gi c.To j=gi c.aF h:=by simpa using hp.1
  have c1:=H.cell i j (by omega) (by omega) (by omega) (by omega) he
  have c2:=H.cell j h (by omega) (by omega) (by omega) (by omega) e
  rw [aq (by omega),cond_true,H.nc (by omega) (by omega) (by omega) (by omega),aA,aq (show gk c.aC j h ≥ 0 from c2.1),cond_true,H.nc (by omega) (by omega) (by omega) (by omega),aA,H.nc c1.1 c1.2.1 (by omega) (by omega),aA,aA,H.nc (by omega) (by omega) c2.1 c2.2.1,aA,hp.2,aA,cond_true]
  exact ⟨_,rfl,by simp⟩
 ·intro i j; unfold eV; rw [au (by omega),cond_false]
end
structure gp (c:aH):Prop extends oE c where
 BZ:∀ f:Int,0≤f→f < c.aF.length→gk c.aC (gi c.aG (gi c.aF f)) f=f
 zC:∀ f:Int,0≤f→f < c.aF.length→gk c.aC f (gi c.aG (gi c.To f))=f
 assoc:∀ f g h:Int,0≤f→f < c.aF.length→0≤g→g < c.aF.length→0≤h→h < c.aF.length→gi c.To f=gi c.aF g→gi c.To g=gi c.aF h→
  gk c.aC (gk c.aC f g) h=gk c.aC f (gk c.aC g h)
def lq (c:aH):Bool:=mj c && wM c
theorem uh {c:aH} (h:lq c=true):gp c:=by
 unfold lq at h
 simp only [Bool.and_eq_true] at h
 obtain ⟨h1,h2⟩:=h
 have H:=zb h1
 unfold wM at h2
 simp only [Bool.and_eq_true,List.all_eq_true,Bool.not_eq_true',List.any_eq_false] at h2
 obtain ⟨h2,h3⟩:=h2
 refine { H with
  BZ:=fun f a b=>?_
  zC:=fun f a b=>?_
  assoc:=fun f g h a b a' b' a'' b'' e1 e2=>?_ }
 ·have:=h2 f (cu.2 ⟨a,b⟩); unfold rF at this; simp at this; exact this.1
 ·have:=h2 f (cu.2 ⟨a,b⟩); unfold rF at this; simp at this; exact this.2
 ·have:=h3 f (cu.2 ⟨a,b⟩)
  unfold AH at this
  simp only [List.any_eq_true,not_exists,not_and] at this
  have:=this g (cu.2 ⟨a',b'⟩)
  unfold xP at this
  simp only [Bool.and_eq_true,beq_iff_eq,List.any_eq_true,not_and,not_exists] at this
  have:=this e1 h (cu.2 ⟨a'',b''⟩)
  unfold sQ at this
  simpa [e2] using this
theorem IY {c:aH} (hs:de c):mQ c=some (lq c):=by
 unfold mQ
 rw [IU hs,aA]
 unfold lq
 cases h:mj c with
 | false=>rfl
 | true=>
  obtain ⟨y,h1,h2⟩:=IW (zb h)
  rw [Bool.not_true,cond_false,h1,aA,h2]; rfl
theorem IZ {c:aH} (hs:de c):fI c=some (lq c):=by
 unfold fI
 rw [IV hs,aA]
 unfold lq
 cases h:mj c with
 | false=>rfl
 | true=>
  obtain ⟨y,h1,h2⟩:=IX (zb h)
  rw [Bool.not_true,cond_false,h1,aA,h2]; rfl
end Go.Proofs.YtcnehblmgfbfoaaGreat
