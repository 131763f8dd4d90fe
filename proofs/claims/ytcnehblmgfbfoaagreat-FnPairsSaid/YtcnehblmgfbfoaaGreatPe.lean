/- Is a table a category: the reference and the program agree, and what is known of a category. No condition beside those that each theorem names. -/
import Derived.Test.YtcnehblmgfbfoaaGreatPa
set_option linter.unusedVariables false
set_option linter.unusedSectionVars false
set_option linter.unusedSimpArgs false
namespace Go.Li
open Go
section
variable {S S1 R α:Type} {body:S1→Option (Out S1 R)}
theorem yu {k:Nat} {f:S1→Option (Out S R)} {s0 e:S1} (l:List α) (p:α→Bool) (G:R→Prop) (st:Nat→S1) (h0:st 0=s0) (step:∀ i x,l[i]? = some x→p x=false→body (st i)=some (.norm (st (i+1))))
  (K6:∀ i x,l[i]? = some x→p x=true→∃ y,body (st i)=some (.ret y)∧G y) (last:body (st l.length)=some (.exit k e)) :
  (l.any p=true∧∃ y,ah (ab k (aj body s0)) f=some (.ret y)∧G y)∨(l.any p=false∧ah (ab k (aj body s0)) f=f e):=by
 have key:∀ (m:List α) (i:Nat),l.drop i=m→i≤l.length→(m.any p=true∧∃ y,aj body (st i)=some (.ret y)∧G y)∨(m.any p=false∧aj body (st i)=some (.exit k e)):=by
  intro m
  induction m with
  | nil=>
   intro i hd hi
   have:i=l.length:=by have:=congrArg List.length hd; simp at this; omega
   subst this
   exact .inr ⟨rfl,uQ last⟩
  | cons x m ih=>
   intro i hd hi
   have bc:i < l.length:=by
    rcases Nat.lt_or_ge i l.length with h | h
    ·exact h
    ·rw [List.drop_eq_nil_of_le h] at hd; cases hd
   have hx:l[i]? = some x:=by
    rw [List.drop_eq_getElem_cons bc] at hd
    rw [List.getElem?_eq_getElem bc]; exact congrArg some (List.cons.inj hd).1
   have jg:l.drop (i+1)=m:=by
    rw [List.drop_eq_getElem_cons bc] at hd; exact (List.cons.inj hd).2
   cases hp:p x with
   | true=>
    obtain ⟨y,hy,hg⟩:=K6 i x hx hp
    exact .inl ⟨by simp [hp],y,zN hy,hg⟩
   | false=>
    rw [rR,step i x hx hp]
    simpa [hp] using ih (i+1) jg bc
 rcases key l 0 rfl (Nat.zero_le _) with ⟨h1,y,h2,h3⟩ | ⟨h1,h2⟩
 ·rw [h0] at h2; exact .inl ⟨h1,y,CF h2,h3⟩
 ·rw [h0] at h2; exact .inr ⟨h1,xx h2⟩
theorem K8 {n i x:Nat} (h:(List.range n)[i]? = some x):x=i∧i < n:=by
 have hi:=bg h
 rw [List.getElem?_eq_getElem hi] at h
 simp at h hi
 exact ⟨h.symm,hi⟩
end
def gi (l:List Int) (j:Int):Int:=l.getD j.toNat 0
def gr (l:List (List Int)) (j:Int):List Int:=l.getD j.toNat []
def gk (l:List (List Int)) (i j:Int):Int:=gi (gr l i) j
theorem bV {l:List Int} {j:Int} (h0:0≤j) (h1:j < l.length):idx l j=some (gi l j):=by
 rw [zO h0 h1]; unfold gi; rw [List.getD_eq_getElem?_getD,List.getElem?_eq_getElem (by omega)]; rfl
theorem qt {l:List (List Int)} {j:Int} (h0:0≤j) (h1:j < l.length):idx l j=some (gr l j):=by
 rw [zO h0 h1]; unfold gr; rw [List.getD_eq_getElem?_getD,List.getElem?_eq_getElem (by omega)]; rfl
theorem gw {l:List Int} {j:Int} (h0:0≤j) (h1:j < l.length):gi l j∈l:=by
 unfold gi; rw [List.getD_eq_getElem?_getD,List.getElem?_eq_getElem (by omega)]; exact List.getElem_mem _
theorem pq {l:List (List Int)} {j:Int} (h0:0≤j) (h1:j < l.length):gr l j∈l:=by
 unfold gr; rw [List.getD_eq_getElem?_getD,List.getElem?_eq_getElem (by omega)]; exact List.getElem_mem _
def ns (n:Nat):List Int:=(List.range n).map Int.ofNat
theorem fl {n i:Nat} {x:Int} (h:(ns n)[i]? = some x):x=(i:Int)∧i < n:=by
 unfold ns at h
 rw [List.getElem?_map] at h
 cases hr:(List.range n)[i]? with
 | none=>rw [hr] at h; cases h
 | some y=>
  rw [hr] at h
  obtain ⟨rfl,hi⟩:=K8 hr
  exact ⟨(Option.some.inj h).symm,hi⟩
theorem cA (n:Nat):(ns n).length=n:=by simp [ns]
theorem ez {n:Nat} {x:Int}:x∈ns n↔0≤x∧x < n:=by
 unfold ns
 simp only [List.mem_map,List.mem_range]
 constructor
 ·rintro ⟨a,h1,rfl⟩; simp; omega
 ·rintro ⟨h1,h2⟩; exact ⟨x.toNat,by omega,by simp; omega⟩
end Go.Li
namespace Go.Proofs.YtcnehblmgfbfoaaGreat
open Go Go.Li
def oq (n:Int) (f:List Int):Bool:=f.all fun y=>decide (0≤y) && decide (y < n)
theorem qX {n:Int} {f:List Int}:oq n f=true↔∀ y∈f,0≤y∧y < n:=by simp [oq]
theorem o4 {α:Type} (l:List α) (p:α→Bool):l.any (fun x=>!p x) = !l.all p:=by
 induction l with
 | nil=>rfl
 | cons a l ih=>simp only [List.any_cons,List.all_cons,ih,Bool.not_and]
theorem Ax (n:Int) (f:List Int) (hf:f.length≤1048576000):gZ n f=some (oq n f):=by
 unfold gZ
 refine (congrArg an (ks f (fun y=>!(decide (0≤y) && decide (y < n))) (fun i=>(i:Int)) rfl ?_ ?_ (e:=(f.length:Int)) (y:=false) ?_)).trans ?_
 ·intro i x hx hp
  have hi:=bg hx
  unfold jY
  simp only [Bool.not_eq_false',Bool.and_eq_true,decide_eq_true_eq] at hp
  rw [au (by omega),cond_true,bw,hx,aE,ba (by omega),cond_false,aE,ba (by omega),aE,cond_false,bD (by omega)]
 ·intro i x hx hp
  have hi:=bg hx
  unfold jY
  rw [au (by omega),cond_true,bw,hx,aE,aE]
  by_cases h:x < 0
  ·rw [au h,cond_true,aE,cond_true]
  ·have:n≤x:=by simp at hp; omega
   rw [ba h,cond_false,au (by omega),aE,cond_true]
 ·unfold jY
  rw [ba (by omega),cond_false]
 ·rw [o4]
  show an (if (!oq n f)=true then _ else _)=_
  cases oq n f <;> rfl
theorem Ay (n a b:Int):dG n a b=some (decide (a≤n) && decide (n≤b)):=by
 unfold dG
 by_cases h:a≤n
 ·rw [au (show n ≥ a from h),cond_true]; rfl
 ·rw [ba (show ¬ n ≥ a from h),cond_false]; rfl
theorem TF (n a b:Int):nB n a b=some (decide (a≤n) && decide (n≤b)):=by
 unfold nB
 by_cases h:a≤n
 ·rw [au (show n ≥ a from h),cond_true]; rfl
 ·rw [ba (show ¬ n ≥ a from h),cond_false]; rfl
theorem within (f:List Int) (n:Int) (hf:f.length≤1048576000) (hn:0≤n) (HM:n≤1048576000):dC f n=some (oq n f):=by
 unfold dC
 refine (congrArg an (ks f (fun y=>!(decide (0≤y) && decide (y < n))) (fun i=>(i:Int)) rfl ?_ ?_ (e:=(f.length:Int)) (y:=false) ?_)).trans ?_
 ·intro i x hx hp
  have hi:=bg hx
  unfold fU
  simp only [Bool.not_eq_false',Bool.and_eq_true,decide_eq_true_eq] at hp
  rw [au (by omega),cond_true,bw,hx,aE,bX (by omega) (by omega),Ay,aE,au hp.1,au (by omega)]
  simp only [Bool.and_self,Bool.not_true,cond_false]
  rw [bD (by omega)]
 ·intro i x hx hp
  have hi:=bg hx
  unfold fU
  rw [au (by omega),cond_true,bw,hx,aE,bX (by omega) (by omega),Ay,aE]
  have:(decide (0≤x) && decide (x≤n - 1))=false:=by
   by_cases h:x < 0
   ·rw [ba (by omega)]; rfl
   ·have:n≤x:=by simp at hp; omega
    rw [ba (show ¬ x≤n - 1 by omega),Bool.and_false]
  rw [this]; rfl
 ·unfold fU
  rw [ba (by omega),cond_false]
 ·rw [o4]
  show an (if (!oq n f)=true then _ else _)=_
  cases oq n f <;> rfl
def tF (c:aD):Bool:=((decide (0≤c.aA) && decide (c.aA≤8)) && (decide (c.aB.length≤40) && oq c.aA c.aB)) && (((c.To.length == c.aB.length) && oq c.aA c.To) && ((c.aC.length == c.aB.length) && (((c.aF.length:Int) == c.aA) && oq c.aB.length c.aF)))
def xz (c:aD) (x:Int):Bool:=gi c.aB (gi c.aF x) == x && gi c.To (gi c.aF x) == x
def sT (c:aD) (f g:Int):Bool:=
 if gi c.To f=gi c.aB g then (decide (0≤gk c.aC f g) && decide (gk c.aC f g < c.aB.length)) && (gi c.aB (gk c.aC f g) == gi c.aB f && gi c.To (gk c.aC f g) == gi c.To g)
 else gk c.aC f g == -1
def vW (c:aD) (f:Int):Bool:=((gr c.aC f).length == c.aB.length) && (ns c.aB.length).all fun g=>sT c f g
def pr (c:aD):Bool:=tF c && ((ns c.aF.length).all (xz c) && (ns c.aB.length).all (vW c))
structure Head (c:aD):Prop where
 o0:0≤c.aA
 o8:c.aA≤8
 m:c.aB.length≤40
 f:∀ x∈c.aB,0≤x∧x < c.aA
 tl:c.To.length=c.aB.length
 t:∀ x∈c.To,0≤x∧x < c.aA
 kl:c.aC.length=c.aB.length
 il:(c.aF.length:Int)=c.aA
 i:∀ x∈c.aF,0≤x∧x < c.aB.length
theorem C9 {c:aD} (h:tF c=true):Head c:=by
 unfold tF at h
 simp only [Bool.and_eq_true,decide_eq_true_eq,qX,beq_iff_eq] at h
 obtain ⟨⟨⟨h1,h2⟩,h3,h4⟩,⟨h5,h6⟩,h7,h8,h9⟩:=h
 exact ⟨h1,h2,h3,h4,h5,h6,h7,h8,h9⟩
set_option linter.unusedSectionVars false
namespace Head
variable {c:aD} (h:Head c)
include h
theorem fr {f:Int} (h0:0≤f) (h1:f < c.aB.length):0≤gi c.aB f∧gi c.aB f < c.aA:=h.f _ (gw h0 h1)
theorem to {f:Int} (h0:0≤f) (h1:f < c.aB.length):0≤gi c.To f∧gi c.To f < c.aA:=h.t _ (gw h0 (by rw [h.tl]; exact h1))
theorem id {x:Int} (h0:0≤x) (h1:x < c.aA):0≤gi c.aF x∧gi c.aF x < c.aB.length:=h.i _ (gw h0 (by rw [h.il]; exact h1))
theorem j5 {f:Int} (h0:0≤f) (h1:f < c.aB.length):idx c.aB f=some (gi c.aB f):=bV h0 h1
theorem ke {f:Int} (h0:0≤f) (h1:f < c.aB.length):idx c.To f=some (gi c.To f):=bV h0 (by rw [h.tl]; exact h1)
theorem l6 {x:Int} (h0:0≤x) (h1:x < c.aA):idx c.aF x=some (gi c.aF x):=bV h0 (by rw [h.il]; exact h1)
theorem mx {f:Int} (h0:0≤f) (h1:f < c.aB.length):idx c.aC f=some (gr c.aC f):=qt h0 (by rw [h.kl]; exact h1)
end Head
theorem K9 {c:aD} (hs:dv c):lW c=some (pr c):=by
 obtain ⟨z1,z2,z3,z4,z5⟩:=hs
 have ends:∀ (l:List Int) (n:Nat) (o:Int),l.length≤1048576→jO l (n:Int) o=some ((l.length == n) && oq o l):=by
  intro l n o hl
  unfold jO
  by_cases e:l.length=n
  ·rw [show ((l.length:Int) == (n:Int))=true by simp [e],cond_true,Ax _ _ (by omega),show (l.length == n)=true by simp [e]]; rfl
  ·rw [show ((l.length:Int) == (n:Int))=false by simp; omega,cond_false,show (l.length == n)=false by simp [e]]; rfl
 unfold lW
 rw [TF,aE,ends _ _ _ z1,ends _ _ _ z2]
 have e1:((c.aC.length:Int) != (c.aB.length:Int)) = !(c.aC.length == c.aB.length):=by
  by_cases e:c.aC.length=c.aB.length
  ·simp [e]
  ·rw [show (c.aC.length == c.aB.length)=false by simp [e]]; simp; omega
 have e2:decide ((c.aB.length:Int) > 40) = !decide (c.aB.length≤40):=by
  by_cases e:c.aB.length≤40
  ·rw [au e,ba (by omega)]; rfl
  ·rw [ba e,au (by omega)]; rfl
 rw [e1,e2,Ax _ _ (by omega)]
 cases hh:tF c with
 | false=>
  have:pr c=false:=by unfold pr; rw [hh]; rfl
  rw [this]
  unfold tF at hh
  generalize (decide (0≤c.aA) && decide (c.aA≤8))=a1 at *
  generalize decide (c.aB.length≤40)=a2 at *
  generalize oq c.aA c.aB=a3 at *
  generalize (c.To.length == c.aB.length)=a4 at *
  generalize oq c.aA c.To=a5 at *
  generalize (c.aC.length == c.aB.length)=a6 at *
  have e3:((c.aF.length:Int) != c.aA) = !((c.aF.length:Int) == c.aA):=rfl
  rw [e3]
  generalize ((c.aF.length:Int) == c.aA)=a7 at *
  generalize oq (c.aB.length:Int) c.aF=a8 at *
  simp only [beq_self_eq_true,Bool.true_and]
  cases a1 <;> first | rfl | (cases a2 <;> first | rfl | (cases a3 <;> first | rfl | (cases a4 <;> first | rfl | (cases a5 <;> first | rfl | (cases a6 <;> first | rfl | (cases a7 <;> first | rfl | (cases a8 <;> first | rfl | (cases hh))))))))
 | true=>
  have H:=C9 hh
  have Gi:=hh
  unfold tF at Gi
  simp only [Bool.and_eq_true] at Gi
  obtain ⟨⟨⟨b1,BE⟩,b2,b3⟩,⟨b4,b5⟩,b6,b7,b8⟩:=Gi
  rw [b1,BE,b2,b3,b4,b5,b6,b8,show ((c.aF.length:Int) != c.aA) = !((c.aF.length:Int) == c.aA) from rfl,b7]
  simp only [beq_self_eq_true,Bool.and_self,Bool.not_true,cond_false,aE]
  have hm:=H.m
  have qL:=H.il
  refine (congrArg an (ks (ns c.aF.length) (fun x=>!xz c x) (fun i=>(i:Int)) rfl ?_ ?_ (e:=(c.aF.length:Int)) (y:=false) ?_)).trans ?_
  ·intro i x hx hp
   obtain ⟨rfl,hi⟩:=fl hx
   have:=H.id (x:=(i:Int)) (by omega) (by omega)
   unfold jE
   unfold xz at hp
   simp only [Bool.not_eq_false',Bool.and_eq_true,beq_iff_eq] at hp
   rw [au (by omega),cond_true,H.l6 (by omega) (by omega),aE,H.j5 this.1 this.2,aE,hp.1,bne_self_eq_false,cond_false,aE,H.ke this.1 this.2,aE,hp.2,bne_self_eq_false,aE,cond_false,bD (by omega)]
  ·intro i x hx hp
   obtain ⟨rfl,hi⟩:=fl hx
   have:=H.id (x:=(i:Int)) (by omega) (by omega)
   unfold jE
   unfold xz at hp
   rw [au (by omega),cond_true,H.l6 (by omega) (by omega),aE,H.j5 this.1 this.2,aE]
   by_cases e:gi c.aB (gi c.aF i)=i
   ·rw [e,bne_self_eq_false,cond_false,aE,H.ke this.1 this.2,aE]
    have:(gi c.To (gi c.aF i) != (i:Int))=true:=by
     rw [e] at hp; simpa using hp
    rw [this]; rfl
   ·rw [show (gi c.aB (gi c.aF i) != (i:Int))=true by simp [e]]; rfl
  ·unfold jE
   rw [cA,ba (by omega),cond_false]
  rw [o4]
  unfold pr
  rw [hh]
  cases uz:(ns c.aF.length).all (xz c) with
  | false=>rfl
  | true=>
   simp only [Bool.not_true,Bool.false_eq_true,if_false,Bool.true_and]
   refine (congrArg an (ks (ns c.aB.length) (fun f=>!vW c f) (fun i=>(i:Int)) rfl ?_ ?_ (e:=(c.aB.length:Int)) (y:=false) ?_)).trans ?_
   rotate_left 2
   ·unfold lV
    rw [cA,ba (by omega),cond_false]
   ·rw [o4]
    cases (ns c.aB.length).all (vW c) <;> rfl
   all_goals
    intro i x hx hp
    obtain ⟨rfl,hi⟩:=fl hx
    have hK:=H.mx (f:=(i:Int)) (by omega) (by omega)
    have inner:(gr c.aC i).length=c.aB.length→ah (S:=Int) (ab 4 (aj (jF c i) (0:Int))) (fun w5=>(some (Out.norm (ai ((i:Int)+(1:Int)))))) =
      if (ns c.aB.length).any (fun g=>!sT c i g) then some (.ret false) else some (Out.norm (ai ((i:Int)+(1:Int)))):=by
     intro hr
     refine ks (ns c.aB.length) (fun g=>!sT c i g) (fun j=>(j:Int)) rfl ?_ ?_ (e:=(c.aB.length:Int)) (y:=false) ?_
     rotate_left 2
     ·unfold jF
      rw [cA,ba (by omega),cond_false]
     all_goals
      intro j y hy hq
      obtain ⟨rfl,hj⟩:=fl hy
      unfold jF
      rw [au (by omega),cond_true,hK,aE,bV (by omega) (by omega),aE,H.ke (by omega) (by omega),aE,H.j5 (by omega) (by omega),aE]
      unfold sT gk at hq
      by_cases e:gi c.To i=gi c.aB j
      ·rw [if_pos e] at hq
       rw [show (gi c.To (i:Int) != gi c.aB (j:Int))=false by simp [e],cond_false]
       by_cases l0:gi (gr c.aC i) j < 0
       ·rw [ba (show ¬ 0≤gi (gr c.aC i) j by omega)] at hq
        rw [au l0,cond_true,aE,cond_true]
        all_goals (first | rfl | simp at hq)
       ·rw [au (show 0≤gi (gr c.aC i) j by omega)] at hq
        rw [ba l0,cond_false]
        by_cases l1:gi (gr c.aC i) j < c.aB.length
        ·rw [au l1] at hq
         rw [ba (show ¬ gi (gr c.aC i) j ≥ c.aB.length by omega),cond_false,H.j5 (by omega) l1,aE,H.j5 (by omega) (by omega),aE]
         by_cases q1:gi c.aB (gi (gr c.aC i) j)=gi c.aB i
         ·rw [show (gi c.aB (gi (gr c.aC (i:Int)) (j:Int)) == gi c.aB (i:Int))=true by simp [q1]] at hq
          rw [show (gi c.aB (gi (gr c.aC (i:Int)) (j:Int)) != gi c.aB (i:Int))=false by simp [q1],cond_false,H.ke (by omega) l1,aE,H.ke (by omega) (by omega),aE,aE]
          simp only [Bool.and_self,Bool.true_and] at hq
          rw [show (gi c.To (gi (gr c.aC (i:Int)) (j:Int)) != gi c.To (j:Int)) = !(gi c.To (gi (gr c.aC (i:Int)) (j:Int)) == gi c.To (j:Int)) from rfl,hq]
          all_goals (first | rfl | rw [cond_false,bD (by omega)])
         ·rw [show (gi c.aB (gi (gr c.aC (i:Int)) (j:Int)) == gi c.aB (i:Int))=false by simp [q1]] at hq
          rw [show (gi c.aB (gi (gr c.aC (i:Int)) (j:Int)) != gi c.aB (i:Int))=true by simp [q1],cond_true]
          all_goals (first | rfl | simp at hq)
        ·rw [ba l1] at hq
         rw [au (show gi (gr c.aC i) j ≥ c.aB.length by omega),cond_true]
         all_goals (first | rfl | simp at hq)
      ·rw [if_neg e] at hq
       rw [show (gi c.To (i:Int) != gi c.aB (j:Int))=true by simp [e],cond_true,show (gi (gr c.aC (i:Int)) (j:Int) != -1) = !(gi (gr c.aC (i:Int)) (j:Int) == -1) from rfl,hq]
       all_goals (first | rfl | rw [cond_false,bD (by omega)])
    unfold lV
    rw [au (by omega),cond_true,hK,aE]
    unfold vW at hp
    by_cases hr:(gr c.aC i).length=c.aB.length
    ·rw [show (((gr c.aC (i:Int)).length:Int) != (c.aB.length:Int))=false by simp [hr],cond_false,inner hr,o4]
     rw [show ((gr c.aC (i:Int)).length == c.aB.length)=true by simp [hr],Bool.true_and] at hp
     rw [hp,bD (by omega)]
     rfl
    ·rw [show (((gr c.aC (i:Int)).length:Int) != (c.aB.length:Int))=true by (simp; omega),cond_true]
     all_goals (rw [show ((gr c.aC (i:Int)).length == c.aB.length)=false by simp [hr],Bool.false_and] at hp; first | rfl | simp at hp)
end Go.Proofs.YtcnehblmgfbfoaaGreat
namespace Go.Proofs.YtcnehblmgfbfoaaGreat
open Go Go.Li
set_option linter.unusedSectionVars false
theorem Gj {c:aD} (H:Head c) {f:Int} (h0:0≤f) (h1:f < c.aB.length):fH c f=some (pA.mk (gi c.aB f) (gi c.To f)):=by
 unfold fH
 rw [H.j5 h0 h1,aE,H.ke h0 h1,aE]; rfl
theorem Lb {c:aD} (hs:dv c):fP c=some (pr c):=by
 obtain ⟨z1,z2,z3,z4,z5⟩:=hs
 unfold fP bB
 rw [show an (S:=Unit) (some (Out.ret (c.aB.length:Int)))=some (c.aB.length:Int) from rfl,aE,Ay,aE]
 have e1:((c.aC.length:Int) != (c.aB.length:Int)) = !(c.aC.length == c.aB.length):=by
  by_cases e:c.aC.length=c.aB.length
  ·simp [e]
  ·rw [show (c.aC.length == c.aB.length)=false by simp [e]]; simp; omega
 have e1':((c.To.length:Int) != (c.aB.length:Int)) = !(c.To.length == c.aB.length):=by
  by_cases e:c.To.length=c.aB.length
  ·simp [e]
  ·rw [show (c.To.length == c.aB.length)=false by simp [e]]; simp; omega
 have e2:decide ((c.aB.length:Int) > 40) = !decide (c.aB.length≤40):=by
  by_cases e:c.aB.length≤40
  ·rw [au e,ba (by omega)]; rfl
  ·rw [ba e,au (by omega)]; rfl
 have e3:((c.aF.length:Int) != c.aA) = !((c.aF.length:Int) == c.aA):=rfl
 rw [e1,e1',e2,e3,within c.aF _ (by omega) (by omega) (by omega)]
 cases hh:tF c with
 | false=>
  have:pr c=false:=by unfold pr; rw [hh]; rfl
  rw [this]
  unfold tF at hh
  cases ha:(decide (0≤c.aA) && decide (c.aA≤8)) with
  | false=>rfl
  | true=>
   rw [ha] at hh
   simp only [Bool.and_eq_true,decide_eq_true_eq] at ha
   rw [within c.aB _ (by omega) ha.1 (by omega),within c.To _ (by omega) ha.1 (by omega)]
   generalize decide (c.aB.length≤40)=a2 at *
   generalize oq c.aA c.aB=a3 at *
   generalize (c.To.length == c.aB.length)=a4 at *
   generalize oq c.aA c.To=a5 at *
   generalize (c.aC.length == c.aB.length)=a6 at *
   generalize ((c.aF.length:Int) == c.aA)=a7 at *
   generalize oq (c.aB.length:Int) c.aF=a8 at *
   cases a2 <;> first | rfl | (cases a4 <;> first | rfl | (cases a3 <;> first | rfl | (cases a5 <;> first | rfl | (cases a7 <;> first | rfl | (cases a8 <;> first | rfl | (cases a6 <;> first | rfl | (cases hh)))))))
 | true=>
  have H:=C9 hh
  have Gi:=hh
  unfold tF at Gi
  simp only [Bool.and_eq_true] at Gi
  obtain ⟨⟨⟨b1,BE⟩,b2,b3⟩,⟨b4,b5⟩,b6,b7,b8⟩:=Gi
  rw [within c.aB _ (by omega) H.o0 (by have:=H.o8; omega),within c.To _ (by omega) H.o0 (by have:=H.o8; omega)]
  rw [b1,BE,b2,b3,b4,b5,b6,b8,b7]
  simp only [Bool.and_self,Bool.not_true,cond_false,aE]
  have hm:=H.m
  have qL:=H.il
  have BQ:=H.kl
  refine (congrArg an (ks (ns c.aF.length) (fun x=>!xz c x) (fun i=>(i:Int)) rfl ?_ ?_ (e:=(c.aF.length:Int)) (y:=false) ?_)).trans ?_
  ·intro i x hx hp
   obtain ⟨rfl,hi⟩:=fl hx
   have:=H.id (x:=(i:Int)) (by omega) (by omega)
   unfold eB
   unfold xz at hp
   simp only [Bool.not_eq_false'] at hp
   rw [au (by omega),cond_true,H.l6 (by omega) (by omega),aE,Gj H this.1 this.2,aE]
   dsimp only
   rw [hp,Bool.not_true,cond_false,bD (by omega)]
  ·intro i x hx hp
   obtain ⟨rfl,hi⟩:=fl hx
   have:=H.id (x:=(i:Int)) (by omega) (by omega)
   unfold eB
   unfold xz at hp
   rw [au (by omega),cond_true,H.l6 (by omega) (by omega),aE,Gj H this.1 this.2,aE]
   dsimp only
   rw [hp,cond_true]
  ·unfold eB
   rw [cA,ba (by omega),cond_false]
  rw [o4]
  unfold pr
  rw [hh]
  cases uz:(ns c.aF.length).all (xz c) with
  | false=>rfl
  | true=>
   simp only [Bool.not_true,Bool.false_eq_true,if_false,Bool.true_and]
   refine (congrArg an (ks (ns c.aB.length) (fun f=>!vW c f) (fun i=>(i:Int)) rfl ?_ ?_ (e:=(c.aB.length:Int)) (y:=false) ?_)).trans ?_
   rotate_left 2
   ·unfold gG
    rw [cA,ba (by omega),cond_false]
   ·rw [o4]
    cases (ns c.aB.length).all (vW c) <;> rfl
   all_goals
    intro i x hx hp
    obtain ⟨rfl,hi⟩:=fl hx
    have hK:=H.mx (f:=(i:Int)) (by omega) (by omega)
    have inner:(gr c.aC i).length=c.aB.length→ah (S:=Int) (ab 4 (aj (eC c (c.aB.length:Int) i (gr c.aC i)) (0:Int))) (fun w5=>(some (Out.norm (ai ((i:Int)+(1:Int)))))) =
      if (ns c.aB.length).any (fun g=>!sT c i g) then some (.ret false) else some (Out.norm (ai ((i:Int)+(1:Int)))):=by
     intro hr
     refine ks (ns c.aB.length) (fun g=>!sT c i g) (fun j=>(j:Int)) rfl ?_ ?_ (e:=(c.aB.length:Int)) (y:=false) ?_
     rotate_left 2
     ·unfold eC
      rw [cA,ba (by omega),cond_false]
     all_goals
      intro j y hy hq
      obtain ⟨rfl,hj⟩:=fl hy
      unfold eC
      rw [au (by omega),cond_true,bV (by omega) (by omega),aE,H.ke (by omega) (by omega),aE,H.j5 (by omega) (by omega),aE,bX (a:=(c.aB.length:Int) - 1) (by omega) (by omega),Ay,aE]
      unfold sT gk at hq
      by_cases e:gi c.To i=gi c.aB j
      ·rw [if_pos e] at hq
       rw [show (gi c.To (i:Int) != gi c.aB (j:Int))=false by simp [e],cond_false]
       by_cases l0:0≤gi (gr c.aC i) j∧gi (gr c.aC i) j < c.aB.length
       ·rw [au l0.1,au l0.2] at hq
        rw [au l0.1,au (show gi (gr c.aC i) j≤(c.aB.length:Int) - 1 by omega)]
        simp only [Bool.and_self,Bool.not_true,cond_false,Bool.true_and] at hq ⊢
        rw [Gj H l0.1 l0.2,aE,H.j5 (by omega) (by omega),aE,H.ke (by omega) (by omega),aE,aE]
        dsimp only
        rw [hq]
        all_goals (first | rfl | rw [cond_false,bD (by omega)])
       ·have l1:(decide (0≤gi (gr c.aC i) j) && decide (gi (gr c.aC i) j < c.aB.length))=false:=by
         rcases Classical.not_and_iff_not_or_not.1 l0 with h | h
         ·rw [ba h]; rfl
         ·rw [ba h,Bool.and_false]
        have l2:(decide (0≤gi (gr c.aC i) j) && decide (gi (gr c.aC i) j≤(c.aB.length:Int) - 1))=false:=by
         rcases Classical.not_and_iff_not_or_not.1 l0 with h | h
         ·rw [ba h]; rfl
         ·rw [ba (show ¬ gi (gr c.aC i) j≤(c.aB.length:Int) - 1 by omega),Bool.and_false]
        rw [l1] at hq
        rw [l2]
        all_goals (first | rfl | simp at hq)
      ·rw [if_neg e] at hq
       rw [show (gi c.To (i:Int) != gi c.aB (j:Int))=true by simp [e],cond_true,show (gi (gr c.aC (i:Int)) (j:Int) != -1) = !(gi (gr c.aC (i:Int)) (j:Int) == -1) from rfl,hq]
       all_goals (first | rfl | rw [cond_false,bD (by omega)])
    unfold gG
    rw [au (by omega),cond_true,hK,aE]
    unfold vW at hp
    by_cases hr:(gr c.aC i).length=c.aB.length
    ·rw [show (((gr c.aC (i:Int)).length:Int) != (c.aB.length:Int))=false by simp [hr],cond_false,inner hr,o4]
     rw [show ((gr c.aC (i:Int)).length == c.aB.length)=true by simp [hr],Bool.true_and] at hp
     rw [hp,bD (by omega)]
     rfl
    ·rw [show (((gr c.aC (i:Int)).length:Int) != (c.aB.length:Int))=true by (simp; omega),cond_true]
     all_goals (rw [show ((gr c.aC (i:Int)).length == c.aB.length)=false by simp [hr],Bool.false_and] at hp; first | rfl | simp at hp)
end Go.Proofs.YtcnehblmgfbfoaaGreat
namespace Go.Proofs.YtcnehblmgfbfoaaGreat
open Go Go.Li
structure nK (c:aD):Prop extends Head c where
 qK:∀ x:Int,0≤x→x < c.aA→gi c.aB (gi c.aF x)=x
 rz:∀ x:Int,0≤x→x < c.aA→gi c.To (gi c.aF x)=x
 row:∀ f:Int,0≤f→f < c.aB.length→(gr c.aC f).length=c.aB.length
 cell:∀ f g:Int,0≤f→f < c.aB.length→0≤g→g < c.aB.length→gi c.To f=gi c.aB g→
  0≤gk c.aC f g∧gk c.aC f g < c.aB.length∧gi c.aB (gk c.aC f g)=gi c.aB f∧gi c.To (gk c.aC f g)=gi c.To g
 none:∀ f g:Int,0≤f→f < c.aB.length→0≤g→g < c.aB.length→gi c.To f≠gi c.aB g→gk c.aC f g = -1
theorem Bw {c:aD} (h:pr c=true):nK c:=by
 unfold pr at h
 simp only [Bool.and_eq_true,List.all_eq_true] at h
 obtain ⟨h1,h2,h3⟩:=h
 have H:=C9 h1
 have qL:=H.il
 have uz:∀ x,0≤x→x < c.aA→xz c x=true:=fun x a b=>h2 x (ez.2 ⟨a,by omega⟩)
 have bb:∀ f,0≤f→f < (c.aB.length:Int)→vW c f=true:=fun f a b=>h3 f (ez.2 ⟨a,b⟩)
 have ji:∀ f g,0≤f→f < (c.aB.length:Int)→0≤g→g < (c.aB.length:Int)→sT c f g=true:=fun f g a b a' b'=>by
  have:=bb f a b
  unfold vW at this
  simp only [Bool.and_eq_true,List.all_eq_true] at this
  exact this.2 g (ez.2 ⟨a',b'⟩)
 refine { H with
  qK:=fun x a b=>?_
  rz:=fun x a b=>?_
  row:=fun f a b=>?_
  cell:=fun f g a b a' b' e=>?_
  none:=fun f g a b a' b' e=>?_ }
 ·have:=uz x a b; unfold xz at this; simp at this; exact this.1
 ·have:=uz x a b; unfold xz at this; simp at this; exact this.2
 ·have:=bb f a b; unfold vW at this; simp only [Bool.and_eq_true,beq_iff_eq] at this; exact this.1
 ·have:=ji f g a b a' b'; unfold sT at this; rw [if_pos e] at this; simp only [Bool.and_eq_true,decide_eq_true_eq,beq_iff_eq] at this; exact ⟨this.1.1,this.1.2,this.2.1,this.2.2⟩
 ·have:=ji f g a b a' b'; unfold sT at this; rw [if_neg e] at this; simpa using this
namespace nK
variable {c:aD} (h:nK c)
include h
theorem l8 {f g:Int} (h0:0≤f) (h1:f < c.aB.length) (h2:0≤g) (h3:g < c.aB.length):idx (gr c.aC f) g=some (gk c.aC f g):=bV h2 (by rw [h.row f h0 h1]; exact h3)
theorem pg {f g:Int} (h0:0≤f) (h1:f < c.aB.length) (h2:0≤g) (h3:g < c.aB.length):bR c f g=some (gk c.aC f g):=by
 unfold bR; rw [h.mx h0 h1,aE,h.l8 h0 h1 h2 h3,aE]; rfl
end nK
def sU (c:aD) (f:Int):Bool:=gk c.aC (gi c.aF (gi c.aB f)) f == f && gk c.aC f (gi c.aF (gi c.To f)) == f
def uo (c:aD) (f g h:Int):Bool:=gi c.To g == gi c.aB h && gk c.aC (gk c.aC f g) h != gk c.aC f (gk c.aC g h)
def zP (c:aD) (f g:Int):Bool:=gi c.To f == gi c.aB g && (ns c.aB.length).any (uo c f g)
def Da (c:aD) (f:Int):Bool:=(ns c.aB.length).any (zP c f)
def yw (c:aD):Bool:=(ns c.aB.length).all (sU c) && !((ns c.aB.length).any (Da c))
theorem HU {c:aD} {k1 k2 k4 k6:Nat} {L0:Int→Option (Out Int (Int×Int×Int×Int))} {L1:Int→Option (Out Int (Int×Int×Int×Int))} {L2:Int→Int→Option (Out Int (Int×Int×Int×Int))} {L3:Int→Int→Int→Option (Out Int (Int×Int×Int×Int))} {z:Int×Int×Int×Int} (hz:z.1=0)
  (a0:∀ i:Nat,i < c.aB.length→sU c i=true→L0 i=some (.norm ((i+1:Nat):Int)))
  (a1:∀ i:Nat,i < c.aB.length→sU c i=false→∃ y,L0 i=some (.ret y)∧y.1≠0)
  (a2:L0 c.aB.length=some (.exit k1 c.aB.length))
  (b0:∀ i:Nat,i < c.aB.length→L1 i=ah (ab k4 (aj (L2 i) 0)) fun _=>some (.norm ((i+1:Nat):Int)))
  (b2:L1 c.aB.length=some (.exit k2 c.aB.length))
  (d0:∀ i j:Nat,i < c.aB.length→j < c.aB.length→gi c.To i≠gi c.aB j→L2 i j=some (.norm ((j+1:Nat):Int)))
  (d1:∀ i j:Nat,i < c.aB.length→j < c.aB.length→gi c.To i=gi c.aB j→L2 i j=ah (ab k6 (aj (L3 i j) 0)) fun _=>some (.norm ((j+1:Nat):Int)))
  (d2:∀ i:Nat,L2 i c.aB.length=some (.exit k4 c.aB.length))
  (e0:∀ i j h:Nat,i < c.aB.length→j < c.aB.length→h < c.aB.length→gi c.To i=gi c.aB j→uo c i j h=false→L3 i j h=some (.norm ((h+1:Nat):Int)))
  (e1:∀ i j h:Nat,i < c.aB.length→j < c.aB.length→h < c.aB.length→gi c.To i=gi c.aB j→uo c i j h=true→∃ y,L3 i j h=some (.ret y)∧y.1≠0)
  (e2:∀ i j:Nat,L3 i j c.aB.length=some (.exit k6 c.aB.length)) :
  ∃ y,an (S:=Unit) (ah (ab k1 (aj L0 0)) fun _=>ah (ab k2 (aj L1 0)) fun _=>some (.ret z))=some y∧(y.1 == 0)=yw c:=by
 have Wz:∀ i j:Nat,i < c.aB.length→j < c.aB.length→gi c.To i=gi c.aB j→
   ((ns c.aB.length).any (uo c i j)=true∧∃ y,ah (S:=Int) (ab k6 (aj (L3 i j) 0)) (fun _=>some (.norm ((j+1:Nat):Int)))=some (.ret y)∧y.1≠0)∨
   ((ns c.aB.length).any (uo c i j)=false∧ah (S:=Int) (ab k6 (aj (L3 i j) 0)) (fun _=>some (.norm ((j+1:Nat):Int)))=some (.norm ((j+1:Nat):Int))):=by
  intro i j hi hj he
  refine yu (ns c.aB.length) (uo c i j) (fun y:Int×Int×Int×Int=>y.1≠0) (fun h=>(h:Int)) rfl ?_ ?_ (e:=(c.aB.length:Int)) (by rw [cA]; exact e2 i j)
  ·intro h x hx hp; obtain ⟨rfl,hh⟩:=fl hx; exact e0 i j h hi hj hh he hp
  ·intro h x hx hp; obtain ⟨rfl,hh⟩:=fl hx; exact e1 i j h hi hj hh he hp
 have WA:∀ i:Nat,i < c.aB.length→
   ((ns c.aB.length).any (zP c i)=true∧∃ y,ah (S:=Int) (ab k4 (aj (L2 i) 0)) (fun _=>some (.norm ((i+1:Nat):Int)))=some (.ret y)∧y.1≠0)∨
   ((ns c.aB.length).any (zP c i)=false∧ah (S:=Int) (ab k4 (aj (L2 i) 0)) (fun _=>some (.norm ((i+1:Nat):Int)))=some (.norm ((i+1:Nat):Int))):=by
  intro i hi
  refine yu (ns c.aB.length) (zP c i) (fun y:Int×Int×Int×Int=>y.1≠0) (fun h=>(h:Int)) rfl ?_ ?_ (e:=(c.aB.length:Int)) (by rw [cA]; exact d2 i)
  ·intro j x hx hp
   obtain ⟨rfl,hj⟩:=fl hx
   by_cases he:gi c.To i=gi c.aB j
   ·rw [d1 i j hi hj he]
    rcases Wz i j hi hj he with ⟨h1,_⟩ | ⟨_,h2⟩
    ·unfold zP at hp; rw [h1] at hp; simp [he] at hp
    ·exact h2
   ·exact d0 i j hi hj he
  ·intro j x hx hp
   obtain ⟨rfl,hj⟩:=fl hx
   unfold zP at hp
   simp only [Bool.and_eq_true,beq_iff_eq] at hp
   rw [d1 i j hi hj hp.1]
   rcases Wz i j hi hj hp.1 with ⟨_,h⟩ | ⟨h1,_⟩
   ·exact h
   ·rw [hp.2] at h1; cases h1
 rcases yu (s0:=(0:Int)) (S:=Unit) (R:=Int×Int×Int×Int) (k:=k1) (body:=L0) (f:=fun _=>ah (ab k2 (aj L1 0)) fun _=>some (.ret z)) (ns c.aB.length) (fun i=>!sU c i) (fun y:Int×Int×Int×Int=>y.1≠0) (fun i=>(i:Int)) rfl
   (fun i x hx hp=>by obtain ⟨rfl,hi⟩:=fl hx; exact a0 i hi (by simpa using hp)) (fun i x hx hp=>by obtain ⟨rfl,hi⟩:=fl hx; exact a1 i hi (by simpa using hp)) (e:=(c.aB.length:Int)) (by rw [cA]; exact a2) with ⟨h1,y,h2,h3⟩ | ⟨h1,h2⟩
 ·refine ⟨y,by rw [h2]; rfl,?_⟩
  unfold yw
  rw [o4] at h1
  simp only [Bool.not_eq_true'] at h1
  rw [h1]
  simpa using h3
 ·rw [o4] at h1
  simp only [Bool.not_eq_false'] at h1
  rw [h2]
  rcases yu (s0:=(0:Int)) (S:=Unit) (R:=Int×Int×Int×Int) (k:=k2) (body:=L1) (f:=fun _=>some (.ret z)) (ns c.aB.length) (Da c) (fun y:Int×Int×Int×Int=>y.1≠0) (fun i=>(i:Int)) rfl
   (fun i x hx hp=>by
    obtain ⟨rfl,hi⟩:=fl hx
    rw [b0 i hi]
    rcases WA i hi with ⟨q1,_⟩ | ⟨_,q2⟩
    ·unfold Da at hp; rw [q1] at hp; cases hp
    ·exact q2)
   (fun i x hx hp=>by
    obtain ⟨rfl,hi⟩:=fl hx
    rw [b0 i hi]
    rcases WA i hi with ⟨_,q⟩ | ⟨q1,_⟩
    ·exact q
    ·unfold Da at hp; rw [q1] at hp; cases hp) (e:=(c.aB.length:Int)) (by rw [cA]; exact b2) with ⟨g1,y,g2,g3⟩ | ⟨g1,g2⟩
  ·refine ⟨y,by rw [g2]; rfl,?_⟩
   unfold yw
   rw [h1,g1]
   simpa using g3
  ·refine ⟨z,by rw [g2]; rfl,?_⟩
   unfold yw
   rw [h1,g1,hz]
   rfl
section
variable {c:aD} (H:nK c)
include H
theorem Lc:∃ y,kU c=some y∧(y.1 == 0)=yw c:=by
 have hm:=H.m
 have qL:=H.il
 have u0:∀ i:Nat,i < c.aB.length→iV c i=if sU c i then some (Out.norm ((i+1:Nat):Int)) else some (Out.ret ((1:Int),(i:Int),(0:Int),(0:Int))):=by
  intro i hi
  have f1:=H.fr (f:=(i:Int)) (by omega) (by omega)
  have t1:=H.to (f:=(i:Int)) (by omega) (by omega)
  have i1:=H.id f1.1 f1.2
  have i2:=H.id t1.1 t1.2
  unfold iV
  rw [au (by omega),cond_true,H.j5 (by omega) (by omega),aE,H.l6 f1.1 f1.2,aE,H.mx i1.1 i1.2,aE,H.l8 i1.1 i1.2 (by omega) (by omega),aE]
  rw [H.mx (by omega) (by omega),aE,H.ke (by omega) (by omega),aE,H.l6 t1.1 t1.2,aE,H.l8 (by omega) (by omega) i2.1 i2.2,aE]
  unfold sU
  by_cases e1:gk c.aC (gi c.aF (gi c.aB i)) i=i
  ·by_cases e2:gk c.aC i (gi c.aF (gi c.To i))=i
   ·simp [e1,e2,bD (show i < 9223372036854775807 by omega)]
   ·simp [e1,e2,rQ e2]
  ·simp [e1,rQ e1]
 unfold kU
 refine HU (c:=c) (z:=(0,0,0,0)) rfl (L2:=gI c) (L3:=gH c) (k4:=4) (k6:=6) ?_ ?_ ?_ ?_ ?_ ?_ ?_ ?_ ?_ ?_ ?_
 ·intro i hi hp; rw [u0 i hi,hp]; rfl
 ·intro i hi hp; rw [u0 i hi,hp]; exact ⟨_,rfl,by simp⟩
 ·unfold iV; rw [ba (by omega),cond_false]
 ·intro i hi; unfold lE; rw [au (by omega),cond_true,bD (by omega)]
 ·unfold lE; rw [ba (by omega),cond_false]
 ·intro i j hi hj he
  unfold gI
  rw [au (by omega),cond_true,H.ke (by omega) (by omega),aE,H.j5 (by omega) (by omega),aE,show (gi c.To (i:Int) != gi c.aB (j:Int))=true by simp [he],cond_true,bD (by omega)]
 ·intro i j hi hj he
  unfold gI
  rw [au (by omega),cond_true,H.ke (by omega) (by omega),aE,H.j5 (by omega) (by omega),aE,show (gi c.To (i:Int) != gi c.aB (j:Int))=false by simp [he],cond_false,bD (by omega)]
 ·intro i; unfold gI; rw [ba (by omega),cond_false]
 ·intro i j h hi hj hh he hp
  unfold gH
  rw [au (by omega),cond_true,H.ke (by omega) (by omega),aE,H.j5 (by omega) (by omega),aE]
  unfold uo at hp
  by_cases e:gi c.To j=gi c.aB h
  ·have c1:=H.cell i j (by omega) (by omega) (by omega) (by omega) he
   have c2:=H.cell j h (by omega) (by omega) (by omega) (by omega) e
   rw [show (gi c.To (j:Int) == gi c.aB (h:Int))=true by simp [e]] at hp ⊢
   rw [cond_true,H.mx (by omega) (by omega),aE,H.l8 (by omega) (by omega) (by omega) (by omega),aE,H.mx c1.1 c1.2.1,aE,H.l8 c1.1 c1.2.1 (by omega) (by omega),aE,aE,H.mx (by omega) (by omega),aE,H.l8 (by omega) (by omega) (by omega) (by omega),aE,H.l8 (by omega) (by omega) c2.1 c2.2.1,aE]
   rw [Bool.true_and] at hp
   rw [hp,aE,cond_false,bD (by omega)]
  ·rw [show (gi c.To (j:Int) == gi c.aB (h:Int))=false by simp [e],cond_false,aE,cond_false,bD (by omega)]
 ·intro i j h hi hj hh he hp
  unfold gH
  rw [au (by omega),cond_true,H.ke (by omega) (by omega),aE,H.j5 (by omega) (by omega),aE]
  unfold uo at hp
  simp only [Bool.and_eq_true] at hp
  have e:gi c.To j=gi c.aB h:=by simpa using hp.1
  have c1:=H.cell i j (by omega) (by omega) (by omega) (by omega) he
  have c2:=H.cell j h (by omega) (by omega) (by omega) (by omega) e
  rw [hp.1,cond_true,H.mx (by omega) (by omega),aE,H.l8 (by omega) (by omega) (by omega) (by omega),aE,H.mx c1.1 c1.2.1,aE,H.l8 c1.1 c1.2.1 (by omega) (by omega),aE,aE,H.mx (by omega) (by omega),aE,H.l8 (by omega) (by omega) (by omega) (by omega),aE,H.l8 (by omega) (by omega) c2.1 c2.2.1,aE]
  rw [hp.2,aE,cond_true]
  exact ⟨_,rfl,by simp⟩
 ·intro i j; unfold gH; rw [ba (by omega),cond_false]
theorem Lf:∃ y,gL c=some y∧(y.1 == 0)=yw c:=by
 have hm:=H.m
 have qL:=H.il
 have u0:∀ i:Nat,i < c.aB.length→fC c c.aB.length i=if sU c i then some (Out.norm ((i+1:Nat):Int)) else some (Out.ret ((1:Int),(i:Int),(0:Int),(0:Int))):=by
  intro i hi
  have f1:=H.fr (f:=(i:Int)) (by omega) (by omega)
  have t1:=H.to (f:=(i:Int)) (by omega) (by omega)
  have i1:=H.id f1.1 f1.2
  have i2:=H.id t1.1 t1.2
  unfold fC
  rw [au (by omega),cond_true,H.j5 (by omega) (by omega),aE,H.l6 f1.1 f1.2,aE,H.pg i1.1 i1.2 (by omega) (by omega),aE]
  rw [H.ke (by omega) (by omega),aE,H.l6 t1.1 t1.2,aE,H.pg (by omega) (by omega) i2.1 i2.2,aE]
  unfold sU
  by_cases e1:gk c.aC (gi c.aF (gi c.aB i)) i=i
  ·by_cases e2:gk c.aC i (gi c.aF (gi c.To i))=i
   ·simp [e1,e2,bD (show i < 9223372036854775807 by omega)]
   ·simp [e1,e2,rQ e2]
  ·simp [e1,rQ e1]
 have pos:∀ i j:Nat,i < c.aB.length→j < c.aB.length→(gi c.To i=gi c.aB j→0≤gk c.aC i j)∧(gi c.To i≠gi c.aB j→gk c.aC i j < 0):=by
  intro i j hi hj
  refine ⟨fun e=>(H.cell i j (by omega) (by omega) (by omega) (by omega) e).1,fun e=>?_⟩
  rw [H.none i j (by omega) (by omega) (by omega) (by omega) e]; decide
 unfold gL bB
 rw [show an (S:=Unit) (some (Out.ret (c.aB.length:Int)))=some (c.aB.length:Int) from rfl,aE]
 refine HU (c:=c) (z:=(0,0,0,0)) rfl (L2:=dJ c c.aB.length) (L3:=dI c c.aB.length) (k4:=4) (k6:=6) ?_ ?_ ?_ ?_ ?_ ?_ ?_ ?_ ?_ ?_ ?_
 ·intro i hi hp; rw [u0 i hi,hp]; rfl
 ·intro i hi hp; rw [u0 i hi,hp]; exact ⟨_,rfl,by simp⟩
 ·unfold fC; rw [ba (by omega),cond_false]
 ·intro i hi; unfold gY; rw [au (by omega),cond_true,bD (by omega)]
 ·unfold gY; rw [ba (by omega),cond_false]
 ·intro i j hi hj he
  unfold dJ
  rw [au (by omega),cond_true,H.pg (by omega) (by omega) (by omega) (by omega),aE,au ((pos i j hi hj).2 he),cond_true,bD (by omega)]
 ·intro i j hi hj he
  have:=(pos i j hi hj).1 he
  unfold dJ
  rw [au (by omega),cond_true,H.pg (by omega) (by omega) (by omega) (by omega),aE,ba (by omega),cond_false,bD (by omega)]
 ·intro i; unfold dJ; rw [ba (by omega),cond_false]
 ·intro i j h hi hj hh he hp
  unfold dI
  rw [au (by omega),cond_true,H.pg (by omega) (by omega) (by omega) (by omega),aE]
  unfold uo at hp
  by_cases e:gi c.To j=gi c.aB h
  ·have c1:=H.cell i j (by omega) (by omega) (by omega) (by omega) he
   have c2:=H.cell j h (by omega) (by omega) (by omega) (by omega) e
   rw [show (gi c.To (j:Int) == gi c.aB (h:Int))=true by simp [e],Bool.true_and] at hp
   rw [au (show gk c.aC j h ≥ 0 from c2.1),cond_true,H.pg (by omega) (by omega) (by omega) (by omega),aE,H.pg c1.1 c1.2.1 (by omega) (by omega),aE,aE,H.pg (by omega) (by omega) c2.1 c2.2.1,aE,hp,aE,cond_false,bD (by omega)]
  ·have:=(pos j h hj hh).2 e
   rw [ba (show ¬ gk c.aC j h ≥ 0 by omega),cond_false,aE,cond_false,bD (by omega)]
 ·intro i j h hi hj hh he hp
  unfold dI
  unfold uo at hp
  simp only [Bool.and_eq_true] at hp
  have e:gi c.To j=gi c.aB h:=by simpa using hp.1
  have c1:=H.cell i j (by omega) (by omega) (by omega) (by omega) he
  have c2:=H.cell j h (by omega) (by omega) (by omega) (by omega) e
  rw [au (by omega),cond_true,H.pg (by omega) (by omega) (by omega) (by omega),aE,au (show gk c.aC j h ≥ 0 from c2.1),cond_true,H.pg (by omega) (by omega) (by omega) (by omega),aE,H.pg c1.1 c1.2.1 (by omega) (by omega),aE,aE,H.pg (by omega) (by omega) c2.1 c2.2.1,aE,hp.2,aE,cond_true]
  exact ⟨_,rfl,by simp⟩
 ·intro i j; unfold dI; rw [ba (by omega),cond_false]
end
structure gu (c:aD):Prop extends nK c where
 uI:∀ f:Int,0≤f→f < c.aB.length→gk c.aC (gi c.aF (gi c.aB f)) f=f
 uJ:∀ f:Int,0≤f→f < c.aB.length→gk c.aC f (gi c.aF (gi c.To f))=f
 assoc:∀ f g h:Int,0≤f→f < c.aB.length→0≤g→g < c.aB.length→0≤h→h < c.aB.length→gi c.To f=gi c.aB g→gi c.To g=gi c.aB h→
  gk c.aC (gk c.aC f g) h=gk c.aC f (gk c.aC g h)
def ov (c:aD):Bool:=pr c && yw c
theorem tW {c:aD} (h:ov c=true):gu c:=by
 unfold ov at h
 simp only [Bool.and_eq_true] at h
 obtain ⟨h1,h2⟩:=h
 have H:=Bw h1
 unfold yw at h2
 simp only [Bool.and_eq_true,List.all_eq_true,Bool.not_eq_true',List.any_eq_false] at h2
 obtain ⟨h2,h3⟩:=h2
 refine { H with
  uI:=fun f a b=>?_
  uJ:=fun f a b=>?_
  assoc:=fun f g h a b a' b' a'' b'' e1 e2=>?_ }
 ·have:=h2 f (ez.2 ⟨a,b⟩); unfold sU at this; simp at this; exact this.1
 ·have:=h2 f (ez.2 ⟨a,b⟩); unfold sU at this; simp at this; exact this.2
 ·have:=h3 f (ez.2 ⟨a,b⟩)
  unfold Da at this
  simp only [List.any_eq_true,not_exists,not_and] at this
  have:=this g (ez.2 ⟨a',b'⟩)
  unfold zP at this
  simp only [Bool.and_eq_true,beq_iff_eq,List.any_eq_true,not_and,not_exists] at this
  have:=this e1 h (ez.2 ⟨a'',b''⟩)
  unfold uo at this
  simpa [e2] using this
theorem FH {c:aD} (hs:dv c):jZ c=some (ov c):=by
 unfold jZ
 rw [K9 hs,aE]
 unfold ov
 cases h:pr c with
 | false=>rfl
 | true=>
  obtain ⟨y,h1,h2⟩:=Lc (Bw h)
  rw [Bool.not_true,cond_false,h1,aE,h2]; rfl
theorem FG {c:aD} (hs:dv c):dA c=some (ov c):=by
 unfold dA
 rw [Lb hs,aE]
 unfold ov
 cases h:pr c with
 | false=>rfl
 | true=>
  obtain ⟨y,h1,h2⟩:=Lf (Bw h)
  rw [Bool.not_true,cond_false,h1,aE,h2]; rfl
end Go.Proofs.YtcnehblmgfbfoaaGreat
