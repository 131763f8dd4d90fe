/- Is a table a category: the reference and the program agree, and what is known of a category. No condition beside those that each theorem names. -/
import Derived.Test.YtgjbmjjihmfppaaGreatPa
namespace Go.Li
open Go
section
variable {S S1 R α:Type} {body:S1→Option (Out S1 R)}
theorem xg {k:Nat} {f:S1→Option (Out S R)} {s0 e:S1} (l:List α) (p:α→Bool) (G:R→Prop) (st:Nat→S1) (h0:st 0=s0) (step:∀ i x,l[i]? = some x→p x=false→body (st i)=some (.norm (st (i+1))))
  (Mm:∀ i x,l[i]? = some x→p x=true→∃ y,body (st i)=some (.ret y)∧G y) (last:body (st l.length)=some (.exit k e)) :
  (l.any p=true∧∃ y,ag (ae k (ah body s0)) f=some (.ret y)∧G y)∨(l.any p=false∧ag (ae k (ah body s0)) f=f e):=by
 have key:∀ (m:List α) (i:Nat),l.drop i=m→i≤l.length→(m.any p=true∧∃ y,ah body (st i)=some (.ret y)∧G y)∨(m.any p=false∧ah body (st i)=some (.exit k e)):=by
  intro m
  induction m with
  | nil=>
   intro i hd hi
   have:i=l.length:=by have:=congrArg List.length hd; simp at this; omega
   subst this
   exact .inr ⟨rfl,mb last⟩
  | cons x m ih=>
   intro i hd hi
   have bc:i < l.length:=by
    rcases Nat.lt_or_ge i l.length with h | h
    ·exact h
    ·rw [List.drop_eq_nil_of_le h] at hd; cases hd
   have hx:l[i]? = some x:=by
    rw [List.drop_eq_getElem_cons bc] at hd
    rw [List.getElem?_eq_getElem bc]; exact congrArg some (List.cons.inj hd).1
   have ib:l.drop (i+1)=m:=by
    rw [List.drop_eq_getElem_cons bc] at hd; exact (List.cons.inj hd).2
   cases hp:p x with
   | true=>
    obtain ⟨y,hy,hg⟩:=Mm i x hx hp
    exact .inl ⟨by simp [hp],y,AV hy,hg⟩
   | false=>
    rw [oh,step i x hx hp]
    simpa [hp] using ih (i+1) ib bc
 rcases key l 0 rfl (Nat.zero_le _) with ⟨h1,y,h2,h3⟩ | ⟨h1,h2⟩
 ·rw [h0] at h2; exact .inl ⟨h1,y,AW h2,h3⟩
 ·rw [h0] at h2; exact .inr ⟨h1,sB h2⟩
theorem Mo {n i x:Nat} (h:(List.range n)[i]? = some x):x=i∧i < n:=by
 have hi:=ca h
 rw [List.getElem?_eq_getElem hi] at h
 simp at h hi
 exact ⟨h.symm,hi⟩
end
def gi (l:List Int) (j:Int):Int:=l.getD j.toNat 0
def gr (l:List (List Int)) (j:Int):List Int:=l.getD j.toNat []
def gk (l:List (List Int)) (i j:Int):Int:=gi (gr l i) j
theorem bR {l:List Int} {j:Int} (h0:0≤j) (h1:j < l.length):idx l j=some (gi l j):=by
 rw [vm h0 h1]; unfold gi; rw [List.getD_eq_getElem?_getD,List.getElem?_eq_getElem (by omega)]; rfl
theorem nr {l:List (List Int)} {j:Int} (h0:0≤j) (h1:j < l.length):idx l j=some (gr l j):=by
 rw [vm h0 h1]; unfold gr; rw [List.getD_eq_getElem?_getD,List.getElem?_eq_getElem (by omega)]; rfl
theorem gn {l:List Int} {j:Int} (h0:0≤j) (h1:j < l.length):gi l j∈l:=by
 unfold gi; rw [List.getD_eq_getElem?_getD,List.getElem?_eq_getElem (by omega)]; exact List.getElem_mem _
theorem qV {l:List (List Int)} {j:Int} (h0:0≤j) (h1:j < l.length):gr l j∈l:=by
 unfold gr; rw [List.getD_eq_getElem?_getD,List.getElem?_eq_getElem (by omega)]; exact List.getElem_mem _
def ns (n:Nat):List Int:=(List.range n).map Int.ofNat
theorem iv {n i:Nat} {x:Int} (h:(ns n)[i]? = some x):x=(i:Int)∧i < n:=by
 unfold ns at h
 rw [List.getElem?_map] at h
 cases hr:(List.range n)[i]? with
 | none=>rw [hr] at h; cases h
 | some y=>
  rw [hr] at h
  obtain ⟨rfl,hi⟩:=Mo hr
  exact ⟨(Option.some.inj h).symm,hi⟩
theorem cQ (n:Nat):(ns n).length=n:=by simp [ns]
theorem bu {n:Nat} {x:Int}:x∈ns n↔0≤x∧x < n:=by
 unfold ns
 simp only [List.mem_map,List.mem_range]
 constructor
 ·rintro ⟨a,h1,rfl⟩; simp; omega
 ·rintro ⟨h1,h2⟩; exact ⟨x.toNat,by omega,by simp; omega⟩
end Go.Li
namespace Go.Proofs.YtgjbmjjihmfppaaGreat
open Go Go.Li
def qu (n:Int) (f:List Int):Bool:=f.all fun y=>decide (0≤y) && decide (y < n)
theorem rA {n:Int} {f:List Int}:qu n f=true↔∀ y∈f,0≤y∧y < n:=by simp [qu]
theorem n5 {α:Type} (l:List α) (p:α→Bool):l.any (fun x=>!p x) = !l.all p:=by
 induction l with
 | nil=>rfl
 | cons a l ih=>simp only [List.any_cons,List.all_cons,ih,Bool.not_and]
theorem BA (n:Int) (f:List Int) (hf:f.length≤1048576000):iW n f=some (qu n f):=by
 unfold iW
 refine (congrArg an (mc f (fun y=>!(decide (0≤y) && decide (y < n))) (fun i=>(i:Int)) rfl ?_ ?_ (e:=(f.length:Int)) (y:=false) ?_)).trans ?_
 ·intro i x hx hp
  have hi:=ca hx
  unfold lE
  simp only [Bool.not_eq_false',Bool.and_eq_true,decide_eq_true_eq] at hp
  rw [ay (by omega),cond_true,dw,hx,aF,bm (by omega),cond_false,aF,bm (by omega),aF,cond_false,bH (by omega)]
 ·intro i x hx hp
  have hi:=ca hx
  unfold lE
  rw [ay (by omega),cond_true,dw,hx,aF,aF]
  by_cases h:x < 0
  ·rw [ay h,cond_true,aF,cond_true]
  ·have:n≤x:=by simp at hp; omega
   rw [bm h,cond_false,ay (by omega),aF,cond_true]
 ·unfold lE
  rw [bm (by omega),cond_false]
 ·rw [n5]
  show an (if (!qu n f)=true then _ else _)=_
  cases qu n f <;> rfl
theorem BB (n a b:Int):eB n a b=some (decide (a≤n) && decide (n≤b)):=by
 unfold eB
 by_cases h:a≤n
 ·rw [ay (show n ≥ a from h),cond_true]; rfl
 ·rw [bm (show ¬ n ≥ a from h),cond_false]; rfl
theorem Vy (n a b:Int):pC n a b=some (decide (a≤n) && decide (n≤b)):=by
 unfold pC
 by_cases h:a≤n
 ·rw [ay (show n ≥ a from h),cond_true]; rfl
 ·rw [bm (show ¬ n ≥ a from h),cond_false]; rfl
theorem within (f:List Int) (n:Int) (hf:f.length≤1048576000) (hn:0≤n) (Iy:n≤1048576000):eE f n=some (qu n f):=by
 unfold eE
 refine (congrArg an (mc f (fun y=>!(decide (0≤y) && decide (y < n))) (fun i=>(i:Int)) rfl ?_ ?_ (e:=(f.length:Int)) (y:=false) ?_)).trans ?_
 ·intro i x hx hp
  have hi:=ca hx
  unfold gQ
  simp only [Bool.not_eq_false',Bool.and_eq_true,decide_eq_true_eq] at hp
  rw [ay (by omega),cond_true,dw,hx,aF,cW (by omega) (by omega),BB,aF,ay hp.1,ay (by omega)]
  simp only [Bool.and_self,Bool.not_true,cond_false]
  rw [bH (by omega)]
 ·intro i x hx hp
  have hi:=ca hx
  unfold gQ
  rw [ay (by omega),cond_true,dw,hx,aF,cW (by omega) (by omega),BB,aF]
  have:(decide (0≤x) && decide (x≤n - 1))=false:=by
   by_cases h:x < 0
   ·rw [bm (by omega)]; rfl
   ·have:n≤x:=by simp at hp; omega
    rw [bm (show ¬ x≤n - 1 by omega),Bool.and_false]
  rw [this]; rfl
 ·unfold gQ
  rw [bm (by omega),cond_false]
 ·rw [n5]
  show an (if (!qu n f)=true then _ else _)=_
  cases qu n f <;> rfl
def u4 (c:aG):Bool:=((decide (0≤c.aA) && decide (c.aA≤8)) && (decide (c.aD.length≤40) && qu c.aA c.aD)) && (((c.To.length == c.aD.length) && qu c.aA c.To) && ((c.aB.length == c.aD.length) && (((c.aJ.length:Int) == c.aA) && qu c.aD.length c.aJ)))
def yM (c:aG) (x:Int):Bool:=gi c.aD (gi c.aJ x) == x && gi c.To (gi c.aJ x) == x
def ug (c:aG) (f g:Int):Bool:=
 if gi c.To f=gi c.aD g then (decide (0≤gk c.aB f g) && decide (gk c.aB f g < c.aD.length)) && (gi c.aD (gk c.aB f g) == gi c.aD f && gi c.To (gk c.aB f g) == gi c.To g)
 else gk c.aB f g == -1
def xh (c:aG) (f:Int):Bool:=((gr c.aB f).length == c.aD.length) && (ns c.aD.length).all fun g=>ug c f g
def qW (c:aG):Bool:=u4 c && ((ns c.aJ.length).all (yM c) && (ns c.aD.length).all (xh c))
structure Head (c:aG):Prop where
 o0:0≤c.aA
 o8:c.aA≤8
 m:c.aD.length≤40
 f:∀ x∈c.aD,0≤x∧x < c.aA
 tl:c.To.length=c.aD.length
 t:∀ x∈c.To,0≤x∧x < c.aA
 kl:c.aB.length=c.aD.length
 il:(c.aJ.length:Int)=c.aA
 i:∀ x∈c.aJ,0≤x∧x < c.aD.length
theorem DR {c:aG} (h:u4 c=true):Head c:=by
 unfold u4 at h
 simp only [Bool.and_eq_true,decide_eq_true_eq,rA,beq_iff_eq] at h
 obtain ⟨⟨⟨h1,h2⟩,h3,h4⟩,⟨h5,h6⟩,h7,h8,h9⟩:=h
 exact ⟨h1,h2,h3,h4,h5,h6,h7,h8,h9⟩
set_option linter.unusedSectionVars false
namespace Head
variable {c:aG} (h:Head c)
include h
theorem fr {f:Int} (h0:0≤f) (h1:f < c.aD.length):0≤gi c.aD f∧gi c.aD f < c.aA:=h.f _ (gn h0 h1)
theorem to {f:Int} (h0:0≤f) (h1:f < c.aD.length):0≤gi c.To f∧gi c.To f < c.aA:=h.t _ (gn h0 (by rw [h.tl]; exact h1))
theorem id {x:Int} (h0:0≤x) (h1:x < c.aA):0≤gi c.aJ x∧gi c.aJ x < c.aD.length:=h.i _ (gn h0 (by rw [h.il]; exact h1))
theorem jd {f:Int} (h0:0≤f) (h1:f < c.aD.length):idx c.aD f=some (gi c.aD f):=bR h0 h1
theorem jh {f:Int} (h0:0≤f) (h1:f < c.aD.length):idx c.To f=some (gi c.To f):=bR h0 (by rw [h.tl]; exact h1)
theorem pg {x:Int} (h0:0≤x) (h1:x < c.aA):idx c.aJ x=some (gi c.aJ x):=bR h0 (by rw [h.il]; exact h1)
theorem mh {f:Int} (h0:0≤f) (h1:f < c.aD.length):idx c.aB f=some (gr c.aB f):=nr h0 (by rw [h.kl]; exact h1)
end Head
theorem Mp {c:aG} (hs:gu c):nQ c=some (qW c):=by
 obtain ⟨z1,z2,z3,z4,z5⟩:=hs
 have ends:∀ (l:List Int) (n:Nat) (o:Int),l.length≤1048576→kR l (n:Int) o=some ((l.length == n) && qu o l):=by
  intro l n o hl
  unfold kR
  by_cases e:l.length=n
  ·rw [show ((l.length:Int) == (n:Int))=true by simp [e],cond_true,BA _ _ (by omega),show (l.length == n)=true by simp [e]]; rfl
  ·rw [show ((l.length:Int) == (n:Int))=false by simp; omega,cond_false,show (l.length == n)=false by simp [e]]; rfl
 unfold nQ
 rw [Vy,aF,ends _ _ _ z1,ends _ _ _ z2]
 have e1:((c.aB.length:Int) != (c.aD.length:Int)) = !(c.aB.length == c.aD.length):=by
  by_cases e:c.aB.length=c.aD.length
  ·simp [e]
  ·rw [show (c.aB.length == c.aD.length)=false by simp [e]]; simp; omega
 have e2:decide ((c.aD.length:Int) > 40) = !decide (c.aD.length≤40):=by
  by_cases e:c.aD.length≤40
  ·rw [ay e,bm (by omega)]; rfl
  ·rw [bm e,ay (by omega)]; rfl
 rw [e1,e2,BA _ _ (by omega)]
 cases hh:u4 c with
 | false=>
  have:qW c=false:=by unfold qW; rw [hh]; rfl
  rw [this]
  unfold u4 at hh
  generalize (decide (0≤c.aA) && decide (c.aA≤8))=a1 at *
  generalize decide (c.aD.length≤40)=a2 at *
  generalize qu c.aA c.aD=a3 at *
  generalize (c.To.length == c.aD.length)=a4 at *
  generalize qu c.aA c.To=a5 at *
  generalize (c.aB.length == c.aD.length)=a6 at *
  have e3:((c.aJ.length:Int) != c.aA) = !((c.aJ.length:Int) == c.aA):=rfl
  rw [e3]
  generalize ((c.aJ.length:Int) == c.aA)=a7 at *
  generalize qu (c.aD.length:Int) c.aJ=a8 at *
  simp only [beq_self_eq_true,Bool.true_and]
  cases a1 <;> first | rfl | (cases a2 <;> first | rfl | (cases a3 <;> first | rfl | (cases a4 <;> first | rfl | (cases a5 <;> first | rfl | (cases a6 <;> first | rfl | (cases a7 <;> first | rfl | (cases a8 <;> first | rfl | (cases hh))))))))
 | true=>
  have H:=DR hh
  have G5:=hh
  unfold u4 at G5
  simp only [Bool.and_eq_true] at G5
  obtain ⟨⟨⟨b1,HX⟩,b2,b3⟩,⟨b4,b5⟩,b6,b7,b8⟩:=G5
  rw [b1,HX,b2,b3,b4,b5,b6,b8,show ((c.aJ.length:Int) != c.aA) = !((c.aJ.length:Int) == c.aA) from rfl,b7]
  simp only [beq_self_eq_true,Bool.and_self,Bool.not_true,cond_false,aF]
  have hm:=H.m
  have sF:=H.il
  refine (congrArg an (mc (ns c.aJ.length) (fun x=>!yM c x) (fun i=>(i:Int)) rfl ?_ ?_ (e:=(c.aJ.length:Int)) (y:=false) ?_)).trans ?_
  ·intro i x hx hp
   obtain ⟨rfl,hi⟩:=iv hx
   have:=H.id (x:=(i:Int)) (by omega) (by omega)
   unfold kJ
   unfold yM at hp
   simp only [Bool.not_eq_false',Bool.and_eq_true,beq_iff_eq] at hp
   rw [ay (by omega),cond_true,H.pg (by omega) (by omega),aF,H.jd this.1 this.2,aF,hp.1,bne_self_eq_false,cond_false,aF,H.jh this.1 this.2,aF,hp.2,bne_self_eq_false,aF,cond_false,bH (by omega)]
  ·intro i x hx hp
   obtain ⟨rfl,hi⟩:=iv hx
   have:=H.id (x:=(i:Int)) (by omega) (by omega)
   unfold kJ
   unfold yM at hp
   rw [ay (by omega),cond_true,H.pg (by omega) (by omega),aF,H.jd this.1 this.2,aF]
   by_cases e:gi c.aD (gi c.aJ i)=i
   ·rw [e,bne_self_eq_false,cond_false,aF,H.jh this.1 this.2,aF]
    have:(gi c.To (gi c.aJ i) != (i:Int))=true:=by
     rw [e] at hp; simpa using hp
    rw [this]; rfl
   ·rw [show (gi c.aD (gi c.aJ i) != (i:Int))=true by simp [e]]; rfl
  ·unfold kJ
   rw [cQ,bm (by omega),cond_false]
  rw [n5]
  unfold qW
  rw [hh]
  cases vP:(ns c.aJ.length).all (yM c) with
  | false=>rfl
  | true=>
   simp only [Bool.not_true,Bool.false_eq_true,if_false,Bool.true_and]
   refine (congrArg an (mc (ns c.aD.length) (fun f=>!xh c f) (fun i=>(i:Int)) rfl ?_ ?_ (e:=(c.aD.length:Int)) (y:=false) ?_)).trans ?_
   rotate_left 2
   ·unfold nP
    rw [cQ,bm (by omega),cond_false]
   ·rw [n5]
    cases (ns c.aD.length).all (xh c) <;> rfl
   all_goals
    intro i x hx hp
    obtain ⟨rfl,hi⟩:=iv hx
    have hK:=H.mh (f:=(i:Int)) (by omega) (by omega)
    have inner:(gr c.aB i).length=c.aD.length→ag (S:=Int) (ae 4 (ah (kK c i) (0:Int))) (fun ym=>(some (Out.norm (ai ((i:Int)+(1:Int)))))) =
      if (ns c.aD.length).any (fun g=>!ug c i g) then some (.ret false) else some (Out.norm (ai ((i:Int)+(1:Int)))):=by
     intro hr
     refine mc (ns c.aD.length) (fun g=>!ug c i g) (fun j=>(j:Int)) rfl ?_ ?_ (e:=(c.aD.length:Int)) (y:=false) ?_
     rotate_left 2
     ·unfold kK
      rw [cQ,bm (by omega),cond_false]
     all_goals
      intro j y hy hq
      obtain ⟨rfl,hj⟩:=iv hy
      unfold kK
      rw [ay (by omega),cond_true,hK,aF,bR (by omega) (by omega),aF,H.jh (by omega) (by omega),aF,H.jd (by omega) (by omega),aF]
      unfold ug gk at hq
      by_cases e:gi c.To i=gi c.aD j
      ·rw [if_pos e] at hq
       rw [show (gi c.To (i:Int) != gi c.aD (j:Int))=false by simp [e],cond_false]
       by_cases l0:gi (gr c.aB i) j < 0
       ·rw [bm (show ¬ 0≤gi (gr c.aB i) j by omega)] at hq
        rw [ay l0,cond_true,aF,cond_true]
        all_goals (first | rfl | simp at hq)
       ·rw [ay (show 0≤gi (gr c.aB i) j by omega)] at hq
        rw [bm l0,cond_false]
        by_cases l1:gi (gr c.aB i) j < c.aD.length
        ·rw [ay l1] at hq
         rw [bm (show ¬ gi (gr c.aB i) j ≥ c.aD.length by omega),cond_false,H.jd (by omega) l1,aF,H.jd (by omega) (by omega),aF]
         by_cases q1:gi c.aD (gi (gr c.aB i) j)=gi c.aD i
         ·rw [show (gi c.aD (gi (gr c.aB (i:Int)) (j:Int)) == gi c.aD (i:Int))=true by simp [q1]] at hq
          rw [show (gi c.aD (gi (gr c.aB (i:Int)) (j:Int)) != gi c.aD (i:Int))=false by simp [q1],cond_false,H.jh (by omega) l1,aF,H.jh (by omega) (by omega),aF,aF]
          simp only [Bool.and_self,Bool.true_and] at hq
          rw [show (gi c.To (gi (gr c.aB (i:Int)) (j:Int)) != gi c.To (j:Int)) = !(gi c.To (gi (gr c.aB (i:Int)) (j:Int)) == gi c.To (j:Int)) from rfl,hq]
          all_goals (first | rfl | rw [cond_false,bH (by omega)])
         ·rw [show (gi c.aD (gi (gr c.aB (i:Int)) (j:Int)) == gi c.aD (i:Int))=false by simp [q1]] at hq
          rw [show (gi c.aD (gi (gr c.aB (i:Int)) (j:Int)) != gi c.aD (i:Int))=true by simp [q1],cond_true]
          all_goals (first | rfl | simp at hq)
        ·rw [bm l1] at hq
         rw [ay (show gi (gr c.aB i) j ≥ c.aD.length by omega),cond_true]
         all_goals (first | rfl | simp at hq)
      ·rw [if_neg e] at hq
       rw [show (gi c.To (i:Int) != gi c.aD (j:Int))=true by simp [e],cond_true,show (gi (gr c.aB (i:Int)) (j:Int) != -1) = !(gi (gr c.aB (i:Int)) (j:Int) == -1) from rfl,hq]
       all_goals (first | rfl | rw [cond_false,bH (by omega)])
    unfold nP
    rw [ay (by omega),cond_true,hK,aF]
    unfold xh at hp
    by_cases hr:(gr c.aB i).length=c.aD.length
    ·rw [show (((gr c.aB (i:Int)).length:Int) != (c.aD.length:Int))=false by simp [hr],cond_false,inner hr,n5]
     rw [show ((gr c.aB (i:Int)).length == c.aD.length)=true by simp [hr],Bool.true_and] at hp
     rw [hp,bH (by omega)]
     rfl
    ·rw [show (((gr c.aB (i:Int)).length:Int) != (c.aD.length:Int))=true by (simp; omega),cond_true]
     all_goals (rw [show ((gr c.aB (i:Int)).length == c.aD.length)=false by simp [hr],Bool.false_and] at hp; first | rfl | simp at hp)
end Go.Proofs.YtgjbmjjihmfppaaGreat
namespace Go.Proofs.YtgjbmjjihmfppaaGreat
open Go Go.Li
set_option linter.unusedSectionVars false
theorem G6 {c:aG} (H:Head c) {f:Int} (h0:0≤f) (h1:f < c.aD.length):dN c f=some (qM.mk (gi c.aD f) (gi c.To f)):=by
 unfold dN
 rw [H.jd h0 h1,aF,H.jh h0 h1,aF]; rfl
theorem Mq {c:aG} (hs:gu c):gE c=some (qW c):=by
 obtain ⟨z1,z2,z3,z4,z5⟩:=hs
 unfold gE cL
 rw [show an (S:=Unit) (some (Out.ret (c.aD.length:Int)))=some (c.aD.length:Int) from rfl,aF,BB,aF]
 have e1:((c.aB.length:Int) != (c.aD.length:Int)) = !(c.aB.length == c.aD.length):=by
  by_cases e:c.aB.length=c.aD.length
  ·simp [e]
  ·rw [show (c.aB.length == c.aD.length)=false by simp [e]]; simp; omega
 have e1':((c.To.length:Int) != (c.aD.length:Int)) = !(c.To.length == c.aD.length):=by
  by_cases e:c.To.length=c.aD.length
  ·simp [e]
  ·rw [show (c.To.length == c.aD.length)=false by simp [e]]; simp; omega
 have e2:decide ((c.aD.length:Int) > 40) = !decide (c.aD.length≤40):=by
  by_cases e:c.aD.length≤40
  ·rw [ay e,bm (by omega)]; rfl
  ·rw [bm e,ay (by omega)]; rfl
 have e3:((c.aJ.length:Int) != c.aA) = !((c.aJ.length:Int) == c.aA):=rfl
 rw [e1,e1',e2,e3,within c.aJ _ (by omega) (by omega) (by omega)]
 cases hh:u4 c with
 | false=>
  have:qW c=false:=by unfold qW; rw [hh]; rfl
  rw [this]
  unfold u4 at hh
  cases ha:(decide (0≤c.aA) && decide (c.aA≤8)) with
  | false=>rfl
  | true=>
   rw [ha] at hh
   simp only [Bool.and_eq_true,decide_eq_true_eq] at ha
   rw [within c.aD _ (by omega) ha.1 (by omega),within c.To _ (by omega) ha.1 (by omega)]
   generalize decide (c.aD.length≤40)=a2 at *
   generalize qu c.aA c.aD=a3 at *
   generalize (c.To.length == c.aD.length)=a4 at *
   generalize qu c.aA c.To=a5 at *
   generalize (c.aB.length == c.aD.length)=a6 at *
   generalize ((c.aJ.length:Int) == c.aA)=a7 at *
   generalize qu (c.aD.length:Int) c.aJ=a8 at *
   cases a2 <;> first | rfl | (cases a4 <;> first | rfl | (cases a3 <;> first | rfl | (cases a5 <;> first | rfl | (cases a7 <;> first | rfl | (cases a8 <;> first | rfl | (cases a6 <;> first | rfl | (cases hh)))))))
 | true=>
  have H:=DR hh
  have G5:=hh
  unfold u4 at G5
  simp only [Bool.and_eq_true] at G5
  obtain ⟨⟨⟨b1,HX⟩,b2,b3⟩,⟨b4,b5⟩,b6,b7,b8⟩:=G5
  rw [within c.aD _ (by omega) H.o0 (by have:=H.o8; omega),within c.To _ (by omega) H.o0 (by have:=H.o8; omega)]
  rw [b1,HX,b2,b3,b4,b5,b6,b8,b7]
  simp only [Bool.and_self,Bool.not_true,cond_false,aF]
  have hm:=H.m
  have sF:=H.il
  have An:=H.kl
  refine (congrArg an (mc (ns c.aJ.length) (fun x=>!yM c x) (fun i=>(i:Int)) rfl ?_ ?_ (e:=(c.aJ.length:Int)) (y:=false) ?_)).trans ?_
  ·intro i x hx hp
   obtain ⟨rfl,hi⟩:=iv hx
   have:=H.id (x:=(i:Int)) (by omega) (by omega)
   unfold eU
   unfold yM at hp
   simp only [Bool.not_eq_false'] at hp
   rw [ay (by omega),cond_true,H.pg (by omega) (by omega),aF,G6 H this.1 this.2,aF]
   dsimp only
   rw [hp,Bool.not_true,cond_false,bH (by omega)]
  ·intro i x hx hp
   obtain ⟨rfl,hi⟩:=iv hx
   have:=H.id (x:=(i:Int)) (by omega) (by omega)
   unfold eU
   unfold yM at hp
   rw [ay (by omega),cond_true,H.pg (by omega) (by omega),aF,G6 H this.1 this.2,aF]
   dsimp only
   rw [hp,cond_true]
  ·unfold eU
   rw [cQ,bm (by omega),cond_false]
  rw [n5]
  unfold qW
  rw [hh]
  cases vP:(ns c.aJ.length).all (yM c) with
  | false=>rfl
  | true=>
   simp only [Bool.not_true,Bool.false_eq_true,if_false,Bool.true_and]
   refine (congrArg an (mc (ns c.aD.length) (fun f=>!xh c f) (fun i=>(i:Int)) rfl ?_ ?_ (e:=(c.aD.length:Int)) (y:=false) ?_)).trans ?_
   rotate_left 2
   ·unfold gY
    rw [cQ,bm (by omega),cond_false]
   ·rw [n5]
    cases (ns c.aD.length).all (xh c) <;> rfl
   all_goals
    intro i x hx hp
    obtain ⟨rfl,hi⟩:=iv hx
    have hK:=H.mh (f:=(i:Int)) (by omega) (by omega)
    have inner:(gr c.aB i).length=c.aD.length→ag (S:=Int) (ae 4 (ah (eV c (c.aD.length:Int) i (gr c.aB i)) (0:Int))) (fun ym=>(some (Out.norm (ai ((i:Int)+(1:Int)))))) =
      if (ns c.aD.length).any (fun g=>!ug c i g) then some (.ret false) else some (Out.norm (ai ((i:Int)+(1:Int)))):=by
     intro hr
     refine mc (ns c.aD.length) (fun g=>!ug c i g) (fun j=>(j:Int)) rfl ?_ ?_ (e:=(c.aD.length:Int)) (y:=false) ?_
     rotate_left 2
     ·unfold eV
      rw [cQ,bm (by omega),cond_false]
     all_goals
      intro j y hy hq
      obtain ⟨rfl,hj⟩:=iv hy
      unfold eV
      rw [ay (by omega),cond_true,bR (by omega) (by omega),aF,H.jh (by omega) (by omega),aF,H.jd (by omega) (by omega),aF,cW (a:=(c.aD.length:Int) - 1) (by omega) (by omega),BB,aF]
      unfold ug gk at hq
      by_cases e:gi c.To i=gi c.aD j
      ·rw [if_pos e] at hq
       rw [show (gi c.To (i:Int) != gi c.aD (j:Int))=false by simp [e],cond_false]
       by_cases l0:0≤gi (gr c.aB i) j∧gi (gr c.aB i) j < c.aD.length
       ·rw [ay l0.1,ay l0.2] at hq
        rw [ay l0.1,ay (show gi (gr c.aB i) j≤(c.aD.length:Int) - 1 by omega)]
        simp only [Bool.and_self,Bool.not_true,cond_false,Bool.true_and] at hq ⊢
        rw [G6 H l0.1 l0.2,aF,H.jd (by omega) (by omega),aF,H.jh (by omega) (by omega),aF,aF]
        dsimp only
        rw [hq]
        all_goals (first | rfl | rw [cond_false,bH (by omega)])
       ·have l1:(decide (0≤gi (gr c.aB i) j) && decide (gi (gr c.aB i) j < c.aD.length))=false:=by
         rcases Classical.not_and_iff_not_or_not.1 l0 with h | h
         ·rw [bm h]; rfl
         ·rw [bm h,Bool.and_false]
        have l2:(decide (0≤gi (gr c.aB i) j) && decide (gi (gr c.aB i) j≤(c.aD.length:Int) - 1))=false:=by
         rcases Classical.not_and_iff_not_or_not.1 l0 with h | h
         ·rw [bm h]; rfl
         ·rw [bm (show ¬ gi (gr c.aB i) j≤(c.aD.length:Int) - 1 by omega),Bool.and_false]
        rw [l1] at hq
        rw [l2]
        all_goals (first | rfl | simp at hq)
      ·rw [if_neg e] at hq
       rw [show (gi c.To (i:Int) != gi c.aD (j:Int))=true by simp [e],cond_true,show (gi (gr c.aB (i:Int)) (j:Int) != -1) = !(gi (gr c.aB (i:Int)) (j:Int) == -1) from rfl,hq]
       all_goals (first | rfl | rw [cond_false,bH (by omega)])
    unfold gY
    rw [ay (by omega),cond_true,hK,aF]
    unfold xh at hp
    by_cases hr:(gr c.aB i).length=c.aD.length
    ·rw [show (((gr c.aB (i:Int)).length:Int) != (c.aD.length:Int))=false by simp [hr],cond_false,inner hr,n5]
     rw [show ((gr c.aB (i:Int)).length == c.aD.length)=true by simp [hr],Bool.true_and] at hp
     rw [hp,bH (by omega)]
     rfl
    ·rw [show (((gr c.aB (i:Int)).length:Int) != (c.aD.length:Int))=true by (simp; omega),cond_true]
     all_goals (rw [show ((gr c.aB (i:Int)).length == c.aD.length)=false by simp [hr],Bool.false_and] at hp; first | rfl | simp at hp)
end Go.Proofs.YtgjbmjjihmfppaaGreat
namespace Go.Proofs.YtgjbmjjihmfppaaGreat
open Go Go.Li
structure pM (c:aG):Prop extends Head c where
 uD:∀ x:Int,0≤x→x < c.aA→gi c.aD (gi c.aJ x)=x
 vp:∀ x:Int,0≤x→x < c.aA→gi c.To (gi c.aJ x)=x
 row:∀ f:Int,0≤f→f < c.aD.length→(gr c.aB f).length=c.aD.length
 cell:∀ f g:Int,0≤f→f < c.aD.length→0≤g→g < c.aD.length→gi c.To f=gi c.aD g→
  0≤gk c.aB f g∧gk c.aB f g < c.aD.length∧gi c.aD (gk c.aB f g)=gi c.aD f∧gi c.To (gk c.aB f g)=gi c.To g
 none:∀ f g:Int,0≤f→f < c.aD.length→0≤g→g < c.aD.length→gi c.To f≠gi c.aD g→gk c.aB f g = -1
theorem Cj {c:aG} (h:qW c=true):pM c:=by
 unfold qW at h
 simp only [Bool.and_eq_true,List.all_eq_true] at h
 obtain ⟨h1,h2,h3⟩:=h
 have H:=DR h1
 have sF:=H.il
 have vP:∀ x,0≤x→x < c.aA→yM c x=true:=fun x a b=>h2 x (bu.2 ⟨a,by omega⟩)
 have aX:∀ f,0≤f→f < (c.aD.length:Int)→xh c f=true:=fun f a b=>h3 f (bu.2 ⟨a,b⟩)
 have jo:∀ f g,0≤f→f < (c.aD.length:Int)→0≤g→g < (c.aD.length:Int)→ug c f g=true:=fun f g a b a' b'=>by
  have:=aX f a b
  unfold xh at this
  simp only [Bool.and_eq_true,List.all_eq_true] at this
  exact this.2 g (bu.2 ⟨a',b'⟩)
 refine { H with
  uD:=fun x a b=>?_
  vp:=fun x a b=>?_
  row:=fun f a b=>?_
  cell:=fun f g a b a' b' e=>?_
  none:=fun f g a b a' b' e=>?_ }
 ·have:=vP x a b; unfold yM at this; simp at this; exact this.1
 ·have:=vP x a b; unfold yM at this; simp at this; exact this.2
 ·have:=aX f a b; unfold xh at this; simp only [Bool.and_eq_true,beq_iff_eq] at this; exact this.1
 ·have:=jo f g a b a' b'; unfold ug at this; rw [if_pos e] at this; simp only [Bool.and_eq_true,decide_eq_true_eq,beq_iff_eq] at this; exact ⟨this.1.1,this.1.2,this.2.1,this.2.2⟩
 ·have:=jo f g a b a' b'; unfold ug at this; rw [if_neg e] at this; simpa using this
namespace pM
variable {c:aG} (h:pM c)
include h
theorem ly {f g:Int} (h0:0≤f) (h1:f < c.aD.length) (h2:0≤g) (h3:g < c.aD.length):idx (gr c.aB f) g=some (gk c.aB f g):=bR h2 (by rw [h.row f h0 h1]; exact h3)
theorem qX {f g:Int} (h0:0≤f) (h1:f < c.aD.length) (h2:0≤g) (h3:g < c.aD.length):cI c f g=some (gk c.aB f g):=by
 unfold cI; rw [h.mh h0 h1,aF,h.ly h0 h1 h2 h3,aF]; rfl
end pM
def uh (c:aG) (f:Int):Bool:=gk c.aB (gi c.aJ (gi c.aD f)) f == f && gk c.aB f (gi c.aJ (gi c.To f)) == f
def vC (c:aG) (f g h:Int):Bool:=gi c.To g == gi c.aD h && gk c.aB (gk c.aB f g) h != gk c.aB f (gk c.aB g h)
def AX (c:aG) (f g:Int):Bool:=gi c.To f == gi c.aD g && (ns c.aD.length).any (vC c f g)
def DS (c:aG) (f:Int):Bool:=(ns c.aD.length).any (AX c f)
def zL (c:aG):Bool:=(ns c.aD.length).all (uh c) && !((ns c.aD.length).any (DS c))
theorem IL {c:aG} {k1 k2 k4 k6:Nat} {L0:Int→Option (Out Int (Int×Int×Int×Int))} {L1:Int→Option (Out Int (Int×Int×Int×Int))} {L2:Int→Int→Option (Out Int (Int×Int×Int×Int))} {L3:Int→Int→Int→Option (Out Int (Int×Int×Int×Int))} {z:Int×Int×Int×Int} (hz:z.1=0)
  (a0:∀ i:Nat,i < c.aD.length→uh c i=true→L0 i=some (.norm ((i+1:Nat):Int)))
  (a1:∀ i:Nat,i < c.aD.length→uh c i=false→∃ y,L0 i=some (.ret y)∧y.1≠0)
  (a2:L0 c.aD.length=some (.exit k1 c.aD.length))
  (b0:∀ i:Nat,i < c.aD.length→L1 i=ag (ae k4 (ah (L2 i) 0)) fun _=>some (.norm ((i+1:Nat):Int)))
  (b2:L1 c.aD.length=some (.exit k2 c.aD.length))
  (d0:∀ i j:Nat,i < c.aD.length→j < c.aD.length→gi c.To i≠gi c.aD j→L2 i j=some (.norm ((j+1:Nat):Int)))
  (d1:∀ i j:Nat,i < c.aD.length→j < c.aD.length→gi c.To i=gi c.aD j→L2 i j=ag (ae k6 (ah (L3 i j) 0)) fun _=>some (.norm ((j+1:Nat):Int)))
  (d2:∀ i:Nat,L2 i c.aD.length=some (.exit k4 c.aD.length))
  (e0:∀ i j h:Nat,i < c.aD.length→j < c.aD.length→h < c.aD.length→gi c.To i=gi c.aD j→vC c i j h=false→L3 i j h=some (.norm ((h+1:Nat):Int)))
  (e1:∀ i j h:Nat,i < c.aD.length→j < c.aD.length→h < c.aD.length→gi c.To i=gi c.aD j→vC c i j h=true→∃ y,L3 i j h=some (.ret y)∧y.1≠0)
  (e2:∀ i j:Nat,L3 i j c.aD.length=some (.exit k6 c.aD.length)) :
  ∃ y,an (S:=Unit) (ag (ae k1 (ah L0 0)) fun _=>ag (ae k2 (ah L1 0)) fun _=>some (.ret z))=some y∧(y.1 == 0)=zL c:=by
 have Yq:∀ i j:Nat,i < c.aD.length→j < c.aD.length→gi c.To i=gi c.aD j→
   ((ns c.aD.length).any (vC c i j)=true∧∃ y,ag (S:=Int) (ae k6 (ah (L3 i j) 0)) (fun _=>some (.norm ((j+1:Nat):Int)))=some (.ret y)∧y.1≠0)∨
   ((ns c.aD.length).any (vC c i j)=false∧ag (S:=Int) (ae k6 (ah (L3 i j) 0)) (fun _=>some (.norm ((j+1:Nat):Int)))=some (.norm ((j+1:Nat):Int))):=by
  intro i j hi hj he
  refine xg (ns c.aD.length) (vC c i j) (fun y:Int×Int×Int×Int=>y.1≠0) (fun h=>(h:Int)) rfl ?_ ?_ (e:=(c.aD.length:Int)) (by rw [cQ]; exact e2 i j)
  ·intro h x hx hp; obtain ⟨rfl,hh⟩:=iv hx; exact e0 i j h hi hj hh he hp
  ·intro h x hx hp; obtain ⟨rfl,hh⟩:=iv hx; exact e1 i j h hi hj hh he hp
 have Yr:∀ i:Nat,i < c.aD.length→
   ((ns c.aD.length).any (AX c i)=true∧∃ y,ag (S:=Int) (ae k4 (ah (L2 i) 0)) (fun _=>some (.norm ((i+1:Nat):Int)))=some (.ret y)∧y.1≠0)∨
   ((ns c.aD.length).any (AX c i)=false∧ag (S:=Int) (ae k4 (ah (L2 i) 0)) (fun _=>some (.norm ((i+1:Nat):Int)))=some (.norm ((i+1:Nat):Int))):=by
  intro i hi
  refine xg (ns c.aD.length) (AX c i) (fun y:Int×Int×Int×Int=>y.1≠0) (fun h=>(h:Int)) rfl ?_ ?_ (e:=(c.aD.length:Int)) (by rw [cQ]; exact d2 i)
  ·intro j x hx hp
   obtain ⟨rfl,hj⟩:=iv hx
   by_cases he:gi c.To i=gi c.aD j
   ·rw [d1 i j hi hj he]
    rcases Yq i j hi hj he with ⟨h1,_⟩ | ⟨_,h2⟩
    ·unfold AX at hp; rw [h1] at hp; simp [he] at hp
    ·exact h2
   ·exact d0 i j hi hj he
  ·intro j x hx hp
   obtain ⟨rfl,hj⟩:=iv hx
   unfold AX at hp
   simp only [Bool.and_eq_true,beq_iff_eq] at hp
   rw [d1 i j hi hj hp.1]
   rcases Yq i j hi hj hp.1 with ⟨_,h⟩ | ⟨h1,_⟩
   ·exact h
   ·rw [hp.2] at h1; cases h1
 rcases xg (s0:=(0:Int)) (S:=Unit) (R:=Int×Int×Int×Int) (k:=k1) (body:=L0) (f:=fun _=>ag (ae k2 (ah L1 0)) fun _=>some (.ret z)) (ns c.aD.length) (fun i=>!uh c i) (fun y:Int×Int×Int×Int=>y.1≠0) (fun i=>(i:Int)) rfl
   (fun i x hx hp=>by obtain ⟨rfl,hi⟩:=iv hx; exact a0 i hi (by simpa using hp)) (fun i x hx hp=>by obtain ⟨rfl,hi⟩:=iv hx; exact a1 i hi (by simpa using hp)) (e:=(c.aD.length:Int)) (by rw [cQ]; exact a2) with ⟨h1,y,h2,h3⟩ | ⟨h1,h2⟩
 ·refine ⟨y,by rw [h2]; rfl,?_⟩
  unfold zL
  rw [n5] at h1
  simp only [Bool.not_eq_true'] at h1
  rw [h1]
  simpa using h3
 ·rw [n5] at h1
  simp only [Bool.not_eq_false'] at h1
  rw [h2]
  rcases xg (s0:=(0:Int)) (S:=Unit) (R:=Int×Int×Int×Int) (k:=k2) (body:=L1) (f:=fun _=>some (.ret z)) (ns c.aD.length) (DS c) (fun y:Int×Int×Int×Int=>y.1≠0) (fun i=>(i:Int)) rfl
   (fun i x hx hp=>by
    obtain ⟨rfl,hi⟩:=iv hx
    rw [b0 i hi]
    rcases Yr i hi with ⟨q1,_⟩ | ⟨_,q2⟩
    ·unfold DS at hp; rw [q1] at hp; cases hp
    ·exact q2)
   (fun i x hx hp=>by
    obtain ⟨rfl,hi⟩:=iv hx
    rw [b0 i hi]
    rcases Yr i hi with ⟨_,q⟩ | ⟨q1,_⟩
    ·exact q
    ·unfold DS at hp; rw [q1] at hp; cases hp) (e:=(c.aD.length:Int)) (by rw [cQ]; exact b2) with ⟨g1,y,g2,g3⟩ | ⟨g1,g2⟩
  ·refine ⟨y,by rw [g2]; rfl,?_⟩
   unfold zL
   rw [h1,g1]
   simpa using g3
  ·refine ⟨z,by rw [g2]; rfl,?_⟩
   unfold zL
   rw [h1,g1,hz]
   rfl
section
variable {c:aG} (H:pM c)
include H
theorem Mr:∃ y,mD c=some y∧(y.1 == 0)=zL c:=by
 have hm:=H.m
 have sF:=H.il
 have u0:∀ i:Nat,i < c.aD.length→jR c i=if uh c i then some (Out.norm ((i+1:Nat):Int)) else some (Out.ret ((1:Int),(i:Int),(0:Int),(0:Int))):=by
  intro i hi
  have f1:=H.fr (f:=(i:Int)) (by omega) (by omega)
  have t1:=H.to (f:=(i:Int)) (by omega) (by omega)
  have i1:=H.id f1.1 f1.2
  have i2:=H.id t1.1 t1.2
  unfold jR
  rw [ay (by omega),cond_true,H.jd (by omega) (by omega),aF,H.pg f1.1 f1.2,aF,H.mh i1.1 i1.2,aF,H.ly i1.1 i1.2 (by omega) (by omega),aF]
  rw [H.mh (by omega) (by omega),aF,H.jh (by omega) (by omega),aF,H.pg t1.1 t1.2,aF,H.ly (by omega) (by omega) i2.1 i2.2,aF]
  unfold uh
  by_cases e1:gk c.aB (gi c.aJ (gi c.aD i)) i=i
  ·by_cases e2:gk c.aB i (gi c.aJ (gi c.To i))=i
   ·simp [e1,e2,bH (show i < 9223372036854775807 by omega)]
   ·simp [e1,e2,xe e2]
  ·simp [e1,xe e1]
 unfold mD
 refine IL (c:=c) (z:=(0,0,0,0)) rfl (L2:=iA c) (L3:=hY c) (k4:=4) (k6:=6) ?_ ?_ ?_ ?_ ?_ ?_ ?_ ?_ ?_ ?_ ?_
 ·intro i hi hp; rw [u0 i hi,hp]; rfl
 ·intro i hi hp; rw [u0 i hi,hp]; exact ⟨_,rfl,by simp⟩
 ·unfold jR; rw [bm (by omega),cond_false]
 ·intro i hi; unfold mR; rw [ay (by omega),cond_true,bH (by omega)]
 ·unfold mR; rw [bm (by omega),cond_false]
 ·intro i j hi hj he
  unfold iA
  rw [ay (by omega),cond_true,H.jh (by omega) (by omega),aF,H.jd (by omega) (by omega),aF,show (gi c.To (i:Int) != gi c.aD (j:Int))=true by simp [he],cond_true,bH (by omega)]
 ·intro i j hi hj he
  unfold iA
  rw [ay (by omega),cond_true,H.jh (by omega) (by omega),aF,H.jd (by omega) (by omega),aF,show (gi c.To (i:Int) != gi c.aD (j:Int))=false by simp [he],cond_false,bH (by omega)]
 ·intro i; unfold iA; rw [bm (by omega),cond_false]
 ·intro i j h hi hj hh he hp
  unfold hY
  rw [ay (by omega),cond_true,H.jh (by omega) (by omega),aF,H.jd (by omega) (by omega),aF]
  unfold vC at hp
  by_cases e:gi c.To j=gi c.aD h
  ·have c1:=H.cell i j (by omega) (by omega) (by omega) (by omega) he
   have c2:=H.cell j h (by omega) (by omega) (by omega) (by omega) e
   rw [show (gi c.To (j:Int) == gi c.aD (h:Int))=true by simp [e]] at hp ⊢
   rw [cond_true,H.mh (by omega) (by omega),aF,H.ly (by omega) (by omega) (by omega) (by omega),aF,H.mh c1.1 c1.2.1,aF,H.ly c1.1 c1.2.1 (by omega) (by omega),aF,aF,H.mh (by omega) (by omega),aF,H.ly (by omega) (by omega) (by omega) (by omega),aF,H.ly (by omega) (by omega) c2.1 c2.2.1,aF]
   rw [Bool.true_and] at hp
   rw [hp,aF,cond_false,bH (by omega)]
  ·rw [show (gi c.To (j:Int) == gi c.aD (h:Int))=false by simp [e],cond_false,aF,cond_false,bH (by omega)]
 ·intro i j h hi hj hh he hp
  unfold hY
  rw [ay (by omega),cond_true,H.jh (by omega) (by omega),aF,H.jd (by omega) (by omega),aF]
  unfold vC at hp
  simp only [Bool.and_eq_true] at hp
  have e:gi c.To j=gi c.aD h:=by simpa using hp.1
  have c1:=H.cell i j (by omega) (by omega) (by omega) (by omega) he
  have c2:=H.cell j h (by omega) (by omega) (by omega) (by omega) e
  rw [hp.1,cond_true,H.mh (by omega) (by omega),aF,H.ly (by omega) (by omega) (by omega) (by omega),aF,H.mh c1.1 c1.2.1,aF,H.ly c1.1 c1.2.1 (by omega) (by omega),aF,aF,H.mh (by omega) (by omega),aF,H.ly (by omega) (by omega) (by omega) (by omega),aF,H.ly (by omega) (by omega) c2.1 c2.2.1,aF]
  rw [hp.2,aF,cond_true]
  exact ⟨_,rfl,by simp⟩
 ·intro i j; unfold hY; rw [bm (by omega),cond_false]
theorem Ms:∃ y,iD c=some y∧(y.1 == 0)=zL c:=by
 have hm:=H.m
 have sF:=H.il
 have u0:∀ i:Nat,i < c.aD.length→fX c c.aD.length i=if uh c i then some (Out.norm ((i+1:Nat):Int)) else some (Out.ret ((1:Int),(i:Int),(0:Int),(0:Int))):=by
  intro i hi
  have f1:=H.fr (f:=(i:Int)) (by omega) (by omega)
  have t1:=H.to (f:=(i:Int)) (by omega) (by omega)
  have i1:=H.id f1.1 f1.2
  have i2:=H.id t1.1 t1.2
  unfold fX
  rw [ay (by omega),cond_true,H.jd (by omega) (by omega),aF,H.pg f1.1 f1.2,aF,H.qX i1.1 i1.2 (by omega) (by omega),aF]
  rw [H.jh (by omega) (by omega),aF,H.pg t1.1 t1.2,aF,H.qX (by omega) (by omega) i2.1 i2.2,aF]
  unfold uh
  by_cases e1:gk c.aB (gi c.aJ (gi c.aD i)) i=i
  ·by_cases e2:gk c.aB i (gi c.aJ (gi c.To i))=i
   ·simp [e1,e2,bH (show i < 9223372036854775807 by omega)]
   ·simp [e1,e2,xe e2]
  ·simp [e1,xe e1]
 have pos:∀ i j:Nat,i < c.aD.length→j < c.aD.length→(gi c.To i=gi c.aD j→0≤gk c.aB i j)∧(gi c.To i≠gi c.aD j→gk c.aB i j < 0):=by
  intro i j hi hj
  refine ⟨fun e=>(H.cell i j (by omega) (by omega) (by omega) (by omega) e).1,fun e=>?_⟩
  rw [H.none i j (by omega) (by omega) (by omega) (by omega) e]; decide
 unfold iD cL
 rw [show an (S:=Unit) (some (Out.ret (c.aD.length:Int)))=some (c.aD.length:Int) from rfl,aF]
 refine IL (c:=c) (z:=(0,0,0,0)) rfl (L2:=eH c c.aD.length) (L3:=eG c c.aD.length) (k4:=4) (k6:=6) ?_ ?_ ?_ ?_ ?_ ?_ ?_ ?_ ?_ ?_ ?_
 ·intro i hi hp; rw [u0 i hi,hp]; rfl
 ·intro i hi hp; rw [u0 i hi,hp]; exact ⟨_,rfl,by simp⟩
 ·unfold fX; rw [bm (by omega),cond_false]
 ·intro i hi; unfold iU; rw [ay (by omega),cond_true,bH (by omega)]
 ·unfold iU; rw [bm (by omega),cond_false]
 ·intro i j hi hj he
  unfold eH
  rw [ay (by omega),cond_true,H.qX (by omega) (by omega) (by omega) (by omega),aF,ay ((pos i j hi hj).2 he),cond_true,bH (by omega)]
 ·intro i j hi hj he
  have:=(pos i j hi hj).1 he
  unfold eH
  rw [ay (by omega),cond_true,H.qX (by omega) (by omega) (by omega) (by omega),aF,bm (by omega),cond_false,bH (by omega)]
 ·intro i; unfold eH; rw [bm (by omega),cond_false]
 ·intro i j h hi hj hh he hp
  unfold eG
  rw [ay (by omega),cond_true,H.qX (by omega) (by omega) (by omega) (by omega),aF]
  unfold vC at hp
  by_cases e:gi c.To j=gi c.aD h
  ·have c1:=H.cell i j (by omega) (by omega) (by omega) (by omega) he
   have c2:=H.cell j h (by omega) (by omega) (by omega) (by omega) e
   rw [show (gi c.To (j:Int) == gi c.aD (h:Int))=true by simp [e],Bool.true_and] at hp
   rw [ay (show gk c.aB j h ≥ 0 from c2.1),cond_true,H.qX (by omega) (by omega) (by omega) (by omega),aF,H.qX c1.1 c1.2.1 (by omega) (by omega),aF,aF,H.qX (by omega) (by omega) c2.1 c2.2.1,aF,hp,aF,cond_false,bH (by omega)]
  ·have:=(pos j h hj hh).2 e
   rw [bm (show ¬ gk c.aB j h ≥ 0 by omega),cond_false,aF,cond_false,bH (by omega)]
 ·intro i j h hi hj hh he hp
  unfold eG
  unfold vC at hp
  simp only [Bool.and_eq_true] at hp
  have e:gi c.To j=gi c.aD h:=by simpa using hp.1
  have c1:=H.cell i j (by omega) (by omega) (by omega) (by omega) he
  have c2:=H.cell j h (by omega) (by omega) (by omega) (by omega) e
  rw [ay (by omega),cond_true,H.qX (by omega) (by omega) (by omega) (by omega),aF,ay (show gk c.aB j h ≥ 0 from c2.1),cond_true,H.qX (by omega) (by omega) (by omega) (by omega),aF,H.qX c1.1 c1.2.1 (by omega) (by omega),aF,aF,H.qX (by omega) (by omega) c2.1 c2.2.1,aF,hp.2,aF,cond_true]
  exact ⟨_,rfl,by simp⟩
 ·intro i j; unfold eG; rw [bm (by omega),cond_false]
end
structure nb (c:aG):Prop extends pM c where
 zM:∀ f:Int,0≤f→f < c.aD.length→gk c.aB (gi c.aJ (gi c.aD f)) f=f
 Di:∀ f:Int,0≤f→f < c.aD.length→gk c.aB f (gi c.aJ (gi c.To f))=f
 assoc:∀ f g h:Int,0≤f→f < c.aD.length→0≤g→g < c.aD.length→0≤h→h < c.aD.length→gi c.To f=gi c.aD g→gi c.To g=gi c.aD h→
  gk c.aB (gk c.aB f g) h=gk c.aB f (gk c.aB g h)
def ri (c:aG):Bool:=qW c && zL c
theorem xi {c:aG} (h:ri c=true):nb c:=by
 unfold ri at h
 simp only [Bool.and_eq_true] at h
 obtain ⟨h1,h2⟩:=h
 have H:=Cj h1
 unfold zL at h2
 simp only [Bool.and_eq_true,List.all_eq_true,Bool.not_eq_true',List.any_eq_false] at h2
 obtain ⟨h2,h3⟩:=h2
 refine { H with
  zM:=fun f a b=>?_
  Di:=fun f a b=>?_
  assoc:=fun f g h a b a' b' a'' b'' e1 e2=>?_ }
 ·have:=h2 f (bu.2 ⟨a,b⟩); unfold uh at this; simp at this; exact this.1
 ·have:=h2 f (bu.2 ⟨a,b⟩); unfold uh at this; simp at this; exact this.2
 ·have:=h3 f (bu.2 ⟨a,b⟩)
  unfold DS at this
  simp only [List.any_eq_true,not_exists,not_and] at this
  have:=this g (bu.2 ⟨a',b'⟩)
  unfold AX at this
  simp only [Bool.and_eq_true,beq_iff_eq,List.any_eq_true,not_and,not_exists] at this
  have:=this e1 h (bu.2 ⟨a'',b''⟩)
  unfold vC at this
  simpa [e2] using this
theorem Mt {c:aG} (hs:gu c):nR c=some (ri c):=by
 unfold nR
 rw [Mp hs,aF]
 unfold ri
 cases h:qW c with
 | false=>rfl
 | true=>
  obtain ⟨y,h1,h2⟩:=Mr (Cj h)
  rw [Bool.not_true,cond_false,h1,aF,h2]; rfl
theorem Mu {c:aG} (hs:gu c):eW c=some (ri c):=by
 unfold eW
 rw [Mq hs,aF]
 unfold ri
 cases h:qW c with
 | false=>rfl
 | true=>
  obtain ⟨y,h1,h2⟩:=Ms (Cj h)
  rw [Bool.not_true,cond_false,h1,aF,h2]; rfl
end Go.Proofs.YtgjbmjjihmfppaaGreat
