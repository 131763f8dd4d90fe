/- Lists of arrows and sieves: what the reference's and the program's small functions reckon. No condition beside those that each theorem names. -/
import Derived.Test.YtbhhmalgcnhniaaGreatPe
namespace Go.Li
open Go
section
variable {S S1 R α σ β:Type} {body:S1→Option (Out S1 R)}
end
theorem any_filter' {α:Type} (l:List α) (p q:α→Bool):(l.filter p).any q=l.any fun x=>p x && q x:=by
 induction l with
 | nil=>rfl
 | cons a l ih=>by_cases hp:p a=true <;> simp [hp,ih]
theorem ya {n:Nat} {p:Int→Bool}:((ns n).filter p).Nodup:=by
 show List.Pairwise (·≠·) _
 refine List.Pairwise.filter _ ?_
 unfold ns
 rw [List.pairwise_map]
 exact (List.nodup_range (n:=n)).imp fun h e=>h (Int.ofNat.inj e)
end Go.Li
namespace Go.Proofs.YtbhhmalgcnhniaaGreat
open Go Go.Li
set_option linter.unusedSectionVars false
def tn (c:aG) (x:Int):List Int:=(ns c.aF.length).filter fun a=>gi c.aF a == x
theorem tN {c:aG} {x a:Int}:a∈tn c x↔(0≤a∧a < c.aF.length)∧gi c.aF a=x:=by
 unfold tn; rw [List.mem_filter,dh]; simp
def hasB (l:List Int) (n:Int):Bool:=l.any fun y=>y == n
theorem xu {l:List Int} {n:Int}:hasB l n=true↔n∈l:=by unfold hasB; simp
theorem R4 (l:List Int) (n:Int) (hl:l.length≤1048576000):qX l n=some (hasB l n):=by
 unfold qX
 refine (congrArg ak (jc l (fun y=>y == n) (fun i=>(i:Int)) rfl ?_ ?_ (e:=(l.length:Int)) (y:=true) ?_)).trans ?_
 ·intro i x hx hp
  have hi:=bb hx
  unfold nJ
  rw [ao (by omega),cond_true,bu,hx,aE,hp,cond_false,bF (by omega)]
 ·intro i x hx hp
  have hi:=bb hx
  unfold nJ
  rw [ao (by omega),cond_true,bu,hx,aE,hp,cond_true]
 ·unfold nJ; rw [ay (by omega),cond_false]
 ·show ak (if hasB l n=true then _ else _)=_
  cases hasB l n <;> rfl
theorem R5 (l:List Int) (n:Int) (hl:l.length≤1048576000):rY l n=some (hasB l n):=by
 unfold rY
 refine (congrArg ak (jc l (fun y=>y == n) (fun i=>(i:Int)) rfl ?_ ?_ (e:=(l.length:Int)) (y:=true) ?_)).trans ?_
 ·intro i x hx hp
  have hi:=bb hx
  unfold qY
  rw [ao (by omega),cond_true,bu,hx,aE,hp,cond_false,bF (by omega)]
 ·intro i x hx hp
  have hi:=bb hx
  unfold qY
  rw [ao (by omega),cond_true,bu,hx,aE,hp,cond_true]
 ·unfold qY; rw [ay (by omega),cond_false]
 ·show ak (if hasB l n=true then _ else _)=_
  cases hasB l n <;> rfl
def MH (c:aG) (l:List Int):Prop:=∀ a∈l,0≤a∧a < c.aF.length
def QP (c:aG) (A:List Int) (a:Int):Bool:=A.any fun x=>(ns c.aF.length).any fun b=>(gi c.To x == gi c.aF b) && gk c.aC x b == a
def ni (c:aG) (A:List Int):List Int:=(ns c.aF.length).filter (QP c A)
end Go.Proofs.YtbhhmalgcnhniaaGreat
namespace Go.Li
open Go
theorem Jh {S S1 R:Type} {k:Nat} {body:S1→Option (Out S1 R)} {f:S1→Option (Out S R)} {s s':S1} (h:body s=some (.norm s')):af (ae k (ag body s)) f=af (ae k (ag body s')) f:=by
 rw [p5,h]
theorem Hy {S S1 R:Type} {k:Nat} {body:S1→Option (Out S1 R)} {f:S1→Option (Out S R)} {s e:S1} (h:body s=some (.exit k e)):af (ae k (ag body s)) f=f e:=vn (rq h)
theorem A5 {S S1 R:Type} {k:Nat} {body:S1→Option (Out S1 R)} {f:S1→Option (Out S R)} {s:S1} {y:R} (h:body s=some (.ret y)):af (ae k (ag body s)) f=some (.ret y):=AY (x8 h)
end Go.Li
namespace Go.Proofs.YtbhhmalgcnhniaaGreat
open Go Go.Li
set_option linter.unusedSectionVars false
theorem Ir (x y:List Int) (hx:x.length≤1048576000):rT x y=some (qu x y):=by
 have key:∀ (m i:Nat),x.length - i=m→i≤x.length→i≤y.length→
   ak (S:=Unit) (af (ae 0 (ag (gT x y) (i:Int))) (fun da=>(bif decide ((x.length:Int) < (y.length:Int)) then (some (Out.ret (((-1:Int))))) else (some (Out.ret (((0:Int))))))))=some (qu (x.drop i) (y.drop i)):=by
  intro m
  induction m with
  | zero=>
   intro i hm hi hy
   obtain rfl:i=x.length:=by omega
   rw [Hy (e:=(x.length:Int)) (by unfold gT; rw [ay (by omega),cond_false]),List.drop_length]
   by_cases h:x.length < y.length
   ·rw [ao (by omega),cond_true,List.drop_eq_getElem_cons h]; rfl
   ·rw [ay (by omega),cond_false,List.drop_eq_nil_of_le (by omega)]; rfl
  | succ m ih=>
   intro i hm hi hy
   have Hz:x[i]? = some (x[i]'(by omega)):=List.getElem?_eq_getElem (by omega)
   rw [List.drop_eq_getElem_cons (show i < x.length by omega)]
   by_cases h:i=y.length
   ·rw [List.drop_eq_nil_of_le (show y.length≤i by omega),A5 (y:=1) (by unfold gT; rw [ao (by omega),cond_true,jr (by omega),cond_true])]; rfl
   ·have HA:y[i]? = some (y[i]'(by omega)):=List.getElem?_eq_getElem (by omega)
    rw [List.drop_eq_getElem_cons (show i < y.length by omega)]
    unfold qu
    by_cases e:x[i]'(by omega)=y[i]'(by omega)
    ·rw [if_pos e,Jh (s':=((i+1:Nat):Int)) (by unfold gT; rw [ao (by omega),cond_true,vo (by omega),cond_false,bu,Hz,aE,bu,HA,aE,tk e,cond_false,bF (by omega)])]
     exact ih (i+1) (by omega) (by omega) (by omega)
    ·rw [if_neg e]
     by_cases l:x[i]'(by omega) < y[i]'(by omega)
     ·rw [if_pos l,A5 (y:=-1) (by unfold gT; rw [ao (by omega),cond_true,vo (by omega),cond_false,bu,Hz,aE,bu,HA,aE,sa e,cond_true,aE,aE,ao l,cond_true])]; rfl
     ·rw [if_neg l,A5 (y:=1) (by unfold gT; rw [ao (by omega),cond_true,vo (by omega),cond_false,bu,Hz,aE,bu,HA,aE,sa e,cond_true,aE,aE,ay l,cond_false])]; rfl
 exact key x.length 0 rfl (Nat.zero_le _) (Nat.zero_le _)
theorem xw (x y:List Int) (hx:x.length≤1048576000):nA x y=some (x == y):=by
 unfold nA
 rw [Ir x y hx,aE]
 show some (qu x y == 0)=_
 congr 1
 rw [Bool.eq_iff_iff]
 simp only [beq_iff_eq]
 exact ⟨Ow,fun h=>by rw [h]; exact Ov y⟩
theorem Pf (x y:List Int) (hx:x.length≤1048576000):mU x y=some (lexLt x y):=by
 have key:∀ (m i:Nat),x.length - i=m→i≤x.length→i≤y.length→
   ak (S:=Unit) (af (ae 0 (ag (fE x y) (i:Int))) (fun bc=>(some (Out.ret ((decide ((x.length:Int) < (y.length:Int))))))))=some (lexLt (x.drop i) (y.drop i)):=by
  intro m
  induction m with
  | zero=>
   intro i hm hi hy
   obtain rfl:i=x.length:=by omega
   rw [Hy (e:=(x.length:Int)) (by unfold fE; rw [ay (by omega),cond_false,aE,cond_false]),List.drop_length]
   by_cases h:x.length < y.length
   ·rw [ao (by omega),List.drop_eq_getElem_cons h]; rfl
   ·rw [ay (by omega),List.drop_eq_nil_of_le (by omega)]; rfl
  | succ m ih=>
   intro i hm hi hy
   have Hz:x[i]? = some (x[i]'(by omega)):=List.getElem?_eq_getElem (by omega)
   rw [List.drop_eq_getElem_cons (show i < x.length by omega)]
   by_cases h:i=y.length
   ·rw [List.drop_eq_nil_of_le (show y.length≤i by omega),Hy (e:=(i:Int)) (by unfold fE; rw [ao (by omega),cond_true,ay (by omega),aE,cond_false]),ay (by omega)]; rfl
   ·have HA:y[i]? = some (y[i]'(by omega)):=List.getElem?_eq_getElem (by omega)
    rw [List.drop_eq_getElem_cons (show i < y.length by omega)]
    unfold lexLt qu
    by_cases e:x[i]'(by omega)=y[i]'(by omega)
    ·rw [if_pos e,Jh (s':=((i+1:Nat):Int)) (by unfold fE; rw [ao (by omega),cond_true,ao (by omega),aE,cond_true,bu,Hz,aE,bu,HA,aE,tk e,cond_false,bF (by omega)])]
     exact ih (i+1) (by omega) (by omega) (by omega)
    ·rw [if_neg e]
     by_cases l:x[i]'(by omega) < y[i]'(by omega)
     ·rw [if_pos l,A5 (y:=true) (by unfold fE; rw [ao (by omega),cond_true,ao (by omega),aE,cond_true,bu,Hz,aE,bu,HA,aE,sa e,cond_true,aE,aE,ao l])]; rfl
     ·rw [if_neg l,A5 (y:=false) (by unfold fE; rw [ao (by omega),cond_true,ao (by omega),aE,cond_true,bu,Hz,aE,bu,HA,aE,sa e,cond_true,aE,aE,ay l])]; rfl
 exact key x.length 0 rfl (Nat.zero_le _) (Nat.zero_le _)
theorem Pg (x y:List Int) (hx:x.length≤1048576000):iO x y=some (x == y):=Mz x y hx
def QQ (c:aG) (a:Int) (s:List Int):List Int:=(tn c (gi c.To a)).filter fun b=>hasB s (gk c.aC a b)
end Go.Proofs.YtbhhmalgcnhniaaGreat
