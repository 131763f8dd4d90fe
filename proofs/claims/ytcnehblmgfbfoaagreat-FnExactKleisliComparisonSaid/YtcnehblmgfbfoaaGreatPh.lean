/- Lists of arrows and sieves: what the reference's and the program's small functions reckon. No condition beside those that each theorem names. -/
import Derived.Test.YtcnehblmgfbfoaaGreatPe
set_option linter.unusedVariables false
set_option linter.unusedSectionVars false
set_option linter.unusedSimpArgs false
namespace Go.Li
open Go
section
variable {S S1 R α σ β:Type} {body:S1→Option (Out S1 R)}
end
theorem pN {n:Nat} {p:Int→Bool}:((ns n).filter p).Nodup:=by
 show List.Pairwise (·≠·) _
 refine List.Pairwise.filter _ ?_
 unfold ns
 rw [List.pairwise_map]
 exact (List.nodup_range (n:=n)).imp fun h e=>h (Int.ofNat.inj e)
end Go.Li
namespace Go.Proofs.YtcnehblmgfbfoaaGreat
open Go Go.Li
set_option linter.unusedSectionVars false
def p6 (c:aH) (x:Int):List Int:=(ns c.aF.length).filter fun a=>gi c.aF a == x
theorem qF {c:aH} {x a:Int}:a∈p6 c x↔(0≤a∧a < c.aF.length)∧gi c.aF a=x:=by
 unfold p6; rw [List.mem_filter,cu]; simp
def hasB (l:List Int) (n:Int):Bool:=l.any fun y=>y == n
theorem zd {l:List Int} {n:Int}:hasB l n=true↔n∈l:=by unfold hasB; simp
def I0 (c:aH) (l:List Int):Prop:=∀ a∈l,0≤a∧a < c.aF.length
def Mx (c:aH) (A:List Int) (a:Int):Bool:=A.any fun x=>(ns c.aF.length).any fun b=>(gi c.To x == gi c.aF b) && gk c.aC x b == a
def km (c:aH) (A:List Int):List Int:=(ns c.aF.length).filter (Mx c A)
end Go.Proofs.YtcnehblmgfbfoaaGreat
namespace Go.Li
open Go
theorem NS {S S1 R:Type} {k:Nat} {body:S1→Option (Out S1 R)} {f:S1→Option (Out S R)} {s s':S1} (h:body s=some (.norm s')):aj (ah k (ai body s)) f=aj (ah k (ai body s')) f:=by
 rw [pY,h]
theorem Rh {S S1 R:Type} {k:Nat} {body:S1→Option (Out S1 R)} {f:S1→Option (Out S R)} {s e:S1} (h:body s=some (.exit k e)):aj (ah k (ai body s)) f=f e:=tz (rD h)
theorem DI {S S1 R:Type} {k:Nat} {body:S1→Option (Out S1 R)} {f:S1→Option (Out S R)} {s:S1} {y:R} (h:body s=some (.ret y)):aj (ah k (ai body s)) f=some (.ret y):=xN (xM h)
def nv {α:Type} (p:α→Bool):List α→Nat→Int
 | [],_=>-1
 | x :: l,i=>if p x then (i:Int) else nv p l (i+1)
end Go.Li
namespace Go.Proofs.YtcnehblmgfbfoaaGreat
open Go Go.Li
set_option linter.unusedSectionVars false
theorem Et (x y:List Int) (hx:x.length≤1048576000):nW x y=some (pg x y):=by
 have key:∀ (m i:Nat),x.length - i=m→i≤x.length→i≤y.length→
   an (S:=Unit) (aj (ah 0 (ai (fJ x y) (i:Int))) (fun dg=>(bif decide ((x.length:Int) < (y.length:Int)) then (some (Out.ret (((-1:Int))))) else (some (Out.ret (((0:Int))))))))=some (pg (x.drop i) (y.drop i)):=by
  intro m
  induction m with
  | zero=>
   intro i hm hi hy
   obtain rfl:i=x.length:=by omega
   rw [Rh (e:=(x.length:Int)) (by unfold fJ; rw [au (by omega),cond_false]),List.drop_length]
   by_cases h:x.length < y.length
   ·rw [aq (by omega),cond_true,List.drop_eq_getElem_cons h]; rfl
   ·rw [au (by omega),cond_false,List.drop_eq_nil_of_le (by omega)]; rfl
  | succ m ih=>
   intro i hm hi hy
   have FG:x[i]? = some (x[i]'(by omega)):=List.getElem?_eq_getElem (by omega)
   rw [List.drop_eq_getElem_cons (show i < x.length by omega)]
   by_cases h:i=y.length
   ·rw [List.drop_eq_nil_of_le (show y.length≤i by omega),DI (y:=1) (by unfold fJ; rw [aq (by omega),cond_true,np (by omega),cond_true])]; rfl
   ·have Ri:y[i]? = some (y[i]'(by omega)):=List.getElem?_eq_getElem (by omega)
    rw [List.drop_eq_getElem_cons (show i < y.length by omega)]
    unfold pg
    by_cases e:x[i]'(by omega)=y[i]'(by omega)
    ·rw [if_pos e,NS (s':=((i+1:Nat):Int)) (by unfold fJ; rw [aq (by omega),cond_true,kh (by omega),cond_false,bh,FG,aA,bh,Ri,aA,ua e,cond_false,bK (by omega)])]
     exact ih (i+1) (by omega) (by omega) (by omega)
    ·rw [if_neg e]
     by_cases l:x[i]'(by omega) < y[i]'(by omega)
     ·rw [if_pos l,DI (y:=-1) (by unfold fJ; rw [aq (by omega),cond_true,kh (by omega),cond_false,bh,FG,aA,bh,Ri,aA,p5 e,cond_true,aA,aA,aq l,cond_true])]; rfl
     ·rw [if_neg l,DI (y:=1) (by unfold fJ; rw [aq (by omega),cond_true,kh (by omega),cond_false,bh,FG,aA,bh,Ri,aA,p5 e,cond_true,aA,aA,au l,cond_false])]; rfl
 exact key x.length 0 rfl (Nat.zero_le _) (Nat.zero_le _)
theorem ui (x y:List Int) (hx:x.length≤1048576000):lB x y=some (x == y):=by
 unfold lB
 rw [Et x y hx,aA]
 show some (pg x y == 0)=_
 congr 1
 rw [Bool.eq_iff_iff]
 simp only [beq_iff_eq]
 exact ⟨KM,fun h=>by rw [h]; exact KL y⟩
theorem tV (x y:List Int) (hx:x.length≤1048576000):iJ x y=some (x == y):=z6 x y hx
def Rj (l:List (List Int)) (s:List Int):Int:=nv (fun y=>y == s) l 0
def My (c:aH) (a:Int) (s:List Int):List Int:=(p6 c (gi c.To a)).filter fun b=>hasB s (gk c.aC a b)
end Go.Proofs.YtcnehblmgfbfoaaGreat
