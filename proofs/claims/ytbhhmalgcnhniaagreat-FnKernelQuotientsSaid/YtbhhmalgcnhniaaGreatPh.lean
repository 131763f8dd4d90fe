/- Lists of arrows and sieves: what the reference's and the program's small functions reckon. No condition beside those that each theorem names. -/
import Derived.Test.YtbhhmalgcnhniaaGreatPe
set_option linter.unusedVariables false
set_option linter.unusedSectionVars false
set_option linter.unusedSimpArgs false
namespace Go.Li
open Go
section
variable {S S1 R α σ β:Type} {body:S1→Option (Out S1 R)}
end
end Go.Li
namespace Go.Proofs.YtbhhmalgcnhniaaGreat
open Go Go.Li
set_option linter.unusedVariables false
set_option linter.unusedSectionVars false
set_option linter.unusedSimpArgs false
def r3 (c:aC) (x:Int):List Int:=(ns c.aA.length).filter fun a=>gi c.aA a == x
theorem sx {c:aC} {x a:Int}:a∈r3 c x↔(0≤a∧a < c.aA.length)∧gi c.aA a=x:=by
 unfold r3; rw [List.mem_filter,dy]; simp
def hasB (l:List Int) (n:Int):Bool:=l.any fun y=>y == n
theorem zd {l:List Int} {n:Int}:hasB l n=true↔n∈l:=by unfold hasB; simp
theorem RN (l:List Int) (n:Int) (hl:l.length≤1048576000):oL l n=some (hasB l n):=by
 unfold oL
 refine (congrArg aq (mf l (fun y=>y == n) (fun i=>(i:Int)) rfl ?_ ?_ (e:=(l.length:Int)) (y:=true) ?_)).trans ?_
 ·intro i x hx hp
  have hi:=db hx
  unfold nR
  rw [bm (by omega),cond_true,fj,hx,aE,hp,cond_false,bI (by omega)]
 ·intro i x hx hp
  have hi:=db hx
  unfold nR
  rw [bm (by omega),cond_true,fj,hx,aE,hp,cond_true]
 ·unfold nR; rw [br (by omega),cond_false]
 ·show aq (if hasB l n=true then _ else _)=_
  cases hasB l n <;> rfl
def ME (c:aC) (l:List Int):Prop:=∀ a∈l,0≤a∧a < c.aA.length
def QF (c:aC) (A:List Int) (a:Int):Bool:=A.any fun x=>(ns c.aA.length).any fun b=>(gi c.To x == gi c.aA b) && gk c.aB x b == a
def nr (c:aC) (A:List Int):List Int:=(ns c.aA.length).filter (QF c A)
end Go.Proofs.YtbhhmalgcnhniaaGreat
namespace Go.Li
open Go
theorem RP {S S1 R:Type} {k:Nat} {body:S1→Option (Out S1 R)} {f:S1→Option (Out S R)} {s s':S1} (h:body s=some (.norm s')):ae (ab k (aj body s)) f=ae (ab k (aj body s')) f:=by
 rw [su,h]
theorem MG {S S1 R:Type} {k:Nat} {body:S1→Option (Out S1 R)} {f:S1→Option (Out S R)} {s e:S1} (h:body s=some (.exit k e)):ae (ab k (aj body s)) f=f e:=xV (vu h)
theorem MH {S S1 R:Type} {k:Nat} {body:S1→Option (Out S1 R)} {f:S1→Option (Out S R)} {s:S1} {y:R} (h:body s=some (.ret y)):ae (ab k (aj body s)) f=some (.ret y):=Dd (Ar h)
end Go.Li
namespace Go.Proofs.YtbhhmalgcnhniaaGreat
open Go Go.Li
set_option linter.unusedVariables false
set_option linter.unusedSectionVars false
set_option linter.unusedSimpArgs false
theorem Pl (x y:List Int) (hx:x.length≤1048576000):kL x y=some (lexLt x y):=by
 have key:∀ (m i:Nat),x.length - i=m→i≤x.length→i≤y.length→
   aq (S:=Unit) (ae (ab 0 (aj (cQ x y) (i:Int))) (fun aX=>(some (Out.ret ((decide ((x.length:Int) < (y.length:Int))))))))=some (lexLt (x.drop i) (y.drop i)):=by
  intro m
  induction m with
  | zero=>
   intro i hm hi hy
   obtain rfl:i=x.length:=by omega
   rw [MG (e:=(x.length:Int)) (by unfold cQ; rw [br (by omega),cond_false,aE,cond_false]),List.drop_length]
   by_cases h:x.length < y.length
   ·rw [bm (by omega),List.drop_eq_getElem_cons h]; rfl
   ·rw [br (by omega),List.drop_eq_nil_of_le (by omega)]; rfl
  | succ m ih=>
   intro i hm hi hy
   have Vv:x[i]? = some (x[i]'(by omega)):=List.getElem?_eq_getElem (by omega)
   rw [List.drop_eq_getElem_cons (show i < x.length by omega)]
   by_cases h:i=y.length
   ·rw [List.drop_eq_nil_of_le (show y.length≤i by omega),MG (e:=(i:Int)) (by unfold cQ; rw [bm (by omega),cond_true,br (by omega),aE,cond_false]),br (by omega)]; rfl
   ·have Vw:y[i]? = some (y[i]'(by omega)):=List.getElem?_eq_getElem (by omega)
    rw [List.drop_eq_getElem_cons (show i < y.length by omega)]
    unfold lexLt mw
    by_cases e:x[i]'(by omega)=y[i]'(by omega)
    ·rw [if_pos e,RP (s':=((i+1:Nat):Int)) (by unfold cQ; rw [bm (by omega),cond_true,bm (by omega),aE,cond_true,fj,Vv,aE,fj,Vw,aE,qR e,cond_false,bI (by omega)])]
     exact ih (i+1) (by omega) (by omega) (by omega)
    ·rw [if_neg e]
     by_cases l:x[i]'(by omega) < y[i]'(by omega)
     ·rw [if_pos l,MH (y:=true) (by unfold cQ; rw [bm (by omega),cond_true,bm (by omega),aE,cond_true,fj,Vv,aE,fj,Vw,aE,wz e,cond_true,aE,aE,bm l])]; rfl
     ·rw [if_neg l,MH (y:=false) (by unfold cQ; rw [bm (by omega),cond_true,bm (by omega),aE,cond_true,fj,Vv,aE,fj,Vw,aE,wz e,cond_true,aE,aE,br l])]; rfl
 exact key x.length 0 rfl (Nat.zero_le _) (Nat.zero_le _)
theorem G5 (x y:List Int) (hx:x.length≤1048576000):dQ x y=some (x == y):=My x y hx
def QG (c:aC) (a:Int) (s:List Int):List Int:=(r3 c (gi c.To a)).filter fun b=>hasB s (gk c.aB a b)
end Go.Proofs.YtbhhmalgcnhniaaGreat
