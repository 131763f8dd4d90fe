/- Lists of arrows and sieves: what the reference's and the program's small functions reckon. No condition beside those that each theorem names. -/
import Derived.Test.YtjdkifckhidlbaaGreatPe
namespace Go.Li
open Go
section
variable {S S1 R α σ β:Type} {body:S1→Option (Out S1 R)}
end
end Go.Li
namespace Go.Proofs.YtjdkifckhidlbaaGreat
open Go Go.Li
set_option linter.unusedSectionVars false
def uC (c:aI) (x:Int):List Int:=(ns c.aH.length).filter fun a=>gi c.aH a == x
theorem uS {c:aI} {x a:Int}:a∈uC c x↔(0≤a∧a < c.aH.length)∧gi c.aH a=x:=by
 unfold uC; rw [List.mem_filter,gq]; simp
def hasB (l:List Int) (n:Int):Bool:=l.any fun y=>y == n
theorem DR {l:List Int} {n:Int}:hasB l n=true↔n∈l:=by unfold hasB; simp
def OJ (c:aI) (l:List Int):Prop:=∀ a∈l,0≤a∧a < c.aH.length
def SN (c:aI) (A:List Int) (a:Int):Bool:=A.any fun x=>(ns c.aH.length).any fun b=>(gi c.To x == gi c.aH b) && gk c.aE x b == a
def p9 (c:aI) (A:List Int):List Int:=(ns c.aH.length).filter (SN c A)
end Go.Proofs.YtjdkifckhidlbaaGreat
namespace Go.Li
open Go
theorem KO {S S1 R:Type} {k:Nat} {body:S1→Option (Out S1 R)} {f:S1→Option (Out S R)} {s s':S1} (h:body s=some (.norm s')):ai (af k (aj body s)) f=ai (af k (aj body s')) f:=by
 rw [uQ,h]
theorem I2 {S S1 R:Type} {k:Nat} {body:S1→Option (Out S1 R)} {f:S1→Option (Out S R)} {s e:S1} (h:body s=some (.exit k e)):ai (af k (aj body s)) f=f e:=Ac (xD h)
theorem Cj {S S1 R:Type} {k:Nat} {body:S1→Option (Out S1 R)} {f:S1→Option (Out S R)} {s:S1} {y:R} (h:body s=some (.ret y)):ai (af k (aj body s)) f=some (.ret y):=EX (Cg h)
end Go.Li
namespace Go.Proofs.YtjdkifckhidlbaaGreat
open Go Go.Li
set_option linter.unusedSectionVars false
theorem JT (x y:List Int) (hx:x.length≤1048576000):qY x y=some (sY x y):=by
 have key:∀ (m i:Nat),x.length - i=m→i≤x.length→i≤y.length→
   aq (S:=Unit) (ai (af 0 (aj (iF x y) (i:Int))) (fun ie=>(bif decide ((x.length:Int) < (y.length:Int)) then (some (Out.ret (((-1:Int))))) else (some (Out.ret (((0:Int))))))))=some (sY (x.drop i) (y.drop i)):=by
  intro m
  induction m with
  | zero=>
   intro i hm hi hy
   obtain rfl:i=x.length:=by omega
   rw [I2 (e:=(x.length:Int)) (by unfold iF; rw [br (by omega),cond_false]),List.drop_length]
   by_cases h:x.length < y.length
   ·rw [bc (by omega),cond_true,List.drop_eq_getElem_cons h]; rfl
   ·rw [br (by omega),cond_false,List.drop_eq_nil_of_le (by omega)]; rfl
  | succ m ih=>
   intro i hm hi hy
   have I3:x[i]? = some (x[i]'(by omega)):=List.getElem?_eq_getElem (by omega)
   rw [List.drop_eq_getElem_cons (show i < x.length by omega)]
   by_cases h:i=y.length
   ·rw [List.drop_eq_nil_of_le (show y.length≤i by omega),Cj (y:=1) (by unfold iF; rw [bc (by omega),cond_true,qd (by omega),cond_true])]; rfl
   ·have I4:y[i]? = some (y[i]'(by omega)):=List.getElem?_eq_getElem (by omega)
    rw [List.drop_eq_getElem_cons (show i < y.length by omega)]
    unfold sY
    by_cases e:x[i]'(by omega)=y[i]'(by omega)
    ·rw [if_pos e,KO (s':=((i+1:Nat):Int)) (by unfold iF; rw [bc (by omega),cond_true,tj (by omega),cond_false,di,I3,aG,di,I4,aG,sr e,cond_false,cI (by omega)])]
     exact ih (i+1) (by omega) (by omega) (by omega)
    ·rw [if_neg e]
     by_cases l:x[i]'(by omega) < y[i]'(by omega)
     ·rw [if_pos l,Cj (y:=-1) (by unfold iF; rw [bc (by omega),cond_true,tj (by omega),cond_false,di,I3,aG,di,I4,aG,sn e,cond_true,aG,aG,bc l,cond_true])]; rfl
     ·rw [if_neg l,Cj (y:=1) (by unfold iF; rw [bc (by omega),cond_true,tj (by omega),cond_false,di,I3,aG,di,I4,aG,sn e,cond_true,aG,aG,br l,cond_false])]; rfl
 exact key x.length 0 rfl (Nat.zero_le _) (Nat.zero_le _)
theorem yC (x y:List Int) (hx:x.length≤1048576000):mU x y=some (x == y):=by
 unfold mU
 rw [JT x y hx,aG]
 show some (sY x y == 0)=_
 congr 1
 rw [Bool.eq_iff_iff]
 simp only [beq_iff_eq]
 exact ⟨Qp,fun h=>by rw [h]; exact Qo y⟩
theorem Rc (x y:List Int) (hx:x.length≤1048576000):mN x y=some (lexLt x y):=by
 have key:∀ (m i:Nat),x.length - i=m→i≤x.length→i≤y.length→
   aq (S:=Unit) (ai (af 0 (aj (fQ x y) (i:Int))) (fun bo=>(some (Out.ret ((decide ((x.length:Int) < (y.length:Int))))))))=some (lexLt (x.drop i) (y.drop i)):=by
  intro m
  induction m with
  | zero=>
   intro i hm hi hy
   obtain rfl:i=x.length:=by omega
   rw [I2 (e:=(x.length:Int)) (by unfold fQ; rw [br (by omega),cond_false,aG,cond_false]),List.drop_length]
   by_cases h:x.length < y.length
   ·rw [bc (by omega),List.drop_eq_getElem_cons h]; rfl
   ·rw [br (by omega),List.drop_eq_nil_of_le (by omega)]; rfl
  | succ m ih=>
   intro i hm hi hy
   have I3:x[i]? = some (x[i]'(by omega)):=List.getElem?_eq_getElem (by omega)
   rw [List.drop_eq_getElem_cons (show i < x.length by omega)]
   by_cases h:i=y.length
   ·rw [List.drop_eq_nil_of_le (show y.length≤i by omega),I2 (e:=(i:Int)) (by unfold fQ; rw [bc (by omega),cond_true,br (by omega),aG,cond_false]),br (by omega)]; rfl
   ·have I4:y[i]? = some (y[i]'(by omega)):=List.getElem?_eq_getElem (by omega)
    rw [List.drop_eq_getElem_cons (show i < y.length by omega)]
    unfold lexLt sY
    by_cases e:x[i]'(by omega)=y[i]'(by omega)
    ·rw [if_pos e,KO (s':=((i+1:Nat):Int)) (by unfold fQ; rw [bc (by omega),cond_true,bc (by omega),aG,cond_true,di,I3,aG,di,I4,aG,sr e,cond_false,cI (by omega)])]
     exact ih (i+1) (by omega) (by omega) (by omega)
    ·rw [if_neg e]
     by_cases l:x[i]'(by omega) < y[i]'(by omega)
     ·rw [if_pos l,Cj (y:=true) (by unfold fQ; rw [bc (by omega),cond_true,bc (by omega),aG,cond_true,di,I3,aG,di,I4,aG,sn e,cond_true,aG,aG,bc l])]; rfl
     ·rw [if_neg l,Cj (y:=false) (by unfold fQ; rw [bc (by omega),cond_true,bc (by omega),aG,cond_true,di,I3,aG,di,I4,aG,sn e,cond_true,aG,aG,br l])]; rfl
 exact key x.length 0 rfl (Nat.zero_le _) (Nat.zero_le _)
theorem Bc (x y:List Int) (hx:x.length≤1048576000):fL x y=some (x == y):=E0 x y hx
def SP (c:aI) (a:Int) (s:List Int):List Int:=(uC c (gi c.To a)).filter fun b=>hasB s (gk c.aE a b)
end Go.Proofs.YtjdkifckhidlbaaGreat
