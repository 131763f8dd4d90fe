/- Lists of arrows and sieves: what the reference's and the program's small functions reckon. No condition beside those that each theorem names. -/
import Derived.Test.YtkcpiblgpnjanaaGreatPe
namespace Go.Li
open Go
section
variable {S S1 R α σ β:Type} {body:S1→Option (Out S1 R)}
end
end Go.Li
namespace Go.Proofs.YtkcpiblgpnjanaaGreat
open Go Go.Li
set_option linter.unusedSectionVars false
def sZ (c:aI) (x:Int):List Int:=(ns c.aG.length).filter fun a=>gi c.aG a == x
theorem tw {c:aI} {x a:Int}:a∈sZ c x↔(0≤a∧a < c.aG.length)∧gi c.aG a=x:=by
 unfold sZ; rw [List.mem_filter,fy]; simp
def hasB (l:List Int) (n:Int):Bool:=l.any fun y=>y == n
theorem C6 {l:List Int} {n:Int}:hasB l n=true↔n∈l:=by unfold hasB; simp
def NY (c:aI) (l:List Int):Prop:=∀ a∈l,0≤a∧a < c.aG.length
def RU (c:aI) (A:List Int) (a:Int):Bool:=A.any fun x=>(ns c.aG.length).any fun b=>(gi c.To x == gi c.aG b) && gk c.aF x b == a
def n5 (c:aI) (A:List Int):List Int:=(ns c.aG.length).filter (RU c A)
end Go.Proofs.YtkcpiblgpnjanaaGreat
namespace Go.Li
open Go
theorem JK {S S1 R:Type} {k:Nat} {body:S1→Option (Out S1 R)} {f:S1→Option (Out S R)} {s s':S1} (h:body s=some (.norm s')):ai (af k (aj body s)) f=ai (af k (aj body s')) f:=by
 rw [rR,h]
theorem H8 {S S1 R:Type} {k:Nat} {body:S1→Option (Out S1 R)} {f:S1→Option (Out S R)} {s e:S1} (h:body s=some (.exit k e)):ai (af k (aj body s)) f=f e:=zg (sO h)
theorem BJ {S S1 R:Type} {k:Nat} {body:S1→Option (Out S1 R)} {f:S1→Option (Out S R)} {s:S1} {y:R} (h:body s=some (.ret y)):ai (af k (aj body s)) f=some (.ret y):=D8 (BG h)
end Go.Li
namespace Go.Proofs.YtkcpiblgpnjanaaGreat
open Go Go.Li
set_option linter.unusedSectionVars false
theorem IQ (x y:List Int) (hx:x.length≤1048576000):qE x y=some (rb x y):=by
 have key:∀ (m i:Nat),x.length - i=m→i≤x.length→i≤y.length→
   ao (S:=Unit) (ai (af 0 (aj (gQ x y) (i:Int))) (fun ir=>(bif decide ((x.length:Int) < (y.length:Int)) then (some (Out.ret (((-1:Int))))) else (some (Out.ret (((0:Int))))))))=some (rb (x.drop i) (y.drop i)):=by
  intro m
  induction m with
  | zero=>
   intro i hm hi hy
   obtain rfl:i=x.length:=by omega
   rw [H8 (e:=(x.length:Int)) (by unfold gQ; rw [bx (by omega),cond_false]),List.drop_length]
   by_cases h:x.length < y.length
   ·rw [bn (by omega),cond_true,List.drop_eq_getElem_cons h]; rfl
   ·rw [bx (by omega),cond_false,List.drop_eq_nil_of_le (by omega)]; rfl
  | succ m ih=>
   intro i hm hi hy
   have H9:x[i]? = some (x[i]'(by omega)):=List.getElem?_eq_getElem (by omega)
   rw [List.drop_eq_getElem_cons (show i < x.length by omega)]
   by_cases h:i=y.length
   ·rw [List.drop_eq_nil_of_le (show y.length≤i by omega),BJ (y:=1) (by unfold gQ; rw [bn (by omega),cond_true,xq (by omega),cond_true])]; rfl
   ·have Ia:y[i]? = some (y[i]'(by omega)):=List.getElem?_eq_getElem (by omega)
    rw [List.drop_eq_getElem_cons (show i < y.length by omega)]
    unfold rb
    by_cases e:x[i]'(by omega)=y[i]'(by omega)
    ·rw [if_pos e,JK (s':=((i+1:Nat):Int)) (by unfold gQ; rw [bn (by omega),cond_true,tv (by omega),cond_false,da,H9,aH,da,Ia,aH,tu e,cond_false,cK (by omega)])]
     exact ih (i+1) (by omega) (by omega) (by omega)
    ·rw [if_neg e]
     by_cases l:x[i]'(by omega) < y[i]'(by omega)
     ·rw [if_pos l,BJ (y:=-1) (by unfold gQ; rw [bn (by omega),cond_true,tv (by omega),cond_false,da,H9,aH,da,Ia,aH,sY e,cond_true,aH,aH,bn l,cond_true])]; rfl
     ·rw [if_neg l,BJ (y:=1) (by unfold gQ; rw [bn (by omega),cond_true,tv (by omega),cond_false,da,H9,aH,da,Ia,aH,sY e,cond_true,aH,aH,bx l,cond_false])]; rfl
 exact key x.length 0 rfl (Nat.zero_le _) (Nat.zero_le _)
theorem tx (x y:List Int) (hx:x.length≤1048576000):kB x y=some (x == y):=by
 unfold kB
 rw [IQ x y hx,aH]
 show some (rb x y == 0)=_
 congr 1
 rw [Bool.eq_iff_iff]
 simp only [beq_iff_eq]
 exact ⟨PH,fun h=>by rw [h]; exact PG y⟩
theorem Qq (x y:List Int) (hx:x.length≤1048576000):lT x y=some (lexLt x y):=by
 have key:∀ (m i:Nat),x.length - i=m→i≤x.length→i≤y.length→
   ao (S:=Unit) (ai (af 0 (aj (fL x y) (i:Int))) (fun aX=>(some (Out.ret ((decide ((x.length:Int) < (y.length:Int))))))))=some (lexLt (x.drop i) (y.drop i)):=by
  intro m
  induction m with
  | zero=>
   intro i hm hi hy
   obtain rfl:i=x.length:=by omega
   rw [H8 (e:=(x.length:Int)) (by unfold fL; rw [bx (by omega),cond_false,aH,cond_false]),List.drop_length]
   by_cases h:x.length < y.length
   ·rw [bn (by omega),List.drop_eq_getElem_cons h]; rfl
   ·rw [bx (by omega),List.drop_eq_nil_of_le (by omega)]; rfl
  | succ m ih=>
   intro i hm hi hy
   have H9:x[i]? = some (x[i]'(by omega)):=List.getElem?_eq_getElem (by omega)
   rw [List.drop_eq_getElem_cons (show i < x.length by omega)]
   by_cases h:i=y.length
   ·rw [List.drop_eq_nil_of_le (show y.length≤i by omega),H8 (e:=(i:Int)) (by unfold fL; rw [bn (by omega),cond_true,bx (by omega),aH,cond_false]),bx (by omega)]; rfl
   ·have Ia:y[i]? = some (y[i]'(by omega)):=List.getElem?_eq_getElem (by omega)
    rw [List.drop_eq_getElem_cons (show i < y.length by omega)]
    unfold lexLt rb
    by_cases e:x[i]'(by omega)=y[i]'(by omega)
    ·rw [if_pos e,JK (s':=((i+1:Nat):Int)) (by unfold fL; rw [bn (by omega),cond_true,bn (by omega),aH,cond_true,da,H9,aH,da,Ia,aH,tu e,cond_false,cK (by omega)])]
     exact ih (i+1) (by omega) (by omega) (by omega)
    ·rw [if_neg e]
     by_cases l:x[i]'(by omega) < y[i]'(by omega)
     ·rw [if_pos l,BJ (y:=true) (by unfold fL; rw [bn (by omega),cond_true,bn (by omega),aH,cond_true,da,H9,aH,da,Ia,aH,sY e,cond_true,aH,aH,bn l])]; rfl
     ·rw [if_neg l,BJ (y:=false) (by unfold fL; rw [bn (by omega),cond_true,bn (by omega),aH,cond_true,da,H9,aH,da,Ia,aH,sY e,cond_true,aH,aH,bx l])]; rfl
 exact key x.length 0 rfl (Nat.zero_le _) (Nat.zero_le _)
theorem xx (x y:List Int) (hx:x.length≤1048576000):fG x y=some (x == y):=Ec x y hx
def RV (c:aI) (a:Int) (s:List Int):List Int:=(sZ c (gi c.To a)).filter fun b=>hasB s (gk c.aF a b)
end Go.Proofs.YtkcpiblgpnjanaaGreat
