/- Lists of arrows and sieves: what the reference's and the program's small functions reckon. No condition beside those that each theorem names. -/
import Derived.Test.YtkcpiblgpnjanaaGreatPe
namespace Go.Li
open Go
section
variable {S S1 R α σ β:Type} {body:S1→Option (Out S1 R)}
end
theorem any_filter' {α:Type} (l:List α) (p q:α→Bool):(l.filter p).any q=l.any fun x=>p x && q x:=by
 induction l with
 | nil=>rfl
 | cons a l ih=>by_cases hp:p a=true <;> simp [hp,ih]
end Go.Li
namespace Go.Proofs.YtkcpiblgpnjanaaGreat
open Go Go.Li
set_option linter.unusedSectionVars false
def tu (c:aI) (x:Int):List Int:=(ns c.aG.length).filter fun a=>gi c.aG a == x
theorem tM {c:aI} {x a:Int}:a∈tu c x↔(0≤a∧a < c.aG.length)∧gi c.aG a=x:=by
 unfold tu; rw [List.mem_filter,da]; simp
def hasB (l:List Int) (n:Int):Bool:=l.any fun y=>y == n
theorem xC {l:List Int} {n:Int}:hasB l n=true↔n∈l:=by unfold hasB; simp
theorem SG (l:List Int) (n:Int) (hl:l.length≤1048576000):pO l n=some (hasB l n):=by
 unfold pO
 refine (congrArg ao (kh l (fun y=>y == n) (fun i=>(i:Int)) rfl ?_ ?_ (e:=(l.length:Int)) (y:=true) ?_)).trans ?_
 ·intro i x hx hp
  have hi:=b9 hx
  unfold mX
  rw [aX (by omega),cond_true,ca,hx,aH,hp,cond_false,cA (by omega)]
 ·intro i x hx hp
  have hi:=b9 hx
  unfold mX
  rw [aX (by omega),cond_true,ca,hx,aH,hp,cond_true]
 ·unfold mX; rw [bn (by omega),cond_false]
 ·show ao (if hasB l n=true then _ else _)=_
  cases hasB l n <;> rfl
def Nv (c:aI) (l:List Int):Prop:=∀ a∈l,0≤a∧a < c.aG.length
def Ry (c:aI) (A:List Int) (a:Int):Bool:=A.any fun x=>(ns c.aG.length).any fun b=>(gi c.To x == gi c.aG b) && gk c.aF x b == a
def n8 (c:aI) (A:List Int):List Int:=(ns c.aG.length).filter (Ry c A)
end Go.Proofs.YtkcpiblgpnjanaaGreat
namespace Go.Li
open Go
theorem JE {S S1 R:Type} {k:Nat} {body:S1→Option (Out S1 R)} {f:S1→Option (Out S R)} {s s':S1} (h:body s=some (.norm s')):ah (ae k (ai body s)) f=ah (ae k (ai body s')) f:=by
 rw [mh,h]
theorem HM {S S1 R:Type} {k:Nat} {body:S1→Option (Out S1 R)} {f:S1→Option (Out S R)} {s e:S1} (h:body s=some (.exit k e)):ah (ae k (ai body s)) f=f e:=tc (j8 h)
theorem BI {S S1 R:Type} {k:Nat} {body:S1→Option (Out S1 R)} {f:S1→Option (Out S R)} {s:S1} {y:R} (h:body s=some (.ret y)):ah (ae k (ai body s)) f=some (.ret y):=BF (BE h)
end Go.Li
namespace Go.Proofs.YtkcpiblgpnjanaaGreat
open Go Go.Li
set_option linter.unusedSectionVars false
theorem IF (x y:List Int) (hx:x.length≤1048576000):qC x y=some (rR x y):=by
 have key:∀ (m i:Nat),x.length - i=m→i≤x.length→i≤y.length→
   ao (S:=Unit) (ah (ae 0 (ai (gW x y) (i:Int))) (fun kg=>(bif decide ((x.length:Int) < (y.length:Int)) then (some (Out.ret (((-1:Int))))) else (some (Out.ret (((0:Int))))))))=some (rR (x.drop i) (y.drop i)):=by
  intro m
  induction m with
  | zero=>
   intro i hm hi hy
   obtain rfl:i=x.length:=by omega
   rw [HM (e:=(x.length:Int)) (by unfold gW; rw [bn (by omega),cond_false]),List.drop_length]
   by_cases h:x.length < y.length
   ·rw [aX (by omega),cond_true,List.drop_eq_getElem_cons h]; rfl
   ·rw [bn (by omega),cond_false,List.drop_eq_nil_of_le (by omega)]; rfl
  | succ m ih=>
   intro i hm hi hy
   have HP:x[i]? = some (x[i]'(by omega)):=List.getElem?_eq_getElem (by omega)
   rw [List.drop_eq_getElem_cons (show i < x.length by omega)]
   by_cases h:i=y.length
   ·rw [List.drop_eq_nil_of_le (show y.length≤i by omega),BI (y:=1) (by unfold gW; rw [aX (by omega),cond_true,vl (by omega),cond_true])]; rfl
   ·have HQ:y[i]? = some (y[i]'(by omega)):=List.getElem?_eq_getElem (by omega)
    rw [List.drop_eq_getElem_cons (show i < y.length by omega)]
    unfold rR
    by_cases e:x[i]'(by omega)=y[i]'(by omega)
    ·rw [if_pos e,JE (s':=((i+1:Nat):Int)) (by unfold gW; rw [aX (by omega),cond_true,sT (by omega),cond_false,ca,HP,aH,ca,HQ,aH,tn e,cond_false,cA (by omega)])]
     exact ih (i+1) (by omega) (by omega) (by omega)
    ·rw [if_neg e]
     by_cases l:x[i]'(by omega) < y[i]'(by omega)
     ·rw [if_pos l,BI (y:=-1) (by unfold gW; rw [aX (by omega),cond_true,sT (by omega),cond_false,ca,HP,aH,ca,HQ,aH,rS e,cond_true,aH,aH,aX l,cond_true])]; rfl
     ·rw [if_neg l,BI (y:=1) (by unfold gW; rw [aX (by omega),cond_true,sT (by omega),cond_false,ca,HP,aH,ca,HQ,aH,rS e,cond_true,aH,aH,bn l,cond_false])]; rfl
 exact key x.length 0 rfl (Nat.zero_le _) (Nat.zero_le _)
theorem tN (x y:List Int) (hx:x.length≤1048576000):kJ x y=some (x == y):=by
 unfold kJ
 rw [IF x y hx,aH]
 show some (rR x y == 0)=_
 congr 1
 rw [Bool.eq_iff_iff]
 simp only [beq_iff_eq]
 exact ⟨Pf,fun h=>by rw [h]; exact Pe y⟩
theorem PT (x y:List Int) (hx:x.length≤1048576000):mE x y=some (lexLt x y):=by
 have key:∀ (m i:Nat),x.length - i=m→i≤x.length→i≤y.length→
   ao (S:=Unit) (ah (ae 0 (ai (fE x y) (i:Int))) (fun ba=>(some (Out.ret ((decide ((x.length:Int) < (y.length:Int))))))))=some (lexLt (x.drop i) (y.drop i)):=by
  intro m
  induction m with
  | zero=>
   intro i hm hi hy
   obtain rfl:i=x.length:=by omega
   rw [HM (e:=(x.length:Int)) (by unfold fE; rw [bn (by omega),cond_false,aH,cond_false]),List.drop_length]
   by_cases h:x.length < y.length
   ·rw [aX (by omega),List.drop_eq_getElem_cons h]; rfl
   ·rw [bn (by omega),List.drop_eq_nil_of_le (by omega)]; rfl
  | succ m ih=>
   intro i hm hi hy
   have HP:x[i]? = some (x[i]'(by omega)):=List.getElem?_eq_getElem (by omega)
   rw [List.drop_eq_getElem_cons (show i < x.length by omega)]
   by_cases h:i=y.length
   ·rw [List.drop_eq_nil_of_le (show y.length≤i by omega),HM (e:=(i:Int)) (by unfold fE; rw [aX (by omega),cond_true,bn (by omega),aH,cond_false]),bn (by omega)]; rfl
   ·have HQ:y[i]? = some (y[i]'(by omega)):=List.getElem?_eq_getElem (by omega)
    rw [List.drop_eq_getElem_cons (show i < y.length by omega)]
    unfold lexLt rR
    by_cases e:x[i]'(by omega)=y[i]'(by omega)
    ·rw [if_pos e,JE (s':=((i+1:Nat):Int)) (by unfold fE; rw [aX (by omega),cond_true,aX (by omega),aH,cond_true,ca,HP,aH,ca,HQ,aH,tn e,cond_false,cA (by omega)])]
     exact ih (i+1) (by omega) (by omega) (by omega)
    ·rw [if_neg e]
     by_cases l:x[i]'(by omega) < y[i]'(by omega)
     ·rw [if_pos l,BI (y:=true) (by unfold fE; rw [aX (by omega),cond_true,aX (by omega),aH,cond_true,ca,HP,aH,ca,HQ,aH,rS e,cond_true,aH,aH,aX l])]; rfl
     ·rw [if_neg l,BI (y:=false) (by unfold fE; rw [aX (by omega),cond_true,aX (by omega),aH,cond_true,ca,HP,aH,ca,HQ,aH,rS e,cond_true,aH,aH,bn l])]; rfl
 exact key x.length 0 rfl (Nat.zero_le _) (Nat.zero_le _)
theorem C2 (x y:List Int) (hx:x.length≤1048576000):fH x y=some (x == y):=D9 x y hx
def Rz (c:aI) (a:Int) (s:List Int):List Int:=(tu c (gi c.To a)).filter fun b=>hasB s (gk c.aF a b)
end Go.Proofs.YtkcpiblgpnjanaaGreat
