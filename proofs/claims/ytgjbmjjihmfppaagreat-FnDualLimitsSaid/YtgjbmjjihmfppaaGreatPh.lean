/- Lists of arrows and sieves: what the reference's and the program's small functions reckon. No condition beside those that each theorem names. -/
import Derived.Test.YtgjbmjjihmfppaaGreatPe
namespace Go.Li
open Go
section
variable {S S1 R α σ β:Type} {body:S1→Option (Out S1 R)}
end
theorem any_filter' {α:Type} (l:List α) (p q:α→Bool):(l.filter p).any q=l.any fun x=>p x && q x:=by
 induction l with
 | nil=>rfl
 | cons a l ih=>by_cases hp:p a=true <;> simp [hp,ih]
end Go.Li
namespace Go.Proofs.YtgjbmjjihmfppaaGreat
open Go Go.Li
set_option linter.unusedSectionVars false
def sJ (c:aG) (x:Int):List Int:=(ns c.aD.length).filter fun a=>gi c.aD a == x
theorem s6 {c:aG} {x a:Int}:a∈sJ c x↔(0≤a∧a < c.aD.length)∧gi c.aD a=x:=by
 unfold sJ; rw [List.mem_filter,bu]; simp
def hasB (l:List Int) (n:Int):Bool:=l.any fun y=>y == n
theorem xj {l:List Int} {n:Int}:hasB l n=true↔n∈l:=by unfold hasB; simp
theorem RU (l:List Int) (n:Int) (hl:l.length≤1048576000):oT l n=some (hasB l n):=by
 unfold oT
 refine (congrArg an (mc l (fun y=>y == n) (fun i=>(i:Int)) rfl ?_ ?_ (e:=(l.length:Int)) (y:=true) ?_)).trans ?_
 ·intro i x hx hp
  have hi:=ca hx
  unfold lF
  rw [ay (by omega),cond_true,dw,hx,aF,hp,cond_false,bH (by omega)]
 ·intro i x hx hp
  have hi:=ca hx
  unfold lF
  rw [ay (by omega),cond_true,dw,hx,aF,hp,cond_true]
 ·unfold lF; rw [bm (by omega),cond_false]
 ·show an (if hasB l n=true then _ else _)=_
  cases hasB l n <;> rfl
def Mw (c:aG) (l:List Int):Prop:=∀ a∈l,0≤a∧a < c.aD.length
def QI (c:aG) (A:List Int) (a:Int):Bool:=A.any fun x=>(ns c.aD.length).any fun b=>(gi c.To x == gi c.aD b) && gk c.aB x b == a
def o4 (c:aG) (A:List Int):List Int:=(ns c.aD.length).filter (QI c A)
end Go.Proofs.YtgjbmjjihmfppaaGreat
namespace Go.Li
open Go
theorem RV {S S1 R:Type} {k:Nat} {body:S1→Option (Out S1 R)} {f:S1→Option (Out S R)} {s s':S1} (h:body s=some (.norm s')):ag (ae k (ah body s)) f=ag (ae k (ah body s')) f:=by
 rw [oh,h]
theorem Mx {S S1 R:Type} {k:Nat} {body:S1→Option (Out S1 R)} {f:S1→Option (Out S R)} {s e:S1} (h:body s=some (.exit k e)):ag (ae k (ah body s)) f=f e:=sB (mb h)
theorem My {S S1 R:Type} {k:Nat} {body:S1→Option (Out S1 R)} {f:S1→Option (Out S R)} {s:S1} {y:R} (h:body s=some (.ret y)):ag (ae k (ah body s)) f=some (.ret y):=AW (AV h)
end Go.Li
namespace Go.Proofs.YtgjbmjjihmfppaaGreat
open Go Go.Li
set_option linter.unusedSectionVars false
theorem O5 (x y:List Int) (hx:x.length≤1048576000):kN x y=some (lexLt x y):=by
 have key:∀ (m i:Nat),x.length - i=m→i≤x.length→i≤y.length→
   an (S:=Unit) (ag (ae 0 (ah (dS x y) (i:Int))) (fun bh=>(some (Out.ret ((decide ((x.length:Int) < (y.length:Int))))))))=some (lexLt (x.drop i) (y.drop i)):=by
  intro m
  induction m with
  | zero=>
   intro i hm hi hy
   obtain rfl:i=x.length:=by omega
   rw [Mx (e:=(x.length:Int)) (by unfold dS; rw [bm (by omega),cond_false,aF,cond_false]),List.drop_length]
   by_cases h:x.length < y.length
   ·rw [ay (by omega),List.drop_eq_getElem_cons h]; rfl
   ·rw [bm (by omega),List.drop_eq_nil_of_le (by omega)]; rfl
  | succ m ih=>
   intro i hm hi hy
   have Vz:x[i]? = some (x[i]'(by omega)):=List.getElem?_eq_getElem (by omega)
   rw [List.drop_eq_getElem_cons (show i < x.length by omega)]
   by_cases h:i=y.length
   ·rw [List.drop_eq_nil_of_le (show y.length≤i by omega),Mx (e:=(i:Int)) (by unfold dS; rw [ay (by omega),cond_true,bm (by omega),aF,cond_false]),bm (by omega)]; rfl
   ·have VA:y[i]? = some (y[i]'(by omega)):=List.getElem?_eq_getElem (by omega)
    rw [List.drop_eq_getElem_cons (show i < y.length by omega)]
    unfold lexLt Gy
    by_cases e:x[i]'(by omega)=y[i]'(by omega)
    ·rw [if_pos e,RV (s':=((i+1:Nat):Int)) (by unfold dS; rw [ay (by omega),cond_true,ay (by omega),aF,cond_true,dw,Vz,aF,dw,VA,aF,uT e,cond_false,bH (by omega)])]
     exact ih (i+1) (by omega) (by omega) (by omega)
    ·rw [if_neg e]
     by_cases l:x[i]'(by omega) < y[i]'(by omega)
     ·rw [if_pos l,My (y:=true) (by unfold dS; rw [ay (by omega),cond_true,ay (by omega),aF,cond_true,dw,Vz,aF,dw,VA,aF,xe e,cond_true,aF,aF,ay l])]; rfl
     ·rw [if_neg l,My (y:=false) (by unfold dS; rw [ay (by omega),cond_true,ay (by omega),aF,cond_true,dw,Vz,aF,dw,VA,aF,xe e,cond_true,aF,aF,bm l])]; rfl
 exact key x.length 0 rfl (Nat.zero_le _) (Nat.zero_le _)
def QJ (c:aG) (a:Int) (s:List Int):List Int:=(sJ c (gi c.To a)).filter fun b=>hasB s (gk c.aB a b)
end Go.Proofs.YtgjbmjjihmfppaaGreat
