/- Lists of arrows and sieves: what the reference's and the program's small functions reckon. No condition beside those that each theorem names. -/
import Derived.Test.YtgjbmjjihmfppaaGreatPe
namespace Go.Li
open Go
section
variable {S S1 R α σ β:Type} {body:S1→Option (Out S1 R)}
end
theorem any_filter' {α:Type} (l:List α) (p q:α→Bool):(l.filter p).any q=l.any fun x=>p x && q x:=by
 induction l with
 | nil=>rfl
 | cons a l ih=>by_cases hp:p a=true <;> simp [hp,ih]
end Go.Li
namespace Go.Proofs.YtgjbmjjihmfppaaGreat
open Go Go.Li
set_option linter.unusedSectionVars false
def ud (c:aG) (x:Int):List Int:=(ns c.aD.length).filter fun a=>gi c.aD a == x
theorem uB {c:aG} {x a:Int}:a∈ud c x↔(0≤a∧a < c.aD.length)∧gi c.aD a=x:=by
 unfold ud; rw [List.mem_filter,ca]; simp
def hasB (l:List Int) (n:Int):Bool:=l.any fun y=>y == n
theorem yF {l:List Int} {n:Int}:hasB l n=true↔n∈l:=by unfold hasB; simp
theorem T6 (l:List Int) (n:Int) (hl:l.length≤1048576000):qI l n=some (hasB l n):=by
 unfold qI
 refine (congrArg ak (jr l (fun y=>y == n) (fun i=>(i:Int)) rfl ?_ ?_ (e:=(l.length:Int)) (y:=true) ?_)).trans ?_
 ·intro i x hx hp
  have hi:=bj hx
  unfold nB
  rw [av (by omega),cond_true,bu,hx,aF,hp,cond_false,bR (by omega)]
 ·intro i x hx hp
  have hi:=bj hx
  unfold nB
  rw [av (by omega),cond_true,bu,hx,aF,hp,cond_true]
 ·unfold nB; rw [aX (by omega),cond_false]
 ·show ak (if hasB l n=true then _ else _)=_
  cases hasB l n <;> rfl
def OD (c:aG) (l:List Int):Prop:=∀ a∈l,0≤a∧a < c.aD.length
def SR (c:aG) (A:List Int) (a:Int):Bool:=A.any fun x=>(ns c.aD.length).any fun b=>(gi c.To x == gi c.aD b) && gk c.aB x b == a
def o3 (c:aG) (A:List Int):List Int:=(ns c.aD.length).filter (SR c A)
end Go.Proofs.YtgjbmjjihmfppaaGreat
namespace Go.Li
open Go
theorem KU {S S1 R:Type} {k:Nat} {body:S1→Option (Out S1 R)} {f:S1→Option (Out S R)} {s s':S1} (h:body s=some (.norm s')):ah (ae k (ai body s)) f=ah (ae k (ai body s')) f:=by
 rw [oh,h]
theorem Jb {S S1 R:Type} {k:Nat} {body:S1→Option (Out S1 R)} {f:S1→Option (Out S R)} {s e:S1} (h:body s=some (.exit k e)):ah (ae k (ai body s)) f=f e:=tU (ml h)
theorem Cm {S S1 R:Type} {k:Nat} {body:S1→Option (Out S1 R)} {f:S1→Option (Out S R)} {s:S1} {y:R} (h:body s=some (.ret y)):ah (ae k (ai body s)) f=some (.ret y):=Cj (Ci h)
end Go.Li
namespace Go.Proofs.YtgjbmjjihmfppaaGreat
open Go Go.Li
set_option linter.unusedSectionVars false
theorem JZ (x y:List Int) (hx:x.length≤1048576000):qT x y=some (sb x y):=by
 have key:∀ (m i:Nat),x.length - i=m→i≤x.length→i≤y.length→
   ak (S:=Unit) (ah (ae 0 (ai (fY x y) (i:Int))) (fun je=>(bif decide ((x.length:Int) < (y.length:Int)) then (some (Out.ret (((-1:Int))))) else (some (Out.ret (((0:Int))))))))=some (sb (x.drop i) (y.drop i)):=by
  intro m
  induction m with
  | zero=>
   intro i hm hi hy
   obtain rfl:i=x.length:=by omega
   rw [Jb (e:=(x.length:Int)) (by unfold fY; rw [aX (by omega),cond_false]),List.drop_length]
   by_cases h:x.length < y.length
   ·rw [av (by omega),cond_true,List.drop_eq_getElem_cons h]; rfl
   ·rw [aX (by omega),cond_false,List.drop_eq_nil_of_le (by omega)]; rfl
  | succ m ih=>
   intro i hm hi hy
   have Jc:x[i]? = some (x[i]'(by omega)):=List.getElem?_eq_getElem (by omega)
   rw [List.drop_eq_getElem_cons (show i < x.length by omega)]
   by_cases h:i=y.length
   ·rw [List.drop_eq_nil_of_le (show y.length≤i by omega),Cm (y:=1) (by unfold fY; rw [av (by omega),cond_true,yA (by omega),cond_true])]; rfl
   ·have Je:y[i]? = some (y[i]'(by omega)):=List.getElem?_eq_getElem (by omega)
    rw [List.drop_eq_getElem_cons (show i < y.length by omega)]
    unfold sb
    by_cases e:x[i]'(by omega)=y[i]'(by omega)
    ·rw [if_pos e,KU (s':=((i+1:Nat):Int)) (by unfold fY; rw [av (by omega),cond_true,sy (by omega),cond_false,bu,Jc,aF,bu,Je,aF,A5 e,cond_false,bR (by omega)])]
     exact ih (i+1) (by omega) (by omega) (by omega)
    ·rw [if_neg e]
     by_cases l:x[i]'(by omega) < y[i]'(by omega)
     ·rw [if_pos l,Cm (y:=-1) (by unfold fY; rw [av (by omega),cond_true,sy (by omega),cond_false,bu,Jc,aF,bu,Je,aF,vv e,cond_true,aF,aF,av l,cond_true])]; rfl
     ·rw [if_neg l,Cm (y:=1) (by unfold fY; rw [av (by omega),cond_true,sy (by omega),cond_false,bu,Jc,aF,bu,Je,aF,vv e,cond_true,aF,aF,aX l,cond_false])]; rfl
 exact key x.length 0 rfl (Nat.zero_le _) (Nat.zero_le _)
theorem yG (x y:List Int) (hx:x.length≤1048576000):mM x y=some (x == y):=by
 unfold mM
 rw [JZ x y hx,aF]
 show some (sb x y == 0)=_
 congr 1
 rw [Bool.eq_iff_iff]
 simp only [beq_iff_eq]
 exact ⟨Qc,fun h=>by rw [h]; exact Qb y⟩
theorem Q5 (x y:List Int) (hx:x.length≤1048576000):mH x y=some (lexLt x y):=by
 have key:∀ (m i:Nat),x.length - i=m→i≤x.length→i≤y.length→
   ak (S:=Unit) (ah (ae 0 (ai (eN x y) (i:Int))) (fun ba=>(some (Out.ret ((decide ((x.length:Int) < (y.length:Int))))))))=some (lexLt (x.drop i) (y.drop i)):=by
  intro m
  induction m with
  | zero=>
   intro i hm hi hy
   obtain rfl:i=x.length:=by omega
   rw [Jb (e:=(x.length:Int)) (by unfold eN; rw [aX (by omega),cond_false,aF,cond_false]),List.drop_length]
   by_cases h:x.length < y.length
   ·rw [av (by omega),List.drop_eq_getElem_cons h]; rfl
   ·rw [aX (by omega),List.drop_eq_nil_of_le (by omega)]; rfl
  | succ m ih=>
   intro i hm hi hy
   have Jc:x[i]? = some (x[i]'(by omega)):=List.getElem?_eq_getElem (by omega)
   rw [List.drop_eq_getElem_cons (show i < x.length by omega)]
   by_cases h:i=y.length
   ·rw [List.drop_eq_nil_of_le (show y.length≤i by omega),Jb (e:=(i:Int)) (by unfold eN; rw [av (by omega),cond_true,aX (by omega),aF,cond_false]),aX (by omega)]; rfl
   ·have Je:y[i]? = some (y[i]'(by omega)):=List.getElem?_eq_getElem (by omega)
    rw [List.drop_eq_getElem_cons (show i < y.length by omega)]
    unfold lexLt sb
    by_cases e:x[i]'(by omega)=y[i]'(by omega)
    ·rw [if_pos e,KU (s':=((i+1:Nat):Int)) (by unfold eN; rw [av (by omega),cond_true,av (by omega),aF,cond_true,bu,Jc,aF,bu,Je,aF,A5 e,cond_false,bR (by omega)])]
     exact ih (i+1) (by omega) (by omega) (by omega)
    ·rw [if_neg e]
     by_cases l:x[i]'(by omega) < y[i]'(by omega)
     ·rw [if_pos l,Cm (y:=true) (by unfold eN; rw [av (by omega),cond_true,av (by omega),aF,cond_true,bu,Jc,aF,bu,Je,aF,vv e,cond_true,aF,aF,av l])]; rfl
     ·rw [if_neg l,Cm (y:=false) (by unfold eN; rw [av (by omega),cond_true,av (by omega),aF,cond_true,bu,Jc,aF,bu,Je,aF,vv e,cond_true,aF,aF,aX l])]; rfl
 exact key x.length 0 rfl (Nat.zero_le _) (Nat.zero_le _)
theorem DN (x y:List Int) (hx:x.length≤1048576000):eS x y=some (x == y):=I8 x y hx
def SS (c:aG) (a:Int) (s:List Int):List Int:=(ud c (gi c.To a)).filter fun b=>hasB s (gk c.aB a b)
end Go.Proofs.YtgjbmjjihmfppaaGreat
