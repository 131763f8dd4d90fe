/- Lists of arrows and sieves: what the reference's and the program's small functions reckon. No condition beside those that each theorem names. -/
import Derived.Test.YtgjbmjjihmfppaaGreatPe
namespace Go.Li
open Go
section
variable {S S1 R α σ β:Type} {body:S1→Option (Out S1 R)}
end
theorem any_filter' {α:Type} (l:List α) (p q:α→Bool):(l.filter p).any q=l.any fun x=>p x && q x:=by
 induction l with
 | nil=>rfl
 | cons a l ih=>by_cases hp:p a=true <;> simp [hp,ih]
end Go.Li
namespace Go.Proofs.YtgjbmjjihmfppaaGreat
open Go Go.Li
set_option linter.unusedSectionVars false
def tB (c:aI) (x:Int):List Int:=(ns c.aF.length).filter fun a=>gi c.aF a == x
theorem tP {c:aI} {x a:Int}:a∈tB c x↔(0≤a∧a < c.aF.length)∧gi c.aF a=x:=by
 unfold tB; rw [List.mem_filter,bz]; simp
def hasB (l:List Int) (n:Int):Bool:=l.any fun y=>y == n
theorem xT {l:List Int} {n:Int}:hasB l n=true↔n∈l:=by unfold hasB; simp
theorem SM (l:List Int) (n:Int) (hl:l.length≤1048576000):qC l n=some (hasB l n):=by
 unfold qC
 refine (congrArg ak (jy l (fun y=>y == n) (fun i=>(i:Int)) rfl ?_ ?_ (e:=(l.length:Int)) (y:=true) ?_)).trans ?_
 ·intro i x hx hp
  have hi:=bm hx
  unfold mM
  rw [av (by omega),cond_true,bu,hx,aG,hp,cond_false,bN (by omega)]
 ·intro i x hx hp
  have hi:=bm hx
  unfold mM
  rw [av (by omega),cond_true,bu,hx,aG,hp,cond_true]
 ·unfold mM; rw [bd (by omega),cond_false]
 ·show ak (if hasB l n=true then _ else _)=_
  cases hasB l n <;> rfl
def Nz (c:aI) (l:List Int):Prop:=∀ a∈l,0≤a∧a < c.aF.length
def RA (c:aI) (A:List Int) (a:Int):Bool:=A.any fun x=>(ns c.aF.length).any fun b=>(gi c.To x == gi c.aF b) && gk c.aD x b == a
def nu (c:aI) (A:List Int):List Int:=(ns c.aF.length).filter (RA c A)
end Go.Proofs.YtgjbmjjihmfppaaGreat
namespace Go.Li
open Go
theorem JZ {S S1 R:Type} {k:Nat} {body:S1→Option (Out S1 R)} {f:S1→Option (Out S R)} {s s':S1} (h:body s=some (.norm s')):ag (ae k (ai body s)) f=ag (ae k (ai body s')) f:=by
 rw [nk,h]
theorem Io {S S1 R:Type} {k:Nat} {body:S1→Option (Out S1 R)} {f:S1→Option (Out S R)} {s e:S1} (h:body s=some (.exit k e)):ag (ae k (ai body s)) f=f e:=th (lv h)
theorem BP {S S1 R:Type} {k:Nat} {body:S1→Option (Out S1 R)} {f:S1→Option (Out S R)} {s:S1} {y:R} (h:body s=some (.ret y)):ag (ae k (ai body s)) f=some (.ret y):=BN (BM h)
end Go.Li
namespace Go.Proofs.YtgjbmjjihmfppaaGreat
open Go Go.Li
set_option linter.unusedSectionVars false
theorem I7 (x y:List Int) (hx:x.length≤1048576000):qU x y=some (rm x y):=by
 have key:∀ (m i:Nat),x.length - i=m→i≤x.length→i≤y.length→
   ak (S:=Unit) (ag (ae 0 (ai (fT x y) (i:Int))) (fun iv=>(bif decide ((x.length:Int) < (y.length:Int)) then (some (Out.ret (((-1:Int))))) else (some (Out.ret (((0:Int))))))))=some (rm (x.drop i) (y.drop i)):=by
  intro m
  induction m with
  | zero=>
   intro i hm hi hy
   obtain rfl:i=x.length:=by omega
   rw [Io (e:=(x.length:Int)) (by unfold fT; rw [bd (by omega),cond_false]),List.drop_length]
   by_cases h:x.length < y.length
   ·rw [av (by omega),cond_true,List.drop_eq_getElem_cons h]; rfl
   ·rw [bd (by omega),cond_false,List.drop_eq_nil_of_le (by omega)]; rfl
  | succ m ih=>
   intro i hm hi hy
   have Ip:x[i]? = some (x[i]'(by omega)):=List.getElem?_eq_getElem (by omega)
   rw [List.drop_eq_getElem_cons (show i < x.length by omega)]
   by_cases h:i=y.length
   ·rw [List.drop_eq_nil_of_le (show y.length≤i by omega),BP (y:=1) (by unfold fT; rw [av (by omega),cond_true,xN (by omega),cond_true])]; rfl
   ·have Iq:y[i]? = some (y[i]'(by omega)):=List.getElem?_eq_getElem (by omega)
    rw [List.drop_eq_getElem_cons (show i < y.length by omega)]
    unfold rm
    by_cases e:x[i]'(by omega)=y[i]'(by omega)
    ·rw [if_pos e,JZ (s':=((i+1:Nat):Int)) (by unfold fT; rw [av (by omega),cond_true,r9 (by omega),cond_false,bu,Ip,aG,bu,Iq,aG,yS e,cond_false,bN (by omega)])]
     exact ih (i+1) (by omega) (by omega) (by omega)
    ·rw [if_neg e]
     by_cases l:x[i]'(by omega) < y[i]'(by omega)
     ·rw [if_pos l,BP (y:=-1) (by unfold fT; rw [av (by omega),cond_true,r9 (by omega),cond_false,bu,Ip,aG,bu,Iq,aG,uT e,cond_true,aG,aG,av l,cond_true])]; rfl
     ·rw [if_neg l,BP (y:=1) (by unfold fT; rw [av (by omega),cond_true,r9 (by omega),cond_false,bu,Ip,aG,bu,Iq,aG,uT e,cond_true,aG,aG,bd l,cond_false])]; rfl
 exact key x.length 0 rfl (Nat.zero_le _) (Nat.zero_le _)
theorem xU (x y:List Int) (hx:x.length≤1048576000):lT x y=some (x == y):=by
 unfold lT
 rw [I7 x y hx,aG]
 show some (rm x y == 0)=_
 congr 1
 rw [Bool.eq_iff_iff]
 simp only [beq_iff_eq]
 exact ⟨Pa,fun h=>by rw [h]; exact O9 y⟩
theorem PZ (x y:List Int) (hx:x.length≤1048576000):lO x y=some (lexLt x y):=by
 have key:∀ (m i:Nat),x.length - i=m→i≤x.length→i≤y.length→
   ak (S:=Unit) (ag (ae 0 (ai (eM x y) (i:Int))) (fun bc=>(some (Out.ret ((decide ((x.length:Int) < (y.length:Int))))))))=some (lexLt (x.drop i) (y.drop i)):=by
  intro m
  induction m with
  | zero=>
   intro i hm hi hy
   obtain rfl:i=x.length:=by omega
   rw [Io (e:=(x.length:Int)) (by unfold eM; rw [bd (by omega),cond_false,aG,cond_false]),List.drop_length]
   by_cases h:x.length < y.length
   ·rw [av (by omega),List.drop_eq_getElem_cons h]; rfl
   ·rw [bd (by omega),List.drop_eq_nil_of_le (by omega)]; rfl
  | succ m ih=>
   intro i hm hi hy
   have Ip:x[i]? = some (x[i]'(by omega)):=List.getElem?_eq_getElem (by omega)
   rw [List.drop_eq_getElem_cons (show i < x.length by omega)]
   by_cases h:i=y.length
   ·rw [List.drop_eq_nil_of_le (show y.length≤i by omega),Io (e:=(i:Int)) (by unfold eM; rw [av (by omega),cond_true,bd (by omega),aG,cond_false]),bd (by omega)]; rfl
   ·have Iq:y[i]? = some (y[i]'(by omega)):=List.getElem?_eq_getElem (by omega)
    rw [List.drop_eq_getElem_cons (show i < y.length by omega)]
    unfold lexLt rm
    by_cases e:x[i]'(by omega)=y[i]'(by omega)
    ·rw [if_pos e,JZ (s':=((i+1:Nat):Int)) (by unfold eM; rw [av (by omega),cond_true,av (by omega),aG,cond_true,bu,Ip,aG,bu,Iq,aG,yS e,cond_false,bN (by omega)])]
     exact ih (i+1) (by omega) (by omega) (by omega)
    ·rw [if_neg e]
     by_cases l:x[i]'(by omega) < y[i]'(by omega)
     ·rw [if_pos l,BP (y:=true) (by unfold eM; rw [av (by omega),cond_true,av (by omega),aG,cond_true,bu,Ip,aG,bu,Iq,aG,uT e,cond_true,aG,aG,av l])]; rfl
     ·rw [if_neg l,BP (y:=false) (by unfold eM; rw [av (by omega),cond_true,av (by omega),aG,cond_true,bu,Ip,aG,bu,Iq,aG,uT e,cond_true,aG,aG,bd l])]; rfl
 exact key x.length 0 rfl (Nat.zero_le _) (Nat.zero_le _)
theorem C8 (x y:List Int) (hx:x.length≤1048576000):eP x y=some (x == y):=Ik x y hx
def RB (c:aI) (a:Int) (s:List Int):List Int:=(tB c (gi c.To a)).filter fun b=>hasB s (gk c.aD a b)
end Go.Proofs.YtgjbmjjihmfppaaGreat
