/- Lists of arrows and sieves: what the reference's and the program's small functions reckon. No condition beside those that each theorem names. -/
import Derived.Test.YtcnehblmgfbfoaaGreatPe
set_option linter.unusedVariables false
set_option linter.unusedSectionVars false
set_option linter.unusedSimpArgs false
namespace Go.Li
open Go
section
variable {S S1 R α σ β:Type} {body:S1→Option (Out S1 R)}
end
end Go.Li
namespace Go.Proofs.YtcnehblmgfbfoaaGreat
open Go Go.Li
set_option linter.unusedSectionVars false
def rm (c:aD) (x:Int):List Int:=(ns c.aB.length).filter fun a=>gi c.aB a == x
theorem rW {c:aD} {x a:Int}:a∈rm c x↔(0≤a∧a < c.aB.length)∧gi c.aB a=x:=by
 unfold rm; rw [List.mem_filter,ez]; simp
def hasB (l:List Int) (n:Int):Bool:=l.any fun y=>y == n
theorem By {l:List Int} {n:Int}:hasB l n=true↔n∈l:=by unfold hasB; simp
def Lh (c:aD) (l:List Int):Prop:=∀ a∈l,0≤a∧a < c.aB.length
def O6 (c:aD) (A:List Int) (a:Int):Bool:=A.any fun x=>(ns c.aB.length).any fun b=>(gi c.To x == gi c.aB b) && gk c.aC x b == a
def ml (c:aD) (A:List Int):List Int:=(ns c.aB.length).filter (O6 c A)
end Go.Proofs.YtcnehblmgfbfoaaGreat
namespace Go.Li
open Go
theorem HW {S S1 R:Type} {k:Nat} {body:S1→Option (Out S1 R)} {f:S1→Option (Out S R)} {s s':S1} (h:body s=some (.norm s')):ah (ab k (aj body s)) f=ah (ab k (aj body s')) f:=by
 rw [rR,h]
theorem Gk {S S1 R:Type} {k:Nat} {body:S1→Option (Out S1 R)} {f:S1→Option (Out S R)} {s e:S1} (h:body s=some (.exit k e)):ah (ab k (aj body s)) f=f e:=xx (uQ h)
theorem zQ {S S1 R:Type} {k:Nat} {body:S1→Option (Out S1 R)} {f:S1→Option (Out S R)} {s:S1} {y:R} (h:body s=some (.ret y)):ah (ab k (aj body s)) f=some (.ret y):=CF (zN h)
end Go.Li
namespace Go.Proofs.YtcnehblmgfbfoaaGreat
open Go Go.Li
set_option linter.unusedSectionVars false
theorem GS (x y:List Int) (hx:x.length≤1048576000):nD x y=some (qa x y):=by
 have key:∀ (m i:Nat),x.length - i=m→i≤x.length→i≤y.length→
   an (S:=Unit) (ah (ab 0 (aj (eD x y) (i:Int))) (fun gn=>(bif decide ((x.length:Int) < (y.length:Int)) then (some (Out.ret (((-1:Int))))) else (some (Out.ret (((0:Int))))))))=some (qa (x.drop i) (y.drop i)):=by
  intro m
  induction m with
  | zero=>
   intro i hm hi hy
   obtain rfl:i=x.length:=by omega
   rw [Gk (e:=(x.length:Int)) (by unfold eD; rw [ba (by omega),cond_false]),List.drop_length]
   by_cases h:x.length < y.length
   ·rw [au (by omega),cond_true,List.drop_eq_getElem_cons h]; rfl
   ·rw [ba (by omega),cond_false,List.drop_eq_nil_of_le (by omega)]; rfl
  | succ m ih=>
   intro i hm hi hy
   have Gl:x[i]? = some (x[i]'(by omega)):=List.getElem?_eq_getElem (by omega)
   rw [List.drop_eq_getElem_cons (show i < x.length by omega)]
   by_cases h:i=y.length
   ·rw [List.drop_eq_nil_of_le (show y.length≤i by omega),zQ (y:=1) (by unfold eD; rw [au (by omega),cond_true,pI (by omega),cond_true])]; rfl
   ·have Gm:y[i]? = some (y[i]'(by omega)):=List.getElem?_eq_getElem (by omega)
    rw [List.drop_eq_getElem_cons (show i < y.length by omega)]
    unfold qa
    by_cases e:x[i]'(by omega)=y[i]'(by omega)
    ·rw [if_pos e,HW (s':=((i+1:Nat):Int)) (by unfold eD; rw [au (by omega),cond_true,rM (by omega),cond_false,bw,Gl,aE,bw,Gm,aE,qM e,cond_false,bD (by omega)])]
     exact ih (i+1) (by omega) (by omega) (by omega)
    ·rw [if_neg e]
     by_cases l:x[i]'(by omega) < y[i]'(by omega)
     ·rw [if_pos l,zQ (y:=-1) (by unfold eD; rw [au (by omega),cond_true,rM (by omega),cond_false,bw,Gl,aE,bw,Gm,aE,rQ e,cond_true,aE,aE,au l,cond_true])]; rfl
     ·rw [if_neg l,zQ (y:=1) (by unfold eD; rw [au (by omega),cond_true,rM (by omega),cond_false,bw,Gl,aE,bw,Gm,aE,rQ e,cond_true,aE,aE,ba l,cond_false])]; rfl
 exact key x.length 0 rfl (Nat.zero_le _) (Nat.zero_le _)
theorem vX (x y:List Int) (hx:x.length≤1048576000):jN x y=some (x == y):=by
 unfold jN
 rw [GS x y hx,aE]
 show some (qa x y == 0)=_
 congr 1
 rw [Bool.eq_iff_iff]
 simp only [beq_iff_eq]
 exact ⟨MQ,fun h=>by rw [h]; exact MP y⟩
theorem NH (x y:List Int) (hx:x.length≤1048576000):jL x y=some (lexLt x y):=by
 have key:∀ (m i:Nat),x.length - i=m→i≤x.length→i≤y.length→
   an (S:=Unit) (ah (ab 0 (aj (cR x y) (i:Int))) (fun bm=>(some (Out.ret ((decide ((x.length:Int) < (y.length:Int))))))))=some (lexLt (x.drop i) (y.drop i)):=by
  intro m
  induction m with
  | zero=>
   intro i hm hi hy
   obtain rfl:i=x.length:=by omega
   rw [Gk (e:=(x.length:Int)) (by unfold cR; rw [ba (by omega),cond_false,aE,cond_false]),List.drop_length]
   by_cases h:x.length < y.length
   ·rw [au (by omega),List.drop_eq_getElem_cons h]; rfl
   ·rw [ba (by omega),List.drop_eq_nil_of_le (by omega)]; rfl
  | succ m ih=>
   intro i hm hi hy
   have Gl:x[i]? = some (x[i]'(by omega)):=List.getElem?_eq_getElem (by omega)
   rw [List.drop_eq_getElem_cons (show i < x.length by omega)]
   by_cases h:i=y.length
   ·rw [List.drop_eq_nil_of_le (show y.length≤i by omega),Gk (e:=(i:Int)) (by unfold cR; rw [au (by omega),cond_true,ba (by omega),aE,cond_false]),ba (by omega)]; rfl
   ·have Gm:y[i]? = some (y[i]'(by omega)):=List.getElem?_eq_getElem (by omega)
    rw [List.drop_eq_getElem_cons (show i < y.length by omega)]
    unfold lexLt qa
    by_cases e:x[i]'(by omega)=y[i]'(by omega)
    ·rw [if_pos e,HW (s':=((i+1:Nat):Int)) (by unfold cR; rw [au (by omega),cond_true,au (by omega),aE,cond_true,bw,Gl,aE,bw,Gm,aE,qM e,cond_false,bD (by omega)])]
     exact ih (i+1) (by omega) (by omega) (by omega)
    ·rw [if_neg e]
     by_cases l:x[i]'(by omega) < y[i]'(by omega)
     ·rw [if_pos l,zQ (y:=true) (by unfold cR; rw [au (by omega),cond_true,au (by omega),aE,cond_true,bw,Gl,aE,bw,Gm,aE,rQ e,cond_true,aE,aE,au l])]; rfl
     ·rw [if_neg l,zQ (y:=false) (by unfold cR; rw [au (by omega),cond_true,au (by omega),aE,cond_true,bw,Gl,aE,bw,Gm,aE,rQ e,cond_true,aE,aE,ba l])]; rfl
 exact key x.length 0 rfl (Nat.zero_le _) (Nat.zero_le _)
theorem Bz (x y:List Int) (hx:x.length≤1048576000):cT x y=some (x == y):=CI x y hx
def O7 (c:aD) (a:Int) (s:List Int):List Int:=(rm c (gi c.To a)).filter fun b=>hasB s (gk c.aC a b)
end Go.Proofs.YtcnehblmgfbfoaaGreat
