/- Lists of arrows and sieves: what the reference's and the program's small functions reckon. No condition beside those that each theorem names. -/
import Derived.Test.YtkhdhnpokfibjaaGreatPe
namespace Go.Li
open Go
section
variable {S S1 R α σ β:Type} {body:S1→Option (Out S1 R)}
end
end Go.Li
namespace Go.Proofs.YtkhdhnpokfibjaaGreat
open Go Go.Li
set_option linter.unusedSectionVars false
def outS (c:aI) (x:Int):List Int:=(ns c.aG.length).filter fun a=>gi c.aG a == x
theorem outS_mem {c:aI} {x a:Int}:a∈outS c x↔(0≤a∧a < c.aG.length)∧gi c.aG a=x:=by
 unfold outS; rw [List.mem_filter,ns_mem]; simp
def hasB (l:List Int) (n:Int):Bool:=l.any fun y=>y == n
theorem hasB_iff {l:List Int} {n:Int}:hasB l n=true↔n∈l:=by unfold hasB; simp
def Arr (c:aI) (l:List Int):Prop:=∀ a∈l,0≤a∧a < c.aG.length
def clP (c:aI) (A:List Int) (a:Int):Bool:=A.any fun x=>(ns c.aG.length).any fun b=>(gi c.To x == gi c.aG b) && gk c.aF x b == a
def closeS (c:aI) (A:List Int):List Int:=(ns c.aG.length).filter (clP c A)
end Go.Proofs.YtkhdhnpokfibjaaGreat
namespace Go.Li
open Go
theorem lb_step {S S1 R:Type} {k:Nat} {body:S1→Option (Out S1 R)} {f:S1→Option (Out S R)} {s s':S1} (h:body s=some (.norm s')):lbind (blockM k (loopM body s)) f=lbind (blockM k (loopM body s')) f:=by
 rw [loopM_eq,h]
theorem lb_end {S S1 R:Type} {k:Nat} {body:S1→Option (Out S1 R)} {f:S1→Option (Out S R)} {s e:S1} (h:body s=some (.exit k e)):lbind (blockM k (loopM body s)) f=f e:=lb_exit (loopM_exit h)
theorem lb_out {S S1 R:Type} {k:Nat} {body:S1→Option (Out S1 R)} {f:S1→Option (Out S R)} {s:S1} {y:R} (h:body s=some (.ret y)):lbind (blockM k (loopM body s)) f=some (.ret y):=lb_ret (loopM_ret h)
end Go.Li
namespace Go.Proofs.YtkhdhnpokfibjaaGreat
open Go Go.Li
set_option linter.unusedSectionVars false
theorem implCompare (x y:List Int) (hx:x.length≤1048576000):pW x y=some (lexCmp x y):=by
 have key:∀ (m i:Nat),x.length - i=m→i≤x.length→i≤y.length→
   retM (S:=Unit) (lbind (blockM 0 (loopM (gN x y) (i:Int))) (fun s0_8=>(bif decide ((x.length:Int) < (y.length:Int)) then (some (Out.ret (((-1:Int))))) else (some (Out.ret (((0:Int))))))))=some (lexCmp (x.drop i) (y.drop i)):=by
  intro m
  induction m with
  | zero=>
   intro i hm hi hy
   obtain rfl:i=x.length:=by omega
   rw [lb_end (e:=(x.length:Int)) (by unfold gN; rw [decF (by omega),cond_false]),List.drop_length]
   by_cases h:x.length < y.length
   ·rw [decT (by omega),cond_true,List.drop_eq_getElem_cons h]; rfl
   ·rw [decF (by omega),cond_false,List.drop_eq_nil_of_le (by omega)]; rfl
  | succ m ih=>
   intro i hm hi hy
   have hxi:x[i]? = some (x[i]'(by omega)):=List.getElem?_eq_getElem (by omega)
   rw [List.drop_eq_getElem_cons (show i < x.length by omega)]
   by_cases h:i=y.length
   ·rw [List.drop_eq_nil_of_le (show y.length≤i by omega),lb_out (y:=1) (by unfold gN; rw [decT (by omega),cond_true,beqT (by omega),cond_true])]; rfl
   ·have hyi:y[i]? = some (y[i]'(by omega)):=List.getElem?_eq_getElem (by omega)
    rw [List.drop_eq_getElem_cons (show i < y.length by omega)]
    unfold lexCmp
    by_cases e:x[i]'(by omega)=y[i]'(by omega)
    ·rw [if_pos e,lb_step (s':=((i+1:Nat):Int)) (by unfold gN; rw [decT (by omega),cond_true,beqF (by omega),cond_false,idx_nat,hxi,aH,idx_nat,hyi,aH,bneF e,cond_false,cP (by omega)])]
     exact ih (i+1) (by omega) (by omega) (by omega)
    ·rw [if_neg e]
     by_cases l:x[i]'(by omega) < y[i]'(by omega)
     ·rw [if_pos l,lb_out (y:=-1) (by unfold gN; rw [decT (by omega),cond_true,beqF (by omega),cond_false,idx_nat,hxi,aH,idx_nat,hyi,aH,bneT e,cond_true,aH,aH,decT l,cond_true])]; rfl
     ·rw [if_neg l,lb_out (y:=1) (by unfold gN; rw [decT (by omega),cond_true,beqF (by omega),cond_false,idx_nat,hxi,aH,idx_nat,hyi,aH,bneT e,cond_true,aH,aH,decF l,cond_false])]; rfl
 exact key x.length 0 rfl (Nat.zero_le _) (Nat.zero_le _)
theorem implSame (x y:List Int) (hx:x.length≤1048576000):jT x y=some (x == y):=by
 unfold jT
 rw [implCompare x y hx,aH]
 show some (lexCmp x y == 0)=_
 congr 1
 rw [Bool.eq_iff_iff]
 simp only [beq_iff_eq]
 exact ⟨lex_zero,fun h=>by rw [h]; exact lex_refl y⟩
theorem specLess (x y:List Int) (hx:x.length≤1048576000):lM x y=some (lexLt x y):=by
 have key:∀ (m i:Nat),x.length - i=m→i≤x.length→i≤y.length→
   retM (S:=Unit) (lbind (blockM 0 (loopM (fK x y) (i:Int))) (fun s0_5=>(some (Out.ret ((decide ((x.length:Int) < (y.length:Int))))))))=some (lexLt (x.drop i) (y.drop i)):=by
  intro m
  induction m with
  | zero=>
   intro i hm hi hy
   obtain rfl:i=x.length:=by omega
   rw [lb_end (e:=(x.length:Int)) (by unfold fK; rw [decF (by omega),cond_false,aH,cond_false]),List.drop_length]
   by_cases h:x.length < y.length
   ·rw [decT (by omega),List.drop_eq_getElem_cons h]; rfl
   ·rw [decF (by omega),List.drop_eq_nil_of_le (by omega)]; rfl
  | succ m ih=>
   intro i hm hi hy
   have hxi:x[i]? = some (x[i]'(by omega)):=List.getElem?_eq_getElem (by omega)
   rw [List.drop_eq_getElem_cons (show i < x.length by omega)]
   by_cases h:i=y.length
   ·rw [List.drop_eq_nil_of_le (show y.length≤i by omega),lb_end (e:=(i:Int)) (by unfold fK; rw [decT (by omega),cond_true,decF (by omega),aH,cond_false]),decF (by omega)]; rfl
   ·have hyi:y[i]? = some (y[i]'(by omega)):=List.getElem?_eq_getElem (by omega)
    rw [List.drop_eq_getElem_cons (show i < y.length by omega)]
    unfold lexLt lexCmp
    by_cases e:x[i]'(by omega)=y[i]'(by omega)
    ·rw [if_pos e,lb_step (s':=((i+1:Nat):Int)) (by unfold fK; rw [decT (by omega),cond_true,decT (by omega),aH,cond_true,idx_nat,hxi,aH,idx_nat,hyi,aH,bneF e,cond_false,cP (by omega)])]
     exact ih (i+1) (by omega) (by omega) (by omega)
    ·rw [if_neg e]
     by_cases l:x[i]'(by omega) < y[i]'(by omega)
     ·rw [if_pos l,lb_out (y:=true) (by unfold fK; rw [decT (by omega),cond_true,decT (by omega),aH,cond_true,idx_nat,hxi,aH,idx_nat,hyi,aH,bneT e,cond_true,aH,aH,decT l])]; rfl
     ·rw [if_neg l,lb_out (y:=false) (by unfold fK; rw [decT (by omega),cond_true,decT (by omega),aH,cond_true,idx_nat,hxi,aH,idx_nat,hyi,aH,bneT e,cond_true,aH,aH,decF l])]; rfl
 exact key x.length 0 rfl (Nat.zero_le _) (Nat.zero_le _)
theorem specSame (x y:List Int) (hx:x.length≤1048576000):fM x y=some (x == y):=eqM_ok x y hx
def pullS (c:aI) (a:Int) (s:List Int):List Int:=(outS c (gi c.To a)).filter fun b=>hasB s (gk c.aF a b)
end Go.Proofs.YtkhdhnpokfibjaaGreat
