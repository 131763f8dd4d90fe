/- Lists of arrows and sieves: what the reference's and the program's small functions reckon. No condition beside those that each theorem names. -/
import Derived.Test.YtacpfhajafmigaaGreatPe
namespace Go.Li
open Go
section
variable {S S1 R α σ β:Type} {body:S1→Option (Out S1 R)}
end
end Go.Li
namespace Go.Proofs.YtacpfhajafmigaaGreat
open Go Go.Li
set_option linter.unusedSectionVars false
def outS (c:aI) (x:Int):List Int:=(ns c.aG.length).filter fun a=>gi c.aG a == x
theorem outS_mem {c:aI} {x a:Int}:a∈outS c x↔(0≤a∧a < c.aG.length)∧gi c.aG a=x:=by
 unfold outS; rw [List.mem_filter,ns_mem]; simp
def hasB (l:List Int) (n:Int):Bool:=l.any fun y=>y == n
theorem hasB_iff {l:List Int} {n:Int}:hasB l n=true↔n∈l:=by unfold hasB; simp
theorem specHas (l:List Int) (n:Int) (hl:l.length≤1048576000):lP l n=some (hasB l n):=by
 unfold lP
 refine (congrArg retM (for_anyb l (fun y=>y == n) (fun i=>(i:Int)) rfl ?_ ?_ (e:=(l.length:Int)) (y:=true) ?_)).trans ?_
 ·intro i x hx hp
  have hi:=getElem?_lt hx
  unfold lH
  rw [decT (by omega),cond_true,idx_nat,hx,aD,hp,cond_false,bW (by omega)]
 ·intro i x hx hp
  have hi:=getElem?_lt hx
  unfold lH
  rw [decT (by omega),cond_true,idx_nat,hx,aD,hp,cond_true]
 ·unfold lH; rw [decF (by omega),cond_false]
 ·show retM (if hasB l n=true then _ else _)=_
  cases hasB l n <;> rfl
def Arr (c:aI) (l:List Int):Prop:=∀ a∈l,0≤a∧a < c.aG.length
def clP (c:aI) (A:List Int) (a:Int):Bool:=A.any fun x=>(ns c.aG.length).any fun b=>(gi c.To x == gi c.aG b) && gk c.aE x b == a
def closeS (c:aI) (A:List Int):List Int:=(ns c.aG.length).filter (clP c A)
end Go.Proofs.YtacpfhajafmigaaGreat
namespace Go.Li
open Go
theorem lb_step {S S1 R:Type} {k:Nat} {body:S1→Option (Out S1 R)} {f:S1→Option (Out S R)} {s s':S1} (h:body s=some (.norm s')):lbind (blockM k (loopM body s)) f=lbind (blockM k (loopM body s')) f:=by
 rw [loopM_eq,h]
theorem lb_end {S S1 R:Type} {k:Nat} {body:S1→Option (Out S1 R)} {f:S1→Option (Out S R)} {s e:S1} (h:body s=some (.exit k e)):lbind (blockM k (loopM body s)) f=f e:=lb_exit (loopM_exit h)
theorem lb_out {S S1 R:Type} {k:Nat} {body:S1→Option (Out S1 R)} {f:S1→Option (Out S R)} {s:S1} {y:R} (h:body s=some (.ret y)):lbind (blockM k (loopM body s)) f=some (.ret y):=lb_ret (loopM_ret h)
def ixF {α:Type} (p:α→Bool):List α→Nat→Int
 | [],_=>-1
 | x :: l,i=>if p x then (i:Int) else ixF p l (i+1)
theorem ixF_some {α:Type} {p:α→Bool} {l:List α} {i:Nat} (h:∃ x∈l,p x=true):∃ j x,ixF p l i=((i+j:Nat):Int)∧l[j]? = some x∧p x=true:=by
 induction l generalizing i with
 | nil=>obtain ⟨x,hx,_⟩:=h; cases hx
 | cons x l ih=>
  unfold ixF
  by_cases hp:p x=true
  ·exact ⟨0,x,by rw [if_pos hp]; rfl,rfl,hp⟩
  ·rw [if_neg hp]
   obtain ⟨y,hy,hpy⟩:=h
   rcases List.mem_cons.1 hy with rfl | hy
   ·exact absurd hpy hp
   ·obtain ⟨j,z,h1,h2,h3⟩:=ih (i:=i+1) ⟨y,hy,hpy⟩
    exact ⟨j+1,z,by rw [h1]; congr 1; omega,h2,h3⟩
end Go.Li
namespace Go.Proofs.YtacpfhajafmigaaGreat
open Go Go.Li
set_option linter.unusedSectionVars false
theorem implCompare (x y:List Int) (hx:x.length≤1048576000):pO x y=some (lexCmp x y):=by
 have key:∀ (m i:Nat),x.length - i=m→i≤x.length→i≤y.length→
   retM (S:=Unit) (lbind (blockM 0 (loopM (eZ x y) (i:Int))) (fun s0_8=>(bif decide ((x.length:Int) < (y.length:Int)) then (some (Out.ret (((-1:Int))))) else (some (Out.ret (((0:Int))))))))=some (lexCmp (x.drop i) (y.drop i)):=by
  intro m
  induction m with
  | zero=>
   intro i hm hi hy
   obtain rfl:i=x.length:=by omega
   rw [lb_end (e:=(x.length:Int)) (by unfold eZ; rw [decF (by omega),cond_false]),List.drop_length]
   by_cases h:x.length < y.length
   ·rw [decT (by omega),cond_true,List.drop_eq_getElem_cons h]; rfl
   ·rw [decF (by omega),cond_false,List.drop_eq_nil_of_le (by omega)]; rfl
  | succ m ih=>
   intro i hm hi hy
   have hxi:x[i]? = some (x[i]'(by omega)):=List.getElem?_eq_getElem (by omega)
   rw [List.drop_eq_getElem_cons (show i < x.length by omega)]
   by_cases h:i=y.length
   ·rw [List.drop_eq_nil_of_le (show y.length≤i by omega),lb_out (y:=1) (by unfold eZ; rw [decT (by omega),cond_true,beqT (by omega),cond_true])]; rfl
   ·have hyi:y[i]? = some (y[i]'(by omega)):=List.getElem?_eq_getElem (by omega)
    rw [List.drop_eq_getElem_cons (show i < y.length by omega)]
    unfold lexCmp
    by_cases e:x[i]'(by omega)=y[i]'(by omega)
    ·rw [if_pos e,lb_step (s':=((i+1:Nat):Int)) (by unfold eZ; rw [decT (by omega),cond_true,beqF (by omega),cond_false,idx_nat,hxi,aD,idx_nat,hyi,aD,bneF e,cond_false,bW (by omega)])]
     exact ih (i+1) (by omega) (by omega) (by omega)
    ·rw [if_neg e]
     by_cases l:x[i]'(by omega) < y[i]'(by omega)
     ·rw [if_pos l,lb_out (y:=-1) (by unfold eZ; rw [decT (by omega),cond_true,beqF (by omega),cond_false,idx_nat,hxi,aD,idx_nat,hyi,aD,bneT e,cond_true,aD,aD,decT l,cond_true])]; rfl
     ·rw [if_neg l,lb_out (y:=1) (by unfold eZ; rw [decT (by omega),cond_true,beqF (by omega),cond_false,idx_nat,hxi,aD,idx_nat,hyi,aD,bneT e,cond_true,aD,aD,decF l,cond_false])]; rfl
 exact key x.length 0 rfl (Nat.zero_le _) (Nat.zero_le _)
theorem implSame (x y:List Int) (hx:x.length≤1048576000):iE x y=some (x == y):=by
 unfold iE
 rw [implCompare x y hx,aD]
 show some (lexCmp x y == 0)=_
 congr 1
 rw [Bool.eq_iff_iff]
 simp only [beq_iff_eq]
 exact ⟨lex_zero,fun h=>by rw [h]; exact lex_refl y⟩
theorem specLess (x y:List Int) (hx:x.length≤1048576000):pM x y=some (lexLt x y):=by
 have key:∀ (m i:Nat),x.length - i=m→i≤x.length→i≤y.length→
   retM (S:=Unit) (lbind (blockM 0 (loopM (eU x y) (i:Int))) (fun s0_5=>(some (Out.ret ((decide ((x.length:Int) < (y.length:Int))))))))=some (lexLt (x.drop i) (y.drop i)):=by
  intro m
  induction m with
  | zero=>
   intro i hm hi hy
   obtain rfl:i=x.length:=by omega
   rw [lb_end (e:=(x.length:Int)) (by unfold eU; rw [decF (by omega),cond_false,aD,cond_false]),List.drop_length]
   by_cases h:x.length < y.length
   ·rw [decT (by omega),List.drop_eq_getElem_cons h]; rfl
   ·rw [decF (by omega),List.drop_eq_nil_of_le (by omega)]; rfl
  | succ m ih=>
   intro i hm hi hy
   have hxi:x[i]? = some (x[i]'(by omega)):=List.getElem?_eq_getElem (by omega)
   rw [List.drop_eq_getElem_cons (show i < x.length by omega)]
   by_cases h:i=y.length
   ·rw [List.drop_eq_nil_of_le (show y.length≤i by omega),lb_end (e:=(i:Int)) (by unfold eU; rw [decT (by omega),cond_true,decF (by omega),aD,cond_false]),decF (by omega)]; rfl
   ·have hyi:y[i]? = some (y[i]'(by omega)):=List.getElem?_eq_getElem (by omega)
    rw [List.drop_eq_getElem_cons (show i < y.length by omega)]
    unfold lexLt lexCmp
    by_cases e:x[i]'(by omega)=y[i]'(by omega)
    ·rw [if_pos e,lb_step (s':=((i+1:Nat):Int)) (by unfold eU; rw [decT (by omega),cond_true,decT (by omega),aD,cond_true,idx_nat,hxi,aD,idx_nat,hyi,aD,bneF e,cond_false,bW (by omega)])]
     exact ih (i+1) (by omega) (by omega) (by omega)
    ·rw [if_neg e]
     by_cases l:x[i]'(by omega) < y[i]'(by omega)
     ·rw [if_pos l,lb_out (y:=true) (by unfold eU; rw [decT (by omega),cond_true,decT (by omega),aD,cond_true,idx_nat,hxi,aD,idx_nat,hyi,aD,bneT e,cond_true,aD,aD,decT l])]; rfl
     ·rw [if_neg l,lb_out (y:=false) (by unfold eU; rw [decT (by omega),cond_true,decT (by omega),aD,cond_true,idx_nat,hxi,aD,idx_nat,hyi,aD,bneT e,cond_true,aD,aD,decF l])]; rfl
 exact key x.length 0 rfl (Nat.zero_le _) (Nat.zero_le _)
theorem specSame (x y:List Int) (hx:x.length≤1048576000):eF x y=some (x == y):=eqM_ok x y hx
def placeS (l:List (List Int)) (s:List Int):Int:=ixF (fun y=>y == s) l 0
theorem specPlace (l:List (List Int)) (s:List Int) (hl:l.length≤1048576000) (hr:∀ y∈l,y.length≤1048576000):pH l s=some (placeS l s):=by
 have key:∀ (m:List (List Int)) (i:Nat),l.drop i=m→i≤l.length→
   retM (S:=Unit) (lbind (blockM 0 (loopM (gL l s) (i:Int))) (fun s0_5=>(some (Out.ret (((-1:Int)))))))=some (ixF (fun y=>y == s) m i):=by
  intro m
  induction m with
  | nil=>
   intro i hd hi
   have:i=l.length:=by have:=congrArg List.length hd; simp at this; omega
   subst this
   rw [lb_end (e:=(l.length:Int)) (by unfold gL; rw [decF (by omega),cond_false])]; rfl
  | cons x m ih=>
   intro i hd hi
   have hlt:i < l.length:=by
    rcases Nat.lt_or_ge i l.length with h | h
    ·exact h
    ·rw [List.drop_eq_nil_of_le h] at hd; cases hd
   rw [List.drop_eq_getElem_cons hlt] at hd
   have hx:l[i]? = some x:=by rw [List.getElem?_eq_getElem hlt]; exact congrArg some (List.cons.inj hd).1
   have hs:=specSame x s (hr x (List.mem_of_getElem? hx))
   unfold ixF
   cases e:x == s with
   | true=>
    rw [if_pos rfl,lb_out (y:=(i:Int)) (by unfold gL; rw [decT (by omega),cond_true,idx_nat,hx,aD,hs,aD,e,cond_true])]; rfl
   | false=>
    rw [if_neg (by simp),lb_step (s':=((i+1:Nat):Int)) (by unfold gL; rw [decT (by omega),cond_true,idx_nat,hx,aD,hs,aD,e,cond_false,bW (by omega)])]
    exact ih (i+1) (List.cons.inj hd).2 hlt
 exact key l 0 rfl (Nat.zero_le _)
def pullS (c:aI) (a:Int) (s:List Int):List Int:=(outS c (gi c.To a)).filter fun b=>hasB s (gk c.aE a b)
end Go.Proofs.YtacpfhajafmigaaGreat
