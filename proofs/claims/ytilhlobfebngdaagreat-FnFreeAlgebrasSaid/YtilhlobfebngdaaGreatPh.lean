/- Lists of arrows and sieves: what the reference's and the program's small functions reckon. No condition beside those that each theorem names. -/
import Derived.Test.YtilhlobfebngdaaGreatPe
namespace Go.Li
open Go
section
variable {S S1 R α σ β:Type} {body:S1→Option (Out S1 R)}
end
theorem zW {n:Nat} {p:Int→Bool}:((ns n).filter p).Nodup:=by
 show List.Pairwise (·≠·) _
 refine List.Pairwise.filter _ ?_
 unfold ns
 rw [List.pairwise_map]
 exact (List.nodup_range (n:=n)).imp fun h e=>h (Int.ofNat.inj e)
end Go.Li
namespace Go.Proofs.YtilhlobfebngdaaGreat
open Go Go.Li
set_option linter.unusedSectionVars false
def uq (c:aI) (x:Int):List Int:=(ns c.aG.length).filter fun a=>gi c.aG a == x
theorem vb {c:aI} {x a:Int}:a∈uq c x↔(0≤a∧a < c.aG.length)∧gi c.aG a=x:=by
 unfold uq; rw [List.mem_filter,fj]; simp
def hasB (l:List Int) (n:Int):Bool:=l.any fun y=>y == n
theorem Er {l:List Int} {n:Int}:hasB l n=true↔n∈l:=by unfold hasB; simp
def O7 (c:aI) (l:List Int):Prop:=∀ a∈l,0≤a∧a < c.aG.length
def Tp (c:aI) (A:List Int) (a:Int):Bool:=A.any fun x=>(ns c.aG.length).any fun b=>(gi c.To x == gi c.aG b) && gk c.aE x b == a
def nw (c:aI) (A:List Int):List Int:=(ns c.aG.length).filter (Tp c A)
end Go.Proofs.YtilhlobfebngdaaGreat
namespace Go.Li
open Go
theorem Lz {S S1 R:Type} {k:Nat} {body:S1→Option (Out S1 R)} {f:S1→Option (Out S R)} {s s':S1} (h:body s=some (.norm s')):ah (ae k (aj body s)) f=ah (ae k (aj body s')) f:=by
 rw [u9,h]
theorem JT {S S1 R:Type} {k:Nat} {body:S1→Option (Out S1 R)} {f:S1→Option (Out S R)} {s e:S1} (h:body s=some (.exit k e)):ah (ae k (aj body s)) f=f e:=AM (yf h)
theorem C5 {S S1 R:Type} {k:Nat} {body:S1→Option (Out S1 R)} {f:S1→Option (Out S R)} {s:S1} {y:R} (h:body s=some (.ret y)):ah (ae k (aj body s)) f=some (.ret y):=FC (C1 h)
end Go.Li
namespace Go.Proofs.YtilhlobfebngdaaGreat
open Go Go.Li
set_option linter.unusedSectionVars false
theorem KG (x y:List Int) (hx:x.length≤1048576000):tG x y=some (qx x y):=by
 have key:∀ (m i:Nat),x.length - i=m→i≤x.length→i≤y.length→
   aq (S:=Unit) (ah (ae 0 (aj (iE x y) (i:Int))) (fun fh=>(bif decide ((x.length:Int) < (y.length:Int)) then (some (Out.ret (((-1:Int))))) else (some (Out.ret (((0:Int))))))))=some (qx (x.drop i) (y.drop i)):=by
  intro m
  induction m with
  | zero=>
   intro i hm hi hy
   obtain rfl:i=x.length:=by omega
   rw [JT (e:=(x.length:Int)) (by unfold iE; rw [br (by omega),cond_false]),List.drop_length]
   by_cases h:x.length < y.length
   ·rw [bb (by omega),cond_true,List.drop_eq_getElem_cons h]; rfl
   ·rw [br (by omega),cond_false,List.drop_eq_nil_of_le (by omega)]; rfl
  | succ m ih=>
   intro i hm hi hy
   have JU:x[i]? = some (x[i]'(by omega)):=List.getElem?_eq_getElem (by omega)
   rw [List.drop_eq_getElem_cons (show i < x.length by omega)]
   by_cases h:i=y.length
   ·rw [List.drop_eq_nil_of_le (show y.length≤i by omega),C5 (y:=1) (by unfold iE; rw [bb (by omega),cond_true,ma (by omega),cond_true])]; rfl
   ·have JV:y[i]? = some (y[i]'(by omega)):=List.getElem?_eq_getElem (by omega)
    rw [List.drop_eq_getElem_cons (show i < y.length by omega)]
    unfold qx
    by_cases e:x[i]'(by omega)=y[i]'(by omega)
    ·rw [if_pos e,Lz (s':=((i+1:Nat):Int)) (by unfold iE; rw [bb (by omega),cond_true,nq (by omega),cond_false,cw,JU,aF,cw,JV,aF,mq e,cond_false,cA (by omega)])]
     exact ih (i+1) (by omega) (by omega) (by omega)
    ·rw [if_neg e]
     by_cases l:x[i]'(by omega) < y[i]'(by omega)
     ·rw [if_pos l,C5 (y:=-1) (by unfold iE; rw [bb (by omega),cond_true,nq (by omega),cond_false,cw,JU,aF,cw,JV,aF,o6 e,cond_true,aF,aF,bb l,cond_true])]; rfl
     ·rw [if_neg l,C5 (y:=1) (by unfold iE; rw [bb (by omega),cond_true,nq (by omega),cond_false,cw,JU,aF,cw,JV,aF,o6 e,cond_true,aF,aF,br l,cond_false])]; rfl
 exact key x.length 0 rfl (Nat.zero_le _) (Nat.zero_le _)
theorem zm (x y:List Int) (hx:x.length≤1048576000):nV x y=some (x == y):=by
 unfold nV
 rw [KG x y hx,aF]
 show some (qx x y == 0)=_
 congr 1
 rw [Bool.eq_iff_iff]
 simp only [beq_iff_eq]
 exact ⟨QH,fun h=>by rw [h]; exact QG y⟩
theorem RC (x y:List Int) (hx:x.length≤1048576000):nJ x y=some (lexLt x y):=by
 have key:∀ (m i:Nat),x.length - i=m→i≤x.length→i≤y.length→
   aq (S:=Unit) (ah (ae 0 (aj (fU x y) (i:Int))) (fun aw=>(some (Out.ret ((decide ((x.length:Int) < (y.length:Int))))))))=some (lexLt (x.drop i) (y.drop i)):=by
  intro m
  induction m with
  | zero=>
   intro i hm hi hy
   obtain rfl:i=x.length:=by omega
   rw [JT (e:=(x.length:Int)) (by unfold fU; rw [br (by omega),cond_false,aF,cond_false]),List.drop_length]
   by_cases h:x.length < y.length
   ·rw [bb (by omega),List.drop_eq_getElem_cons h]; rfl
   ·rw [br (by omega),List.drop_eq_nil_of_le (by omega)]; rfl
  | succ m ih=>
   intro i hm hi hy
   have JU:x[i]? = some (x[i]'(by omega)):=List.getElem?_eq_getElem (by omega)
   rw [List.drop_eq_getElem_cons (show i < x.length by omega)]
   by_cases h:i=y.length
   ·rw [List.drop_eq_nil_of_le (show y.length≤i by omega),JT (e:=(i:Int)) (by unfold fU; rw [bb (by omega),cond_true,br (by omega),aF,cond_false]),br (by omega)]; rfl
   ·have JV:y[i]? = some (y[i]'(by omega)):=List.getElem?_eq_getElem (by omega)
    rw [List.drop_eq_getElem_cons (show i < y.length by omega)]
    unfold lexLt qx
    by_cases e:x[i]'(by omega)=y[i]'(by omega)
    ·rw [if_pos e,Lz (s':=((i+1:Nat):Int)) (by unfold fU; rw [bb (by omega),cond_true,bb (by omega),aF,cond_true,cw,JU,aF,cw,JV,aF,mq e,cond_false,cA (by omega)])]
     exact ih (i+1) (by omega) (by omega) (by omega)
    ·rw [if_neg e]
     by_cases l:x[i]'(by omega) < y[i]'(by omega)
     ·rw [if_pos l,C5 (y:=true) (by unfold fU; rw [bb (by omega),cond_true,bb (by omega),aF,cond_true,cw,JU,aF,cw,JV,aF,o6 e,cond_true,aF,aF,bb l])]; rfl
     ·rw [if_neg l,C5 (y:=false) (by unfold fU; rw [bb (by omega),cond_true,bb (by omega),aF,cond_true,cw,JU,aF,cw,JV,aF,o6 e,cond_true,aF,aF,br l])]; rfl
 exact key x.length 0 rfl (Nat.zero_le _) (Nat.zero_le _)
theorem BP (x y:List Int) (hx:x.length≤1048576000):fP x y=some (x == y):=FH x y hx
def Tq (c:aI) (a:Int) (s:List Int):List Int:=(uq c (gi c.To a)).filter fun b=>hasB s (gk c.aE a b)
end Go.Proofs.YtilhlobfebngdaaGreat
