/- Lists of arrows and sieves: what the reference's and the program's small functions reckon. No condition beside those that each theorem names. -/
import Derived.Test.YtilhlobfebngdaaGreatPe
namespace Go.Li
open Go
section
variable {S S1 R α σ β:Type} {body:S1→Option (Out S1 R)}
end
theorem A6 {n:Nat} {p:Int→Bool}:((ns n).filter p).Nodup:=by
 show List.Pairwise (·≠·) _
 refine List.Pairwise.filter _ ?_
 unfold ns
 rw [List.pairwise_map]
 exact (List.nodup_range (n:=n)).imp fun h e=>h (Int.ofNat.inj e)
end Go.Li
namespace Go.Proofs.YtilhlobfebngdaaGreat
open Go Go.Li
set_option linter.unusedSectionVars false
def u2 (c:aF) (x:Int):List Int:=(ns c.aE.length).filter fun a=>gi c.aE a == x
theorem v8 {c:aF} {x a:Int}:a∈u2 c x↔(0≤a∧a < c.aE.length)∧gi c.aE a=x:=by
 unfold u2; rw [List.mem_filter,fg]; simp
def hasB (l:List Int) (n:Int):Bool:=l.any fun y=>y == n
theorem FM {l:List Int} {n:Int}:hasB l n=true↔n∈l:=by unfold hasB; simp
def QT (c:aF) (l:List Int):Prop:=∀ a∈l,0≤a∧a < c.aE.length
def VA (c:aF) (A:List Int) (a:Int):Bool:=A.any fun x=>(ns c.aE.length).any fun b=>(gi c.To x == gi c.aE b) && gk c.aC x b == a
def oK (c:aF) (A:List Int):List Int:=(ns c.aE.length).filter (VA c A)
end Go.Proofs.YtilhlobfebngdaaGreat
namespace Go.Li
open Go
theorem Np {S S1 R:Type} {k:Nat} {body:S1→Option (Out S1 R)} {f:S1→Option (Out S R)} {s s':S1} (h:body s=some (.norm s')):af (ae k (ah body s)) f=af (ae k (ah body s')) f:=by
 rw [vY,h]
theorem Ll {S S1 R:Type} {k:Nat} {body:S1→Option (Out S1 R)} {f:S1→Option (Out S R)} {s e:S1} (h:body s=some (.exit k e)):af (ae k (ah body s)) f=f e:=BW (zg h)
theorem Eb {S S1 R:Type} {k:Nat} {body:S1→Option (Out S1 R)} {f:S1→Option (Out S R)} {s:S1} {y:R} (h:body s=some (.ret y)):af (ae k (ah body s)) f=some (.ret y):=GY (D6 h)
def ixF {α:Type} (p:α→Bool):List α→Nat→Int
 | [],_=>-1
 | x :: l,i=>if p x then (i:Int) else ixF p l (i+1)
end Go.Li
namespace Go.Proofs.YtilhlobfebngdaaGreat
open Go Go.Li
set_option linter.unusedSectionVars false
theorem Mn (x y:List Int) (hx:x.length≤1048576000):tU x y=some (r9 x y):=by
 have key:∀ (m i:Nat),x.length - i=m→i≤x.length→i≤y.length→
   ak (S:=Unit) (af (ae 0 (ah (iS x y) (i:Int))) (fun ib=>(bif decide ((x.length:Int) < (y.length:Int)) then (some (Out.ret (((-1:Int))))) else (some (Out.ret (((0:Int))))))))=some (r9 (x.drop i) (y.drop i)):=by
  intro m
  induction m with
  | zero=>
   intro i hm hi hy
   obtain rfl:i=x.length:=by omega
   rw [Ll (e:=(x.length:Int)) (by unfold iS; rw [ay (by omega),cond_false]),List.drop_length]
   by_cases h:x.length < y.length
   ·rw [au (by omega),cond_true,List.drop_eq_getElem_cons h]; rfl
   ·rw [ay (by omega),cond_false,List.drop_eq_nil_of_le (by omega)]; rfl
  | succ m ih=>
   intro i hm hi hy
   have Lm:x[i]? = some (x[i]'(by omega)):=List.getElem?_eq_getElem (by omega)
   rw [List.drop_eq_getElem_cons (show i < x.length by omega)]
   by_cases h:i=y.length
   ·rw [List.drop_eq_nil_of_le (show y.length≤i by omega),Eb (y:=1) (by unfold iS; rw [au (by omega),cond_true,n5 (by omega),cond_true])]; rfl
   ·have Lo:y[i]? = some (y[i]'(by omega)):=List.getElem?_eq_getElem (by omega)
    rw [List.drop_eq_getElem_cons (show i < y.length by omega)]
    unfold r9
    by_cases e:x[i]'(by omega)=y[i]'(by omega)
    ·rw [if_pos e,Np (s':=((i+1:Nat):Int)) (by unfold iS; rw [au (by omega),cond_true,sa (by omega),cond_false,ch,Lm,aD,ch,Lo,aD,mq e,cond_false,bR (by omega)])]
     exact ih (i+1) (by omega) (by omega) (by omega)
    ·rw [if_neg e]
     by_cases l:x[i]'(by omega) < y[i]'(by omega)
     ·rw [if_pos l,Eb (y:=-1) (by unfold iS; rw [au (by omega),cond_true,sa (by omega),cond_false,ch,Lm,aD,ch,Lo,aD,qd e,cond_true,aD,aD,au l,cond_true])]; rfl
     ·rw [if_neg l,Eb (y:=1) (by unfold iS; rw [au (by omega),cond_true,sa (by omega),cond_false,ch,Lm,aD,ch,Lo,aD,qd e,cond_true,aD,aD,ay l,cond_false])]; rfl
 exact key x.length 0 rfl (Nat.zero_le _) (Nat.zero_le _)
theorem Aq (x y:List Int) (hx:x.length≤1048576000):oP x y=some (x == y):=by
 unfold oP
 rw [Mn x y hx,aD]
 show some (r9 x y == 0)=_
 congr 1
 rw [Bool.eq_iff_iff]
 simp only [beq_iff_eq]
 exact ⟨S4,fun h=>by rw [h]; exact SZ y⟩
theorem T4 (x y:List Int) (hx:x.length≤1048576000):oB x y=some (lexLt x y):=by
 have key:∀ (m i:Nat),x.length - i=m→i≤x.length→i≤y.length→
   ak (S:=Unit) (af (ae 0 (ah (fX x y) (i:Int))) (fun ao=>(some (Out.ret ((decide ((x.length:Int) < (y.length:Int))))))))=some (lexLt (x.drop i) (y.drop i)):=by
  intro m
  induction m with
  | zero=>
   intro i hm hi hy
   obtain rfl:i=x.length:=by omega
   rw [Ll (e:=(x.length:Int)) (by unfold fX; rw [ay (by omega),cond_false,aD,cond_false]),List.drop_length]
   by_cases h:x.length < y.length
   ·rw [au (by omega),List.drop_eq_getElem_cons h]; rfl
   ·rw [ay (by omega),List.drop_eq_nil_of_le (by omega)]; rfl
  | succ m ih=>
   intro i hm hi hy
   have Lm:x[i]? = some (x[i]'(by omega)):=List.getElem?_eq_getElem (by omega)
   rw [List.drop_eq_getElem_cons (show i < x.length by omega)]
   by_cases h:i=y.length
   ·rw [List.drop_eq_nil_of_le (show y.length≤i by omega),Ll (e:=(i:Int)) (by unfold fX; rw [au (by omega),cond_true,ay (by omega),aD,cond_false]),ay (by omega)]; rfl
   ·have Lo:y[i]? = some (y[i]'(by omega)):=List.getElem?_eq_getElem (by omega)
    rw [List.drop_eq_getElem_cons (show i < y.length by omega)]
    unfold lexLt r9
    by_cases e:x[i]'(by omega)=y[i]'(by omega)
    ·rw [if_pos e,Np (s':=((i+1:Nat):Int)) (by unfold fX; rw [au (by omega),cond_true,au (by omega),aD,cond_true,ch,Lm,aD,ch,Lo,aD,mq e,cond_false,bR (by omega)])]
     exact ih (i+1) (by omega) (by omega) (by omega)
    ·rw [if_neg e]
     by_cases l:x[i]'(by omega) < y[i]'(by omega)
     ·rw [if_pos l,Eb (y:=true) (by unfold fX; rw [au (by omega),cond_true,au (by omega),aD,cond_true,ch,Lm,aD,ch,Lo,aD,qd e,cond_true,aD,aD,au l])]; rfl
     ·rw [if_neg l,Eb (y:=false) (by unfold fX; rw [au (by omega),cond_true,au (by omega),aD,cond_true,ch,Lm,aD,ch,Lo,aD,qd e,cond_true,aD,aD,ay l])]; rfl
 exact key x.length 0 rfl (Nat.zero_le _) (Nat.zero_le _)
theorem CL (x y:List Int) (hx:x.length≤1048576000):fQ x y=some (x == y):=G3 x y hx
def aac (l:List (List Int)) (s:List Int):Int:=ixF (fun y=>y == s) l 0
def VB (c:aF) (a:Int) (s:List Int):List Int:=(u2 c (gi c.To a)).filter fun b=>hasB s (gk c.aC a b)
end Go.Proofs.YtilhlobfebngdaaGreat
