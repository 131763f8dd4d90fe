/- Lists of arrows and sieves: what the reference's and the program's small functions reckon. No condition beside those that each theorem names. -/
import Derived.Test.YtjdkifckhidlbaaGreatPe
namespace Go.Li
open Go
section
variable {S S1 R α σ β:Type} {body:S1→Option (Out S1 R)}
end
theorem w7 {n:Nat} {p:Int→Bool}:((ns n).filter p).Nodup:=by
 show List.Pairwise (·≠·) _
 refine List.Pairwise.filter _ ?_
 unfold ns
 rw [List.pairwise_map]
 exact (List.nodup_range (n:=n)).imp fun h e=>h (Int.ofNat.inj e)
end Go.Li
namespace Go.Proofs.YtjdkifckhidlbaaGreat
open Go Go.Li
set_option linter.unusedSectionVars false
def sk (c:aI) (x:Int):List Int:=(ns c.aG.length).filter fun a=>gi c.aG a == x
theorem sO {c:aI} {x a:Int}:a∈sk c x↔(0≤a∧a < c.aG.length)∧gi c.aG a=x:=by
 unfold sk; rw [List.mem_filter,eh]; simp
def hasB (l:List Int) (n:Int):Bool:=l.any fun y=>y == n
theorem BB {l:List Int} {n:Int}:hasB l n=true↔n∈l:=by unfold hasB; simp
def KV (c:aI) (l:List Int):Prop:=∀ a∈l,0≤a∧a < c.aG.length
def OL (c:aI) (A:List Int) (a:Int):Bool:=A.any fun x=>(ns c.aG.length).any fun b=>(gi c.To x == gi c.aG b) && gk c.aB x b == a
def nk (c:aI) (A:List Int):List Int:=(ns c.aG.length).filter (OL c A)
end Go.Proofs.YtjdkifckhidlbaaGreat
namespace Go.Li
open Go
theorem HK {S S1 R:Type} {k:Nat} {body:S1→Option (Out S1 R)} {f:S1→Option (Out S R)} {s s':S1} (h:body s=some (.norm s')):ah (af k (aj body s)) f=ah (af k (aj body s')) f:=by
 rw [sL,h]
theorem Gf {S S1 R:Type} {k:Nat} {body:S1→Option (Out S1 R)} {f:S1→Option (Out S R)} {s e:S1} (h:body s=some (.exit k e)):ah (af k (aj body s)) f=f e:=xP (vB h)
theorem zU {S S1 R:Type} {k:Nat} {body:S1→Option (Out S1 R)} {f:S1→Option (Out S R)} {s:S1} {y:R} (h:body s=some (.ret y)):ah (af k (aj body s)) f=some (.ret y):=Cj (zR h)
end Go.Li
namespace Go.Proofs.YtjdkifckhidlbaaGreat
open Go Go.Li
set_option linter.unusedSectionVars false
theorem GY (x y:List Int) (hx:x.length≤1048576000):pQ x y=some (qp x y):=by
 have key:∀ (m i:Nat),x.length - i=m→i≤x.length→i≤y.length→
   ao (S:=Unit) (ah (af 0 (aj (gC x y) (i:Int))) (fun jz=>(bif decide ((x.length:Int) < (y.length:Int)) then (some (Out.ret (((-1:Int))))) else (some (Out.ret (((0:Int))))))))=some (qp (x.drop i) (y.drop i)):=by
  intro m
  induction m with
  | zero=>
   intro i hm hi hy
   obtain rfl:i=x.length:=by omega
   rw [Gf (e:=(x.length:Int)) (by unfold gC; rw [bj (by omega),cond_false]),List.drop_length]
   by_cases h:x.length < y.length
   ·rw [aX (by omega),cond_true,List.drop_eq_getElem_cons h]; rfl
   ·rw [bj (by omega),cond_false,List.drop_eq_nil_of_le (by omega)]; rfl
  | succ m ih=>
   intro i hm hi hy
   have Gg:x[i]? = some (x[i]'(by omega)):=List.getElem?_eq_getElem (by omega)
   rw [List.drop_eq_getElem_cons (show i < x.length by omega)]
   by_cases h:i=y.length
   ·rw [List.drop_eq_nil_of_le (show y.length≤i by omega),zU (y:=1) (by unfold gC; rw [aX (by omega),cond_true,sN (by omega),cond_true])]; rfl
   ·have Gh:y[i]? = some (y[i]'(by omega)):=List.getElem?_eq_getElem (by omega)
    rw [List.drop_eq_getElem_cons (show i < y.length by omega)]
    unfold qp
    by_cases e:x[i]'(by omega)=y[i]'(by omega)
    ·rw [if_pos e,HK (s':=((i+1:Nat):Int)) (by unfold gC; rw [aX (by omega),cond_true,r5 (by omega),cond_false,cy,Gg,aF,cy,Gh,aF,ou e,cond_false,cH (by omega)])]
     exact ih (i+1) (by omega) (by omega) (by omega)
    ·rw [if_neg e]
     by_cases l:x[i]'(by omega) < y[i]'(by omega)
     ·rw [if_pos l,zU (y:=-1) (by unfold gC; rw [aX (by omega),cond_true,r5 (by omega),cond_false,cy,Gg,aF,cy,Gh,aF,p8 e,cond_true,aF,aF,aX l,cond_true])]; rfl
     ·rw [if_neg l,zU (y:=1) (by unfold gC; rw [aX (by omega),cond_true,r5 (by omega),cond_false,cy,Gg,aF,cy,Gh,aF,p8 e,cond_true,aF,aF,bj l,cond_false])]; rfl
 exact key x.length 0 rfl (Nat.zero_le _) (Nat.zero_le _)
theorem wC (x y:List Int) (hx:x.length≤1048576000):lK x y=some (x == y):=by
 unfold lK
 rw [GY x y hx,aF]
 show some (qp x y == 0)=_
 congr 1
 rw [Bool.eq_iff_iff]
 simp only [beq_iff_eq]
 exact ⟨MA,fun h=>by rw [h]; exact Mz y⟩
theorem Nr (x y:List Int) (hx:x.length≤1048576000):kZ x y=some (lexLt x y):=by
 have key:∀ (m i:Nat),x.length - i=m→i≤x.length→i≤y.length→
   ao (S:=Unit) (ah (af 0 (aj (eU x y) (i:Int))) (fun bn=>(some (Out.ret ((decide ((x.length:Int) < (y.length:Int))))))))=some (lexLt (x.drop i) (y.drop i)):=by
  intro m
  induction m with
  | zero=>
   intro i hm hi hy
   obtain rfl:i=x.length:=by omega
   rw [Gf (e:=(x.length:Int)) (by unfold eU; rw [bj (by omega),cond_false,aF,cond_false]),List.drop_length]
   by_cases h:x.length < y.length
   ·rw [aX (by omega),List.drop_eq_getElem_cons h]; rfl
   ·rw [bj (by omega),List.drop_eq_nil_of_le (by omega)]; rfl
  | succ m ih=>
   intro i hm hi hy
   have Gg:x[i]? = some (x[i]'(by omega)):=List.getElem?_eq_getElem (by omega)
   rw [List.drop_eq_getElem_cons (show i < x.length by omega)]
   by_cases h:i=y.length
   ·rw [List.drop_eq_nil_of_le (show y.length≤i by omega),Gf (e:=(i:Int)) (by unfold eU; rw [aX (by omega),cond_true,bj (by omega),aF,cond_false]),bj (by omega)]; rfl
   ·have Gh:y[i]? = some (y[i]'(by omega)):=List.getElem?_eq_getElem (by omega)
    rw [List.drop_eq_getElem_cons (show i < y.length by omega)]
    unfold lexLt qp
    by_cases e:x[i]'(by omega)=y[i]'(by omega)
    ·rw [if_pos e,HK (s':=((i+1:Nat):Int)) (by unfold eU; rw [aX (by omega),cond_true,aX (by omega),aF,cond_true,cy,Gg,aF,cy,Gh,aF,ou e,cond_false,cH (by omega)])]
     exact ih (i+1) (by omega) (by omega) (by omega)
    ·rw [if_neg e]
     by_cases l:x[i]'(by omega) < y[i]'(by omega)
     ·rw [if_pos l,zU (y:=true) (by unfold eU; rw [aX (by omega),cond_true,aX (by omega),aF,cond_true,cy,Gg,aF,cy,Gh,aF,p8 e,cond_true,aF,aF,aX l])]; rfl
     ·rw [if_neg l,zU (y:=false) (by unfold eU; rw [aX (by omega),cond_true,aX (by omega),aF,cond_true,cy,Gg,aF,cy,Gh,aF,p8 e,cond_true,aF,aF,bj l])]; rfl
 exact key x.length 0 rfl (Nat.zero_le _) (Nat.zero_le _)
theorem yO (x y:List Int) (hx:x.length≤1048576000):eP x y=some (x == y):=Gb x y hx
def ON (c:aI) (a:Int) (s:List Int):List Int:=(sk c (gi c.To a)).filter fun b=>hasB s (gk c.aB a b)
end Go.Proofs.YtjdkifckhidlbaaGreat
