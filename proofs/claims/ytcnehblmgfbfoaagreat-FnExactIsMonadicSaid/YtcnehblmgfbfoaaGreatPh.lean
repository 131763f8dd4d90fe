/- Lists of arrows and sieves: what the reference's and the program's small functions reckon. No condition beside those that each theorem names. -/
import Derived.Test.YtcnehblmgfbfoaaGreatPe
set_option linter.unusedVariables false
set_option linter.unusedSectionVars false
set_option linter.unusedSimpArgs false
namespace Go.Li
open Go
section
variable {S S1 R α σ β:Type} {body:S1→Option (Out S1 R)}
end
theorem r8 {n:Nat} {p:Int→Bool}:((ns n).filter p).Nodup:=by
 show List.Pairwise (·≠·) _
 refine List.Pairwise.filter _ ?_
 unfold ns
 rw [List.pairwise_map]
 exact (List.nodup_range (n:=n)).imp fun h e=>h (Int.ofNat.inj e)
end Go.Li
namespace Go.Proofs.YtcnehblmgfbfoaaGreat
open Go Go.Li
set_option linter.unusedSectionVars false
def qS (c:aJ) (x:Int):List Int:=(ns c.aH.length).filter fun a=>gi c.aH a == x
theorem rh {c:aJ} {x a:Int}:a∈qS c x↔(0≤a∧a < c.aH.length)∧gi c.aH a=x:=by
 unfold qS; rw [List.mem_filter,dj]; simp
def hasB (l:List Int) (n:Int):Bool:=l.any fun y=>y == n
theorem zF {l:List Int} {n:Int}:hasB l n=true↔n∈l:=by unfold hasB; simp
theorem Pd (l:List Int) (n:Int) (hl:l.length≤1048576000):oV l n=some (hasB l n):=by
 unfold oV
 refine (congrArg an (gh l (fun y=>y == n) (fun i=>(i:Int)) rfl ?_ ?_ (e:=(l.length:Int)) (y:=true) ?_)).trans ?_
 ·intro i x hx hp
  have hi:=bc hx
  unfold nQ
  rw [ao (by omega),cond_true,bf,hx,aB,hp,cond_false,bR (by omega)]
 ·intro i x hx hp
  have hi:=bc hx
  unfold nQ
  rw [ao (by omega),cond_true,bf,hx,aB,hp,cond_true]
 ·unfold nQ; rw [av (by omega),cond_false]
 ·show an (if hasB l n=true then _ else _)=_
  cases hasB l n <;> rfl
theorem Pe (l:List Int) (n:Int) (hl:l.length≤1048576000):pO l n=some (hasB l n):=by
 unfold pO
 refine (congrArg an (gh l (fun y=>y == n) (fun i=>(i:Int)) rfl ?_ ?_ (e:=(l.length:Int)) (y:=true) ?_)).trans ?_
 ·intro i x hx hp
  have hi:=bc hx
  unfold oY
  rw [ao (by omega),cond_true,bf,hx,aB,hp,cond_false,bR (by omega)]
 ·intro i x hx hp
  have hi:=bc hx
  unfold oY
  rw [ao (by omega),cond_true,bf,hx,aB,hp,cond_true]
 ·unfold oY; rw [av (by omega),cond_false]
 ·show an (if hasB l n=true then _ else _)=_
  cases hasB l n <;> rfl
def JZ (c:aJ) (l:List Int):Prop:=∀ a∈l,0≤a∧a < c.aH.length
def N3 (c:aJ) (A:List Int) (a:Int):Bool:=A.any fun x=>(ns c.aH.length).any fun b=>(gi c.To x == gi c.aH b) && gk c.aG x b == a
def ku (c:aJ) (A:List Int):List Int:=(ns c.aH.length).filter (N3 c A)
end Go.Proofs.YtcnehblmgfbfoaaGreat
namespace Go.Li
open Go
theorem Pf {S S1 R:Type} {k:Nat} {body:S1→Option (Out S1 R)} {f:S1→Option (Out S R)} {s s':S1} (h:body s=some (.norm s')):aj (ag k (ai body s)) f=aj (ag k (ai body s')) f:=by
 rw [nk,h]
theorem SG {S S1 R:Type} {k:Nat} {body:S1→Option (Out S1 R)} {f:S1→Option (Out S R)} {s e:S1} (h:body s=some (.exit k e)):aj (ag k (ai body s)) f=f e:=sB (o7 h)
theorem Ey {S S1 R:Type} {k:Nat} {body:S1→Option (Out S1 R)} {f:S1→Option (Out S R)} {s:S1} {y:R} (h:body s=some (.ret y)):aj (ag k (ai body s)) f=some (.ret y):=wi (vh h)
end Go.Li
namespace Go.Proofs.YtcnehblmgfbfoaaGreat
open Go Go.Li
set_option linter.unusedSectionVars false
theorem FH (x y:List Int) (hx:x.length≤1048576000):pL x y=some (pr x y):=by
 have key:∀ (m i:Nat),x.length - i=m→i≤x.length→i≤y.length→
   an (S:=Unit) (aj (ag 0 (ai (gV x y) (i:Int))) (fun dg=>(bif decide ((x.length:Int) < (y.length:Int)) then (some (Out.ret (((-1:Int))))) else (some (Out.ret (((0:Int))))))))=some (pr (x.drop i) (y.drop i)):=by
  intro m
  induction m with
  | zero=>
   intro i hm hi hy
   obtain rfl:i=x.length:=by omega
   rw [SG (e:=(x.length:Int)) (by unfold gV; rw [av (by omega),cond_false]),List.drop_length]
   by_cases h:x.length < y.length
   ·rw [ao (by omega),cond_true,List.drop_eq_getElem_cons h]; rfl
   ·rw [av (by omega),cond_false,List.drop_eq_nil_of_le (by omega)]; rfl
  | succ m ih=>
   intro i hm hi hy
   have GQ:x[i]? = some (x[i]'(by omega)):=List.getElem?_eq_getElem (by omega)
   rw [List.drop_eq_getElem_cons (show i < x.length by omega)]
   by_cases h:i=y.length
   ·rw [List.drop_eq_nil_of_le (show y.length≤i by omega),Ey (y:=1) (by unfold gV; rw [ao (by omega),cond_true,o5 (by omega),cond_true])]; rfl
   ·have SH:y[i]? = some (y[i]'(by omega)):=List.getElem?_eq_getElem (by omega)
    rw [List.drop_eq_getElem_cons (show i < y.length by omega)]
    unfold pr
    by_cases e:x[i]'(by omega)=y[i]'(by omega)
    ·rw [if_pos e,Pf (s':=((i+1:Nat):Int)) (by unfold gV; rw [ao (by omega),cond_true,kz (by omega),cond_false,bf,GQ,aB,bf,SH,aB,sa e,cond_false,bR (by omega)])]
     exact ih (i+1) (by omega) (by omega) (by omega)
    ·rw [if_neg e]
     by_cases l:x[i]'(by omega) < y[i]'(by omega)
     ·rw [if_pos l,Ey (y:=-1) (by unfold gV; rw [ao (by omega),cond_true,kz (by omega),cond_false,bf,GQ,aB,bf,SH,aB,qq e,cond_true,aB,aB,ao l,cond_true])]; rfl
     ·rw [if_neg l,Ey (y:=1) (by unfold gV; rw [ao (by omega),cond_true,kz (by omega),cond_false,bf,GQ,aB,bf,SH,aB,qq e,cond_true,aB,aB,av l,cond_false])]; rfl
 exact key x.length 0 rfl (Nat.zero_le _) (Nat.zero_le _)
theorem uM (x y:List Int) (hx:x.length≤1048576000):nG x y=some (x == y):=by
 unfold nG
 rw [FH x y hx,aB]
 show some (pr x y == 0)=_
 congr 1
 rw [Bool.eq_iff_iff]
 simp only [beq_iff_eq]
 exact ⟨LY,fun h=>by rw [h]; exact LX y⟩
theorem uy (x y:List Int) (hx:x.length≤1048576000):kE x y=some (x == y):=AN x y hx
def N4 (c:aJ) (a:Int) (s:List Int):List Int:=(qS c (gi c.To a)).filter fun b=>hasB s (gk c.aG a b)
end Go.Proofs.YtcnehblmgfbfoaaGreat
