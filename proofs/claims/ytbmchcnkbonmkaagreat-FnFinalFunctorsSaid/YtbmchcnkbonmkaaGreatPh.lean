/- Lists of arrows and sieves: what the reference's and the program's small functions reckon. No condition beside those that each theorem names. -/
import Derived.Test.YtbmchcnkbonmkaaGreatPe
namespace Go.Li
open Go
section
variable {S S1 R α σ β:Type} {body:S1→Option (Out S1 R)}
theorem OX {k:Nat} {f:S1→Option (Out S R)} {DB:S1} (l:List α) (g:σ→α→σ) (I:Nat→σ→Prop) (pk:σ→Nat→S1) (s0:σ) (e0:pk s0 0=DB) (h0:I 0 s0)
  (hI:∀ i x s,l[i]? = some x→I i s→I (i+1) (g s x)) (step:∀ i x s,l[i]? = some x→I i s→body (pk s i)=some (.norm (pk (g s x) (i+1)))) (last:∀ s,I l.length s→body (pk s l.length)=some (.exit k (pk s l.length))) :
  ae (ab k (af body DB)) f=f (pk (l.foldl g s0) l.length):=by
 have hh:∀ i,i≤l.length→I i ((l.take i).foldl g s0):=by
  intro i
  induction i with
  | zero=>intro _; exact h0
  | succ i ih=>
   intro hi
   have hx:l[i]? = some l[i]:=List.getElem?_eq_getElem (by omega)
   rw [uL hx,List.foldl_append]
   exact hI i _ _ hx (ih (by omega))
 refine jo l (fun i=>pk ((l.take i).foldl g s0) i) (by simpa using e0) ?_ ?_
 ·intro i x hx
  have hi:=bd hx
  rw [step i x _ hx (hh i (by omega)),uL hx,List.foldl_append]; rfl
 ·rw [last _ (hh _ (Nat.le_refl _)),List.take_length]
theorem foldl_filter (p:α→Bool) (h:α→β) (l:List α) (acc:List β):l.foldl (fun a x=>if p x then a++[h x] else a) acc=acc++(l.filter p).map h:=by
 induction l generalizing acc with
 | nil=>simp
 | cons x l ih=>by_cases hp:p x=true <;> simp [hp,ih]
end
theorem any_filter' {α:Type} (l:List α) (p q:α→Bool):(l.filter p).any q=l.any fun x=>p x && q x:=by
 induction l with
 | nil=>rfl
 | cons a l ih=>by_cases hp:p a=true <;> simp [hp,ih]
theorem vO {n:Nat} {p:Int→Bool}:((ns n).filter p).Nodup:=by
 show List.Pairwise (·≠·) _
 refine List.Pairwise.filter _ ?_
 unfold ns
 rw [List.pairwise_map]
 exact (List.nodup_range (n:=n)).imp fun h e=>h (Int.ofNat.inj e)
end Go.Li
namespace Go.Proofs.YtbmchcnkbonmkaaGreat
open Go Go.Li
set_option linter.unusedSectionVars false
def sf (c:aG) (x:Int):List Int:=(ns c.aC.length).filter fun a=>gi c.aC a == x
theorem tW {c:aG} {x a:Int}:a∈sf c x↔(0≤a∧a < c.aC.length)∧gi c.aC a=x:=by
 unfold sf; rw [List.mem_filter,bp]; simp
theorem RI (c:aG) (x:Int):(sf c x).length≤c.aC.length:=by
 unfold sf; exact Nat.le_trans (List.length_filter_le _ _) (by rw [bZ]; exact Nat.le_refl _)
theorem E0 (p:Int→Bool) (l:List Int):l.foldl (fun a x=>if p x then a++[x] else a) []=l.filter p:=by
 have:=foldl_filter p (fun x:Int=>x) l []
 simpa using this
theorem Uz {c:aG} (hm:c.aC.length≤1048576) (x:Int):fT c x=some (sf c x):=by
 unfold fT
 refine (congrArg ak (OX (ns c.aC.length) (fun acc a=>if gi c.aC a == x then acc++[a] else acc) (fun i acc=>acc.length≤i) (fun acc i=>(acc,(i:Int))) [] rfl (Nat.le_refl _) ?_ ?_ ?_)).trans ?_
 ·intro i a s _ hs; by_cases h:(gi c.aC a == x)=true <;> simp [h] <;> omega
 ·intro i a s ha hs
  obtain ⟨rfl,hi⟩:=ij ha
  show eZ c x s i=_
  unfold eZ
  rw [aq (by omega),cond_true,bI (by omega) (by omega),aD,bH (by omega)]
  cases h:(gi c.aC (i:Int) == x) with
  | true=>rw [cond_true,cN (by omega) (by omega),aD]; rfl
  | false=>rw [cond_false]; rfl
 ·intro s _
  show eZ c x s _=_
  unfold eZ
  rw [bZ,ba (by omega),cond_false]
 ·rw [E0]; rfl
def hasB (l:List Int) (n:Int):Bool:=l.any fun y=>y == n
theorem yW {l:List Int} {n:Int}:hasB l n=true↔n∈l:=by unfold hasB; simp
theorem UA (l:List Int) (n:Int) (hl:l.length≤1048576000):qH l n=some (hasB l n):=by
 unfold qH
 refine (congrArg ak (l4 l (fun y=>y == n) (fun i=>(i:Int)) rfl ?_ ?_ (e:=(l.length:Int)) (y:=true) ?_)).trans ?_
 ·intro i x hx hp
  have hi:=bd hx
  unfold mX
  rw [aq (by omega),cond_true,bx,hx,aD,hp,cond_false,bH (by omega)]
 ·intro i x hx hp
  have hi:=bd hx
  unfold mX
  rw [aq (by omega),cond_true,bx,hx,aD,hp,cond_true]
 ·unfold mX; rw [ba (by omega),cond_false]
 ·show ak (if hasB l n=true then _ else _)=_
  cases hasB l n <;> rfl
def OY (c:aG) (l:List Int):Prop:=∀ a∈l,0≤a∧a < c.aC.length
def Tp (c:aG) (A:List Int) (a:Int):Bool:=A.any fun x=>(ns c.aC.length).any fun b=>(gi c.To x == gi c.aC b) && gk c.aB x b == a
def pq (c:aG) (A:List Int):List Int:=(ns c.aC.length).filter (Tp c A)
end Go.Proofs.YtbmchcnkbonmkaaGreat
namespace Go.Li
open Go
theorem UB {S S1 R:Type} {k:Nat} {body:S1→Option (Out S1 R)} {f:S1→Option (Out S R)} {s s':S1} (h:body s=some (.norm s')):ae (ab k (af body s)) f=ae (ab k (af body s')) f:=by
 rw [o4,h]
theorem OZ {S S1 R:Type} {k:Nat} {body:S1→Option (Out S1 R)} {f:S1→Option (Out S R)} {s e:S1} (h:body s=some (.exit k e)):ae (ab k (af body s)) f=f e:=uh (mj h)
theorem O0 {S S1 R:Type} {k:Nat} {body:S1→Option (Out S1 R)} {f:S1→Option (Out S R)} {s:S1} {y:R} (h:body s=some (.ret y)):ae (ab k (af body s)) f=some (.ret y):=CB (CA h)
end Go.Li
namespace Go.Proofs.YtbmchcnkbonmkaaGreat
open Go Go.Li
set_option linter.unusedSectionVars false
theorem RJ (x y:List Int) (hx:x.length≤1048576000):lY x y=some (lexLt x y):=by
 have key:∀ (m i:Nat),x.length - i=m→i≤x.length→i≤y.length→
   ak (S:=Unit) (ae (ab 0 (af (dZ x y) (i:Int))) (fun aX=>(some (Out.ret ((decide ((x.length:Int) < (y.length:Int))))))))=some (lexLt (x.drop i) (y.drop i)):=by
  intro m
  induction m with
  | zero=>
   intro i hm hi hy
   obtain rfl:i=x.length:=by omega
   rw [OZ (e:=(x.length:Int)) (by unfold dZ; rw [ba (by omega),cond_false,aD,cond_false]),List.drop_length]
   by_cases h:x.length < y.length
   ·rw [aq (by omega),List.drop_eq_getElem_cons h]; rfl
   ·rw [ba (by omega),List.drop_eq_nil_of_le (by omega)]; rfl
  | succ m ih=>
   intro i hm hi hy
   have X6:x[i]? = some (x[i]'(by omega)):=List.getElem?_eq_getElem (by omega)
   rw [List.drop_eq_getElem_cons (show i < x.length by omega)]
   by_cases h:i=y.length
   ·rw [List.drop_eq_nil_of_le (show y.length≤i by omega),OZ (e:=(i:Int)) (by unfold dZ; rw [aq (by omega),cond_true,ba (by omega),aD,cond_false]),ba (by omega)]; rfl
   ·have X7:y[i]? = some (y[i]'(by omega)):=List.getElem?_eq_getElem (by omega)
    rw [List.drop_eq_getElem_cons (show i < y.length by omega)]
    unfold lexLt n4
    by_cases e:x[i]'(by omega)=y[i]'(by omega)
    ·rw [if_pos e,UB (s':=((i+1:Nat):Int)) (by unfold dZ; rw [aq (by omega),cond_true,aq (by omega),aD,cond_true,bx,X6,aD,bx,X7,aD,xp e,cond_false,bH (by omega)])]
     exact ih (i+1) (by omega) (by omega) (by omega)
    ·rw [if_neg e]
     by_cases l:x[i]'(by omega) < y[i]'(by omega)
     ·rw [if_pos l,O0 (y:=true) (by unfold dZ; rw [aq (by omega),cond_true,aq (by omega),aD,cond_true,bx,X6,aD,bx,X7,aD,yR e,cond_true,aD,aD,aq l])]; rfl
     ·rw [if_neg l,O0 (y:=false) (by unfold dZ; rw [aq (by omega),cond_true,aq (by omega),aD,cond_true,bx,X6,aD,bx,X7,aD,yR e,cond_true,aD,aD,ba l])]; rfl
 exact key x.length 0 rfl (Nat.zero_le _) (Nat.zero_le _)
def Tq (c:aG) (a:Int) (s:List Int):List Int:=(sf c (gi c.To a)).filter fun b=>hasB s (gk c.aB a b)
end Go.Proofs.YtbmchcnkbonmkaaGreat
