/- Lists of arrows and sieves: what the reference's and the program's small functions reckon. No condition beside those that each theorem names. -/
import Derived.Test.YtgjbmjjihmfppaaGreatPe
namespace Go.Li
open Go
section
variable {S S1 R α σ β:Type} {body:S1→Option (Out S1 R)}
theorem O5 {k:Nat} {f:S1→Option (Out S R)} {DH:S1} (l:List α) (g:σ→α→σ) (I:Nat→σ→Prop) (pk:σ→Nat→S1) (s0:σ) (e0:pk s0 0=DH) (h0:I 0 s0)
  (hI:∀ i x s,l[i]? = some x→I i s→I (i+1) (g s x)) (step:∀ i x s,l[i]? = some x→I i s→body (pk s i)=some (.norm (pk (g s x) (i+1)))) (last:∀ s,I l.length s→body (pk s l.length)=some (.exit k (pk s l.length))) :
  ag (ae k (aj body DH)) f=f (pk (l.foldl g s0) l.length):=by
 have hh:∀ i,i≤l.length→I i ((l.take i).foldl g s0):=by
  intro i
  induction i with
  | zero=>intro _; exact h0
  | succ i ih=>
   intro hi
   have hx:l[i]? = some l[i]:=List.getElem?_eq_getElem (by omega)
   rw [uM hx,List.foldl_append]
   exact hI i _ _ hx (ih (by omega))
 refine l6 l (fun i=>pk ((l.take i).foldl g s0) i) (by simpa using e0) ?_ ?_
 ·intro i x hx
  have hi:=bg hx
  rw [step i x _ hx (hh i (by omega)),uM hx,List.foldl_append]; rfl
 ·rw [last _ (hh _ (Nat.le_refl _)),List.take_length]
theorem foldl_filter (p:α→Bool) (h:α→β) (l:List α) (acc:List β):l.foldl (fun a x=>if p x then a++[h x] else a) acc=acc++(l.filter p).map h:=by
 induction l generalizing acc with
 | nil=>simp
 | cons x l ih=>by_cases hp:p x=true <;> simp [hp,ih]
end
theorem any_filter' {α:Type} (l:List α) (p q:α→Bool):(l.filter p).any q=l.any fun x=>p x && q x:=by
 induction l with
 | nil=>rfl
 | cons a l ih=>by_cases hp:p a=true <;> simp [hp,ih]
theorem tF {n:Nat} {p:Int→Bool}:((ns n).filter p).Nodup:=by
 show List.Pairwise (·≠·) _
 refine List.Pairwise.filter _ ?_
 unfold ns
 rw [List.pairwise_map]
 exact (List.nodup_range (n:=n)).imp fun h e=>h (Int.ofNat.inj e)
end Go.Li
namespace Go.Proofs.YtgjbmjjihmfppaaGreat
open Go Go.Li
set_option linter.unusedSectionVars false
def uB (c:aG) (x:Int):List Int:=(ns c.aE.length).filter fun a=>gi c.aE a == x
theorem uS {c:aG} {x a:Int}:a∈uB c x↔(0≤a∧a < c.aE.length)∧gi c.aE a=x:=by
 unfold uB; rw [List.mem_filter,bw]; simp
theorem Fh (p:Int→Bool) (l:List Int):l.foldl (fun a x=>if p x then a++[x] else a) []=l.filter p:=by
 have:=foldl_filter p (fun x:Int=>x) l []
 simpa using this
def hasB (l:List Int) (n:Int):Bool:=l.any fun y=>y == n
theorem yZ {l:List Int} {n:Int}:hasB l n=true↔n∈l:=by unfold hasB; simp
theorem UA (l:List Int) (n:Int) (hl:l.length≤1048576000):qG l n=some (hasB l n):=by
 unfold qG
 refine (congrArg ao (jc l (fun y=>y == n) (fun i=>(i:Int)) rfl ?_ ?_ (e:=(l.length:Int)) (y:=true) ?_)).trans ?_
 ·intro i x hx hp
  have hi:=bg hx
  unfold mW
  rw [av (by omega),cond_true,bp,hx,aF,hp,cond_false,bQ (by omega)]
 ·intro i x hx hp
  have hi:=bg hx
  unfold mW
  rw [av (by omega),cond_true,bp,hx,aF,hp,cond_true]
 ·unfold mW; rw [bc (by omega),cond_false]
 ·show ao (if hasB l n=true then _ else _)=_
  cases hasB l n <;> rfl
def F8 (M:List Bool):List Int:=(ns M.length).filter fun a=>M.getD a.toNat false
theorem RB {M:List Bool} {i:Nat} (h:i < M.length):idx M (i:Int)=some (M.getD i false):=by
 rw [bp,List.getElem?_eq_getElem h,List.getD_eq_getElem?_getD,List.getElem?_eq_getElem h]; rfl
theorem MZ (M:List Bool) (hm:M.length≤1048576):qH M=some (F8 M):=by
 unfold qH
 refine (congrArg ao (O5 (ns M.length) (fun acc a=>if M.getD a.toNat false then acc++[a] else acc) (fun i acc=>acc.length≤i) (fun acc i=>(acc,(i:Int))) [] rfl (Nat.le_refl _) ?_ ?_ ?_)).trans ?_
 ·intro i a s _ hs; by_cases h:M.getD a.toNat false=true <;> simp only [h,if_true,if_false,List.length_append,List.length_singleton,Bool.false_eq_true] <;> omega
 ·intro i a s ha hs
  obtain ⟨rfl,hi⟩:=gu ha
  show kV M s i=_
  unfold kV
  rw [av (by omega),cond_true,RB hi,aF,bQ (by omega),Int.toNat_natCast]
  cases h:M.getD i false with
  | true=>rw [cond_true,dH (by omega) (by omega),aF]; rfl
  | false=>rw [cond_false]; rfl
 ·intro s _
  show kV M s _=_
  unfold kV
  rw [dF,bc (by omega),cond_false]
 ·rw [Fh]; rfl
def O6 (c:aG) (l:List Int):Prop:=∀ a∈l,0≤a∧a < c.aE.length
def Tq (c:aG) (A:List Int) (a:Int):Bool:=A.any fun x=>(ns c.aE.length).any fun b=>(gi c.To x == gi c.aE b) && gk c.aB x b == a
def ov (c:aG) (A:List Int):List Int:=(ns c.aE.length).filter (Tq c A)
end Go.Proofs.YtgjbmjjihmfppaaGreat
namespace Go.Li
open Go
theorem Lf {S S1 R:Type} {k:Nat} {body:S1→Option (Out S1 R)} {f:S1→Option (Out S R)} {s s':S1} (h:body s=some (.norm s')):ag (ae k (aj body s)) f=ag (ae k (aj body s')) f:=by
 rw [n5,h]
theorem Jx {S S1 R:Type} {k:Nat} {body:S1→Option (Out S1 R)} {f:S1→Option (Out S R)} {s e:S1} (h:body s=some (.exit k e)):ag (ae k (aj body s)) f=f e:=um (mh h)
theorem CI {S S1 R:Type} {k:Nat} {body:S1→Option (Out S1 R)} {f:S1→Option (Out S R)} {s:S1} {y:R} (h:body s=some (.ret y)):ag (ae k (aj body s)) f=some (.ret y):=CG (CF h)
end Go.Li
namespace Go.Proofs.YtgjbmjjihmfppaaGreat
open Go Go.Li
set_option linter.unusedSectionVars false
theorem Kh (x y:List Int) (hx:x.length≤1048576000):qZ x y=some (se x y):=by
 have key:∀ (m i:Nat),x.length - i=m→i≤x.length→i≤y.length→
   ao (S:=Unit) (ag (ae 0 (aj (fT x y) (i:Int))) (fun iT=>(bif decide ((x.length:Int) < (y.length:Int)) then (some (Out.ret (((-1:Int))))) else (some (Out.ret (((0:Int))))))))=some (se (x.drop i) (y.drop i)):=by
  intro m
  induction m with
  | zero=>
   intro i hm hi hy
   obtain rfl:i=x.length:=by omega
   rw [Jx (e:=(x.length:Int)) (by unfold fT; rw [bc (by omega),cond_false]),List.drop_length]
   by_cases h:x.length < y.length
   ·rw [av (by omega),cond_true,List.drop_eq_getElem_cons h]; rfl
   ·rw [bc (by omega),cond_false,List.drop_eq_nil_of_le (by omega)]; rfl
  | succ m ih=>
   intro i hm hi hy
   have Jy:x[i]? = some (x[i]'(by omega)):=List.getElem?_eq_getElem (by omega)
   rw [List.drop_eq_getElem_cons (show i < x.length by omega)]
   by_cases h:i=y.length
   ·rw [List.drop_eq_nil_of_le (show y.length≤i by omega),CI (y:=1) (by unfold fT; rw [av (by omega),cond_true,uc (by omega),cond_true])]; rfl
   ·have Jz:y[i]? = some (y[i]'(by omega)):=List.getElem?_eq_getElem (by omega)
    rw [List.drop_eq_getElem_cons (show i < y.length by omega)]
    unfold se
    by_cases e:x[i]'(by omega)=y[i]'(by omega)
    ·rw [if_pos e,Lf (s':=((i+1:Nat):Int)) (by unfold fT; rw [av (by omega),cond_true,o3 (by omega),cond_false,bp,Jy,aF,bp,Jz,aF,zZ e,cond_false,bQ (by omega)])]
     exact ih (i+1) (by omega) (by omega) (by omega)
    ·rw [if_neg e]
     by_cases l:x[i]'(by omega) < y[i]'(by omega)
     ·rw [if_pos l,CI (y:=-1) (by unfold fT; rw [av (by omega),cond_true,o3 (by omega),cond_false,bp,Jy,aF,bp,Jz,aF,vS e,cond_true,aF,aF,av l,cond_true])]; rfl
     ·rw [if_neg l,CI (y:=1) (by unfold fT; rw [av (by omega),cond_true,o3 (by omega),cond_false,bp,Jy,aF,bp,Jz,aF,vS e,cond_true,aF,aF,bc l,cond_false])]; rfl
 exact key x.length 0 rfl (Nat.zero_le _) (Nat.zero_le _)
theorem za (x y:List Int) (hx:x.length≤1048576000):mE x y=some (x == y):=by
 unfold mE
 rw [Kh x y hx,aF]
 show some (se x y == 0)=_
 congr 1
 rw [Bool.eq_iff_iff]
 simp only [beq_iff_eq]
 exact ⟨QH,fun h=>by rw [h]; exact QG y⟩
theorem RC (x y:List Int) (hx:x.length≤1048576000):lZ x y=some (lexLt x y):=by
 have key:∀ (m i:Nat),x.length - i=m→i≤x.length→i≤y.length→
   ao (S:=Unit) (ag (ae 0 (aj (eR x y) (i:Int))) (fun bh=>(some (Out.ret ((decide ((x.length:Int) < (y.length:Int))))))))=some (lexLt (x.drop i) (y.drop i)):=by
  intro m
  induction m with
  | zero=>
   intro i hm hi hy
   obtain rfl:i=x.length:=by omega
   rw [Jx (e:=(x.length:Int)) (by unfold eR; rw [bc (by omega),cond_false,aF,cond_false]),List.drop_length]
   by_cases h:x.length < y.length
   ·rw [av (by omega),List.drop_eq_getElem_cons h]; rfl
   ·rw [bc (by omega),List.drop_eq_nil_of_le (by omega)]; rfl
  | succ m ih=>
   intro i hm hi hy
   have Jy:x[i]? = some (x[i]'(by omega)):=List.getElem?_eq_getElem (by omega)
   rw [List.drop_eq_getElem_cons (show i < x.length by omega)]
   by_cases h:i=y.length
   ·rw [List.drop_eq_nil_of_le (show y.length≤i by omega),Jx (e:=(i:Int)) (by unfold eR; rw [av (by omega),cond_true,bc (by omega),aF,cond_false]),bc (by omega)]; rfl
   ·have Jz:y[i]? = some (y[i]'(by omega)):=List.getElem?_eq_getElem (by omega)
    rw [List.drop_eq_getElem_cons (show i < y.length by omega)]
    unfold lexLt se
    by_cases e:x[i]'(by omega)=y[i]'(by omega)
    ·rw [if_pos e,Lf (s':=((i+1:Nat):Int)) (by unfold eR; rw [av (by omega),cond_true,av (by omega),aF,cond_true,bp,Jy,aF,bp,Jz,aF,zZ e,cond_false,bQ (by omega)])]
     exact ih (i+1) (by omega) (by omega) (by omega)
    ·rw [if_neg e]
     by_cases l:x[i]'(by omega) < y[i]'(by omega)
     ·rw [if_pos l,CI (y:=true) (by unfold eR; rw [av (by omega),cond_true,av (by omega),aF,cond_true,bp,Jy,aF,bp,Jz,aF,vS e,cond_true,aF,aF,av l])]; rfl
     ·rw [if_neg l,CI (y:=false) (by unfold eR; rw [av (by omega),cond_true,av (by omega),aF,cond_true,bp,Jy,aF,bp,Jz,aF,vS e,cond_true,aF,aF,bc l])]; rfl
 exact key x.length 0 rfl (Nat.zero_le _) (Nat.zero_le _)
theorem BD (x y:List Int) (hx:x.length≤1048576000):eM x y=some (x == y):=Ju x y hx
def Tr (c:aG) (a:Int) (s:List Int):List Int:=(uB c (gi c.To a)).filter fun b=>hasB s (gk c.aB a b)
end Go.Proofs.YtgjbmjjihmfppaaGreat
