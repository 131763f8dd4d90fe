/- Lists of arrows and sieves: what the reference's and the program's small functions reckon. No condition beside those that each theorem names. -/
import Derived.Test.YtcnehblmgfbfoaaGreatPe
set_option linter.unusedVariables false
set_option linter.unusedSectionVars false
set_option linter.unusedSimpArgs false
namespace Go.Li
open Go
section
variable {S S1 R α σ β:Type} {body:S1→Option (Out S1 R)}
theorem Hh {k:Nat} {f:S1→Option (Out S R)} {Ll:S1} (l:List α) (g:σ→α→σ) (I:Nat→σ→Prop) (pk:σ→Nat→S1) (s0:σ) (e0:pk s0 0=Ll) (h0:I 0 s0)
  (hI:∀ i x s,l[i]? = some x→I i s→I (i+1) (g s x)) (step:∀ i x s,l[i]? = some x→I i s→body (pk s i)=some (.norm (pk (g s x) (i+1)))) (last:∀ s,I l.length s→body (pk s l.length)=some (.exit k (pk s l.length))) :
  ag (ae k (af body Ll)) f=f (pk (l.foldl g s0) l.length):=by
 have hh:∀ i,i≤l.length→I i ((l.take i).foldl g s0):=by
  intro i
  induction i with
  | zero=>intro _; exact h0
  | succ i ih=>
   intro hi
   have hx:l[i]? = some l[i]:=List.getElem?_eq_getElem (by omega)
   rw [p8 hx,List.foldl_append]
   exact hI i _ _ hx (ih (by omega))
 refine du l (fun i=>pk ((l.take i).foldl g s0) i) (by simpa using e0) ?_ ?_
 ·intro i x hx
  have hi:=bf hx
  rw [step i x _ hx (hh i (by omega)),p8 hx,List.foldl_append]; rfl
 ·rw [last _ (hh _ (Nat.le_refl _)),List.take_length]
theorem foldl_filter (p:α→Bool) (h:α→β) (l:List α) (acc:List β):l.foldl (fun a x=>if p x then a++[h x] else a) acc=acc++(l.filter p).map h:=by
 induction l generalizing acc with
 | nil=>simp
 | cons x l ih=>by_cases hp:p x=true <;> simp [hp,ih]
end
theorem sx {n:Nat} {p:Int→Bool}:((ns n).filter p).Nodup:=by
 show List.Pairwise (·≠·) _
 refine List.Pairwise.filter _ ?_
 unfold ns
 rw [List.pairwise_map]
 exact (List.nodup_range (n:=n)).imp fun h e=>h (Int.ofNat.inj e)
end Go.Li
namespace Go.Proofs.YtcnehblmgfbfoaaGreat
open Go Go.Li
set_option linter.unusedSectionVars false
def l9 (c:aH) (x:Int):List Int:=(ns c.aG.length).filter fun a=>gi c.aG a == x
theorem qj {c:aH} {x a:Int}:a∈l9 c x↔(0≤a∧a < c.aG.length)∧gi c.aG a=x:=by
 unfold l9; rw [List.mem_filter,dv]; simp
theorem I6 (c:aH) (x:Int):(l9 c x).length≤c.aG.length:=by
 unfold l9; exact Nat.le_trans (List.length_filter_le _ _) (by rw [cH]; exact Nat.le_refl _)
theorem zy (p:Int→Bool) (l:List Int):l.foldl (fun a x=>if p x then a++[x] else a) []=l.filter p:=by
 have:=foldl_filter p (fun x:Int=>x) l []
 simpa using this
theorem K0 {c:aH} (hm:c.aG.length≤1048576) (x:Int):gQ c x=some (l9 c x):=by
 unfold gQ
 refine (congrArg ao (Hh (ns c.aG.length) (fun acc a=>if gi c.aG a == x then acc++[a] else acc) (fun i acc=>acc.length≤i) (fun acc i=>(acc,(i:Int))) [] rfl (Nat.le_refl _) ?_ ?_ ?_)).trans ?_
 ·intro i a s _ hs; by_cases h:(gi c.aG a == x)=true <;> simp [h] <;> omega
 ·intro i a s ha hs
  obtain ⟨rfl,hi⟩:=c8 ha
  show fN c x s i=_
  unfold fN
  rw [aw (by omega),cond_true,bQ (by omega) (by omega),aA,bB (by omega)]
  cases h:(gi c.aG (i:Int) == x) with
  | true=>rw [cond_true,dR (by omega) (by omega),aA]; rfl
  | false=>rw [cond_false]; rfl
 ·intro s _
  show fN c x s _=_
  unfold fN
  rw [cH,aX (by omega),cond_false]
 ·rw [zy]; rfl
def hasB (l:List Int) (n:Int):Bool:=l.any fun y=>y == n
theorem Ee {l:List Int} {n:Int}:hasB l n=true↔n∈l:=by unfold hasB; simp
theorem UM (l:List Int) (n:Int) (hl:l.length≤1048576000):nA l n=some (hasB l n):=by
 unfold nA
 refine (congrArg ao (kc l (fun y=>y == n) (fun i=>(i:Int)) rfl ?_ ?_ (e:=(l.length:Int)) (y:=true) ?_)).trans ?_
 ·intro i x hx hp
  have hi:=bf hx
  unfold mQ
  rw [aw (by omega),cond_true,bn,hx,aA,hp,cond_false,bB (by omega)]
 ·intro i x hx hp
  have hi:=bf hx
  unfold mQ
  rw [aw (by omega),cond_true,bn,hx,aA,hp,cond_true]
 ·unfold mQ; rw [aX (by omega),cond_false]
 ·show ao (if hasB l n=true then _ else _)=_
  cases hasB l n <;> rfl
def Gt (M:List Bool):List Int:=(ns M.length).filter fun a=>M.getD a.toNat false
theorem R6 {M:List Bool} {i:Nat} (h:i < M.length):idx M (i:Int)=some (M.getD i false):=by
 rw [bn,List.getElem?_eq_getElem h,List.getD_eq_getElem?_getD,List.getElem?_eq_getElem h]; rfl
theorem Mt (M:List Bool) (hm:M.length≤1048576):qK M=some (Gt M):=by
 unfold qK
 refine (congrArg ao (Hh (ns M.length) (fun acc a=>if M.getD a.toNat false then acc++[a] else acc) (fun i acc=>acc.length≤i) (fun acc i=>(acc,(i:Int))) [] rfl (Nat.le_refl _) ?_ ?_ ?_)).trans ?_
 ·intro i a s _ hs; by_cases h:M.getD a.toNat false=true <;> simp only [h,if_true,if_false,List.length_append,List.length_singleton,Bool.false_eq_true] <;> omega
 ·intro i a s ha hs
  obtain ⟨rfl,hi⟩:=c8 ha
  show kI M s i=_
  unfold kI
  rw [aw (by omega),cond_true,R6 hi,aA,bB (by omega),Int.toNat_natCast]
  cases h:M.getD i false with
  | true=>rw [cond_true,dR (by omega) (by omega),aA]; rfl
  | false=>rw [cond_false]; rfl
 ·intro s _
  show kI M s _=_
  unfold kI
  rw [cH,aX (by omega),cond_false]
 ·rw [zy]; rfl
def Pt (c:aH) (l:List Int):Prop:=∀ a∈l,0≤a∧a < c.aG.length
def TE (c:aH) (A:List Int) (a:Int):Bool:=A.any fun x=>(ns c.aG.length).any fun b=>(gi c.To x == gi c.aG b) && gk c.aB x b == a
def oq (c:aH) (A:List Int):List Int:=(ns c.aG.length).filter (TE c A)
end Go.Proofs.YtcnehblmgfbfoaaGreat
namespace Go.Li
open Go
theorem GC {S S1 R:Type} {k:Nat} {body:S1→Option (Out S1 R)} {f:S1→Option (Out S R)} {s s':S1} (h:body s=some (.norm s')):ag (ae k (af body s)) f=ag (ae k (af body s')) f:=by
 rw [uo,h]
theorem FZ {S S1 R:Type} {k:Nat} {body:S1→Option (Out S1 R)} {f:S1→Option (Out S R)} {s e:S1} (h:body s=some (.exit k e)):ag (ae k (af body s)) f=f e:=Af (xz h)
theorem Ah {S S1 R:Type} {k:Nat} {body:S1→Option (Out S1 R)} {f:S1→Option (Out S R)} {s:S1} {y:R} (h:body s=some (.ret y)):ag (ae k (af body s)) f=some (.ret y):=FU (CC h)
def Lm {α:Type} (p:α→Bool):List α→Nat→Int
 | [],_=>-1
 | x :: l,i=>if p x then (i:Int) else Lm p l (i+1)
theorem R7 {α:Type} {p:α→Bool} {l:List α} {i:Nat} (h:∃ x∈l,p x=true):∃ j x,Lm p l i=((i+j:Nat):Int)∧l[j]? = some x∧p x=true:=by
 induction l generalizing i with
 | nil=>obtain ⟨x,hx,_⟩:=h; cases hx
 | cons x l ih=>
  unfold Lm
  by_cases hp:p x=true
  ·exact ⟨0,x,by rw [if_pos hp]; rfl,rfl,hp⟩
  ·rw [if_neg hp]
   obtain ⟨y,hy,hpy⟩:=h
   rcases List.mem_cons.1 hy with rfl | hy
   ·exact absurd hpy hp
   ·obtain ⟨j,z,h1,h2,h3⟩:=ih (i:=i+1) ⟨y,hy,hpy⟩
    exact ⟨j+1,z,by rw [h1]; congr 1; omega,h2,h3⟩
end Go.Li
namespace Go.Proofs.YtcnehblmgfbfoaaGreat
open Go Go.Li
set_option linter.unusedSectionVars false
theorem Kg (x y:List Int) (hx:x.length≤1048576000):qX x y=some (qy x y):=by
 have key:∀ (m i:Nat),x.length - i=m→i≤x.length→i≤y.length→
   ao (S:=Unit) (ag (ae 0 (af (gG x y) (i:Int))) (fun ee=>(bif decide ((x.length:Int) < (y.length:Int)) then (some (Out.ret (((-1:Int))))) else (some (Out.ret (((0:Int))))))))=some (qy (x.drop i) (y.drop i)):=by
  intro m
  induction m with
  | zero=>
   intro i hm hi hy
   obtain rfl:i=x.length:=by omega
   rw [FZ (e:=(x.length:Int)) (by unfold gG; rw [aX (by omega),cond_false]),List.drop_length]
   by_cases h:x.length < y.length
   ·rw [aw (by omega),cond_true,List.drop_eq_getElem_cons h]; rfl
   ·rw [aX (by omega),cond_false,List.drop_eq_nil_of_le (by omega)]; rfl
  | succ m ih=>
   intro i hm hi hy
   have JL:x[i]? = some (x[i]'(by omega)):=List.getElem?_eq_getElem (by omega)
   rw [List.drop_eq_getElem_cons (show i < x.length by omega)]
   by_cases h:i=y.length
   ·rw [List.drop_eq_nil_of_le (show y.length≤i by omega),Ah (y:=1) (by unfold gG; rw [aw (by omega),cond_true,sk (by omega),cond_true])]; rfl
   ·have JM:y[i]? = some (y[i]'(by omega)):=List.getElem?_eq_getElem (by omega)
    rw [List.drop_eq_getElem_cons (show i < y.length by omega)]
    unfold qy
    by_cases e:x[i]'(by omega)=y[i]'(by omega)
    ·rw [if_pos e,GC (s':=((i+1:Nat):Int)) (by unfold gG; rw [aw (by omega),cond_true,rz (by omega),cond_false,bn,JL,aA,bn,JM,aA,wW e,cond_false,bB (by omega)])]
     exact ih (i+1) (by omega) (by omega) (by omega)
    ·rw [if_neg e]
     by_cases l:x[i]'(by omega) < y[i]'(by omega)
     ·rw [if_pos l,Ah (y:=-1) (by unfold gG; rw [aw (by omega),cond_true,rz (by omega),cond_false,bn,JL,aA,bn,JM,aA,tO e,cond_true,aA,aA,aw l,cond_true])]; rfl
     ·rw [if_neg l,Ah (y:=1) (by unfold gG; rw [aw (by omega),cond_true,rz (by omega),cond_false,bn,JL,aA,bn,JM,aA,tO e,cond_true,aA,aA,aX l,cond_false])]; rfl
 exact key x.length 0 rfl (Nat.zero_le _) (Nat.zero_le _)
theorem yK (x y:List Int) (hx:x.length≤1048576000):mL x y=some (x == y):=by
 unfold mL
 rw [Kg x y hx,aA]
 show some (qy x y == 0)=_
 congr 1
 rw [Bool.eq_iff_iff]
 simp only [beq_iff_eq]
 exact ⟨Rk,fun h=>by rw [h]; exact Rj y⟩
theorem R8 (x y:List Int) (hx:x.length≤1048576000):qV x y=some (lexLt x y):=by
 have key:∀ (m i:Nat),x.length - i=m→i≤x.length→i≤y.length→
   ao (S:=Unit) (ag (ae 0 (af (gA x y) (i:Int))) (fun ba=>(some (Out.ret ((decide ((x.length:Int) < (y.length:Int))))))))=some (lexLt (x.drop i) (y.drop i)):=by
  intro m
  induction m with
  | zero=>
   intro i hm hi hy
   obtain rfl:i=x.length:=by omega
   rw [FZ (e:=(x.length:Int)) (by unfold gA; rw [aX (by omega),cond_false,aA,cond_false]),List.drop_length]
   by_cases h:x.length < y.length
   ·rw [aw (by omega),List.drop_eq_getElem_cons h]; rfl
   ·rw [aX (by omega),List.drop_eq_nil_of_le (by omega)]; rfl
  | succ m ih=>
   intro i hm hi hy
   have JL:x[i]? = some (x[i]'(by omega)):=List.getElem?_eq_getElem (by omega)
   rw [List.drop_eq_getElem_cons (show i < x.length by omega)]
   by_cases h:i=y.length
   ·rw [List.drop_eq_nil_of_le (show y.length≤i by omega),FZ (e:=(i:Int)) (by unfold gA; rw [aw (by omega),cond_true,aX (by omega),aA,cond_false]),aX (by omega)]; rfl
   ·have JM:y[i]? = some (y[i]'(by omega)):=List.getElem?_eq_getElem (by omega)
    rw [List.drop_eq_getElem_cons (show i < y.length by omega)]
    unfold lexLt qy
    by_cases e:x[i]'(by omega)=y[i]'(by omega)
    ·rw [if_pos e,GC (s':=((i+1:Nat):Int)) (by unfold gA; rw [aw (by omega),cond_true,aw (by omega),aA,cond_true,bn,JL,aA,bn,JM,aA,wW e,cond_false,bB (by omega)])]
     exact ih (i+1) (by omega) (by omega) (by omega)
    ·rw [if_neg e]
     by_cases l:x[i]'(by omega) < y[i]'(by omega)
     ·rw [if_pos l,Ah (y:=true) (by unfold gA; rw [aw (by omega),cond_true,aw (by omega),aA,cond_true,bn,JL,aA,bn,JM,aA,tO e,cond_true,aA,aA,aw l])]; rfl
     ·rw [if_neg l,Ah (y:=false) (by unfold gA; rw [aw (by omega),cond_true,aw (by omega),aA,cond_true,bn,JL,aA,bn,JM,aA,tO e,cond_true,aA,aA,aX l])]; rfl
 exact key x.length 0 rfl (Nat.zero_le _) (Nat.zero_le _)
theorem Bw (x y:List Int) (hx:x.length≤1048576000):fI x y=some (x == y):=FY x y hx
def bd (l:List (List Int)) (s:List Int):Int:=Lm (fun y=>y == s) l 0
theorem wC (l:List (List Int)) (s:List Int) (hl:l.length≤1048576000) (hr:∀ y∈l,y.length≤1048576000):iI l s=some (bd l s):=by
 have key:∀ (m:List (List Int)) (i:Nat),l.drop i=m→i≤l.length→
   ao (S:=Unit) (ag (ae 0 (af (iV l s) (i:Int))) (fun ba=>(some (Out.ret (((-1:Int)))))))=some (Lm (fun y=>y == s) m i):=by
  intro m
  induction m with
  | nil=>
   intro i hd hi
   have:i=l.length:=by have:=congrArg List.length hd; simp at this; omega
   subst this
   rw [FZ (e:=(l.length:Int)) (by unfold iV; rw [aX (by omega),cond_false])]; rfl
  | cons x m ih=>
   intro i hd hi
   have bb:i < l.length:=by
    rcases Nat.lt_or_ge i l.length with h | h
    ·exact h
    ·rw [List.drop_eq_nil_of_le h] at hd; cases hd
   rw [List.drop_eq_getElem_cons bb] at hd
   have hx:l[i]? = some x:=by rw [List.getElem?_eq_getElem bb]; exact congrArg some (List.cons.inj hd).1
   have hs:=Bw x s (hr x (List.mem_of_getElem? hx))
   unfold Lm
   cases e:x == s with
   | true=>
    rw [if_pos rfl,Ah (y:=(i:Int)) (by unfold iV; rw [aw (by omega),cond_true,bn,hx,aA,hs,aA,e,cond_true])]; rfl
   | false=>
    rw [if_neg (by simp),GC (s':=((i+1:Nat):Int)) (by unfold iV; rw [aw (by omega),cond_true,bn,hx,aA,hs,aA,e,cond_false,bB (by omega)])]
    exact ih (i+1) (List.cons.inj hd).2 bb
 exact key l 0 rfl (Nat.zero_le _)
def HJ (c:aH) (a:Int) (s:List Int):List Int:=(l9 c (gi c.To a)).filter fun b=>hasB s (gk c.aB a b)
end Go.Proofs.YtcnehblmgfbfoaaGreat
