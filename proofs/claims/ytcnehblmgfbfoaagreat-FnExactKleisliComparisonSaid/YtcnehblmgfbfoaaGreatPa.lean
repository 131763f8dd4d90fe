/- Loops and partial operations of models, reckoned. No condition. -/
import Derived.Test.YtcnehblmgfbfoaaGreatLa
import Derived.Test.YtcnehblmgfbfoaaGreatMo
set_option linter.unusedVariables false
set_option linter.unusedSectionVars false
set_option linter.unusedSimpArgs false
namespace Go.Li
open Go
section
variable {S S1 R α:Type} {body:S→Option (Out S R)}
theorem Er (f:Nat→S) (n:Nat) (h:∀ i,i < n→body (f i)=some (.norm (f (i+1)))):ai body (f 0)=ai body (f n):=by
 induction n with
 | zero=>rfl
 | succ n ih=>rw [ih fun i hi=>h i (by omega),pY (s:=f n),h n (by omega)]
theorem rD {s s':S} {k:Nat} (h:body s=some (.exit k s')):ai body s=some (.exit k s'):=by rw [pY,h]
theorem xM {s:S} {x:R} (h:body s=some (.ret x)):ai body s=some (.ret x):=by rw [pY,h]
theorem tz {k:Nat} {m:Option (Out S1 R)} {s:S1} {f:S1→Option (Out S R)} (h:m=some (.exit k s)):aj (ah k m) f=f s:=by
 rw [h]; simp [ah,Dh,aj]
theorem xN {k:Nat} {m:Option (Out S1 R)} {x:R} {f:S1→Option (Out S R)} (h:m=some (.ret x)):aj (ah k m) f=some (.ret x):=by
 rw [h]; rfl
theorem KT {k:Nat} (l:List α) (st:Nat→S) {e:S} (step:∀ i x,l[i]? = some x→body (st i)=some (.norm (st (i+1)))) (last:body (st l.length)=some (.exit k e)) :
  ai body (st 0)=some (.exit k e):=by
 rw [Er st l.length fun i hi=>step i l[i] (List.getElem?_eq_getElem hi)]
 exact rD last
theorem NQ {k:Nat} (l:List α) (p:α→Bool) (st:Nat→S) {e:S} {y:R} (step:∀ i x,l[i]? = some x→p x=false→body (st i)=some (.norm (st (i+1))))
  (IP:∀ i x,l[i]? = some x→p x=true→body (st i)=some (.ret y)) (last:body (st l.length)=some (.exit k e)) :
  ai body (st 0)=some (if l.any p then .ret y else .exit k e):=by
 have key:∀ (m:List α) (i:Nat),l.drop i=m→i≤l.length→ai body (st i)=some (if m.any p then .ret y else .exit k e):=by
  intro m
  induction m with
  | nil=>
   intro i hd hi
   have:i=l.length:=by have:=congrArg List.length hd; simp at this; omega
   subst this
   simp only [List.any_nil,Bool.false_eq_true,if_false]
   exact rD last
  | cons x m ih=>
   intro i hd hi
   have bj:i < l.length:=by
    rcases Nat.lt_or_ge i l.length with h | h
    ·exact h
    ·rw [List.drop_eq_nil_of_le h] at hd; cases hd
   have hx:l[i]? = some x:=by
    rw [List.drop_eq_getElem_cons bj] at hd
    rw [List.getElem?_eq_getElem bj]; exact congrArg some (List.cons.inj hd).1
   have gw:l.drop (i+1)=m:=by
    rw [List.drop_eq_getElem_cons bj] at hd; exact (List.cons.inj hd).2
   cases hp:p x with
   | true=>simp only [List.any_cons,hp,Bool.true_or,if_true]; exact xM (IP i x hx hp)
   | false=>
    simp only [List.any_cons,hp,Bool.false_or]
    rw [pY,step i x hx hp]
    exact ih (i+1) gw bj
 exact key l 0 rfl (Nat.zero_le _)
end
section
variable {S S1 R α:Type} {body:S1→Option (Out S1 R)}
theorem bu {k:Nat} {f:S1→Option (Out S R)} {s0 e:S1} (l:List α) (st:Nat→S1) (h0:st 0=s0) (step:∀ i x,l[i]? = some x→body (st i)=some (.norm (st (i+1)))) (last:body (st l.length)=some (.exit k e)) :
  aj (ah k (ai body s0)) f=f e:=tz (h0 ▸ KT l st step last)
theorem ib {k:Nat} {f:S1→Option (Out S R)} {s0 e:S1} {y:R} (l:List α) (p:α→Bool) (st:Nat→S1) (h0:st 0=s0) (step:∀ i x,l[i]? = some x→p x=false→body (st i)=some (.norm (st (i+1))))
  (IP:∀ i x,l[i]? = some x→p x=true→body (st i)=some (.ret y)) (last:body (st l.length)=some (.exit k e)) :
  aj (ah k (ai body s0)) f=if l.any p then some (.ret y) else f e:=by
 have h:=NQ l p st step IP last
 rw [h0] at h
 cases hp:l.any p with
 | true=>rw [hp] at h; exact xN h
 | false=>rw [hp] at h; exact tz h
end
theorem bh {α:Type} (l:List α) (i:Nat):idx l (i:Int)=l[i]?:=by simp [idx]
theorem Q9 {α:Type} {l:List α} {j:Int} (h0:0≤j):idx l j=l[j.toNat]?:=by simp [idx,h0]
theorem DF {α:Type} {l:List α} {j:Int} (h0:0≤j) (h1:j < l.length):idx l j=some (l[j.toNat]'(by omega)):=by
 rw [Q9 h0,List.getElem?_eq_getElem]
theorem lF {a:Int} (h1 : -9223372036854775808≤a) (h2:a≤9223372036854775807):bf a=a:=by
 unfold bf IntKind.wrap
 simp [IntKind.bits,IntKind.signed]
 omega
theorem bK {i:Nat} (h:i < 9223372036854775807):bf ((i:Int)+1)=((i+1:Nat):Int):=by
 rw [lF (by omega) (by omega)]; omega
theorem cR {b n:Nat} (h1:n * b≤140737488355328) (h2:n≤9223372036854775807):fits b n=some ():=by simp [fits,h1,h2]
theorem wK {b n:Nat} (h1:b * n≤281474976710656) (h2:n≤9223372036854775807):mk b (n:Int)=some n:=by simp [mk,h1,h2]
theorem aq {p:Prop} [Decidable p] (h:p):decide p=true:=decide_eq_true h
theorem au {p:Prop} [Decidable p] (h : ¬ p):decide p=false:=decide_eq_false h
theorem p5 {α:Type} [BEq α] [LawfulBEq α] {a b:α} (h:a≠b):(a != b)=true:=by simp [h]
theorem ua {α:Type} [BEq α] [LawfulBEq α] {a b:α} (h:a=b):(a != b)=false:=by simp [h]
theorem np {α:Type} [BEq α] [LawfulBEq α] {a b:α} (h:a=b):(a == b)=true:=by simp [h]
theorem kh {α:Type} [BEq α] [LawfulBEq α] {a b:α} (h:a≠b):(a == b)=false:=by simp [h]
theorem aA {α β:Type} (x:α) (f:α→Option β):((some x)>>=f)=f x:=rfl
theorem ee {α:Type} {l:List α} {i:Nat} {x:α} (h:l[i]? = some x):l.take (i+1)=l.take i++[x]:=by
 rw [List.take_add_one,h]; rfl
theorem bd {α:Type} {l:List α} {i:Nat} {x:α} (h:l[i]? = some x):i < l.length:=(List.getElem?_eq_some_iff.1 h).1
end Go.Li
namespace Go.Li
set_option linter.unusedSectionVars false
section
variable {α A:Type} [DecidableEq α] (out:List A) (step:α→A→α) (has:α→A→Bool) (M:Nat)
inductive Reaches (s0:α):α→Prop
 | base:Reaches s0 s0
 | step {s a}:Reaches s0 s→a∈out→Reaches s0 (step s a)
variable {out step has M}
theorem Reaches.trans {s0 s t:α} (h:Reaches out step s0 s) (k:Reaches out step s t):Reaches out step s0 t:=by
 induction k with
 | base=>exact h
 | step _ ha ih=>exact .step ih ha
structure uZ (out:List A) (step:α→A→α) (s0:α) (L:List α):Prop where
 nodup:L.Nodup
 mem:∀ x,x∈L↔Reaches out step s0 x
theorem KU {s0:α} {L:List α} (hn:L.Nodup) (h0:s0∈L) (hr:∀ x∈L,Reaches out step s0 x) (hc:∀ x∈L,∀ a∈out,step x a∈L):uZ out step s0 L:=
 ⟨hn,fun x=>⟨hr x,fun h=>by
  induction h with
  | base=>exact h0
  | step _ ha ih=>exact hc _ ih _ ha⟩⟩
def GR (out:List A) (step:α→A→α) (M:Nat) (s0:α):Prop:=∃ L:List α,L.Nodup∧M < L.length∧∀ x∈L,Reaches out step s0 x
theorem uZ.Us {s0:α} {L:List α} (h:uZ out step s0 L) (hl:L.length≤M) : ¬ GR out step M s0:=by
 rintro ⟨K,k1,k2,k3⟩
 have:=k1.length_le_of_subset fun x hx=>(h.mem x).2 (k3 x hx)
 omega
theorem uZ.perm {s0:α} {L K:List α} (h:uZ out step s0 L) (k:uZ out step s0 K):L.Perm K:=
 List.perm_iff_count.2 fun a=>by
  rw [h.nodup.count,k.nodup.count]
  by_cases ha:Reaches out step s0 a
  ·rw [if_pos ((h.mem a).2 ha),if_pos ((k.mem a).2 ha)]
  ·rw [if_neg fun hm=>ha ((h.mem a).1 hm),if_neg fun hm=>ha ((k.mem a).1 hm)]
def sB (step:α→A→α) (M:Nat) (s:α) (l:List A) (L:List α):Option (List α):=
 l.foldlM (fun L a=>if step s a∈L then some L else if L.length=M then none else some (L++[step s a])) L
structure uc (out:List A) (step:α→A→α) (M:Nat) (s0:α) (i:Nat) (L:List α):Prop where
 nodup:L.Nodup
 start:s0∈L
 reach:∀ x∈L,Reaches out step s0 x
 len:L.length≤M
 idx:i≤L.length
 done:∀ j x,j < i→L[j]? = some x→∀ a∈out,step x a∈L
theorem zY {s0 s:α} {i:Nat} (hs:Reaches out step s0 s):∀ (l:List A) (L:List α) (p:List A),(∀ a∈l,a∈out)→uc out step M s0 i L→L[i]? = some s→(∀ a∈p,step s a∈L)→
  match sB step M s l L with
  | some L'=>uc out step M s0 i L'∧L'[i]? = some s∧(∀ a∈p,step s a∈L')∧(∀ a∈l,step s a∈L')
  | none=>GR out step M s0:=by
 intro l
 induction l with
 | nil=>intro L p _ h1 h2 h3; exact ⟨h1,h2,h3,fun _ h=>nomatch h⟩
 | cons a l ih=>
  intro L p hl h1 h2 h3
  have ha:a∈out:=hl a (by simp)
  unfold sB
  rw [List.foldlM_cons]
  by_cases hm:step s a∈L
  ·rw [if_pos hm]
   have:=ih L (a :: p) (fun b hb=>hl b (by simp [hb])) h1 h2 (fun b hb=>(List.mem_cons.1 hb).elim (fun e=>e ▸ hm) (h3 b))
   show match sB step M s l L with | some L'=>_ | none=>_
   cases hr:sB step M s l L with
   | none=>rw [hr] at this; exact this
   | some L'=>
    rw [hr] at this
    obtain ⟨q1,q2,q3,q4⟩:=this
    exact ⟨q1,q2,fun b hb=>q3 b (by simp [hb]),fun b hb=>(List.mem_cons.1 hb).elim (fun e=>e ▸ q3 a (by simp)) (q4 b)⟩
  ·rw [if_neg hm]
   have Ih:(L++[step s a]).Nodup:=List.nodup_append.2 ⟨h1.nodup,by simp,fun x hx y hy=>by simp at hy; subst hy; exact fun h=>hm (h ▸ hx)⟩
   have Ut:∀ x∈L++[step s a],Reaches out step s0 x:=fun x hx=>(List.mem_append.1 hx).elim (h1.reach x) fun h=>by simp at h; subst h; exact .step hs ha
   by_cases hM:L.length=M
   ·rw [if_pos hM]
    exact ⟨L++[step s a],Ih,by simp; omega,Ut⟩
   ·rw [if_neg hM]
    have hi:i < L.length:=(List.getElem?_eq_some_iff.1 h2).1
    have hlen:=h1.len
    have:=ih (L++[step s a]) (a :: p) (fun b hb=>hl b (by simp [hb]))
     ⟨Ih,List.mem_append_left _ h1.start,Ut,by simp; omega,by simp; omega,fun j x hj hx b hb=>List.mem_append_left _ (h1.done j x hj (by rwa [List.getElem?_append_left (by omega)] at hx) b hb)⟩
     (by rw [List.getElem?_append_left hi]; exact h2) (fun b hb=>(List.mem_cons.1 hb).elim (fun e=>by simp [e]) fun h=>List.mem_append_left _ (h3 b h))
    show match sB step M s l (L++[step s a]) with | some L'=>_ | none=>_
    cases hr:sB step M s l (L++[step s a]) with
    | none=>rw [hr] at this; exact this
    | some L'=>
     rw [hr] at this
     obtain ⟨q1,q2,q3,q4⟩:=this
     exact ⟨q1,q2,fun b hb=>q3 b (by simp [hb]),fun b hb=>(List.mem_cons.1 hb).elim (fun e=>e ▸ q3 a (by simp)) (q4 b)⟩
theorem uc.next {s0 s:α} {i:Nat} {L L':List α} (h:uc out step M s0 i L) (hs:L[i]? = some s) (hr:sB step M s out L=some L'):uc out step M s0 (i+1) L':=by
 have:=zY (h.reach s (List.mem_of_getElem? hs)) out L [] (fun _ h=>h) h hs (fun _ h=>nomatch h)
 rw [hr] at this
 obtain ⟨q1,q2,_,q4⟩:=this
 have hi:i < L'.length:=(List.getElem?_eq_some_iff.1 q2).1
 refine ⟨q1.nodup,q1.start,q1.reach,q1.len,hi,fun j x hj hx a ha=>?_⟩
 by_cases ie:j=i
 ·subst ie
  rw [q2] at hx
  cases hx
  exact q4 a ha
 ·exact q1.done j x (by omega) hx a ha
theorem uc.many {s0 s:α} {i:Nat} {L:List α} (h:uc out step M s0 i L) (hs:L[i]? = some s) (hr:sB step M s out L=none):GR out step M s0:=by
 have:=zY (h.reach s (List.mem_of_getElem? hs)) out L [] (fun _ h=>h) h hs (fun _ h=>nomatch h)
 rw [hr] at this
 exact this
theorem uc.afv {s0:α} {i:Nat} {L:List α} (h:uc out step M s0 i L) (hi:L.length≤i):uZ out step s0 L:=
 KU h.nodup h.start h.reach fun x hx a ha=>by
  obtain ⟨j,hj,rfl⟩:=List.getElem_of_mem hx
  exact h.done j _ (by omega) (List.getElem?_eq_getElem hj) a ha
theorem uc.base {s0:α} (hM:0 < M):uc out step M s0 0 [s0]:=
 ⟨by simp,by simp,fun x hx=>by simp at hx; subst hx; exact .base,by simp; omega,by simp,fun j x hj=>absurd hj (Nat.not_lt_zero _)⟩
end
end Go.Li
namespace Go.Proofs.YtcnehblmgfbfoaaGreat
open Go Go.Li
theorem Bp (x:List Int) {k:Int} (h0:0≤k) (h1:k≤1048576) (hx:x.length≤9223372036854775807) :
  eA x k=some (if (x.length:Int)≤k then k - x.length else -1):=by
 unfold eA
 rw [lF (by omega) (by omega)]
 by_cases h:(x.length:Int)≤k
 ·rw [au (by omega),cond_false,if_pos h]; rfl
 ·rw [aq (by omega),cond_true,if_neg h]; rfl
def j9 (xs:List (List Int)):Nat:=(xs.map (·.length)).sum
theorem KC (x:List Int) (xs:List (List Int)):j9 (x :: xs)=x.length+j9 xs:=by simp [j9]
theorem yX {xs:List (List Int)} {i:Nat} {x:List Int} (h:xs[i]? = some x):j9 (xs.take (i+1))=j9 (xs.take i)+x.length:=by
 rw [ee h]; simp [j9]
theorem vh (xs:List (List Int)) (i:Nat):j9 (xs.take i)≤j9 xs:=by
 have:j9 (xs.take i++xs.drop i)=j9 (xs.take i)+j9 (xs.drop i):=by unfold j9; rw [List.map_append,List.sum_append]
 rw [List.take_append_drop] at this
 omega
theorem WX (xs:List (List Int)) {k:Int} (h0:0≤k) (h1:k≤1048576) (hx:xs.length≤9223372036854775807) (hr:∀ x∈xs,x.length≤9223372036854775807) :
  lL xs k=some (if ((xs.length+j9 xs:Nat):Int)≤k then k - (xs.length+j9 xs:Nat) else -1):=by
 unfold lL
 rw [lF (by omega) (by omega)]
 by_cases h:(xs.length:Int)≤k
 ·rw [au (by omega),cond_false]
  have key:∀ (m:Nat) (i:Nat),xs.length - i=m→i≤xs.length→(xs.length+j9 (xs.take i):Nat)≤k→
    ai (fun s=>fN xs s.1 s.2) (k - (xs.length+j9 (xs.take i):Nat),(i:Int)) =
     some (if ((xs.length+j9 xs:Nat):Int)≤k then .exit 0 (k - (xs.length+j9 xs:Nat),(xs.length:Int)) else .ret (-1)):=by
   intro m
   induction m with
   | zero=>
    intro i hm hi hk
    obtain rfl:i=xs.length:=by omega
    rw [List.take_length] at hk ⊢
    rw [if_pos (by omega)]
    refine rD ?_
    show fN xs _ _=_
    unfold fN
    rw [au (by omega),cond_false]
   | succ m ih=>
    intro i hm hi hk
    have bj:i < xs.length:=by omega
    have FG:xs[i]? = some xs[i]:=List.getElem?_eq_getElem bj
    have ht:=yX FG
    have hle:=vh xs (i+1)
    have bo:=hr xs[i] (List.getElem_mem bj)
    rw [pY]
    have e:fN xs (k - (xs.length+j9 (xs.take i):Nat)) (i:Int) =
      if ((xs.length+j9 (xs.take (i+1)):Nat):Int)≤k then some (.norm (k - (xs.length+j9 (xs.take (i+1)):Nat),((i+1:Nat):Int))) else some (.ret (-1)):=by
     unfold fN
     rw [aq (by omega),cond_true,bh,FG,aA,Bp _ (by omega) (by omega) bo,aA]
     by_cases hc:((xs[i].length:Nat):Int)≤k - (xs.length+j9 (xs.take i):Nat)
     ·rw [if_pos hc,au (by omega),cond_false,bK (by omega),if_pos (by omega)]
      congr 3
      omega
     ·rw [if_neg hc,aq (by omega),cond_true,if_neg (by omega)]
    dsimp only
    rw [e]
    by_cases hc:((xs.length+j9 (xs.take (i+1)):Nat):Int)≤k
    ·rw [if_pos hc]
     exact ih (i+1) (by omega) (by omega) hc
    ·rw [if_neg hc]
     dsimp only
     rw [if_neg (by omega)]
  have FH:=key xs.length 0 (by omega) (by omega) (by simp [j9]; omega)
  simp only [List.take_zero] at FH
  have e0:j9 []=0:=rfl
  rw [e0,Nat.add_zero,Int.natCast_zero] at FH
  by_cases hc:((xs.length+j9 xs:Nat):Int)≤k
  ·rw [if_pos hc] at FH ⊢
   rw [tz FH]; rfl
  ·rw [if_neg hc] at FH ⊢
   rw [xN FH]; rfl
 ·rw [aq (by omega),cond_true,if_neg (by omega)]; rfl
def eg (c:aH):Nat:=c.aF.length+c.To.length+c.aG.length+(c.aC.length+j9 c.aC)
structure vF (c:aH):Prop where
 f:c.aF.length≤9223372036854775807
 t:c.To.length≤9223372036854775807
 i:c.aG.length≤9223372036854775807
 k:c.aC.length≤9223372036854775807
 r:∀ x∈c.aC,x.length≤9223372036854775807
theorem H4 {c:aH} {k:Int} (k0:0≤k) (k1:k≤1048576) (hl:vF c):iS c k=some (if (eg c:Int)≤k then k - eg c else -1):=by
 unfold iS
 obtain ⟨h1,h2,h3,h4,h5⟩:=hl
 rw [Bp c.aF (by omega) (by omega) h1,aA]
 by_cases c1:(c.aF.length:Int)≤k
 ·rw [if_pos c1,au (by omega),cond_false,Bp c.To (by omega) (by omega) h2,aA]
  by_cases c2:(c.To.length:Int)≤k - c.aF.length
  ·rw [if_pos c2,au (by omega),cond_false,Bp c.aG (by omega) (by omega) h3,aA]
   by_cases c3:(c.aG.length:Int)≤k - c.aF.length - c.To.length
   ·rw [if_pos c3,au (by omega),cond_false,WX c.aC (by omega) (by omega) h4 h5,aA]
    by_cases c4:((c.aC.length+j9 c.aC:Nat):Int)≤k - c.aF.length - c.To.length - c.aG.length
    ·rw [if_pos c4,au (by omega),cond_false,if_pos (by unfold eg; omega)]
     show some _=_
     congr 1
     unfold eg; omega
    ·rw [if_neg c4,aq (by omega),cond_true,if_neg (by unfold eg; omega)]; rfl
   ·rw [if_neg c3,aq (by omega),cond_true,if_neg (by unfold eg; omega)]; rfl
  ·rw [if_neg c2,aq (by omega),cond_true,if_neg (by unfold eg; omega)]; rfl
 ·rw [if_neg c1,aq (by omega),cond_true,if_neg (by unfold eg; omega)]; rfl
theorem rW {α:Type} (x:List α) (z:α) {i:Nat} {v:α} (h:x[i]? = some v) :
  (x.take i++List.replicate (x.length - i) z).set i v=x.take (i+1)++List.replicate (x.length - (i+1)) z:=by
 have hi:=bd h
 rw [ee h]
 have e:x.length - i=(x.length - (i+1))+1:=by omega
 rw [List.set_append_right _ _ (by simp; omega),e,List.replicate_succ]
 simp only [List.length_take]
 rw [show i - min i x.length=0 by omega]
 simp
theorem get_copy {α:Type} (x:List α) (z:α) {i:Nat} {v:α} (h:x[i]? = some v):(x.take i++List.replicate (x.length - i) z)[i]? = some z:=by
 have hi:=bd h
 rw [List.getElem?_append_right (by simp; omega)]
 simp only [List.length_take]
 rw [show i - min i x.length=0 by omega,List.getElem?_replicate,if_pos (by omega)]
theorem toS (x:List Int) (h:x.length≤1048576):eB x=some x:=by
 unfold eB
 rw [wK (by omega) (by omega),aA]
 refine (congrArg an (bu x (fun i=>((i:Int),x.take i++List.replicate (x.length - i) (0:Int))) rfl ?_ (e:=((x.length:Int),x)) ?_)).trans rfl
 ·intro i v hv
  have hi:=bd hv
  show iF x _ _=_
  unfold iF
  rw [aq (by omega),cond_true,bh,hv,aA,bh,get_copy x 0 hv,aA,bK (by omega),Int.toNat_natCast,rW x 0 hv]
 ·show iF x _ _=_
  unfold iF
  rw [au (by omega),cond_false]; simp
theorem WY (x:List (List Int)) (h:x.length≤1048576) (hr:∀ y∈x,y.length≤1048576):lM x=some x:=by
 unfold lM
 rw [wK (by omega) (by omega),aA]
 refine (congrArg an (bu x (fun i=>((i:Int),x.take i++List.replicate (x.length - i) [])) rfl ?_ (e:=((x.length:Int),x)) ?_)).trans rfl
 ·intro i v hv
  have hi:=bd hv
  show gQ x _ _=_
  unfold gQ
  rw [aq (by omega),cond_true,bh,hv,aA,toS v (hr v (List.mem_of_getElem? hv)),aA,bh,get_copy x [] hv,aA,bK (by omega),Int.toNat_natCast,rW x [] hv]
 ·show gQ x _ _=_
  unfold gQ
  rw [au (by omega),cond_false]; simp
theorem togp {c:aH} (h:eg c≤1048576):iU c=some c:=by
 have hr:∀ y∈c.aC,y.length≤j9 c.aC:=fun y hy=>by
  obtain ⟨i,hi,rfl⟩:=List.getElem_of_mem hy
  have:=yX (List.getElem?_eq_getElem hi)
  have:=vh c.aC (i+1)
  omega
 unfold eg at h
 unfold iU
 rw [toS _ (by omega),aA,toS _ (by omega),aA,toS _ (by omega),aA,WY _ (by omega) (fun y hy=>by have:=hr y hy; omega),aA]
 rfl
theorem IQ:∀ {x y:List Int},x.length=y.length→(((x.zip y).any fun p=>p.1 != p.2) = !(x == y)):=by
 intro x
 induction x with
 | nil=>intro y h; cases y with | nil=>rfl | cons=>simp at h
 | cons a x ih=>
  intro y h
  cases y with
  | nil=>simp at h
  | cons b y=>
   have:=ih (y:=y) (by simpa using h)
   rw [List.zip_cons_cons,List.any_cons,this]
   by_cases vy:a=b <;> simp [vy,bne]
theorem yi {α β:Type} {x:List α} {y:List β} {i:Nat} {p:α×β} (h:(x.zip y)[i]? = some p):x[i]? = some p.1∧y[i]? = some p.2:=by
 rw [List.getElem?_zip_eq_some] at h; exact h
noncomputable def zZ (x0 x1:List Int) (s:Int):Option (Out Int Bool):=
 bif decide (s < (x0.length:Int)) then ((idx x0 s)>>=fun su=>((idx x1 s)>>=fun w6=>(bif su != w6 then some (Out.ret false) else some (Out.norm (bf (s+(1:Int))))))) else some (Out.exit 0 s)
noncomputable def Ra (x0 x1:List Int):Option Bool:=
 an (S:=Unit) (bif (x0.length:Int) != (x1.length:Int) then some (Out.ret false) else aj (ah 0 (ai (zZ x0 x1) (0:Int))) fun _=>some (Out.ret true))
noncomputable def yj (x0 x1:List (List Int)) (s:Int):Option (Out Int Bool):=
 bif decide (s < (x0.length:Int)) then ((idx x0 s)>>=fun su=>((idx x1 s)>>=fun xI=>((Ra su xI)>>=fun xJ=>(bif !xJ then some (Out.ret false) else some (Out.norm (bf (s+(1:Int)))))))) else some (Out.exit 0 s)
noncomputable def Rb (x0 x1:List (List Int)):Option Bool:=
 an (S:=Unit) (bif (x0.length:Int) != (x1.length:Int) then some (Out.ret false) else aj (ah 0 (ai (yj x0 x1) (0:Int))) fun _=>some (Out.ret true))
theorem z6 (x y:List Int) (hx:x.length≤1048576000):Ra x y=some (x == y):=by
 unfold Ra
 by_cases hl:x.length=y.length
 ·rw [show (((x.length:Int)) != ((y.length:Int)))=false by simp [hl],cond_false]
  have hz:(x.zip y).length=x.length:=by simp [hl]
  refine (congrArg an (ib (x.zip y) (fun p=>p.1 != p.2) (fun i=>(i:Int)) rfl ?_ ?_ (e:=(x.length:Int)) (y:=false) ?_)).trans ?_
  ·intro i p hp hq
   obtain ⟨h1,h2⟩:=yi hp
   have hi:=bd h1
   unfold zZ
   rw [aq (by omega),cond_true,bh,h1,aA,bh,h2,aA,hq,cond_false,bK (by omega)]
  ·intro i p hp hq
   obtain ⟨h1,h2⟩:=yi hp
   have hi:=bd h1
   unfold zZ
   rw [aq (by omega),cond_true,bh,h1,aA,bh,h2,aA,hq,cond_true]
  ·unfold zZ
   rw [au (by omega),cond_false,hz]
  ·rw [IQ hl]
   cases x == y <;> rfl
 ·rw [show (((x.length:Int)) != ((y.length:Int)))=true by simp; omega,cond_true]
  have:(x == y)=false:=by
   apply Bool.eq_false_iff.2
   intro h
   exact hl (by rw [eq_of_beq h])
  rw [this]; rfl
theorem De (x y:List Int) (hx:x.length≤1048576000):eM x y=some (x == y):=z6 x y hx
theorem Es {α:Type} [BEq α] [LawfulBEq α]:∀ {x y:List α},x.length=y.length→(((x.zip y).any fun p=>!(p.1 == p.2)) = !(x == y)):=by
 intro x
 induction x with
 | nil=>intro y h; cases y with | nil=>rfl | cons=>simp at h
 | cons a x ih=>
  intro y h
  cases y with
  | nil=>simp at h
  | cons b y=>
   have:=ih (y:=y) (by simpa using h)
   rw [List.zip_cons_cons,List.any_cons,this]
   by_cases vy:a=b <;> simp [vy]
theorem NR {α:Type} [BEq α] [LawfulBEq α] {x y:List α} (h:x.length≠y.length):(x == y)=false:=by
 apply Bool.eq_false_iff.2
 intro e
 exact h (by rw [eq_of_beq e])
theorem FI (x y:List (List Int)) (hx:x.length≤1048576000) (hr:∀ z∈x,z.length≤1048576000):Rb x y=some (x == y):=by
 unfold Rb
 by_cases hl:x.length=y.length
 ·rw [show (((x.length:Int)) != ((y.length:Int)))=false by simp [hl],cond_false]
  have hz:(x.zip y).length=x.length:=by simp [hl]
  refine (congrArg an (ib (x.zip y) (fun p=>!(p.1 == p.2)) (fun i=>(i:Int)) rfl ?_ ?_ (e:=(x.length:Int)) (y:=false) ?_)).trans ?_
  ·intro i p hp hq
   obtain ⟨h1,h2⟩:=yi hp
   have hi:=bd h1
   unfold yj
   rw [aq (by omega),cond_true,bh,h1,aA,bh,h2,aA,z6 _ _ (hr _ (List.mem_of_getElem? h1)),aA,hq,cond_false,bK (by omega)]
  ·intro i p hp hq
   obtain ⟨h1,h2⟩:=yi hp
   have hi:=bd h1
   unfold yj
   rw [aq (by omega),cond_true,bh,h1,aA,bh,h2,aA,z6 _ _ (hr _ (List.mem_of_getElem? h1)),aA,hq,cond_true]
  ·unfold yj
   rw [au (by omega),cond_false,hz]
  ·rw [Es hl]
   cases x == y <;> rfl
 ·rw [show (((x.length:Int)) != ((y.length:Int)))=true by simp; omega,cond_true,NR hl]; rfl
theorem WZ (x y:List (List Int)) (hx:x.length≤1048576000) (hr:∀ z∈x,z.length≤1048576000):nE x y=some (x == y):=FI x y hx hr
structure de (c:aH):Prop where
 f:c.aF.length≤1048576
 t:c.To.length≤1048576
 i:c.aG.length≤1048576
 k:c.aC.length≤1048576
 r:∀ x∈c.aC,x.length≤1048576
theorem zE {c:aH} (h:de c):jE c c=some true:=by
 unfold jE
 obtain ⟨h1,h2,h3,h4,h5⟩:=h
 rw [show (c.aD != c.aD)=false by simp,cond_false,De _ _ (by omega),aA,De _ _ (by omega),aA,De _ _ (by omega),aA,WZ _ _ (by omega) (fun z hz=>by have:=h5 z hz; omega),aA]
 simp only [beq_self_eq_true,Bool.not_true,cond_false]
 rfl
end Go.Proofs.YtcnehblmgfbfoaaGreat
namespace Go.Proofs.YtcnehblmgfbfoaaGreat
open Go Go.Li
section
variable {α R:Type} (size:α→Nat) (num:Int→α→α)
def dy (xs:List α):Nat:=(xs.map size).sum
def lo:Int→List α→List α
 | _,[]=>[]
 | k,x :: xs=>num k x :: lo (k+size x) xs
theorem xO (xs ys:List α):dy size (xs++ys)=dy size xs+dy size ys:=by simp [dy]
theorem wL {xs:List α} {i:Nat} {x:α} (h:xs[i]? = some x):dy size (xs.take (i+1))=dy size (xs.take i)+size x:=by
 rw [ee h,xO]; simp [dy]
theorem sP (xs:List α) (i:Nat):dy size (xs.take i)≤dy size xs:=by
 have:=xO size (xs.take i) (xs.drop i)
 rw [List.take_append_drop] at this
 omega
theorem yH (k:Int) (xs ys:List α):lo size num k (xs++ys)=lo size num k xs++lo size num (k+dy size xs) ys:=by
 induction xs generalizing k with
 | nil=>simp [lo,dy]
 | cons x xs ih=>
  simp only [List.cons_append,lo,ih]
  rw [show k+(size x:Int)+(dy size xs:Int)=k+(dy size (x :: xs):Int) by simp [dy]; omega]
theorem fw (k:Int) (xs:List α):(lo size num k xs).length=xs.length:=by
 induction xs generalizing k with
 | nil=>rfl
 | cons x xs ih=>simp [lo,ih]
theorem DG {k:Int} {xs:List α} {i:Nat} {x:α} (h:xs[i]? = some x):(lo size num k xs)[i]? = some (num (k+dy size (xs.take i)) x):=by
 have hi:=bd h
 have e:xs=xs.take i++x :: xs.drop (i+1):=by
  conv=>lhs; rw [← List.take_append_drop i xs]
  rw [List.drop_eq_getElem_cons hi]
  congr 2
  rw [List.getElem?_eq_getElem hi] at h; exact Option.some.inj h
 conv=>lhs; rw [e]
 rw [yH,List.getElem?_append_right (by rw [fw]; simp; omega),fw]
 simp only [List.length_take]
 rw [show i - min i xs.length=0 by omega]
 rfl
def ud (m:α→Int→Option (Int×α)) (a i:Int) (l:List α):Option (Out (Int×Int×List α) R):=
 (bif decide (i < (l.length:Int)) then ((idx l i)>>=fun e=>((m e a)>>=fun y=>(some (Out.norm (y.1,bf (i+(1:Int)),l.set i.toNat y.2))))) else (some (Out.exit 0 (a,i,l))))
theorem BC {S:Type} {f:Int×Int×List α→Option (Out S R)} {m:α→Int→Option (Int×α)} {xs:List α} {k:Int} (h0:0≤k) (hx:xs.length≤1048576000) (hs:k+dy size xs≤4611686018427387904)
  (hm:∀ x∈xs,∀ a:Int,0≤a→a+size x≤4611686018427387904→m x a=some (a+size x,num a x)) :
  aj (ah 0 (ai (fun s=>ud m s.1 s.2.1 s.2.2) (k,(0:Int),xs))) f=f (k+dy size xs,(xs.length:Int),lo size num k xs):=by
 refine bu xs (fun i=>(k+dy size (xs.take i),(i:Int),lo size num k (xs.take i)++xs.drop i)) (by simp [dy,lo]) ?_ ?_
 ·intro i x hi
  have bj:=bd hi
  have hl:(lo size num k (xs.take i)++xs.drop i).length=xs.length:=by rw [List.length_append,fw]; simp; omega
  have hg:(lo size num k (xs.take i)++xs.drop i)[i]? = some x:=by
   rw [List.getElem?_append_right (by rw [fw]; simp; omega),fw,List.getElem?_drop]
   simp only [List.length_take]
   rw [show i+(i - min i xs.length)=i by omega]; exact hi
  have ht:=wL size hi
  have hle:=sP size xs (i+1)
  show ud m (k+(dy size (xs.take i):Int)) (i:Int) (lo size num k (xs.take i)++xs.drop i)=_
  unfold ud
  rw [hl,aq (by omega),cond_true,bh,hg,aA,hm x (List.mem_of_getElem? hi) _ (by omega) (by omega),aA,bK (by omega),Int.toNat_natCast]
  have e1:(lo size num k (xs.take i)++xs.drop i).set i (num (k+dy size (xs.take i)) x)=lo size num k (xs.take (i+1))++xs.drop (i+1):=by
   rw [ee hi,yH,List.drop_eq_getElem_cons bj,List.set_append_right _ _ (by rw [fw]; simp; omega),fw]
   simp only [List.length_take]
   rw [show i - min i xs.length=0 by omega,List.set_cons_zero,List.append_assoc]
   rfl
  rw [e1,ht]
  congr 4
  omega
 ·show ud m (k+(dy size (xs.take xs.length):Int)) (xs.length:Int) (lo size num k (xs.take xs.length)++xs.drop xs.length)=_
  unfold ud
  have hl:(lo size num k (xs.take xs.length)++xs.drop xs.length).length=xs.length:=by rw [List.length_append,fw]; simp
  rw [hl,au (by omega),cond_false]
  simp
def ue (m:α→Int→Option Int) (l:List α) (a i:Int):Option (Out (Int×Int) Int):=
 (bif decide (i < (l.length:Int)) then ((idx l i)>>=fun e=>((m e a)>>=fun y=>(bif decide (y < (0:Int)) then (some (Out.ret (((-1:Int))))) else (some (Out.norm (y,bf (i+(1:Int)))))))) else (some (Out.exit 0 (a,i))))
theorem IS {S:Type} {f:Int×Int→Option (Out S Int)} {m:α→Int→Option Int} {xs:List α} {k:Int} (h0:0≤k) (hx:xs.length≤1048576000) (hs:k+dy size xs≤4611686018427387904)
  (hm:∀ x∈xs,∀ a:Int,0≤a→a+size x≤4611686018427387904→m (num a x) a=some (a+size x)) :
  aj (ah 0 (ai (fun s=>ue m (lo size num k xs) s.1 s.2) (k,(0:Int)))) f=f (k+dy size xs,(xs.length:Int)):=by
 refine bu xs (fun i=>(k+dy size (xs.take i),(i:Int))) (by simp [dy]) ?_ ?_
 ·intro i x hi
  have bj:=bd hi
  have ht:=wL size hi
  have hle:=sP size xs (i+1)
  show ue m _ _ _=_
  unfold ue
  rw [fw,aq (by omega),cond_true,bh,DG size num hi,aA,hm x (List.mem_of_getElem? hi) _ (by omega) (by omega),aA,au (by omega),cond_false,bK (by omega),ht]
  congr 3
  omega
 ·show ue m _ _ _=_
  unfold ue
  rw [fw,au (by omega),cond_false]
  simp
end
def n0 (k _x:Int):Int:=k
def s0 (_x:Int):Nat:=1
def n1:=lo s0 n0
def s1:=dy s0
def n2:=lo s1 n1
def s2:=dy s1
def n3:=lo s2 n2
def s3:=dy s2
theorem rA (x:List Int):s1 x=x.length:=by
 unfold s1 dy
 induction x with
 | nil=>rfl
 | cons a x ih=>simp only [List.map_cons,List.sum_cons,ih,List.length_cons,s0]; omega
theorem uS {x:List Int} {k:Int} (h0:0≤k) (hx:x.length≤1048576000) (hs:k+s1 x≤4611686018427387904):dK x k=some (k+s1 x,n1 k x):=by
 refine (congrArg an (BC (R:=Int×List Int) s0 n0 (m:=fun _ a=>some (bf (a+1),a)) (xs:=x) h0 hx hs ?_)).trans rfl
 intro y _ a ha hb
 rw [lF (by omega) (by unfold s0 at hb; omega)]; rfl
theorem Rc {x:List (List Int)} {k:Int} (h0:0≤k) (hx:x.length≤1048576000) (hr:∀ y∈x,y.length≤1048576000) (hs:k+s2 x≤4611686018427387904):mJ x k=some (k+s2 x,n2 k x):=
 (congrArg an (BC (R:=Int×List (List Int)) s1 n1 (m:=dK) (xs:=x) h0 hx hs fun y hy _ ha hb=>uS ha (hr y hy) hb)).trans rfl
theorem yd {x:List Int} {k:Int} (h0:0≤k) (hx:x.length≤1048576000) (hs:k+s1 x≤4611686018427387904):eF (n1 k x) k=some (k+s1 x):=by
 refine (congrArg an (bu x (fun i=>(k+dy s0 (x.take i),(i:Int))) (by simp [dy]) ?_ (e:=(k+s1 x,(x.length:Int))) ?_)).trans rfl
 ·intro i y hi
  have bj:=bd hi
  have ht:=wL s0 hi
  have hle:=sP s0 x (i+1)
  show gH _ _ _=_
  unfold gH n1
  unfold s1 at hs
  rw [show s0 y=1 from rfl] at ht
  rw [fw,aq (by omega),cond_true,bh,DG s0 n0 hi,aA,show (n0 (k+dy s0 (x.take i)) y != (k+dy s0 (x.take i)))=false by simp [n0],cond_false,bK (by omega),lF (by omega) (by omega)]
  congr 3
  omega
 ·show gH _ _ _=_
  unfold gH n1
  rw [fw,au (by omega),cond_false,List.take_length]
  rfl
theorem Re {x:List (List Int)} {k:Int} (h0:0≤k) (hx:x.length≤1048576000) (hr:∀ y∈x,y.length≤1048576000) (hs:k+s2 x≤4611686018427387904):mK (n2 k x) k=some (k+s2 x):=
 (congrArg an (IS s1 n1 (m:=eF) (xs:=x) h0 hx hs fun y hy _ ha hb=>yd ha (hr y hy) hb)).trans rfl
theorem S6 (x:List (List Int)):s2 x=j9 x:=by
 unfold s2 dy j9
 congr 1
 exact List.map_congr_left fun y _=>rA y
theorem Ft {c:aH} {k:Int} (h:de c) (h0:0≤k) (hs:k+c.aF.length+c.To.length+c.aG.length+s2 c.aC≤4611686018427387904) :
  gS c k=some (k+c.aF.length+c.To.length+c.aG.length+s2 c.aC,n1 k c.aF,n1 (k+c.aF.length) c.To,n1 (k+c.aF.length+c.To.length) c.aG,n2 (k+c.aF.length+c.To.length+c.aG.length) c.aC):=by
 obtain ⟨h1,h2,h3,h4,h5⟩:=h
 unfold gS
 have e1:=rA c.aF
 have e2:=rA c.To
 have e3:=rA c.aG
 rw [uS h0 (by omega) (by omega),aA,e1]
 dsimp only
 rw [uS (by omega) (by omega) (by omega),aA,e2]
 dsimp only
 rw [uS (by omega) (by omega) (by omega),aA,e3]
 dsimp only
 rw [Rc (by omega) (by omega) (fun y hy=>by have:=h5 y hy; omega) (by omega),aA]
 rfl
theorem Fu {c:aH} {k:Int} (h:de c) (h0:0≤k) (hs:k+c.aF.length+c.To.length+c.aG.length+s2 c.aC≤4611686018427387904) :
  gT (aH.mk c.aD (n1 k c.aF) (n1 (k+c.aF.length) c.To) (n1 (k+c.aF.length+c.To.length) c.aG) (n2 (k+c.aF.length+c.To.length+c.aG.length) c.aC)) k =
   some (k+c.aF.length+c.To.length+c.aG.length+s2 c.aC):=by
 obtain ⟨h1,h2,h3,h4,h5⟩:=h
 unfold gT
 have e1:=rA c.aF
 have e2:=rA c.To
 have e3:=rA c.aG
 dsimp only
 rw [yd h0 (by omega) (by omega),aA,e1,au (by omega),cond_false]
 rw [yd (by omega) (by omega) (by omega),aA,e2,au (by omega),cond_false]
 rw [yd (by omega) (by omega) (by omega),aA,e3,au (by omega),cond_false]
 rw [Re (by omega) (by omega) (fun y hy=>by have:=h5 y hy; omega) (by omega),aA,au (by omega),cond_false]
 rfl
end Go.Proofs.YtcnehblmgfbfoaaGreat
