/- Loops and partial operations of models, reckoned. No condition. -/
import Derived.Test.YtcnehblmgfbfoaaGreatLa
import Derived.Test.YtcnehblmgfbfoaaGreatMo
set_option linter.unusedVariables false
set_option linter.unusedSectionVars false
set_option linter.unusedSimpArgs false
namespace Go.Li
open Go
section
variable {S S1 R α:Type} {body:S→Option (Out S R)}
theorem FD (f:Nat→S) (n:Nat) (h:∀ i,i < n→body (f i)=some (.norm (f (i+1)))):ai body (f 0)=ai body (f n):=by
 induction n with
 | zero=>rfl
 | succ n ih=>rw [ih fun i hi=>h i (by omega),nk (s:=f n),h n (by omega)]
theorem o7 {s s':S} {k:Nat} (h:body s=some (.exit k s')):ai body s=some (.exit k s'):=by rw [nk,h]
theorem vh {s:S} {x:R} (h:body s=some (.ret x)):ai body s=some (.ret x):=by rw [nk,h]
theorem sB {k:Nat} {m:Option (Out S1 R)} {s:S1} {f:S1→Option (Out S R)} (h:m=some (.exit k s)):aj (ag k m) f=f s:=by
 rw [h]; simp [ag,A8,aj]
theorem wi {k:Nat} {m:Option (Out S1 R)} {x:R} {f:S1→Option (Out S R)} (h:m=some (.ret x)):aj (ag k m) f=some (.ret x):=by
 rw [h]; rfl
theorem Ma {k:Nat} (l:List α) (st:Nat→S) {e:S} (step:∀ i x,l[i]? = some x→body (st i)=some (.norm (st (i+1)))) (last:body (st l.length)=some (.exit k e)) :
  ai body (st 0)=some (.exit k e):=by
 rw [FD st l.length fun i hi=>step i l[i] (List.getElem?_eq_getElem hi)]
 exact o7 last
theorem Pb {k:Nat} (l:List α) (p:α→Bool) (st:Nat→S) {e:S} {y:R} (step:∀ i x,l[i]? = some x→p x=false→body (st i)=some (.norm (st (i+1))))
  (JP:∀ i x,l[i]? = some x→p x=true→body (st i)=some (.ret y)) (last:body (st l.length)=some (.exit k e)) :
  ai body (st 0)=some (if l.any p then .ret y else .exit k e):=by
 have key:∀ (m:List α) (i:Nat),l.drop i=m→i≤l.length→ai body (st i)=some (if m.any p then .ret y else .exit k e):=by
  intro m
  induction m with
  | nil=>
   intro i hd hi
   have:i=l.length:=by have:=congrArg List.length hd; simp at this; omega
   subst this
   simp only [List.any_nil,Bool.false_eq_true,if_false]
   exact o7 last
  | cons x m ih=>
   intro i hd hi
   have bo:i < l.length:=by
    rcases Nat.lt_or_ge i l.length with h | h
    ·exact h
    ·rw [List.drop_eq_nil_of_le h] at hd; cases hd
   have hx:l[i]? = some x:=by
    rw [List.drop_eq_getElem_cons bo] at hd
    rw [List.getElem?_eq_getElem bo]; exact congrArg some (List.cons.inj hd).1
   have ie:l.drop (i+1)=m:=by
    rw [List.drop_eq_getElem_cons bo] at hd; exact (List.cons.inj hd).2
   cases hp:p x with
   | true=>simp only [List.any_cons,hp,Bool.true_or,if_true]; exact vh (JP i x hx hp)
   | false=>
    simp only [List.any_cons,hp,Bool.false_or]
    rw [nk,step i x hx hp]
    exact ih (i+1) ie bo
 exact key l 0 rfl (Nat.zero_le _)
end
section
variable {S S1 R α:Type} {body:S1→Option (Out S1 R)}
theorem cw {k:Nat} {f:S1→Option (Out S R)} {s0 e:S1} (l:List α) (st:Nat→S1) (h0:st 0=s0) (step:∀ i x,l[i]? = some x→body (st i)=some (.norm (st (i+1)))) (last:body (st l.length)=some (.exit k e)) :
  aj (ag k (ai body s0)) f=f e:=sB (h0 ▸ Ma l st step last)
theorem gh {k:Nat} {f:S1→Option (Out S R)} {s0 e:S1} {y:R} (l:List α) (p:α→Bool) (st:Nat→S1) (h0:st 0=s0) (step:∀ i x,l[i]? = some x→p x=false→body (st i)=some (.norm (st (i+1))))
  (JP:∀ i x,l[i]? = some x→p x=true→body (st i)=some (.ret y)) (last:body (st l.length)=some (.exit k e)) :
  aj (ag k (ai body s0)) f=if l.any p then some (.ret y) else f e:=by
 have h:=Pb l p st step JP last
 rw [h0] at h
 cases hp:l.any p with
 | true=>rw [hp] at h; exact wi h
 | false=>rw [hp] at h; exact sB h
end
theorem bf {α:Type} (l:List α) (i:Nat):idx l (i:Int)=l[i]?:=by simp [idx]
theorem SB {α:Type} {l:List α} {j:Int} (h0:0≤j):idx l j=l[j.toNat]?:=by simp [idx,h0]
theorem Eu {α:Type} {l:List α} {j:Int} (h0:0≤j) (h1:j < l.length):idx l j=some (l[j.toNat]'(by omega)):=by
 rw [SB h0,List.getElem?_eq_getElem]
theorem oS {a:Int} (h1 : -9223372036854775808≤a) (h2:a≤9223372036854775807):bg a=a:=by
 unfold bg IntKind.wrap
 simp [IntKind.bits,IntKind.signed]
 omega
theorem bR {i:Nat} (h:i < 9223372036854775807):bg ((i:Int)+1)=((i+1:Nat):Int):=by
 rw [oS (by omega) (by omega)]; omega
theorem eB {b n:Nat} (h1:n * b≤140737488355328) (h2:n≤9223372036854775807):fits b n=some ():=by simp [fits,h1,h2]
theorem xc {b n:Nat} (h1:b * n≤281474976710656) (h2:n≤9223372036854775807):mk b (n:Int)=some n:=by simp [mk,h1,h2]
theorem ao {p:Prop} [Decidable p] (h:p):decide p=true:=decide_eq_true h
theorem av {p:Prop} [Decidable p] (h : ¬ p):decide p=false:=decide_eq_false h
theorem qq {α:Type} [BEq α] [LawfulBEq α] {a b:α} (h:a≠b):(a != b)=true:=by simp [h]
theorem sa {α:Type} [BEq α] [LawfulBEq α] {a b:α} (h:a=b):(a != b)=false:=by simp [h]
theorem o5 {α:Type} [BEq α] [LawfulBEq α] {a b:α} (h:a=b):(a == b)=true:=by simp [h]
theorem kz {α:Type} [BEq α] [LawfulBEq α] {a b:α} (h:a≠b):(a == b)=false:=by simp [h]
theorem aB {α β:Type} (x:α) (f:α→Option β):((some x)>>=f)=f x:=rfl
theorem jo {α:Type} {l:List α} {i:Nat} {x:α} (h:l[i]? = some x):l.take (i+1)=l.take i++[x]:=by
 rw [List.take_add_one,h]; rfl
theorem bc {α:Type} {l:List α} {i:Nat} {x:α} (h:l[i]? = some x):i < l.length:=(List.getElem?_eq_some_iff.1 h).1
end Go.Li
namespace Go.Li
set_option linter.unusedSectionVars false
section
variable {α A:Type} [DecidableEq α] (out:List A) (step:α→A→α) (has:α→A→Bool) (M:Nat)
inductive Reaches (s0:α):α→Prop
 | base:Reaches s0 s0
 | step {s a}:Reaches s0 s→a∈out→Reaches s0 (step s a)
variable {out step has M}
theorem Reaches.trans {s0 s t:α} (h:Reaches out step s0 s) (k:Reaches out step s t):Reaches out step s0 t:=by
 induction k with
 | base=>exact h
 | step _ ha ih=>exact .step ih ha
structure vi (out:List A) (step:α→A→α) (s0:α) (L:List α):Prop where
 nodup:L.Nodup
 mem:∀ x,x∈L↔Reaches out step s0 x
theorem Mb {s0:α} {L:List α} (hn:L.Nodup) (h0:s0∈L) (hr:∀ x∈L,Reaches out step s0 x) (hc:∀ x∈L,∀ a∈out,step x a∈L):vi out step s0 L:=
 ⟨hn,fun x=>⟨hr x,fun h=>by
  induction h with
  | base=>exact h0
  | step _ ha ih=>exact hc _ ih _ ha⟩⟩
def HX (out:List A) (step:α→A→α) (M:Nat) (s0:α):Prop:=∃ L:List α,L.Nodup∧M < L.length∧∀ x∈L,Reaches out step s0 x
theorem vi.SC {s0:α} {L:List α} (h:vi out step s0 L) (hl:L.length≤M) : ¬ HX out step M s0:=by
 rintro ⟨K,k1,k2,k3⟩
 have:=k1.length_le_of_subset fun x hx=>(h.mem x).2 (k3 x hx)
 omega
theorem vi.perm {s0:α} {L K:List α} (h:vi out step s0 L) (k:vi out step s0 K):L.Perm K:=
 List.perm_iff_count.2 fun a=>by
  rw [h.nodup.count,k.nodup.count]
  by_cases ha:Reaches out step s0 a
  ·rw [if_pos ((h.mem a).2 ha),if_pos ((k.mem a).2 ha)]
  ·rw [if_neg fun hm=>ha ((h.mem a).1 hm),if_neg fun hm=>ha ((k.mem a).1 hm)]
def s7 (step:α→A→α) (M:Nat) (s:α) (l:List A) (L:List α):Option (List α):=
 l.foldlM (fun L a=>if step s a∈L then some L else if L.length=M then none else some (L++[step s a])) L
structure uH (out:List A) (step:α→A→α) (M:Nat) (s0:α) (i:Nat) (L:List α):Prop where
 nodup:L.Nodup
 start:s0∈L
 reach:∀ x∈L,Reaches out step s0 x
 len:L.length≤M
 idx:i≤L.length
 done:∀ j x,j < i→L[j]? = some x→∀ a∈out,step x a∈L
theorem AL {s0 s:α} {i:Nat} (hs:Reaches out step s0 s):∀ (l:List A) (L:List α) (p:List A),(∀ a∈l,a∈out)→uH out step M s0 i L→L[i]? = some s→(∀ a∈p,step s a∈L)→
  match s7 step M s l L with
  | some L'=>uH out step M s0 i L'∧L'[i]? = some s∧(∀ a∈p,step s a∈L')∧(∀ a∈l,step s a∈L')
  | none=>HX out step M s0:=by
 intro l
 induction l with
 | nil=>intro L p _ h1 h2 h3; exact ⟨h1,h2,h3,fun _ h=>nomatch h⟩
 | cons a l ih=>
  intro L p hl h1 h2 h3
  have ha:a∈out:=hl a (by simp)
  unfold s7
  rw [List.foldlM_cons]
  by_cases hm:step s a∈L
  ·rw [if_pos hm]
   have:=ih L (a :: p) (fun b hb=>hl b (by simp [hb])) h1 h2 (fun b hb=>(List.mem_cons.1 hb).elim (fun e=>e ▸ hm) (h3 b))
   show match s7 step M s l L with | some L'=>_ | none=>_
   cases hr:s7 step M s l L with
   | none=>rw [hr] at this; exact this
   | some L'=>
    rw [hr] at this
    obtain ⟨q1,q2,q3,q4⟩:=this
    exact ⟨q1,q2,fun b hb=>q3 b (by simp [hb]),fun b hb=>(List.mem_cons.1 hb).elim (fun e=>e ▸ q3 a (by simp)) (q4 b)⟩
  ·rw [if_neg hm]
   have Js:(L++[step s a]).Nodup:=List.nodup_append.2 ⟨h1.nodup,by simp,fun x hx y hy=>by simp at hy; subst hy; exact fun h=>hm (h ▸ hx)⟩
   have V0:∀ x∈L++[step s a],Reaches out step s0 x:=fun x hx=>(List.mem_append.1 hx).elim (h1.reach x) fun h=>by simp at h; subst h; exact .step hs ha
   by_cases hM:L.length=M
   ·rw [if_pos hM]
    exact ⟨L++[step s a],Js,by simp; omega,V0⟩
   ·rw [if_neg hM]
    have hi:i < L.length:=(List.getElem?_eq_some_iff.1 h2).1
    have hlen:=h1.len
    have:=ih (L++[step s a]) (a :: p) (fun b hb=>hl b (by simp [hb]))
     ⟨Js,List.mem_append_left _ h1.start,V0,by simp; omega,by simp; omega,fun j x hj hx b hb=>List.mem_append_left _ (h1.done j x hj (by rwa [List.getElem?_append_left (by omega)] at hx) b hb)⟩
     (by rw [List.getElem?_append_left hi]; exact h2) (fun b hb=>(List.mem_cons.1 hb).elim (fun e=>by simp [e]) fun h=>List.mem_append_left _ (h3 b h))
    show match s7 step M s l (L++[step s a]) with | some L'=>_ | none=>_
    cases hr:s7 step M s l (L++[step s a]) with
    | none=>rw [hr] at this; exact this
    | some L'=>
     rw [hr] at this
     obtain ⟨q1,q2,q3,q4⟩:=this
     exact ⟨q1,q2,fun b hb=>q3 b (by simp [hb]),fun b hb=>(List.mem_cons.1 hb).elim (fun e=>e ▸ q3 a (by simp)) (q4 b)⟩
theorem uH.next {s0 s:α} {i:Nat} {L L':List α} (h:uH out step M s0 i L) (hs:L[i]? = some s) (hr:s7 step M s out L=some L'):uH out step M s0 (i+1) L':=by
 have:=AL (h.reach s (List.mem_of_getElem? hs)) out L [] (fun _ h=>h) h hs (fun _ h=>nomatch h)
 rw [hr] at this
 obtain ⟨q1,q2,_,q4⟩:=this
 have hi:i < L'.length:=(List.getElem?_eq_some_iff.1 q2).1
 refine ⟨q1.nodup,q1.start,q1.reach,q1.len,hi,fun j x hj hx a ha=>?_⟩
 by_cases iy:j=i
 ·subst iy
  rw [q2] at hx
  cases hx
  exact q4 a ha
 ·exact q1.done j x (by omega) hx a ha
theorem uH.many {s0 s:α} {i:Nat} {L:List α} (h:uH out step M s0 i L) (hs:L[i]? = some s) (hr:s7 step M s out L=none):HX out step M s0:=by
 have:=AL (h.reach s (List.mem_of_getElem? hs)) out L [] (fun _ h=>h) h hs (fun _ h=>nomatch h)
 rw [hr] at this
 exact this
theorem uH.ahy {s0:α} {i:Nat} {L:List α} (h:uH out step M s0 i L) (hi:L.length≤i):vi out step s0 L:=
 Mb h.nodup h.start h.reach fun x hx a ha=>by
  obtain ⟨j,hj,rfl⟩:=List.getElem_of_mem hx
  exact h.done j _ (by omega) (List.getElem?_eq_getElem hj) a ha
theorem uH.base {s0:α} (hM:0 < M):uH out step M s0 0 [s0]:=
 ⟨by simp,by simp,fun x hx=>by simp at hx; subst hx; exact .base,by simp; omega,by simp,fun j x hj=>absurd hj (Nat.not_lt_zero _)⟩
end
end Go.Li
namespace Go.Proofs.YtcnehblmgfbfoaaGreat
open Go Go.Li
theorem B3 (x:List Int) {k:Int} (h0:0≤k) (h1:k≤1048576) (hx:x.length≤9223372036854775807) :
  fJ x k=some (if (x.length:Int)≤k then k - x.length else -1):=by
 unfold fJ
 rw [oS (by omega) (by omega)]
 by_cases h:(x.length:Int)≤k
 ·rw [av (by omega),cond_false,if_pos h]; rfl
 ·rw [ao (by omega),cond_true,if_neg h]; rfl
def ny (xs:List (List Int)):Nat:=(xs.map (·.length)).sum
theorem zB {xs:List (List Int)} {i:Nat} {x:List Int} (h:xs[i]? = some x):ny (xs.take (i+1))=ny (xs.take i)+x.length:=by
 rw [jo h]; simp [ny]
theorem vz (xs:List (List Int)) (i:Nat):ny (xs.take i)≤ny xs:=by
 have:ny (xs.take i++xs.drop i)=ny (xs.take i)+ny (xs.drop i):=by unfold ny; rw [List.map_append,List.sum_append]
 rw [List.take_append_drop] at this
 omega
theorem Ym (xs:List (List Int)) {k:Int} (h0:0≤k) (h1:k≤1048576) (hx:xs.length≤9223372036854775807) (hr:∀ x∈xs,x.length≤9223372036854775807) :
  nM xs k=some (if ((xs.length+ny xs:Nat):Int)≤k then k - (xs.length+ny xs:Nat) else -1):=by
 unfold nM
 rw [oS (by omega) (by omega)]
 by_cases h:(xs.length:Int)≤k
 ·rw [av (by omega),cond_false]
  have key:∀ (m:Nat) (i:Nat),xs.length - i=m→i≤xs.length→(xs.length+ny (xs.take i):Nat)≤k→
    ai (fun s=>iE xs s.1 s.2) (k - (xs.length+ny (xs.take i):Nat),(i:Int)) =
     some (if ((xs.length+ny xs:Nat):Int)≤k then .exit 0 (k - (xs.length+ny xs:Nat),(xs.length:Int)) else .ret (-1)):=by
   intro m
   induction m with
   | zero=>
    intro i hm hi hk
    obtain rfl:i=xs.length:=by omega
    rw [List.take_length] at hk ⊢
    rw [if_pos (by omega)]
    refine o7 ?_
    show iE xs _ _=_
    unfold iE
    rw [av (by omega),cond_false]
   | succ m ih=>
    intro i hm hi hk
    have bo:i < xs.length:=by omega
    have GQ:xs[i]? = some xs[i]:=List.getElem?_eq_getElem bo
    have ht:=zB GQ
    have hle:=vz xs (i+1)
    have br:=hr xs[i] (List.getElem_mem bo)
    rw [nk]
    have e:iE xs (k - (xs.length+ny (xs.take i):Nat)) (i:Int) =
      if ((xs.length+ny (xs.take (i+1)):Nat):Int)≤k then some (.norm (k - (xs.length+ny (xs.take (i+1)):Nat),((i+1:Nat):Int))) else some (.ret (-1)):=by
     unfold iE
     rw [ao (by omega),cond_true,bf,GQ,aB,B3 _ (by omega) (by omega) br,aB]
     by_cases hc:((xs[i].length:Nat):Int)≤k - (xs.length+ny (xs.take i):Nat)
     ·rw [if_pos hc,av (by omega),cond_false,bR (by omega),if_pos (by omega)]
      congr 3
      omega
     ·rw [if_neg hc,ao (by omega),cond_true,if_neg (by omega)]
    dsimp only
    rw [e]
    by_cases hc:((xs.length+ny (xs.take (i+1)):Nat):Int)≤k
    ·rw [if_pos hc]
     exact ih (i+1) (by omega) (by omega) hc
    ·rw [if_neg hc]
     dsimp only
     rw [if_neg (by omega)]
  have GR:=key xs.length 0 (by omega) (by omega) (by simp [ny]; omega)
  simp only [List.take_zero] at GR
  have e0:ny []=0:=rfl
  rw [e0,Nat.add_zero,Int.natCast_zero] at GR
  by_cases hc:((xs.length+ny xs:Nat):Int)≤k
  ·rw [if_pos hc] at GR ⊢
   rw [sB GR]; rfl
  ·rw [if_neg hc] at GR ⊢
   rw [wi GR]; rfl
 ·rw [ao (by omega),cond_true,if_neg (by omega)]; rfl
def fh (c:aJ):Nat:=c.aH.length+c.To.length+c.aI.length+(c.aG.length+ny c.aG)
structure vY (c:aJ):Prop where
 f:c.aH.length≤9223372036854775807
 t:c.To.length≤9223372036854775807
 i:c.aI.length≤9223372036854775807
 k:c.aG.length≤9223372036854775807
 r:∀ x∈c.aG,x.length≤9223372036854775807
theorem Jn {c:aJ} {k:Int} (k0:0≤k) (k1:k≤1048576) (hl:vY c):kV c k=some (if (fh c:Int)≤k then k - fh c else -1):=by
 unfold kV
 obtain ⟨h1,h2,h3,h4,h5⟩:=hl
 rw [B3 c.aH (by omega) (by omega) h1,aB]
 by_cases c1:(c.aH.length:Int)≤k
 ·rw [if_pos c1,av (by omega),cond_false,B3 c.To (by omega) (by omega) h2,aB]
  by_cases c2:(c.To.length:Int)≤k - c.aH.length
  ·rw [if_pos c2,av (by omega),cond_false,B3 c.aI (by omega) (by omega) h3,aB]
   by_cases c3:(c.aI.length:Int)≤k - c.aH.length - c.To.length
   ·rw [if_pos c3,av (by omega),cond_false,Ym c.aG (by omega) (by omega) h4 h5,aB]
    by_cases c4:((c.aG.length+ny c.aG:Nat):Int)≤k - c.aH.length - c.To.length - c.aI.length
    ·rw [if_pos c4,av (by omega),cond_false,if_pos (by unfold fh; omega)]
     show some _=_
     congr 1
     unfold fh; omega
    ·rw [if_neg c4,ao (by omega),cond_true,if_neg (by unfold fh; omega)]; rfl
   ·rw [if_neg c3,ao (by omega),cond_true,if_neg (by unfold fh; omega)]; rfl
  ·rw [if_neg c2,ao (by omega),cond_true,if_neg (by unfold fh; omega)]; rfl
 ·rw [if_neg c1,ao (by omega),cond_true,if_neg (by unfold fh; omega)]; rfl
theorem sC {α:Type} (x:List α) (z:α) {i:Nat} {v:α} (h:x[i]? = some v) :
  (x.take i++List.replicate (x.length - i) z).set i v=x.take (i+1)++List.replicate (x.length - (i+1)) z:=by
 have hi:=bc h
 rw [jo h]
 have e:x.length - i=(x.length - (i+1))+1:=by omega
 rw [List.set_append_right _ _ (by simp; omega),e,List.replicate_succ]
 simp only [List.length_take]
 rw [show i - min i x.length=0 by omega]
 simp
theorem get_copy {α:Type} (x:List α) (z:α) {i:Nat} {v:α} (h:x[i]? = some v):(x.take i++List.replicate (x.length - i) z)[i]? = some z:=by
 have hi:=bc h
 rw [List.getElem?_append_right (by simp; omega)]
 simp only [List.length_take]
 rw [show i - min i x.length=0 by omega,List.getElem?_replicate,if_pos (by omega)]
theorem toS (x:List Int) (h:x.length≤1048576):fK x=some x:=by
 unfold fK
 rw [xc (by omega) (by omega),aB]
 refine (congrArg an (cw x (fun i=>((i:Int),x.take i++List.replicate (x.length - i) (0:Int))) rfl ?_ (e:=((x.length:Int),x)) ?_)).trans rfl
 ·intro i v hv
  have hi:=bc hv
  show kB x _ _=_
  unfold kB
  rw [ao (by omega),cond_true,bf,hv,aB,bf,get_copy x 0 hv,aB,bR (by omega),Int.toNat_natCast,sC x 0 hv]
 ·show kB x _ _=_
  unfold kB
  rw [av (by omega),cond_false]; simp
theorem Yn (x:List (List Int)) (h:x.length≤1048576) (hr:∀ y∈x,y.length≤1048576):nN x=some x:=by
 unfold nN
 rw [xc (by omega) (by omega),aB]
 refine (congrArg an (cw x (fun i=>((i:Int),x.take i++List.replicate (x.length - i) [])) rfl ?_ (e:=((x.length:Int),x)) ?_)).trans rfl
 ·intro i v hv
  have hi:=bc hv
  show jO x _ _=_
  unfold jO
  rw [ao (by omega),cond_true,bf,hv,aB,toS v (hr v (List.mem_of_getElem? hv)),aB,bf,get_copy x [] hv,aB,bR (by omega),Int.toNat_natCast,sC x [] hv]
 ·show jO x _ _=_
  unfold jO
  rw [av (by omega),cond_false]; simp
theorem togj {c:aJ} (h:fh c≤1048576):kW c=some c:=by
 have hr:∀ y∈c.aG,y.length≤ny c.aG:=fun y hy=>by
  obtain ⟨i,hi,rfl⟩:=List.getElem_of_mem hy
  have:=zB (List.getElem?_eq_getElem hi)
  have:=vz c.aG (i+1)
  omega
 unfold fh at h
 unfold kW
 rw [toS _ (by omega),aB,toS _ (by omega),aB,toS _ (by omega),aB,Yn _ (by omega) (fun y hy=>by have:=hr y hy; omega),aB]
 rfl
theorem JR:∀ {x y:List Int},x.length=y.length→(((x.zip y).any fun p=>p.1 != p.2) = !(x == y)):=by
 intro x
 induction x with
 | nil=>intro y h; cases y with | nil=>rfl | cons=>simp at h
 | cons a x ih=>
  intro y h
  cases y with
  | nil=>simp at h
  | cons b y=>
   have:=ih (y:=y) (by simpa using h)
   rw [List.zip_cons_cons,List.any_cons,this]
   by_cases u5:a=b <;> simp [u5,bne]
theorem yP {α β:Type} {x:List α} {y:List β} {i:Nat} {p:α×β} (h:(x.zip y)[i]? = some p):x[i]? = some p.1∧y[i]? = some p.2:=by
 rw [List.getElem?_zip_eq_some] at h; exact h
noncomputable def AM (x0 x1:List Int) (s:Int):Option (Out Int Bool):=
 bif decide (s < (x0.length:Int)) then ((idx x0 s)>>=fun uE=>((idx x1 s)>>=fun xD=>(bif uE != xD then some (Out.ret false) else some (Out.norm (bg (s+(1:Int))))))) else some (Out.exit 0 s)
noncomputable def SD (x0 x1:List Int):Option Bool:=
 an (S:=Unit) (bif (x0.length:Int) != (x1.length:Int) then some (Out.ret false) else aj (ag 0 (ai (AM x0 x1) (0:Int))) fun _=>some (Out.ret true))
noncomputable def yQ (x0 x1:List (List Int)) (s:Int):Option (Out Int Bool):=
 bif decide (s < (x0.length:Int)) then ((idx x0 s)>>=fun uE=>((idx x1 s)>>=fun yi=>((SD uE yi)>>=fun vb=>(bif !vb then some (Out.ret false) else some (Out.norm (bg (s+(1:Int)))))))) else some (Out.exit 0 s)
noncomputable def SE (x0 x1:List (List Int)):Option Bool:=
 an (S:=Unit) (bif (x0.length:Int) != (x1.length:Int) then some (Out.ret false) else aj (ag 0 (ai (yQ x0 x1) (0:Int))) fun _=>some (Out.ret true))
theorem AN (x y:List Int) (hx:x.length≤1048576000):SD x y=some (x == y):=by
 unfold SD
 by_cases hl:x.length=y.length
 ·rw [show (((x.length:Int)) != ((y.length:Int)))=false by simp [hl],cond_false]
  have hz:(x.zip y).length=x.length:=by simp [hl]
  refine (congrArg an (gh (x.zip y) (fun p=>p.1 != p.2) (fun i=>(i:Int)) rfl ?_ ?_ (e:=(x.length:Int)) (y:=false) ?_)).trans ?_
  ·intro i p hp hq
   obtain ⟨h1,h2⟩:=yP hp
   have hi:=bc h1
   unfold AM
   rw [ao (by omega),cond_true,bf,h1,aB,bf,h2,aB,hq,cond_false,bR (by omega)]
  ·intro i p hp hq
   obtain ⟨h1,h2⟩:=yP hp
   have hi:=bc h1
   unfold AM
   rw [ao (by omega),cond_true,bf,h1,aB,bf,h2,aB,hq,cond_true]
  ·unfold AM
   rw [av (by omega),cond_false,hz]
  ·rw [JR hl]
   cases x == y <;> rfl
 ·rw [show (((x.length:Int)) != ((y.length:Int)))=true by simp; omega,cond_true]
  have:(x == y)=false:=by
   apply Bool.eq_false_iff.2
   intro h
   exact hl (by rw [eq_of_beq h])
  rw [this]; rfl
theorem D7 (x y:List Int) (hx:x.length≤1048576000):fU x y=some (x == y):=AN x y hx
theorem FG {α:Type} [BEq α] [LawfulBEq α]:∀ {x y:List α},x.length=y.length→(((x.zip y).any fun p=>!(p.1 == p.2)) = !(x == y)):=by
 intro x
 induction x with
 | nil=>intro y h; cases y with | nil=>rfl | cons=>simp at h
 | cons a x ih=>
  intro y h
  cases y with
  | nil=>simp at h
  | cons b y=>
   have:=ih (y:=y) (by simpa using h)
   rw [List.zip_cons_cons,List.any_cons,this]
   by_cases u5:a=b <;> simp [u5]
theorem Pc {α:Type} [BEq α] [LawfulBEq α] {x y:List α} (h:x.length≠y.length):(x == y)=false:=by
 apply Bool.eq_false_iff.2
 intro e
 exact h (by rw [eq_of_beq e])
theorem GS (x y:List (List Int)) (hx:x.length≤1048576000) (hr:∀ z∈x,z.length≤1048576000):SE x y=some (x == y):=by
 unfold SE
 by_cases hl:x.length=y.length
 ·rw [show (((x.length:Int)) != ((y.length:Int)))=false by simp [hl],cond_false]
  have hz:(x.zip y).length=x.length:=by simp [hl]
  refine (congrArg an (gh (x.zip y) (fun p=>!(p.1 == p.2)) (fun i=>(i:Int)) rfl ?_ ?_ (e:=(x.length:Int)) (y:=false) ?_)).trans ?_
  ·intro i p hp hq
   obtain ⟨h1,h2⟩:=yP hp
   have hi:=bc h1
   unfold yQ
   rw [ao (by omega),cond_true,bf,h1,aB,bf,h2,aB,AN _ _ (hr _ (List.mem_of_getElem? h1)),aB,hq,cond_false,bR (by omega)]
  ·intro i p hp hq
   obtain ⟨h1,h2⟩:=yP hp
   have hi:=bc h1
   unfold yQ
   rw [ao (by omega),cond_true,bf,h1,aB,bf,h2,aB,AN _ _ (hr _ (List.mem_of_getElem? h1)),aB,hq,cond_true]
  ·unfold yQ
   rw [av (by omega),cond_false,hz]
  ·rw [FG hl]
   cases x == y <;> rfl
 ·rw [show (((x.length:Int)) != ((y.length:Int)))=true by simp; omega,cond_true,Pc hl]; rfl
theorem Yo (x y:List (List Int)) (hx:x.length≤1048576000) (hr:∀ z∈x,z.length≤1048576000):oT x y=some (x == y):=GS x y hx hr
structure ew (c:aJ):Prop where
 f:c.aH.length≤1048576
 t:c.To.length≤1048576
 i:c.aI.length≤1048576
 k:c.aG.length≤1048576
 r:∀ x∈c.aG,x.length≤1048576
theorem Ao {c:aJ} (h:ew c):lG c c=some true:=by
 unfold lG
 obtain ⟨h1,h2,h3,h4,h5⟩:=h
 rw [show (c.aE != c.aE)=false by simp,cond_false,D7 _ _ (by omega),aB,D7 _ _ (by omega),aB,D7 _ _ (by omega),aB,Yo _ _ (by omega) (fun z hz=>by have:=h5 z hz; omega),aB]
 simp only [beq_self_eq_true,Bool.not_true,cond_false]
 rfl
end Go.Proofs.YtcnehblmgfbfoaaGreat
namespace Go.Proofs.YtcnehblmgfbfoaaGreat
open Go Go.Li
section
variable {α R:Type} (size:α→Nat) (num:Int→α→α)
def HY (xs:List α):Nat:=(xs.map size).sum
def HZ:Int→List α→List α
 | _,[]=>[]
 | k,x :: xs=>num k x :: HZ (k+size x) xs
end
def n0 (k _x:Int):Int:=k
def s0 (_x:Int):Nat:=1
def n1:=HZ s0 n0
def s1:=HY s0
def n2:=HZ s1 n1
def s2:=HY s1
def n3:=HZ s2 n2
def s3:=HY s2
end Go.Proofs.YtcnehblmgfbfoaaGreat
