/- Loops and partial operations of models, reckoned. No condition. -/
import Derived.Test.YtcnehblmgfbfoaaGreatLa
import Derived.Test.YtcnehblmgfbfoaaGreatMo
set_option linter.unusedVariables false
set_option linter.unusedSectionVars false
set_option linter.unusedSimpArgs false
namespace Go.Li
open Go
section
variable {S S1 R α:Type} {body:S→Option (Out S R)}
theorem Ke (f:Nat→S) (n:Nat) (h:∀ i,i < n→body (f i)=some (.norm (f (i+1)))):af body (f 0)=af body (f n):=by
 induction n with
 | zero=>rfl
 | succ n ih=>rw [ih fun i hi=>h i (by omega),uo (s:=f n),h n (by omega)]
theorem xz {s s':S} {k:Nat} (h:body s=some (.exit k s')):af body s=some (.exit k s'):=by rw [uo,h]
theorem CC {s:S} {x:R} (h:body s=some (.ret x)):af body s=some (.ret x):=by rw [uo,h]
theorem Af {k:Nat} {m:Option (Out S1 R)} {s:S1} {f:S1→Option (Out S R)} (h:m=some (.exit k s)):ag (ae k m) f=f s:=by
 rw [h]; simp [ae,Ja,ag]
theorem FU {k:Nat} {m:Option (Out S1 R)} {x:R} {f:S1→Option (Out S R)} (h:m=some (.ret x)):ag (ae k m) f=some (.ret x):=by
 rw [h]; rfl
theorem R4 {k:Nat} (l:List α) (st:Nat→S) {e:S} (step:∀ i x,l[i]? = some x→body (st i)=some (.norm (st (i+1)))) (last:body (st l.length)=some (.exit k e)) :
  af body (st 0)=some (.exit k e):=by
 rw [Ke st l.length fun i hi=>step i l[i] (List.getElem?_eq_getElem hi)]
 exact xz last
theorem UK {k:Nat} (l:List α) (p:α→Bool) (st:Nat→S) {e:S} {y:R} (step:∀ i x,l[i]? = some x→p x=false→body (st i)=some (.norm (st (i+1))))
  (Pj:∀ i x,l[i]? = some x→p x=true→body (st i)=some (.ret y)) (last:body (st l.length)=some (.exit k e)) :
  af body (st 0)=some (if l.any p then .ret y else .exit k e):=by
 have key:∀ (m:List α) (i:Nat),l.drop i=m→i≤l.length→af body (st i)=some (if m.any p then .ret y else .exit k e):=by
  intro m
  induction m with
  | nil=>
   intro i hd hi
   have:i=l.length:=by have:=congrArg List.length hd; simp at this; omega
   subst this
   simp only [List.any_nil,Bool.false_eq_true,if_false]
   exact xz last
  | cons x m ih=>
   intro i hd hi
   have bb:i < l.length:=by
    rcases Nat.lt_or_ge i l.length with h | h
    ·exact h
    ·rw [List.drop_eq_nil_of_le h] at hd; cases hd
   have hx:l[i]? = some x:=by
    rw [List.drop_eq_getElem_cons bb] at hd
    rw [List.getElem?_eq_getElem bb]; exact congrArg some (List.cons.inj hd).1
   have fx:l.drop (i+1)=m:=by
    rw [List.drop_eq_getElem_cons bb] at hd; exact (List.cons.inj hd).2
   cases hp:p x with
   | true=>simp only [List.any_cons,hp,Bool.true_or,if_true]; exact CC (Pj i x hx hp)
   | false=>
    simp only [List.any_cons,hp,Bool.false_or]
    rw [uo,step i x hx hp]
    exact ih (i+1) fx bb
 exact key l 0 rfl (Nat.zero_le _)
end
section
variable {S S1 R α:Type} {body:S1→Option (Out S1 R)}
theorem du {k:Nat} {f:S1→Option (Out S R)} {s0 e:S1} (l:List α) (st:Nat→S1) (h0:st 0=s0) (step:∀ i x,l[i]? = some x→body (st i)=some (.norm (st (i+1)))) (last:body (st l.length)=some (.exit k e)) :
  ag (ae k (af body s0)) f=f e:=Af (h0 ▸ R4 l st step last)
theorem kc {k:Nat} {f:S1→Option (Out S R)} {s0 e:S1} {y:R} (l:List α) (p:α→Bool) (st:Nat→S1) (h0:st 0=s0) (step:∀ i x,l[i]? = some x→p x=false→body (st i)=some (.norm (st (i+1))))
  (Pj:∀ i x,l[i]? = some x→p x=true→body (st i)=some (.ret y)) (last:body (st l.length)=some (.exit k e)) :
  ag (ae k (af body s0)) f=if l.any p then some (.ret y) else f e:=by
 have h:=UK l p st step Pj last
 rw [h0] at h
 cases hp:l.any p with
 | true=>rw [hp] at h; exact FU h
 | false=>rw [hp] at h; exact Af h
end
theorem bn {α:Type} (l:List α) (i:Nat):idx l (i:Int)=l[i]?:=by simp [idx]
theorem wD {α:Type} {l:List α} {j:Int} (h0:0≤j):idx l j=l[j.toNat]?:=by simp [idx,h0]
theorem sU {α:Type} {l:List α} {j:Int} (h0:0≤j) (h1:j < l.length):idx l j=some (l[j.toNat]'(by omega)):=by
 rw [wD h0,List.getElem?_eq_getElem]
theorem dT {a:Int} (h1 : -9223372036854775808≤a) (h2:a≤9223372036854775807):ai a=a:=by
 unfold ai IntKind.wrap
 simp [IntKind.bits,IntKind.signed]
 omega
theorem bB {i:Nat} (h:i < 9223372036854775807):ai ((i:Int)+1)=((i+1:Nat):Int):=by
 rw [dT (by omega) (by omega)]; omega
theorem dR {b n:Nat} (h1:n * b≤140737488355328) (h2:n≤9223372036854775807):fits b n=some ():=by simp [fits,h1,h2]
theorem C5 {b n:Nat} (h1:b * n≤281474976710656) (h2:n≤9223372036854775807):mk b (n:Int)=some n:=by simp [mk,h1,h2]
theorem aw {p:Prop} [Decidable p] (h:p):decide p=true:=decide_eq_true h
theorem aX {p:Prop} [Decidable p] (h : ¬ p):decide p=false:=decide_eq_false h
theorem tO {α:Type} [BEq α] [LawfulBEq α] {a b:α} (h:a≠b):(a != b)=true:=by simp [h]
theorem wW {α:Type} [BEq α] [LawfulBEq α] {a b:α} (h:a=b):(a != b)=false:=by simp [h]
theorem sk {α:Type} [BEq α] [LawfulBEq α] {a b:α} (h:a=b):(a == b)=true:=by simp [h]
theorem rz {α:Type} [BEq α] [LawfulBEq α] {a b:α} (h:a≠b):(a == b)=false:=by simp [h]
theorem aA {α β:Type} (x:α) (f:α→Option β):((some x)>>=f)=f x:=rfl
theorem p8 {α:Type} {l:List α} {i:Nat} {x:α} (h:l[i]? = some x):l.take (i+1)=l.take i++[x]:=by
 rw [List.take_add_one,h]; rfl
theorem bf {α:Type} {l:List α} {i:Nat} {x:α} (h:l[i]? = some x):i < l.length:=(List.getElem?_eq_some_iff.1 h).1
end Go.Li
namespace Go.Li
set_option linter.unusedSectionVars false
section
variable {α A:Type} [DecidableEq α] (out:List A) (step:α→A→α) (has:α→A→Bool) (M:Nat)
inductive Reaches (s0:α):α→Prop
 | base:Reaches s0 s0
 | step {s a}:Reaches s0 s→a∈out→Reaches s0 (step s a)
variable {out step has M}
theorem Reaches.trans {s0 s t:α} (h:Reaches out step s0 s) (k:Reaches out step s t):Reaches out step s0 t:=by
 induction k with
 | base=>exact h
 | step _ ha ih=>exact .step ih ha
structure zx (out:List A) (step:α→A→α) (s0:α) (L:List α):Prop where
 nodup:L.Nodup
 mem:∀ x,x∈L↔Reaches out step s0 x
theorem R5 {s0:α} {L:List α} (hn:L.Nodup) (h0:s0∈L) (hr:∀ x∈L,Reaches out step s0 x) (hc:∀ x∈L,∀ a∈out,step x a∈L):zx out step s0 L:=
 ⟨hn,fun x=>⟨hr x,fun h=>by
  induction h with
  | base=>exact h0
  | step _ ha ih=>exact hc _ ih _ ha⟩⟩
def M1 (out:List A) (step:α→A→α) (M:Nat) (s0:α):Prop:=∃ L:List α,L.Nodup∧M < L.length∧∀ x∈L,Reaches out step s0 x
theorem zx.TD {s0:α} {L:List α} (h:zx out step s0 L) (hl:L.length≤M) : ¬ M1 out step M s0:=by
 rintro ⟨K,k1,k2,k3⟩
 have:=k1.length_le_of_subset fun x hx=>(h.mem x).2 (k3 x hx)
 omega
theorem zx.perm {s0:α} {L K:List α} (h:zx out step s0 L) (k:zx out step s0 K):L.Perm K:=
 List.perm_iff_count.2 fun a=>by
  rw [h.nodup.count,k.nodup.count]
  by_cases ha:Reaches out step s0 a
  ·rw [if_pos ((h.mem a).2 ha),if_pos ((k.mem a).2 ha)]
  ·rw [if_neg fun hm=>ha ((h.mem a).1 hm),if_neg fun hm=>ha ((k.mem a).1 hm)]
def wR (step:α→A→α) (M:Nat) (s:α) (l:List A) (L:List α):Option (List α):=
 l.foldlM (fun L a=>if step s a∈L then some L else if L.length=M then none else some (L++[step s a])) L
structure yG (out:List A) (step:α→A→α) (M:Nat) (s0:α) (i:Nat) (L:List α):Prop where
 nodup:L.Nodup
 start:s0∈L
 reach:∀ x∈L,Reaches out step s0 x
 len:L.length≤M
 idx:i≤L.length
 done:∀ j x,j < i→L[j]? = some x→∀ a∈out,step x a∈L
theorem FW {s0 s:α} {i:Nat} (hs:Reaches out step s0 s):∀ (l:List A) (L:List α) (p:List A),(∀ a∈l,a∈out)→yG out step M s0 i L→L[i]? = some s→(∀ a∈p,step s a∈L)→
  match wR step M s l L with
  | some L'=>yG out step M s0 i L'∧L'[i]? = some s∧(∀ a∈p,step s a∈L')∧(∀ a∈l,step s a∈L')
  | none=>M1 out step M s0:=by
 intro l
 induction l with
 | nil=>intro L p _ h1 h2 h3; exact ⟨h1,h2,h3,fun _ h=>nomatch h⟩
 | cons a l ih=>
  intro L p hl h1 h2 h3
  have ha:a∈out:=hl a (by simp)
  unfold wR
  rw [List.foldlM_cons]
  by_cases hm:step s a∈L
  ·rw [if_pos hm]
   have:=ih L (a :: p) (fun b hb=>hl b (by simp [hb])) h1 h2 (fun b hb=>(List.mem_cons.1 hb).elim (fun e=>e ▸ hm) (h3 b))
   show match wR step M s l L with | some L'=>_ | none=>_
   cases hr:wR step M s l L with
   | none=>rw [hr] at this; exact this
   | some L'=>
    rw [hr] at this
    obtain ⟨q1,q2,q3,q4⟩:=this
    exact ⟨q1,q2,fun b hb=>q3 b (by simp [hb]),fun b hb=>(List.mem_cons.1 hb).elim (fun e=>e ▸ q3 a (by simp)) (q4 b)⟩
  ·rw [if_neg hm]
   have Je:(L++[step s a]).Nodup:=List.nodup_append.2 ⟨h1.nodup,by simp,fun x hx y hy=>by simp at hy; subst hy; exact fun h=>hm (h ▸ hx)⟩
   have hr2:∀ x∈L++[step s a],Reaches out step s0 x:=fun x hx=>(List.mem_append.1 hx).elim (h1.reach x) fun h=>by simp at h; subst h; exact .step hs ha
   by_cases hM:L.length=M
   ·rw [if_pos hM]
    exact ⟨L++[step s a],Je,by simp; omega,hr2⟩
   ·rw [if_neg hM]
    have hi:i < L.length:=(List.getElem?_eq_some_iff.1 h2).1
    have hlen:=h1.len
    have:=ih (L++[step s a]) (a :: p) (fun b hb=>hl b (by simp [hb]))
     ⟨Je,List.mem_append_left _ h1.start,hr2,by simp; omega,by simp; omega,fun j x hj hx b hb=>List.mem_append_left _ (h1.done j x hj (by rwa [List.getElem?_append_left (by omega)] at hx) b hb)⟩
     (by rw [List.getElem?_append_left hi]; exact h2) (fun b hb=>(List.mem_cons.1 hb).elim (fun e=>by simp [e]) fun h=>List.mem_append_left _ (h3 b h))
    show match wR step M s l (L++[step s a]) with | some L'=>_ | none=>_
    cases hr:wR step M s l (L++[step s a]) with
    | none=>rw [hr] at this; exact this
    | some L'=>
     rw [hr] at this
     obtain ⟨q1,q2,q3,q4⟩:=this
     exact ⟨q1,q2,fun b hb=>q3 b (by simp [hb]),fun b hb=>(List.mem_cons.1 hb).elim (fun e=>e ▸ q3 a (by simp)) (q4 b)⟩
theorem yG.next {s0 s:α} {i:Nat} {L L':List α} (h:yG out step M s0 i L) (hs:L[i]? = some s) (hr:wR step M s out L=some L'):yG out step M s0 (i+1) L':=by
 have:=FW (h.reach s (List.mem_of_getElem? hs)) out L [] (fun _ h=>h) h hs (fun _ h=>nomatch h)
 rw [hr] at this
 obtain ⟨q1,q2,_,q4⟩:=this
 have hi:i < L'.length:=(List.getElem?_eq_some_iff.1 q2).1
 refine ⟨q1.nodup,q1.start,q1.reach,q1.len,hi,fun j x hj hx a ha=>?_⟩
 by_cases lv:j=i
 ·subst lv
  rw [q2] at hx
  cases hx
  exact q4 a ha
 ·exact q1.done j x (by omega) hx a ha
theorem yG.many {s0 s:α} {i:Nat} {L:List α} (h:yG out step M s0 i L) (hs:L[i]? = some s) (hr:wR step M s out L=none):M1 out step M s0:=by
 have:=FW (h.reach s (List.mem_of_getElem? hs)) out L [] (fun _ h=>h) h hs (fun _ h=>nomatch h)
 rw [hr] at this
 exact this
theorem yG.ao2 {s0:α} {i:Nat} {L:List α} (h:yG out step M s0 i L) (hi:L.length≤i):zx out step s0 L:=
 R5 h.nodup h.start h.reach fun x hx a ha=>by
  obtain ⟨j,hj,rfl⟩:=List.getElem_of_mem hx
  exact h.done j _ (by omega) (List.getElem?_eq_getElem hj) a ha
theorem yG.base {s0:α} (hM:0 < M):yG out step M s0 0 [s0]:=
 ⟨by simp,by simp,fun x hx=>by simp at hx; subst hx; exact .base,by simp; omega,by simp,fun j x hj=>absurd hj (Nat.not_lt_zero _)⟩
end
end Go.Li
namespace Go.Proofs.YtcnehblmgfbfoaaGreat
open Go Go.Li
theorem D6 {α:Type} (x:List α) (z:α) {i:Nat} {v:α} (h:x[i]? = some v) :
  (x.take i++List.replicate (x.length - i) z).set i v=x.take (i+1)++List.replicate (x.length - (i+1)) z:=by
 have hi:=bf h
 rw [p8 h]
 have e:x.length - i=(x.length - (i+1))+1:=by omega
 rw [List.set_append_right _ _ (by simp; omega),e,List.replicate_succ]
 simp only [List.length_take]
 rw [show i - min i x.length=0 by omega]
 simp
theorem get_copy {α:Type} (x:List α) (z:α) {i:Nat} {v:α} (h:x[i]? = some v):(x.take i++List.replicate (x.length - i) z)[i]? = some z:=by
 have hi:=bf h
 rw [List.getElem?_append_right (by simp; omega)]
 simp only [List.length_take]
 rw [show i - min i x.length=0 by omega,List.getElem?_replicate,if_pos (by omega)]
theorem Pk:∀ {x y:List Int},x.length=y.length→(((x.zip y).any fun p=>p.1 != p.2) = !(x == y)):=by
 intro x
 induction x with
 | nil=>intro y h; cases y with | nil=>rfl | cons=>simp at h
 | cons a x ih=>
  intro y h
  cases y with
  | nil=>simp at h
  | cons b y=>
   have:=ih (y:=y) (by simpa using h)
   rw [List.zip_cons_cons,List.any_cons,this]
   by_cases oy:a=b <;> simp [oy,bne]
theorem Dd {α β:Type} {x:List α} {y:List β} {i:Nat} {p:α×β} (h:(x.zip y)[i]? = some p):x[i]? = some p.1∧y[i]? = some p.2:=by
 rw [List.getElem?_zip_eq_some] at h; exact h
noncomputable def FX (x0 x1:List Int) (s:Int):Option (Out Int Bool):=
 bif decide (s < (x0.length:Int)) then ((idx x0 s)>>=fun yf=>((idx x1 s)>>=fun ub=>(bif yf != ub then some (Out.ret false) else some (Out.norm (ai (s+(1:Int))))))) else some (Out.exit 0 s)
noncomputable def Yp (x0 x1:List Int):Option Bool:=
 ao (S:=Unit) (bif (x0.length:Int) != (x1.length:Int) then some (Out.ret false) else ag (ae 0 (af (FX x0 x1) (0:Int))) fun _=>some (Out.ret true))
noncomputable def De (x0 x1:List (List Int)) (s:Int):Option (Out Int Bool):=
 bif decide (s < (x0.length:Int)) then ((idx x0 s)>>=fun yf=>((idx x1 s)>>=fun zf=>((Yp yf zf)>>=fun FM=>(bif !FM then some (Out.ret false) else some (Out.norm (ai (s+(1:Int)))))))) else some (Out.exit 0 s)
noncomputable def Yq (x0 x1:List (List Int)):Option Bool:=
 ao (S:=Unit) (bif (x0.length:Int) != (x1.length:Int) then some (Out.ret false) else ag (ae 0 (af (De x0 x1) (0:Int))) fun _=>some (Out.ret true))
theorem FY (x y:List Int) (hx:x.length≤1048576000):Yp x y=some (x == y):=by
 unfold Yp
 by_cases hl:x.length=y.length
 ·rw [show (((x.length:Int)) != ((y.length:Int)))=false by simp [hl],cond_false]
  have hz:(x.zip y).length=x.length:=by simp [hl]
  refine (congrArg ao (kc (x.zip y) (fun p=>p.1 != p.2) (fun i=>(i:Int)) rfl ?_ ?_ (e:=(x.length:Int)) (y:=false) ?_)).trans ?_
  ·intro i p hp hq
   obtain ⟨h1,h2⟩:=Dd hp
   have hi:=bf h1
   unfold FX
   rw [aw (by omega),cond_true,bn,h1,aA,bn,h2,aA,hq,cond_false,bB (by omega)]
  ·intro i p hp hq
   obtain ⟨h1,h2⟩:=Dd hp
   have hi:=bf h1
   unfold FX
   rw [aw (by omega),cond_true,bn,h1,aA,bn,h2,aA,hq,cond_true]
  ·unfold FX
   rw [aX (by omega),cond_false,hz]
  ·rw [Pk hl]
   cases x == y <;> rfl
 ·rw [show (((x.length:Int)) != ((y.length:Int)))=true by simp; omega,cond_true]
  have:(x == y)=false:=by
   apply Bool.eq_false_iff.2
   intro h
   exact hl (by rw [eq_of_beq h])
  rw [this]; rfl
theorem Kf {α:Type} [BEq α] [LawfulBEq α]:∀ {x y:List α},x.length=y.length→(((x.zip y).any fun p=>!(p.1 == p.2)) = !(x == y)):=by
 intro x
 induction x with
 | nil=>intro y h; cases y with | nil=>rfl | cons=>simp at h
 | cons a x ih=>
  intro y h
  cases y with
  | nil=>simp at h
  | cons b y=>
   have:=ih (y:=y) (by simpa using h)
   rw [List.zip_cons_cons,List.any_cons,this]
   by_cases oy:a=b <;> simp [oy]
theorem UL {α:Type} [BEq α] [LawfulBEq α] {x y:List α} (h:x.length≠y.length):(x == y)=false:=by
 apply Bool.eq_false_iff.2
 intro e
 exact h (by rw [eq_of_beq e])
theorem Lj (x y:List (List Int)) (hx:x.length≤1048576000) (hr:∀ z∈x,z.length≤1048576000):Yq x y=some (x == y):=by
 unfold Yq
 by_cases hl:x.length=y.length
 ·rw [show (((x.length:Int)) != ((y.length:Int)))=false by simp [hl],cond_false]
  have hz:(x.zip y).length=x.length:=by simp [hl]
  refine (congrArg ao (kc (x.zip y) (fun p=>!(p.1 == p.2)) (fun i=>(i:Int)) rfl ?_ ?_ (e:=(x.length:Int)) (y:=false) ?_)).trans ?_
  ·intro i p hp hq
   obtain ⟨h1,h2⟩:=Dd hp
   have hi:=bf h1
   unfold De
   rw [aw (by omega),cond_true,bn,h1,aA,bn,h2,aA,FY _ _ (hr _ (List.mem_of_getElem? h1)),aA,hq,cond_false,bB (by omega)]
  ·intro i p hp hq
   obtain ⟨h1,h2⟩:=Dd hp
   have hi:=bf h1
   unfold De
   rw [aw (by omega),cond_true,bn,h1,aA,bn,h2,aA,FY _ _ (hr _ (List.mem_of_getElem? h1)),aA,hq,cond_true]
  ·unfold De
   rw [aX (by omega),cond_false,hz]
  ·rw [Kf hl]
   cases x == y <;> rfl
 ·rw [show (((x.length:Int)) != ((y.length:Int)))=true by simp; omega,cond_true,UL hl]; rfl
structure dk (c:aH):Prop where
 f:c.aG.length≤1048576
 t:c.To.length≤1048576
 i:c.aI.length≤1048576
 k:c.aB.length≤1048576
 r:∀ x∈c.aB,x.length≤1048576
end Go.Proofs.YtcnehblmgfbfoaaGreat
namespace Go.Proofs.YtcnehblmgfbfoaaGreat
open Go Go.Li
section
variable {α R:Type} (size:α→Nat) (num:Int→α→α)
def M3 (xs:List α):Nat:=(xs.map size).sum
def M4:Int→List α→List α
 | _,[]=>[]
 | k,x :: xs=>num k x :: M4 (k+size x) xs
end
def n0 (k _x:Int):Int:=k
def s0 (_x:Int):Nat:=1
def n1:=M4 s0 n0
def s1:=M3 s0
def n2:=M4 s1 n1
def s2:=M3 s1
def n3:=M4 s2 n2
def s3:=M3 s2
end Go.Proofs.YtcnehblmgfbfoaaGreat
