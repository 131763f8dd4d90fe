/- Loops and partial operations of models, reckoned. No condition. -/
import Derived.Test.YtkhdhnpokfibjaaGreatLa
import Derived.Test.YtkhdhnpokfibjaaGreatMo
namespace Go.Li
open Go
section
variable {S S1 R α:Type} {body:S→Option (Out S R)}
theorem loopM_steps (f:Nat→S) (n:Nat) (h:∀ i,i < n→body (f i)=some (.norm (f (i+1)))):loopM body (f 0)=loopM body (f n):=by
 induction n with
 | zero=>rfl
 | succ n ih=>rw [ih fun i hi=>h i (by omega),loopM_eq (s:=f n),h n (by omega)]
theorem loopM_exit {s s':S} {k:Nat} (h:body s=some (.exit k s')):loopM body s=some (.exit k s'):=by rw [loopM_eq,h]
theorem loopM_ret {s:S} {x:R} (h:body s=some (.ret x)):loopM body s=some (.ret x):=by rw [loopM_eq,h]
theorem lb_exit {k:Nat} {m:Option (Out S1 R)} {s:S1} {f:S1→Option (Out S R)} (h:m=some (.exit k s)):lbind (blockM k m) f=f s:=by
 rw [h]; simp [blockM,blkO,lbind]
theorem lb_ret {k:Nat} {m:Option (Out S1 R)} {x:R} {f:S1→Option (Out S R)} (h:m=some (.ret x)):lbind (blockM k m) f=some (.ret x):=by
 rw [h]; rfl
theorem for_list {k:Nat} (l:List α) (st:Nat→S) {e:S} (step:∀ i x,l[i]? = some x→body (st i)=some (.norm (st (i+1)))) (last:body (st l.length)=some (.exit k e)) :
  loopM body (st 0)=some (.exit k e):=by
 rw [loopM_steps st l.length fun i hi=>step i l[i] (List.getElem?_eq_getElem hi)]
 exact loopM_exit last
theorem for_any {k:Nat} (l:List α) (p:α→Bool) (st:Nat→S) {e:S} {y:R} (step:∀ i x,l[i]? = some x→p x=false→body (st i)=some (.norm (st (i+1))))
  (hit:∀ i x,l[i]? = some x→p x=true→body (st i)=some (.ret y)) (last:body (st l.length)=some (.exit k e)) :
  loopM body (st 0)=some (if l.any p then .ret y else .exit k e):=by
 have key:∀ (m:List α) (i:Nat),l.drop i=m→i≤l.length→loopM body (st i)=some (if m.any p then .ret y else .exit k e):=by
  intro m
  induction m with
  | nil=>
   intro i hd hi
   have:i=l.length:=by have:=congrArg List.length hd; simp at this; omega
   subst this
   simp only [List.any_nil,Bool.false_eq_true,if_false]
   exact loopM_exit last
  | cons x m ih=>
   intro i hd hi
   have hlt:i < l.length:=by
    rcases Nat.lt_or_ge i l.length with h | h
    ·exact h
    ·rw [List.drop_eq_nil_of_le h] at hd; cases hd
   have hx:l[i]? = some x:=by
    rw [List.drop_eq_getElem_cons hlt] at hd
    rw [List.getElem?_eq_getElem hlt]; exact congrArg some (List.cons.inj hd).1
   have hd':l.drop (i+1)=m:=by
    rw [List.drop_eq_getElem_cons hlt] at hd; exact (List.cons.inj hd).2
   cases hp:p x with
   | true=>simp only [List.any_cons,hp,Bool.true_or,if_true]; exact loopM_ret (hit i x hx hp)
   | false=>
    simp only [List.any_cons,hp,Bool.false_or]
    rw [loopM_eq,step i x hx hp]
    exact ih (i+1) hd' hlt
 exact key l 0 rfl (Nat.zero_le _)
end
section
variable {S S1 R α:Type} {body:S1→Option (Out S1 R)}
theorem for_all {k:Nat} {f:S1→Option (Out S R)} {s0 e:S1} (l:List α) (st:Nat→S1) (h0:st 0=s0) (step:∀ i x,l[i]? = some x→body (st i)=some (.norm (st (i+1)))) (last:body (st l.length)=some (.exit k e)) :
  lbind (blockM k (loopM body s0)) f=f e:=lb_exit (h0 ▸ for_list l st step last)
theorem for_anyb {k:Nat} {f:S1→Option (Out S R)} {s0 e:S1} {y:R} (l:List α) (p:α→Bool) (st:Nat→S1) (h0:st 0=s0) (step:∀ i x,l[i]? = some x→p x=false→body (st i)=some (.norm (st (i+1))))
  (hit:∀ i x,l[i]? = some x→p x=true→body (st i)=some (.ret y)) (last:body (st l.length)=some (.exit k e)) :
  lbind (blockM k (loopM body s0)) f=if l.any p then some (.ret y) else f e:=by
 have h:=for_any l p st step hit last
 rw [h0] at h
 cases hp:l.any p with
 | true=>rw [hp] at h; exact lb_ret h
 | false=>rw [hp] at h; exact lb_exit h
end
theorem idx_nat {α:Type} (l:List α) (i:Nat):idx l (i:Int)=l[i]?:=by simp [idx]
theorem idx_of {α:Type} {l:List α} {j:Int} (h0:0≤j):idx l j=l[j.toNat]?:=by simp [idx,h0]
theorem idx_lt {α:Type} {l:List α} {j:Int} (h0:0≤j) (h1:j < l.length):idx l j=some (l[j.toNat]'(by omega)):=by
 rw [idx_of h0,List.getElem?_eq_getElem]
theorem eX {a:Int} (h1 : -9223372036854775808≤a) (h2:a≤9223372036854775807):w64 a=a:=by
 unfold w64 IntKind.wrap
 simp [IntKind.bits,IntKind.signed]
 omega
theorem cP {i:Nat} (h:i < 9223372036854775807):w64 ((i:Int)+1)=((i+1:Nat):Int):=by
 rw [eX (by omega) (by omega)]; omega
theorem fA {b n:Nat} (h1:n * b≤140737488355328) (h2:n≤9223372036854775807):fits b n=some ():=by simp [fits,h1,h2]
theorem mk_ok {b n:Nat} (h1:b * n≤281474976710656) (h2:n≤9223372036854775807):mk b (n:Int)=some n:=by simp [mk,h1,h2]
theorem decT {p:Prop} [Decidable p] (h:p):decide p=true:=decide_eq_true h
theorem decF {p:Prop} [Decidable p] (h : ¬ p):decide p=false:=decide_eq_false h
theorem bneT {α:Type} [BEq α] [LawfulBEq α] {a b:α} (h:a≠b):(a != b)=true:=by simp [h]
theorem bneF {α:Type} [BEq α] [LawfulBEq α] {a b:α} (h:a=b):(a != b)=false:=by simp [h]
theorem beqT {α:Type} [BEq α] [LawfulBEq α] {a b:α} (h:a=b):(a == b)=true:=by simp [h]
theorem beqF {α:Type} [BEq α] [LawfulBEq α] {a b:α} (h:a≠b):(a == b)=false:=by simp [h]
theorem aH {α β:Type} (x:α) (f:α→Option β):((some x)>>=f)=f x:=rfl
theorem take_succ_get {α:Type} {l:List α} {i:Nat} {x:α} (h:l[i]? = some x):l.take (i+1)=l.take i++[x]:=by
 rw [List.take_add_one,h]; rfl
theorem getElem?_lt {α:Type} {l:List α} {i:Nat} {x:α} (h:l[i]? = some x):i < l.length:=(List.getElem?_eq_some_iff.1 h).1
end Go.Li
namespace Go.Li
set_option linter.unusedSectionVars false
section
variable {α A:Type} [DecidableEq α] (out:List A) (step:α→A→α) (has:α→A→Bool) (M:Nat)
inductive Reaches (s0:α):α→Prop
 | base:Reaches s0 s0
 | step {s a}:Reaches s0 s→a∈out→Reaches s0 (step s a)
variable {out step has M}
theorem Reaches.trans {s0 s t:α} (h:Reaches out step s0 s) (k:Reaches out step s t):Reaches out step s0 t:=by
 induction k with
 | base=>exact h
 | step _ ha ih=>exact .step ih ha
structure Finds (out:List A) (step:α→A→α) (s0:α) (L:List α):Prop where
 nodup:L.Nodup
 mem:∀ x,x∈L↔Reaches out step s0 x
theorem finds_mk {s0:α} {L:List α} (hn:L.Nodup) (h0:s0∈L) (hr:∀ x∈L,Reaches out step s0 x) (hc:∀ x∈L,∀ a∈out,step x a∈L):Finds out step s0 L:=
 ⟨hn,fun x=>⟨hr x,fun h=>by
  induction h with
  | base=>exact h0
  | step _ ha ih=>exact hc _ ih _ ha⟩⟩
def Many (out:List A) (step:α→A→α) (M:Nat) (s0:α):Prop:=∃ L:List α,L.Nodup∧M < L.length∧∀ x∈L,Reaches out step s0 x
theorem Finds.few {s0:α} {L:List α} (h:Finds out step s0 L) (hl:L.length≤M) : ¬ Many out step M s0:=by
 rintro ⟨K,k1,k2,k3⟩
 have:=k1.length_le_of_subset fun x hx=>(h.mem x).2 (k3 x hx)
 omega
theorem Finds.perm {s0:α} {L K:List α} (h:Finds out step s0 L) (k:Finds out step s0 K):L.Perm K:=
 List.perm_iff_count.2 fun a=>by
  rw [h.nodup.count,k.nodup.count]
  by_cases ha:Reaches out step s0 a
  ·rw [if_pos ((h.mem a).2 ha),if_pos ((k.mem a).2 ha)]
  ·rw [if_neg fun hm=>ha ((h.mem a).1 hm),if_neg fun hm=>ha ((k.mem a).1 hm)]
def bfsRow (step:α→A→α) (M:Nat) (s:α) (l:List A) (L:List α):Option (List α):=
 l.foldlM (fun L a=>if step s a∈L then some L else if L.length=M then none else some (L++[step s a])) L
structure BInv (out:List A) (step:α→A→α) (M:Nat) (s0:α) (i:Nat) (L:List α):Prop where
 nodup:L.Nodup
 start:s0∈L
 reach:∀ x∈L,Reaches out step s0 x
 len:L.length≤M
 idx:i≤L.length
 done:∀ j x,j < i→L[j]? = some x→∀ a∈out,step x a∈L
theorem bfsRow_inv {s0 s:α} {i:Nat} (hs:Reaches out step s0 s):∀ (l:List A) (L:List α) (p:List A),(∀ a∈l,a∈out)→BInv out step M s0 i L→L[i]? = some s→(∀ a∈p,step s a∈L)→
  match bfsRow step M s l L with
  | some L'=>BInv out step M s0 i L'∧L'[i]? = some s∧(∀ a∈p,step s a∈L')∧(∀ a∈l,step s a∈L')
  | none=>Many out step M s0:=by
 intro l
 induction l with
 | nil=>intro L p _ h1 h2 h3; exact ⟨h1,h2,h3,fun _ h=>nomatch h⟩
 | cons a l ih=>
  intro L p hl h1 h2 h3
  have ha:a∈out:=hl a (by simp)
  unfold bfsRow
  rw [List.foldlM_cons]
  by_cases hm:step s a∈L
  ·rw [if_pos hm]
   have:=ih L (a :: p) (fun b hb=>hl b (by simp [hb])) h1 h2 (fun b hb=>(List.mem_cons.1 hb).elim (fun e=>e ▸ hm) (h3 b))
   show match bfsRow step M s l L with | some L'=>_ | none=>_
   cases hr:bfsRow step M s l L with
   | none=>rw [hr] at this; exact this
   | some L'=>
    rw [hr] at this
    obtain ⟨q1,q2,q3,q4⟩:=this
    exact ⟨q1,q2,fun b hb=>q3 b (by simp [hb]),fun b hb=>(List.mem_cons.1 hb).elim (fun e=>e ▸ q3 a (by simp)) (q4 b)⟩
  ·rw [if_neg hm]
   have hn2:(L++[step s a]).Nodup:=List.nodup_append.2 ⟨h1.nodup,by simp,fun x hx y hy=>by simp at hy; subst hy; exact fun h=>hm (h ▸ hx)⟩
   have hr2:∀ x∈L++[step s a],Reaches out step s0 x:=fun x hx=>(List.mem_append.1 hx).elim (h1.reach x) fun h=>by simp at h; subst h; exact .step hs ha
   by_cases hM:L.length=M
   ·rw [if_pos hM]
    exact ⟨L++[step s a],hn2,by simp; omega,hr2⟩
   ·rw [if_neg hM]
    have hi:i < L.length:=(List.getElem?_eq_some_iff.1 h2).1
    have hlen:=h1.len
    have:=ih (L++[step s a]) (a :: p) (fun b hb=>hl b (by simp [hb]))
     ⟨hn2,List.mem_append_left _ h1.start,hr2,by simp; omega,by simp; omega,fun j x hj hx b hb=>List.mem_append_left _ (h1.done j x hj (by rwa [List.getElem?_append_left (by omega)] at hx) b hb)⟩
     (by rw [List.getElem?_append_left hi]; exact h2) (fun b hb=>(List.mem_cons.1 hb).elim (fun e=>by simp [e]) fun h=>List.mem_append_left _ (h3 b h))
    show match bfsRow step M s l (L++[step s a]) with | some L'=>_ | none=>_
    cases hr:bfsRow step M s l (L++[step s a]) with
    | none=>rw [hr] at this; exact this
    | some L'=>
     rw [hr] at this
     obtain ⟨q1,q2,q3,q4⟩:=this
     exact ⟨q1,q2,fun b hb=>q3 b (by simp [hb]),fun b hb=>(List.mem_cons.1 hb).elim (fun e=>e ▸ q3 a (by simp)) (q4 b)⟩
theorem BInv.next {s0 s:α} {i:Nat} {L L':List α} (h:BInv out step M s0 i L) (hs:L[i]? = some s) (hr:bfsRow step M s out L=some L'):BInv out step M s0 (i+1) L':=by
 have:=bfsRow_inv (h.reach s (List.mem_of_getElem? hs)) out L [] (fun _ h=>h) h hs (fun _ h=>nomatch h)
 rw [hr] at this
 obtain ⟨q1,q2,_,q4⟩:=this
 have hi:i < L'.length:=(List.getElem?_eq_some_iff.1 q2).1
 refine ⟨q1.nodup,q1.start,q1.reach,q1.len,hi,fun j x hj hx a ha=>?_⟩
 by_cases hji:j=i
 ·subst hji
  rw [q2] at hx
  cases hx
  exact q4 a ha
 ·exact q1.done j x (by omega) hx a ha
theorem BInv.many {s0 s:α} {i:Nat} {L:List α} (h:BInv out step M s0 i L) (hs:L[i]? = some s) (hr:bfsRow step M s out L=none):Many out step M s0:=by
 have:=bfsRow_inv (h.reach s (List.mem_of_getElem? hs)) out L [] (fun _ h=>h) h hs (fun _ h=>nomatch h)
 rw [hr] at this
 exact this
theorem BInv.finds {s0:α} {i:Nat} {L:List α} (h:BInv out step M s0 i L) (hi:L.length≤i):Finds out step s0 L:=
 finds_mk h.nodup h.start h.reach fun x hx a ha=>by
  obtain ⟨j,hj,rfl⟩:=List.getElem_of_mem hx
  exact h.done j _ (by omega) (List.getElem?_eq_getElem hj) a ha
theorem BInv.base {s0:α} (hM:0 < M):BInv out step M s0 0 [s0]:=
 ⟨by simp,by simp,fun x hx=>by simp at hx; subst hx; exact .base,by simp; omega,by simp,fun j x hj=>absurd hj (Nat.not_lt_zero _)⟩
end
end Go.Li
namespace Go.Proofs.YtkhdhnpokfibjaaGreat
open Go Go.Li
theorem set_copy {α:Type} (x:List α) (z:α) {i:Nat} {v:α} (h:x[i]? = some v) :
  (x.take i++List.replicate (x.length - i) z).set i v=x.take (i+1)++List.replicate (x.length - (i+1)) z:=by
 have hi:=getElem?_lt h
 rw [take_succ_get h]
 have e:x.length - i=(x.length - (i+1))+1:=by omega
 rw [List.set_append_right _ _ (by simp; omega),e,List.replicate_succ]
 simp only [List.length_take]
 rw [show i - min i x.length=0 by omega]
 simp
theorem get_copy {α:Type} (x:List α) (z:α) {i:Nat} {v:α} (h:x[i]? = some v):(x.take i++List.replicate (x.length - i) z)[i]? = some z:=by
 have hi:=getElem?_lt h
 rw [List.getElem?_append_right (by simp; omega)]
 simp only [List.length_take]
 rw [show i - min i x.length=0 by omega,List.getElem?_replicate,if_pos (by omega)]
theorem any_ne_eq:∀ {x y:List Int},x.length=y.length→(((x.zip y).any fun p=>p.1 != p.2) = !(x == y)):=by
 intro x
 induction x with
 | nil=>intro y h; cases y with | nil=>rfl | cons=>simp at h
 | cons a x ih=>
  intro y h
  cases y with
  | nil=>simp at h
  | cons b y=>
   have:=ih (y:=y) (by simpa using h)
   rw [List.zip_cons_cons,List.any_cons,this]
   by_cases hab:a=b <;> simp [hab,bne]
theorem zip_get {α β:Type} {x:List α} {y:List β} {i:Nat} {p:α×β} (h:(x.zip y)[i]? = some p):x[i]? = some p.1∧y[i]? = some p.2:=by
 rw [List.getElem?_zip_eq_some] at h; exact h
noncomputable def eqM_L0 (x0 x1:List Int) (s:Int):Option (Out Int Bool):=
 bif decide (s < (x0.length:Int)) then ((idx x0 s)>>=fun e14=>((idx x1 s)>>=fun e16=>(bif e14 != e16 then some (Out.ret false) else some (Out.norm (w64 (s+(1:Int))))))) else some (Out.exit 0 s)
noncomputable def eqM (x0 x1:List Int):Option Bool:=
 retM (S:=Unit) (bif (x0.length:Int) != (x1.length:Int) then some (Out.ret false) else lbind (blockM 0 (loopM (eqM_L0 x0 x1) (0:Int))) fun _=>some (Out.ret true))
noncomputable def eqMM_L0 (x0 x1:List (List Int)) (s:Int):Option (Out Int Bool):=
 bif decide (s < (x0.length:Int)) then ((idx x0 s)>>=fun e14=>((idx x1 s)>>=fun e21=>((eqM e14 e21)>>=fun y28=>(bif !y28 then some (Out.ret false) else some (Out.norm (w64 (s+(1:Int)))))))) else some (Out.exit 0 s)
noncomputable def eqMM (x0 x1:List (List Int)):Option Bool:=
 retM (S:=Unit) (bif (x0.length:Int) != (x1.length:Int) then some (Out.ret false) else lbind (blockM 0 (loopM (eqMM_L0 x0 x1) (0:Int))) fun _=>some (Out.ret true))
theorem eqM_ok (x y:List Int) (hx:x.length≤1048576000):eqM x y=some (x == y):=by
 unfold eqM
 by_cases hl:x.length=y.length
 ·rw [show (((x.length:Int)) != ((y.length:Int)))=false by simp [hl],cond_false]
  have hz:(x.zip y).length=x.length:=by simp [hl]
  refine (congrArg retM (for_anyb (x.zip y) (fun p=>p.1 != p.2) (fun i=>(i:Int)) rfl ?_ ?_ (e:=(x.length:Int)) (y:=false) ?_)).trans ?_
  ·intro i p hp hq
   obtain ⟨h1,h2⟩:=zip_get hp
   have hi:=getElem?_lt h1
   unfold eqM_L0
   rw [decT (by omega),cond_true,idx_nat,h1,aH,idx_nat,h2,aH,hq,cond_false,cP (by omega)]
  ·intro i p hp hq
   obtain ⟨h1,h2⟩:=zip_get hp
   have hi:=getElem?_lt h1
   unfold eqM_L0
   rw [decT (by omega),cond_true,idx_nat,h1,aH,idx_nat,h2,aH,hq,cond_true]
  ·unfold eqM_L0
   rw [decF (by omega),cond_false,hz]
  ·rw [any_ne_eq hl]
   cases x == y <;> rfl
 ·rw [show (((x.length:Int)) != ((y.length:Int)))=true by simp; omega,cond_true]
  have:(x == y)=false:=by
   apply Bool.eq_false_iff.2
   intro h
   exact hl (by rw [eq_of_beq h])
  rw [this]; rfl
theorem any_ne_rows {α:Type} [BEq α] [LawfulBEq α]:∀ {x y:List α},x.length=y.length→(((x.zip y).any fun p=>!(p.1 == p.2)) = !(x == y)):=by
 intro x
 induction x with
 | nil=>intro y h; cases y with | nil=>rfl | cons=>simp at h
 | cons a x ih=>
  intro y h
  cases y with
  | nil=>simp at h
  | cons b y=>
   have:=ih (y:=y) (by simpa using h)
   rw [List.zip_cons_cons,List.any_cons,this]
   by_cases hab:a=b <;> simp [hab]
theorem beq_len {α:Type} [BEq α] [LawfulBEq α] {x y:List α} (h:x.length≠y.length):(x == y)=false:=by
 apply Bool.eq_false_iff.2
 intro e
 exact h (by rw [eq_of_beq e])
theorem eqMM_ok (x y:List (List Int)) (hx:x.length≤1048576000) (hr:∀ z∈x,z.length≤1048576000):eqMM x y=some (x == y):=by
 unfold eqMM
 by_cases hl:x.length=y.length
 ·rw [show (((x.length:Int)) != ((y.length:Int)))=false by simp [hl],cond_false]
  have hz:(x.zip y).length=x.length:=by simp [hl]
  refine (congrArg retM (for_anyb (x.zip y) (fun p=>!(p.1 == p.2)) (fun i=>(i:Int)) rfl ?_ ?_ (e:=(x.length:Int)) (y:=false) ?_)).trans ?_
  ·intro i p hp hq
   obtain ⟨h1,h2⟩:=zip_get hp
   have hi:=getElem?_lt h1
   unfold eqMM_L0
   rw [decT (by omega),cond_true,idx_nat,h1,aH,idx_nat,h2,aH,eqM_ok _ _ (hr _ (List.mem_of_getElem? h1)),aH,hq,cond_false,cP (by omega)]
  ·intro i p hp hq
   obtain ⟨h1,h2⟩:=zip_get hp
   have hi:=getElem?_lt h1
   unfold eqMM_L0
   rw [decT (by omega),cond_true,idx_nat,h1,aH,idx_nat,h2,aH,eqM_ok _ _ (hr _ (List.mem_of_getElem? h1)),aH,hq,cond_true]
  ·unfold eqMM_L0
   rw [decF (by omega),cond_false,hz]
  ·rw [any_ne_rows hl]
   cases x == y <;> rfl
 ·rw [show (((x.length:Int)) != ((y.length:Int)))=true by simp; omega,cond_true,beq_len hl]; rfl
structure CatSmall (c:aI):Prop where
 f:c.aG.length≤1048576
 t:c.To.length≤1048576
 i:c.aJ.length≤1048576
 k:c.aF.length≤1048576
 r:∀ x∈c.aF,x.length≤1048576
end Go.Proofs.YtkhdhnpokfibjaaGreat
namespace Go.Proofs.YtkhdhnpokfibjaaGreat
open Go Go.Li
section
variable {α R:Type} (size:α→Nat) (num:Int→α→α)
def sizeR (xs:List α):Nat:=(xs.map size).sum
def numR:Int→List α→List α
 | _,[]=>[]
 | k,x :: xs=>num k x :: numR (k+size x) xs
end
def n0 (k _x:Int):Int:=k
def s0 (_x:Int):Nat:=1
def n1:=numR s0 n0
def s1:=sizeR s0
def n2:=numR s1 n1
def s2:=sizeR s1
def n3:=numR s2 n2
def s3:=sizeR s2
end Go.Proofs.YtkhdhnpokfibjaaGreat
