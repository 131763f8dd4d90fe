/- Loops and partial operations of models, reckoned. No condition. -/
import Derived.Test.YtcmckiiafgcmjaaGreatLa
namespace Go.Li
open Go
section
variable {S S1 R α : Type} {body : S → Option (Out S R)}

theorem loopM_steps (f : Nat → S) (n : Nat) (h : ∀ i, i < n → body (f i) = some (.norm (f (i + 1)))) : loopM body (f 0) = loopM body (f n) := by
  induction n with
  | zero => rfl
  | succ n ih => rw [ih fun i hi => h i (by omega), loopM_eq (s := f n), h n (by omega)]
theorem loopM_exit {s s' : S} {k : Nat} (h : body s = some (.exit k s')) : loopM body s = some (.exit k s') := by rw [loopM_eq, h]
theorem loopM_ret {s : S} {x : R} (h : body s = some (.ret x)) : loopM body s = some (.ret x) := by rw [loopM_eq, h]
theorem lb_exit {k : Nat} {m : Option (Out S1 R)} {s : S1} {f : S1 → Option (Out S R)} (h : m = some (.exit k s)) : lbind (blockM k m) f = f s := by
  rw [h]; simp [blockM, blkO, lbind]
theorem lb_ret {k : Nat} {m : Option (Out S1 R)} {x : R} {f : S1 → Option (Out S R)} (h : m = some (.ret x)) : lbind (blockM k m) f = some (.ret x) := by
  rw [h]; rfl

/-- a loop over all of a list -/
theorem for_list {k : Nat} (l : List α) (st : Nat → S) {e : S} (step : ∀ i x, l[i]? = some x → body (st i) = some (.norm (st (i + 1)))) (last : body (st l.length) = some (.exit k e)) :
    loopM body (st 0) = some (.exit k e) := by
  rw [loopM_steps st l.length fun i hi => step i l[i] (List.getElem?_eq_getElem hi)]
  exact loopM_exit last
/-- a loop over a list that stops where p holds -/
theorem for_any {k : Nat} (l : List α) (p : α → Bool) (st : Nat → S) {e : S} {y : R} (step : ∀ i x, l[i]? = some x → p x = false → body (st i) = some (.norm (st (i + 1))))
    (hit : ∀ i x, l[i]? = some x → p x = true → body (st i) = some (.ret y)) (last : body (st l.length) = some (.exit k e)) :
    loopM body (st 0) = some (if l.any p then .ret y else .exit k e) := by
  have key : ∀ (m : List α) (i : Nat), l.drop i = m → i ≤ l.length → loopM body (st i) = some (if m.any p then .ret y else .exit k e) := by
    intro m
    induction m with
    | nil =>
      intro i hd hi
      have : i = l.length := by have := congrArg List.length hd; simp at this; omega
      subst this
      simp only [List.any_nil, Bool.false_eq_true, if_false]
      exact loopM_exit last
    | cons x m ih =>
      intro i hd hi
      have hlt : i < l.length := by
        rcases Nat.lt_or_ge i l.length with h | h
        · exact h
        · rw [List.drop_eq_nil_of_le h] at hd; cases hd
      have hx : l[i]? = some x := by
        rw [List.drop_eq_getElem_cons hlt] at hd
        rw [List.getElem?_eq_getElem hlt]; exact congrArg some (List.cons.inj hd).1
      have hd' : l.drop (i + 1) = m := by
        rw [List.drop_eq_getElem_cons hlt] at hd; exact (List.cons.inj hd).2
      cases hp : p x with
      | true => simp only [List.any_cons, hp, Bool.true_or, if_true]; exact loopM_ret (hit i x hx hp)
      | false =>
        simp only [List.any_cons, hp, Bool.false_or]
        rw [loopM_eq, step i x hx hp]
        exact ih (i + 1) hd' hlt
  exact key l 0 rfl (Nat.zero_le _)
end

section
variable {S S1 R α : Type} {body : S1 → Option (Out S1 R)}
theorem for_all {k : Nat} {f : S1 → Option (Out S R)} {s0 e : S1} (l : List α) (st : Nat → S1) (h0 : st 0 = s0) (step : ∀ i x, l[i]? = some x → body (st i) = some (.norm (st (i + 1)))) (last : body (st l.length) = some (.exit k e)) :
    lbind (blockM k (loopM body s0)) f = f e := lb_exit (h0 ▸ for_list l st step last)
theorem for_anyb {k : Nat} {f : S1 → Option (Out S R)} {s0 e : S1} {y : R} (l : List α) (p : α → Bool) (st : Nat → S1) (h0 : st 0 = s0) (step : ∀ i x, l[i]? = some x → p x = false → body (st i) = some (.norm (st (i + 1))))
    (hit : ∀ i x, l[i]? = some x → p x = true → body (st i) = some (.ret y)) (last : body (st l.length) = some (.exit k e)) :
    lbind (blockM k (loopM body s0)) f = if l.any p then some (.ret y) else f e := by
  have h := for_any l p st step hit last
  rw [h0] at h
  cases hp : l.any p with
  | true => rw [hp] at h; exact lb_ret h
  | false => rw [hp] at h; exact lb_exit h
end

theorem idx_nat {α : Type} (l : List α) (i : Nat) : idx l (i : Int) = l[i]? := by simp [idx]
theorem idx_of {α : Type} {l : List α} {j : Int} (h0 : 0 ≤ j) : idx l j = l[j.toNat]? := by simp [idx, h0]
theorem idx_lt {α : Type} {l : List α} {j : Int} (h0 : 0 ≤ j) (h1 : j < l.length) : idx l j = some (l[j.toNat]'(by omega)) := by
  rw [idx_of h0, List.getElem?_eq_getElem]
theorem w64_id {a : Int} (h1 : -9223372036854775808 ≤ a) (h2 : a ≤ 9223372036854775807) : w64 a = a := by
  unfold w64 IntKind.wrap
  simp [IntKind.bits, IntKind.signed]
  omega
theorem w64_nat {i : Nat} (h : i < 9223372036854775807) : w64 ((i : Int) + 1) = ((i + 1 : Nat) : Int) := by
  rw [w64_id (by omega) (by omega)]; omega
theorem fits_ok {b n : Nat} (h1 : n * b ≤ 140737488355328) (h2 : n ≤ 9223372036854775807) : fits b n = some () := by simp [fits, h1, h2]
theorem mk_ok {b n : Nat} (h1 : b * n ≤ 281474976710656) (h2 : n ≤ 9223372036854775807) : mk b (n : Int) = some n := by simp [mk, h1, h2]
theorem decT {p : Prop} [Decidable p] (h : p) : decide p = true := decide_eq_true h
theorem decF {p : Prop} [Decidable p] (h : ¬ p) : decide p = false := decide_eq_false h
theorem bneT {α : Type} [BEq α] [LawfulBEq α] {a b : α} (h : a ≠ b) : (a != b) = true := by simp [h]
theorem bneF {α : Type} [BEq α] [LawfulBEq α] {a b : α} (h : a = b) : (a != b) = false := by simp [h]
theorem beqT {α : Type} [BEq α] [LawfulBEq α] {a b : α} (h : a = b) : (a == b) = true := by simp [h]
theorem beqF {α : Type} [BEq α] [LawfulBEq α] {a b : α} (h : a ≠ b) : (a == b) = false := by simp [h]
theorem some_bind' {α β : Type} (x : α) (f : α → Option β) : ((some x) >>= f) = f x := rfl
theorem take_succ_get {α : Type} {l : List α} {i : Nat} {x : α} (h : l[i]? = some x) : l.take (i + 1) = l.take i ++ [x] := by
  rw [List.take_add_one, h]; rfl
theorem getElem?_lt {α : Type} {l : List α} {i : Nat} {x : α} (h : l[i]? = some x) : i < l.length := (List.getElem?_eq_some_iff.1 h).1
end Go.Li
