/- Loops and partial operations of models, reckoned. No condition. -/
import Derived.Test.YtbedkejmebepcaaGreatLa
import Derived.Test.YtbedkejmebepcaaGreatMo
namespace Go.Li
open Go
section
variable {S S1 R α : Type} {body : S → Option (Out S R)}

theorem loopM_steps (f : Nat → S) (n : Nat) (h : ∀ i, i < n → body (f i) = some (.norm (f (i + 1)))) : loopM body (f 0) = loopM body (f n) := by
  induction n with
  | zero => rfl
  | succ n ih => rw [ih fun i hi => h i (by omega), loopM_eq (s := f n), h n (by omega)]
theorem loopM_exit {s s' : S} {k : Nat} (h : body s = some (.exit k s')) : loopM body s = some (.exit k s') := by rw [loopM_eq, h]
theorem loopM_ret {s : S} {x : R} (h : body s = some (.ret x)) : loopM body s = some (.ret x) := by rw [loopM_eq, h]
theorem lb_exit {k : Nat} {m : Option (Out S1 R)} {s : S1} {f : S1 → Option (Out S R)} (h : m = some (.exit k s)) : lbind (blockM k m) f = f s := by
  rw [h]; simp [blockM, blkO, lbind]
theorem lb_ret {k : Nat} {m : Option (Out S1 R)} {x : R} {f : S1 → Option (Out S R)} (h : m = some (.ret x)) : lbind (blockM k m) f = some (.ret x) := by
  rw [h]; rfl

/-- a loop over all of a list -/
theorem for_list {k : Nat} (l : List α) (st : Nat → S) {e : S} (step : ∀ i x, l[i]? = some x → body (st i) = some (.norm (st (i + 1)))) (last : body (st l.length) = some (.exit k e)) :
    loopM body (st 0) = some (.exit k e) := by
  rw [loopM_steps st l.length fun i hi => step i l[i] (List.getElem?_eq_getElem hi)]
  exact loopM_exit last
/-- a loop over a list that stops where p holds -/
theorem for_any {k : Nat} (l : List α) (p : α → Bool) (st : Nat → S) {e : S} {y : R} (step : ∀ i x, l[i]? = some x → p x = false → body (st i) = some (.norm (st (i + 1))))
    (hit : ∀ i x, l[i]? = some x → p x = true → body (st i) = some (.ret y)) (last : body (st l.length) = some (.exit k e)) :
    loopM body (st 0) = some (if l.any p then .ret y else .exit k e) := by
  have key : ∀ (m : List α) (i : Nat), l.drop i = m → i ≤ l.length → loopM body (st i) = some (if m.any p then .ret y else .exit k e) := by
    intro m
    induction m with
    | nil =>
      intro i hd hi
      have : i = l.length := by have := congrArg List.length hd; simp at this; omega
      subst this
      simp only [List.any_nil, Bool.false_eq_true, if_false]
      exact loopM_exit last
    | cons x m ih =>
      intro i hd hi
      have hlt : i < l.length := by
        rcases Nat.lt_or_ge i l.length with h | h
        · exact h
        · rw [List.drop_eq_nil_of_le h] at hd; cases hd
      have hx : l[i]? = some x := by
        rw [List.drop_eq_getElem_cons hlt] at hd
        rw [List.getElem?_eq_getElem hlt]; exact congrArg some (List.cons.inj hd).1
      have hd' : l.drop (i + 1) = m := by
        rw [List.drop_eq_getElem_cons hlt] at hd; exact (List.cons.inj hd).2
      cases hp : p x with
      | true => simp only [List.any_cons, hp, Bool.true_or, if_true]; exact loopM_ret (hit i x hx hp)
      | false =>
        simp only [List.any_cons, hp, Bool.false_or]
        rw [loopM_eq, step i x hx hp]
        exact ih (i + 1) hd' hlt
  exact key l 0 rfl (Nat.zero_le _)
end

section
variable {S S1 R α : Type} {body : S1 → Option (Out S1 R)}
theorem for_all {k : Nat} {f : S1 → Option (Out S R)} {s0 e : S1} (l : List α) (st : Nat → S1) (h0 : st 0 = s0) (step : ∀ i x, l[i]? = some x → body (st i) = some (.norm (st (i + 1)))) (last : body (st l.length) = some (.exit k e)) :
    lbind (blockM k (loopM body s0)) f = f e := lb_exit (h0 ▸ for_list l st step last)
theorem for_anyb {k : Nat} {f : S1 → Option (Out S R)} {s0 e : S1} {y : R} (l : List α) (p : α → Bool) (st : Nat → S1) (h0 : st 0 = s0) (step : ∀ i x, l[i]? = some x → p x = false → body (st i) = some (.norm (st (i + 1))))
    (hit : ∀ i x, l[i]? = some x → p x = true → body (st i) = some (.ret y)) (last : body (st l.length) = some (.exit k e)) :
    lbind (blockM k (loopM body s0)) f = if l.any p then some (.ret y) else f e := by
  have h := for_any l p st step hit last
  rw [h0] at h
  cases hp : l.any p with
  | true => rw [hp] at h; exact lb_ret h
  | false => rw [hp] at h; exact lb_exit h
end

theorem idx_nat {α : Type} (l : List α) (i : Nat) : idx l (i : Int) = l[i]? := by simp [idx]
theorem idx_of {α : Type} {l : List α} {j : Int} (h0 : 0 ≤ j) : idx l j = l[j.toNat]? := by simp [idx, h0]
theorem idx_lt {α : Type} {l : List α} {j : Int} (h0 : 0 ≤ j) (h1 : j < l.length) : idx l j = some (l[j.toNat]'(by omega)) := by
  rw [idx_of h0, List.getElem?_eq_getElem]
theorem w64_id {a : Int} (h1 : -9223372036854775808 ≤ a) (h2 : a ≤ 9223372036854775807) : w64 a = a := by
  unfold w64 IntKind.wrap
  simp [IntKind.bits, IntKind.signed]
  omega
theorem w64_nat {i : Nat} (h : i < 9223372036854775807) : w64 ((i : Int) + 1) = ((i + 1 : Nat) : Int) := by
  rw [w64_id (by omega) (by omega)]; omega
theorem fits_ok {b n : Nat} (h1 : n * b ≤ 140737488355328) (h2 : n ≤ 9223372036854775807) : fits b n = some () := by simp [fits, h1, h2]
theorem mk_ok {b n : Nat} (h1 : b * n ≤ 281474976710656) (h2 : n ≤ 9223372036854775807) : mk b (n : Int) = some n := by simp [mk, h1, h2]
theorem decT {p : Prop} [Decidable p] (h : p) : decide p = true := decide_eq_true h
theorem decF {p : Prop} [Decidable p] (h : ¬ p) : decide p = false := decide_eq_false h
theorem bneT {α : Type} [BEq α] [LawfulBEq α] {a b : α} (h : a ≠ b) : (a != b) = true := by simp [h]
theorem bneF {α : Type} [BEq α] [LawfulBEq α] {a b : α} (h : a = b) : (a != b) = false := by simp [h]
theorem beqT {α : Type} [BEq α] [LawfulBEq α] {a b : α} (h : a = b) : (a == b) = true := by simp [h]
theorem beqF {α : Type} [BEq α] [LawfulBEq α] {a b : α} (h : a ≠ b) : (a == b) = false := by simp [h]
theorem some_bind' {α β : Type} (x : α) (f : α → Option β) : ((some x) >>= f) = f x := rfl
theorem take_succ_get {α : Type} {l : List α} {i : Nat} {x : α} (h : l[i]? = some x) : l.take (i + 1) = l.take i ++ [x] := by
  rw [List.take_add_one, h]; rfl
theorem getElem?_lt {α : Type} {l : List α} {i : Nat} {x : α} (h : l[i]? = some x) : i < l.length := (List.getElem?_eq_some_iff.1 h).1
end Go.Li
namespace Go.Li
set_option linter.unusedSectionVars false
section
variable {α A : Type} [DecidableEq α] (out : List A) (step : α → A → α) (has : α → A → Bool) (M : Nat)

/-- search in depth, at most n deep -/
def dfs : Nat → α → List α → Option (List α)
  | 0, _, _ => none
  | n + 1, s, F => if s ∈ F ∨ M < F.length then some F else out.foldlM (fun F a => if has s a then some F else dfs n (step s a) F) (F ++ [s])

inductive Reaches (s0 : α) : α → Prop
  | base : Reaches s0 s0
  | step {s a} : Reaches s0 s → a ∈ out → Reaches s0 (step s a)

variable {out step has M}

theorem Reaches.trans {s0 s t : α} (h : Reaches out step s0 s) (k : Reaches out step s t) : Reaches out step s0 t := by
  induction k with
  | base => exact h
  | step _ ha ih => exact .step ih ha

/-- what a piece of the search does -/
structure Went (out : List A) (step : α → A → α) (M : Nat) (R : α → Prop) (F F' : List α) : Prop where
  pre : F <+: F'
  nodup : F.Nodup → F'.Nodup
  reach : ∀ x ∈ F', x ∈ F ∨ R x
  closed : F'.length ≤ M → ∀ x ∈ F', x ∉ F → ∀ a ∈ out, step x a ∈ F'

theorem foldlM_cons_some {β γ : Type} {f : β → γ → Option β} {b : β} {c : γ} {l : List γ} {r : β} (h : (c :: l).foldlM f b = some r) : ∃ b', f b c = some b' ∧ l.foldlM f b' = some r := by
  rw [List.foldlM_cons] at h
  exact Option.bind_eq_some_iff.1 h

theorem dfs_went {R : α → Prop} (hR : ∀ s a, R s → a ∈ out → R (step s a)) (hs : ∀ s a, R s → has s a = true → step s a = s) :
    ∀ (n : Nat) (s : α) (F F' : List α), R s → dfs out step has M n s F = some F' → Went out step M R F F' ∧ (F'.length ≤ M → s ∈ F') := by
  intro n
  induction n with
  | zero => intro s F F' _ h; cases h
  | succ n ih =>
    intro s F F' hrs h
    unfold dfs at h
    split at h
    · rename_i hc
      cases h
      refine ⟨⟨List.prefix_refl _, id, fun x hx => .inl hx, fun _ x h1 h2 => absurd h1 h2⟩, fun hl => ?_⟩
      rcases hc with hc | hc
      · exact hc
      · omega
    · rename_i hc
      have hsF : s ∉ F := fun h => hc (.inl h)
      -- the loop over the arrows
      have key : ∀ (l : List A) (G F' : List α), (∀ a ∈ l, a ∈ out) → F ++ [s] <+: G → (F.Nodup → G.Nodup) → (∀ x ∈ G, x ∈ F ∨ R x) →
          (G.length ≤ M → ∀ x ∈ G, x ∉ F → x ≠ s → ∀ a ∈ out, step x a ∈ G) →
          l.foldlM (fun F a => if has s a then some F else dfs out step has M n (step s a) F) G = some F' →
          G <+: F' ∧ (F.Nodup → F'.Nodup) ∧ (∀ x ∈ F', x ∈ F ∨ R x) ∧ (F'.length ≤ M → ∀ x ∈ F', x ∉ F → x ≠ s → ∀ a ∈ out, step x a ∈ F') ∧
          (F'.length ≤ M → ∀ a ∈ l, step s a ∈ F') := by
        intro l
        induction l with
        | nil =>
          intro G F' _ h1 h2 h3 h4 h
          cases h
          exact ⟨List.prefix_refl _, h2, h3, h4, fun _ a ha => nomatch ha⟩
        | cons a l ihl =>
          intro G F' hl h1 h2 h3 h4 h
          obtain ⟨G1, hG1, hrest⟩ := foldlM_cons_some h
          have ha : a ∈ out := hl a (by simp)
          have hsG : s ∈ G := h1.subset (by simp)
          by_cases hh : has s a = true
          · rw [if_pos hh] at hG1
            cases hG1
            obtain ⟨r1, r2, r3, r4, r5⟩ := ihl G F' (fun b hb => hl b (by simp [hb])) h1 h2 h3 h4 hrest
            refine ⟨r1, r2, r3, r4, fun hM b hb => ?_⟩
            rcases List.mem_cons.1 hb with rfl | hb
            · rw [hs s b hrs hh]; exact r1.subset hsG
            · exact r5 hM b hb
          · rw [if_neg hh] at hG1
            obtain ⟨⟨q1, q2, q3, q4⟩, q5⟩ := ih (step s a) G G1 (hR s a hrs ha) hG1
            obtain ⟨r1, r2, r3, r4, r5⟩ := ihl G1 F' (fun b hb => hl b (by simp [hb])) (h1.trans q1) (fun hn => q2 (h2 hn))
              (fun x hx => (q3 x hx).elim (h3 x) .inr) (fun hM x hx hxF hxs b hb => by
                by_cases hxG : x ∈ G
                · exact q1.subset (h4 (Nat.le_trans q1.length_le hM) x hxG hxF hxs b hb)
                · exact q4 hM x hx hxG b hb) hrest
            refine ⟨q1.trans r1, r2, r3, r4, fun hM b hb => ?_⟩
            rcases List.mem_cons.1 hb with rfl | hb
            · exact r1.subset (q5 (Nat.le_trans r1.length_le hM))
            · exact r5 hM b hb
      obtain ⟨r1, r2, r3, r4, r5⟩ := key out (F ++ [s]) F' (fun a h => h) (List.prefix_refl _)
        (fun hn => List.nodup_append.2 ⟨hn, by simp, fun a ha b hb => by simp at hb; subst hb; exact fun h => hsF (h ▸ ha)⟩)
        (fun x hx => (List.mem_append.1 hx).imp id fun h => by simp at h; subst h; exact hrs)
        (fun _ x hx h1 h2 => by
          rcases List.mem_append.1 hx with h | h
          · exact absurd h h1
          · exact absurd (by simpa using h) h2) h
      refine ⟨⟨(List.prefix_append F [s]).trans r1, r2, r3, fun hM x hx hxF a ha => ?_⟩, fun _ => r1.subset (by simp)⟩
      by_cases hxs : x = s
      · subst hxs; exact r5 hM a ha
      · exact r4 hM x hx hxF hxs a ha

theorem dfs_len : ∀ (n : Nat) (s : α) (F F' : List α), dfs out step has M n s F = some F' → F.length ≤ F'.length := by
  intro n
  induction n with
  | zero => intro s F F' h; cases h
  | succ n ih =>
    intro s F F' h
    unfold dfs at h
    split at h
    · cases h; exact Nat.le_refl _
    · have key : ∀ (l : List A) (G F' : List α), l.foldlM (fun F a => if has s a then some F else dfs out step has M n (step s a) F) G = some F' → G.length ≤ F'.length := by
        intro l
        induction l with
        | nil => intro G F' h; cases h; exact Nat.le_refl _
        | cons a l ihl =>
          intro G F' h
          obtain ⟨G1, hG1, hrest⟩ := foldlM_cons_some h
          refine Nat.le_trans ?_ (ihl G1 F' hrest)
          split at hG1
          · cases hG1; exact Nat.le_refl _
          · exact ih _ _ _ hG1
      have := key out _ _ h
      simp at this
      omega
/-- enough depth: the search comes to an end -/
theorem dfs_some : ∀ (n : Nat) (s : α) (F : List α), 0 < n → M + 1 < n + F.length → ∃ F', dfs out step has M n s F = some F' := by
  intro n
  induction n with
  | zero => intro s F h; omega
  | succ n ih =>
    intro s F _ h
    unfold dfs
    split
    · exact ⟨_, rfl⟩
    · rename_i hc
      have hF : F.length ≤ M := by
        rcases Nat.lt_or_ge M F.length with h' | h'
        · exact absurd (.inr h') hc
        · exact h'
      have key : ∀ (l : List A) (G : List α), F.length + 1 ≤ G.length → ∃ F', l.foldlM (fun F a => if has s a then some F else dfs out step has M n (step s a) F) G = some F' := by
        intro l
        induction l with
        | nil => intro G _; exact ⟨G, rfl⟩
        | cons a l ihl =>
          intro G hG
          rw [List.foldlM_cons]
          cases hh : has s a with
          | true =>
            simp only [if_true]
            exact ihl G hG
          | false =>
            obtain ⟨G1, hG1⟩ := ih (step s a) G (by omega) (by omega)
            have := dfs_len _ _ _ _ hG1
            simp only [Bool.false_eq_true, if_false, hG1]
            exact ihl G1 (by omega)
      exact key out _ (by simp)

/-- what either search finds when it is not too much: all that can be reached, each once -/
structure Finds (out : List A) (step : α → A → α) (s0 : α) (L : List α) : Prop where
  nodup : L.Nodup
  mem : ∀ x, x ∈ L ↔ Reaches out step s0 x
theorem finds_mk {s0 : α} {L : List α} (hn : L.Nodup) (h0 : s0 ∈ L) (hr : ∀ x ∈ L, Reaches out step s0 x) (hc : ∀ x ∈ L, ∀ a ∈ out, step x a ∈ L) : Finds out step s0 L :=
  ⟨hn, fun x => ⟨hr x, fun h => by
    induction h with
    | base => exact h0
    | step _ ha ih => exact hc _ ih _ ha⟩⟩
/-- there are more than M that can be reached -/
def Many (out : List A) (step : α → A → α) (M : Nat) (s0 : α) : Prop := ∃ L : List α, L.Nodup ∧ M < L.length ∧ ∀ x ∈ L, Reaches out step s0 x
theorem Finds.few {s0 : α} {L : List α} (h : Finds out step s0 L) (hl : L.length ≤ M) : ¬ Many out step M s0 := by
  rintro ⟨K, k1, k2, k3⟩
  have := k1.length_le_of_subset fun x hx => (h.mem x).2 (k3 x hx)
  omega
theorem Finds.perm {s0 : α} {L K : List α} (h : Finds out step s0 L) (k : Finds out step s0 K) : L.Perm K :=
  List.perm_iff_count.2 fun a => by
    rw [h.nodup.count, k.nodup.count]
    by_cases ha : Reaches out step s0 a
    · rw [if_pos ((h.mem a).2 ha), if_pos ((k.mem a).2 ha)]
    · rw [if_neg fun hm => ha ((h.mem a).1 hm), if_neg fun hm => ha ((k.mem a).1 hm)]

theorem dfs_finds {s0 : α} (hs : ∀ s a, Reaches out step s0 s → has s a = true → step s a = s) {n : Nat} {F : List α} (h : dfs out step has M n s0 [] = some F) :
    if F.length ≤ M then Finds out step s0 F else Many out step M s0 := by
  obtain ⟨⟨_, h2, h3, h4⟩, h5⟩ := dfs_went (R := Reaches out step s0) (fun s a hs ha => .step hs ha) hs n s0 [] F .base h
  have hr : ∀ x ∈ F, Reaches out step s0 x := fun x hx => (h3 x hx).resolve_left (by simp)
  split
  · rename_i hM
    exact finds_mk (h2 List.nodup_nil) (h5 hM) hr fun x hx a ha => h4 hM x hx (by simp) a ha
  · exact ⟨F, h2 List.nodup_nil, by omega, hr⟩
/-- search in breadth: what one element leads to -/
def bfsRow (step : α → A → α) (M : Nat) (s : α) (l : List A) (L : List α) : Option (List α) :=
  l.foldlM (fun L a => if step s a ∈ L then some L else if L.length = M then none else some (L ++ [step s a])) L

structure BInv (out : List A) (step : α → A → α) (M : Nat) (s0 : α) (i : Nat) (L : List α) : Prop where
  nodup : L.Nodup
  start : s0 ∈ L
  reach : ∀ x ∈ L, Reaches out step s0 x
  len : L.length ≤ M
  idx : i ≤ L.length
  done : ∀ j x, j < i → L[j]? = some x → ∀ a ∈ out, step x a ∈ L

theorem bfsRow_inv {s0 s : α} {i : Nat} (hs : Reaches out step s0 s) : ∀ (l : List A) (L : List α) (p : List A), (∀ a ∈ l, a ∈ out) → BInv out step M s0 i L → L[i]? = some s → (∀ a ∈ p, step s a ∈ L) →
    match bfsRow step M s l L with
    | some L' => BInv out step M s0 i L' ∧ L'[i]? = some s ∧ (∀ a ∈ p, step s a ∈ L') ∧ (∀ a ∈ l, step s a ∈ L')
    | none => Many out step M s0 := by
  intro l
  induction l with
  | nil => intro L p _ h1 h2 h3; exact ⟨h1, h2, h3, fun _ h => nomatch h⟩
  | cons a l ih =>
    intro L p hl h1 h2 h3
    have ha : a ∈ out := hl a (by simp)
    unfold bfsRow
    rw [List.foldlM_cons]
    by_cases hm : step s a ∈ L
    · rw [if_pos hm]
      have := ih L (a :: p) (fun b hb => hl b (by simp [hb])) h1 h2 (fun b hb => (List.mem_cons.1 hb).elim (fun e => e ▸ hm) (h3 b))
      show match bfsRow step M s l L with | some L' => _ | none => _
      cases hr : bfsRow step M s l L with
      | none => rw [hr] at this; exact this
      | some L' =>
        rw [hr] at this
        obtain ⟨q1, q2, q3, q4⟩ := this
        exact ⟨q1, q2, fun b hb => q3 b (by simp [hb]), fun b hb => (List.mem_cons.1 hb).elim (fun e => e ▸ q3 a (by simp)) (q4 b)⟩
    · rw [if_neg hm]
      have hn2 : (L ++ [step s a]).Nodup := List.nodup_append.2 ⟨h1.nodup, by simp, fun x hx y hy => by simp at hy; subst hy; exact fun h => hm (h ▸ hx)⟩
      have hr2 : ∀ x ∈ L ++ [step s a], Reaches out step s0 x := fun x hx => (List.mem_append.1 hx).elim (h1.reach x) fun h => by simp at h; subst h; exact .step hs ha
      by_cases hM : L.length = M
      · rw [if_pos hM]
        exact ⟨L ++ [step s a], hn2, by simp; omega, hr2⟩
      · rw [if_neg hM]
        have hi : i < L.length := (List.getElem?_eq_some_iff.1 h2).1
        have hlen := h1.len
        have := ih (L ++ [step s a]) (a :: p) (fun b hb => hl b (by simp [hb]))
          ⟨hn2, List.mem_append_left _ h1.start, hr2, by simp; omega, by simp; omega, fun j x hj hx b hb => List.mem_append_left _ (h1.done j x hj (by rwa [List.getElem?_append_left (by omega)] at hx) b hb)⟩
          (by rw [List.getElem?_append_left hi]; exact h2) (fun b hb => (List.mem_cons.1 hb).elim (fun e => by simp [e]) fun h => List.mem_append_left _ (h3 b h))
        show match bfsRow step M s l (L ++ [step s a]) with | some L' => _ | none => _
        cases hr : bfsRow step M s l (L ++ [step s a]) with
        | none => rw [hr] at this; exact this
        | some L' =>
          rw [hr] at this
          obtain ⟨q1, q2, q3, q4⟩ := this
          exact ⟨q1, q2, fun b hb => q3 b (by simp [hb]), fun b hb => (List.mem_cons.1 hb).elim (fun e => e ▸ q3 a (by simp)) (q4 b)⟩

theorem BInv.next {s0 s : α} {i : Nat} {L L' : List α} (h : BInv out step M s0 i L) (hs : L[i]? = some s) (hr : bfsRow step M s out L = some L') : BInv out step M s0 (i + 1) L' := by
  have := bfsRow_inv (h.reach s (List.mem_of_getElem? hs)) out L [] (fun _ h => h) h hs (fun _ h => nomatch h)
  rw [hr] at this
  obtain ⟨q1, q2, _, q4⟩ := this
  have hi : i < L'.length := (List.getElem?_eq_some_iff.1 q2).1
  refine ⟨q1.nodup, q1.start, q1.reach, q1.len, hi, fun j x hj hx a ha => ?_⟩
  by_cases hji : j = i
  · subst hji
    rw [q2] at hx
    cases hx
    exact q4 a ha
  · exact q1.done j x (by omega) hx a ha
theorem BInv.many {s0 s : α} {i : Nat} {L : List α} (h : BInv out step M s0 i L) (hs : L[i]? = some s) (hr : bfsRow step M s out L = none) : Many out step M s0 := by
  have := bfsRow_inv (h.reach s (List.mem_of_getElem? hs)) out L [] (fun _ h => h) h hs (fun _ h => nomatch h)
  rw [hr] at this
  exact this
theorem BInv.finds {s0 : α} {i : Nat} {L : List α} (h : BInv out step M s0 i L) (hi : L.length ≤ i) : Finds out step s0 L :=
  finds_mk h.nodup h.start h.reach fun x hx a ha => by
    obtain ⟨j, hj, rfl⟩ := List.getElem_of_mem hx
    exact h.done j _ (by omega) (List.getElem?_eq_getElem hj) a ha
theorem BInv.base {s0 : α} (hM : 0 < M) : BInv out step M s0 0 [s0] :=
  ⟨by simp, by simp, fun x hx => by simp at hx; subst hx; exact .base, by simp; omega, by simp, fun j x hj => absurd hj (Nat.not_lt_zero _)⟩
end
end Go.Li
namespace Go.Proofs.YtbedkejmebepcaaGreat
open Go Go.Li

-- sizes
/-- all elements of the rows, counted -/
def tot (xs : List (List Int)) : Nat := (xs.map (·.length)).sum
theorem tot_cons (x : List Int) (xs : List (List Int)) : tot (x :: xs) = x.length + tot xs := by simp [tot]
theorem tot_take {xs : List (List Int)} {i : Nat} {x : List Int} (h : xs[i]? = some x) : tot (xs.take (i + 1)) = tot (xs.take i) + x.length := by
  rw [take_succ_get h]; simp [tot]
theorem tot_take_le (xs : List (List Int)) (i : Nat) : tot (xs.take i) ≤ tot xs := by
  have : tot (xs.take i ++ xs.drop i) = tot (xs.take i) + tot (xs.drop i) := by unfold tot; rw [List.map_append, List.sum_append]
  rw [List.take_append_drop] at this
  omega
/-- the size of a category -/
def catSize (c : MCategory) : Nat := c.From.length + c.To.length + c.Identity.length + (c.Composites.length + tot c.Composites)
/-- lists no longer than a machine holds -/
structure CatLens (c : MCategory) : Prop where
  f : c.From.length ≤ 9223372036854775807
  t : c.To.length ≤ 9223372036854775807
  i : c.Identity.length ≤ 9223372036854775807
  k : c.Composites.length ≤ 9223372036854775807
  r : ∀ x ∈ c.Composites, x.length ≤ 9223372036854775807
-- copies
theorem set_copy {α : Type} (x : List α) (z : α) {i : Nat} {v : α} (h : x[i]? = some v) :
    (x.take i ++ List.replicate (x.length - i) z).set i v = x.take (i + 1) ++ List.replicate (x.length - (i + 1)) z := by
  have hi := getElem?_lt h
  rw [take_succ_get h]
  have e : x.length - i = (x.length - (i + 1)) + 1 := by omega
  rw [List.set_append_right _ _ (by simp; omega), e, List.replicate_succ]
  simp only [List.length_take]
  rw [show i - min i x.length = 0 by omega]
  simp
theorem get_copy {α : Type} (x : List α) (z : α) {i : Nat} {v : α} (h : x[i]? = some v) : (x.take i ++ List.replicate (x.length - i) z)[i]? = some z := by
  have hi := getElem?_lt h
  rw [List.getElem?_append_right (by simp; omega)]
  simp only [List.length_take]
  rw [show i - min i x.length = 0 by omega, List.getElem?_replicate, if_pos (by omega)]
-- equality
theorem any_ne_eq : ∀ {x y : List Int}, x.length = y.length → (((x.zip y).any fun p => p.1 != p.2) = !(x == y)) := by
  intro x
  induction x with
  | nil => intro y h; cases y with | nil => rfl | cons => simp at h
  | cons a x ih =>
    intro y h
    cases y with
    | nil => simp at h
    | cons b y =>
      have := ih (y := y) (by simpa using h)
      rw [List.zip_cons_cons, List.any_cons, this]
      by_cases hab : a = b <;> simp [hab, bne]
theorem zip_get {α β : Type} {x : List α} {y : List β} {i : Nat} {p : α × β} (h : (x.zip y)[i]? = some p) : x[i]? = some p.1 ∧ y[i]? = some p.2 := by
  rw [List.getElem?_zip_eq_some] at h; exact h
/-- rows held against each other, by what holds elements against each other -/
theorem any_ne_rows {α : Type} [BEq α] [LawfulBEq α] : ∀ {x y : List α}, x.length = y.length → (((x.zip y).any fun p => !(p.1 == p.2)) = !(x == y)) := by
  intro x
  induction x with
  | nil => intro y h; cases y with | nil => rfl | cons => simp at h
  | cons a x ih =>
    intro y h
    cases y with
    | nil => simp at h
    | cons b y =>
      have := ih (y := y) (by simpa using h)
      rw [List.zip_cons_cons, List.any_cons, this]
      by_cases hab : a = b <;> simp [hab]
theorem beq_len {α : Type} [BEq α] [LawfulBEq α] {x y : List α} (h : x.length ≠ y.length) : (x == y) = false := by
  apply Bool.eq_false_iff.2
  intro e
  exact h (by rw [eq_of_beq e])
/-- a category that is small enough to be reckoned with -/
structure CatSmall (c : MCategory) : Prop where
  f : c.From.length ≤ 1048576
  t : c.To.length ≤ 1048576
  i : c.Identity.length ≤ 1048576
  k : c.Composites.length ≤ 1048576
  r : ∀ x ∈ c.Composites, x.length ≤ 1048576
end Go.Proofs.YtbedkejmebepcaaGreat
namespace Go.Proofs.YtbedkejmebepcaaGreat
open Go Go.Li

section
variable {α R : Type} (size : α → Nat) (num : Int → α → α)
def sizeR (xs : List α) : Nat := (xs.map size).sum
def numR : Int → List α → List α
  | _, [] => []
  | k, x :: xs => num k x :: numR (k + size x) xs
theorem sizeR_append (xs ys : List α) : sizeR size (xs ++ ys) = sizeR size xs + sizeR size ys := by simp [sizeR]
theorem sizeR_take {xs : List α} {i : Nat} {x : α} (h : xs[i]? = some x) : sizeR size (xs.take (i + 1)) = sizeR size (xs.take i) + size x := by
  rw [take_succ_get h, sizeR_append]; simp [sizeR]
theorem sizeR_take_le (xs : List α) (i : Nat) : sizeR size (xs.take i) ≤ sizeR size xs := by
  have := sizeR_append size (xs.take i) (xs.drop i)
  rw [List.take_append_drop] at this
  omega
theorem numR_append (k : Int) (xs ys : List α) : numR size num k (xs ++ ys) = numR size num k xs ++ numR size num (k + sizeR size xs) ys := by
  induction xs generalizing k with
  | nil => simp [numR, sizeR]
  | cons x xs ih =>
    simp only [List.cons_append, numR, ih]
    rw [show k + (size x : Int) + (sizeR size xs : Int) = k + (sizeR size (x :: xs) : Int) by simp [sizeR]; omega]
theorem numR_length (k : Int) (xs : List α) : (numR size num k xs).length = xs.length := by
  induction xs generalizing k with
  | nil => rfl
  | cons x xs ih => simp [numR, ih]
theorem numR_get {k : Int} {xs : List α} {i : Nat} {x : α} (h : xs[i]? = some x) : (numR size num k xs)[i]? = some (num (k + sizeR size (xs.take i)) x) := by
  have hi := getElem?_lt h
  have e : xs = xs.take i ++ x :: xs.drop (i + 1) := by
    conv => lhs; rw [← List.take_append_drop i xs]
    rw [List.drop_eq_getElem_cons hi]
    congr 2
    rw [List.getElem?_eq_getElem hi] at h; exact Option.some.inj h
  conv => lhs; rw [e]
  rw [numR_append, List.getElem?_append_right (by rw [numR_length]; simp; omega), numR_length]
  simp only [List.length_take]
  rw [show i - min i xs.length = 0 by omega]
  rfl

/-- a round of marking -/
def markBody (m : α → Int → Option (Int × α)) (a i : Int) (l : List α) : Option (Out (Int × Int × List α) R) :=
  (bif decide (i < (l.length : Int)) then ((idx l i) >>= fun e => ((m e a) >>= fun y => (some (Out.norm (y.1, w64 (i + (1 : Int)), l.set i.toNat y.2))))) else (some (Out.exit 0 (a, i, l))))
theorem mark_rows {S : Type} {f : Int × Int × List α → Option (Out S R)} {m : α → Int → Option (Int × α)} {xs : List α} {k : Int} (h0 : 0 ≤ k) (hx : xs.length ≤ 1048576000) (hs : k + sizeR size xs ≤ 4611686018427387904)
    (hm : ∀ x ∈ xs, ∀ a : Int, 0 ≤ a → a + size x ≤ 4611686018427387904 → m x a = some (a + size x, num a x)) :
    lbind (blockM 0 (loopM (fun s => markBody m s.1 s.2.1 s.2.2) (k, (0 : Int), xs))) f = f (k + sizeR size xs, (xs.length : Int), numR size num k xs) := by
  refine for_all xs (fun i => (k + sizeR size (xs.take i), (i : Int), numR size num k (xs.take i) ++ xs.drop i)) (by simp [sizeR, numR]) ?_ ?_
  · intro i x hi
    have hlt := getElem?_lt hi
    have hl : (numR size num k (xs.take i) ++ xs.drop i).length = xs.length := by rw [List.length_append, numR_length]; simp; omega
    have hg : (numR size num k (xs.take i) ++ xs.drop i)[i]? = some x := by
      rw [List.getElem?_append_right (by rw [numR_length]; simp; omega), numR_length, List.getElem?_drop]
      simp only [List.length_take]
      rw [show i + (i - min i xs.length) = i by omega]; exact hi
    have ht := sizeR_take size hi
    have hle := sizeR_take_le size xs (i + 1)
    show markBody m (k + (sizeR size (xs.take i) : Int)) (i : Int) (numR size num k (xs.take i) ++ xs.drop i) = _
    unfold markBody
    rw [hl, decT (by omega), cond_true, idx_nat, hg, some_bind', hm x (List.mem_of_getElem? hi) _ (by omega) (by omega), some_bind', w64_nat (by omega), Int.toNat_natCast]
    have e1 : (numR size num k (xs.take i) ++ xs.drop i).set i (num (k + sizeR size (xs.take i)) x) = numR size num k (xs.take (i + 1)) ++ xs.drop (i + 1) := by
      rw [take_succ_get hi, numR_append, List.drop_eq_getElem_cons hlt, List.set_append_right _ _ (by rw [numR_length]; simp; omega), numR_length]
      simp only [List.length_take]
      rw [show i - min i xs.length = 0 by omega, List.set_cons_zero, List.append_assoc]
      rfl
    rw [e1, ht]
    congr 4
    omega
  · show markBody m (k + (sizeR size (xs.take xs.length) : Int)) (xs.length : Int) (numR size num k (xs.take xs.length) ++ xs.drop xs.length) = _
    unfold markBody
    have hl : (numR size num k (xs.take xs.length) ++ xs.drop xs.length).length = xs.length := by rw [List.length_append, numR_length]; simp
    rw [hl, decF (by omega), cond_false]
    simp

/-- a round of looking -/
def heldBody (m : α → Int → Option Int) (l : List α) (a i : Int) : Option (Out (Int × Int) Int) :=
  (bif decide (i < (l.length : Int)) then ((idx l i) >>= fun e => ((m e a) >>= fun y => (bif decide (y < (0 : Int)) then (some (Out.ret (((-1 : Int))))) else (some (Out.norm (y, w64 (i + (1 : Int)))))))) else (some (Out.exit 0 (a, i))))
theorem held_rows {S : Type} {f : Int × Int → Option (Out S Int)} {m : α → Int → Option Int} {xs : List α} {k : Int} (h0 : 0 ≤ k) (hx : xs.length ≤ 1048576000) (hs : k + sizeR size xs ≤ 4611686018427387904)
    (hm : ∀ x ∈ xs, ∀ a : Int, 0 ≤ a → a + size x ≤ 4611686018427387904 → m (num a x) a = some (a + size x)) :
    lbind (blockM 0 (loopM (fun s => heldBody m (numR size num k xs) s.1 s.2) (k, (0 : Int)))) f = f (k + sizeR size xs, (xs.length : Int)) := by
  refine for_all xs (fun i => (k + sizeR size (xs.take i), (i : Int))) (by simp [sizeR]) ?_ ?_
  · intro i x hi
    have hlt := getElem?_lt hi
    have ht := sizeR_take size hi
    have hle := sizeR_take_le size xs (i + 1)
    show heldBody m _ _ _ = _
    unfold heldBody
    rw [numR_length, decT (by omega), cond_true, idx_nat, numR_get size num hi, some_bind', hm x (List.mem_of_getElem? hi) _ (by omega) (by omega), some_bind', decF (by omega), cond_false, w64_nat (by omega), ht]
    congr 3
    omega
  · show heldBody m _ _ _ = _
    unfold heldBody
    rw [numR_length, decF (by omega), cond_false]
    simp
end

/-- one number -/
def n0 (k _x : Int) : Int := k
def s0 (_x : Int) : Nat := 1
def n1 := numR s0 n0
def s1 := sizeR s0
def n2 := numR s1 n1
def s2 := sizeR s1
def n3 := numR s2 n2
def s3 := sizeR s2
theorem s1_eq (x : List Int) : s1 x = x.length := by
  unfold s1 sizeR
  induction x with
  | nil => rfl
  | cons a x ih => simp only [List.map_cons, List.sum_cons, ih, List.length_cons, s0]; omega
theorem s2_eq (x : List (List Int)) : s2 x = tot x := by
  unfold s2 sizeR tot
  congr 1
  exact List.map_congr_left fun y _ => s1_eq y
theorem catSmall_of {c : MCategory} (h : catSize c ≤ 1048576) : CatSmall c := by
  have hr : ∀ y ∈ c.Composites, y.length ≤ tot c.Composites := fun y hy => by
    obtain ⟨i, hi, rfl⟩ := List.getElem_of_mem hy
    have := tot_take (List.getElem?_eq_getElem hi)
    have := tot_take_le c.Composites (i + 1)
    omega
  unfold catSize at h
  exact ⟨by omega, by omega, by omega, by omega, fun y hy => by have := hr y hy; omega⟩
end Go.Proofs.YtbedkejmebepcaaGreat
