/- Search in depth and search in breadth find the same elements. No condition. -/
namespace Go.Li
set_option linter.unusedSectionVars false
section
variable {α A : Type} [DecidableEq α] (out : List A) (step : α → A → α) (has : α → A → Bool) (M : Nat)

/-- search in depth, at most n deep -/
def dfs : Nat → α → List α → Option (List α)
  | 0, _, _ => none
  | n + 1, s, F => if s ∈ F ∨ M < F.length then some F else out.foldlM (fun F a => if has s a then some F else dfs n (step s a) F) (F ++ [s])

inductive Reaches (s0 : α) : α → Prop
  | base : Reaches s0 s0
  | step {s a} : Reaches s0 s → a ∈ out → Reaches s0 (step s a)

variable {out step has M}

theorem Reaches.trans {s0 s t : α} (h : Reaches out step s0 s) (k : Reaches out step s t) : Reaches out step s0 t := by
  induction k with
  | base => exact h
  | step _ ha ih => exact .step ih ha

/-- what a piece of the search does -/
structure Went (out : List A) (step : α → A → α) (M : Nat) (R : α → Prop) (F F' : List α) : Prop where
  pre : F <+: F'
  nodup : F.Nodup → F'.Nodup
  reach : ∀ x ∈ F', x ∈ F ∨ R x
  closed : F'.length ≤ M → ∀ x ∈ F', x ∉ F → ∀ a ∈ out, step x a ∈ F'

theorem foldlM_cons_some {β γ : Type} {f : β → γ → Option β} {b : β} {c : γ} {l : List γ} {r : β} (h : (c :: l).foldlM f b = some r) : ∃ b', f b c = some b' ∧ l.foldlM f b' = some r := by
  rw [List.foldlM_cons] at h
  exact Option.bind_eq_some_iff.1 h

theorem dfs_went {R : α → Prop} (hR : ∀ s a, R s → a ∈ out → R (step s a)) (hs : ∀ s a, R s → has s a = true → step s a = s) :
    ∀ (n : Nat) (s : α) (F F' : List α), R s → dfs out step has M n s F = some F' → Went out step M R F F' ∧ (F'.length ≤ M → s ∈ F') := by
  intro n
  induction n with
  | zero => intro s F F' _ h; cases h
  | succ n ih =>
    intro s F F' hrs h
    unfold dfs at h
    split at h
    · rename_i hc
      cases h
      refine ⟨⟨List.prefix_refl _, id, fun x hx => .inl hx, fun _ x h1 h2 => absurd h1 h2⟩, fun hl => ?_⟩
      rcases hc with hc | hc
      · exact hc
      · omega
    · rename_i hc
      have hsF : s ∉ F := fun h => hc (.inl h)
      -- the loop over the arrows
      have key : ∀ (l : List A) (G F' : List α), (∀ a ∈ l, a ∈ out) → F ++ [s] <+: G → (F.Nodup → G.Nodup) → (∀ x ∈ G, x ∈ F ∨ R x) →
          (G.length ≤ M → ∀ x ∈ G, x ∉ F → x ≠ s → ∀ a ∈ out, step x a ∈ G) →
          l.foldlM (fun F a => if has s a then some F else dfs out step has M n (step s a) F) G = some F' →
          G <+: F' ∧ (F.Nodup → F'.Nodup) ∧ (∀ x ∈ F', x ∈ F ∨ R x) ∧ (F'.length ≤ M → ∀ x ∈ F', x ∉ F → x ≠ s → ∀ a ∈ out, step x a ∈ F') ∧
          (F'.length ≤ M → ∀ a ∈ l, step s a ∈ F') := by
        intro l
        induction l with
        | nil =>
          intro G F' _ h1 h2 h3 h4 h
          cases h
          exact ⟨List.prefix_refl _, h2, h3, h4, fun _ a ha => nomatch ha⟩
        | cons a l ihl =>
          intro G F' hl h1 h2 h3 h4 h
          obtain ⟨G1, hG1, hrest⟩ := foldlM_cons_some h
          have ha : a ∈ out := hl a (by simp)
          have hsG : s ∈ G := h1.subset (by simp)
          by_cases hh : has s a = true
          · rw [if_pos hh] at hG1
            cases hG1
            obtain ⟨r1, r2, r3, r4, r5⟩ := ihl G F' (fun b hb => hl b (by simp [hb])) h1 h2 h3 h4 hrest
            refine ⟨r1, r2, r3, r4, fun hM b hb => ?_⟩
            rcases List.mem_cons.1 hb with rfl | hb
            · rw [hs s b hrs hh]; exact r1.subset hsG
            · exact r5 hM b hb
          · rw [if_neg hh] at hG1
            obtain ⟨⟨q1, q2, q3, q4⟩, q5⟩ := ih (step s a) G G1 (hR s a hrs ha) hG1
            obtain ⟨r1, r2, r3, r4, r5⟩ := ihl G1 F' (fun b hb => hl b (by simp [hb])) (h1.trans q1) (fun hn => q2 (h2 hn))
              (fun x hx => (q3 x hx).elim (h3 x) .inr) (fun hM x hx hxF hxs b hb => by
                by_cases hxG : x ∈ G
                · exact q1.subset (h4 (Nat.le_trans q1.length_le hM) x hxG hxF hxs b hb)
                · exact q4 hM x hx hxG b hb) hrest
            refine ⟨q1.trans r1, r2, r3, r4, fun hM b hb => ?_⟩
            rcases List.mem_cons.1 hb with rfl | hb
            · exact r1.subset (q5 (Nat.le_trans r1.length_le hM))
            · exact r5 hM b hb
      obtain ⟨r1, r2, r3, r4, r5⟩ := key out (F ++ [s]) F' (fun a h => h) (List.prefix_refl _)
        (fun hn => List.nodup_append.2 ⟨hn, by simp, fun a ha b hb => by simp at hb; subst hb; exact fun h => hsF (h ▸ ha)⟩)
        (fun x hx => (List.mem_append.1 hx).imp id fun h => by simp at h; subst h; exact hrs)
        (fun _ x hx h1 h2 => by
          rcases List.mem_append.1 hx with h | h
          · exact absurd h h1
          · exact absurd (by simpa using h) h2) h
      refine ⟨⟨(List.prefix_append F [s]).trans r1, r2, r3, fun hM x hx hxF a ha => ?_⟩, fun _ => r1.subset (by simp)⟩
      by_cases hxs : x = s
      · subst hxs; exact r5 hM a ha
      · exact r4 hM x hx hxF hxs a ha

theorem dfs_len : ∀ (n : Nat) (s : α) (F F' : List α), dfs out step has M n s F = some F' → F.length ≤ F'.length := by
  intro n
  induction n with
  | zero => intro s F F' h; cases h
  | succ n ih =>
    intro s F F' h
    unfold dfs at h
    split at h
    · cases h; exact Nat.le_refl _
    · have key : ∀ (l : List A) (G F' : List α), l.foldlM (fun F a => if has s a then some F else dfs out step has M n (step s a) F) G = some F' → G.length ≤ F'.length := by
        intro l
        induction l with
        | nil => intro G F' h; cases h; exact Nat.le_refl _
        | cons a l ihl =>
          intro G F' h
          obtain ⟨G1, hG1, hrest⟩ := foldlM_cons_some h
          refine Nat.le_trans ?_ (ihl G1 F' hrest)
          split at hG1
          · cases hG1; exact Nat.le_refl _
          · exact ih _ _ _ hG1
      have := key out _ _ h
      simp at this
      omega
/-- enough depth: the search comes to an end -/
theorem dfs_some : ∀ (n : Nat) (s : α) (F : List α), 0 < n → M + 1 < n + F.length → ∃ F', dfs out step has M n s F = some F' := by
  intro n
  induction n with
  | zero => intro s F h; omega
  | succ n ih =>
    intro s F _ h
    unfold dfs
    split
    · exact ⟨_, rfl⟩
    · rename_i hc
      have hF : F.length ≤ M := by
        rcases Nat.lt_or_ge M F.length with h' | h'
        · exact absurd (.inr h') hc
        · exact h'
      have key : ∀ (l : List A) (G : List α), F.length + 1 ≤ G.length → ∃ F', l.foldlM (fun F a => if has s a then some F else dfs out step has M n (step s a) F) G = some F' := by
        intro l
        induction l with
        | nil => intro G _; exact ⟨G, rfl⟩
        | cons a l ihl =>
          intro G hG
          rw [List.foldlM_cons]
          cases hh : has s a with
          | true =>
            simp only [if_true]
            exact ihl G hG
          | false =>
            obtain ⟨G1, hG1⟩ := ih (step s a) G (by omega) (by omega)
            have := dfs_len _ _ _ _ hG1
            simp only [Bool.false_eq_true, if_false, hG1]
            exact ihl G1 (by omega)
      exact key out _ (by simp)

/-- what either search finds when it is not too much: all that can be reached, each once -/
structure Finds (out : List A) (step : α → A → α) (s0 : α) (L : List α) : Prop where
  nodup : L.Nodup
  mem : ∀ x, x ∈ L ↔ Reaches out step s0 x
theorem finds_mk {s0 : α} {L : List α} (hn : L.Nodup) (h0 : s0 ∈ L) (hr : ∀ x ∈ L, Reaches out step s0 x) (hc : ∀ x ∈ L, ∀ a ∈ out, step x a ∈ L) : Finds out step s0 L :=
  ⟨hn, fun x => ⟨hr x, fun h => by
    induction h with
    | base => exact h0
    | step _ ha ih => exact hc _ ih _ ha⟩⟩
/-- there are more than M that can be reached -/
def Many (out : List A) (step : α → A → α) (M : Nat) (s0 : α) : Prop := ∃ L : List α, L.Nodup ∧ M < L.length ∧ ∀ x ∈ L, Reaches out step s0 x
theorem Finds.few {s0 : α} {L : List α} (h : Finds out step s0 L) (hl : L.length ≤ M) : ¬ Many out step M s0 := by
  rintro ⟨K, k1, k2, k3⟩
  have := k1.length_le_of_subset fun x hx => (h.mem x).2 (k3 x hx)
  omega
theorem Finds.perm {s0 : α} {L K : List α} (h : Finds out step s0 L) (k : Finds out step s0 K) : L.Perm K :=
  List.perm_iff_count.2 fun a => by
    rw [h.nodup.count, k.nodup.count]
    by_cases ha : Reaches out step s0 a
    · rw [if_pos ((h.mem a).2 ha), if_pos ((k.mem a).2 ha)]
    · rw [if_neg fun hm => ha ((h.mem a).1 hm), if_neg fun hm => ha ((k.mem a).1 hm)]

theorem dfs_finds {s0 : α} (hs : ∀ s a, Reaches out step s0 s → has s a = true → step s a = s) {n : Nat} {F : List α} (h : dfs out step has M n s0 [] = some F) :
    if F.length ≤ M then Finds out step s0 F else Many out step M s0 := by
  obtain ⟨⟨_, h2, h3, h4⟩, h5⟩ := dfs_went (R := Reaches out step s0) (fun s a hs ha => .step hs ha) hs n s0 [] F .base h
  have hr : ∀ x ∈ F, Reaches out step s0 x := fun x hx => (h3 x hx).resolve_left (by simp)
  split
  · rename_i hM
    exact finds_mk (h2 List.nodup_nil) (h5 hM) hr fun x hx a ha => h4 hM x hx (by simp) a ha
  · exact ⟨F, h2 List.nodup_nil, by omega, hr⟩
/-- search in breadth: what one element leads to -/
def bfsRow (step : α → A → α) (M : Nat) (s : α) (l : List A) (L : List α) : Option (List α) :=
  l.foldlM (fun L a => if step s a ∈ L then some L else if L.length = M then none else some (L ++ [step s a])) L

structure BInv (out : List A) (step : α → A → α) (M : Nat) (s0 : α) (i : Nat) (L : List α) : Prop where
  nodup : L.Nodup
  start : s0 ∈ L
  reach : ∀ x ∈ L, Reaches out step s0 x
  len : L.length ≤ M
  idx : i ≤ L.length
  done : ∀ j x, j < i → L[j]? = some x → ∀ a ∈ out, step x a ∈ L

theorem bfsRow_inv {s0 s : α} {i : Nat} (hs : Reaches out step s0 s) : ∀ (l : List A) (L : List α) (p : List A), (∀ a ∈ l, a ∈ out) → BInv out step M s0 i L → L[i]? = some s → (∀ a ∈ p, step s a ∈ L) →
    match bfsRow step M s l L with
    | some L' => BInv out step M s0 i L' ∧ L'[i]? = some s ∧ (∀ a ∈ p, step s a ∈ L') ∧ (∀ a ∈ l, step s a ∈ L')
    | none => Many out step M s0 := by
  intro l
  induction l with
  | nil => intro L p _ h1 h2 h3; exact ⟨h1, h2, h3, fun _ h => nomatch h⟩
  | cons a l ih =>
    intro L p hl h1 h2 h3
    have ha : a ∈ out := hl a (by simp)
    unfold bfsRow
    rw [List.foldlM_cons]
    by_cases hm : step s a ∈ L
    · rw [if_pos hm]
      have := ih L (a :: p) (fun b hb => hl b (by simp [hb])) h1 h2 (fun b hb => (List.mem_cons.1 hb).elim (fun e => e ▸ hm) (h3 b))
      show match bfsRow step M s l L with | some L' => _ | none => _
      cases hr : bfsRow step M s l L with
      | none => rw [hr] at this; exact this
      | some L' =>
        rw [hr] at this
        obtain ⟨q1, q2, q3, q4⟩ := this
        exact ⟨q1, q2, fun b hb => q3 b (by simp [hb]), fun b hb => (List.mem_cons.1 hb).elim (fun e => e ▸ q3 a (by simp)) (q4 b)⟩
    · rw [if_neg hm]
      have hn2 : (L ++ [step s a]).Nodup := List.nodup_append.2 ⟨h1.nodup, by simp, fun x hx y hy => by simp at hy; subst hy; exact fun h => hm (h ▸ hx)⟩
      have hr2 : ∀ x ∈ L ++ [step s a], Reaches out step s0 x := fun x hx => (List.mem_append.1 hx).elim (h1.reach x) fun h => by simp at h; subst h; exact .step hs ha
      by_cases hM : L.length = M
      · rw [if_pos hM]
        exact ⟨L ++ [step s a], hn2, by simp; omega, hr2⟩
      · rw [if_neg hM]
        have hi : i < L.length := (List.getElem?_eq_some_iff.1 h2).1
        have hlen := h1.len
        have := ih (L ++ [step s a]) (a :: p) (fun b hb => hl b (by simp [hb]))
          ⟨hn2, List.mem_append_left _ h1.start, hr2, by simp; omega, by simp; omega, fun j x hj hx b hb => List.mem_append_left _ (h1.done j x hj (by rwa [List.getElem?_append_left (by omega)] at hx) b hb)⟩
          (by rw [List.getElem?_append_left hi]; exact h2) (fun b hb => (List.mem_cons.1 hb).elim (fun e => by simp [e]) fun h => List.mem_append_left _ (h3 b h))
        show match bfsRow step M s l (L ++ [step s a]) with | some L' => _ | none => _
        cases hr : bfsRow step M s l (L ++ [step s a]) with
        | none => rw [hr] at this; exact this
        | some L' =>
          rw [hr] at this
          obtain ⟨q1, q2, q3, q4⟩ := this
          exact ⟨q1, q2, fun b hb => q3 b (by simp [hb]), fun b hb => (List.mem_cons.1 hb).elim (fun e => e ▸ q3 a (by simp)) (q4 b)⟩

theorem BInv.next {s0 s : α} {i : Nat} {L L' : List α} (h : BInv out step M s0 i L) (hs : L[i]? = some s) (hr : bfsRow step M s out L = some L') : BInv out step M s0 (i + 1) L' := by
  have := bfsRow_inv (h.reach s (List.mem_of_getElem? hs)) out L [] (fun _ h => h) h hs (fun _ h => nomatch h)
  rw [hr] at this
  obtain ⟨q1, q2, _, q4⟩ := this
  have hi : i < L'.length := (List.getElem?_eq_some_iff.1 q2).1
  refine ⟨q1.nodup, q1.start, q1.reach, q1.len, hi, fun j x hj hx a ha => ?_⟩
  by_cases hji : j = i
  · subst hji
    rw [q2] at hx
    cases hx
    exact q4 a ha
  · exact q1.done j x (by omega) hx a ha
theorem BInv.many {s0 s : α} {i : Nat} {L : List α} (h : BInv out step M s0 i L) (hs : L[i]? = some s) (hr : bfsRow step M s out L = none) : Many out step M s0 := by
  have := bfsRow_inv (h.reach s (List.mem_of_getElem? hs)) out L [] (fun _ h => h) h hs (fun _ h => nomatch h)
  rw [hr] at this
  exact this
theorem BInv.finds {s0 : α} {i : Nat} {L : List α} (h : BInv out step M s0 i L) (hi : L.length ≤ i) : Finds out step s0 L :=
  finds_mk h.nodup h.start h.reach fun x hx a ha => by
    obtain ⟨j, hj, rfl⟩ := List.getElem_of_mem hx
    exact h.done j _ (by omega) (List.getElem?_eq_getElem hj) a ha
theorem BInv.base {s0 : α} (hM : 0 < M) : BInv out step M s0 0 [s0] :=
  ⟨by simp, by simp, fun x hx => by simp at hx; subst hx; exact .base, by simp; omega, by simp, fun j x hj => absurd hj (Nat.not_lt_zero _)⟩
end
end Go.Li
