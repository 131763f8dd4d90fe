/- Marks are compared and counted. No condition beside those that each theorem names. -/
import Derived.Test.YtdlhbbhdfnnmnaaGreatRb
namespace Go.Proofs.YtdlhbbhdfnnmnaaGreat
open Go Go.Li

theorem countP_le_of {α : Type} {l : List α} {p q : α → Bool} (h : ∀ x ∈ l, p x = true → q x = true) : l.countP p ≤ l.countP q := by
  induction l with
  | nil => exact Nat.le_refl _
  | cons a l ih =>
    have h1 := ih fun x hx => h x (by simp [hx])
    have h2 := h a (by simp)
    rw [List.countP_cons, List.countP_cons]
    cases e : p a with
    | false => simp only [Bool.false_eq_true, if_false]; omega
    | true => rw [h2 e]; simp only [if_true]; omega
theorem countP_lt_of {α : Type} {l : List α} {p q : α → Bool} (h : ∀ x ∈ l, p x = true → q x = true) {x : α} (hx : x ∈ l) (hp : p x = false) (hq : q x = true) : l.countP p + 1 ≤ l.countP q := by
  induction l with
  | nil => cases hx
  | cons a l ih =>
    have h0 : ∀ x ∈ l, p x = true → q x = true := fun x hx => h x (by simp [hx])
    have h2 := h a (by simp)
    rw [List.countP_cons, List.countP_cons]
    rcases List.mem_cons.1 hx with rfl | hm
    · have h1 := countP_le_of h0
      rw [hp, hq]; simp only [Bool.false_eq_true, if_false, if_true]; omega
    · have h1 := ih h0 hm
      cases e : p a with
      | false => simp only [Bool.false_eq_true, if_false]; omega
      | true => rw [h2 e]; simp only [if_true]; omega
/-- all places of sieves -/
def pairs (ls : List (List (List Int))) : List (Int × List Int) := (ns ls.length).flatMap fun x => (gl ls x).map fun s => (x, s)
theorem pairs_mem {ls : List (List (List Int))} {x : Int} {s : List Int} : (x, s) ∈ pairs ls ↔ (0 ≤ x ∧ x < ls.length) ∧ s ∈ gl ls x := by
  unfold pairs
  rw [List.mem_flatMap]
  constructor
  · rintro ⟨y, hy, h⟩
    obtain ⟨t, ht, e⟩ := List.mem_map.1 h
    cases e
    exact ⟨ns_mem.1 hy, ht⟩
  · rintro ⟨h, hs⟩
    exact ⟨x, ns_mem.2 h, List.mem_map.2 ⟨s, hs, rfl⟩⟩
/-- how many are marked -/
def cnt (ls : List (List (List Int))) (p : Int → List Int → Bool) : Nat := (pairs ls).countP fun z => p z.1 z.2
/-- fewer marks -/
def Le (ls : List (List (List Int))) (p q : Int → List Int → Bool) : Prop := ∀ y : Int, 0 ≤ y → y < ls.length → ∀ t ∈ gl ls y, p y t = true → q y t = true
theorem Le.rfl' {ls : List (List (List Int))} {p : Int → List Int → Bool} : Le ls p p := fun _ _ _ _ _ h => h
theorem Le.tr {ls : List (List (List Int))} {p q r : Int → List Int → Bool} (h : Le ls p q) (g : Le ls q r) : Le ls p r := fun y h0 h1 t ht hp => g y h0 h1 t ht (h y h0 h1 t ht hp)
theorem Le.put {ls : List (List (List Int))} {p : Int → List Int → Bool} {x : Int} {s : List Int} : Le ls p (put p x s) := fun y _ _ t _ h => by
  show (p y t || _) = true
  rw [h]; rfl
theorem put_has {p : Int → List Int → Bool} {x : Int} {s : List Int} : put p x s x s = true := by
  unfold put; simp
theorem put_le {ls : List (List (List Int))} {p r : Int → List Int → Bool} {x : Int} {s : List Int} (h : Le ls p r) (hr : r x s = true) : Le ls (put p x s) r := fun y h0 h1 t ht hp => by
  unfold put at hp
  rw [Bool.or_eq_true, Bool.and_eq_true, beq_iff_eq, beq_iff_eq] at hp
  rcases hp with hp | ⟨rfl, rfl⟩
  · exact h y h0 h1 t ht hp
  · exact hr
theorem Le.anti {ls : List (List (List Int))} {p q : Int → List Int → Bool} (h : Le ls p q) (g : Le ls q p) : marksP ls p = marksP ls q :=
  marks_congr fun i hi s hs => by
    rw [Bool.eq_iff_iff]
    exact ⟨h i (by omega) (by omega) s hs, g i (by omega) (by omega) s hs⟩
theorem cnt_mono {ls : List (List (List Int))} {p q : Int → List Int → Bool} (h : Le ls p q) : cnt ls p ≤ cnt ls q :=
  countP_le_of fun z hz hp => by
    obtain ⟨⟨h0, h1⟩, hs⟩ := pairs_mem.1 (show (z.1, z.2) ∈ pairs ls from hz)
    exact h z.1 h0 h1 z.2 hs hp
theorem cnt_put {ls : List (List (List Int))} {p : Int → List Int → Bool} {x : Int} {s : List Int} (h0 : 0 ≤ x) (h1 : x < ls.length) (hs : s ∈ gl ls x) (hp : p x s = false) : cnt ls p + 1 ≤ cnt ls (put p x s) :=
  countP_lt_of (x := (x, s)) (fun z hz hp => by
    obtain ⟨⟨h0, h1⟩, hs⟩ := pairs_mem.1 (show (z.1, z.2) ∈ pairs ls from hz)
    exact Le.put z.1 h0 h1 z.2 hs hp) (pairs_mem.2 ⟨⟨h0, h1⟩, hs⟩) hp put_has
theorem Le.of_marks {ls : List (List (List Int))} {p q : Int → List Int → Bool} (h : marksP ls p = marksP ls q) : Le ls p q := fun y h0 h1 t ht hp => by
  have e := idx_marks (p := p) h0 h1
  rw [h, idx_marks h0 h1] at e
  have := List.map_inj_left.1 (Option.some.inj e) t ht
  rw [this]; exact hp
theorem cnt_marks {ls : List (List (List Int))} {p q : Int → List Int → Bool} (h : marksP ls p = marksP ls q) : cnt ls p = cnt ls q := Nat.le_antisymm (cnt_mono (Le.of_marks h)) (cnt_mono (Le.of_marks h.symm))
theorem cnt_le {c : MCategory} {ls : List (List (List Int))} (T : Tab c ls) (p : Int → List Int → Bool) : cnt ls p ≤ 128 := by
  have h8 := T.len8
  have h1 : cnt ls p ≤ (pairs ls).length := List.countP_le_length
  have key : ∀ l : List Int, (∀ x ∈ l, (gl ls x).length ≤ 16) → (l.flatMap fun x => (gl ls x).map fun s => (x, s)).length ≤ l.length * 16 := by
    intro l
    induction l with
    | nil => intro _; exact Nat.le_refl _
    | cons a l ih =>
      intro h
      have g1 := ih fun x hx => h x (by simp [hx])
      have g2 := h a (by simp)
      rw [List.flatMap_cons, List.length_append, List.length_map, List.length_cons]; omega
  have h2 := key (ns ls.length) fun x hx => T.l16 (ns_mem.1 hx).1 (ns_mem.1 hx).2
  rw [ns_length] at h2
  unfold pairs at h1
  omega
end Go.Proofs.YtdlhbbhdfnnmnaaGreat
