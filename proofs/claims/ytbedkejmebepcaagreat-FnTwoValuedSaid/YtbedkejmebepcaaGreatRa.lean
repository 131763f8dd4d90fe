/- Lists of arrows that are sieves; each sieve is found by the searches. No condition beside those that each theorem names. -/
import Derived.Test.YtbedkejmebepcaaGreatPr
namespace Go.Proofs.YtbedkejmebepcaaGreat
open Go Go.Li

/-- does a list rise -/
def risesB (l : List Int) : Bool := !((List.range (l.length - 1)).any fun i => decide (gi l ((i : Int) + 1) ≤ gi l i))
theorem implRising (l : List Int) (hl : l.length ≤ 1048576000) : impl_rising l = some (risesB l) := by
  unfold impl_rising
  refine (congrArg retM (for_anyb (List.range (l.length - 1)) (fun i => decide (gi l ((i : Int) + 1) ≤ gi l i)) (fun i => ((i + 1 : Nat) : Int)) rfl ?_ ?_ (e := (((List.range (l.length - 1)).length + 1 : Nat) : Int)) (y := false) ?_)).trans ?_
  · intro i x hx hp
    obtain ⟨rfl, hi⟩ := range_get hx
    have hp' : ¬ (gi l x ≥ gi l ((x : Int) + 1)) := by simpa using hp
    unfold impl_rising_L0
    rw [decT (by omega), cond_true, w64_id (by omega) (by omega), idx_gi (by omega) (by omega), some_bind', idx_gi (by omega) (by omega), some_bind', w64_nat (by omega)]
    rw [show (((x + 1 : Nat) : Int) - 1) = (x : Int) by omega, show ((x + 1 : Nat) : Int) = (x : Int) + 1 by omega, decF hp', cond_false]
  · intro i x hx hp
    obtain ⟨rfl, hi⟩ := range_get hx
    have hp' : gi l x ≥ gi l ((x : Int) + 1) := by simpa using hp
    unfold impl_rising_L0
    rw [decT (by omega), cond_true, w64_id (by omega) (by omega), idx_gi (by omega) (by omega), some_bind', idx_gi (by omega) (by omega), some_bind']
    rw [show (((x + 1 : Nat) : Int) - 1) = (x : Int) by omega, show ((x + 1 : Nat) : Int) = (x : Int) + 1 by omega, decT hp', cond_true]
  · unfold impl_rising_L0
    rw [decF (by rw [List.length_range]; omega), cond_false]
  · unfold risesB
    cases (List.range (l.length - 1)).any fun i => decide (gi l ((i : Int) + 1) ≤ gi l i) <;> rfl

def badA (c : MCategory) (x : Int) (s : List Int) (a : Int) : Bool := gi c.From a != x || (ns c.From.length).any fun b => (gi c.To a == gi c.From b) && !hasB s (gk c.Composites a b)
/-- is a list a sieve at an object -/
def sieveB (c : MCategory) (x : Int) (s : List Int) : Bool := (risesB s && inS c.From.length s) && !(s.any (badA c x s))

section
variable {c : MCategory} (H : Shape c)
include H
theorem any_out (a : Int) (q : Int → Bool) : (outS c (gi c.To a)).any q = (ns c.From.length).any fun b => (gi c.To a == gi c.From b) && q b := by
  have _ := H
  unfold outS
  rw [any_filter']
  congr 1
  funext b
  congr 1
  rw [Bool.eq_iff_iff]; simp only [beq_iff_eq]; exact ⟨Eq.symm, Eq.symm⟩
end

theorem sorted_eq : ∀ {a b : List Int}, a.Pairwise (· < ·) → b.Pairwise (· < ·) → (∀ x, x ∈ a ↔ x ∈ b) → a = b := by
  intro a b ha hb h
  have na : a.Nodup := ha.imp fun h => Int.ne_of_lt h
  have nb : b.Nodup := hb.imp fun h => Int.ne_of_lt h
  refine List.Perm.eq_of_pairwise (le := fun a b => a ≤ b) (fun _ _ _ _ h1 h2 => Int.le_antisymm h1 h2) (ha.imp fun h => Int.le_of_lt h) (hb.imp fun h => Int.le_of_lt h) ?_
  refine List.perm_iff_count.2 fun x => ?_
  rw [na.count, nb.count]
  by_cases hx : x ∈ a
  · rw [if_pos hx, if_pos ((h x).1 hx)]
  · rw [if_neg hx, if_neg fun hb => hx ((h x).2 hb)]
theorem rises_pw {l : List Int} (h : risesB l = true) : l.Pairwise (· < ·) := by
  have step : ∀ i : Nat, i + 1 < l.length → gi l i < gi l ((i + 1 : Nat) : Int) := by
    intro i hi
    unfold risesB at h
    simp only [Bool.not_eq_true', List.any_eq_false, List.mem_range, decide_eq_true_eq] at h
    have := h i (by omega)
    rw [show ((i + 1 : Nat) : Int) = (i : Int) + 1 by omega]; omega
  have far : ∀ (k i : Nat), i + k + 1 < l.length → gi l i < gi l ((i + k + 1 : Nat) : Int) := by
    intro k
    induction k with
    | zero => intro i hi; exact step i hi
    | succ k ih =>
      intro i hi
      have h1 := ih i (by omega)
      have h2 := step (i + k + 1) (by omega)
      rw [show i + (k + 1) + 1 = i + k + 1 + 1 by omega]; omega
  rw [List.pairwise_iff_getElem]
  intro i j hi hj hij
  have := far (j - i - 1) i (by omega)
  rw [show i + (j - i - 1) + 1 = j by omega] at this
  unfold gi at this
  simpa [hi, hj] using this
theorem ns_pw (n : Nat) : (ns n).Pairwise (· < ·) := by
  unfold ns
  rw [List.pairwise_map]
  exact List.pairwise_lt_range.imp fun h => by simpa using h
theorem rises_of_pw {l : List Int} (h : l.Pairwise (· < ·)) : risesB l = true := by
  unfold risesB
  simp only [Bool.not_eq_true', List.any_eq_false, List.mem_range, decide_eq_true_eq]
  intro i hi hle
  rw [List.pairwise_iff_getElem] at h
  have h1 := h i (i + 1) (by omega) (by omega) (by omega)
  unfold gi at hle
  rw [show ((i : Int) + 1).toNat = i + 1 by omega, show ((i : Int)).toNat = i by omega, List.getD_eq_getElem?_getD, List.getD_eq_getElem?_getD, List.getElem?_eq_getElem (by omega), List.getElem?_eq_getElem (by omega)] at hle
  simp only [Option.getD_some] at hle
  omega

section
variable {c : MCategory} (H : Cat c) {x : Int}
include H
theorem sieve_sv {s : List Int} : sieveB c x s = true ↔ Sv c x s := by
  have _ := H
  constructor
  · intro h
    unfold sieveB at h
    simp only [Bool.and_eq_true, Bool.not_eq_true', List.any_eq_false] at h
    obtain ⟨⟨h1, h2⟩, h3⟩ := h
    have hin := inS_iff.1 h2
    refine ⟨sorted_eq (rises_pw h1) ((ns_pw _).filter _) fun y => ?_, fun y hy => ?_, fun y hy b b0 b1 e => ?_⟩
    · rw [List.mem_filter, hasB_iff, ns_mem]
      exact ⟨fun hy => ⟨hin y hy, hy⟩, fun hy => hy.2⟩
    · have := h3 y hy
      unfold badA at this
      simp only [Bool.not_eq_true, Bool.or_eq_false_iff, bne_eq_false_iff_eq] at this
      exact this.1
    · have := h3 y hy
      unfold badA at this
      simp only [Bool.not_eq_true, Bool.or_eq_false_iff, List.any_eq_false] at this
      have := this.2 b (ns_mem.2 ⟨b0, b1⟩)
      rw [beqT e, Bool.true_and] at this
      exact hasB_iff.1 (by simpa using this)
  · intro h
    unfold sieveB
    simp only [Bool.and_eq_true, Bool.not_eq_true', List.any_eq_false]
    refine ⟨⟨rises_of_pw (by rw [h.form]; exact (ns_pw _).filter _), inS_iff.2 h.arr⟩, fun y hy => ?_⟩
    unfold badA
    simp only [Bool.not_eq_true, Bool.or_eq_false_iff, bne_eq_false_iff_eq, List.any_eq_false]
    refine ⟨h.src y hy, fun b hb => ?_⟩
    have hb := ns_mem.1 hb
    cases e : gi c.To y == gi c.From b with
    | false => simp
    | true =>
      have := h.closed y hy b hb.1 hb.2 (by simpa using e)
      simp [hasB_iff.2 this]
theorem close_app {A : List Int} {a : Int} (hA : Arr c A) : closeS c (closeS c A ++ [a]) = closeS c (A ++ [a]) := by
  show (ns c.From.length).filter _ = (ns c.From.length).filter _
  apply List.filter_congr
  intro z hz
  have key : ∀ B : List Int, clP c B z = true ↔ z ∈ closeS c B := fun B => by
    unfold closeS; rw [List.mem_filter]; exact ⟨fun h => ⟨hz, h⟩, fun h => h.2⟩
  rw [Bool.eq_iff_iff, key, key, close_mem, close_mem]
  refine and_congr_right fun hz => ⟨?_, ?_⟩
  · rintro ⟨y, hy, b, hb, e1, e2⟩
    rcases List.mem_append.1 hy with hy | hy
    · obtain ⟨hy0, u, hu, b', hb', e3, e4⟩ := close_mem.1 hy
      have hu' := hA u hu
      have c1 := H.cell u b' hu'.1 hu'.2 hb'.1 hb'.2 e3
      have e5 : gi c.To b' = gi c.From b := by rw [← c1.2.2.2, e4]; exact e1
      have c2 := H.cell b' b hb'.1 hb'.2 hb.1 hb.2 e5
      exact ⟨u, List.mem_append_left _ hu, gk c.Composites b' b, ⟨c2.1, c2.2.1⟩, by rw [c2.2.2.1]; exact e3, by rw [← H.assoc u b' b hu'.1 hu'.2 hb'.1 hb'.2 hb.1 hb.2 e3 e5, e4]; exact e2⟩
    · exact ⟨y, List.mem_append_right _ hy, b, hb, e1, e2⟩
  · rintro ⟨y, hy, b, hb, e1, e2⟩
    rcases List.mem_append.1 hy with hy | hy
    · exact ⟨y, List.mem_append_left _ (close_sub H hA y hy), b, hb, e1, e2⟩
    · exact ⟨y, List.mem_append_right _ hy, b, hb, e1, e2⟩
theorem close_reach : ∀ (n : Nat) (A : List Int), A.length = n → (∀ a ∈ A, a ∈ outS c x) → Reaches (outS c x) (stepS c) [] (closeS c A) := by
  intro n
  induction n with
  | zero =>
    intro A hA _
    obtain rfl : A = [] := List.length_eq_zero_iff.1 hA
    have : closeS c [] = [] := by unfold closeS; rw [List.filter_eq_nil_iff]; intro a _; simp [clP]
    rw [this]; exact .base
  | succ n ih =>
    intro A hA hs
    have hne : A ≠ [] := by rintro rfl; cases hA
    have hd := List.dropLast_concat_getLast hne
    have hl : A.getLast hne ∈ A := List.getLast_mem hne
    have hsub : ∀ a ∈ A.dropLast, a ∈ outS c x := fun a ha => hs a (List.dropLast_subset A ha)
    have h1 := ih A.dropLast (by simp; omega) hsub
    have h2 := Reaches.step (step := stepS c) h1 (hs _ hl)
    unfold stepS at h2
    rw [close_app H (fun a ha => (outS_mem.1 (hsub a ha)).1), hd] at h2
    exact h2
theorem sv_reach {s : List Int} (h : Sv c x s) : Reaches (outS c x) (stepS c) [] s := by
  have h1 := close_reach H s.length s rfl fun a ha => outS_mem.2 ⟨h.arr a ha, h.src a ha⟩
  have h2 : closeS c s = s := by
    conv => rhs; rw [h.form]
    unfold closeS
    apply List.filter_congr
    intro z hz
    rw [Bool.eq_iff_iff, hasB_iff]
    constructor
    · intro hc
      have : z ∈ closeS c s := List.mem_filter.2 ⟨hz, hc⟩
      obtain ⟨_, y, hy, b, hb, e1, e2⟩ := close_mem.1 this
      rw [← e2]; exact h.closed y hy b hb.1 hb.2 e1
    · intro hs
      exact (List.mem_filter.1 (close_sub H h.arr z hs)).2
  rw [h2] at h1; exact h1
theorem svl_mem {L : List (List Int)} (h : SvList c x L) (s : List Int) : s ∈ L ↔ Sv c x s := ⟨h.sv H s, fun hs => (h.mem s).2 (sv_reach H hs)⟩
theorem out_sv : Sv c x (outS c x) := by
  refine ⟨?_, fun y hy => (outS_mem.1 hy).2, fun y hy b b0 b1 e => ?_⟩
  · show (ns c.From.length).filter _ = _
    apply List.filter_congr
    intro z hz
    rw [Bool.eq_iff_iff, hasB_iff, outS_mem]
    simp only [beq_iff_eq]
    exact ⟨fun h => ⟨ns_mem.1 hz, h⟩, fun h => h.2⟩
  · have hy := outS_mem.1 hy
    have c1 := H.cell y b hy.1.1 hy.1.2 b0 b1 e
    exact outS_mem.2 ⟨⟨c1.1, c1.2.1⟩, by rw [c1.2.2.1]; exact hy.2⟩
theorem pull_sv {a : Int} (a0 : 0 ≤ a) (a1 : a < c.From.length) {s : List Int} (h : Sv c x s) : Sv c (gi c.To a) (pullS c a s) := by
  refine ⟨?_, fun y hy => ?_, fun y hy b b0 b1 e => ?_⟩
  · unfold pullS outS
    rw [List.filter_filter]
    exact filter_form
  · exact (outS_mem.1 (List.mem_filter.1 hy).1).2
  · obtain ⟨h1, h2⟩ := List.mem_filter.1 hy
    have h1 := outS_mem.1 h1
    have c0 := H.cell a y a0 a1 h1.1.1 h1.1.2 h1.2.symm
    have c1 := H.cell y b h1.1.1 h1.1.2 b0 b1 e
    refine List.mem_filter.2 ⟨outS_mem.2 ⟨⟨c1.1, c1.2.1⟩, by rw [c1.2.2.1]; exact h1.2⟩, hasB_iff.2 ?_⟩
    rw [← H.assoc a y b a0 a1 h1.1.1 h1.1.2 b0 b1 h1.2.symm e]
    exact h.closed _ (hasB_iff.1 h2) b b0 b1 (by rw [c0.2.2.2]; exact e)
end
end Go.Proofs.YtbedkejmebepcaaGreat
namespace Go.Li
open Go
section
variable {S S1 R α : Type} {body : S1 → Option (Out S1 R)}
/-- a loop over a list that keeps a relation -/
theorem for_loop {k : Nat} (l : List α) (J : Nat → S1 → Prop) {s0 : S1} (h0 : J 0 s0) (step : ∀ i x s, l[i]? = some x → J i s → ∃ s', body s = some (.norm s') ∧ J (i + 1) s')
    (last : ∀ s, J l.length s → ∃ e, body s = some (.exit k e) ∧ J l.length e) : ∃ e, J l.length e ∧ loopM body s0 = some (.exit k e) := by
  have key : ∀ (m : List α) (i : Nat) (s : S1), l.drop i = m → i ≤ l.length → J i s → ∃ e, J l.length e ∧ loopM body s = some (.exit k e) := by
    intro m
    induction m with
    | nil =>
      intro i s hd hi hs
      have : i = l.length := by have := congrArg List.length hd; simp at this; omega
      subst this
      obtain ⟨e, h1, h2⟩ := last s hs
      exact ⟨e, h2, loopM_exit h1⟩
    | cons x m ih =>
      intro i s hd hi hs
      have hlt : i < l.length := by
        rcases Nat.lt_or_ge i l.length with h | h
        · exact h
        · rw [List.drop_eq_nil_of_le h] at hd; cases hd
      rw [List.drop_eq_getElem_cons hlt] at hd
      have hx : l[i]? = some x := by rw [List.getElem?_eq_getElem hlt]; exact congrArg some (List.cons.inj hd).1
      obtain ⟨s', h1, h2⟩ := step i x s hx hs
      obtain ⟨e, h3, h4⟩ := ih (i + 1) s' (List.cons.inj hd).2 hlt h2
      exact ⟨e, h3, by rw [loopM_eq, h1]; exact h4⟩
  exact key l 0 s0 rfl (Nat.zero_le _) h0
theorem for_inv {k : Nat} {f : S1 → Option (Out S R)} (l : List α) (J : Nat → S1 → Prop) {s0 : S1} (h0 : J 0 s0) (step : ∀ i x s, l[i]? = some x → J i s → ∃ s', body s = some (.norm s') ∧ J (i + 1) s')
    (last : ∀ s, J l.length s → ∃ e, body s = some (.exit k e) ∧ J l.length e) : ∃ e, J l.length e ∧ lbind (blockM k (loopM body s0)) f = f e := by
  obtain ⟨e, h1, h2⟩ := for_loop l J h0 step last
  exact ⟨e, h1, lb_exit h2⟩
end
end Go.Li
namespace Go.Proofs.YtbedkejmebepcaaGreat
open Go Go.Li

/-- the place of a member -/
theorem place_some {L : List (List Int)} {s : List Int} (h : s ∈ L) : ∃ j : Nat, placeS L s = (j : Int) ∧ L[j]? = some s := by
  obtain ⟨j, x, h1, h2, h3⟩ := ixF_some (p := fun y => y == s) (l := L) (i := 0) ⟨s, h, by simp⟩
  refine ⟨j, by unfold placeS; rw [h1, Nat.zero_add], ?_⟩
  rw [h2]; simp at h3; rw [h3]
theorem at_mark {L : List (List Int)} {s : List Int} (q : List Int → Bool) (h : s ∈ L) : idx (L.map q) (placeS L s) = some (q s) := by
  obtain ⟨j, h1, h2⟩ := place_some h
  rw [h1, idx_nat, List.getElem?_map, h2]; rfl
theorem nodup_inj {α : Type} {L : List α} {i j : Nat} {x : α} (hn : L.Nodup) (h1 : L[i]? = some x) (h2 : L[j]? = some x) : i = j := by
  obtain ⟨hi, e1⟩ := List.getElem?_eq_some_iff.1 h1
  obtain ⟨hj, e2⟩ := List.getElem?_eq_some_iff.1 h2
  rcases Nat.lt_trichotomy i j with h | h | h
  · exact absurd (e1.trans e2.symm) (List.pairwise_iff_getElem.1 hn i j hi hj h)
  · exact h
  · exact absurd (e2.trans e1.symm) (List.pairwise_iff_getElem.1 hn j i hj hi h)
theorem place_at {L : List (List Int)} {s : List Int} {i : Nat} (hn : L.Nodup) (h : L[i]? = some s) : placeS L s = (i : Int) := by
  obtain ⟨j, h1, h2⟩ := place_some (List.mem_of_getElem? h)
  rw [h1, nodup_inj hn h2 h]
theorem set_mark {L : List (List Int)} {s : List Int} (hn : L.Nodup) (q : List Int → Bool) (h : s ∈ L) : (L.map q).set (placeS L s).toNat true = L.map fun t => q t || t == s := by
  obtain ⟨j, h1, h2⟩ := place_some h
  rw [h1, Int.toNat_natCast]
  apply List.ext_getElem?
  intro i
  rw [List.getElem?_set, List.getElem?_map, List.getElem?_map]
  have hj := (List.getElem?_eq_some_iff.1 h2).1
  by_cases e : j = i
  · subst e
    rw [if_pos rfl, h2]; simp [hj]
  · rw [if_neg e]
    cases hi : L[i]? with
    | none => rfl
    | some t =>
      have : t ≠ s := by
        rintro rfl
        exact e (nodup_inj hn h2 hi)
      simp [this]
def put (p : Int → List Int → Bool) (x : Int) (s : List Int) : Int → List Int → Bool := fun y t => p y t || (y == x && t == s)
/-- the sieves of a topology that are among its covers -/
def covB (cov : List (List (List Int))) : Int → List Int → Bool := fun x s => (gl cov x).contains s
theorem idx_marks {ls : List (List (List Int))} {p : Int → List Int → Bool} {x : Int} (h0 : 0 ≤ x) (h1 : x < ls.length) : idx (marksP ls p) x = some ((gl ls x).map (p x)) := by
  rw [idx_gl h0 (by rw [marks_length]; exact h1), gl_marks h0 h1]
theorem put_marks {ls : List (List (List Int))} {p : Int → List Int → Bool} {x : Int} {s : List Int} (h0 : 0 ≤ x) (h1 : x < ls.length) (hn : (gl ls x).Nodup) (hs : s ∈ gl ls x) :
    (marksP ls p).set x.toNat (((gl ls x).map (p x)).set (placeS (gl ls x) s).toNat true) = marksP ls (put p x s) := by
  rw [set_mark hn (p x) hs]
  apply List.ext_getElem?
  intro i
  rw [List.getElem?_set]
  by_cases e : x.toNat = i
  · subst e
    have hx : x.toNat < ls.length := by omega
    rw [if_pos rfl, marks_length, if_pos hx]
    unfold marksP
    rw [mapI_get _ hx]
    have : ((x.toNat : Nat) : Int) = x := by omega
    rw [this]
    congr 1
    apply List.map_congr_left
    intro t _
    unfold put; simp
  · rw [if_neg e]
    rcases Nat.lt_or_ge i ls.length with hi | hi
    · unfold marksP
      rw [mapI_get _ hi, mapI_get _ hi]
      congr 1
      apply List.map_congr_left
      intro t _
      unfold put
      have : ((i : Int) == x) = false := beqF (by omega)
      rw [this]; simp
    · rw [List.getElem?_eq_none (by rw [marks_length]; exact hi), List.getElem?_eq_none (by rw [marks_length]; exact hi)]
theorem put_same {ls : List (List (List Int))} {p : Int → List Int → Bool} {x : Int} {s : List Int} (h : p x s = true) : marksP ls (put p x s) = marksP ls p := by
  refine mapI_congr fun i _ => List.map_congr_left fun t _ => ?_
  unfold put
  by_cases e : (i : Int) = x ∧ t = s
  · obtain ⟨rfl, rfl⟩ := e; rw [h]; rfl
  · have : ((i : Int) == x && t == s) = false := by
      rw [Bool.and_eq_false_iff]
      by_cases e1 : (i : Int) = x
      · exact .inr (beqF fun h => e ⟨e1, h⟩)
      · exact .inl (beqF e1)
    rw [this, Bool.or_false]
theorem marks_congr {ls : List (List (List Int))} {p q : Int → List Int → Bool} (h : ∀ i : Nat, i < ls.length → ∀ s ∈ gl ls i, p i s = q i s) : marksP ls p = marksP ls q :=
  mapI_congr fun i hi => List.map_congr_left fun s hs => h i hi s hs

/-- what is known where all sieves have been listed -/
structure Tab (c : MCategory) (ls : List (List (List Int))) : Prop where
  cat : Cat c
  lists : Lists c c.Objects.toNat ls
namespace Tab
variable {c : MCategory} {ls : List (List (List Int))} (T : Tab c ls)
include T
theorem len : (ls.length : Int) = c.Objects := by have h1 := T.lists.len; have h2 := T.cat.o0; omega
theorem len8 : ls.length ≤ 8 := by have h1 := T.len; have h2 := T.cat.o8; omega
theorem sv {x : Int} (h0 : 0 ≤ x) (h1 : x < ls.length) : SvList c x (gl ls x) := T.lists.sv T.cat h0 (by have := T.lists.len; omega)
theorem mem {x : Int} (h0 : 0 ≤ x) (h1 : x < ls.length) {s : List Int} : s ∈ gl ls x ↔ Sv c x s := svl_mem T.cat (T.sv h0 h1) s
theorem nodup {x : Int} (h0 : 0 ≤ x) (h1 : x < ls.length) : (gl ls x).Nodup := (T.sv h0 h1).nodup
theorem l16 {x : Int} (h0 : 0 ≤ x) (h1 : x < ls.length) : (gl ls x).length ≤ 16 := (T.sv h0 h1).len
theorem s40 {x : Int} (h0 : 0 ≤ x) (h1 : x < ls.length) {s : List Int} (hs : s ∈ gl ls x) : s.length ≤ 40 := Nat.le_trans ((T.mem h0 h1).1 hs).len T.cat.m
theorem fr {a : Int} (a0 : 0 ≤ a) (a1 : a < c.From.length) : 0 ≤ gi c.From a ∧ gi c.From a < ls.length := by have := T.cat.fr a0 a1; rw [← T.len] at this; exact this
theorem to {a : Int} (a0 : 0 ≤ a) (a1 : a < c.From.length) : 0 ≤ gi c.To a ∧ gi c.To a < ls.length := by have := T.cat.to a0 a1; rw [← T.len] at this; exact this
theorem pull {a : Int} (a0 : 0 ≤ a) (a1 : a < c.From.length) {s : List Int} {x : Int} (hs : Sv c x s) : pullS c a s ∈ gl ls (gi c.To a) := (T.mem (T.to a0 a1).1 (T.to a0 a1).2).2 (pull_sv T.cat a0 a1 hs)
theorem out {x : Int} (h0 : 0 ≤ x) (h1 : x < ls.length) : outS c x ∈ gl ls x := (T.mem h0 h1).2 (out_sv T.cat)
theorem arr {x : Int} (h0 : 0 ≤ x) (h1 : x < ls.length) {s : List Int} (hs : s ∈ gl ls x) {a : Int} (ha : a ∈ s) : 0 ≤ a ∧ a < c.From.length := ((T.mem h0 h1).1 hs).arr a ha
/-- the action of an arrow, read -/
theorem acts_at {a : Int} (a0 : 0 ≤ a) (a1 : a < c.From.length) : idx (acts c ls) a = some (act c ls a) := by
  have _ := T
  obtain ⟨n, rfl⟩ : ∃ n : Nat, a = n := ⟨a.toNat, by omega⟩
  rw [idx_nat]; unfold acts; rw [mapI_get _ (by omega)]
theorem act_at {a : Int} {i : Nat} {s : List Int} (hs : (gl ls (gi c.From a))[i]? = some s) : idx (act c ls a) (i : Int) = some (placeS (gl ls (gi c.To a)) (pullS c a s)) := by
  have _ := T
  rw [idx_nat]; unfold act; rw [List.getElem?_map, hs]; rfl
theorem tops_at {x : Int} (h0 : 0 ≤ x) (h1 : x < ls.length) : idx (tops c ls) x = some (placeS (gl ls x) (outS c x)) := by
  have _ := T
  obtain ⟨n, rfl⟩ : ∃ n : Nat, x = n := ⟨x.toNat, by omega⟩
  rw [idx_nat]; unfold tops; rw [mapI_get _ (by omega)]
end Tab

/-- a sieve t at x, pulled along each arrow of s, is marked -/
def localB (c : MCategory) (p : Int → List Int → Bool) (s t : List Int) : Bool := !(s.any fun a => !(p (gi c.To a) (pullS c a t)))
def stepA (c : MCategory) (p : Int → List Int → Bool) (x : Int) (s : List Int) : Bool := (ns c.From.length).any fun a => (gi c.From a == x) && !(p (gi c.To a) (pullS c a s))
def stepT (c : MCategory) (L : List (List Int)) (p : Int → List Int → Bool) (x : Int) (s : List Int) : Bool := L.any fun t => !(p x t) && localB c p s t
/-- does something at x have to be marked besides -/
def stepX (c : MCategory) (ls : List (List (List Int))) (p : Int → List Int → Bool) (x : Int) : Bool :=
  !(p x (outS c x)) || (gl ls x).any fun s => p x s && (stepA c p x s || stepT c (gl ls x) p x s)
def openB (c : MCategory) (ls : List (List (List Int))) (p : Int → List Int → Bool) : Bool := (ns ls.length).any (stepX c ls p)
/-- (x, s) has to be marked where p is -/
def Forced (c : MCategory) (ls : List (List (List Int))) (p : Int → List Int → Bool) (x : Int) (s : List Int) : Prop :=
  ∀ q : Int → List Int → Bool, openB c ls q = false → (∀ y : Int, 0 ≤ y → y < ls.length → ∀ t ∈ gl ls y, p y t = true → q y t = true) → q x s = true
structure Closed (c : MCategory) (ls : List (List (List Int))) (q : Int → List Int → Bool) : Prop where
  top : ∀ x : Int, 0 ≤ x → x < ls.length → q x (outS c x) = true
  arrow : ∀ a s : _, 0 ≤ a → a < (c.From.length : Int) → s ∈ gl ls (gi c.From a) → q (gi c.From a) s = true → q (gi c.To a) (pullS c a s) = true
  loc : ∀ x : Int, 0 ≤ x → x < ls.length → ∀ s ∈ gl ls x, ∀ t ∈ gl ls x, q x s = true → localB c q s t = true → q x t = true

section
variable {c : MCategory} {ls : List (List (List Int))} (T : Tab c ls) {p : Int → List Int → Bool}
include T
theorem closed_iff {q : Int → List Int → Bool} : openB c ls q = false ↔ Closed c ls q := by
  unfold openB
  rw [List.any_eq_false]
  constructor
  · intro h
    have hx : ∀ x : Int, 0 ≤ x → x < ls.length → q x (outS c x) = true ∧ ∀ s ∈ gl ls x, q x s = true → stepA c q x s = false ∧ stepT c (gl ls x) q x s = false := by
      intro x h0 h1
      have := h x (ns_mem.2 ⟨h0, h1⟩)
      unfold stepX at this
      simp only [Bool.not_eq_true, Bool.not_eq_false', List.any_eq_false, Bool.and_eq_true, Bool.or_eq_true, not_and, not_or] at this
      exact ⟨this.1, fun s hs hq => this.2 s hs hq⟩
    refine ⟨fun x h0 h1 => (hx x h0 h1).1, fun a s a0 a1 hs hq => ?_, fun x h0 h1 s hs t ht hq hl => ?_⟩
    · have h2 := ((hx _ (T.fr a0 a1).1 (T.fr a0 a1).2).2 s hs hq).1
      unfold stepA at h2
      rw [List.any_eq_false] at h2
      have := h2 a (ns_mem.2 ⟨a0, a1⟩)
      simpa using this
    · have h2 := ((hx x h0 h1).2 s hs hq).2
      unfold stepT at h2
      rw [List.any_eq_false] at h2
      have := h2 t ht
      rw [hl] at this
      simpa using this
  · intro h x hx
    obtain ⟨h0, h1⟩ := ns_mem.1 hx
    unfold stepX
    simp only [Bool.not_eq_true, Bool.not_eq_false', List.any_eq_false, Bool.and_eq_true, Bool.or_eq_true, not_and, not_or]
    refine ⟨h.top x h0 h1, fun s hs hq => ⟨?_, ?_⟩⟩
    · unfold stepA
      rw [List.any_eq_false]
      intro a ha
      obtain ⟨a0, a1⟩ := ns_mem.1 ha
      cases e : gi c.From a == x with
      | false => simp
      | true =>
        have e' : gi c.From a = x := by simpa using e
        have := h.arrow a s a0 a1 (by rw [e']; exact hs) (by rw [e']; exact hq)
        simp [this]
    · unfold stepT
      rw [List.any_eq_false]
      intro t ht
      cases hl : localB c q s t with
      | false => simp
      | true => simp [h.loc x h0 h1 s hs t ht hq hl]
theorem local_mono {q : Int → List Int → Bool} (h : ∀ y : Int, 0 ≤ y → y < ls.length → ∀ t ∈ gl ls y, p y t = true → q y t = true) {x : Int} (h0 : 0 ≤ x) (h1 : x < ls.length) {s t : List Int} (hs : s ∈ gl ls x) (ht : t ∈ gl ls x) (hl : localB c p s t = true) : localB c q s t = true := by
  unfold localB at *
  simp only [Bool.not_eq_true', List.any_eq_false] at *
  intro a ha hq
  obtain ⟨a0, a1⟩ := T.arr h0 h1 hs ha
  have hp : p (gi c.To a) (pullS c a t) = true := by simpa using hl a ha
  rw [h _ (T.to a0 a1).1 (T.to a0 a1).2 _ (T.pull a0 a1 ((T.mem h0 h1).1 ht)) hp] at hq
  cases hq

/-- what one step of the reference does -/
def StepG (c : MCategory) (ls : List (List (List Int))) (p : Int → List Int → Bool) (y : Bool × List (List Bool)) : Prop :=
  y.1 = true ∧ ∃ x s, (0 ≤ x ∧ x < (ls.length : Int)) ∧ s ∈ gl ls x ∧ p x s = false ∧ Forced c ls p x s ∧ y.2 = marksP ls (put p x s)

theorem stepGood {x : Int} {s : List Int} (hx : 0 ≤ x ∧ x < (ls.length : Int)) (hs : s ∈ gl ls x) (hp : p x s = false) (hf : Forced c ls p x s) :
    StepG c ls p (true, (marksP ls p).set x.toNat (((gl ls x).map (p x)).set (placeS (gl ls x) s).toNat true)) := ⟨rfl, x, s, hx, hs, hp, hf, put_marks hx.1 hx.2 (T.nodup hx.1 hx.2) hs⟩
end
end Go.Proofs.YtbedkejmebepcaaGreat
namespace Go.Proofs.YtbedkejmebepcaaGreat
open Go Go.Li

theorem countP_le_of {α : Type} {l : List α} {p q : α → Bool} (h : ∀ x ∈ l, p x = true → q x = true) : l.countP p ≤ l.countP q := by
  induction l with
  | nil => exact Nat.le_refl _
  | cons a l ih =>
    have h1 := ih fun x hx => h x (by simp [hx])
    have h2 := h a (by simp)
    rw [List.countP_cons, List.countP_cons]
    cases e : p a with
    | false => simp only [Bool.false_eq_true, if_false]; omega
    | true => rw [h2 e]; simp only [if_true]; omega
theorem countP_lt_of {α : Type} {l : List α} {p q : α → Bool} (h : ∀ x ∈ l, p x = true → q x = true) {x : α} (hx : x ∈ l) (hp : p x = false) (hq : q x = true) : l.countP p + 1 ≤ l.countP q := by
  induction l with
  | nil => cases hx
  | cons a l ih =>
    have h0 : ∀ x ∈ l, p x = true → q x = true := fun x hx => h x (by simp [hx])
    have h2 := h a (by simp)
    rw [List.countP_cons, List.countP_cons]
    rcases List.mem_cons.1 hx with rfl | hm
    · have h1 := countP_le_of h0
      rw [hp, hq]; simp only [Bool.false_eq_true, if_false, if_true]; omega
    · have h1 := ih h0 hm
      cases e : p a with
      | false => simp only [Bool.false_eq_true, if_false]; omega
      | true => rw [h2 e]; simp only [if_true]; omega
/-- all places of sieves -/
def pairs (ls : List (List (List Int))) : List (Int × List Int) := (ns ls.length).flatMap fun x => (gl ls x).map fun s => (x, s)
theorem pairs_mem {ls : List (List (List Int))} {x : Int} {s : List Int} : (x, s) ∈ pairs ls ↔ (0 ≤ x ∧ x < ls.length) ∧ s ∈ gl ls x := by
  unfold pairs
  rw [List.mem_flatMap]
  constructor
  · rintro ⟨y, hy, h⟩
    obtain ⟨t, ht, e⟩ := List.mem_map.1 h
    cases e
    exact ⟨ns_mem.1 hy, ht⟩
  · rintro ⟨h, hs⟩
    exact ⟨x, ns_mem.2 h, List.mem_map.2 ⟨s, hs, rfl⟩⟩
/-- how many are marked -/
def cnt (ls : List (List (List Int))) (p : Int → List Int → Bool) : Nat := (pairs ls).countP fun z => p z.1 z.2
/-- fewer marks -/
def Le (ls : List (List (List Int))) (p q : Int → List Int → Bool) : Prop := ∀ y : Int, 0 ≤ y → y < ls.length → ∀ t ∈ gl ls y, p y t = true → q y t = true
theorem Le.rfl' {ls : List (List (List Int))} {p : Int → List Int → Bool} : Le ls p p := fun _ _ _ _ _ h => h
theorem Le.tr {ls : List (List (List Int))} {p q r : Int → List Int → Bool} (h : Le ls p q) (g : Le ls q r) : Le ls p r := fun y h0 h1 t ht hp => g y h0 h1 t ht (h y h0 h1 t ht hp)
theorem Le.put {ls : List (List (List Int))} {p : Int → List Int → Bool} {x : Int} {s : List Int} : Le ls p (put p x s) := fun y _ _ t _ h => by
  show (p y t || _) = true
  rw [h]; rfl
theorem put_has {p : Int → List Int → Bool} {x : Int} {s : List Int} : put p x s x s = true := by
  unfold put; simp
theorem put_le {ls : List (List (List Int))} {p r : Int → List Int → Bool} {x : Int} {s : List Int} (h : Le ls p r) (hr : r x s = true) : Le ls (put p x s) r := fun y h0 h1 t ht hp => by
  unfold put at hp
  rw [Bool.or_eq_true, Bool.and_eq_true, beq_iff_eq, beq_iff_eq] at hp
  rcases hp with hp | ⟨rfl, rfl⟩
  · exact h y h0 h1 t ht hp
  · exact hr
theorem Le.anti {ls : List (List (List Int))} {p q : Int → List Int → Bool} (h : Le ls p q) (g : Le ls q p) : marksP ls p = marksP ls q :=
  marks_congr fun i hi s hs => by
    rw [Bool.eq_iff_iff]
    exact ⟨h i (by omega) (by omega) s hs, g i (by omega) (by omega) s hs⟩
theorem cnt_mono {ls : List (List (List Int))} {p q : Int → List Int → Bool} (h : Le ls p q) : cnt ls p ≤ cnt ls q :=
  countP_le_of fun z hz hp => by
    obtain ⟨⟨h0, h1⟩, hs⟩ := pairs_mem.1 (show (z.1, z.2) ∈ pairs ls from hz)
    exact h z.1 h0 h1 z.2 hs hp
theorem cnt_put {ls : List (List (List Int))} {p : Int → List Int → Bool} {x : Int} {s : List Int} (h0 : 0 ≤ x) (h1 : x < ls.length) (hs : s ∈ gl ls x) (hp : p x s = false) : cnt ls p + 1 ≤ cnt ls (put p x s) :=
  countP_lt_of (x := (x, s)) (fun z hz hp => by
    obtain ⟨⟨h0, h1⟩, hs⟩ := pairs_mem.1 (show (z.1, z.2) ∈ pairs ls from hz)
    exact Le.put z.1 h0 h1 z.2 hs hp) (pairs_mem.2 ⟨⟨h0, h1⟩, hs⟩) hp put_has
theorem Le.of_marks {ls : List (List (List Int))} {p q : Int → List Int → Bool} (h : marksP ls p = marksP ls q) : Le ls p q := fun y h0 h1 t ht hp => by
  have e := idx_marks (p := p) h0 h1
  rw [h, idx_marks h0 h1] at e
  have := List.map_inj_left.1 (Option.some.inj e) t ht
  rw [this]; exact hp
theorem cnt_marks {ls : List (List (List Int))} {p q : Int → List Int → Bool} (h : marksP ls p = marksP ls q) : cnt ls p = cnt ls q := Nat.le_antisymm (cnt_mono (Le.of_marks h)) (cnt_mono (Le.of_marks h.symm))
theorem cnt_le {c : MCategory} {ls : List (List (List Int))} (T : Tab c ls) (p : Int → List Int → Bool) : cnt ls p ≤ 128 := by
  have h8 := T.len8
  have h1 : cnt ls p ≤ (pairs ls).length := List.countP_le_length
  have key : ∀ l : List Int, (∀ x ∈ l, (gl ls x).length ≤ 16) → (l.flatMap fun x => (gl ls x).map fun s => (x, s)).length ≤ l.length * 16 := by
    intro l
    induction l with
    | nil => intro _; exact Nat.le_refl _
    | cons a l ih =>
      intro h
      have g1 := ih fun x hx => h x (by simp [hx])
      have g2 := h a (by simp)
      rw [List.flatMap_cons, List.length_append, List.length_map, List.length_cons]; omega
  have h2 := key (ns ls.length) fun x hx => T.l16 (ns_mem.1 hx).1 (ns_mem.1 hx).2
  rw [ns_length] at h2
  unfold pairs at h1
  omega
end Go.Proofs.YtbedkejmebepcaaGreat
namespace Go.Proofs.YtbedkejmebepcaaGreat
open Go Go.Li

theorem take_all {α : Type} {l : List α} {f : α → Bool} {i : Nat} {x : α} (h : l[i]? = some x) : (l.take (i + 1)).all f = ((l.take i).all f && f x) := by
  rw [take_succ_get h, List.all_append]; simp
theorem all_len {α : Type} (l : List α) (f : α → Bool) : (l.take l.length).all f = l.all f := by rw [List.take_length]

section
variable {c : MCategory} {ls : List (List (List Int))} (T : Tab c ls) {p : Int → List Int → Bool}
include T
theorem great_iff {x : Int} (h0 : 0 ≤ x) (h1 : x < ls.length) {s : List Int} (hs : Sv c x s) : hasB s (gi c.Identity x) = (s == outS c x) := by
  have hx : x < c.Objects := by rw [← T.len]; exact h1
  have hid := T.cat.id h0 hx
  rw [Bool.eq_iff_iff, hasB_iff, beq_iff_eq]
  constructor
  · intro hm
    refine sorted_eq (by rw [hs.form]; exact (ns_pw _).filter _) ((ns_pw _).filter _) fun y => ⟨fun hy => outS_mem.2 ⟨hs.arr y hy, hs.src y hy⟩, fun hy => ?_⟩
    have hy := outS_mem.1 hy
    have := hs.closed _ hm y hy.1.1 hy.1.2 (by rw [T.cat.idt x h0 hx, hy.2])
    have e := T.cat.unitL y hy.1.1 hy.1.2
    rw [hy.2] at e
    rw [e] at this; exact this
  · intro e
    rw [e, outS_mem]
    exact ⟨hid, T.cat.idf x h0 hx⟩
theorem implTops (u v : List Int) (w : List (List Int)) : impl_classifier_tops (MClassifier.mk (MSetFunctor.mk c u w) ls) = some (tops c ls) := by
  have _ := v
  have h8 := T.len8
  unfold impl_classifier_tops
  refine (congrArg retM (map_loop ls.length (fun x => placeS (gl ls x) (outS c x)) (fun acc i => (acc, (i : Int))) rfl ?_ ?_)).trans rfl
  · intro i acc hi ha
    have h0 : (0 : Int) ≤ (i : Int) := by omega
    have h1 : (i : Int) < ls.length := by omega
    have h16 := T.l16 h0 h1
    obtain ⟨j, e1, e2⟩ := place_some (T.out h0 h1)
    have hj := getElem?_lt e2
    show impl_classifier_tops_L0 _ acc i = _
    unfold impl_classifier_tops_L0
    show (bif decide ((i : Int) < (ls.length : Int)) then (idx ls (i : Int) >>= _) else _) = _
    rw [decT h1, cond_true, idx_gl h0 h1, some_bind']
    refine (for_all (gl ls i) (fun k => (if j < k then acc ++ [(j : Int)] else acc, (k : Int))) (e := (acc ++ [(j : Int)], ((gl ls i).length : Int))) rfl ?_ ?_).trans ?_
    · intro k s hs
      have hk := getElem?_lt hs
      have hsv := (T.mem h0 h1).1 (List.mem_of_getElem? hs)
      have hid := T.cat.idxI h0 (by rw [← T.len]; exact h1)
      have hall : impl_all c (i : Int) s = some (s == outS c i) := by
        unfold impl_all impl_sieve_isGreatest
        rw [hid, some_bind', implHas _ _ (by have := T.s40 h0 h1 (List.mem_of_getElem? hs); omega), great_iff T h0 h1 hsv]; rfl
      show impl_classifier_tops_L1 _ (i : Int) (gl ls i) (if j < k then acc ++ [(j : Int)] else acc) k = _
      unfold impl_classifier_tops_L1
      show (bif decide ((k : Int) < ((gl ls i).length : Int)) then (idx (gl ls i) (k : Int) >>= fun e36 => ((impl_all c (i : Int) e36) >>= _)) else _) = _
      rw [decT (by omega), cond_true, idx_nat, hs, some_bind', hall, some_bind']
      by_cases e : k = j
      · subst e
        rw [e2] at hs
        rw [← Option.some.inj hs, beqT rfl, cond_true, if_neg (by omega), if_pos (by omega), fits_ok (by omega) (by omega), some_bind', w64_nat (by omega)]
      · have hne : s ≠ outS c i := fun h => e (nodup_inj (T.nodup h0 h1) (by rw [← h]; exact hs) e2)
        rw [beqF hne, cond_false, w64_nat (by omega)]
        by_cases h : j < k
        · rw [if_pos h, if_pos (by omega)]
        · rw [if_neg h, if_neg (by omega)]
    · show impl_classifier_tops_L1 _ (i : Int) (gl ls i) (if j < (gl ls i).length then acc ++ [(j : Int)] else acc) ((gl ls i).length : Int) = _
      unfold impl_classifier_tops_L1
      rw [decF (by omega), cond_false, if_pos hj]
    · rw [e1, w64_nat (by omega)]
  · intro acc ha
    show impl_classifier_tops_L0 _ acc _ = _
    unfold impl_classifier_tops_L0
    show (bif decide ((ls.length : Int) < (ls.length : Int)) then _ else _) = _
    rw [decF (by omega), cond_false]
-- marks out of covers
end
end Go.Proofs.YtbedkejmebepcaaGreat
namespace Go.Proofs.YtbedkejmebepcaaGreat
open Go Go.Li

/-- is something wrong with the list of covers at x -/
def rowBad (c : MCategory) (x : Int) (L : List (List Int)) : Bool := (List.range L.length).any fun k => !(sieveB c x (gr L k)) || (decide (0 < k) && !(lexLt (gr L ((k : Int) - 1)) (gr L k)))
theorem gr_at {L : List (List Int)} {j : Nat} (h : j < L.length) : idx L (j : Int) = some (gr L j) := idx_gr (by omega) (by omega)
section
end
def tot2 (xs : List (List (List Int))) : Nat := (xs.map fun x => x.length + tot x).sum
theorem tot2_take {xs : List (List (List Int))} {i : Nat} {x : List (List Int)} (h : xs[i]? = some x) : tot2 (xs.take (i + 1)) = tot2 (xs.take i) + (x.length + tot x) := by
  unfold tot2; rw [take_succ_get h]; simp
theorem tot2_take_le (xs : List (List (List Int))) (i : Nat) : tot2 (xs.take i) ≤ tot2 xs := by
  unfold tot2
  conv => rhs; rw [← List.take_append_drop i xs]
  rw [List.map_append, List.sum_append]; omega
theorem tot2_row {xs : List (List (List Int))} {x : List (List Int)} (h : x ∈ xs) : x.length + tot x ≤ tot2 xs := by
  obtain ⟨i, hi, rfl⟩ := List.getElem_of_mem h
  have h1 := tot2_take (List.getElem?_eq_getElem hi)
  have h2 := tot2_take_le xs (i + 1)
  omega
theorem tot_row {xs : List (List Int)} {x : List Int} (h : x ∈ xs) : x.length ≤ tot xs := by
  obtain ⟨i, hi, rfl⟩ := List.getElem_of_mem h
  have h1 := tot_take (List.getElem?_eq_getElem hi)
  have h2 := tot_take_le xs (i + 1)
  omega
end Go.Proofs.YtbedkejmebepcaaGreat
namespace Go.Proofs.YtbedkejmebepcaaGreat
open Go Go.Li

theorem s3_le : ∀ x : List (List (List Int)), s3 x ≤ tot2 x := by
  intro x
  induction x with
  | nil => exact Nat.le_refl _
  | cons a x ih =>
    have e1 : s3 (a :: x) = s2 a + s3 x := rfl
    have e2 : tot2 (a :: x) = (a.length + tot a) + tot2 x := rfl
    rw [e1, e2, s2_eq]; omega
end Go.Proofs.YtbedkejmebepcaaGreat
namespace Go.Proofs.YtbedkejmebepcaaGreat
open Go Go.Li

theorem place_ge (L : List (List Int)) (s : List Int) : decide (placeS L s ≥ 0) = L.contains s := by
  by_cases h : s ∈ L
  · obtain ⟨j, h1, _⟩ := place_some h
    rw [h1, decT (by omega)]; simp [h]
  · have : placeS L s = -1 := ixF_none fun y hy => by
      rw [beq_eq_false_iff_ne]; rintro rfl; exact h hy
    rw [this, decF (by omega)]; simp [h]
/-- a loop that keeps some elements of a list -/
theorem keep_loop {S S1 R : Type} {body : S1 → Option (Out S1 R)} {k : Nat} {f : S1 → Option (Out S R)} {s0 : S1} (l : List Int) (q : Int → Bool) (pk : List Int → Nat → S1) (e0 : pk [] 0 = s0)
    (step : ∀ i a acc, l[i]? = some a → acc.length ≤ i → body (pk acc i) = some (.norm (pk (if q a then acc ++ [a] else acc) (i + 1)))) (last : ∀ acc, body (pk acc l.length) = some (.exit k (pk acc l.length))) :
    lbind (blockM k (loopM body s0)) f = f (pk (l.filter q) l.length) := by
  refine (for_all l (fun i => pk ((l.take i).filter q) i) (by simpa using e0) (fun i a ha => ?_) (e := pk (l.filter q) l.length) ?_)
  · rw [step i a _ ha (by have := List.length_filter_le q (l.take i); rw [List.length_take] at this; omega), take_succ_get ha, List.filter_append]
    cases h : q a <;> simp [h]
  · rw [last, List.take_length]
theorem set_row {L : List (List Int)} {f : List Int → Bool} {k : Nat} {s : List Int} {v : Bool} (hn : L.Nodup) (h : L[k]? = some s) : (L.map f).set k v = L.map fun t => if t = s then v else f t := by
  have hk := (List.getElem?_eq_some_iff.1 h).1
  apply List.ext_getElem?
  intro i
  rw [List.getElem?_set, List.getElem?_map, List.getElem?_map]
  by_cases e : k = i
  · subst e
    rw [if_pos rfl, h]; simp [hk]
  · rw [if_neg e]
    cases hi : L[i]? with
    | none => rfl
    | some t =>
      have : t ≠ s := by
        rintro rfl
        exact e (nodup_inj hn h hi)
      simp [this]
theorem set_marks {ls : List (List (List Int))} {p : Int → List Int → Bool} {i : Nat} {g : List Int → Bool} (hi : i < ls.length) : (marksP ls p).set i ((gl ls i).map g) = marksP ls fun y t => if y = (i : Int) then g t else p y t := by
  apply List.ext_getElem?
  intro x
  rw [List.getElem?_set, marks_length]
  unfold marksP
  by_cases hx : x < ls.length
  · rw [mapI_get _ hx, mapI_get _ hx]
    by_cases e : i = x
    · subst e
      rw [if_pos rfl, if_pos hi]
      congr 1
      apply List.map_congr_left
      intro t _
      exact (if_pos rfl).symm
    · rw [if_neg e]
      congr 1
      apply List.map_congr_left
      intro t _
      exact (if_neg (by omega)).symm
  · rw [if_neg (by omega), List.getElem?_eq_none (by rw [mapI_length]; omega), List.getElem?_eq_none (by rw [mapI_length]; omega)]
/-- the marks of both -/
def orP (p q : Int → List Int → Bool) : Int → List Int → Bool := fun x s => p x s || q x s
/-- on the way: p, and of q what lies before i and at i in the first k places -/
def onP (ls : List (List (List Int))) (p q : Int → List Int → Bool) (i k : Nat) : Int → List Int → Bool := fun y t => p y t || (q y t && (decide (y < i) || (y == (i : Int) && ((gl ls i).take k).contains t)))
section
variable {c : MCategory} {ls : List (List (List Int))} (T : Tab c ls) {p q : Int → List Int → Bool}
include T
theorem on_zero : marksP ls (onP ls p q 0 0) = marksP ls p := marks_congr fun i hi s _ => by
  have _ := T
  unfold onP
  rw [decF (by omega), List.take_zero, List.contains_nil]; simp
theorem on_next {i : Nat} (hi : i < ls.length) : marksP ls (onP ls p q i (gl ls i).length) = marksP ls (onP ls p q (i + 1) 0) := marks_congr fun y hy s hs => by
  have _ := T
  unfold onP
  rw [List.take_length, List.take_zero, List.contains_nil, Bool.and_false, Bool.or_false]
  congr 2
  rw [Bool.eq_iff_iff]
  simp only [Bool.or_eq_true, decide_eq_true_eq, Bool.and_eq_true, beq_iff_eq, List.contains_iff_mem]
  constructor
  · rintro (h | ⟨h, _⟩) <;> omega
  · intro h
    by_cases e : (y : Int) < i
    · exact .inl e
    · have e' : y = i := by omega
      subst e'
      exact .inr ⟨rfl, hs⟩
theorem on_all : marksP ls (onP ls p q ls.length 0) = marksP ls (orP p q) := marks_congr fun i hi s _ => by
  have _ := T
  unfold onP orP
  rw [decT (by omega)]; simp
theorem on_step {i k : Nat} {s : List Int} (hi : i < ls.length) (hk : (gl ls i)[k]? = some s) (y : Nat) (t : List Int) : onP ls p q i (k + 1) y t = if y = i ∧ t = s then (p i s || q i s) else onP ls p q i k y t := by
  have _ := T
  unfold onP
  rw [take_succ_get hk]
  by_cases e : y = i
  · subst e
    by_cases et : t = s
    · subst et
      rw [if_pos ⟨rfl, rfl⟩]; simp
    · rw [if_neg (fun h => et h.2)]
      have : ((gl ls y).take k ++ [s]).contains t = ((gl ls y).take k).contains t := by
        rw [Bool.eq_iff_iff]; simp [et]
      rw [this]
  · rw [if_neg (fun h => e h.1)]
    have : ((y : Int) == (i : Int)) = false := beqF (by omega)
    rw [this]; rfl
theorem on_now {i k : Nat} {s : List Int} (hi : i < ls.length) (hk : (gl ls i)[k]? = some s) : onP ls p q i k i s = p i s := by
  have hn := T.nodup (x := (i : Int)) (by omega) (by omega)
  unfold onP
  have : ((gl ls i).take k).contains s = false := by
    rw [Bool.eq_false_iff]
    intro h
    rw [List.contains_iff_mem] at h
    obtain ⟨j, hj, e⟩ := List.getElem_of_mem h
    have hj' : j < k := by rw [List.length_take] at hj; omega
    have : (gl ls i)[j]? = some s := by
      rw [List.getElem_take] at e
      rw [← e]; exact List.getElem?_eq_getElem _
    have := nodup_inj hn this hk
    omega
  rw [this, decF (by omega)]; simp
theorem on_set {i k : Nat} {s : List Int} (hi : i < ls.length) (hk : (gl ls i)[k]? = some s) : (marksP ls (onP ls p q i k)).set i (((gl ls i).map (onP ls p q i k i)).set k (p i s || q i s)) = marksP ls (onP ls p q i (k + 1)) := by
  have hn := T.nodup (x := (i : Int)) (by omega) (by omega)
  rw [set_row hn hk, set_marks hi]
  refine marks_congr fun y hy t _ => ?_
  rw [on_step T hi hk]
  by_cases e : y = i
  · subst e
    by_cases et : t = s
    · subst et; simp
    · simp [et]
  · rw [if_neg (by omega), if_neg (fun h => e h.1)]
end
/-- a sum of bounded sizes -/
theorem sizeR_le {α : Type} {size : α → Nat} {xs : List α} {B : Nat} (h : ∀ x ∈ xs, size x ≤ B) : sizeR size xs ≤ xs.length * B := by
  unfold sizeR
  induction xs with
  | nil => simp
  | cons x xs ih =>
    have h1 := h x (by simp)
    have h2 := ih fun y hy => h y (by simp [hy])
    rw [List.map_cons, List.sum_cons, List.length_cons, Nat.succ_mul]; omega
end Go.Proofs.YtbedkejmebepcaaGreat
