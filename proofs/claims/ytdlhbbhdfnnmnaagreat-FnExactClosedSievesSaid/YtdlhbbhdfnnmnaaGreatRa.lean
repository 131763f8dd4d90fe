/- Lists of arrows that are sieves; each sieve is found by the searches. No condition beside those that each theorem names. -/
import Derived.Test.YtdlhbbhdfnnmnaaGreatPr
namespace Go.Proofs.YtdlhbbhdfnnmnaaGreat
open Go Go.Li

/-- does a list rise -/
def risesB (l : List Int) : Bool := !((List.range (l.length - 1)).any fun i => decide (gi l ((i : Int) + 1) ≤ gi l i))
theorem specRises (l : List Int) (hl : l.length ≤ 1048576000) : spec_l02Rises l = some (risesB l) := by
  unfold spec_l02Rises
  refine (congrArg retM (for_anyb (List.range (l.length - 1)) (fun i => decide (gi l ((i : Int) + 1) ≤ gi l i)) (fun i => ((i + 1 : Nat) : Int)) rfl ?_ ?_ (e := (((List.range (l.length - 1)).length + 1 : Nat) : Int)) (y := false) ?_)).trans ?_
  · intro i x hx hp
    obtain ⟨rfl, hi⟩ := range_get hx
    have hp' : ¬ (gi l ((x : Int) + 1) ≤ gi l x) := by simpa using hp
    unfold spec_l02Rises_L0
    rw [decT (by omega), cond_true, w64_id (by omega) (by omega), idx_gi (by omega) (by omega), some_bind', idx_gi (by omega) (by omega), some_bind', w64_nat (by omega)]
    rw [show (((x + 1 : Nat) : Int) - 1) = (x : Int) by omega, show ((x + 1 : Nat) : Int) = (x : Int) + 1 by omega, decF hp', cond_false]
  · intro i x hx hp
    obtain ⟨rfl, hi⟩ := range_get hx
    have hp' : gi l ((x : Int) + 1) ≤ gi l x := by simpa using hp
    unfold spec_l02Rises_L0
    rw [decT (by omega), cond_true, w64_id (by omega) (by omega), idx_gi (by omega) (by omega), some_bind', idx_gi (by omega) (by omega), some_bind']
    rw [show (((x + 1 : Nat) : Int) - 1) = (x : Int) by omega, show ((x + 1 : Nat) : Int) = (x : Int) + 1 by omega, decT hp', cond_true]
  · unfold spec_l02Rises_L0
    rw [decF (by rw [List.length_range]; omega), cond_false]
  · unfold risesB
    cases (List.range (l.length - 1)).any fun i => decide (gi l ((i : Int) + 1) ≤ gi l i) <;> rfl
theorem implRising (l : List Int) (hl : l.length ≤ 1048576000) : impl_rising l = some (risesB l) := by
  unfold impl_rising
  refine (congrArg retM (for_anyb (List.range (l.length - 1)) (fun i => decide (gi l ((i : Int) + 1) ≤ gi l i)) (fun i => ((i + 1 : Nat) : Int)) rfl ?_ ?_ (e := (((List.range (l.length - 1)).length + 1 : Nat) : Int)) (y := false) ?_)).trans ?_
  · intro i x hx hp
    obtain ⟨rfl, hi⟩ := range_get hx
    have hp' : ¬ (gi l x ≥ gi l ((x : Int) + 1)) := by simpa using hp
    unfold impl_rising_L0
    rw [decT (by omega), cond_true, w64_id (by omega) (by omega), idx_gi (by omega) (by omega), some_bind', idx_gi (by omega) (by omega), some_bind', w64_nat (by omega)]
    rw [show (((x + 1 : Nat) : Int) - 1) = (x : Int) by omega, show ((x + 1 : Nat) : Int) = (x : Int) + 1 by omega, decF hp', cond_false]
  · intro i x hx hp
    obtain ⟨rfl, hi⟩ := range_get hx
    have hp' : gi l x ≥ gi l ((x : Int) + 1) := by simpa using hp
    unfold impl_rising_L0
    rw [decT (by omega), cond_true, w64_id (by omega) (by omega), idx_gi (by omega) (by omega), some_bind', idx_gi (by omega) (by omega), some_bind']
    rw [show (((x + 1 : Nat) : Int) - 1) = (x : Int) by omega, show ((x + 1 : Nat) : Int) = (x : Int) + 1 by omega, decT hp', cond_true]
  · unfold impl_rising_L0
    rw [decF (by rw [List.length_range]; omega), cond_false]
  · unfold risesB
    cases (List.range (l.length - 1)).any fun i => decide (gi l ((i : Int) + 1) ≤ gi l i) <;> rfl

def badA (c : MCategory) (x : Int) (s : List Int) (a : Int) : Bool := gi c.From a != x || (ns c.From.length).any fun b => (gi c.To a == gi c.From b) && !hasB s (gk c.Composites a b)
/-- is a list a sieve at an object -/
def sieveB (c : MCategory) (x : Int) (s : List Int) : Bool := (risesB s && inS c.From.length s) && !(s.any (badA c x s))

section
variable {c : MCategory} (H : Shape c)
include H
theorem specSieve {x : Int} {s : List Int} (hs : s.length ≤ 1048576000) : spec_l25Sieve c x s = some (sieveB c x s) := by
  have hm := H.m
  unfold spec_l25Sieve
  rw [specRises s hs, some_bind', specMap _ s hs]
  unfold sieveB
  cases h1 : risesB s with
  | false => rfl
  | true =>
    cases h2 : inS c.From.length s with
    | false => rfl
    | true =>
      simp only [Bool.not_true, cond_false, some_bind', Bool.and_self, Bool.true_and]
      have hin := inS_iff.1 h2
      refine (congrArg retM (for_anyb s (badA c x s) (fun i => (i : Int)) rfl ?_ ?_ (e := (s.length : Int)) (y := false) ?_)).trans ?_
      · intro i a ha hp
        have hi := getElem?_lt ha
        have hr := hin a (List.mem_of_getElem? ha)
        simp only [badA, Bool.or_eq_false_iff] at hp
        unfold spec_l25Sieve_L0
        rw [decT (by omega), cond_true, idx_nat, ha, some_bind', H.idxF hr.1 hr.2, some_bind', hp.1, cond_false]
        refine (for_anyb (ns c.From.length) (fun b => (gi c.To a == gi c.From b) && !hasB s (gk c.Composites a b)) (fun i => (i : Int)) rfl ?_ ?_ (e := (c.From.length : Int)) (y := false) ?_).trans ?_
        · intro j b hb hq
          obtain ⟨rfl, hj⟩ := ns_get hb
          unfold spec_l25Sieve_L1
          rw [decT (by omega), cond_true, idx_nat, ha, some_bind', H.idxT hr.1 hr.2, some_bind', H.idxF (by omega) (by omega), some_bind']
          cases e : gi c.To a == gi c.From (j : Int) with
          | false => simp only [cond_false, some_bind']; rw [w64_nat (by omega)]
          | true =>
            rw [e, Bool.true_and] at hq
            simp only [cond_true]
            rw [some_bind', H.thenS hr.1 hr.2 (by omega) (by omega), some_bind', specHas _ _ hs, some_bind', some_bind', hq, cond_false, w64_nat (by omega)]
        · intro j b hb hq
          obtain ⟨rfl, hj⟩ := ns_get hb
          unfold spec_l25Sieve_L1
          rw [decT (by omega), cond_true, idx_nat, ha, some_bind', H.idxT hr.1 hr.2, some_bind', H.idxF (by omega) (by omega), some_bind']
          simp only [Bool.and_eq_true] at hq
          rw [hq.1, cond_true, some_bind', H.thenS hr.1 hr.2 (by omega) (by omega), some_bind', specHas _ _ hs, some_bind', some_bind', hq.2, cond_true]
        · rw [ns_length]; unfold spec_l25Sieve_L1; rw [decF (by omega), cond_false]
        · rw [hp.2]; simp only [Bool.false_eq_true, if_false]; rw [w64_nat (by omega)]
      · intro i a ha hp
        have hi := getElem?_lt ha
        have hr := hin a (List.mem_of_getElem? ha)
        unfold spec_l25Sieve_L0
        rw [decT (by omega), cond_true, idx_nat, ha, some_bind', H.idxF hr.1 hr.2, some_bind']
        unfold badA at hp
        cases e : gi c.From a != x with
        | true => rw [cond_true]
        | false =>
          rw [e, Bool.false_or] at hp
          rw [cond_false]
          refine (for_anyb (ns c.From.length) (fun b => (gi c.To a == gi c.From b) && !hasB s (gk c.Composites a b)) (fun i => (i : Int)) rfl ?_ ?_ (e := (c.From.length : Int)) (y := false) ?_).trans ?_
          · intro j b hb hq
            obtain ⟨rfl, hj⟩ := ns_get hb
            unfold spec_l25Sieve_L1
            rw [decT (by omega), cond_true, idx_nat, ha, some_bind', H.idxT hr.1 hr.2, some_bind', H.idxF (by omega) (by omega), some_bind']
            cases e : gi c.To a == gi c.From (j : Int) with
            | false => simp only [cond_false, some_bind']; rw [w64_nat (by omega)]
            | true =>
              rw [e, Bool.true_and] at hq
              simp only [cond_true]
              rw [some_bind', H.thenS hr.1 hr.2 (by omega) (by omega), some_bind', specHas _ _ hs, some_bind', some_bind', hq, cond_false, w64_nat (by omega)]
          · intro j b hb hq
            obtain ⟨rfl, hj⟩ := ns_get hb
            unfold spec_l25Sieve_L1
            rw [decT (by omega), cond_true, idx_nat, ha, some_bind', H.idxT hr.1 hr.2, some_bind', H.idxF (by omega) (by omega), some_bind']
            simp only [Bool.and_eq_true] at hq
            rw [hq.1, cond_true, some_bind', H.thenS hr.1 hr.2 (by omega) (by omega), some_bind', specHas _ _ hs, some_bind', some_bind', hq.2, cond_true]
          · rw [ns_length]; unfold spec_l25Sieve_L1; rw [decF (by omega), cond_false]
          · rw [hp]; rfl
      · unfold spec_l25Sieve_L0; rw [decF (by omega), cond_false]
      · cases s.any (badA c x s) <;> rfl
theorem any_out (a : Int) (q : Int → Bool) : (outS c (gi c.To a)).any q = (ns c.From.length).any fun b => (gi c.To a == gi c.From b) && q b := by
  have _ := H
  unfold outS
  rw [any_filter']
  congr 1
  funext b
  congr 1
  rw [Bool.eq_iff_iff]; simp only [beq_iff_eq]; exact ⟨Eq.symm, Eq.symm⟩
theorem isSieve {x : Int} {s : List Int} (hs : s.length ≤ 1048576000) : impl_Category_isSieve c x s = some (sieveB c x s) := by
  have hm := H.m
  unfold impl_Category_isSieve
  rw [implRising s hs, some_bind', show impl_Category_arrows c = some (c.From.length : Int) from rfl, some_bind', within _ _ hs (by omega) (by omega)]
  unfold sieveB
  cases h1 : risesB s with
  | false => rfl
  | true =>
    cases h2 : inS c.From.length s with
    | false => rfl
    | true =>
      simp only [Bool.not_true, cond_false, some_bind', Bool.and_self, Bool.true_and]
      have hin := inS_iff.1 h2
      have inner : ∀ {a : Int}, 0 ≤ a → a < c.From.length → ∀ {f : Int → Option (Out Int Bool)}, lbind (blockM 2 (loopM (impl_Category_isSieve_L1 c s a (outS c (gi c.To a))) (0 : Int))) f =
          if ((ns c.From.length).any fun b => (gi c.To a == gi c.From b) && !hasB s (gk c.Composites a b)) then some (.ret false) else f ((outS c (gi c.To a)).length : Int) := by
        intro a a0 a1 f
        have ho := outS_len c (gi c.To a)
        rw [← any_out H a fun b => !hasB s (gk c.Composites a b)]
        refine for_anyb (outS c (gi c.To a)) (fun b => !hasB s (gk c.Composites a b)) (fun i => (i : Int)) rfl ?_ ?_ ?_
        · intro j b hb hq
          have hj := getElem?_lt hb
          have hbm := outS_mem.1 (List.mem_of_getElem? hb)
          unfold impl_Category_isSieve_L1
          rw [decT (by omega), cond_true, idx_nat, hb, some_bind', H.thenI a0 a1 hbm.1.1 hbm.1.2, some_bind', implHas _ _ hs, some_bind', hq, cond_false, w64_nat (by omega)]
        · intro j b hb hq
          have hj := getElem?_lt hb
          have hbm := outS_mem.1 (List.mem_of_getElem? hb)
          unfold impl_Category_isSieve_L1
          rw [decT (by omega), cond_true, idx_nat, hb, some_bind', H.thenI a0 a1 hbm.1.1 hbm.1.2, some_bind', implHas _ _ hs, some_bind', hq, cond_true]
        · unfold impl_Category_isSieve_L1; rw [decF (by omega), cond_false]
      refine (congrArg retM (for_anyb s (badA c x s) (fun i => (i : Int)) rfl ?_ ?_ (e := (s.length : Int)) (y := false) ?_)).trans ?_
      · intro i a ha hp
        have hi := getElem?_lt ha
        have hr := hin a (List.mem_of_getElem? ha)
        simp only [badA, Bool.or_eq_false_iff] at hp
        unfold impl_Category_isSieve_L0
        rw [decT (by omega), cond_true, idx_nat, ha, some_bind', H.idxF hr.1 hr.2, some_bind', hp.1, cond_false, H.idxT hr.1 hr.2, some_bind', implOut (by omega), some_bind', inner hr.1 hr.2, hp.2]
        simp only [Bool.false_eq_true, if_false]; rw [w64_nat (by omega)]
      · intro i a ha hp
        have hi := getElem?_lt ha
        have hr := hin a (List.mem_of_getElem? ha)
        unfold impl_Category_isSieve_L0
        rw [decT (by omega), cond_true, idx_nat, ha, some_bind', H.idxF hr.1 hr.2, some_bind']
        unfold badA at hp
        cases e : gi c.From a != x with
        | true => rw [cond_true]
        | false =>
          rw [e, Bool.false_or] at hp
          rw [cond_false, H.idxT hr.1 hr.2, some_bind', implOut (by omega), some_bind', inner hr.1 hr.2, hp]; rfl
      · unfold impl_Category_isSieve_L0; rw [decF (by omega), cond_false]
      · cases s.any (badA c x s) <;> rfl
end

theorem sorted_eq : ∀ {a b : List Int}, a.Pairwise (· < ·) → b.Pairwise (· < ·) → (∀ x, x ∈ a ↔ x ∈ b) → a = b := by
  intro a b ha hb h
  have na : a.Nodup := ha.imp fun h => Int.ne_of_lt h
  have nb : b.Nodup := hb.imp fun h => Int.ne_of_lt h
  refine List.Perm.eq_of_pairwise (le := fun a b => a ≤ b) (fun _ _ _ _ h1 h2 => Int.le_antisymm h1 h2) (ha.imp fun h => Int.le_of_lt h) (hb.imp fun h => Int.le_of_lt h) ?_
  refine List.perm_iff_count.2 fun x => ?_
  rw [na.count, nb.count]
  by_cases hx : x ∈ a
  · rw [if_pos hx, if_pos ((h x).1 hx)]
  · rw [if_neg hx, if_neg fun hb => hx ((h x).2 hb)]
theorem rises_pw {l : List Int} (h : risesB l = true) : l.Pairwise (· < ·) := by
  have step : ∀ i : Nat, i + 1 < l.length → gi l i < gi l ((i + 1 : Nat) : Int) := by
    intro i hi
    unfold risesB at h
    simp only [Bool.not_eq_true', List.any_eq_false, List.mem_range, decide_eq_true_eq] at h
    have := h i (by omega)
    rw [show ((i + 1 : Nat) : Int) = (i : Int) + 1 by omega]; omega
  have far : ∀ (k i : Nat), i + k + 1 < l.length → gi l i < gi l ((i + k + 1 : Nat) : Int) := by
    intro k
    induction k with
    | zero => intro i hi; exact step i hi
    | succ k ih =>
      intro i hi
      have h1 := ih i (by omega)
      have h2 := step (i + k + 1) (by omega)
      rw [show i + (k + 1) + 1 = i + k + 1 + 1 by omega]; omega
  rw [List.pairwise_iff_getElem]
  intro i j hi hj hij
  have := far (j - i - 1) i (by omega)
  rw [show i + (j - i - 1) + 1 = j by omega] at this
  unfold gi at this
  simpa [hi, hj] using this
theorem ns_pw (n : Nat) : (ns n).Pairwise (· < ·) := by
  unfold ns
  rw [List.pairwise_map]
  exact List.pairwise_lt_range.imp fun h => by simpa using h
theorem rises_of_pw {l : List Int} (h : l.Pairwise (· < ·)) : risesB l = true := by
  unfold risesB
  simp only [Bool.not_eq_true', List.any_eq_false, List.mem_range, decide_eq_true_eq]
  intro i hi hle
  rw [List.pairwise_iff_getElem] at h
  have h1 := h i (i + 1) (by omega) (by omega) (by omega)
  unfold gi at hle
  rw [show ((i : Int) + 1).toNat = i + 1 by omega, show ((i : Int)).toNat = i by omega, List.getD_eq_getElem?_getD, List.getD_eq_getElem?_getD, List.getElem?_eq_getElem (by omega), List.getElem?_eq_getElem (by omega)] at hle
  simp only [Option.getD_some] at hle
  omega

section
variable {c : MCategory} (H : Cat c) {x : Int}
include H
theorem sieve_sv {s : List Int} : sieveB c x s = true ↔ Sv c x s := by
  have _ := H
  constructor
  · intro h
    unfold sieveB at h
    simp only [Bool.and_eq_true, Bool.not_eq_true', List.any_eq_false] at h
    obtain ⟨⟨h1, h2⟩, h3⟩ := h
    have hin := inS_iff.1 h2
    refine ⟨sorted_eq (rises_pw h1) ((ns_pw _).filter _) fun y => ?_, fun y hy => ?_, fun y hy b b0 b1 e => ?_⟩
    · rw [List.mem_filter, hasB_iff, ns_mem]
      exact ⟨fun hy => ⟨hin y hy, hy⟩, fun hy => hy.2⟩
    · have := h3 y hy
      unfold badA at this
      simp only [Bool.not_eq_true, Bool.or_eq_false_iff, bne_eq_false_iff_eq] at this
      exact this.1
    · have := h3 y hy
      unfold badA at this
      simp only [Bool.not_eq_true, Bool.or_eq_false_iff, List.any_eq_false] at this
      have := this.2 b (ns_mem.2 ⟨b0, b1⟩)
      rw [beqT e, Bool.true_and] at this
      exact hasB_iff.1 (by simpa using this)
  · intro h
    unfold sieveB
    simp only [Bool.and_eq_true, Bool.not_eq_true', List.any_eq_false]
    refine ⟨⟨rises_of_pw (by rw [h.form]; exact (ns_pw _).filter _), inS_iff.2 h.arr⟩, fun y hy => ?_⟩
    unfold badA
    simp only [Bool.not_eq_true, Bool.or_eq_false_iff, bne_eq_false_iff_eq, List.any_eq_false]
    refine ⟨h.src y hy, fun b hb => ?_⟩
    have hb := ns_mem.1 hb
    cases e : gi c.To y == gi c.From b with
    | false => simp
    | true =>
      have := h.closed y hy b hb.1 hb.2 (by simpa using e)
      simp [hasB_iff.2 this]
theorem close_app {A : List Int} {a : Int} (hA : Arr c A) : closeS c (closeS c A ++ [a]) = closeS c (A ++ [a]) := by
  show (ns c.From.length).filter _ = (ns c.From.length).filter _
  apply List.filter_congr
  intro z hz
  have key : ∀ B : List Int, clP c B z = true ↔ z ∈ closeS c B := fun B => by
    unfold closeS; rw [List.mem_filter]; exact ⟨fun h => ⟨hz, h⟩, fun h => h.2⟩
  rw [Bool.eq_iff_iff, key, key, close_mem, close_mem]
  refine and_congr_right fun hz => ⟨?_, ?_⟩
  · rintro ⟨y, hy, b, hb, e1, e2⟩
    rcases List.mem_append.1 hy with hy | hy
    · obtain ⟨hy0, u, hu, b', hb', e3, e4⟩ := close_mem.1 hy
      have hu' := hA u hu
      have c1 := H.cell u b' hu'.1 hu'.2 hb'.1 hb'.2 e3
      have e5 : gi c.To b' = gi c.From b := by rw [← c1.2.2.2, e4]; exact e1
      have c2 := H.cell b' b hb'.1 hb'.2 hb.1 hb.2 e5
      exact ⟨u, List.mem_append_left _ hu, gk c.Composites b' b, ⟨c2.1, c2.2.1⟩, by rw [c2.2.2.1]; exact e3, by rw [← H.assoc u b' b hu'.1 hu'.2 hb'.1 hb'.2 hb.1 hb.2 e3 e5, e4]; exact e2⟩
    · exact ⟨y, List.mem_append_right _ hy, b, hb, e1, e2⟩
  · rintro ⟨y, hy, b, hb, e1, e2⟩
    rcases List.mem_append.1 hy with hy | hy
    · exact ⟨y, List.mem_append_left _ (close_sub H hA y hy), b, hb, e1, e2⟩
    · exact ⟨y, List.mem_append_right _ hy, b, hb, e1, e2⟩
theorem close_reach : ∀ (n : Nat) (A : List Int), A.length = n → (∀ a ∈ A, a ∈ outS c x) → Reaches (outS c x) (stepS c) [] (closeS c A) := by
  intro n
  induction n with
  | zero =>
    intro A hA _
    obtain rfl : A = [] := List.length_eq_zero_iff.1 hA
    have : closeS c [] = [] := by unfold closeS; rw [List.filter_eq_nil_iff]; intro a _; simp [clP]
    rw [this]; exact .base
  | succ n ih =>
    intro A hA hs
    have hne : A ≠ [] := by rintro rfl; cases hA
    have hd := List.dropLast_concat_getLast hne
    have hl : A.getLast hne ∈ A := List.getLast_mem hne
    have hsub : ∀ a ∈ A.dropLast, a ∈ outS c x := fun a ha => hs a (List.dropLast_subset A ha)
    have h1 := ih A.dropLast (by simp; omega) hsub
    have h2 := Reaches.step (step := stepS c) h1 (hs _ hl)
    unfold stepS at h2
    rw [close_app H (fun a ha => (outS_mem.1 (hsub a ha)).1), hd] at h2
    exact h2
theorem sv_reach {s : List Int} (h : Sv c x s) : Reaches (outS c x) (stepS c) [] s := by
  have h1 := close_reach H s.length s rfl fun a ha => outS_mem.2 ⟨h.arr a ha, h.src a ha⟩
  have h2 : closeS c s = s := by
    conv => rhs; rw [h.form]
    unfold closeS
    apply List.filter_congr
    intro z hz
    rw [Bool.eq_iff_iff, hasB_iff]
    constructor
    · intro hc
      have : z ∈ closeS c s := List.mem_filter.2 ⟨hz, hc⟩
      obtain ⟨_, y, hy, b, hb, e1, e2⟩ := close_mem.1 this
      rw [← e2]; exact h.closed y hy b hb.1 hb.2 e1
    · intro hs
      exact (List.mem_filter.1 (close_sub H h.arr z hs)).2
  rw [h2] at h1; exact h1
theorem svl_mem {L : List (List Int)} (h : SvList c x L) (s : List Int) : s ∈ L ↔ Sv c x s := ⟨h.sv H s, fun hs => (h.mem s).2 (sv_reach H hs)⟩
theorem out_sv : Sv c x (outS c x) := by
  refine ⟨?_, fun y hy => (outS_mem.1 hy).2, fun y hy b b0 b1 e => ?_⟩
  · show (ns c.From.length).filter _ = _
    apply List.filter_congr
    intro z hz
    rw [Bool.eq_iff_iff, hasB_iff, outS_mem]
    simp only [beq_iff_eq]
    exact ⟨fun h => ⟨ns_mem.1 hz, h⟩, fun h => h.2⟩
  · have hy := outS_mem.1 hy
    have c1 := H.cell y b hy.1.1 hy.1.2 b0 b1 e
    exact outS_mem.2 ⟨⟨c1.1, c1.2.1⟩, by rw [c1.2.2.1]; exact hy.2⟩
theorem pull_sv {a : Int} (a0 : 0 ≤ a) (a1 : a < c.From.length) {s : List Int} (h : Sv c x s) : Sv c (gi c.To a) (pullS c a s) := by
  refine ⟨?_, fun y hy => ?_, fun y hy b b0 b1 e => ?_⟩
  · unfold pullS outS
    rw [List.filter_filter]
    exact filter_form
  · exact (outS_mem.1 (List.mem_filter.1 hy).1).2
  · obtain ⟨h1, h2⟩ := List.mem_filter.1 hy
    have h1 := outS_mem.1 h1
    have c0 := H.cell a y a0 a1 h1.1.1 h1.1.2 h1.2.symm
    have c1 := H.cell y b h1.1.1 h1.1.2 b0 b1 e
    refine List.mem_filter.2 ⟨outS_mem.2 ⟨⟨c1.1, c1.2.1⟩, by rw [c1.2.2.1]; exact h1.2⟩, hasB_iff.2 ?_⟩
    rw [← H.assoc a y b a0 a1 h1.1.1 h1.1.2 b0 b1 h1.2.symm e]
    exact h.closed _ (hasB_iff.1 h2) b b0 b1 (by rw [c0.2.2.2]; exact e)
end
end Go.Proofs.YtdlhbbhdfnnmnaaGreat
