/- The program's coverage of a topology, and whether it is one. No condition beside those that each theorem names. -/
import Derived.Test.YtcmckiiafgcmjaaGreatRb
namespace Go.Proofs.YtcmckiiafgcmjaaGreat
open Go Go.Li

theorem take_all {α : Type} {l : List α} {f : α → Bool} {i : Nat} {x : α} (h : l[i]? = some x) : (l.take (i + 1)).all f = ((l.take i).all f && f x) := by
  rw [take_succ_get h, List.all_append]; simp
theorem all_len {α : Type} (l : List α) (f : α → Bool) : (l.take l.length).all f = l.all f := by rw [List.take_length]

/-- the program's coverage with marks -/
abbrev KK (c : MCategory) (ls : List (List (List Int))) (p : Int → List Int → Bool) (n : Int) : MCoverage := MCoverage.mk (MClassifier.mk (MSetFunctor.mk c (sizesOf ls) (acts c ls)) ls) c (marksP ls p) n
section
variable {c : MCategory} {ls : List (List (List Int))} (T : Tab c ls) {p : Int → List Int → Bool}
include T
theorem great_iff {x : Int} (h0 : 0 ≤ x) (h1 : x < ls.length) {s : List Int} (hs : Sv c x s) : hasB s (gi c.Identity x) = (s == outS c x) := by
  have hx : x < c.Objects := by rw [← T.len]; exact h1
  have hid := T.cat.id h0 hx
  rw [Bool.eq_iff_iff, hasB_iff, beq_iff_eq]
  constructor
  · intro hm
    refine sorted_eq (by rw [hs.form]; exact (ns_pw _).filter _) ((ns_pw _).filter _) fun y => ⟨fun hy => outS_mem.2 ⟨hs.arr y hy, hs.src y hy⟩, fun hy => ?_⟩
    have hy := outS_mem.1 hy
    have := hs.closed _ hm y hy.1.1 hy.1.2 (by rw [T.cat.idt x h0 hx, hy.2])
    have e := T.cat.unitL y hy.1.1 hy.1.2
    rw [hy.2] at e
    rw [e] at this; exact this
  · intro e
    rw [e, outS_mem]
    exact ⟨hid, T.cat.idf x h0 hx⟩
theorem implTops (u v : List Int) (w : List (List Int)) : impl_classifier_tops (MClassifier.mk (MSetFunctor.mk c u w) ls) = some (tops c ls) := by
  have _ := v
  have h8 := T.len8
  unfold impl_classifier_tops
  refine (congrArg retM (map_loop ls.length (fun x => placeS (gl ls x) (outS c x)) (fun acc i => (acc, (i : Int))) rfl ?_ ?_)).trans rfl
  · intro i acc hi ha
    have h0 : (0 : Int) ≤ (i : Int) := by omega
    have h1 : (i : Int) < ls.length := by omega
    have h16 := T.l16 h0 h1
    obtain ⟨j, e1, e2⟩ := place_some (T.out h0 h1)
    have hj := getElem?_lt e2
    show impl_classifier_tops_L0 _ acc i = _
    unfold impl_classifier_tops_L0
    show (bif decide ((i : Int) < (ls.length : Int)) then (idx ls (i : Int) >>= _) else _) = _
    rw [decT h1, cond_true, idx_gl h0 h1, some_bind']
    refine (for_all (gl ls i) (fun k => (if j < k then acc ++ [(j : Int)] else acc, (k : Int))) (e := (acc ++ [(j : Int)], ((gl ls i).length : Int))) rfl ?_ ?_).trans ?_
    · intro k s hs
      have hk := getElem?_lt hs
      have hsv := (T.mem h0 h1).1 (List.mem_of_getElem? hs)
      have hid := T.cat.idxI h0 (by rw [← T.len]; exact h1)
      have hall : impl_all c (i : Int) s = some (s == outS c i) := by
        unfold impl_all impl_sieve_isGreatest
        rw [hid, some_bind', implHas _ _ (by have := T.s40 h0 h1 (List.mem_of_getElem? hs); omega), great_iff T h0 h1 hsv]; rfl
      show impl_classifier_tops_L1 _ (i : Int) (gl ls i) (if j < k then acc ++ [(j : Int)] else acc) k = _
      unfold impl_classifier_tops_L1
      show (bif decide ((k : Int) < ((gl ls i).length : Int)) then (idx (gl ls i) (k : Int) >>= fun e36 => ((impl_all c (i : Int) e36) >>= _)) else _) = _
      rw [decT (by omega), cond_true, idx_nat, hs, some_bind', hall, some_bind']
      by_cases e : k = j
      · subst e
        rw [e2] at hs
        rw [← Option.some.inj hs, beqT rfl, cond_true, if_neg (by omega), if_pos (by omega), fits_ok (by omega) (by omega), some_bind', w64_nat (by omega)]
      · have hne : s ≠ outS c i := fun h => e (nodup_inj (T.nodup h0 h1) (by rw [← h]; exact hs) e2)
        rw [beqF hne, cond_false, w64_nat (by omega)]
        by_cases h : j < k
        · rw [if_pos h, if_pos (by omega)]
        · rw [if_neg h, if_neg (by omega)]
    · show impl_classifier_tops_L1 _ (i : Int) (gl ls i) (if j < (gl ls i).length then acc ++ [(j : Int)] else acc) ((gl ls i).length : Int) = _
      unfold impl_classifier_tops_L1
      rw [decF (by omega), cond_false, if_pos hj]
    · rw [e1, w64_nat (by omega)]
  · intro acc ha
    show impl_classifier_tops_L0 _ acc _ = _
    unfold impl_classifier_tops_L0
    show (bif decide ((ls.length : Int) < (ls.length : Int)) then _ else _) = _
    rw [decF (by omega), cond_false]
theorem isAt {n x : Int} (h0 : 0 ≤ x) (h1 : x < ls.length) {s : List Int} (hs : s ∈ gl ls x) : impl_coverage_is (KK c ls p n) x s = some (p x s) := by
  have h16 := T.l16 h0 h1
  have h40 := T.s40 h0 h1 hs
  unfold impl_coverage_is
  rw [idx_marks h0 h1, some_bind', number T.cat h0 h1 (by show (gl ls x).length ≤ _; omega) (by omega), some_bind', at_mark _ hs, some_bind']; rfl
theorem implLocally {n x : Int} (h0 : 0 ≤ x) (h1 : x < ls.length) {s t : List Int} (hs : s ∈ gl ls x) (ht : t ∈ gl ls x) : impl_coverage_locally (KK c ls p n) t s = some (localB c p s t) := by
  have h40 := T.s40 h0 h1 hs
  have ht40 := T.s40 h0 h1 ht
  have htv := (T.mem h0 h1).1 ht
  unfold impl_coverage_locally
  refine (congrArg retM (for_anyb s (fun a => !(p (gi c.To a) (pullS c a t))) (fun i => (i : Int)) rfl ?_ ?_ (e := (s.length : Int)) (y := false) ?_)).trans ?_
  · intro i a ha hq
    have hi := getElem?_lt ha
    obtain ⟨a0, a1⟩ := T.arr h0 h1 hs (List.mem_of_getElem? ha)
    unfold impl_coverage_locally_L0
    rw [decT (by omega), cond_true, idx_nat, ha, some_bind']
    show (idx c.To a >>= _) = _
    rw [T.cat.idxT a0 a1, some_bind', implPull T.cat.toShape a0 a1 _ (by omega), some_bind', isAt T (T.to a0 a1).1 (T.to a0 a1).2 (T.pull a0 a1 htv), some_bind', hq, cond_false, w64_nat (by omega)]
  · intro i a ha hq
    have hi := getElem?_lt ha
    obtain ⟨a0, a1⟩ := T.arr h0 h1 hs (List.mem_of_getElem? ha)
    unfold impl_coverage_locally_L0
    rw [decT (by omega), cond_true, idx_nat, ha, some_bind']
    show (idx c.To a >>= _) = _
    rw [T.cat.idxT a0 a1, some_bind', implPull T.cat.toShape a0 a1 _ (by omega), some_bind', isAt T (T.to a0 a1).1 (T.to a0 a1).2 (T.pull a0 a1 htv), some_bind', hq, cond_true]
  · unfold impl_coverage_locally_L0; rw [decF (by omega), cond_false]
  · unfold localB
    cases s.any fun a => !(p (gi c.To a) (pullS c a t)) <;> rfl
theorem isTop1 {n x : Int} (h0 : 0 ≤ x) (h1 : x < ls.length) {s : List Int} (hs : s ∈ gl ls x) (b : Bool) : impl_coverage_isTopology_1 x (placeS (gl ls x) s) b (KK c ls p n) = some (b && p x s) := by
  have _ := T
  unfold impl_coverage_isTopology_1
  cases b with
  | false => rfl
  | true =>
    rw [cond_true, idx_marks h0 h1, some_bind', at_mark _ hs, some_bind', Bool.true_and]; rfl
theorem cloneB (l : List Bool) (h : l.length ≤ 1048576) : slices_Clone___bool_bool_ l = some l := by
  have _ := T
  unfold slices_Clone___bool_bool_; rw [fits_ok (by omega) (by omega), some_bind']
def F1 (c : MCategory) (ls : List (List (List Int))) (p : Int → List Int → Bool) : Bool := (ns ls.length).all fun x => p x (outS c x)
def F2 (c : MCategory) (ls : List (List (List Int))) (p : Int → List Int → Bool) : Bool := (ns c.From.length).all fun a => (gl ls (gi c.From a)).all fun s => !(p (gi c.From a) s) || p (gi c.To a) (pullS c a s)
def F3 (c : MCategory) (ls : List (List (List Int))) (p : Int → List Int → Bool) : Bool := (ns ls.length).all fun x => (gl ls x).all fun t => (gl ls x).all fun s => !(p x s) || (p x t || !(localB c p s t))
theorem F_open : (F1 c ls p && F2 c ls p && F3 c ls p) = !(openB c ls p) := by
  rw [Bool.eq_iff_iff, Bool.not_eq_true', closed_iff T]
  unfold F1 F2 F3
  simp only [Bool.and_eq_true, List.all_eq_true, Bool.or_eq_true, Bool.not_eq_true']
  constructor
  · rintro ⟨⟨h1, h2⟩, h3⟩
    refine ⟨fun x x0 x1 => h1 x (ns_mem.2 ⟨x0, x1⟩), fun a s a0 a1 hs hp => ?_, fun x x0 x1 s hs t ht hp hl => ?_⟩
    · rcases h2 a (ns_mem.2 ⟨a0, a1⟩) s hs with h | h
      · rw [hp] at h; cases h
      · exact h
    · rcases h3 x (ns_mem.2 ⟨x0, x1⟩) t ht s hs with h | h | h
      · rw [hp] at h; cases h
      · exact h
      · rw [hl] at h; cases h
  · intro h
    refine ⟨⟨fun x hx => h.top x (ns_mem.1 hx).1 (ns_mem.1 hx).2, fun a ha s hs => ?_⟩, fun x hx t ht s hs => ?_⟩
    · cases e : p (gi c.From a) s with
      | false => exact .inl rfl
      | true => exact .inr (h.arrow a s (ns_mem.1 ha).1 (ns_mem.1 ha).2 hs e)
    · cases e : p x s with
      | false => exact .inl rfl
      | true =>
        cases e2 : localB c p s t with
        | false => exact .inr (.inr rfl)
        | true => exact .inr (.inl (h.loc x (ns_mem.1 hx).1 (ns_mem.1 hx).2 s hs t ht e e2))
theorem followsI (n : Int) (g : Bool) : impl_coverage_follows_isTop (KK c ls p n) g = some (((g && F1 c ls p) && F2 c ls p) && F3 c ls p) := by
  have h8 := T.len8
  have hm := T.cat.m
  unfold impl_coverage_follows_isTop
  rw [show (KK c ls p n).Classifier = MClassifier.mk (MSetFunctor.mk c (sizesOf ls) (acts c ls)) ls from rfl, implTops T _ [] _, some_bind']
  have htl : (tops c ls).length = ls.length := mapI_length _ _
  refine (congrArg finM ((for_all (ns ls.length) (fun i => ((i : Int), g && ((ns ls.length).take i).all fun x => p x (outS c x))) (e := ((ls.length : Int), g && F1 c ls p)) (by simp) ?_ ?_).trans
    ((for_all (ns c.From.length) (fun i => ((i : Int), (g && F1 c ls p) && ((ns c.From.length).take i).all fun a => (gl ls (gi c.From a)).all fun s => !(p (gi c.From a) s) || p (gi c.To a) (pullS c a s))) (e := ((c.From.length : Int), (g && F1 c ls p) && F2 c ls p)) (by simp) ?_ ?_).trans
      (for_all (ns ls.length) (fun i => ((i : Int), ((g && F1 c ls p) && F2 c ls p) && ((ns ls.length).take i).all fun x => (gl ls x).all fun t => (gl ls x).all fun s => !(p x s) || (p x t || !(localB c p s t)))) (e := ((ls.length : Int), ((g && F1 c ls p) && F2 c ls p) && F3 c ls p)) (by simp) ?_ ?_)))).trans rfl
  · intro i x hx
    have e := take_all (f := fun x => p x (outS c x)) hx
    obtain ⟨rfl, hi⟩ := ns_get hx
    show impl_coverage_follows_isTop_L0 _ _ (i : Int) _ = _
    unfold impl_coverage_follows_isTop_L0
    rw [htl, decT (by omega), cond_true, T.tops_at (by omega) (by omega), some_bind', isTop1 T (by omega) (by omega) (T.out (by omega) (by omega)), some_bind', w64_nat (by omega), e, Bool.and_assoc]
  · show impl_coverage_follows_isTop_L0 _ _ _ _ = _
    unfold impl_coverage_follows_isTop_L0
    rw [htl, ns_length, decF (by omega), cond_false]
    unfold F1
    conv => rhs; rw [← all_len, ns_length]
  · intro i a ha
    have e := take_all (f := fun a => (gl ls (gi c.From a)).all fun s => !(p (gi c.From a) s) || p (gi c.To a) (pullS c a s)) ha
    obtain ⟨rfl, hi⟩ := ns_get ha
    have hf := T.fr (a := (i : Int)) (by omega) (by omega)
    have ht := T.to (a := (i : Int)) (by omega) (by omega)
    have h16 := T.l16 hf.1 hf.2
    show impl_coverage_follows_isTop_L1 _ (i : Int) ((g && F1 c ls p) && ((ns c.From.length).take i).all fun a => (gl ls (gi c.From a)).all fun s => !(p (gi c.From a) s) || p (gi c.To a) (pullS c a s)) = some (Out.norm (((i + 1 : Nat) : Int), (g && F1 c ls p) && ((ns c.From.length).take (i + 1)).all fun a => (gl ls (gi c.From a)).all fun s => !(p (gi c.From a) s) || p (gi c.To a) (pullS c a s)))
    rw [e, ← Bool.and_assoc]
    generalize ((g && F1 c ls p) && ((ns c.From.length).take i).all fun a => (gl ls (gi c.From a)).all fun s => !(p (gi c.From a) s) || p (gi c.To a) (pullS c a s)) = b
    unfold impl_coverage_follows_isTop_L1
    rw [decT (by show (i : Int) < (c.From.length : Int); omega), cond_true]
    show (idx c.From (i : Int) >>= _) = _
    rw [T.cat.idxF (by omega) (by omega), some_bind', idx_marks hf.1 hf.2, some_bind', cloneB T _ (by rw [List.length_map]; omega), some_bind']
    refine (for_all (gl ls (gi c.From i)) (fun k => ((k : Int), b && ((gl ls (gi c.From i)).take k).all fun s => !(p (gi c.From i) s) || p (gi c.To i) (pullS c i s))) (e := (((gl ls (gi c.From i)).length : Int), b && (gl ls (gi c.From i)).all fun s => !(p (gi c.From i) s) || p (gi c.To i) (pullS c i s))) (by simp) ?_ ?_).trans ?_
    · intro k s hs
      have hk := getElem?_lt hs
      have hsm := List.mem_of_getElem? hs
      have e := take_all (f := fun s => !(p (gi c.From i) s) || p (gi c.To i) (pullS c i s)) hs
      show impl_coverage_follows_isTop_L2 _ (i : Int) _ (k : Int) _ = _
      unfold impl_coverage_follows_isTop_L2
      rw [List.length_map, decT (by omega), cond_true, idx_nat, List.getElem?_map, hs]
      simp only [Option.map_some, some_bind']
      rw [e]
      cases ep : p (gi c.From (i : Int)) s with
      | false => simp only [cond_false]; rw [w64_nat (by omega)]; simp
      | true =>
        simp only [cond_true]
        show (idx c.To (i : Int) >>= fun e79 => (idx (acts c ls) (i : Int) >>= _)) = _
        rw [T.cat.idxT (by omega) (by omega), some_bind', T.acts_at (by omega) (by omega), some_bind', T.act_at hs, some_bind', isTop1 T ht.1 ht.2 (T.pull (by omega) (by omega) ((T.mem hf.1 hf.2).1 hsm)), some_bind', w64_nat (by omega)]
        simp [Bool.and_assoc]
    · show impl_coverage_follows_isTop_L2 _ (i : Int) _ _ _ = _
      unfold impl_coverage_follows_isTop_L2
      rw [List.length_map, decF (by omega), cond_false, all_len]
    · rw [w64_nat (by omega)]
  · show impl_coverage_follows_isTop_L1 _ _ _ = _
    unfold impl_coverage_follows_isTop_L1
    rw [ns_length, decF (by show ¬ ((c.From.length : Int) < (c.From.length : Int)); omega), cond_false]
    unfold F2
    conv => rhs; rw [← all_len, ns_length]
  · intro i x hx
    have e := take_all (f := fun x => (gl ls x).all fun t => (gl ls x).all fun s => !(p x s) || (p x t || !(localB c p s t))) hx
    obtain ⟨rfl, hi⟩ := ns_get hx
    have h0 : (0 : Int) ≤ (i : Int) := by omega
    have h1 : (i : Int) < ls.length := by omega
    have h16 := T.l16 h0 h1
    show impl_coverage_follows_isTop_L3 _ (i : Int) (((g && F1 c ls p) && F2 c ls p) && ((ns ls.length).take i).all fun x => (gl ls x).all fun t => (gl ls x).all fun s => !(p x s) || (p x t || !(localB c p s t))) = some (Out.norm (((i + 1 : Nat) : Int), ((g && F1 c ls p) && F2 c ls p) && ((ns ls.length).take (i + 1)).all fun x => (gl ls x).all fun t => (gl ls x).all fun s => !(p x s) || (p x t || !(localB c p s t))))
    rw [e, ← Bool.and_assoc]
    generalize (((g && F1 c ls p) && F2 c ls p) && ((ns ls.length).take i).all fun x => (gl ls x).all fun t => (gl ls x).all fun s => !(p x s) || (p x t || !(localB c p s t))) = b
    unfold impl_coverage_follows_isTop_L3
    show (bif decide ((i : Int) < (ls.length : Int)) then (idx ls (i : Int) >>= _) else _) = _
    rw [decT h1, cond_true, idx_gl h0 h1, some_bind']
    refine (for_all (gl ls i) (fun k => ((k : Int), b && ((gl ls i).take k).all fun t => (gl ls i).all fun s => !(p i s) || (p i t || !(localB c p s t)))) (e := (((gl ls i).length : Int), b && (gl ls i).all fun t => (gl ls i).all fun s => !(p i s) || (p i t || !(localB c p s t)))) (by simp) ?_ ?_).trans ?_
    · intro k t ht
      have hk := getElem?_lt ht
      have htm := List.mem_of_getElem? ht
      have e := take_all (f := fun t => (gl ls i).all fun s => !(p i s) || (p i t || !(localB c p s t))) ht
      show impl_coverage_follows_isTop_L4 _ (i : Int) _ (k : Int) (b && ((gl ls i).take k).all fun t => (gl ls i).all fun s => !(p i s) || (p i t || !(localB c p s t))) = some (Out.norm (((k + 1 : Nat) : Int), b && ((gl ls i).take (k + 1)).all fun t => (gl ls i).all fun s => !(p i s) || (p i t || !(localB c p s t))))
      rw [e, ← Bool.and_assoc]
      generalize (b && ((gl ls i).take k).all fun t => (gl ls i).all fun s => !(p i s) || (p i t || !(localB c p s t))) = b2
      unfold impl_coverage_follows_isTop_L4
      rw [decT (by omega), cond_true, idx_marks h0 h1, some_bind', cloneB T _ (by rw [List.length_map]; omega), some_bind']
      refine (for_all (gl ls i) (fun m => ((m : Int), b2 && ((gl ls i).take m).all fun s => !(p i s) || (p i t || !(localB c p s t)))) (e := (((gl ls i).length : Int), b2 && (gl ls i).all fun s => !(p i s) || (p i t || !(localB c p s t)))) (by simp) ?_ ?_).trans ?_
      · intro m s hs
        have hm' := getElem?_lt hs
        have hsm := List.mem_of_getElem? hs
        have e := take_all (f := fun s => !(p i s) || (p i t || !(localB c p s t))) hs
        show impl_coverage_follows_isTop_L5 _ (i : Int) (gl ls i) (k : Int) _ (m : Int) _ = _
        unfold impl_coverage_follows_isTop_L5
        rw [List.length_map, decT (by omega), cond_true, idx_nat, List.getElem?_map, hs]
        simp only [Option.map_some, some_bind']
        rw [e]
        cases es : p i s with
        | false => simp only [cond_false, some_bind']; rw [w64_nat (by omega)]; simp
        | true =>
          simp only [cond_true]
          rw [idx_marks h0 h1, some_bind', idx_nat, List.getElem?_map, ht]
          simp only [Option.map_some, some_bind']
          cases et : p i t with
          | true => simp only [Bool.not_true, cond_false, some_bind']; rw [w64_nat (by omega)]; simp
          | false =>
            simp only [Bool.not_false, cond_true]
            rw [idx_nat, ht, some_bind', idx_nat, hs, some_bind', implLocally T h0 h1 hsm htm, some_bind', some_bind']
            have hv := isTop1 T (p := p) (n := n) h0 h1 htm (b2 && ((gl ls i).take m).all fun s => !(p i s) || (false || !(localB c p s t)))
            rw [place_at (T.nodup h0 h1) ht, et, Bool.and_false] at hv
            cases el : localB c p s t with
            | true => simp only [cond_true, hv, some_bind']; rw [w64_nat (by omega)]; simp
            | false => simp only [cond_false]; rw [w64_nat (by omega)]; simp
      · show impl_coverage_follows_isTop_L5 _ (i : Int) _ _ _ _ _ = _
        unfold impl_coverage_follows_isTop_L5
        rw [List.length_map, decF (by omega), cond_false, all_len]
      · rw [w64_nat (by omega)]
    · show impl_coverage_follows_isTop_L4 _ (i : Int) _ _ _ = _
      unfold impl_coverage_follows_isTop_L4
      rw [decF (by omega), cond_false, all_len]
    · rw [w64_nat (by omega)]
  · show impl_coverage_follows_isTop_L3 _ _ _ = _
    unfold impl_coverage_follows_isTop_L3
    rw [ns_length]
    show (bif decide ((ls.length : Int) < (ls.length : Int)) then _ else _) = _
    rw [decF (by omega), cond_false]
    unfold F3
    conv => rhs; rw [← all_len, ns_length]
theorem implIsTop (n : Int) : impl_coverage_isTopology (KK c ls p n) = some (!(openB c ls p)) := by
  unfold impl_coverage_isTopology
  rw [followsI T, some_bind', ← F_open T, Bool.true_and]; rfl

-- marks out of covers
theorem specMarks {cov : List (List (List Int))} (hl : cov.length = ls.length) (hc : ∀ i : Nat, i < ls.length → (gl cov i).length ≤ 1048576 ∧ ∀ s ∈ gl cov i, s ∈ gl ls i) (u : List (List Int)) (v : List Int) :
    spec_l27Marks (ML27Table.mk c ls u v) cov = some (marksP ls (covB cov)) := by
  have h8 := T.len8
  unfold spec_l27Marks
  refine (congrArg retM (map_loop ls.length (fun x => (gl ls x).map (covB cov x)) (fun acc i => (acc, (i : Int))) rfl ?_ ?_)).trans rfl
  · intro i acc hi ha
    have h0 : (0 : Int) ≤ (i : Int) := by omega
    have h1 : (i : Int) < ls.length := by omega
    have h16 := T.l16 h0 h1
    obtain ⟨hcl, hcm⟩ := hc i hi
    show spec_l27Marks_L0 _ _ acc i = _
    unfold spec_l27Marks_L0
    show (bif decide ((i : Int) < (ls.length : Int)) then (idx ls (i : Int) >>= _) else _) = _
    rw [decT h1, cond_true, idx_gl h0 h1, some_bind', mk_ok (by omega) (by omega), some_bind']
    refine (for_all (gl cov i) (fun k => ((k : Int), (gl ls i).map fun t => ((gl cov i).take k).contains t)) (e := (((gl cov i).length : Int), (gl ls i).map fun t => (gl cov i).contains t)) ?_ ?_ ?_).trans ?_
    · simp only [List.take_zero, List.contains_nil]
      rw [List.map_const']; rfl
    · intro k s hs
      have hk := getElem?_lt hs
      have hsm := hcm s (List.mem_of_getElem? hs)
      show spec_l27Marks_L1 _ _ (i : Int) (k : Int) _ = _
      unfold spec_l27Marks_L1
      rw [idx_gl h0 (by omega), some_bind', decT (by omega), cond_true]
      show (idx ls (i : Int) >>= _) = _
      rw [idx_gl h0 h1, some_bind', some_bind', idx_nat, hs, some_bind', specFind _ _ (by omega) (fun y hy => by have := T.s40 h0 h1 hy; omega), some_bind', at_mark _ hsm, some_bind', w64_nat (by omega), set_mark (T.nodup h0 h1) _ hsm]
      congr 4
      funext t
      rw [take_succ_get hs]
      rw [Bool.eq_iff_iff]; simp
    · show spec_l27Marks_L1 _ _ (i : Int) _ _ = _
      unfold spec_l27Marks_L1
      rw [idx_gl h0 (by omega), some_bind', decF (by omega), cond_false, List.take_length]
    · show (fits 24 (acc.length + 1) >>= _) = _
      rw [fits_ok (by omega) (by omega), some_bind', w64_nat (by omega)]; rfl
  · intro acc ha
    show spec_l27Marks_L0 _ _ acc _ = _
    unfold spec_l27Marks_L0
    show (bif decide ((ls.length : Int) < (ls.length : Int)) then _ else _) = _
    rw [decF (by omega), cond_false]
theorem implMark {n x : Int} (h0 : 0 ≤ x) (h1 : x < ls.length) {s : List Int} (hs : s ∈ gl ls x) : ∃ m, impl_coverage_mark (KK c ls p n) x (placeS (gl ls x) s) = some (marksP ls (put p x s), m) := by
  unfold impl_coverage_mark
  rw [idx_marks h0 h1, some_bind', at_mark _ hs, some_bind']
  cases e : p x s with
  | true =>
    rw [Bool.not_true, cond_false]
    exact ⟨n, by rw [put_same e]; rfl⟩
  | false =>
    rw [Bool.not_false, cond_true, some_bind', at_mark _ hs, some_bind']
    have : sync_atomic_Int64_Add (KK c ls p n).Count 1 = some (w64 (n + 1), w64 (n + 1)) := rfl
    rw [this, some_bind', put_marks h0 h1 (T.nodup h0 h1) hs]
    exact ⟨_, rfl⟩
theorem implCoverageT {t : MTopology} (hs : t.Shape = c) (hsm : CatSmall c) (hl : t.Covers.length = ls.length) (hc : ∀ i : Nat, i < ls.length → (gl t.Covers i).length ≤ 1048576 ∧ ∀ s ∈ gl t.Covers i, s ∈ gl ls i) :
    ∃ n, impl_Topology_coverage t = some (some (KK c ls (covB t.Covers) n), true) := by
  have h8 := T.len8
  unfold impl_Topology_coverage
  rw [hs, implCoverage T.cat hsm T.lists, some_bind']
  let pm : Nat → Nat → Int → List Int → Bool := fun i k y s => (decide (y < i) && (gl t.Covers y).contains s) || (y == (i : Int) && ((gl t.Covers y).take k).contains s)
  have step : ∀ i k s, i < ls.length → (gl t.Covers i)[k]? = some s → marksP ls (put (pm i k) i s) = marksP ls (pm i (k + 1)) := by
    intro i k s hi hks
    refine marks_congr fun y hy u hu => ?_
    show (pm i k y u || ((y : Int) == (i : Int) && u == s)) = pm i (k + 1) y u
    by_cases e : y = i
    · subst e
      show ((_ || _) || _) = (_ || _)
      rw [take_succ_get hks, Bool.eq_iff_iff]; simp
    · have e1 : ((y : Int) == (i : Int)) = false := beqF (by omega)
      show ((_ || (((y : Int) == (i : Int)) && _)) || (((y : Int) == (i : Int)) && _)) = (_ || (((y : Int) == (i : Int)) && _))
      rw [e1]; simp
  have nxt : ∀ i, i < ls.length → marksP ls (pm i (gl t.Covers i).length) = marksP ls (pm (i + 1) 0) := by
    intro i hi
    refine marks_congr fun y hy u hu => ?_
    show (_ || _) = (_ || _)
    by_cases e : y = i
    · subst e
      rw [List.take_length, Bool.eq_iff_iff]; simp; intros; omega
    · have e1 : ((y : Int) == (i : Int)) = false := beqF (by omega)
      have e2 : ((y : Int) == ((i + 1 : Nat) : Int)) = true → False ∨ True := fun _ => .inr trivial
      rw [e1, Bool.eq_iff_iff]; simp; intros; omega
  obtain ⟨e, ⟨n, he⟩, h⟩ := for_inv (S := Unit) (R := Option MCoverage × Bool) (k := 0) (body := fun s => impl_Topology_coverage_L2 t (KK c ls (fun _ _ => false) 0) s.1 s.2.1 s.2.2) (f := fun x => some (Out.ret (some (MCoverage.mk (KK c ls (fun _ _ => false) 0).Classifier c x.2.2 x.2.1), true))) (ns ls.length)
    (fun i s => ∃ n, s = ((i : Int), n, marksP ls (pm i 0))) (s0 := ((0 : Int), (0 : Int), marksP ls (fun _ _ => false))) ⟨0, by
      refine congrArg (fun z => ((0 : Int), (0 : Int), z)) (marks_congr fun y hy u hu => ?_)
      show false = (_ || _)
      rw [Bool.eq_iff_iff]; simp; intros; omega⟩ (by
      rintro i x s hx ⟨n, rfl⟩
      obtain ⟨rfl, hi⟩ := ns_get hx
      obtain ⟨hcl, hcm⟩ := hc i hi
      have h0 : (0 : Int) ≤ (i : Int) := by omega
      have h1 : (i : Int) < ls.length := by omega
      have h16 := T.l16 h0 h1
      show ∃ s', impl_Topology_coverage_L2 t _ (i : Int) n _ = some (.norm s') ∧ _
      unfold impl_Topology_coverage_L2
      rw [decT (by omega), cond_true, idx_gl h0 (by omega), some_bind']
      obtain ⟨e, ⟨n', he⟩, h⟩ := for_inv (S := Int × Int × List (List Bool)) (R := Option MCoverage × Bool) (k := 2) (body := fun s => impl_Topology_coverage_L3 t (KK c ls (fun _ _ => false) 0) (i : Int) (gl t.Covers i) s.1 s.2.1 s.2.2) (f := fun x => some (Out.norm (w64 ((i : Int) + 1), x.2.1, x.2.2))) (gl t.Covers i)
        (fun k s => ∃ n, s = ((k : Int), n, marksP ls (pm i k))) (s0 := ((0 : Int), n, marksP ls (pm i 0))) ⟨n, rfl⟩ (by
          rintro k s q hks ⟨n, rfl⟩
          have hk := getElem?_lt hks
          have hsm' := hcm s (List.mem_of_getElem? hks)
          have h40 := T.s40 h0 h1 hsm'
          show ∃ s', impl_Topology_coverage_L3 t _ (i : Int) _ (k : Int) n _ = some (.norm s') ∧ _
          unfold impl_Topology_coverage_L3
          rw [decT (by omega), cond_true, idx_nat, hks, some_bind']
          show ∃ s', (impl_classifier_number (MClassifier.mk (MSetFunctor.mk c (sizesOf ls) (acts c ls)) ls) (i : Int) s >>= _) = _ ∧ _
          rw [number T.cat h0 h1 (by show (gl ls i).length ≤ _; omega) (by omega), some_bind']
          obtain ⟨m, hm⟩ := implMark T (p := pm i k) (n := n) h0 h1 hsm'
          have hm' : impl_coverage_mark (MCoverage.mk (KK c ls (fun _ _ => false) 0).Classifier t.Shape (marksP ls (pm i k)) n) (i : Int) (placeS (gl ls i) s) = some (marksP ls (put (pm i k) i s), m) := by rw [hs]; exact hm
          refine ⟨((k + 1 : Nat), m, marksP ls (put (pm i k) i s)), ?_, m, by rw [step i k s hi hks]⟩
          show (impl_coverage_mark (MCoverage.mk (KK c ls (fun _ _ => false) 0).Classifier t.Shape (marksP ls (pm i k)) n) (i : Int) (placeS (gl ls i) s) >>= _) = _
          rw [hm', some_bind', w64_nat (by omega)])
        (by
          rintro q ⟨n, rfl⟩
          refine ⟨_, ?_, n, rfl⟩
          show impl_Topology_coverage_L3 t _ (i : Int) _ _ n _ = _
          unfold impl_Topology_coverage_L3
          rw [decF (by omega), cond_false])
      subst he
      refine ⟨((i + 1 : Nat), n', marksP ls (pm i (gl t.Covers i).length)), ?_, n', by rw [nxt i hi]⟩
      refine h.trans ?_
      rw [w64_nat (by omega)])
    (by
      rintro s ⟨n, rfl⟩
      refine ⟨_, ?_, n, rfl⟩
      show impl_Topology_coverage_L2 t _ _ n _ = _
      unfold impl_Topology_coverage_L2
      rw [ns_length, decF (by omega), cond_false])
  subst he
  refine ⟨n, (congrArg retM h).trans ?_⟩
  have hp : marksP ls (pm (ns ls.length).length 0) = marksP ls (covB t.Covers) := by
    refine marks_congr fun y hy u hu => ?_
    rw [ns_length]
    show (_ || _) = _
    unfold covB
    rw [Bool.eq_iff_iff]; simp [hy]
  show some (some (MCoverage.mk _ c (marksP ls (pm (ns ls.length).length 0)) n), true) = _
  rw [hp]
end
end Go.Proofs.YtcmckiiafgcmjaaGreat
