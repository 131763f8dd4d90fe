/- The program's coverage of a topology, and whether it is one. No condition beside those that each theorem names. -/
import Derived.Test.YtdlhbbhdfnnmnaaGreatRg
namespace Go.Proofs.YtdlhbbhdfnnmnaaGreat
open Go Go.Li

theorem take_all {α : Type} {l : List α} {f : α → Bool} {i : Nat} {x : α} (h : l[i]? = some x) : (l.take (i + 1)).all f = ((l.take i).all f && f x) := by
  rw [take_succ_get h, List.all_append]; simp
theorem all_len {α : Type} (l : List α) (f : α → Bool) : (l.take l.length).all f = l.all f := by rw [List.take_length]

/-- the program's coverage with marks -/
abbrev KK (c : MCategory) (ls : List (List (List Int))) (p : Int → List Int → Bool) (n : Int) : MCoverage := MCoverage.mk (MClassifier.mk (MSetFunctor.mk c (sizesOf ls) (acts c ls)) ls) c (marksP ls p) n
section
variable {c : MCategory} {ls : List (List (List Int))} (T : Tab c ls) {p : Int → List Int → Bool}
include T
theorem great_iff {x : Int} (h0 : 0 ≤ x) (h1 : x < ls.length) {s : List Int} (hs : Sv c x s) : hasB s (gi c.Identity x) = (s == outS c x) := by
  have hx : x < c.Objects := by rw [← T.len]; exact h1
  have hid := T.cat.id h0 hx
  rw [Bool.eq_iff_iff, hasB_iff, beq_iff_eq]
  constructor
  · intro hm
    refine sorted_eq (by rw [hs.form]; exact (ns_pw _).filter _) ((ns_pw _).filter _) fun y => ⟨fun hy => outS_mem.2 ⟨hs.arr y hy, hs.src y hy⟩, fun hy => ?_⟩
    have hy := outS_mem.1 hy
    have := hs.closed _ hm y hy.1.1 hy.1.2 (by rw [T.cat.idt x h0 hx, hy.2])
    have e := T.cat.unitL y hy.1.1 hy.1.2
    rw [hy.2] at e
    rw [e] at this; exact this
  · intro e
    rw [e, outS_mem]
    exact ⟨hid, T.cat.idf x h0 hx⟩
theorem implTops (u v : List Int) (w : List (List Int)) : impl_classifier_tops (MClassifier.mk (MSetFunctor.mk c u w) ls) = some (tops c ls) := by
  have _ := v
  have h8 := T.len8
  unfold impl_classifier_tops
  refine (congrArg retM (map_loop ls.length (fun x => placeS (gl ls x) (outS c x)) (fun acc i => (acc, (i : Int))) rfl ?_ ?_)).trans rfl
  · intro i acc hi ha
    have h0 : (0 : Int) ≤ (i : Int) := by omega
    have h1 : (i : Int) < ls.length := by omega
    have h16 := T.l16 h0 h1
    obtain ⟨j, e1, e2⟩ := place_some (T.out h0 h1)
    have hj := getElem?_lt e2
    show impl_classifier_tops_L0 _ acc i = _
    unfold impl_classifier_tops_L0
    show (bif decide ((i : Int) < (ls.length : Int)) then (idx ls (i : Int) >>= _) else _) = _
    rw [decT h1, cond_true, idx_gl h0 h1, some_bind']
    refine (for_all (gl ls i) (fun k => (if j < k then acc ++ [(j : Int)] else acc, (k : Int))) (e := (acc ++ [(j : Int)], ((gl ls i).length : Int))) rfl ?_ ?_).trans ?_
    · intro k s hs
      have hk := getElem?_lt hs
      have hsv := (T.mem h0 h1).1 (List.mem_of_getElem? hs)
      have hid := T.cat.idxI h0 (by rw [← T.len]; exact h1)
      have hall : impl_all c (i : Int) s = some (s == outS c i) := by
        unfold impl_all impl_sieve_isGreatest
        rw [hid, some_bind', implHas _ _ (by have := T.s40 h0 h1 (List.mem_of_getElem? hs); omega), great_iff T h0 h1 hsv]; rfl
      show impl_classifier_tops_L1 _ (i : Int) (gl ls i) (if j < k then acc ++ [(j : Int)] else acc) k = _
      unfold impl_classifier_tops_L1
      show (bif decide ((k : Int) < ((gl ls i).length : Int)) then (idx (gl ls i) (k : Int) >>= fun e36 => ((impl_all c (i : Int) e36) >>= _)) else _) = _
      rw [decT (by omega), cond_true, idx_nat, hs, some_bind', hall, some_bind']
      by_cases e : k = j
      · subst e
        rw [e2] at hs
        rw [← Option.some.inj hs, beqT rfl, cond_true, if_neg (by omega), if_pos (by omega), fits_ok (by omega) (by omega), some_bind', w64_nat (by omega)]
      · have hne : s ≠ outS c i := fun h => e (nodup_inj (T.nodup h0 h1) (by rw [← h]; exact hs) e2)
        rw [beqF hne, cond_false, w64_nat (by omega)]
        by_cases h : j < k
        · rw [if_pos h, if_pos (by omega)]
        · rw [if_neg h, if_neg (by omega)]
    · show impl_classifier_tops_L1 _ (i : Int) (gl ls i) (if j < (gl ls i).length then acc ++ [(j : Int)] else acc) ((gl ls i).length : Int) = _
      unfold impl_classifier_tops_L1
      rw [decF (by omega), cond_false, if_pos hj]
    · rw [e1, w64_nat (by omega)]
  · intro acc ha
    show impl_classifier_tops_L0 _ acc _ = _
    unfold impl_classifier_tops_L0
    show (bif decide ((ls.length : Int) < (ls.length : Int)) then _ else _) = _
    rw [decF (by omega), cond_false]
theorem isAt {n x : Int} (h0 : 0 ≤ x) (h1 : x < ls.length) {s : List Int} (hs : s ∈ gl ls x) : impl_coverage_is (KK c ls p n) x s = some (p x s) := by
  have h16 := T.l16 h0 h1
  have h40 := T.s40 h0 h1 hs
  unfold impl_coverage_is
  rw [idx_marks h0 h1, some_bind', number T.cat h0 h1 (by show (gl ls x).length ≤ _; omega) (by omega), some_bind', at_mark _ hs, some_bind']; rfl
theorem implLocally {n x : Int} (h0 : 0 ≤ x) (h1 : x < ls.length) {s t : List Int} (hs : s ∈ gl ls x) (ht : t ∈ gl ls x) : impl_coverage_locally (KK c ls p n) t s = some (localB c p s t) := by
  have h40 := T.s40 h0 h1 hs
  have ht40 := T.s40 h0 h1 ht
  have htv := (T.mem h0 h1).1 ht
  unfold impl_coverage_locally
  refine (congrArg retM (for_anyb s (fun a => !(p (gi c.To a) (pullS c a t))) (fun i => (i : Int)) rfl ?_ ?_ (e := (s.length : Int)) (y := false) ?_)).trans ?_
  · intro i a ha hq
    have hi := getElem?_lt ha
    obtain ⟨a0, a1⟩ := T.arr h0 h1 hs (List.mem_of_getElem? ha)
    unfold impl_coverage_locally_L0
    rw [decT (by omega), cond_true, idx_nat, ha, some_bind']
    show (idx c.To a >>= _) = _
    rw [T.cat.idxT a0 a1, some_bind', implPull T.cat.toShape a0 a1 _ (by omega), some_bind', isAt T (T.to a0 a1).1 (T.to a0 a1).2 (T.pull a0 a1 htv), some_bind', hq, cond_false, w64_nat (by omega)]
  · intro i a ha hq
    have hi := getElem?_lt ha
    obtain ⟨a0, a1⟩ := T.arr h0 h1 hs (List.mem_of_getElem? ha)
    unfold impl_coverage_locally_L0
    rw [decT (by omega), cond_true, idx_nat, ha, some_bind']
    show (idx c.To a >>= _) = _
    rw [T.cat.idxT a0 a1, some_bind', implPull T.cat.toShape a0 a1 _ (by omega), some_bind', isAt T (T.to a0 a1).1 (T.to a0 a1).2 (T.pull a0 a1 htv), some_bind', hq, cond_true]
  · unfold impl_coverage_locally_L0; rw [decF (by omega), cond_false]
  · unfold localB
    cases s.any fun a => !(p (gi c.To a) (pullS c a t)) <;> rfl
theorem cloneB (l : List Bool) (h : l.length ≤ 1048576) : slices_Clone___bool_bool_ l = some l := by
  have _ := T
  unfold slices_Clone___bool_bool_; rw [fits_ok (by omega) (by omega), some_bind']
-- marks out of covers
theorem specMarks {cov : List (List (List Int))} (hl : cov.length = ls.length) (hc : ∀ i : Nat, i < ls.length → (gl cov i).length ≤ 1048576 ∧ ∀ s ∈ gl cov i, s ∈ gl ls i) (u : List (List Int)) (v : List Int) :
    spec_l27Marks (ML27Table.mk c ls u v) cov = some (marksP ls (covB cov)) := by
  have h8 := T.len8
  unfold spec_l27Marks
  refine (congrArg retM (map_loop ls.length (fun x => (gl ls x).map (covB cov x)) (fun acc i => (acc, (i : Int))) rfl ?_ ?_)).trans rfl
  · intro i acc hi ha
    have h0 : (0 : Int) ≤ (i : Int) := by omega
    have h1 : (i : Int) < ls.length := by omega
    have h16 := T.l16 h0 h1
    obtain ⟨hcl, hcm⟩ := hc i hi
    show spec_l27Marks_L0 _ _ acc i = _
    unfold spec_l27Marks_L0
    show (bif decide ((i : Int) < (ls.length : Int)) then (idx ls (i : Int) >>= _) else _) = _
    rw [decT h1, cond_true, idx_gl h0 h1, some_bind', mk_ok (by omega) (by omega), some_bind']
    refine (for_all (gl cov i) (fun k => ((k : Int), (gl ls i).map fun t => ((gl cov i).take k).contains t)) (e := (((gl cov i).length : Int), (gl ls i).map fun t => (gl cov i).contains t)) ?_ ?_ ?_).trans ?_
    · simp only [List.take_zero, List.contains_nil]
      rw [List.map_const']; rfl
    · intro k s hs
      have hk := getElem?_lt hs
      have hsm := hcm s (List.mem_of_getElem? hs)
      show spec_l27Marks_L1 _ _ (i : Int) (k : Int) _ = _
      unfold spec_l27Marks_L1
      rw [idx_gl h0 (by omega), some_bind', decT (by omega), cond_true]
      show (idx ls (i : Int) >>= _) = _
      rw [idx_gl h0 h1, some_bind', some_bind', idx_nat, hs, some_bind', specFind _ _ (by omega) (fun y hy => by have := T.s40 h0 h1 hy; omega), some_bind', at_mark _ hsm, some_bind', w64_nat (by omega), set_mark (T.nodup h0 h1) _ hsm]
      congr 4
      funext t
      rw [take_succ_get hs]
      rw [Bool.eq_iff_iff]; simp
    · show spec_l27Marks_L1 _ _ (i : Int) _ _ = _
      unfold spec_l27Marks_L1
      rw [idx_gl h0 (by omega), some_bind', decF (by omega), cond_false, List.take_length]
    · show (fits 24 (acc.length + 1) >>= _) = _
      rw [fits_ok (by omega) (by omega), some_bind', w64_nat (by omega)]; rfl
  · intro acc ha
    show spec_l27Marks_L0 _ _ acc _ = _
    unfold spec_l27Marks_L0
    show (bif decide ((ls.length : Int) < (ls.length : Int)) then _ else _) = _
    rw [decF (by omega), cond_false]
theorem implMark {n x : Int} (h0 : 0 ≤ x) (h1 : x < ls.length) {s : List Int} (hs : s ∈ gl ls x) : ∃ m, impl_coverage_mark (KK c ls p n) x (placeS (gl ls x) s) = some (marksP ls (put p x s), m) ∧ (m = n ∧ p x s = true ∨ m = w64 (n + 1) ∧ p x s = false) := by
  unfold impl_coverage_mark
  rw [idx_marks h0 h1, some_bind', at_mark _ hs, some_bind']
  cases e : p x s with
  | true =>
    rw [Bool.not_true, cond_false]
    exact ⟨n, by rw [put_same e]; rfl, .inl ⟨rfl, rfl⟩⟩
  | false =>
    rw [Bool.not_false, cond_true, some_bind', at_mark _ hs, some_bind']
    have : sync_atomic_Int64_Add (KK c ls p n).Count 1 = some (w64 (n + 1), w64 (n + 1)) := rfl
    rw [this, some_bind', put_marks h0 h1 (T.nodup h0 h1) hs]
    exact ⟨_, rfl, .inr ⟨rfl, rfl⟩⟩
theorem implCoverageT {t : MTopology} (hs : t.Shape = c) (hsm : CatSmall c) (hl : t.Covers.length = ls.length) (hc : ∀ i : Nat, i < ls.length → (gl t.Covers i).length ≤ 1048576 ∧ ∀ s ∈ gl t.Covers i, s ∈ gl ls i) :
    ∃ n : Int, 0 ≤ n ∧ n ≤ (cnt ls (covB t.Covers) : Int) ∧ impl_Topology_coverage t = some (some (KK c ls (covB t.Covers) n), true) := by
  have h8 := T.len8
  unfold impl_Topology_coverage
  rw [hs, implCoverage T.cat hsm T.lists, some_bind']
  let pm : Nat → Nat → Int → List Int → Bool := fun i k y s => (decide (y < i) && (gl t.Covers y).contains s) || (y == (i : Int) && ((gl t.Covers y).take k).contains s)
  have step : ∀ i k s, i < ls.length → (gl t.Covers i)[k]? = some s → marksP ls (put (pm i k) i s) = marksP ls (pm i (k + 1)) := by
    intro i k s hi hks
    refine marks_congr fun y hy u hu => ?_
    show (pm i k y u || ((y : Int) == (i : Int) && u == s)) = pm i (k + 1) y u
    by_cases e : y = i
    · subst e
      show ((_ || _) || _) = (_ || _)
      rw [take_succ_get hks, Bool.eq_iff_iff]; simp
    · have e1 : ((y : Int) == (i : Int)) = false := beqF (by omega)
      show ((_ || (((y : Int) == (i : Int)) && _)) || (((y : Int) == (i : Int)) && _)) = (_ || (((y : Int) == (i : Int)) && _))
      rw [e1]; simp
  have nxt : ∀ i, i < ls.length → marksP ls (pm i (gl t.Covers i).length) = marksP ls (pm (i + 1) 0) := by
    intro i hi
    refine marks_congr fun y hy u hu => ?_
    show (_ || _) = (_ || _)
    by_cases e : y = i
    · subst e
      rw [List.take_length, Bool.eq_iff_iff]; simp; intros; omega
    · have e1 : ((y : Int) == (i : Int)) = false := beqF (by omega)
      have e2 : ((y : Int) == ((i + 1 : Nat) : Int)) = true → False ∨ True := fun _ => .inr trivial
      rw [e1, Bool.eq_iff_iff]; simp; intros; omega
  obtain ⟨e, ⟨n, he, hn0, hn1⟩, h⟩ := for_inv (S := Unit) (R := Option MCoverage × Bool) (k := 0) (body := fun s => impl_Topology_coverage_L2 t (KK c ls (fun _ _ => false) 0) s.1 s.2.1 s.2.2) (f := fun x => some (Out.ret (some (MCoverage.mk (KK c ls (fun _ _ => false) 0).Classifier c x.2.2 x.2.1), true))) (ns ls.length)
    (fun i s => ∃ n, s = ((i : Int), n, marksP ls (pm i 0)) ∧ 0 ≤ n ∧ n ≤ (cnt ls (pm i 0) : Int)) (s0 := ((0 : Int), (0 : Int), marksP ls (fun _ _ => false))) ⟨0, by
      refine congrArg (fun z => ((0 : Int), (0 : Int), z)) (marks_congr fun y hy u hu => ?_)
      show false = (_ || _)
      rw [Bool.eq_iff_iff]; simp; intros; omega, Int.le_refl _, by omega⟩ (by
      rintro i x s hx ⟨n, rfl, hn0, hn1⟩
      obtain ⟨rfl, hi⟩ := ns_get hx
      obtain ⟨hcl, hcm⟩ := hc i hi
      have h0 : (0 : Int) ≤ (i : Int) := by omega
      have h1 : (i : Int) < ls.length := by omega
      have h16 := T.l16 h0 h1
      show ∃ s', impl_Topology_coverage_L2 t _ (i : Int) n _ = some (.norm s') ∧ _
      unfold impl_Topology_coverage_L2
      rw [decT (by omega), cond_true, idx_gl h0 (by omega), some_bind']
      obtain ⟨e, ⟨n', he, hn0', hn1'⟩, h⟩ := for_inv (S := Int × Int × List (List Bool)) (R := Option MCoverage × Bool) (k := 2) (body := fun s => impl_Topology_coverage_L3 t (KK c ls (fun _ _ => false) 0) (i : Int) (gl t.Covers i) s.1 s.2.1 s.2.2) (f := fun x => some (Out.norm (w64 ((i : Int) + 1), x.2.1, x.2.2))) (gl t.Covers i)
        (fun k s => ∃ n, s = ((k : Int), n, marksP ls (pm i k)) ∧ 0 ≤ n ∧ n ≤ (cnt ls (pm i k) : Int)) (s0 := ((0 : Int), n, marksP ls (pm i 0))) ⟨n, rfl, hn0, hn1⟩ (by
          rintro k s q hks ⟨n, rfl, hn0, hn1⟩
          have hk := getElem?_lt hks
          have hsm' := hcm s (List.mem_of_getElem? hks)
          have h40 := T.s40 h0 h1 hsm'
          show ∃ s', impl_Topology_coverage_L3 t _ (i : Int) _ (k : Int) n _ = some (.norm s') ∧ _
          unfold impl_Topology_coverage_L3
          rw [decT (by omega), cond_true, idx_nat, hks, some_bind']
          show ∃ s', (impl_classifier_number (MClassifier.mk (MSetFunctor.mk c (sizesOf ls) (acts c ls)) ls) (i : Int) s >>= _) = _ ∧ _
          rw [number T.cat h0 h1 (by show (gl ls i).length ≤ _; omega) (by omega), some_bind']
          obtain ⟨m, hm, hmn⟩ := implMark T (p := pm i k) (n := n) h0 h1 hsm'
          have hle := cnt_le T (pm i k)
          have e1 := cnt_marks (step i k s hi hks)
          have hb : 0 ≤ m ∧ m ≤ (cnt ls (pm i (k + 1)) : Int) := by
            rcases hmn with ⟨rfl, hp⟩ | ⟨rfl, hp⟩
            · have := cnt_mono (Le.put (ls := ls) (p := pm i k) (x := (i : Int)) (s := s)); omega
            · have := cnt_put h0 h1 hsm' hp
              rw [w64_id (by omega) (by omega)]; omega
          have hm' : impl_coverage_mark (MCoverage.mk (KK c ls (fun _ _ => false) 0).Classifier t.Shape (marksP ls (pm i k)) n) (i : Int) (placeS (gl ls i) s) = some (marksP ls (put (pm i k) i s), m) := by rw [hs]; exact hm
          refine ⟨((k + 1 : Nat), m, marksP ls (put (pm i k) i s)), ?_, m, by rw [step i k s hi hks], hb⟩
          show (impl_coverage_mark (MCoverage.mk (KK c ls (fun _ _ => false) 0).Classifier t.Shape (marksP ls (pm i k)) n) (i : Int) (placeS (gl ls i) s) >>= _) = _
          rw [hm', some_bind', w64_nat (by omega)])
        (by
          rintro q ⟨n, rfl, hn⟩
          refine ⟨_, ?_, n, rfl, hn⟩
          show impl_Topology_coverage_L3 t _ (i : Int) _ _ n _ = _
          unfold impl_Topology_coverage_L3
          rw [decF (by omega), cond_false])
      subst he
      refine ⟨((i + 1 : Nat), n', marksP ls (pm i (gl t.Covers i).length)), ?_, n', by rw [nxt i hi], hn0', by rw [← cnt_marks (nxt i hi)]; exact hn1'⟩
      refine h.trans ?_
      rw [w64_nat (by omega)])
    (by
      rintro s ⟨n, rfl, hn⟩
      refine ⟨_, ?_, n, rfl, hn⟩
      show impl_Topology_coverage_L2 t _ _ n _ = _
      unfold impl_Topology_coverage_L2
      rw [ns_length, decF (by omega), cond_false])
  subst he
  have hp : marksP ls (pm (ns ls.length).length 0) = marksP ls (covB t.Covers) := by
    refine marks_congr fun y hy u hu => ?_
    rw [ns_length]
    show (_ || _) = _
    unfold covB
    rw [Bool.eq_iff_iff]; simp [hy]
  refine ⟨n, hn0, by rw [← cnt_marks hp]; exact hn1, (congrArg retM h).trans ?_⟩
  show some (some (MCoverage.mk _ c (marksP ls (pm (ns ls.length).length 0)) n), true) = _
  rw [hp]
end
end Go.Proofs.YtdlhbbhdfnnmnaaGreat
