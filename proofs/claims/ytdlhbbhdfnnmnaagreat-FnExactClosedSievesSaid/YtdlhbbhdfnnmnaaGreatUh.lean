/- The closed sieves: the reference and the program agree; the law of ClosedSieves, on plain data. No condition beside those that each theorem names. -/
import Derived.Test.YtdlhbbhdfnnmnaaGreatRe
import Derived.Test.YtdlhbbhdfnnmnaaGreatRi
namespace Go.Proofs.YtdlhbbhdfnnmnaaGreat
open Go Go.Li

/-- a loop that keeps some elements of a list -/
theorem keepG {α S S1 R : Type} {body : S1 → Option (Out S1 R)} {k : Nat} {f : S1 → Option (Out S R)} {s0 : S1} (l : List α) (q : α → Bool) (pk : List α → Nat → S1) (e0 : pk [] 0 = s0)
    (step : ∀ i a acc, l[i]? = some a → acc.length ≤ i → body (pk acc i) = some (.norm (pk (if q a then acc ++ [a] else acc) (i + 1)))) (last : ∀ acc, body (pk acc l.length) = some (.exit k (pk acc l.length))) :
    lbind (blockM k (loopM body s0)) f = f (pk (l.filter q) l.length) := by
  refine (for_all l (fun i => pk ((l.take i).filter q) i) (by simpa using e0) (fun i a ha => ?_) (e := pk (l.filter q) l.length) ?_)
  · rw [step i a _ ha (by have := List.length_filter_le q (l.take i); rw [List.length_take] at this; omega), take_succ_get ha, List.filter_append]
    cases h : q a <;> simp [h]
  · rw [last, List.take_length]
/-- the sieves that are their closures -/
def closedL (t : MTopology) (ls : List (List (List Int))) (x : Int) : List (List Int) := (gl ls x).filter fun s => s == clB t x s
section
variable {t : MTopology} (F : Form t) {ls : List (List (List Int))} (T : Tab t.Shape ls) (ht : TopSmall t) {x : Int} (h0 : 0 ≤ x) (h1 : x < ls.length)
include F T ht h0 h1
theorem closed_len : (closedL t ls x).length ≤ 16 ∧ ∀ z ∈ closedL t ls x, z.length ≤ 40 := by
  have _ := F
  have _ := ht
  have h2 := T.l16 h0 h1
  have h3 := List.length_filter_le (fun s => s == clB t x s) (gl ls x)
  exact ⟨by unfold closedL; omega, fun z hz => T.s40 h0 h1 (List.mem_filter.1 hz).1⟩
theorem clB_len {s : List Int} : (clB t x s).length ≤ 40 := by
  have _ := F
  have _ := ht
  have _ := h0
  have _ := h1
  have hm := T.cat.m
  have h2 := List.length_filter_le (fun a => covB t.Covers (gi t.Shape.To a) (pullS t.Shape a s)) (outS t.Shape x)
  have h3 := outS_len t.Shape x
  unfold clB; omega
theorem implClosed {n : Int} : impl_coverage_closed (KK t.Shape ls (covB t.Covers) n) x = some (closedL t ls x) := by
  have h16 := T.l16 h0 h1
  unfold impl_coverage_closed impl_coverage_closed_R
  show (retM (S := Unit) (idx ls x >>= _) >>= _) = _
  rw [idx_gl h0 h1, some_bind']
  rw [show lbind (blockM 0 (loopM (fun s => impl_coverage_closed_L0 (KK t.Shape ls (covB t.Covers) n) x (gl ls x) s.1 s.2) (([] : List (List Int)), (0 : Int)))) (fun (z : List (List Int) × Int) => (some (Out.ret z.1) : Option (Out Unit (List (List Int))))) = some (.ret (closedL t ls x)) from by
    refine (keepG (gl ls x) (fun s => s == clB t x s) (fun acc i => (acc, (i : Int))) rfl ?_ ?_).trans rfl
    · intro i s acc hs hacc
      have hi := getElem?_lt hs
      have hsm := List.mem_of_getElem? hs
      have hc := clB_len F T ht h0 h1 (s := s)
      show impl_coverage_closed_L0 _ x _ acc (i : Int) = _
      unfold impl_coverage_closed_L0
      rw [decT (by omega), cond_true, idx_nat, hs, some_bind', implClosure F T ht h0 h1 ((T.mem h0 h1).1 hsm), some_bind', implSame _ _ (by omega), some_bind', fits_ok (by omega) (by omega), some_bind', w64_nat (by omega), show (clB t x s == s) = (s == clB t x s) from by rw [Bool.eq_iff_iff, beq_iff_eq, beq_iff_eq]; exact eq_comm]
      cases (s == clB t x s) <;> rfl
    · intro acc
      show impl_coverage_closed_L0 _ x _ acc _ = _
      unfold impl_coverage_closed_L0
      rw [decF (by omega), cond_false]]
  have hn : (closedL t ls x).Nodup := List.Pairwise.filter _ (T.nodup h0 h1)
  show (ndR (closedL t ls x) >>= _) = _
  unfold ndR
  rw [if_pos hn]; rfl
theorem specClosedL {m : List (List Bool)} {u : List Int} {a : List (List Int)} : lbind (blockM 0 (loopM (fun s => spec_ClosedSieves_L0 t x (ML27Table.mk t.Shape ls a u, m, 0) s.1 s.2) (([] : List (List Int)), (0 : Int)))) (fun (z : List (List Int) × Int) => (some (Out.ret (z.1, (0 : Int))) : Option (Out Unit (List (List Int) × Int)))) = some (.ret (closedL t ls x, 0)) := by
  have h16 := T.l16 h0 h1
  refine (keepG (gl ls x) (fun s => s == clB t x s) (fun acc i => (acc, (i : Int))) rfl ?_ ?_).trans rfl
  · intro i s acc hs hacc
    have hi := getElem?_lt hs
    have hsm := List.mem_of_getElem? hs
    have h40 := T.s40 h0 h1 hsm
    show spec_ClosedSieves_L0 t x _ acc (i : Int) = _
    unfold spec_ClosedSieves_L0
    show (idx ls x >>= _) = _
    simp only [idx_gl h0 h1, some_bind', idx_nat, hs]
    rw [decT (by omega), cond_true, specClose' F T ht h0 h1 ((T.mem h0 h1).1 hsm), some_bind', specSame _ _ (by omega), some_bind', w64_nat (by omega)]
    cases (s == clB t x s) with
    | false => rfl
    | true =>
      show (spec_l01Own s >>= _) = _
      rw [specOwn0 s (by omega), some_bind', fits_ok (by omega) (by omega), some_bind']; rfl
  · intro acc
    show spec_ClosedSieves_L0 t x _ acc _ = _
    unfold spec_ClosedSieves_L0
    show (idx ls x >>= _) = _
    rw [idx_gl h0 h1, some_bind', decF (by omega), cond_false]
end
theorem implMoved {y : List (List Int)} (hy : y.length ≤ 1048576) : lbind (blockM 0 (loopM (fun s => impl_ClosedSieves_L0 y s.1 s.2) (([] : List (List Int)), (0 : Int)))) (fun (s : List (List Int) × Int) => ((ndR s.1) >>= fun _ => (some (Out.ret (s.1, (0 : Int))) : Option (Out Unit (List (List Int) × Int))))) = (ndR y >>= fun _ => some (.ret (y, 0))) := by
  refine (keepG y (fun _ => true) (fun acc i => (acc, (i : Int))) rfl ?_ ?_).trans ?_
  · intro i s acc hs hacc
    have hi := getElem?_lt hs
    show impl_ClosedSieves_L0 y acc (i : Int) = _
    unfold impl_ClosedSieves_L0
    rw [decT (by omega), cond_true, idx_nat, hs, some_bind', fits_ok (by omega) (by omega), some_bind', w64_nat (by omega)]; rfl
  · intro acc
    show impl_ClosedSieves_L0 y acc _ = _
    unfold impl_ClosedSieves_L0
    rw [decF (by omega), cond_false]
  · have : y.filter (fun _ => true) = y := by simp
    show (ndR (y.filter fun _ => true) >>= fun _ => some (Out.ret (y.filter (fun _ => true), (0 : Int)))) = _
    rw [this]
theorem closed_alike {t : MTopology} (ht : TopSmall t) {x : Int} : ∃ y, spec_ClosedSieves t x = some y ∧ impl_ClosedSieves t x = some y ∧ y.1.length ≤ 16 ∧ ∀ z ∈ y.1, z.length ≤ 40 := by
  unfold spec_ClosedSieves impl_ClosedSieves
  rw [specForm ht, some_bind', implForm ht, some_bind']
  cases hf : formB t with
  | false => exact ⟨([], 1), rfl, rfl, by simp, fun _ h => nomatch h⟩
  | true =>
    have F := form_of hf
    have ho8 := F.cat.o8
    have ho0 := F.cat.o0
    rw [Bool.not_true, cond_false, cond_false, specObj, some_bind', w64_id (by omega) (by omega), inRange, some_bind']
    have er : (decide (0 ≤ x) && decide (x ≤ t.Shape.Objects - 1)) = (decide (0 ≤ x) && decide (x < t.Shape.Objects)) := by
      congr 1; rw [Bool.eq_iff_iff]; simp; omega
    rw [er]
    cases hr : (decide (0 ≤ x) && decide (x < t.Shape.Objects)) with
    | false => exact ⟨([], 2), rfl, rfl, by simp, fun _ h => nomatch h⟩
    | true =>
      simp only [Bool.and_eq_true, decide_eq_true_eq] at hr
      rw [Bool.not_true, cond_false, cond_false]
      rcases form_scan F with ⟨ls, T⟩ | ⟨k, ls, hk, h, hn⟩
      · obtain ⟨n, hl⟩ := implLimit F T ht
        rw [hl, specCode F T ht hf, some_bind', some_bind']
        have hxl : x < ls.length := by rw [T.len]; exact hr.2
        cases e : openB t.Shape ls (covB t.Covers) with
        | true => exact ⟨([], 5), rfl, rfl, by simp, fun _ h => nomatch h⟩
        | false =>
          obtain ⟨g1, g2⟩ := closed_len F T ht hr.1 hxl
          refine ⟨(closedL t ls x, 0), ?_, ?_, g1, g2⟩
          · exact congrArg retM (specClosedL F T ht hr.1 hxl)
          · show retM (impl_coverage_closed (KK t.Shape ls (covB t.Covers) n) x >>= _) = _
            rw [implClosed F T ht hr.1 hxl, some_bind', implMoved (by omega)]
            have hnd : (closedL t ls x).Nodup := List.Pairwise.filter _ (T.nodup hr.1 hxl)
            unfold ndR
            rw [if_pos hnd]; rfl
      · obtain ⟨y, h1, h2⟩ := specCodeNo ht hf F hk h hn
        rw [h1, implLimitNo ht F hk h hn, some_bind', some_bind', h2]
        exact ⟨([], 3), rfl, rfl, by simp, fun _ h => nomatch h⟩
theorem closed_law {x0 : MTopology} (hl : TopLens x0) (x : Int) : laws_FnExactClosedSieves x0 x = some true := by
  unfold laws_FnExactClosedSieves
  rw [szTop hl, some_bind']
  by_cases h : (topSize x0 : Int) ≤ 1048576
  · have hn : topSize x0 ≤ 1048576 := by omega
    have hs := topSmall_of hn
    obtain ⟨y, h1, h2, h3, h4⟩ := closed_alike hs (x := x)
    obtain ⟨r, g1, g2, g3⟩ := mark_top hs hn
    have hr : ∀ z ∈ y.1, z.length ≤ 1048576000 := fun z hz => by have := h4 z hz; omega
    have ht : tot y.1 ≤ y.1.length * 40 := by
      have : ∀ l : List (List Int), (∀ z ∈ l, z.length ≤ 40) → tot l ≤ l.length * 40 := by
        intro l
        induction l with
        | nil => intro _; exact Nat.le_refl _
        | cons a l ih =>
          intro hl
          have := ih fun z hz => hl z (by simp [hz])
          have := hl a (by simp)
          rw [tot_cons, List.length_cons]; omega
      exact this _ h4
    have m2 := markSS (x := y.1) (k := 1) (by omega) (by omega) hr (by rw [s2_eq]; omega)
    have m3 := heldSS (x := y.1) (k := 1) (by omega) (by omega) hr (by rw [s2_eq]; omega)
    have ey := eqSS y.1 y.1 (by omega) hr
    have e2 : (y.1 == y.1) = true := beqT rfl
    rw [e2] at ey
    have c1 : decide (r.1 < 0) = false := decF (by omega)
    have c2 : decide ((1 : Int) + (s2 y.1 : Int) < 0) = false := decF (by omega)
    have c3 : ((1 : Int) + (s2 y.1 : Int) != 1 + (s2 y.1 : Int)) = false := bneF rfl
    have c4 : (y.2 != y.2) = false := bneF rfl
    rw [if_pos h, decF (by omega), cond_false, toTop hn]
    simp only [some_bind', h1, h2, ey, Bool.not_true, cond_false, c4, eqTop_self hs, g1, c1, m2, m3, c2, c3]
    rfl
  · rw [if_neg h, decT (by omega), cond_true]; rfl
end Go.Proofs.YtdlhbbhdfnnmnaaGreat
