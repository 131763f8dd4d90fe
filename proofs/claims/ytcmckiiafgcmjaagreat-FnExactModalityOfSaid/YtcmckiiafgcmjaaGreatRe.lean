/- Closing a sieve, and the least covers: the reference and the program agree. No condition beside those that each theorem names. -/
import Derived.Test.YtcmckiiafgcmjaaGreatRk
namespace Go.Proofs.YtcmckiiafgcmjaaGreat
open Go Go.Li

theorem place_ge (L : List (List Int)) (s : List Int) : decide (placeS L s ≥ 0) = L.contains s := by
  by_cases h : s ∈ L
  · obtain ⟨j, h1, _⟩ := place_some h
    rw [h1, decT (by omega)]; simp [h]
  · have : placeS L s = -1 := ixF_none fun y hy => by
      rw [beq_eq_false_iff_ne]; rintro rfl; exact h hy
    rw [this, decF (by omega)]; simp [h]
/-- the closure of a sieve -/
def clB (t : MTopology) (x : Int) (s : List Int) : List Int := (outS t.Shape x).filter fun a => covB t.Covers (gi t.Shape.To a) (pullS t.Shape a s)
/-- a loop that keeps some elements of a list -/
theorem keep_loop {S S1 R : Type} {body : S1 → Option (Out S1 R)} {k : Nat} {f : S1 → Option (Out S R)} {s0 : S1} (l : List Int) (q : Int → Bool) (pk : List Int → Nat → S1) (e0 : pk [] 0 = s0)
    (step : ∀ i a acc, l[i]? = some a → acc.length ≤ i → body (pk acc i) = some (.norm (pk (if q a then acc ++ [a] else acc) (i + 1)))) (last : ∀ acc, body (pk acc l.length) = some (.exit k (pk acc l.length))) :
    lbind (blockM k (loopM body s0)) f = f (pk (l.filter q) l.length) := by
  refine (for_all l (fun i => pk ((l.take i).filter q) i) (by simpa using e0) (fun i a ha => ?_) (e := pk (l.filter q) l.length) ?_)
  · rw [step i a _ ha (by have := List.length_filter_le q (l.take i); rw [List.length_take] at this; omega), take_succ_get ha, List.filter_append]
    cases h : q a <;> simp [h]
  · rw [last, List.take_length]
section
variable {t : MTopology} (F : Form t) {ls : List (List (List Int))} (T : Tab t.Shape ls) (ht : TopSmall t)
include F T ht
theorem specClose' {x : Int} {s : List Int} (h0 : 0 ≤ x) (h1 : x < ls.length) (hs : Sv t.Shape x s) : spec_l27Close t x s = some (clB t x s) := by
  have hm := T.cat.m
  obtain ⟨cl, cs⟩ := covs F T ht
  have hs40 : s.length ≤ 40 := T.s40 h0 h1 ((T.mem h0 h1).2 hs)
  unfold spec_l27Close
  rw [specOut (by omega), some_bind']
  have ho := outS_len t.Shape x
  refine (congrArg retM (keep_loop (outS t.Shape x) (fun a => covB t.Covers (gi t.Shape.To a) (pullS t.Shape a s)) (fun acc i => (acc, (i : Int))) rfl ?_ ?_)).trans rfl
  · intro i a acc ha hacc
    have hi := getElem?_lt ha
    obtain ⟨⟨a0, a1⟩, _⟩ := outS_mem.1 (List.mem_of_getElem? ha)
    have hto := T.to a0 a1
    obtain ⟨n, hn⟩ : ∃ n : Nat, gi t.Shape.To a = n := ⟨(gi t.Shape.To a).toNat, by omega⟩
    have hrow := cs n (by omega)
    show spec_l27Close_L0 t s _ acc (i : Int) = _
    unfold spec_l27Close_L0
    rw [decT (by omega), cond_true, idx_nat, ha, some_bind', T.cat.idxT a0 a1, some_bind', idx_gl hto.1 (by omega), some_bind', some_bind', specPull T.cat.toShape a0 a1 _ (by omega), some_bind', specFind _ _ (by rw [hn]; omega) (fun y hy => by
      rw [hn] at hy; have := T.s40 (by omega) (by omega) (hrow.2 y hy); omega), some_bind', place_ge]
    show (bif covB t.Covers (gi t.Shape.To a) (pullS t.Shape a s) then _ else _) = _
    cases covB t.Covers (gi t.Shape.To a) (pullS t.Shape a s) with
    | true => rw [cond_true, some_bind', fits_ok (by omega) (by omega), some_bind', w64_nat (by omega)]; rfl
    | false => rw [cond_false, w64_nat (by omega)]; rfl
  · intro acc
    show spec_l27Close_L0 t s _ acc _ = _
    unfold spec_l27Close_L0
    rw [decF (by omega), cond_false]
theorem implClosure {n x : Int} {s : List Int} (h0 : 0 ≤ x) (h1 : x < ls.length) (hs : Sv t.Shape x s) : impl_coverage_closure (KK t.Shape ls (covB t.Covers) n) x s = some (clB t x s) := by
  have _ := F
  have _ := ht
  have hm := T.cat.m
  have hs40 : s.length ≤ 40 := T.s40 h0 h1 ((T.mem h0 h1).2 hs)
  unfold impl_coverage_closure
  show retM (impl_Category_outOf t.Shape x >>= _) = _
  rw [implOut (by omega), some_bind']
  have ho := outS_len t.Shape x
  refine (congrArg retM (keep_loop (outS t.Shape x) (fun a => covB t.Covers (gi t.Shape.To a) (pullS t.Shape a s)) (fun acc i => (acc, (i : Int))) rfl ?_ ?_)).trans rfl
  · intro i a acc ha hacc
    have hi := getElem?_lt ha
    obtain ⟨⟨a0, a1⟩, _⟩ := outS_mem.1 (List.mem_of_getElem? ha)
    have hto := T.to a0 a1
    show impl_coverage_closure_L0 _ s _ acc (i : Int) = _
    unfold impl_coverage_closure_L0
    rw [decT (by omega), cond_true, idx_nat, ha, some_bind']
    show (idx t.Shape.To a >>= fun e30 => (impl_Category_pull t.Shape a s >>= _)) = _
    rw [T.cat.idxT a0 a1, some_bind', implPull T.cat.toShape a0 a1 _ (by omega), some_bind', isAt T hto.1 hto.2 (T.pull a0 a1 hs), some_bind']
    cases covB t.Covers (gi t.Shape.To a) (pullS t.Shape a s) with
    | true => rw [cond_true, fits_ok (by omega) (by omega), some_bind', w64_nat (by omega)]; rfl
    | false => rw [cond_false, w64_nat (by omega)]; rfl
  · intro acc
    show impl_coverage_closure_L0 _ s _ acc _ = _
    unfold impl_coverage_closure_L0
    rw [decF (by omega), cond_false]
/-- the arrows of an object that lie in each cover -/
def leastS (t : MTopology) (x : Int) : List Int := (outS t.Shape x).filter fun a => (gl t.Covers x).all fun s => hasB s a
theorem specLeastL : spec_l27Least t = some (mapI ls.length (leastS t)) := by
  have hm := T.cat.m
  have h8 := T.len8
  obtain ⟨cl, cs⟩ := covs F T ht
  unfold spec_l27Least
  refine (congrArg retM (map_loop ls.length (leastS t) (fun acc i => (acc, (i : Int))) rfl ?_ ?_)).trans rfl
  · intro i acc hi ha
    obtain ⟨hcl, hcm⟩ := cs i hi
    show spec_l27Least_L0 t acc i = _
    unfold spec_l27Least_L0
    rw [decT (by omega), cond_true, specOut (by omega), some_bind']
    have ho := outS_len t.Shape (i : Int)
    refine (keep_loop (outS t.Shape i) (fun a => (gl t.Covers i).all fun s => hasB s a) (fun acc i => (acc, (i : Int))) rfl ?_ ?_).trans ?_
    · intro j a acc ha hacc
      have hj := getElem?_lt ha
      show spec_l27Least_L1 t (i : Int) _ acc (j : Int) = _
      unfold spec_l27Least_L1
      rw [decT (by omega), cond_true]
      refine (for_all (gl t.Covers i) (fun k => (((gl t.Covers i).take k).all (fun s => hasB s a), (k : Int))) (e := ((gl t.Covers i).all (fun s => hasB s a), ((gl t.Covers i).length : Int))) rfl ?_ ?_).trans ?_
      · intro k s hs
        have hk := getElem?_lt hs
        have h40 := T.s40 (by omega) (by omega) (hcm s (List.mem_of_getElem? hs))
        show spec_l27Least_L2 t (i : Int) _ (j : Int) _ (k : Int) = _
        unfold spec_l27Least_L2
        rw [idx_gl (by omega) (by omega), some_bind', decT (by omega), cond_true, take_all hs]
        cases ((gl t.Covers i).take k).all fun s => hasB s a with
        | false => rw [cond_false, some_bind', w64_nat (by omega)]; rfl
        | true => rw [cond_true, some_bind', idx_nat, hs, some_bind', idx_nat, ha, some_bind', specHas _ _ (by omega), some_bind', some_bind', w64_nat (by omega)]; rfl
      · show spec_l27Least_L2 t (i : Int) _ (j : Int) _ _ = _
        unfold spec_l27Least_L2
        rw [idx_gl (by omega) (by omega), some_bind', decF (by omega), cond_false, all_len]
      · show (bif (gl t.Covers i).all (fun s => hasB s a) then _ else _) = _
        cases (gl t.Covers i).all fun s => hasB s a with
        | true => rw [cond_true, idx_nat, ha, some_bind', fits_ok (by omega) (by omega), some_bind', w64_nat (by omega)]; rfl
        | false => rw [cond_false, w64_nat (by omega)]; rfl
    · intro acc
      show spec_l27Least_L1 t (i : Int) _ acc _ = _
      unfold spec_l27Least_L1
      rw [decF (by omega), cond_false]
    · show (fits 24 (acc.length + 1) >>= _) = _
      rw [fits_ok (by omega) (by omega), some_bind', w64_nat (by omega)]; rfl
  · intro acc ha
    show spec_l27Least_L0 t acc _ = _
    unfold spec_l27Least_L0
    rw [decF (by omega), cond_false]
theorem implLeast {n : Int} {i : Nat} (hi : i < ls.length) : impl_coverage_least (KK t.Shape ls (covB t.Covers) n) (i : Int) = some (leastS t i) := by
  have hm := T.cat.m
  have h0 : (0 : Int) ≤ (i : Int) := by omega
  have h1 : (i : Int) < ls.length := by omega
  obtain ⟨cl, cs⟩ := covs F T ht
  obtain ⟨hcl, hcm⟩ := cs i hi
  have h16 := T.l16 h0 h1
  unfold impl_coverage_least
  show retM (impl_Category_outOf t.Shape (i : Int) >>= _) = _
  rw [implOut (by omega), some_bind']
  have ho := outS_len t.Shape (i : Int)
  have same : ∀ a, ((gl ls i).all fun s => !(covB t.Covers i s) || hasB s a) = (gl t.Covers i).all fun s => hasB s a := by
    intro a
    rw [Bool.eq_iff_iff]
    simp only [List.all_eq_true, Bool.or_eq_true, Bool.not_eq_true']
    constructor
    · intro h s hs
      rcases h s (hcm s hs) with h | h
      · unfold covB at h; simp [hs] at h
      · exact h
    · intro h s _
      cases e : covB t.Covers i s with
      | false => exact .inl rfl
      | true => unfold covB at e; exact .inr (h s (by simpa using e))
  refine (congrArg retM (keep_loop (outS t.Shape i) (fun a => (gl t.Covers i).all fun s => hasB s a) (fun acc i => (acc, (i : Int))) rfl ?_ ?_)).trans rfl
  · intro j a acc ha hacc
    have hj := getElem?_lt ha
    show impl_coverage_least_L0 _ (i : Int) _ acc (j : Int) = _
    unfold impl_coverage_least_L0
    rw [decT (by omega), cond_true, idx_nat, ha, some_bind', idx_marks h0 h1, some_bind']
    refine (for_all (gl ls i) (fun k => (((gl ls i).take k).all (fun s => !(covB t.Covers i s) || hasB s a), (k : Int))) (e := ((gl ls i).all (fun s => !(covB t.Covers i s) || hasB s a), ((gl ls i).length : Int))) rfl ?_ ?_).trans ?_
    · intro k s hs
      have hk := getElem?_lt hs
      have h40 := T.s40 h0 h1 (List.mem_of_getElem? hs)
      show impl_coverage_least_L1 _ (i : Int) a _ _ (k : Int) = _
      unfold impl_coverage_least_L1
      rw [List.length_map, decT (by omega), cond_true, idx_nat, List.getElem?_map, hs, take_all hs]
      simp only [Option.map_some, some_bind']
      cases ((gl ls i).take k).all fun s => !(covB t.Covers i s) || hasB s a with
      | false => rw [cond_false, some_bind', w64_nat (by omega)]; rfl
      | true =>
        rw [cond_true]
        cases covB t.Covers (i : Int) s with
        | false => rw [Bool.not_false, cond_true, some_bind', w64_nat (by omega)]; rfl
        | true =>
          rw [Bool.not_true, cond_false]
          show (((idx ls (i : Int) >>= _) >>= _)) = _
          rw [idx_gl h0 h1, some_bind', idx_nat, hs, some_bind', implHas _ _ (by omega), some_bind', some_bind', w64_nat (by omega)]; rfl
    · show impl_coverage_least_L1 _ (i : Int) a _ _ _ = _
      unfold impl_coverage_least_L1
      rw [List.length_map, decF (by omega), cond_false, all_len]
    · show (bif (gl ls i).all (fun s => !(covB t.Covers i s) || hasB s a) then _ else _) = _
      rw [same a]
      cases (gl t.Covers i).all fun s => hasB s a with
      | true => rw [cond_true, fits_ok (by omega) (by omega), some_bind', w64_nat (by omega)]; rfl
      | false => rw [cond_false, w64_nat (by omega)]; rfl
  · intro acc
    show impl_coverage_least_L0 _ (i : Int) _ acc _ = _
    unfold impl_coverage_least_L0
    rw [decF (by omega), cond_false]
end
theorem specObj (c : MCategory) (x : Int) : spec_l02Object c x = some (decide (0 ≤ x) && decide (x < c.Objects)) := by
  unfold spec_l02Object
  by_cases h : x ≥ 0
  · rw [decT h, cond_true]; rfl
  · rw [decF h, cond_false]; rfl
theorem close_alike {t : MTopology} (ht : TopSmall t) {x : Int} {s : List Int} (hs : s.length ≤ 1048576) : ∃ y, spec_CloseSieve t x s = some y ∧ impl_CloseSieve t x s = some y ∧ y.1.length ≤ 1048576 := by
  unfold spec_CloseSieve impl_CloseSieve
  rw [specForm ht, some_bind', implForm ht, some_bind']
  cases hf : formB t with
  | false => exact ⟨([], 1), rfl, rfl, by simp⟩
  | true =>
    have F := form_of hf
    have ho8 := F.cat.o8
    have ho0 := F.cat.o0
    rw [Bool.not_true, cond_false, cond_false, specObj, some_bind', w64_id (by omega) (by omega), inRange, some_bind']
    have er : (decide (0 ≤ x) && decide (x ≤ t.Shape.Objects - 1)) = (decide (0 ≤ x) && decide (x < t.Shape.Objects)) := by
      congr 1; rw [Bool.eq_iff_iff]; simp; omega
    rw [er]
    cases hr : (decide (0 ≤ x) && decide (x < t.Shape.Objects)) with
    | false => exact ⟨([], 2), rfl, rfl, by simp⟩
    | true =>
      simp only [Bool.and_eq_true, decide_eq_true_eq] at hr
      rw [Bool.not_true, cond_false, cond_false, specSieve F.cat.toShape (by omega), some_bind', isSieve F.cat.toShape (by omega), some_bind']
      cases hv : sieveB t.Shape x s with
      | false => exact ⟨([], 1), rfl, rfl, by simp⟩
      | true =>
        have hsv := (sieve_sv F.cat).1 hv
        rw [Bool.not_true, cond_false, cond_false]
        rcases form_scan F with ⟨ls, T⟩ | ⟨k, ls, hk, h, hn⟩
        · obtain ⟨n, hl⟩ := implLimit F T ht
          rw [hl, specCode F T ht hf, some_bind', some_bind']
          have hxl : x < ls.length := by rw [T.len]; exact hr.2
          cases e : openB t.Shape ls (covB t.Covers) with
          | true => exact ⟨([], 5), rfl, rfl, by simp⟩
          | false =>
            refine ⟨(clB t x s, 0), ?_, ?_, ?_⟩
            · show retM (spec_l27Close t x s >>= _) = _
              rw [specClose' F T ht hr.1 hxl hsv]; rfl
            · show retM (impl_coverage_closure (KK t.Shape ls (covB t.Covers) n) x s >>= _) = _
              rw [implClosure F T ht hr.1 hxl hsv]; rfl
            · have h1 := List.length_filter_le (fun a => covB t.Covers (gi t.Shape.To a) (pullS t.Shape a s)) (outS t.Shape x)
              have h2 := outS_len t.Shape x
              have h3 := F.cat.m
              show (clB t x s).length ≤ _
              unfold clB; omega
        · obtain ⟨y, h1, h2⟩ := specCodeNo ht hf F hk h hn
          rw [h1, implLimitNo ht F hk h hn, some_bind', some_bind', h2]
          exact ⟨([], 3), rfl, rfl, by simp⟩
theorem least_alike' {t : MTopology} (ht : TopSmall t) : ∃ y, spec_LeastCovers t = some y ∧ impl_LeastCovers t = some y ∧ y.1.length ≤ 8 ∧ ∀ z ∈ y.1, z.length ≤ 40 := by
  unfold spec_LeastCovers impl_LeastCovers impl_topologyCode
  rw [implForm ht, some_bind']
  cases hf : formB t with
  | false =>
    have : spec_l27Code t = some (ML27Table.mk (MCategory.mk 0 [] [] [] []) [] [] [], [], 1) := by unfold spec_l27Code spec_l27Read; rw [specForm ht, hf]; rfl
    rw [this]
    exact ⟨([], 1), rfl, rfl, by simp, fun _ h => nomatch h⟩
  | true =>
    have F := form_of hf
    rw [Bool.not_true, cond_false]
    rcases form_scan F with ⟨ls, T⟩ | ⟨k, ls, hk, h, hn⟩
    · obtain ⟨n, hl⟩ := implLimit F T ht
      have h8 := T.len8
      have hlen := T.len
      rw [specCode F T ht hf, some_bind', hl, some_bind']
      cases e : openB t.Shape ls (covB t.Covers) with
      | true => exact ⟨([], 5), rfl, rfl, by simp, fun _ h => nomatch h⟩
      | false =>
        refine ⟨(mapI ls.length (leastS t), 0), ?_, ?_, ?_, ?_⟩
        · show retM (spec_l27Least t >>= _) = _
          rw [specLeastL F T ht]; rfl
        · refine (congrArg retM (map_loop (body := fun s => impl_LeastCovers_L1 t (KK t.Shape ls (covB t.Covers) n) s.1 s.2) (k := 0) (f := fun (s : List (List Int) × Int) => some (Out.ret (s.1, (0 : Int)))) ls.length (leastS t) (fun acc i => (acc, (i : Int))) rfl ?_ ?_)).trans rfl
          · intro i acc hi ha
            show impl_LeastCovers_L1 t _ acc (i : Int) = _
            unfold impl_LeastCovers_L1
            rw [decT (by omega), cond_true]
            show (impl_coverage_least (KK t.Shape ls (covB t.Covers) n) (i : Int) >>= _) = _
            rw [implLeast F T ht hi, some_bind', fits_ok (by omega) (by omega), some_bind', w64_nat (by omega)]
          · intro acc ha
            show impl_LeastCovers_L1 t _ acc _ = _
            unfold impl_LeastCovers_L1
            rw [decF (by omega), cond_false]
        · show (mapI _ _).length ≤ 8
          rw [mapI_length]; exact h8
        · intro z hz
          obtain ⟨x, _, rfl⟩ := mapI_mem.1 hz
          have h1 := List.length_filter_le (fun a => (gl t.Covers x).all fun s => hasB s a) (outS t.Shape x)
          have h2 := outS_len t.Shape x
          have h3 := F.cat.m
          unfold leastS; omega
    · obtain ⟨y, h1, h2⟩ := specCodeNo ht hf F hk h hn
      rw [h1, implLimitNo ht F hk h hn, some_bind', h2]
      exact ⟨([], 3), rfl, rfl, by simp, fun _ h => nomatch h⟩
end Go.Proofs.YtcmckiiafgcmjaaGreat
