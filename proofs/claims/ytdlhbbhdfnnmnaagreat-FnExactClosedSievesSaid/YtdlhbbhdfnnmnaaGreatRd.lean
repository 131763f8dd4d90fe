/- The form of a topology; the reference and the program on IsTopology agree; the law's own words on topologies. No condition beside those that each theorem names. -/
import Derived.Test.YtdlhbbhdfnnmnaaGreatRc
namespace Go.Proofs.YtdlhbbhdfnnmnaaGreat
open Go Go.Li

/-- is something wrong with the list of covers at x -/
def rowBad (c : MCategory) (x : Int) (L : List (List Int)) : Bool := (List.range L.length).any fun k => !(sieveB c x (gr L k)) || (decide (0 < k) && !(lexLt (gr L ((k : Int) - 1)) (gr L k)))
/-- has something the form of a topology -/
def formB (t : MTopology) : Bool := (catB t.Shape && ((t.Covers.length : Int) == t.Shape.Objects)) && !((ns t.Covers.length).any fun x => rowBad t.Shape x (gl t.Covers x))

theorem gr_at {L : List (List Int)} {j : Nat} (h : j < L.length) : idx L (j : Int) = some (gr L j) := idx_gr (by omega) (by omega)
theorem small_row {t : MTopology} (ht : TopSmall t) {x : Int} (h0 : 0 ≤ x) (h1 : x < t.Covers.length) : (gl t.Covers x).length ≤ 1048576 ∧ ∀ j : Int, 0 ≤ j → j < (gl t.Covers x).length → (gr (gl t.Covers x) j).length ≤ 1048576 := by
  have := ht.r _ (gl_mem h0 h1)
  exact ⟨this.1, fun j j0 j1 => this.2 _ (gr_mem j0 j1)⟩
theorem specForm {t : MTopology} (ht : TopSmall t) : spec_l27Shape t = some (formB t) := by
  have hk := ht.k
  unfold spec_l27Shape formB
  rw [specIs ht.c, some_bind']
  cases hc : catB t.Shape with
  | false => rfl
  | true =>
    have H := cat_of hc
    cases hl : ((t.Covers.length : Int) == t.Shape.Objects) with
    | false =>
      have : ((t.Covers.length : Int) != t.Shape.Objects) = true := by simpa [bne] using hl
      simp only [Bool.not_true, cond_false, some_bind', this, cond_true]; rfl
    | true =>
      have : ((t.Covers.length : Int) != t.Shape.Objects) = false := by simpa [bne] using hl
      simp only [Bool.not_true, cond_false, some_bind', this, Bool.and_self, Bool.true_and]
      have inner : ∀ i : Nat, i < t.Covers.length → ∀ {f : Int → Option (Out Int Bool)}, lbind (blockM 2 (loopM (spec_l27Shape_L1 t (i : Int)) (0 : Int))) f = if rowBad t.Shape i (gl t.Covers i) then some (.ret false) else f ((gl t.Covers i).length : Int) := by
        intro i hi f
        obtain ⟨s1, s2⟩ := small_row ht (x := (i : Int)) (by omega) (by omega)
        have head : ∀ k : Nat, k < (gl t.Covers i).length → spec_l27Shape_L1 t (i : Int) (k : Int) = bif (!(sieveB t.Shape i (gr (gl t.Covers i) k)) || (decide (0 < k) && !(lexLt (gr (gl t.Covers i) ((k : Int) - 1)) (gr (gl t.Covers i) k)))) then some (.ret false) else some (.norm ((k + 1 : Nat) : Int)) := by
          intro k hk
          have hs := specSieve H.toShape (x := (i : Int)) (s := gr (gl t.Covers i) k) (by have := s2 k (by omega) (by omega); omega)
          unfold spec_l27Shape_L1
          rw [idx_gl (by omega) (by omega), some_bind', decT (by omega), cond_true, some_bind', gr_at hk, some_bind', hs, some_bind']
          cases e : sieveB t.Shape i (gr (gl t.Covers i) k) with
          | false => rfl
          | true =>
            rw [Bool.not_true, cond_false]
            by_cases hp : 0 < k
            · rw [decT (by omega), cond_true, some_bind', w64_id (by omega) (by omega), idx_gr (by omega) (by omega), some_bind', some_bind', gr_at hk, some_bind', specLess _ _ (by have := s2 ((k : Int) - 1) (by omega) (by omega); omega), some_bind', some_bind', decT hp, Bool.true_and, Bool.false_or, w64_nat (by omega)]
            · rw [decF (by omega), cond_false, some_bind', cond_false, decF hp, Bool.false_and, Bool.false_or, cond_false, w64_nat (by omega)]
        refine for_anyb (List.range (gl t.Covers i).length) _ (fun k => (k : Int)) rfl ?_ ?_ ?_
        · intro k x hx hq
          obtain ⟨rfl, hk⟩ := range_get hx
          rw [head x hk, hq, cond_false]
        · intro k x hx hq
          obtain ⟨rfl, hk⟩ := range_get hx
          rw [head x hk, hq, cond_true]
        · rw [List.length_range]
          unfold spec_l27Shape_L1
          rw [idx_gl (by omega) (by omega), some_bind', decF (by omega), cond_false]
      refine (congrArg retM (for_anyb (ns t.Covers.length) (fun x => rowBad t.Shape x (gl t.Covers x)) (fun i => (i : Int)) rfl ?_ ?_ (e := (t.Covers.length : Int)) (y := false) ?_)).trans ?_
      · intro i x hx hq
        obtain ⟨rfl, hi⟩ := ns_get hx
        unfold spec_l27Shape_L0
        rw [decT (by omega), cond_true, inner i hi, hq, w64_nat (by omega)]; rfl
      · intro i x hx hq
        obtain ⟨rfl, hi⟩ := ns_get hx
        unfold spec_l27Shape_L0
        rw [decT (by omega), cond_true, inner i hi, hq]; rfl
      · rw [ns_length]; unfold spec_l27Shape_L0; rw [decF (by omega), cond_false]
      · cases (ns t.Covers.length).any fun x => rowBad t.Shape x (gl t.Covers x) <;> rfl
theorem implForm {t : MTopology} (ht : TopSmall t) : impl_Topology_hasForm t = some (formB t) := by
  have hk := ht.k
  unfold impl_Topology_hasForm formB
  rw [implIs ht.c, some_bind']
  cases hc : catB t.Shape with
  | false => rfl
  | true =>
    have H := cat_of hc
    cases hl : ((t.Covers.length : Int) == t.Shape.Objects) with
    | false =>
      have : ((t.Covers.length : Int) != t.Shape.Objects) = true := by simpa [bne] using hl
      simp only [Bool.not_true, cond_false, some_bind', this, cond_true]; rfl
    | true =>
      have : ((t.Covers.length : Int) != t.Shape.Objects) = false := by simpa [bne] using hl
      simp only [Bool.not_true, cond_false, some_bind', this, Bool.and_self, Bool.true_and]
      have inner : ∀ i : Nat, i < t.Covers.length → ∀ {f : Int → Option (Out Int Bool)}, lbind (blockM 2 (loopM (impl_Topology_hasForm_L1 t (i : Int) (gl t.Covers i)) (0 : Int))) f = if rowBad t.Shape i (gl t.Covers i) then some (.ret false) else f ((gl t.Covers i).length : Int) := by
        intro i hi f
        obtain ⟨s1, s2⟩ := small_row ht (x := (i : Int)) (by omega) (by omega)
        have head : ∀ k : Nat, k < (gl t.Covers i).length → impl_Topology_hasForm_L1 t (i : Int) (gl t.Covers i) (k : Int) = bif (!(sieveB t.Shape i (gr (gl t.Covers i) k)) || (decide (0 < k) && !(lexLt (gr (gl t.Covers i) ((k : Int) - 1)) (gr (gl t.Covers i) k)))) then some (.ret false) else some (.norm ((k + 1 : Nat) : Int)) := by
          intro k hk
          have hs := isSieve H.toShape (x := (i : Int)) (s := gr (gl t.Covers i) k) (by have := s2 k (by omega) (by omega); omega)
          unfold impl_Topology_hasForm_L1
          rw [decT (by omega), cond_true, gr_at hk, some_bind', hs, some_bind']
          cases e : sieveB t.Shape i (gr (gl t.Covers i) k) with
          | false => rfl
          | true =>
            rw [Bool.not_true, cond_false]
            by_cases hp : 0 < k
            · have hcmp : decide (lexCmp (gr (gl t.Covers i) ((k : Int) - 1)) (gr (gl t.Covers i) k) ≥ 0) = !(lexLt (gr (gl t.Covers i) ((k : Int) - 1)) (gr (gl t.Covers i) k)) := by
                unfold lexLt; rw [Bool.eq_iff_iff]; simp
              rw [decT (by omega), cond_true, w64_id (by omega) (by omega), idx_gr (by omega) (by omega), some_bind', implCompare _ _ (by have := s2 ((k : Int) - 1) (by omega) (by omega); omega), some_bind', some_bind', hcmp, decT hp, Bool.true_and, Bool.false_or, w64_nat (by omega)]
            · rw [decF (by omega), cond_false, some_bind', cond_false, decF hp, Bool.false_and, Bool.false_or, cond_false, w64_nat (by omega)]
        refine for_anyb (List.range (gl t.Covers i).length) _ (fun k => (k : Int)) rfl ?_ ?_ ?_
        · intro k x hx hq
          obtain ⟨rfl, hk⟩ := range_get hx
          rw [head x hk, hq, cond_false]
        · intro k x hx hq
          obtain ⟨rfl, hk⟩ := range_get hx
          rw [head x hk, hq, cond_true]
        · rw [List.length_range]
          unfold impl_Topology_hasForm_L1
          rw [decF (by omega), cond_false]
      refine (congrArg retM (for_anyb (ns t.Covers.length) (fun x => rowBad t.Shape x (gl t.Covers x)) (fun i => (i : Int)) rfl ?_ ?_ (e := (t.Covers.length : Int)) (y := false) ?_)).trans ?_
      · intro i x hx hq
        obtain ⟨rfl, hi⟩ := ns_get hx
        unfold impl_Topology_hasForm_L0
        rw [decT (by omega), cond_true, idx_gl (by omega) (by omega), some_bind', inner i hi, hq, w64_nat (by omega)]; rfl
      · intro i x hx hq
        obtain ⟨rfl, hi⟩ := ns_get hx
        unfold impl_Topology_hasForm_L0
        rw [decT (by omega), cond_true, idx_gl (by omega) (by omega), some_bind', inner i hi, hq]; rfl
      · rw [ns_length]; unfold impl_Topology_hasForm_L0; rw [decF (by omega), cond_false]
      · cases (ns t.Covers.length).any fun x => rowBad t.Shape x (gl t.Covers x) <;> rfl

/-- what is known of something that has the form of a topology -/
structure Form (t : MTopology) : Prop where
  cat : Cat t.Shape
  len : (t.Covers.length : Int) = t.Shape.Objects
  sv : ∀ i : Nat, i < t.Covers.length → ∀ s ∈ gl t.Covers i, Sv t.Shape i s
theorem form_of {t : MTopology} (h : formB t = true) : Form t := by
  unfold formB at h
  simp only [Bool.and_eq_true, beq_iff_eq, Bool.not_eq_true', List.any_eq_false] at h
  obtain ⟨⟨h1, h2⟩, h3⟩ := h
  have H := cat_of h1
  refine ⟨H, h2, fun i hi s hs => ?_⟩
  have := h3 (i : Int) (ns_mem.2 ⟨by omega, by omega⟩)
  unfold rowBad at this
  simp only [List.any_eq_true, not_exists, not_and] at this
  obtain ⟨k, hk, rfl⟩ := List.getElem_of_mem hs
  have h4 := this k (List.mem_range.2 hk)
  simp only [Bool.or_eq_true, Bool.not_eq_true', not_or] at h4
  have h5 : gr (gl t.Covers i) k = (gl t.Covers i)[k] := by unfold gr; simp [hk]
  rw [← h5]
  exact (sieve_sv H).1 (by simpa using h4.1)

/-- something with the form of a topology: all sieves can be listed, or there are too many of them -/
theorem form_scan {t : MTopology} (F : Form t) : (∃ ls, Tab t.Shape ls) ∨ ∃ k ls, k < t.Shape.Objects.toNat ∧ Lists t.Shape k ls ∧ Found t.Shape k none := by
  rcases scan F.cat t.Shape.Objects.toNat with ⟨ls, h⟩ | h
  · exact .inl ⟨ls, ⟨F.cat, h⟩⟩
  · exact .inr h
section
variable {t : MTopology} (F : Form t) {ls : List (List (List Int))} (T : Tab t.Shape ls) (ht : TopSmall t)
include F T ht
theorem covs : t.Covers.length = ls.length ∧ ∀ i : Nat, i < ls.length → (gl t.Covers i).length ≤ 1048576 ∧ ∀ s ∈ gl t.Covers i, s ∈ gl ls i := by
  have h1 := F.len
  have h2 := T.len
  refine ⟨by omega, fun i hi => ⟨(small_row ht (by omega) (by omega)).1, fun s hs => (T.mem (by omega) (by omega)).2 (F.sv i (by omega) s hs)⟩⟩
theorem specRead (hf : formB t = true) : spec_l27Read t = some (TB t.Shape ls, marksP ls (covB t.Covers), 0) := by
  obtain ⟨h1, h2⟩ := covs F T ht
  unfold spec_l27Read
  rw [specForm ht, hf, some_bind', Bool.not_true, cond_false, specTable T.cat ht.c T.lists, some_bind', Bool.not_true, cond_false, specMarks T h1 h2, some_bind']; rfl
end
theorem specMakeNo {c : MCategory} (H : Cat c) {k : Nat} {ls : List (List (List Int))} (hk : k < c.Objects.toNat) (h : Lists c k ls) (hn : Found c k none) : ∃ y, spec_l27Make c = some y ∧ y.2 = false := by
  unfold spec_l27Make
  rw [specListsNo H hk h hn, some_bind']
  exact ⟨_, rfl, rfl⟩
theorem specReadNo {t : MTopology} (ht : TopSmall t) (hf : formB t = true) (F : Form t) {k : Nat} {ls : List (List (List Int))} (hk : k < t.Shape.Objects.toNat) (h : Lists t.Shape k ls) (hn : Found t.Shape k none) : ∃ y, spec_l27Read t = some y ∧ y.2.2 = 3 := by
  obtain ⟨y, h1, h2⟩ := specMakeNo F.cat hk h hn
  unfold spec_l27Read
  rw [specForm ht, hf, some_bind', Bool.not_true, cond_false, h1, some_bind', h2]
  exact ⟨_, rfl, rfl⟩
theorem implCoverageOfNo {c : MCategory} (hs : CatSmall c) (H : Cat c) {k : Nat} {ls : List (List (List Int))} (hk : k < c.Objects.toNat) (h : Lists c k ls) (hn : Found c k none) : impl_coverageOf c = some (none, false) := by
  unfold impl_coverageOf
  rw [implClassifierNo H hs hk h hn, some_bind']; rfl
structure TopLens (t : MTopology) : Prop where
  c : CatLens t.Shape
  k : t.Covers.length ≤ 9223372036854775807
  r : ∀ x ∈ t.Covers, x.length ≤ 9223372036854775807 ∧ ∀ y ∈ x, y.length ≤ 9223372036854775807
def tot2 (xs : List (List (List Int))) : Nat := (xs.map fun x => x.length + tot x).sum
def topSize (t : MTopology) : Nat := catSize t.Shape + (t.Covers.length + tot2 t.Covers)
theorem tot2_take {xs : List (List (List Int))} {i : Nat} {x : List (List Int)} (h : xs[i]? = some x) : tot2 (xs.take (i + 1)) = tot2 (xs.take i) + (x.length + tot x) := by
  unfold tot2; rw [take_succ_get h]; simp
theorem tot2_take_le (xs : List (List (List Int))) (i : Nat) : tot2 (xs.take i) ≤ tot2 xs := by
  unfold tot2
  conv => rhs; rw [← List.take_append_drop i xs]
  rw [List.map_append, List.sum_append]; omega
theorem szSSS (xs : List (List (List Int))) {k : Int} (h0 : 0 ≤ k) (h1 : k ≤ 1048576) (hx : xs.length ≤ 9223372036854775807) (hr : ∀ x ∈ xs, x.length ≤ 9223372036854775807 ∧ ∀ y ∈ x, y.length ≤ 9223372036854775807) :
    laws_szInt64SSS xs k = some (if ((xs.length + tot2 xs : Nat) : Int) ≤ k then k - (xs.length + tot2 xs : Nat) else -1) := by
  unfold laws_szInt64SSS
  rw [w64_id (by omega) (by omega)]
  by_cases h : (xs.length : Int) ≤ k
  · rw [decF (by omega), cond_false]
    have key : ∀ (m : Nat) (i : Nat), xs.length - i = m → i ≤ xs.length → (xs.length + tot2 (xs.take i) : Nat) ≤ k →
        loopM (fun s => laws_szInt64SSS_L0 xs s.1 s.2) (k - (xs.length + tot2 (xs.take i) : Nat), (i : Int)) =
          some (if ((xs.length + tot2 xs : Nat) : Int) ≤ k then .exit 0 (k - (xs.length + tot2 xs : Nat), (xs.length : Int)) else .ret (-1)) := by
      intro m
      induction m with
      | zero =>
        intro i hm hi hk
        obtain rfl : i = xs.length := by omega
        rw [List.take_length] at hk ⊢
        rw [if_pos (by omega)]
        refine loopM_exit ?_
        show laws_szInt64SSS_L0 xs _ _ = _
        unfold laws_szInt64SSS_L0
        rw [decF (by omega), cond_false]
      | succ m ih =>
        intro i hm hi hk
        have hlt : i < xs.length := by omega
        have hxi : xs[i]? = some xs[i] := List.getElem?_eq_getElem hlt
        have ht := tot2_take hxi
        have hle := tot2_take_le xs (i + 1)
        have hrow := hr xs[i] (List.getElem_mem hlt)
        rw [loopM_eq]
        have e : laws_szInt64SSS_L0 xs (k - (xs.length + tot2 (xs.take i) : Nat)) (i : Int) =
            if ((xs.length + tot2 (xs.take (i + 1)) : Nat) : Int) ≤ k then some (.norm (k - (xs.length + tot2 (xs.take (i + 1)) : Nat), ((i + 1 : Nat) : Int))) else some (.ret (-1)) := by
          unfold laws_szInt64SSS_L0
          rw [decT (by omega), cond_true, idx_nat, hxi, some_bind', szSS _ (by omega) (by omega) hrow.1 hrow.2, some_bind']
          by_cases hc : ((xs.length + tot2 (xs.take (i + 1)) : Nat) : Int) ≤ k
          · rw [if_pos (by omega), if_pos hc, decF (by omega), cond_false, w64_nat (by omega)]
            congr 3
            omega
          · rw [if_neg (by omega), if_neg hc, decT (by omega), cond_true]
        simp only
        rw [e]
        by_cases hc : ((xs.length + tot2 (xs.take (i + 1)) : Nat) : Int) ≤ k
        · rw [if_pos hc]
          exact ih (i + 1) (by omega) hlt hc
        · rw [if_neg hc, if_neg (by omega)]
    have h2 := key xs.length 0 rfl (Nat.zero_le _) (by simpa [tot2] using h)
    have h3 : (k - (xs.length : Int), (0 : Int)) = (k - ((xs.length + tot2 (xs.take 0) : Nat) : Int), ((0 : Nat) : Int)) := by simp [tot2]
    rw [h3, h2]
    by_cases hc : ((xs.length + tot2 xs : Nat) : Int) ≤ k
    · rw [if_pos hc, if_pos hc]; rfl
    · rw [if_neg hc, if_neg hc]; rfl
  · rw [decT (by omega), cond_true, if_neg (by omega)]; rfl
theorem szTopK {t : MTopology} {k : Int} (k0 : 0 ≤ k) (k1 : k ≤ 1048576) (hl : TopLens t) : laws_szTopology t k = some (if (topSize t : Int) ≤ k then k - topSize t else -1) := by
  unfold laws_szTopology
  rw [szCatK k0 k1 hl.c, some_bind']
  by_cases h : (catSize t.Shape : Int) ≤ k
  · rw [if_pos h, decF (by omega), cond_false, szSSS _ (by omega) (by omega) hl.k hl.r, some_bind']
    unfold topSize
    by_cases h2 : ((t.Covers.length + tot2 t.Covers : Nat) : Int) ≤ k - catSize t.Shape
    · rw [if_pos h2, if_pos (by omega), decF (by omega), cond_false]
      show some _ = some _
      congr 1; omega
    · rw [if_neg h2, if_neg (by omega), decT (by omega), cond_true]; rfl
  · rw [if_neg h, decT (by omega), cond_true]
    unfold topSize
    rw [if_neg (by omega)]; rfl
theorem szTop {t : MTopology} (hl : TopLens t) : laws_szTopology t 1048576 = some (if (topSize t : Int) ≤ 1048576 then (1048576 : Int) - topSize t else -1) := szTopK (by omega) (by omega) hl
theorem tot2_row {xs : List (List (List Int))} {x : List (List Int)} (h : x ∈ xs) : x.length + tot x ≤ tot2 xs := by
  obtain ⟨i, hi, rfl⟩ := List.getElem_of_mem h
  have h1 := tot2_take (List.getElem?_eq_getElem hi)
  have h2 := tot2_take_le xs (i + 1)
  omega
theorem tot_row {xs : List (List Int)} {x : List Int} (h : x ∈ xs) : x.length ≤ tot xs := by
  obtain ⟨i, hi, rfl⟩ := List.getElem_of_mem h
  have h1 := tot_take (List.getElem?_eq_getElem hi)
  have h2 := tot_take_le xs (i + 1)
  omega
theorem topSmall_of {t : MTopology} (h : topSize t ≤ 1048576) : TopSmall t := by
  unfold topSize at h
  exact ⟨catSmall_of (by omega), by omega, fun x hx => by
    have h1 := tot2_row hx
    exact ⟨by omega, fun y hy => by have := tot_row hy; omega⟩⟩
theorem toSSS (x : List (List (List Int))) (h : x.length ≤ 1048576) (hr : ∀ y ∈ x, y.length ≤ 1048576 ∧ ∀ z ∈ y, z.length ≤ 1048576) : laws_toInt64SSS x = some x := by
  unfold laws_toInt64SSS
  rw [mk_ok (by omega) (by omega), some_bind']
  refine (congrArg retM (for_all x (fun i => ((i : Int), x.take i ++ List.replicate (x.length - i) [])) rfl ?_ (e := ((x.length : Int), x)) ?_)).trans rfl
  · intro i v hv
    have hi := getElem?_lt hv
    have hm := hr v (List.mem_of_getElem? hv)
    show laws_toInt64SSS_L0 x _ _ = _
    unfold laws_toInt64SSS_L0
    rw [decT (by omega), cond_true, idx_nat, hv, some_bind', toSS v hm.1 hm.2, some_bind', idx_nat, get_copy x [] hv, some_bind', w64_nat (by omega), Int.toNat_natCast, set_copy x [] hv]
  · show laws_toInt64SSS_L0 x _ _ = _
    unfold laws_toInt64SSS_L0
    rw [decF (by omega), cond_false]; simp
theorem toTop {t : MTopology} (h : topSize t ≤ 1048576) : laws_toTopology t = some t := by
  have hs := topSmall_of h
  have h' := h
  unfold topSize at h'
  unfold laws_toTopology
  rw [toCat (by omega), some_bind', toSSS _ hs.k hs.r, some_bind']; rfl
end Go.Proofs.YtdlhbbhdfnnmnaaGreat
