/- All sieves at all objects, the classifier, the table of the reference. No condition beside those that each theorem names. -/
import Derived.Test.YtbedkejmebepcaaGreatPj
namespace Go.Li
open Go
def mapI {β : Type} (n : Nat) (g : Int → β) : List β := (ns n).map g
theorem mapI_length {β : Type} (n : Nat) (g : Int → β) : (mapI n g).length = n := by simp [mapI, ns_length]
theorem mapI_succ {β : Type} (n : Nat) (g : Int → β) : mapI (n + 1) g = mapI n g ++ [g n] := by
  unfold mapI ns
  rw [List.range_succ]; simp
theorem mapI_get {β : Type} {n i : Nat} (g : Int → β) (h : i < n) : (mapI n g)[i]? = some (g i) := by
  unfold mapI ns
  simp [h]
theorem mapI_mem {β : Type} {n : Nat} {g : Int → β} {y : β} : y ∈ mapI n g ↔ ∃ x : Int, (0 ≤ x ∧ x < n) ∧ g x = y := by
  unfold mapI; simp only [List.mem_map, ns_mem]
theorem mapI_congr {β : Type} {n : Nat} {g h : Int → β} (e : ∀ i : Nat, i < n → g i = h i) : mapI n g = mapI n h := by
  apply List.map_congr_left
  intro x hx
  have := ns_mem.1 hx
  have := e x.toNat (by omega)
  rwa [Int.toNat_of_nonneg (by omega)] at this
/-- a loop that appends one element a round -/
theorem map_loop {S S1 R β : Type} {body : S1 → Option (Out S1 R)} {k : Nat} {f : S1 → Option (Out S R)} {s0' : S1} (n : Nat) (g : Int → β) (pk : List β → Nat → S1) (e0 : pk [] 0 = s0')
    (step : ∀ i acc, i < n → acc.length = i → body (pk acc i) = some (.norm (pk (acc ++ [g i]) (i + 1)))) (last : ∀ acc, acc.length = n → body (pk acc n) = some (.exit k (pk acc n))) :
    lbind (blockM k (loopM body s0')) f = f (pk (mapI n g) n) := by
  rw [← e0]
  refine for_all (ns n) (fun i => pk (mapI i g) i) rfl ?_ ?_
  · intro i x hx
    obtain ⟨rfl, hi⟩ := ns_get hx
    rw [step i _ hi (mapI_length i g), mapI_succ]
  · rw [ns_length]; exact last _ (mapI_length n g)
def gl {α : Type} (l : List (List α)) (j : Int) : List α := l.getD j.toNat []
theorem idx_gl {α : Type} {l : List (List α)} {j : Int} (h0 : 0 ≤ j) (h1 : j < l.length) : idx l j = some (gl l j) := by
  rw [idx_lt h0 h1]; unfold gl; rw [List.getD_eq_getElem?_getD, List.getElem?_eq_getElem (by omega)]; rfl
theorem gl_mem {α : Type} {l : List (List α)} {j : Int} (h0 : 0 ≤ j) (h1 : j < l.length) : gl l j ∈ l := by
  unfold gl; rw [List.getD_eq_getElem?_getD, List.getElem?_eq_getElem (by omega)]; exact List.getElem_mem _
theorem gl_get {α : Type} {l : List (List α)} {i : Nat} (h : i < l.length) : l[i]? = some (gl l i) := by
  unfold gl; rw [List.getD_eq_getElem?_getD, Int.toNat_natCast, List.getElem?_eq_getElem h]; rfl
theorem gl_eq {α : Type} {l : List (List α)} {i : Nat} {x : List α} (h : l[i]? = some x) : gl l i = x := by
  unfold gl; rw [List.getD_eq_getElem?_getD, Int.toNat_natCast, h]; rfl
theorem mapI_gl {α β : Type} (l : List (List α)) (g : List α → β) : mapI l.length (fun i => g (gl l i)) = l.map g := by
  apply List.ext_getElem?
  intro i
  by_cases h : i < l.length
  · rw [mapI_get _ h, List.getElem?_map, gl_get h]; rfl
  · rw [List.getElem?_eq_none (by rw [mapI_length]; omega), List.getElem?_eq_none (by rw [List.length_map]; omega)]
end Go.Li
namespace Go.Proofs.YtbedkejmebepcaaGreat
open Go Go.Li
set_option linter.unusedSectionVars false

theorem specOwn0 (l : List Int) (hl : l.length ≤ 1048576) : spec_l01Own l = some l := by
  unfold spec_l01Own
  rw [fits_ok (by simp; omega) (by simp; omega), some_bind', List.nil_append]; rfl
theorem specOwn2 (l : List (List Int)) (hl : l.length ≤ 1048576) (hr : ∀ y ∈ l, y.length ≤ 1048576) : spec_l01Own2 l = some l := by
  unfold spec_l01Own2
  refine (congrArg retM (map_loop l.length (gr l) (fun acc i => (acc, (i : Int))) rfl ?_ ?_)).trans ?_
  · intro i acc hi ha
    show spec_l01Own2_L0 l acc i = _
    unfold spec_l01Own2_L0
    rw [decT (by omega), cond_true, idx_gr (by omega) (by omega), some_bind', specOwn0 _ (hr _ (gr_mem (by omega) (by omega))), some_bind', fits_ok (by omega) (by omega), some_bind', w64_nat (by omega)]
  · intro acc ha
    show spec_l01Own2_L0 l acc _ = _
    unfold spec_l01Own2_L0
    rw [decF (by omega), cond_false]
  · show some (mapI l.length (gr l)) = _
    have := mapI_gl l (fun x => x)
    rw [List.map_id'] at this
    exact congrArg some this
theorem specOwnC {c : MCategory} (h : CatSmall c) : spec_l02Own c = some c := by
  unfold spec_l02Own
  rw [specOwn0 _ h.f, some_bind', specOwn0 _ h.t, some_bind', specOwn0 _ h.i, some_bind', specOwn2 _ h.k h.r, some_bind']; rfl
theorem implCopy {c : MCategory} (h : CatSmall c) : impl_Category_copy c = some c := by
  have h1 : ∀ l : List Int, l.length ≤ 1048576 → impl_clone l = some l := fun l hl => specOwn0 l hl
  have hk := h.k
  unfold impl_Category_copy
  rw [h1 _ h.f, some_bind', h1 _ h.t, some_bind', h1 _ h.i, some_bind']
  have : impl_clones c.Composites = some c.Composites := by
    unfold impl_clones
    rw [mk_ok (by omega) (by omega), some_bind']
    refine (congrArg retM (map_loop c.Composites.length (gr c.Composites) (fun acc i => (acc, (i : Int))) rfl ?_ ?_)).trans ?_
    · intro i acc hi ha
      show impl_clones_L0 c.Composites acc i = _
      unfold impl_clones_L0
      rw [decT (by omega), cond_true, idx_gr (by omega) (by omega), some_bind', h1 _ (h.r _ (gr_mem (by omega) (by omega))), some_bind', fits_ok (by omega) (by omega), some_bind', w64_nat (by omega)]
    · intro acc ha
      show impl_clones_L0 c.Composites acc _ = _
      unfold impl_clones_L0
      rw [decF (by omega), cond_false]
    · have := mapI_gl c.Composites (fun x => x)
      rw [List.map_id'] at this
      exact congrArg some this
  rw [this, some_bind']; rfl

/-- the lists of all sieves at the first k objects -/
structure Lists (c : MCategory) (k : Nat) (ls : List (List (List Int))) : Prop where
  len : ls.length = k
  found : ∀ i : Nat, i < k → Found c i (some (gl ls i))
section
variable {c : MCategory} (H : Cat c)
include H
/-- all lists are found, or one of them is too long -/
theorem scan (n : Nat) : (∃ ls, Lists c n ls) ∨ ∃ k ls, k < n ∧ Lists c k ls ∧ Found c k none := by
  induction n with
  | zero => exact .inl ⟨[], rfl, fun i hi => absurd hi (Nat.not_lt_zero _)⟩
  | succ n ih =>
    rcases ih with ⟨ls, h⟩ | ⟨k, ls, h1, h2, h3⟩
    · obtain ⟨r, h1, _⟩ := implSieves H (x := (n : Int))
      cases r with
      | none => exact .inr ⟨n, ls, Nat.lt_succ_self n, h, h1⟩
      | some L =>
        refine .inl ⟨ls ++ [L], by simp [h.len], fun i hi => ?_⟩
        by_cases e : i = n
        · subst e
          rw [gl_eq (x := L) (by rw [← h.len, List.getElem?_append_right (Nat.le_refl _), Nat.sub_self]; rfl)]; exact h1
        · have hlt : i < ls.length := by rw [h.len]; omega
          rw [gl_eq (x := gl ls i) (by rw [List.getElem?_append_left hlt]; exact gl_get hlt)]
          exact h.found i (by omega)
    · exact .inr ⟨k, ls, by omega, h2, h3⟩
theorem svOk {i : Nat} {L : List (List Int)} (h : Found c i (some L)) : impl_Category_sieves c i = some (L, true) := by
  obtain ⟨r, h1, h2⟩ := implSieves H (x := (i : Int))
  have := Found.uniq H h1 h
  subst this
  exact h2
theorem svNo {i : Nat} (h : Found c i none) : impl_Category_sieves c i = some ([], false) := by
  obtain ⟨r, h1, h2⟩ := implSieves H (x := (i : Int))
  have := Found.uniq H h1 h
  subst this
  exact h2
theorem found_sv {x : Int} {L : List (List Int)} (h : Found c x (some L)) : SvList c x L := by
  cases h with
  | few F h hl =>
    have hp := List.mergeSort_perm F lexLe
    exact ⟨fun s => by rw [hp.mem_iff]; exact h.mem s, hp.nodup_iff.2 h.nodup, by rw [hp.length_eq]; exact hl⟩
theorem Lists.sv {k : Nat} {ls : List (List (List Int))} (h : Lists c k ls) {i : Int} (h0 : 0 ≤ i) (h1 : i < k) : SvList c i (gl ls i) := by
  have := h.found i.toNat (by omega)
  rw [Int.toNat_of_nonneg h0] at this
  exact found_sv H this
/-- the numbers of the pulled sieves -/
def act (c : MCategory) (ls : List (List (List Int))) (a : Int) : List Int := (gl ls (gi c.From a)).map fun s => placeS (gl ls (gi c.To a)) (pullS c a s)
def acts (c : MCategory) (ls : List (List (List Int))) : List (List Int) := mapI c.From.length (act c ls)
def sizesOf (ls : List (List (List Int))) : List Int := ls.map fun L => (L.length : Int)
theorem pull_len (a : Int) (s : List Int) : (pullS c a s).length ≤ c.From.length := by
  have _ := H
  unfold pullS; exact Nat.le_trans (List.length_filter_le _ _) (outS_len c _)
/-- the numbers of the greatest sieves -/
def tops (c : MCategory) (ls : List (List (List Int))) : List Int := mapI ls.length fun x => placeS (gl ls x) (outS c x)
theorem number {k : MClassifier} {x : Int} {s : List Int} (h0 : 0 ≤ x) (h1 : x < k.Sieves.length) (hl : (gl k.Sieves x).length ≤ 1048576) (hs : s.length ≤ 1048576000) : impl_classifier_number k x s = some (placeS (gl k.Sieves x) s) := by
  have _ := H
  unfold impl_classifier_number
  rw [idx_gl h0 h1, some_bind', indexFunc (q := fun y => y == s) (by omega) (fun y _ => by
    unfold impl_classifier_number_1
    rw [implSame s y hs, some_bind']
    show some (s == y) = some (y == s)
    congr 1
    rw [Bool.eq_iff_iff]; simp only [beq_iff_eq]; exact ⟨Eq.symm, Eq.symm⟩), some_bind']
  rfl
theorem implClassifier {ls : List (List (List Int))} (hs : CatSmall c) (h : Lists c c.Objects.toNat ls) : impl_Category_classifier c = some (some (MClassifier.mk (MSetFunctor.mk c (sizesOf ls) (acts c ls)) ls), true) := by
  have ho := H.o0
  have ho8 := H.o8
  have hm := H.m
  have hlen := h.len
  unfold impl_Category_classifier
  rw [implCopy hs, some_bind']
  refine (congrArg retM (for_all (ns c.Objects.toNat) (fun i => ((i : Int), mapI i (fun x => ((gl ls x).length : Int)), mapI i (gl ls))) rfl ?_ (e := ((c.Objects.toNat : Int), mapI c.Objects.toNat (fun x => ((gl ls x).length : Int)), mapI c.Objects.toNat (gl ls))) ?_)).trans ?_
  · intro i x hx
    obtain ⟨rfl, hi⟩ := ns_get hx
    show impl_Category_classifier_L0 c i _ _ = _
    unfold impl_Category_classifier_L0
    rw [decT (by omega), cond_true, svOk H (h.found i hi), some_bind', Bool.not_true, cond_false, fits_ok (by rw [mapI_length]; omega) (by rw [mapI_length]; omega), some_bind', fits_ok (by rw [mapI_length]; omega) (by rw [mapI_length]; omega), some_bind', w64_nat (by omega), mapI_succ, mapI_succ]
  · rw [ns_length]
    show impl_Category_classifier_L0 c (c.Objects.toNat : Int) _ _ = _
    unfold impl_Category_classifier_L0
    rw [decF (by omega), cond_false]
  · dsimp only
    have e1 : mapI c.Objects.toNat (fun x => ((gl ls x).length : Int)) = sizesOf ls := by rw [← hlen]; exact mapI_gl ls fun L => (L.length : Int)
    have e2 : mapI c.Objects.toNat (gl ls) = ls := by
      have := mapI_gl ls (fun x => x)
      rw [List.map_id', hlen] at this; exact this
    rw [e1, e2]
    refine (congrArg retM (map_loop c.From.length (act c ls) (fun acc i => ((i : Int), acc)) rfl ?_ ?_)).trans rfl
    · intro a acc hi ha
      have hf := H.fr (f := (a : Int)) (by omega) (by omega)
      have ht := H.to (f := (a : Int)) (by omega) (by omega)
      have sf := Lists.sv H h hf.1 (by omega)
      have st := Lists.sv H h ht.1 (by omega)
      have hfl := sf.len
      have htl := st.len
      show impl_Category_classifier_L1 c c (sizesOf ls) ls a acc = _
      unfold impl_Category_classifier_L1
      rw [decT (by omega), cond_true, H.idxF (by omega) (by omega), some_bind', idx_gl hf.1 (by omega), some_bind']
      refine (map_loop (gl ls (gi c.From a)).length (fun j => placeS (gl ls (gi c.To a)) (pullS c a (gr (gl ls (gi c.From a)) j))) (fun acc j => (acc, (j : Int))) rfl ?_ ?_).trans ?_
      · intro j acc2 hj ha2
        have hsl := (SvList.sv H sf _ (gr_mem (j := (j : Int)) (by omega) (by omega))).len
        have hpl := pull_len H a (gr (gl ls (gi c.From a)) j)
        show impl_Category_classifier_L2 c c (sizesOf ls) ls a acc (gl ls (gi c.From a)) acc2 j = _
        unfold impl_Category_classifier_L2
        rw [decT (by omega), cond_true, idx_gr (by omega) (by omega), some_bind', H.idxT (by omega) (by omega), some_bind', implPull H.toShape (by omega) (by omega) _ (by omega), some_bind',
          number H (k := MClassifier.mk (MSetFunctor.mk c (sizesOf ls) acc) ls) ht.1 (by dsimp only; omega) (by dsimp only; omega) (by omega), some_bind', fits_ok (by omega) (by omega), some_bind', w64_nat (by omega)]
      · intro acc2 ha2
        show impl_Category_classifier_L2 c c (sizesOf ls) ls a acc (gl ls (gi c.From a)) acc2 _ = _
        unfold impl_Category_classifier_L2
        rw [decF (by omega), cond_false]
      · dsimp only
        rw [fits_ok (by omega) (by omega), some_bind', w64_nat (by omega)]
        have := mapI_gl (gl ls (gi c.From a)) (fun s => placeS (gl ls (gi c.To a)) (pullS c a s))
        congr 3
        unfold act
        rw [← this]
        rfl
    · intro acc ha
      show impl_Category_classifier_L1 c c (sizesOf ls) ls _ acc = _
      unfold impl_Category_classifier_L1
      rw [decF (by omega), cond_false]
theorem implClassifierNo {k : Nat} {ls : List (List (List Int))} (hs : CatSmall c) (hk : k < c.Objects.toNat) (h : Lists c k ls) (hn : Found c k none) : impl_Category_classifier c = some (none, false) := by
  have ho := H.o0
  have ho8 := H.o8
  unfold impl_Category_classifier
  rw [implCopy hs, some_bind']
  have : loopM (fun s => impl_Category_classifier_L0 c s.1 s.2.1 s.2.2) ((0 : Int), ([] : List Int), ([] : List (List (List Int)))) = some (.ret (none, false)) := by
    have e := loopM_steps (body := fun s => impl_Category_classifier_L0 c s.1 s.2.1 s.2.2) (fun i => ((i : Int), mapI i (fun x => ((gl ls x).length : Int)), mapI i (gl ls))) k (by
      intro i hi
      show impl_Category_classifier_L0 c i _ _ = _
      unfold impl_Category_classifier_L0
      rw [decT (by omega), cond_true, svOk H (h.found i hi), some_bind', Bool.not_true, cond_false, fits_ok (by rw [mapI_length]; omega) (by rw [mapI_length]; omega), some_bind', fits_ok (by rw [mapI_length]; omega) (by rw [mapI_length]; omega), some_bind', w64_nat (by omega), mapI_succ, mapI_succ])
    refine Eq.trans e (loopM_ret ?_)
    show impl_Category_classifier_L0 c k _ _ = _
    unfold impl_Category_classifier_L0
    rw [decT (by omega), cond_true, svNo H hn, some_bind', Bool.not_false, cond_true]
  rw [lb_ret this]; rfl
end
end Go.Proofs.YtbedkejmebepcaaGreat
