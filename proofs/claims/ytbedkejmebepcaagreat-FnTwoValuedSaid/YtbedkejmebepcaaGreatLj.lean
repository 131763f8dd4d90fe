/- Sorting lists of numbers by the library's own slices.SortFunc: the rows, wherever they lie, come out in their order. No condition beside those that the theorem names. -/
import Derived.Test.YtbedkejmebepcaaGreatLh
import Derived.Shelf.SlSortCmp.Whole1
namespace Go.Li
open Go Go.Proofs Go.Shelf Go.RowKit Go.Lib Go.Sort

/-- lists of numbers in the order of the lexicon: -1, 0 or 1 -/
def lexCmp : List Int → List Int → Int
  | [], [] => 0
  | [], _ :: _ => -1
  | _ :: _, [] => 1
  | a :: al, b :: bl => if a = b then lexCmp al bl else if a < b then -1 else 1
def lexLt (x y : List Int) : Bool := decide (lexCmp x y < 0)
def lexLe (x y : List Int) : Bool := !lexLt y x

theorem lex_refl : ∀ x, lexCmp x x = 0 := by
  intro x
  induction x with
  | nil => rfl
  | cons a al ih => simp [lexCmp, ih]
theorem lex_cases (x y : List Int) : lexCmp x y = 0 ∨ lexCmp x y = -1 ∨ lexCmp x y = 1 := by
  induction x generalizing y with
  | nil => cases y <;> simp [lexCmp]
  | cons a al ih =>
    cases y with
    | nil => simp [lexCmp]
    | cons b bl =>
      unfold lexCmp
      split
      · exact ih bl
      · split <;> simp
theorem lex_zero {x y : List Int} (h : lexCmp x y = 0) : x = y := by
  induction x generalizing y with
  | nil => cases y <;> simp_all [lexCmp]
  | cons a al ih =>
    cases y with
    | nil => simp [lexCmp] at h
    | cons b bl =>
      unfold lexCmp at h
      split at h
      · rename_i e; rw [e, ih h]
      · split at h <;> simp at h
theorem lex_anti (x y : List Int) : lexCmp y x = - lexCmp x y := by
  induction x generalizing y with
  | nil => cases y <;> rfl
  | cons a al ih =>
    cases y with
    | nil => rfl
    | cons b bl =>
      unfold lexCmp
      by_cases e : a = b
      · rw [if_pos e, if_pos e.symm]; exact ih bl
      · rw [if_neg e, if_neg (fun h => e h.symm)]
        by_cases l : a < b
        · rw [if_pos l, if_neg (by omega)]; rfl
        · rw [if_neg l, if_pos (by omega)]
theorem lexLt_trans {x y z : List Int} (h1 : lexLt x y = true) (h2 : lexLt y z = true) : lexLt x z = true := by
  unfold lexLt at *
  simp only [decide_eq_true_eq] at *
  induction x generalizing y z with
  | nil =>
    cases z with
    | nil => cases y <;> simp_all [lexCmp]
    | cons c cs => simp [lexCmp]
  | cons a al ih =>
    cases y with
    | nil => simp [lexCmp] at h1
    | cons b bl =>
      cases z with
      | nil => simp [lexCmp] at h2
      | cons c cs =>
        simp only [lexCmp] at h1 h2 ⊢
        by_cases e1 : a = b <;> by_cases e2 : b = c
        · subst e1; subst e2; simp at h1 h2 ⊢; exact ih h1 h2
        · subst e1; simp [e2] at h2 ⊢; exact h2
        · subst e2; simp [e1] at h1 ⊢; exact h1
        · simp [e1, e2] at h1 h2
          have l1 : a < b := by
            apply Classical.byContradiction
            intro h; rw [if_neg h] at h1; simp at h1
          have l2 : b < c := by
            apply Classical.byContradiction
            intro h; rw [if_neg h] at h2; simp at h2
          rw [if_neg (by omega), if_pos (by omega)]; decide
theorem lexLt_irrefl (x : List Int) : lexLt x x = false := by unfold lexLt; rw [lex_refl]; rfl
theorem lexLt_total {x y : List Int} (h1 : lexLt x y = false) (h2 : lexLt y x = false) : x = y := by
  unfold lexLt at *
  simp only [decide_eq_false_iff_not] at *
  rw [lex_anti] at h2
  exact lex_zero (by omega)
theorem lexLt_ntrans {x y z : List Int} (h1 : lexLt x y = false) (h2 : lexLt y z = false) : lexLt x z = false := by
  cases h3 : lexLt x z with
  | false => rfl
  | true =>
    cases h4 : lexLt y x with
    | true => rw [lexLt_trans h4 h3] at h2; cases h2
    | false => rw [lexLt_total h1 h4] at h3; rw [h3] at h2; cases h2
theorem lexLe_trans (x y z : List Int) (h1 : lexLe x y = true) (h2 : lexLe y z = true) : lexLe x z = true := by
  unfold lexLe at *; simp only [Bool.not_eq_true'] at *
  exact lexLt_ntrans h2 h1
theorem lexLe_total (x y : List Int) : (lexLe x y || lexLe y x) = true := by
  unfold lexLe
  cases h1 : lexLt y x with
  | false => rfl
  | true =>
    cases h2 : lexLt x y with
    | false => rfl
    | true => have := lexLt_trans h1 h2; rw [lexLt_irrefl] at this; cases this
theorem lexLe_anti {x y : List Int} (h1 : lexLe x y = true) (h2 : lexLe y x = true) : x = y := by
  unfold lexLe at *; simp only [Bool.not_eq_true'] at *
  exact lexLt_total h2 h1

/-- a row's elements with their cells and blocks -/
theorem repL_triples {α : Type} {T : STy α} (h1 : T.size = 1) {h : Array Obj} : ∀ {xs : List α} {us : List Value} {g : List Nat}, repL T h us xs g →
    ∃ zs : List (Value × α × List Nat), us = zs.map (·.1) ∧ xs = zs.map (·.2.1) ∧ g = zs.flatMap (·.2.2) ∧ ∀ z ∈ zs, T.rep h [z.1] z.2.1 z.2.2 := by
  intro xs
  induction xs with
  | nil => rintro us g ⟨rfl, rfl⟩; exact ⟨[], rfl, rfl, rfl, fun _ h => nomatch h⟩
  | cons x xs ih =>
    rintro us g ⟨c, cs', f1, f2, rfl, rfl, hx, hr⟩
    have hc := T.len hx
    rw [h1] at hc
    obtain ⟨c0, rfl⟩ : ∃ c0, c = [c0] := by match c, hc with | [c0], _ => exact ⟨c0, rfl⟩
    obtain ⟨zs, rfl, rfl, rfl, hz⟩ := ih hr
    exact ⟨(c0, x, f1) :: zs, rfl, rfl, rfl, fun z hm => (List.mem_cons.1 hm).elim (fun e => by subst e; exact hx) (hz z)⟩
theorem repL_of_triples {α : Type} {T : STy α} {h : Array Obj} : ∀ (zs : List (Value × α × List Nat)), (∀ z ∈ zs, T.rep h [z.1] z.2.1 z.2.2) → repL T h (zs.map (·.1)) (zs.map (·.2.1)) (zs.flatMap (·.2.2)) := by
  intro zs
  induction zs with
  | nil => intro _; exact ⟨rfl, rfl⟩
  | cons z zs ih => intro hz; exact ⟨[z.1], _, z.2.2, _, rfl, rfl, hz z (by simp), ih fun y hy => hz y (by simp [hy])⟩

/-- a step that leaves all al it was: the world has drawn and grown -/
theorem Chg.grown {w w' : World} (h : Chg [] w w') : ∃ q os, w' = grow (w.drewN q) os := by
  refine ⟨w'.drawn - w.drawn, w'.heap.extract w.heap.size w'.heap.size, ?_⟩
  obtain ⟨h1, h2, h3, h4, h5, h6⟩ := h
  obtain ⟨hp, tp, dr, o, out⟩ := w
  obtain ⟨hp', tp', dr', o', out'⟩ := w'
  simp only at h1 h2 h3 h4 h5 h6
  subst h1; subst h2; subst h3
  simp only [grow, World.drewN, World.mk.injEq, and_true, true_and]
  refine ⟨?_, by omega⟩
  apply Array.ext_getElem?
  intro i
  rw [Array.getElem?_append]
  split
  · rename_i hi; exact h6 i hi (by simp)
  · rename_i hi
    rw [Array.getElem?_extract]
    split
    · congr 1; omega
    · rename_i hl; rw [Array.getElem?_eq_none (by omega)]

set_option maxHeartbeats 1000000 in
/-- slices.SortFunc at rows of one's own -/
theorem sort_rows {P : Program} {ρ : Ren} (L : SlLaysF.n6 P ρ) {g : Nat} {e1 : TypeId} {T : STy (List Int)} (hT1 : T.size = 1) (eg : ∀ args w, (callFunc g args).run P w = .ok (.enter g args) w)
    {xs : List (List Int)}
    (hc : ∀ {W : World} {x y : List Int} {vx vy : Value} {fx fy : List Nat}, T.rep W.heap [vx] x fx → T.rep W.heap [vy] y fy → x ∈ xs → y ∈ xs → Calls P g #[vx, vy] W fun e w' => e = .returned (.int .i64 (lexCmp x y)) ∧ Chg [] W w')
    {w : World} {G : List Nat} {B : Nat} {v : Value} {f : List Nat} (hne : xs ≠ []) (hsz : xs.length < 4611686018427387904) (hO : OE G B w (sOwn e1 T) [v] xs f) :
    Calls P (ρ.f 6) #[v, .func (.func g) #[] #[]] w fun e w' => ∃ f', e = .returned (.tuple #[]) ∧ Chg f w w' ∧ OE f w.heap.size w' (sOwn e1 T) [v] (xs.mergeSort lexLe) f' := by
  obtain ⟨⟨base, cap, hv, hr⟩, hnd, _⟩ := hO
  obtain rfl : v = .slice base xs.length cap := by simpa using hv
  rcases hr with ⟨_, _, rfl, _⟩ | ⟨b, cur, f0, rfl, hg, rfl, hnc, hcm, hcs, hrep⟩
  · exact absurd rfl hne
  rw [hT1, Nat.mul_one] at hcs hrep
  obtain ⟨hb0, hn0⟩ := List.nodup_cons.1 hnd
  have hbl : b < w.heap.size := (Array.getElem?_eq_some_iff.1 hg).1
  obtain ⟨zs, hus, hxs, hf0, hz⟩ := repL_triples hT1 hrep
  have hlen : zs.length = xs.length := by rw [hxs]; simp
  have hzb : ∀ z ∈ zs, ∀ k ∈ z.2.2, k ≠ b ∧ k < w.heap.size := fun z hm k hk =>
    ⟨fun h => hb0 (by rw [hf0, ← h]; exact List.mem_flatMap.2 ⟨z, hm, hk⟩), T.lt (hz z hm) k hk⟩
  let α := {z : Value × List Int × List Nat // z ∈ zs}
  have hz0 : 0 < zs.length := by rw [hlen]; exact List.length_pos_iff.2 hne
  letI : Inhabited α := ⟨⟨zs[0], List.getElem_mem hz0⟩⟩
  let enc : α → Value := fun z => z.1.1
  let cf : α → α → Int := fun x y => lexCmp x.1.2.1 y.1.2.1
  let d : Array α := zs.attach.toArray
  have hal : zs.attach.length = zs.length := List.length_attach
  have hds : d.size = xs.length := by show zs.attach.toArray.size = _; rw [List.size_toArray, hal, hlen]
  have hdget : ∀ j (hj : j < zs.length), d[j]! = ⟨zs[j], List.getElem_mem hj⟩ := by
    intro j hj
    have : j < d.size := by rw [hds]; omega
    rw [getElem!_pos d j this]
    apply Subtype.ext
    show (zs.attach.toArray[j]'(by simpa [hal] using hj)).1 = zs[j]
    rw [List.getElem_toArray, List.getElem_attach]
  have hO1 : OneCell enc := fun z => T.one (hz z.1 z.2) z.1.1 (by simp)
  have hswo : SWO (ltOf cf) := by
    have e : ∀ x y, ltOf cf x y = lexLt x.1.2.1 y.1.2.1 := fun _ _ => rfl
    exact ⟨fun x => by rw [e]; exact lexLt_irrefl _, fun x y z h1 h2 => by rw [e] at *; exact lexLt_trans h1 h2, fun x y z h1 h2 => by rw [e] at *; exact lexLt_ntrans h1 h2⟩
  have hH : Holds enc w b 0 d := by
    intro j hj
    rw [hds] at hj
    rw [Nat.zero_add]
    refine ⟨?_, frozen_of_row w b _ cur e1 hg⟩
    rw [cell_of_row w b _ cur e1 _ hg, hdget j (by omega), ← Array.getElem?_toList]
    have : (cur.toList.take xs.length)[j]? = (zs.map (·.1))[j]? := by rw [hus]
    rw [List.getElem?_take, if_pos hj] at this
    rw [this]
    simp [enc, hlen, hj]
  -- what lay in w outside the row lies there still
  have hother : ∀ (m : Nat) (dk : Array α) (os : Array Obj) (k : Nat), k ≠ b → k < w.heap.size → (sortWorld enc w b 0 m dk os).heap[k]? = w.heap[k]? := by
    intro m dk os k hk hkl
    unfold sortWorld
    rw [heap_grow_old _ _ (by simpa using hkl)]
    unfold putRow mapBlock
    simp only [Array.getElem?_modify]
    rw [if_neg (fun h => hk h.symm)]
    rfl
  have hcmp : CmpLays1 P g #[] enc cf b 0 d.size w := by
    intro m os dk _ x y
    have hx := T.congr (hz x.1 x.2) fun k hk => hother m dk os k (hzb x.1 x.2 k hk).1 (hzb x.1 x.2 k hk).2
    have hy := T.congr (hz y.1 y.2) fun k hk => hother m dk os k (hzb y.1 y.2 k hk).1 (hzb y.1 y.2 k hk).2
    exact (hc hx hy (by rw [hxs]; exact List.mem_map.2 ⟨x.1, x.2, rfl⟩) (by rw [hxs]; exact List.mem_map.2 ⟨y.1, y.2, rfl⟩)).mono fun e w' ⟨he, hC⟩ => ⟨he, hC.grown⟩
  have hcon := Any.slices_SortFunc L enc hO1 cf hswo g #[] b 0 cap d w eg hcmp hH hbl (by rw [hds]; exact hsz)
  rw [hds] at hcon
  refine hcon.mono ?_
  rintro e w' ⟨he, d', n, os, hp, hs, hw⟩
  subst hw
  obtain ⟨p1, _, p3⟩ := hp
  rw [hds] at p1
  have hd' : d'.extract 0 xs.length = d' := by rw [← p1]; simp
  have hd : d.extract 0 xs.length = d := by rw [← hds]; simp
  rw [hd', hd] at p3
  let zs' : List (Value × List Int × List Nat) := d'.toList.map (·.1)
  have hperm : zs'.Perm zs := by
    have := p3.map (fun z : α => z.1)
    have e2 : d.toList.map (fun z : α => z.1) = zs := by
      show (zs.attach.toArray.toList).map (fun z : α => z.1) = zs
      rw [List.toList_toArray]; exact List.attach_map_subtype_val zs
    rw [e2] at this
    exact this
  have hmem : ∀ z ∈ zs', z ∈ zs := fun z h => hperm.mem_iff.1 h
  have hlen' : zs'.length = xs.length := by rw [hperm.length_eq, hlen]
  have hfp : (zs'.flatMap (·.2.2)).Perm f0 := by rw [hf0]; exact hperm.flatMap_right _
  have hdat : zs'.map (·.2.1) = xs.mergeSort lexLe := by
    refine List.Perm.eq_of_pairwise (le := fun a b => lexLe a b = true) (fun a b _ _ h1 h2 => lexLe_anti h1 h2) ?_ (List.pairwise_mergeSort lexLe_trans lexLe_total xs) ?_
    · rw [List.pairwise_iff_getElem]
      intro i j hi hj hij
      have hj' : j < d'.size := by simpa [zs'] using hj
      have := hs i j (Nat.zero_le _) hij (by rw [p1] at hj'; exact hj')
      rw [getElem!_pos d' j hj', getElem!_pos d' i (by omega)] at this
      unfold lexLe
      simp only [Bool.not_eq_true', List.getElem_map, zs', Array.getElem_toList]
      exact this
    · exact ((hperm.map _).trans (by rw [← hxs])).trans (List.mergeSort_perm xs lexLe).symm
  have hrow : (sortWorld enc w b 0 n d' os).heap[b]? = some (.cells (putCells enc 0 d' cur) e1 (0, 0)) := by
    unfold sortWorld
    rw [heap_grow_old _ _ (by simpa using hbl)]
    unfold putRow mapBlock
    simp only [Array.getElem?_modify, if_true]
    show (w.heap[b]?).map _ = _
    rw [hg]
    rfl
  have hcs' : (putCells enc 0 d' cur).size = cur.size := by simp [putCells]
  have hcells : (putCells enc 0 d' cur).toList.take xs.length = zs'.map (·.1) := by
    apply List.ext_getElem?
    intro j
    rw [List.getElem?_take]
    split
    · rename_i hj
      have hjc : j < cur.size := by omega
      have hjd : j < d'.size := by omega
      rw [Array.getElem?_toList]
      simp only [putCells, Array.getElem?_mapIdx, Array.getElem?_eq_getElem hjc, Option.map_some]
      rw [if_pos ⟨Nat.zero_le _, by omega⟩, Nat.sub_zero, getElem!_pos d' j hjd]
      simp [zs', enc, hjd]
    · rename_i hj
      rw [List.getElem?_eq_none (by simp only [List.length_map, hlen']; omega)]
  have hk : ∀ k ∈ zs'.flatMap (·.2.2), k ∈ f0 := fun k hk => hfp.mem_iff.1 hk
  refine ⟨b :: zs'.flatMap (·.2.2), he, ⟨rfl, rfl, rfl, ?_, ?_, ?_⟩, ⟨⟨_, cap, ?_, .inr ⟨b, _, _, rfl, hrow, rfl, ?_, hcm, ?_, ?_⟩⟩, ?_, ?_⟩⟩
  · show w.drawn ≤ w.drawn + n; omega
  · simp [sortWorld]
  · intro k hkl hkn
    exact hother n d' os k (fun h => hkn (by simp [h])) hkl
  · rw [(List.mergeSort_perm xs lexLe).length_eq]
  · rw [(List.mergeSort_perm xs lexLe).length_eq]; exact hnc
  · rw [hcs', hcs, hT1, Nat.mul_one]
  · rw [(List.mergeSort_perm xs lexLe).length_eq, hT1, Nat.mul_one, hcells, ← hdat]
    exact repL_of_triples zs' fun z hm => T.congr (hz z (hmem z hm)) fun k hk => hother n d' os k (hzb z (hmem z hm) k hk).1 (hzb z (hmem z hm) k hk).2
  · exact List.nodup_cons.2 ⟨fun h => hb0 (hk b h), hfp.nodup_iff.2 hn0⟩
  · intro k hk'
    refine .inl ?_
    rcases List.mem_cons.1 hk' with rfl | h
    · simp
    · simp [hk k h]
end Go.Li
