/- All sieves at an object: the reference's search in depth and the program's search in breadth find the same list. No condition beside those that each theorem names. -/
import Derived.Test.YtbedkejmebepcaaGreatPh
import Derived.Test.YtbedkejmebepcaaGreatPa
namespace Go.Li
open Go
/-- a loop over a list that carries a state and may fail -/
theorem foldM_loop {S S1 R α σ : Type} {body : S1 → Option (Out S1 R)} {k : Nat} {f : S1 → Option (Out S R)} {s0' : S1} (l : List α) (g : σ → α → Option σ) (I : σ → Prop) (pk : σ → Nat → S1) (s0 : σ) (e0 : pk s0 0 = s0') (h0 : I s0)
    (hI : ∀ x s s', x ∈ l → I s → g s x = some s' → I s') (step : ∀ i x s, l[i]? = some x → I s → body (pk s i) = (g s x).map fun s' => .norm (pk s' (i + 1))) (last : ∀ s, I s → body (pk s l.length) = some (.exit k (pk s l.length))) :
    lbind (blockM k (loopM body s0')) f = (l.foldlM g s0).bind fun s => f (pk s l.length) := by
  have key : ∀ (m : List α) (i : Nat) (s : σ), l.drop i = m → i ≤ l.length → I s → lbind (blockM k (loopM body (pk s i))) f = (m.foldlM g s).bind fun s => f (pk s l.length) := by
    intro m
    induction m with
    | nil =>
      intro i s hd hi hs
      have : i = l.length := by have := congrArg List.length hd; simp at this; omega
      subst this
      rw [lb_end (last s hs)]; rfl
    | cons x m ih =>
      intro i s hd hi hs
      have hlt : i < l.length := by
        rcases Nat.lt_or_ge i l.length with h | h
        · exact h
        · rw [List.drop_eq_nil_of_le h] at hd; cases hd
      rw [List.drop_eq_getElem_cons hlt] at hd
      have hx : l[i]? = some x := by rw [List.getElem?_eq_getElem hlt]; exact congrArg some (List.cons.inj hd).1
      rw [List.foldlM_cons]
      have hb := step i x s hx hs
      cases hg : g s x with
      | none =>
        rw [hg] at hb
        rw [loopM_eq, hb]; rfl
      | some s' =>
        rw [hg] at hb
        rw [lb_step hb, ih (i + 1) s' (List.cons.inj hd).2 hlt (hI x s s' (List.mem_of_getElem? hx) hs hg)]; rfl
  rw [← e0]
  exact key l 0 s0 rfl (Nat.zero_le _) h0
end Go.Li
namespace Go.Proofs.YtbedkejmebepcaaGreat
open Go Go.Li
set_option linter.unusedSectionVars false

/-- a sieve at an object -/
structure Sv (c : MCategory) (x : Int) (s : List Int) : Prop where
  form : s = (ns c.From.length).filter (hasB s)
  src : ∀ y ∈ s, gi c.From y = x
  closed : ∀ y ∈ s, ∀ b : Int, 0 ≤ b → b < c.From.length → gi c.To y = gi c.From b → gk c.Composites y b ∈ s
theorem Sv.arr {c : MCategory} {x : Int} {s : List Int} (h : Sv c x s) : Arr c s := fun a ha => by
  rw [h.form] at ha; exact ns_mem.1 (List.mem_filter.1 ha).1
theorem Sv.len {c : MCategory} {x : Int} {s : List Int} (h : Sv c x s) : s.length ≤ c.From.length := by
  rw [h.form]; exact Nat.le_trans (List.length_filter_le _ _) (by rw [ns_length]; exact Nat.le_refl _)
theorem Sv.nil (c : MCategory) (x : Int) : Sv c x [] := ⟨by rw [List.filter_eq_nil_iff.2]; intro a _; simp [hasB], fun _ h => (nomatch h), fun _ h => (nomatch h)⟩
theorem close_mem {c : MCategory} {A : List Int} {a : Int} : a ∈ closeS c A ↔ (0 ≤ a ∧ a < c.From.length) ∧ ∃ y ∈ A, ∃ b : Int, (0 ≤ b ∧ b < c.From.length) ∧ gi c.To y = gi c.From b ∧ gk c.Composites y b = a := by
  unfold closeS clP
  rw [List.mem_filter, ns_mem]
  simp only [List.any_eq_true, Bool.and_eq_true, beq_iff_eq]
  constructor
  · rintro ⟨h, y, hy, b, hb, e1, e2⟩; exact ⟨h, y, hy, b, ns_mem.1 hb, e1, e2⟩
  · rintro ⟨h, y, hy, b, hb, e1, e2⟩; exact ⟨h, y, hy, b, ns_mem.2 hb, e1, e2⟩
theorem filter_form {n : Nat} {p : Int → Bool} : (ns n).filter p = (ns n).filter (hasB ((ns n).filter p)) := by
  apply List.filter_congr
  intro a ha
  rw [Bool.eq_iff_iff, hasB_iff, List.mem_filter]
  exact ⟨fun h => ⟨ha, h⟩, fun h => h.2⟩
section
variable {c : MCategory} (H : Cat c) {x : Int}
include H
theorem close_sub {A : List Int} (hA : Arr c A) : ∀ y ∈ A, y ∈ closeS c A := fun y hy => by
  have h := hA y hy
  have ht := H.to h.1 h.2
  have hi := H.id ht.1 ht.2
  exact close_mem.2 ⟨h, y, hy, _, hi, (H.idf _ ht.1 ht.2).symm, H.unitR y h.1 h.2⟩
theorem close_sv {A : List Int} (hA : Arr c A) (hs : ∀ y ∈ A, gi c.From y = x) : Sv c x (closeS c A) := by
  refine ⟨filter_form, fun y hy => ?_, fun z hz b b0 b1 e => ?_⟩
  · obtain ⟨_, z, hz, b, hb, e1, e2⟩ := close_mem.1 hy
    have h := hA z hz
    rw [← e2, (H.cell z b h.1 h.2 hb.1 hb.2 e1).2.2.1]
    exact hs z hz
  · obtain ⟨hz0, y, hy, a, ha, e1, e2⟩ := close_mem.1 hz
    have h := hA y hy
    have c1 := H.cell y a h.1 h.2 ha.1 ha.2 e1
    have e3 : gi c.To a = gi c.From b := by rw [← c1.2.2.2, e2]; exact e
    have c2 := H.cell a b ha.1 ha.2 b0 b1 e3
    have c3 := H.cell z b hz0.1 hz0.2 b0 b1 e
    refine close_mem.2 ⟨⟨c3.1, c3.2.1⟩, y, hy, gk c.Composites a b, ⟨c2.1, c2.2.1⟩, by rw [c2.2.2.1]; exact e1, ?_⟩
    rw [← H.assoc y a b h.1 h.2 ha.1 ha.2 b0 b1 e1 e3, e2]
/-- one more arrow -/
def stepS (c : MCategory) (s : List Int) (a : Int) : List Int := closeS c (s ++ [a])
theorem step_arr {s : List Int} {a : Int} (hs : Sv c x s) (ha : a ∈ outS c x) : Arr c (s ++ [a]) ∧ ∀ y ∈ s ++ [a], gi c.From y = x := by
  have h := outS_mem.1 ha
  refine ⟨fun y hy => ?_, fun y hy => ?_⟩
  · rcases List.mem_append.1 hy with h' | h'
    · exact hs.arr y h'
    · rw [List.mem_singleton.1 h']; exact h.1
  · rcases List.mem_append.1 hy with h' | h'
    · exact hs.src y h'
    · rw [List.mem_singleton.1 h']; exact h.2
theorem step_sv {s : List Int} {a : Int} (hs : Sv c x s) (ha : a ∈ outS c x) : Sv c x (stepS c s a) :=
  close_sv H (step_arr H hs ha).1 (step_arr H hs ha).2
theorem step_has {s : List Int} {a : Int} (hs : Sv c x s) (ha : hasB s a = true) : stepS c s a = s := by
  have ha' := hasB_iff.1 ha
  have hA : Arr c (s ++ [a]) := fun y hy => by
    rcases List.mem_append.1 hy with h' | h'
    · exact hs.arr y h'
    · rw [List.mem_singleton.1 h']; exact hs.arr a ha'
  conv => rhs; rw [hs.form]
  unfold stepS closeS
  apply List.filter_congr
  intro z hz
  rw [Bool.eq_iff_iff, hasB_iff]
  constructor
  · intro h
    have : z ∈ closeS c (s ++ [a]) := List.mem_filter.2 ⟨hz, h⟩
    obtain ⟨_, y, hy, b, hb, e1, e2⟩ := close_mem.1 this
    have hys : y ∈ s := by
      rcases List.mem_append.1 hy with h' | h'
      · exact h'
      · rw [List.mem_singleton.1 h']; exact ha'
    rw [← e2]
    exact hs.closed y hys b hb.1 hb.2 e1
  · intro h
    have := close_sub H hA z (List.mem_append_left _ h)
    exact (List.mem_filter.1 this).2
theorem reach_sv {s : List Int} (h : Reaches (outS c x) (stepS c) [] s) : Sv c x s := by
  induction h with
  | base => exact Sv.nil c x
  | step _ ha ih => exact step_sv H ih ha

theorem specOwn (l : List Int) (hl : l.length ≤ 1048576) : spec_l01Own l = some l := by
  have _ := H
  unfold spec_l01Own
  rw [fits_ok (by simp; omega) (by simp; omega), some_bind', List.nil_append]; rfl
/-- what the search keeps -/
structure Keep (c : MCategory) (x : Int) (F : List (List Int)) : Prop where
  len : F.length ≤ 17
  sv : ∀ t ∈ F, Sv c x t
/-- what is known of the list of all sieves at an object -/
structure SvList (c : MCategory) (x : Int) (L : List (List Int)) : Prop where
  mem : ∀ s, s ∈ L ↔ Reaches (outS c x) (stepS c) [] s
  nodup : L.Nodup
  len : L.length ≤ 16
theorem SvList.sv {L : List (List Int)} (h : SvList c x L) : ∀ s ∈ L, Sv c x s := fun s hs => reach_sv H ((h.mem s).1 hs)
theorem sort_uniq {K L : List (List Int)} (h : K.Perm L) : K.mergeSort lexLe = L.mergeSort lexLe :=
  List.Perm.eq_of_pairwise (le := fun a b => lexLe a b = true) (fun _ _ _ _ h1 h2 => lexLe_anti h1 h2) (List.pairwise_mergeSort lexLe_trans lexLe_total K) (List.pairwise_mergeSort lexLe_trans lexLe_total L)
    (((List.mergeSort_perm K lexLe).trans h).trans (List.mergeSort_perm L lexLe).symm)
/-- what the two searches give -/
inductive Found (c : MCategory) (x : Int) : Option (List (List Int)) → Prop
  | few (F : List (List Int)) (h : Finds (outS c x) (stepS c) [] F) (hl : F.length ≤ 16) : Found c x (some (F.mergeSort lexLe))
  | many (h : Many (outS c x) (stepS c) 16 []) : Found c x none
theorem Found.uniq {a b : Option (List (List Int))} (h : Found c x a) (k : Found c x b) : a = b := by
  have _ := H
  cases h with
  | few F h hl =>
    cases k with
    | few G k kl => rw [sort_uniq H (h.perm k)]
    | many k => exact absurd k (h.few hl)
  | many h =>
    cases k with
    | few G k kl => exact absurd h (k.few kl)
    | many k => rfl
theorem implClone (l : List Int) (hl : l.length ≤ 1048576) : impl_clone l = some l := specOwn H l hl
theorem sieves_row {i : Nat} {s : List Int} (hs : Sv c x s) {f : List (List Int) × Int → Option (Out (List (List Int) × Int) (List (List Int) × Bool))} (L : List (List Int)) (hi : L[i]? = some s) (hL : L.length ≤ 16) (hSv : ∀ t ∈ L, Sv c x t) :
    lbind (blockM 2 (loopM (fun s => impl_Category_sieves_L1 c (i : Int) (outS c x) s.1 s.2) (L, (0 : Int)))) f =
      match bfsRow (stepS c) 16 s (outS c x) L with | some L' => f (L', ((outS c x).length : Int)) | none => some (.ret ([], false)) := by
  have hm := H.m
  have hol := outS_len c x
  have hsl := hs.len
  have key : ∀ (m : List Int) (j : Nat) (L : List (List Int)), (outS c x).drop j = m → j ≤ (outS c x).length → L[i]? = some s → L.length ≤ 16 → (∀ t ∈ L, Sv c x t) →
      lbind (blockM 2 (loopM (fun s => impl_Category_sieves_L1 c (i : Int) (outS c x) s.1 s.2) (L, (j : Int)))) f =
        match bfsRow (stepS c) 16 s m L with | some L' => f (L', ((outS c x).length : Int)) | none => some (.ret ([], false)) := by
    intro m
    induction m with
    | nil =>
      intro j L hd hj hi hL hSv
      have : j = (outS c x).length := by have := congrArg List.length hd; simp at this; omega
      subst this
      rw [lb_end (e := (L, ((outS c x).length : Int))) (by show impl_Category_sieves_L1 c (i : Int) (outS c x) L _ = _; unfold impl_Category_sieves_L1; rw [decF (by omega), cond_false])]; rfl
    | cons a m ih =>
      intro j L hd hj hi hL hSv
      have hlt : j < (outS c x).length := by
        rcases Nat.lt_or_ge j (outS c x).length with h | h
        · exact h
        · rw [List.drop_eq_nil_of_le h] at hd; cases hd
      rw [List.drop_eq_getElem_cons hlt] at hd
      have ha : (outS c x)[j]? = some a := by rw [List.getElem?_eq_getElem hlt]; exact congrArg some (List.cons.inj hd).1
      have ham := List.mem_of_getElem? ha
      have hst := step_arr H hs ham
      have hsv := step_sv H hs ham
      have hsvl := hsv.len
      have hcon : slices_ContainsFunc___impl_sieve_impl_sieve_ L (fun a0 => impl_Category_sieves_1 a0 (stepS c s a)) = some (L.any fun t => stepS c s a == t) := by
        refine containsFunc (by omega) fun t ht => ?_
        unfold impl_Category_sieves_1
        rw [implSame _ _ (by omega), some_bind']; rfl
      have hb : impl_Category_sieves_L1 c (i : Int) (outS c x) L (j : Int) =
          bif (L.any fun t => stepS c s a == t) then some (.norm (L, ((j + 1 : Nat) : Int))) else (bif ((L.length : Int)) == ((16 : Int)) then (some (Out.ret ((([]), false)))) else some (.norm (L ++ [stepS c s a], ((j + 1 : Nat) : Int)))) := by
        unfold impl_Category_sieves_L1
        rw [decT (by omega), cond_true, idx_nat, ha, some_bind', idx_nat, hi, some_bind', implClone H s (by omega), some_bind', fits_ok (by omega) (by omega), some_bind', implClose H.toShape hst.1 (by simp; omega), some_bind']
        show (slices_ContainsFunc___impl_sieve_impl_sieve_ L (fun a0 => impl_Category_sieves_1 a0 (stepS c s a)) >>= _) = _
        rw [hcon, some_bind', w64_nat (by omega), fits_ok (by omega) (by omega), some_bind']
        rfl
      have hany : (L.any fun t => stepS c s a == t) = decide (stepS c s a ∈ L) := by
        rw [Bool.eq_iff_iff]; simp
      rw [hany] at hb
      unfold bfsRow
      rw [List.foldlM_cons]
      by_cases hmem : stepS c s a ∈ L
      · rw [decT hmem, cond_true] at hb
        rw [lb_step (s' := (L, ((j + 1 : Nat) : Int))) hb, if_pos hmem]
        exact ih (j + 1) L (List.cons.inj hd).2 hlt hi hL hSv
      · rw [decF hmem, cond_false] at hb
        rw [if_neg hmem]
        by_cases h16 : L.length = 16
        · rw [beqT (by omega), cond_true] at hb
          rw [if_pos h16, lb_out hb]; rfl
        · rw [beqF (by omega), cond_false] at hb
          rw [if_neg h16, lb_step (s' := (L ++ [stepS c s a], ((j + 1 : Nat) : Int))) hb]
          refine ih (j + 1) (L ++ [stepS c s a]) (List.cons.inj hd).2 hlt (by rw [List.getElem?_append_left (getElem?_lt hi)]; exact hi) (by simp; omega) ?_
          intro t ht
          rcases List.mem_append.1 ht with h | h
          · exact hSv t h
          · rw [List.mem_singleton.1 h]; exact hsv
  exact key _ 0 L rfl (Nat.zero_le _) hi hL hSv
theorem implSieves : ∃ r, Found c x r ∧ impl_Category_sieves c x = some (match r with | some L => (L, true) | none => ([], false)) := by
  have hm := H.m
  have key : ∀ (d i : Nat) (L : List (List Int)), 17 - i = d → BInv (outS c x) (stepS c) 16 [] i L →
      (∃ L', Finds (outS c x) (stepS c) [] L' ∧ L'.length ≤ 16 ∧ ∃ z, loopM (fun s => impl_Category_sieves_L0 c x s.1 s.2) (L, (i : Int)) = some (.exit 0 (L', z))) ∨
      (Many (outS c x) (stepS c) 16 [] ∧ loopM (fun s => impl_Category_sieves_L0 c x s.1 s.2) (L, (i : Int)) = some (.ret ([], false))) := by
    intro d
    induction d with
    | zero => intro i L hd hB; have := hB.idx; have := hB.len; omega
    | succ d ih =>
      intro i L hd hB
      have hlen := hB.len
      have hidx := hB.idx
      by_cases hi : i < L.length
      · have hs : L[i]? = some L[i] := List.getElem?_eq_getElem hi
        have hSv : ∀ t ∈ L, Sv c x t := fun t ht => reach_sv H (hB.reach t ht)
        have hb : impl_Category_sieves_L0 c x L (i : Int) = match bfsRow (stepS c) 16 L[i] (outS c x) L with | some L' => some (.norm (L', ((i + 1 : Nat) : Int))) | none => some (.ret ([], false)) := by
          unfold impl_Category_sieves_L0
          rw [decT (by omega), cond_true, implOut (by omega), some_bind', sieves_row H (hSv _ (List.getElem_mem hi)) L hs hlen hSv]
          cases bfsRow (stepS c) 16 L[i] (outS c x) L with
          | none => rfl
          | some L' => dsimp only; rw [w64_nat (by omega)]
        cases hr : bfsRow (stepS c) 16 L[i] (outS c x) L with
        | none =>
          rw [hr] at hb
          exact .inr ⟨hB.many hs hr, loopM_ret hb⟩
        | some L' =>
          rw [hr] at hb
          rw [loopM_eq]
          dsimp only
          rw [hb]
          exact ih (i + 1) L' (by omega) (hB.next hs hr)
      · refine .inl ⟨L, hB.finds (by omega), hlen, (i : Int), loopM_exit ?_⟩
        show impl_Category_sieves_L0 c x L (i : Int) = _
        unfold impl_Category_sieves_L0
        rw [decF (by omega), cond_false]
  unfold impl_Category_sieves
  rcases key 17 0 [[]] rfl (BInv.base (by omega)) with ⟨L, h1, h2, z, h3⟩ | ⟨h1, h2⟩
  · refine ⟨_, .few L h1 h2, ?_⟩
    have h3' : loopM (fun s => impl_Category_sieves_L0 c x s.1 s.2) ([([] : List Int)], (0 : Int)) = some (.exit 0 (L, z)) := h3
    rw [lb_exit h3']
    have hsv : ∀ t ∈ L, Sv c x t := fun t ht => reach_sv H ((h1.mem t).1 ht)
    have hs : sortM_impl_Category_sieves_2 L = some (L.mergeSort lexLe) := by
      unfold sortM_impl_Category_sieves_2
      rw [if_pos]
      refine ⟨fun h => ?_, by omega, fun a ha b hb => ?_⟩
      · have := (h1.mem []).2 .base; rw [h] at this; cases this
      · unfold impl_Category_sieves_2
        have := (hsv a ha).len
        rw [implCompare a b (by omega), some_bind']; rfl
    dsimp only
    rw [hs, some_bind']; rfl
  · refine ⟨_, .many h1, ?_⟩
    have h2' : loopM (fun s => impl_Category_sieves_L0 c x s.1 s.2) ([([] : List Int)], (0 : Int)) = some (.ret ([], false)) := h2
    rw [lb_ret h2']; rfl
end
end Go.Proofs.YtbedkejmebepcaaGreat
