/- What the law's own words on data reckon: sizes, copies, equality, marks. No condition beside those that each theorem names. -/
import Derived.Test.YtcmckiiafgcmjaaGreatPa
import Derived.Test.YtcmckiiafgcmjaaGreatMo
namespace Go.Proofs.YtcmckiiafgcmjaaGreat
open Go Go.Li

-- sizes
theorem szS (x : List Int) {k : Int} (h0 : 0 ≤ k) (h1 : k ≤ 1048576) (hx : x.length ≤ 9223372036854775807) :
    laws_szInt64S x k = some (if (x.length : Int) ≤ k then k - x.length else -1) := by
  unfold laws_szInt64S
  rw [w64_id (by omega) (by omega)]
  by_cases h : (x.length : Int) ≤ k
  · rw [decF (by omega), cond_false, if_pos h]; rfl
  · rw [decT (by omega), cond_true, if_neg h]; rfl
/-- all elements of the rows, counted -/
def tot (xs : List (List Int)) : Nat := (xs.map (·.length)).sum
theorem tot_cons (x : List Int) (xs : List (List Int)) : tot (x :: xs) = x.length + tot xs := by simp [tot]
theorem tot_take {xs : List (List Int)} {i : Nat} {x : List Int} (h : xs[i]? = some x) : tot (xs.take (i + 1)) = tot (xs.take i) + x.length := by
  rw [take_succ_get h]; simp [tot]
theorem tot_take_le (xs : List (List Int)) (i : Nat) : tot (xs.take i) ≤ tot xs := by
  have : tot (xs.take i ++ xs.drop i) = tot (xs.take i) + tot (xs.drop i) := by unfold tot; rw [List.map_append, List.sum_append]
  rw [List.take_append_drop] at this
  omega
theorem szSS (xs : List (List Int)) {k : Int} (h0 : 0 ≤ k) (h1 : k ≤ 1048576) (hx : xs.length ≤ 9223372036854775807) (hr : ∀ x ∈ xs, x.length ≤ 9223372036854775807) :
    laws_szInt64SS xs k = some (if ((xs.length + tot xs : Nat) : Int) ≤ k then k - (xs.length + tot xs : Nat) else -1) := by
  unfold laws_szInt64SS
  rw [w64_id (by omega) (by omega)]
  by_cases h : (xs.length : Int) ≤ k
  · rw [decF (by omega), cond_false]
    -- rows, one behind the other, until the room is used up
    have key : ∀ (m : Nat) (i : Nat), xs.length - i = m → i ≤ xs.length → (xs.length + tot (xs.take i) : Nat) ≤ k →
        loopM (fun s => laws_szInt64SS_L0 xs s.1 s.2) (k - (xs.length + tot (xs.take i) : Nat), (i : Int)) =
          some (if ((xs.length + tot xs : Nat) : Int) ≤ k then .exit 0 (k - (xs.length + tot xs : Nat), (xs.length : Int)) else .ret (-1)) := by
      intro m
      induction m with
      | zero =>
        intro i hm hi hk
        obtain rfl : i = xs.length := by omega
        rw [List.take_length] at hk ⊢
        rw [if_pos (by omega)]
        refine loopM_exit ?_
        show laws_szInt64SS_L0 xs _ _ = _
        unfold laws_szInt64SS_L0
        rw [decF (by omega), cond_false]
      | succ m ih =>
        intro i hm hi hk
        have hlt : i < xs.length := by omega
        have hxi : xs[i]? = some xs[i] := List.getElem?_eq_getElem hlt
        have ht := tot_take hxi
        have hle := tot_take_le xs (i + 1)
        have hrow := hr xs[i] (List.getElem_mem hlt)
        rw [loopM_eq]
        have e : laws_szInt64SS_L0 xs (k - (xs.length + tot (xs.take i) : Nat)) (i : Int) =
            if ((xs.length + tot (xs.take (i + 1)) : Nat) : Int) ≤ k then some (.norm (k - (xs.length + tot (xs.take (i + 1)) : Nat), ((i + 1 : Nat) : Int))) else some (.ret (-1)) := by
          unfold laws_szInt64SS_L0
          rw [decT (by omega), cond_true, idx_nat, hxi, some_bind', szS _ (by omega) (by omega) hrow, some_bind']
          by_cases hc : ((xs[i].length : Nat) : Int) ≤ k - (xs.length + tot (xs.take i) : Nat)
          · rw [if_pos hc, decF (by omega), cond_false, w64_nat (by omega), if_pos (by omega)]
            congr 3
            omega
          · rw [if_neg hc, decT (by omega), cond_true, if_neg (by omega)]
        dsimp only
        rw [e]
        by_cases hc : ((xs.length + tot (xs.take (i + 1)) : Nat) : Int) ≤ k
        · rw [if_pos hc]
          exact ih (i + 1) (by omega) (by omega) hc
        · rw [if_neg hc]
          dsimp only
          rw [if_neg (by omega)]
    have h0' := key xs.length 0 (by omega) (by omega) (by simp [tot]; omega)
    simp only [List.take_zero] at h0'
    have e0 : tot [] = 0 := rfl
    rw [e0, Nat.add_zero, Int.natCast_zero] at h0'
    by_cases hc : ((xs.length + tot xs : Nat) : Int) ≤ k
    · rw [if_pos hc] at h0' ⊢
      rw [lb_exit h0']; rfl
    · rw [if_neg hc] at h0' ⊢
      rw [lb_ret h0']; rfl
  · rw [decT (by omega), cond_true, if_neg (by omega)]; rfl

/-- the size of a category -/
def catSize (c : MCategory) : Nat := c.From.length + c.To.length + c.Identity.length + (c.Composites.length + tot c.Composites)
/-- lists no longer than a machine holds -/
structure CatLens (c : MCategory) : Prop where
  f : c.From.length ≤ 9223372036854775807
  t : c.To.length ≤ 9223372036854775807
  i : c.Identity.length ≤ 9223372036854775807
  k : c.Composites.length ≤ 9223372036854775807
  r : ∀ x ∈ c.Composites, x.length ≤ 9223372036854775807
theorem szCatK {c : MCategory} {k : Int} (k0 : 0 ≤ k) (k1 : k ≤ 1048576) (hl : CatLens c) : laws_szCategory c k = some (if (catSize c : Int) ≤ k then k - catSize c else -1) := by
  unfold laws_szCategory
  obtain ⟨h1, h2, h3, h4, h5⟩ := hl
  rw [szS c.From (by omega) (by omega) h1, some_bind']
  by_cases c1 : (c.From.length : Int) ≤ k
  · rw [if_pos c1, decF (by omega), cond_false, szS c.To (by omega) (by omega) h2, some_bind']
    by_cases c2 : (c.To.length : Int) ≤ k - c.From.length
    · rw [if_pos c2, decF (by omega), cond_false, szS c.Identity (by omega) (by omega) h3, some_bind']
      by_cases c3 : (c.Identity.length : Int) ≤ k - c.From.length - c.To.length
      · rw [if_pos c3, decF (by omega), cond_false, szSS c.Composites (by omega) (by omega) h4 h5, some_bind']
        by_cases c4 : ((c.Composites.length + tot c.Composites : Nat) : Int) ≤ k - c.From.length - c.To.length - c.Identity.length
        · rw [if_pos c4, decF (by omega), cond_false, if_pos (by unfold catSize; omega)]
          show some _ = _
          congr 1
          unfold catSize; omega
        · rw [if_neg c4, decT (by omega), cond_true, if_neg (by unfold catSize; omega)]; rfl
      · rw [if_neg c3, decT (by omega), cond_true, if_neg (by unfold catSize; omega)]; rfl
    · rw [if_neg c2, decT (by omega), cond_true, if_neg (by unfold catSize; omega)]; rfl
  · rw [if_neg c1, decT (by omega), cond_true, if_neg (by unfold catSize; omega)]; rfl
theorem szCat {c : MCategory} (hl : CatLens c) : laws_szCategory c 1048576 = some (if (catSize c : Int) ≤ 1048576 then (1048576 : Int) - catSize c else -1) := szCatK (by omega) (by omega) hl

-- copies
theorem set_copy {α : Type} (x : List α) (z : α) {i : Nat} {v : α} (h : x[i]? = some v) :
    (x.take i ++ List.replicate (x.length - i) z).set i v = x.take (i + 1) ++ List.replicate (x.length - (i + 1)) z := by
  have hi := getElem?_lt h
  rw [take_succ_get h]
  have e : x.length - i = (x.length - (i + 1)) + 1 := by omega
  rw [List.set_append_right _ _ (by simp; omega), e, List.replicate_succ]
  simp only [List.length_take]
  rw [show i - min i x.length = 0 by omega]
  simp
theorem get_copy {α : Type} (x : List α) (z : α) {i : Nat} {v : α} (h : x[i]? = some v) : (x.take i ++ List.replicate (x.length - i) z)[i]? = some z := by
  have hi := getElem?_lt h
  rw [List.getElem?_append_right (by simp; omega)]
  simp only [List.length_take]
  rw [show i - min i x.length = 0 by omega, List.getElem?_replicate, if_pos (by omega)]
theorem toS (x : List Int) (h : x.length ≤ 1048576) : laws_toInt64S x = some x := by
  unfold laws_toInt64S
  rw [mk_ok (by omega) (by omega), some_bind']
  refine (congrArg retM (for_all x (fun i => ((i : Int), x.take i ++ List.replicate (x.length - i) (0 : Int))) rfl ?_ (e := ((x.length : Int), x)) ?_)).trans rfl
  · intro i v hv
    have hi := getElem?_lt hv
    show laws_toInt64S_L0 x _ _ = _
    unfold laws_toInt64S_L0
    rw [decT (by omega), cond_true, idx_nat, hv, some_bind', idx_nat, get_copy x 0 hv, some_bind', w64_nat (by omega), Int.toNat_natCast, set_copy x 0 hv]
  · show laws_toInt64S_L0 x _ _ = _
    unfold laws_toInt64S_L0
    rw [decF (by omega), cond_false]; simp
theorem toSS (x : List (List Int)) (h : x.length ≤ 1048576) (hr : ∀ y ∈ x, y.length ≤ 1048576) : laws_toInt64SS x = some x := by
  unfold laws_toInt64SS
  rw [mk_ok (by omega) (by omega), some_bind']
  refine (congrArg retM (for_all x (fun i => ((i : Int), x.take i ++ List.replicate (x.length - i) [])) rfl ?_ (e := ((x.length : Int), x)) ?_)).trans rfl
  · intro i v hv
    have hi := getElem?_lt hv
    show laws_toInt64SS_L0 x _ _ = _
    unfold laws_toInt64SS_L0
    rw [decT (by omega), cond_true, idx_nat, hv, some_bind', toS v (hr v (List.mem_of_getElem? hv)), some_bind', idx_nat, get_copy x [] hv, some_bind', w64_nat (by omega), Int.toNat_natCast, set_copy x [] hv]
  · show laws_toInt64SS_L0 x _ _ = _
    unfold laws_toInt64SS_L0
    rw [decF (by omega), cond_false]; simp
theorem toCat {c : MCategory} (h : catSize c ≤ 1048576) : laws_toCategory c = some c := by
  have hr : ∀ y ∈ c.Composites, y.length ≤ tot c.Composites := fun y hy => by
    obtain ⟨i, hi, rfl⟩ := List.getElem_of_mem hy
    have := tot_take (List.getElem?_eq_getElem hi)
    have := tot_take_le c.Composites (i + 1)
    omega
  unfold catSize at h
  unfold laws_toCategory
  rw [toS _ (by omega), some_bind', toS _ (by omega), some_bind', toS _ (by omega), some_bind', toSS _ (by omega) (fun y hy => by have := hr y hy; omega), some_bind']
  rfl

-- equality
theorem any_ne_eq : ∀ {x y : List Int}, x.length = y.length → (((x.zip y).any fun p => p.1 != p.2) = !(x == y)) := by
  intro x
  induction x with
  | nil => intro y h; cases y with | nil => rfl | cons => simp at h
  | cons a x ih =>
    intro y h
    cases y with
    | nil => simp at h
    | cons b y =>
      have := ih (y := y) (by simpa using h)
      rw [List.zip_cons_cons, List.any_cons, this]
      by_cases hab : a = b <;> simp [hab, bne]
theorem zip_get {α β : Type} {x : List α} {y : List β} {i : Nat} {p : α × β} (h : (x.zip y)[i]? = some p) : x[i]? = some p.1 ∧ y[i]? = some p.2 := by
  rw [List.getElem?_zip_eq_some] at h; exact h
theorem eqS (x y : List Int) (hx : x.length ≤ 1048576000) : laws_eqInt64S x y = some (x == y) := by
  unfold laws_eqInt64S
  by_cases hl : x.length = y.length
  · rw [show (((x.length : Int)) != ((y.length : Int))) = false by simp [hl], cond_false]
    have hz : (x.zip y).length = x.length := by simp [hl]
    refine (congrArg retM (for_anyb (x.zip y) (fun p => p.1 != p.2) (fun i => (i : Int)) rfl ?_ ?_ (e := (x.length : Int)) (y := false) ?_)).trans ?_
    · intro i p hp hq
      obtain ⟨h1, h2⟩ := zip_get hp
      have hi := getElem?_lt h1
      unfold laws_eqInt64S_L0
      rw [decT (by omega), cond_true, idx_nat, h1, some_bind', idx_nat, h2, some_bind', hq, cond_false, w64_nat (by omega)]
    · intro i p hp hq
      obtain ⟨h1, h2⟩ := zip_get hp
      have hi := getElem?_lt h1
      unfold laws_eqInt64S_L0
      rw [decT (by omega), cond_true, idx_nat, h1, some_bind', idx_nat, h2, some_bind', hq, cond_true]
    · unfold laws_eqInt64S_L0
      rw [decF (by omega), cond_false, hz]
    · rw [any_ne_eq hl]
      cases x == y <;> rfl
  · rw [show (((x.length : Int)) != ((y.length : Int))) = true by simp; omega, cond_true]
    have : (x == y) = false := by
      apply Bool.eq_false_iff.2
      intro h
      exact hl (by rw [eq_of_beq h])
    rw [this]; rfl
/-- rows held against each other, by what holds elements against each other -/
theorem any_ne_rows {α : Type} [BEq α] [LawfulBEq α] : ∀ {x y : List α}, x.length = y.length → (((x.zip y).any fun p => !(p.1 == p.2)) = !(x == y)) := by
  intro x
  induction x with
  | nil => intro y h; cases y with | nil => rfl | cons => simp at h
  | cons a x ih =>
    intro y h
    cases y with
    | nil => simp at h
    | cons b y =>
      have := ih (y := y) (by simpa using h)
      rw [List.zip_cons_cons, List.any_cons, this]
      by_cases hab : a = b <;> simp [hab]
theorem beq_len {α : Type} [BEq α] [LawfulBEq α] {x y : List α} (h : x.length ≠ y.length) : (x == y) = false := by
  apply Bool.eq_false_iff.2
  intro e
  exact h (by rw [eq_of_beq e])
theorem eqSS (x y : List (List Int)) (hx : x.length ≤ 1048576000) (hr : ∀ z ∈ x, z.length ≤ 1048576000) : laws_eqInt64SS x y = some (x == y) := by
  unfold laws_eqInt64SS
  by_cases hl : x.length = y.length
  · rw [show (((x.length : Int)) != ((y.length : Int))) = false by simp [hl], cond_false]
    have hz : (x.zip y).length = x.length := by simp [hl]
    refine (congrArg retM (for_anyb (x.zip y) (fun p => !(p.1 == p.2)) (fun i => (i : Int)) rfl ?_ ?_ (e := (x.length : Int)) (y := false) ?_)).trans ?_
    · intro i p hp hq
      obtain ⟨h1, h2⟩ := zip_get hp
      have hi := getElem?_lt h1
      unfold laws_eqInt64SS_L0
      rw [decT (by omega), cond_true, idx_nat, h1, some_bind', idx_nat, h2, some_bind', eqS _ _ (hr _ (List.mem_of_getElem? h1)), some_bind', hq, cond_false, w64_nat (by omega)]
    · intro i p hp hq
      obtain ⟨h1, h2⟩ := zip_get hp
      have hi := getElem?_lt h1
      unfold laws_eqInt64SS_L0
      rw [decT (by omega), cond_true, idx_nat, h1, some_bind', idx_nat, h2, some_bind', eqS _ _ (hr _ (List.mem_of_getElem? h1)), some_bind', hq, cond_true]
    · unfold laws_eqInt64SS_L0
      rw [decF (by omega), cond_false, hz]
    · rw [any_ne_rows hl]
      cases x == y <;> rfl
  · rw [show (((x.length : Int)) != ((y.length : Int))) = true by simp; omega, cond_true, beq_len hl]; rfl
theorem eqSSS (x y : List (List (List Int))) (hx : x.length ≤ 1048576000) (hr : ∀ z ∈ x, z.length ≤ 1048576000 ∧ ∀ u ∈ z, u.length ≤ 1048576000) : laws_eqInt64SSS x y = some (x == y) := by
  unfold laws_eqInt64SSS
  by_cases hl : x.length = y.length
  · rw [show (((x.length : Int)) != ((y.length : Int))) = false by simp [hl], cond_false]
    have hz : (x.zip y).length = x.length := by simp [hl]
    refine (congrArg retM (for_anyb (x.zip y) (fun p => !(p.1 == p.2)) (fun i => (i : Int)) rfl ?_ ?_ (e := (x.length : Int)) (y := false) ?_)).trans ?_
    · intro i p hp hq
      obtain ⟨h1, h2⟩ := zip_get hp
      have hi := getElem?_lt h1
      have hh := hr _ (List.mem_of_getElem? h1)
      unfold laws_eqInt64SSS_L0
      rw [decT (by omega), cond_true, idx_nat, h1, some_bind', idx_nat, h2, some_bind', eqSS _ _ hh.1 hh.2, some_bind', hq, cond_false, w64_nat (by omega)]
    · intro i p hp hq
      obtain ⟨h1, h2⟩ := zip_get hp
      have hi := getElem?_lt h1
      have hh := hr _ (List.mem_of_getElem? h1)
      unfold laws_eqInt64SSS_L0
      rw [decT (by omega), cond_true, idx_nat, h1, some_bind', idx_nat, h2, some_bind', eqSS _ _ hh.1 hh.2, some_bind', hq, cond_true]
    · unfold laws_eqInt64SSS_L0
      rw [decF (by omega), cond_false, hz]
    · rw [any_ne_rows hl]
      cases x == y <;> rfl
  · rw [show (((x.length : Int)) != ((y.length : Int))) = true by simp; omega, cond_true, beq_len hl]; rfl
/-- a category that is small enough to be reckoned with -/
structure CatSmall (c : MCategory) : Prop where
  f : c.From.length ≤ 1048576
  t : c.To.length ≤ 1048576
  i : c.Identity.length ≤ 1048576
  k : c.Composites.length ≤ 1048576
  r : ∀ x ∈ c.Composites, x.length ≤ 1048576
theorem eqCat_self {c : MCategory} (h : CatSmall c) : laws_eqCategory c c = some true := by
  unfold laws_eqCategory
  obtain ⟨h1, h2, h3, h4, h5⟩ := h
  rw [show (c.Objects != c.Objects) = false by simp, cond_false, eqS _ _ (by omega), some_bind', eqS _ _ (by omega), some_bind', eqS _ _ (by omega), some_bind', eqSS _ _ (by omega) (fun z hz => by have := h5 z hz; omega), some_bind']
  simp only [beq_self_eq_true, Bool.not_true, cond_false]
  rfl
/-- a topology that is small enough to be reckoned with -/
structure TopSmall (t : MTopology) : Prop where
  c : CatSmall t.Shape
  k : t.Covers.length ≤ 1048576
  r : ∀ x ∈ t.Covers, x.length ≤ 1048576 ∧ ∀ y ∈ x, y.length ≤ 1048576
theorem eqTop_self {t : MTopology} (h : TopSmall t) : laws_eqTopology t t = some true := by
  unfold laws_eqTopology
  rw [eqCat_self h.c, some_bind', eqSSS _ _ (by have := h.k; omega) (fun z hz => by have := h.r z hz; exact ⟨by omega, fun u hu => by have := this.2 u hu; omega⟩), some_bind']
  simp only [beq_self_eq_true, Bool.not_true, cond_false]
  rfl
end Go.Proofs.YtcmckiiafgcmjaaGreat
