/- The reference and the program close marks alike. No condition beside those that each theorem names. -/
import Derived.Test.YtcmckiiafgcmjaaGreatRh
import Derived.Test.YtcmckiiafgcmjaaGreatRi
namespace Go.Proofs.YtcmckiiafgcmjaaGreat
open Go Go.Li

theorem loop_norm {S R : Type} {body : S → Option (Out S R)} {s s' : S} (h : body s = some (.norm s')) : loopM body s = loopM body s' := by rw [loopM_eq, h]
/-- the least closed marks that hold p -/
structure Least (c : MCategory) (ls : List (List (List Int))) (p r : Int → List Int → Bool) : Prop where
  closed : Closed c ls r
  le : Le ls p r
  least : ∀ q, Closed c ls q → Le ls p q → Le ls r q
theorem Least.marks {c : MCategory} {ls : List (List (List Int))} {p q r : Int → List Int → Bool} (h : Least c ls p q) (g : Least c ls p r) : marksP ls q = marksP ls r := Le.anti (h.least r g.closed g.le) (g.least q h.closed h.le)
section
variable {c : MCategory} {ls : List (List (List Int))} (T : Tab c ls)
include T
theorem specSpread : ∀ (k : Nat) (p : Int → List Int → Bool), 128 ≤ cnt ls p + k → ∃ r, Least c ls p r ∧ loopM (R := List (List Bool)) (spec_l27Spread_L0 (TB c ls)) (marksP ls p) = some (.exit 0 (marksP ls r)) := by
  intro k
  have go : ∀ p : Int → List Int → Bool, (∀ x s, (0 ≤ x ∧ x < (ls.length : Int)) → s ∈ gl ls x → p x s = false → ∃ r, Least c ls (put p x s) r ∧ loopM (R := List (List Bool)) (spec_l27Spread_L0 (TB c ls)) (marksP ls (put p x s)) = some (.exit 0 (marksP ls r))) →
      ∃ r, Least c ls p r ∧ loopM (R := List (List Bool)) (spec_l27Spread_L0 (TB c ls)) (marksP ls p) = some (.exit 0 (marksP ls r)) := by
    intro p ih
    obtain ⟨y, hy, h⟩ := specStep T (p := p)
    rcases h with ⟨ho, rfl⟩ | ⟨ho, h1, x, s, hx, hs, hp, hf, h2⟩
    · refine ⟨p, ⟨(closed_iff T).1 ho, Le.rfl', fun _ _ h => h⟩, loopM_exit ?_⟩
      unfold spec_l27Spread_L0
      rw [hy, some_bind']; rfl
    · obtain ⟨r, g1, g2⟩ := ih x s hx hs hp
      refine ⟨r, ⟨g1.closed, Le.put.tr g1.le, fun q hq hl => g1.least q hq (put_le hl (hf q ((closed_iff T).2 hq) hl))⟩, ?_⟩
      rw [loopM_eq]
      have : spec_l27Spread_L0 (TB c ls) (marksP ls p) = some (.norm (marksP ls (put p x s))) := by
        unfold spec_l27Spread_L0
        rw [hy, some_bind', h1, cond_true, h2]
      rw [this]; exact g2
  induction k with
  | zero =>
    intro p hk
    refine go p fun x s hx hs hp => ?_
    have h1 := cnt_put hx.1 hx.2 hs hp
    have h2 := cnt_le T (put p x s)
    omega
  | succ k ih =>
    intro p hk
    refine go p fun x s hx hs hp => ih _ ?_
    have h1 := cnt_put hx.1 hx.2 hs hp
    omega
theorem specSpread' (p : Int → List Int → Bool) : ∃ r, Least c ls p r ∧ spec_l27Spread (TB c ls) (marksP ls p) = some (marksP ls r) := by
  obtain ⟨r, h1, h2⟩ := specSpread T 128 p (by omega)
  refine ⟨r, h1, ?_⟩
  unfold spec_l27Spread
  exact (congrArg finM (lb_exit h2)).trans rfl
theorem implCloseL (k0 : MCoverage) (hk1 : k0.Classifier = (KK c ls (fun _ _ => false) 0).Classifier) (hk2 : k0.C = c) : ∀ (k : Nat) (q : Int → List Int → Bool) (n b : Int), 0 ≤ n → n ≤ (cnt ls q : Int) → 128 ≤ n + k → b ≠ n →
    ∃ r m, Least c ls q r ∧ loopM (R := List (List Bool) × Int) (fun s : Int × Int × List (List Bool) => impl_coverage_close_L0 k0 s.1 s.2.1 s.2.2) (b, n, marksP ls q) = some (.exit 0 (m, m, marksP ls r)) := by
  intro k
  induction k with
  | zero =>
    intro q n b h0 hn hk hb
    obtain ⟨q', n', h1, R, h2⟩ := pass T h0 hn
    have hc := cnt_le T q'
    have hg := R.ge
    have hcn := R.cn
    have e : n' = n := by omega
    subst e
    have hc' := h2 rfl
    refine ⟨q', n', ⟨hc', R.le, R.forced⟩, ?_⟩
    have : impl_coverage_close_L0 k0 b n' (marksP ls q) = some (.norm (n', n', marksP ls q')) := by
      unfold impl_coverage_close_L0
      rw [hk1, hk2]
      show (bif b != n' then (some n' >>= fun y35 => (impl_coverage_follows_close (KK c ls q n') >>= _)) else _) = _
      rw [bneT hb, cond_true, some_bind', h1, some_bind']
    refine (loop_norm (s := (b, n', marksP ls q)) this).trans (loopM_exit ?_)
    show impl_coverage_close_L0 k0 n' n' (marksP ls q') = _
    unfold impl_coverage_close_L0
    show (bif n' != n' then _ else _) = _
    rw [bneF rfl, cond_false]
  | succ k ih =>
    intro q n b h0 hn hk hb
    obtain ⟨q', n', h1, R, h2⟩ := pass T h0 hn
    have hg := R.ge
    have hcn := R.cn
    have this : impl_coverage_close_L0 k0 b n (marksP ls q) = some (.norm (n, n', marksP ls q')) := by
      unfold impl_coverage_close_L0
      rw [hk1, hk2]
      show (bif b != n then (some n >>= fun y35 => (impl_coverage_follows_close (KK c ls q n) >>= _)) else _) = _
      rw [bneT hb, cond_true, some_bind', h1, some_bind']
    by_cases e : n' = n
    · subst e
      have hc' := h2 rfl
      refine ⟨q', n', ⟨hc', R.le, R.forced⟩, ?_⟩
      refine (loop_norm (s := (b, n', marksP ls q)) this).trans (loopM_exit ?_)
      show impl_coverage_close_L0 k0 n' n' (marksP ls q') = _
      unfold impl_coverage_close_L0
      show (bif n' != n' then _ else _) = _
      rw [bneF rfl, cond_false]
    · obtain ⟨r, m, g1, g2⟩ := ih q' n' n (by omega) hcn (by omega) (fun h => e h.symm)
      refine ⟨r, m, ⟨g1.closed, R.le.tr g1.le, fun z hz hl => g1.least z hz (R.forced z hz hl)⟩, ?_⟩
      exact (loop_norm (s := (b, n, marksP ls q)) this).trans g2
theorem implCloseL' {p : Int → List Int → Bool} {n : Int} (h0 : 0 ≤ n) (hn : n ≤ (cnt ls p : Int)) : ∃ r m, Least c ls p r ∧ impl_coverage_close (KK c ls p n) = some (marksP ls r, m) := by
  obtain ⟨r, m, h1, h2⟩ := implCloseL T (KK c ls p n) rfl rfl 128 p n (-1) h0 hn (by omega) (by omega)
  refine ⟨r, m, h1, ?_⟩
  unfold impl_coverage_close
  exact (congrArg retM (lb_exit h2)).trans rfl
end

/-- a sum of bounded sizes -/
theorem sizeR_le {α : Type} {size : α → Nat} {xs : List α} {B : Nat} (h : ∀ x ∈ xs, size x ≤ B) : sizeR size xs ≤ xs.length * B := by
  unfold sizeR
  induction xs with
  | nil => simp
  | cons x xs ih =>
    have h1 := h x (by simp)
    have h2 := ih fun y hy => h y (by simp [hy])
    rw [List.map_cons, List.sum_cons, List.length_cons, Nat.succ_mul]; omega
/-- the empty topology -/
def topZ : MTopology := MTopology.mk (MCategory.mk (0 : Int) [] [] [] []) []
theorem topZ_small : TopSmall topZ ∧ topCells topZ ≤ 4611686018427387000 :=
  ⟨⟨⟨Nat.zero_le _, Nat.zero_le _, Nat.zero_le _, Nat.zero_le _, fun _ h => nomatch h⟩, Nat.zero_le _, fun _ h => nomatch h⟩, Nat.zero_le _⟩
theorem cov_small {c : MCategory} {ls : List (List (List Int))} (T : Tab c ls) {q : Int → List Int → Bool} (hc : catSize c ≤ 1048576) :
    TopSmall (MTopology.mk c (covP ls q)) ∧ topCells (MTopology.mk c (covP ls q)) ≤ 4611686018427387000 := by
  have h8 := T.len8
  have hl : (covP ls q).length = ls.length := mapI_length _ _
  have hr : ∀ r ∈ covP ls q, r.length ≤ 16 ∧ ∀ s ∈ r, s.length ≤ 40 := fun r hr => by
    obtain ⟨x, ⟨h0, h1⟩, rfl⟩ := mapI_mem.1 hr
    exact ⟨Nat.le_trans (List.length_filter_le _ _) (T.l16 h0 h1), fun s hs => T.s40 h0 h1 (List.mem_filter.1 hs).1⟩
  refine ⟨⟨catSmall_of hc, by show (covP ls q).length ≤ _; omega, fun r hx => ⟨by have := (hr r hx).1; omega, fun s hs => by have := (hr r hx).2 s hs; omega⟩⟩, ?_⟩
  have h3 : s3 (covP ls q) ≤ (covP ls q).length * (16 * 40) := sizeR_le fun r hx => Nat.le_trans (sizeR_le (B := 40) fun s hs => by rw [s1_eq]; exact (hr r hx).2 s hs) (Nat.mul_le_mul_right _ (hr r hx).1)
  have h4 : (covP ls q).length * (16 * 40) ≤ 8 * (16 * 40) := Nat.mul_le_mul_right _ (by omega)
  show c.From.length + c.To.length + c.Identity.length + s2 c.Composites + s3 (covP ls q) ≤ _
  rw [s2_eq]
  unfold catSize at hc
  omega
end Go.Proofs.YtcmckiiafgcmjaaGreat
