/- Lists held against each other, found in lists, sorted; sieves pulled back. No condition beside those that each theorem names. -/
import Derived.Test.YtcmckiiafgcmjaaGreatPh
namespace Go.Li
open Go
theorem lb_step {S S1 R : Type} {k : Nat} {body : S1 → Option (Out S1 R)} {f : S1 → Option (Out S R)} {s s' : S1} (h : body s = some (.norm s')) : lbind (blockM k (loopM body s)) f = lbind (blockM k (loopM body s')) f := by
  rw [loopM_eq, h]
theorem lb_end {S S1 R : Type} {k : Nat} {body : S1 → Option (Out S1 R)} {f : S1 → Option (Out S R)} {s e : S1} (h : body s = some (.exit k e)) : lbind (blockM k (loopM body s)) f = f e := lb_exit (loopM_exit h)
theorem lb_out {S S1 R : Type} {k : Nat} {body : S1 → Option (Out S1 R)} {f : S1 → Option (Out S R)} {s : S1} {y : R} (h : body s = some (.ret y)) : lbind (blockM k (loopM body s)) f = some (.ret y) := lb_ret (loopM_ret h)
/-- the first place where p holds, from number i on; else -1 -/
def ixF {α : Type} (p : α → Bool) : List α → Nat → Int
  | [], _ => -1
  | x :: l, i => if p x then (i : Int) else ixF p l (i + 1)
theorem ixF_none {α : Type} {p : α → Bool} {l : List α} {i : Nat} (h : ∀ x ∈ l, p x = false) : ixF p l i = -1 := by
  induction l generalizing i with
  | nil => rfl
  | cons x l ih => unfold ixF; rw [h x (by simp), if_neg (by simp)]; exact ih fun y hy => h y (by simp [hy])
theorem ixF_some {α : Type} {p : α → Bool} {l : List α} {i : Nat} (h : ∃ x ∈ l, p x = true) : ∃ j x, ixF p l i = ((i + j : Nat) : Int) ∧ l[j]? = some x ∧ p x = true := by
  induction l generalizing i with
  | nil => obtain ⟨x, hx, _⟩ := h; cases hx
  | cons x l ih =>
    unfold ixF
    by_cases hp : p x = true
    · exact ⟨0, x, by rw [if_pos hp]; rfl, rfl, hp⟩
    · rw [if_neg hp]
      obtain ⟨y, hy, hpy⟩ := h
      rcases List.mem_cons.1 hy with rfl | hy
      · exact absurd hpy hp
      · obtain ⟨j, z, h1, h2, h3⟩ := ih (i := i + 1) ⟨y, hy, hpy⟩
        exact ⟨j + 1, z, by rw [h1]; congr 1; omega, h2, h3⟩
end Go.Li
namespace Go.Proofs.YtcmckiiafgcmjaaGreat
open Go Go.Li
set_option linter.unusedSectionVars false

theorem implCompare (x y : List Int) (hx : x.length ≤ 1048576000) : impl_compare x y = some (lexCmp x y) := by
  have key : ∀ (m i : Nat), x.length - i = m → i ≤ x.length → i ≤ y.length →
      retM (S := Unit) (lbind (blockM 0 (loopM (impl_compare_L0 x y) (i : Int))) (fun s0_8 => (bif decide ((x.length : Int) < (y.length : Int)) then (some (Out.ret (((-1 : Int))))) else (some (Out.ret (((0 : Int)))))))) = some (lexCmp (x.drop i) (y.drop i)) := by
    intro m
    induction m with
    | zero =>
      intro i hm hi hy
      obtain rfl : i = x.length := by omega
      rw [lb_end (e := (x.length : Int)) (by unfold impl_compare_L0; rw [decF (by omega), cond_false]), List.drop_length]
      by_cases h : x.length < y.length
      · rw [decT (by omega), cond_true, List.drop_eq_getElem_cons h]; rfl
      · rw [decF (by omega), cond_false, List.drop_eq_nil_of_le (by omega)]; rfl
    | succ m ih =>
      intro i hm hi hy
      have hxi : x[i]? = some (x[i]'(by omega)) := List.getElem?_eq_getElem (by omega)
      rw [List.drop_eq_getElem_cons (show i < x.length by omega)]
      by_cases h : i = y.length
      · rw [List.drop_eq_nil_of_le (show y.length ≤ i by omega), lb_out (y := 1) (by unfold impl_compare_L0; rw [decT (by omega), cond_true, beqT (by omega), cond_true])]; rfl
      · have hyi : y[i]? = some (y[i]'(by omega)) := List.getElem?_eq_getElem (by omega)
        rw [List.drop_eq_getElem_cons (show i < y.length by omega)]
        unfold lexCmp
        by_cases e : x[i]'(by omega) = y[i]'(by omega)
        · rw [if_pos e, lb_step (s' := ((i + 1 : Nat) : Int)) (by unfold impl_compare_L0; rw [decT (by omega), cond_true, beqF (by omega), cond_false, idx_nat, hxi, some_bind', idx_nat, hyi, some_bind', bneF e, cond_false, w64_nat (by omega)])]
          exact ih (i + 1) (by omega) (by omega) (by omega)
        · rw [if_neg e]
          by_cases l : x[i]'(by omega) < y[i]'(by omega)
          · rw [if_pos l, lb_out (y := -1) (by unfold impl_compare_L0; rw [decT (by omega), cond_true, beqF (by omega), cond_false, idx_nat, hxi, some_bind', idx_nat, hyi, some_bind', bneT e, cond_true, some_bind', some_bind', decT l, cond_true])]; rfl
          · rw [if_neg l, lb_out (y := 1) (by unfold impl_compare_L0; rw [decT (by omega), cond_true, beqF (by omega), cond_false, idx_nat, hxi, some_bind', idx_nat, hyi, some_bind', bneT e, cond_true, some_bind', some_bind', decF l, cond_false])]; rfl
  exact key x.length 0 rfl (Nat.zero_le _) (Nat.zero_le _)
theorem implSame (x y : List Int) (hx : x.length ≤ 1048576000) : impl_same x y = some (x == y) := by
  unfold impl_same
  rw [implCompare x y hx, some_bind']
  show some (lexCmp x y == 0) = _
  congr 1
  rw [Bool.eq_iff_iff]
  simp only [beq_iff_eq]
  exact ⟨lex_zero, fun h => by rw [h]; exact lex_refl y⟩
theorem specLess (x y : List Int) (hx : x.length ≤ 1048576000) : spec_l01Less x y = some (lexLt x y) := by
  have key : ∀ (m i : Nat), x.length - i = m → i ≤ x.length → i ≤ y.length →
      retM (S := Unit) (lbind (blockM 0 (loopM (spec_l01Less_L0 x y) (i : Int))) (fun s0_5 => (some (Out.ret ((decide ((x.length : Int) < (y.length : Int)))))))) = some (lexLt (x.drop i) (y.drop i)) := by
    intro m
    induction m with
    | zero =>
      intro i hm hi hy
      obtain rfl : i = x.length := by omega
      rw [lb_end (e := (x.length : Int)) (by unfold spec_l01Less_L0; rw [decF (by omega), cond_false, some_bind', cond_false]), List.drop_length]
      by_cases h : x.length < y.length
      · rw [decT (by omega), List.drop_eq_getElem_cons h]; rfl
      · rw [decF (by omega), List.drop_eq_nil_of_le (by omega)]; rfl
    | succ m ih =>
      intro i hm hi hy
      have hxi : x[i]? = some (x[i]'(by omega)) := List.getElem?_eq_getElem (by omega)
      rw [List.drop_eq_getElem_cons (show i < x.length by omega)]
      by_cases h : i = y.length
      · rw [List.drop_eq_nil_of_le (show y.length ≤ i by omega), lb_end (e := (i : Int)) (by unfold spec_l01Less_L0; rw [decT (by omega), cond_true, decF (by omega), some_bind', cond_false]), decF (by omega)]; rfl
      · have hyi : y[i]? = some (y[i]'(by omega)) := List.getElem?_eq_getElem (by omega)
        rw [List.drop_eq_getElem_cons (show i < y.length by omega)]
        unfold lexLt lexCmp
        by_cases e : x[i]'(by omega) = y[i]'(by omega)
        · rw [if_pos e, lb_step (s' := ((i + 1 : Nat) : Int)) (by unfold spec_l01Less_L0; rw [decT (by omega), cond_true, decT (by omega), some_bind', cond_true, idx_nat, hxi, some_bind', idx_nat, hyi, some_bind', bneF e, cond_false, w64_nat (by omega)])]
          exact ih (i + 1) (by omega) (by omega) (by omega)
        · rw [if_neg e]
          by_cases l : x[i]'(by omega) < y[i]'(by omega)
          · rw [if_pos l, lb_out (y := true) (by unfold spec_l01Less_L0; rw [decT (by omega), cond_true, decT (by omega), some_bind', cond_true, idx_nat, hxi, some_bind', idx_nat, hyi, some_bind', bneT e, cond_true, some_bind', some_bind', decT l])]; rfl
          · rw [if_neg l, lb_out (y := false) (by unfold spec_l01Less_L0; rw [decT (by omega), cond_true, decT (by omega), some_bind', cond_true, idx_nat, hxi, some_bind', idx_nat, hyi, some_bind', bneT e, cond_true, some_bind', some_bind', decF l])]; rfl
  exact key x.length 0 rfl (Nat.zero_le _) (Nat.zero_le _)
theorem specSame (x y : List Int) (hx : x.length ≤ 1048576000) : spec_l01Same x y = some (x == y) := eqS x y hx
/-- the place of a list among lists -/
def placeS (l : List (List Int)) (s : List Int) : Int := ixF (fun y => y == s) l 0
theorem specPlace (l : List (List Int)) (s : List Int) (hl : l.length ≤ 1048576000) (hr : ∀ y ∈ l, y.length ≤ 1048576000) : spec_l05Place l s = some (placeS l s) := by
  have key : ∀ (m : List (List Int)) (i : Nat), l.drop i = m → i ≤ l.length →
      retM (S := Unit) (lbind (blockM 0 (loopM (spec_l05Place_L0 l s) (i : Int))) (fun s0_5 => (some (Out.ret (((-1 : Int))))))) = some (ixF (fun y => y == s) m i) := by
    intro m
    induction m with
    | nil =>
      intro i hd hi
      have : i = l.length := by have := congrArg List.length hd; simp at this; omega
      subst this
      rw [lb_end (e := (l.length : Int)) (by unfold spec_l05Place_L0; rw [decF (by omega), cond_false])]; rfl
    | cons x m ih =>
      intro i hd hi
      have hlt : i < l.length := by
        rcases Nat.lt_or_ge i l.length with h | h
        · exact h
        · rw [List.drop_eq_nil_of_le h] at hd; cases hd
      rw [List.drop_eq_getElem_cons hlt] at hd
      have hx : l[i]? = some x := by rw [List.getElem?_eq_getElem hlt]; exact congrArg some (List.cons.inj hd).1
      have hs := specSame x s (hr x (List.mem_of_getElem? hx))
      unfold ixF
      cases e : x == s with
      | true =>
        rw [if_pos rfl, lb_out (y := (i : Int)) (by unfold spec_l05Place_L0; rw [decT (by omega), cond_true, idx_nat, hx, some_bind', hs, some_bind', e, cond_true])]; rfl
      | false =>
        rw [if_neg (by simp), lb_step (s' := ((i + 1 : Nat) : Int)) (by unfold spec_l05Place_L0; rw [decT (by omega), cond_true, idx_nat, hx, some_bind', hs, some_bind', e, cond_false, w64_nat (by omega)])]
        exact ih (i + 1) (List.cons.inj hd).2 hlt
  exact key l 0 rfl (Nat.zero_le _)
theorem indexFunc {l : List (List Int)} {p : List Int → Option Bool} {q : List Int → Bool} (hl : l.length ≤ 1048576000) (hp : ∀ y ∈ l, p y = some (q y)) : slices_IndexFunc___impl_sieve_impl_sieve_ l p = some (ixF q l 0) := by
  have key : ∀ (m : List (List Int)) (i : Nat), l.drop i = m → i ≤ l.length →
      retM (S := Unit) (lbind (blockM 0 (loopM (slices_IndexFunc___impl_sieve_impl_sieve__L0 l p) (i : Int))) (fun s0_5 => (some (Out.ret (((-1 : Int))))))) = some (ixF q m i) := by
    intro m
    induction m with
    | nil =>
      intro i hd hi
      have : i = l.length := by have := congrArg List.length hd; simp at this; omega
      subst this
      rw [lb_end (e := (l.length : Int)) (by unfold slices_IndexFunc___impl_sieve_impl_sieve__L0; rw [decF (by omega), cond_false])]; rfl
    | cons x m ih =>
      intro i hd hi
      have hlt : i < l.length := by
        rcases Nat.lt_or_ge i l.length with h | h
        · exact h
        · rw [List.drop_eq_nil_of_le h] at hd; cases hd
      rw [List.drop_eq_getElem_cons hlt] at hd
      have hx : l[i]? = some x := by rw [List.getElem?_eq_getElem hlt]; exact congrArg some (List.cons.inj hd).1
      have hs := hp x (List.mem_of_getElem? hx)
      unfold ixF
      cases e : q x with
      | true =>
        rw [if_pos rfl, lb_out (y := (i : Int)) (by unfold slices_IndexFunc___impl_sieve_impl_sieve__L0; rw [decT (by omega), cond_true, idx_nat, hx, some_bind', hs, some_bind', e, cond_true])]; rfl
      | false =>
        rw [if_neg (by simp), lb_step (s' := ((i + 1 : Nat) : Int)) (by unfold slices_IndexFunc___impl_sieve_impl_sieve__L0; rw [decT (by omega), cond_true, idx_nat, hx, some_bind', hs, some_bind', e, cond_false, w64_nat (by omega)])]
        exact ih (i + 1) (List.cons.inj hd).2 hlt
  exact key l 0 rfl (Nat.zero_le _)
theorem containsFunc {l : List (List Int)} {p : List Int → Option Bool} {q : List Int → Bool} (hl : l.length ≤ 1048576000) (hp : ∀ y ∈ l, p y = some (q y)) : slices_ContainsFunc___impl_sieve_impl_sieve_ l p = some (l.any q) := by
  unfold slices_ContainsFunc___impl_sieve_impl_sieve_
  rw [indexFunc hl hp, some_bind']
  show some (decide (ixF q l 0 ≥ 0)) = _
  congr 1
  cases h : l.any q with
  | true =>
    obtain ⟨x, hx, hq⟩ := List.any_eq_true.1 h
    obtain ⟨j, z, h1, _⟩ := ixF_some (i := 0) ⟨x, hx, hq⟩
    rw [h1]; exact decT (by omega)
  | false =>
    rw [ixF_none fun x hx => by simpa using (List.any_eq_false.1 h) x hx]; rfl

/-- a sieve pulled along an arrow -/
def pullS (c : MCategory) (a : Int) (s : List Int) : List Int := (outS c (gi c.To a)).filter fun b => hasB s (gk c.Composites a b)
theorem implPull {c : MCategory} (H : Shape c) {a : Int} (h0 : 0 ≤ a) (h1 : a < c.From.length) (s : List Int) (hs : s.length ≤ 1048576000) : impl_Category_pull c a s = some (pullS c a s) := by
  have hm := H.m
  have hol := outS_len c (gi c.To a)
  unfold impl_Category_pull
  rw [H.idxT h0 h1, some_bind', implOut (by omega), some_bind']
  refine (congrArg retM (fold_loop (outS c (gi c.To a)) (fun acc b => if hasB s (gk c.Composites a b) then acc ++ [b] else acc) (fun i acc => acc.length ≤ i) (fun acc i => (acc, (i : Int))) [] rfl (Nat.le_refl _) ?_ ?_ ?_)).trans ?_
  · intro i b acc _ hacc
    split
    · rw [List.length_append, List.length_singleton]; omega
    · omega
  · intro i b acc hb hacc
    have hi := getElem?_lt hb
    have hbm := outS_mem.1 (List.mem_of_getElem? hb)
    show impl_Category_pull_L0 c a s (outS c (gi c.To a)) acc i = _
    unfold impl_Category_pull_L0
    rw [decT (by omega), cond_true, idx_nat, hb, some_bind', H.thenI h0 h1 hbm.1.1 hbm.1.2, some_bind', implHas _ _ hs, some_bind', w64_nat (by omega)]
    cases h : hasB s (gk c.Composites a b) with
    | true => rw [cond_true, fits_ok (by omega) (by omega), some_bind']; rfl
    | false => rw [cond_false]; rfl
  · intro acc _
    show impl_Category_pull_L0 c a s (outS c (gi c.To a)) acc _ = _
    unfold impl_Category_pull_L0
    rw [decF (by omega), cond_false]
  · rw [foldl_id_filter]; rfl
theorem specPull {c : MCategory} (H : Shape c) {a : Int} (h0 : 0 ≤ a) (h1 : a < c.From.length) (s : List Int) (hs : s.length ≤ 1048576000) : spec_l25Pull c a s = some (pullS c a s) := by
  have hm := H.m
  unfold spec_l25Pull
  refine (congrArg retM (fold_loop (ns c.From.length) (fun acc b => if (gi c.From b == gi c.To a) && hasB s (gk c.Composites a b) then acc ++ [b] else acc) (fun i acc => acc.length ≤ i) (fun acc i => (acc, (i : Int))) [] rfl (Nat.le_refl _) ?_ ?_ ?_)).trans ?_
  · intro i b acc _ hacc
    split
    · rw [List.length_append, List.length_singleton]; omega
    · omega
  · intro i b acc hb hacc
    obtain ⟨rfl, hi⟩ := ns_get hb
    show spec_l25Pull_L0 c a s acc i = _
    unfold spec_l25Pull_L0
    rw [decT (by omega), cond_true, H.idxT h0 h1, some_bind', H.idxF (by omega) (by omega), some_bind', w64_nat (by omega)]
    by_cases e : gi c.To a = gi c.From i
    · rw [beqT e, cond_true, H.thenS h0 h1 (by omega) (by omega), some_bind', specHas _ _ hs, some_bind', some_bind', beqT e.symm, Bool.true_and]
      cases h : hasB s (gk c.Composites a i) with
      | true => rw [cond_true, fits_ok (by omega) (by omega), some_bind']; rfl
      | false => rw [cond_false]; rfl
    · rw [beqF e, cond_false, some_bind', cond_false, beqF (fun h => e h.symm), Bool.false_and]; rfl
  · intro acc _
    show spec_l25Pull_L0 c a s acc _ = _
    unfold spec_l25Pull_L0
    rw [ns_length, decF (by omega), cond_false]
  · rw [foldl_id_filter]
    unfold pullS outS
    rw [List.filter_filter]
    show some _ = some _
    congr 1
    apply List.filter_congr
    intro b _
    exact Bool.and_comm _ _

/-- one element is put to its place -/
theorem insertInto (v : List Int) (hv : v.length ≤ 1048576000) : ∀ (n : Nat) (a b : List (List Int)), a.length = n → n ≤ 1048576000 →
    ∃ a' d, a = a' ++ d ∧ loopM (fun s => spec_l25Sorted_L1 s.1 s.2) ((a.length : Int), a ++ v :: b) = some (.exit 2 ((a'.length : Int), a' ++ v :: (d ++ b))) ∧ (∀ y ∈ d, lexLt v y = true) ∧ (∀ a0 u, a' = a0 ++ [u] → lexLt v u = false) := by
  intro n
  induction n with
  | zero =>
    intro a b ha _
    obtain rfl : a = [] := List.length_eq_zero_iff.1 ha
    refine ⟨[], [], rfl, ?_, (fun _ h => nomatch h), fun a0 u h => by simp at h⟩
    refine loopM_exit ?_
    show spec_l25Sorted_L1 _ _ = _
    unfold spec_l25Sorted_L1
    rw [decF (by simp), cond_false, some_bind', cond_false]
    rfl
  | succ n ih =>
    intro a b ha hn
    obtain ⟨a0, u, rfl⟩ : ∃ a0 u, a = a0 ++ [u] := by
      rcases List.eq_nil_or_concat a with rfl | ⟨a0, u, h⟩
      · simp at ha
      · exact ⟨a0, u, by simpa using h⟩
    have hl : a0.length = n := by simp at ha; omega
    have e1 : ((a0 ++ [u]) ++ v :: b)[a0.length + 1]? = some v := by
      rw [List.getElem?_append_right (by simp)]; simp
    have e2 : ((a0 ++ [u]) ++ v :: b)[a0.length]? = some u := by
      rw [List.append_assoc, List.getElem?_append_right (Nat.le_refl _), Nat.sub_self]; rfl
    have hk : (((a0 ++ [u]).length : Nat) : Int) = ((a0.length + 1 : Nat) : Int) := by simp
    have hw : w64 (((a0.length + 1 : Nat) : Int) - 1) = (a0.length : Int) := by rw [w64_id (by omega) (by omega)]; omega
    cases hlt : lexLt v u with
    | true =>
      obtain ⟨a', d, h1, h2, h3, h4⟩ := ih a0 (u :: b) hl (by omega)
      refine ⟨a', d ++ [u], by rw [h1, List.append_assoc], ?_, fun y hy => ?_, h4⟩
      · rw [loopM_eq]
        have e : spec_l25Sorted_L1 (((a0 ++ [u]).length : Nat) : Int) ((a0 ++ [u]) ++ v :: b) = some (.norm ((a0.length : Int), a0 ++ v :: (u :: b))) := by
          unfold spec_l25Sorted_L1
          rw [hk, decT (by omega), cond_true, hw, idx_nat, e1, some_bind', idx_nat, e2, some_bind', specLess v u hv, hlt, some_bind', some_bind', cond_true, some_bind', some_bind', some_bind', Int.toNat_natCast, idx_nat]
          have e3 : ((a0 ++ [u]) ++ v :: b).set (a0.length + 1) u = a0 ++ u :: u :: b := by
            rw [List.set_append_right _ _ (by simp)]; simp
          rw [e3, List.getElem?_append_right (Nat.le_refl _), Nat.sub_self]
          show some _ = _
          rw [Int.toNat_natCast, List.set_append_right _ _ (Nat.le_refl _), Nat.sub_self]
          rfl
        dsimp only
        rw [e]
        dsimp only
        rw [h2]
        simp
      · rcases List.mem_append.1 hy with h | h
        · exact h3 y h
        · rw [List.mem_singleton.1 h]; exact hlt
    | false =>
      refine ⟨a0 ++ [u], [], by simp, ?_, fun _ h => (nomatch h), fun a1 w h => ?_⟩
      · refine loopM_exit ?_
        show spec_l25Sorted_L1 (((a0 ++ [u]).length : Nat) : Int) ((a0 ++ [u]) ++ v :: b) = _
        unfold spec_l25Sorted_L1
        rw [hk, decT (by omega), cond_true, hw, idx_nat, e1, some_bind', idx_nat, e2, some_bind', specLess v u hv, hlt, some_bind', some_bind', cond_false]
        rfl
      · have := List.append_inj' h rfl
        rw [← (List.cons.inj this.2).1]; exact hlt
theorem specSorted (x : List (List Int)) (hx : x.length ≤ 1048576) (hr : ∀ y ∈ x, y.length ≤ 1048576000) : spec_l25Sorted x = some (x.mergeSort lexLe) := by
  have key : ∀ (m : Nat) (p r : List (List Int)), r.length = m → (p ++ r).Perm x → p.Pairwise (fun a b => lexLe a b = true) →
      ∃ l, loopM (fun s => spec_l25Sorted_L0 s.1 s.2) ((p.length : Int), p ++ r) = some (.exit 0 ((l.length : Int), l)) ∧ l.Perm x ∧ l.Pairwise (fun a b => lexLe a b = true) := by
    intro m
    induction m with
    | zero =>
      intro p r hr0 hp hs
      obtain rfl : r = [] := List.length_eq_zero_iff.1 hr0
      rw [List.append_nil] at hp ⊢
      refine ⟨p, loopM_exit ?_, hp, hs⟩
      show spec_l25Sorted_L0 (p.length : Int) p = _
      unfold spec_l25Sorted_L0
      rw [decF (by omega), cond_false]
    | succ m ih =>
      intro p r hr0 hp hs
      obtain ⟨v, r, rfl⟩ : ∃ v r', r = v :: r' := by cases r with | nil => simp at hr0 | cons v r => exact ⟨v, r, rfl⟩
      have hlen := hp.length_eq
      simp only [List.length_append, List.length_cons] at hlen
      have hv : v.length ≤ 1048576000 := hr v (hp.mem_iff.1 (by simp))
      obtain ⟨a', d, h1, h2, h3, h4⟩ := insertInto v hv p.length p r rfl (by omega)
      have e : spec_l25Sorted_L0 (p.length : Int) (p ++ v :: r) = some (.norm (((a' ++ v :: d).length : Int), (a' ++ v :: d) ++ r)) := by
        unfold spec_l25Sorted_L0
        rw [decT (by simp; omega), cond_true, lb_exit h2]
        dsimp only
        rw [w64_nat (by omega)]
        have : (a' ++ v :: d).length = p.length + 1 := by rw [h1]; simp; omega
        rw [this]; simp
      rw [loopM_eq]
      dsimp only
      rw [e]
      refine ih (a' ++ v :: d) r (by simpa using hr0) ?_ ?_
      · refine List.Perm.trans ?_ hp
        rw [h1, List.append_assoc, List.append_assoc, List.cons_append]
        refine List.Perm.append_left a' ?_
        exact List.perm_middle.symm
      · rw [h1] at hs
        rw [List.pairwise_append] at hs ⊢
        obtain ⟨s1, s2, s3⟩ := hs
        have hle : ∀ y ∈ a', lexLe y v = true := by
          intro y hy
          rcases List.eq_nil_or_concat a' with h | ⟨a0, u, h⟩
          · rw [h] at hy; cases hy
          · have h' : a' = a0 ++ [u] := by simpa using h
            have hu : lexLe u v = true := by unfold lexLe; rw [h4 a0 u h']; rfl
            rw [h'] at hy s1
            rcases List.mem_append.1 hy with q | q
            · exact lexLe_trans y u v ((List.pairwise_append.1 s1).2.2 y q u (by simp)) hu
            · rw [List.mem_singleton.1 q]; exact hu
        have hge : ∀ y ∈ d, lexLe v y = true := fun y hy => by
          unfold lexLe
          cases h : lexLt y v with
          | false => rfl
          | true => have := lexLt_trans h (h3 y hy); rw [lexLt_irrefl] at this; cases this
        refine ⟨s1, List.pairwise_cons.2 ⟨hge, s2⟩, fun y hy z hz => ?_⟩
        rcases List.mem_cons.1 hz with rfl | hz
        · exact hle y hy
        · exact s3 y hy z hz
  unfold spec_l25Sorted
  rw [fits_ok (by simp; omega) (by simp; omega), some_bind', List.nil_append]
  have fin : ∀ l : List (List Int), l.Perm x → l.Pairwise (fun a b => lexLe a b = true) → l = x.mergeSort lexLe := fun l h1 h2 =>
    List.Perm.eq_of_pairwise (le := fun a b => lexLe a b = true) (fun a b _ _ h1 h2 => lexLe_anti h1 h2) h2 (List.pairwise_mergeSort lexLe_trans lexLe_total x) (h1.trans (List.mergeSort_perm x lexLe).symm)
  cases x with
  | nil =>
    rw [lb_end (e := ((1 : Int), [])) (by unfold spec_l25Sorted_L0; rw [decF (by simp), cond_false])]
    show some [] = _
    rw [← fin [] (List.Perm.refl _) List.Pairwise.nil]
  | cons v r =>
    obtain ⟨l, h1, h2, h3⟩ := key r.length [v] r rfl (List.Perm.refl _) (by simp)
    have h1' : loopM (fun s => spec_l25Sorted_L0 s.1 s.2) ((1 : Int), v :: r) = some (.exit 0 ((l.length : Int), l)) := h1
    rw [lb_exit h1', fin l h2 h3]
    rfl
end Go.Proofs.YtcmckiiafgcmjaaGreat
