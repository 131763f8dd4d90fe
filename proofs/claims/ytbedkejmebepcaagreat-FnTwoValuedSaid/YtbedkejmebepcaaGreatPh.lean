/- Lists of arrows and sieves: what the reference's and the program's small functions reckon. No condition beside those that each theorem names. -/
import Derived.Test.YtbedkejmebepcaaGreatPe
namespace Go.Li
open Go
section
variable {S S1 R α σ β : Type} {body : S1 → Option (Out S1 R)}
/-- a loop over a list that carries a state -/
theorem fold_loop {k : Nat} {f : S1 → Option (Out S R)} {s0' : S1} (l : List α) (g : σ → α → σ) (I : Nat → σ → Prop) (pk : σ → Nat → S1) (s0 : σ) (e0 : pk s0 0 = s0') (h0 : I 0 s0)
    (hI : ∀ i x s, l[i]? = some x → I i s → I (i + 1) (g s x)) (step : ∀ i x s, l[i]? = some x → I i s → body (pk s i) = some (.norm (pk (g s x) (i + 1)))) (last : ∀ s, I l.length s → body (pk s l.length) = some (.exit k (pk s l.length))) :
    lbind (blockM k (loopM body s0')) f = f (pk (l.foldl g s0) l.length) := by
  have hh : ∀ i, i ≤ l.length → I i ((l.take i).foldl g s0) := by
    intro i
    induction i with
    | zero => intro _; exact h0
    | succ i ih =>
      intro hi
      have hx : l[i]? = some l[i] := List.getElem?_eq_getElem (by omega)
      rw [take_succ_get hx, List.foldl_append]
      exact hI i _ _ hx (ih (by omega))
  refine for_all l (fun i => pk ((l.take i).foldl g s0) i) (by simpa using e0) ?_ ?_
  · intro i x hx
    have hi := getElem?_lt hx
    rw [step i x _ hx (hh i (by omega)), take_succ_get hx, List.foldl_append]; rfl
  · rw [last _ (hh _ (Nat.le_refl _)), List.take_length]
theorem foldl_filter (p : α → Bool) (h : α → β) (l : List α) (acc : List β) : l.foldl (fun a x => if p x then a ++ [h x] else a) acc = acc ++ (l.filter p).map h := by
  induction l generalizing acc with
  | nil => simp
  | cons x l ih => by_cases hp : p x = true <;> simp [hp, ih]
theorem foldl_map' (h : α → β) (l : List α) (acc : List β) : l.foldl (fun a x => a ++ [h x]) acc = acc ++ l.map h := by
  induction l generalizing acc with
  | nil => simp
  | cons x l ih => simp [ih]
/-- marks laid along a list -/
def setAll (q : α → Bool) (t : α → Int) (M : List Bool) (l : List α) : List Bool := l.foldl (fun M x => if q x then M.set (t x).toNat true else M) M
theorem setAll_length (q : α → Bool) (t : α → Int) (l : List α) (M : List Bool) : (setAll q t M l).length = M.length := by
  unfold setAll
  induction l generalizing M with
  | nil => rfl
  | cons x l ih =>
    rw [List.foldl_cons, ih]
    split <;> simp
theorem setAll_get (q : α → Bool) (t : α → Int) (l : List α) (M : List Bool) {a : Nat} (ha : a < M.length) : (setAll q t M l).getD a false = (M.getD a false || l.any fun x => q x && (t x).toNat == a) := by
  unfold setAll
  induction l generalizing M with
  | nil => simp
  | cons x l ih =>
    rw [List.foldl_cons, ih _ (by split <;> simp [ha])]
    rw [List.any_cons]
    by_cases hq : q x = true
    · rw [if_pos hq, hq, Bool.true_and, ← Bool.or_assoc]
      congr 1
      simp only [List.getD_eq_getElem?_getD, List.getElem?_set]
      by_cases e : (t x).toNat = a
      · subst e; simp [ha]
      · rw [if_neg e]; simp [e]
    · rw [if_neg hq, Bool.eq_false_iff.2 hq, Bool.false_and, Bool.false_or]
end
theorem any_filter' {α : Type} (l : List α) (p q : α → Bool) : (l.filter p).any q = l.any fun x => p x && q x := by
  induction l with
  | nil => rfl
  | cons a l ih => by_cases hp : p a = true <;> simp [hp, ih]
theorem ns_filter_nodup {n : Nat} {p : Int → Bool} : ((ns n).filter p).Nodup := by
  show List.Pairwise (· ≠ ·) _
  refine List.Pairwise.filter _ ?_
  unfold ns
  rw [List.pairwise_map]
  exact (List.nodup_range (n := n)).imp fun h e => h (Int.ofNat.inj e)
end Go.Li
namespace Go.Proofs.YtbedkejmebepcaaGreat
open Go Go.Li
set_option linter.unusedSectionVars false

def outS (c : MCategory) (x : Int) : List Int := (ns c.From.length).filter fun a => gi c.From a == x
theorem outS_mem {c : MCategory} {x a : Int} : a ∈ outS c x ↔ (0 ≤ a ∧ a < c.From.length) ∧ gi c.From a = x := by
  unfold outS; rw [List.mem_filter, ns_mem]; simp
theorem outS_len (c : MCategory) (x : Int) : (outS c x).length ≤ c.From.length := by
  unfold outS; exact Nat.le_trans (List.length_filter_le _ _) (by rw [ns_length]; exact Nat.le_refl _)

theorem foldl_id_filter (p : Int → Bool) (l : List Int) : l.foldl (fun a x => if p x then a ++ [x] else a) [] = l.filter p := by
  have := foldl_filter p (fun x : Int => x) l []
  simpa using this
theorem specOut {c : MCategory} (hm : c.From.length ≤ 1048576) (x : Int) : spec_l25Out c x = some (outS c x) := by
  unfold spec_l25Out
  refine (congrArg retM (fold_loop (ns c.From.length) (fun acc a => if gi c.From a == x then acc ++ [a] else acc) (fun i acc => acc.length ≤ i) (fun acc i => (acc, (i : Int))) [] rfl (Nat.le_refl _) ?_ ?_ ?_)).trans ?_
  · intro i a s _ hs; by_cases h : (gi c.From a == x) = true <;> simp [h] <;> omega
  · intro i a s ha hs
    obtain ⟨rfl, hi⟩ := ns_get ha
    show spec_l25Out_L0 c x s i = _
    unfold spec_l25Out_L0
    rw [decT (by omega), cond_true, idx_gi (by omega) (by omega), some_bind', w64_nat (by omega)]
    cases h : (gi c.From (i : Int) == x) with
    | true => rw [cond_true, fits_ok (by omega) (by omega), some_bind']; rfl
    | false => rw [cond_false]; rfl
  · intro s _
    show spec_l25Out_L0 c x s _ = _
    unfold spec_l25Out_L0
    rw [ns_length, decF (by omega), cond_false]
  · rw [foldl_id_filter]; rfl
theorem implOut {c : MCategory} (hm : c.From.length ≤ 1048576) (x : Int) : impl_Category_outOf c x = some (outS c x) := by
  unfold impl_Category_outOf
  refine (congrArg retM (fold_loop (ns c.From.length) (fun acc a => if gi c.From a == x then acc ++ [a] else acc) (fun i acc => acc.length ≤ i) (fun acc i => (acc, (i : Int))) [] rfl (Nat.le_refl _) ?_ ?_ ?_)).trans ?_
  · intro i a s _ hs; by_cases h : (gi c.From a == x) = true <;> simp [h] <;> omega
  · intro i a s ha hs
    obtain ⟨rfl, hi⟩ := ns_get ha
    show impl_Category_outOf_L0 c x s i = _
    unfold impl_Category_outOf_L0
    rw [decT (by omega), cond_true, idx_gi (by omega) (by omega), some_bind', w64_nat (by omega)]
    cases h : (gi c.From (i : Int) == x) with
    | true => rw [cond_true, fits_ok (by omega) (by omega), some_bind']; rfl
    | false => rw [cond_false]; rfl
  · intro s _
    show impl_Category_outOf_L0 c x s _ = _
    unfold impl_Category_outOf_L0
    rw [ns_length, decF (by omega), cond_false]
  · rw [foldl_id_filter]; rfl
/-- a list has a number -/
def hasB (l : List Int) (n : Int) : Bool := l.any fun y => y == n
theorem hasB_iff {l : List Int} {n : Int} : hasB l n = true ↔ n ∈ l := by unfold hasB; simp
theorem implHas (l : List Int) (n : Int) (hl : l.length ≤ 1048576000) : impl_has l n = some (hasB l n) := by
  unfold impl_has
  refine (congrArg retM (for_anyb l (fun y => y == n) (fun i => (i : Int)) rfl ?_ ?_ (e := (l.length : Int)) (y := true) ?_)).trans ?_
  · intro i x hx hp
    have hi := getElem?_lt hx
    unfold impl_has_L0
    rw [decT (by omega), cond_true, idx_nat, hx, some_bind', hp, cond_false, w64_nat (by omega)]
  · intro i x hx hp
    have hi := getElem?_lt hx
    unfold impl_has_L0
    rw [decT (by omega), cond_true, idx_nat, hx, some_bind', hp, cond_true]
  · unfold impl_has_L0; rw [decF (by omega), cond_false]
  · show retM (if hasB l n = true then _ else _) = _
    cases hasB l n <;> rfl

/-- the places of the marks -/
def markedS (M : List Bool) : List Int := (ns M.length).filter fun a => M.getD a.toNat false
theorem idx_bool {M : List Bool} {i : Nat} (h : i < M.length) : idx M (i : Int) = some (M.getD i false) := by
  rw [idx_nat, List.getElem?_eq_getElem h, List.getD_eq_getElem?_getD, List.getElem?_eq_getElem h]; rfl
theorem implMarked (M : List Bool) (hm : M.length ≤ 1048576) : impl_marked M = some (markedS M) := by
  unfold impl_marked
  refine (congrArg retM (fold_loop (ns M.length) (fun acc a => if M.getD a.toNat false then acc ++ [a] else acc) (fun i acc => acc.length ≤ i) (fun acc i => (acc, (i : Int))) [] rfl (Nat.le_refl _) ?_ ?_ ?_)).trans ?_
  · intro i a s _ hs; by_cases h : M.getD a.toNat false = true <;> simp only [h, if_true, if_false, List.length_append, List.length_singleton, Bool.false_eq_true] <;> omega
  · intro i a s ha hs
    obtain ⟨rfl, hi⟩ := ns_get ha
    show impl_marked_L0 M s i = _
    unfold impl_marked_L0
    rw [decT (by omega), cond_true, idx_bool hi, some_bind', w64_nat (by omega), Int.toNat_natCast]
    cases h : M.getD i false with
    | true => rw [cond_true, fits_ok (by omega) (by omega), some_bind']; rfl
    | false => rw [cond_false]; rfl
  · intro s _
    show impl_marked_L0 M s _ = _
    unfold impl_marked_L0
    rw [ns_length, decF (by omega), cond_false]
  · rw [foldl_id_filter]; rfl

/-- arrows of a table -/
def Arr (c : MCategory) (l : List Int) : Prop := ∀ a ∈ l, 0 ≤ a ∧ a < c.From.length
/-- what follows some arrows -/
def clP (c : MCategory) (A : List Int) (a : Int) : Bool := A.any fun x => (ns c.From.length).any fun b => (gi c.To x == gi c.From b) && gk c.Composites x b == a
def closeS (c : MCategory) (A : List Int) : List Int := (ns c.From.length).filter (clP c A)
/-- the marks behind an arrow -/
def inS1 (c : MCategory) (x : Int) (M : List Bool) : List Bool := setAll (fun b => gi c.To x == gi c.From b) (fun b => gk c.Composites x b) M (ns c.From.length)
def inS2 (c : MCategory) (A : List Int) (M : List Bool) : List Bool := A.foldl (fun M x => inS1 c x M) M
theorem inS1_length (c : MCategory) (x : Int) (M : List Bool) : (inS1 c x M).length = M.length := setAll_length _ _ _ _
theorem inS2_length (c : MCategory) (A : List Int) (M : List Bool) : (inS2 c A M).length = M.length := by
  unfold inS2
  induction A generalizing M with
  | nil => rfl
  | cons x A ih => rw [List.foldl_cons, ih, inS1_length]
theorem inS2_get {c : MCategory} (H : Shape c) {A : List Int} (hA : Arr c A) (M : List Bool) (hM : M.length = c.From.length) {a : Int} (h0 : 0 ≤ a) (h1 : a < c.From.length) :
    (inS2 c A M).getD a.toNat false = (M.getD a.toNat false || clP c A a) := by
  unfold inS2 clP
  induction A generalizing M with
  | nil => simp
  | cons x A ih =>
    rw [List.foldl_cons, ih (fun y hy => hA y (by simp [hy])) _ (by rw [inS1_length, hM]), List.any_cons, ← Bool.or_assoc]
    congr 1
    unfold inS1
    rw [setAll_get _ _ _ _ (by omega)]
    congr 1
    have hx := hA x (by simp)
    rw [Bool.eq_iff_iff]
    simp only [List.any_eq_true, Bool.and_eq_true, beq_iff_eq]
    constructor
    · rintro ⟨b, hb, e1, e2⟩
      have hb' := ns_mem.1 hb
      have := H.cell x b hx.1 hx.2 hb'.1 hb'.2 e1
      exact ⟨b, hb, e1, by omega⟩
    · rintro ⟨b, hb, e1, e2⟩
      exact ⟨b, hb, e1, by rw [e2]⟩
theorem marked_close {c : MCategory} (H : Shape c) {A : List Int} (hA : Arr c A) : markedS (inS2 c A (List.replicate c.From.length false)) = closeS c A := by
  unfold markedS closeS
  rw [inS2_length, List.length_replicate]
  apply List.filter_congr
  intro a ha
  have := ns_mem.1 ha
  rw [inS2_get H hA _ (by simp) this.1 this.2]
  have e : (List.replicate c.From.length false).getD a.toNat false = false := by
    rw [List.getD_eq_getElem?_getD, List.getElem?_replicate]; split <;> rfl
  rw [e, Bool.false_or]
theorem specClose {c : MCategory} (H : Shape c) {A : List Int} (hA : Arr c A) (hl : A.length ≤ 1048576) : spec_l25Close c A = some (closeS c A) := by
  have hm := H.m
  unfold spec_l25Close
  rw [mk_ok (by omega) (by omega), some_bind']
  refine (congrArg retM (fold_loop A (fun M x => inS1 c x M) (fun _ M => M.length = c.From.length) (fun M i => ((i : Int), M)) (List.replicate c.From.length false) rfl (by simp) ?_ ?_ ?_)).trans ?_
  · intro i x s _ hs; rw [inS1_length, hs]
  · intro i x s hx hs
    have hi := getElem?_lt hx
    have hxa := hA x (List.mem_of_getElem? hx)
    show spec_l25Close_L0 c A i s = _
    unfold spec_l25Close_L0
    rw [decT (by omega), cond_true]
    refine (fold_loop (ns c.From.length) (fun M b => if gi c.To x == gi c.From b then M.set (gk c.Composites x b).toNat true else M) (fun _ M => M.length = c.From.length) (fun M j => ((j : Int), M)) s rfl hs ?_ ?_ ?_).trans ?_
    · intro j b M _ hM; split <;> simp [hM]
    · intro j b M hb hM
      obtain ⟨rfl, hj⟩ := ns_get hb
      show spec_l25Close_L1 c A i j M = _
      unfold spec_l25Close_L1
      rw [decT (by omega), cond_true, idx_nat, hx, some_bind', H.idxT hxa.1 hxa.2, some_bind', H.idxF (by omega) (by omega), some_bind', w64_nat (by omega)]
      cases e : (gi c.To x == gi c.From (j : Int)) with
      | false => rw [cond_false]; rfl
      | true =>
        have e' : gi c.To x = gi c.From j := by simpa using e
        have hc := H.cell x j hxa.1 hxa.2 (by omega) (by omega) e'
        rw [cond_true, some_bind', H.thenS hxa.1 hxa.2 (by omega) (by omega), some_bind', idx_lt hc.1 (by rw [hM]; exact hc.2.1), some_bind']
        rfl
    · intro M hM
      show spec_l25Close_L1 c A i _ M = _
      unfold spec_l25Close_L1
      rw [ns_length, decF (by omega), cond_false]
    · dsimp only
      rw [w64_nat (by omega)]
      rfl
  · intro s _
    show spec_l25Close_L0 c A _ s = _
    unfold spec_l25Close_L0
    rw [decF (by omega), cond_false]
  · dsimp only
    have hlen : (inS2 c A (List.replicate c.From.length false)).length = c.From.length := by rw [inS2_length]; simp
    rw [← marked_close H hA]
    show retM (lbind (blockM 4 (loopM (fun s => spec_l25Close_L2 (inS2 c A (List.replicate c.From.length false)) s.1 s.2) (([] : List Int), (0 : Int)))) _) = _
    generalize inS2 c A (List.replicate c.From.length false) = M at hlen
    refine (congrArg retM (fold_loop (ns M.length) (fun acc a => if M.getD a.toNat false then acc ++ [a] else acc) (fun i acc => acc.length ≤ i) (fun acc i => (acc, (i : Int))) [] rfl (Nat.le_refl _) ?_ ?_ ?_)).trans ?_
    · intro i a s _ hs; by_cases h : M.getD a.toNat false = true <;> simp only [h, if_true, if_false, List.length_append, List.length_singleton, Bool.false_eq_true] <;> omega
    · intro i a s ha hs
      obtain ⟨rfl, hi⟩ := ns_get ha
      show spec_l25Close_L2 M s i = _
      unfold spec_l25Close_L2
      rw [decT (by omega), cond_true, idx_bool hi, some_bind', w64_nat (by omega), Int.toNat_natCast]
      cases h : M.getD i false with
      | true => rw [cond_true, fits_ok (by omega) (by omega), some_bind']; rfl
      | false => rw [cond_false]; rfl
    · intro s _
      show spec_l25Close_L2 M s _ = _
      unfold spec_l25Close_L2
      rw [ns_length, decF (by omega), cond_false]
    · rw [foldl_id_filter]; rfl
theorem implClose {c : MCategory} (H : Shape c) {A : List Int} (hA : Arr c A) (hl : A.length ≤ 1048576) : impl_Category_sieveOf c A = some (closeS c A) := by
  have hm := H.m
  unfold impl_Category_sieveOf impl_Category_arrows
  rw [show retM (S := Unit) (some (Out.ret (c.From.length : Int))) = some (c.From.length : Int) from rfl, some_bind', mk_ok (by omega) (by omega), some_bind']
  refine (congrArg retM (fold_loop A (fun M x => inS1 c x M) (fun _ M => M.length = c.From.length) (fun M i => ((i : Int), M)) (List.replicate c.From.length false) rfl (by simp) ?_ ?_ ?_)).trans ?_
  · intro i x s _ hs; rw [inS1_length, hs]
  · intro i x s hx hs
    have hi := getElem?_lt hx
    have hxa := hA x (List.mem_of_getElem? hx)
    show impl_Category_sieveOf_L0 c A i s = _
    unfold impl_Category_sieveOf_L0
    rw [decT (by omega), cond_true, idx_nat, hx, some_bind', H.idxT hxa.1 hxa.2, some_bind', implOut (by omega), some_bind']
    refine (fold_loop (outS c (gi c.To x)) (fun M b => M.set (gk c.Composites x b).toNat true) (fun _ M => M.length = c.From.length) (fun M j => ((j : Int), M)) s rfl hs ?_ ?_ ?_).trans ?_
    · intro j b M _ hM; simp [hM]
    · intro j b M hb hM
      have hj := getElem?_lt hb
      have hbm := outS_mem.1 (List.mem_of_getElem? hb)
      have hol := outS_len c (gi c.To x)
      have hc := H.cell x b hxa.1 hxa.2 hbm.1.1 hbm.1.2 hbm.2.symm
      show impl_Category_sieveOf_L1 c x (outS c (gi c.To x)) j M = _
      unfold impl_Category_sieveOf_L1
      rw [decT (by omega), cond_true, idx_nat, hb, some_bind', H.thenI hxa.1 hxa.2 hbm.1.1 hbm.1.2, some_bind', idx_lt hc.1 (by rw [hM]; exact hc.2.1), some_bind', w64_nat (by omega)]
    · intro M hM
      show impl_Category_sieveOf_L1 c x (outS c (gi c.To x)) _ M = _
      unfold impl_Category_sieveOf_L1
      rw [decF (by omega), cond_false]
    · dsimp only
      rw [w64_nat (by omega)]
      have e : (outS c (gi c.To x)).foldl (fun M b => M.set (gk c.Composites x b).toNat true) s = inS1 c x s := by
        unfold inS1 setAll outS
        generalize ns c.From.length = l
        clear hs hx
        induction l generalizing s with
        | nil => rfl
        | cons y l ih =>
          rw [List.filter_cons, List.foldl_cons]
          by_cases h : gi c.From y = gi c.To x
          · rw [if_pos (by simpa using h), List.foldl_cons, ih, if_pos (by simpa using h.symm)]
          · rw [if_neg (by simpa using h), ih, if_neg (by simpa using fun h' : gi c.To x = gi c.From y => h h'.symm)]
      rw [e]
  · intro s _
    show impl_Category_sieveOf_L0 c A _ s = _
    unfold impl_Category_sieveOf_L0
    rw [decF (by omega), cond_false]
  · dsimp only
    have hlen : (inS2 c A (List.replicate c.From.length false)).length = c.From.length := by rw [inS2_length]; simp
    show retM ((impl_marked (inS2 c A (List.replicate c.From.length false))) >>= fun y61 => _) = _
    rw [implMarked _ (by omega), marked_close H hA, some_bind']
    rfl
end Go.Proofs.YtbedkejmebepcaaGreat
namespace Go.Li
open Go
theorem lb_step {S S1 R : Type} {k : Nat} {body : S1 → Option (Out S1 R)} {f : S1 → Option (Out S R)} {s s' : S1} (h : body s = some (.norm s')) : lbind (blockM k (loopM body s)) f = lbind (blockM k (loopM body s')) f := by
  rw [loopM_eq, h]
theorem lb_end {S S1 R : Type} {k : Nat} {body : S1 → Option (Out S1 R)} {f : S1 → Option (Out S R)} {s e : S1} (h : body s = some (.exit k e)) : lbind (blockM k (loopM body s)) f = f e := lb_exit (loopM_exit h)
theorem lb_out {S S1 R : Type} {k : Nat} {body : S1 → Option (Out S1 R)} {f : S1 → Option (Out S R)} {s : S1} {y : R} (h : body s = some (.ret y)) : lbind (blockM k (loopM body s)) f = some (.ret y) := lb_ret (loopM_ret h)
/-- the first place where p holds, from number i on; else -1 -/
def ixF {α : Type} (p : α → Bool) : List α → Nat → Int
  | [], _ => -1
  | x :: l, i => if p x then (i : Int) else ixF p l (i + 1)
theorem ixF_none {α : Type} {p : α → Bool} {l : List α} {i : Nat} (h : ∀ x ∈ l, p x = false) : ixF p l i = -1 := by
  induction l generalizing i with
  | nil => rfl
  | cons x l ih => unfold ixF; rw [h x (by simp), if_neg (by simp)]; exact ih fun y hy => h y (by simp [hy])
theorem ixF_some {α : Type} {p : α → Bool} {l : List α} {i : Nat} (h : ∃ x ∈ l, p x = true) : ∃ j x, ixF p l i = ((i + j : Nat) : Int) ∧ l[j]? = some x ∧ p x = true := by
  induction l generalizing i with
  | nil => obtain ⟨x, hx, _⟩ := h; cases hx
  | cons x l ih =>
    unfold ixF
    by_cases hp : p x = true
    · exact ⟨0, x, by rw [if_pos hp]; rfl, rfl, hp⟩
    · rw [if_neg hp]
      obtain ⟨y, hy, hpy⟩ := h
      rcases List.mem_cons.1 hy with rfl | hy
      · exact absurd hpy hp
      · obtain ⟨j, z, h1, h2, h3⟩ := ih (i := i + 1) ⟨y, hy, hpy⟩
        exact ⟨j + 1, z, by rw [h1]; congr 1; omega, h2, h3⟩
end Go.Li
namespace Go.Proofs.YtbedkejmebepcaaGreat
open Go Go.Li
set_option linter.unusedSectionVars false

theorem implCompare (x y : List Int) (hx : x.length ≤ 1048576000) : impl_compare x y = some (lexCmp x y) := by
  have key : ∀ (m i : Nat), x.length - i = m → i ≤ x.length → i ≤ y.length →
      retM (S := Unit) (lbind (blockM 0 (loopM (impl_compare_L0 x y) (i : Int))) (fun s0_8 => (bif decide ((x.length : Int) < (y.length : Int)) then (some (Out.ret (((-1 : Int))))) else (some (Out.ret (((0 : Int)))))))) = some (lexCmp (x.drop i) (y.drop i)) := by
    intro m
    induction m with
    | zero =>
      intro i hm hi hy
      obtain rfl : i = x.length := by omega
      rw [lb_end (e := (x.length : Int)) (by unfold impl_compare_L0; rw [decF (by omega), cond_false]), List.drop_length]
      by_cases h : x.length < y.length
      · rw [decT (by omega), cond_true, List.drop_eq_getElem_cons h]; rfl
      · rw [decF (by omega), cond_false, List.drop_eq_nil_of_le (by omega)]; rfl
    | succ m ih =>
      intro i hm hi hy
      have hxi : x[i]? = some (x[i]'(by omega)) := List.getElem?_eq_getElem (by omega)
      rw [List.drop_eq_getElem_cons (show i < x.length by omega)]
      by_cases h : i = y.length
      · rw [List.drop_eq_nil_of_le (show y.length ≤ i by omega), lb_out (y := 1) (by unfold impl_compare_L0; rw [decT (by omega), cond_true, beqT (by omega), cond_true])]; rfl
      · have hyi : y[i]? = some (y[i]'(by omega)) := List.getElem?_eq_getElem (by omega)
        rw [List.drop_eq_getElem_cons (show i < y.length by omega)]
        unfold lexCmp
        by_cases e : x[i]'(by omega) = y[i]'(by omega)
        · rw [if_pos e, lb_step (s' := ((i + 1 : Nat) : Int)) (by unfold impl_compare_L0; rw [decT (by omega), cond_true, beqF (by omega), cond_false, idx_nat, hxi, some_bind', idx_nat, hyi, some_bind', bneF e, cond_false, w64_nat (by omega)])]
          exact ih (i + 1) (by omega) (by omega) (by omega)
        · rw [if_neg e]
          by_cases l : x[i]'(by omega) < y[i]'(by omega)
          · rw [if_pos l, lb_out (y := -1) (by unfold impl_compare_L0; rw [decT (by omega), cond_true, beqF (by omega), cond_false, idx_nat, hxi, some_bind', idx_nat, hyi, some_bind', bneT e, cond_true, some_bind', some_bind', decT l, cond_true])]; rfl
          · rw [if_neg l, lb_out (y := 1) (by unfold impl_compare_L0; rw [decT (by omega), cond_true, beqF (by omega), cond_false, idx_nat, hxi, some_bind', idx_nat, hyi, some_bind', bneT e, cond_true, some_bind', some_bind', decF l, cond_false])]; rfl
  exact key x.length 0 rfl (Nat.zero_le _) (Nat.zero_le _)
theorem implSame (x y : List Int) (hx : x.length ≤ 1048576000) : impl_same x y = some (x == y) := by
  unfold impl_same
  rw [implCompare x y hx, some_bind']
  show some (lexCmp x y == 0) = _
  congr 1
  rw [Bool.eq_iff_iff]
  simp only [beq_iff_eq]
  exact ⟨lex_zero, fun h => by rw [h]; exact lex_refl y⟩
theorem specLess (x y : List Int) (hx : x.length ≤ 1048576000) : spec_l01Less x y = some (lexLt x y) := by
  have key : ∀ (m i : Nat), x.length - i = m → i ≤ x.length → i ≤ y.length →
      retM (S := Unit) (lbind (blockM 0 (loopM (spec_l01Less_L0 x y) (i : Int))) (fun s0_5 => (some (Out.ret ((decide ((x.length : Int) < (y.length : Int)))))))) = some (lexLt (x.drop i) (y.drop i)) := by
    intro m
    induction m with
    | zero =>
      intro i hm hi hy
      obtain rfl : i = x.length := by omega
      rw [lb_end (e := (x.length : Int)) (by unfold spec_l01Less_L0; rw [decF (by omega), cond_false, some_bind', cond_false]), List.drop_length]
      by_cases h : x.length < y.length
      · rw [decT (by omega), List.drop_eq_getElem_cons h]; rfl
      · rw [decF (by omega), List.drop_eq_nil_of_le (by omega)]; rfl
    | succ m ih =>
      intro i hm hi hy
      have hxi : x[i]? = some (x[i]'(by omega)) := List.getElem?_eq_getElem (by omega)
      rw [List.drop_eq_getElem_cons (show i < x.length by omega)]
      by_cases h : i = y.length
      · rw [List.drop_eq_nil_of_le (show y.length ≤ i by omega), lb_end (e := (i : Int)) (by unfold spec_l01Less_L0; rw [decT (by omega), cond_true, decF (by omega), some_bind', cond_false]), decF (by omega)]; rfl
      · have hyi : y[i]? = some (y[i]'(by omega)) := List.getElem?_eq_getElem (by omega)
        rw [List.drop_eq_getElem_cons (show i < y.length by omega)]
        unfold lexLt lexCmp
        by_cases e : x[i]'(by omega) = y[i]'(by omega)
        · rw [if_pos e, lb_step (s' := ((i + 1 : Nat) : Int)) (by unfold spec_l01Less_L0; rw [decT (by omega), cond_true, decT (by omega), some_bind', cond_true, idx_nat, hxi, some_bind', idx_nat, hyi, some_bind', bneF e, cond_false, w64_nat (by omega)])]
          exact ih (i + 1) (by omega) (by omega) (by omega)
        · rw [if_neg e]
          by_cases l : x[i]'(by omega) < y[i]'(by omega)
          · rw [if_pos l, lb_out (y := true) (by unfold spec_l01Less_L0; rw [decT (by omega), cond_true, decT (by omega), some_bind', cond_true, idx_nat, hxi, some_bind', idx_nat, hyi, some_bind', bneT e, cond_true, some_bind', some_bind', decT l])]; rfl
          · rw [if_neg l, lb_out (y := false) (by unfold spec_l01Less_L0; rw [decT (by omega), cond_true, decT (by omega), some_bind', cond_true, idx_nat, hxi, some_bind', idx_nat, hyi, some_bind', bneT e, cond_true, some_bind', some_bind', decF l])]; rfl
  exact key x.length 0 rfl (Nat.zero_le _) (Nat.zero_le _)
/-- the place of a list among lists -/
def placeS (l : List (List Int)) (s : List Int) : Int := ixF (fun y => y == s) l 0
theorem indexFunc {l : List (List Int)} {p : List Int → Option Bool} {q : List Int → Bool} (hl : l.length ≤ 1048576000) (hp : ∀ y ∈ l, p y = some (q y)) : slices_IndexFunc___impl_sieve_impl_sieve_ l p = some (ixF q l 0) := by
  have key : ∀ (m : List (List Int)) (i : Nat), l.drop i = m → i ≤ l.length →
      retM (S := Unit) (lbind (blockM 0 (loopM (slices_IndexFunc___impl_sieve_impl_sieve__L0 l p) (i : Int))) (fun s0_5 => (some (Out.ret (((-1 : Int))))))) = some (ixF q m i) := by
    intro m
    induction m with
    | nil =>
      intro i hd hi
      have : i = l.length := by have := congrArg List.length hd; simp at this; omega
      subst this
      rw [lb_end (e := (l.length : Int)) (by unfold slices_IndexFunc___impl_sieve_impl_sieve__L0; rw [decF (by omega), cond_false])]; rfl
    | cons x m ih =>
      intro i hd hi
      have hlt : i < l.length := by
        rcases Nat.lt_or_ge i l.length with h | h
        · exact h
        · rw [List.drop_eq_nil_of_le h] at hd; cases hd
      rw [List.drop_eq_getElem_cons hlt] at hd
      have hx : l[i]? = some x := by rw [List.getElem?_eq_getElem hlt]; exact congrArg some (List.cons.inj hd).1
      have hs := hp x (List.mem_of_getElem? hx)
      unfold ixF
      cases e : q x with
      | true =>
        rw [if_pos rfl, lb_out (y := (i : Int)) (by unfold slices_IndexFunc___impl_sieve_impl_sieve__L0; rw [decT (by omega), cond_true, idx_nat, hx, some_bind', hs, some_bind', e, cond_true])]; rfl
      | false =>
        rw [if_neg (by simp), lb_step (s' := ((i + 1 : Nat) : Int)) (by unfold slices_IndexFunc___impl_sieve_impl_sieve__L0; rw [decT (by omega), cond_true, idx_nat, hx, some_bind', hs, some_bind', e, cond_false, w64_nat (by omega)])]
        exact ih (i + 1) (List.cons.inj hd).2 hlt
  exact key l 0 rfl (Nat.zero_le _)
theorem containsFunc {l : List (List Int)} {p : List Int → Option Bool} {q : List Int → Bool} (hl : l.length ≤ 1048576000) (hp : ∀ y ∈ l, p y = some (q y)) : slices_ContainsFunc___impl_sieve_impl_sieve_ l p = some (l.any q) := by
  unfold slices_ContainsFunc___impl_sieve_impl_sieve_
  rw [indexFunc hl hp, some_bind']
  show some (decide (ixF q l 0 ≥ 0)) = _
  congr 1
  cases h : l.any q with
  | true =>
    obtain ⟨x, hx, hq⟩ := List.any_eq_true.1 h
    obtain ⟨j, z, h1, _⟩ := ixF_some (i := 0) ⟨x, hx, hq⟩
    rw [h1]; exact decT (by omega)
  | false =>
    rw [ixF_none fun x hx => by simpa using (List.any_eq_false.1 h) x hx]; rfl

/-- a sieve pulled along an arrow -/
def pullS (c : MCategory) (a : Int) (s : List Int) : List Int := (outS c (gi c.To a)).filter fun b => hasB s (gk c.Composites a b)
theorem implPull {c : MCategory} (H : Shape c) {a : Int} (h0 : 0 ≤ a) (h1 : a < c.From.length) (s : List Int) (hs : s.length ≤ 1048576000) : impl_Category_pull c a s = some (pullS c a s) := by
  have hm := H.m
  have hol := outS_len c (gi c.To a)
  unfold impl_Category_pull
  rw [H.idxT h0 h1, some_bind', implOut (by omega), some_bind']
  refine (congrArg retM (fold_loop (outS c (gi c.To a)) (fun acc b => if hasB s (gk c.Composites a b) then acc ++ [b] else acc) (fun i acc => acc.length ≤ i) (fun acc i => (acc, (i : Int))) [] rfl (Nat.le_refl _) ?_ ?_ ?_)).trans ?_
  · intro i b acc _ hacc
    split
    · rw [List.length_append, List.length_singleton]; omega
    · omega
  · intro i b acc hb hacc
    have hi := getElem?_lt hb
    have hbm := outS_mem.1 (List.mem_of_getElem? hb)
    show impl_Category_pull_L0 c a s (outS c (gi c.To a)) acc i = _
    unfold impl_Category_pull_L0
    rw [decT (by omega), cond_true, idx_nat, hb, some_bind', H.thenI h0 h1 hbm.1.1 hbm.1.2, some_bind', implHas _ _ hs, some_bind', w64_nat (by omega)]
    cases h : hasB s (gk c.Composites a b) with
    | true => rw [cond_true, fits_ok (by omega) (by omega), some_bind']; rfl
    | false => rw [cond_false]; rfl
  · intro acc _
    show impl_Category_pull_L0 c a s (outS c (gi c.To a)) acc _ = _
    unfold impl_Category_pull_L0
    rw [decF (by omega), cond_false]
  · rw [foldl_id_filter]; rfl
end Go.Proofs.YtbedkejmebepcaaGreat
