/- Lists of arrows and sieves: what the reference's and the program's small functions reckon. No condition beside those that each theorem names. -/
import Derived.Test.YtcmckiiafgcmjaaGreatPg
namespace Go.Li
open Go
section
variable {S S1 R α σ β : Type} {body : S1 → Option (Out S1 R)}
/-- a loop over a list that carries a state -/
theorem fold_loop {k : Nat} {f : S1 → Option (Out S R)} {s0' : S1} (l : List α) (g : σ → α → σ) (I : Nat → σ → Prop) (pk : σ → Nat → S1) (s0 : σ) (e0 : pk s0 0 = s0') (h0 : I 0 s0)
    (hI : ∀ i x s, l[i]? = some x → I i s → I (i + 1) (g s x)) (step : ∀ i x s, l[i]? = some x → I i s → body (pk s i) = some (.norm (pk (g s x) (i + 1)))) (last : ∀ s, I l.length s → body (pk s l.length) = some (.exit k (pk s l.length))) :
    lbind (blockM k (loopM body s0')) f = f (pk (l.foldl g s0) l.length) := by
  have hh : ∀ i, i ≤ l.length → I i ((l.take i).foldl g s0) := by
    intro i
    induction i with
    | zero => intro _; exact h0
    | succ i ih =>
      intro hi
      have hx : l[i]? = some l[i] := List.getElem?_eq_getElem (by omega)
      rw [take_succ_get hx, List.foldl_append]
      exact hI i _ _ hx (ih (by omega))
  refine for_all l (fun i => pk ((l.take i).foldl g s0) i) (by simpa using e0) ?_ ?_
  · intro i x hx
    have hi := getElem?_lt hx
    rw [step i x _ hx (hh i (by omega)), take_succ_get hx, List.foldl_append]; rfl
  · rw [last _ (hh _ (Nat.le_refl _)), List.take_length]
theorem foldl_filter (p : α → Bool) (h : α → β) (l : List α) (acc : List β) : l.foldl (fun a x => if p x then a ++ [h x] else a) acc = acc ++ (l.filter p).map h := by
  induction l generalizing acc with
  | nil => simp
  | cons x l ih => by_cases hp : p x = true <;> simp [hp, ih]
theorem foldl_map' (h : α → β) (l : List α) (acc : List β) : l.foldl (fun a x => a ++ [h x]) acc = acc ++ l.map h := by
  induction l generalizing acc with
  | nil => simp
  | cons x l ih => simp [ih]
/-- marks laid along a list -/
def setAll (q : α → Bool) (t : α → Int) (M : List Bool) (l : List α) : List Bool := l.foldl (fun M x => if q x then M.set (t x).toNat true else M) M
theorem setAll_length (q : α → Bool) (t : α → Int) (l : List α) (M : List Bool) : (setAll q t M l).length = M.length := by
  unfold setAll
  induction l generalizing M with
  | nil => rfl
  | cons x l ih =>
    rw [List.foldl_cons, ih]
    split <;> simp
theorem setAll_get (q : α → Bool) (t : α → Int) (l : List α) (M : List Bool) {a : Nat} (ha : a < M.length) : (setAll q t M l).getD a false = (M.getD a false || l.any fun x => q x && (t x).toNat == a) := by
  unfold setAll
  induction l generalizing M with
  | nil => simp
  | cons x l ih =>
    rw [List.foldl_cons, ih _ (by split <;> simp [ha])]
    rw [List.any_cons]
    by_cases hq : q x = true
    · rw [if_pos hq, hq, Bool.true_and, ← Bool.or_assoc]
      congr 1
      simp only [List.getD_eq_getElem?_getD, List.getElem?_set]
      by_cases e : (t x).toNat = a
      · subst e; simp [ha]
      · rw [if_neg e]; simp [e]
    · rw [if_neg hq, Bool.eq_false_iff.2 hq, Bool.false_and, Bool.false_or]
end
theorem any_filter' {α : Type} (l : List α) (p q : α → Bool) : (l.filter p).any q = l.any fun x => p x && q x := by
  induction l with
  | nil => rfl
  | cons a l ih => by_cases hp : p a = true <;> simp [hp, ih]
theorem ns_filter_nodup {n : Nat} {p : Int → Bool} : ((ns n).filter p).Nodup := by
  show List.Pairwise (· ≠ ·) _
  refine List.Pairwise.filter _ ?_
  unfold ns
  rw [List.pairwise_map]
  exact (List.nodup_range (n := n)).imp fun h e => h (Int.ofNat.inj e)
end Go.Li
namespace Go.Proofs.YtcmckiiafgcmjaaGreat
open Go Go.Li
set_option linter.unusedSectionVars false

def outS (c : MCategory) (x : Int) : List Int := (ns c.From.length).filter fun a => gi c.From a == x
theorem outS_mem {c : MCategory} {x a : Int} : a ∈ outS c x ↔ (0 ≤ a ∧ a < c.From.length) ∧ gi c.From a = x := by
  unfold outS; rw [List.mem_filter, ns_mem]; simp
theorem outS_len (c : MCategory) (x : Int) : (outS c x).length ≤ c.From.length := by
  unfold outS; exact Nat.le_trans (List.length_filter_le _ _) (by rw [ns_length]; exact Nat.le_refl _)

theorem foldl_id_filter (p : Int → Bool) (l : List Int) : l.foldl (fun a x => if p x then a ++ [x] else a) [] = l.filter p := by
  have := foldl_filter p (fun x : Int => x) l []
  simpa using this
theorem specOut {c : MCategory} (hm : c.From.length ≤ 1048576) (x : Int) : spec_l25Out c x = some (outS c x) := by
  unfold spec_l25Out
  refine (congrArg retM (fold_loop (ns c.From.length) (fun acc a => if gi c.From a == x then acc ++ [a] else acc) (fun i acc => acc.length ≤ i) (fun acc i => (acc, (i : Int))) [] rfl (Nat.le_refl _) ?_ ?_ ?_)).trans ?_
  · intro i a s _ hs; by_cases h : (gi c.From a == x) = true <;> simp [h] <;> omega
  · intro i a s ha hs
    obtain ⟨rfl, hi⟩ := ns_get ha
    show spec_l25Out_L0 c x s i = _
    unfold spec_l25Out_L0
    rw [decT (by omega), cond_true, idx_gi (by omega) (by omega), some_bind', w64_nat (by omega)]
    cases h : (gi c.From (i : Int) == x) with
    | true => rw [cond_true, fits_ok (by omega) (by omega), some_bind']; rfl
    | false => rw [cond_false]; rfl
  · intro s _
    show spec_l25Out_L0 c x s _ = _
    unfold spec_l25Out_L0
    rw [ns_length, decF (by omega), cond_false]
  · rw [foldl_id_filter]; rfl
theorem implOut {c : MCategory} (hm : c.From.length ≤ 1048576) (x : Int) : impl_Category_outOf c x = some (outS c x) := by
  unfold impl_Category_outOf
  refine (congrArg retM (fold_loop (ns c.From.length) (fun acc a => if gi c.From a == x then acc ++ [a] else acc) (fun i acc => acc.length ≤ i) (fun acc i => (acc, (i : Int))) [] rfl (Nat.le_refl _) ?_ ?_ ?_)).trans ?_
  · intro i a s _ hs; by_cases h : (gi c.From a == x) = true <;> simp [h] <;> omega
  · intro i a s ha hs
    obtain ⟨rfl, hi⟩ := ns_get ha
    show impl_Category_outOf_L0 c x s i = _
    unfold impl_Category_outOf_L0
    rw [decT (by omega), cond_true, idx_gi (by omega) (by omega), some_bind', w64_nat (by omega)]
    cases h : (gi c.From (i : Int) == x) with
    | true => rw [cond_true, fits_ok (by omega) (by omega), some_bind']; rfl
    | false => rw [cond_false]; rfl
  · intro s _
    show impl_Category_outOf_L0 c x s _ = _
    unfold impl_Category_outOf_L0
    rw [ns_length, decF (by omega), cond_false]
  · rw [foldl_id_filter]; rfl
/-- a list has a number -/
def hasB (l : List Int) (n : Int) : Bool := l.any fun y => y == n
theorem hasB_iff {l : List Int} {n : Int} : hasB l n = true ↔ n ∈ l := by unfold hasB; simp
theorem specHas (l : List Int) (n : Int) (hl : l.length ≤ 1048576000) : spec_l01Has l n = some (hasB l n) := by
  unfold spec_l01Has
  refine (congrArg retM (for_anyb l (fun y => y == n) (fun i => (i : Int)) rfl ?_ ?_ (e := (l.length : Int)) (y := true) ?_)).trans ?_
  · intro i x hx hp
    have hi := getElem?_lt hx
    unfold spec_l01Has_L0
    rw [decT (by omega), cond_true, idx_nat, hx, some_bind', hp, cond_false, w64_nat (by omega)]
  · intro i x hx hp
    have hi := getElem?_lt hx
    unfold spec_l01Has_L0
    rw [decT (by omega), cond_true, idx_nat, hx, some_bind', hp, cond_true]
  · unfold spec_l01Has_L0; rw [decF (by omega), cond_false]
  · show retM (if hasB l n = true then _ else _) = _
    cases hasB l n <;> rfl
theorem implHas (l : List Int) (n : Int) (hl : l.length ≤ 1048576000) : impl_has l n = some (hasB l n) := by
  unfold impl_has
  refine (congrArg retM (for_anyb l (fun y => y == n) (fun i => (i : Int)) rfl ?_ ?_ (e := (l.length : Int)) (y := true) ?_)).trans ?_
  · intro i x hx hp
    have hi := getElem?_lt hx
    unfold impl_has_L0
    rw [decT (by omega), cond_true, idx_nat, hx, some_bind', hp, cond_false, w64_nat (by omega)]
  · intro i x hx hp
    have hi := getElem?_lt hx
    unfold impl_has_L0
    rw [decT (by omega), cond_true, idx_nat, hx, some_bind', hp, cond_true]
  · unfold impl_has_L0; rw [decF (by omega), cond_false]
  · show retM (if hasB l n = true then _ else _) = _
    cases hasB l n <;> rfl

/-- the places of the marks -/
def markedS (M : List Bool) : List Int := (ns M.length).filter fun a => M.getD a.toNat false
theorem idx_bool {M : List Bool} {i : Nat} (h : i < M.length) : idx M (i : Int) = some (M.getD i false) := by
  rw [idx_nat, List.getElem?_eq_getElem h, List.getD_eq_getElem?_getD, List.getElem?_eq_getElem h]; rfl
theorem implMarked (M : List Bool) (hm : M.length ≤ 1048576) : impl_marked M = some (markedS M) := by
  unfold impl_marked
  refine (congrArg retM (fold_loop (ns M.length) (fun acc a => if M.getD a.toNat false then acc ++ [a] else acc) (fun i acc => acc.length ≤ i) (fun acc i => (acc, (i : Int))) [] rfl (Nat.le_refl _) ?_ ?_ ?_)).trans ?_
  · intro i a s _ hs; by_cases h : M.getD a.toNat false = true <;> simp only [h, if_true, if_false, List.length_append, List.length_singleton, Bool.false_eq_true] <;> omega
  · intro i a s ha hs
    obtain ⟨rfl, hi⟩ := ns_get ha
    show impl_marked_L0 M s i = _
    unfold impl_marked_L0
    rw [decT (by omega), cond_true, idx_bool hi, some_bind', w64_nat (by omega), Int.toNat_natCast]
    cases h : M.getD i false with
    | true => rw [cond_true, fits_ok (by omega) (by omega), some_bind']; rfl
    | false => rw [cond_false]; rfl
  · intro s _
    show impl_marked_L0 M s _ = _
    unfold impl_marked_L0
    rw [ns_length, decF (by omega), cond_false]
  · rw [foldl_id_filter]; rfl

/-- arrows of a table -/
def Arr (c : MCategory) (l : List Int) : Prop := ∀ a ∈ l, 0 ≤ a ∧ a < c.From.length
/-- what follows some arrows -/
def clP (c : MCategory) (A : List Int) (a : Int) : Bool := A.any fun x => (ns c.From.length).any fun b => (gi c.To x == gi c.From b) && gk c.Composites x b == a
def closeS (c : MCategory) (A : List Int) : List Int := (ns c.From.length).filter (clP c A)
/-- the marks behind an arrow -/
def inS1 (c : MCategory) (x : Int) (M : List Bool) : List Bool := setAll (fun b => gi c.To x == gi c.From b) (fun b => gk c.Composites x b) M (ns c.From.length)
def inS2 (c : MCategory) (A : List Int) (M : List Bool) : List Bool := A.foldl (fun M x => inS1 c x M) M
theorem inS1_length (c : MCategory) (x : Int) (M : List Bool) : (inS1 c x M).length = M.length := setAll_length _ _ _ _
theorem inS2_length (c : MCategory) (A : List Int) (M : List Bool) : (inS2 c A M).length = M.length := by
  unfold inS2
  induction A generalizing M with
  | nil => rfl
  | cons x A ih => rw [List.foldl_cons, ih, inS1_length]
theorem inS2_get {c : MCategory} (H : Shape c) {A : List Int} (hA : Arr c A) (M : List Bool) (hM : M.length = c.From.length) {a : Int} (h0 : 0 ≤ a) (h1 : a < c.From.length) :
    (inS2 c A M).getD a.toNat false = (M.getD a.toNat false || clP c A a) := by
  unfold inS2 clP
  induction A generalizing M with
  | nil => simp
  | cons x A ih =>
    rw [List.foldl_cons, ih (fun y hy => hA y (by simp [hy])) _ (by rw [inS1_length, hM]), List.any_cons, ← Bool.or_assoc]
    congr 1
    unfold inS1
    rw [setAll_get _ _ _ _ (by omega)]
    congr 1
    have hx := hA x (by simp)
    rw [Bool.eq_iff_iff]
    simp only [List.any_eq_true, Bool.and_eq_true, beq_iff_eq]
    constructor
    · rintro ⟨b, hb, e1, e2⟩
      have hb' := ns_mem.1 hb
      have := H.cell x b hx.1 hx.2 hb'.1 hb'.2 e1
      exact ⟨b, hb, e1, by omega⟩
    · rintro ⟨b, hb, e1, e2⟩
      exact ⟨b, hb, e1, by rw [e2]⟩
theorem marked_close {c : MCategory} (H : Shape c) {A : List Int} (hA : Arr c A) : markedS (inS2 c A (List.replicate c.From.length false)) = closeS c A := by
  unfold markedS closeS
  rw [inS2_length, List.length_replicate]
  apply List.filter_congr
  intro a ha
  have := ns_mem.1 ha
  rw [inS2_get H hA _ (by simp) this.1 this.2]
  have e : (List.replicate c.From.length false).getD a.toNat false = false := by
    rw [List.getD_eq_getElem?_getD, List.getElem?_replicate]; split <;> rfl
  rw [e, Bool.false_or]
theorem specClose {c : MCategory} (H : Shape c) {A : List Int} (hA : Arr c A) (hl : A.length ≤ 1048576) : spec_l25Close c A = some (closeS c A) := by
  have hm := H.m
  unfold spec_l25Close
  rw [mk_ok (by omega) (by omega), some_bind']
  refine (congrArg retM (fold_loop A (fun M x => inS1 c x M) (fun _ M => M.length = c.From.length) (fun M i => ((i : Int), M)) (List.replicate c.From.length false) rfl (by simp) ?_ ?_ ?_)).trans ?_
  · intro i x s _ hs; rw [inS1_length, hs]
  · intro i x s hx hs
    have hi := getElem?_lt hx
    have hxa := hA x (List.mem_of_getElem? hx)
    show spec_l25Close_L0 c A i s = _
    unfold spec_l25Close_L0
    rw [decT (by omega), cond_true]
    refine (fold_loop (ns c.From.length) (fun M b => if gi c.To x == gi c.From b then M.set (gk c.Composites x b).toNat true else M) (fun _ M => M.length = c.From.length) (fun M j => ((j : Int), M)) s rfl hs ?_ ?_ ?_).trans ?_
    · intro j b M _ hM; split <;> simp [hM]
    · intro j b M hb hM
      obtain ⟨rfl, hj⟩ := ns_get hb
      show spec_l25Close_L1 c A i j M = _
      unfold spec_l25Close_L1
      rw [decT (by omega), cond_true, idx_nat, hx, some_bind', H.idxT hxa.1 hxa.2, some_bind', H.idxF (by omega) (by omega), some_bind', w64_nat (by omega)]
      cases e : (gi c.To x == gi c.From (j : Int)) with
      | false => rw [cond_false]; rfl
      | true =>
        have e' : gi c.To x = gi c.From j := by simpa using e
        have hc := H.cell x j hxa.1 hxa.2 (by omega) (by omega) e'
        rw [cond_true, some_bind', H.thenS hxa.1 hxa.2 (by omega) (by omega), some_bind', idx_lt hc.1 (by rw [hM]; exact hc.2.1), some_bind']
        rfl
    · intro M hM
      show spec_l25Close_L1 c A i _ M = _
      unfold spec_l25Close_L1
      rw [ns_length, decF (by omega), cond_false]
    · dsimp only
      rw [w64_nat (by omega)]
      rfl
  · intro s _
    show spec_l25Close_L0 c A _ s = _
    unfold spec_l25Close_L0
    rw [decF (by omega), cond_false]
  · dsimp only
    have hlen : (inS2 c A (List.replicate c.From.length false)).length = c.From.length := by rw [inS2_length]; simp
    rw [← marked_close H hA]
    show retM (lbind (blockM 4 (loopM (fun s => spec_l25Close_L2 (inS2 c A (List.replicate c.From.length false)) s.1 s.2) (([] : List Int), (0 : Int)))) _) = _
    generalize inS2 c A (List.replicate c.From.length false) = M at hlen
    refine (congrArg retM (fold_loop (ns M.length) (fun acc a => if M.getD a.toNat false then acc ++ [a] else acc) (fun i acc => acc.length ≤ i) (fun acc i => (acc, (i : Int))) [] rfl (Nat.le_refl _) ?_ ?_ ?_)).trans ?_
    · intro i a s _ hs; by_cases h : M.getD a.toNat false = true <;> simp only [h, if_true, if_false, List.length_append, List.length_singleton, Bool.false_eq_true] <;> omega
    · intro i a s ha hs
      obtain ⟨rfl, hi⟩ := ns_get ha
      show spec_l25Close_L2 M s i = _
      unfold spec_l25Close_L2
      rw [decT (by omega), cond_true, idx_bool hi, some_bind', w64_nat (by omega), Int.toNat_natCast]
      cases h : M.getD i false with
      | true => rw [cond_true, fits_ok (by omega) (by omega), some_bind']; rfl
      | false => rw [cond_false]; rfl
    · intro s _
      show spec_l25Close_L2 M s _ = _
      unfold spec_l25Close_L2
      rw [ns_length, decF (by omega), cond_false]
    · rw [foldl_id_filter]; rfl
theorem implClose {c : MCategory} (H : Shape c) {A : List Int} (hA : Arr c A) (hl : A.length ≤ 1048576) : impl_Category_sieveOf c A = some (closeS c A) := by
  have hm := H.m
  unfold impl_Category_sieveOf impl_Category_arrows
  rw [show retM (S := Unit) (some (Out.ret (c.From.length : Int))) = some (c.From.length : Int) from rfl, some_bind', mk_ok (by omega) (by omega), some_bind']
  refine (congrArg retM (fold_loop A (fun M x => inS1 c x M) (fun _ M => M.length = c.From.length) (fun M i => ((i : Int), M)) (List.replicate c.From.length false) rfl (by simp) ?_ ?_ ?_)).trans ?_
  · intro i x s _ hs; rw [inS1_length, hs]
  · intro i x s hx hs
    have hi := getElem?_lt hx
    have hxa := hA x (List.mem_of_getElem? hx)
    show impl_Category_sieveOf_L0 c A i s = _
    unfold impl_Category_sieveOf_L0
    rw [decT (by omega), cond_true, idx_nat, hx, some_bind', H.idxT hxa.1 hxa.2, some_bind', implOut (by omega), some_bind']
    refine (fold_loop (outS c (gi c.To x)) (fun M b => M.set (gk c.Composites x b).toNat true) (fun _ M => M.length = c.From.length) (fun M j => ((j : Int), M)) s rfl hs ?_ ?_ ?_).trans ?_
    · intro j b M _ hM; simp [hM]
    · intro j b M hb hM
      have hj := getElem?_lt hb
      have hbm := outS_mem.1 (List.mem_of_getElem? hb)
      have hol := outS_len c (gi c.To x)
      have hc := H.cell x b hxa.1 hxa.2 hbm.1.1 hbm.1.2 hbm.2.symm
      show impl_Category_sieveOf_L1 c x (outS c (gi c.To x)) j M = _
      unfold impl_Category_sieveOf_L1
      rw [decT (by omega), cond_true, idx_nat, hb, some_bind', H.thenI hxa.1 hxa.2 hbm.1.1 hbm.1.2, some_bind', idx_lt hc.1 (by rw [hM]; exact hc.2.1), some_bind', w64_nat (by omega)]
    · intro M hM
      show impl_Category_sieveOf_L1 c x (outS c (gi c.To x)) _ M = _
      unfold impl_Category_sieveOf_L1
      rw [decF (by omega), cond_false]
    · dsimp only
      rw [w64_nat (by omega)]
      have e : (outS c (gi c.To x)).foldl (fun M b => M.set (gk c.Composites x b).toNat true) s = inS1 c x s := by
        unfold inS1 setAll outS
        generalize ns c.From.length = l
        clear hs hx
        induction l generalizing s with
        | nil => rfl
        | cons y l ih =>
          rw [List.filter_cons, List.foldl_cons]
          by_cases h : gi c.From y = gi c.To x
          · rw [if_pos (by simpa using h), List.foldl_cons, ih, if_pos (by simpa using h.symm)]
          · rw [if_neg (by simpa using h), ih, if_neg (by simpa using fun h' : gi c.To x = gi c.From y => h h'.symm)]
      rw [e]
  · intro s _
    show impl_Category_sieveOf_L0 c A _ s = _
    unfold impl_Category_sieveOf_L0
    rw [decF (by omega), cond_false]
  · dsimp only
    have hlen : (inS2 c A (List.replicate c.From.length false)).length = c.From.length := by rw [inS2_length]; simp
    show retM ((impl_marked (inS2 c A (List.replicate c.From.length false))) >>= fun y61 => _) = _
    rw [implMarked _ (by omega), marked_close H hA, some_bind']
    rfl
end Go.Proofs.YtcmckiiafgcmjaaGreat
