/- Marking the cells of data with numbers, and whether they are held: what the law asks to see that nothing is shared. No condition beside those that each theorem names. -/
import Derived.Test.YtcmckiiafgcmjaaGreatPc
namespace Go.Proofs.YtcmckiiafgcmjaaGreat
open Go Go.Li

section
variable {α R : Type} (size : α → Nat) (num : Int → α → α)
def sizeR (xs : List α) : Nat := (xs.map size).sum
def numR : Int → List α → List α
  | _, [] => []
  | k, x :: xs => num k x :: numR (k + size x) xs
theorem sizeR_append (xs ys : List α) : sizeR size (xs ++ ys) = sizeR size xs + sizeR size ys := by simp [sizeR]
theorem sizeR_take {xs : List α} {i : Nat} {x : α} (h : xs[i]? = some x) : sizeR size (xs.take (i + 1)) = sizeR size (xs.take i) + size x := by
  rw [take_succ_get h, sizeR_append]; simp [sizeR]
theorem sizeR_take_le (xs : List α) (i : Nat) : sizeR size (xs.take i) ≤ sizeR size xs := by
  have := sizeR_append size (xs.take i) (xs.drop i)
  rw [List.take_append_drop] at this
  omega
theorem numR_append (k : Int) (xs ys : List α) : numR size num k (xs ++ ys) = numR size num k xs ++ numR size num (k + sizeR size xs) ys := by
  induction xs generalizing k with
  | nil => simp [numR, sizeR]
  | cons x xs ih =>
    simp only [List.cons_append, numR, ih]
    rw [show k + (size x : Int) + (sizeR size xs : Int) = k + (sizeR size (x :: xs) : Int) by simp [sizeR]; omega]
theorem numR_length (k : Int) (xs : List α) : (numR size num k xs).length = xs.length := by
  induction xs generalizing k with
  | nil => rfl
  | cons x xs ih => simp [numR, ih]
theorem numR_get {k : Int} {xs : List α} {i : Nat} {x : α} (h : xs[i]? = some x) : (numR size num k xs)[i]? = some (num (k + sizeR size (xs.take i)) x) := by
  have hi := getElem?_lt h
  have e : xs = xs.take i ++ x :: xs.drop (i + 1) := by
    conv => lhs; rw [← List.take_append_drop i xs]
    rw [List.drop_eq_getElem_cons hi]
    congr 2
    rw [List.getElem?_eq_getElem hi] at h; exact Option.some.inj h
  conv => lhs; rw [e]
  rw [numR_append, List.getElem?_append_right (by rw [numR_length]; simp; omega), numR_length]
  simp only [List.length_take]
  rw [show i - min i xs.length = 0 by omega]
  rfl

/-- a round of marking -/
def markBody (m : α → Int → Option (Int × α)) (a i : Int) (l : List α) : Option (Out (Int × Int × List α) R) :=
  (bif decide (i < (l.length : Int)) then ((idx l i) >>= fun e => ((m e a) >>= fun y => (some (Out.norm (y.1, w64 (i + (1 : Int)), l.set i.toNat y.2))))) else (some (Out.exit 0 (a, i, l))))
theorem mark_rows {S : Type} {f : Int × Int × List α → Option (Out S R)} {m : α → Int → Option (Int × α)} {xs : List α} {k : Int} (h0 : 0 ≤ k) (hx : xs.length ≤ 1048576000) (hs : k + sizeR size xs ≤ 4611686018427387904)
    (hm : ∀ x ∈ xs, ∀ a : Int, 0 ≤ a → a + size x ≤ 4611686018427387904 → m x a = some (a + size x, num a x)) :
    lbind (blockM 0 (loopM (fun s => markBody m s.1 s.2.1 s.2.2) (k, (0 : Int), xs))) f = f (k + sizeR size xs, (xs.length : Int), numR size num k xs) := by
  refine for_all xs (fun i => (k + sizeR size (xs.take i), (i : Int), numR size num k (xs.take i) ++ xs.drop i)) (by simp [sizeR, numR]) ?_ ?_
  · intro i x hi
    have hlt := getElem?_lt hi
    have hl : (numR size num k (xs.take i) ++ xs.drop i).length = xs.length := by rw [List.length_append, numR_length]; simp; omega
    have hg : (numR size num k (xs.take i) ++ xs.drop i)[i]? = some x := by
      rw [List.getElem?_append_right (by rw [numR_length]; simp; omega), numR_length, List.getElem?_drop]
      simp only [List.length_take]
      rw [show i + (i - min i xs.length) = i by omega]; exact hi
    have ht := sizeR_take size hi
    have hle := sizeR_take_le size xs (i + 1)
    show markBody m (k + (sizeR size (xs.take i) : Int)) (i : Int) (numR size num k (xs.take i) ++ xs.drop i) = _
    unfold markBody
    rw [hl, decT (by omega), cond_true, idx_nat, hg, some_bind', hm x (List.mem_of_getElem? hi) _ (by omega) (by omega), some_bind', w64_nat (by omega), Int.toNat_natCast]
    have e1 : (numR size num k (xs.take i) ++ xs.drop i).set i (num (k + sizeR size (xs.take i)) x) = numR size num k (xs.take (i + 1)) ++ xs.drop (i + 1) := by
      rw [take_succ_get hi, numR_append, List.drop_eq_getElem_cons hlt, List.set_append_right _ _ (by rw [numR_length]; simp; omega), numR_length]
      simp only [List.length_take]
      rw [show i - min i xs.length = 0 by omega, List.set_cons_zero, List.append_assoc]
      rfl
    rw [e1, ht]
    congr 4
    omega
  · show markBody m (k + (sizeR size (xs.take xs.length) : Int)) (xs.length : Int) (numR size num k (xs.take xs.length) ++ xs.drop xs.length) = _
    unfold markBody
    have hl : (numR size num k (xs.take xs.length) ++ xs.drop xs.length).length = xs.length := by rw [List.length_append, numR_length]; simp
    rw [hl, decF (by omega), cond_false]
    simp

/-- a round of looking -/
def heldBody (m : α → Int → Option Int) (l : List α) (a i : Int) : Option (Out (Int × Int) Int) :=
  (bif decide (i < (l.length : Int)) then ((idx l i) >>= fun e => ((m e a) >>= fun y => (bif decide (y < (0 : Int)) then (some (Out.ret (((-1 : Int))))) else (some (Out.norm (y, w64 (i + (1 : Int)))))))) else (some (Out.exit 0 (a, i))))
theorem held_rows {S : Type} {f : Int × Int → Option (Out S Int)} {m : α → Int → Option Int} {xs : List α} {k : Int} (h0 : 0 ≤ k) (hx : xs.length ≤ 1048576000) (hs : k + sizeR size xs ≤ 4611686018427387904)
    (hm : ∀ x ∈ xs, ∀ a : Int, 0 ≤ a → a + size x ≤ 4611686018427387904 → m (num a x) a = some (a + size x)) :
    lbind (blockM 0 (loopM (fun s => heldBody m (numR size num k xs) s.1 s.2) (k, (0 : Int)))) f = f (k + sizeR size xs, (xs.length : Int)) := by
  refine for_all xs (fun i => (k + sizeR size (xs.take i), (i : Int))) (by simp [sizeR]) ?_ ?_
  · intro i x hi
    have hlt := getElem?_lt hi
    have ht := sizeR_take size hi
    have hle := sizeR_take_le size xs (i + 1)
    show heldBody m _ _ _ = _
    unfold heldBody
    rw [numR_length, decT (by omega), cond_true, idx_nat, numR_get size num hi, some_bind', hm x (List.mem_of_getElem? hi) _ (by omega) (by omega), some_bind', decF (by omega), cond_false, w64_nat (by omega), ht]
    congr 3
    omega
  · show heldBody m _ _ _ = _
    unfold heldBody
    rw [numR_length, decF (by omega), cond_false]
    simp
end

/-- one number -/
def n0 (k _x : Int) : Int := k
def s0 (_x : Int) : Nat := 1
def n1 := numR s0 n0
def s1 := sizeR s0
def n2 := numR s1 n1
def s2 := sizeR s1
def n3 := numR s2 n2
def s3 := sizeR s2
theorem s1_eq (x : List Int) : s1 x = x.length := by
  unfold s1 sizeR
  induction x with
  | nil => rfl
  | cons a x ih => simp only [List.map_cons, List.sum_cons, ih, List.length_cons, s0]; omega
theorem markS {x : List Int} {k : Int} (h0 : 0 ≤ k) (hx : x.length ≤ 1048576000) (hs : k + s1 x ≤ 4611686018427387904) : laws_markInt64S x k = some (k + s1 x, n1 k x) := by
  refine (congrArg retM (mark_rows (R := Int × List Int) s0 n0 (m := fun _ a => some (w64 (a + 1), a)) (xs := x) h0 hx hs ?_)).trans rfl
  intro y _ a ha hb
  rw [w64_id (by omega) (by unfold s0 at hb; omega)]; rfl
theorem markSS {x : List (List Int)} {k : Int} (h0 : 0 ≤ k) (hx : x.length ≤ 1048576000) (hr : ∀ y ∈ x, y.length ≤ 1048576000) (hs : k + s2 x ≤ 4611686018427387904) : laws_markInt64SS x k = some (k + s2 x, n2 k x) :=
  (congrArg retM (mark_rows (R := Int × List (List Int)) s1 n1 (m := laws_markInt64S) (xs := x) h0 hx hs fun y hy _ ha hb => markS ha (hr y hy) hb)).trans rfl
theorem markSSS {x : List (List (List Int))} {k : Int} (h0 : 0 ≤ k) (hx : x.length ≤ 1048576000) (hr : ∀ y ∈ x, y.length ≤ 1048576000 ∧ ∀ z ∈ y, z.length ≤ 1048576000) (hs : k + s3 x ≤ 4611686018427387904) :
    laws_markInt64SSS x k = some (k + s3 x, n3 k x) :=
  (congrArg retM (mark_rows (R := Int × List (List (List Int))) s2 n2 (m := laws_markInt64SS) (xs := x) h0 hx hs fun y hy _ ha hb => markSS ha (hr y hy).1 (hr y hy).2 hb)).trans rfl
theorem heldS {x : List Int} {k : Int} (h0 : 0 ≤ k) (hx : x.length ≤ 1048576000) (hs : k + s1 x ≤ 4611686018427387904) : laws_heldInt64S (n1 k x) k = some (k + s1 x) := by
  refine (congrArg retM (for_all x (fun i => (k + sizeR s0 (x.take i), (i : Int))) (by simp [sizeR]) ?_ (e := (k + s1 x, (x.length : Int))) ?_)).trans rfl
  · intro i y hi
    have hlt := getElem?_lt hi
    have ht := sizeR_take s0 hi
    have hle := sizeR_take_le s0 x (i + 1)
    show laws_heldInt64S_L0 _ _ _ = _
    unfold laws_heldInt64S_L0 n1
    unfold s1 at hs
    rw [show s0 y = 1 from rfl] at ht
    rw [numR_length, decT (by omega), cond_true, idx_nat, numR_get s0 n0 hi, some_bind', show (n0 (k + sizeR s0 (x.take i)) y != (k + sizeR s0 (x.take i))) = false by simp [n0], cond_false, w64_nat (by omega), w64_id (by omega) (by omega)]
    congr 3
    omega
  · show laws_heldInt64S_L0 _ _ _ = _
    unfold laws_heldInt64S_L0 n1
    rw [numR_length, decF (by omega), cond_false, List.take_length]
    rfl
theorem heldSS {x : List (List Int)} {k : Int} (h0 : 0 ≤ k) (hx : x.length ≤ 1048576000) (hr : ∀ y ∈ x, y.length ≤ 1048576000) (hs : k + s2 x ≤ 4611686018427387904) : laws_heldInt64SS (n2 k x) k = some (k + s2 x) :=
  (congrArg retM (held_rows s1 n1 (m := laws_heldInt64S) (xs := x) h0 hx hs fun y hy _ ha hb => heldS ha (hr y hy) hb)).trans rfl
theorem heldSSS {x : List (List (List Int))} {k : Int} (h0 : 0 ≤ k) (hx : x.length ≤ 1048576000) (hr : ∀ y ∈ x, y.length ≤ 1048576000 ∧ ∀ z ∈ y, z.length ≤ 1048576000) (hs : k + s3 x ≤ 4611686018427387904) :
    laws_heldInt64SSS (n3 k x) k = some (k + s3 x) :=
  (congrArg retM (held_rows s2 n2 (m := laws_heldInt64SS) (xs := x) h0 hx hs fun y hy _ ha hb => heldSS ha (hr y hy).1 (hr y hy).2 hb)).trans rfl

theorem s2_eq (x : List (List Int)) : s2 x = tot x := by
  unfold s2 sizeR tot
  congr 1
  exact List.map_congr_left fun y _ => s1_eq y
/-- the cells of a topology -/
def topCells (t : MTopology) : Nat := t.Shape.From.length + t.Shape.To.length + t.Shape.Identity.length + s2 t.Shape.Composites + s3 t.Covers
theorem markCat {c : MCategory} {k : Int} (h : CatSmall c) (h0 : 0 ≤ k) (hs : k + c.From.length + c.To.length + c.Identity.length + s2 c.Composites ≤ 4611686018427387904) :
    laws_markCategory c k = some (k + c.From.length + c.To.length + c.Identity.length + s2 c.Composites, n1 k c.From, n1 (k + c.From.length) c.To, n1 (k + c.From.length + c.To.length) c.Identity, n2 (k + c.From.length + c.To.length + c.Identity.length) c.Composites) := by
  obtain ⟨h1, h2, h3, h4, h5⟩ := h
  unfold laws_markCategory
  have e1 := s1_eq c.From
  have e2 := s1_eq c.To
  have e3 := s1_eq c.Identity
  rw [markS h0 (by omega) (by omega), some_bind', e1]
  dsimp only
  rw [markS (by omega) (by omega) (by omega), some_bind', e2]
  dsimp only
  rw [markS (by omega) (by omega) (by omega), some_bind', e3]
  dsimp only
  rw [markSS (by omega) (by omega) (fun y hy => by have := h5 y hy; omega) (by omega), some_bind']
  rfl
theorem heldCat {c : MCategory} {k : Int} (h : CatSmall c) (h0 : 0 ≤ k) (hs : k + c.From.length + c.To.length + c.Identity.length + s2 c.Composites ≤ 4611686018427387904) :
    laws_heldCategory (MCategory.mk c.Objects (n1 k c.From) (n1 (k + c.From.length) c.To) (n1 (k + c.From.length + c.To.length) c.Identity) (n2 (k + c.From.length + c.To.length + c.Identity.length) c.Composites)) k =
      some (k + c.From.length + c.To.length + c.Identity.length + s2 c.Composites) := by
  obtain ⟨h1, h2, h3, h4, h5⟩ := h
  unfold laws_heldCategory
  have e1 := s1_eq c.From
  have e2 := s1_eq c.To
  have e3 := s1_eq c.Identity
  dsimp only
  rw [heldS h0 (by omega) (by omega), some_bind', e1, decF (by omega), cond_false]
  rw [heldS (by omega) (by omega) (by omega), some_bind', e2, decF (by omega), cond_false]
  rw [heldS (by omega) (by omega) (by omega), some_bind', e3, decF (by omega), cond_false]
  rw [heldSS (by omega) (by omega) (fun y hy => by have := h5 y hy; omega) (by omega), some_bind', decF (by omega), cond_false]
  rfl
/-- a topology whose cells hold their numbers -/
theorem held_marked {t : MTopology} (h : TopSmall t) (hs : topCells t ≤ 4611686018427387000) :
    ∃ (n : Int) (a b c : List Int) (d : List (List Int)) (e : List (List (List Int))), 0 ≤ n ∧ laws_markTopology t 1 = some (n, a, b, c, d, e) ∧
      laws_heldTopology (MTopology.mk (MCategory.mk t.Shape.Objects a b c d) e) 1 = some n := by
  obtain ⟨hc, h1, h2⟩ := h
  unfold topCells at hs
  have hm := markCat hc (k := 1) (by omega) (by omega)
  have hh := heldCat hc (k := 1) (by omega) (by omega)
  have hr : ∀ y ∈ t.Covers, y.length ≤ 1048576000 ∧ ∀ z ∈ y, z.length ≤ 1048576000 := fun y hy => ⟨by have := (h2 y hy).1; omega, fun z hz => by have := (h2 y hy).2 z hz; omega⟩
  have hm3 := markSSS (x := t.Covers) (k := 1 + t.Shape.From.length + t.Shape.To.length + t.Shape.Identity.length + s2 t.Shape.Composites) (by omega) (by omega) hr (by omega)
  have hh3 := heldSSS (x := t.Covers) (k := 1 + t.Shape.From.length + t.Shape.To.length + t.Shape.Identity.length + s2 t.Shape.Composites) (by omega) (by omega) hr (by omega)
  refine ⟨1 + t.Shape.From.length + t.Shape.To.length + t.Shape.Identity.length + s2 t.Shape.Composites + s3 t.Covers, n1 1 t.Shape.From, n1 (1 + t.Shape.From.length) t.Shape.To, n1 (1 + t.Shape.From.length + t.Shape.To.length) t.Shape.Identity, n2 (1 + t.Shape.From.length + t.Shape.To.length + t.Shape.Identity.length) t.Shape.Composites, n3 (1 + t.Shape.From.length + t.Shape.To.length + t.Shape.Identity.length + s2 t.Shape.Composites) t.Covers, by omega, ?_, ?_⟩
  · unfold laws_markTopology
    rw [hm, some_bind']
    dsimp only
    rw [hm3, some_bind']
    rfl
  · unfold laws_heldTopology
    dsimp only
    rw [hh, some_bind', decF (by omega), cond_false, hh3, some_bind', decF (by omega), cond_false]
    rfl
theorem catSmall_of {c : MCategory} (h : catSize c ≤ 1048576) : CatSmall c := by
  have hr : ∀ y ∈ c.Composites, y.length ≤ tot c.Composites := fun y hy => by
    obtain ⟨i, hi, rfl⟩ := List.getElem_of_mem hy
    have := tot_take (List.getElem?_eq_getElem hi)
    have := tot_take_le c.Composites (i + 1)
    omega
  unfold catSize at h
  exact ⟨by omega, by omega, by omega, by omega, fun y hy => by have := hr y hy; omega⟩
/-- what the reference and the program have to give -/
def Alike (s i : MCategory → Option (MTopology × Int)) : Prop := ∀ c, catSize c ≤ 1048576 → ∃ t e, s c = some (t, e) ∧ i c = some (t, e) ∧ TopSmall t ∧ topCells t ≤ 4611686018427387000
end Go.Proofs.YtcmckiiafgcmjaaGreat
