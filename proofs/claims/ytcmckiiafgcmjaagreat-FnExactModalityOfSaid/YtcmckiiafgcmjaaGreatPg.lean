/- Is a table a category: units and associativity. No condition beside those that each theorem names. -/
import Derived.Test.YtcmckiiafgcmjaaGreatPf
namespace Go.Proofs.YtcmckiiafgcmjaaGreat
open Go Go.Li

/-- what is known of a table that has the shape of a category -/
structure Shape (c : MCategory) : Prop extends Head c where
  idf : ∀ x : Int, 0 ≤ x → x < c.Objects → gi c.From (gi c.Identity x) = x
  idt : ∀ x : Int, 0 ≤ x → x < c.Objects → gi c.To (gi c.Identity x) = x
  row : ∀ f : Int, 0 ≤ f → f < c.From.length → (gr c.Composites f).length = c.From.length
  cell : ∀ f g : Int, 0 ≤ f → f < c.From.length → 0 ≤ g → g < c.From.length → gi c.To f = gi c.From g →
    0 ≤ gk c.Composites f g ∧ gk c.Composites f g < c.From.length ∧ gi c.From (gk c.Composites f g) = gi c.From f ∧ gi c.To (gk c.Composites f g) = gi c.To g
  none : ∀ f g : Int, 0 ≤ f → f < c.From.length → 0 ≤ g → g < c.From.length → gi c.To f ≠ gi c.From g → gk c.Composites f g = -1
theorem shape_of {c : MCategory} (h : shapeB c = true) : Shape c := by
  unfold shapeB at h
  simp only [Bool.and_eq_true, List.all_eq_true] at h
  obtain ⟨h1, h2, h3⟩ := h
  have H := head_of h1
  have hil := H.il
  have hid : ∀ x, 0 ≤ x → x < c.Objects → idB c x = true := fun x a b => h2 x (ns_mem.2 ⟨a, by omega⟩)
  have hrow : ∀ f, 0 ≤ f → f < (c.From.length : Int) → rowB c f = true := fun f a b => h3 f (ns_mem.2 ⟨a, b⟩)
  have hcell : ∀ f g, 0 ≤ f → f < (c.From.length : Int) → 0 ≤ g → g < (c.From.length : Int) → cellB c f g = true := fun f g a b a' b' => by
    have := hrow f a b
    unfold rowB at this
    simp only [Bool.and_eq_true, List.all_eq_true] at this
    exact this.2 g (ns_mem.2 ⟨a', b'⟩)
  refine { H with
    idf := fun x a b => ?_
    idt := fun x a b => ?_
    row := fun f a b => ?_
    cell := fun f g a b a' b' e => ?_
    none := fun f g a b a' b' e => ?_ }
  · have := hid x a b; unfold idB at this; simp at this; exact this.1
  · have := hid x a b; unfold idB at this; simp at this; exact this.2
  · have := hrow f a b; unfold rowB at this; simp only [Bool.and_eq_true, beq_iff_eq] at this; exact this.1
  · have := hcell f g a b a' b'; unfold cellB at this; rw [if_pos e] at this; simp only [Bool.and_eq_true, decide_eq_true_eq, beq_iff_eq] at this; exact ⟨this.1.1, this.1.2, this.2.1, this.2.2⟩
  · have := hcell f g a b a' b'; unfold cellB at this; rw [if_neg e] at this; simpa using this

namespace Shape
variable {c : MCategory} (h : Shape c)
include h
/-- an entry of the table of composites, as the code reads it -/
theorem idxC {f g : Int} (h0 : 0 ≤ f) (h1 : f < c.From.length) (h2 : 0 ≤ g) (h3 : g < c.From.length) : idx (gr c.Composites f) g = some (gk c.Composites f g) := idx_gi h2 (by rw [h.row f h0 h1]; exact h3)
theorem thenI {f g : Int} (h0 : 0 ≤ f) (h1 : f < c.From.length) (h2 : 0 ≤ g) (h3 : g < c.From.length) : impl_Category_then c f g = some (gk c.Composites f g) := by
  unfold impl_Category_then; rw [h.idxK h0 h1, some_bind', h.idxC h0 h1 h2 h3, some_bind']; rfl
theorem thenS {f g : Int} (h0 : 0 ≤ f) (h1 : f < c.From.length) (h2 : 0 ≤ g) (h3 : g < c.From.length) : spec_l02Then c f g = some (gk c.Composites f g) := by
  unfold spec_l02Then; rw [h.idxK h0 h1, some_bind', h.idxC h0 h1 h2 h3, some_bind']; rfl
end Shape

def unitB (c : MCategory) (f : Int) : Bool := gk c.Composites (gi c.Identity (gi c.From f)) f == f && gk c.Composites f (gi c.Identity (gi c.To f)) == f
/-- composites at h differ -/
def bad3 (c : MCategory) (f g h : Int) : Bool := gi c.To g == gi c.From h && gk c.Composites (gk c.Composites f g) h != gk c.Composites f (gk c.Composites g h)
def bad2 (c : MCategory) (f g : Int) : Bool := gi c.To f == gi c.From g && (ns c.From.length).any (bad3 c f g)
def bad1 (c : MCategory) (f : Int) : Bool := (ns c.From.length).any (bad2 c f)
def lawB (c : MCategory) : Bool := (ns c.From.length).all (unitB c) && !((ns c.From.length).any (bad1 c))

theorem faultOf {c : MCategory} {k1 k2 k4 k6 : Nat} {L0 : Int → Option (Out Int (Int × Int × Int × Int))} {L1 : Int → Option (Out Int (Int × Int × Int × Int))} {L2 : Int → Int → Option (Out Int (Int × Int × Int × Int))} {L3 : Int → Int → Int → Option (Out Int (Int × Int × Int × Int))} {z : Int × Int × Int × Int} (hz : z.1 = 0)
    (a0 : ∀ i : Nat, i < c.From.length → unitB c i = true → L0 i = some (.norm ((i + 1 : Nat) : Int)))
    (a1 : ∀ i : Nat, i < c.From.length → unitB c i = false → ∃ y, L0 i = some (.ret y) ∧ y.1 ≠ 0)
    (a2 : L0 c.From.length = some (.exit k1 c.From.length))
    (b0 : ∀ i : Nat, i < c.From.length → L1 i = lbind (blockM k4 (loopM (L2 i) 0)) fun _ => some (.norm ((i + 1 : Nat) : Int)))
    (b2 : L1 c.From.length = some (.exit k2 c.From.length))
    (d0 : ∀ i j : Nat, i < c.From.length → j < c.From.length → gi c.To i ≠ gi c.From j → L2 i j = some (.norm ((j + 1 : Nat) : Int)))
    (d1 : ∀ i j : Nat, i < c.From.length → j < c.From.length → gi c.To i = gi c.From j → L2 i j = lbind (blockM k6 (loopM (L3 i j) 0)) fun _ => some (.norm ((j + 1 : Nat) : Int)))
    (d2 : ∀ i : Nat, L2 i c.From.length = some (.exit k4 c.From.length))
    (e0 : ∀ i j h : Nat, i < c.From.length → j < c.From.length → h < c.From.length → gi c.To i = gi c.From j → bad3 c i j h = false → L3 i j h = some (.norm ((h + 1 : Nat) : Int)))
    (e1 : ∀ i j h : Nat, i < c.From.length → j < c.From.length → h < c.From.length → gi c.To i = gi c.From j → bad3 c i j h = true → ∃ y, L3 i j h = some (.ret y) ∧ y.1 ≠ 0)
    (e2 : ∀ i j : Nat, L3 i j c.From.length = some (.exit k6 c.From.length)) :
    ∃ y, retM (S := Unit) (lbind (blockM k1 (loopM L0 0)) fun _ => lbind (blockM k2 (loopM L1 0)) fun _ => some (.ret z)) = some y ∧ (y.1 == 0) = lawB c := by
  have in3 : ∀ i j : Nat, i < c.From.length → j < c.From.length → gi c.To i = gi c.From j →
      ((ns c.From.length).any (bad3 c i j) = true ∧ ∃ y, lbind (S := Int) (blockM k6 (loopM (L3 i j) 0)) (fun _ => some (.norm ((j + 1 : Nat) : Int))) = some (.ret y) ∧ y.1 ≠ 0) ∨
      ((ns c.From.length).any (bad3 c i j) = false ∧ lbind (S := Int) (blockM k6 (loopM (L3 i j) 0)) (fun _ => some (.norm ((j + 1 : Nat) : Int))) = some (.norm ((j + 1 : Nat) : Int))) := by
    intro i j hi hj he
    refine for_anyg (ns c.From.length) (bad3 c i j) (fun y : Int × Int × Int × Int => y.1 ≠ 0) (fun h => (h : Int)) rfl ?_ ?_ (e := (c.From.length : Int)) (by rw [ns_length]; exact e2 i j)
    · intro h x hx hp; obtain ⟨rfl, hh⟩ := ns_get hx; exact e0 i j h hi hj hh he hp
    · intro h x hx hp; obtain ⟨rfl, hh⟩ := ns_get hx; exact e1 i j h hi hj hh he hp
  have in2 : ∀ i : Nat, i < c.From.length →
      ((ns c.From.length).any (bad2 c i) = true ∧ ∃ y, lbind (S := Int) (blockM k4 (loopM (L2 i) 0)) (fun _ => some (.norm ((i + 1 : Nat) : Int))) = some (.ret y) ∧ y.1 ≠ 0) ∨
      ((ns c.From.length).any (bad2 c i) = false ∧ lbind (S := Int) (blockM k4 (loopM (L2 i) 0)) (fun _ => some (.norm ((i + 1 : Nat) : Int))) = some (.norm ((i + 1 : Nat) : Int))) := by
    intro i hi
    refine for_anyg (ns c.From.length) (bad2 c i) (fun y : Int × Int × Int × Int => y.1 ≠ 0) (fun h => (h : Int)) rfl ?_ ?_ (e := (c.From.length : Int)) (by rw [ns_length]; exact d2 i)
    · intro j x hx hp
      obtain ⟨rfl, hj⟩ := ns_get hx
      by_cases he : gi c.To i = gi c.From j
      · rw [d1 i j hi hj he]
        rcases in3 i j hi hj he with ⟨h1, _⟩ | ⟨_, h2⟩
        · unfold bad2 at hp; rw [h1] at hp; simp [he] at hp
        · exact h2
      · exact d0 i j hi hj he
    · intro j x hx hp
      obtain ⟨rfl, hj⟩ := ns_get hx
      unfold bad2 at hp
      simp only [Bool.and_eq_true, beq_iff_eq] at hp
      rw [d1 i j hi hj hp.1]
      rcases in3 i j hi hj hp.1 with ⟨_, h⟩ | ⟨h1, _⟩
      · exact h
      · rw [hp.2] at h1; cases h1
  rcases for_anyg (s0 := (0 : Int)) (S := Unit) (R := Int × Int × Int × Int) (k := k1) (body := L0) (f := fun _ => lbind (blockM k2 (loopM L1 0)) fun _ => some (.ret z)) (ns c.From.length) (fun i => !unitB c i) (fun y : Int × Int × Int × Int => y.1 ≠ 0) (fun i => (i : Int)) rfl
      (fun i x hx hp => by obtain ⟨rfl, hi⟩ := ns_get hx; exact a0 i hi (by simpa using hp)) (fun i x hx hp => by obtain ⟨rfl, hi⟩ := ns_get hx; exact a1 i hi (by simpa using hp)) (e := (c.From.length : Int)) (by rw [ns_length]; exact a2) with ⟨h1, y, h2, h3⟩ | ⟨h1, h2⟩
  · refine ⟨y, by rw [h2]; rfl, ?_⟩
    unfold lawB
    rw [any_not] at h1
    simp only [Bool.not_eq_true'] at h1
    rw [h1]
    simpa using h3
  · rw [any_not] at h1
    simp only [Bool.not_eq_false'] at h1
    rw [h2]
    rcases for_anyg (s0 := (0 : Int)) (S := Unit) (R := Int × Int × Int × Int) (k := k2) (body := L1) (f := fun _ => some (.ret z)) (ns c.From.length) (bad1 c) (fun y : Int × Int × Int × Int => y.1 ≠ 0) (fun i => (i : Int)) rfl
      (fun i x hx hp => by
        obtain ⟨rfl, hi⟩ := ns_get hx
        rw [b0 i hi]
        rcases in2 i hi with ⟨q1, _⟩ | ⟨_, q2⟩
        · unfold bad1 at hp; rw [q1] at hp; cases hp
        · exact q2)
      (fun i x hx hp => by
        obtain ⟨rfl, hi⟩ := ns_get hx
        rw [b0 i hi]
        rcases in2 i hi with ⟨_, q⟩ | ⟨q1, _⟩
        · exact q
        · unfold bad1 at hp; rw [q1] at hp; cases hp) (e := (c.From.length : Int)) (by rw [ns_length]; exact b2) with ⟨g1, y, g2, g3⟩ | ⟨g1, g2⟩
    · refine ⟨y, by rw [g2]; rfl, ?_⟩
      unfold lawB
      rw [h1, g1]
      simpa using g3
    · refine ⟨z, by rw [g2]; rfl, ?_⟩
      unfold lawB
      rw [h1, g1, hz]
      rfl

section
variable {c : MCategory} (H : Shape c)
include H
theorem specFault : ∃ y, spec_l02Fault c = some y ∧ (y.1 == 0) = lawB c := by
  have hm := H.m
  have hil := H.il
  have u0 : ∀ i : Nat, i < c.From.length → spec_l02Fault_L0 c i = if unitB c i then some (Out.norm ((i + 1 : Nat) : Int)) else some (Out.ret ((1 : Int), (i : Int), (0 : Int), (0 : Int))) := by
    intro i hi
    have f1 := H.fr (f := (i : Int)) (by omega) (by omega)
    have t1 := H.to (f := (i : Int)) (by omega) (by omega)
    have i1 := H.id f1.1 f1.2
    have i2 := H.id t1.1 t1.2
    unfold spec_l02Fault_L0
    rw [decT (by omega), cond_true, H.idxF (by omega) (by omega), some_bind', H.idxI f1.1 f1.2, some_bind', H.idxK i1.1 i1.2, some_bind', H.idxC i1.1 i1.2 (by omega) (by omega), some_bind']
    rw [H.idxK (by omega) (by omega), some_bind', H.idxT (by omega) (by omega), some_bind', H.idxI t1.1 t1.2, some_bind', H.idxC (by omega) (by omega) i2.1 i2.2, some_bind']
    unfold unitB
    by_cases e1 : gk c.Composites (gi c.Identity (gi c.From i)) i = i
    · by_cases e2 : gk c.Composites i (gi c.Identity (gi c.To i)) = i
      · simp [e1, e2, w64_nat (show i < 9223372036854775807 by omega)]
      · simp [e1, e2, bneT e2]
    · simp [e1, bneT e1]
  unfold spec_l02Fault
  refine faultOf (c := c) (z := (0, 0, 0, 0)) rfl (L2 := spec_l02Fault_L2 c) (L3 := spec_l02Fault_L3 c) (k4 := 4) (k6 := 6) ?_ ?_ ?_ ?_ ?_ ?_ ?_ ?_ ?_ ?_ ?_
  · intro i hi hp; rw [u0 i hi, hp]; rfl
  · intro i hi hp; rw [u0 i hi, hp]; exact ⟨_, rfl, by simp⟩
  · unfold spec_l02Fault_L0; rw [decF (by omega), cond_false]
  · intro i hi; unfold spec_l02Fault_L1; rw [decT (by omega), cond_true, w64_nat (by omega)]
  · unfold spec_l02Fault_L1; rw [decF (by omega), cond_false]
  · intro i j hi hj he
    unfold spec_l02Fault_L2
    rw [decT (by omega), cond_true, H.idxT (by omega) (by omega), some_bind', H.idxF (by omega) (by omega), some_bind', show (gi c.To (i : Int) != gi c.From (j : Int)) = true by simp [he], cond_true, w64_nat (by omega)]
  · intro i j hi hj he
    unfold spec_l02Fault_L2
    rw [decT (by omega), cond_true, H.idxT (by omega) (by omega), some_bind', H.idxF (by omega) (by omega), some_bind', show (gi c.To (i : Int) != gi c.From (j : Int)) = false by simp [he], cond_false, w64_nat (by omega)]
  · intro i; unfold spec_l02Fault_L2; rw [decF (by omega), cond_false]
  · intro i j h hi hj hh he hp
    unfold spec_l02Fault_L3
    rw [decT (by omega), cond_true, H.idxT (by omega) (by omega), some_bind', H.idxF (by omega) (by omega), some_bind']
    unfold bad3 at hp
    by_cases e : gi c.To j = gi c.From h
    · have c1 := H.cell i j (by omega) (by omega) (by omega) (by omega) he
      have c2 := H.cell j h (by omega) (by omega) (by omega) (by omega) e
      rw [show (gi c.To (j : Int) == gi c.From (h : Int)) = true by simp [e]] at hp ⊢
      rw [cond_true, H.idxK (by omega) (by omega), some_bind', H.idxC (by omega) (by omega) (by omega) (by omega), some_bind', H.idxK c1.1 c1.2.1, some_bind', H.idxC c1.1 c1.2.1 (by omega) (by omega), some_bind', some_bind', H.idxK (by omega) (by omega), some_bind', H.idxC (by omega) (by omega) (by omega) (by omega), some_bind', H.idxC (by omega) (by omega) c2.1 c2.2.1, some_bind']
      rw [Bool.true_and] at hp
      rw [hp, some_bind', cond_false, w64_nat (by omega)]
    · rw [show (gi c.To (j : Int) == gi c.From (h : Int)) = false by simp [e], cond_false, some_bind', cond_false, w64_nat (by omega)]
  · intro i j h hi hj hh he hp
    unfold spec_l02Fault_L3
    rw [decT (by omega), cond_true, H.idxT (by omega) (by omega), some_bind', H.idxF (by omega) (by omega), some_bind']
    unfold bad3 at hp
    simp only [Bool.and_eq_true] at hp
    have e : gi c.To j = gi c.From h := by simpa using hp.1
    have c1 := H.cell i j (by omega) (by omega) (by omega) (by omega) he
    have c2 := H.cell j h (by omega) (by omega) (by omega) (by omega) e
    rw [hp.1, cond_true, H.idxK (by omega) (by omega), some_bind', H.idxC (by omega) (by omega) (by omega) (by omega), some_bind', H.idxK c1.1 c1.2.1, some_bind', H.idxC c1.1 c1.2.1 (by omega) (by omega), some_bind', some_bind', H.idxK (by omega) (by omega), some_bind', H.idxC (by omega) (by omega) (by omega) (by omega), some_bind', H.idxC (by omega) (by omega) c2.1 c2.2.1, some_bind']
    rw [hp.2, some_bind', cond_true]
    exact ⟨_, rfl, by simp⟩
  · intro i j; unfold spec_l02Fault_L3; rw [decF (by omega), cond_false]

theorem implFault : ∃ y, impl_Category_fault c = some y ∧ (y.1 == 0) = lawB c := by
  have hm := H.m
  have hil := H.il
  have u0 : ∀ i : Nat, i < c.From.length → impl_Category_fault_L0 c c.From.length i = if unitB c i then some (Out.norm ((i + 1 : Nat) : Int)) else some (Out.ret ((1 : Int), (i : Int), (0 : Int), (0 : Int))) := by
    intro i hi
    have f1 := H.fr (f := (i : Int)) (by omega) (by omega)
    have t1 := H.to (f := (i : Int)) (by omega) (by omega)
    have i1 := H.id f1.1 f1.2
    have i2 := H.id t1.1 t1.2
    unfold impl_Category_fault_L0
    rw [decT (by omega), cond_true, H.idxF (by omega) (by omega), some_bind', H.idxI f1.1 f1.2, some_bind', H.thenI i1.1 i1.2 (by omega) (by omega), some_bind']
    rw [H.idxT (by omega) (by omega), some_bind', H.idxI t1.1 t1.2, some_bind', H.thenI (by omega) (by omega) i2.1 i2.2, some_bind']
    unfold unitB
    by_cases e1 : gk c.Composites (gi c.Identity (gi c.From i)) i = i
    · by_cases e2 : gk c.Composites i (gi c.Identity (gi c.To i)) = i
      · simp [e1, e2, w64_nat (show i < 9223372036854775807 by omega)]
      · simp [e1, e2, bneT e2]
    · simp [e1, bneT e1]
  have pos : ∀ i j : Nat, i < c.From.length → j < c.From.length → (gi c.To i = gi c.From j → 0 ≤ gk c.Composites i j) ∧ (gi c.To i ≠ gi c.From j → gk c.Composites i j < 0) := by
    intro i j hi hj
    refine ⟨fun e => (H.cell i j (by omega) (by omega) (by omega) (by omega) e).1, fun e => ?_⟩
    rw [H.none i j (by omega) (by omega) (by omega) (by omega) e]; decide
  unfold impl_Category_fault impl_Category_arrows
  rw [show retM (S := Unit) (some (Out.ret (c.From.length : Int))) = some (c.From.length : Int) from rfl, some_bind']
  refine faultOf (c := c) (z := (0, 0, 0, 0)) rfl (L2 := impl_Category_fault_L2 c c.From.length) (L3 := impl_Category_fault_L3 c c.From.length) (k4 := 4) (k6 := 6) ?_ ?_ ?_ ?_ ?_ ?_ ?_ ?_ ?_ ?_ ?_
  · intro i hi hp; rw [u0 i hi, hp]; rfl
  · intro i hi hp; rw [u0 i hi, hp]; exact ⟨_, rfl, by simp⟩
  · unfold impl_Category_fault_L0; rw [decF (by omega), cond_false]
  · intro i hi; unfold impl_Category_fault_L1; rw [decT (by omega), cond_true, w64_nat (by omega)]
  · unfold impl_Category_fault_L1; rw [decF (by omega), cond_false]
  · intro i j hi hj he
    unfold impl_Category_fault_L2
    rw [decT (by omega), cond_true, H.thenI (by omega) (by omega) (by omega) (by omega), some_bind', decT ((pos i j hi hj).2 he), cond_true, w64_nat (by omega)]
  · intro i j hi hj he
    have := (pos i j hi hj).1 he
    unfold impl_Category_fault_L2
    rw [decT (by omega), cond_true, H.thenI (by omega) (by omega) (by omega) (by omega), some_bind', decF (by omega), cond_false, w64_nat (by omega)]
  · intro i; unfold impl_Category_fault_L2; rw [decF (by omega), cond_false]
  · intro i j h hi hj hh he hp
    unfold impl_Category_fault_L3
    rw [decT (by omega), cond_true, H.thenI (by omega) (by omega) (by omega) (by omega), some_bind']
    unfold bad3 at hp
    by_cases e : gi c.To j = gi c.From h
    · have c1 := H.cell i j (by omega) (by omega) (by omega) (by omega) he
      have c2 := H.cell j h (by omega) (by omega) (by omega) (by omega) e
      rw [show (gi c.To (j : Int) == gi c.From (h : Int)) = true by simp [e], Bool.true_and] at hp
      rw [decT (show gk c.Composites j h ≥ 0 from c2.1), cond_true, H.thenI (by omega) (by omega) (by omega) (by omega), some_bind', H.thenI c1.1 c1.2.1 (by omega) (by omega), some_bind', some_bind', H.thenI (by omega) (by omega) c2.1 c2.2.1, some_bind', hp, some_bind', cond_false, w64_nat (by omega)]
    · have := (pos j h hj hh).2 e
      rw [decF (show ¬ gk c.Composites j h ≥ 0 by omega), cond_false, some_bind', cond_false, w64_nat (by omega)]
  · intro i j h hi hj hh he hp
    unfold impl_Category_fault_L3
    unfold bad3 at hp
    simp only [Bool.and_eq_true] at hp
    have e : gi c.To j = gi c.From h := by simpa using hp.1
    have c1 := H.cell i j (by omega) (by omega) (by omega) (by omega) he
    have c2 := H.cell j h (by omega) (by omega) (by omega) (by omega) e
    rw [decT (by omega), cond_true, H.thenI (by omega) (by omega) (by omega) (by omega), some_bind', decT (show gk c.Composites j h ≥ 0 from c2.1), cond_true, H.thenI (by omega) (by omega) (by omega) (by omega), some_bind', H.thenI c1.1 c1.2.1 (by omega) (by omega), some_bind', some_bind', H.thenI (by omega) (by omega) c2.1 c2.2.1, some_bind', hp.2, some_bind', cond_true]
    exact ⟨_, rfl, by simp⟩
  · intro i j; unfold impl_Category_fault_L3; rw [decF (by omega), cond_false]
end

/-- what is known of a category -/
structure Cat (c : MCategory) : Prop extends Shape c where
  unitL : ∀ f : Int, 0 ≤ f → f < c.From.length → gk c.Composites (gi c.Identity (gi c.From f)) f = f
  unitR : ∀ f : Int, 0 ≤ f → f < c.From.length → gk c.Composites f (gi c.Identity (gi c.To f)) = f
  assoc : ∀ f g h : Int, 0 ≤ f → f < c.From.length → 0 ≤ g → g < c.From.length → 0 ≤ h → h < c.From.length → gi c.To f = gi c.From g → gi c.To g = gi c.From h →
    gk c.Composites (gk c.Composites f g) h = gk c.Composites f (gk c.Composites g h)
def catB (c : MCategory) : Bool := shapeB c && lawB c
theorem cat_of {c : MCategory} (h : catB c = true) : Cat c := by
  unfold catB at h
  simp only [Bool.and_eq_true] at h
  obtain ⟨h1, h2⟩ := h
  have H := shape_of h1
  unfold lawB at h2
  simp only [Bool.and_eq_true, List.all_eq_true, Bool.not_eq_true', List.any_eq_false] at h2
  obtain ⟨h2, h3⟩ := h2
  refine { H with
    unitL := fun f a b => ?_
    unitR := fun f a b => ?_
    assoc := fun f g h a b a' b' a'' b'' e1 e2 => ?_ }
  · have := h2 f (ns_mem.2 ⟨a, b⟩); unfold unitB at this; simp at this; exact this.1
  · have := h2 f (ns_mem.2 ⟨a, b⟩); unfold unitB at this; simp at this; exact this.2
  · have := h3 f (ns_mem.2 ⟨a, b⟩)
    unfold bad1 at this
    simp only [List.any_eq_true, not_exists, not_and] at this
    have := this g (ns_mem.2 ⟨a', b'⟩)
    unfold bad2 at this
    simp only [Bool.and_eq_true, beq_iff_eq, List.any_eq_true, not_and, not_exists] at this
    have := this e1 h (ns_mem.2 ⟨a'', b''⟩)
    unfold bad3 at this
    simpa [e2] using this
theorem specIs {c : MCategory} (hs : CatSmall c) : spec_l02Is c = some (catB c) := by
  unfold spec_l02Is
  rw [specShape hs, some_bind']
  unfold catB
  cases h : shapeB c with
  | false => rfl
  | true =>
    obtain ⟨y, h1, h2⟩ := specFault (shape_of h)
    rw [Bool.not_true, cond_false, h1, some_bind', h2]; rfl
theorem implIs {c : MCategory} (hs : CatSmall c) : impl_Category_isCategory c = some (catB c) := by
  unfold impl_Category_isCategory
  rw [implShape hs, some_bind']
  unfold catB
  cases h : shapeB c with
  | false => rfl
  | true =>
    obtain ⟨y, h1, h2⟩ := implFault (shape_of h)
    rw [Bool.not_true, cond_false, h1, some_bind', h2]; rfl
end Go.Proofs.YtcmckiiafgcmjaaGreat
