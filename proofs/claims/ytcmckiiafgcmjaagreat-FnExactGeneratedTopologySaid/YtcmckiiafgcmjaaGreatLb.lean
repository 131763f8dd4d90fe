/- Regions and their operations: what each operation gives, and how a region is walked. No condition. -/
import Derived.Test.YtcmckiiafgcmjaaGreatLa
import Derived.Tactics
import Derived.Laws.Entries
import Derived.Laws.Cells
import Derived.Laws.Rows
import Derived.Laws.Build
import Derived.Laws.ByValue
namespace Go.Li
open Go

/-- what stood in the world and is not among the blocks F is as it was -/
structure Chg (F : List Nat) (w w' : World) : Prop where
  os : w'.os = w.os
  tape : w'.tape = w.tape
  output : w'.output = w.output
  drawn : w.drawn ≤ w'.drawn
  size : w.heap.size ≤ w'.heap.size
  block : ∀ b, b < w.heap.size → b ∉ F → w'.heap[b]? = w.heap[b]?

theorem Chg.refl (F : List Nat) (w : World) : Chg F w w := ⟨rfl, rfl, rfl, Nat.le_refl _, Nat.le_refl _, fun _ _ _ => rfl⟩
theorem Chg.mono {F G : List Nat} {w w' : World} (h : Chg F w w') (hs : ∀ b ∈ F, b ∈ G) : Chg G w w' :=
  ⟨h.os, h.tape, h.output, h.drawn, h.size, fun b hb hn => h.block b hb fun hm => hn (hs b hm)⟩
theorem Chg.nil {G : List Nat} {w w' : World} (h : Chg [] w w') : Chg G w w' := h.mono fun _ hb => nomatch hb
theorem Chg.trans {F : List Nat} {a b c : World} (h : Chg F a b) (k : Chg F b c) : Chg F a c :=
  ⟨k.os.trans h.os, k.tape.trans h.tape, k.output.trans h.output, Nat.le_trans h.drawn k.drawn, Nat.le_trans h.size k.size,
    fun i hi hn => (k.block i (Nat.lt_of_lt_of_le hi h.size) hn).trans (h.block i hi hn)⟩
/-- what a second step changes lies, for the first world, among F or was not there -/
theorem Chg.then {F G : List Nat} {a b c : World} (h : Chg F a b) (k : Chg G b c) (hG : ∀ i ∈ G, i ∈ F ∨ a.heap.size ≤ i) : Chg F a c :=
  ⟨k.os.trans h.os, k.tape.trans h.tape, k.output.trans h.output, Nat.le_trans h.drawn k.drawn, Nat.le_trans h.size k.size,
    fun i hi hn => (k.block i (Nat.lt_of_lt_of_le hi h.size) (fun hm => (hG i hm).elim hn (fun hle => absurd hi (Nat.not_lt.2 hle)))).trans (h.block i hi hn)⟩
theorem Chg.drew (F : List Nat) (w : World) : Chg F w { w with drawn := w.drawn + 1 } := ⟨rfl, rfl, rfl, Nat.le_succ _, Nat.le_refl _, fun _ _ _ => rfl⟩
theorem Chg.alloc (F : List Nat) (w : World) (o : Obj) : Chg F w (w.alloc o) :=
  ⟨rfl, rfl, rfl, Nat.le_refl _, by simp, fun b hb _ => by
    show (w.heap.push o)[b]? = _
    rw [Array.getElem?_push, if_neg (by omega)]⟩
theorem Chg.setCell (w : World) (a : Addr) (v : Value) : Chg [a.block] w (w.setCell a v) :=
  ⟨rfl, rfl, rfl, Nat.le_refl _, by simp, fun b _ hn => by
    simp only [World.setCell, Array.getElem?_modify]
    rw [if_neg (fun h => hn (by simp [h]))]⟩

theorem cell_lt {w : World} {a : Addr} {v : Value} (h : w.cell? a = some v) : a.block < w.heap.size := by
  unfold World.cell? at h
  cases hb : w.heap[a.block]? with
  | none => rw [hb] at h; cases h
  | some o => exact (Array.getElem?_eq_some_iff.1 hb).1

theorem Chg.cell {F : List Nat} {w w' : World} (h : Chg F w w') {a : Addr} {v : Value} (hn : a.block ∉ F) (hc : w.cell? a = some v) : w'.cell? a = some v := by
  rw [← hc]; simp only [World.cell?, h.block a.block (cell_lt hc) hn]
theorem Chg.cell0 {w w' : World} (h : Chg [] w w') {a : Addr} {v : Value} (hc : w.cell? a = some v) : w'.cell? a = some v := h.cell (by simp) hc

section
variable {P : Program} {n : Nat} {Q : Exit → (Nat → Value) → World → Prop} {r : Nat → Value} {w : World}

/-- one operation, carried out -/
def OpW (P : Program) (o : Oper) (r : Nat → Value) (w : World) (K : Value → World → Prop) : Prop :=
  match (execOp (ev r) o).run P w with
  | .ok (.value v) w' => K v w'
  | .ok .skip w' => K undef w'
  | .ok (.enter f args) w' => Calls P f args w' fun e w'' => ∃ v, e = .returned v ∧ K v w''
  | _ => False

/-- operations one behind the other -/
def WL (P : Program) (ops : List Oper) : List Oper → (Nat → Value) → World → ((Nat → Value) → World → Prop) → Prop
  | [], r, w, K => K r w
  | o :: l, r, w, K => (Region.wanted o (yl ops r) = true ∧ OpW P o r w fun v w' => WL P ops l (updO r o.dst v) w' K) ∨
      (Region.wanted o (yl ops r) = false ∧ WL P ops l (updO r o.dst undef) w K)

theorem OpW.wp {o : Oper} {a : Act} {K : Value → World → Prop} {next : Act → World → Prop} {Q' : Exit → Act → World → Prop}
    (h : OpW P o (rho a) w K) (hk : ∀ v w', K v w' → next (a.put o.dst v) w') : o.wp P a w next Q' := by
  unfold Oper.wp
  rw [eval_rho]
  unfold OpW at h
  generalize (execOp (ev (rho a)) o).run P w = x at h
  cases x with
  | halt y w' => exact h.elim
  | ok y w' =>
    cases y <;> first
      | exact h.elim
      | exact hk _ _ h
      | exact h.mono (fun e w'' ⟨v, he, hv⟩ => by subst he; exact hk _ _ hv)

theorem W_region {id : Nat} {l : List Oper} (hd : dstOk n l = true) (h : WL P l l r w (Q .normal)) : W P n (.region id l.toArray false) Q r w := by
  intro a h1 h2 h3
  refine wp_region_lit ?_
  have key : ∀ (l' : List Oper) (a : Act) (w : World), dstOk n l' = true → a.tmps.size = n → a.defers = [] → WL P l l' (rho a) w (Q .normal) →
      wpList P l.toArray (fun e a' w' => a'.tmps.size = n ∧ a'.defers = [] ∧ Q e (rho a') w') l' a w := by
    intro l'
    induction l' with
    | nil => intro a w _ g1 g2 hh; exact ⟨g1, g2, hh⟩
    | cons o l' ih =>
      intro a w hd' g1 g2 hh
      obtain ⟨d1, d2⟩ := dstOk_cons hd'
      have hput : ∀ v, rho (a.put o.dst v) = updO (rho a) o.dst v := fun v => rho_putO (fun k hk => by rw [g1]; exact d1 k hk) v
      unfold wpList
      rw [yl_eq (by rw [g1]; exact hd)]
      rcases hh with ⟨hw, hh⟩ | ⟨hw, hh⟩
      · rw [if_pos hw]
        refine .inl (hh.wp fun v w' hv => ih _ _ d2 (by rw [size_put]; exact g1) (by rw [defers_put]; exact g2) (by rw [hput]; exact hv))
      · rw [if_neg (by rw [hw]; exact Bool.false_ne_true)]
        exact ih _ _ d2 (by rw [size_put]; exact g1) (by rw [defers_put]; exact g2) (by rw [hput]; exact hh)
  exact key l a w hd h1 h2 (by rw [h3]; exact h)

/-- operations that give one value in every world of the class, and stay in it -/
def OpQ (P : Program) (C : World → Prop) (o : Oper) (r : Nat → Value) (v : Value) : Prop :=
  ∀ w, C w → Oper.quietUpon P C w v ((execOp (ev r) o).run P w)

def QL (P : Program) (C : World → Prop) (ops : List Oper) : List Oper → (Nat → Value) → ((Nat → Value) → Prop) → Prop
  | [], r, K => K r
  | o :: l, r, K => (Region.wanted o (yl ops r) = true ∧ ∃ v, OpQ P C o r v ∧ QL P C ops l (updO r o.dst v) K) ∨
      (Region.wanted o (yl ops r) = false ∧ QL P C ops l (updO r o.dst undef) K)

theorem QL.wpQuiet {C : World → Prop} {l : List Oper} {K : (Nat → Value) → Prop} : ∀ (l' : List Oper) (a : Act), dstOk n l = true → dstOk n l' = true → a.tmps.size = n → a.defers = [] →
    QL P C l l' (rho a) K → Go.wpQuiet P l.toArray C (fun a' => a'.tmps.size = n ∧ a'.defers = [] ∧ K (rho a')) l' a := by
  intro l'
  induction l' with
  | nil => intro a _ _ g1 g2 hh; exact ⟨g1, g2, hh⟩
  | cons o l' ih =>
    intro a hd hd' g1 g2 hh
    obtain ⟨d1, d2⟩ := dstOk_cons hd'
    have hput : ∀ v, rho (a.put o.dst v) = updO (rho a) o.dst v := fun v => rho_putO (fun k hk => by rw [g1]; exact d1 k hk) v
    unfold Go.wpQuiet
    rw [yl_eq (by rw [g1]; exact hd)]
    rcases hh with ⟨hw, v, hv, hh⟩ | ⟨hw, hh⟩
    · rw [if_pos hw]
      refine ⟨v, fun w hC => ?_, ih _ hd d2 (by rw [size_put]; exact g1) (by rw [defers_put]; exact g2) (by rw [hput]; exact hh)⟩
      unfold Oper.quietAt
      rw [eval_rho]
      exact hv w hC
    · rw [if_neg (by rw [hw]; exact Bool.false_ne_true)]
      exact ih _ hd d2 (by rw [size_put]; exact g1) (by rw [defers_put]; exact g2) (by rw [hput]; exact hh)

theorem wpQuiet_mono' {C : World → Prop} {ops : Array Oper} {K K' : Act → Prop} : ∀ {l : List Oper} {a : Act}, wpQuiet P ops C K l a → (∀ a, K a → K' a) → wpQuiet P ops C K' l a := by
  intro l
  induction l with
  | nil => intro a h hk; exact hk _ h
  | cons o l ih =>
    intro a h hk
    unfold wpQuiet at h ⊢
    split
    · rename_i hw
      rw [if_pos hw] at h
      obtain ⟨v, h1, h2⟩ := h
      exact ⟨v, h1, ih h2 hk⟩
    · rename_i hw
      rw [if_neg hw] at h
      exact ih h hk

/-- a region whose operations are quiet, whether it draws its order or not -/
theorem W_quiet {id : Nat} {l : List Oper} {draw : Bool} {C : World → Prop} (hm : P.follows .mixedOrders = true) (hd : dstOk n l = true)
    (hB : draw = true → Region.lexB .any l.toArray = true) (hC : C w) (hC1 : C { w with drawn := w.drawn + 1 })
    (h : QL P C l l r fun r' => ∀ w', C w' → Q .normal r' w') : W P n (.region id l.toArray draw) Q r w := by
  cases draw with
  | true =>
    intro a h1 h2 h3
    refine wp_region_quiet (C := C) hm (hB rfl) hC1 ?_
    have := QL.wpQuiet (n := n) (C := C) (P := P) l a hd hd h1 h2 (by rw [h3]; exact h)
    refine wpQuiet_mono' (by simpa using this) ?_
    rintro a' ⟨g1, g2, g3⟩ w' hw'
    exact ⟨g1, g2, g3 w' hw'⟩
  | false =>
    refine W_region hd ?_
    have key : ∀ (l' : List Oper) (r : Nat → Value) (w : World), C w → QL P C l l' r (fun r' => ∀ w', C w' → Q .normal r' w') → WL P l l' r w (Q .normal) := by
      intro l'
      induction l' with
      | nil => intro r w hw hh; exact hh w hw
      | cons o l' ih =>
        intro r w hw hh
        rcases hh with ⟨hwt, v, hv, hh⟩ | ⟨hwt, hh⟩
        · refine .inl ⟨hwt, ?_⟩
          have h3 := hv w hw
          unfold OpW
          generalize (execOp (ev r) o).run P w = x at h3
          cases x with
          | halt y w' => exact h3.elim
          | ok y w' =>
            cases y <;> simp only [Oper.quietUpon] at h3
            case value u => obtain ⟨rfl, rfl⟩ := h3; exact ih _ _ hw hh
            case skip => obtain ⟨rfl, rfl⟩ := h3; exact ih _ _ hw hh
            case enter f args =>
              obtain ⟨rfl, h3⟩ := h3
              exact h3.mono fun e w'' ⟨he, hw''⟩ => ⟨v, he, ih _ _ hw'' hh⟩
        · exact .inr ⟨hwt, ih _ _ hw hh⟩
    exact key l r w hC h
end
end Go.Li
