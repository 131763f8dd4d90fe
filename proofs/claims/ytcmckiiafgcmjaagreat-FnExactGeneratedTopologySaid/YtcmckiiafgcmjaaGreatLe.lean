/- Walking: the small words of a walk; how a model's partial operations are taken apart. No condition. -/
import Derived.Test.YtcmckiiafgcmjaaGreatLd
namespace Go.Li
open Go

section
variable {P : Program} {n : Nat} {Q : Exit → (Nat → Value) → World → Prop} {r : Nat → Value} {w : World} {C : World → Prop} {ops l : List Oper} {o : Oper}

theorem QL.val {K : (Nat → Value) → Prop} {v : Value} (hg : o.guard = none) (h : ∀ w', C w' → (execOp (ev r) o).run P w' = .ok (.value v) w')
    (k : QL P C ops l (updO r o.dst v) K) : QL P C ops (o :: l) r K :=
  .inl ⟨by unfold Region.wanted; rw [hg], v, fun w' hC => by unfold Oper.quietUpon; rw [h w' hC]; exact ⟨rfl, rfl⟩, k⟩

theorem wanted_of {j : Nat} {t b : Bool} (hg : o.guard = some (j, t)) (hy : yl ops r j = some b) : Region.wanted o (yl ops r) = (b == t) := by
  unfold Region.wanted
  rw [hg]
  simp only [hy]
  cases b <;> cases t <;> rfl

/-- a guarded operation that is carried out -/
theorem QL.valG {K : (Nat → Value) → Prop} {v : Value} {j : Nat} {t : Bool} (hg : o.guard = some (j, t)) (hy : yl ops r j = some t) (h : ∀ w', C w' → (execOp (ev r) o).run P w' = .ok (.value v) w')
    (k : QL P C ops l (updO r o.dst v) K) : QL P C ops (o :: l) r K :=
  .inl ⟨by rw [wanted_of hg hy]; cases t <;> rfl, v, fun w' hC => by unfold Oper.quietUpon; rw [h w' hC]; exact ⟨rfl, rfl⟩, k⟩
/-- a guarded operation that is passed over -/
theorem QL.skipG {K : (Nat → Value) → Prop} {j : Nat} {t b : Bool} (hg : o.guard = some (j, t)) (hy : yl ops r j = some b) (hb : (b == t) = false)
    (k : QL P C ops l (updO r o.dst undef) K) : QL P C ops (o :: l) r K :=
  .inr ⟨by rw [wanted_of hg hy]; exact hb, k⟩
/-- a guarded operation whose guard has not been reckoned -/
theorem QL.skipN {K : (Nat → Value) → Prop} {j : Nat} {t : Bool} (hg : o.guard = some (j, t)) (hy : yl ops r j = none)
    (k : QL P C ops l (updO r o.dst undef) K) : QL P C ops (o :: l) r K :=
  .inr ⟨by unfold Region.wanted; rw [hg]; simp only [hy]; rfl, k⟩
/-- a call -/
theorem QL.call {K : (Nat → Value) → Prop} {v : Value} {f : FuncId} {args : Array Value} (hg : o.guard = none) (h : ∀ w', C w' → (execOp (ev r) o).run P w' = .ok (.enter f args) w')
    (hc : ∀ w', C w' → Calls P f args w' fun e w'' => e = .returned v ∧ C w'')
    (k : QL P C ops l (updO r o.dst v) K) : QL P C ops (o :: l) r K :=
  .inl ⟨by unfold Region.wanted; rw [hg], v, fun w' hC => by unfold Oper.quietUpon; rw [h w' hC]; exact ⟨rfl, hc w' hC⟩, k⟩
theorem QL.callG {K : (Nat → Value) → Prop} {v : Value} {j : Nat} {t : Bool} {f : FuncId} {args : Array Value} (hg : o.guard = some (j, t)) (hy : yl ops r j = some t) (h : ∀ w', C w' → (execOp (ev r) o).run P w' = .ok (.enter f args) w')
    (hc : ∀ w', C w' → Calls P f args w' fun e w'' => e = .returned v ∧ C w'')
    (k : QL P C ops l (updO r o.dst v) K) : QL P C ops (o :: l) r K :=
  .inl ⟨by rw [wanted_of hg hy]; cases t <;> rfl, v, fun w' hC => by unfold Oper.quietUpon; rw [h w' hC]; exact ⟨rfl, hc w' hC⟩, k⟩

theorem WL.val {K : (Nat → Value) → World → Prop} {v : Value} {w' : World} (hg : o.guard = none) (h : (execOp (ev r) o).run P w = .ok (.value v) w')
    (k : WL P ops l (updO r o.dst v) w' K) : WL P ops (o :: l) r w K :=
  .inl ⟨by unfold Region.wanted; rw [hg], by unfold OpW; rw [h]; exact k⟩
theorem WL.skip {K : (Nat → Value) → World → Prop} {w' : World} (hg : o.guard = none) (h : (execOp (ev r) o).run P w = .ok .skip w')
    (k : WL P ops l (updO r o.dst undef) w' K) : WL P ops (o :: l) r w K :=
  .inl ⟨by unfold Region.wanted; rw [hg], by unfold OpW; rw [h]; exact k⟩
theorem WL.call {K : (Nat → Value) → World → Prop} {f : FuncId} {args : Array Value} {R : Ending → World → Prop} (hg : o.guard = none) (h : (execOp (ev r) o).run P w = .ok (.enter f args) w)
    (hc : Calls P f args w R) (k : ∀ e w', R e w' → ∃ v, e = .returned v ∧ WL P ops l (updO r o.dst v) w' K) : WL P ops (o :: l) r w K :=
  .inl ⟨by unfold Region.wanted; rw [hg], by unfold OpW; rw [h]; exact hc.mono k⟩
end

theorem QL.meet {P : Program} {C : World → Prop} {ops : List Oper} {K : (Nat → Value) → Prop} (K' : (Nat → Value) → Prop) : ∀ {l : List Oper} {r : Nat → Value}, QL P C ops l r K' → (∀ r, K' r → K r) → QL P C ops l r K := by
  intro l
  induction l with
  | nil => intro r h hk; exact hk _ h
  | cons o l ih =>
    intro r h hk
    rcases h with ⟨h1, v, h2, h3⟩ | ⟨h1, h3⟩
    · exact .inl ⟨h1, v, h2, ih h3 hk⟩
    · exact .inr ⟨h1, ih h3 hk⟩

/-- an element of a list at an index of Go's -/
def idx {α : Type} (l : List α) (j : Int) : Option α := if 0 ≤ j then l[j.toNat]? else none
theorem idx_some {α : Type} {l : List α} {j : Int} {x : α} (h : idx l j = some x) : 0 ≤ j ∧ l[j.toNat]? = some x := by
  unfold idx at h
  split at h
  · rename_i h0; exact ⟨h0, h⟩
  · cases h

def retM {S R : Type} : Option (Out S R) → Option R
  | some (.ret x) => some x
  | _ => none
theorem retM_some {S R : Type} {m : Option (Out S R)} {x : R} (h : retM m = some x) : m = some (.ret x) := by
  cases m with
  | none => cases h
  | some o => cases o <;> first | cases h; rfl | cases h

theorem retM_some' {S R : Type} {m : Option (Out S R)} {x : R} (h : retM m = some x) : m = some (.ret x) := retM_some h
/-- a slice's literal or an append may be so long -/
def fits (bytes n : Nat) : Option Unit := if n * bytes ≤ 140737488355328 ∧ n ≤ 9223372036854775807 then some () else none
theorem fits_some {bytes n : Nat} {u : Unit} (h : fits bytes n = some u) : n * bytes ≤ 140737488355328 ∧ n ≤ maxLen := by
  unfold fits at h
  split at h
  · assumption
  · cases h
/-- 'make' of so many -/
def mk (bytes : Nat) (n : Int) : Option Nat := if 0 ≤ n ∧ bytes * n.toNat ≤ 281474976710656 ∧ n.toNat ≤ 9223372036854775807 then some n.toNat else none
theorem mk_some {bytes : Nat} {n : Int} {k : Nat} (h : mk bytes n = some k) : n = (k : Int) ∧ bytes * k ≤ 281474976710656 ∧ k ≤ maxLen := by
  unfold mk at h
  split at h
  · rename_i h1
    cases h
    exact ⟨by omega, h1.2⟩
  · cases h
def w64 (a : Int) : Int := IntKind.i64.wrap a

theorem bind_some {α β : Type} {m : Option α} {f : α → Option β} {y : β} (h : (m >>= f) = some y) : ∃ x, m = some x ∧ f x = some y := Option.bind_eq_some_iff.1 h

/-- the slots that are known, over a frame of which nothing is known -/
def updL (F : Nat → Value) : List (Nat × Value) → (Nat → Value)
  | [] => F
  | (a, v) :: l => upd (updL F l) a v
def agree (r : Nat → Value) : List (Nat × Value) → Prop
  | [] => True
  | (a, v) :: l => r a = v ∧ agree r l
theorem upd_self (F : Nat → Value) (a : Nat) : upd F a (F a) = F := by
  funext t
  unfold upd
  cases hb : Nat.beq t a with
  | false => rfl
  | true => rw [Nat.eq_of_beq_eq_true hb]; rfl
theorem fr {r : Nat → Value} : ∀ {l : List (Nat × Value)}, agree r l → ∃ F, r = updL F l := by
  intro l h
  refine ⟨r, ?_⟩
  induction l with
  | nil => rfl
  | cons p l ih =>
    obtain ⟨a, v⟩ := p
    obtain ⟨h1, h2⟩ := h
    unfold updL
    rw [← ih h2, ← h1, upd_self]
end Go.Li
