/- The walk's own calculus: a frame as a function of its slots, one rule a kind of code. No condition. -/
import Derived.Calls
import Derived.Orders
import Derived.Deep.Quiet
import Derived.Deep.LoopGhost
import Derived.Laws.Sem
import Derived.Below
namespace Go.Li
open Go

/-- the frame with one slot written -/
def upd (r : Nat → Value) (d : Nat) (v : Value) : Nat → Value := fun t => bif Nat.beq t d then v else r t
def updO (r : Nat → Value) : Option Nat → Value → (Nat → Value)
  | some d, v => upd r d v
  | none, _ => r
/-- what an operand is in a frame -/
def ev (r : Nat → Value) : Operand → Value
  | .tmp t => r t
  | .const v => v
  | .global g => .pointer (some ⟨g, 0, none⟩)
  | .func f => .func (.func f) #[] #[]

def rho (a : Act) : Nat → Value := fun t => a.tmps.getD t undef

theorem eval_rho (a : Act) : a.eval = ev (rho a) := by
  funext x; cases x <;> rfl

theorem rho_put {a : Act} {d : Nat} (h : d < a.tmps.size) (v : Value) : rho (a.put (some d) v) = upd (rho a) d v := by
  funext t
  simp only [rho, Act.put, upd]
  by_cases e : t = d
  · subst e
    simp [Array.getD, h]
  · have : Nat.beq t d = false := by
      cases hb : Nat.beq t d with
      | false => rfl
      | true => exact absurd (Nat.eq_of_beq_eq_true hb) e
    rw [this]
    simp only [cond_false, Array.getD_eq_getD_getElem?]
    rw [Array.getElem?_setIfInBounds_ne (fun h => e h.symm)]

theorem size_put (a : Act) (d : Option Nat) (v : Value) : (a.put d v).tmps.size = a.tmps.size := by
  cases d <;> simp [Act.put]

theorem defers_put (a : Act) (d : Option Nat) (v : Value) : (a.put d v).defers = a.defers := by
  cases d <;> simp [Act.put]

/-- all slots that the operations write lie in the frame -/
def dstOk (n : Nat) (l : List Oper) : Bool := l.all fun o => match o.dst with | some d => Nat.blt d n | none => true

theorem dstOk_cons {n : Nat} {o : Oper} {l : List Oper} (h : dstOk n (o :: l) = true) :
    (∀ d, o.dst = some d → d < n) ∧ dstOk n l = true := by
  simp only [dstOk, List.all_cons, Bool.and_eq_true] at h
  refine ⟨fun d hd => ?_, h.2⟩
  have := h.1
  rw [hd] at this
  exact Nat.lt_of_succ_le (Nat.le_of_ble_eq_true this)

theorem rho_putO {a : Act} {d : Option Nat} (h : ∀ k, d = some k → k < a.tmps.size) (v : Value) : rho (a.put d v) = updO (rho a) d v := by
  cases d with
  | none => rfl
  | some k => exact rho_put (h k rfl) v

/-- what a guard's slot says -/
def yl (ops : List Oper) (r : Nat → Value) (j : Nat) : Option Bool :=
  match ((ops[j]?).bind (·.dst)) with
  | some d => match r d with | .bool b => some b | _ => none
  | none => none

theorem yl_eq {ops : List Oper} {a : Act} (hd : dstOk a.tmps.size ops = true) : yielded ops.toArray a.tmps = yl ops (rho a) := by
  funext j
  simp only [yielded, yl]
  rw [List.getElem?_toArray]
  cases h : (ops[j]?).bind (·.dst) with
  | none => rfl
  | some d =>
    have hlt : d < a.tmps.size := by
      cases ho : ops[j]? with
      | none => simp [ho] at h
      | some o =>
        simp [ho] at h
        have hm : o ∈ ops := List.mem_of_getElem? ho
        simp only [dstOk, List.all_eq_true] at hd
        have := hd o hm
        rw [h] at this
        exact Nat.lt_of_succ_le (Nat.le_of_ble_eq_true this)
    simp only [Option.bind_some, rho, Array.getD_eq_getD_getElem?, hlt, Array.getElem?_eq_getElem, Option.getD_some]
    cases a.tmps[d] <;> rfl

/-- the code, carried out from this frame and world, comes to Q -/
def W (P : Program) (n : Nat) (c : Code) (Q : Exit → (Nat → Value) → World → Prop) (r : Nat → Value) (w : World) : Prop :=
  ∀ a : Act, a.tmps.size = n → a.defers = [] → rho a = r →
    c.wp P (fun e a' w' => a'.tmps.size = n ∧ a'.defers = [] ∧ Q e (rho a') w') a w

section
variable {P : Program} {n : Nat} {Q : Exit → (Nat → Value) → World → Prop} {r : Nat → Value} {w : World}

theorem W_mono {c : Code} {Q' : Exit → (Nat → Value) → World → Prop} (h : W P n c Q r w) (hq : ∀ e r w, Q e r w → Q' e r w) : W P n c Q' r w :=
  fun a h1 h2 h3 => wp_mono (h a h1 h2 h3) fun _ _ _ ⟨x, y, z⟩ => ⟨x, y, hq _ _ _ z⟩

theorem W_skip (h : Q .normal r w) : W P n .skip Q r w := fun a h1 h2 h3 => wp_skip ⟨h1, h2, by rw [h3]; exact h⟩
theorem W_exit {k : Nat} (h : Q (.exit k) r w) : W P n (.exit k) Q r w := fun a h1 h2 h3 => wp_exit ⟨h1, h2, by rw [h3]; exact h⟩
theorem W_ret (h : Q .ret r w) : W P n .ret Q r w := fun a h1 h2 h3 => wp_ret ⟨h1, h2, by rw [h3]; exact h⟩

/-- what stands behind a piece of code -/
def andThen (next : (Nat → Value) → World → Prop) (Q : Exit → (Nat → Value) → World → Prop) : Exit → (Nat → Value) → World → Prop
  | .normal, r, w => next r w
  | e, r, w => Q e r w

theorem andThen_n {next : (Nat → Value) → World → Prop} (h : next r w) : andThen next Q .normal r w := h
theorem W_seq {x y : Code} (h : W P n x (andThen (W P n y Q) Q) r w) : W P n (.seq x y) Q r w := by
  intro a h1 h2 h3
  refine wp_seq (wp_mono (h a h1 h2 h3) ?_)
  rintro e a' w' ⟨g1, g2, g3⟩
  cases e
  case normal => exact g3 a' g1 g2 rfl
  all_goals exact ⟨g1, g2, g3⟩

theorem W_cond {t : Nat} {x y : Code} {b : Bool} (hb : r t = .bool b) (ht : b = true → W P n x Q r w) (hf : b = false → W P n y Q r w) :
    W P n (.cond (.tmp t) x y) Q r w := by
  intro a h1 h2 h3
  refine wp_cond (t := b) (by rw [eval_rho, h3]; exact hb) ?_
  cases b
  · exact hf rfl a h1 h2 h3
  · exact ht rfl a h1 h2 h3

/-- what a block makes of the exits -/
def inBlk (k : Nat) (Q : Exit → (Nat → Value) → World → Prop) : Exit → (Nat → Value) → World → Prop
  | .exit j, r, w => bif Nat.beq j k then Q .normal r w else Q (.exit j) r w
  | e, r, w => Q e r w

theorem inBlk_n {k : Nat} (h : Q .normal r w) : inBlk k Q .normal r w := h
theorem inBlk_x {k : Nat} (h : Q .normal r w) : inBlk k Q (.exit k) r w := by
  show (bif Nat.beq k k then _ else _); rw [show Nat.beq k k = true from Nat.beq_refl k]; exact h
theorem W_block {k : Nat} {c : Code} (h : W P n c (inBlk k Q) r w) : W P n (.block k c) Q r w := by
  intro a h1 h2 h3
  refine wp_block (wp_mono (h a h1 h2 h3) ?_)
  rintro e a' w' ⟨g1, g2, g3⟩
  cases e
  case exit j =>
    simp only [inBlk] at g3
    simp only [Exit.inBlock]
    by_cases e : j = k
    · subst e
      rw [show Nat.beq j j = true from Nat.beq_refl j] at g3
      simp only [if_true]
      exact ⟨g1, g2, g3⟩
    · have hb : Nat.beq j k = false := by
        cases hb : Nat.beq j k with
        | false => rfl
        | true => exact absurd (Nat.eq_of_beq_eq_true hb) e
      rw [hb] at g3
      simp only [e, if_false]
      exact ⟨g1, g2, g3⟩
  all_goals exact ⟨g1, g2, g3⟩

/-- a loop, by a measure that stands in a ghost -/
theorem W_loop {c : Code} (I : Nat → (Nat → Value) → World → Prop) (k0 : Nat) (h0 : I k0 r w)
    (round : ∀ k r w, I k r w → W P n c (andThen (fun r' w' => ∃ j, j < k ∧ I j r' w') Q) r w) : W P n (.loop c) Q r w := by
  have key : ∀ k r w, I k r w → ∀ a : Act, a.tmps.size = n → a.defers = [] → rho a = r → (Code.loop c).wp P (fun e a' w' => a'.tmps.size = n ∧ a'.defers = [] ∧ Q e (rho a') w') a w := by
    intro k r w hI a h1 h2 h3
    refine wp_loop_ghost (fun k a w => a.tmps.size = n ∧ a.defers = [] ∧ I k (rho a) w) k ⟨h1, h2, by rw [h3]; exact hI⟩ ?_
    rintro k a w ⟨g1, g2, g3⟩
    refine wp_mono (round k _ _ g3 a g1 g2 rfl) ?_
    rintro e a' w' ⟨f1, f2, f3⟩
    cases e
    case normal =>
      obtain ⟨j, hj, hI⟩ := f3
      exact ⟨j, hj, f1, f2, hI⟩
    all_goals exact ⟨f1, f2, f3⟩
  exact fun a h1 h2 h3 => key k0 r w h0 a h1 h2 h3

/-- what a piece of code can come to, in the model -/
inductive Out (S R : Type) where
  | norm (s : S)
  | exit (k : Nat) (s : S)
  | ret (r : R)

variable {S R : Type}
def outPost (N : S → (Nat → Value) → World → Prop) (X : Nat → S → (Nat → Value) → World → Prop) (T : R → (Nat → Value) → World → Prop) :
    Out S R → Exit → (Nat → Value) → World → Prop
  | .norm s, .normal, r, w => N s r w
  | .exit k s, .exit j, r, w => j = k ∧ X k s r w
  | .ret x, .ret, r, w => T x r w
  | _, _, _, _ => False

def obind (m : Option (Out S R)) (f : S → Option (Out S R)) : Option (Out S R) :=
  match m with
  | some (.norm s) => f s
  | some (.exit k s) => some (.exit k s)
  | some (.ret x) => some (.ret x)
  | none => none

def blkO (k : Nat) : Out S R → Out S R
  | .exit j s => bif Nat.beq j k then .norm s else .exit j s
  | o => o

def blockM (k : Nat) (m : Option (Out S R)) : Option (Out S R) := m.map (blkO k)

def loopN (body : S → Option (Out S R)) : Nat → S → Option (Out S R)
  | 0, _ => none
  | k + 1, s =>
    match body s with
    | some (.norm s') => loopN body k s'
    | o => o

theorem loopN_more {body : S → Option (Out S R)} {o : Out S R} : ∀ (k j : Nat) (s : S), k ≤ j → loopN body k s = some o → loopN body j s = some o := by
  intro k
  induction k with
  | zero => intro j s _ h; cases h
  | succ k ih =>
    intro j s hj h
    obtain ⟨j, rfl⟩ : ∃ i, j = i + 1 := ⟨j - 1, by omega⟩
    unfold loopN at h ⊢
    cases hb : body s with
    | none => rw [hb] at h; cases h
    | some x =>
      rw [hb] at h
      cases x with
      | norm s' => exact ih j s' (by omega) h
      | exit => exact h
      | ret => exact h

open Classical in
/-- the loop of the model: it gives what enough rounds give -/
noncomputable def loopM (body : S → Option (Out S R)) (s : S) : Option (Out S R) :=
  if h : ∃ k o, loopN body k s = some o then loopN body (Classical.choose h) s else none

theorem loopM_iff {body : S → Option (Out S R)} {s : S} {o : Out S R} : loopM body s = some o ↔ ∃ k, loopN body k s = some o := by
  unfold loopM
  constructor
  · intro h
    split at h
    · exact ⟨_, h⟩
    · cases h
  · rintro ⟨k, hk⟩
    have h : ∃ k o, loopN body k s = some o := ⟨k, o, hk⟩
    rw [dif_pos h]
    obtain ⟨o', ho'⟩ := Classical.choose_spec h
    rw [ho']
    have h1 := loopN_more _ (k + Classical.choose h) s (by omega) hk
    have h2 := loopN_more _ (k + Classical.choose h) s (by omega) ho'
    rw [h1] at h2
    exact h2.symm

theorem loopM_eq (body : S → Option (Out S R)) (s : S) :
    loopM body s = match body s with | some (.norm s') => loopM body s' | o => o := by
  apply Option.ext
  intro o
  rw [loopM_iff]
  constructor
  · rintro ⟨k, hk⟩
    cases k with
    | zero => cases hk
    | succ k =>
      unfold loopN at hk
      cases hb : body s with
      | none => rw [hb] at hk; cases hk
      | some x =>
        rw [hb] at hk
        cases x with
        | norm s' => exact loopM_iff.2 ⟨k, hk⟩
        | exit => exact hk
        | ret => exact hk
  · intro h
    cases hb : body s with
    | none => rw [hb] at h; cases h
    | some x =>
      rw [hb] at h
      cases x with
      | norm s' =>
        obtain ⟨k, hk⟩ := loopM_iff.1 h
        exact ⟨k + 1, by unfold loopN; rw [hb]; exact hk⟩
      | exit => exact ⟨1, by unfold loopN; rw [hb]; exact h⟩
      | ret => exact ⟨1, by unfold loopN; rw [hb]; exact h⟩

/-- by a relation and a measure: how a loop of the model is reckoned -/
theorem loopM_ind {body : S → Option (Out S R)} (J : S → Prop) (mu : S → Nat) (G : Out S R → Prop)
    (step : ∀ s, J s → ∃ o, body s = some o ∧ match o with | .norm s' => J s' ∧ mu s' < mu s | o => G o) :
    ∀ s, J s → ∃ o, loopM body s = some o ∧ G o := by
  have key : ∀ k s, mu s = k → J s → ∃ o, loopM body s = some o ∧ G o := by
    intro k
    induction k using Nat.strongRecOn with
    | _ k ih =>
      intro s hk hs
      obtain ⟨o, ho, h⟩ := step s hs
      rw [loopM_eq, ho]
      cases o with
      | norm s' =>
        obtain ⟨h1, h2⟩ := h
        exact ih _ (hk ▸ h2) s' rfl h1
      | exit k' s' => exact ⟨_, rfl, h⟩
      | ret x => exact ⟨_, rfl, h⟩
  exact fun s hs => key _ s rfl hs

theorem W_loopM {c : Code} {body : S → Option (Out S R)} {X : Nat → S → (Nat → Value) → World → Prop} {T : R → (Nat → Value) → World → Prop} {N : S → (Nat → Value) → World → Prop}
    (I : S → (Nat → Value) → World → Prop)
    (step : ∀ s r w, I s r w → ∀ o, body s = some o → W P n c (outPost I X T o) r w)
    {s0 : S} {o : Out S R} (hm : loopM body s0 = some o) (h0 : I s0 r w) : W P n (.loop c) (outPost N X T o) r w := by
  obtain ⟨k, hk⟩ := loopM_iff.1 hm
  refine W_loop (fun k r w => ∃ s, I s r w ∧ loopN body k s = some o) k ⟨s0, h0, hk⟩ ?_
  rintro k r w ⟨s, hI, hl⟩
  cases k with
  | zero => cases hl
  | succ k =>
    unfold loopN at hl
    cases hb : body s with
    | none => rw [hb] at hl; cases hl
    | some x =>
      rw [hb] at hl
      refine W_mono (step s r w hI x hb) ?_
      rintro e r' w' hq
      cases x with
      | norm s' =>
        cases e <;> first | exact hq.elim | exact ⟨k, Nat.lt_succ_self k, s', hq, hl⟩
      | exit j s' =>
        cases hl
        cases e <;> first | exact hq.elim | exact hq
      | ret y =>
        cases hl
        cases e <;> first | exact hq.elim | exact hq

theorem W_blockM {k : Nat} {c : Code} {X : Nat → S → (Nat → Value) → World → Prop} {T : R → (Nat → Value) → World → Prop} {N : S → (Nat → Value) → World → Prop} {o : Out S R}
    (h : W P n c (outPost N (fun j s r w => bif Nat.beq j k then N s r w else X j s r w) T o) r w) :
    W P n (.block k c) (outPost N X T (blkO k o)) r w := by
  refine W_block (W_mono h ?_)
  intro e r' w' hq
  cases o with
  | norm s => cases e <;> first | exact hq.elim | exact hq
  | ret y => cases e <;> first | exact hq.elim | exact hq
  | exit j s =>
    cases e with
    | exit i =>
      obtain ⟨rfl, hq⟩ := hq
      simp only [inBlk, blkO]
      cases hb : Nat.beq i k with
      | true => rw [hb] at hq; exact hq
      | false => rw [hb] at hq; exact ⟨rfl, hq⟩
    | _ => exact hq.elim

/-- a loop in its block, and what stands behind it -/
theorem W_forM {k : Nat} {c : Code} {body : S → Option (Out S R)} {Qn : (Nat → Value) → World → Prop}
    (I : S → (Nat → Value) → World → Prop) {X : Nat → S → (Nat → Value) → World → Prop} {T : R → (Nat → Value) → World → Prop}
    {s0 : S} {f : S → Option (Out S R)} {o : Out S R} (hm : obind (blockM k (loopM body s0)) f = some o) (h0 : I s0 r w)
    (hx : ∀ j s r w, o = .exit j s → X j s r w → Q (.exit j) r w) (ht : ∀ x r w, o = .ret x → T x r w → Q .ret r w)
    (step : ∀ s r w, I s r w → ∀ o, body s = some o → W P n c (outPost I (fun j s r w => bif Nat.beq j k then I s r w else X j s r w) T o) r w)
    (next : ∀ s r w, I s r w → f s = some o → Qn r w) : W P n (.block k (.loop c)) (andThen Qn Q) r w := by
  cases hl : loopM body s0 with
  | none => rw [hl] at hm; cases hm
  | some o1 =>
    rw [hl] at hm
    refine W_mono (W_blockM (N := I) (X := X) (T := T) (W_loopM I step hl h0)) ?_
    intro e r' w' hq
    simp only [blockM, Option.map_some] at hm
    generalize blkO k o1 = o2 at hm hq
    cases o2 with
    | norm s => cases e <;> first | exact hq.elim | exact next s r' w' hq hm
    | exit j s =>
      cases hm
      cases e with
      | exit i => obtain ⟨rfl, hq⟩ := hq; exact hx _ _ _ _ rfl hq
      | _ => exact hq.elim
    | ret z => cases hm; cases e <;> first | exact hq.elim | exact ht _ _ _ rfl hq

/-- the ways through a piece meet again in the relation I -/
theorem W_meetM {c : Code} {m : Option (Out S R)} {Qn : (Nat → Value) → World → Prop}
    (I : S → (Nat → Value) → World → Prop) {X : Nat → S → (Nat → Value) → World → Prop} {T : R → (Nat → Value) → World → Prop}
    {f : S → Option (Out S R)} {o : Out S R} (hm : obind m f = some o)
    (hx : ∀ j s r w, o = .exit j s → X j s r w → Q (.exit j) r w) (ht : ∀ x r w, o = .ret x → T x r w → Q .ret r w)
    (here : ∀ o, m = some o → W P n c (outPost I X T o) r w)
    (next : ∀ s r w, I s r w → f s = some o → Qn r w) : W P n c (andThen Qn Q) r w := by
  cases hl : m with
  | none => rw [hl] at hm; cases hm
  | some o1 =>
    rw [hl] at hm
    refine W_mono (here o1 hl) ?_
    intro e r' w' hq
    cases o1 with
    | norm s => cases e <;> first | exact hq.elim | exact next s r' w' hq hm
    | exit j s =>
      cases hm
      cases e with
      | exit i => obtain ⟨rfl, hq⟩ := hq; exact hx _ _ _ _ rfl hq
      | _ => exact hq.elim
    | ret z => cases hm; cases e <;> first | exact hq.elim | exact ht _ _ _ rfl hq

/-- a loop's outcome, and what follows where it ends -/
def lbind {S1 : Type} (m : Option (Out S1 R)) (f : S1 → Option (Out S R)) : Option (Out S R) :=
  match m with
  | some (.norm s) => f s
  | some (.ret x) => some (.ret x)
  | _ => none

theorem W_for {S1 : Type} {k : Nat} {c : Code} {body : S1 → Option (Out S1 R)}
    (I : S1 → (Nat → Value) → World → Prop) {T : R → (Nat → Value) → World → Prop}
    {s0 : S1} {f : S1 → Option (Out S R)} {o : Out S R} (hm : lbind (blockM k (loopM body s0)) f = some o) (h0 : I s0 r w)
    (ht : ∀ x r w, o = .ret x → T x r w → Q .ret r w)
    (step : ∀ s r w, I s r w → ∀ o, body s = some o → W P n c (outPost I (fun j s r w => bif Nat.beq j k then I s r w else False) T o) r w)
    (next : ∀ s r w, I s r w → f s = some o → Q .normal r w) : W P n (.block k (.loop c)) Q r w := by
  cases hl : loopM body s0 with
  | none => rw [hl] at hm; cases hm
  | some o1 =>
    rw [hl] at hm
    refine W_mono (W_blockM (N := I) (X := fun _ _ _ _ => False) (T := T) (W_loopM I step hl h0)) ?_
    intro e r' w' hq
    simp only [blockM, Option.map_some] at hm
    generalize blkO k o1 = o2 at hm hq
    cases o2 with
    | norm s => cases e <;> first | exact hq.elim | exact next s r' w' hq hm
    | exit j s => cases e <;> first | exact hq.elim | exact hq.2.elim
    | ret z => cases hm; cases e <;> first | exact hq.elim | exact ht _ _ _ rfl hq

theorem andThen_x {k : Nat} {next : (Nat → Value) → World → Prop} (h : Q (.exit k) r w) : andThen next Q (.exit k) r w := h
theorem inBlk_o {j k : Nat} (hb : Nat.beq j k = false) (h : Q (.exit j) r w) : inBlk k Q (.exit j) r w := by
  show (bif Nat.beq j k then _ else _); rw [hb]; exact h

/-- what the results' slots give -/
def resVal (r : Nat → Value) : List ResultVar → List Value
  | [] => []
  | .tmp t :: l => r t :: resVal r l
  | .cell t _ :: l => r t :: resVal r l

/-- a body that has come to Q is a call -/
theorem calls_of_W {f : FuncId} {fn : Func} {c : Code} {args : List Value} {w : World} {R : Ending → World → Prop}
    (hf : P.funcs[f]? = some fn) (hb : fn.body = some c) (hn : fn.ntmps = n) (hl : args.length ≤ n)
    (h : W P n c (fun e r w => (e = .normal ∨ e = .ret) ∧ ∃ v, (∀ a : Act, a.tmps.size = n → rho a = r → (results fn a.tmps).run P w = .ok v w) ∧ R (.returned v) w)
      (fun t => args.getD t undef) w) :
    Calls P f args.toArray w R := by
  refine calls_of_wp hf hb (wp_mono (h _ ?_ rfl ?_) ?_)
  · simp; omega
  · funext t
    simp only [rho, Array.getD_eq_getD_getElem?, List.getD_eq_getElem?_getD]
    by_cases ht : t < args.length
    · rw [Array.getElem?_append_left (by simpa using ht)]
      simp
    · rw [Array.getElem?_append_right (by simpa using ht)]
      rw [List.getElem?_eq_none (by omega)]
      by_cases h2 : t - args.length < fn.ntmps - args.length
      · simp [h2]
      · rw [Array.getElem?_eq_none (by simpa using h2)]
  · rintro e a' w' ⟨h1, h2, h3, v, hv, hR⟩
    have hv' := hv a' h1 rfl
    rcases h3 with rfl | rfl
    · exact ⟨h2, v, hv', hR⟩
    · exact ⟨h2, v, hv', hR⟩

theorem res_1 {fn : Func} {t : Nat} {w : World} {r : Nat → Value} (hr : fn.results = #[.tmp t]) :
    ∀ a : Act, a.tmps.size = n → rho a = r → (results fn a.tmps).run P w = .ok (r t) w := by
  rintro a - rfl
  simp [results, hr, rho]
theorem res_2 {fn : Func} {t u : Nat} {w : World} {r : Nat → Value} (hr : fn.results = #[.tmp t, .tmp u]) :
    ∀ a : Act, a.tmps.size = n → rho a = r → (results fn a.tmps).run P w = .ok (.tuple #[r t, r u]) w := by
  rintro a - rfl
  simp [results, hr, rho]
theorem res_3 {fn : Func} {t u v : Nat} {w : World} {r : Nat → Value} (hr : fn.results = #[.tmp t, .tmp u, .tmp v]) :
    ∀ a : Act, a.tmps.size = n → rho a = r → (results fn a.tmps).run P w = .ok (.tuple #[r t, r u, r v]) w := by
  rintro a - rfl
  simp [results, hr, rho]
theorem res_4 {fn : Func} {t u v x : Nat} {w : World} {r : Nat → Value} (hr : fn.results = #[.tmp t, .tmp u, .tmp v, .tmp x]) :
    ∀ a : Act, a.tmps.size = n → rho a = r → (results fn a.tmps).run P w = .ok (.tuple #[r t, r u, r v, r x]) w := by
  rintro a - rfl
  simp [results, hr, rho]
theorem res_0 {fn : Func} {w : World} {r : Nat → Value} (hr : fn.results = #[]) :
    ∀ a : Act, a.tmps.size = n → rho a = r → (results fn a.tmps).run P w = .ok (.tuple #[]) w := by
  rintro a - rfl
  simp [results, hr]

/-- a call by its model -/
theorem calls_of_M {f : FuncId} {fn : Func} {c : Code} {args : List Value} {w : World} {Rr : R → Ending → World → Prop} {m : Option (Out S R)} {y : R}
    (hf : P.funcs[f]? = some fn) (hb : fn.body = some c) (hn : fn.ntmps = n) (hl : args.length ≤ n) (hm : m = some (.ret y))
    (h : ∀ o, m = some o → W P n c (outPost (fun _ _ _ => False) (fun _ _ _ _ => False) (fun x r w => ∃ v, (∀ a : Act, a.tmps.size = n → rho a = r → (results fn a.tmps).run P w = .ok v w) ∧ Rr x (.returned v) w) o)
      (fun t => args.getD t undef) w) :
    Calls P f args.toArray w (Rr y) := by
  refine calls_of_W hf hb hn hl (W_mono (h _ hm) ?_)
  intro e r w hq
  cases e <;> first | exact hq.elim | exact ⟨.inr rfl, hq⟩

def finM {R : Type} : Option (Out R R) → Option R
  | some (.ret x) => some x
  | some (.norm x) => some x
  | _ => none
/-- a call of a function without results, by its model -/
theorem calls_of_Mv {f : FuncId} {fn : Func} {c : Code} {args : List Value} {w : World} {Rr : R → Ending → World → Prop} {m : Option (Out R R)} {y : R}
    (hf : P.funcs[f]? = some fn) (hb : fn.body = some c) (hn : fn.ntmps = n) (hl : args.length ≤ n) (hm : finM m = some y)
    (h : ∀ o, m = some o → W P n c (outPost (fun x r w => ∃ v, (∀ a : Act, a.tmps.size = n → rho a = r → (results fn a.tmps).run P w = .ok v w) ∧ Rr x (.returned v) w) (fun _ _ _ _ => False) (fun x r w => ∃ v, (∀ a : Act, a.tmps.size = n → rho a = r → (results fn a.tmps).run P w = .ok v w) ∧ Rr x (.returned v) w) o)
      (fun t => args.getD t undef) w) :
    Calls P f args.toArray w (Rr y) := by
  cases m with
  | none => cases hm
  | some o =>
    cases o with
    | exit => cases hm
    | norm x =>
      cases hm
      refine calls_of_W hf hb hn hl (W_mono (h _ rfl) ?_)
      intro e r w hq
      cases e <;> first | exact hq.elim | exact ⟨.inl rfl, hq⟩
    | ret x =>
      cases hm
      refine calls_of_W hf hb hn hl (W_mono (h _ rfl) ?_)
      intro e r w hq
      cases e <;> first | exact hq.elim | exact ⟨.inr rfl, hq⟩
end
end Go.Li
