/- How Go's values read as plain data: kinds of data, slices that are read and slices that are owned. No condition. -/
import Derived.Test.YtcmckiiafgcmjaaGreatLc
import Derived.Laws.AppendOwn
import Derived.Laws.OwnMore
namespace Go.Li
open Go

/-- a way to read cells as a datum; the blocks that the reading leans on -/
structure STy (α : Type) where
  size : Nat
  rep : Array Obj → List Value → α → List Nat → Prop
  len : ∀ {h cs x f}, rep h cs x f → cs.length = size
  one : ∀ {h cs x f}, rep h cs x f → ∀ v ∈ cs, v.oneCell' = true
  congr : ∀ {h h' : Array Obj} {cs x f}, rep h cs x f → (∀ b ∈ f, h'[b]? = h[b]?) → rep h' cs x f
  lt : ∀ {h cs x f}, rep h cs x f → ∀ b ∈ f, b < h.size

def sInt (k : IntKind) : STy Int where
  size := 1
  rep _ cs x f := cs = [.int k x] ∧ f = []
  len := by rintro h cs x f ⟨rfl, _⟩; rfl
  one := by rintro h cs x f ⟨rfl, _⟩ v hv; simp at hv; subst hv; rfl
  congr := fun h _ => h
  lt := by rintro h cs x f ⟨_, rfl⟩ b hb; cases hb

def sBool : STy Bool where
  size := 1
  rep _ cs x f := cs = [.bool x] ∧ f = []
  len := by rintro h cs x f ⟨rfl, _⟩; rfl
  one := by rintro h cs x f ⟨rfl, _⟩ v hv; simp at hv; subst hv; rfl
  congr := fun h _ => h
  lt := by rintro h cs x f ⟨_, rfl⟩ b hb; cases hb

/-- the elements of a row, one behind the other -/
def repL {α : Type} (E : STy α) (h : Array Obj) : List Value → List α → List Nat → Prop
  | cs, [], f => cs = [] ∧ f = []
  | cs, x :: xs, f => ∃ c cs' f1 f2, cs = c ++ cs' ∧ f = f1 ++ f2 ∧ E.rep h c x f1 ∧ repL E h cs' xs f2

section
variable {α : Type} {E : STy α} {h h' : Array Obj}

theorem repL_len : ∀ {xs : List α} {cs f}, repL E h cs xs f → cs.length = xs.length * E.size := by
  intro xs
  induction xs with
  | nil => rintro cs f ⟨rfl, _⟩; simp
  | cons x xs ih =>
    rintro cs f ⟨c, cs', f1, f2, rfl, rfl, h1, h2⟩
    rw [List.length_append, E.len h1, ih h2, List.length_cons, Nat.add_mul, Nat.one_mul, Nat.add_comm]

theorem repL_one : ∀ {xs : List α} {cs f}, repL E h cs xs f → ∀ v ∈ cs, v.oneCell' = true := by
  intro xs
  induction xs with
  | nil => rintro cs f ⟨rfl, _⟩ v hv; cases hv
  | cons x xs ih =>
    rintro cs f ⟨c, cs', f1, f2, rfl, rfl, h1, h2⟩ v hv
    rcases List.mem_append.1 hv with hv | hv
    · exact E.one h1 v hv
    · exact ih h2 v hv

theorem repL_congr : ∀ {xs : List α} {cs f}, repL E h cs xs f → (∀ b ∈ f, h'[b]? = h[b]?) → repL E h' cs xs f := by
  intro xs
  induction xs with
  | nil => intro cs f h _; exact h
  | cons x xs ih =>
    rintro cs f ⟨c, cs', f1, f2, rfl, rfl, h1, h2⟩ hb
    exact ⟨c, cs', f1, f2, rfl, rfl, E.congr h1 fun b hm => hb b (List.mem_append_left _ hm), ih h2 fun b hm => hb b (List.mem_append_right _ hm)⟩

theorem repL_lt : ∀ {xs : List α} {cs f}, repL E h cs xs f → ∀ b ∈ f, b < h.size := by
  intro xs
  induction xs with
  | nil => rintro cs f ⟨_, rfl⟩ b hb; cases hb
  | cons x xs ih =>
    rintro cs f ⟨c, cs', f1, f2, rfl, rfl, h1, h2⟩ b hb
    rcases List.mem_append.1 hb with hb | hb
    · exact E.lt h1 b hb
    · exact ih h2 b hb

theorem repL_append : ∀ {xs : List α} {cs f} {ys : List α} {ds g}, repL E h cs xs f → repL E h ds ys g → repL E h (cs ++ ds) (xs ++ ys) (f ++ g) := by
  intro xs
  induction xs with
  | nil => rintro cs f ys ds g ⟨rfl, rfl⟩ h2; exact h2
  | cons x xs ih =>
    rintro cs f ys ds g ⟨c, cs', f1, f2, rfl, rfl, h1, h2⟩ h3
    exact ⟨c, cs' ++ ds, f1, f2 ++ g, by simp, by simp, h1, ih h2 h3⟩

theorem repL_single {x : α} {cs f} (h1 : E.rep h cs x f) : repL E h cs [x] f :=
  ⟨cs, [], f, [], by simp, by simp, h1, rfl, rfl⟩

/-- element number i -/
theorem repL_get : ∀ {xs : List α} {cs f} (i : Nat) (x : α), repL E h cs xs f → xs[i]? = some x →
    ∃ c f0 f1 f2 p q, f = f0 ++ f1 ++ f2 ∧ cs = p ++ c ++ q ∧ p.length = i * E.size ∧ E.rep h c x f1 := by
  intro xs
  induction xs with
  | nil => intro cs f i x _ hi; simp at hi
  | cons y xs ih =>
    rintro cs f i x ⟨c, cs', f1, f2, rfl, rfl, h1, h2⟩ hi
    cases i with
    | zero =>
      simp at hi
      subst hi
      exact ⟨c, [], f1, f2, [], cs', by simp, by simp, by simp, h1⟩
    | succ i =>
      obtain ⟨c', g0, g1, g2, p, q, hf, hc, hp, hr⟩ := ih i x h2 (by simpa using hi)
      subst hf; subst hc
      exact ⟨c', f1 ++ g0, g1, g2, c ++ p, q, by simp, by simp, by rw [List.length_append, E.len h1, hp, Nat.add_mul, Nat.one_mul, Nat.add_comm], hr⟩

/-- element number i, written anew -/
theorem repL_set : ∀ {xs : List α} {cs f} (i : Nat) (x x' : α), repL E h cs xs f → xs[i]? = some x →
    ∃ c f0 f1 f2 p q, f = f0 ++ f1 ++ f2 ∧ cs = p ++ c ++ q ∧ p.length = i * E.size ∧ E.rep h c x f1 ∧
      ∀ (h' : Array Obj) c' f1', (∀ b ∈ f0, h'[b]? = h[b]?) → (∀ b ∈ f2, h'[b]? = h[b]?) → E.rep h' c' x' f1' → repL E h' (p ++ c' ++ q) (xs.set i x') (f0 ++ f1' ++ f2) := by
  intro xs
  induction xs with
  | nil => intro cs f i x x' _ hi; simp at hi
  | cons y xs ih =>
    rintro cs f i x x' ⟨c, cs', f1, f2, rfl, rfl, h1, h2⟩ hi
    cases i with
    | zero =>
      simp at hi
      subst hi
      refine ⟨c, [], f1, f2, [], cs', by simp, by simp, by simp, h1, ?_⟩
      intro h' c' f1' _ hb hr
      exact ⟨c', cs', f1', f2, by simp, by simp, hr, repL_congr h2 hb⟩
    | succ i =>
      obtain ⟨c', g0, g1, g2, p, q, hf, hc, hp, hr, hs⟩ := ih i x x' h2 (by simpa using hi)
      subst hf; subst hc
      refine ⟨c', f1 ++ g0, g1, g2, c ++ p, q, by simp, by simp, by rw [List.length_append, E.len h1, hp, Nat.add_mul, Nat.one_mul, Nat.add_comm], hr, ?_⟩
      intro h' c'' f1' hb0 hb2 hr'
      exact ⟨c, p ++ c'' ++ q, f1, g0 ++ f1' ++ g2, by simp, by simp, E.congr h1 fun b hm => hb0 b (List.mem_append_left _ hm),
        hs h' c'' f1' (fun b hm => hb0 b (List.mem_append_right _ hm)) hb2 hr'⟩
theorem repL_split : ∀ {xs : List α} {cs f} (i : Nat) (x : α), repL E h cs xs f → xs[i]? = some x →
    ∃ c f0 f1 f2 p q, f = f0 ++ f1 ++ f2 ∧ cs = p ++ c ++ q ∧ p.length = i * E.size ∧ E.rep h c x f1 ∧
      ∀ (h' : Array Obj) c' x' f1', (∀ b ∈ f0, h'[b]? = h[b]?) → (∀ b ∈ f2, h'[b]? = h[b]?) → E.rep h' c' x' f1' → repL E h' (p ++ c' ++ q) (xs.set i x') (f0 ++ f1' ++ f2) := by
  intro xs
  induction xs with
  | nil => intro cs f i x _ hi; simp at hi
  | cons y xs ih =>
    rintro cs f i x ⟨c, cs', f1, f2, rfl, rfl, h1, h2⟩ hi
    cases i with
    | zero =>
      simp at hi
      subst hi
      refine ⟨c, [], f1, f2, [], cs', by simp, by simp, by simp, h1, ?_⟩
      intro h' c' x' f1' _ hb hr
      exact ⟨c', cs', f1', f2, by simp, by simp, hr, repL_congr h2 hb⟩
    | succ i =>
      obtain ⟨c', g0, g1, g2, p, q, hf, hc, hp, hr, hs⟩ := ih i x h2 (by simpa using hi)
      subst hf; subst hc
      refine ⟨c', f1 ++ g0, g1, g2, c ++ p, q, by simp, by simp, by rw [List.length_append, E.len h1, hp, Nat.add_mul, Nat.one_mul, Nat.add_comm], hr, ?_⟩
      intro h' c'' x' f1' hb0 hb2 hr'
      exact ⟨c, p ++ c'' ++ q, f1, g0 ++ f1' ++ g2, by simp, by simp, E.congr h1 fun b hm => hb0 b (List.mem_append_left _ hm),
        hs h' c'' x' f1' (fun b hm => hb0 b (List.mem_append_right _ hm)) hb2 hr'⟩
end

/-- a slice that is read -/
def sImm {α : Type} (E : STy α) : STy (List α) where
  size := 1
  rep h cs xs f := ∃ base cap, cs = [.slice base xs.length cap] ∧ ((xs = [] ∧ f = []) ∨
    ∃ b off cur e fz f', base = some ⟨b, off, none⟩ ∧ h[b]? = some (.cells cur e fz) ∧ f = b :: f' ∧
      repL E h ((cur.toList.drop off).take (xs.length * E.size)) xs f')
  len := by rintro h cs x f ⟨base, cap, rfl, _⟩; rfl
  one := by rintro h cs x f ⟨base, cap, rfl, _⟩ v hv; simp at hv; subst hv; rfl
  congr := by
    rintro h h' cs x f ⟨base, cap, rfl, hr⟩ hb
    refine ⟨base, cap, rfl, ?_⟩
    rcases hr with hr | ⟨b, off, cur, e, fz, f', h1, h2, rfl, h3⟩
    · exact .inl hr
    · exact .inr ⟨b, off, cur, e, fz, f', h1, (hb b (by simp)).trans h2, rfl, repL_congr h3 fun i hi => hb i (by simp [hi])⟩
  lt := by
    rintro h cs x f ⟨base, cap, rfl, hr⟩ b hb
    rcases hr with ⟨_, rfl⟩ | ⟨b', off, cur, e, fz, f', h1, h2, rfl, h3⟩
    · cases hb
    · rcases List.mem_cons.1 hb with rfl | hb
      · exact (Array.getElem?_eq_some_iff.1 h2).1
      · exact repL_lt h3 b hb

/-- a slice that is the only one over its own block -/
def sOwn {α : Type} (e : TypeId) (E : STy α) : STy (List α) where
  size := 1
  rep h cs xs f := ∃ base cap, cs = [.slice base xs.length cap] ∧ ((base = none ∧ cap = 0 ∧ xs = [] ∧ f = []) ∨
    ∃ b cur f', base = some ⟨b, 0, none⟩ ∧ h[b]? = some (.cells cur e (0, 0)) ∧ f = b :: f' ∧ xs.length ≤ cap ∧ cap ≤ maxLen ∧ cur.size = cap * E.size ∧
      repL E h (cur.toList.take (xs.length * E.size)) xs f')
  len := by rintro h cs x f ⟨base, cap, rfl, _⟩; rfl
  one := by rintro h cs x f ⟨base, cap, rfl, _⟩ v hv; simp at hv; subst hv; rfl
  congr := by
    rintro h h' cs x f ⟨base, cap, rfl, hr⟩ hb
    refine ⟨base, cap, rfl, ?_⟩
    rcases hr with hr | ⟨b, cur, f', h1, h2, rfl, h4, h5, h6, h3⟩
    · exact .inl hr
    · exact .inr ⟨b, cur, f', h1, (hb b (by simp)).trans h2, rfl, h4, h5, h6, repL_congr h3 fun i hi => hb i (by simp [hi])⟩
  lt := by
    rintro h cs x f ⟨base, cap, rfl, hr⟩ b hb
    rcases hr with ⟨_, _, _, rfl⟩ | ⟨b', cur, f', h1, h2, rfl, h4, h5, h6, h3⟩
    · cases hb
    · rcases List.mem_cons.1 hb with rfl | hb
      · exact (Array.getElem?_eq_some_iff.1 h2).1
      · exact repL_lt h3 b hb

/-- what reads by the one reads by the other, over the same blocks -/
structure Le {α : Type} (A B : STy α) : Prop where
  size : A.size = B.size
  le : ∀ {h cs x f}, A.rep h cs x f → B.rep h cs x f
theorem Le.refl {α : Type} (A : STy α) : Le A A := ⟨rfl, fun h => h⟩

theorem repL_le {α : Type} {A B : STy α} (hl : Le A B) {h : Array Obj} : ∀ {xs : List α} {cs f}, repL A h cs xs f → repL B h cs xs f := by
  intro xs
  induction xs with
  | nil => intro cs f h; exact h
  | cons x xs ih =>
    rintro cs f ⟨c, cs', f1, f2, rfl, rfl, h1, h2⟩
    exact ⟨c, cs', f1, f2, rfl, rfl, hl.le h1, ih h2⟩

theorem Le.own {α : Type} {A B : STy α} (hl : Le A B) (e : TypeId) : Le (sOwn e A) (sImm B) := by
  refine ⟨rfl, ?_⟩
  rintro h cs xs f ⟨base, cap, rfl, hr⟩
  refine ⟨base, cap, rfl, ?_⟩
  rcases hr with ⟨rfl, rfl, rfl, rfl⟩ | ⟨b, cur, f', rfl, h2, rfl, h4, h5, h6, h3⟩
  · exact .inl ⟨rfl, rfl⟩
  · refine .inr ⟨b, 0, cur, e, (0, 0), f', rfl, h2, rfl, ?_⟩
    rw [List.drop_zero, ← hl.size]
    exact repL_le hl h3
theorem Le.imm {α : Type} {A B : STy α} (hl : Le A B) : Le (sImm A) (sImm B) := by
  refine ⟨rfl, ?_⟩
  rintro h cs xs f ⟨base, cap, rfl, hr⟩
  refine ⟨base, cap, rfl, ?_⟩
  rcases hr with hr | ⟨b, off, cur, e, fz, f', rfl, h2, rfl, h3⟩
  · exact .inl hr
  · refine .inr ⟨b, off, cur, e, fz, f', rfl, h2, rfl, ?_⟩
    rw [← hl.size]
    exact repL_le hl h3

/-- the address of an element -/
def elA (v : Value) (size : Nat) (j : Int) : Addr :=
  match v with
  | .slice (some a) _ _ => a.add (j.toNat * size)
  | _ => default

section
variable {α : Type} {E : STy α} {P : Program} {r : Nat → Value} {w : World} {d : Option Nat} {ty : TypeId} {pos : String} {aft : Array Edge} {g : Option (Nat × Bool)}

theorem imm_len {v : Value} {xs : List α} {f : List Nat} {h : Array Obj} (hr : (sImm E).rep h [v] xs f) : ∃ b c, v = .slice b xs.length c := by
  obtain ⟨b, c, hv, _⟩ := hr
  exact ⟨b, c, by simpa using hv⟩

theorem addr_add (b o n : Nat) : (⟨b, o, none⟩ : Addr).add n = ⟨b, o + n, none⟩ := by
  unfold Addr.add; split <;> simp_all

/-- the cells of an element -/
theorem imm_get {v : Value} {xs : List α} {f : List Nat} (hr : (sImm E).rep w.heap [v] xs f) (j : Int) {x : α} (h0 : 0 ≤ j) (hx : xs[j.toNat]? = some x) :
    (∃ a c, v = .slice (some a) xs.length c) ∧ j < xs.length ∧ ∃ cs f1, E.rep w.heap cs x f1 ∧ (∀ b ∈ f1, b ∈ f) ∧ ∀ i u, cs[i]? = some u → w.cell? ((elA v E.size j).add i) = some u := by
  obtain ⟨base, cap, hv, hr⟩ := hr
  obtain rfl : v = .slice base xs.length cap := by simpa using hv
  have hlt : j.toNat < xs.length := (List.getElem?_eq_some_iff.1 hx).1
  rcases hr with ⟨rfl, _⟩ | ⟨b, off, cur, e, fz, f', rfl, h2, rfl, h3⟩
  · simp at hlt
  · refine ⟨⟨_, _, rfl⟩, by omega, ?_⟩
    obtain ⟨c, f0, f1, f2, p, q, rfl, hc, hp, hrep⟩ := repL_get j.toNat x h3 hx
    refine ⟨c, f1, hrep, fun b hb => by simp [hb], ?_⟩
    intro i u hi
    have hi' : i < c.length := (List.getElem?_eq_some_iff.1 hi).1
    simp only [elA, addr_add]
    rw [cell_of_row w b _ cur e fz h2]
    have h4 : ((cur.toList.drop off).take (xs.length * E.size))[p.length + i]? = some u := by
      rw [hc, List.append_assoc, List.getElem?_append_right (by omega)]
      rw [List.getElem?_append_left (by omega)]
      simpa using hi
    rw [List.getElem?_take] at h4
    split at h4
    · rw [List.getElem?_drop] at h4
      rw [← Array.getElem?_toList]
      rw [hp] at h4
      rw [← h4]
      congr 1
      omega
    · cases h4

theorem op_lenI {t e : TypeId} {x : Operand} {xs : List α} {f : List Nat} (ht : P.underlying t = some (.slice e)) (hr : (sImm E).rep w.heap [ev r x] xs f) :
    (execOp (ev r) ⟨d, .call ⟨.builtin .len, #[x], #[t]⟩, ty, pos, aft, g⟩).run P w = .ok (.value (.int .i64 (xs.length : Int))) w := by
  obtain ⟨b, c, hv⟩ := imm_len hr
  exact op_len ht hv

theorem op_indexI {t e : TypeId} {x y : Operand} {i : TypeInfo} {xs : List α} {f : List Nat} {k : IntKind} {j : Int} {z : α} (ht : P.underlying t = some (.slice e)) (hi : P.info? e = some i) (hs : i.size = 1) (hE : E.size = 1)
    (hr : (sImm E).rep w.heap [ev r x] xs f) (hy : ev r y = .int k j) (h0 : 0 ≤ j) (hz : xs[j.toNat]? = some z) :
    (execOp (ev r) ⟨d, .indexAddr t x y, ty, pos, aft, g⟩).run P w = .ok (.value (.pointer (some (elA (ev r x) 1 j)))) w := by
  obtain ⟨⟨a, c, hv⟩, hlt, _⟩ := imm_get hr j h0 hz
  have _ := hE
  rw [op_indexAddr ht hi hv hy h0 hlt, hv, hs]
  rfl

theorem int_get {v : Value} {k : IntKind} {xs : List Int} {f : List Nat} (hr : (sImm (sInt k)).rep w.heap [v] xs f) {j : Int} {x : Int} (h0 : 0 ≤ j) (hx : xs[j.toNat]? = some x) :
    w.cell? (elA v 1 j) = some (.int k x) := by
  obtain ⟨_, _, cs, f1, ⟨rfl, _⟩, _, hc⟩ := imm_get hr j h0 hx
  exact hc 0 _ rfl
theorem bool_get {v : Value} {xs : List Bool} {f : List Nat} (hr : (sImm sBool).rep w.heap [v] xs f) {j : Int} {x : Bool} (h0 : 0 ≤ j) (hx : xs[j.toNat]? = some x) :
    w.cell? (elA v 1 j) = some (.bool x) := by
  obtain ⟨_, _, cs, f1, ⟨rfl, _⟩, _, hc⟩ := imm_get hr j h0 hx
  exact hc 0 _ rfl
/-- an element of one cell that is no number -/
theorem one_get {v : Value} {xs : List α} {f : List Nat} (h1 : E.size = 1) (hr : (sImm E).rep w.heap [v] xs f) {j : Int} {x : α} (h0 : 0 ≤ j) (hx : xs[j.toNat]? = some x) :
    ∃ u f1, w.cell? (elA v 1 j) = some u ∧ E.rep w.heap [u] x f1 ∧ ∀ b ∈ f1, b ∈ f := by
  obtain ⟨_, _, cs, f1, hr1, hf, hc⟩ := imm_get hr j h0 hx
  have hl := E.len hr1
  rw [h1] at hl hc
  match cs, hl with
  | [u], _ => exact ⟨u, f1, hc 0 _ rfl, hr1, hf⟩
end

theorem STy.keep {α : Type} (E : STy α) {w w' : World} {F : List Nat} {cs : List Value} {x : α} {f : List Nat} (hr : E.rep w.heap cs x f) (hC : Chg F w w') (hn : ∀ b ∈ f, b ∉ F) : E.rep w'.heap cs x f :=
  E.congr hr fun b hb => hC.block b (E.lt hr b hb) (hn b hb)
theorem STy.keep0 {α : Type} (E : STy α) {w w' : World} {cs : List Value} {x : α} {f : List Nat} (hr : E.rep w.heap cs x f) (hC : Chg [] w w') : E.rep w'.heap cs x f :=
  E.keep hr hC fun _ _ h => nomatch h
end Go.Li
