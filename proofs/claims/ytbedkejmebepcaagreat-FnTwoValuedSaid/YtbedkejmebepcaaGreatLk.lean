/- Short words for the walk's steps: what an operation reads in every world behind the one at hand. No condition. -/
import Derived.Test.YtbedkejmebepcaaGreatLh
namespace Go.Li
open Go
/-- in each world behind W the operation gives v and changes nothing -/
def Rd (P : Program) (W : World) (r : Nat → Value) (o : Oper) (v : Value) : Prop := ∀ w, Chg [] W w → (execOp (ev r) o).run P w = .ok (.value v) w
section
variable {P : Program} {W w : World} {r : Nat → Value} {ops l : List Oper} {d : Option Nat} {ty : TypeId} {pos : String} {aft : Array Edge} {g : Option (Nat × Bool)} {op : Op} {v : Value}
theorem Qa {K : (Nat → Value) → Prop} (h : Rd P W r ⟨d, op, ty, pos, aft, none⟩ v) (k : QL P (Chg [] W) ops l (updO r d v) K) : QL P (Chg [] W) ops (⟨d, op, ty, pos, aft, none⟩ :: l) r K := QL.val rfl h k
theorem Qg {K : (Nat → Value) → Prop} {j : Nat} {t b : Bool} (hy : yl ops r j = some b) (hb : b = t) (h : Rd P W r ⟨d, op, ty, pos, aft, some (j, t)⟩ v) (k : QL P (Chg [] W) ops l (updO r d v) K) : QL P (Chg [] W) ops (⟨d, op, ty, pos, aft, some (j, t)⟩ :: l) r K :=
  QL.valG rfl (by rw [hy, hb]) h k
theorem Wa {K : (Nat → Value) → World → Prop} (hC : Chg [] W w) (h : Rd P W r ⟨d, op, ty, pos, aft, none⟩ v) (k : WL P ops l (updO r d v) w K) : WL P ops (⟨d, op, ty, pos, aft, none⟩ :: l) r w K := WL.val rfl (h w hC) k
theorem Wb {K : (Nat → Value) → World → Prop} (h : Rd P w r ⟨d, op, ty, pos, aft, none⟩ v) (k : WL P ops l (updO r d v) w K) : WL P ops (⟨d, op, ty, pos, aft, none⟩ :: l) r w K := WL.val rfl (h w (Chg.refl _ _)) k
/-- a quiet call -/
theorem Qc {K : (Nat → Value) → Prop} {f : FuncId} {fn : Func} {c : Code} {xs : List Operand} {ats : Array TypeId} (hf : P.funcs[f]? = some fn) (hb : fn.body = some c) (hn : (fn.name == "runtime.NumGoroutine") = false)
    (hc : ∀ w', Chg [] W w' → Calls P f (xs.map (ev r)).toArray w' fun e w'' => e = .returned v ∧ Chg [] w' w'')
    (k : QL P (Chg [] W) ops l (updO r d v) K) : QL P (Chg [] W) ops (⟨d, .call ⟨.value (.func f), xs.toArray, ats⟩, ty, pos, aft, none⟩ :: l) r K :=
  QL.call rfl (fun _ _ => op_callF hf hb hn) (fun w' h => (hc w' h).mono fun _ _ x => ⟨x.1, h.trans x.2⟩) k
theorem Qcg {K : (Nat → Value) → Prop} {f : FuncId} {fn : Func} {c : Code} {xs : List Operand} {ats : Array TypeId} {j : Nat} {t b : Bool} (hy : yl ops r j = some b) (hg : b = t) (hf : P.funcs[f]? = some fn) (hb : fn.body = some c) (hn : (fn.name == "runtime.NumGoroutine") = false)
    (hc : ∀ w', Chg [] W w' → Calls P f (xs.map (ev r)).toArray w' fun e w'' => e = .returned v ∧ Chg [] w' w'')
    (k : QL P (Chg [] W) ops l (updO r d v) K) : QL P (Chg [] W) ops (⟨d, .call ⟨.value (.func f), xs.toArray, ats⟩, ty, pos, aft, some (j, t)⟩ :: l) r K :=
  QL.callG rfl (by rw [hy, hg]) (fun _ _ => op_callF hf hb hn) (fun w' h => (hc w' h).mono fun _ _ x => ⟨x.1, h.trans x.2⟩) k

-- moves
theorem Mv {x : Operand} (v : Value) (h : ev r x = v) : Rd P W r ⟨d, .move x, ty, pos, aft, g⟩ v := fun _ _ => by rw [← h]; rfl
theorem Av {x : Operand} (v : Value) (h : ev r x = v) : Rd P W r ⟨d, .assign x, ty, pos, aft, g⟩ v := fun _ _ => by rw [← h]; rfl
theorem Mi {x : Operand} {k : IntKind} {a : Int} (h : ev r x = .int k a) : Rd P W r ⟨d, .move x, ty, pos, aft, g⟩ (.int k a) := Mv _ h
theorem Ai {x : Operand} {k : IntKind} {a : Int} (h : ev r x = .int k a) : Rd P W r ⟨d, .assign x, ty, pos, aft, g⟩ (.int k a) := Av _ h
theorem Mb {x : Operand} {a : Bool} (h : ev r x = .bool a) : Rd P W r ⟨d, .move x, ty, pos, aft, g⟩ (.bool a) := Mv _ h
theorem Ab {x : Operand} {a : Bool} (h : ev r x = .bool a) : Rd P W r ⟨d, .assign x, ty, pos, aft, g⟩ (.bool a) := Av _ h
theorem Mp {x : Operand} {a : Addr} (h : ev r x = .pointer (some a)) : Rd P W r ⟨d, .move x, ty, pos, aft, g⟩ (.pointer (some a)) := Mv _ h
theorem Ap {x : Operand} {a : Addr} (h : ev r x = .pointer (some a)) : Rd P W r ⟨d, .assign x, ty, pos, aft, g⟩ (.pointer (some a)) := Av _ h
theorem Mg {x : Operand} {a : Array Value} (h : ev r x = .agg a) : Rd P W r ⟨d, .move x, ty, pos, aft, g⟩ (.agg a) := Mv _ h
theorem Ag {x : Operand} {a : Array Value} (h : ev r x = .agg a) : Rd P W r ⟨d, .assign x, ty, pos, aft, g⟩ (.agg a) := Av _ h
theorem Mt {x : Operand} {a : Array Value} (h : ev r x = .tuple a) : Rd P W r ⟨d, .move x, ty, pos, aft, g⟩ (.tuple a) := Mv _ h
theorem At' {x : Operand} {a : Array Value} (h : ev r x = .tuple a) : Rd P W r ⟨d, .assign x, ty, pos, aft, g⟩ (.tuple a) := Av _ h
theorem Ms {x : Operand} {a : Option Addr} {b c : Nat} (h : ev r x = .slice a b c) : Rd P W r ⟨d, .move x, ty, pos, aft, g⟩ (.slice a b c) := Mv _ h
theorem As {x : Operand} {a : Option Addr} {b c : Nat} (h : ev r x = .slice a b c) : Rd P W r ⟨d, .assign x, ty, pos, aft, g⟩ (.slice a b c) := Av _ h
-- picks
theorem PTb {c a b : Operand} {t u : Bool} (h : ev r c = .bool t) (ht : t = true) (ha : ev r a = .bool u) : Rd P W r ⟨d, .pick c a b, ty, pos, aft, g⟩ (.bool u) := fun _ _ => by rw [← ha]; exact op_pickT h ht
theorem PFb {c a b : Operand} {t u : Bool} (h : ev r c = .bool t) (ht : t = false) (ha : ev r b = .bool u) : Rd P W r ⟨d, .pick c a b, ty, pos, aft, g⟩ (.bool u) := fun _ _ => by rw [← ha]; exact op_pickF h ht
-- arithmetic
section
variable {x y : Operand} {t t' : TypeId} {k : IntKind} {a b : Int}
theorem Ba (hx : ev r x = .int .i64 a) (hy : ev r y = .int .i64 b) : Rd P W r ⟨d, .binOp .add t x y t', ty, pos, aft, g⟩ (.int .i64 (w64 (a + b))) := fun _ _ => op_bin hx hy bin_add
theorem Bs (hx : ev r x = .int .i64 a) (hy : ev r y = .int .i64 b) : Rd P W r ⟨d, .binOp .sub t x y t', ty, pos, aft, g⟩ (.int .i64 (w64 (a - b))) := fun _ _ => op_bin hx hy bin_sub
theorem Bm (hx : ev r x = .int .i64 a) (hy : ev r y = .int .i64 b) : Rd P W r ⟨d, .binOp .mul t x y t', ty, pos, aft, g⟩ (.int .i64 (w64 (a * b))) := fun _ _ => op_bin hx hy bin_mul
theorem Bl (hx : ev r x = .int k a) (hy : ev r y = .int k b) : Rd P W r ⟨d, .binOp .lss t x y t', ty, pos, aft, g⟩ (.bool (decide (a < b))) := fun _ _ => op_bin hx hy bin_lss
theorem Bk (hx : ev r x = .int k a) (hy : ev r y = .int k b) : Rd P W r ⟨d, .binOp .leq t x y t', ty, pos, aft, g⟩ (.bool (decide (a ≤ b))) := fun _ _ => op_bin hx hy bin_leq
theorem Bg (hx : ev r x = .int k a) (hy : ev r y = .int k b) : Rd P W r ⟨d, .binOp .gtr t x y t', ty, pos, aft, g⟩ (.bool (decide (a > b))) := fun _ _ => op_bin hx hy bin_gtr
theorem Bh (hx : ev r x = .int k a) (hy : ev r y = .int k b) : Rd P W r ⟨d, .binOp .geq t x y t', ty, pos, aft, g⟩ (.bool (decide (a ≥ b))) := fun _ _ => op_bin hx hy bin_geq
theorem Be (hx : ev r x = .int k a) (hy : ev r y = .int k b) : Rd P W r ⟨d, .binOp .eql t x y t', ty, pos, aft, g⟩ (.bool (a == b)) := fun _ _ => op_bin hx hy bin_eql
theorem Bn (hx : ev r x = .int k a) (hy : ev r y = .int k b) : Rd P W r ⟨d, .binOp .neq t x y t', ty, pos, aft, g⟩ (.bool (a != b)) := fun _ _ => op_bin hx hy bin_neq
theorem Nt {b : Bool} (hx : ev r x = .bool b) : Rd P W r ⟨d, .unOp .not t x, ty, pos, aft, g⟩ (.bool (!b)) := fun _ _ => op_not hx
theorem Ng (hx : ev r x = .int .i64 a) : Rd P W r ⟨d, .unOp .neg t x, ty, pos, aft, g⟩ (.int .i64 (w64 (0 - a))) := fun _ _ => op_neg hx
end
theorem Nk {x : Operand} {a : Addr} (hx : ev r x = .pointer (some a)) : Rd P W r ⟨d, .nilCheck x, ty, pos, aft, g⟩ (.pointer (some a)) := fun _ _ => op_nilCheck hx
theorem Ex {x : Operand} {k : Nat} {vs : Array Value} (v : Value) (hx : ev r x = .tuple vs) (hv : vs[k]? = some v) : Rd P W r ⟨d, .extract x k, ty, pos, aft, g⟩ v := fun _ _ => op_extract hx hv
theorem Exi {x : Operand} {k : Nat} {vs : Array Value} {i : IntKind} {a : Int} (hx : ev r x = .tuple vs) (hv : vs[k]? = some (.int i a)) : Rd P W r ⟨d, .extract x k, ty, pos, aft, g⟩ (.int i a) := fun _ _ => op_extract hx hv
theorem Exb {x : Operand} {k : Nat} {vs : Array Value} {a : Bool} (hx : ev r x = .tuple vs) (hv : vs[k]? = some (.bool a)) : Rd P W r ⟨d, .extract x k, ty, pos, aft, g⟩ (.bool a) := fun _ _ => op_extract hx hv
/-- a field's place -/
def FA (P : Program) (s k off : Nat) : Prop := ∃ fs f i, P.underlying s = some (.struct fs) ∧ fs[k]? = some f ∧ P.info? f.type = some i ∧ i.size ≠ 0 ∧ f.offset = off
section
variable {s : TypeId} {x : Operand} {k off o1 b : Nat} {a : Addr}
theorem Fp (h : FA P s k off) (hx : ev r x = .pointer (some a)) : Rd P W r ⟨d, .fieldAddr s x k, ty, pos, aft, g⟩ (.pointer (some (a.add off))) := by
  obtain ⟨fs, f, i, h1, h2, h3, h4, h5⟩ := h; exact fun _ _ => op_fieldAddrP h1 h2 h3 h4 h5 hx
theorem F0 (h : FA P s k 0) (hx : ev r x = .pointer (some a)) : Rd P W r ⟨d, .fieldAddr s x k, ty, pos, aft, g⟩ (.pointer (some a)) := by
  obtain ⟨fs, f, i, h1, h2, h3, h4, h5⟩ := h; exact fun _ _ => op_fieldAddr0 h1 h2 h3 h4 h5 hx
theorem Fs (h : FA P s k off) (o2 : Nat) (hx : ev r x = .pointer (some ⟨b, o1, none⟩)) (ho : o1 + off = o2) : Rd P W r ⟨d, .fieldAddr s x k, ty, pos, aft, g⟩ (.pointer (some ⟨b, o2, none⟩)) := by
  obtain ⟨fs, f, i, h1, h2, h3, h4, h5⟩ := h; exact fun _ _ => op_fieldAddrR h1 h2 h3 h4 (by rw [h5]; exact ho) hx
theorem Fr (h : FA P s k off) (hx : ev r x = .pointer (some ⟨b, 0, none⟩)) : Rd P W r ⟨d, .fieldAddr s x k, ty, pos, aft, g⟩ (.pointer (some ⟨b, off, none⟩)) := Fs h off hx (Nat.zero_add _)
end
/-- a type that is no struct or array -/
def NA (P : Program) (t : TypeId) : Prop := ∃ ds, P.underlying t = some ds ∧ aggDesc ds = false
section
variable {t : TypeId} {x y : Operand} {a : Addr}
theorem Ld (ht : NA P t) (hc : W.cell? a = some v) (hx : ev r x = .pointer (some a)) : Rd P W r ⟨d, .load t x, ty, pos, aft, g⟩ v := by
  obtain ⟨ds, h1, h2⟩ := ht; exact fun _ hC => op_load h1 h2 hx (hC.cell0 hc)
theorem Lr {b j : Nat} {cs : List Value} {e : TypeId} (ht : NA P t) (hr : Row W b cs e) (hx : ev r x = .pointer (some ⟨b, j, none⟩)) (hj : cs[j]? = some v) : Rd P W r ⟨d, .load t x, ty, pos, aft, g⟩ v :=
  Ld ht (by have := hr.at.cell hj; rwa [addr_add, Nat.zero_add] at this) hx
theorem La {p : Addr} {j : Nat} {cs : List Value} (ht : NA P t) (h : At W p cs) (hx : ev r x = .pointer (some (p.add j))) (hj : cs[j]? = some v) : Rd P W r ⟨d, .load t x, ty, pos, aft, g⟩ v := Ld ht (h.cell hj) hx
theorem Lb {p : Addr} {cs : List Value} (ht : NA P t) (h : At W p cs) (hx : ev r x = .pointer (some p)) (hj : cs[0]? = some v) : Rd P W r ⟨d, .load t x, ty, pos, aft, g⟩ v := Ld ht (h.cell0 hj) hx
/-- a type of structs of so many cells -/
def AG (P : Program) (t : TypeId) (n : Nat) : Prop := ∃ ds i, P.underlying t = some ds ∧ aggDesc ds = true ∧ P.info? t = some i ∧ i.size = n
theorem Lg {n : Nat} {p : Addr} {cs : List Value} (ht : AG P t n) (h : At W p cs) (hx : ev r x = .pointer (some p)) (hn : cs.length = n) : Rd P W r ⟨d, .load t x, ty, pos, aft, g⟩ (.agg cs.toArray) := by
  obtain ⟨ds, i, h1, h2, h3, h4⟩ := ht; exact fun _ hC => op_loadAgg h1 h2 h3 (by rw [hn, h4]) hx (h.keep0 hC)
variable {u : Value} {j : Int} {f : List Nat}
theorem Ei {k : IntKind} {xs : List Int} {z : Int} (ht : NA P t) (hr : (sImm (sInt k)).rep W.heap [u] xs f) (hz : 0 ≤ j ∧ xs[j.toNat]? = some z) (hx : ev r x = .pointer (some (elA u 1 j))) : Rd P W r ⟨d, .load t x, ty, pos, aft, g⟩ (.int k z) := Ld ht (int_get hr hz.1 hz.2) hx
theorem Eb {xs : List Bool} {z : Bool} (ht : NA P t) (hr : (sImm sBool).rep W.heap [u] xs f) (hz : 0 ≤ j ∧ xs[j.toNat]? = some z) (hx : ev r x = .pointer (some (elA u 1 j))) : Rd P W r ⟨d, .load t x, ty, pos, aft, g⟩ (.bool z) := Ld ht (bool_get hr hz.1 hz.2) hx
/-- slices of one cell an element -/
def SL (P : Program) (t : TypeId) : Prop := ∃ e i, P.underlying t = some (.slice e) ∧ P.info? e = some i ∧ i.size = 1
theorem Ix {α : Type} {E : STy α} {xs : List α} {z : α} {k : IntKind} (ht : SL P t) (hr : (sImm E).rep W.heap [u] xs f) (hz : 0 ≤ j ∧ xs[j.toNat]? = some z) (hx : ev r x = u) (hy : ev r y = .int k j) (hE : E.size = 1) : Rd P W r ⟨d, .indexAddr t x y, ty, pos, aft, g⟩ (.pointer (some (elA u 1 j))) := by
  obtain ⟨e, i, h1, h2, h3⟩ := ht; subst hx; exact fun _ hC => op_indexI h1 h2 h3 hE (STy.keep0 _ hr hC) hy hz.1 hz.2
theorem Ln {α : Type} {E : STy α} {xs : List α} (ht : SL P t) (hr : (sImm E).rep W.heap [u] xs f) (hx : ev r x = u) : Rd P W r ⟨d, .call ⟨.builtin .len, #[x], #[t]⟩, ty, pos, aft, g⟩ (.int .i64 (xs.length : Int)) := by
  obtain ⟨e, i, h1, _, _⟩ := ht; subst hx; exact fun _ hC => op_lenI h1 (STy.keep0 _ hr hC)
theorem Bu {parts : List (Nat × Operand)} {cs : Array Value} (h : P.built t (parts.map fun x => (x.1, ev r x.2)) = some cs) : Rd P W r ⟨d, .build t parts.toArray, ty, pos, aft, g⟩ (.agg cs) := fun _ _ => op_build h
end
/-- facts restated -/
theorem kB {α : Type} {E : STy α} {cs : List Value} {x : α} {f : List Nat} (hr : E.rep w.heap cs x f) (hC : Chg [] w W) : E.rep W.heap cs x f := E.keep0 hr hC
/-- a guarded region's skipped operations -/
theorem Sk {K : (Nat → Value) → Prop} {j : Nat} {t b c : Bool} (hy : yl ops r j = some b) (hb : b = c) (hc : (c == t) = false) (k : QL P (Chg [] W) ops l (updO r d undef) K) : QL P (Chg [] W) ops (⟨d, op, ty, pos, aft, some (j, t)⟩ :: l) r K :=
  QL.skipG (b := c) rfl (by rw [hy, hb]) hc k
end
end Go.Li
