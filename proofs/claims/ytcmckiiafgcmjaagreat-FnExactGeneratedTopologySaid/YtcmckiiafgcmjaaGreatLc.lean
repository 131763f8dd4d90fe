/- What each kind of operation gives, a law a kind. No condition. -/
import Derived.Test.YtcmckiiafgcmjaaGreatLb
import Derived.Laws.Append
import Derived.Laws.MakeOwn
namespace Go.Li
open Go

section
variable {P : Program} {r : Nat → Value} {w : World} {d : Option Nat} {ty : TypeId} {pos : String} {aft : Array Edge} {g : Option (Nat × Bool)}

theorem run_uu {t : TypeId} {d : TypeDesc} (h : P.underlying t = some d) (w : World) : (underlying t).run P w = .ok d w := run_underlying h w

theorem op_move (x : Operand) : (execOp (ev r) ⟨d, .move x, ty, pos, aft, g⟩).run P w = .ok (.value (ev r x)) w := rfl
theorem op_assign (x : Operand) : (execOp (ev r) ⟨d, .assign x, ty, pos, aft, g⟩).run P w = .ok (.value (ev r x)) w := rfl

theorem op_pick {c a b : Operand} {t : Bool} (h : ev r c = .bool t) :
    (execOp (ev r) ⟨d, .pick c a b, ty, pos, aft, g⟩).run P w = .ok (.value (bif t then ev r a else ev r b)) w := by
  simp only [execOp, h, asBool]
  cases t <;> rfl

theorem op_pickT {c a b : Operand} {t : Bool} (h : ev r c = .bool t) (ht : t = true) :
    (execOp (ev r) ⟨d, .pick c a b, ty, pos, aft, g⟩).run P w = .ok (.value (ev r a)) w := by rw [op_pick h, ht]; rfl
theorem op_pickF {c a b : Operand} {t : Bool} (h : ev r c = .bool t) (ht : t = false) :
    (execOp (ev r) ⟨d, .pick c a b, ty, pos, aft, g⟩).run P w = .ok (.value (ev r b)) w := by rw [op_pick h, ht]; rfl

theorem op_not {x : Operand} {t : TypeId} {b : Bool} (h : ev r x = .bool b) :
    (execOp (ev r) ⟨d, .unOp .not t x, ty, pos, aft, g⟩).run P w = .ok (.value (.bool (!b))) w := by
  simp only [execOp, h, Op.unary]; rfl

theorem op_neg {x : Operand} {t : TypeId} {k : IntKind} {a : Int} (h : ev r x = .int k a) :
    (execOp (ev r) ⟨d, .unOp .neg t x, ty, pos, aft, g⟩).run P w = .ok (.value (.int k (k.wrap (0 - a)))) w := by
  simp only [execOp, h, Op.unary, Op.intArith]; rfl

theorem eqGuard_int (op : BinOp) (t : TypeId) (x y : Operand) (k k' : IntKind) (a b : Int) : (eqGuard op t x y (.int k a) (.int k' b)).run P w = .ok () w := by
  cases op <;> rfl
theorem eqGuard_bool (op : BinOp) (t : TypeId) (x y : Operand) (a b : Bool) : (eqGuard op t x y (.bool a) (.bool b)).run P w = .ok () w := by
  cases op <;> rfl

theorem op_bin {op : BinOp} {x y : Operand} {t t' : TypeId} {k : IntKind} {a b : Int} {v : Value} (hx : ev r x = .int k a) (hy : ev r y = .int k b)
    (hv : (binOp op t (.int k a) (.int k b)).run P w = .ok v w) :
    (execOp (ev r) ⟨d, .binOp op t x y t', ty, pos, aft, g⟩).run P w = .ok (.value v) w := by
  have h := eqGuard_int (P := P) (w := w) op t x y k k a b
  simp only [execOp, hx, hy]
  simp [h, hv]

theorem bin_add {t : TypeId} {k : IntKind} {a b : Int} : (binOp .add t (.int k a) (.int k b)).run P w = .ok (.int k (k.wrap (a + b))) w := by simp [binOp, Op.intArith]
theorem bin_sub {t : TypeId} {k : IntKind} {a b : Int} : (binOp .sub t (.int k a) (.int k b)).run P w = .ok (.int k (k.wrap (a - b))) w := by simp [binOp, Op.intArith]
theorem bin_mul {t : TypeId} {k : IntKind} {a b : Int} : (binOp .mul t (.int k a) (.int k b)).run P w = .ok (.int k (k.wrap (a * b))) w := by simp [binOp, Op.intArith]
theorem bin_lss {t : TypeId} {k : IntKind} {a b : Int} : (binOp .lss t (.int k a) (.int k b)).run P w = .ok (.bool (decide (a < b))) w := by simp [binOp, Op.intCmp]
theorem bin_leq {t : TypeId} {k : IntKind} {a b : Int} : (binOp .leq t (.int k a) (.int k b)).run P w = .ok (.bool (decide (a ≤ b))) w := by simp [binOp, Op.intCmp]
theorem bin_gtr {t : TypeId} {k : IntKind} {a b : Int} : (binOp .gtr t (.int k a) (.int k b)).run P w = .ok (.bool (decide (a > b))) w := by simp [binOp, Op.intCmp]
theorem bin_geq {t : TypeId} {k : IntKind} {a b : Int} : (binOp .geq t (.int k a) (.int k b)).run P w = .ok (.bool (decide (a ≥ b))) w := by simp [binOp, Op.intCmp]
theorem bin_eql {t : TypeId} {k : IntKind} {a b : Int} : (binOp .eql t (.int k a) (.int k b)).run P w = .ok (.bool (a == b)) w := by simp [binOp, Op.intCmp]
theorem bin_neq {t : TypeId} {k : IntKind} {a b : Int} : (binOp .neq t (.int k a) (.int k b)).run P w = .ok (.bool (a != b)) w := by simp [binOp, Op.intCmp]

theorem equalIn_bool (k : Nat) {t : TypeId} {a b : Bool} (ht : P.underlying t = some .bool) : (Op.equalIn (k + 1) t (.bool a) (.bool b)).run P w = .ok (a == b) w := by
  simp only [Op.equalIn, Sem.run_bind, run_uu ht]
  rfl
theorem equal_bool {t : TypeId} {a b : Bool} (ht : P.underlying t = some .bool) : (Op.equal t (.bool a) (.bool b)).run P w = .ok (a == b) w := equalIn_bool 9999 ht

theorem op_binB {x y : Operand} {t t' : TypeId} {a b : Bool} (hx : ev r x = .bool a) (hy : ev r y = .bool b) (ht : P.underlying t = some .bool) :
    (execOp (ev r) ⟨d, .binOp .eql t x y t', ty, pos, aft, g⟩).run P w = .ok (.value (.bool (a == b))) w := by
  have h := eqGuard_bool (P := P) (w := w) .eql t x y a b
  simp only [execOp, hx, hy]
  simp [h, binOp, equal_bool ht]
theorem op_binBn {x y : Operand} {t t' : TypeId} {a b : Bool} (hx : ev r x = .bool a) (hy : ev r y = .bool b) (ht : P.underlying t = some .bool) :
    (execOp (ev r) ⟨d, .binOp .neq t x y t', ty, pos, aft, g⟩).run P w = .ok (.value (.bool (!(a == b)))) w := by
  have h := eqGuard_bool (P := P) (w := w) .neq t x y a b
  simp only [execOp, hx, hy]
  simp [h, binOp, equal_bool ht]

/-- is a type one of structs or arrays -/
def aggDesc : TypeDesc → Bool | .struct _ | .array _ _ => true | _ => false

theorem op_isAgg {t : TypeId} {ds : TypeDesc} (h : P.underlying t = some ds) (w : World) : (isAgg t).run P w = .ok (aggDesc ds) w := by
  unfold isAgg
  simp only [run_uu h, Sem.run_bind]
  cases ds <;> rfl

theorem op_load {t : TypeId} {x : Operand} {a : Addr} {ds : TypeDesc} {v : Value} (ht : P.underlying t = some ds) (hd : aggDesc ds = false)
    (hx : ev r x = .pointer (some a)) (hc : w.cell? a = some v) :
    (execOp (ev r) ⟨d, .load t x, ty, pos, aft, g⟩).run P w = .ok (.value v) w := by
  simp only [execOp, hx, Instr.loadAt, Instr.sureAddr, loadVar]
  simp [op_isAgg ht, hd, load, Sem.run, hc]

theorem op_loadAgg {t : TypeId} {x : Operand} {a : Addr} {ds : TypeDesc} {i : TypeInfo} {cs : List Value} (ht : P.underlying t = some ds) (hd : aggDesc ds = true)
    (hi : P.info? t = some i) (hl : cs.length = i.size)
    (hx : ev r x = .pointer (some a)) (hc : ∀ j v, cs[j]? = some v → w.cell? (a.add j) = some v) :
    (execOp (ev r) ⟨d, .load t x, ty, pos, aft, g⟩).run P w = .ok (.value (.agg cs.toArray)) w := by
  have h := run_loadCells_list (P := P) (w := w) a cs hc
  simp only [execOp, hx, Instr.loadAt, Instr.sureAddr, loadVar]
  rw [hl] at h
  simp [op_isAgg ht, hd, sizeOf, typeInfo, hi, h]

theorem op_len {t e : TypeId} {x : Operand} {b : Option Addr} {l c : Nat} (ht : P.underlying t = some (.slice e)) (hx : ev r x = .slice b l c) :
    (execOp (ev r) ⟨d, .call ⟨.builtin .len, #[x], #[t]⟩, ty, pos, aft, g⟩).run P w = .ok (.value (.int .i64 (l : Int))) w := by
  simp [execOp, resolve, invoke, builtin, Builtin.len_, hx, run_uu ht, goInt]

theorem op_lenS {t : TypeId} {x : Operand} {s : ByteArray} (ht : P.underlying t = some .string) (hx : ev r x = .string s) :
    (execOp (ev r) ⟨d, .call ⟨.builtin .len, #[x], #[t]⟩, ty, pos, aft, g⟩).run P w = .ok (.value (.int .i64 (s.size : Int))) w := by
  simp [execOp, resolve, invoke, builtin, Builtin.len_, hx, run_uu ht, goInt]

theorem op_fieldAddr {s : TypeId} {x : Operand} {k : Nat} {fs : Array Field} {f : Field} {i : TypeInfo} {a : Addr} (hs : P.underlying s = some (.struct fs)) (hf : fs[k]? = some f)
    (hi : P.info? f.type = some i) (h0 : i.size ≠ 0) (hx : ev r x = .pointer (some a)) :
    (execOp (ev r) ⟨d, .fieldAddr s x k, ty, pos, aft, g⟩).run P w = .ok (.value (.pointer (some (a.add f.offset)))) w := by
  simp [execOp, Instr.fieldAt, Instr.sureAddr, hx, run_uu hs, hf, fieldPlace, sizeOf, typeInfo, hi, h0]

theorem op_indexAddr {t e : TypeId} {x y : Operand} {i : TypeInfo} {a : Addr} {l c : Nat} {k : IntKind} {j : Int} (ht : P.underlying t = some (.slice e)) (hi : P.info? e = some i)
    (hx : ev r x = .slice (some a) l c) (hy : ev r y = .int k j) (h0 : 0 ≤ j) (h1 : j < l) :
    (execOp (ev r) ⟨d, .indexAddr t x y, ty, pos, aft, g⟩).run P w = .ok (.value (.pointer (some (a.add (j.toNat * i.size))))) w := by
  simp [execOp, Instr.indexAt, hx, hy, asIntOf, run_uu ht, sizeOf, typeInfo, hi, h0, h1]

theorem op_nilCheck {x : Operand} {a : Addr} (hx : ev r x = .pointer (some a)) :
    (execOp (ev r) ⟨d, .nilCheck x, ty, pos, aft, g⟩).run P w = .ok (.value (.pointer (some a))) w := by
  simp [execOp, hx]

theorem op_extract {x : Operand} {k : Nat} {vs : Array Value} {v : Value} (hx : ev r x = .tuple vs) (hv : vs[k]? = some v) :
    (execOp (ev r) ⟨d, .extract x k, ty, pos, aft, g⟩).run P w = .ok (.value v) w := by
  simp [execOp, Instr.extract, hx, hv]

theorem op_box {t : TypeId} {x : Operand} {v : Value} (hx : ev r x = v) :
    (execOp (ev r) ⟨d, .box t x, ty, pos, aft, g⟩).run P w = .ok (.value (.pointer (some ⟨w.heap.size, 0, none⟩))) (w.alloc (.cells v.cells t)) := by
  simp only [execOp, Instr.box, newVar, newRow, newObj, hx]
  rfl

theorem op_alloc {t : TypeId} {i : TypeInfo} {z : Value} (hi : P.info? t = some i) (hz : i.zero = some z) :
    (execOp (ev r) ⟨d, .alloc t, ty, pos, aft, g⟩).run P w = .ok (.value (.pointer (some ⟨w.heap.size, 0, none⟩))) (w.alloc (.cells z.cells t)) := by
  have h : (zeroValue t).run P w = .ok z w := by simp [zeroValue, typeInfo, hi, hz]
  simp only [execOp, Instr.alloc, Sem.run_bind, h, Result.andThen, newVar, newRow, newObj]
  rfl

theorem op_store {t : TypeId} {x y : Operand} {a : Addr} {i : TypeInfo} {v u : Value} (hi : P.info? t = some i) (hs : i.size = 1)
    (hx : ev r x = .pointer (some a)) (hy : ev r y = v) (hv : v.oneCell' = true) (hc : w.cell? a = some u) (hf : w.frozen? a = false) :
    (execOp (ev r) ⟨d, .store t x y, ty, pos, aft, g⟩).run P w = .ok .skip (w.setCell a v) := by
  have hcells : v.cells = #[v] := by cases v <;> first | rfl | (cases hv)
  simp [execOp, Instr.storeAt, Instr.sureAddr, hx, hy, storeVar, hcells, sizeOf, typeInfo, hi, hs, storeCells, Addr.add, Go.run_store, hv, hc, hf]

theorem op_callF {f : FuncId} {fn : Func} {c : Code} {xs : List Operand} {ats : Array TypeId} (hf : P.funcs[f]? = some fn) (hb : fn.body = some c) (hn : (fn.name == "runtime.NumGoroutine") = false) :
    (execOp (ev r) ⟨d, .call ⟨.value (.func f), xs.toArray, ats⟩, ty, pos, aft, g⟩).run P w = .ok (.enter f (xs.map (ev r)).toArray) w := by
  have hn' : ¬ (fn.name = "runtime.NumGoroutine") := by simpa using hn
  simp [execOp, resolve, Deferred.ofValue, ev, invoke, callFunc, program, Sem.run, hf, hb, hn']

theorem op_callT {f : FuncId} {fn : Func} {c : Code} {x : Operand} {xs : List Operand} {ats : Array TypeId} {fst cap : List Value} (hx : ev r x = .func (.func f) fst.toArray cap.toArray) (hf : P.funcs[f]? = some fn) (hb : fn.body = some c) (hn : (fn.name == "runtime.NumGoroutine") = false) :
    (execOp (ev r) ⟨d, .call ⟨.value x, xs.toArray, ats⟩, ty, pos, aft, g⟩).run P w = .ok (.enter f (fst ++ xs.map (ev r) ++ cap).toArray) w := by
  have hn' : ¬ (fn.name = "runtime.NumGoroutine") := by simpa using hn
  simp [execOp, resolve, Deferred.ofValue, hx, invoke, callFunc, program, Sem.run, hf, hb, hn']

/-- a function that can be called -/
def FnOk (P : Program) (g : FuncId) : Prop := ∃ fn c, P.funcs[g]? = some fn ∧ fn.body = some c ∧ (fn.name == "runtime.NumGoroutine") = false
theorem op_callP {f : FuncId} {x : Operand} {xs : List Operand} {ats : Array TypeId} {cap : List Value} (hx : ev r x = .func (.func f) #[] cap.toArray) (h : FnOk P f) :
    (execOp (ev r) ⟨d, .call ⟨.value x, xs.toArray, ats⟩, ty, pos, aft, g⟩).run P w = .ok (.enter f (xs.map (ev r) ++ cap).toArray) w := by
  obtain ⟨fn, c, h1, h2, h3⟩ := h
  exact op_callT (fst := []) hx h1 h2 h3

theorem op_makeFunc {f : FuncId} {fst cap : List Operand} :
    (execOp (ev r) ⟨d, .makeFunc (.func f) fst.toArray cap.toArray, ty, pos, aft, g⟩).run P w = .ok (.value (.func (.func f) (fst.map (ev r)).toArray (cap.map (ev r)).toArray)) w := by
  simp [execOp, Instr.makeFunc]

end
end Go.Li
