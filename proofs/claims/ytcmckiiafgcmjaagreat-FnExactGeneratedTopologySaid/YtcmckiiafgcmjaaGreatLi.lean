/- Atomic numbers; pointers held against nil. No condition. -/
import Derived.Test.YtcmckiiafgcmjaaGreatLh
import Derived.Laws.LoneSync
namespace Go.Li
open Go
section
variable {P : Program} {r : Nat → Value} {w : World} {d : Option Nat} {ty : TypeId} {pos : String} {aft : Array Edge} {g : Option (Nat × Bool)}

theorem ev_func {f : FuncId} : ev r (.func f) = .func (.func f) #[] #[] := rfl
theorem op_atLoad {f : FuncId} {fn : Func} {x : Operand} {a : Addr} {k : IntKind} {n : Int} {ats : Array TypeId} (hf : P.funcs[f]? = some fn) (hname : (fn.name == "runtime.NumGoroutine") = false) (hb : fn.body.isNone = true) (hn : Extern.findNext fn = none)
    (he : Extern.find fn = some (Extern.Atomic.loadT (.int k))) (hx : ev r x = .pointer (some a)) (hc : w.cell? a = some (.int k n)) :
    (execOp (ev r) ⟨d, .call ⟨.value (.func f), #[x], ats⟩, ty, pos, aft, g⟩).run P w = .ok (.value (.int k n)) w := by
  have h := run_call_load hf hname hb hn k he hc
  simp [execOp, resolve, Deferred.ofValue, ev_func, invoke, hx, h]

variable {ops l : List Oper} {K : (Nat → Value) → World → Prop}
theorem WL.atAdd {f : FuncId} {fn : Func} {x y : Operand} {b : Nat} {cs : List Value} {e : TypeId} {j : Nat} {n m : Int} {ats : Array TypeId} (hf : P.funcs[f]? = some fn) (hname : (fn.name == "runtime.NumGoroutine") = false) (hb : fn.body.isNone = true) (hn : Extern.findNext fn = none)
    (he : Extern.find fn = some (Extern.Atomic.update (Op.intArith .add) .i64 true)) (hrow : Row w b cs e) (hj : cs[j]? = some (.int .i64 n)) (hx : ev r x = .pointer (some ⟨b, j, none⟩)) (hy : ev r y = .int .i64 m)
    (k : ∀ w', Chg [b] w w' → Row w' b (cs.set j (.int .i64 (w64 (n + m)))) e → WL P ops l (updO r d (.int .i64 (w64 (n + m)))) w' K) :
    WL P ops (⟨d, .call ⟨.value (.func f), #[x, y], ats⟩, ty, pos, aft, none⟩ :: l) r w K := by
  have hjl : j < cs.length := (List.getElem?_eq_some_iff.1 hj).1
  have hc : w.cell? ⟨b, j, none⟩ = some (.int .i64 n) := by
    rw [cell_of_row w b _ cs.toArray e _ hrow, ← Array.getElem?_toList]; exact hj
  have hz : w.frozen? ⟨b, j, none⟩ = false := frozen_of_row w b _ cs.toArray e hrow
  have h := run_call_add (P := P) hf hname hb hn .i64 he (y := m) (s := w64 (n + m)) hc hz (by simp [Op.intArith, w64])
  have hrow' := heap_setCell_same w b j cs.toArray e (.int .i64 (w64 (n + m))) hrow
  refine WL.val rfl (w' := w.setCell ⟨b, j, none⟩ (.int .i64 (w64 (n + m)))) (by simp [execOp, resolve, Deferred.ofValue, ev_func, invoke, hx, hy, h]) (k _ (Chg.setCell w ⟨b, j, none⟩ _) ?_)
  show _ = _
  rw [hrow']
  congr 2
  simp

theorem op_lenV {t e : TypeId} {x : Operand} {n : Nat} (ht : P.underlying t = some (.slice e)) (hx : ∃ b c, ev r x = .slice b n c) :
    (execOp (ev r) ⟨d, .call ⟨.builtin .len, #[x], #[t]⟩, ty, pos, aft, g⟩).run P w = .ok (.value (.int .i64 (n : Int))) w := by
  obtain ⟨b, c, hx⟩ := hx
  exact op_len ht hx
/-- what a parameter points to is apart from what the call may change -/
theorem pat_out {p : Addr} {c : Value} {cs : List Value} {F G : List Nat} (h : At w p (c :: cs)) (hn : p.block ∉ G) (hlow : ∀ b ∈ F, b ∈ G ∨ w.heap.size ≤ b) : p.block ∉ F := fun hm =>
  (hlow _ hm).elim hn fun hle => by
    have h0 := cell_lt (h 0 c rfl)
    rw [add_block] at h0
    exact absurd h0 (Nat.not_lt.2 hle)
theorem op_ptr {op : BinOp} {x y : Operand} {t t' e : TypeId} {a b : Option Addr} {v : Value} (ht : P.underlying t = some (.pointer e)) (hx : ev r x = .pointer a) (hy : ev r y = .pointer b) (hg : (eqGuard op t x y (.pointer a) (.pointer b)).run P w = .ok () w)
    (hv : (binOp op t (.pointer a) (.pointer b)).run P w = .ok v w) :
    (execOp (ev r) ⟨d, .binOp op t x y t', ty, pos, aft, g⟩).run P w = .ok (.value v) w := by
  have _ := ht
  simp only [execOp, hx, hy]
  simp [hg, hv]
end
end Go.Li
