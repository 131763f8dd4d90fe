/- Interfaces whose dynamic type is known; guarded operations one behind the other; slices held against nil. No condition. -/
import Derived.Test.YtbedkejmebepcaaGreatLk
import Derived.Lib.SliceRun
import Derived.Laws.Pointers
namespace Go.Li
open Go
section
variable {P : Program} {W w : World} {r : Nat → Value} {ops l : List Oper} {d : Option Nat} {ty : TypeId} {pos : String} {aft : Array Edge} {g : Option (Nat × Bool)} {op : Op} {v : Value}
def ifaceDesc : TypeDesc → Bool | .interface _ => true | _ => false
/-- a value put into an interface -/
theorem If {t : TypeId} {x : Operand} {ds : TypeDesc} (ht : P.underlying t = some ds) (hd : ifaceDesc ds = false) (v : Value) (hx : ev r x = v) : Rd P W r ⟨d, .makeInterface t x, ty, pos, aft, g⟩ (.iface t v) := by
  intro w _
  simp only [execOp, Instr.makeInterface, Sem.run_bind, run_uu ht, Result.andThen_ok, hx]
  cases ds <;> first | rfl | cases hd
/-- the type t has all methods of the interface a -/
def IA (P : Program) (t a : TypeId) : Prop := ∃ want i, P.underlying a = some (.interface want) ∧ P.info? t = some i ∧ Instr.missingMethod want i.methods = none
theorem Ta {t a xt : TypeId} {x : Operand} {u : Value} (h : IA P t a) (hx : ev r x = .iface t u) : Rd P W r ⟨d, .typeAssert x xt a true, ty, pos, aft, g⟩ (.tuple #[.iface t u, .bool true]) := by
  obtain ⟨want, i, h1, h2, h3⟩ := h
  intro w _
  simp only [execOp, Instr.typeAssert, Sem.run_bind, run_uu h1, Result.andThen_ok, hx]
  simp [typeInfo, h2, h3]
/-- a method of the type t itself that takes a value -/
def IM (P : Program) (t : TypeId) (name : String) (f : FuncId) : Prop := ∃ i m ds fn c, P.info? t = some i ∧ i.methods.find? (·.name == name) = some m ∧ m.path = #[] ∧ m.func = some (f, false) ∧ P.underlying t = some ds ∧ (∀ e, ds ≠ .pointer e) ∧
  P.funcs[f]? = some fn ∧ fn.body = some c ∧ (fn.name == "runtime.NumGoroutine") = false
theorem op_invoke {t : TypeId} {name : String} {f : FuncId} {x : Operand} {u : Value} {xs : List Operand} {ats : Array TypeId} (h : IM P t name f) (hx : ev r x = .iface t u) :
    (execOp (ev r) ⟨d, .call ⟨.invoke x name, xs.toArray, ats⟩, ty, pos, aft, g⟩).run P w = .ok (.enter f (u :: xs.map (ev r)).toArray) w := by
  obtain ⟨i, m, ds, fn, c, h1, h2, h3, h4, h5, h6, h7, h8, h9⟩ := h
  have hn' : ¬ (fn.name = "runtime.NumGoroutine") := by simpa using h9
  have hm : ∀ n, (method (n + 1) t u name).run P w = .ok (f, u) w := by
    intro n
    have hr : (receiverAt t (.val u) false (if m.path.isEmpty then some ((name.splitOn ".").getLastD name) else none)).run P w = .ok u w := by
      simp only [receiverAt, Sem.run_bind, run_uu h5, Result.andThen_ok]
      cases ds <;> first | rfl | (rename_i e; exact absurd rfl (h6 e))
    simp only [method, Sem.run_bind, typeInfo]
    simp [h1, h2, h3, h4, follow] at hr ⊢
    simp [hr]
  have hd : Made.depth = Made.depth - 1 + 1 := by decide
  have hm2 := hm (P.types.size + (Made.depth - 1))
  rw [Nat.add_assoc, ← hd] at hm2
  simp [execOp, resolve, invoke, callMethod, hx, hm2, callFunc, h7, h8, hn']
  exact List.take_of_length_le (by simp)
theorem Qi {K : (Nat → Value) → Prop} {t : TypeId} {name : String} {f : FuncId} {x : Operand} {u : Value} {xs : List Operand} {ats : Array TypeId} {j : Nat} {tt b : Bool} (hy : yl ops r j = some b) (hg : b = tt) (h : IM P t name f) (hx : ev r x = .iface t u)
    (hc : ∀ w', Chg [] W w' → Calls P f (u :: xs.map (ev r)).toArray w' fun e w'' => e = .returned v ∧ Chg [] w' w'')
    (k : QL P (Chg [] W) ops l (updO r d v) K) : QL P (Chg [] W) ops (⟨d, .call ⟨.invoke x name, xs.toArray, ats⟩, ty, pos, aft, some (j, tt)⟩ :: l) r K :=
  QL.callG rfl (by rw [hy, hg]) (fun _ _ => op_invoke h hx) (fun w' h => (hc w' h).mono fun _ _ x => ⟨x.1, h.trans x.2⟩) k
/-- a slice against nil -/
theorem Bz {x y : Operand} {t t' e : TypeId} {a : Option Addr} {n c n' c' : Nat} (ht : P.underlying t = some (.slice e)) (hx : ev r x = .slice a n c) (hy : ev r y = .slice none n' c') :
    Rd P W r ⟨d, .binOp .eql t x y t', ty, pos, aft, g⟩ (.bool a.isNone) := by
  intro w _
  have h := Lib.run_eql_slice_nil (P := P) w t e a n c n' c' ht
  have hg : (eqGuard .eql t x y (.slice a n c) (.slice none n' c')).run P w = .ok () w := rfl
  simp only [execOp, hx, hy]
  simp [hg, h]
/-- a pointer against nil -/
theorem Bpn1 {x y : Operand} {t t' : TypeId} {a : Addr} (ht : P.underlying t = some (.pointer (P.pointee t))) (hx : ev r x = .pointer (some a)) (hy : ev r y = .pointer none) : Rd P W r ⟨d, .binOp .neq t x y t', ty, pos, aft, g⟩ (.bool true) :=
  fun _ _ => op_ptr ht hx hy rfl (run_neq_pointer_nil _ t (some a) ht)
theorem Bpn0 {x y : Operand} {t t' : TypeId} (ht : P.underlying t = some (.pointer (P.pointee t))) (hx : ev r x = .pointer none) (hy : ev r y = .pointer none) : Rd P W r ⟨d, .binOp .neq t x y t', ty, pos, aft, g⟩ (.bool false) :=
  fun _ _ => op_ptr ht hx hy rfl (run_neq_pointer_nil _ t none ht)
theorem Bpe1 {x y : Operand} {t t' : TypeId} {a : Addr} (ht : P.underlying t = some (.pointer (P.pointee t))) (hx : ev r x = .pointer (some a)) (hy : ev r y = .pointer none) : Rd P W r ⟨d, .binOp .eql t x y t', ty, pos, aft, g⟩ (.bool false) :=
  fun _ _ => op_ptr ht hx hy rfl (run_eql_pointer_nil _ t (some a) ht)
theorem Bpe0 {x y : Operand} {t t' : TypeId} (ht : P.underlying t = some (.pointer (P.pointee t))) (hx : ev r x = .pointer none) (hy : ev r y = .pointer none) : Rd P W r ⟨d, .binOp .eql t x y t', ty, pos, aft, g⟩ (.bool true) :=
  fun _ _ => op_ptr ht hx hy rfl (run_eql_pointer_nil _ t none ht)
/-- guarded operations one behind the other -/
theorem Wg {K : (Nat → Value) → World → Prop} {j : Nat} {t b : Bool} (hC : Chg [] W w) (hy : yl ops r j = some b) (hb : b = t) (h : Rd P W r ⟨d, op, ty, pos, aft, some (j, t)⟩ v) (k : WL P ops l (updO r d v) w K) : WL P ops (⟨d, op, ty, pos, aft, some (j, t)⟩ :: l) r w K :=
  .inl ⟨by rw [wanted_of rfl (by rw [hy, hb])]; cases t <;> rfl, by unfold OpW; rw [h w hC]; exact k⟩
theorem Wk {K : (Nat → Value) → World → Prop} {j : Nat} {t b c : Bool} (hy : yl ops r j = some b) (hb : b = c) (hc : (c == t) = false) (k : WL P ops l (updO r d undef) w K) : WL P ops (⟨d, op, ty, pos, aft, some (j, t)⟩ :: l) r w K :=
  .inr ⟨by rw [wanted_of rfl (by rw [hy, hb])]; exact hc, k⟩
end
/-- what a parameter leans on is apart from what may change or is new -/
theorem dis_parF {α : Type} {T : STy α} {w : World} {cs : List Value} {x : α} {f g G : List Nat} (hr : T.rep w.heap cs x f) (hn : Dis f G) (hg : ∀ b ∈ g, b ∈ G ∨ w.heap.size ≤ b) : Dis f g :=
  fun b hb hm => (hg b hm).elim (hn b hb) fun h => absurd (T.lt hr b hb) (Nat.not_lt.2 h)
/-- a row of a parameter's slice, where what changed is apart from it -/
theorem one_getP {α : Type} {E : STy α} {w W : World} {G : List Nat} {v : Value} {xs : List α} {f : List Nat} (h1 : E.size = 1) (hr : (sImm E).rep w.heap [v] xs f) (hC : Chg G w W) (hn : Dis f G) {j : Int} {x : α} (h0 : 0 ≤ j) (hx : xs[j.toNat]? = some x) :
    ∃ u f1, W.cell? (elA v 1 j) = some u ∧ E.rep w.heap [u] x f1 ∧ ∀ b ∈ f1, b ∈ f := by
  obtain ⟨u, f1, hu, h2, h3⟩ := one_get h1 hr h0 hx
  refine ⟨u, f1, hC.cell ?_ hu, h2, h3⟩
  obtain ⟨base, cap, hv, hr⟩ := hr
  obtain rfl : v = .slice base xs.length cap := by simpa using hv
  rcases hr with ⟨rfl, _⟩ | ⟨b, off, cur, e, fz, f', rfl, h2, rfl, h3⟩
  · simp at hx
  · refine hn _ ?_
    unfold elA
    simp [addr_add]
/-- a frame by its known slots, all looked at in one go -/
theorem fe {r : Nat → Value} {l : List (Nat × Value)} (h : l.map (fun p => r p.1) = l.map Prod.snd) : ∃ F, r = updL F l := by
  refine fr ?_
  induction l with
  | nil => trivial
  | cons p l ih =>
    simp only [List.map_cons, List.cons.injEq] at h
    exact ⟨h.1, ih h.2⟩
theorem agree_of {r : Nat → Value} {l : List (Nat × Value)} (h : ∀ p ∈ l, r p.1 = p.2) : agree r l := by
  induction l with
  | nil => trivial
  | cons p l ih => exact ⟨h p (by simp), ih fun q hq => h q (by simp [hq])⟩
/-- what a call of a function has come to -/
def Tm {X : Type} (P : Program) (fn : Func) (n : Nat) (R : X → Ending → World → Prop) : X → (Nat → Value) → World → Prop :=
  fun x r w' => ∃ v, (∀ a : Act, a.tmps.size = n → rho a = r → (results fn a.tmps).run P w' = .ok v w') ∧ R x (.returned v) w'
section
variable {P : Program} {n : Nat} {Q : Exit → (Nat → Value) → World → Prop} {r : Nat → Value} {w : World}
theorem Cm {S R : Type} {f : FuncId} {fn : Func} {c : Code} {args : List Value} {w : World} {Rr : R → Ending → World → Prop} {m : Option (Out S R)} {y : R}
    (hf : P.funcs[f]? = some fn) (hb : fn.body = some c) (hn : fn.ntmps = n) (hl : Nat.ble args.length n = true) (hm : retM m = some y)
    (h : ∀ o, m = some o → Chg [] w w → W P n c (outPost (fun _ _ _ => False) (fun _ _ _ _ => False) (Tm P fn n Rr) o) (fun t => args.getD t undef) w) : Calls P f args.toArray w (Rr y) :=
  calls_of_M hf hb hn (Nat.le_of_ble_eq_true hl) (retM_some hm) fun o ho => h o ho (Chg.refl _ _)
theorem Cv {R : Type} {f : FuncId} {fn : Func} {c : Code} {args : List Value} {w : World} {Rr : R → Ending → World → Prop} {m : Option (Out R R)} {y : R}
    (hf : P.funcs[f]? = some fn) (hb : fn.body = some c) (hn : fn.ntmps = n) (hl : Nat.ble args.length n = true) (hm : finM m = some y)
    (h : ∀ o, m = some o → Chg [] w w → W P n c (outPost (Tm P fn n Rr) (fun _ _ _ _ => False) (Tm P fn n Rr) o) (fun t => args.getD t undef) w) : Calls P f args.toArray w (Rr y) :=
  calls_of_Mv hf hb hn (Nat.le_of_ble_eq_true hl) hm fun o ho => h o ho (Chg.refl _ _)
/-- a loop; the ways out of it need no word -/
theorem Wf {R S S1 : Type} {k : Nat} {c : Code} {body : S1 → Option (Out S1 R)} (I : S1 → (Nat → Value) → World → Prop) (T : R → (Nat → Value) → World → Prop)
    {s0 : S1} {f : S1 → Option (Out S R)} {o : Out S R} (hm : lbind (blockM k (loopM body s0)) f = some o) (h0 : I s0 r w)
    (step : ∀ s r w, I s r w → ∀ o, body s = some o → W P n c (outPost I (fun j s r w => bif Nat.beq j k then I s r w else False) T o) r w)
    (next : ∀ s r w, I s r w → f s = some o → Q .normal r w)
    (ht : ∀ x r w, o = .ret x → T x r w → Q .ret r w := by intro x r w ho hx; subst ho; exact hx) : W P n (.block k (.loop c)) Q r w := W_for I hm h0 ht step next
end
abbrev sV (v : Value) : Gives := ⟨true, pl fun _ _ u => u = v⟩
abbrev sO {α : Type} (T : STy α) (x : α) : Gives := ⟨true, pl (OwnV T x)⟩
def hotB (l : List Oper) (m : Nat) (k : List (Nat × Value)) : Bool := k.all fun p => (List.range m).all fun j => dstAt l j != some p.1
theorem hotB_spec {l : List Oper} {m : Nat} {k : List (Nat × Value)} (h : hotB l m k = true) : ∀ p ∈ k, ∀ j, j < m → dstAt l j ≠ some p.1 := by
  intro p hp j hj
  simp only [hotB, List.all_eq_true, List.mem_range, bne_iff_ne] at h
  exact h p hp j hj
theorem mem_map_eq {α β : Type} {f g : α → β} {l : List α} (h : l.map f = l.map g) : ∀ p ∈ l, f p = g p := by
  induction l with
  | nil => intro p hp; cases hp
  | cons a l ih =>
    simp only [List.map_cons, List.cons.injEq] at h
    intro p hp
    rcases List.mem_cons.1 hp with rfl | hp
    · exact h.1
    · exact ih h.2 p hp
section
variable {P : Program} {l : List Oper} {S : List Gives} {r0 : Nat → Value} {w0 W : World}
/-- what the head owes for a quiet operation that reads slots from before the region (k) and slots of the head (q: slot and value; js: whose they are) -/
theorem Ov {m i : Nat} {U : List (List Nat)} {o : Oper} {v : Value} (ho : l[i]? = some o) (hs : S[i]? = some (sV v)) (hg : o.guard = none) (k q : List (Nat × Value)) (js : List Nat) (hC : Chg [] W w0)
    (hk : hotB l m k = true) (hv : k.map (fun p => r0 p.1) = k.map Prod.snd) (hj : (js.all fun j => needB l U m i j) = true)
    (hq : js.map (fun j => (S[j]?, dstAt l j)) = q.map fun p => (some (sV p.2), some p.1)) (h : ∀ F, Rd P W (updL F (k ++ q)) o v) : Owes P l m S U r0 w0 [] i :=
  Owes.val ho hs hg fun g r w hCr _ H hot => by
    obtain ⟨F, rfl⟩ := fr (r := r) (l := k ++ q) (agree_of fun p hp => by
      rcases List.mem_append.1 hp with hp | hp
      · rw [hot p.1 fun j hj => hotB_spec hk p hp j hj]; exact mem_map_eq hv p hp
      · have key : ∀ (js : List Nat) (q : List (Nat × Value)), (∀ j ∈ js, needB l U m i j = true) → js.map (fun j => (S[j]?, dstAt l j)) = q.map (fun p => (some (sV p.2), some p.1)) → ∀ p ∈ q, r p.1 = p.2 := by
          intro js
          induction js with
          | nil => intro q _ hq p hp; cases q with
            | nil => cases hp
            | cons a q => simp at hq
          | cons j js ih =>
            intro q hj hq p hp
            cases q with
            | nil => simp at hq
            | cons a q =>
              simp only [List.map_cons, List.cons.injEq, Prod.mk.injEq] at hq
              rcases List.mem_cons.1 hp with rfl | hp
              · have := (H j (hj j (by simp))).1 p.1 hq.1.2
                rw [hq.1.1] at this
                exact this
              · exact ih q (fun j h => hj j (by simp [h])) hq.2 p hp
        exact key js q (List.all_eq_true.1 hj) hq p hp)
    exact h F w (hC.trans hCr)
theorem Oh {m i : Nat} {U : List (List Nat)} {o : Oper} {v : Value} (ho : l[i]? = some o) (hs : S[i]? = some (sV v)) (hg : o.guard = none) (k : List (Nat × Value)) (hC : Chg [] W w0)
    (hk : hotB l m k = true) (hv : k.map (fun p => r0 p.1) = k.map Prod.snd) (h : ∀ F, Rd P W (updL F k) o v) : Owes P l m S U r0 w0 [] i :=
  Owes.val ho hs hg fun g r w hCr _ H hot => by
    obtain ⟨F, rfl⟩ := fr (r := r) (l := k) (agree_of fun p hp => by rw [hot p.1 fun j hj => hotB_spec hk p hp j hj]; exact mem_map_eq hv p hp)
    exact h F w (hC.trans hCr)
/-- the frame behind the head: slots from before the region (k), slots of the head that hold plain values (q, js), others (z) -/
theorem fw {m : Nat} {U : List (List Nat)} {g : Nat → List Nat} {r : Nat → Value} {w : World} (H : ∀ j, j < m → (∀ k, k < m → j ∉ U.getD k []) → Done l S j g r w) (hot : ∀ t, (∀ j, j < m → dstAt l j ≠ some t) → r t = r0 t)
    (k q : List (Nat × Value)) (js : List Nat) (hk : hotB l m k = true) (hv : k.map (fun p => r0 p.1) = k.map Prod.snd) (hj : (js.all fun j => Nat.blt j m && (List.range m).all fun k => !(U.getD k []).contains j) = true)
    (hq : js.map (fun j => (S[j]?, dstAt l j)) = q.map fun p => (some (sV p.2), some p.1)) {z : List (Nat × Value)} (hz : agree r z) : ∃ F, r = updL F (k ++ q ++ z) := by
  refine fr ?_
  have hz' : ∀ p ∈ z, r p.1 = p.2 := by
    clear hq hj hv hk
    induction z with
    | nil => intro p hp; cases hp
    | cons a z ih =>
      intro p hp
      rcases List.mem_cons.1 hp with rfl | hp
      · exact hz.1
      · exact ih hz.2 p hp
  refine agree_of fun p hp => ?_
  rcases List.mem_append.1 hp with hp | hp
  · rcases List.mem_append.1 hp with hp | hp
    · rw [hot p.1 fun j hj => hotB_spec hk p hp j hj]; exact mem_map_eq hv p hp
    · have key : ∀ (js : List Nat) (q : List (Nat × Value)), (∀ j ∈ js, j < m ∧ ∀ k, k < m → j ∉ U.getD k []) → js.map (fun j => (S[j]?, dstAt l j)) = q.map (fun p => (some (sV p.2), some p.1)) → ∀ p ∈ q, r p.1 = p.2 := by
        intro js
        induction js with
        | nil => intro q _ hq p hp; cases q with
          | nil => cases hp
          | cons a q => simp at hq
        | cons j js ih =>
          intro q hj hq p hp
          cases q with
          | nil => simp at hq
          | cons a q =>
            simp only [List.map_cons, List.cons.injEq, Prod.mk.injEq] at hq
            rcases List.mem_cons.1 hp with rfl | hp
            · have h1 := hj j (by simp)
              have := (H j h1.1 h1.2).1 p.1 hq.1.2
              rw [hq.1.1] at this
              exact this
            · exact ih q (fun j h => hj j (by simp [h])) hq.2 p hp
      refine key js q (fun j hm => ?_) hq p hp
      have h1 := List.all_eq_true.1 hj j hm
      simp only [Bool.and_eq_true, List.all_eq_true, List.mem_range, Bool.not_eq_true', List.contains_eq_mem, decide_eq_false_iff_not] at h1
      exact ⟨Nat.lt_of_succ_le (Nat.le_of_ble_eq_true h1.1), h1.2⟩
  · exact hz' p hp
end
end Go.Li
