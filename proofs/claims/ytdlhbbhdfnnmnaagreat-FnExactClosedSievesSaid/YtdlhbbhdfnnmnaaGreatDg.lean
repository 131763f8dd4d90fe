/- A calculus of walks: regions that draw their order and make memory. No condition. -/
import Derived.Test.YtdlhbbhdfnnmnaaGreatDe
import Derived.Deep.Quiet
namespace Go.Dk
open Go Go.Li
/-- an operation of the head that makes memory, or whose value leans on what such a one gives: its number, its slot, the slot that it leans on, its headers, its value, its entries -/
structure MemD where
  j : Nat
  d : Nat
  src : Option Nat
  V : Type
  rt : Value → V → Value
  ps : Value → V → List Ent
def Xof : List MemD → Type
  | [] => Unit
  | a :: l => a.V × Xof l
def srcV (a : MemD) (r : Nat → Value) : Value := match a.src with
  | none => undef
  | some t => r t
def srcF (a : MemD) (f : Fr) : Value := match a.src with
  | none => undef
  | some t => match look f t with
    | some v => v
    | none => undef
def mF : (ms : List MemD) → Xof ms → Fr
  | [], _ => []
  | a :: l, x => (a.d, a.rt (srcF a (mF l x.2)) x.1) :: mF l x.2
def allE : (ms : List MemD) → Xof ms → List Ent
  | [], _ => []
  | a :: l, x => a.ps (srcF a (mF l x.2)) x.1 ++ allE l x.2
def visF (A : List Nat) : (ms : List MemD) → Xof ms → Fr
  | [], _ => []
  | a :: l, x => bif memB a.j A then (a.d, a.rt (srcF a (mF l x.2)) x.1) :: visF A l x.2 else visF A l x.2
def visE (A : List Nat) : (ms : List MemD) → Xof ms → List Ent
  | [], _ => []
  | a :: l, x => bif memB a.j A then a.ps (srcF a (mF l x.2)) x.1 ++ visE A l x.2 else visE A l x.2
/-- which operation gives a slot -/
def fstJ (t : Nat) : List MemD → Option Nat
  | [] => none
  | a :: l => bif Nat.beq t a.d then some a.j else fstJ t l
def srcB (A : List Nat) : List MemD → Bool
  | [] => true
  | a :: l => (match a.src with
    | none => true
    | some t => bif memB a.j A then (match fstJ t l with
      | some j => memB j A
      | none => false) else true) && srcB A l
def srcA : List MemD → Bool
  | [] => true
  | a :: l => (match a.src with
    | none => true
    | some t => (fstJ t l).isSome) && srcA l
theorem look_vis {A : List Nat} {r : Nat → Value} {t : Nat} : ∀ {ms : List MemD} {x : Xof ms} {j : Nat}, fstJ t ms = some j → memB j A = true → (∀ p ∈ visF A ms x, r p.1 = p.2) → look (mF ms x) t = some (r t) := by
  intro ms
  induction ms with
  | nil => intro x j h; cases h
  | cons a l ih =>
    intro x j h hj hp
    unfold fstJ at h
    unfold mF look
    cases hb : Nat.beq t a.d with
    | true =>
      rw [hb] at h
      cases h
      have := hp (a.d, a.rt (srcF a (mF l x.2)) x.1) (by unfold visF; rw [hj]; simp)
      simp only [cond_true]
      rw [Nat.eq_of_beq_eq_true hb, this]
    | false =>
      rw [hb] at h
      refine ih h hj fun p hm => hp p ?_
      unfold visF
      cases memB a.j A with
      | true => exact List.mem_cons_of_mem _ hm
      | false => exact hm
theorem look_all {r : Nat → Value} {t : Nat} : ∀ {ms : List MemD} {x : Xof ms}, (fstJ t ms).isSome = true → (∀ p ∈ mF ms x, r p.1 = p.2) → look (mF ms x) t = some (r t) := by
  intro ms
  induction ms with
  | nil => intro x h; cases h
  | cons a l ih =>
    intro x h hp
    unfold fstJ at h
    unfold mF at hp ⊢
    unfold look
    cases hb : Nat.beq t a.d with
    | true =>
      simp only [cond_true]
      rw [Nat.eq_of_beq_eq_true hb, hp (a.d, a.rt (srcF a (mF l x.2)) x.1) (by simp)]
    | false =>
      rw [hb] at h
      exact ih h fun p hm => hp p (List.mem_cons_of_mem _ hm)
/-- values of slots that the operations before have given -/
def visV (A : List Nat) : List (Nat × Nat × Value) → Fr
  | [] => []
  | (j, d, u) :: l => bif memB j A then (d, u) :: visV A l else visV A l
def MV (a : MemD) : List Nat → World → (Nat → Value) → Value → Prop := fun f w r x => ∃ v : a.V, x = a.rt (srcV a r) v ∧ HL (fun _ => False) w (a.ps (srcV a r) v) f ∧ f.Nodup
section
variable {P : Program} {w w' : World} {Z : Nat → Prop}
theorem HL.keepN {F H : List Nat} {Δ : List Ent} (h : HL (fun _ => False) w Δ F) (hC : Chg H w w') (hd : ∀ b ∈ F, b ∉ H) : HL (fun _ => False) w' Δ F := by
  induction h with
  | nil => exact .nil
  | @own e f F Δ h _ ih => exact .own (h.keep hC (fun _ _ h => h) fun b hb hm => hd b (List.mem_append_left _ hm) hb) (ih fun b hb => hd b (List.mem_append_right _ hb))
  | @fact e F Δ h _ ih =>
    refine .fact ?_ (ih hd)
    cases e with
    | rd o T v x =>
      obtain ⟨g, h1, h2⟩ := h
      have hg : g = [] := by
        cases g with
        | nil => rfl
        | cons b g => exact absurd (h2 b (by simp)) (by cases o <;> simp [inZ])
      subst hg
      exact ⟨[], T.keep h1 hC (fun _ h => absurd h List.not_mem_nil), fun _ h => absurd h List.not_mem_nil⟩
    | ad o1 o2 v j T x => obtain ⟨_, _, u, g, _, _, h3, _⟩ := h; exact absurd h3 (by cases o1 <;> simp [inZ])
    | ats p cs =>
      have hc : cs = [] := by
        cases cs with
        | nil => rfl
        | cons c cs => exact (h.2 (by simp)).elim
      subst hc
      exact ⟨fun j u hj => by simp at hj, fun hn => absurd rfl hn⟩
    | hd v j u => exact absurd h.2.2.2 List.not_mem_nil
    | _ => exact h.elim
theorem HL.up {F : List Nat} {Δ : List Ent} (h : HL (fun _ => False) w Δ F) : HL Z w Δ F := by
  induction h with
  | nil => exact .nil
  | own h _ ih => exact .own (h.mono fun _ h => h.elim) ih
  | fact h _ ih => exact .fact (h.mono (fun _ h => h.elim) fun _ h => h) ih
theorem HL.app {Δ Δ' : List Ent} {F F' : List Nat} (h : HL Z w Δ F) (k : HL Z w Δ' F') : HL Z w (Δ ++ Δ') (F ++ F') := by
  induction h with
  | nil => exact k
  | own h _ ih => rw [List.append_assoc]; exact .own h ih
  | fact h _ ih => exact .fact h ih
theorem srcV_eq {a : MemD} {r r' : Nat → Value} (h : ∀ t, a.src = some t → r' t = r t) : srcV a r' = srcV a r := by
  unfold srcV
  cases he : a.src with
  | none => rfl
  | some t => exact h t he
theorem stable_mv {l : List Oper} {a : List Nat} {b : Bool} {m : MemD} (hs : ∀ t, m.src = some t → ∃ j ∈ a, dstAt l j = some t) : Stab a l ⟨b, MV m⟩ := by
  intro f F w w' r r' x hC hn hr ⟨v, h1, h2, h3⟩
  have e := srcV_eq (a := m) (r := r) (r' := r') fun t ht => by
    obtain ⟨j, hj, hd⟩ := hs t ht
    exact hr j hj t hd
  refine ⟨v, by rw [e]; exact h1, by rw [e]; exact h2.keepN hC hn, h3⟩
/-- what is owed stays owed when more is given -/
theorem Owes.more {l : List Oper} {m i : Nat} {U : List (List Nat)} {S S' : List Gives} {r0 : Nat → Value} {w0 : World} (h : Owes P l m S U r0 w0 i) (hi : i < S.length) : Owes P l m (S ++ S') U r0 w0 i := by
  intro o s ho hs g r w hC hn hot hd hf
  rw [List.getElem?_append_left hi] at hs
  refine h o s ho hs g r w hC (fun j hj => ?_) hot hd hf
  have := hn j hj
  intro d hd'
  have h2 := this d hd'
  by_cases hl : j < S.length
  · rw [List.getElem?_append_left hl] at h2; exact h2
  · rw [List.getElem?_eq_none (by omega)]; trivial
end
/-- the values that an operation may read: those of its ancestors and the base -/
inductive VisD (A : List Nat) : Option (Bool × Nat × Value) → List (Nat × Nat × Value) → Fr → Fr → Prop
  | nil {base : Fr} : VisD A none [] base base
  | cons {j d : Nat} {u : Value} {l : List (Nat × Nat × Value)} {base fr : Fr} (h : VisD A (some (memB j A, d, u)) l base fr) : VisD A none ((j, d, u) :: l) base fr
  | keep {d : Nat} {u : Value} {l : List (Nat × Nat × Value)} {base fr : Fr} (h : VisD A none l base fr) : VisD A (some (true, d, u)) l base ((d, u) :: fr)
  | drop {d : Nat} {u : Value} {l : List (Nat × Nat × Value)} {base fr : Fr} (h : VisD A none l base fr) : VisD A (some (false, d, u)) l base fr
/-- a quiet operation's value -/
inductive VLe : {α : Type} → STy α → α → Value → Prop
  | i {k : IntKind} {z : Int} : VLe (sInt k) z (.int k z)
  | b {z : Bool} : VLe sBool z (.bool z)
inductive VQ (P : Program) (Γ : List Ent) (fr : Fr) : Op → Value → Prop
  | mv {x : Operand} {v : Value} (hx : opv fr x = some v) : VQ P Γ fr (.move x) v
  | as {x : Operand} {v : Value} (hx : opv fr x = some v) : VQ P Γ fr (.assign x) v
  | add {x y : Operand} {t t' : TypeId} {a b : Int} (hx : opv fr x = some (.int .i64 a)) (hy : opv fr y = some (.int .i64 b)) : VQ P Γ fr (.binOp .add t x y t') (.int .i64 (w64 (a + b)))
  | sub {x y : Operand} {t t' : TypeId} {a b : Int} (hx : opv fr x = some (.int .i64 a)) (hy : opv fr y = some (.int .i64 b)) : VQ P Γ fr (.binOp .sub t x y t') (.int .i64 (w64 (a - b)))
  | lss {x y : Operand} {t t' : TypeId} {k : IntKind} {a b : Int} (hx : opv fr x = some (.int k a)) (hy : opv fr y = some (.int k b)) : VQ P Γ fr (.binOp .lss t x y t') (.bool (decide (a < b)))
  | eql {x y : Operand} {t t' : TypeId} {k : IntKind} {a b : Int} (hx : opv fr x = some (.int k a)) (hy : opv fr y = some (.int k b)) : VQ P Γ fr (.binOp .eql t x y t') (.bool (a == b))
  | neq {x y : Operand} {t t' : TypeId} {k : IntKind} {a b : Int} (hx : opv fr x = some (.int k a)) (hy : opv fr y = some (.int k b)) : VQ P Γ fr (.binOp .neq t x y t') (.bool (a != b))
  | not {x : Operand} {t : TypeId} {b : Bool} (hx : opv fr x = some (.bool b)) : VQ P Γ fr (.unOp .not t x) (.bool (!b))
  | nilc {x : Operand} {a : Addr} (hx : opv fr x = some (.pointer (some a))) : VQ P Γ fr (.nilCheck x) (.pointer (some a))
  | ext {x : Operand} {k : Nat} {vs : List Value} {v : Value} (hx : opv fr x = some (.tuple vs.toArray)) (hv : vs[k]? = some v) : VQ P Γ fr (.extract x k) v
  | fad {s k off : Nat} {x : Operand} {a a' : Addr} [hf : FAc P s k off] (hx : opv fr x = some (.pointer (some a))) (ha : AddA a off a') : VQ P Γ fr (.fieldAddr s x k) (.pointer (some a'))
  | len {x : Operand} {v : Value} {t : TypeId} {n : Nat} [ht : SLc P t] (hx : opv fr x = some v) (hr : LenD Γ v n) : VQ P Γ fr (.call ⟨.builtin .len, #[x], #[t]⟩) (.int .i64 (n : Int))
  | bld {t : TypeId} {ps : List (Nat × Operand)} {zc cs : List Value} {pl : List (Nat × Nat)} [hb : BuC P t zc pl] (hf : FillD Γ fr pl ps zc cs) : VQ P Γ fr (.build t ps.toArray) (.agg cs.toArray)
  | fld {s k off : Nat} {x : Operand} {cs : List Value} {v : Value} [hf : FLc P s k off] (hx : opv fr x = some (.agg cs.toArray)) (hc : cs[off]? = some v) : VQ P Γ fr (.field s x k) v
theorem VQ.sound {P : Program} {Γ : List Ent} {fr : Fr} {op : Op} {u : Value} (h : VQ P Γ fr op u) {Z : Nat → Prop} {w : World} {cur F : List Nat} (hS : SA Z w Γ cur F) {r : Nat → Value} (ha : agr r fr) (d : Option Nat) (ty : TypeId) (pos : String) (aft : Array Edge) (g : Option (Nat × Bool)) :
    Rd P w r ⟨d, op, ty, pos, aft, g⟩ u := by
  cases h with
  | mv hx => exact Mv _ (opv_ev ha hx)
  | as hx => exact Av _ (opv_ev ha hx)
  | add hx hy => exact Ba (opv_ev ha hx) (opv_ev ha hy)
  | sub hx hy => exact Go.Li.Bs (opv_ev ha hx) (opv_ev ha hy)
  | lss hx hy => exact Bl (opv_ev ha hx) (opv_ev ha hy)
  | eql hx hy => exact Be (opv_ev ha hx) (opv_ev ha hy)
  | neq hx hy => exact Bn (opv_ev ha hx) (opv_ev ha hy)
  | not hx => exact Nt (opv_ev ha hx)
  | nilc hx => exact Nk (opv_ev ha hx)
  | ext hx hv => exact Ex _ (opv_ev ha hx) (by simpa using hv)
  | @fad s k off x a a' hf hx hq => rw [hq.eq]; exact Fp hf.h (opv_ev ha hx)
  | @fld s k off x cs v hf hx hc =>
    obtain ⟨fs, f, ds, h1, h2, h3, h4, h5⟩ := hf.h
    exact fun _ _ => op_field h1 h2 h3 h4 h5 (opv_ev ha hx) (by simpa using hc)
  | @len x v t n ht hx hr =>
    obtain ⟨b, c, rfl⟩ := hr.sound hS
    obtain ⟨e, i, h1, _, _⟩ := ht.h
    exact fun _ _ => op_len h1 (opv_ev ha hx)
  | @bld t ps zc cs pl hb hf =>
    obtain ⟨fs, i, z, h1, h2, h3, h4, h5⟩ := hb.h
    refine Bu ?_
    have := hf.fill ha hS
    unfold Program.built
    rw [h3, h1]
    simp only [h4, h2]
    rw [show z.cells = zc.toArray by rw [← h5]]
    exact this
theorem VisD.sound {A : List Nat} {q : Option (Bool × Nat × Value)} {sl : List (Nat × Nat × Value)} {base fr : Fr} {r : Nat → Value} (h : VisD A q sl base fr) (hb : agr r base) :
    (∀ p ∈ sl, memB p.1 A = true → r p.2.1 = p.2.2) → (∀ b d u, q = some (b, d, u) → b = true → r d = u) → agr r fr := by
  induction h with
  | nil => intro _ _; exact hb
  | @cons j d u l base fr _ ih =>
    intro h1 _
    refine ih hb (fun p hp => h1 p (by simp [hp])) ?_
    rintro b d' u' he hbt
    cases he
    exact h1 (j, d, u) (by simp) hbt
  | @keep d u l base fr _ ih =>
    intro h1 h2
    intro s v hl
    unfold look at hl
    cases hb2 : Nat.beq s d with
    | true => rw [hb2] at hl; cases hl; rw [Nat.eq_of_beq_eq_true hb2]; exact h2 true d _ rfl rfl
    | false => rw [hb2] at hl; exact ih hb h1 (fun _ _ _ h => nomatch h) s v hl
  | drop _ ih => intro h1 _; exact ih hb h1 (fun _ _ _ h => nomatch h)
def allF : List (Nat × Nat × Value) → Fr → Fr
  | [], f => f
  | (_, d, u) :: l, f => (d, u) :: allF l f
/-- a call out of what is visible -/
inductive CallD (P : Program) (f : FuncId) (xs : List Operand) (fr : Fr) (Γ : List Ent) {β V : Type} (mo : Option β) (rt : β → V → List Value) (ps : β → V → List Ent) : Prop
  | mk {vs : List Value} {Δ : List Ent} (hx : opvs fr xs = some vs) (hc : Ct P f true mo vs Δ rt ps) (hd : FO Δ) (hr : ER true Γ Δ) : CallD P f xs fr Γ mo rt ps
inductive InhX : List MemD → Prop
  | nil : InhX []
  | cons {a : MemD} {l : List MemD} (h : Inh a.V) (k : InhX l) : InhX (a :: l)
theorem InhX.ne {ms : List MemD} (h : InhX ms) : Nonempty (Xof ms) := by
  induction h with
  | nil => exact ⟨()⟩
  | cons h _ ih => obtain ⟨a⟩ := h.ne; obtain ⟨b⟩ := ih; exact ⟨(a, b)⟩
/-- is a slot given by an operation that makes memory? -/
inductive WhD : List MemD → Nat → Bool → Prop
  | here {a : MemD} {l : List MemD} : WhD (a :: l) a.d true
  | there {a : MemD} {l : List MemD} {t : Nat} {b : Bool} (h : WhD l t b) : WhD (a :: l) t b
  | nil {t : Nat} : WhD [] t false
inductive FldD (fr : Fr) (t off : Nat) : Prop
  | mk {cs : List Value} {v : Value} (h : look fr t = some (.agg cs.toArray)) (hc : cs[off]? = some v) : FldD fr t off
inductive TupD (fr : Fr) (t k : Nat) : Prop
  | mk {cs : List Value} {v : Value} (h : look fr t = some (.tuple cs.toArray)) (hc : cs[k]? = some v) : TupD fr t k
inductive OneD (fr : Fr) (Γ : List Ent) (t : Nat) : Prop
  | mk {v : Value} (h : look fr t = some v) (hc : One Γ v) : OneD fr Γ t
inductive LnD (fr : Fr) (Γ : List Ent) (t n : Nat) : Prop
  | mk {v : Value} (h : look fr t = some v) (hc : LenD Γ v n) : LnD fr Γ t n
/-- claims on the head of a region -/
inductive JA (R S : Type) : Type 1
  | a (as : List (List Nat)) (ops : List Oper) (i : Nat) (sl : List (Nat × Nat × Value)) (ms : List MemD) (Γ : List Ent) (m : Option (Out S R))
  | o (A : List Nat) (op : Op) (d : Nat) (ty : TypeId) (as : List (List Nat)) (ops : List Oper) (i : Nat) (sl : List (Nat × Nat × Value)) (ms : List MemD) (Γ : List Ent) (m : Option (Out S R))
  | ow (b : Bool) (A : List Nat) (op : Op) (d : Nat) (ty : TypeId) (as : List (List Nat)) (ops : List Oper) (i : Nat) (sl : List (Nat × Nat × Value)) (ms : List MemD) (Γ : List Ent) (m : Option (Out S R))
  | la (fr : Fr) (ad : Addr) (lk : Option Nat) (t : TypeId) (x : Operand) (A : List Nat) (d : Nat) (ty : TypeId) (as : List (List Nat)) (ops : List Oper) (i : Nat) (sl : List (Nat × Nat × Value)) (ms : List MemD) (Γ : List Ent) (m : Option (Out S R))
  | ld {α : Type} (E : STy α) (z : α) (fr : Fr) (ad : Addr) (t : TypeId) (x : Operand) (A : List Nat) (d : Nat) (ty : TypeId) (as : List (List Nat)) (ops : List Oper) (i : Nat) (sl : List (Nat × Nat × Value)) (ms : List MemD) (Γ : List Ent) (m : Option (Out S R))
  | cr {V : Type} (u : V → Value) (ps : V → List Ent) (d : Nat) (as : List (List Nat)) (ops : List Oper) (i : Nat) (sl : List (Nat × Nat × Value)) (ms : List MemD) (Γ : List Ent) (m : Option (Out S R))
/-- an operation's memory is taken -/
inductive GetD : List MemD → Nat → MemD → List MemD → Prop
  | here {a : MemD} {l : List MemD} : GetD (a :: l) a.d a l
  | there {a b : MemD} {l l' : List MemD} {t : Nat} (h : GetD l t a l') : GetD (b :: l) t a (b :: l')
/-- nothing that is still known has been used up -/
def endB (U : List (List Nat)) (sl : List (Nat × Nat × Value)) (ms : List MemD) : Bool := U.all fun us => us.all fun j => (sl.all fun p => !Nat.beq p.1 j) && ms.all fun a => !Nat.beq a.j j
inductive AD {R S : Type} (tq : Bool) (P : Program) (cx : Cx R) (K : Kont R S) (l tail : List Oper) (base : Fr) (U : List (List Nat)) : JA R S → Prop
  | nil {i : Nat} {sl : List (Nat × Nat × Value)} {ms : List MemD} {Γ : List Ent} {m : Option (Out S R)} (hsrc : srcA ms = true) (he : endB U sl ms = true) (h : ∀ x : Xof ms, D P cx (.p (allF sl (mF ms x)) (allE ms x) base Γ fun fr Γ => .tg tq (hasG tail) l tail K Γ fr m)) : AD tq P cx K l tail base U (.a [] [] i sl ms Γ m)
  | cons {A : List Nat} {as : List (List Nat)} {op : Op} {d : Nat} {ty : TypeId} {pos : String} {aft : Array Edge} {ops : List Oper} {i : Nat} {sl : List (Nat × Nat × Value)} {ms : List MemD} {Γ : List Ent} {m : Option (Out S R)} (h : AD tq P cx K l tail base U (.o A op d ty as ops i sl ms Γ m)) :
      AD tq P cx K l tail base U (.a (A :: as) (⟨some d, op, ty, pos, aft, none⟩ :: ops) i sl ms Γ m)
  | ltn {t e : TypeId} {n : Nat} {ps : List (Nat × Operand)} {us : List Value} {fr : Fr} {A : List Nat} {as : List (List Nat)} {d : Nat} {ty : TypeId} {ops : List Oper} {i : Nat} {sl : List (Nat × Nat × Value)} {ms : List MemD} {Γ : List Ent} {m : Option (Out S R)} [hz : LTc P t e] (hv : VisD A none sl base fr) (hl : LitD Γ fr 0 ps us) (hn : us.length = n) (hb : (Nat.ble 1 n && Nat.ble n 16777216) = true)
      (h : AD tq P cx K l tail base U (.a as ops (i + 1) sl (⟨i, d, none, Nat, fun _ b => .slice (some ⟨b, 0, none⟩) n n, fun _ b => [.row b us e]⟩ :: ms) Γ m)) : AD tq P cx K l tail base U (.o A (.buildSlice t n ps.toArray) d ty as ops i sl ms Γ m)
  | sw1 {t : Nat} {b : Bool} {A : List Nat} {as : List (List Nat)} {d : Nat} {ty : TypeId} {ops : List Oper} {i : Nat} {sl : List (Nat × Nat × Value)} {ms : List MemD} {Γ : List Ent} {m : Option (Out S R)} (hw : WhD ms t b) (h : AD tq P cx K l tail base U (.ow b A (.move (.tmp t)) d ty as ops i sl ms Γ m)) : AD tq P cx K l tail base U (.o A (.move (.tmp t)) d ty as ops i sl ms Γ m)
  | sw2 {t k : Nat} {b : Bool} {A : List Nat} {as : List (List Nat)} {d : Nat} {ty : TypeId} {ops : List Oper} {i : Nat} {sl : List (Nat × Nat × Value)} {ms : List MemD} {Γ : List Ent} {m : Option (Out S R)} (hw : WhD ms t b) (h : AD tq P cx K l tail base U (.ow b A (.extract (.tmp t) k) d ty as ops i sl ms Γ m)) : AD tq P cx K l tail base U (.o A (.extract (.tmp t) k) d ty as ops i sl ms Γ m)
  | sw3 {s t k : Nat} {b : Bool} {A : List Nat} {as : List (List Nat)} {d : Nat} {ty : TypeId} {ops : List Oper} {i : Nat} {sl : List (Nat × Nat × Value)} {ms : List MemD} {Γ : List Ent} {m : Option (Out S R)} (hw : WhD ms t b) (h : AD tq P cx K l tail base U (.ow b A (.field s (.tmp t) k) d ty as ops i sl ms Γ m)) : AD tq P cx K l tail base U (.o A (.field s (.tmp t) k) d ty as ops i sl ms Γ m)
  | sw4 {t st : Nat} {b : Bool} {A : List Nat} {as : List (List Nat)} {d : Nat} {ty : TypeId} {ops : List Oper} {i : Nat} {sl : List (Nat × Nat × Value)} {ms : List MemD} {Γ : List Ent} {m : Option (Out S R)} (hw : WhD ms t b) (h : AD tq P cx K l tail base U (.ow b A (.buildSlice st 1 #[(0, .tmp t)]) d ty as ops i sl ms Γ m)) : AD tq P cx K l tail base U (.o A (.buildSlice st 1 #[(0, .tmp t)]) d ty as ops i sl ms Γ m)
  | wlt {t e : TypeId} {α : Type} {E : STy α} {z0 : α} {bt : Nat} {u : Value} {x : Operand} {fr : Fr} {A : List Nat} {as : List (List Nat)} {d : Nat} {ty : TypeId} {ops : List Oper} {i : Nat} {sl : List (Nat × Nat × Value)} {ms : List MemD} {Γ : List Ent} {m : Option (Out S R)} [hz : STc P t α e E z0 bt] (hv : VisD A none sl base fr) (hx : opv fr x = some u) (h1 : One Γ u)
      (h : AD tq P cx K l tail base U (.a as ops (i + 1) sl (⟨i, d, none, Nat, fun _ b => .slice (some ⟨b, 0, none⟩) 1 1, fun _ b => [.row b [u] e]⟩ :: ms) Γ m)) : AD tq P cx K l tail base U (.ow false A (.buildSlice t 1 #[(0, x)]) d ty as ops i sl ms Γ m)
  | sw5 {t st : Nat} {b : Bool} {A : List Nat} {as : List (List Nat)} {d : Nat} {ty : TypeId} {ops : List Oper} {i : Nat} {sl : List (Nat × Nat × Value)} {ms : List MemD} {Γ : List Ent} {m : Option (Out S R)} (hw : WhD ms t b) (h : AD tq P cx K l tail base U (.ow b A (.call ⟨.builtin .len, #[.tmp t], #[st]⟩) d ty as ops i sl ms Γ m)) : AD tq P cx K l tail base U (.o A (.call ⟨.builtin .len, #[.tmp t], #[st]⟩) d ty as ops i sl ms Γ m)
  | mln {t n : Nat} {st : TypeId} {A : List Nat} {as : List (List Nat)} {d : Nat} {ty : TypeId} {ops : List Oper} {i : Nat} {sl : List (Nat × Nat × Value)} {ms : List MemD} {Γ : List Ent} {m : Option (Out S R)} [ht : SLc P st] (hi : InhX ms) (hsrc : srcB A ms = true) (hx : ∀ x : Xof ms, LnD (visF A ms x) (visE A ms x) t n) (h : AD tq P cx K l tail base U (.a as ops (i + 1) ((i, d, .int .i64 (n : Int)) :: sl) ms Γ m)) : AD tq P cx K l tail base U (.ow true A (.call ⟨.builtin .len, #[.tmp t], #[st]⟩) d ty as ops i sl ms Γ m)
  | alc {t : TypeId} {cs : List Value} {A : List Nat} {as : List (List Nat)} {d : Nat} {ty : TypeId} {ops : List Oper} {i : Nat} {sl : List (Nat × Nat × Value)} {ms : List MemD} {Γ : List Ent} {m : Option (Out S R)} [hz : ZVc P t cs] (h : AD tq P cx K l tail base U (.a as ops (i + 1) sl (⟨i, d, none, Nat, fun _ b => .pointer (some ⟨b, 0, none⟩), fun _ b => [.row b cs t]⟩ :: ms) Γ m)) : AD tq P cx K l tail base U (.o A (.alloc t) d ty as ops i sl ms Γ m)
  | wl0 {st : TypeId} {c : Value} {A : List Nat} {as : List (List Nat)} {d : Nat} {ty : TypeId} {ops : List Oper} {i : Nat} {sl : List (Nat × Nat × Value)} {ms : List MemD} {Γ : List Ent} {m : Option (Out S R)} (h : AD tq P cx K l tail base U (.ow false A (.buildSlice st 1 #[(0, .const c)]) d ty as ops i sl ms Γ m)) : AD tq P cx K l tail base U (.o A (.buildSlice st 1 #[(0, .const c)]) d ty as ops i sl ms Γ m)
  | ap1 {t e et : TypeId} {E : STy Int} {z0 : Int} {bt t1 t2 j2 d2 : Nat} {k : IntKind} {y : Int} {xs : List Int} {a1 : MemD} {ms1 ms2 : List MemD} {f : Unit → Option (Out S R)} {A : List Nat} {as : List (List Nat)} {d : Nat} {ty : TypeId} {ops : List Oper} {i : Nat} {sl : List (Nat × Nat × Value)} {ms : List MemD} {Γ : List Ent} [hz : STc P t Int e E z0 bt] (h1 : GetD ms t1 a1 ms1) (h2 : GetD ms1 t2 ⟨j2, d2, none, Nat, fun _ b => .slice (some ⟨b, 0, none⟩) 1 1, fun _ b => [.row b [.int k y] et]⟩ ms2) (h3 : ∀ u v, a1.ps u v = [.own (sOwn e (sInt k)) (a1.rt u v) xs]) (h4 : memB a1.j A = true) (h5 : memB j2 A = true) (h6 : U.getD i [] = [a1.j])
      (h : AD tq P cx K l tail base U (.a as ops (i + 1) sl (⟨i, d, none, Value, fun _ v => v, fun _ v => [.own (sOwn e (sInt k)) v (xs ++ [y])]⟩ :: ms1) Γ (f ()))) : AD tq P cx K l tail base U (.o A (.call ⟨.builtin .append, #[.tmp t1, .tmp t2], #[t, t]⟩) d ty as ops i sl ms Γ (fits bt (xs.length + 1) >>= f))
  | wv {op : Op} {u : Value} {fr : Fr} {A : List Nat} {as : List (List Nat)} {d : Nat} {ty : TypeId} {ops : List Oper} {i : Nat} {sl : List (Nat × Nat × Value)} {ms : List MemD} {Γ : List Ent} {m : Option (Out S R)} (hv : VisD A none sl base fr) (hq : VQ P Γ fr op u) (h : AD tq P cx K l tail base U (.a as ops (i + 1) ((i, d, u) :: sl) ms Γ m)) : AD tq P cx K l tail base U (.ow false A op d ty as ops i sl ms Γ m)
  | mmv {t : Nat} {A : List Nat} {as : List (List Nat)} {d : Nat} {ty : TypeId} {ops : List Oper} {i : Nat} {sl : List (Nat × Nat × Value)} {ms : List MemD} {Γ : List Ent} {m : Option (Out S R)} (hi : InhX ms) (hsrc : srcB A ms = true) (hj : ∃ j, fstJ t ms = some j ∧ memB j A = true) (h : AD tq P cx K l tail base U (.a as ops (i + 1) sl (⟨i, d, some t, Unit, fun u _ => u, fun _ _ => []⟩ :: ms) Γ m)) : AD tq P cx K l tail base U (.ow true A (.move (.tmp t)) d ty as ops i sl ms Γ m)
  | mex {t k : Nat} {A : List Nat} {as : List (List Nat)} {d : Nat} {ty : TypeId} {ops : List Oper} {i : Nat} {sl : List (Nat × Nat × Value)} {ms : List MemD} {Γ : List Ent} {m : Option (Out S R)} (hi : InhX ms) (hsrc : srcB A ms = true) (hj : ∃ j, fstJ t ms = some j ∧ memB j A = true) (hx : ∀ x : Xof ms, TupD (visF A ms x) t k) (h : AD tq P cx K l tail base U (.a as ops (i + 1) sl (⟨i, d, some t, Unit, fun u _ => tupOf u k, fun _ _ => []⟩ :: ms) Γ m)) : AD tq P cx K l tail base U (.ow true A (.extract (.tmp t) k) d ty as ops i sl ms Γ m)
  | mfd {s t k off : Nat} {A : List Nat} {as : List (List Nat)} {d : Nat} {ty : TypeId} {ops : List Oper} {i : Nat} {sl : List (Nat × Nat × Value)} {ms : List MemD} {Γ : List Ent} {m : Option (Out S R)} [hf : FLc P s k off] (hi : InhX ms) (hsrc : srcB A ms = true) (hj : ∃ j, fstJ t ms = some j ∧ memB j A = true) (hx : ∀ x : Xof ms, FldD (visF A ms x) t off) (h : AD tq P cx K l tail base U (.a as ops (i + 1) sl (⟨i, d, some t, Unit, fun u _ => fldOf u off, fun _ _ => []⟩ :: ms) Γ m)) : AD tq P cx K l tail base U (.ow true A (.field s (.tmp t) k) d ty as ops i sl ms Γ m)
  | mlt {t : Nat} {sl' e : TypeId} {α : Type} {E : STy α} {z0 : α} {bt : Nat} {A : List Nat} {as : List (List Nat)} {d : Nat} {ty : TypeId} {ops : List Oper} {i : Nat} {sl : List (Nat × Nat × Value)} {ms : List MemD} {Γ : List Ent} {m : Option (Out S R)} [hz : STc P sl' α e E z0 bt] (hi : InhX ms) (hsrc : srcB A ms = true) (hj : ∃ j, fstJ t ms = some j ∧ memB j A = true) (hx : ∀ x : Xof ms, OneD (visF A ms x) (visE A ms x) t)
      (h : AD tq P cx K l tail base U (.a as ops (i + 1) sl (⟨i, d, some t, Nat, fun _ b => .slice (some ⟨b, 0, none⟩) 1 1, fun u b => [.row b [u] e]⟩ :: ms) Γ m)) : AD tq P cx K l tail base U (.ow true A (.buildSlice sl' 1 #[(0, .tmp t)]) d ty as ops i sl ms Γ m)
  | mk {t e : TypeId} {α : Type} {E : STy α} {z0 : α} {bt : Nat} {x : Operand} {z : Int} {fr : Fr} {f : Nat → Option (Out S R)} {A : List Nat} {as : List (List Nat)} {d : Nat} {ty : TypeId} {ops : List Oper} {i : Nat} {sl : List (Nat × Nat × Value)} {ms : List MemD} {Γ : List Ent} [hz : STc P t α e E z0 bt] (hv : VisD A none sl base fr) (hx : opv fr x = some (.int .i64 z))
      (h : ∀ n, AD tq P cx K l tail base U (.a as ops (i + 1) sl (⟨i, d, none, Value, fun _ v => v, fun _ v => [.own (sOwn e E) v (List.replicate n z0)]⟩ :: ms) Γ (f n))) : AD tq P cx K l tail base U (.o A (.makeSlice t x x) d ty as ops i sl ms Γ (mk bt z >>= f))
  | idx {α : Type} {A : List Nat} {as : List (List Nat)} {d : Nat} {x y : Operand} {v : Value} {k : IntKind} {j : Int} {t ty : TypeId} {o1 o2 : Bool} {E : STy α} {xs : List α} {ops : List Oper} {i : Nat} {sl : List (Nat × Nat × Value)} {ms : List MemD} {fr : Fr} {Γ : List Ent} {Γ' : α → List Ent} {f : α → Option (Out S R)} [ht : SLc P t]
      (hv : VisD A none sl base fr) (hx : opv fr x = some v) (hy : opv fr y = some (.int k j)) (hr : ∀ z, Fnd Γ v o1 o2 E xs (.ad o1 o2 v j E z) (Γ' z)) (hE : E.size = 1)
      (h : ∀ z, AD tq P cx K l tail base U (.a as ops (i + 1) ((i, d, .pointer (some (elA v 1 j))) :: sl) ms (Γ' z) (f z))) : AD tq P cx K l tail base U (.o A (.indexAddr t x y) d ty as ops i sl ms Γ (idx xs j >>= f))
  | load {A : List Nat} {as : List (List Nat)} {d : Nat} {x : Operand} {a : Addr} {t ty : TypeId} {lk : Option Nat} {ops : List Oper} {i : Nat} {sl : List (Nat × Nat × Value)} {ms : List MemD} {fr : Fr} {Γ : List Ent} {m : Option (Out S R)} [ht : LK P t lk] (hv : VisD A none sl base fr) (hx : opv fr x = some (.pointer (some a)))
      (h : AD tq P cx K l tail base U (.la fr a lk t x A d ty as ops i sl ms Γ m)) : AD tq P cx K l tail base U (.o A (.load t x) d ty as ops i sl ms Γ m)
  | lel {α : Type} {A : List Nat} {as : List (List Nat)} {d : Nat} {x : Operand} {v : Value} {j : Int} {o : Bool} {E : STy α} {z : α} {t ty : TypeId} {ops : List Oper} {i : Nat} {sl : List (Nat × Nat × Value)} {ms : List MemD} {fr : Fr} {Γ Γx : List Ent} {m : Option (Out S R)} (h : FndA Γ (elA v 1 j) o E z noE Γx)
      (k : AD tq P cx K l tail base U (.ld E z fr (elA v 1 j) t x A d ty as ops i sl ms Γ m)) : AD tq P cx K l tail base U (.la fr (elA v 1 j) none t x A d ty as ops i sl ms Γ m)
  | lce {A : List Nat} {as : List (List Nat)} {d : Nat} {x : Operand} {a : Addr} {u : Value} {t ty : TypeId} {ops : List Oper} {i : Nat} {sl : List (Nat × Nat × Value)} {ms : List MemD} {fr : Fr} {Γ : List Ent} {m : Option (Out S R)} (h : FndC Γ a u)
      (k : AD tq P cx K l tail base U (.a as ops (i + 1) ((i, d, u) :: sl) ms Γ m)) : AD tq P cx K l tail base U (.la fr a none t x A d ty as ops i sl ms Γ m)
  | las {A : List Nat} {as : List (List Nat)} {d n : Nat} {x : Operand} {a : Addr} {ds : List Value} {t ty : TypeId} {ops : List Oper} {i : Nat} {sl : List (Nat × Nat × Value)} {ms : List MemD} {fr : Fr} {Γ : List Ent} {m : Option (Out S R)} (h : FndW Γ a n ds)
      (k : AD tq P cx K l tail base U (.a as ops (i + 1) ((i, d, .agg ds.toArray) :: sl) ms Γ m)) : AD tq P cx K l tail base U (.la fr a (some n) t x A d ty as ops i sl ms Γ m)
  | ldi {A : List Nat} {as : List (List Nat)} {d : Nat} {x : Operand} {a : Addr} {k : IntKind} {z : Int} {t ty : TypeId} {ops : List Oper} {i : Nat} {sl : List (Nat × Nat × Value)} {ms : List MemD} {fr : Fr} {Γ : List Ent} {m : Option (Out S R)}
      (h : AD tq P cx K l tail base U (.a as ops (i + 1) ((i, d, .int k z) :: sl) ms Γ m)) : AD tq P cx K l tail base U (.ld (sInt k) z fr a t x A d ty as ops i sl ms Γ m)
  | ldb {A : List Nat} {as : List (List Nat)} {d : Nat} {x : Operand} {a : Addr} {z : Bool} {t ty : TypeId} {ops : List Oper} {i : Nat} {sl : List (Nat × Nat × Value)} {ms : List MemD} {fr : Fr} {Γ : List Ent} {m : Option (Out S R)}
      (h : AD tq P cx K l tail base U (.a as ops (i + 1) ((i, d, .bool z) :: sl) ms Γ m)) : AD tq P cx K l tail base U (.ld sBool z fr a t x A d ty as ops i sl ms Γ m)
  | lds {α : Type} {A : List Nat} {as : List (List Nat)} {d : Nat} {x : Operand} {v : Value} {j : Int} {E : STy α} {z : List α} {o : Bool} {t ty : TypeId} {ops : List Oper} {i : Nat} {sl : List (Nat × Nat × Value)} {ms : List MemD} {fr : Fr} {Γ : List Ent} {Γ1 Γ' : Value → List Ent} {m : Option (Out S R)} (h : ∀ u, FndA Γ (elA v 1 j) o (sImm E) z (.rd o (sImm E) u z) (Γ1 u)) (h2 : ∀ u, FndH (Γ1 u) v j u (Γ' u))
      (k : ∀ u, AD tq P cx K l tail base U (.a as ops (i + 1) ((i, d, u) :: sl) ms (Γ' u) m)) : AD tq P cx K l tail base U (.ld (sImm E) z fr (elA v 1 j) t x A d ty as ops i sl ms Γ m)
  | lit0 {α : Type} {A : List Nat} {as : List (List Nat)} {d : Nat} {t e ty : TypeId} {E : STy α} {z0 : α} {bt : Nat} {ops : List Oper} {i : Nat} {sl : List (Nat × Nat × Value)} {ms : List MemD} {Γ : List Ent} {m : Option (Out S R)} [hz : STc P t α e E z0 bt]
      (h : AD tq P cx K l tail base U (.a as ops (i + 1) sl (⟨i, d, none, Value, fun _ v => v, fun _ v => [.own (sOwn e E) v []]⟩ :: ms) Γ m)) : AD tq P cx K l tail base U (.o A (.buildSlice t 0 #[]) d ty as ops i sl ms Γ m)
  | call {β V : Type} {A : List Nat} {as : List (List Nat)} {d : Nat} {f : FuncId} {xs : List Operand} {ats : Array TypeId} {ty : TypeId} {mo : Option β} {rt : β → V → List Value} {ps : β → V → List Ent} {ops : List Oper} {i : Nat} {sl : List (Nat × Nat × Value)} {ms : List MemD} {fr : Fr} {Γ : List Ent} {g : β → Option (Out S R)} [hf : FnC P f]
      (hv : VisD A none sl base fr) (hc : ∀ x : Xof ms, CallD P f xs (visF A ms x ++ fr) (visE A ms x ++ Γ) mo rt ps) (hi : InhX ms) (hsrc : srcB A ms = true) (ho : ∀ y v, owB (ps y v) = true)
      (h : ∀ y, AD tq P cx K l tail base U (.cr (fun v => tupv (rt y v)) (ps y) d as ops i sl ms Γ (g y))) : AD tq P cx K l tail base U (.o A (.call ⟨.value (.func f), xs.toArray, ats⟩) d ty as ops i sl ms Γ (mo >>= g))
  | crv {u : Unit → Value} {d : Nat} {as : List (List Nat)} {ops : List Oper} {i : Nat} {sl : List (Nat × Nat × Value)} {ms : List MemD} {Γ : List Ent} {m : Option (Out S R)} (h : AD tq P cx K l tail base U (.a as ops (i + 1) ((i, d, u ()) :: sl) ms Γ m)) : AD tq P cx K l tail base U (.cr u (fun _ => []) d as ops i sl ms Γ m)
  | crm {V : Type} {u : V → Value} {ps : V → List Ent} {d : Nat} {as : List (List Nat)} {ops : List Oper} {i : Nat} {sl : List (Nat × Nat × Value)} {ms : List MemD} {Γ : List Ent} {m : Option (Out S R)} (h : AD tq P cx K l tail base U (.a as ops (i + 1) sl (⟨i, d, none, V, fun _ => u, fun _ => ps⟩ :: ms) Γ m)) : AD tq P cx K l tail base U (.cr u ps d as ops i sl ms Γ m)
  | val {A : List Nat} {as : List (List Nat)} {op : Op} {d : Nat} {ty : TypeId} {u : Value} {ops : List Oper} {i : Nat} {sl : List (Nat × Nat × Value)} {ms : List MemD} {fr : Fr} {Γ : List Ent} {m : Option (Out S R)} (hv : VisD A none sl base fr) (hq : VQ P Γ fr op u)
      (h : AD tq P cx K l tail base U (.a as ops (i + 1) ((i, d, u) :: sl) ms Γ m)) : AD tq P cx K l tail base U (.o A op d ty as ops i sl ms Γ m)
end Go.Dk
namespace Go.Dk
open Go Go.Li
theorem memB_iff {t : Nat} {l : List Nat} : memB t l = true ↔ t ∈ l := by
  induction l with
  | nil => simp [memB]
  | cons a l ih =>
    unfold memB
    cases hb : Nat.beq t a with
    | true => simp [Nat.eq_of_beq_eq_true hb]
    | false => simp only [cond_false, ih, List.mem_cons]; exact ⟨.inr, fun h => h.resolve_left fun e => by rw [e, Nat.beq_refl] at hb; cases hb⟩
/-- which operations are seen by each: those that it waits for, and whose memory nothing has used up -/
def visl (l : List Oper) (U : List (List Nat)) (mt : Nat) : List (List Nat) := (List.range mt).map fun i => ((ancs l).getD i []).filter (needB l U mt i)
theorem vis_mem {l : List Oper} {U : List (List Nat)} {mt i j : Nat} (h : j ∈ (visl l U mt).getD i []) : j ∈ (ancs l).getD i [] ∧ needB l U mt i j = true := by
  unfold visl at h
  rw [List.getD_eq_getElem?_getD, List.getElem?_map] at h
  by_cases hi : i < mt
  · rw [List.getElem?_range hi] at h
    exact List.mem_filter.1 h
  · rw [List.getElem?_eq_none (by simpa using hi)] at h
    exact absurd h List.not_mem_nil
/-- what the operations before give -/
structure RelS (l : List Oper) (S : List Gives) (sl : List (Nat × Nat × Value)) (ms : List MemD) : Prop where
  v : ∀ p ∈ sl, S[p.1]? = some (sV p.2.2) ∧ dstAt l p.1 = some p.2.1
  m : ∀ a ∈ ms, S[a.j]? = some ⟨true, MV a⟩ ∧ dstAt l a.j = some a.d
  s : ∀ i s, S[i]? = some s → Stab ((ancs l).getD i []) l s
  d : (ms.map (·.j)).Nodup
theorem RelS.val {l : List Oper} {S : List Gives} {sl : List (Nat × Nat × Value)} {ms : List MemD} (h : RelS l S sl ms) {d : Nat} {u : Value} (hd : dstAt l S.length = some d) : RelS l (S ++ [sV u]) ((S.length, d, u) :: sl) ms := by
  refine ⟨?_, fun a ha => ?_, ?_, h.d⟩
  · intro p hp
    rcases List.mem_cons.1 hp with rfl | hp
    · exact ⟨by simp, hd⟩
    · have := h.v p hp
      exact ⟨by rw [List.getElem?_append_left (List.getElem?_eq_some_iff.1 this.1).1]; exact this.1, this.2⟩
  · have := h.m a ha
    exact ⟨by rw [List.getElem?_append_left (List.getElem?_eq_some_iff.1 this.1).1]; exact this.1, this.2⟩
  · intro i s hs
    by_cases hi : i < S.length
    · rw [List.getElem?_append_left hi] at hs; exact h.s i s hs
    · rw [List.getElem?_append_right (by omega)] at hs
      have hi0 : i - S.length = 0 := by
        have := (List.getElem?_eq_some_iff.1 hs).1
        simp at this; omega
      rw [hi0] at hs
      cases hs
      exact stable_val
theorem RelS.mem {l : List Oper} {S : List Gives} {sl : List (Nat × Nat × Value)} {ms : List MemD} (h : RelS l S sl ms) {b : MemD} (hj : b.j = S.length) (hd : dstAt l S.length = some b.d) (hsr : ∀ t, b.src = some t → ∃ j ∈ (ancs l).getD S.length [], dstAt l j = some t) : RelS l (S ++ [⟨true, MV b⟩]) sl (b :: ms) := by
  have hlt : ∀ a ∈ ms, a.j < S.length := fun a ha => (List.getElem?_eq_some_iff.1 (h.m a ha).1).1
  refine ⟨fun p hp => ?_, ?_, ?_, ?_⟩
  · have := h.v p hp
    exact ⟨by rw [List.getElem?_append_left (List.getElem?_eq_some_iff.1 this.1).1]; exact this.1, this.2⟩
  · intro a ha
    rcases List.mem_cons.1 ha with rfl | ha
    · exact ⟨by rw [hj]; simp, by rw [hj]; exact hd⟩
    · have := h.m a ha
      exact ⟨by rw [List.getElem?_append_left (hlt a ha)]; exact this.1, this.2⟩
  · intro i s hs
    by_cases hi : i < S.length
    · rw [List.getElem?_append_left hi] at hs; exact h.s i s hs
    · rw [List.getElem?_append_right (by omega)] at hs
      have hi0 : i - S.length = 0 := by
        have := (List.getElem?_eq_some_iff.1 hs).1
        simp at this; omega
      have hi1 : i = S.length := by omega
      rw [hi0] at hs
      cases hs
      rw [hi1]
      exact stable_mv hsr
  · rw [List.map_cons, List.nodup_cons]
    refine ⟨fun hm => ?_, h.d⟩
    obtain ⟨a, ha, he⟩ := List.mem_map.1 hm
    have := hlt a ha
    omega
/-- base slots are no slots of the head -/
theorem agr_base {l : List Oper} {m : Nat} {base : Fr} {r r0 : Nat → Value} (hh : hotB l m base = true) (ha : agr r0 base) (ho : ∀ t, (∀ j, j < m → dstAt l j ≠ some t) → r t = r0 t) : agr r base := by
  intro t v hl
  have hm : ∃ u, (t, u) ∈ base := by
    clear hh ha
    induction base with
    | nil => cases hl
    | cons p base ih =>
      obtain ⟨a, u⟩ := p
      unfold look at hl
      cases hb : Nat.beq t a with
      | true => exact ⟨u, by rw [Nat.eq_of_beq_eq_true hb]; simp⟩
      | false => rw [hb] at hl; obtain ⟨u', h⟩ := ih hl; exact ⟨u', by simp [h]⟩
  obtain ⟨u, hu⟩ := hm
  rw [ho t fun j hj => hotB_spec hh (t, u) hu j hj]
  exact ha t v hl
section
variable {P : Program} {l : List Oper} {mt : Nat} {S : List Gives} {sl : List (Nat × Nat × Value)} {ms : List MemD} {base fr : Fr} {r r0 : Nat → Value} {w w0 : World} {g : Nat → List Nat} {i : Nat} {A : List Nat} {U : List (List Nat)}
/-- what an operation sees -/
theorem agr_vis (hR : RelS l S sl ms) (hA : A = (visl l U mt).getD i []) (hv : VisD A none sl base fr) (hb : agr r base) {S' : List Gives} (hn : ∀ j, needB l U mt i j = true → Done l (S ++ S') j g r w) : agr r fr := by
  refine hv.sound hb ?_ (fun _ _ _ h => nomatch h)
  intro p hp hm
  have h1 := hR.v p hp
  have h2 := hn p.1 (vis_mem (by rw [← hA]; exact memB_iff.1 hm)).2 p.2.1 h1.2
  rw [List.getElem?_append_left (List.getElem?_eq_some_iff.1 h1.1).1, h1.1] at h2
  exact h2
theorem owes_val {o : Oper} {u : Value} (hh : hotB l mt base = true) (ha : agr r0 base) (hR : RelS l S sl ms) (ho : l[S.length]? = some o) (hg : o.guard = none) (hA : A = (visl l U mt).getD S.length []) (hv : VisD A none sl base fr)
    (h : ∀ r, agr r fr → Rd P w0 r o u) : Owes P l mt (S ++ [sV u]) U r0 w0 S.length :=
  Owes.val ho (by simp) hg fun g r w hC hn hot => h r (agr_vis hR hA hv (agr_base hh ha hot) hn) w hC
end
end Go.Dk
namespace Go.Dk
open Go Go.Li
section
variable {R S : Type} {P : Program} {cx : Cx R} {K : Kont R S} {l tail : List Oper} {base fr : Fr} {w : World} {Z : Nat → Prop} {U : List (List Nat)}
/-- what the operations before i owe -/
def Pre (P : Program) (l : List Oper) (mt : Nat) (U : List (List Nat)) (r0 : Nat → Value) (w0 : World) (i : Nat) (sl : List (Nat × Nat × Value)) (ms : List MemD) : Prop :=
  ∃ S : List Gives, S.length = i ∧ RelS l S sl ms ∧ ∀ j, j < i → Owes P l mt S U r0 w0 j
/-- what a region owes once its head is known so far -/
def Fin (P : Program) (cx : Cx R) (K : Kont R S) (l : List Oper) (mt : Nat) (U : List (List Nat)) (id : Nat) (base : Fr) (i : Nat) (sl : List (Nat × Nat × Value)) (ms : List MemD) (Γ : List Ent) (m : Option (Out S R)) : Prop :=
  ∀ B o, m = some o → ∀ r0 w0, agr r0 base → St B Γ w0 → Pre P l mt U r0 w0 i sl ms → W P cx.n (.region id l.toArray true) (postK P cx B K o) r0 w0
structure Here (l : List Oper) (mt : Nat) (U : List (List Nat)) (as : List (List Nat)) (ops : List Oper) (i : Nat) : Prop where
  a : as = (visl l U mt).drop i
  o : ops = (l.take mt).drop i
  le : i ≤ mt
structure At1 (l : List Oper) (mt : Nat) (U : List (List Nat)) (A : List Nat) (op : Op) (d : Nat) (ty : TypeId) (as : List (List Nat)) (ops : List Oper) (i : Nat) : Prop where
  A : A = (visl l U mt).getD i []
  o : ∃ pos aft, l[i]? = some ⟨some d, op, ty, pos, aft, none⟩
  n : Here l mt U as ops (i + 1)
theorem Here.cons {mt : Nat} {A : List Nat} {as : List (List Nat)} {op : Op} {d : Nat} {ty : TypeId} {pos : String} {aft : Array Edge} {ops : List Oper} {i : Nat} (h : Here l mt U (A :: as) (⟨some d, op, ty, pos, aft, none⟩ :: ops) i) : At1 l mt U A op d ty as ops i := by
  obtain ⟨h1, h2, h3⟩ := h
  have e1 : (visl l U mt)[i]? = some A := by
    have := congrArg (fun x => x[0]?) h1
    simpa using this.symm
  have e2 : (l.take mt)[i]? = some ⟨some d, op, ty, pos, aft, none⟩ := by
    have := congrArg (fun x => x[0]?) h2
    simpa using this.symm
  have t1 : as = (visl l U mt).drop (i + 1) := by
    have := congrArg List.tail h1
    simpa [List.tail_drop] using this
  have t2 : ops = (l.take mt).drop (i + 1) := by
    have := congrArg List.tail h2
    simpa [List.tail_drop] using this
  have hi : i < mt := by
    have := (List.getElem?_eq_some_iff.1 e1).1
    simpa [visl] using this
  rw [List.getElem?_take, if_pos hi] at e2
  exact ⟨by rw [List.getD_eq_getElem?_getD, e1]; rfl, ⟨pos, aft, e2⟩, t1, t2, hi⟩
/-- one more value -/
theorem Pre.val {mt : Nat} {A : List Nat} {op : Op} {d : Nat} {ty : TypeId} {as : List (List Nat)} {ops : List Oper} {i : Nat} {sl : List (Nat × Nat × Value)} {ms : List MemD} {r0 : Nat → Value} {w0 : World} {u : Value} (h : Pre P l mt U r0 w0 i sl ms) (hh : hotB l mt base = true) (ha : agr r0 base) (h1 : At1 l mt U A op d ty as ops i)
    (hv : VisD A none sl base fr) (hq : ∀ r, agr r fr → ∀ pos aft g, Rd P w0 r ⟨some d, op, ty, pos, aft, g⟩ u) : Pre P l mt U r0 w0 (i + 1) ((i, d, u) :: sl) ms := by
  obtain ⟨S', hl, hR, hO⟩ := h
  subst hl
  obtain ⟨hA, ⟨pos, aft, ho⟩, _⟩ := h1
  refine ⟨S' ++ [sV u], by simp, hR.val (by unfold dstAt; rw [ho]; rfl), fun j hj => ?_⟩
  by_cases h2 : j < S'.length
  · exact Owes.more (hO j h2) h2
  · obtain rfl : j = S'.length := by omega
    exact owes_val hh ha hR ho rfl hA hv fun r hr => hq r hr _ _ _
/-- and what operation i itself leaves -/
def Pre1 (P : Program) (l : List Oper) (mt : Nat) (U : List (List Nat)) (r0 : Nat → Value) (w0 : World) (i : Nat) (sl : List (Nat × Nat × Value)) (ms : List MemD) (a : MemD) : Prop :=
  ∃ S : List Gives, S.length = i ∧ RelS l S sl ms ∧ (∀ j, j < i → Owes P l mt S U r0 w0 j) ∧
    ∀ V : List Nat → World → (Nat → Value) → Value → Prop, (∀ f w r x, MV a f w r x → ∃ f', (∀ b ∈ f', b ∈ f) ∧ V f' w r x) → Owes P l mt (S ++ [⟨true, V⟩]) U r0 w0 i
theorem HL.front {Δ Γ : List Ent} {Fd F : List Nat} (h : HL Z w Δ Fd) (hs : SA Z w Γ [] F) : SA Z w (Δ ++ Γ) [] (Fd ++ F) := by
  induction h with
  | nil => exact hs
  | own h _ ih => rw [List.append_assoc]; exact SA.cons ih h
  | fact h _ ih => exact SA.fact ih h
def visB (A : List Nat) (g : Nat → List Nat) : List MemD → List Nat
  | [] => []
  | a :: l => bif memB a.j A then g a.j ++ visB A g l else visB A g l
theorem pickV {A : List Nat} {g : Nat → List Nat} {r : Nat → Value} : ∀ {ms : List MemD}, InhX ms → srcB A ms = true → (∀ a ∈ ms, memB a.j A = true → MV a (g a.j) w r (r a.d)) →
    ∃ x : Xof ms, (∀ p ∈ visF A ms x, r p.1 = p.2) ∧ HL (fun _ => False) w (visE A ms x) (visB A g ms) := by
  intro ms
  induction ms with
  | nil => intro _ _ _; exact ⟨(), fun p hp => absurd hp List.not_mem_nil, .nil⟩
  | cons a ms ih =>
    intro hi hsr h
    unfold srcB at hsr
    rw [Bool.and_eq_true] at hsr
    cases hi with
    | cons h1 h2 =>
      obtain ⟨x, hx, hl⟩ := ih h2 hsr.2 fun b hb => h b (List.mem_cons_of_mem _ hb)
      cases hb : memB a.j A with
      | false =>
        obtain ⟨v⟩ := h1.ne
        refine ⟨(v, x), ?_, ?_⟩
        · simp only [visF, hb, cond_false]; exact hx
        · simp only [visE, visB, hb, cond_false]; exact hl
      | true =>
        obtain ⟨v, e1, e2, _⟩ := h a (by simp) hb
        have es : srcV a r = srcF a (mF ms x) := by
          have h3 := hsr.1
          unfold srcV srcF
          cases hs : a.src with
          | none => rfl
          | some t =>
            simp only [hs, hb, cond_true] at h3
            cases hj : fstJ t ms with
            | none => rw [hj] at h3; cases h3
            | some j => rw [hj] at h3; simp only [look_vis hj h3 hx]
        rw [es] at e1 e2
        refine ⟨(v, x), ?_, ?_⟩
        · simp only [visF, hb, cond_true]
          intro p hp
          rcases List.mem_cons.1 hp with rfl | hp
          · exact e1
          · exact hx p hp
        · simp only [visE, visB, hb, cond_true]; exact e2.app hl
theorem fstJ_mem {t j : Nat} : ∀ {ms : List MemD}, fstJ t ms = some j → ∃ a ∈ ms, a.j = j ∧ a.d = t := by
  intro ms
  induction ms with
  | nil => intro h; cases h
  | cons a l ih =>
    intro h
    unfold fstJ at h
    cases hb : Nat.beq t a.d with
    | true => rw [hb] at h; cases h; exact ⟨a, by simp, rfl, (Nat.eq_of_beq_eq_true hb).symm⟩
    | false => rw [hb] at h; obtain ⟨b, h1, h2⟩ := ih h; exact ⟨b, List.mem_cons_of_mem _ h1, h2⟩
theorem src_anc {A : List Nat} {S' : List Gives} {sl : List (Nat × Nat × Value)} {ms : List MemD} {t : Nat} (hR : RelS l S' sl ms) (hj : ∃ j, fstJ t ms = some j ∧ memB j A = true) : ∃ j ∈ A, dstAt l j = some t := by
  obtain ⟨j, h1, h2⟩ := hj
  obtain ⟨a, ha, rfl, rfl⟩ := fstJ_mem h1
  exact ⟨a.j, memB_iff.1 h2, (hR.m a ha).2⟩
/-- what an operation sees of what the others left -/
theorem see {mt : Nat} {A : List Nat} {S' S2 : List Gives} {sl : List (Nat × Nat × Value)} {ms : List MemD} {g : Nat → List Nat} {r : Nat → Value} (hR : RelS l S' sl ms) (hA : A = (visl l U mt).getD S'.length []) (hi : InhX ms) (hsr : srcB A ms = true) (hn : ∀ j, needB l U mt S'.length j = true → Done l (S' ++ S2) j g r w) :
    ∃ x : Xof ms, (∀ p ∈ visF A ms x, r p.1 = p.2) ∧ HL (fun _ => False) w (visE A ms x) (visB A g ms) :=
  pickV hi hsr fun a hm hb => by
    have e1 := hR.m a hm
    have e2 := hn a.j (vis_mem (by rw [← hA]; exact memB_iff.1 hb)).2 a.d e1.2
    rw [List.getElem?_append_left (List.getElem?_eq_some_iff.1 e1.1).1, e1.1] at e2
    exact e2
/-- an operation that makes memory -/
theorem Pre.mem {mt : Nat} {A : List Nat} {op : Op} {d : Nat} {ty : TypeId} {as : List (List Nat)} {ops : List Oper} {i : Nat} {sl : List (Nat × Nat × Value)} {ms : List MemD} {r0 : Nat → Value} {w0 : World} {a : MemD} (h : Pre P l mt U r0 w0 i sl ms) (h1 : At1 l mt U A op d ty as ops i) (haj : a.j = i) (had : a.d = d)
    (hsr : ∀ S', RelS l S' sl ms → ∀ t, a.src = some t → ∃ j ∈ A, dstAt l j = some t)
    (hq : ∀ S' S2, S'.length = i → RelS l S' sl ms → ∀ (g : Nat → List Nat) (r : Nat → Value) (w : World), Chg [] w0 w → (∀ j, needB l U mt S'.length j = true → Done l (S' ++ S2) j g r w) → (∀ t, (∀ j, j < mt → dstAt l j ≠ some t) → r t = r0 t) → ∀ pos aft,
      OpW P ⟨some d, op, ty, pos, aft, none⟩ r w fun v w' => Chg [] w w' ∧ ∃ f, (∀ b ∈ f, w.heap.size ≤ b ∧ b < w'.heap.size) ∧ MV a f w' r v) : Pre P l mt U r0 w0 (i + 1) sl (a :: ms) := by
  obtain ⟨S', hl, hR, hO⟩ := h
  subst hl
  subst had
  obtain ⟨hA, ⟨pos, aft, ho⟩, _⟩ := h1
  refine ⟨S' ++ [⟨true, MV a⟩], by simp, hR.mem haj (by unfold dstAt; rw [ho]; rfl) (fun t ht => by obtain ⟨j, hj, hd⟩ := hsr S' hR t ht; exact ⟨j, (vis_mem (by rw [← hA]; exact hj)).1, hd⟩), fun j hj => ?_⟩
  by_cases h2 : j < S'.length
  · exact Owes.more (hO j h2) h2
  · obtain rfl : j = S'.length := by omega
    exact Owes.memX (V := MV a) ho (by simp) rfl fun g r w hC hn hot => hq S' _ rfl hR g r w hC hn hot pos aft
theorem GetD.sub {ms ms' : List MemD} {a : MemD} {t : Nat} (h : GetD ms t a ms') : a ∈ ms ∧ a.d = t ∧ (∀ b ∈ ms', b ∈ ms) ∧ (ms'.map (·.j)).Sublist (ms.map (·.j)) := by
  induction h with
  | here => exact ⟨by simp, rfl, fun b hb => List.mem_cons_of_mem _ hb, by simp⟩
  | there _ ih =>
    obtain ⟨h1, h2, h3, h4⟩ := ih
    refine ⟨List.mem_cons_of_mem _ h1, h2, fun b hb => ?_, by simpa using h4⟩
    rcases List.mem_cons.1 hb with rfl | hb
    · simp
    · exact List.mem_cons_of_mem _ (h3 b hb)
theorem RelS.sub {S' : List Gives} {sl : List (Nat × Nat × Value)} {ms ms' : List MemD} (h : RelS l S' sl ms) (hm : ∀ b ∈ ms', b ∈ ms) (hn : (ms'.map (·.j)).Sublist (ms.map (·.j))) : RelS l S' sl ms' := ⟨h.v, fun a ha => h.m a (hm a ha), h.s, h.d.sublist hn⟩
/-- an append to what another operation has made -/
theorem app_pre {mt : Nat} {t e et : TypeId} {E : STy Int} {z0 : Int} {bt t1 t2 j2 d2 i d : Nat} {k : IntKind} {y : Int} {xs : List Int} {a1 : MemD} {ms ms1 ms2 : List MemD} {sl : List (Nat × Nat × Value)} {A : List Nat} {ty : TypeId} {as : List (List Nat)} {ops : List Oper} {r0 : Nat → Value} {w0 : World} (hz : STc P t Int e E z0 bt) (h1 : GetD ms t1 a1 ms1) (h2 : GetD ms1 t2 ⟨j2, d2, none, Nat, fun _ b => .slice (some ⟨b, 0, none⟩) 1 1, fun _ b => [.row b [.int k y] et]⟩ ms2) (h3 : ∀ u v, a1.ps u v = [.own (sOwn e (sInt k)) (a1.rt u v) xs]) (h4 : memB a1.j A = true) (h5 : memB j2 A = true) (h6 : U.getD i [] = [a1.j])
    (hf : fits bt (xs.length + 1) = some ()) (hat : At1 l mt U A (.call ⟨.builtin .append, #[.tmp t1, .tmp t2], #[t, t]⟩) d ty as ops i) (h : Pre P l mt U r0 w0 i sl ms) :
    Pre P l mt U r0 w0 (i + 1) sl (⟨i, d, none, Value, fun _ v => v, fun _ v => [.own (sOwn e (sInt k)) v (xs ++ [y])]⟩ :: ms1) := by
  obtain ⟨S', hl, hR, hO⟩ := h
  subst hl
  obtain ⟨hA, ⟨pos, aft, ho⟩, _⟩ := hat
  obtain ⟨b1, b2⟩ := fits_some hf
  obtain ⟨q1, hE, i', z, q3, q4, q5, q6, q7, q8⟩ := hz.h
  obtain ⟨m1, m2, m3, m4⟩ := h1.sub
  obtain ⟨n1, n2, _, _⟩ := h2.sub
  refine ⟨S' ++ [⟨true, MV ⟨S'.length, d, none, Value, fun _ v => v, fun _ v => [.own (sOwn e (sInt k)) v (xs ++ [y])]⟩⟩], by simp, (hR.sub m3 m4).mem rfl (by unfold dstAt; rw [ho]; rfl) (by intro t h; cases h), fun j hj => ?_⟩
  by_cases hlt : j < S'.length
  · exact Owes.more (hO j hlt) hlt
  · obtain rfl : j = S'.length := by omega
    intro o' s' ho' hs' g r w hC hn hot hdis hfr
    rw [ho] at ho'
    cases ho'
    rw [List.getElem?_append_right (Nat.le_refl _), Nat.sub_self] at hs'
    cases hs'
    rw [if_pos rfl]
    refine ⟨rfl, ?_⟩
    have get : ∀ a ∈ ms, memB a.j A = true → MV a (g a.j) w r (r a.d) := fun a hm hb => by
      have e1 := hR.m a hm
      have e2 := hn a.j (vis_mem (by rw [← hA]; exact memB_iff.1 hb)).2 a.d e1.2
      rw [List.getElem?_append_left (List.getElem?_eq_some_iff.1 e1.1).1, e1.1] at e2
      exact e2
    obtain ⟨v1, c1, c2, c3⟩ := get a1 m1 h4
    obtain ⟨v2, f1, f2, f3⟩ := get _ (m3 _ n1) h5
    rw [h3, ← c1, m2] at c2
    rw [m2] at c1
    simp only at f1 f2
    subst n2
    generalize hg1 : g a1.j = G1 at c2 c3
    generalize hg2 : g j2 = G2 at f2 f3
    cases c2 with
    | fact h _ => exact h.elim
    | @own _ ff F0 _ hown hnil =>
      cases hnil
      rw [List.append_nil] at c3
      cases f2 with
      | fact h _ => exact h.elim
      | @own _ gg F0 _ hrow hnil =>
        cases hnil
        obtain ⟨rfl, hrow⟩ := hrow
        have hb : blks g (U.getD S'.length []) = ff := by rw [h6]; simp [blks, hg1]
        refine OpW_mono (OpW.append1 (E := sInt k) (F := ff) q1 q3 q4 q5 rfl q6 (s := .tmp t1) (x := .tmp d2) rfl ⟨hown, c3⟩ (fun b hb => hb) f1 hrow ⟨rfl, rfl⟩ (by rw [q7]; exact b1) b2) ?_
        rintro v w' ⟨hC', f', hf', hV⟩
        rw [hb]
        refine ⟨hC', f', hf', v, rfl, ?_, hV.2⟩
        have := HL.own (Z := fun _ => False) (e := .own (sOwn e (sInt k)) v (xs ++ [y])) (f := f') hV.1 .nil
        simpa using this
theorem alc_pre {mt : Nat} {t i d : Nat} {cs : List Value} {sl : List (Nat × Nat × Value)} {ms : List MemD} {A : List Nat} {ty : TypeId} {as : List (List Nat)} {ops : List Oper} {r0 : Nat → Value} {w0 : World} (hz : ZVc P t cs) (h1 : At1 l mt U A (.alloc t) d ty as ops i) (h : Pre P l mt U r0 w0 i sl ms) :
      Pre P l mt U r0 w0 (i + 1) sl (⟨i, d, none, Nat, fun _ b => .pointer (some ⟨b, 0, none⟩), fun _ b => [.row b cs t]⟩ :: ms) := by
  obtain ⟨i', z, t1, t2, t3⟩ := hz.h
  refine h.mem h1 rfl rfl (fun _ _ _ h => nomatch h) fun S' S2 hl hR g r w hC hn hot pos aft => OpW_mono (OpW.alc (cs := cs) t1 t2 (by rw [← t3])) ?_
  rintro v w' ⟨hC, f, hf, b, e1, e2, hrow⟩
  refine ⟨hC, f, hf, b, e2, ?_, by rw [e1]; simp⟩
  have := HL.own (Z := fun _ => False) (e := .row b cs t) (f := [b]) ⟨rfl, hrow⟩ .nil
  rw [e1]
  simpa using this
/-- the length of what another operation has made -/
theorem ln_pre {mt t n : Nat} {A : List Nat} {st : TypeId} {d : Nat} {ty : TypeId} {as : List (List Nat)} {ops : List Oper} {i : Nat} {sl : List (Nat × Nat × Value)} {ms : List MemD} {r0 : Nat → Value} {w0 : World} (h : Pre P l mt U r0 w0 i sl ms) (h1 : At1 l mt U A (.call ⟨.builtin .len, #[.tmp t], #[st]⟩) d ty as ops i) (ht : SLc P st) (hi : InhX ms) (hsr : srcB A ms = true) (hx : ∀ x : Xof ms, LnD (visF A ms x) (visE A ms x) t n) : Pre P l mt U r0 w0 (i + 1) ((i, d, .int .i64 (n : Int)) :: sl) ms := by
  obtain ⟨S', hl, hR, hO⟩ := h
  subst hl
  obtain ⟨hA, ⟨pos, aft, ho⟩, _⟩ := h1
  obtain ⟨e, i', q1, _, _⟩ := ht.h
  refine ⟨S' ++ [sV (.int .i64 (n : Int))], by simp, hR.val (by unfold dstAt; rw [ho]; rfl), fun j hj => ?_⟩
  by_cases h2 : j < S'.length
  · exact Owes.more (hO j h2) h2
  · obtain rfl : j = S'.length := by omega
    refine Owes.val (v := .int .i64 (n : Int)) ho (by simp) rfl fun g r w hC hn hot => ?_
    obtain ⟨x, hv, hE⟩ := see hR hA hi hsr hn
    obtain ⟨hlk, hln⟩ := hx x
    have hrt := (agr_app hv agr_nil) t _ (by rw [List.append_nil]; exact hlk)
    have hS : SA (fun _ => False) w (visE A ms x) [] (visB A g ms ++ []) := by
      have := hE.front (Γ := []) (F := []) rfl
      rwa [List.append_nil] at this
    obtain ⟨b, c, rfl⟩ := hln.sound hS
    exact op_len q1 (x := .tmp t) hrt
/-- an operation whose value leans on memory -/
theorem Pre.dep {mt t : Nat} {A : List Nat} {op : Op} {d : Nat} {ty : TypeId} {as : List (List Nat)} {ops : List Oper} {i : Nat} {sl : List (Nat × Nat × Value)} {ms : List MemD} {r0 : Nat → Value} {w0 : World} {X : Value → Value} (h : Pre P l mt U r0 w0 i sl ms) (h1 : At1 l mt U A op d ty as ops i) (hi : InhX ms) (hsr : srcB A ms = true) (hj : ∃ j, fstJ t ms = some j ∧ memB j A = true)
    (hq : ∀ (r : Nat → Value) (x : Xof ms), (∀ p ∈ visF A ms x, r p.1 = p.2) → ∀ w pos aft, (execOp (ev r) ⟨some d, op, ty, pos, aft, none⟩).run P w = .ok (.value (X (r t))) w) : Pre P l mt U r0 w0 (i + 1) sl (⟨i, d, some t, Unit, fun u _ => X u, fun _ _ => []⟩ :: ms) := by
  refine h.mem h1 rfl rfl (fun S' hR t' ht => by cases ht; exact src_anc hR hj) ?_
  intro S' S2 hl hR g r w hC hn hot pos aft
  obtain ⟨x, hx, _⟩ := see hR (by rw [hl]; exact h1.A) hi hsr hn
  unfold OpW
  rw [hq r x hx]
  exact ⟨Chg.refl _ _, [], fun b hb => absurd hb List.not_mem_nil, (), rfl, .nil, List.nodup_nil⟩
theorem lit_pre {mt : Nat} {α : Type} {t e : TypeId} {E : STy α} {z0 : α} {bt i d : Nat} {sl : List (Nat × Nat × Value)} {ms : List MemD} {A : List Nat} {ty : TypeId} {as : List (List Nat)} {ops : List Oper} {r0 : Nat → Value} {w0 : World} (hz : STc P t α e E z0 bt) (h1 : At1 l mt U A (.buildSlice t 0 #[]) d ty as ops i) (h : Pre P l mt U r0 w0 i sl ms) :
      Pre P l mt U r0 w0 (i + 1) sl (⟨i, d, none, Value, fun _ v => v, fun _ v => [.own (sOwn e E) v []]⟩ :: ms) := by
  obtain ⟨t1, _, i', z, t2, _⟩ := hz.h
  refine h.mem h1 rfl rfl (fun _ _ _ h => nomatch h) fun S' S2 hl hR g r w hC hn hot pos aft => OpW_mono (OpW.made (own_lit0 (E := E) t1 t2)) ?_
  rintro v w' ⟨hC, f, hf, hV⟩
  refine ⟨hC, f, hf, v, rfl, ?_, hV.2⟩
  have := HL.own (Z := fun _ => False) (e := .own (sOwn e E) v []) (f := f) hV.1 .nil
  simpa using this
theorem mk_pre {mt n : Nat} {α : Type} {t e : TypeId} {E : STy α} {z0 : α} {bt i d : Nat} {sl : List (Nat × Nat × Value)} {ms : List MemD} {A : List Nat} {ty : TypeId} {as : List (List Nat)} {ops : List Oper} {r0 : Nat → Value} {w0 : World} {x : Operand} {z : Int} (hh : hotB l mt base = true) (ha : agr r0 base) (hz : STc P t α e E z0 bt) (hv : VisD A none sl base fr) (hx : opv fr x = some (.int .i64 z)) (hn : mk bt z = some n) (h1 : At1 l mt U A (.makeSlice t x x) d ty as ops i) (h : Pre P l mt U r0 w0 i sl ms) :
      Pre P l mt U r0 w0 (i + 1) sl (⟨i, d, none, Value, fun _ v => v, fun _ v => [.own (sOwn e E) v (List.replicate n z0)]⟩ :: ms) := by
  obtain ⟨e1, e2, e3⟩ := mk_some hn
  obtain ⟨t1, hE, i', z', t2, t3, t4, t5, t6, t7⟩ := hz.h
  subst e1
  refine h.mem h1 rfl rfl (fun _ _ _ h => nomatch h) fun S' S2 hl hR g r w hC hn hot pos aft => ?_
  have hb := agr_vis hR (by rw [hl]; exact h1.A) hv (agr_base hh ha hot) hn
  refine OpW_mono (OpW.made (own_make (E := E) (z0 := z0) t1 t2 t3 t4 hE t5 t7 (opv_ev hb hx) (opv_ev hb hx) (by rw [t6]; exact e2) e3)) ?_
  rintro v w' ⟨hC, f, hf, hV⟩
  refine ⟨hC, f, hf, v, rfl, ?_, hV.2⟩
  have := HL.own (Z := fun _ => False) (e := .own (sOwn e E) v (List.replicate n z0)) (f := f) hV.1 .nil
  simpa using this
theorem lt_pre {mt : Nat} {α : Type} {t e : TypeId} {E : STy α} {z0 : α} {bt i d : Nat} {sl : List (Nat × Nat × Value)} {ms : List MemD} {A : List Nat} {ty : TypeId} {as : List (List Nat)} {ops : List Oper} {r0 : Nat → Value} {w0 : World} {x : Operand} {u : Value} {Γ : List Ent} {F : List Nat} (hh : hotB l mt base = true) (ha : agr r0 base) (hz : STc P t α e E z0 bt) (hv : VisD A none sl base fr) (hx : opv fr x = some u) (ho : One Γ u) (hS : SA Z w0 Γ [] F) (h1 : At1 l mt U A (.buildSlice t 1 #[(0, x)]) d ty as ops i) (h : Pre P l mt U r0 w0 i sl ms) :
      Pre P l mt U r0 w0 (i + 1) sl (⟨i, d, none, Nat, fun _ b => .slice (some ⟨b, 0, none⟩) 1 1, fun _ b => [.row b [u] e]⟩ :: ms) := by
  obtain ⟨t1, hE, i', z', t2, t3, t4, t5, t6, t7⟩ := hz.h
  refine h.mem h1 rfl rfl (fun _ _ _ h => nomatch h) fun S' S2 hl hR g r w hC hn hot pos aft => ?_
  have hb := agr_vis hR (by rw [hl]; exact h1.A) hv (agr_base hh ha hot) hn
  refine OpW_mono (OpW.lit1 t1 t2 t3 t4 (opv_ev hb hx) (ho.one hS)) ?_
  rintro v w' ⟨hC, f, hf, b, e1, e2, hrow⟩
  refine ⟨hC, f, hf, b, e2, ?_, by rw [e1]; simp⟩
  have := HL.own (Z := fun _ => False) (e := .row b [u] e) (f := [b]) ⟨rfl, hrow⟩ .nil
  rw [e1]
  simpa using this
theorem ltn_pre {mt n : Nat} {t e : TypeId} {i d : Nat} {sl : List (Nat × Nat × Value)} {ms : List MemD} {A : List Nat} {ty : TypeId} {as : List (List Nat)} {ops : List Oper} {r0 : Nat → Value} {w0 : World} {ps : List (Nat × Operand)} {us : List Value} {Γ : List Ent} {F : List Nat} (hh : hotB l mt base = true) (ha : agr r0 base) (hz : LTc P t e) (hv : VisD A none sl base fr) (hd : LitD Γ fr 0 ps us) (hn : us.length = n) (hb : (Nat.ble 1 n && Nat.ble n 16777216) = true) (hS : SA Z w0 Γ [] F) (h1 : At1 l mt U A (.buildSlice t n ps.toArray) d ty as ops i) (h : Pre P l mt U r0 w0 i sl ms) :
      Pre P l mt U r0 w0 (i + 1) sl (⟨i, d, none, Nat, fun _ b => .slice (some ⟨b, 0, none⟩) n n, fun _ b => [.row b us e]⟩ :: ms) := by
  refine h.mem h1 rfl rfl (fun _ _ _ h => nomatch h) fun S' S2 hl hR g r w hC hnn hot pos aft => ?_
  have hb' := agr_vis hR (by rw [hl]; exact h1.A) hv (agr_base hh ha hot) hnn
  unfold OpW
  rw [hd.op hb' hS hz hn hb]
  refine ⟨Chg.alloc _ _ _, [w.heap.size], fun b hb => by rw [List.mem_singleton.1 hb]; simp, w.heap.size, rfl, ?_, by simp⟩
  have := HL.own (Z := fun _ => False) (e := .row w.heap.size us e) (f := [w.heap.size]) ⟨rfl, heap_alloc_new w _⟩ .nil
  simpa using this
theorem mlt_pre {mt t : Nat} {α : Type} {s e : TypeId} {E : STy α} {z0 : α} {bt i d : Nat} {sl : List (Nat × Nat × Value)} {ms : List MemD} {A : List Nat} {ty : TypeId} {as : List (List Nat)} {ops : List Oper} {r0 : Nat → Value} {w0 : World} (hz : STc P s α e E z0 bt) (hi : InhX ms) (hsr : srcB A ms = true) (hj : ∃ j, fstJ t ms = some j ∧ memB j A = true) (hx : ∀ x : Xof ms, OneD (visF A ms x) (visE A ms x) t) (h1 : At1 l mt U A (.buildSlice s 1 #[(0, .tmp t)]) d ty as ops i) (h : Pre P l mt U r0 w0 i sl ms) :
      Pre P l mt U r0 w0 (i + 1) sl (⟨i, d, some t, Nat, fun _ b => .slice (some ⟨b, 0, none⟩) 1 1, fun u b => [.row b [u] e]⟩ :: ms) := by
  obtain ⟨t1, hE, i', z', t2, t3, t4, t5, t6, t7⟩ := hz.h
  refine h.mem h1 rfl rfl (fun S' hR t' ht => by cases ht; exact src_anc hR hj) ?_
  intro S' S2 hl hR g r w hC hn hot pos aft
  obtain ⟨x, hv, hE⟩ := see hR (by rw [hl]; exact h1.A) hi hsr hn
  obtain ⟨hlk, hone⟩ := hx x
  have hrt : r t = _ := (agr_app hv agr_nil) t _ (by rw [List.append_nil]; exact hlk)
  have hS : SA (fun _ => False) w (visE A ms x) [] (visB A g ms ++ []) := by
    have := hE.front (Γ := []) (F := []) rfl
    rwa [List.append_nil] at this
  refine OpW_mono (OpW.lit1 t1 t2 t3 t4 (x := .tmp t) rfl (by show (r t).oneCell' = true; rw [hrt]; exact hone.one hS)) ?_
  rintro v w' ⟨hC, f, hf, b, e1, e2, hrow⟩
  refine ⟨hC, f, hf, b, e2, ?_, by rw [e1]; simp⟩
  have := HL.own (Z := fun _ => False) (e := .row b [r t] e) (f := [b]) ⟨rfl, hrow⟩ .nil
  rw [e1]
  simpa [srcV] using this
theorem call_pre {mt : Nat} {β V : Type} {A : List Nat} {as : List (List Nat)} {d : Nat} {f : FuncId} {xs : List Operand} {ats : Array TypeId} {ty : TypeId} {mo : Option β} {rt : β → V → List Value} {ps : β → V → List Ent} {ops : List Oper} {i : Nat} {sl : List (Nat × Nat × Value)} {ms : List MemD} {fr : Fr} {Γ : List Ent} {B : Bs} {r0 : Nat → Value} {w0 : World} {y : β} (hh : hotB l mt base = true) (hf : FnC P f) (hv : VisD A none sl base fr)
      (hc : ∀ x : Xof ms, CallD P f xs (visF A ms x ++ fr) (visE A ms x ++ Γ) mo rt ps) (hi : InhX ms) (hsr : srcB A ms = true) (hw : ∀ y v, owB (ps y v) = true) (h1 : At1 l mt U A (.call ⟨.value (.func f), xs.toArray, ats⟩) d ty as ops i) (hy : mo = some y) (ha : agr r0 base) (hs : St B Γ w0) (h : Pre P l mt U r0 w0 i sl ms) :
      Pre1 P l mt U r0 w0 i sl ms ⟨i, d, none, V, fun _ v => tupv (rt y v), fun _ => ps y⟩ := by
  obtain ⟨S', hl, hR, hO⟩ := h
  subst hl
  refine ⟨S', rfl, hR, hO, fun V' hV => ?_⟩
  obtain ⟨hA, ⟨pos, aft, ho⟩, _⟩ := h1
  refine Owes.memX (V := V') ho (by simp) rfl fun g r w hC hn hot => ?_
  have hb := agr_vis hR hA hv (agr_base hh ha hot) hn
  obtain ⟨x, hx, hxl⟩ := see hR hA hi hsr hn
  obtain ⟨hx1, hct, hd, hr⟩ := hc x
  obtain ⟨fn, c, f1, f2, f3⟩ := hf.h
  refine Calls.of_ct f1 f2 f3 ?_
  rw [opvs_ev (agr_app hx hb) hx1]
  obtain ⟨Z, F, hS, hG⟩ := hs
  have hS2 := (hxl.up (Z := Z)).front (hS.keep0 hC)
  have hG2 := hG.keep0 hC
  rw [ct_eq] at hct
  refine (hct.2 w (fun b => Z b ∨ b ∈ visB A g ms ++ F) [] (hr.sound (fun _ h => .inl h) (fun _ _ h => .inr h) hS2 hd.ho) List.nodup_nil (fun b hb => absurd hb List.not_mem_nil)
    (fun b hb => hb.elim (hG2.zlt b) (hS2.lt b)) y hy).mono ?_
  rintro e w' ⟨v, he, Z2, F2, hl2, hg2⟩
  have hl3 : HL (fun _ => False) w' (ps y v) F2 := hl_own (hw y v) hl2
  have hlt := (hl3.front (Γ := []) (F := []) rfl).lt
  obtain ⟨f', hsub, hV'⟩ := hV F2 w' r _ ⟨v, rfl, hl3, hg2.nd⟩
  refine ⟨_, he, hg2.chg, f', fun b hb => ⟨(hg2.low b (hsub b hb)).resolve_left List.not_mem_nil, hlt b (by simpa using hsub b hb)⟩, hV'⟩
end
end Go.Dk
namespace Go.Dk
open Go Go.Li
section
variable {R S : Type} {P : Program} {cx : Cx R} {K : Kont R S} {l tail : List Oper} {base fr : Fr} {U : List (List Nat)}
def semA (P : Program) (cx : Cx R) (K : Kont R S) (l : List Oper) (mt : Nat) (U : List (List Nat)) (id : Nat) (base : Fr) : JA R S → Prop
  | .a as ops i sl ms Γ m => Here l mt U as ops i → Fin P cx K l mt U id base i sl ms Γ m
  | .o A op d ty as ops i sl ms Γ m => At1 l mt U A op d ty as ops i → Fin P cx K l mt U id base i sl ms Γ m
  | .ow _ A op d ty as ops i sl ms Γ m => At1 l mt U A op d ty as ops i → Fin P cx K l mt U id base i sl ms Γ m
  | .la fr a lk t x A d ty as ops i sl ms Γ m => VisD A none sl base fr → opv fr x = some (.pointer (some a)) → (match lk with | none => NA P t | some n => AG P t n) → At1 l mt U A (.load t x) d ty as ops i → Fin P cx K l mt U id base i sl ms Γ m
  | .ld E z fr a t x A d ty as ops i sl ms Γ m => VisD A none sl base fr → opv fr x = some (.pointer (some a)) → NA P t → At1 l mt U A (.load t x) d ty as ops i →
      ∀ B o, m = some o → ∀ r0 w0, agr r0 base → St B Γ w0 → (∃ u g, w0.cell? a = some u ∧ E.rep w0.heap [u] z g) → Pre P l mt U r0 w0 i sl ms → W P cx.n (.region id l.toArray true) (postK P cx B K o) r0 w0
  | .cr u ps d as ops i sl ms Γ m => Here l mt U as ops (i + 1) → dstAt l i = some d →
      ∀ B o, m = some o → ∀ r0 w0, agr r0 base → St B Γ w0 → Pre1 P l mt U r0 w0 i sl ms ⟨i, d, none, _, fun _ => u, fun _ => ps⟩ → W P cx.n (.region id l.toArray true) (postK P cx B K o) r0 w0
/-- the rules hold, if the end does -/
theorem AD.sound {tq : Bool} {mt id : Nat} (hh : hotB l mt base = true)
    (hnil : ∀ i sl ms Γ m, srcA ms = true → endB U sl ms = true → (∀ x : Xof ms, D P cx (.p (allF sl (mF ms x)) (allE ms x) base Γ fun fr Γ => .tg tq (hasG tail) l tail K Γ fr m)) → semA P cx K l mt U id base (.a [] [] i sl ms Γ m))
    {J : JA R S} (h : AD tq P cx K l tail base U J) : semA P cx K l mt U id base J := by
  induction h with
  | nil hs he h => exact hnil _ _ _ _ _ hs he h
  | cons _ ih => exact fun h => ih h.cons
  | @idx α A as d x y v k j t ty o1 o2 E xs ops i sl ms fr Γ Γ' f ht hv hx hy hr hE _ ih =>
    intro h1 B o ho r0 w0 ha hs hp
    obtain ⟨z, hz, ho⟩ := bind_some ho
    replace hz := idx_some hz
    obtain ⟨Z, F, hS, hG⟩ := hs
    obtain ⟨cur', _, ⟨⟨n, hn, _⟩, hel⟩, hins⟩ := (hr z).sound hS
    exact ih z h1.n B o ho r0 w0 ha ⟨Z, F, hins (hel hE j z hz.1 hz.2), hG⟩ (hp.val hh ha h1 hv fun r hr _ _ _ => Ix ht.h hn hz (opv_ev hr hx) (opv_ev hr hy) hE)
  | load hv hx _ ih => rename_i ht _; exact fun h1 => ih hv hx ht.h h1
  | @lel α A as d x v j o E z t ty ops i sl ms fr Γ Γx m h _ ih =>
    intro hv hx ht h1 B o' ho r0 w0 ha hs hp
    obtain ⟨Z, F, hS, _⟩ := @_root_.id _ hs
    obtain ⟨_, ⟨u, k, h2, h3, _⟩, _⟩ := h.sound hS
    exact ih hv hx ht h1 B o' ho r0 w0 ha hs ⟨u, k, h2, h3⟩ hp
  | lce h _ ih =>
    intro hv hx ht h1 B o ho r0 w0 ha hs hp
    obtain ⟨Z, F, hS, _⟩ := @_root_.id _ hs
    exact ih h1.n B o ho r0 w0 ha hs (hp.val hh ha h1 hv fun r hr _ _ _ => Ld ht (h.sound hS) (opv_ev hr hx))
  | las h _ ih =>
    intro hv hx ht h1 B o ho r0 w0 ha hs hp
    obtain ⟨Z, F, hS, _⟩ := @_root_.id _ hs
    obtain ⟨h2, h3⟩ := h.sound hS
    exact ih h1.n B o ho r0 w0 ha hs (hp.val hh ha h1 hv fun r hr _ _ _ => Lg ht h2 (opv_ev hr hx) h3)
  | ldi _ ih =>
    intro hv hx ht h1 B o ho r0 w0 ha hs hu hp
    obtain ⟨u, k, h2, h3, _⟩ := hu
    obtain rfl : u = _ := by simpa using h3
    exact ih h1.n B o ho r0 w0 ha hs (hp.val hh ha h1 hv fun r hr _ _ _ => Ld ht h2 (opv_ev hr hx))
  | ldb _ ih =>
    intro hv hx ht h1 B o ho r0 w0 ha hs hu hp
    obtain ⟨u, k, h2, h3, _⟩ := hu
    obtain rfl : u = _ := by simpa using h3
    exact ih h1.n B o ho r0 w0 ha hs (hp.val hh ha h1 hv fun r hr _ _ _ => Ld ht h2 (opv_ev hr hx))
  | @lds α A as d x v j E z o' t ty ops i sl ms fr Γ Γ1 Γ' m h h2' _ ih =>
    intro hv hx ht h1 B o ho r0 w0 ha hs hu hp
    obtain ⟨u, k, h2, h3⟩ := hu
    obtain ⟨Z, F, hS, hG⟩ := hs
    obtain ⟨cur', ⟨u', k', h4, h5, h6⟩, hins⟩ := (h u).sound hS
    rw [h2] at h4
    cases h4
    exact ih u h1.n B o ho r0 w0 ha ⟨Z, F, (h2' u).sound h2 (hins ⟨k', h5, h6⟩), hG⟩ (hp.val hh ha h1 hv fun r hr _ _ _ => Ld ht h2 (opv_ev hr hx))
  | @lit0 α A as d t e ty E z0 bt ops i sl ms Γ m hz _ ih =>
    intro h1 B o ho r0 w0 ha hs hp
    exact ih h1.n B o ho r0 w0 ha hs (lit_pre hz h1 hp)
  | @call β V A as d f xs ats ty mo rt ps ops i sl ms fr Γ g hf hv hc hi hsr hw _ ih =>
    intro h1 B o ho r0 w0 ha hs hp
    obtain ⟨y, hy, ho⟩ := bind_some ho
    obtain ⟨pos, aft, h2⟩ := h1.o
    exact ih y h1.n (by unfold dstAt; rw [h2]; rfl) B o ho r0 w0 ha hs (call_pre hh hf hv hc hi hsr hw h1 hy ha hs hp)
  | @crv u d as ops i sl ms Γ m _ ih =>
    intro h1 hd B o ho r0 w0 ha hs ⟨S', hl, hR, hO, hL⟩
    subst hl
    refine ih h1 B o ho r0 w0 ha hs ⟨_, by simp, hR.val hd, fun j hj => ?_⟩
    by_cases h2 : j < S'.length
    · exact Owes.more (hO j h2) h2
    · obtain rfl : j = S'.length := by omega
      exact hL (pl fun _ _ x => x = _) fun f w r x ⟨v, h, _⟩ => ⟨[], fun _ h => absurd h List.not_mem_nil, h⟩
  | @crm V u ps d as ops i sl ms Γ m _ ih =>
    intro h1 hd B o ho r0 w0 ha hs ⟨S', hl, hR, hO, hL⟩
    subst hl
    refine ih h1 B o ho r0 w0 ha hs ⟨_, by simp, hR.mem rfl hd (fun _ h => nomatch h), fun j hj => ?_⟩
    by_cases h2 : j < S'.length
    · exact Owes.more (hO j h2) h2
    · obtain rfl : j = S'.length := by omega
      exact hL _ fun f w r x h => ⟨f, fun _ h => h, h⟩
  | ap1 h1 h2 h3 h4 h5 h6 _ ih =>
    rename_i hz _
    intro h B o ho r0 w0 ha hs hp
    obtain ⟨u, hu, ho⟩ := bind_some ho
    exact ih h.n B o ho r0 w0 ha hs (app_pre hz h1 h2 h3 h4 h5 h6 hu h hp)
  | sw1 _ _ ih => exact fun h1 => ih h1
  | sw2 _ _ ih => exact fun h1 => ih h1
  | sw3 _ _ ih => exact fun h1 => ih h1
  | sw4 _ _ ih => exact fun h1 => ih h1
  | wl0 _ ih => exact fun h1 => ih h1
  | alc _ ih =>
    rename_i hz _
    intro h1 B o ho r0 w0 ha hs hp
    exact ih h1.n B o ho r0 w0 ha hs (alc_pre hz h1 hp)
  | sw5 _ _ ih => exact fun h1 => ih h1
  | mln hi hsr hx _ ih =>
    rename_i ht _
    intro h1 B o ho r0 w0 ha hs hp
    exact ih h1.n B o ho r0 w0 ha hs (ln_pre hp h1 ht hi hsr hx)
  | wv hv hq _ ih =>
    intro h1 B o ho r0 w0 ha hs hp
    obtain ⟨Z, F, hS, _⟩ := @_root_.id _ hs
    exact ih h1.n B o ho r0 w0 ha hs (hp.val hh ha h1 hv fun r hr _ _ _ => hq.sound hS hr _ _ _ _ _)
  | wlt hv hx ho _ ih =>
    rename_i hz _
    intro h1 B o ho' r0 w0 ha hs hp
    obtain ⟨Z, F, hS, _⟩ := @_root_.id _ hs
    exact ih h1.n B o ho' r0 w0 ha hs (lt_pre hh ha hz hv hx ho hS h1 hp)
  | ltn hv hd hn hb _ ih =>
    rename_i hz _
    intro h1 B o ho' r0 w0 ha hs hp
    obtain ⟨Z, F, hS, _⟩ := @_root_.id _ hs
    exact ih h1.n B o ho' r0 w0 ha hs (ltn_pre hh ha hz hv hd hn hb hS h1 hp)
  | mk hv hx _ ih =>
    rename_i hz _
    intro h1 B o ho r0 w0 ha hs hp
    obtain ⟨n, hn, ho⟩ := bind_some ho
    exact ih n h1.n B o ho r0 w0 ha hs (mk_pre hh ha hz hv hx hn h1 hp)
  | mmv hi hsr hj _ ih =>
    intro h1 B o ho r0 w0 ha hs hp
    exact ih h1.n B o ho r0 w0 ha hs (hp.dep (X := fun u => u) h1 hi hsr hj fun r x hx w pos aft => (Mv (W := w) _ rfl) w (Chg.refl _ _))
  | @mex t k A as d ty ops i sl ms Γ m hi hsr hj hxx _ ih =>
    intro h1 B o ho r0 w0 ha hs hp
    refine ih h1.n B o ho r0 w0 ha hs (hp.dep (X := fun u => tupOf u _) h1 hi hsr hj fun r x hx w pos aft => ?_)
    obtain ⟨hlk, hc⟩ := hxx x
    have hrt := (agr_app hx agr_nil) _ _ (by rw [List.append_nil]; exact hlk)
    have := (Ex (W := w) (P := P) (r := r) (d := some d) (ty := ty) (pos := pos) (aft := aft) (g := none) _ (x := .tmp t) hrt (by simpa using hc)) w (Chg.refl _ _)
    rw [this, hrt]
    simp [tupOf, hc]
  | mfd hi hsr hj hxx _ ih =>
    rename_i hf _
    intro h1 B o ho r0 w0 ha hs hp
    refine ih h1.n B o ho r0 w0 ha hs (hp.dep (X := fun u => fldOf u _) h1 hi hsr hj fun r x hx w pos aft => ?_)
    obtain ⟨hlk, hc⟩ := hxx x
    obtain ⟨fs, f, ds, q1, q2, q3, q4, q5⟩ := hf.h
    have hrt := (agr_app hx agr_nil) _ _ (by rw [List.append_nil]; exact hlk)
    rw [op_field q1 q2 q3 q4 q5 (x := .tmp _) hrt (by simpa using hc), hrt]
    simp [fldOf, hc]
  | mlt hi hsr hj hxx _ ih =>
    rename_i hz _
    intro h1 B o ho r0 w0 ha hs hp
    exact ih h1.n B o ho r0 w0 ha hs (mlt_pre hz hi hsr hj hxx h1 hp)
  | val hv hq _ ih =>
    intro h1 B o ho r0 w0 ha hs hp
    obtain ⟨Z, F, hS, _⟩ := @_root_.id _ hs
    exact ih h1.n B o ho r0 w0 ha hs (hp.val hh ha h1 hv fun r hr _ _ _ => hq.sound hS hr _ _ _ _ _)
end
end Go.Dk
namespace Go.Dk
open Go Go.Li
section
variable {R S : Type} {P : Program} {cx : Cx R} {K : Kont R S} {l tail : List Oper} {base fr : Fr} {w : World} {Z : Nat → Prop}
theorem postI_panic {n : Nat} {Q : Exit → (Nat → Value) → World → Prop} {r : Nat → Value} (hQ : ∀ c, ¬ Q (.panic c) r w) : ∀ its, ∀ c, ¬ postI P n Q its (.panic c) r w := by
  intro its
  induction its with
  | nil => exact hQ
  | cons a its ih => cases a <;> exact ih
theorem baseQ_panic {B : Bs} {b : Kb R S} {o : Out S R} {r : Nat → Value} : ∀ c, ¬ baseQ P cx B b o (.panic c) r w := by
  intro c
  cases b <;> cases o <;> exact fun h => h
theorem postK_panic {B : Bs} {K : Kont R S} {o : Out S R} {r : Nat → Value} : ∀ c, ¬ postK P cx B K o (.panic c) r w := postI_panic baseQ_panic _
def allB (g : Nat → List Nat) : List MemD → List Nat
  | [] => []
  | a :: l => g a.j ++ allB g l
theorem allB_mem {g : Nat → List Nat} : ∀ {ms : List MemD} {b : Nat}, b ∈ allB g ms → ∃ a ∈ ms, b ∈ g a.j := by
  intro ms
  induction ms with
  | nil => intro b h; exact absurd h List.not_mem_nil
  | cons a ms ih =>
    intro b h
    rcases List.mem_append.1 h with h | h
    · exact ⟨a, by simp, h⟩
    · obtain ⟨c, h1, h2⟩ := ih h
      exact ⟨c, List.mem_cons_of_mem _ h1, h2⟩
theorem pickA {g : Nat → List Nat} {r : Nat → Value} : ∀ {ms : List MemD}, srcA ms = true → (ms.map (·.j)).Nodup → (∀ a ∈ ms, ∀ b ∈ ms, a.j ≠ b.j → Dis (g a.j) (g b.j)) → (∀ a ∈ ms, MV a (g a.j) w r (r a.d)) →
    ∃ x : Xof ms, (∀ p ∈ mF ms x, r p.1 = p.2) ∧ HL (fun _ => False) w (allE ms x) (allB g ms) ∧ (allB g ms).Nodup := by
  intro ms
  induction ms with
  | nil => intro _ _ _ _; exact ⟨(), fun p hp => absurd hp List.not_mem_nil, .nil, List.nodup_nil⟩
  | cons a ms ih =>
    intro hsr hd hi h
    unfold srcA at hsr
    rw [Bool.and_eq_true] at hsr
    rw [List.map_cons, List.nodup_cons] at hd
    obtain ⟨x, hx, hl, hn⟩ := ih hsr.2 hd.2 (fun b hb c hc => hi b (List.mem_cons_of_mem _ hb) c (List.mem_cons_of_mem _ hc)) fun b hb => h b (List.mem_cons_of_mem _ hb)
    obtain ⟨v, e1, e2, e3⟩ := h a (by simp)
    have es : srcV a r = srcF a (mF ms x) := by
      have h3 := hsr.1
      unfold srcV srcF
      cases hs : a.src with
      | none => rfl
      | some t =>
        simp only [hs] at h3
        simp only [look_all h3 hx]
    rw [es] at e1 e2
    refine ⟨(v, x), ?_, e2.app hl, nodup_app e3 hn ?_⟩
    · intro p hp
      rcases List.mem_cons.1 hp with rfl | hp
      · exact e1
      · exact hx p hp
    · intro b hb hm
      obtain ⟨c, h1, h2⟩ := allB_mem hm
      exact hi a (by simp) c (List.mem_cons_of_mem _ h1) (fun e => hd.1 (by rw [e]; exact List.mem_map_of_mem h1)) b hb h2
theorem allF_all {r : Nat → Value} {f : Fr} : ∀ {sl : List (Nat × Nat × Value)}, (∀ p ∈ sl, r p.2.1 = p.2.2) → (∀ p ∈ f, r p.1 = p.2) → ∀ p ∈ allF sl f, r p.1 = p.2 := by
  intro sl
  induction sl with
  | nil => intro _ h; exact h
  | cons a sl ih =>
    intro h1 h2 p hp
    rcases List.mem_cons.1 hp with rfl | hp
    · exact h1 a (by simp)
    · exact ih (fun p hp => h1 p (List.mem_cons_of_mem _ hp)) h2 p hp
theorem nil_fin {mt id : Nat} {U : List (List Nat)} {Zl : List Nat} (hU : ((List.range mt).all fun i => (U.getD i []).all fun u => ((ancs l).getD i []).contains u) = true) (hh : hotB l mt base = true) (hm : P.follows .mixedOrders = true) (hd : dstOk cx.n l = true) (hA : anyB l mt Zl = true) (hZ : zOk l mt Zl = true) (hml : mt ≤ l.length) (ht : tail = l.drop mt) {i : Nat} {sl : List (Nat × Nat × Value)} {ms : List MemD} {Γ : List Ent} {m : Option (Out S R)} (hsa : srcA ms = true) (hen : endB U sl ms = true)
    (h : ∀ x : Xof ms, D P cx (.p (allF sl (mF ms x)) (allE ms x) base Γ fun fr Γ => .tg false (hasG tail) l tail K Γ fr m)) : semA P cx K l mt U id base (.a [] [] i sl ms Γ m) := by
  rintro ⟨_, h2, h3⟩ B o ho r0 w0 ha hs ⟨S', hl, hR, hO⟩
  have hi : i = mt := by
    have := congrArg List.length h2
    simp at this
    omega
  subst hl
  refine W_any (S := S') (U := U) hm hd hA hZ (fun c r w h => postK_panic c h) hml hi hU (fun i s hs => hR.s i s hs) (fun j hj => hO j (by omega)) ?_
  intro g r w hI
  have hused : ∀ k j, j ∈ U.getD k [] → (∀ p ∈ sl, p.1 ≠ j) ∧ ∀ a ∈ ms, a.j ≠ j := by
    intro k j hj
    unfold endB at hen
    rw [List.getD_eq_getElem?_getD] at hj
    cases hk : U[k]? with
    | none => rw [hk] at hj; exact absurd hj List.not_mem_nil
    | some us =>
      rw [hk] at hj
      have h1 := List.all_eq_true.1 (List.all_eq_true.1 hen us (List.mem_of_getElem? hk)) j hj
      rw [Bool.and_eq_true] at h1
      refine ⟨fun p hp he => ?_, fun a ha he => ?_⟩
      · have := List.all_eq_true.1 h1.1 p hp
        rw [he, Nat.beq_refl] at this
        cases this
      · have := List.all_eq_true.1 h1.2 a ha
        rw [he, Nat.beq_refl] at this
        cases this
  have hD : ∀ j, j < mt → (∀ k, j ∉ U.getD k []) → Done l S' j g r w := fun j hj hn => hI.done j hj fun k _ => hn k
  have hlt : ∀ a ∈ ms, a.j < mt := fun a ha => hi ▸ (List.getElem?_eq_some_iff.1 (hR.m a ha).1).1
  obtain ⟨x, hx, hxl, hxn⟩ := pickA (g := g) (r := r) (w := w) hsa hR.d (fun a ha b hb hab => hI.dis _ _ (hlt a ha) (hlt b hb) hab) fun a ha => by
    have e1 := hR.m a ha
    have e2 := hD a.j (hlt a ha) (fun k hk => (hused k _ hk).2 a ha rfl) a.d e1.2
    rw [e1.1] at e2
    exact e2
  obtain ⟨Z, F, hS, hG⟩ := hs
  have hG2 := hG.keep0 hI.chg
  have hfr : ∀ b ∈ allB g ms, w0.heap.size ≤ b := fun b hb => by
    obtain ⟨a, h1, h2⟩ := allB_mem hb
    exact (hI.fresh a.j (hlt a h1) b h2).1
  obtain ⟨F', hp, hS2⟩ := (hxl.up (Z := Z)).build (hS.keep0 hI.chg)
  have hG3 : Gd B Z (allB g ms ++ F) w := by
    refine ⟨nodup_app hxn hG2.nd fun b hb hF => Nat.lt_irrefl _ (Nat.lt_of_lt_of_le (hS.lt b hF) (hfr b hb)), ?_, hG2.zlt, ?_, hG2.zup, hG2.zlow, hG2.chg⟩
    · intro b hb hz
      rcases List.mem_append.1 hb with hb | hb
      · exact Nat.lt_irrefl _ (Nat.lt_of_lt_of_le (hG.zlt b hz) (hfr b hb))
      · exact hG2.apart b hb hz
    · intro b hb
      rcases List.mem_append.1 hb with hb | hb
      · exact .inr (Nat.le_trans hG.chg.size (hfr b hb))
      · exact hG2.low b hb
  have hagr : agr r ((allF sl (mF ms x)).reverse ++ base) := by
    refine agr_rev (allF_all (fun p hp => ?_) hx) (agr_base hh ha hI.other)
    have e1 := hR.v p hp
    have e2 := hD p.1 (hi ▸ (List.getElem?_eq_some_iff.1 e1.1).1) (fun k hk => (hused k _ hk).1 p hp rfl) p.2.1 e1.2
    rw [e1.1] at e2
    exact e2
  have := (h x).sound B o ho r w hagr ⟨Z, F', hS2, hG3.perm hp⟩
  rw [ht] at this
  exact this
def Kq (q : Option (Bool × Nat × Value)) (f : Fr) : Fr :=
  match q with
  | none => f
  | some (_, d, u) => (d, u) :: f
theorem Kp.lk {ws : List Nat} {q : Option (Bool × Nat × Value)} {f g : Fr} (h : Kp ws q f g) : (∀ b d u, q = some (b, d, u) → b = memB d ws) → ∀ t v, look g t = some v → memB t ws = false ∧ look (Kq q f) t = some v := by
  induction h with
  | nil => intro _ t v h; cases h
  | cons _ ih => intro _ t v h; exact ih (by rintro b d u h; cases h; rfl) t v h
  | @drop ws d u f g _ ih =>
    intro hq t v h
    obtain ⟨h1, h2⟩ := ih (by rintro b d u h; cases h) t v h
    refine ⟨h1, ?_⟩
    show look ((d, u) :: f) t = some v
    unfold look
    cases hb : Nat.beq t d with
    | true => have := hq true d u rfl; rw [Nat.eq_of_beq_eq_true hb, ← this] at h1; cases h1
    | false => exact h2
  | @keep ws d u f g _ ih =>
    intro hq t v h
    unfold look at h
    show memB t ws = false ∧ look ((d, u) :: f) t = some v
    unfold look
    cases hb : Nat.beq t d with
    | true => rw [hb] at h; exact ⟨by rw [Nat.eq_of_beq_eq_true hb]; exact (hq false d u rfl).symm, h⟩
    | false =>
      rw [hb] at h
      obtain ⟨h1, h2⟩ := ih (by rintro b d u h; cases h) t v h
      unfold memB at h1
      rw [hb] at h1
      exact ⟨h1, h2⟩
theorem Kp.sound {ws : List Nat} {f g : Fr} {r : Nat → Value} (h : Kp ws none f g) (ha : agr r f) : agr r g :=
  fun t v hl => ha t v (h.lk (by rintro b d u h; cases h) t v hl).2
/-- a drawn region: its head in any order, its tail one behind the other -/
theorem any {id : Nat} (mt : Nat) (Zl : List Nat) (U as : List (List Nat)) {ops : List Oper} {Γ : List Ent} {fr : Fr} {m : Option (Out S R)}
    (hB : (P.follows .mixedOrders && dstOk cx.n l && anyB l mt Zl && zOk l mt Zl && Nat.ble mt l.length && (visl l U mt == as) && ((List.range mt).all fun i => (U.getD i []).all fun u => ((ancs l).getD i []).contains u)) = true)
    (ho : ops = l.take mt) (ht : tail = l.drop mt) (hf : Kp (dsts ops) none fr base) (hh : hotB l mt base = true)
    (h : AD false P cx K l tail base U (.a as ops 0 [] [] Γ m)) : Bx (sem P cx (.dr id l K Γ fr m)) := by
  simp only [Bool.and_eq_true] at hB
  obtain ⟨⟨⟨⟨⟨⟨b1, b2⟩, b3⟩, b4⟩, b5⟩, b6⟩, b7⟩ := hB
  rw [bx_eq]
  intro B o hm r w ha hs
  refine AD.sound (id := id) hh (fun _ _ _ _ _ hs he h => nil_fin b7 hh b1 b2 b3 b4 (Nat.le_of_ble_eq_true b5) ht hs he h) h
    ⟨by rw [List.drop_zero]; exact (eq_of_beq b6).symm, by rw [List.drop_zero]; exact ho, Nat.zero_le _⟩ B o hm r w (hf.sound ha) hs ⟨[], rfl, ⟨fun _ h => absurd h List.not_mem_nil, fun _ h => absurd h List.not_mem_nil, fun i s h => by simp at h, List.nodup_nil⟩, fun j hj => absurd hj (Nat.not_lt_zero j)⟩
end
end Go.Dk
namespace Go.Li
open Go
section
variable {P : Program} {n : Nat} {Q : Exit → (Nat → Value) → World → Prop} {r0 : Nat → Value} {w0 : World} {l : List Oper} {S : List Gives}
/-- all behind the head waits for all of the head, and is free in order -/
def anyqB (l : List Oper) (m : Nat) : Bool :=
  ((List.range l.length).all fun i => ((l.getD i default).after.toList.filter (Region.binds .any)).all fun e => Nat.blt e.on i) &&
  ((List.range l.length).all fun i => Nat.blt i m || (List.range m).all fun j => ((ancs l).getD i []).contains j) &&
  nodupB ((l.take m).filterMap (·.dst)) && Region.noSelect l.toArray && Region.lexFrom .any l.toArray (l.length - m) m (List.replicate m true ++ List.replicate (l.length - m) false).toArray
theorem W_anyq {id m : Nat} {U : List (List Nat)} (hm : P.follows .mixedOrders = true) (hd : dstOk n l = true) (hA : anyqB l m = true) (hml : m ≤ l.length)
    (hS : S.length = m)
    (hU : ((List.range m).all fun i => (U.getD i []).all fun u => ((ancs l).getD i []).contains u) = true)
    (stable : ∀ (i : Nat) (s : Gives), S[i]? = some s → ∀ f F (w w' : World) (r r' : Nat → Value) v, Chg F w w' → (∀ b ∈ f, b ∉ F) → (∀ j ∈ (ancs l).getD i [], ∀ t, dstAt l j = some t → r' t = r t) → s.V f w r v → s.V f w' r' v)
    (owes : ∀ i, i < m → Owes P l m S U r0 w0 i)
    (next : ∀ g r w, HeadInv' l m S U r0 w0 (fun j => j < m) g r w → QL P (Chg [] w) l (l.drop m) r fun r' => ∀ w', Chg [] w w' → Q .normal r' w') :
    W P n (.region id l.toArray true) Q r0 w0 := by
  simp only [anyqB, Bool.and_eq_true, List.all_eq_true, List.mem_range, Bool.or_eq_true] at hA
  obtain ⟨⟨⟨⟨hA1, hA2⟩, hA3⟩, hns⟩, hlex⟩ := hA
  have hback : ∀ (i : Nat) (o : Oper), l[i]? = some o → ∀ e ∈ o.after.toList.filter (Region.binds .any), e.on < i := by
    intro i o ho e he
    have hi : i < l.length := (List.getElem?_eq_some_iff.1 ho).1
    have := hA1 i hi e (by rw [List.getD_eq_getElem?_getD, ho]; exact he)
    exact Nat.lt_of_succ_le (Nat.le_of_ble_eq_true this)
  have hbig : ∀ i, m ≤ i → i < l.length → ∀ j, j < m → j ∈ (ancs l).getD i [] := by
    intro i h1 h2 j hj
    rcases hA2 i h2 with h | h
    · exact absurd (Nat.lt_of_succ_le (Nat.le_of_ble_eq_true h)) (Nat.not_lt.2 h1)
    · have := h j hj
      simpa using this
  have hUs : ∀ i, i < m → ∀ u ∈ U.getD i [], u ∈ (ancs l).getD i [] := by
    intro i hi u hu
    simp only [List.all_eq_true, List.mem_range] at hU
    have := hU i hi u hu
    simpa using this
  have hnd := nodup_dst _ (nodupB_spec hA3)
  have hanc := ancs_back l hback
  intro a h1 h2 h3
  refine wp_region_any hm ?_
  -- closed under the edges: what was carried out, with all on what it waited
  let Cl (L : Array Bool) : Prop := L.size = l.length ∧ ∀ j o, l[j]? = some o → L.getD j false = true → ∀ e ∈ o.after.toList.filter (Region.binds .any), L.getD e.on false = true
  have clAnc : ∀ L, Cl L → ∀ i j, (∀ o, l[i]? = some o → ∀ e ∈ o.after.toList.filter (Region.binds .any), L.getD e.on false = true) → j ∈ (ancs l).getD i [] → L.getD j false = true := by
    intro L hL i
    induction i using Nat.strongRecOn with
    | _ i ih =>
      intro j hi hj
      obtain ⟨_, o, ho, e, he, hje⟩ := hanc i j hj
      have hl := hi o ho e he
      rcases hje with rfl | hje
      · exact hl
      · exact ih e.on (hback i o ho e he) j (fun o' ho' e' he' => hL.2 _ _ ho' hl e' he') hje
  have rdy : ∀ L i, i ∈ Region.ready .any l.toArray L → L.getD i true = false ∧ ∃ o, l[i]? = some o ∧ ∀ e ∈ o.after.toList.filter (Region.binds .any), L.getD e.on false = true := by
    intro L i hi
    obtain ⟨g1, o, ho, hall⟩ := mem_ready.1 hi
    refine ⟨g1, o, by simpa using ho, fun e he => ?_⟩
    have := List.mem_filter.1 he
    exact hall e (by simpa using this.1) this.2
  have rdyMk : ∀ L i o, L.size = l.length → l[i]? = some o → L.getD i false = false → (∀ e ∈ o.after.toList.filter (Region.binds .any), L.getD e.on false = true) → i ∈ Region.ready .any l.toArray L := by
    intro L i o hs ho hu hall
    refine mem_ready.2 ⟨?_, o, by simpa using ho, fun e he hb => hall e (List.mem_filter.2 ⟨by simpa using he, hb⟩)⟩
    have hi : i < L.size := by rw [hs]; exact (List.getElem?_eq_some_iff.1 ho).1
    simp [hi] at hu ⊢; exact hu
  have clSet : ∀ L i o, Cl L → l[i]? = some o → (∀ e ∈ o.after.toList.filter (Region.binds .any), L.getD e.on false = true) → Cl (L.setIfInBounds i true) := by
    intro L i o hL ho hall
    refine ⟨by rw [Array.size_setIfInBounds]; exact hL.1, fun j o' ho' hj e he => ?_⟩
    by_cases hij : i = j
    · subst hij
      have : o' = o := Option.some.inj (ho'.symm.trans ho)
      subst this
      exact getD_set_true (hall e he)
    · rw [getD_set_ne false hij] at hj
      exact getD_set_true (hL.2 j o' ho' hj e he)
  have getSet : ∀ (L : Array Bool) i j, L.size = l.length → i < l.length → ((L.setIfInBounds i true).getD j false = true ↔ j = i ∨ L.getD j false = true) := by
    intro L i j hs hi
    by_cases hij : i = j
    · subst hij
      simp [hs, hi]
    · rw [getD_set_ne false hij]
      constructor
      · exact .inr
      · rintro (h | h)
        · exact absurd h.symm hij
        · exact h
  have cnt : ∀ (L : Array Bool) i, L.size = l.length → i < l.length → L.getD i false = false → (L.setIfInBounds i true).toList.count false + 1 = L.toList.count false := by
    intro L i hs hi hu
    have hi' : i < L.toList.length := by simpa [hs] using hi
    have hu' : L.toList[i] = false := by
      rw [Array.getElem_toList]
      simp [hs, hi] at hu
      exact hu
    rw [Array.toList_setIfInBounds, List.count_set hi', hu']
    have : 0 < L.toList.count false := List.count_pos_iff.2 (by rw [← hu']; exact List.getElem_mem hi')
    rw [if_pos (by rfl), if_neg (by decide)]
    omega
  have hd' : dstOk n (l.drop m) = true := by
    simp only [dstOk, List.all_eq_true] at hd ⊢
    exact fun o ho => hd o (List.mem_of_mem_drop ho)
  have tail : ∀ (fuel : Nat) (L : Array Bool) (a : Act) (w : World), Cl L → (∀ j, L.getD j false = true ↔ j < m) → L.toList.count false = fuel → a.tmps.size = n → a.defers = [] →
      (QL P (Chg [] w) l (l.drop m) (rho a) fun r' => ∀ w', Chg [] w w' → Q .normal r' w') → wpAny P .any l.toArray (fun e a' w' => a'.tmps.size = n ∧ a'.defers = [] ∧ Q e (rho a') w') fuel L a w := by
    intro fuel L a w hL hLk hf g1 g2 hq
    have hLe : L = (List.replicate m true ++ List.replicate (l.length - m) false).toArray := by
      apply Array.ext
      · simp [hL.1]; omega
      · intro i hi hj
        have h1 := hLk i
        simp only [Array.getD_eq_getD_getElem?, Array.getElem?_eq_getElem hi, Option.getD_some] at h1
        have e : (List.replicate m true ++ List.replicate (l.length - m) false).toArray[i]'hj = decide (i < m) := by
          simp only [List.getElem_toArray, List.getElem_append, List.getElem_replicate, List.length_replicate]
          split
          · rename_i h; simp [h]
          · rename_i h; simp [h]
        rw [e]
        cases hb : L[i] with
        | false => exact (decide_eq_false fun h => by have := h1.2 h; rw [hb] at this; cases this).symm
        | true => exact (decide_eq_true (h1.1 hb)).symm
    have hcount : fuel = l.length - m := by
      rw [← hf, hLe]
      simp [List.count_append, List.count_replicate]
    have q1 := QL.wpQuiet (n := n) (l := l) (l.drop m) a hd hd' g1 g2 hq
    have q2 := wpAnyQ_lex (md := .any) hns (l.drop m) m L a (fun j => by simp [List.getElem?_drop]) (by rw [hLe, List.length_drop]; exact hlex) q1
    refine wpAny_of_quiet (C := Chg [] w) (Q := fun a' => a'.tmps.size = n ∧ a'.defers = [] ∧ ∀ w', Chg [] w w' → Q .normal (rho a') w') (fun a' w' hw' hh => ⟨hh.1, hh.2.1, hh.2.2 w' hw'⟩) _ _ _ _ (Chg.refl _ _) ?_
    rw [hcount, ← List.length_drop]
    exact q2
  -- the head
  have head : ∀ (fuel : Nat) (L : Array Bool) (a : Act) (w : World) (g : Nat → List Nat), Cl L → (∀ j, L.getD j false = true → j < m) → L.toList.count false = fuel → a.tmps.size = n → a.defers = [] →
      HeadInv' l m S U r0 w0 (fun j => L.getD j false = true) g (rho a) w → wpAny P .any l.toArray (fun e a' w' => a'.tmps.size = n ∧ a'.defers = [] ∧ Q e (rho a') w') fuel L a w := by
    intro fuel
    induction fuel with
    | zero =>
      intro L a w g hL hLm hf g1 g2 inv
      have hall : ∀ j, j < l.length → L.getD j false = true := by
        intro j hj
        cases hb : L.getD j false with
        | true => rfl
        | false => have := cnt L j hL.1 hj hb; omega
      have hLk : ∀ j, L.getD j false = true ↔ j < m := fun j => ⟨hLm j, fun h => hall j (by omega)⟩
      refine tail 0 L a w hL hLk hf g1 g2 (next g _ _ ?_)
      exact ⟨inv.chg, fun j hj hk => inv.done j ((hLk j).2 hj) (fun k hkL => hk k ((hLk k).1 hkL)), inv.other, fun j hj => inv.fresh j ((hLk j).2 hj), fun i j hi hj => inv.dis i j ((hLk i).2 hi) ((hLk j).2 hj)⟩
    | succ fuel ih =>
      intro L a w g hL hLm hf g1 g2 inv
      by_cases hall : ∀ j, j < m → L.getD j false = true
      · have hLk : ∀ j, L.getD j false = true ↔ j < m := fun j => ⟨hLm j, hall j⟩
        refine tail _ L a w hL hLk hf g1 g2 (next g _ _ ?_)
        exact ⟨inv.chg, fun j hj hk => inv.done j ((hLk j).2 hj) (fun k hkL => hk k ((hLk k).1 hkL)), inv.other, fun j hj => inv.fresh j ((hLk j).2 hj), fun i j hi hj => inv.dis i j ((hLk i).2 hi) ((hLk j).2 hj)⟩
      · obtain ⟨j0, hj0, hu0⟩ : ∃ j, j < m ∧ L.getD j false = false := by
          apply Classical.byContradiction
          intro hno
          apply hall
          intro j hj
          cases hb : L.getD j false with
          | true => rfl
          | false => exact absurd ⟨j, hj, hb⟩ hno
        -- the least that has not come up may come up
        have hsome : ∃ i, i ∈ Region.ready .any l.toArray L := by
          have : ∀ k, (∃ j, j < k ∧ j < m ∧ L.getD j false = false) → ∃ i, i ∈ Region.ready .any l.toArray L := by
            intro k
            induction k with
            | zero => rintro ⟨j, h, _⟩; omega
            | succ k ihk =>
              rintro ⟨j, hjk, hjm, hju⟩
              by_cases hlow : ∃ j, j < k ∧ j < m ∧ L.getD j false = false
              · exact ihk hlow
              · obtain rfl : j = k := by
                  apply Classical.byContradiction
                  intro h
                  exact hlow ⟨j, by omega, hjm, hju⟩
                have hjl : j < l.length := by omega
                refine ⟨j, rdyMk L j l[j] hL.1 (List.getElem?_eq_getElem hjl) hju fun e he => ?_⟩
                have hlt := hback j _ (List.getElem?_eq_getElem hjl) e he
                cases hb : L.getD e.on false with
                | true => rfl
                | false => exact absurd ⟨e.on, hlt, by omega, hb⟩ hlow
          exact this (j0 + 1) ⟨j0, by omega, hj0, hu0⟩
        have main : ∀ i oi, i < m → l[i]? = some oi → L.getD i false = false → (∀ e ∈ oi.after.toList.filter (Region.binds .any), L.getD e.on false = true) →
            (Region.wanted oi (yl l (rho a)) = true ∧ OpW P oi (rho a) w fun v w' => wpAny P .any l.toArray (fun e a' w' => a'.tmps.size = n ∧ a'.defers = [] ∧ Q e (rho a') w') fuel (L.setIfInBounds i true) (a.put oi.dst v) w') ∨
            (Region.wanted oi (yl l (rho a)) = false ∧ wpAny P .any l.toArray (fun e a' w' => a'.tmps.size = n ∧ a'.defers = [] ∧ Q e (rho a') w') fuel (L.setIfInBounds i true) (a.put oi.dst undef) w) := by
          intro i oi him hoi hiu hedge
          have hilt : i < l.length := (List.getElem?_eq_some_iff.1 hoi).1
          have hedge' : ∀ o, l[i]? = some o → ∀ e ∈ o.after.toList.filter (Region.binds .any), L.getD e.on false = true := fun o' ho' => by
            have : o' = oi := Option.some.inj (ho'.symm.trans hoi)
            subst this; exact hedge
          obtain ⟨s, hs⟩ : ∃ s, S[i]? = some s := ⟨S[i]'(by omega), List.getElem?_eq_getElem (by omega)⟩
          have hc := cnt L i hL.1 hilt hiu
          have hcl := clSet L i oi hL hoi hedge
          have hlm : ∀ j, (L.setIfInBounds i true).getD j false = true → j < m := by
            intro j hj
            rcases (getSet L i j hL.1 hilt).1 hj with rfl | hj
            · exact him
            · exact hLm j hj
          have hiL : ∀ k, L.getD k false = true → k ≠ i ∧ i ∉ (ancs l).getD k [] := by
            intro k hk
            refine ⟨fun h => (by rw [h, hiu] at hk; cases hk), fun hm' => ?_⟩
            have := clAnc L hL k i (fun o' ho' e' he' => hL.2 k o' ho' hk e' he') hm'
            rw [hiu] at this; cases this
          have ow := owes i him oi s hoi hs g (rho a) w inv.chg (fun j hj => by
              simp only [needB, Bool.and_eq_true, List.all_eq_true, List.mem_range, Bool.or_eq_true, Bool.not_eq_true', List.contains_eq_mem, decide_eq_false_iff_not, decide_eq_true_eq] at hj
              refine inv.done j (clAnc L hL i j hedge' hj.1) fun k hk hjk => ?_
              rcases hj.2 k (hLm k hk) with (h | h) | h
              · exact h hjk
              · exact (hiL k hk).1 (Nat.eq_of_beq_eq_true h)
              · exact (hiL k hk).2 h) inv.other
            (fun i' hi' j' hj' => inv.dis i' j' (clAnc L hL i i' hedge' hi') (clAnc L hL i j' hedge' hj'))
            (fun j hj => inv.fresh j (clAnc L hL i j hedge' hj))
          have hblk : ∀ b ∈ blks g (U.getD i []), ∃ u, u ∈ U.getD i [] ∧ L.getD u false = true ∧ b ∈ g u := by
            intro b hb
            obtain ⟨u, hu, hbu⟩ := List.mem_flatMap.1 hb
            exact ⟨u, hu, clAnc L hL i u hedge' (hUs i him u hu), hbu⟩
          have hdo : ∀ k', oi.dst = some k' → k' < a.tmps.size := by
            intro k' hk'
            have hm' : oi ∈ l := List.mem_of_getElem? hoi
            simp only [dstOk, List.all_eq_true] at hd
            have := hd oi hm'
            rw [hk'] at this
            rw [g1]
            exact Nat.lt_of_succ_le (Nat.le_of_ble_eq_true this)
          have hdi : dstAt l i = oi.dst := by unfold dstAt; rw [hoi]; rfl
          -- the frame behind it
          have hfr : ∀ v t, (oi.dst ≠ some t) → rho (a.put oi.dst v) t = rho a t := by
            intro v t ht
            rw [rho_putO hdo]
            cases hdd : oi.dst with
            | none => rfl
            | some d =>
              show (bif Nat.beq t d then v else rho a t) = rho a t
              cases hb : Nat.beq t d with
              | false => rfl
              | true => exact absurd (by rw [hdd, Nat.eq_of_beq_eq_true hb]) ht
          have hfr2 : ∀ v d, oi.dst = some d → rho (a.put oi.dst v) d = v := by
            intro v d hdd
            rw [rho_putO hdo, hdd]
            show (bif Nat.beq d d then v else rho a d) = v
            rw [Nat.beq_refl]; rfl
          have step : ∀ v w' f, Chg (blks g (U.getD i [])) w w' → (∀ b ∈ f, (b ∈ blks g (U.getD i []) ∨ w.heap.size ≤ b) ∧ b < w'.heap.size) → (if s.b then s.V f w' (rho a) v else v = undef) →
              wpAny P .any l.toArray (fun e a' w' => a'.tmps.size = n ∧ a'.defers = [] ∧ Q e (rho a') w') fuel (L.setIfInBounds i true) (a.put oi.dst v) w' := by
            intro v w' f hC hf' hV
            have hslot : ∀ j', j' < m → j' ≠ i → ∀ t, dstAt l j' = some t → rho (a.put oi.dst v) t = rho a t := by
              intro j' hj' hne t ht
              refine hfr v t fun h => hne (hnd j' i t ?_ ?_)
              · rw [dstAt_take hj']; exact ht
              · rw [dstAt_take him, hdi]; exact h
            refine ih _ _ _ (fun j => if j = i then f else if j ∈ U.getD i [] then [] else g j) hcl hlm (by omega) (by rw [size_put]; exact g1) (by rw [defers_put]; exact g2)
              ⟨inv.chg.then hC fun b hb => (by obtain ⟨u, _, huL, hbu⟩ := hblk b hb; exact .inr (inv.fresh u huL b hbu).1), ?_, ?_, ?_, ?_⟩
            · intro j hj hal d hdj
              by_cases hji : j = i
              · subst hji
                rw [hs]
                simp only [if_pos]
                rw [hdi] at hdj
                rw [hfr2 v d hdj]
                split
                · rename_i hb
                  rw [if_pos hb] at hV
                  exact stable j s hs _ [] w' w' (rho a) _ v (Chg.refl _ _) (fun _ _ h => nomatch h) (fun j' hj' t ht => hslot j' (by have := (hanc j j' hj').1; omega) (by have := (hanc j j' hj').1; omega) t ht) hV
                · rename_i hb
                  rw [if_neg hb] at hV
                  exact hV
              · have hj2 := ((getSet L i j hL.1 hilt).1 hj).resolve_left hji
                have hjm := hLm j hj2
                have hju : j ∉ U.getD i [] := hal i ((getSet L i i hL.1 hilt).2 (.inl rfl))
                have hdd : oi.dst ≠ some d := by
                  intro h
                  apply hji
                  refine hnd j i d ?_ ?_
                  · rw [dstAt_take hjm]; exact hdj
                  · rw [dstAt_take him, hdi]; exact h
                have := inv.done j hj2 (fun k hk => hal k ((getSet L i k hL.1 hilt).2 (.inr hk))) d hdj
                rw [hfr v d hdd]
                have hg' : (fun j => if j = i then f else if j ∈ U.getD i [] then [] else g j) j = g j := by
                  show (if j = i then f else if j ∈ U.getD i [] then [] else g j) = g j
                  rw [if_neg hji, if_neg hju]
                rw [hg']
                cases hsj : S[j]? with
                | none => trivial
                | some sj =>
                  rw [hsj] at this
                  simp only [] at this ⊢
                  split
                  · rename_i hb
                    rw [if_pos hb] at this
                    refine stable j sj hsj _ _ _ _ (rho a) _ _ hC (fun b hb' hbk => ?_) (fun j' hj' t ht => hslot j' (by have := (hanc j j' hj').1; omega) (fun h => ?_) t ht) this
                    rotate_left
                    · subst h
                      have := clAnc L hL j j' (fun o' ho' e' he' => hL.2 j o' ho' hj2 e' he') hj'
                      rw [hiu] at this; cases this
                    obtain ⟨u, huU, huL, hbu⟩ := hblk b hbk
                    exact inv.dis j u hj2 huL (fun h => hju (h ▸ huU)) b hb' hbu
                  · rename_i hb
                    rw [if_neg hb] at this
                    exact this
            · intro t ht
              rw [hfr v t (fun h => ht i him (by rw [hdi]; exact h))]
              exact inv.other t ht
            · intro j hj b hb
              by_cases hji : j = i
              · simp only [if_pos hji] at hb
                have hh := hf' b hb
                have hsz := inv.chg.size
                rcases hh.1 with h | h
                · obtain ⟨u, _, huL, hbu⟩ := hblk b h
                  exact ⟨(inv.fresh u huL b hbu).1, hh.2⟩
                · exact ⟨by omega, hh.2⟩
              · have hj2 := ((getSet L i j hL.1 hilt).1 hj).resolve_left hji
                simp only [if_neg hji] at hb
                split at hb
                · cases hb
                · have := inv.fresh j hj2 b hb
                  have := hC.size
                  omega
            · have hone : ∀ j', (L.setIfInBounds i true).getD j' false = true → j' ≠ i → ∀ b ∈ f, b ∉ (if j' ∈ U.getD i [] then [] else g j') := by
                intro j' hj' e2 b hb hb'
                have hL' := ((getSet L i j' hL.1 hilt).1 hj').resolve_left e2
                split at hb'
                · cases hb'
                · rename_i hju
                  rcases (hf' b hb).1 with h | h
                  · obtain ⟨u, huU, huL, hbu⟩ := hblk b h
                    exact inv.dis u j' huL hL' (fun h => hju (h ▸ huU)) b hbu hb'
                  · have := inv.fresh j' hL' b hb'
                    omega
              intro i' j' hi' hj' hne b hb hb'
              by_cases e1 : i' = i
              · have e2 : j' ≠ i := fun h => hne (e1.trans h.symm)
                simp only [if_pos e1] at hb
                simp only [if_neg e2] at hb'
                exact hone j' hj' e2 b hb hb'
              · simp only [if_neg e1] at hb
                by_cases e2 : j' = i
                · simp only [if_pos e2] at hb'
                  exact hone i' hi' e1 b hb' hb
                · simp only [if_neg e2] at hb'
                  split at hb
                  · cases hb
                  · split at hb'
                    · cases hb'
                    · exact inv.dis i' j' (((getSet L i i' hL.1 hilt).1 hi').resolve_left e1) (((getSet L i j' hL.1 hilt).1 hj').resolve_left e2) hne b hb hb'
          cases hb : s.b with
          | true =>
            rw [if_pos hb] at ow
            refine .inl ⟨ow.1, OpW_mono ow.2 ?_⟩
            rintro v w' ⟨hC, f, hf', hV⟩
            exact step v w' f hC hf' (by rw [if_pos hb]; exact hV)
          | false =>
            rw [if_neg (by rw [hb]; exact Bool.false_ne_true)] at ow
            exact .inr ⟨ow, step undef w [] (Chg.refl _ _) (fun b h => nomatch h) (by rw [if_neg (by rw [hb]; exact Bool.false_ne_true)])⟩
        refine ⟨fun h => (by obtain ⟨i, hi⟩ := hsome; rw [h] at hi; cases hi), fun i hi => ?_⟩
        obtain ⟨q1, oi, hoi, hedge⟩ := rdy L i hi
        have hilt : i < l.length := (List.getElem?_eq_some_iff.1 hoi).1
        have hiu : L.getD i false = false := getD_both q1
        have him : i < m := by
          rcases Nat.lt_or_ge i m with h | h
          · exact h
          · have hj := hbig i h hilt j0 hj0
            have := clAnc L hL i j0 (fun o' ho' => by have : o' = oi := Option.some.inj (ho'.symm.trans hoi); subst this; exact hedge) hj
            rw [hu0] at this; cases this
        unfold wpOp
        rw [show (l.toArray)[i]? = some oi by simpa using hoi]
        simp only []
        rw [yl_eq (by rw [g1]; exact hd)]
        rcases main i oi him hoi hiu hedge with ⟨hw, h⟩ | ⟨hw, h⟩
        · rw [if_pos hw]
          exact .inl (h.wp fun v w' hv => hv)
        · rw [if_neg (by rw [hw]; exact Bool.false_ne_true)]
          exact h
  refine head _ _ a _ (fun _ => []) ⟨by simp, ?_⟩ ?_ ?_ h1 h2 ⟨Chg.drew _ _, ?_, ?_, ?_, ?_⟩
  · intro j o ho hj
    rw [getD_replicate_false] at hj; cases hj
  · intro j hj
    rw [getD_replicate_false] at hj; cases hj
  · simp
  · intro j hj
    rw [getD_replicate_false] at hj; cases hj
  · intro t _
    rw [h3]
  · intro j hj
    rw [getD_replicate_false] at hj; cases hj
  · intro i j hi
    rw [getD_replicate_false] at hi; cases hi

end
end Go.Li
namespace Go.Dk
open Go Go.Li
section
variable {R S : Type} {P : Program} {cx : Cx R} {K : Kont R S} {l tail : List Oper} {base fr : Fr} {w : World} {Z : Nat → Prop}
theorem nil_finq {mt id : Nat} {U : List (List Nat)} (hU : ((List.range mt).all fun i => (U.getD i []).all fun u => ((ancs l).getD i []).contains u) = true) (hh : hotB l mt base = true) (hm : P.follows .mixedOrders = true) (hd : dstOk cx.n l = true) (hA : anyqB l mt = true) (hml : mt ≤ l.length) (ht : tail = l.drop mt) {i : Nat} {sl : List (Nat × Nat × Value)} {ms : List MemD} {Γ : List Ent} {m : Option (Out S R)} (hsa : srcA ms = true) (hen : endB U sl ms = true)
    (h : ∀ x : Xof ms, D P cx (.p (allF sl (mF ms x)) (allE ms x) base Γ fun fr Γ => .tg true (hasG tail) l tail K Γ fr m)) : semA P cx K l mt U id base (.a [] [] i sl ms Γ m) := by
  rintro ⟨_, h2, h3⟩ B o ho r0 w0 ha hs ⟨S', hl, hR, hO⟩
  have hi : i = mt := by
    have := congrArg List.length h2
    simp at this
    omega
  subst hl
  refine W_anyq (S := S') (U := U) hm hd hA hml hi hU (fun i s hs => hR.s i s hs) (fun j hj => hO j (by omega)) ?_
  intro g r w hI
  have hused : ∀ k j, j ∈ U.getD k [] → (∀ p ∈ sl, p.1 ≠ j) ∧ ∀ a ∈ ms, a.j ≠ j := by
    intro k j hj
    unfold endB at hen
    rw [List.getD_eq_getElem?_getD] at hj
    cases hk : U[k]? with
    | none => rw [hk] at hj; exact absurd hj List.not_mem_nil
    | some us =>
      rw [hk] at hj
      have h1 := List.all_eq_true.1 (List.all_eq_true.1 hen us (List.mem_of_getElem? hk)) j hj
      rw [Bool.and_eq_true] at h1
      refine ⟨fun p hp he => ?_, fun a ha he => ?_⟩
      · have := List.all_eq_true.1 h1.1 p hp
        rw [he, Nat.beq_refl] at this
        cases this
      · have := List.all_eq_true.1 h1.2 a ha
        rw [he, Nat.beq_refl] at this
        cases this
  have hD : ∀ j, j < mt → (∀ k, j ∉ U.getD k []) → Done l S' j g r w := fun j hj hn => hI.done j hj fun k _ => hn k
  have hlt : ∀ a ∈ ms, a.j < mt := fun a ha => hi ▸ (List.getElem?_eq_some_iff.1 (hR.m a ha).1).1
  obtain ⟨x, hx, hxl, hxn⟩ := pickA (g := g) (r := r) (w := w) hsa hR.d (fun a ha b hb hab => hI.dis _ _ (hlt a ha) (hlt b hb) hab) fun a ha => by
    have e1 := hR.m a ha
    have e2 := hD a.j (hlt a ha) (fun k hk => (hused k _ hk).2 a ha rfl) a.d e1.2
    rw [e1.1] at e2
    exact e2
  obtain ⟨Z, F, hS, hG⟩ := hs
  have hG2 := hG.keep0 hI.chg
  have hfr : ∀ b ∈ allB g ms, w0.heap.size ≤ b := fun b hb => by
    obtain ⟨a, h1, h2⟩ := allB_mem hb
    exact (hI.fresh a.j (hlt a h1) b h2).1
  obtain ⟨F', hp, hS2⟩ := (hxl.up (Z := Z)).build (hS.keep0 hI.chg)
  have hG3 : Gd B Z (allB g ms ++ F) w := by
    refine ⟨nodup_app hxn hG2.nd fun b hb hF => Nat.lt_irrefl _ (Nat.lt_of_lt_of_le (hS.lt b hF) (hfr b hb)), ?_, hG2.zlt, ?_, hG2.zup, hG2.zlow, hG2.chg⟩
    · intro b hb hz
      rcases List.mem_append.1 hb with hb | hb
      · exact Nat.lt_irrefl _ (Nat.lt_of_lt_of_le (hG.zlt b hz) (hfr b hb))
      · exact hG2.apart b hb hz
    · intro b hb
      rcases List.mem_append.1 hb with hb | hb
      · exact .inr (Nat.le_trans hG.chg.size (hfr b hb))
      · exact hG2.low b hb
  have hagr : agr r ((allF sl (mF ms x)).reverse ++ base) := by
    refine agr_rev (allF_all (fun p hp => ?_) hx) (agr_base hh ha hI.other)
    have e1 := hR.v p hp
    have e2 := hD p.1 (hi ▸ (List.getElem?_eq_some_iff.1 e1.1).1) (fun k hk => (hused k _ hk).1 p hp rfl) p.2.1 e1.2
    rw [e1.1] at e2
    exact e2
  have := (h x).sound B o ho r w hagr ⟨Z, F', hS2, hG3.perm hp⟩
  rw [ht] at this
  exact this
/-- a drawn region: its head in any order, its tail quiet -/
theorem anyq {id : Nat} (mt : Nat) (U as : List (List Nat)) {ops : List Oper} {Γ : List Ent} {fr : Fr} {m : Option (Out S R)}
    (hB : (P.follows .mixedOrders && dstOk cx.n l && anyqB l mt && Nat.ble mt l.length && (visl l U mt == as) && ((List.range mt).all fun i => (U.getD i []).all fun u => ((ancs l).getD i []).contains u)) = true)
    (ho : ops = l.take mt) (ht : tail = l.drop mt) (hf : Kp (dsts ops) none fr base) (hh : hotB l mt base = true)
    (h : AD true P cx K l tail base U (.a as ops 0 [] [] Γ m)) : Bx (sem P cx (.dr id l K Γ fr m)) := by
  simp only [Bool.and_eq_true] at hB
  obtain ⟨⟨⟨⟨⟨b1, b2⟩, b3⟩, b5⟩, b6⟩, b7⟩ := hB
  rw [bx_eq]
  intro B o hm r w ha hs
  refine AD.sound (id := id) hh (fun _ _ _ _ _ hs he h => nil_finq b7 hh b1 b2 b3 (Nat.le_of_ble_eq_true b5) ht hs he h) h
    ⟨by rw [List.drop_zero]; exact (eq_of_beq b6).symm, by rw [List.drop_zero]; exact ho, Nat.zero_le _⟩ B o hm r w (hf.sound ha) hs ⟨[], rfl, ⟨fun _ h => absurd h List.not_mem_nil, fun _ h => absurd h List.not_mem_nil, fun i s h => by simp at h, List.nodup_nil⟩, fun j hj => absurd hj (Nat.not_lt_zero j)⟩
end
end Go.Dk
namespace Go.Dk
open Go Go.Li

def blk : Value → Option Nat
  | .slice (some a) _ _ => some a.block
  | _ => none
/-- elements that lean on nothing -/
def NF {α : Type} (E : STy α) : Prop := ∀ {h : Array Obj} {cs : List Value} {x : α} {f : List Nat}, E.rep h cs x f → f = []
theorem NF.i {k : IntKind} : NF (sInt k) := sInt_nofp
theorem NF.l {α : Type} {E : STy α} (hE : NF E) {h : Array Obj} : ∀ {xs : List α} {cs : List Value} {f : List Nat}, repL E h cs xs f → f = [] := by
  intro xs
  induction xs with
  | nil => rintro cs f ⟨_, rfl⟩; rfl
  | cons x xs ih =>
    rintro cs f ⟨c, cs', f1, f2, rfl, rfl, h1, h2⟩
    rw [hE h1, ih h2]; rfl
/-- what is known of rows: they lie in f, each block under one datum -/
structure Good {α : Type} (A : Value → α → Prop) (f : List Nat) : Prop where
  sub : ∀ u y b, A u y → blk u = some b → b ∈ f
  one : ∀ u y u' y' b, A u y → A u' y' → blk u = some b → blk u' = some b → y = y'
/-- slices of slices, opened -/
inductive Opn {α : Type} : {β : Type} → STy β → ((Value → List α → Prop) → STy β) → Prop
  | row {e : TypeId} {E : STy α} : Opn (sOwn e E) (fun A => sIn A (sOwn e E))
  | step {β : Type} {e : TypeId} {T : STy β} {T' : (Value → List α → Prop) → STy β} (h : Opn T T') : Opn (sOwn e T) (fun A => sImm (T' A))
section
variable {α β : Type} {T : STy β} {T' : (Value → List α → Prop) → STy β} {A A' : Value → List α → Prop} {f : List Nat} {hp : Array Obj}
theorem Opn.size (h : Opn T T') : (T' A).size = T.size := by
  cases h <;> rfl
theorem Opn.mono (h : Opn T T') (hA : ∀ u y, A u y → A' u y) : Le (T' A) (T' A') := by
  induction h with
  | row => exact ⟨rfl, fun h => ⟨h.1.imp fun v g => ⟨g.1, hA _ _ g.2⟩, h.2⟩⟩
  | step _ ih => exact ih.imm
theorem Opn.openL {e : TypeId} (ho : ∀ {cs : List Value} {x : β} {f : List Nat}, T.rep hp cs x f → f.Nodup → ∃ A, Good A f ∧ (T' A).rep hp cs x f) (hm : ∀ {A A' : Value → List α → Prop}, (∀ u y, A u y → A' u y) → Le (T' A) (T' A')) :
    ∀ {xs : List β} {cs : List Value} {f : List Nat}, repL T hp cs xs f → f.Nodup → ∃ A, Good A f ∧ repL (T' A) hp cs xs f := by
  have _ := e
  intro xs
  induction xs with
  | nil => rintro cs f ⟨rfl, rfl⟩ _; exact ⟨fun _ _ => False, ⟨fun _ _ _ h => h.elim, fun _ _ _ _ _ h => h.elim⟩, rfl, rfl⟩
  | cons x xs ih =>
    rintro cs f ⟨c, cs', f1, f2, rfl, rfl, h1, h2⟩ hn
    obtain ⟨n1, n2, n3⟩ := List.nodup_append.1 hn
    obtain ⟨A1, g1, r1⟩ := ho h1 n1
    obtain ⟨A2, g2, r2⟩ := ih h2 n2
    refine ⟨fun u y => A1 u y ∨ A2 u y, ⟨fun u y b h hb => ?_, fun u y u' y' b h h' hb hb' => ?_⟩, c, cs', f1, f2, rfl, rfl, (hm fun _ _ => .inl).le r1, repL_le (hm fun _ _ => .inr) r2⟩
    · exact h.elim (fun h => List.mem_append_left _ (g1.sub u y b h hb)) (fun h => List.mem_append_right _ (g2.sub u y b h hb))
    · rcases h with h | h <;> rcases h' with h' | h'
      · exact g1.one u y u' y' b h h' hb hb'
      · exact absurd rfl (n3 b (g1.sub _ _ _ h hb) b (g2.sub _ _ _ h' hb'))
      · exact absurd rfl (n3 b (g1.sub _ _ _ h' hb') b (g2.sub _ _ _ h hb))
      · exact g2.one u y u' y' b h h' hb hb'
theorem Opn.opened (h : Opn T T') : ∀ {cs : List Value} {x : β} {f : List Nat}, T.rep hp cs x f → f.Nodup → ∃ A, Good A f ∧ (T' A).rep hp cs x f := by
  induction h with
  | @row e E =>
    intro cs x f hr _
    obtain ⟨base, cap, rfl, hr'⟩ := id hr
    refine ⟨fun u y => u = .slice base x.length cap ∧ y = x, ⟨?_, ?_⟩, ⟨_, rfl, rfl, rfl⟩, hr⟩
    · rintro u y b ⟨rfl, rfl⟩ hb
      rcases hr' with ⟨rfl, _⟩ | ⟨b0, cur, f', rfl, _, rfl, _⟩
      · cases hb
      · cases hb; exact List.mem_cons_self
    · rintro u y u' y' b ⟨_, rfl⟩ ⟨_, rfl⟩ _ _; rfl
  | @step β e T T' ho ih =>
    intro cs x f hr hn
    obtain ⟨base, cap, rfl, hr'⟩ := hr
    rcases hr' with ⟨rfl, _, rfl, rfl⟩ | ⟨b, cur, f', rfl, hg, rfl, h3, h4, h5, h6⟩
    · exact ⟨fun _ _ => False, ⟨fun _ _ _ h => h.elim, fun _ _ _ _ _ h => h.elim⟩, none, cap, rfl, .inl ⟨rfl, rfl⟩⟩
    · obtain ⟨A, g1, g2⟩ := Opn.openL (e := e) ih (fun hA => ho.mono hA) h6 (List.nodup_cons.1 hn).2
      refine ⟨A, ⟨fun u y b h hb => List.mem_cons_of_mem _ (g1.sub u y b h hb), g1.one⟩, _, cap, rfl, .inr ⟨b, 0, cur, e, (0, 0), f', rfl, hg, rfl, ?_⟩⟩
      rw [List.drop_zero, ho.size]
      exact g2
end
section
variable {α : Type} {e e' : TypeId} {E : STy α} {A : Value → List α → Prop} {ft f : List Nat} {hp : Array Obj}
theorem close_rows (nf : NF E) (hA : Good A ft) : ∀ {ys : List (List α)} {us : List Value} {g : List Nat}, repL (sIn A (sOwn e' E)) hp us ys g → ys.Nodup →
    repL (sOwn e' E) hp us ys g ∧ g.Nodup ∧ ∀ b ∈ g, b ∈ ft ∧ ∃ u y, A u y ∧ blk u = some b ∧ y ∈ ys := by
  intro ys
  induction ys with
  | nil => rintro us g ⟨rfl, rfl⟩ _; exact ⟨⟨rfl, rfl⟩, List.nodup_nil, fun b hb => absurd hb List.not_mem_nil⟩
  | cons y ys ih =>
    rintro us g ⟨c, cs', g1, g2, rfl, rfl, ⟨⟨u, rfl, hu⟩, hr⟩, h2⟩ hn
    obtain ⟨n1, n2⟩ := List.nodup_cons.1 hn
    obtain ⟨a1, a2, a3⟩ := ih h2 n2
    refine ⟨⟨[u], cs', g1, g2, rfl, rfl, hr, a1⟩, ?_, ?_⟩
    · obtain ⟨base, cap, hv, hr'⟩ := hr
      obtain rfl : u = .slice base y.length cap := by simpa using hv
      rcases hr' with ⟨_, _, _, rfl⟩ | ⟨b, cur, f', rfl, _, rfl, _, _, _, h6⟩
      · exact a2
      · rw [nf.l h6]
        refine List.nodup_cons.2 ⟨fun hb => ?_, a2⟩
        obtain ⟨_, u', y', h7, h8, h9⟩ := a3 b hb
        rw [hA.one _ _ _ _ b hu h7 rfl h8] at n1
        exact n1 h9
    · intro b hb
      rcases List.mem_append.1 hb with hb | hb
      · obtain ⟨base, cap, hv, hr'⟩ := hr
        obtain rfl : u = .slice base y.length cap := by simpa using hv
        rcases hr' with ⟨_, _, _, rfl⟩ | ⟨b0, cur, f', rfl, _, rfl, _, _, _, h6⟩
        · cases hb
        · rw [nf.l h6, List.mem_singleton] at hb
          subst hb
          exact ⟨hA.sub _ _ _ hu rfl, _, y, hu, rfl, by simp⟩
      · obtain ⟨b1, u', y', b2, b3, b4⟩ := a3 b hb
        exact ⟨b1, u', y', b2, b3, by simp [b4]⟩
theorem close_own {Z : Nat → Prop} {w : World} {v : Value} {ys : List (List α)} (nf : NF E) (hA : Good A ft) (ho : owns Z w f (.om e (sIn A (sOwn e' E)) v ys)) (hn : ys.Nodup) (hf : f.Nodup) (hz : ∀ b ∈ f, ¬ Z b) :
    ∃ g, (∀ b ∈ g, b ∈ ft) ∧ (sOwn e (sOwn e' E)).rep w.heap [v] ys (f ++ g) ∧ (f ++ g).Nodup := by
  obtain ⟨us, g, h1, h2, h3, _⟩ := ho
  obtain ⟨a1, a2, a3⟩ := close_rows nf hA h2 hn
  have hl : us.length = ys.length := by have := repL_len a1; rw [this]; exact Nat.mul_one _
  refine ⟨g, fun b hb => (a3 b hb).1, ?_, List.nodup_append.2 ⟨hf, a2, fun b hb c hc => fun e => hz b hb (h3 b (e ▸ hc))⟩⟩
  obtain ⟨base, cap, hv, hr⟩ := h1
  obtain rfl : v = .slice base us.length cap := by simpa using hv
  rw [hl]
  rcases hr with ⟨rfl, rfl, rfl, rfl⟩ | ⟨b, cur, f', rfl, hg, rfl, c1, c2, c3, c4⟩
  · cases ys with
    | cons y ys => simp at hl
    | nil => obtain ⟨_, rfl⟩ := a1; exact ⟨none, 0, rfl, .inl ⟨rfl, rfl, rfl, rfl⟩⟩
  · obtain ⟨c5, rfl⟩ := repL_val c4
    refine ⟨_, cap, rfl, .inr ⟨b, cur, g, rfl, hg, rfl, by rw [← hl]; exact c1, c2, c3, ?_⟩⟩
    have e1 : (sOwn e' E).size = sVal.size := rfl
    rw [e1, ← hl, c5]
    exact a1
end
/-- a contract that reads an opened slice of slices and gives some of its rows: it takes the slice, and what it gives is one's own -/
theorem ct_open {P : Program} {fn : FuncId} {o : Bool} {args : List Value} {α β : Type} [DecidableEq (List α)] {T : STy β} {T' : (Value → List α → Prop) → STy β} {vs : Value} {x : β} {Δ : List Ent} {e e' : TypeId} {E : STy α} {m : Option (List (List α))} (ho : Opn T T') (nf : NF E)
    (h : ∀ A : Value → List α → Prop, Ct P fn o m args (.rd false (T' A) vs x :: Δ) (fun _ (v : Value) => [v]) (fun y v => [.om e (sIn A (sOwn e' E)) v y])) :
    Ct P fn true (m >>= fun y => ndR y >>= fun _ => some y) args (.own T vs x :: Δ) (fun _ (v : Value) => [v]) (fun y v => [.own (sOwn e (sOwn e' E)) v y]) := by
  rw [ct_eq]
  refine ⟨fun _ _ _ => rfl, ?_⟩
  intro w Z F hh hnd hap hlt y hy
  obtain ⟨y', hm, hy⟩ := bind_some hy
  obtain ⟨_, hn, hy⟩ := bind_some hy
  cases hy
  replace hn := ndR_some hn
  cases hh with
  | fact h _ => exact h.elim
  | @own _ ft F2 _ h1 h2 =>
    obtain ⟨n1, n2, n3⟩ := List.nodup_append.1 hnd
    obtain ⟨A, hA, hR⟩ := ho.opened (hp := w.heap) h1 n1
    have hc := h A
    rw [ct_eq] at hc
    have hfl : ∀ b ∈ ft, b < w.heap.size := STy.lt _ h1
    refine (hc.2 w (fun b => Z b ∨ b ∈ ft) F2 (.fact ⟨ft, hR, fun b hb => .inr hb⟩ (h2.mono fun _ => .inl)) n2 (fun b hb => ?_) (fun b hb => hb.elim (hlt b) (hfl b)) y hm).mono ?_
    · rintro (hz | hz)
      · exact hap b (List.mem_append_right _ hb) hz
      · exact n3 b hz b hb rfl
    · rintro en w' ⟨v, he, Z2, F', hl, hg⟩
      cases hl with
      | fact h _ => exact h.elim
      | @own _ f F3 _ k1 k2 =>
        cases k2
        rw [List.append_nil] at hg
        obtain ⟨g, s1, s2, s3⟩ := close_own nf hA k1 hn hg.nd hg.apart
        refine ⟨v, he, Z, (f ++ g) ++ [], .own s2 .nil, ?_⟩
        rw [List.append_nil]
        refine ⟨s3, fun b hb hz => ?_, fun b hz => hg.zlt b (hg.zup b (.inl hz)), fun b hb => ?_, fun _ h => h, fun _ h => .inl h, ?_⟩
        · rcases List.mem_append.1 hb with hb | hb
          · exact hg.apart b hb (hg.zup b (.inl hz))
          · exact hap b (List.mem_append_left _ (s1 b hb)) hz
        · rcases List.mem_append.1 hb with hb | hb
          · exact (hg.low b hb).imp (List.mem_append_right _) id
          · exact .inl (List.mem_append_left _ (s1 b hb))
        · exact ⟨hg.chg.os, hg.chg.tape, hg.chg.output, hg.chg.drawn, hg.chg.size, fun b hb hn => hg.chg.block b hb fun hm => hn (List.mem_append_right _ hm)⟩
section
variable {P : Program} {R : Type} {cx : Cx R}
/-- a loop that moves rows -/
theorem loopM {S S1 α β : Type} [DecidableEq (List α)] (k t0 : Nat) (φ : S1 → Value → Fr) (sel : S1 → List (List α)) (v0 : Value) (f2 : Fr) {e e' : TypeId} {E : STy α} {T : STy β} {T' : (Value → List α → Prop) → STy β} {vs : Value} {x : β} {its : List KI} {kb : Kb R S} {c : Code} {s0 : S1} {body : S1 → Option (Out S1 R)} {f : S1 → Option (Out S R)} {Γ Γ1 Γ2 : List Ent} {fr : Fr}
    (ho : Opn T T') (nf : NF E) (ha : Agr fr (φ s0 v0)) (hf : Agr fr f2) (hz : sel s0 = []) (hv : look fr t0 = some vs) (h1 : Sel Γ (.own T vs x) Γ1) (h2 : ∀ A : Value → List α → Prop, Sel Γ1 (.om e (sIn A (sOwn e' E)) v0 []) Γ2)
    (hb : ∀ (A : Value → List α → Prop) s v, D P cx (.p (φ s v) [.om e (sIn A (sOwn e' E)) v (sel s)] f2 [.rd false (T' A) vs x] fun fr Γ => .c ⟨[], .loop Value k (fun s v => [.om e (sIn A (sOwn e' E)) v (sel s)]) φ [.rd false (T' A) vs x] f2⟩ c Γ fr (body s)))
    (hk : ∀ s v, D P cx (.p (φ s v) [.own (sOwn e (sOwn e' E)) v (sel s)] f2 [] fun fr Γ => .mn ⟨its, kb⟩ Γ fr (f s))) :
    Bx (sem P cx (.bk true k ⟨its, kb⟩ (.loop c) Γ fr (lbind (blockM k (loopM body s0)) fun s => ndR (sel s) >>= fun _ => f s))) := by
  have _ := hv
  rw [bx_eq]
  intro B o hoo r w hag hst
  obtain ⟨Z, F, hS, hG⟩ := hst
  obtain ⟨ft, F1, hp1, hT, hS1⟩ := h1.sound hS
  have hG1 := hG.perm hp1
  obtain ⟨n1, n2, n3⟩ := List.nodup_append.1 hG1.nd
  obtain ⟨A, hA, hR⟩ := ho.opened (hp := w.heap) hT n1
  obtain ⟨fo, F2, hp2, hO, hS2⟩ := (h2 A).sound hS1
  have hfl : ∀ b ∈ ft, b < w.heap.size := STy.lt _ hT
  have hfz : ∀ b ∈ ft, ¬ Z b := fun b hb => hG1.apart b (List.mem_append_left _ hb)
  have hm1 : ∀ b ∈ fo, b ∈ F1 := fun b hb => hp2.mem_iff.1 (List.mem_append_left _ hb)
  have hno : fo.Nodup := (List.nodup_append.1 (hp2.nodup_iff.2 n2)).1
  refine W_for (T := TT P cx B) (LI B (fun s v => [.om e (sIn A (sOwn e' E)) v (sel s)]) φ [.rd false (T' A) vs x] f2) hoo
    ⟨v0, agr_rev (ha.all hag) (hf.sound hag), fun b => Z b ∨ b ∈ ft, fo, ⟨fo, [], (List.append_nil _).symm, by rw [hz]; exact hO.mono fun _ => .inl, ⟨ft, hR, fun b hb => .inr hb⟩, rfl⟩, hno, fun b hb => ?_, fun b hb => hb.elim (hG.zlt b) (hfl b), fun b hb => hG1.low b (List.mem_append_right _ (hm1 b hb)), fun b h => .inl (hG.zup b h), fun b hb => hb.elim (hG.zlow b) fun hb => .inr (hG1.low b (List.mem_append_left _ hb)), hG.chg⟩ ?_ ?_ ?_
  · rintro (h | h)
    · exact hG1.apart b (List.mem_append_right _ (hm1 b hb)) h
    · exact n3 b h b (hm1 b hb) rfl
  · intro x r w he hx
    subst he
    exact postK_ret hx
  · rintro s r w ⟨v, h1, h2⟩ o ho
    exact (hb A s v).sound B o ho r w h1 h2
  · rintro s r w' ⟨v, a1, Z2, Fl, hS', hG'⟩ hm
    obtain ⟨_, hn, hm⟩ := bind_some hm
    replace hn := ndR_some hn
    obtain ⟨f', F', rfl, hom, hrest⟩ := hS'
    have hF' : F' = [] := hrest.2
    subst hF'
    rw [List.append_nil] at hG'
    obtain ⟨g, s1, s2, s3⟩ := close_own nf hA hom hn hG'.nd hG'.apart
    refine (hk s v).sound B o hm r w' a1 ⟨B.Z, f' ++ g, ⟨f' ++ g, [], (List.append_nil _).symm, s2, rfl⟩, s3, fun b hb hz => ?_, fun b hz => hG'.zlt b (hG'.zup b hz), fun b hb => ?_, fun _ h => h, fun _ h => .inl h, hG'.chg⟩
    · rcases List.mem_append.1 hb with hb | hb
      · exact hG'.apart b hb (hG'.zup b hz)
      · exact hfz b (s1 b hb) (hG.zup b hz)
    · rcases List.mem_append.1 hb with hb | hb
      · exact hG'.low b hb
      · exact hG1.low b (List.mem_append_left _ (s1 b hb))
end
end Go.Dk
namespace Go.Dk
open Go Go.Li
theorem owns_oe {w : World} {α : Type} {T : STy α} {v : Value} {x : α} {f : List Nat} (h : T.rep w.heap [v] x f) (hn : f.Nodup) : OE f w.heap.size w T [v] x f := ⟨h, hn, fun _ hb => .inl hb⟩
/-- a slice of one's own that is written in place -/
theorem ct_inout {P : Program} {K : FuncId} {g v : Value} {α : Type} {T : STy α} {x : α} {m : α → Option α}
    (h : ∀ {w : World} {f : List Nat}, OE f w.heap.size w T [v] x f → ∀ {y : α}, m x = some y → Calls P K #[v, g] w fun e w' => ∃ f0, e = .returned (.tuple #[]) ∧ Chg f w w' ∧ OE f w.heap.size w' T [v] y f0) :
    Ct P K true (m x) [v, g] [.own T v x] (fun _ (_ : Unit) => []) (fun y _ => [.own T v y]) := by
  rw [ct_eq]
  refine ⟨fun _ _ _ => rfl, ?_⟩
  intro w Z F hh hnd hap hlt y hy
  cases hh with
  | fact h _ => exact h.elim
  | @own _ f F1 _ h1 h2 =>
    cases h2
    rw [List.append_nil] at hnd hap ⊢
    refine (h (owns_oe h1 hnd) hy).mono ?_
    rintro e w' ⟨f0, he, hC, hO⟩
    refine ⟨(), he, Z, f0 ++ [], .own hO.1 .nil, ?_⟩
    rw [List.append_nil]
    refine ⟨hO.2.1, fun b hb hz => ?_, fun b hb => Nat.lt_of_lt_of_le (hlt b hb) hC.size, hO.2.2, fun _ h => h, fun _ h => .inl h, hC⟩
    rcases hO.2.2 b hb with h | h
    · exact hap b h hz
    · exact Nat.lt_irrefl _ (Nat.lt_of_lt_of_le (hlt b hz) h)
/-- a slice that is read, copied -/
theorem ct_copy {P : Program} {K : FuncId} {v : Value} {α β : Type} {T : STy α} {T' : STy β} {x : α} {m : α → Option β}
    (h : ∀ {w : World} {f : List Nat}, T.rep w.heap [v] x f → ∀ {y : β}, m x = some y → Calls P K #[v] w fun e w' => ∃ (v0 : Value) (f0 : List Nat), e = .returned v0 ∧ Chg [] w w' ∧ OE [] w.heap.size w' T' [v0] y f0) :
    Ct P K true (m x) [v] [.rd false T v x] (fun _ v => [v]) (fun y v => [.own T' v y]) := by
  rw [ct_eq]
  refine ⟨fun _ _ _ => rfl, ?_⟩
  intro w Z F hh hnd hap hlt y hy
  cases hh with
  | own h _ => exact h.elim
  | fact h1 h2 =>
    cases h2
    obtain ⟨g, hr, hg⟩ := h1
    refine (h hr hy).mono ?_
    rintro e w' ⟨v0, f0, he, hC, hO⟩
    refine ⟨v0, he, Z, f0 ++ [], .own hO.1 .nil, ?_⟩
    rw [List.append_nil]
    refine ⟨hO.2.1, fun b hb hz => ?_, fun b hb => Nat.lt_of_lt_of_le (hlt b hb) hC.size, hO.2.2, fun _ h => h, fun _ h => .inl h, hC⟩
    exact absurd (hlt b hz) (Nat.not_lt.2 ((hO.2.2 b hb).resolve_left List.not_mem_nil))
/-- a call that only reads -/
theorem ct_read {P : Program} {g : FuncId} {vs : List Value} {Δ : List Ent} {β : Type} {m : Option β} {ow : Bool} {rt : β → Unit → List Value} (hc : Ct P g ow m vs Δ rt (fun _ _ => [])) {w : World} (hl : HL (fun b => b < w.heap.size) w Δ []) {y : β} (hy : m = some y) :
    Calls P g vs.toArray w fun e w' => e = .returned (tupv (rt y ())) ∧ Chg [] w w' := by
  rw [ct_eq] at hc
  refine (hc.2 w _ [] hl List.nodup_nil (fun _ h => absurd h List.not_mem_nil) (fun _ h => h) y hy).mono ?_
  rintro e w' ⟨_, he, Z, F, _, hg⟩
  exact ⟨he, hg.chg⟩
theorem fact_rd {w : World} {α : Type} {T : STy α} {v : Value} {x : α} {f : List Nat} (h : T.rep w.heap [v] x f) : fact (fun b => b < w.heap.size) w [] (.rd false T v x) := ⟨f, h, fun b hb => T.lt h b hb⟩
end Go.Dk
