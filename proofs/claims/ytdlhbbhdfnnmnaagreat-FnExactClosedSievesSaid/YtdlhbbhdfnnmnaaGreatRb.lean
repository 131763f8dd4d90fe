/- Marks of sieves: read, put; whether the marked sieves are the covers of a topology, by the reference and by the program. No condition beside those that each theorem names. -/
import Derived.Test.YtdlhbbhdfnnmnaaGreatRa
namespace Go.Li
open Go
section
variable {S S1 R α : Type} {body : S1 → Option (Out S1 R)}
/-- a loop over a list that keeps a relation -/
theorem for_loop {k : Nat} (l : List α) (J : Nat → S1 → Prop) {s0 : S1} (h0 : J 0 s0) (step : ∀ i x s, l[i]? = some x → J i s → ∃ s', body s = some (.norm s') ∧ J (i + 1) s')
    (last : ∀ s, J l.length s → ∃ e, body s = some (.exit k e) ∧ J l.length e) : ∃ e, J l.length e ∧ loopM body s0 = some (.exit k e) := by
  have key : ∀ (m : List α) (i : Nat) (s : S1), l.drop i = m → i ≤ l.length → J i s → ∃ e, J l.length e ∧ loopM body s = some (.exit k e) := by
    intro m
    induction m with
    | nil =>
      intro i s hd hi hs
      have : i = l.length := by have := congrArg List.length hd; simp at this; omega
      subst this
      obtain ⟨e, h1, h2⟩ := last s hs
      exact ⟨e, h2, loopM_exit h1⟩
    | cons x m ih =>
      intro i s hd hi hs
      have hlt : i < l.length := by
        rcases Nat.lt_or_ge i l.length with h | h
        · exact h
        · rw [List.drop_eq_nil_of_le h] at hd; cases hd
      rw [List.drop_eq_getElem_cons hlt] at hd
      have hx : l[i]? = some x := by rw [List.getElem?_eq_getElem hlt]; exact congrArg some (List.cons.inj hd).1
      obtain ⟨s', h1, h2⟩ := step i x s hx hs
      obtain ⟨e, h3, h4⟩ := ih (i + 1) s' (List.cons.inj hd).2 hlt h2
      exact ⟨e, h3, by rw [loopM_eq, h1]; exact h4⟩
  exact key l 0 s0 rfl (Nat.zero_le _) h0
theorem for_inv {k : Nat} {f : S1 → Option (Out S R)} (l : List α) (J : Nat → S1 → Prop) {s0 : S1} (h0 : J 0 s0) (step : ∀ i x s, l[i]? = some x → J i s → ∃ s', body s = some (.norm s') ∧ J (i + 1) s')
    (last : ∀ s, J l.length s → ∃ e, body s = some (.exit k e) ∧ J l.length e) : ∃ e, J l.length e ∧ lbind (blockM k (loopM body s0)) f = f e := by
  obtain ⟨e, h1, h2⟩ := for_loop l J h0 step last
  exact ⟨e, h1, lb_exit h2⟩
end
end Go.Li
namespace Go.Proofs.YtdlhbbhdfnnmnaaGreat
open Go Go.Li

/-- the place of a member -/
theorem place_some {L : List (List Int)} {s : List Int} (h : s ∈ L) : ∃ j : Nat, placeS L s = (j : Int) ∧ L[j]? = some s := by
  obtain ⟨j, x, h1, h2, h3⟩ := ixF_some (p := fun y => y == s) (l := L) (i := 0) ⟨s, h, by simp⟩
  refine ⟨j, by unfold placeS; rw [h1, Nat.zero_add], ?_⟩
  rw [h2]; simp at h3; rw [h3]
theorem at_mark {L : List (List Int)} {s : List Int} (q : List Int → Bool) (h : s ∈ L) : idx (L.map q) (placeS L s) = some (q s) := by
  obtain ⟨j, h1, h2⟩ := place_some h
  rw [h1, idx_nat, List.getElem?_map, h2]; rfl
theorem nodup_inj {α : Type} {L : List α} {i j : Nat} {x : α} (hn : L.Nodup) (h1 : L[i]? = some x) (h2 : L[j]? = some x) : i = j := by
  obtain ⟨hi, e1⟩ := List.getElem?_eq_some_iff.1 h1
  obtain ⟨hj, e2⟩ := List.getElem?_eq_some_iff.1 h2
  rcases Nat.lt_trichotomy i j with h | h | h
  · exact absurd (e1.trans e2.symm) (List.pairwise_iff_getElem.1 hn i j hi hj h)
  · exact h
  · exact absurd (e2.trans e1.symm) (List.pairwise_iff_getElem.1 hn j i hj hi h)
theorem place_at {L : List (List Int)} {s : List Int} {i : Nat} (hn : L.Nodup) (h : L[i]? = some s) : placeS L s = (i : Int) := by
  obtain ⟨j, h1, h2⟩ := place_some (List.mem_of_getElem? h)
  rw [h1, nodup_inj hn h2 h]
theorem set_mark {L : List (List Int)} {s : List Int} (hn : L.Nodup) (q : List Int → Bool) (h : s ∈ L) : (L.map q).set (placeS L s).toNat true = L.map fun t => q t || t == s := by
  obtain ⟨j, h1, h2⟩ := place_some h
  rw [h1, Int.toNat_natCast]
  apply List.ext_getElem?
  intro i
  rw [List.getElem?_set, List.getElem?_map, List.getElem?_map]
  have hj := (List.getElem?_eq_some_iff.1 h2).1
  by_cases e : j = i
  · subst e
    rw [if_pos rfl, h2]; simp [hj]
  · rw [if_neg e]
    cases hi : L[i]? with
    | none => rfl
    | some t =>
      have : t ≠ s := by
        rintro rfl
        exact e (nodup_inj hn h2 hi)
      simp [this]
def put (p : Int → List Int → Bool) (x : Int) (s : List Int) : Int → List Int → Bool := fun y t => p y t || (y == x && t == s)
/-- the sieves of a topology that are among its covers -/
def covB (cov : List (List (List Int))) : Int → List Int → Bool := fun x s => (gl cov x).contains s
theorem idx_marks {ls : List (List (List Int))} {p : Int → List Int → Bool} {x : Int} (h0 : 0 ≤ x) (h1 : x < ls.length) : idx (marksP ls p) x = some ((gl ls x).map (p x)) := by
  rw [idx_gl h0 (by rw [marks_length]; exact h1), gl_marks h0 h1]
theorem put_marks {ls : List (List (List Int))} {p : Int → List Int → Bool} {x : Int} {s : List Int} (h0 : 0 ≤ x) (h1 : x < ls.length) (hn : (gl ls x).Nodup) (hs : s ∈ gl ls x) :
    (marksP ls p).set x.toNat (((gl ls x).map (p x)).set (placeS (gl ls x) s).toNat true) = marksP ls (put p x s) := by
  rw [set_mark hn (p x) hs]
  apply List.ext_getElem?
  intro i
  rw [List.getElem?_set]
  by_cases e : x.toNat = i
  · subst e
    have hx : x.toNat < ls.length := by omega
    rw [if_pos rfl, marks_length, if_pos hx]
    unfold marksP
    rw [mapI_get _ hx]
    have : ((x.toNat : Nat) : Int) = x := by omega
    rw [this]
    congr 1
    apply List.map_congr_left
    intro t _
    unfold put; simp
  · rw [if_neg e]
    rcases Nat.lt_or_ge i ls.length with hi | hi
    · unfold marksP
      rw [mapI_get _ hi, mapI_get _ hi]
      congr 1
      apply List.map_congr_left
      intro t _
      unfold put
      have : ((i : Int) == x) = false := beqF (by omega)
      rw [this]; simp
    · rw [List.getElem?_eq_none (by rw [marks_length]; exact hi), List.getElem?_eq_none (by rw [marks_length]; exact hi)]
theorem put_same {ls : List (List (List Int))} {p : Int → List Int → Bool} {x : Int} {s : List Int} (h : p x s = true) : marksP ls (put p x s) = marksP ls p := by
  refine mapI_congr fun i _ => List.map_congr_left fun t _ => ?_
  unfold put
  by_cases e : (i : Int) = x ∧ t = s
  · obtain ⟨rfl, rfl⟩ := e; rw [h]; rfl
  · have : ((i : Int) == x && t == s) = false := by
      rw [Bool.and_eq_false_iff]
      by_cases e1 : (i : Int) = x
      · exact .inr (beqF fun h => e ⟨e1, h⟩)
      · exact .inl (beqF e1)
    rw [this, Bool.or_false]
theorem marks_congr {ls : List (List (List Int))} {p q : Int → List Int → Bool} (h : ∀ i : Nat, i < ls.length → ∀ s ∈ gl ls i, p i s = q i s) : marksP ls p = marksP ls q :=
  mapI_congr fun i hi => List.map_congr_left fun s hs => h i hi s hs

theorem specFind (l : List (List Int)) (s : List Int) (hl : l.length ≤ 1048576000) (hr : ∀ y ∈ l, y.length ≤ 1048576000) : spec_l09Find l s = some (placeS l s) := by
  have key : ∀ (m : List (List Int)) (i : Nat), l.drop i = m → i ≤ l.length →
      retM (S := Unit) (lbind (blockM 0 (loopM (spec_l09Find_L0 l s) (i : Int))) (fun s0_5 => (some (Out.ret (((-1 : Int))))))) = some (ixF (fun y => y == s) m i) := by
    intro m
    induction m with
    | nil =>
      intro i hd hi
      have : i = l.length := by have := congrArg List.length hd; simp at this; omega
      subst this
      rw [lb_end (e := (l.length : Int)) (by unfold spec_l09Find_L0; rw [decF (by omega), cond_false])]; rfl
    | cons x m ih =>
      intro i hd hi
      have hlt : i < l.length := by
        rcases Nat.lt_or_ge i l.length with h | h
        · exact h
        · rw [List.drop_eq_nil_of_le h] at hd; cases hd
      rw [List.drop_eq_getElem_cons hlt] at hd
      have hx : l[i]? = some x := by rw [List.getElem?_eq_getElem hlt]; exact congrArg some (List.cons.inj hd).1
      have hs := specSame x s (hr x (List.mem_of_getElem? hx))
      unfold ixF
      cases e : x == s with
      | true =>
        rw [if_pos rfl, lb_out (y := (i : Int)) (by unfold spec_l09Find_L0; rw [decT (by omega), cond_true, idx_nat, hx, some_bind', hs, some_bind', e, cond_true])]; rfl
      | false =>
        rw [if_neg (by simp), lb_step (s' := ((i + 1 : Nat) : Int)) (by unfold spec_l09Find_L0; rw [decT (by omega), cond_true, idx_nat, hx, some_bind', hs, some_bind', e, cond_false, w64_nat (by omega)])]
        exact ih (i + 1) (List.cons.inj hd).2 hlt
  exact key l 0 rfl (Nat.zero_le _)

/-- what is known where all sieves have been listed -/
structure Tab (c : MCategory) (ls : List (List (List Int))) : Prop where
  cat : Cat c
  lists : Lists c c.Objects.toNat ls
namespace Tab
variable {c : MCategory} {ls : List (List (List Int))} (T : Tab c ls)
include T
theorem len : (ls.length : Int) = c.Objects := by have h1 := T.lists.len; have h2 := T.cat.o0; omega
theorem len8 : ls.length ≤ 8 := by have h1 := T.len; have h2 := T.cat.o8; omega
theorem sv {x : Int} (h0 : 0 ≤ x) (h1 : x < ls.length) : SvList c x (gl ls x) := T.lists.sv T.cat h0 (by have := T.lists.len; omega)
theorem mem {x : Int} (h0 : 0 ≤ x) (h1 : x < ls.length) {s : List Int} : s ∈ gl ls x ↔ Sv c x s := svl_mem T.cat (T.sv h0 h1) s
theorem nodup {x : Int} (h0 : 0 ≤ x) (h1 : x < ls.length) : (gl ls x).Nodup := (T.sv h0 h1).nodup
theorem l16 {x : Int} (h0 : 0 ≤ x) (h1 : x < ls.length) : (gl ls x).length ≤ 16 := (T.sv h0 h1).len
theorem s40 {x : Int} (h0 : 0 ≤ x) (h1 : x < ls.length) {s : List Int} (hs : s ∈ gl ls x) : s.length ≤ 40 := Nat.le_trans ((T.mem h0 h1).1 hs).len T.cat.m
theorem fr {a : Int} (a0 : 0 ≤ a) (a1 : a < c.From.length) : 0 ≤ gi c.From a ∧ gi c.From a < ls.length := by have := T.cat.fr a0 a1; rw [← T.len] at this; exact this
theorem to {a : Int} (a0 : 0 ≤ a) (a1 : a < c.From.length) : 0 ≤ gi c.To a ∧ gi c.To a < ls.length := by have := T.cat.to a0 a1; rw [← T.len] at this; exact this
theorem pull {a : Int} (a0 : 0 ≤ a) (a1 : a < c.From.length) {s : List Int} {x : Int} (hs : Sv c x s) : pullS c a s ∈ gl ls (gi c.To a) := (T.mem (T.to a0 a1).1 (T.to a0 a1).2).2 (pull_sv T.cat a0 a1 hs)
theorem out {x : Int} (h0 : 0 ≤ x) (h1 : x < ls.length) : outS c x ∈ gl ls x := (T.mem h0 h1).2 (out_sv T.cat)
theorem arr {x : Int} (h0 : 0 ≤ x) (h1 : x < ls.length) {s : List Int} (hs : s ∈ gl ls x) {a : Int} (ha : a ∈ s) : 0 ≤ a ∧ a < c.From.length := ((T.mem h0 h1).1 hs).arr a ha
/-- the action of an arrow, read -/
theorem acts_at {a : Int} (a0 : 0 ≤ a) (a1 : a < c.From.length) : idx (acts c ls) a = some (act c ls a) := by
  have _ := T
  obtain ⟨n, rfl⟩ : ∃ n : Nat, a = n := ⟨a.toNat, by omega⟩
  rw [idx_nat]; unfold acts; rw [mapI_get _ (by omega)]
theorem act_at {a : Int} {i : Nat} {s : List Int} (hs : (gl ls (gi c.From a))[i]? = some s) : idx (act c ls a) (i : Int) = some (placeS (gl ls (gi c.To a)) (pullS c a s)) := by
  have _ := T
  rw [idx_nat]; unfold act; rw [List.getElem?_map, hs]; rfl
theorem tops_at {x : Int} (h0 : 0 ≤ x) (h1 : x < ls.length) : idx (tops c ls) x = some (placeS (gl ls x) (outS c x)) := by
  have _ := T
  obtain ⟨n, rfl⟩ : ∃ n : Nat, x = n := ⟨x.toNat, by omega⟩
  rw [idx_nat]; unfold tops; rw [mapI_get _ (by omega)]
end Tab

/-- a sieve t at x, pulled along each arrow of s, is marked -/
def localB (c : MCategory) (p : Int → List Int → Bool) (s t : List Int) : Bool := !(s.any fun a => !(p (gi c.To a) (pullS c a t)))
def stepA (c : MCategory) (p : Int → List Int → Bool) (x : Int) (s : List Int) : Bool := (ns c.From.length).any fun a => (gi c.From a == x) && !(p (gi c.To a) (pullS c a s))
def stepT (c : MCategory) (L : List (List Int)) (p : Int → List Int → Bool) (x : Int) (s : List Int) : Bool := L.any fun t => !(p x t) && localB c p s t
/-- does something at x have to be marked besides -/
def stepX (c : MCategory) (ls : List (List (List Int))) (p : Int → List Int → Bool) (x : Int) : Bool :=
  !(p x (outS c x)) || (gl ls x).any fun s => p x s && (stepA c p x s || stepT c (gl ls x) p x s)
def openB (c : MCategory) (ls : List (List (List Int))) (p : Int → List Int → Bool) : Bool := (ns ls.length).any (stepX c ls p)
/-- (x, s) has to be marked where p is -/
def Forced (c : MCategory) (ls : List (List (List Int))) (p : Int → List Int → Bool) (x : Int) (s : List Int) : Prop :=
  ∀ q : Int → List Int → Bool, openB c ls q = false → (∀ y : Int, 0 ≤ y → y < ls.length → ∀ t ∈ gl ls y, p y t = true → q y t = true) → q x s = true
structure Closed (c : MCategory) (ls : List (List (List Int))) (q : Int → List Int → Bool) : Prop where
  top : ∀ x : Int, 0 ≤ x → x < ls.length → q x (outS c x) = true
  arrow : ∀ a s : _, 0 ≤ a → a < (c.From.length : Int) → s ∈ gl ls (gi c.From a) → q (gi c.From a) s = true → q (gi c.To a) (pullS c a s) = true
  loc : ∀ x : Int, 0 ≤ x → x < ls.length → ∀ s ∈ gl ls x, ∀ t ∈ gl ls x, q x s = true → localB c q s t = true → q x t = true

section
variable {c : MCategory} {ls : List (List (List Int))} (T : Tab c ls) {p : Int → List Int → Bool}
include T
theorem closed_iff {q : Int → List Int → Bool} : openB c ls q = false ↔ Closed c ls q := by
  unfold openB
  rw [List.any_eq_false]
  constructor
  · intro h
    have hx : ∀ x : Int, 0 ≤ x → x < ls.length → q x (outS c x) = true ∧ ∀ s ∈ gl ls x, q x s = true → stepA c q x s = false ∧ stepT c (gl ls x) q x s = false := by
      intro x h0 h1
      have := h x (ns_mem.2 ⟨h0, h1⟩)
      unfold stepX at this
      simp only [Bool.not_eq_true, Bool.not_eq_false', List.any_eq_false, Bool.and_eq_true, Bool.or_eq_true, not_and, not_or] at this
      exact ⟨this.1, fun s hs hq => this.2 s hs hq⟩
    refine ⟨fun x h0 h1 => (hx x h0 h1).1, fun a s a0 a1 hs hq => ?_, fun x h0 h1 s hs t ht hq hl => ?_⟩
    · have h2 := ((hx _ (T.fr a0 a1).1 (T.fr a0 a1).2).2 s hs hq).1
      unfold stepA at h2
      rw [List.any_eq_false] at h2
      have := h2 a (ns_mem.2 ⟨a0, a1⟩)
      simpa using this
    · have h2 := ((hx x h0 h1).2 s hs hq).2
      unfold stepT at h2
      rw [List.any_eq_false] at h2
      have := h2 t ht
      rw [hl] at this
      simpa using this
  · intro h x hx
    obtain ⟨h0, h1⟩ := ns_mem.1 hx
    unfold stepX
    simp only [Bool.not_eq_true, Bool.not_eq_false', List.any_eq_false, Bool.and_eq_true, Bool.or_eq_true, not_and, not_or]
    refine ⟨h.top x h0 h1, fun s hs hq => ⟨?_, ?_⟩⟩
    · unfold stepA
      rw [List.any_eq_false]
      intro a ha
      obtain ⟨a0, a1⟩ := ns_mem.1 ha
      cases e : gi c.From a == x with
      | false => simp
      | true =>
        have e' : gi c.From a = x := by simpa using e
        have := h.arrow a s a0 a1 (by rw [e']; exact hs) (by rw [e']; exact hq)
        simp [this]
    · unfold stepT
      rw [List.any_eq_false]
      intro t ht
      cases hl : localB c q s t with
      | false => simp
      | true => simp [h.loc x h0 h1 s hs t ht hq hl]
theorem local_mono {q : Int → List Int → Bool} (h : ∀ y : Int, 0 ≤ y → y < ls.length → ∀ t ∈ gl ls y, p y t = true → q y t = true) {x : Int} (h0 : 0 ≤ x) (h1 : x < ls.length) {s t : List Int} (hs : s ∈ gl ls x) (ht : t ∈ gl ls x) (hl : localB c p s t = true) : localB c q s t = true := by
  unfold localB at *
  simp only [Bool.not_eq_true', List.any_eq_false] at *
  intro a ha hq
  obtain ⟨a0, a1⟩ := T.arr h0 h1 hs ha
  have hp : p (gi c.To a) (pullS c a t) = true := by simpa using hl a ha
  rw [h _ (T.to a0 a1).1 (T.to a0 a1).2 _ (T.pull a0 a1 ((T.mem h0 h1).1 ht)) hp] at hq
  cases hq

/-- what one step of the reference does -/
def StepG (c : MCategory) (ls : List (List (List Int))) (p : Int → List Int → Bool) (y : Bool × List (List Bool)) : Prop :=
  y.1 = true ∧ ∃ x s, (0 ≤ x ∧ x < (ls.length : Int)) ∧ s ∈ gl ls x ∧ p x s = false ∧ Forced c ls p x s ∧ y.2 = marksP ls (put p x s)

theorem specLocal {x : Int} (h0 : 0 ≤ x) (h1 : x < ls.length) {i j : Nat} {s t : List Int} (hs : (gl ls x)[i]? = some s) (ht : (gl ls x)[j]? = some t) (u : List Int) :
    spec_l27Local (ML27Table.mk c ls (acts c ls) u) (marksP ls p) x (i : Int) (j : Int) = some (localB c p s t) := by
  have hsm := List.mem_of_getElem? hs
  have htm := List.mem_of_getElem? ht
  have hsv := (T.mem h0 h1).1 hsm
  unfold spec_l27Local
  rw [idx_gl h0 h1, some_bind', idx_nat, hs, some_bind']
  have hl := T.s40 h0 h1 hsm
  have at_ : ∀ a, a ∈ s → idx (marksP ls p) (gi c.To a) = some ((gl ls (gi c.To a)).map (p (gi c.To a))) ∧ idx (acts c ls) a = some (act c ls a) ∧ idx (act c ls a) (j : Int) = some (placeS (gl ls (gi c.To a)) (pullS c a t)) ∧
      idx ((gl ls (gi c.To a)).map (p (gi c.To a))) (placeS (gl ls (gi c.To a)) (pullS c a t)) = some (p (gi c.To a) (pullS c a t)) ∧ idx c.To a = some (gi c.To a) := by
    intro a ha
    obtain ⟨a0, a1⟩ := hsv.arr a ha
    have hta := T.to a0 a1
    exact ⟨idx_marks hta.1 hta.2, T.acts_at a0 a1, T.act_at (by rw [hsv.src a ha]; exact ht), at_mark _ (T.pull a0 a1 ((T.mem h0 h1).1 htm)), T.cat.idxT a0 a1⟩
  refine (congrArg retM (for_anyb s (fun a => !(p (gi c.To a) (pullS c a t))) (fun i => (i : Int)) rfl ?_ ?_ (e := (s.length : Int)) (y := false) ?_)).trans ?_
  · intro k a ha hp
    have hk := getElem?_lt ha
    obtain ⟨g1, g2, g3, g4, g5⟩ := at_ a (List.mem_of_getElem? ha)
    unfold spec_l27Local_L0
    rw [decT (by omega), cond_true, idx_nat, ha, some_bind', g5, some_bind', g1, some_bind', some_bind', g2, some_bind', g3, some_bind', g4, some_bind', hp, cond_false, w64_nat (by omega)]
  · intro k a ha hp
    have hk := getElem?_lt ha
    obtain ⟨g1, g2, g3, g4, g5⟩ := at_ a (List.mem_of_getElem? ha)
    unfold spec_l27Local_L0
    rw [decT (by omega), cond_true, idx_nat, ha, some_bind', g5, some_bind', g1, some_bind', some_bind', g2, some_bind', g3, some_bind', g4, some_bind', hp, cond_true]
  · unfold spec_l27Local_L0; rw [decF (by omega), cond_false]
  · unfold localB
    cases s.any fun a => !(p (gi c.To a) (pullS c a t)) <;> rfl

/-- the reference's table -/
abbrev TB (c : MCategory) (ls : List (List (List Int))) : ML27Table := ML27Table.mk c ls (acts c ls) (tops c ls)
theorem stepGood {x : Int} {s : List Int} (hx : 0 ≤ x ∧ x < (ls.length : Int)) (hs : s ∈ gl ls x) (hp : p x s = false) (hf : Forced c ls p x s) :
    StepG c ls p (true, (marksP ls p).set x.toNat (((gl ls x).map (p x)).set (placeS (gl ls x) s).toNat true)) := ⟨rfl, x, s, hx, hs, hp, hf, put_marks hx.1 hx.2 (T.nodup hx.1 hx.2) hs⟩
theorem stepA_loop {x : Int} (h0 : 0 ≤ x) (h1 : x < ls.length) {j : Nat} {s : List Int} (hs : (gl ls x)[j]? = some s) (hp : p x s = true) {f : Int → Option (Out Int (Bool × List (List Bool)))} :
    (stepA c p x s = true ∧ ∃ y, lbind (blockM 4 (loopM (spec_l27Step_L2 (TB c ls) (marksP ls p) x (j : Int)) (0 : Int))) f = some (.ret y) ∧ StepG c ls p y) ∨
    (stepA c p x s = false ∧ lbind (blockM 4 (loopM (spec_l27Step_L2 (TB c ls) (marksP ls p) x (j : Int)) (0 : Int))) f = f (c.From.length : Int)) := by
  have hm := T.cat.m
  have hsm := List.mem_of_getElem? hs
  have hsv := (T.mem h0 h1).1 hsm
  have hpl : (acts c ls).length = c.From.length := mapI_length _ _
  have at_ : ∀ a : Int, 0 ≤ a → a < c.From.length → gi c.From a = x → idx (marksP ls p) (gi c.To a) = some ((gl ls (gi c.To a)).map (p (gi c.To a))) ∧ idx (acts c ls) a = some (act c ls a) ∧ idx (act c ls a) (j : Int) = some (placeS (gl ls (gi c.To a)) (pullS c a s)) ∧
      idx ((gl ls (gi c.To a)).map (p (gi c.To a))) (placeS (gl ls (gi c.To a)) (pullS c a s)) = some (p (gi c.To a) (pullS c a s)) := by
    intro a a0 a1 e
    have hta := T.to a0 a1
    exact ⟨idx_marks hta.1 hta.2, T.acts_at a0 a1, T.act_at (by rw [e]; exact hs), at_mark _ (T.pull a0 a1 hsv)⟩
  refine for_anyg (ns c.From.length) (fun a => (gi c.From a == x) && !(p (gi c.To a) (pullS c a s))) (StepG c ls p) (fun i => (i : Int)) rfl ?_ ?_ ?_
  · intro i a ha hq
    obtain ⟨rfl, hi⟩ := ns_get ha
    unfold spec_l27Step_L2
    show (bif decide ((i : Int) < ((acts c ls).length : Int)) then _ else _) = _
    rw [hpl, decT (by omega), cond_true]
    show ((idx c.From (i : Int) >>= _) >>= _) = _
    rw [T.cat.idxF (by omega) (by omega), some_bind']
    cases e : gi c.From (i : Int) == x with
    | false => simp only [cond_false, some_bind']; rw [w64_nat (by omega)]
    | true =>
      rw [e, Bool.true_and] at hq
      obtain ⟨g1, g2, g3, g4⟩ := at_ i (by omega) (by omega) (by simpa using e)
      simp only [cond_true]
      rw [T.cat.idxT (by omega) (by omega), some_bind', g1, some_bind', g2, some_bind', g3, some_bind', g4, some_bind', some_bind', hq, cond_false, w64_nat (by omega)]
  · intro i a ha hq
    obtain ⟨rfl, hi⟩ := ns_get ha
    simp only [Bool.and_eq_true] at hq
    have e' : gi c.From (i : Int) = x := by simpa using hq.1
    obtain ⟨g1, g2, g3, g4⟩ := at_ i (by omega) (by omega) e'
    have hta := T.to (a := (i : Int)) (by omega) (by omega)
    refine ⟨(true, (marksP ls p).set (gi c.To (i : Int)).toNat (((gl ls (gi c.To (i : Int))).map (p (gi c.To (i : Int)))).set (placeS (gl ls (gi c.To (i : Int))) (pullS c i s)).toNat true)), ?_,
      stepGood T hta (T.pull (by omega) (by omega) hsv) (by simpa using hq.2) fun q hq1 hq2 => ((closed_iff T).1 hq1).arrow _ _ (by omega) (by omega) (by rw [e']; exact hsm) (by rw [e']; exact hq2 x h0 h1 s hsm hp)⟩
    unfold spec_l27Step_L2
    show (bif decide ((i : Int) < ((acts c ls).length : Int)) then _ else _) = _
    rw [hpl, decT (by omega), cond_true]
    show ((idx c.From (i : Int) >>= _) >>= _) = _
    rw [T.cat.idxF (by omega) (by omega), some_bind', hq.1, cond_true, T.cat.idxT (by omega) (by omega), some_bind', g1, some_bind', g2, some_bind', g3, some_bind', g4, some_bind', some_bind', hq.2, cond_true, some_bind', g1, some_bind', some_bind', g3, some_bind', g4, some_bind']
  · rw [ns_length]
    unfold spec_l27Step_L2
    show (bif decide ((c.From.length : Int) < ((acts c ls).length : Int)) then _ else _) = _
    rw [hpl, decF (by omega), cond_false]
theorem stepT_loop {x : Int} (h0 : 0 ≤ x) (h1 : x < ls.length) {j : Nat} {s : List Int} (hs : (gl ls x)[j]? = some s) (hp : p x s = true) {f : Int → Option (Out Int (Bool × List (List Bool)))} :
    (stepT c (gl ls x) p x s = true ∧ ∃ y, lbind (blockM 6 (loopM (spec_l27Step_L3 (TB c ls) (marksP ls p) x (j : Int)) (0 : Int))) f = some (.ret y) ∧ StepG c ls p y) ∨
    (stepT c (gl ls x) p x s = false ∧ lbind (blockM 6 (loopM (spec_l27Step_L3 (TB c ls) (marksP ls p) x (j : Int)) (0 : Int))) f = f ((gl ls x).length : Int)) := by
  have h16 := T.l16 h0 h1
  have hsm := List.mem_of_getElem? hs
  refine for_anyg (gl ls x) (fun t => !(p x t) && localB c p s t) (StepG c ls p) (fun i => (i : Int)) rfl ?_ ?_ ?_
  · intro i t ht hq
    have hi := getElem?_lt ht
    unfold spec_l27Step_L3
    rw [idx_marks h0 h1, some_bind', List.length_map, decT (by omega), cond_true, some_bind', idx_nat, List.getElem?_map, ht]
    simp only [Option.map_some, some_bind']
    cases e : p x t with
    | true => simp only [Bool.not_true, cond_false, some_bind']; rw [w64_nat (by omega)]
    | false =>
      rw [e, Bool.not_false, Bool.true_and] at hq
      simp only [Bool.not_false, cond_true]
      rw [specLocal T h0 h1 hs ht, some_bind', some_bind', hq, cond_false, w64_nat (by omega)]
  · intro i t ht hq
    have hi := getElem?_lt ht
    have htm := List.mem_of_getElem? ht
    simp only [Bool.and_eq_true, Bool.not_eq_true'] at hq
    refine ⟨(true, (marksP ls p).set x.toNat (((gl ls x).map (p x)).set (placeS (gl ls x) t).toNat true)), ?_,
      stepGood T ⟨h0, h1⟩ htm hq.1 fun q hq1 hq2 => ((closed_iff T).1 hq1).loc x h0 h1 s hsm t htm (hq2 x h0 h1 s hsm hp) (local_mono T hq2 h0 h1 hsm htm hq.2)⟩
    rw [place_at (T.nodup h0 h1) ht]
    unfold spec_l27Step_L3
    rw [idx_marks h0 h1, some_bind', List.length_map, decT (by omega), cond_true, some_bind', idx_nat, List.getElem?_map, ht]
    simp only [Option.map_some, some_bind', hq.1, Bool.not_false, cond_true]
    rw [specLocal T h0 h1 hs ht, some_bind', some_bind', hq.2, cond_true, idx_nat, List.getElem?_map, ht]; rfl
  · unfold spec_l27Step_L3
    rw [idx_marks h0 h1, some_bind', List.length_map, decF (by omega), cond_false]

theorem specStep : ∃ y, spec_l27Step (TB c ls) (marksP ls p) = some y ∧ ((openB c ls p = false ∧ y = (false, marksP ls p)) ∨ (openB c ls p = true ∧ StepG c ls p y)) := by
  have h8 := T.len8
  have row : ∀ (i : Nat), i < ls.length → p i (outS c i) = true → ∀ (f : Int → Option (Out Int (Bool × List (List Bool)))),
      (((gl ls i).any fun s => p i s && (stepA c p i s || stepT c (gl ls i) p i s)) = true ∧ ∃ y, lbind (blockM 2 (loopM (spec_l27Step_L1 (TB c ls) (marksP ls p) (i : Int)) (0 : Int))) f = some (.ret y) ∧ StepG c ls p y) ∨
      (((gl ls i).any fun s => p i s && (stepA c p i s || stepT c (gl ls i) p i s)) = false ∧ lbind (blockM 2 (loopM (spec_l27Step_L1 (TB c ls) (marksP ls p) (i : Int)) (0 : Int))) f = f ((gl ls i).length : Int)) := by
    intro i hi hp f
    have h16 := T.l16 (x := (i : Int)) (by omega) (by omega)
    have head : ∀ {j : Nat} {s : List Int}, (gl ls i)[j]? = some s → spec_l27Step_L1 (TB c ls) (marksP ls p) (i : Int) (j : Int) = (bif !(p i s) then (some (Out.norm (w64 ((j : Int) + (1 : Int))))) else (lbind (blockM 4 (loopM (spec_l27Step_L2 (TB c ls) (marksP ls p) i (j : Int)) ((0 : Int)))) (fun s2_7 => (lbind (blockM 6 (loopM (spec_l27Step_L3 (TB c ls) (marksP ls p) i (j : Int)) ((0 : Int)))) (fun s3_8 => (some (Out.norm (w64 ((j : Int) + (1 : Int))))))))))  := by
      intro j s hs
      have hj := getElem?_lt hs
      conv => lhs; unfold spec_l27Step_L1
      rw [idx_marks (by omega) (by omega), some_bind', List.length_map, decT (by omega), cond_true, some_bind', idx_nat, List.getElem?_map, hs]
      simp only [Option.map_some, some_bind']
    refine for_anyg (gl ls i) _ (StepG c ls p) (fun i => (i : Int)) rfl ?_ ?_ ?_
    · intro j s hs hq
      have hj := getElem?_lt hs
      show spec_l27Step_L1 _ _ _ (j : Int) = _
      rw [head hs]
      cases e : p i s with
      | false => rw [Bool.not_false, cond_true, w64_nat (by omega)]
      | true =>
        rw [e, Bool.true_and, Bool.or_eq_false_iff] at hq
        rw [Bool.not_true, cond_false]
        rcases stepA_loop T (by omega) (by omega) hs e with ⟨h1, _⟩ | ⟨_, h2⟩
        · rw [hq.1] at h1; cases h1
        · rw [h2]
          rcases stepT_loop T (by omega) (by omega) hs e with ⟨h1, _⟩ | ⟨_, h2⟩
          · rw [hq.2] at h1; cases h1
          · rw [h2, w64_nat (by omega)]
    · intro j s hs hq
      have hj := getElem?_lt hs
      simp only [Bool.and_eq_true, Bool.or_eq_true] at hq
      show ∃ y, spec_l27Step_L1 _ _ _ (j : Int) = _ ∧ _
      rw [head hs, hq.1, Bool.not_true, cond_false]
      rcases stepA_loop T (by omega) (by omega) hs hq.1 with ⟨_, y, h2, h3⟩ | ⟨h1, h2⟩
      · exact ⟨y, h2, h3⟩
      · rw [h2]
        rcases stepT_loop T (by omega) (by omega) hs hq.1 with ⟨_, y, h2, h3⟩ | ⟨h1', h2⟩
        · exact ⟨y, h2, h3⟩
        · rw [h1, h1'] at hq; simp at hq
    · show spec_l27Step_L1 _ _ _ _ = _
      unfold spec_l27Step_L1
      rw [idx_marks (by omega) (by omega), some_bind', List.length_map, decF (by omega), cond_false]
  have head : ∀ (i : Nat), i < ls.length → spec_l27Step_L0 (TB c ls) (marksP ls p) (i : Int) = (bif !(p i (outS c i)) then some (Out.ret (true, (marksP ls p).set ((i : Int)).toNat (((gl ls i).map (p i)).set (placeS (gl ls i) (outS c i)).toNat true)))
      else (lbind (blockM 2 (loopM (spec_l27Step_L1 (TB c ls) (marksP ls p) i) ((0 : Int)))) (fun s1_6 => (some (Out.norm (w64 ((i : Int) + (1 : Int)))))))) := by
    intro i hi
    conv => lhs; unfold spec_l27Step_L0
    rw [marks_length, decT (by omega), cond_true, idx_marks (by omega) (by omega), some_bind']
    show (idx (tops c ls) (i : Int) >>= _) = _
    rw [T.tops_at (by omega) (by omega), some_bind', at_mark _ (T.out (by omega) (by omega)), some_bind']
    congr 1
    rw [some_bind', some_bind', at_mark _ (T.out (by omega) (by omega)), some_bind']
  unfold spec_l27Step
  have main := for_anyg (S := Unit) (body := spec_l27Step_L0 (TB c ls) (marksP ls p)) (k := 0) (f := fun _ => some (Out.ret (false, marksP ls p))) (ns ls.length) (stepX c ls p) (StepG c ls p) (fun i => (i : Int)) (s0 := (0 : Int)) (e := (ls.length : Int)) rfl
    (by
      intro i x hx hq
      obtain ⟨rfl, hi⟩ := ns_get hx
      show spec_l27Step_L0 _ _ (i : Int) = _
      unfold stepX at hq
      simp only [Bool.or_eq_false_iff, Bool.not_eq_false'] at hq
      rw [head i hi, hq.1, Bool.not_true, cond_false]
      rcases row i hi hq.1 (fun s1_6 => (some (Out.norm (w64 ((i : Int) + (1 : Int)))))) with ⟨h1, _⟩ | ⟨_, h2⟩
      · rw [hq.2] at h1; cases h1
      · rw [h2, w64_nat (by omega)])
    (by
      intro i x hx hq
      obtain ⟨rfl, hi⟩ := ns_get hx
      show ∃ y, spec_l27Step_L0 _ _ (i : Int) = _ ∧ _
      rw [head i hi]
      unfold stepX at hq
      cases e : p i (outS c i) with
      | false =>
        rw [Bool.not_false, cond_true]
        exact ⟨_, rfl, stepGood T ⟨by omega, by omega⟩ (T.out (by omega) (by omega)) e fun q hq1 _ => ((closed_iff T).1 hq1).top _ (by omega) (by omega)⟩
      | true =>
        rw [e, Bool.not_true, Bool.false_or] at hq
        rw [Bool.not_true, cond_false]
        rcases row i hi e (fun s1_6 => (some (Out.norm (w64 ((i : Int) + (1 : Int)))))) with ⟨_, y, h2, h3⟩ | ⟨h1, _⟩
        · exact ⟨y, h2, h3⟩
        · rw [hq] at h1; cases h1)
    (by
      rw [ns_length]
      show spec_l27Step_L0 _ _ _ = _
      unfold spec_l27Step_L0
      rw [marks_length, decF (by omega), cond_false])
  rcases main with ⟨h1, y, h2, h3⟩ | ⟨h1, h2⟩
  · rw [h2]; exact ⟨y, rfl, .inr ⟨h1, h3⟩⟩
  · rw [h2]; exact ⟨_, rfl, .inl ⟨h1, rfl⟩⟩
theorem specIsT : spec_l27Is (TB c ls) (marksP ls p) = some (!(openB c ls p)) := by
  have h8 := T.len8
  unfold spec_l27Is
  refine (congrArg retM (map_loop ls.length (fun x => (gl ls x).map (p x)) (fun acc i => (acc, (i : Int))) rfl ?_ ?_)).trans ?_
  · intro i acc hi ha
    have h16 := T.l16 (x := (i : Int)) (by omega) (by omega)
    show spec_l27Is_L0 _ acc i = _
    unfold spec_l27Is_L0
    rw [marks_length, decT (by omega), cond_true, idx_marks (by omega) (by omega), some_bind', fits_ok (by simp; omega) (by simp; omega), some_bind', fits_ok (by omega) (by omega), some_bind', w64_nat (by omega)]
    rfl
  · intro acc ha
    show spec_l27Is_L0 _ acc _ = _
    unfold spec_l27Is_L0
    rw [marks_length, decF (by omega), cond_false]
  · show retM (spec_l27Step (TB c ls) (marksP ls p) >>= _) = _
    obtain ⟨y, h1, h2⟩ := specStep T (p := p)
    rw [h1, some_bind']
    rcases h2 with ⟨e, rfl⟩ | ⟨e, h3⟩
    · rw [e]; rfl
    · rw [e]; show some (!y.1) = _; rw [h3.1]
end
end Go.Proofs.YtdlhbbhdfnnmnaaGreat
