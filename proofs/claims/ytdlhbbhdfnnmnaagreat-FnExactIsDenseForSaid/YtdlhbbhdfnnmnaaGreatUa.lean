/- Parts of set functors: whether something is one, the sieves of an element; copies, equality, marks. No condition beside those that each theorem names. -/
import Derived.Test.YtdlhbbhdfnnmnaaGreatRx
import Derived.Test.YtdlhbbhdfnnmnaaGreatRq
namespace Go.Proofs.YtdlhbbhdfnnmnaaGreat
open Go Go.Li

/-- a row of a part: rising, within the set -/
def ptRow (f : MSetFunctor) (M : List (List Int)) (x : Int) : Bool := risesB (gr M x) && inS (gi f.Sizes x) (gr M x)
/-- the elements of a part that an arrow leads out of it -/
def ptBad (f : MSetFunctor) (M : List (List Int)) (a : Int) : Bool := (ns (gr M (gi f.Shape.From a)).length).any fun i => !hasB (gr M (gi f.Shape.To a)) (gi (gr f.Actions a) (gi (gr M (gi f.Shape.From a)) i))
def partB (f : MSetFunctor) (M : List (List Int)) : Bool := (M.length == f.Sizes.length) && ((ns M.length).all (ptRow f M) && !((ns f.Shape.From.length).any (ptBad f M)))
structure PtRows (f : MSetFunctor) (M : List (List Int)) : Prop where
  len : (M.length : Int) = f.Shape.Objects
  pw : ∀ x : Int, 0 ≤ x → x < f.Shape.Objects → (gr M x).Pairwise (· < ·)
  bd : ∀ x : Int, 0 ≤ x → x < f.Shape.Objects → ∀ y ∈ gr M x, 0 ≤ y ∧ y < gi f.Sizes x
structure Pt (f : MSetFunctor) (M : List (List Int)) : Prop extends PtRows f M where
  closed : ∀ a : Int, 0 ≤ a → a < f.Shape.From.length → ∀ e ∈ gr M (gi f.Shape.From a), gi (gr f.Actions a) e ∈ gr M (gi f.Shape.To a)
theorem ptRows_of {f : MSetFunctor} (S : SF f) {M : List (List Int)} (h1 : M.length = f.Sizes.length) (h2 : (ns M.length).all (ptRow f M) = true) : PtRows f M := by
  have hl := S.sl
  rw [List.all_eq_true] at h2
  have key : ∀ x : Int, 0 ≤ x → x < f.Shape.Objects → risesB (gr M x) = true ∧ ∀ y ∈ gr M x, 0 ≤ y ∧ y < gi f.Sizes x := fun x x0 x1 => by
    have := h2 x (ns_mem.2 ⟨x0, by omega⟩)
    unfold ptRow at this
    rw [Bool.and_eq_true, inS_iff] at this
    exact this
  exact ⟨by omega, fun x x0 x1 => rises_pw (key x x0 x1).1, fun x x0 x1 => (key x x0 x1).2⟩
theorem mem_gi {l : List Int} {e : Int} (h : e ∈ l) : ∃ i : Int, 0 ≤ i ∧ i < l.length ∧ gi l i = e := by
  obtain ⟨i, hi, rfl⟩ := List.getElem_of_mem h
  refine ⟨(i : Int), by omega, by omega, ?_⟩
  have := idx_gi (l := l) (j := (i : Int)) (by omega) (by omega)
  rw [idx_nat, List.getElem?_eq_getElem hi] at this
  exact (Option.some.inj this).symm
theorem pt_of {f : MSetFunctor} (S : SF f) {M : List (List Int)} (h : partB f M = true) : Pt f M := by
  unfold partB at h
  simp only [Bool.and_eq_true, beq_iff_eq, Bool.not_eq_true', ns_any_false] at h
  obtain ⟨h1, h2, h3⟩ := h
  refine ⟨ptRows_of S h1 h2, fun a a0 a1 e he => ?_⟩
  have := h3 a a0 a1
  unfold ptBad at this
  rw [ns_any_false] at this
  obtain ⟨i, i0, i1, rfl⟩ := mem_gi he
  have := this i i0 i1
  rw [Bool.not_eq_false', hasB_iff] at this
  exact this
theorem pt_len {f : MSetFunctor} (S : SF f) {M : List (List Int)} (R : PtRows f M) {x : Int} (x0 : 0 ≤ x) (x1 : x < f.Shape.Objects) : (gr M x).length ≤ 16 := by
  have hs := S.s x x0 x1
  have h1 := R.pw x x0 x1
  have h2 := R.bd x x0 x1
  have hsub : (gr M x) ⊆ ns 16 := fun y hy => ns_mem.2 ⟨(h2 y hy).1, by have := (h2 y hy).2; omega⟩
  have hn : (gr M x).Nodup := h1.imp (fun h => by omega)
  have := hn.length_le_of_subset hsub
  rw [ns_length] at this
  exact this
section
variable {f : MSetFunctor} (S : SF f) {M : List (List Int)} (hk : M.length ≤ 1048576) (hr : ∀ y ∈ M, y.length ≤ 1048576)
include S hk hr
theorem specPart : spec_l25Part f M = some (partB f M) := by
  have _ := hk
  have hl := S.sl
  have ho := S.cat.o8
  have hm := S.cat.m
  have hal := S.al
  unfold spec_l25Part partB
  by_cases h1 : M.length = f.Sizes.length
  · rw [bneF (by omega), cond_false, beqT h1, Bool.true_and]
    have hx : ∀ x : Nat, x < M.length → spec_l25Part_L0 f M (x : Int) = bif !(ptRow f M x) then some (.ret false) else some (.norm ((x + 1 : Nat) : Int)) := by
      intro x hx
      have hlen := hr _ (gr_mem (l := M) (j := (x : Int)) (by omega) (by omega))
      unfold spec_l25Part_L0
      rw [decT (by omega), cond_true, idx_gr (by omega) (by omega), some_bind', specRises _ (by omega), some_bind', S.idxS (by omega) (by omega), some_bind', some_bind', specMap _ _ (by omega), some_bind', cond_some, cond_or, some_bind', w64_nat (by omega)]
      unfold ptRow
      rw [Bool.not_and]
    rw [forb (n := M.length) (fun x => !(ptRow f M x)) hx (by unfold spec_l25Part_L0; rw [decF (by omega), cond_false]), any_not]
    cases h2 : (ns M.length).all (ptRow f M) with
    | false => rfl
    | true =>
      have R := ptRows_of S h1 h2
      rw [Bool.not_true, cond_false, Bool.true_and]
      have hmm : ∀ {x : Int}, 0 ≤ x → x < f.Shape.Objects → idx M x = some (gr M x) := fun x0 x1 => idx_gr x0 (by rw [R.len]; exact x1)
      have ha : ∀ a : Nat, a < f.Shape.From.length → spec_l25Part_L1 f M (a : Int) = bif ptBad f M a then some (.ret false) else some (.norm ((a + 1 : Nat) : Int)) := by
        intro a ha
        have hf := S.cat.fr (f := (a : Int)) (by omega) (by omega)
        have ht := S.cat.to (f := (a : Int)) (by omega) (by omega)
        have l1 := pt_len S R hf.1 hf.2
        have l2 := pt_len S R ht.1 ht.2
        have hi : ∀ i : Nat, i < (gr M (gi f.Shape.From a)).length → spec_l25Part_L2 f M (a : Int) (gi f.Shape.From a) (gi f.Shape.To a) (i : Int) = bif !hasB (gr M (gi f.Shape.To a)) (gi (gr f.Actions a) (gi (gr M (gi f.Shape.From a)) i)) then some (.ret false) else some (.norm ((i + 1 : Nat) : Int)) := by
          intro i hi
          have he := R.bd _ hf.1 hf.2 _ (gi_mem (l := gr M (gi f.Shape.From a)) (j := (i : Int)) (by omega) (by omega))
          unfold spec_l25Part_L2
          rw [hmm hf.1 hf.2, some_bind', decT (by omega), cond_true, hmm ht.1 ht.2, some_bind', S.idxA (by omega) (by omega), some_bind', some_bind', idx_gi (by omega) (by omega), some_bind', S.at_ (by omega) (by omega) he.1 he.2, some_bind', specHas _ _ (by omega), some_bind', w64_nat (by omega)]
        unfold spec_l25Part_L1
        rw [hal, decT (by omega), cond_true, S.cat.idxF (by omega) (by omega), some_bind', S.cat.idxT (by omega) (by omega), some_bind', forb (n := (gr M (gi f.Shape.From a)).length) (fun i => !hasB (gr M (gi f.Shape.To a)) (gi (gr f.Actions a) (gi (gr M (gi f.Shape.From a)) i))) hi (by unfold spec_l25Part_L2; rw [hmm hf.1 hf.2, some_bind', decF (by omega), cond_false]), w64_nat (by omega)]
        rfl
      rw [forb (n := f.Shape.From.length) (ptBad f M) ha (by unfold spec_l25Part_L1; rw [hal, decF (by omega), cond_false])]
      cases (ns f.Shape.From.length).any (ptBad f M) <;> rfl
  · rw [bneT (by omega), cond_true, beqF h1]; rfl
theorem implPart : impl_SetFunctor_isPart f (MPart.mk M) = some (partB f M) := by
  have _ := hk
  have hl := S.sl
  have ho := S.cat.o8
  have hm := S.cat.m
  have hal := S.al
  unfold impl_SetFunctor_isPart partB
  show retM (bif ((M.length : Int) != (f.Sizes.length : Int)) then _ else _) = _
  by_cases h1 : M.length = f.Sizes.length
  · rw [bneF (by omega), cond_false, beqT h1, Bool.true_and]
    have hx : ∀ x : Nat, x < M.length → impl_SetFunctor_isPart_L0 f (MPart.mk M) (x : Int) = bif !(ptRow f M x) then some (.ret false) else some (.norm ((x + 1 : Nat) : Int)) := by
      intro x hx
      have hlen := hr _ (gr_mem (l := M) (j := (x : Int)) (by omega) (by omega))
      have hs := S.s (x : Int) (by omega) (by omega)
      unfold impl_SetFunctor_isPart_L0
      show (bif decide ((x : Int) < (M.length : Int)) then (idx M (x : Int) >>= _) else _) = _
      rw [decT (by omega), cond_true, idx_gr (by omega) (by omega), some_bind', implRising _ (by omega), some_bind', S.idxS (by omega) (by omega), some_bind', within _ _ (by omega) (by omega) (by omega), some_bind', cond_some, cond_or, some_bind', w64_nat (by omega)]
      unfold ptRow
      rw [Bool.not_and]
    rw [forb (n := M.length) (fun x => !(ptRow f M x)) hx (by unfold impl_SetFunctor_isPart_L0; show (bif decide ((M.length : Int) < (M.length : Int)) then _ else _) = _; rw [decF (by omega), cond_false]), any_not]
    cases h2 : (ns M.length).all (ptRow f M) with
    | false => rfl
    | true =>
      have R := ptRows_of S h1 h2
      rw [Bool.not_true, cond_false, Bool.true_and]
      have hmm : ∀ {x : Int}, 0 ≤ x → x < f.Shape.Objects → idx M x = some (gr M x) := fun x0 x1 => idx_gr x0 (by rw [R.len]; exact x1)
      have ha : ∀ a : Nat, a < f.Shape.From.length → impl_SetFunctor_isPart_L1 f (MPart.mk M) (a : Int) = bif ptBad f M a then some (.ret false) else some (.norm ((a + 1 : Nat) : Int)) := by
        intro a ha
        have hf := S.cat.fr (f := (a : Int)) (by omega) (by omega)
        have ht := S.cat.to (f := (a : Int)) (by omega) (by omega)
        have l1 := pt_len S R hf.1 hf.2
        have l2 := pt_len S R ht.1 ht.2
        have hi : ∀ i : Nat, i < (gr M (gi f.Shape.From a)).length → impl_SetFunctor_isPart_L2 f (MPart.mk M) (a : Int) (gr f.Actions a) (gr M (gi f.Shape.From a)) (i : Int) = bif !hasB (gr M (gi f.Shape.To a)) (gi (gr f.Actions a) (gi (gr M (gi f.Shape.From a)) i)) then some (.ret false) else some (.norm ((i + 1 : Nat) : Int)) := by
          intro i hi
          have he := R.bd _ hf.1 hf.2 _ (gi_mem (l := gr M (gi f.Shape.From a)) (j := (i : Int)) (by omega) (by omega))
          unfold impl_SetFunctor_isPart_L2
          rw [decT (by omega), cond_true, idx_gi (by omega) (by omega), some_bind', S.cat.idxT (by omega) (by omega), some_bind']
          show (idx M (gi f.Shape.To a) >>= _) = _
          rw [hmm ht.1 ht.2, some_bind', S.at_ (by omega) (by omega) he.1 he.2, some_bind', implHas _ _ (by omega), some_bind', w64_nat (by omega)]
        unfold impl_SetFunctor_isPart_L1
        rw [hal, decT (by omega), cond_true, S.idxA (by omega) (by omega), some_bind', S.cat.idxF (by omega) (by omega), some_bind']
        show (idx M (gi f.Shape.From a) >>= _) = _
        rw [hmm hf.1 hf.2, some_bind', forb (n := (gr M (gi f.Shape.From a)).length) (fun i => !hasB (gr M (gi f.Shape.To a)) (gi (gr f.Actions a) (gi (gr M (gi f.Shape.From a)) i))) hi (by unfold impl_SetFunctor_isPart_L2; rw [decF (by omega), cond_false]), w64_nat (by omega)]
        rfl
      rw [forb (n := f.Shape.From.length) (ptBad f M) ha (by unfold impl_SetFunctor_isPart_L1; rw [hal, decF (by omega), cond_false])]
      cases (ns f.Shape.From.length).any (ptBad f M) <;> rfl
  · rw [bneT (by omega), cond_true, beqF h1]; rfl
end
structure PartSmall (p : MPart) : Prop where
  k : p.Members.length ≤ 1048576
  r : ∀ y ∈ p.Members, y.length ≤ 1048576
/-- a set functor and a part of it -/
def fpB (f : MSetFunctor) (p : MPart) : Bool := sfB f && partB f p.Members
theorem specIsPart {f : MSetFunctor} {p : MPart} (hf : SFSmall f) (hp : PartSmall p) : spec_IsPart f p = some (fpB f p) := by
  unfold spec_IsPart fpB
  rw [specIsF hf, some_bind']
  cases h : sfB f with
  | false => rfl
  | true => rw [cond_true, specPart (sf_of h) hp.k hp.r, some_bind', some_bind']; rfl
theorem implAreParts {f : MSetFunctor} {p : MPart} (hf : SFSmall f) (hp : PartSmall p) : impl_areParts f [p] = some (fpB f p) := by
  unfold impl_areParts fpB
  rw [implIsF hf, some_bind']
  cases h : sfB f with
  | false => rfl
  | true =>
    have h0 : impl_areParts_L0 f [p] ((0 : Nat) : Int) = bif !(partB f p.Members) then some (.ret false) else some (.norm ((0 + 1 : Nat) : Int)) := by
      unfold impl_areParts_L0
      have : idx [p] ((0 : Nat) : Int) = some p := by rw [idx_nat]; rfl
      rw [decT (by simp), cond_true, this, some_bind']
      have e := implPart (sf_of h) hp.k hp.r
      rw [show MPart.mk p.Members = p by cases p; rfl] at e
      rw [e, some_bind', w64_nat (by omega)]
    rw [Bool.not_true, cond_false, forb (n := 1) (fun _ => !(partB f p.Members)) (fun i hi => by obtain rfl : i = 0 := (by omega); exact h0) (by unfold impl_areParts_L0; rw [decF (by simp), cond_false])]
    have : (ns 1).any (fun _ => !(partB f p.Members)) = !(partB f p.Members) := by simp [ns]
    rw [this]
    cases partB f p.Members <;> rfl
/-- the sieve of the arrows whose image of an element belongs to a part -/
def holdS (f : MSetFunctor) (M : List (List Int)) (x e : Int) : List Int := (outS f.Shape x).filter fun a => hasB (gr M (gi f.Shape.To a)) (gi (gr f.Actions a) e)
theorem hold_mem {f : MSetFunctor} {M : List (List Int)} {x e a : Int} : a ∈ holdS f M x e ↔ ((0 ≤ a ∧ a < f.Shape.From.length) ∧ gi f.Shape.From a = x) ∧ gi (gr f.Actions a) e ∈ gr M (gi f.Shape.To a) := by
  unfold holdS
  rw [List.mem_filter, outS_mem, hasB_iff]
section
variable {f : MSetFunctor} (S : SF f) {M : List (List Int)} (P : Pt f M) {x e : Int} (x0 : 0 ≤ x) (x1 : x < f.Shape.Objects) (e0 : 0 ≤ e) (e1 : e < gi f.Sizes x)
include S P x0 x1 e0 e1
theorem hold_sv : Sv f.Shape x (holdS f M x e) := by
  have _ := x0
  have _ := x1
  refine ⟨?_, fun y hy => (hold_mem.1 hy).1.2, fun a ha b b0 b1 hab => ?_⟩
  · unfold holdS outS
    rw [List.filter_filter]
    exact filter_form
  · obtain ⟨⟨⟨a0, a1⟩, ax⟩, am⟩ := hold_mem.1 ha
    have hc := S.cat.cell a b a0 a1 b0 b1 hab
    refine hold_mem.2 ⟨⟨⟨hc.1, hc.2.1⟩, by rw [hc.2.2.1, ax]⟩, ?_⟩
    rw [hc.2.2.2, S.comp a b e a0 a1 b0 b1 hab e0 (by rw [ax]; exact e1)]
    exact P.closed b b0 b1 _ (by rw [← hab]; exact am)
theorem specValue : spec_l25Value f M x e = some (holdS f M x e) := by
  have _ := And.intro x0 x1
  have hm := S.cat.m
  have hal := S.al
  have hmm : ∀ {x : Int}, 0 ≤ x → x < f.Shape.Objects → idx M x = some (gr M x) := fun x0 x1 => idx_gr x0 (by rw [P.len]; exact x1)
  unfold spec_l25Value
  refine (congrArg retM (keep_loop (ns f.Shape.From.length) (fun a => (gi f.Shape.From a == x) && hasB (gr M (gi f.Shape.To a)) (gi (gr f.Actions a) e)) (fun acc i => (acc, (i : Int))) rfl ?_ ?_)).trans ?_
  · intro i a acc hx hacc
    obtain ⟨rfl, hi⟩ := ns_get hx
    have hf := S.cat.fr (f := (i : Int)) (by omega) (by omega)
    have ht := S.cat.to (f := (i : Int)) (by omega) (by omega)
    have l2 := pt_len S P.toPtRows ht.1 ht.2
    show spec_l25Value_L0 f M x e acc i = _
    unfold spec_l25Value_L0
    rw [hal, decT (by omega), cond_true, S.cat.idxF (by omega) (by omega), some_bind', fits_ok (by omega) (by omega), some_bind', w64_nat (by omega)]
    by_cases hc : gi f.Shape.From (i : Int) = x
    · rw [beqT hc, cond_true, S.cat.idxT (by omega) (by omega), some_bind', hmm ht.1 ht.2, some_bind', S.idxA (by omega) (by omega), some_bind', S.at_ (by omega) (by omega) e0 (by rw [hc]; exact e1), some_bind', specHas _ _ (by omega), some_bind', some_bind', Bool.true_and]
      cases hasB (gr M (gi f.Shape.To (i : Int))) (gi (gr f.Actions (i : Int)) e) <;> rfl
    · rw [beqF hc, cond_false, some_bind']; rfl
  · intro acc
    show spec_l25Value_L0 f M x e acc _ = _
    unfold spec_l25Value_L0
    rw [hal, ns_length, decF (by omega), cond_false]
  · unfold holdS outS
    rw [List.filter_filter]
    show some _ = some _
    congr 1
    apply List.filter_congr
    intro a _
    rw [Bool.and_comm]
theorem implHolding : impl_SetFunctor_holding f (MPart.mk M) x e = some (holdS f M x e) := by
  have _ := And.intro x0 x1
  have hm := S.cat.m
  have hol := outS_len f.Shape x
  have hmm : ∀ {x : Int}, 0 ≤ x → x < f.Shape.Objects → idx M x = some (gr M x) := fun x0 x1 => idx_gr x0 (by rw [P.len]; exact x1)
  unfold impl_SetFunctor_holding
  rw [implOut (by omega), some_bind']
  refine (congrArg retM (keep_loop (outS f.Shape x) (fun a => hasB (gr M (gi f.Shape.To a)) (gi (gr f.Actions a) e)) (fun acc i => (acc, (i : Int))) rfl ?_ ?_)).trans rfl
  · intro i a acc hx hacc
    have hi := getElem?_lt hx
    obtain ⟨⟨a0, a1⟩, ax⟩ := outS_mem.1 (List.mem_of_getElem? hx)
    have ht := S.cat.to a0 a1
    have l2 := pt_len S P.toPtRows ht.1 ht.2
    show impl_SetFunctor_holding_L0 f (MPart.mk M) e (outS f.Shape x) acc i = _
    unfold impl_SetFunctor_holding_L0
    rw [decT (by omega), cond_true, idx_nat, hx, some_bind', S.cat.idxT a0 a1, some_bind']
    show (idx M (gi f.Shape.To a) >>= _) = _
    rw [hmm ht.1 ht.2, some_bind', S.idxA a0 a1, some_bind', S.at_ a0 a1 e0 (by rw [ax]; exact e1), some_bind', implHas _ _ (by omega), some_bind', fits_ok (by omega) (by omega), some_bind', w64_nat (by omega)]
    cases hasB (gr M (gi f.Shape.To a)) (gi (gr f.Actions a) e) <;> rfl
  · intro acc
    show impl_SetFunctor_holding_L0 f (MPart.mk M) e (outS f.Shape x) acc _ = _
    unfold impl_SetFunctor_holding_L0
    rw [decF (by omega), cond_false]
end
/-- lengths that a law's arguments have; the law's words on parts -/
structure PartLens (p : MPart) : Prop where
  k : p.Members.length ≤ 9223372036854775807
  r : ∀ y ∈ p.Members, y.length ≤ 9223372036854775807
def ptSize (p : MPart) : Nat := p.Members.length + tot p.Members
theorem szPtK {p : MPart} {k : Int} (k0 : 0 ≤ k) (k1 : k ≤ 1048576) (hl : PartLens p) : laws_szPart p k = some (if (ptSize p : Int) ≤ k then k - ptSize p else -1) := by
  unfold laws_szPart ptSize
  rw [szSS _ (by omega) (by omega) hl.k hl.r, some_bind']
  by_cases c3 : ((p.Members.length + tot p.Members : Nat) : Int) ≤ k
  · rw [if_pos c3, decF (by omega), cond_false]; rfl
  · rw [if_neg c3, decT (by omega), cond_true]; rfl
theorem ptSmall_of {p : MPart} (h : ptSize p ≤ 1048576) : PartSmall p := by
  unfold ptSize at h
  exact ⟨by omega, fun y hy => by have := tot_row hy; omega⟩
theorem toPt {p : MPart} (h : ptSize p ≤ 1048576) : laws_toPart p = some p := by
  have hs := ptSmall_of h
  unfold laws_toPart
  rw [toSS _ hs.k hs.r, some_bind']; rfl
theorem eqPt_self {p : MPart} (h : PartSmall p) : laws_eqPart p p = some true := by
  have h1 := h.k
  unfold laws_eqPart
  rw [eqSS _ _ (by omega) (fun z hz => by have := h.r z hz; omega), some_bind', beq_self_eq_true]; rfl
theorem markPtK {p : MPart} (h : PartSmall p) {k : Int} (h0 : 0 ≤ k) (hs : k + s2 p.Members ≤ 4611686018427387904) : laws_markPart p k = some (k + s2 p.Members, n2 k p.Members) := by
  have h1 := h.k
  unfold laws_markPart
  rw [markSS h0 (by omega) (fun y hy => by have := h.r y hy; omega) hs, some_bind']; rfl
theorem heldPtK {p : MPart} (h : PartSmall p) {k : Int} (h0 : 0 ≤ k) (hs : k + s2 p.Members ≤ 4611686018427387904) : laws_heldPart (MPart.mk (n2 k p.Members)) k = some (k + s2 p.Members) := by
  have h1 := h.k
  unfold laws_heldPart
  rw [heldSS h0 (by omega) (fun y hy => by have := h.r y hy; omega) hs, some_bind', decF (by omega), cond_false]; rfl
theorem ptCells_size (p : MPart) : s2 p.Members ≤ ptSize p := by
  unfold ptSize
  rw [s2_eq]; omega
end Go.Proofs.YtdlhbbhdfnnmnaaGreat
