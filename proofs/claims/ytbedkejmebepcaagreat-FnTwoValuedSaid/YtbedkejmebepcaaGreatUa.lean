/- Parts of set functors: whether something is one, the sieves of an element; copies, equality, marks. No condition beside those that each theorem names. -/
import Derived.Test.YtbedkejmebepcaaGreatRu
import Derived.Test.YtbedkejmebepcaaGreatRa
namespace Go.Proofs.YtbedkejmebepcaaGreat
open Go Go.Li

/-- a row of a part: rising, within the set -/
def ptRow (f : MSetFunctor) (M : List (List Int)) (x : Int) : Bool := risesB (gr M x) && inS (gi f.Sizes x) (gr M x)
/-- the elements of a part that an arrow leads out of it -/
def ptBad (f : MSetFunctor) (M : List (List Int)) (a : Int) : Bool := (ns (gr M (gi f.Shape.From a)).length).any fun i => !hasB (gr M (gi f.Shape.To a)) (gi (gr f.Actions a) (gi (gr M (gi f.Shape.From a)) i))
def partB (f : MSetFunctor) (M : List (List Int)) : Bool := (M.length == f.Sizes.length) && ((ns M.length).all (ptRow f M) && !((ns f.Shape.From.length).any (ptBad f M)))
structure PtRows (f : MSetFunctor) (M : List (List Int)) : Prop where
  len : (M.length : Int) = f.Shape.Objects
  pw : ∀ x : Int, 0 ≤ x → x < f.Shape.Objects → (gr M x).Pairwise (· < ·)
  bd : ∀ x : Int, 0 ≤ x → x < f.Shape.Objects → ∀ y ∈ gr M x, 0 ≤ y ∧ y < gi f.Sizes x
structure Pt (f : MSetFunctor) (M : List (List Int)) : Prop extends PtRows f M where
  closed : ∀ a : Int, 0 ≤ a → a < f.Shape.From.length → ∀ e ∈ gr M (gi f.Shape.From a), gi (gr f.Actions a) e ∈ gr M (gi f.Shape.To a)
theorem ptRows_of {f : MSetFunctor} (S : SF f) {M : List (List Int)} (h1 : M.length = f.Sizes.length) (h2 : (ns M.length).all (ptRow f M) = true) : PtRows f M := by
  have hl := S.sl
  rw [List.all_eq_true] at h2
  have key : ∀ x : Int, 0 ≤ x → x < f.Shape.Objects → risesB (gr M x) = true ∧ ∀ y ∈ gr M x, 0 ≤ y ∧ y < gi f.Sizes x := fun x x0 x1 => by
    have := h2 x (ns_mem.2 ⟨x0, by omega⟩)
    unfold ptRow at this
    rw [Bool.and_eq_true, inS_iff] at this
    exact this
  exact ⟨by omega, fun x x0 x1 => rises_pw (key x x0 x1).1, fun x x0 x1 => (key x x0 x1).2⟩
theorem mem_gi {l : List Int} {e : Int} (h : e ∈ l) : ∃ i : Int, 0 ≤ i ∧ i < l.length ∧ gi l i = e := by
  obtain ⟨i, hi, rfl⟩ := List.getElem_of_mem h
  refine ⟨(i : Int), by omega, by omega, ?_⟩
  have := idx_gi (l := l) (j := (i : Int)) (by omega) (by omega)
  rw [idx_nat, List.getElem?_eq_getElem hi] at this
  exact (Option.some.inj this).symm
theorem pt_of {f : MSetFunctor} (S : SF f) {M : List (List Int)} (h : partB f M = true) : Pt f M := by
  unfold partB at h
  simp only [Bool.and_eq_true, beq_iff_eq, Bool.not_eq_true', ns_any_false] at h
  obtain ⟨h1, h2, h3⟩ := h
  refine ⟨ptRows_of S h1 h2, fun a a0 a1 e he => ?_⟩
  have := h3 a a0 a1
  unfold ptBad at this
  rw [ns_any_false] at this
  obtain ⟨i, i0, i1, rfl⟩ := mem_gi he
  have := this i i0 i1
  rw [Bool.not_eq_false', hasB_iff] at this
  exact this
theorem pt_len {f : MSetFunctor} (S : SF f) {M : List (List Int)} (R : PtRows f M) {x : Int} (x0 : 0 ≤ x) (x1 : x < f.Shape.Objects) : (gr M x).length ≤ 16 := by
  have hs := S.s x x0 x1
  have h1 := R.pw x x0 x1
  have h2 := R.bd x x0 x1
  have hsub : (gr M x) ⊆ ns 16 := fun y hy => ns_mem.2 ⟨(h2 y hy).1, by have := (h2 y hy).2; omega⟩
  have hn : (gr M x).Nodup := h1.imp (fun h => by omega)
  have := hn.length_le_of_subset hsub
  rw [ns_length] at this
  exact this
section
variable {f : MSetFunctor} (S : SF f) {M : List (List Int)} (hk : M.length ≤ 1048576) (hr : ∀ y ∈ M, y.length ≤ 1048576)
include S hk hr
theorem implPart : impl_SetFunctor_isPart f (MPart.mk M) = some (partB f M) := by
  have _ := hk
  have hl := S.sl
  have ho := S.cat.o8
  have hm := S.cat.m
  have hal := S.al
  unfold impl_SetFunctor_isPart partB
  show retM (bif ((M.length : Int) != (f.Sizes.length : Int)) then _ else _) = _
  by_cases h1 : M.length = f.Sizes.length
  · rw [bneF (by omega), cond_false, beqT h1, Bool.true_and]
    have hx : ∀ x : Nat, x < M.length → impl_SetFunctor_isPart_L0 f (MPart.mk M) (x : Int) = bif !(ptRow f M x) then some (.ret false) else some (.norm ((x + 1 : Nat) : Int)) := by
      intro x hx
      have hlen := hr _ (gr_mem (l := M) (j := (x : Int)) (by omega) (by omega))
      have hs := S.s (x : Int) (by omega) (by omega)
      unfold impl_SetFunctor_isPart_L0
      show (bif decide ((x : Int) < (M.length : Int)) then (idx M (x : Int) >>= _) else _) = _
      rw [decT (by omega), cond_true, idx_gr (by omega) (by omega), some_bind', implRising _ (by omega), some_bind', S.idxS (by omega) (by omega), some_bind', within _ _ (by omega) (by omega) (by omega), some_bind', cond_some, cond_or, some_bind', w64_nat (by omega)]
      unfold ptRow
      rw [Bool.not_and]
    rw [forb (n := M.length) (fun x => !(ptRow f M x)) hx (by unfold impl_SetFunctor_isPart_L0; show (bif decide ((M.length : Int) < (M.length : Int)) then _ else _) = _; rw [decF (by omega), cond_false]), any_not]
    cases h2 : (ns M.length).all (ptRow f M) with
    | false => rfl
    | true =>
      have R := ptRows_of S h1 h2
      rw [Bool.not_true, cond_false, Bool.true_and]
      have hmm : ∀ {x : Int}, 0 ≤ x → x < f.Shape.Objects → idx M x = some (gr M x) := fun x0 x1 => idx_gr x0 (by rw [R.len]; exact x1)
      have ha : ∀ a : Nat, a < f.Shape.From.length → impl_SetFunctor_isPart_L1 f (MPart.mk M) (a : Int) = bif ptBad f M a then some (.ret false) else some (.norm ((a + 1 : Nat) : Int)) := by
        intro a ha
        have hf := S.cat.fr (f := (a : Int)) (by omega) (by omega)
        have ht := S.cat.to (f := (a : Int)) (by omega) (by omega)
        have l1 := pt_len S R hf.1 hf.2
        have l2 := pt_len S R ht.1 ht.2
        have hi : ∀ i : Nat, i < (gr M (gi f.Shape.From a)).length → impl_SetFunctor_isPart_L2 f (MPart.mk M) (a : Int) (gr f.Actions a) (gr M (gi f.Shape.From a)) (i : Int) = bif !hasB (gr M (gi f.Shape.To a)) (gi (gr f.Actions a) (gi (gr M (gi f.Shape.From a)) i)) then some (.ret false) else some (.norm ((i + 1 : Nat) : Int)) := by
          intro i hi
          have he := R.bd _ hf.1 hf.2 _ (gi_mem (l := gr M (gi f.Shape.From a)) (j := (i : Int)) (by omega) (by omega))
          unfold impl_SetFunctor_isPart_L2
          rw [decT (by omega), cond_true, idx_gi (by omega) (by omega), some_bind', S.cat.idxT (by omega) (by omega), some_bind']
          show (idx M (gi f.Shape.To a) >>= _) = _
          rw [hmm ht.1 ht.2, some_bind', S.at_ (by omega) (by omega) he.1 he.2, some_bind', implHas _ _ (by omega), some_bind', w64_nat (by omega)]
        unfold impl_SetFunctor_isPart_L1
        rw [hal, decT (by omega), cond_true, S.idxA (by omega) (by omega), some_bind', S.cat.idxF (by omega) (by omega), some_bind']
        show (idx M (gi f.Shape.From a) >>= _) = _
        rw [hmm hf.1 hf.2, some_bind', forb (n := (gr M (gi f.Shape.From a)).length) (fun i => !hasB (gr M (gi f.Shape.To a)) (gi (gr f.Actions a) (gi (gr M (gi f.Shape.From a)) i))) hi (by unfold impl_SetFunctor_isPart_L2; rw [decF (by omega), cond_false]), w64_nat (by omega)]
        rfl
      rw [forb (n := f.Shape.From.length) (ptBad f M) ha (by unfold impl_SetFunctor_isPart_L1; rw [hal, decF (by omega), cond_false])]
      cases (ns f.Shape.From.length).any (ptBad f M) <;> rfl
  · rw [bneT (by omega), cond_true, beqF h1]; rfl
end
structure PartSmall (p : MPart) : Prop where
  k : p.Members.length ≤ 1048576
  r : ∀ y ∈ p.Members, y.length ≤ 1048576
/-- a set functor and a part of it -/
def fpB (f : MSetFunctor) (p : MPart) : Bool := sfB f && partB f p.Members
theorem implAreParts {f : MSetFunctor} {p : MPart} (hf : SFSmall f) (hp : PartSmall p) : impl_areParts f [p] = some (fpB f p) := by
  unfold impl_areParts fpB
  rw [implIsF hf, some_bind']
  cases h : sfB f with
  | false => rfl
  | true =>
    have h0 : impl_areParts_L0 f [p] ((0 : Nat) : Int) = bif !(partB f p.Members) then some (.ret false) else some (.norm ((0 + 1 : Nat) : Int)) := by
      unfold impl_areParts_L0
      have : idx [p] ((0 : Nat) : Int) = some p := by rw [idx_nat]; rfl
      rw [decT (by simp), cond_true, this, some_bind']
      have e := implPart (sf_of h) hp.k hp.r
      rw [show MPart.mk p.Members = p by cases p; rfl] at e
      rw [e, some_bind', w64_nat (by omega)]
    rw [Bool.not_true, cond_false, forb (n := 1) (fun _ => !(partB f p.Members)) (fun i hi => by obtain rfl : i = 0 := (by omega); exact h0) (by unfold impl_areParts_L0; rw [decF (by simp), cond_false])]
    have : (ns 1).any (fun _ => !(partB f p.Members)) = !(partB f p.Members) := by simp [ns]
    rw [this]
    cases partB f p.Members <;> rfl
/-- the sieve of the arrows whose image of an element belongs to a part -/
def holdS (f : MSetFunctor) (M : List (List Int)) (x e : Int) : List Int := (outS f.Shape x).filter fun a => hasB (gr M (gi f.Shape.To a)) (gi (gr f.Actions a) e)
theorem hold_mem {f : MSetFunctor} {M : List (List Int)} {x e a : Int} : a ∈ holdS f M x e ↔ ((0 ≤ a ∧ a < f.Shape.From.length) ∧ gi f.Shape.From a = x) ∧ gi (gr f.Actions a) e ∈ gr M (gi f.Shape.To a) := by
  unfold holdS
  rw [List.mem_filter, outS_mem, hasB_iff]
section
variable {f : MSetFunctor} (S : SF f) {M : List (List Int)} (P : Pt f M) {x e : Int} (x0 : 0 ≤ x) (x1 : x < f.Shape.Objects) (e0 : 0 ≤ e) (e1 : e < gi f.Sizes x)
include S P x0 x1 e0 e1
theorem hold_sv : Sv f.Shape x (holdS f M x e) := by
  have _ := x0
  have _ := x1
  refine ⟨?_, fun y hy => (hold_mem.1 hy).1.2, fun a ha b b0 b1 hab => ?_⟩
  · unfold holdS outS
    rw [List.filter_filter]
    exact filter_form
  · obtain ⟨⟨⟨a0, a1⟩, ax⟩, am⟩ := hold_mem.1 ha
    have hc := S.cat.cell a b a0 a1 b0 b1 hab
    refine hold_mem.2 ⟨⟨⟨hc.1, hc.2.1⟩, by rw [hc.2.2.1, ax]⟩, ?_⟩
    rw [hc.2.2.2, S.comp a b e a0 a1 b0 b1 hab e0 (by rw [ax]; exact e1)]
    exact P.closed b b0 b1 _ (by rw [← hab]; exact am)
end
/-- lengths that a law's arguments have; the law's words on parts -/
structure PartLens (p : MPart) : Prop where
  k : p.Members.length ≤ 9223372036854775807
  r : ∀ y ∈ p.Members, y.length ≤ 9223372036854775807
def ptSize (p : MPart) : Nat := p.Members.length + tot p.Members
theorem ptSmall_of {p : MPart} (h : ptSize p ≤ 1048576) : PartSmall p := by
  unfold ptSize at h
  exact ⟨by omega, fun y hy => by have := tot_row hy; omega⟩
theorem ptCells_size (p : MPart) : s2 p.Members ≤ ptSize p := by
  unfold ptSize
  rw [s2_eq]; omega
end Go.Proofs.YtbedkejmebepcaaGreat
namespace Go.Proofs.YtbedkejmebepcaaGreat
open Go Go.Li

def allowS (f : MSetFunctor) (q : Int → Int → Bool) : List (List Int) := mapI f.Sizes.length fun x => (ns (gi f.Sizes x).toNat).filter (q x)
theorem implPartOf {f : MSetFunctor} (S : SF f) {p : Int → Int → Option Bool} {q : Int → Int → Bool} (hp : ∀ x e : Int, 0 ≤ x → x < f.Shape.Objects → 0 ≤ e → e < gi f.Sizes x → p x e = some (q x e)) : impl_partOf f p = some (MPart.mk (allowS f q)) := by
  have hl := S.sl
  have ho := S.cat.o8
  unfold impl_partOf
  refine (congrArg retM (map_loop f.Sizes.length (fun x => (ns (gi f.Sizes x).toNat).filter (q x)) (fun acc i => ((i : Int), acc)) rfl ?_ ?_)).trans rfl
  · intro x acc hx ha
    have hs := S.s (x : Int) (by omega) (by omega)
    show impl_partOf_L0 f p x acc = _
    unfold impl_partOf_L0
    rw [decT (by omega), cond_true, S.idxS (by omega) (by omega), some_bind']
    refine (keep_loop (ns (gi f.Sizes x).toNat) (q x) (fun acc i => (acc, (i : Int))) rfl ?_ ?_).trans ?_
    · intro e e' acc2 he hacc
      obtain ⟨rfl, hi⟩ := ns_get he
      show impl_partOf_L1 p x (gi f.Sizes x) acc2 e = _
      unfold impl_partOf_L1
      rw [decT (by omega), cond_true, hp x e (by omega) (by omega) (by omega) (by omega), some_bind', fits_ok (by omega) (by omega), some_bind', w64_nat (by omega)]
      cases q (x : Int) (e : Int) <;> rfl
    · intro acc2
      show impl_partOf_L1 p x (gi f.Sizes x) acc2 _ = _
      unfold impl_partOf_L1
      rw [ns_length, decF (by omega), cond_false]
    · dsimp only
      rw [fits_ok (by omega) (by omega), some_bind', w64_nat (by omega)]
  · intro acc ha
    show impl_partOf_L0 f p _ acc = _
    unfold impl_partOf_L0
    rw [decF (by omega), cond_false]
theorem allow_small {f : MSetFunctor} (S : SF f) (q : Int → Int → Bool) : PartSmall (MPart.mk (allowS f q)) := by
  have hl := S.sl
  have ho := S.cat.o8
  refine ⟨by show (allowS f q).length ≤ _; unfold allowS; rw [mapI_length]; omega, fun y hy => ?_⟩
  obtain ⟨x, ⟨x0, x1⟩, rfl⟩ := mapI_mem.1 (show y ∈ mapI f.Sizes.length _ from hy)
  have hs := S.s x x0 (by omega)
  have := List.length_filter_le (q x) (ns (gi f.Sizes x).toNat)
  rw [ns_length] at this
  omega
theorem allow_cells {f : MSetFunctor} (S : SF f) (q : Int → Int → Bool) : s2 (allowS f q) ≤ 8 * 1048576 := by
  have h := allow_small S q
  have hl := S.sl
  have ho := S.cat.o8
  have b := s2_le 1048576 h.r
  have c : (allowS f q).length * 1048576 ≤ 8 * 1048576 := Nat.mul_le_mul_right _ (by unfold allowS; rw [mapI_length]; omega)
  exact Nat.le_trans b c
end Go.Proofs.YtbedkejmebepcaaGreat
namespace Go.Proofs.YtbedkejmebepcaaGreat
open Go Go.Li

/-- has a part all elements -/
def fullB (f : MSetFunctor) (M : List (List Int)) : Bool := !((ns M.length).any fun x => ((gr M x).length : Int) != gi f.Sizes x)
theorem implWhole {f : MSetFunctor} (S : SF f) {M : List (List Int)} (hl : M.length = f.Sizes.length) : impl_SetFunctor_whole f (MPart.mk M) = some (fullB f M) := by
  have h1 := S.sl
  have ho := S.cat.o8
  unfold impl_SetFunctor_whole
  rw [forb (n := M.length) (fun x => ((gr M x).length : Int) != gi f.Sizes x) (fun x hx => by
    unfold impl_SetFunctor_whole_L0
    show (bif decide ((x : Int) < (M.length : Int)) then (idx M (x : Int) >>= _) else _) = _
    rw [decT (by omega), cond_true, idx_gr (by omega) (by omega), some_bind', S.idxS (by omega) (by omega), some_bind', w64_nat (by omega)]) (by unfold impl_SetFunctor_whole_L0; show (bif decide ((M.length : Int) < (M.length : Int)) then _ else _) = _; rw [decF (by omega), cond_false])]
  unfold fullB
  cases (ns M.length).any fun x => ((gr M x).length : Int) != gi f.Sizes x <;> rfl
/-- a part of all elements that are allowed -/
theorem full_iff {f : MSetFunctor} (S : SF f) (q : Int → Int → Bool) : fullB f (allowS f q) = true ↔ ∀ x e : Int, 0 ≤ x → x < f.Shape.Objects → 0 ≤ e → e < gi f.Sizes x → q x e = true := by
  have hl := S.sl
  have hn : (allowS f q).length = f.Sizes.length := by unfold allowS; rw [mapI_length]
  have hg : ∀ x : Int, 0 ≤ x → x < f.Shape.Objects → gr (allowS f q) x = (ns (gi f.Sizes x).toNat).filter (q x) := fun x x0 x1 => by
    have h := idx_gr (l := allowS f q) (j := x) x0 (by omega)
    obtain ⟨n, rfl⟩ : ∃ n : Nat, x = n := ⟨x.toNat, by omega⟩
    rw [idx_nat] at h
    unfold allowS at h ⊢
    rw [mapI_get _ (by omega)] at h
    exact (Option.some.inj h).symm
  unfold fullB
  rw [Bool.not_eq_true', ns_any_false]
  constructor
  · intro h x e x0 x1 e0 e1
    have := h x x0 (by omega)
    rw [hg x x0 x1] at this
    have hs := S.s x x0 x1
    have hle : ((ns (gi f.Sizes x).toNat).filter (q x)).length = (ns (gi f.Sizes x).toNat).length := by
      rw [ns_length]
      have : (((ns (gi f.Sizes x).toNat).filter (q x)).length : Int) = gi f.Sizes x := by simpa using this
      omega
    exact List.length_filter_eq_length_iff.1 hle e (ns_mem.2 ⟨e0, by omega⟩)
  · intro h x x0 x1
    have hs := S.s x x0 (by omega)
    rw [hg x x0 (by omega), List.filter_eq_self.2 fun e he => h x e x0 (by omega) (ns_mem.1 he).1 (by have := (ns_mem.1 he).2; omega), ns_length]
    exact bneF (by omega)
end Go.Proofs.YtbedkejmebepcaaGreat
namespace Go.Proofs.YtbedkejmebepcaaGreat
open Go Go.Li

theorem sfCells_size (f : MSetFunctor) : sfCells f ≤ sfSize f := by
  unfold sfCells sfSize catSize
  rw [s2_eq, s2_eq]; omega
section
variable {c : MCategory} {ls : List (List (List Int))} (T : Tab c ls)
include T
theorem gi_sizes {x : Int} (h0 : 0 ≤ x) (h1 : x < ls.length) : gi (sizesOf ls) x = ((gl ls x).length : Int) := by
  have _ := T
  have e := idx_gi (l := sizesOf ls) (j := x) h0 (by unfold sizesOf; rw [List.length_map]; exact h1)
  have e2 : idx (sizesOf ls) x = some ((gl ls x).length : Int) := by
    have := idx_gl (l := ls) (j := x) h0 h1
    rw [idx_of h0] at this ⊢
    unfold sizesOf
    rw [List.getElem?_map, this]; rfl
  rw [e] at e2
  exact Option.some.inj e2
/-- the classifier, as a set functor -/
abbrev omegaF (c : MCategory) (ls : List (List (List Int))) : MSetFunctor := MSetFunctor.mk c (sizesOf ls) (acts c ls)
theorem omegaSmall (hc : CatSmall c) : SFSmall (omegaF c ls) := by
  have h8 := T.len8
  have hm := T.cat.m
  refine ⟨hc, by show (sizesOf ls).length ≤ _; unfold sizesOf; rw [List.length_map]; omega, by show (acts c ls).length ≤ _; unfold acts; rw [mapI_length]; omega, fun y hy => ?_⟩
  obtain ⟨a, ⟨a0, a1⟩, rfl⟩ := mapI_mem.1 (show y ∈ mapI c.From.length (act c ls) from hy)
  have hf := T.fr a0 a1
  have h16 := T.l16 hf.1 hf.2
  unfold act
  rw [List.length_map]; omega
/-- the number of the greatest sieve -/
def tp (c : MCategory) (ls : List (List (List Int))) (x : Int) : Int := placeS (gl ls x) (outS c x)
theorem tp_range {x : Int} (h0 : 0 ≤ x) (h1 : x < ls.length) : 0 ≤ tp c ls x ∧ tp c ls x < (gl ls x).length := by
  obtain ⟨j, e, hj⟩ := place_some (T.out h0 h1)
  have := getElem?_lt hj
  unfold tp; omega
end
end Go.Proofs.YtbedkejmebepcaaGreat
