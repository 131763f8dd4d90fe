/- The topology of a modality: the reference and the program agree; the law of TopologyOfModality, on plain data. No condition beside those that each theorem names. -/
import Derived.Test.YtdlhbbhdfnnmnaaGreatRx
import Derived.Test.YtdlhbbhdfnnmnaaGreatRe
namespace Go.Proofs.YtdlhbbhdfnnmnaaGreat
open Go Go.Li

/-- the arrows of both -/
def meetS (a b : List Int) : List Int := a.filter (hasB b)
theorem specMeet (a b : List Int) (ha : a.length ≤ 1048576) (hb : b.length ≤ 1048576000) : spec_l27Meet a b = some (meetS a b) := by
  unfold spec_l27Meet
  refine (congrArg retM (keep_loop a (hasB b) (fun acc i => (acc, (i : Int))) rfl ?_ ?_)).trans rfl
  · intro i x acc hx hacc
    have hi := getElem?_lt hx
    show spec_l27Meet_L0 a b acc i = _
    unfold spec_l27Meet_L0
    rw [decT (by omega), cond_true, idx_nat, hx, some_bind', specHas _ _ hb, some_bind', some_bind', fits_ok (by omega) (by omega), some_bind', w64_nat (by omega)]
    cases hasB b x <;> rfl
  · intro acc
    show spec_l27Meet_L0 a b acc _ = _
    unfold spec_l27Meet_L0
    rw [decF (by omega), cond_false]
theorem implMeet (a b : List Int) (ha : a.length ≤ 1048576) (hb : b.length ≤ 1048576000) : impl_intersection a b = some (meetS a b) := by
  unfold impl_intersection
  refine (congrArg retM (keep_loop a (hasB b) (fun acc i => (acc, (i : Int))) rfl ?_ ?_)).trans rfl
  · intro i x acc hx hacc
    have hi := getElem?_lt hx
    show impl_intersection_L0 a b acc i = _
    unfold impl_intersection_L0
    rw [decT (by omega), cond_true, idx_nat, hx, some_bind', implHas _ _ hb, some_bind', fits_ok (by omega) (by omega), some_bind', w64_nat (by omega)]
    cases hasB b x <;> rfl
  · intro acc
    show impl_intersection_L0 a b acc _ = _
    unfold impl_intersection_L0
    rw [decF (by omega), cond_false]
theorem meet_self (a : List Int) : meetS a a = a := by
  unfold meetS
  rw [List.filter_eq_self]
  intro x hx
  exact hasB_iff.2 hx
theorem meet_form {c : MCategory} {x : Int} {s t : List Int} (hs : Sv c x s) : meetS s t = (ns c.From.length).filter fun a => hasB s a && hasB t a := by
  unfold meetS
  conv => lhs; rw [hs.form]
  rw [List.filter_filter]
  apply List.filter_congr
  intro a _
  rw [Bool.and_comm]
theorem meet_comm {c : MCategory} {x : Int} {s t : List Int} (hs : Sv c x s) (ht : Sv c x t) : meetS s t = meetS t s := by
  rw [meet_form hs, meet_form ht]
  apply List.filter_congr
  intro a _
  rw [Bool.and_comm]
theorem meet_sv {c : MCategory} {x : Int} {s t : List Int} (hs : Sv c x s) (ht : Sv c x t) : Sv c x (meetS s t) := by
  refine ⟨?_, fun y hy => ?_, fun y hy b b0 b1 hb => ?_⟩
  · rw [meet_form hs]; exact filter_form
  · exact hs.src y (List.mem_filter.1 hy).1
  · obtain ⟨h1, h2⟩ := List.mem_filter.1 hy
    exact List.mem_filter.2 ⟨hs.closed y h1 b b0 b1 hb, hasB_iff.2 (ht.closed y (hasB_iff.1 h2) b b0 b1 hb)⟩
/-- one list of indexes behind another one -/
def thenS (a b : List Int) : List Int := mapI a.length fun i => gi b (gi a i)
theorem implThen (a b : List Int) (ha : a.length ≤ 1048576) (hb : ∀ x ∈ a, 0 ≤ x ∧ x < b.length) : impl_then a b = some (thenS a b) := by
  unfold impl_then
  rw [mk_ok (by omega) (by omega), some_bind']
  have hl : (thenS a b).length = a.length := mapI_length _ _
  refine (congrArg retM (for_all (ns a.length) (fun i => ((i : Int), (thenS a b).take i ++ List.replicate (a.length - i) (0 : Int))) (by simp) ?_ (e := ((a.length : Int), thenS a b)) ?_)).trans rfl
  · intro i x hx
    obtain ⟨rfl, hi⟩ := ns_get hx
    have hg : (thenS a b)[i]? = some (gi b (gi a i)) := mapI_get _ hi
    have hm := hb _ (gi_mem (l := a) (j := (i : Int)) (by omega) (by omega))
    have hc := set_copy (thenS a b) (0 : Int) hg
    have hgc := get_copy (thenS a b) (0 : Int) hg
    rw [hl] at hc hgc
    show impl_then_L0 a b (i : Int) _ = _
    unfold impl_then_L0
    rw [decT (by omega), cond_true, idx_gi (by omega) (by omega), some_bind', idx_gi hm.1 hm.2, some_bind', idx_nat, hgc, some_bind', w64_nat (by omega), Int.toNat_natCast, hc]
  · rw [ns_length]
    show impl_then_L0 a b _ _ = _
    unfold impl_then_L0
    rw [decF (by omega), cond_false, Nat.sub_self, List.take_of_length_le (by omega)]
    simp
section
variable {c : MCategory} {ls : List (List (List Int))} (T : Tab c ls)
include T
theorem specCat0 (hs : CatSmall c) (hcat : catB c = true) : spec_l27Category c = some (TB c ls, marksP ls (fun _ _ => false), 0) := by
  have H := T.cat
  have h := T.lists
  have ho := H.o0
  have ho8 := H.o8
  have hlen := h.len
  unfold spec_l27Category
  rw [specIs hs, some_bind', hcat, Bool.not_true, cond_false, specTable H hs h, some_bind']
  simp only [Bool.not_true, cond_false]
  refine (congrArg retM (map_loop ls.length (fun x => (gl ls x).map (fun _ => false)) (fun acc i => (acc, (i : Int))) rfl ?_ ?_)).trans rfl
  · intro i acc hi ha
    have hl := T.l16 (x := (i : Int)) (by omega) (by omega)
    show spec_l27Category_L0 _ acc i = _
    unfold spec_l27Category_L0
    dsimp only
    rw [decT (by omega), cond_true, idx_gl (by omega) (by omega), some_bind', mk_ok (by omega) (by omega), some_bind', fits_ok (by omega) (by omega), some_bind', w64_nat (by omega), List.map_const']
  · intro acc ha
    show spec_l27Category_L0 _ acc _ = _
    unfold spec_l27Category_L0
    dsimp only
    rw [decF (by omega), cond_false]
theorem gi_sizes {x : Int} (h0 : 0 ≤ x) (h1 : x < ls.length) : gi (sizesOf ls) x = ((gl ls x).length : Int) := by
  have _ := T
  have e := idx_gi (l := sizesOf ls) (j := x) h0 (by unfold sizesOf; rw [List.length_map]; exact h1)
  have e2 : idx (sizesOf ls) x = some ((gl ls x).length : Int) := by
    have := idx_gl (l := ls) (j := x) h0 h1
    rw [idx_of h0] at this ⊢
    unfold sizesOf
    rw [List.getElem?_map, this]; rfl
  rw [e] at e2
  exact Option.some.inj e2
/-- the classifier, as a set functor -/
abbrev omegaF (c : MCategory) (ls : List (List (List Int))) : MSetFunctor := MSetFunctor.mk c (sizesOf ls) (acts c ls)
theorem omegaSmall (hc : CatSmall c) : SFSmall (omegaF c ls) := by
  have h8 := T.len8
  have hm := T.cat.m
  refine ⟨hc, by show (sizesOf ls).length ≤ _; unfold sizesOf; rw [List.length_map]; omega, by show (acts c ls).length ≤ _; unfold acts; rw [mapI_length]; omega, fun y hy => ?_⟩
  obtain ⟨a, ⟨a0, a1⟩, rfl⟩ := mapI_mem.1 (show y ∈ mapI c.From.length (act c ls) from hy)
  have hf := T.fr a0 a1
  have h16 := T.l16 hf.1 hf.2
  unfold act
  rw [List.length_map]; omega
/-- the number of the greatest sieve -/
def tp (c : MCategory) (ls : List (List (List Int))) (x : Int) : Int := placeS (gl ls x) (outS c x)
def pairB (ls : List (List (List Int))) (P : Int → List Int) (x k i : Int) : Bool :=
  gr (gl ls x) (gi (P x) (placeS (gl ls x) (meetS (gr (gl ls x) k) (gr (gl ls x) i)))) == meetS (gr (gl ls x) (gi (P x) k)) (gr (gl ls x) (gi (P x) i))
def badS (c : MCategory) (ls : List (List (List Int))) (P : Int → List Int) (x : Int) : Bool :=
  (gi (P x) (tp c ls x) != tp c ls x) || (ns (gl ls x).length).any fun k => (gi (P x) (gi (P x) k) != gi (P x) k) || (ns k.toNat).any fun i => !pairB ls P x k i
def badI (c : MCategory) (ls : List (List (List Int))) (P : Int → List Int) (x : Int) : Bool :=
  (gi (P x) (tp c ls x) != tp c ls x) || (!(thenS (P x) (P x) == P x) || (ns (gl ls x).length).any fun k => (ns (gl ls x).length).any fun i => !pairB ls P x k i)
theorem tp_range {x : Int} (h0 : 0 ≤ x) (h1 : x < ls.length) : 0 ≤ tp c ls x ∧ tp c ls x < (gl ls x).length := by
  obtain ⟨j, e, hj⟩ := place_some (T.out h0 h1)
  have := getElem?_lt hj
  unfold tp; omega
/-- maps of the sieves at each object into themselves -/
structure Self (ls : List (List (List Int))) (parts : List (List Int)) : Prop where
  len : parts.length = ls.length
  row : ∀ x : Int, 0 ≤ x → x < ls.length → (gr parts x).length = (gl ls x).length ∧ ∀ y ∈ gr parts x, 0 ≤ y ∧ y < (gl ls x).length
variable {parts : List (List Int)} (S : Self ls parts)
include S
omit T in
theorem self_at {x k : Int} (h0 : 0 ≤ x) (h1 : x < ls.length) (k0 : 0 ≤ k) (k1 : k < (gl ls x).length) : idx (gr parts x) k = some (gi (gr parts x) k) ∧ 0 ≤ gi (gr parts x) k ∧ gi (gr parts x) k < (gl ls x).length := by
  have hr := S.row x h0 h1
  exact ⟨idx_gi k0 (by omega), hr.2 _ (gi_mem k0 (by omega))⟩
theorem bad_eq {x : Int} (h0 : 0 ≤ x) (h1 : x < ls.length) : badS c ls (gr parts) x = badI c ls (gr parts) x := by
  have hr := S.row x h0 h1
  have h16 := T.l16 h0 h1
  have key : ((ns (gl ls x).length).any fun k => (gi (gr parts x) (gi (gr parts x) k) != gi (gr parts x) k) || (ns k.toNat).any fun i => !pairB ls (gr parts) x k i) =
      (!(thenS (gr parts x) (gr parts x) == gr parts x) || (ns (gl ls x).length).any fun k => (ns (gl ls x).length).any fun i => !pairB ls (gr parts) x k i) := by
    have sv : ∀ k : Int, 0 ≤ k → k < (gl ls x).length → Sv c x (gr (gl ls x) k) := fun k k0 k1 => (T.mem h0 h1).1 (gr_mem k0 k1)
    have hcomm : ∀ k i : Int, 0 ≤ k → k < (gl ls x).length → 0 ≤ i → i < (gl ls x).length → pairB ls (gr parts) x k i = pairB ls (gr parts) x i k := by
      intro k i k0 k1 i0 i1
      have a1 := (self_at S h0 h1 k0 k1).2
      have a2 := (self_at S h0 h1 i0 i1).2
      unfold pairB
      rw [meet_comm (sv k k0 k1) (sv i i0 i1), meet_comm (sv _ a1.1 a1.2) (sv _ a2.1 a2.2)]
    have hself : ∀ k : Int, 0 ≤ k → k < (gl ls x).length → pairB ls (gr parts) x k k = true := by
      intro k k0 k1
      unfold pairB
      have e : placeS (gl ls x) (gr (gl ls x) k) = k := by
        have hk : (gl ls x)[k.toNat]? = some (gr (gl ls x) k) := by
          have := idx_gr (l := gl ls x) k0 k1
          rw [idx_of k0] at this; exact this
        rw [place_at (T.nodup h0 h1) hk]; omega
      rw [meet_self, meet_self, e, beq_self_eq_true]
    have hthen : (thenS (gr parts x) (gr parts x) == gr parts x) = true ↔ ∀ k : Int, 0 ≤ k → k < (gl ls x).length → gi (gr parts x) (gi (gr parts x) k) = gi (gr parts x) k := by
      rw [beq_iff_eq]
      constructor
      · intro h k k0 k1
        have g1 : (thenS (gr parts x) (gr parts x))[k.toNat]? = some (gi (gr parts x) (gi (gr parts x) k)) := by
          have := mapI_get (n := (gr parts x).length) (i := k.toNat) (fun i => gi (gr parts x) (gi (gr parts x) i)) (by omega)
          rw [show ((k.toNat : Nat) : Int) = k by omega] at this
          exact this
        have g2 := (self_at S h0 h1 k0 k1).1
        rw [idx_of k0] at g2
        rw [h, g2] at g1
        exact (Option.some.inj g1).symm
      · intro h
        apply List.ext_getElem?
        intro i
        by_cases hi : i < (gr parts x).length
        · have g2 := (self_at S h0 h1 (k := (i : Int)) (by omega) (by omega)).1
          rw [idx_nat] at g2
          unfold thenS
          rw [mapI_get _ hi, g2, h i (by omega) (by omega)]
        · rw [List.getElem?_eq_none (by unfold thenS; rw [mapI_length]; omega), List.getElem?_eq_none (by omega)]
    have eqf : ∀ a b : Bool, (a = false ↔ b = false) → a = b := by decide
    apply eqf
    simp only [Bool.or_eq_false_iff, ns_any_false, Bool.not_eq_false', bne_eq_false_iff_eq]
    rw [hthen]
    constructor
    · intro h
      refine ⟨fun k k0 k1 => (h k k0 k1).1, fun k k0 k1 i i0 i1 => ?_⟩
      rcases Int.lt_trichotomy i k with hlt | rfl | hlt
      · exact (h k k0 k1).2 i i0 (by omega)
      · exact hself i i0 i1
      · rw [hcomm k i k0 k1 i0 i1]
        exact (h i i0 i1).2 k k0 (by omega)
    · rintro ⟨h2, h3⟩ k k0 k1
      exact ⟨h2 k k0 k1, fun i i0 i1 => h3 k k0 k1 i i0 (by omega)⟩
  unfold badS badI
  rw [key]
theorem specModal : spec_l27Modal (TB c ls) parts = some (!((ns ls.length).any (badS c ls (gr parts)))) := by
  have h8 := T.len8
  unfold spec_l27Modal
  have hx : ∀ x : Nat, x < ls.length → spec_l27Modal_L0 (TB c ls) parts (x : Int) = bif badS c ls (gr parts) x then some (.ret false) else some (.norm ((x + 1 : Nat) : Int)) := by
    intro x hx
    have h0 : (0 : Int) ≤ x := by omega
    have h1 : (x : Int) < ls.length := by omega
    have h16 := T.l16 h0 h1
    have ht := tp_range T h0 h1
    have st := self_at S h0 h1 ht.1 ht.2
    have ip : idx parts (x : Int) = some (gr parts x) := idx_gr h0 (by rw [S.len]; exact h1)
    have il : idx ls (x : Int) = some (gl ls x) := idx_gl h0 h1
    have itp : idx (tops c ls) (x : Int) = some (tp c ls x) := T.tops_at h0 h1
    have hk : ∀ k : Nat, k < (gl ls x).length → spec_l27Modal_L1 (TB c ls) parts (x : Int) (k : Int) = bif ((gi (gr parts x) (gi (gr parts x) k) != gi (gr parts x) k) || (ns (k : Int).toNat).any fun i => !pairB ls (gr parts) x k i) then some (.ret false) else some (.norm ((k + 1 : Nat) : Int)) := by
      intro k hk
      have sk := self_at S h0 h1 (k := (k : Int)) (by omega) (by omega)
      have skk := self_at S h0 h1 sk.2.1 sk.2.2
      have vk := gr_mem (l := gl ls x) (j := (k : Int)) (by omega) (by omega)
      have lk := T.s40 h0 h1 vk
      have ik : idx (gl ls x) (k : Int) = some (gr (gl ls x) k) := idx_gr (by omega) (by omega)
      have hi : ∀ i : Nat, i < (k : Int).toNat → spec_l27Modal_L2 (TB c ls) parts (x : Int) (k : Int) (i : Int) = bif !pairB ls (gr parts) x k i then some (.ret false) else some (.norm ((i + 1 : Nat) : Int)) := by
        intro i hi
        have si := self_at S h0 h1 (k := (i : Int)) (by omega) (by omega)
        have vi := gr_mem (l := gl ls x) (j := (i : Int)) (by omega) (by omega)
        have li := T.s40 h0 h1 vi
        have ii : idx (gl ls x) (i : Int) = some (gr (gl ls x) i) := idx_gr (by omega) (by omega)
        have hmm := (T.mem h0 h1).2 (meet_sv ((T.mem h0 h1).1 vk) ((T.mem h0 h1).1 vi))
        obtain ⟨j, ej, hj⟩ := place_some hmm
        have hjl := getElem?_lt hj
        have sm := self_at S h0 h1 (k := placeS (gl ls x) (meetS (gr (gl ls x) k) (gr (gl ls x) i))) (by omega) (by omega)
        have lpk := T.s40 h0 h1 (gr_mem (l := gl ls x) sk.2.1 sk.2.2)
        have lpi := T.s40 h0 h1 (gr_mem (l := gl ls x) si.2.1 si.2.2)
        have lm := T.s40 h0 h1 (gr_mem (l := gl ls x) sm.2.1 sm.2.2)
        unfold spec_l27Modal_L2
        show (bif decide ((i : Int) < (k : Int)) then (idx ls (x : Int) >>= _) else _) = _
        simp only [decT (show (i : Int) < (k : Int) by omega), cond_true, il, some_bind', ik, ii, specMeet _ _ (show (gr (gl ls x) k).length ≤ 1048576 by omega) (show (gr (gl ls x) i).length ≤ 1048576000 by omega), specFind _ _ (show (gl ls x).length ≤ 1048576000 by omega) (fun z hz => by have := T.s40 h0 h1 hz; omega),
          ip, sm.1, idx_gr sm.2.1 sm.2.2, sk.1, idx_gr sk.2.1 sk.2.2, si.1, idx_gr si.2.1 si.2.2, specMeet _ _ (show (gr (gl ls x) (gi (gr parts x) k)).length ≤ 1048576 by omega) (show (gr (gl ls x) (gi (gr parts x) i)).length ≤ 1048576000 by omega), specSame _ _ (show (gr (gl ls x) (gi (gr parts x) (placeS (gl ls x) (meetS (gr (gl ls x) k) (gr (gl ls x) i))))).length ≤ 1048576000 by omega), w64_nat (show i < 9223372036854775807 by omega)]
        rfl
      unfold spec_l27Modal_L1
      show (idx ls (x : Int) >>= _) = _
      rw [il, some_bind', decT (by omega), cond_true]
      simp only [ip, some_bind', sk.1, skk.1]
      rw [forb (n := (k : Int).toNat) (fun i => !pairB ls (gr parts) x k i) hi (by unfold spec_l27Modal_L2; rw [decF (by omega), cond_false]), w64_nat (by omega)]
      cases gi (gr parts x) (gi (gr parts x) k) != gi (gr parts x) k <;> rfl
    unfold spec_l27Modal_L0
    show (bif decide ((x : Int) < (ls.length : Int)) then (idx parts (x : Int) >>= fun e14 => idx (tops c ls) (x : Int) >>= _) else _) = _
    rw [decT (by omega), cond_true, ip, some_bind', itp, some_bind', st.1, some_bind']
    rw [some_bind']
    rw [forb (n := (gl ls x).length) (fun k => (gi (gr parts x) (gi (gr parts x) k) != gi (gr parts x) k) || (ns k.toNat).any fun i => !pairB ls (gr parts) x k i) hk (by unfold spec_l27Modal_L1; show (idx ls (x : Int) >>= _) = _; rw [il, some_bind', decF (by omega), cond_false]), w64_nat (by omega)]
    unfold badS
    cases gi (gr parts x) (tp c ls x) != tp c ls x <;> rfl
  rw [forb (n := ls.length) (badS c ls (gr parts)) hx (by unfold spec_l27Modal_L0; show (bif decide ((ls.length : Int) < (ls.length : Int)) then _ else _) = _; rw [decF (by omega), cond_false])]
  cases (ns ls.length).any (badS c ls (gr parts)) <;> rfl
theorem implModal (n : Int) (p : Int → List Int → Bool) (m : MSetMap) (hm : m.Parts = parts) : (impl_classifier_tops (KK c ls p n).Classifier >>= fun y19 => lbind (S := Unit) (blockM 0 (loopM (impl_coverage_isModality_L0 (KK c ls p n) m y19) (0 : Int))) fun _ => some (.ret true)) = some (.ret (!((ns ls.length).any (badI c ls (gr parts))))) := by
  have h8 := T.len8
  have htops : impl_classifier_tops (KK c ls p n).Classifier = some (tops c ls) := implTops T (sizesOf ls) [] (acts c ls)
  rw [htops, some_bind']
  have tl : (tops c ls).length = ls.length := mapI_length _ _
  have hx : ∀ x : Nat, x < ls.length → impl_coverage_isModality_L0 (KK c ls p n) m (tops c ls) (x : Int) = bif badI c ls (gr parts) x then some (.ret false) else some (.norm ((x + 1 : Nat) : Int)) := by
    intro x hx
    have h0 : (0 : Int) ≤ x := by omega
    have h1 : (x : Int) < ls.length := by omega
    have h16 := T.l16 h0 h1
    have ht := tp_range T h0 h1
    have st := self_at S h0 h1 ht.1 ht.2
    have hr := S.row x h0 h1
    have ip : idx m.Parts (x : Int) = some (gr parts x) := by rw [hm]; exact idx_gr h0 (by rw [S.len]; exact h1)
    have il : idx ls (x : Int) = some (gl ls x) := idx_gl h0 h1
    have itp : idx (tops c ls) (x : Int) = some (tp c ls x) := T.tops_at h0 h1
    have hk : ∀ k : Nat, k < (gl ls x).length → impl_coverage_isModality_L1 (KK c ls p n) (x : Int) (gr parts x) (gl ls x) (k : Int) = bif ((ns (gl ls x).length).any fun i => !pairB ls (gr parts) x k i) then some (.ret false) else some (.norm ((k + 1 : Nat) : Int)) := by
      intro k hk
      have sk := self_at S h0 h1 (k := (k : Int)) (by omega) (by omega)
      have vk := gr_mem (l := gl ls x) (j := (k : Int)) (by omega) (by omega)
      have lk := T.s40 h0 h1 vk
      have ik : idx (gl ls x) (k : Int) = some (gr (gl ls x) k) := idx_gr (by omega) (by omega)
      have hi : ∀ i : Nat, i < (gl ls x).length → impl_coverage_isModality_L2 (KK c ls p n) (x : Int) (gr parts x) (gl ls x) (k : Int) (i : Int) = bif !pairB ls (gr parts) x k i then some (.ret false) else some (.norm ((i + 1 : Nat) : Int)) := by
        intro i hi
        have si := self_at S h0 h1 (k := (i : Int)) (by omega) (by omega)
        have vi := gr_mem (l := gl ls x) (j := (i : Int)) (by omega) (by omega)
        have li := T.s40 h0 h1 vi
        have ii : idx (gl ls x) (i : Int) = some (gr (gl ls x) i) := idx_gr (by omega) (by omega)
        have hmm := (T.mem h0 h1).2 (meet_sv ((T.mem h0 h1).1 vk) ((T.mem h0 h1).1 vi))
        obtain ⟨j, ej, hj⟩ := place_some hmm
        have hjl := getElem?_lt hj
        have sm := self_at S h0 h1 (k := placeS (gl ls x) (meetS (gr (gl ls x) k) (gr (gl ls x) i))) (by omega) (by omega)
        have lpk := T.s40 h0 h1 (gr_mem (l := gl ls x) sk.2.1 sk.2.2)
        have lpi := T.s40 h0 h1 (gr_mem (l := gl ls x) si.2.1 si.2.2)
        have lm := T.s40 h0 h1 (gr_mem (l := gl ls x) sm.2.1 sm.2.2)
        have lmm := T.s40 h0 h1 hmm
        have hnum : impl_classifier_number (KK c ls p n).Classifier (x : Int) (meetS (gr (gl ls x) k) (gr (gl ls x) i)) = some (placeS (gl ls x) (meetS (gr (gl ls x) k) (gr (gl ls x) i))) := number T.cat (k := (KK c ls p n).Classifier) h0 h1 (by show (gl ls x).length ≤ _; omega) (by omega)
        unfold impl_coverage_isModality_L2
        simp only [decT (show (i : Int) < ((gl ls x).length : Int) by omega), cond_true, some_bind', ik, ii, implMeet _ _ (show (gr (gl ls x) k).length ≤ 1048576 by omega) (show (gr (gl ls x) i).length ≤ 1048576000 by omega), hnum,
          sm.1, idx_gr sm.2.1 sm.2.2, sk.1, idx_gr sk.2.1 sk.2.2, si.1, idx_gr si.2.1 si.2.2, implMeet _ _ (show (gr (gl ls x) (gi (gr parts x) k)).length ≤ 1048576 by omega) (show (gr (gl ls x) (gi (gr parts x) i)).length ≤ 1048576000 by omega), implSame _ _ (show (gr (gl ls x) (gi (gr parts x) (placeS (gl ls x) (meetS (gr (gl ls x) k) (gr (gl ls x) i))))).length ≤ 1048576000 by omega), w64_nat (show i < 9223372036854775807 by omega)]
        rfl
      unfold impl_coverage_isModality_L1
      rw [decT (by omega), cond_true]
      rw [forb (n := (gl ls x).length) (fun i => !pairB ls (gr parts) x k i) hi (by unfold impl_coverage_isModality_L2; rw [decF (by omega), cond_false]), w64_nat (by omega)]
    unfold impl_coverage_isModality_L0
    rw [tl, decT (by omega), cond_true, itp, some_bind', ip, some_bind', st.1, some_bind', implThen _ _ (by omega) (fun y hy => by have := hr.2 y hy; omega), some_bind', implSame _ _ (by unfold thenS; rw [mapI_length]; omega), some_bind']
    show (bif _ then _ else bif _ then _ else (idx ls (x : Int) >>= _)) = _
    rw [il, some_bind']
    rw [forb (n := (gl ls x).length) (fun k => (ns (gl ls x).length).any fun i => !pairB ls (gr parts) x k i) hk (by unfold impl_coverage_isModality_L1; rw [decF (by omega), cond_false]), w64_nat (by omega)]
    unfold badI
    cases gi (gr parts x) (tp c ls x) != tp c ls x with
    | true => rfl
    | false => cases thenS (gr parts x) (gr parts x) == gr parts x <;> rfl
  rw [forb (n := ls.length) (badI c ls (gr parts)) hx (by unfold impl_coverage_isModality_L0; rw [tl, decF (by omega), cond_false])]
  cases (ns ls.length).any (badI c ls (gr parts)) <;> rfl
/-- the sieves that a modality makes the greatest ones -/
def modP (c : MCategory) (ls : List (List (List Int))) (parts : List (List Int)) : Int → List Int → Bool := fun x s => gi (gr parts x) (placeS (gl ls x) s) == tp c ls x
abbrev noP : Int → List Int → Bool := fun _ _ => false
theorem modP_at {i k : Nat} {s : List Int} (hi : i < ls.length) (hk : (gl ls i)[k]? = some s) : modP c ls parts i s = (gi (gr parts i) k == tp c ls i) := by
  have _ := S
  unfold modP
  rw [place_at (T.nodup (x := (i : Int)) (by omega) (by omega)) hk]
theorem specMarksM (y : ML27Table × List (List Bool) × Int) (hy : y.1.Tops = tops c ls) (m : MSetMap) (hm : m.Parts = parts) :
    loopM (R := MTopology × Int) (fun s : Int × List (List Bool) => spec_TopologyOfModality_L0 m y s.1 s.2) ((0 : Int), marksP ls noP) = some (.exit 0 ((ls.length : Int), marksP ls (modP c ls parts))) := by
  have h8 := T.len8
  obtain ⟨e, he, h⟩ := for_loop (R := MTopology × Int) (k := 0) (body := fun s : Int × List (List Bool) => spec_TopologyOfModality_L0 m y s.1 s.2) (s0 := ((0 : Int), marksP ls noP)) (ns ls.length)
    (fun i s => s = ((i : Int), marksP ls (onP ls noP (modP c ls parts) i 0))) (by rw [on_zero T]; rfl)
    (by
      rintro i x s hx rfl
      obtain ⟨rfl, hi⟩ := ns_get hx
      have g0 : (0 : Int) ≤ (i : Int) := by omega
      have g1 : (i : Int) < ls.length := by omega
      have h16 := T.l16 g0 g1
      obtain ⟨e, he, h⟩ := for_loop (R := MTopology × Int) (k := 2) (body := fun s : Int × List (List Bool) => spec_TopologyOfModality_L1 m y (i : Int) s.1 s.2) (s0 := ((0 : Int), marksP ls (onP ls noP (modP c ls parts) i 0))) (gl ls i)
        (fun k s => s = ((k : Int), marksP ls (onP ls noP (modP c ls parts) i k))) rfl
        (by
          rintro k s z hks rfl
          have hk := getElem?_lt hks
          have sk := self_at S g0 g1 (k := (k : Int)) (by omega) (by omega)
          refine ⟨_, ?_, rfl⟩
          show spec_TopologyOfModality_L1 m y (i : Int) (k : Int) (marksP ls (onP ls noP (modP c ls parts) i k)) = _
          have hset := on_set T (p := noP) (q := modP c ls parts) hi hks
          have a1 : idx ((gl ls i).map (onP ls noP (modP c ls parts) i k i)) (k : Int) = some false := by rw [idx_nat, List.getElem?_map, hks, Option.map_some, on_now T hi hks]
          have ip : idx m.Parts (i : Int) = some (gr parts i) := by rw [hm]; exact idx_gr g0 (by rw [S.len]; exact g1)
          have itp : idx (tops c ls) (i : Int) = some (tp c ls i) := T.tops_at g0 g1
          unfold spec_TopologyOfModality_L1
          rw [idx_marks g0 g1, some_bind', List.length_map, decT (by omega), cond_true, some_bind', ip, some_bind', sk.1, some_bind', hy, itp, some_bind', a1, some_bind', w64_nat (by omega), Int.toNat_natCast, Int.toNat_natCast, ← hset, modP_at T S hi hks]
          rfl)
        (by
          rintro s rfl
          refine ⟨_, ?_, rfl⟩
          show spec_TopologyOfModality_L1 m y (i : Int) _ (marksP ls (onP ls noP (modP c ls parts) i (gl ls i).length)) = _
          unfold spec_TopologyOfModality_L1
          rw [idx_marks g0 g1, some_bind', List.length_map, decF (by omega), cond_false])
      subst he
      refine ⟨_, ?_, rfl⟩
      show spec_TopologyOfModality_L0 m y (i : Int) (marksP ls (onP ls noP (modP c ls parts) i 0)) = _
      unfold spec_TopologyOfModality_L0
      rw [marks_length, decT (by omega), cond_true]
      exact (lb_exit h).trans (by rw [w64_nat (by omega), on_next T hi]))
    (by
      rintro s rfl
      refine ⟨_, ?_, rfl⟩
      show spec_TopologyOfModality_L0 m y _ (marksP ls (onP ls noP (modP c ls parts) (ns ls.length).length 0)) = _
      unfold spec_TopologyOfModality_L0
      rw [marks_length, ns_length, decF (by omega), cond_false])
  subst he
  rw [h, ns_length, on_all T]
  rfl
theorem implMarksM (m : MSetMap) (hm : m.Parts = parts) (n : Int) : ∃ r : Int, loopM (R := MTopology × Int) (fun s : Int × Int × List (List Bool) => impl_TopologyOfModality_L0 c m (KK c ls noP n) (tops c ls) s.1 s.2.1 s.2.2) ((0 : Int), n, marksP ls noP) = some (.exit 0 ((ls.length : Int), r, marksP ls (modP c ls parts))) := by
  have h8 := T.len8
  have tl : (tops c ls).length = ls.length := mapI_length _ _
  obtain ⟨e, ⟨r, he⟩, h⟩ := for_loop (R := MTopology × Int) (k := 0) (body := fun s : Int × Int × List (List Bool) => impl_TopologyOfModality_L0 c m (KK c ls noP n) (tops c ls) s.1 s.2.1 s.2.2) (s0 := ((0 : Int), n, marksP ls noP)) (ns ls.length)
    (fun i s => ∃ r, s = ((i : Int), r, marksP ls (onP ls noP (modP c ls parts) i 0))) ⟨n, by rw [on_zero T]; rfl⟩
    (by
      rintro i x s hx ⟨r, rfl⟩
      obtain ⟨rfl, hi⟩ := ns_get hx
      have g0 : (0 : Int) ≤ (i : Int) := by omega
      have g1 : (i : Int) < ls.length := by omega
      have h16 := T.l16 g0 g1
      have hr := S.row i g0 g1
      have ip : idx m.Parts (i : Int) = some (gr parts i) := by rw [hm]; exact idx_gr g0 (by rw [S.len]; exact g1)
      have itp : idx (tops c ls) (i : Int) = some (tp c ls i) := T.tops_at g0 g1
      obtain ⟨e, ⟨r', he⟩, h⟩ := for_loop (R := MTopology × Int) (k := 2) (body := fun s : Int × Int × List (List Bool) => impl_TopologyOfModality_L1 c (KK c ls noP n) (i : Int) (tp c ls i) (gr parts i) s.1 s.2.1 s.2.2) (s0 := ((0 : Int), r, marksP ls (onP ls noP (modP c ls parts) i 0))) (gl ls i)
        (fun k s => ∃ r, s = ((k : Int), r, marksP ls (onP ls noP (modP c ls parts) i k))) ⟨r, rfl⟩
        (by
          rintro k s z hks ⟨r, rfl⟩
          have hk := getElem?_lt hks
          have hsm := List.mem_of_getElem? hks
          have sk := self_at S g0 g1 (k := (k : Int)) (by omega) (by omega)
          have hq := modP_at T S (i := i) hi hks
          cases eq : gi (gr parts i) k == tp c ls i with
          | false =>
            rw [eq] at hq
            have hm : marksP ls (onP ls noP (modP c ls parts) i k) = marksP ls (onP ls noP (modP c ls parts) i (k + 1)) := marks_congr fun y hy t _ => by
              rw [on_step T hi hks]
              by_cases e : y = i ∧ t = s
              · obtain ⟨rfl, rfl⟩ := e
                rw [if_pos ⟨rfl, rfl⟩, on_now T hi hks, hq]; rfl
              · rw [if_neg e]
            refine ⟨(((k + 1 : Nat) : Int), r, marksP ls (onP ls noP (modP c ls parts) i k)), ?_, r, by rw [hm]⟩
            show impl_TopologyOfModality_L1 c _ (i : Int) _ _ (k : Int) r (marksP ls (onP ls noP (modP c ls parts) i k)) = _
            unfold impl_TopologyOfModality_L1
            rw [decT (by omega), cond_true, sk.1, some_bind', eq, cond_false, w64_nat (by omega)]
          | true =>
            rw [eq] at hq
            have hm : marksP ls (put (onP ls noP (modP c ls parts) i k) i s) = marksP ls (onP ls noP (modP c ls parts) i (k + 1)) := marks_congr fun y hy t _ => by
              rw [on_step T hi hks]
              show (onP ls noP (modP c ls parts) i k y t || ((y : Int) == (i : Int) && t == s)) = _
              by_cases e : y = i ∧ t = s
              · obtain ⟨rfl, rfl⟩ := e
                rw [if_pos ⟨rfl, rfl⟩, hq]; simp
              · rw [if_neg e]
                have : ((y : Int) == (i : Int) && t == s) = false := by
                  rw [Bool.and_eq_false_iff]
                  by_cases e1 : y = i
                  · exact .inr (beqF fun h => e ⟨e1, h⟩)
                  · exact .inl (beqF (by omega))
                rw [this, Bool.or_false]
            obtain ⟨w, hw, _⟩ := implMark T (p := onP ls noP (modP c ls parts) i k) (n := r) g0 g1 hsm
            refine ⟨(((k + 1 : Nat) : Int), w, marksP ls (put (onP ls noP (modP c ls parts) i k) i s)), ?_, w, by rw [hm]⟩
            show impl_TopologyOfModality_L1 c _ (i : Int) _ _ (k : Int) r (marksP ls (onP ls noP (modP c ls parts) i k)) = _
            unfold impl_TopologyOfModality_L1
            rw [decT (by omega), cond_true, sk.1, some_bind', eq, cond_true]
            show (impl_coverage_mark (KK c ls (onP ls noP (modP c ls parts) i k) r) (i : Int) (k : Int) >>= _) = _
            rw [place_at (T.nodup g0 g1) hks] at hw
            rw [hw, some_bind', w64_nat (by omega)])
        (by
          rintro s ⟨r, rfl⟩
          refine ⟨_, ?_, r, rfl⟩
          show impl_TopologyOfModality_L1 c _ (i : Int) _ _ _ r _ = _
          unfold impl_TopologyOfModality_L1
          rw [decF (by omega), cond_false])
      subst he
      refine ⟨(((i + 1 : Nat) : Int), r', marksP ls (onP ls noP (modP c ls parts) i (gl ls i).length)), ?_, r', by rw [on_next T hi]⟩
      show impl_TopologyOfModality_L0 c m _ _ (i : Int) r _ = _
      unfold impl_TopologyOfModality_L0
      rw [tl, decT (by omega), cond_true, itp, some_bind', ip, some_bind']
      exact (lb_exit h).trans (by rw [w64_nat (by omega)]))
    (by
      rintro s ⟨r, rfl⟩
      refine ⟨_, ?_, r, rfl⟩
      show impl_TopologyOfModality_L0 c m _ _ _ r _ = _
      unfold impl_TopologyOfModality_L0
      rw [tl, ns_length, decF (by omega), cond_false])
  subst he
  rw [ns_length, on_all T] at h
  exact ⟨r, h⟩
end
theorem self_of {c : MCategory} {ls : List (List (List Int))} (T : Tab c ls) {m : MSetMap} (M : SMShape m) (hs : m.Source = omegaF c ls) (ht : m.Target = omegaF c ls) : Self ls m.Parts := by
  have hl := T.len
  have e1 : m.Source.Shape.Objects = c.Objects := by rw [hs]
  refine ⟨by have := M.pl; omega, fun x h0 h1 => ?_⟩
  have hp := M.part x h0 (by omega)
  have g := gi_sizes T h0 h1
  have es : gi m.Source.Sizes x = ((gl ls x).length : Int) := by rw [hs]; exact g
  have et : gi m.Target.Sizes x = ((gl ls x).length : Int) := by rw [ht]; exact g
  rw [es, et] at hp
  exact ⟨by omega, hp.2⟩
theorem ofModality_alike {c : MCategory} {m : MSetMap} (hcs : catSize c ≤ 1048576) (hm : SMSmall m) : ∃ y e, spec_TopologyOfModality c m = some (y, e) ∧ impl_TopologyOfModality c m = some (y, e) ∧ TopSmall y ∧ topCells y ≤ 4611686018427387000 := by
  have hc := catSmall_of hcs
  unfold spec_TopologyOfModality impl_TopologyOfModality
  rw [specIs hc, some_bind', specIsM hm, some_bind', implIs hc, some_bind', implIsM hm, some_bind', cond_some, cond_or, some_bind', some_bind']
  cases h1 : catB c with
  | false => exact ⟨topZ, 1, rfl, rfl, topZ_small⟩
  | true =>
    cases h2 : smB m with
    | false => exact ⟨topZ, 1, rfl, rfl, topZ_small⟩
    | true =>
      simp only [Bool.not_true, Bool.or_false, cond_false]
      have H := cat_of h1
      have M := sm_of h2
      rcases scan H c.Objects.toNat with ⟨ls, L⟩ | ⟨k, ls, hk, h, hn⟩
      · have T : Tab c ls := ⟨H, L⟩
        have ho := omegaSmall T hc
        rw [specCat0 T hc h1, some_bind']
        show ∃ y e, retM (bif ((0 : Int) != 0) then _ else (spec_l25Make c ls >>= _)) = _ ∧ _
        rw [bneF rfl, cond_false, specMake H hc L, some_bind', specSameF ho, some_bind', specSameF ho, some_bind', implCoverage H hc L, some_bind']
        simp only [Bool.not_true, cond_false]
        show ∃ y e, _ ∧ retM (impl_coverage_isModality (KK c ls noP 0) m >>= _) = _ ∧ _
        have hcomm : ∀ {f g : MSetFunctor}, sameFB f g = sameFB g f := fun {f g} => by
          rw [Bool.eq_iff_iff, sameFB_eq, sameFB_eq]; exact eq_comm
        have himp : impl_coverage_isModality (KK c ls noP 0) m = retM (S := Unit) (bif !(sameFB (omegaF c ls) m.Source) || !(sameFB (omegaF c ls) m.Target) then some (.ret false) else (impl_classifier_tops (KK c ls noP 0).Classifier >>= fun y19 => lbind (S := Unit) (blockM 0 (loopM (impl_coverage_isModality_L0 (KK c ls noP 0) m y19) (0 : Int))) fun _ => some (.ret true))) := by
          unfold impl_coverage_isModality
          rw [implSameF hm.s, some_bind', implSameF hm.t, some_bind', cond_some, cond_or, some_bind', hcomm (f := m.Source), hcomm (f := m.Target)]
        rw [himp]
        cases e1 : sameFB (omegaF c ls) m.Source with
        | false => exact ⟨topZ, 5, rfl, rfl, topZ_small⟩
        | true =>
          cases e2 : sameFB (omegaF c ls) m.Target with
          | false => exact ⟨topZ, 5, rfl, rfl, topZ_small⟩
          | true =>
            have S := self_of T M.toSMShape (sameFB_eq.1 e1).symm (sameFB_eq.1 e2).symm
            have hbad : (ns ls.length).any (badS c ls (gr m.Parts)) = (ns ls.length).any (badI c ls (gr m.Parts)) := any_congr' fun x hx => bad_eq T S (ns_mem.1 hx).1 (ns_mem.1 hx).2
            simp only [Bool.not_true, Bool.or_false, cond_false]
            rw [specModal T S, some_bind', implModal T S 0 noP m rfl, hbad]
            cases e3 : (ns ls.length).any (badI c ls (gr m.Parts)) with
            | true => exact ⟨topZ, 5, rfl, rfl, topZ_small⟩
            | false =>
              obtain ⟨r, hr⟩ := implMarksM T S m rfl 0
              have htops : impl_classifier_tops (KK c ls noP 0).Classifier = some (tops c ls) := implTops T (sizesOf ls) [] (acts c ls)
              refine ⟨MTopology.mk c (covP ls (modP c ls m.Parts)), 0, ?_, ?_, cov_small T hcs⟩
              · show retM (lbind (blockM 0 (loopM (fun s : Int × List (List Bool) => spec_TopologyOfModality_L0 m (TB c ls, marksP ls (fun _ _ => false), 0) s.1 s.2) ((0 : Int), marksP ls noP))) _) = _
                rw [lb_exit (specMarksM T S (TB c ls, marksP ls (fun _ _ => false), 0) rfl m rfl)]
                show retM (spec_l27Covers (TB c ls) (marksP ls (modP c ls m.Parts)) >>= _) = _
                rw [specCovers H hc L, some_bind']; rfl
              · show retM (impl_classifier_tops (KK c ls noP 0).Classifier >>= _) = _
                rw [htops, some_bind']
                show retM (lbind (blockM 0 (loopM (fun s : Int × Int × List (List Bool) => impl_TopologyOfModality_L0 c m (KK c ls noP 0) (tops c ls) s.1 s.2.1 s.2.2) ((0 : Int), 0, marksP ls noP))) _) = _
                rw [lb_exit hr]
                show retM (impl_coverage_topology (KK c ls (modP c ls m.Parts) r) >>= _) = _
                rw [implTopology H (k := KK c ls (modP c ls m.Parts) r) rfl rfl rfl hc L, some_bind']; rfl
      · refine ⟨topZ, 3, ?_, ?_, topZ_small⟩
        · have : spec_l27Category c = some (ML27Table.mk (MCategory.mk (0 : Int) [] [] [] []) [] [] [], [], 3) := by
            unfold spec_l27Category
            rw [specIs hc, some_bind', h1, Bool.not_true, cond_false]
            unfold spec_l27Make
            rw [specListsNo H hk h hn, some_bind', Bool.not_false, cond_true]
            rfl
          rw [this, some_bind']; rfl
        · rw [implCoverageOfNo hc H hk h hn, some_bind']; rfl
theorem sfCells_size (f : MSetFunctor) : sfCells f ≤ sfSize f := by
  unfold sfCells sfSize catSize
  rw [s2_eq, s2_eq]; omega
theorem smCells_size (m : MSetMap) : smCells m ≤ smSize m := by
  have h1 := sfCells_size m.Source
  have h2 := sfCells_size m.Target
  unfold smCells smSize
  rw [s2_eq]; omega
theorem markSMK {m : MSetMap} (h : SMSmall m) {k : Int} (h0 : 0 ≤ k) (hs : k + smCells m ≤ 4611686018427387904) : ∃ r, laws_markSetMap m k = some r ∧ 0 ≤ r.1 := by
  unfold smCells at hs
  have h2 := h.k
  obtain ⟨a, b, c, d, e, g, m1, _⟩ := markSF h.s (k := k) h0 (by omega)
  obtain ⟨a', b', c', d', e', g', m3, _⟩ := markSF h.t (k := k + sfCells m.Source) (by omega) (by omega)
  have hr : ∀ y ∈ m.Parts, y.length ≤ 1048576000 := fun y hy => by have := h.r y hy; omega
  have m5 := markSS (x := m.Parts) (k := k + sfCells m.Source + sfCells m.Target) (by omega) (by omega) hr (by omega)
  unfold laws_markSetMap
  rw [m1, some_bind']
  dsimp only
  rw [m3, some_bind']
  dsimp only
  rw [m5, some_bind']
  exact ⟨_, rfl, by show 0 ≤ k + _ + _ + _; omega⟩
theorem ofModality_law {x0 : MCategory} {x1 : MSetMap} (hl : CatLens x0) (hl1 : SMLens x1) : laws_FnExactTopologyOfModality x0 x1 = some true := by
  unfold laws_FnExactTopologyOfModality
  rw [szCat hl, some_bind']
  by_cases h : (catSize x0 : Int) ≤ 1048576
  · rw [if_pos h, decF (by omega), cond_false, szSMK (by omega) (by omega) hl1, some_bind']
    by_cases h' : (smSize x1 : Int) ≤ 1048576 - catSize x0
    · have hn : catSize x0 ≤ 1048576 := by omega
      have hn1 : smSize x1 ≤ 1048576 := by omega
      have hs := catSmall_of hn
      have hs1 := smSmall_of hn1
      obtain ⟨t, e, h1, h2, ht, hcells⟩ := ofModality_alike hn hs1
      have hc1 := markCat hs (k := 1) (by omega) (by unfold catSize at hn; rw [s2_eq]; omega)
      have hcells1 := smCells_size x1
      obtain ⟨r, hr1, hr2⟩ := markSMK hs1 (k := 1 + x0.From.length + x0.To.length + x0.Identity.length + s2 x0.Composites) (by omega) (by unfold catSize at hn; rw [s2_eq]; omega)
      obtain ⟨n, a, b, c, d, k, hn0, hm, hh⟩ := held_marked ht hcells
      rw [if_pos h', decF (by omega), cond_false, toCat hn]
      simp only [some_bind', toSM hn1, h1, h2, eqTop_self ht, eqCat_self hs, eqSM_self hs1, hc1, hr1, hm, hh, Bool.not_true, cond_false, bne_self_eq_false, decF (show ¬ r.1 < 0 by omega), decF (show ¬ n < 0 by omega)]
      rfl
    · rw [if_neg h', decT (by omega), cond_true]; rfl
  · rw [if_neg h, decT (by omega), cond_true]; rfl
end Go.Proofs.YtdlhbbhdfnnmnaaGreat
