/- Whether a coverage is a topology: what the program reckons. No condition beside those that each theorem names. -/
import Derived.Test.YtdlhbbhdfnnmnaaGreatRd
namespace Go.Proofs.YtdlhbbhdfnnmnaaGreat
open Go Go.Li

section
variable {c : MCategory} {ls : List (List (List Int))} (T : Tab c ls) {p : Int → List Int → Bool}
include T
theorem isTop1 {n x : Int} (h0 : 0 ≤ x) (h1 : x < ls.length) {s : List Int} (hs : s ∈ gl ls x) (b : Bool) : impl_coverage_isTopology_1 x (placeS (gl ls x) s) b (KK c ls p n) = some (b && p x s) := by
  have _ := T
  unfold impl_coverage_isTopology_1
  cases b with
  | false => rfl
  | true =>
    rw [cond_true, idx_marks h0 h1, some_bind', at_mark _ hs, some_bind', Bool.true_and]; rfl
def F1 (c : MCategory) (ls : List (List (List Int))) (p : Int → List Int → Bool) : Bool := (ns ls.length).all fun x => p x (outS c x)
def F2 (c : MCategory) (ls : List (List (List Int))) (p : Int → List Int → Bool) : Bool := (ns c.From.length).all fun a => (gl ls (gi c.From a)).all fun s => !(p (gi c.From a) s) || p (gi c.To a) (pullS c a s)
def F3 (c : MCategory) (ls : List (List (List Int))) (p : Int → List Int → Bool) : Bool := (ns ls.length).all fun x => (gl ls x).all fun t => (gl ls x).all fun s => !(p x s) || (p x t || !(localB c p s t))
theorem F_open : (F1 c ls p && F2 c ls p && F3 c ls p) = !(openB c ls p) := by
  rw [Bool.eq_iff_iff, Bool.not_eq_true', closed_iff T]
  unfold F1 F2 F3
  simp only [Bool.and_eq_true, List.all_eq_true, Bool.or_eq_true, Bool.not_eq_true']
  constructor
  · rintro ⟨⟨h1, h2⟩, h3⟩
    refine ⟨fun x x0 x1 => h1 x (ns_mem.2 ⟨x0, x1⟩), fun a s a0 a1 hs hp => ?_, fun x x0 x1 s hs t ht hp hl => ?_⟩
    · rcases h2 a (ns_mem.2 ⟨a0, a1⟩) s hs with h | h
      · rw [hp] at h; cases h
      · exact h
    · rcases h3 x (ns_mem.2 ⟨x0, x1⟩) t ht s hs with h | h | h
      · rw [hp] at h; cases h
      · exact h
      · rw [hl] at h; cases h
  · intro h
    refine ⟨⟨fun x hx => h.top x (ns_mem.1 hx).1 (ns_mem.1 hx).2, fun a ha s hs => ?_⟩, fun x hx t ht s hs => ?_⟩
    · cases e : p (gi c.From a) s with
      | false => exact .inl rfl
      | true => exact .inr (h.arrow a s (ns_mem.1 ha).1 (ns_mem.1 ha).2 hs e)
    · cases e : p x s with
      | false => exact .inl rfl
      | true =>
        cases e2 : localB c p s t with
        | false => exact .inr (.inr rfl)
        | true => exact .inr (.inl (h.loc x (ns_mem.1 hx).1 (ns_mem.1 hx).2 s hs t ht e e2))
theorem followsI (n : Int) (g : Bool) : impl_coverage_follows_isTop (KK c ls p n) g = some (((g && F1 c ls p) && F2 c ls p) && F3 c ls p) := by
  have h8 := T.len8
  have hm := T.cat.m
  unfold impl_coverage_follows_isTop
  rw [show (KK c ls p n).Classifier = MClassifier.mk (MSetFunctor.mk c (sizesOf ls) (acts c ls)) ls from rfl, implTops T _ [] _, some_bind']
  have htl : (tops c ls).length = ls.length := mapI_length _ _
  refine (congrArg finM ((for_all (ns ls.length) (fun i => ((i : Int), g && ((ns ls.length).take i).all fun x => p x (outS c x))) (e := ((ls.length : Int), g && F1 c ls p)) (by simp) ?_ ?_).trans
    ((for_all (ns c.From.length) (fun i => ((i : Int), (g && F1 c ls p) && ((ns c.From.length).take i).all fun a => (gl ls (gi c.From a)).all fun s => !(p (gi c.From a) s) || p (gi c.To a) (pullS c a s))) (e := ((c.From.length : Int), (g && F1 c ls p) && F2 c ls p)) (by simp) ?_ ?_).trans
      (for_all (ns ls.length) (fun i => ((i : Int), ((g && F1 c ls p) && F2 c ls p) && ((ns ls.length).take i).all fun x => (gl ls x).all fun t => (gl ls x).all fun s => !(p x s) || (p x t || !(localB c p s t)))) (e := ((ls.length : Int), ((g && F1 c ls p) && F2 c ls p) && F3 c ls p)) (by simp) ?_ ?_)))).trans rfl
  · intro i x hx
    have e := take_all (f := fun x => p x (outS c x)) hx
    obtain ⟨rfl, hi⟩ := ns_get hx
    show impl_coverage_follows_isTop_L0 _ _ (i : Int) _ = _
    unfold impl_coverage_follows_isTop_L0
    rw [htl, decT (by omega), cond_true, T.tops_at (by omega) (by omega), some_bind', isTop1 T (by omega) (by omega) (T.out (by omega) (by omega)), some_bind', w64_nat (by omega), e, Bool.and_assoc]
  · show impl_coverage_follows_isTop_L0 _ _ _ _ = _
    unfold impl_coverage_follows_isTop_L0
    rw [htl, ns_length, decF (by omega), cond_false]
    unfold F1
    conv => rhs; rw [← all_len, ns_length]
  · intro i a ha
    have e := take_all (f := fun a => (gl ls (gi c.From a)).all fun s => !(p (gi c.From a) s) || p (gi c.To a) (pullS c a s)) ha
    obtain ⟨rfl, hi⟩ := ns_get ha
    have hf := T.fr (a := (i : Int)) (by omega) (by omega)
    have ht := T.to (a := (i : Int)) (by omega) (by omega)
    have h16 := T.l16 hf.1 hf.2
    show impl_coverage_follows_isTop_L1 _ (i : Int) ((g && F1 c ls p) && ((ns c.From.length).take i).all fun a => (gl ls (gi c.From a)).all fun s => !(p (gi c.From a) s) || p (gi c.To a) (pullS c a s)) = some (Out.norm (((i + 1 : Nat) : Int), (g && F1 c ls p) && ((ns c.From.length).take (i + 1)).all fun a => (gl ls (gi c.From a)).all fun s => !(p (gi c.From a) s) || p (gi c.To a) (pullS c a s)))
    rw [e, ← Bool.and_assoc]
    generalize ((g && F1 c ls p) && ((ns c.From.length).take i).all fun a => (gl ls (gi c.From a)).all fun s => !(p (gi c.From a) s) || p (gi c.To a) (pullS c a s)) = b
    unfold impl_coverage_follows_isTop_L1
    rw [decT (by show (i : Int) < (c.From.length : Int); omega), cond_true]
    show (idx c.From (i : Int) >>= _) = _
    rw [T.cat.idxF (by omega) (by omega), some_bind', idx_marks hf.1 hf.2, some_bind', cloneB T _ (by rw [List.length_map]; omega), some_bind']
    refine (for_all (gl ls (gi c.From i)) (fun k => ((k : Int), b && ((gl ls (gi c.From i)).take k).all fun s => !(p (gi c.From i) s) || p (gi c.To i) (pullS c i s))) (e := (((gl ls (gi c.From i)).length : Int), b && (gl ls (gi c.From i)).all fun s => !(p (gi c.From i) s) || p (gi c.To i) (pullS c i s))) (by simp) ?_ ?_).trans ?_
    · intro k s hs
      have hk := getElem?_lt hs
      have hsm := List.mem_of_getElem? hs
      have e := take_all (f := fun s => !(p (gi c.From i) s) || p (gi c.To i) (pullS c i s)) hs
      show impl_coverage_follows_isTop_L2 _ (i : Int) _ (k : Int) _ = _
      unfold impl_coverage_follows_isTop_L2
      rw [List.length_map, decT (by omega), cond_true, idx_nat, List.getElem?_map, hs]
      simp only [Option.map_some, some_bind']
      rw [e]
      cases ep : p (gi c.From (i : Int)) s with
      | false => simp only [cond_false]; rw [w64_nat (by omega)]; simp
      | true =>
        simp only [cond_true]
        show (idx c.To (i : Int) >>= fun e79 => (idx (acts c ls) (i : Int) >>= _)) = _
        rw [T.cat.idxT (by omega) (by omega), some_bind', T.acts_at (by omega) (by omega), some_bind', T.act_at hs, some_bind', isTop1 T ht.1 ht.2 (T.pull (by omega) (by omega) ((T.mem hf.1 hf.2).1 hsm)), some_bind', w64_nat (by omega)]
        simp [Bool.and_assoc]
    · show impl_coverage_follows_isTop_L2 _ (i : Int) _ _ _ = _
      unfold impl_coverage_follows_isTop_L2
      rw [List.length_map, decF (by omega), cond_false, all_len]
    · rw [w64_nat (by omega)]
  · show impl_coverage_follows_isTop_L1 _ _ _ = _
    unfold impl_coverage_follows_isTop_L1
    rw [ns_length, decF (by show ¬ ((c.From.length : Int) < (c.From.length : Int)); omega), cond_false]
    unfold F2
    conv => rhs; rw [← all_len, ns_length]
  · intro i x hx
    have e := take_all (f := fun x => (gl ls x).all fun t => (gl ls x).all fun s => !(p x s) || (p x t || !(localB c p s t))) hx
    obtain ⟨rfl, hi⟩ := ns_get hx
    have h0 : (0 : Int) ≤ (i : Int) := by omega
    have h1 : (i : Int) < ls.length := by omega
    have h16 := T.l16 h0 h1
    show impl_coverage_follows_isTop_L3 _ (i : Int) (((g && F1 c ls p) && F2 c ls p) && ((ns ls.length).take i).all fun x => (gl ls x).all fun t => (gl ls x).all fun s => !(p x s) || (p x t || !(localB c p s t))) = some (Out.norm (((i + 1 : Nat) : Int), ((g && F1 c ls p) && F2 c ls p) && ((ns ls.length).take (i + 1)).all fun x => (gl ls x).all fun t => (gl ls x).all fun s => !(p x s) || (p x t || !(localB c p s t))))
    rw [e, ← Bool.and_assoc]
    generalize (((g && F1 c ls p) && F2 c ls p) && ((ns ls.length).take i).all fun x => (gl ls x).all fun t => (gl ls x).all fun s => !(p x s) || (p x t || !(localB c p s t))) = b
    unfold impl_coverage_follows_isTop_L3
    show (bif decide ((i : Int) < (ls.length : Int)) then (idx ls (i : Int) >>= _) else _) = _
    rw [decT h1, cond_true, idx_gl h0 h1, some_bind']
    refine (for_all (gl ls i) (fun k => ((k : Int), b && ((gl ls i).take k).all fun t => (gl ls i).all fun s => !(p i s) || (p i t || !(localB c p s t)))) (e := (((gl ls i).length : Int), b && (gl ls i).all fun t => (gl ls i).all fun s => !(p i s) || (p i t || !(localB c p s t)))) (by simp) ?_ ?_).trans ?_
    · intro k t ht
      have hk := getElem?_lt ht
      have htm := List.mem_of_getElem? ht
      have e := take_all (f := fun t => (gl ls i).all fun s => !(p i s) || (p i t || !(localB c p s t))) ht
      show impl_coverage_follows_isTop_L4 _ (i : Int) _ (k : Int) (b && ((gl ls i).take k).all fun t => (gl ls i).all fun s => !(p i s) || (p i t || !(localB c p s t))) = some (Out.norm (((k + 1 : Nat) : Int), b && ((gl ls i).take (k + 1)).all fun t => (gl ls i).all fun s => !(p i s) || (p i t || !(localB c p s t))))
      rw [e, ← Bool.and_assoc]
      generalize (b && ((gl ls i).take k).all fun t => (gl ls i).all fun s => !(p i s) || (p i t || !(localB c p s t))) = b2
      unfold impl_coverage_follows_isTop_L4
      rw [decT (by omega), cond_true, idx_marks h0 h1, some_bind', cloneB T _ (by rw [List.length_map]; omega), some_bind']
      refine (for_all (gl ls i) (fun m => ((m : Int), b2 && ((gl ls i).take m).all fun s => !(p i s) || (p i t || !(localB c p s t)))) (e := (((gl ls i).length : Int), b2 && (gl ls i).all fun s => !(p i s) || (p i t || !(localB c p s t)))) (by simp) ?_ ?_).trans ?_
      · intro m s hs
        have hm' := getElem?_lt hs
        have hsm := List.mem_of_getElem? hs
        have e := take_all (f := fun s => !(p i s) || (p i t || !(localB c p s t))) hs
        show impl_coverage_follows_isTop_L5 _ (i : Int) (gl ls i) (k : Int) _ (m : Int) _ = _
        unfold impl_coverage_follows_isTop_L5
        rw [List.length_map, decT (by omega), cond_true, idx_nat, List.getElem?_map, hs]
        simp only [Option.map_some, some_bind']
        rw [e]
        cases es : p i s with
        | false => simp only [cond_false, some_bind']; rw [w64_nat (by omega)]; simp
        | true =>
          simp only [cond_true]
          rw [idx_marks h0 h1, some_bind', idx_nat, List.getElem?_map, ht]
          simp only [Option.map_some, some_bind']
          cases et : p i t with
          | true => simp only [Bool.not_true, cond_false, some_bind']; rw [w64_nat (by omega)]; simp
          | false =>
            simp only [Bool.not_false, cond_true]
            rw [idx_nat, ht, some_bind', idx_nat, hs, some_bind', implLocally T h0 h1 hsm htm, some_bind', some_bind']
            have hv := isTop1 T (p := p) (n := n) h0 h1 htm (b2 && ((gl ls i).take m).all fun s => !(p i s) || (false || !(localB c p s t)))
            rw [place_at (T.nodup h0 h1) ht, et, Bool.and_false] at hv
            cases el : localB c p s t with
            | true => simp only [cond_true, hv, some_bind']; rw [w64_nat (by omega)]; simp
            | false => simp only [cond_false]; rw [w64_nat (by omega)]; simp
      · show impl_coverage_follows_isTop_L5 _ (i : Int) _ _ _ _ _ = _
        unfold impl_coverage_follows_isTop_L5
        rw [List.length_map, decF (by omega), cond_false, all_len]
      · rw [w64_nat (by omega)]
    · show impl_coverage_follows_isTop_L4 _ (i : Int) _ _ _ = _
      unfold impl_coverage_follows_isTop_L4
      rw [decF (by omega), cond_false, all_len]
    · rw [w64_nat (by omega)]
  · show impl_coverage_follows_isTop_L3 _ _ _ = _
    unfold impl_coverage_follows_isTop_L3
    rw [ns_length]
    show (bif decide ((ls.length : Int) < (ls.length : Int)) then _ else _) = _
    rw [decF (by omega), cond_false]
    unfold F3
    conv => rhs; rw [← all_len, ns_length]
theorem implIsTop (n : Int) : impl_coverage_isTopology (KK c ls p n) = some (!(openB c ls p)) := by
  unfold impl_coverage_isTopology
  rw [followsI T, some_bind', ← F_open T, Bool.true_and]; rfl

end
section
variable {t : MTopology} (F : Form t) {ls : List (List (List Int))} (T : Tab t.Shape ls) (ht : TopSmall t)
include F T ht
theorem specCode (hf : formB t = true) : spec_l27Code t = some (TB t.Shape ls, marksP ls (covB t.Covers), if openB t.Shape ls (covB t.Covers) = true then 5 else 0) := by
  unfold spec_l27Code
  rw [specRead F T ht hf, some_bind', beqT rfl, cond_true]
  show retM ((spec_l27Is (TB t.Shape ls) (marksP ls (covB t.Covers)) >>= _) >>= _) = _
  rw [specIsT T, some_bind', some_bind']
  cases openB t.Shape ls (covB t.Covers) <;> rfl
theorem implLimit : ∃ n, impl_limitCode t = some (if openB t.Shape ls (covB t.Covers) = true then (none, 5) else (some (KK t.Shape ls (covB t.Covers) n), 0)) := by
  obtain ⟨h1, h2⟩ := covs F T ht
  obtain ⟨n, _, _, hn⟩ := implCoverageT T rfl ht.c h1 h2
  refine ⟨n, ?_⟩
  unfold impl_limitCode
  rw [hn, some_bind']
  show retM (impl_coverage_isTopology (KK t.Shape ls (covB t.Covers) n) >>= _) = _
  rw [implIsTop T, some_bind']
  cases openB t.Shape ls (covB t.Covers) <;> rfl
end
theorem implLimitNo {t : MTopology} (ht : TopSmall t) (F : Form t) {k : Nat} {ls : List (List (List Int))} (hk : k < t.Shape.Objects.toNat) (h : Lists t.Shape k ls) (hn : Found t.Shape k none) : impl_limitCode t = some (none, 3) := by
  unfold impl_limitCode impl_Topology_coverage
  rw [implCoverageOfNo ht.c F.cat hk h hn]; rfl
theorem specCodeNo {t : MTopology} (ht : TopSmall t) (hf : formB t = true) (F : Form t) {k : Nat} {ls : List (List (List Int))} (hk : k < t.Shape.Objects.toNat) (h : Lists t.Shape k ls) (hn : Found t.Shape k none) : ∃ y, spec_l27Code t = some y ∧ y.2.2 = 3 := by
  obtain ⟨y, h1, h2⟩ := specReadNo ht hf F hk h hn
  unfold spec_l27Code
  rw [h1, some_bind', h2]
  exact ⟨_, rfl, rfl⟩
end Go.Proofs.YtdlhbbhdfnnmnaaGreat
