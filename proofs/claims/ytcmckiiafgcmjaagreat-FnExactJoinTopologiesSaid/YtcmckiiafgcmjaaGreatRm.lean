/- The join of two topologies: the reference and the program agree; the law of JoinTopologies, on plain data. No condition beside those that each theorem names. -/
import Derived.Test.YtcmckiiafgcmjaaGreatRj
import Derived.Test.YtcmckiiafgcmjaaGreatRl
namespace Go.Proofs.YtcmckiiafgcmjaaGreat
open Go Go.Li

theorem set_row {L : List (List Int)} {f : List Int → Bool} {k : Nat} {s : List Int} {v : Bool} (hn : L.Nodup) (h : L[k]? = some s) : (L.map f).set k v = L.map fun t => if t = s then v else f t := by
  have hk := (List.getElem?_eq_some_iff.1 h).1
  apply List.ext_getElem?
  intro i
  rw [List.getElem?_set, List.getElem?_map, List.getElem?_map]
  by_cases e : k = i
  · subst e
    rw [if_pos rfl, h]; simp [hk]
  · rw [if_neg e]
    cases hi : L[i]? with
    | none => rfl
    | some t =>
      have : t ≠ s := by
        rintro rfl
        exact e (nodup_inj hn h hi)
      simp [this]
theorem set_marks {ls : List (List (List Int))} {p : Int → List Int → Bool} {i : Nat} {g : List Int → Bool} (hi : i < ls.length) : (marksP ls p).set i ((gl ls i).map g) = marksP ls fun y t => if y = (i : Int) then g t else p y t := by
  apply List.ext_getElem?
  intro x
  rw [List.getElem?_set, marks_length]
  unfold marksP
  by_cases hx : x < ls.length
  · rw [mapI_get _ hx, mapI_get _ hx]
    by_cases e : i = x
    · subst e
      rw [if_pos rfl, if_pos hi]
      congr 1
      apply List.map_congr_left
      intro t _
      exact (if_pos rfl).symm
    · rw [if_neg e]
      congr 1
      apply List.map_congr_left
      intro t _
      exact (if_neg (by omega)).symm
  · rw [if_neg (by omega), List.getElem?_eq_none (by rw [mapI_length]; omega), List.getElem?_eq_none (by rw [mapI_length]; omega)]
/-- the marks of both -/
def orP (p q : Int → List Int → Bool) : Int → List Int → Bool := fun x s => p x s || q x s
/-- on the way: p, and of q what lies before i and at i in the first k places -/
def onP (ls : List (List (List Int))) (p q : Int → List Int → Bool) (i k : Nat) : Int → List Int → Bool := fun y t => p y t || (q y t && (decide (y < i) || (y == (i : Int) && ((gl ls i).take k).contains t)))
section
variable {c : MCategory} {ls : List (List (List Int))} (T : Tab c ls) {p q : Int → List Int → Bool}
include T
theorem on_zero : marksP ls (onP ls p q 0 0) = marksP ls p := marks_congr fun i hi s _ => by
  have _ := T
  unfold onP
  rw [decF (by omega), List.take_zero, List.contains_nil]; simp
theorem on_next {i : Nat} (hi : i < ls.length) : marksP ls (onP ls p q i (gl ls i).length) = marksP ls (onP ls p q (i + 1) 0) := marks_congr fun y hy s hs => by
  have _ := T
  unfold onP
  rw [List.take_length, List.take_zero, List.contains_nil, Bool.and_false, Bool.or_false]
  congr 2
  rw [Bool.eq_iff_iff]
  simp only [Bool.or_eq_true, decide_eq_true_eq, Bool.and_eq_true, beq_iff_eq, List.contains_iff_mem]
  constructor
  · rintro (h | ⟨h, _⟩) <;> omega
  · intro h
    by_cases e : (y : Int) < i
    · exact .inl e
    · have e' : y = i := by omega
      subst e'
      exact .inr ⟨rfl, hs⟩
theorem on_all : marksP ls (onP ls p q ls.length 0) = marksP ls (orP p q) := marks_congr fun i hi s _ => by
  have _ := T
  unfold onP orP
  rw [decT (by omega)]; simp
theorem on_step {i k : Nat} {s : List Int} (hi : i < ls.length) (hk : (gl ls i)[k]? = some s) (y : Nat) (t : List Int) : onP ls p q i (k + 1) y t = if y = i ∧ t = s then (p i s || q i s) else onP ls p q i k y t := by
  have _ := T
  unfold onP
  rw [take_succ_get hk]
  by_cases e : y = i
  · subst e
    by_cases et : t = s
    · subst et
      rw [if_pos ⟨rfl, rfl⟩]; simp
    · rw [if_neg (fun h => et h.2)]
      have : ((gl ls y).take k ++ [s]).contains t = ((gl ls y).take k).contains t := by
        rw [Bool.eq_iff_iff]; simp [et]
      rw [this]
  · rw [if_neg (fun h => e h.1)]
    have : ((y : Int) == (i : Int)) = false := beqF (by omega)
    rw [this]; rfl
theorem on_now {i k : Nat} {s : List Int} (hi : i < ls.length) (hk : (gl ls i)[k]? = some s) : onP ls p q i k i s = p i s := by
  have hn := T.nodup (x := (i : Int)) (by omega) (by omega)
  unfold onP
  have : ((gl ls i).take k).contains s = false := by
    rw [Bool.eq_false_iff]
    intro h
    rw [List.contains_iff_mem] at h
    obtain ⟨j, hj, e⟩ := List.getElem_of_mem h
    have hj' : j < k := by rw [List.length_take] at hj; omega
    have : (gl ls i)[j]? = some s := by
      rw [List.getElem_take] at e
      rw [← e]; exact List.getElem?_eq_getElem _
    have := nodup_inj hn this hk
    omega
  rw [this, decF (by omega)]; simp
theorem on_set {i k : Nat} {s : List Int} (hi : i < ls.length) (hk : (gl ls i)[k]? = some s) : (marksP ls (onP ls p q i k)).set i (((gl ls i).map (onP ls p q i k i)).set k (p i s || q i s)) = marksP ls (onP ls p q i (k + 1)) := by
  have hn := T.nodup (x := (i : Int)) (by omega) (by omega)
  rw [set_row hn hk, set_marks hi]
  refine marks_congr fun y hy t _ => ?_
  rw [on_step T hi hk]
  by_cases e : y = i
  · subst e
    by_cases et : t = s
    · subst et; simp
    · simp [et]
  · rw [if_neg (by omega), if_neg (fun h => e h.1)]
theorem specOr (y : ML27Table × List (List Bool) × List (List Bool) × Int) (hy : y.2.2.1 = marksP ls q) :
    loopM (R := MTopology × Int) (fun s : Int × List (List Bool) => spec_JoinTopologies_L0 y s.1 s.2) ((0 : Int), marksP ls p) = some (.exit 0 ((ls.length : Int), marksP ls (orP p q))) := by
  have h8 := T.len8
  obtain ⟨e, he, h⟩ := for_loop (R := MTopology × Int) (k := 0) (body := fun s : Int × List (List Bool) => spec_JoinTopologies_L0 y s.1 s.2) (s0 := ((0 : Int), marksP ls p)) (ns ls.length)
    (fun i s => s = ((i : Int), marksP ls (onP ls p q i 0))) (by rw [on_zero T]; rfl)
    (by
      rintro i x s hx rfl
      obtain ⟨rfl, hi⟩ := ns_get hx
      have g0 : (0 : Int) ≤ (i : Int) := by omega
      have g1 : (i : Int) < ls.length := by omega
      have h16 := T.l16 g0 g1
      obtain ⟨e, he, h⟩ := for_loop (R := MTopology × Int) (k := 2) (body := fun s : Int × List (List Bool) => spec_JoinTopologies_L1 y (i : Int) s.1 s.2) (s0 := ((0 : Int), marksP ls (onP ls p q i 0))) (gl ls i)
        (fun k s => s = ((k : Int), marksP ls (onP ls p q i k))) rfl
        (by
          rintro k s z hks rfl
          have hk := getElem?_lt hks
          refine ⟨_, ?_, rfl⟩
          show spec_JoinTopologies_L1 y (i : Int) (k : Int) (marksP ls (onP ls p q i k)) = _
          have hset := on_set T (p := p) (q := q) hi hks
          unfold spec_JoinTopologies_L1
          rw [idx_marks g0 g1, some_bind', List.length_map, decT (by omega), cond_true, some_bind', some_bind', hy, idx_marks g0 g1]
          simp only [some_bind']
          have a1 : idx ((gl ls i).map (onP ls p q i k i)) (k : Int) = some (p i s) := by rw [idx_nat, List.getElem?_map, hks, Option.map_some, on_now T hi hks]
          have a2 : idx ((gl ls i).map (q i)) (k : Int) = some (q i s) := by rw [idx_nat, List.getElem?_map, hks]; rfl
          rw [a1, a2]
          simp only [some_bind']
          rw [w64_nat (by omega), Int.toNat_natCast, Int.toNat_natCast, ← hset]
          cases p (i : Int) s <;> rfl)
        (by
          rintro s rfl
          refine ⟨_, ?_, rfl⟩
          show spec_JoinTopologies_L1 y (i : Int) _ (marksP ls (onP ls p q i (gl ls i).length)) = _
          unfold spec_JoinTopologies_L1
          rw [idx_marks g0 g1, some_bind', List.length_map, decF (by omega), cond_false])
      subst he
      refine ⟨_, ?_, rfl⟩
      show spec_JoinTopologies_L0 y (i : Int) (marksP ls (onP ls p q i 0)) = _
      unfold spec_JoinTopologies_L0
      rw [marks_length, decT (by omega), cond_true]
      exact (lb_exit h).trans (by rw [w64_nat (by omega), on_next T hi]))
    (by
      rintro s rfl
      refine ⟨_, ?_, rfl⟩
      show spec_JoinTopologies_L0 y _ (marksP ls (onP ls p q (ns ls.length).length 0)) = _
      unfold spec_JoinTopologies_L0
      rw [marks_length, ns_length, decF (by omega), cond_false])
  subst he
  rw [h, ns_length, on_all T]
theorem implOr {n m : Int} {d : MCategory} (n0 : 0 ≤ n) (n1 : n ≤ (cnt ls p : Int)) : ∃ r : Int, 0 ≤ r ∧ r ≤ (cnt ls (orP p q) : Int) ∧ impl_coverage_add (KK c ls p n) (KK d ls q m) = some (marksP ls (orP p q), r) := by
  have h8 := T.len8
  obtain ⟨e, ⟨r, he, r0, r1⟩, h⟩ := for_loop (R := List (List Bool) × Int) (k := 0) (body := fun s : Int × Int × List (List Bool) => impl_coverage_add_L0 (KK c ls p n) (KK d ls q m) s.1 s.2.1 s.2.2) (s0 := ((0 : Int), n, marksP ls p)) (ns ls.length)
    (fun i s => ∃ r, s = ((i : Int), r, marksP ls (onP ls p q i 0)) ∧ 0 ≤ r ∧ r ≤ (cnt ls (onP ls p q i 0) : Int)) ⟨n, by rw [on_zero T]; rfl, n0, by rw [cnt_marks (on_zero T)]; exact n1⟩
    (by
      rintro i x s hx ⟨r, rfl, r0, r1⟩
      obtain ⟨rfl, hi⟩ := ns_get hx
      have g0 : (0 : Int) ≤ (i : Int) := by omega
      have g1 : (i : Int) < ls.length := by omega
      have h16 := T.l16 g0 g1
      obtain ⟨e, ⟨r', he, r0', r1'⟩, h⟩ := for_loop (R := List (List Bool) × Int) (k := 2) (body := fun s : Int × Int × List (List Bool) => impl_coverage_add_L1 (KK c ls p n) (i : Int) ((gl ls i).map (q i)) s.1 s.2.1 s.2.2) (s0 := ((0 : Int), r, marksP ls (onP ls p q i 0))) (gl ls i)
        (fun k s => ∃ r, s = ((k : Int), r, marksP ls (onP ls p q i k)) ∧ 0 ≤ r ∧ r ≤ (cnt ls (onP ls p q i k) : Int)) ⟨r, rfl, r0, r1⟩
        (by
          rintro k s z hks ⟨r, rfl, r0, r1⟩
          have hk := getElem?_lt hks
          have hsm := List.mem_of_getElem? hks
          have hle := cnt_le T (onP ls p q i k)
          have a2 : idx ((gl ls i).map (q i)) (k : Int) = some (q i s) := by rw [idx_nat, List.getElem?_map, hks]; rfl
          cases eq : q (i : Int) s with
          | false =>
            have hm : marksP ls (onP ls p q i k) = marksP ls (onP ls p q i (k + 1)) := marks_congr fun y hy t _ => by
              rw [on_step T hi hks]
              by_cases e : y = i ∧ t = s
              · obtain ⟨rfl, rfl⟩ := e
                rw [if_pos ⟨rfl, rfl⟩, on_now T hi hks, eq, Bool.or_false]
              · rw [if_neg e]
            refine ⟨(((k + 1 : Nat) : Int), r, marksP ls (onP ls p q i k)), ?_, r, by rw [hm], r0, by rw [← cnt_marks hm]; exact r1⟩
            show impl_coverage_add_L1 _ (i : Int) _ (k : Int) r (marksP ls (onP ls p q i k)) = _
            unfold impl_coverage_add_L1
            rw [List.length_map, decT (by omega), cond_true, a2, some_bind', eq, cond_false, w64_nat (by omega)]
          | true =>
            have hm : marksP ls (put (onP ls p q i k) i s) = marksP ls (onP ls p q i (k + 1)) := marks_congr fun y hy t _ => by
              rw [on_step T hi hks]
              show (onP ls p q i k y t || ((y : Int) == (i : Int) && t == s)) = _
              by_cases e : y = i ∧ t = s
              · obtain ⟨rfl, rfl⟩ := e
                rw [if_pos ⟨rfl, rfl⟩, eq]; simp
              · rw [if_neg e]
                have : ((y : Int) == (i : Int) && t == s) = false := by
                  rw [Bool.and_eq_false_iff]
                  by_cases e1 : y = i
                  · exact .inr (beqF fun h => e ⟨e1, h⟩)
                  · exact .inl (beqF (by omega))
                rw [this, Bool.or_false]
            obtain ⟨w, hw, hwn⟩ := implMark T (p := onP ls p q i k) (n := r) g0 g1 hsm
            have e1 := cnt_marks hm
            have hb : 0 ≤ w ∧ w ≤ (cnt ls (onP ls p q i (k + 1)) : Int) := by
              rcases hwn with ⟨rfl, hp⟩ | ⟨rfl, hp⟩
              · have := cnt_mono (Le.put (ls := ls) (p := onP ls p q i k) (x := (i : Int)) (s := s)); omega
              · have := cnt_put g0 g1 hsm hp
                rw [w64_id (by omega) (by omega)]; omega
            refine ⟨(((k + 1 : Nat) : Int), w, marksP ls (put (onP ls p q i k) i s)), ?_, w, by rw [hm], hb⟩
            show impl_coverage_add_L1 _ (i : Int) _ (k : Int) r (marksP ls (onP ls p q i k)) = _
            unfold impl_coverage_add_L1
            rw [List.length_map, decT (by omega), cond_true, a2, some_bind', eq, cond_true]
            show (impl_coverage_mark (KK c ls (onP ls p q i k) r) (i : Int) (k : Int) >>= _) = _
            rw [place_at (T.nodup g0 g1) hks] at hw
            rw [hw, some_bind', w64_nat (by omega)])
        (by
          rintro s ⟨r, rfl, h⟩
          refine ⟨_, ?_, r, rfl, h⟩
          show impl_coverage_add_L1 _ (i : Int) _ _ r _ = _
          unfold impl_coverage_add_L1
          rw [List.length_map, decF (by omega), cond_false])
      subst he
      refine ⟨(((i + 1 : Nat) : Int), r', marksP ls (onP ls p q i (gl ls i).length)), ?_, r', by rw [on_next T hi], r0', by rw [← cnt_marks (on_next T hi)]; exact r1'⟩
      show impl_coverage_add_L0 _ _ (i : Int) r _ = _
      unfold impl_coverage_add_L0
      show (bif decide ((i : Int) < ((marksP ls q).length : Int)) then (idx (marksP ls q) (i : Int) >>= _) else _) = _
      rw [marks_length, decT (by omega), cond_true, idx_marks g0 g1, some_bind']
      exact (lb_exit h).trans (by rw [w64_nat (by omega)]))
    (by
      rintro s ⟨r, rfl, h⟩
      refine ⟨_, ?_, r, rfl, h⟩
      show impl_coverage_add_L0 _ _ _ r _ = _
      unfold impl_coverage_add_L0
      show (bif decide (_ < ((marksP ls q).length : Int)) then _ else _) = _
      rw [marks_length, ns_length, decF (by omega), cond_false])
  subst he
  rw [ns_length] at r1 h
  refine ⟨r, r0, by rw [← cnt_marks (on_all T)]; exact r1, ?_⟩
  rw [on_all T] at h
  unfold impl_coverage_add
  exact (congrArg retM (lb_exit h)).trans rfl
end
theorem join_alike {t u : MTopology} (hsz : topSize t ≤ 1048576) (husz : topSize u ≤ 1048576) : ∃ y e, spec_JoinTopologies t u = some (y, e) ∧ impl_JoinTopologies t u = some (y, e) ∧ TopSmall y ∧ topCells y ≤ 4611686018427387000 := by
  have ht := topSmall_of hsz
  have hu := topSmall_of husz
  have hcs : catSize t.Shape ≤ 1048576 := by unfold topSize at hsz; omega
  rcases two_alike ht hu with ⟨e, y, he, h1, h2, h3⟩ | ⟨ls, n, m, B, h1, h2⟩
  · refine ⟨topZ, e, ?_, ?_, topZ_small⟩
    · unfold spec_JoinTopologies
      rw [h1, some_bind', h2, bneT he, cond_true]; rfl
    · unfold impl_JoinTopologies
      rw [h3, some_bind']
      dsimp only
      rw [bneT he, cond_true]; rfl
  · have T := B.T
    obtain ⟨r, r0, r1, ha⟩ := implOr T (p := covB t.Covers) (q := covB u.Covers) (n := n) (m := m) (d := u.Shape) B.n0 B.n1
    obtain ⟨a, ha1, e1⟩ := specSpread' T (orP (covB t.Covers) (covB u.Covers))
    obtain ⟨b, k, hb1, e2⟩ := implCloseL' T r0 r1
    rw [hb1.marks ha1] at e2
    refine ⟨MTopology.mk t.Shape (covP ls a), 0, ?_, ?_, cov_small T hcs⟩
    · unfold spec_JoinTopologies
      rw [h1, some_bind']
      dsimp only
      rw [bneF rfl, cond_false, lb_exit (specOr T (p := covB t.Covers) (q := covB u.Covers) _ rfl), e1, some_bind', specCovers T.cat ht.c T.lists, some_bind']; rfl
    · unfold impl_JoinTopologies
      rw [h2, some_bind']
      show retM (impl_coverage_add (KK t.Shape ls (covB t.Covers) n) (KK u.Shape ls (covB u.Covers) m) >>= _) = _
      rw [ha, some_bind']
      show retM (impl_coverage_close (KK t.Shape ls (orP (covB t.Covers) (covB u.Covers)) r) >>= _) = _
      rw [e2, some_bind']
      show retM (impl_coverage_topology (KK t.Shape ls a k) >>= _) = _
      rw [implTopology T.cat (k := KK t.Shape ls a k) rfl rfl rfl ht.c T.lists, some_bind']; rfl
theorem join_law {x0 x1 : MTopology} (hl : TopLens x0) (hl1 : TopLens x1) : laws_FnExactJoinTopologies x0 x1 = some true := by
  unfold laws_FnExactJoinTopologies
  rw [szTop hl, some_bind']
  by_cases h : (topSize x0 : Int) ≤ 1048576
  · rw [if_pos h, decF (by omega), cond_false, szTopK (by omega) (by omega) hl1, some_bind']
    by_cases h' : (topSize x1 : Int) ≤ 1048576 - topSize x0
    · have hn : topSize x0 ≤ 1048576 := by omega
      have hn1 : topSize x1 ≤ 1048576 := by omega
      have hs := topSmall_of hn
      have hs1 := topSmall_of hn1
      obtain ⟨t, e, h1, h2, ht, hcells⟩ := join_alike hn hn1
      obtain ⟨r, g1, g2, g3⟩ := mark_top hs hn
      obtain ⟨r1, i1, i2, i3⟩ := mark_topK (k := r.1) g2 (by omega) hs1 hn1
      obtain ⟨n, a, b, c, d, k, hn0, hm, hh⟩ := held_marked ht hcells
      rw [if_pos h', decF (by omega), cond_false, toTop hn]
      simp only [some_bind', toTop hn1, h1, h2, eqTop_self ht, eqTop_self hs, eqTop_self hs1, g1, i1, hm, hh, Bool.not_true, cond_false, bne_self_eq_false, decF (show ¬ r1.1 < 0 by omega), decF (show ¬ n < 0 by omega)]
      rfl
    · rw [if_neg h', decT (by omega), cond_true]; rfl
  · rw [if_neg h, decT (by omega), cond_true]; rfl
end Go.Proofs.YtcmckiiafgcmjaaGreat
