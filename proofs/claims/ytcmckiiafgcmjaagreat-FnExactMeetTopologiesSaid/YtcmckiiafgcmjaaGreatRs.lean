/- The meet of two topologies: the reference and the program agree; the law of MeetTopologies, on plain data. No condition beside those that each theorem names. -/
import Derived.Test.YtcmckiiafgcmjaaGreatRl
import Derived.Test.YtcmckiiafgcmjaaGreatRj
namespace Go.Proofs.YtcmckiiafgcmjaaGreat
open Go Go.Li

theorem set_row {L : List (List Int)} {f : List Int → Bool} {k : Nat} {s : List Int} {v : Bool} (hn : L.Nodup) (h : L[k]? = some s) : (L.map f).set k v = L.map fun t => if t = s then v else f t := by
  have hk := (List.getElem?_eq_some_iff.1 h).1
  apply List.ext_getElem?
  intro i
  rw [List.getElem?_set, List.getElem?_map, List.getElem?_map]
  by_cases e : k = i
  · subst e
    rw [if_pos rfl, h]; simp [hk]
  · rw [if_neg e]
    cases hi : L[i]? with
    | none => rfl
    | some t =>
      have : t ≠ s := by
        rintro rfl
        exact e (nodup_inj hn h hi)
      simp [this]
theorem set_marks {ls : List (List (List Int))} {p : Int → List Int → Bool} {i : Nat} {g : List Int → Bool} (hi : i < ls.length) : (marksP ls p).set i ((gl ls i).map g) = marksP ls fun y t => if y = (i : Int) then g t else p y t := by
  apply List.ext_getElem?
  intro x
  rw [List.getElem?_set, marks_length]
  unfold marksP
  by_cases hx : x < ls.length
  · rw [mapI_get _ hx, mapI_get _ hx]
    by_cases e : i = x
    · subst e
      rw [if_pos rfl, if_pos hi]
      congr 1
      apply List.map_congr_left
      intro t _
      exact (if_pos rfl).symm
    · rw [if_neg e]
      congr 1
      apply List.map_congr_left
      intro t _
      exact (if_neg (by omega)).symm
  · rw [if_neg (by omega), List.getElem?_eq_none (by rw [mapI_length]; omega), List.getElem?_eq_none (by rw [mapI_length]; omega)]
/-- the marks that both have -/
def andP (p q : Int → List Int → Bool) : Int → List Int → Bool := fun x s => p x s && q x s
/-- is this place before place k of object i? -/
def befB (ls : List (List (List Int))) (i k : Nat) (y : Int) (t : List Int) : Bool := decide (y < i) || (y == (i : Int) && ((gl ls i).take k).contains t)
def mnP (ls : List (List (List Int))) (p q : Int → List Int → Bool) (i k : Nat) : Int → List Int → Bool := fun y t => bif befB ls i k y t then p y t && q y t else p y t
section
variable {c : MCategory} {ls : List (List (List Int))} (T : Tab c ls) {p q : Int → List Int → Bool}
include T
theorem mn_zero : marksP ls (mnP ls p q 0 0) = marksP ls p := marks_congr fun i hi s _ => by
  have _ := T
  unfold mnP befB
  rw [decF (by omega), List.take_zero, List.contains_nil]; simp
theorem mn_next {i : Nat} (hi : i < ls.length) : marksP ls (mnP ls p q i (gl ls i).length) = marksP ls (mnP ls p q (i + 1) 0) := marks_congr fun y hy s hs => by
  have _ := T
  have e : befB ls i (gl ls i).length y s = befB ls (i + 1) 0 y s := by
    unfold befB
    rw [List.take_length, List.take_zero, List.contains_nil, Bool.and_false, Bool.or_false]
    rw [Bool.eq_iff_iff]
    simp only [Bool.or_eq_true, decide_eq_true_eq, Bool.and_eq_true, beq_iff_eq, List.contains_iff_mem]
    constructor
    · rintro (h | ⟨h, _⟩) <;> omega
    · intro h
      by_cases e : (y : Int) < i
      · exact .inl e
      · have e' : y = i := by omega
        subst e'
        exact .inr ⟨rfl, hs⟩
  unfold mnP
  rw [e]
theorem mn_all : marksP ls (mnP ls p q ls.length 0) = marksP ls (andP p q) := marks_congr fun i hi s _ => by
  have _ := T
  unfold mnP andP befB
  rw [decT (by omega)]; simp
theorem mn_step {i k : Nat} {s : List Int} (hi : i < ls.length) (hk : (gl ls i)[k]? = some s) (y : Nat) (t : List Int) : mnP ls p q i (k + 1) y t = if y = i ∧ t = s then (p i s && q i s) else mnP ls p q i k y t := by
  have _ := T
  unfold mnP befB
  rw [take_succ_get hk]
  by_cases e : y = i
  · subst e
    by_cases et : t = s
    · subst et
      rw [if_pos ⟨rfl, rfl⟩]; simp
    · rw [if_neg (fun h => et h.2)]
      have : ((gl ls y).take k ++ [s]).contains t = ((gl ls y).take k).contains t := by
        rw [Bool.eq_iff_iff]; simp [et]
      rw [this]
  · rw [if_neg (fun h => e h.1)]
    have : ((y : Int) == (i : Int)) = false := beqF (by omega)
    rw [this]; rfl
theorem mn_now {i k : Nat} {s : List Int} (hi : i < ls.length) (hk : (gl ls i)[k]? = some s) : mnP ls p q i k i s = p i s := by
  have hn := T.nodup (x := (i : Int)) (by omega) (by omega)
  unfold mnP befB
  have : ((gl ls i).take k).contains s = false := by
    rw [Bool.eq_false_iff]
    intro h
    rw [List.contains_iff_mem] at h
    obtain ⟨j, hj, e⟩ := List.getElem_of_mem h
    have hj' : j < k := by rw [List.length_take] at hj; omega
    have : (gl ls i)[j]? = some s := by
      rw [List.getElem_take] at e
      rw [← e]; exact List.getElem?_eq_getElem _
    have := nodup_inj hn this hk
    omega
  rw [this, decF (by omega)]; simp
theorem mn_row {i k : Nat} {s : List Int} (hi : i < ls.length) (hk : (gl ls i)[k]? = some s) : ((gl ls i).map (mnP ls p q i k i)).set k (p i s && q i s) = (gl ls i).map (mnP ls p q i (k + 1) i) := by
  have hn := T.nodup (x := (i : Int)) (by omega) (by omega)
  rw [set_row hn hk]
  refine List.map_congr_left fun t _ => ?_
  rw [mn_step T hi hk]
  by_cases et : t = s
  · subst et; simp
  · simp [et]
theorem mn_put {i k k' : Nat} (hi : i < ls.length) : (marksP ls (mnP ls p q i k)).set i ((gl ls i).map (mnP ls p q i k' i)) = marksP ls (mnP ls p q i k') := by
  have _ := T
  rw [set_marks hi]
  refine marks_congr fun y hy t _ => ?_
  by_cases e : y = i
  · subst e; simp
  · rw [if_neg (by omega)]
    unfold mnP befB
    have : ((y : Int) == (i : Int)) = false := beqF (by omega)
    rw [this]; rfl
theorem specAnd (y : ML27Table × List (List Bool) × List (List Bool) × Int) (hy : y.2.2.1 = marksP ls q) :
    loopM (R := MTopology × Int) (fun s : Int × List (List Bool) => spec_MeetTopologies_L0 y s.1 s.2) ((0 : Int), marksP ls p) = some (.exit 0 ((ls.length : Int), marksP ls (andP p q))) := by
  have h8 := T.len8
  obtain ⟨e, he, h⟩ := for_loop (R := MTopology × Int) (k := 0) (body := fun s : Int × List (List Bool) => spec_MeetTopologies_L0 y s.1 s.2) (s0 := ((0 : Int), marksP ls p)) (ns ls.length)
    (fun i s => s = ((i : Int), marksP ls (mnP ls p q i 0))) (by rw [mn_zero T]; rfl)
    (by
      rintro i x s hx rfl
      obtain ⟨rfl, hi⟩ := ns_get hx
      have g0 : (0 : Int) ≤ (i : Int) := by omega
      have g1 : (i : Int) < ls.length := by omega
      have h16 := T.l16 g0 g1
      obtain ⟨e, he, h⟩ := for_loop (R := MTopology × Int) (k := 2) (body := fun s : Int × List (List Bool) => spec_MeetTopologies_L1 y (i : Int) s.1 s.2) (s0 := ((0 : Int), marksP ls (mnP ls p q i 0))) (gl ls i)
        (fun k s => s = ((k : Int), marksP ls (mnP ls p q i k))) rfl
        (by
          rintro k s z hks rfl
          have hk := getElem?_lt hks
          refine ⟨_, ?_, rfl⟩
          show spec_MeetTopologies_L1 y (i : Int) (k : Int) (marksP ls (mnP ls p q i k)) = _
          have hset := mn_row T (p := p) (q := q) hi hks
          have hput := mn_put T (p := p) (q := q) (k := k) (k' := k + 1) hi
          unfold spec_MeetTopologies_L1
          rw [idx_marks g0 g1, some_bind', List.length_map, decT (by omega), cond_true, some_bind', some_bind', hy, idx_marks g0 g1]
          simp only [some_bind']
          have a1 : idx ((gl ls i).map (mnP ls p q i k i)) (k : Int) = some (p i s) := by rw [idx_nat, List.getElem?_map, hks, Option.map_some, mn_now T hi hks]
          have a2 : idx ((gl ls i).map (q i)) (k : Int) = some (q i s) := by rw [idx_nat, List.getElem?_map, hks]; rfl
          rw [a1, a2]
          simp only [some_bind']
          rw [w64_nat (by omega), Int.toNat_natCast, Int.toNat_natCast, ← hput, ← hset]
          cases p (i : Int) s <;> rfl)
        (by
          rintro s rfl
          refine ⟨_, ?_, rfl⟩
          show spec_MeetTopologies_L1 y (i : Int) _ (marksP ls (mnP ls p q i (gl ls i).length)) = _
          unfold spec_MeetTopologies_L1
          rw [idx_marks g0 g1, some_bind', List.length_map, decF (by omega), cond_false])
      subst he
      refine ⟨_, ?_, rfl⟩
      show spec_MeetTopologies_L0 y (i : Int) (marksP ls (mnP ls p q i 0)) = _
      unfold spec_MeetTopologies_L0
      rw [marks_length, decT (by omega), cond_true]
      exact (lb_exit h).trans (by rw [w64_nat (by omega), mn_next T hi]))
    (by
      rintro s rfl
      refine ⟨_, ?_, rfl⟩
      show spec_MeetTopologies_L0 y _ (marksP ls (mnP ls p q (ns ls.length).length 0)) = _
      unfold spec_MeetTopologies_L0
      rw [marks_length, ns_length, decF (by omega), cond_false])
  subst he
  rw [h, ns_length, mn_all T]
theorem implAnd : loopM (R := MTopology × Int) (fun s : Int × List (List Bool) => impl_MeetTopologies_L0 (marksP ls q) ((marksP ls p).length : Int) s.1 s.2) ((0 : Int), marksP ls p) = some (.exit 0 ((ls.length : Int), marksP ls (andP p q))) := by
  have h8 := T.len8
  obtain ⟨e, he, h⟩ := for_loop (R := MTopology × Int) (k := 0) (body := fun s : Int × List (List Bool) => impl_MeetTopologies_L0 (marksP ls q) ((marksP ls p).length : Int) s.1 s.2) (s0 := ((0 : Int), marksP ls p)) (ns ls.length)
    (fun i s => s = ((i : Int), marksP ls (mnP ls p q i 0))) (by rw [mn_zero T]; rfl)
    (by
      rintro i x s hx rfl
      obtain ⟨rfl, hi⟩ := ns_get hx
      have g0 : (0 : Int) ≤ (i : Int) := by omega
      have g1 : (i : Int) < ls.length := by omega
      have h16 := T.l16 g0 g1
      obtain ⟨e, he, h⟩ := for_loop (R := MTopology × Int) (k := 2) (body := fun s : Int × List Bool => impl_MeetTopologies_L1 (marksP ls q) (i : Int) (((gl ls i).map (mnP ls p q i 0 i)).length : Int) s.1 s.2) (s0 := ((0 : Int), (gl ls i).map (mnP ls p q i 0 i))) (gl ls i)
        (fun k s => s = ((k : Int), (gl ls i).map (mnP ls p q i k i))) rfl
        (by
          rintro k s z hks rfl
          have hk := getElem?_lt hks
          refine ⟨_, ?_, rfl⟩
          show impl_MeetTopologies_L1 (marksP ls q) (i : Int) _ (k : Int) ((gl ls i).map (mnP ls p q i k i)) = _
          have hset := mn_row T (p := p) (q := q) hi hks
          unfold impl_MeetTopologies_L1
          have a1 : idx ((gl ls i).map (mnP ls p q i k i)) (k : Int) = some (p i s) := by rw [idx_nat, List.getElem?_map, hks, Option.map_some, mn_now T hi hks]
          have a2 : idx ((gl ls i).map (q i)) (k : Int) = some (q i s) := by rw [idx_nat, List.getElem?_map, hks]; rfl
          rw [List.length_map, decT (by omega), cond_true, a1, idx_marks g0 g1]
          simp only [some_bind']
          rw [a2]
          simp only [some_bind']
          rw [w64_nat (by omega), Int.toNat_natCast, ← hset]
          cases p (i : Int) s <;> rfl)
        (by
          rintro s rfl
          refine ⟨_, ?_, rfl⟩
          show impl_MeetTopologies_L1 (marksP ls q) (i : Int) _ _ ((gl ls i).map (mnP ls p q i (gl ls i).length i)) = _
          unfold impl_MeetTopologies_L1
          rw [List.length_map, decF (by omega), cond_false])
      subst he
      refine ⟨_, ?_, rfl⟩
      show impl_MeetTopologies_L0 (marksP ls q) _ (i : Int) (marksP ls (mnP ls p q i 0)) = _
      unfold impl_MeetTopologies_L0
      rw [marks_length, decT (by omega), cond_true, idx_marks g0 g1, some_bind']
      exact (lb_exit h).trans (by rw [w64_nat (by omega), Int.toNat_natCast]; dsimp only; rw [mn_put T hi, mn_next T hi]))
    (by
      rintro s rfl
      refine ⟨_, ?_, rfl⟩
      show impl_MeetTopologies_L0 (marksP ls q) _ _ (marksP ls (mnP ls p q (ns ls.length).length 0)) = _
      unfold impl_MeetTopologies_L0
      rw [marks_length, ns_length, decF (by omega), cond_false])
  subst he
  rw [h, ns_length, mn_all T]
end
theorem meet_alike {t u : MTopology} (hsz : topSize t ≤ 1048576) (husz : topSize u ≤ 1048576) : ∃ y e, spec_MeetTopologies t u = some (y, e) ∧ impl_MeetTopologies t u = some (y, e) ∧ TopSmall y ∧ topCells y ≤ 4611686018427387000 := by
  have ht := topSmall_of hsz
  have hu := topSmall_of husz
  have hcs : catSize t.Shape ≤ 1048576 := by unfold topSize at hsz; omega
  rcases two_alike ht hu with ⟨e, y, he, h1, h2, h3⟩ | ⟨ls, n, m, B, h1, h2⟩
  · refine ⟨topZ, e, ?_, ?_, topZ_small⟩
    · unfold spec_MeetTopologies
      rw [h1, some_bind', h2, bneT he, cond_true]; rfl
    · unfold impl_MeetTopologies
      rw [h3, some_bind']
      dsimp only
      rw [bneT he, cond_true]; rfl
  · have T := B.T
    refine ⟨MTopology.mk t.Shape (covP ls (andP (covB t.Covers) (covB u.Covers))), 0, ?_, ?_, cov_small T hcs⟩
    · unfold spec_MeetTopologies
      rw [h1, some_bind']
      dsimp only
      rw [bneF rfl, cond_false, lb_exit (specAnd T (p := covB t.Covers) (q := covB u.Covers) _ rfl), specCovers T.cat ht.c T.lists, some_bind']; rfl
    · unfold impl_MeetTopologies
      rw [h2, some_bind']
      show retM (lbind (blockM 0 (loopM (fun s : Int × List (List Bool) => impl_MeetTopologies_L0 (marksP ls (covB u.Covers)) ((marksP ls (covB t.Covers)).length : Int) s.1 s.2) ((0 : Int), marksP ls (covB t.Covers)))) _) = _
      rw [lb_exit (implAnd T (p := covB t.Covers) (q := covB u.Covers))]
      show retM (impl_coverage_topology (KK t.Shape ls (andP (covB t.Covers) (covB u.Covers)) n) >>= _) = _
      rw [implTopology T.cat (k := KK t.Shape ls (andP (covB t.Covers) (covB u.Covers)) n) rfl rfl rfl ht.c T.lists, some_bind']; rfl
theorem meet_law {x0 x1 : MTopology} (hl : TopLens x0) (hl1 : TopLens x1) : laws_FnExactMeetTopologies x0 x1 = some true := by
  unfold laws_FnExactMeetTopologies
  rw [szTop hl, some_bind']
  by_cases h : (topSize x0 : Int) ≤ 1048576
  · rw [if_pos h, decF (by omega), cond_false, szTopK (by omega) (by omega) hl1, some_bind']
    by_cases h' : (topSize x1 : Int) ≤ 1048576 - topSize x0
    · have hn : topSize x0 ≤ 1048576 := by omega
      have hn1 : topSize x1 ≤ 1048576 := by omega
      have hs := topSmall_of hn
      have hs1 := topSmall_of hn1
      obtain ⟨t, e, h1, h2, ht, hcells⟩ := meet_alike hn hn1
      obtain ⟨r, g1, g2, g3⟩ := mark_top hs hn
      obtain ⟨r1, i1, i2, i3⟩ := mark_topK (k := r.1) g2 (by omega) hs1 hn1
      obtain ⟨n, a, b, c, d, k, hn0, hm, hh⟩ := held_marked ht hcells
      rw [if_pos h', decF (by omega), cond_false, toTop hn]
      simp only [some_bind', toTop hn1, h1, h2, eqTop_self ht, eqTop_self hs, eqTop_self hs1, g1, i1, hm, hh, Bool.not_true, cond_false, bne_self_eq_false, decF (show ¬ r1.1 < 0 by omega), decF (show ¬ n < 0 by omega)]
      rfl
    · rw [if_neg h', decT (by omega), cond_true]; rfl
  · rw [if_neg h, decT (by omega), cond_true]; rfl
end Go.Proofs.YtcmckiiafgcmjaaGreat
