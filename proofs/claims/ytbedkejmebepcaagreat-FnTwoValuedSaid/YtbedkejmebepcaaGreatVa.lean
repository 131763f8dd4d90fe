/- Two-valued categories are groupoids; the classifier is a set functor, and its true elements are a part, with a complement exactly in groupoids. No condition beside those that each theorem names. -/
import Derived.Test.YtbedkejmebepcaaGreatUa
namespace Go.Proofs.YtbedkejmebepcaaGreat
open Go Go.Li

/-- each arrow generates the greatest sieve -/
def tvB (c : MCategory) : Bool := (ns c.From.length).all fun a => hasB (closeS c [a]) (gi c.Identity (gi c.From a))
def invB (c : MCategory) (f g : Int) : Bool := gk c.Composites f g == gi c.Identity (gi c.From f) && gk c.Composites g f == gi c.Identity (gi c.To f)
def homB (c : MCategory) (x y a : Int) : Bool := gi c.From a == x && gi c.To a == y
def grB (c : MCategory) : Bool := (ns c.From.length).all fun f => (ns c.From.length).any fun g => homB c (gi c.To f) (gi c.From f) g && invB c f g
section
variable {c : MCategory} (H : Cat c)
include H
theorem close1 {a : Int} (a0 : 0 ≤ a) (a1 : a < c.From.length) : Sv c (gi c.From a) (closeS c [a]) ∧ a ∈ closeS c [a] := by
  have hA : Arr c [a] := fun y hy => by rw [List.mem_singleton.1 hy]; exact ⟨a0, a1⟩
  exact ⟨close_sv H hA fun y hy => by rw [List.mem_singleton.1 hy], close_sub H hA a (by simp)⟩
theorem sv_top {x : Int} (h0 : 0 ≤ x) (hx : x < c.Objects) {s : List Int} (hs : Sv c x s) : hasB s (gi c.Identity x) = (s == outS c x) := by
  have hid := H.id h0 hx
  rw [Bool.eq_iff_iff, hasB_iff, beq_iff_eq]
  constructor
  · intro hm
    refine sorted_eq (by rw [hs.form]; exact (ns_pw _).filter _) ((ns_pw _).filter _) fun y => ⟨fun hy => outS_mem.2 ⟨hs.arr y hy, hs.src y hy⟩, fun hy => ?_⟩
    have hy := outS_mem.1 hy
    have := hs.closed _ hm y hy.1.1 hy.1.2 (by rw [H.idt x h0 hx, hy.2])
    have e := H.unitL y hy.1.1 hy.1.2
    rw [hy.2] at e
    rw [e] at this; exact this
  · intro e
    rw [e]
    exact outS_mem.2 ⟨hid, H.idf x h0 hx⟩
theorem sv_len {x : Int} (h0 : 0 ≤ x) (hx : x < c.Objects) {s : List Int} (hs : Sv c x s) : (s.length != (outS c x).length) = !hasB s (gi c.Identity x) := by
  rw [sv_top H h0 hx hs]
  have e : s = (outS c x).filter (hasB s) := by
    refine hs.form.trans ?_
    show _ = ((ns c.From.length).filter _).filter _
    rw [List.filter_filter]
    refine List.filter_congr fun y _ => ?_
    rw [Bool.eq_iff_iff, Bool.and_eq_true, hasB_iff]
    exact ⟨fun h => ⟨h, by rw [hs.src y h]; simp⟩, fun h => h.1⟩
  have hsub : s.Sublist (outS c x) := by
    have := List.filter_sublist (l := outS c x) (p := hasB s)
    rwa [← e] at this
  by_cases h : s = outS c x
  · rw [beqT h, bneF (by rw [h])]; rfl
  · rw [beqF h, bneT fun hl => h (hsub.eq_of_length hl)]; rfl
theorem tv_gr : tvB c = grB c := by
  unfold tvB grB
  rw [Bool.eq_iff_iff, List.all_eq_true, List.all_eq_true]
  constructor
  · intro h
    have key : ∀ a : Int, 0 ≤ a → a < c.From.length → ∃ b : Int, (0 ≤ b ∧ b < c.From.length) ∧ gi c.To a = gi c.From b ∧ gk c.Composites a b = gi c.Identity (gi c.From a) := fun a a0 a1 => by
      have := h a (ns_mem.2 ⟨a0, a1⟩)
      rw [hasB_iff] at this
      obtain ⟨_, y, hy, b, hb, e1, e2⟩ := close_mem.1 this
      rw [List.mem_singleton.1 hy] at e1 e2
      exact ⟨b, hb, e1, e2⟩
    intro f hf
    obtain ⟨f0, f1⟩ := ns_mem.1 hf
    obtain ⟨b, hb, e1, e2⟩ := key f f0 f1
    obtain ⟨d, hd, e3, e4⟩ := key b hb.1 hb.2
    have hfr := H.fr f0 f1
    have hbt : gi c.To b = gi c.From f := by
      have := (H.cell f b f0 f1 hb.1 hb.2 e1).2.2.2
      rw [← this, e2, H.idt _ hfr.1 hfr.2]
    have hdf : d = f := by
      have ha := H.assoc f b d f0 f1 hb.1 hb.2 hd.1 hd.2 e1 e3
      have l := H.unitL d hd.1 hd.2
      rw [← e3, hbt] at l
      have r := H.unitR f f0 f1
      rw [e2, l, e4, ← e1, r] at ha
      exact ha
    rw [hdf, ← e1] at e4
    rw [List.any_eq_true]
    refine ⟨b, ns_mem.2 hb, ?_⟩
    unfold homB invB
    simp only [Bool.and_eq_true, beq_iff_eq]
    exact ⟨⟨e1.symm, hbt⟩, e2, e4⟩
  · intro h a ha
    obtain ⟨a0, a1⟩ := ns_mem.1 ha
    have := h a ha
    rw [List.any_eq_true] at this
    obtain ⟨g, hg, e⟩ := this
    unfold homB invB at e
    simp only [Bool.and_eq_true, beq_iff_eq] at e
    have hfr := H.fr a0 a1
    rw [hasB_iff]
    exact close_mem.2 ⟨H.id hfr.1 hfr.2, a, by simp, g, ns_mem.1 hg, e.1.1.symm, e.2.1⟩
theorem pull_id {x : Int} (h0 : 0 ≤ x) (hx : x < c.Objects) {s : List Int} (hs : Sv c x s) : pullS c (gi c.Identity x) s = s := by
  have hid := H.id h0 hx
  have hp := pull_sv H hid.1 hid.2 hs
  refine sorted_eq (by rw [hp.form]; exact (ns_pw _).filter _) (by rw [hs.form]; exact (ns_pw _).filter _) fun y => ?_
  unfold pullS
  rw [List.mem_filter, outS_mem, H.idt x h0 hx, hasB_iff]
  constructor
  · rintro ⟨⟨hy, e⟩, h⟩
    have := H.unitL y hy.1 hy.2
    rw [e] at this
    rwa [this] at h
  · intro h
    have hy := hs.arr y h
    have e := hs.src y h
    have := H.unitL y hy.1 hy.2
    rw [e] at this
    exact ⟨⟨hy, e⟩, by rw [this]; exact h⟩
theorem pull_comp {a b : Int} (a0 : 0 ≤ a) (a1 : a < c.From.length) (b0 : 0 ≤ b) (b1 : b < c.From.length) (e : gi c.To a = gi c.From b) (s : List Int) : pullS c (gk c.Composites a b) s = pullS c b (pullS c a s) := by
  have hc := H.cell a b a0 a1 b0 b1 e
  unfold pullS
  rw [hc.2.2.2]
  refine List.filter_congr fun d hd => ?_
  obtain ⟨⟨d0, d1⟩, ed⟩ := outS_mem.1 hd
  have hbd := H.cell b d b0 b1 d0 d1 ed.symm
  rw [Bool.eq_iff_iff, hasB_iff, hasB_iff, List.mem_filter, outS_mem, hasB_iff, H.assoc a b d a0 a1 b0 b1 d0 d1 e ed.symm]
  exact ⟨fun h => ⟨⟨⟨hbd.1, hbd.2.1⟩, by rw [hbd.2.2.1]; exact e.symm⟩, h⟩, fun h => h.2⟩
theorem pull_top {a : Int} (a0 : 0 ≤ a) (a1 : a < c.From.length) : pullS c a (outS c (gi c.From a)) = outS c (gi c.To a) := by
  unfold pullS
  rw [List.filter_eq_self]
  intro d hd
  obtain ⟨⟨d0, d1⟩, ed⟩ := outS_mem.1 hd
  have hc := H.cell a d a0 a1 d0 d1 ed.symm
  rw [hasB_iff]
  exact outS_mem.2 ⟨⟨hc.1, hc.2.1⟩, hc.2.2.1⟩
end
section
variable {c : MCategory} {ls : List (List (List Int))} (T : Tab c ls)
include T
theorem gr_acts {a : Int} (a0 : 0 ≤ a) (a1 : a < c.From.length) : gr (acts c ls) a = act c ls a := by
  have h := T.acts_at a0 a1
  rw [idx_gr a0 (by unfold acts; rw [mapI_length]; exact a1)] at h
  exact Option.some.inj h
theorem sieve_at {x e : Int} (x0 : 0 ≤ x) (x1 : x < ls.length) (e0 : 0 ≤ e) (e1 : e < (gl ls x).length) : ∃ s, (gl ls x)[e.toNat]? = some s ∧ s ∈ gl ls x ∧ Sv c x s ∧ placeS (gl ls x) s = e := by
  have h : (gl ls x)[e.toNat]? = some ((gl ls x)[e.toNat]'(by omega)) := List.getElem?_eq_getElem _
  have hm := List.mem_of_getElem? h
  refine ⟨_, h, hm, (T.mem x0 x1).1 hm, ?_⟩
  rw [place_at (T.nodup x0 x1) h]; omega
theorem act_gi {a e : Int} (a0 : 0 ≤ a) (a1 : a < c.From.length) (e0 : 0 ≤ e) {s : List Int} (hs : (gl ls (gi c.From a))[e.toNat]? = some s) : gi (act c ls a) e = placeS (gl ls (gi c.To a)) (pullS c a s) := by
  have _ := a0
  have _ := a1
  have h := T.act_at hs
  have hi := getElem?_lt hs
  rw [show ((e.toNat : Nat) : Int) = e by omega] at h
  rw [idx_gi e0 (by unfold act; rw [List.length_map]; omega)] at h
  exact Option.some.inj h
theorem place_lt {x : Int} {s : List Int} (hs : s ∈ gl ls x) : 0 ≤ placeS (gl ls x) s ∧ placeS (gl ls x) s < (gl ls x).length := by
  have _ := T
  obtain ⟨j, e, hj⟩ := place_some hs
  have := getElem?_lt hj
  omega
theorem place_get {x : Int} {s : List Int} (hs : s ∈ gl ls x) : (gl ls x)[(placeS (gl ls x) s).toNat]? = some s := by
  have _ := T
  obtain ⟨j, e, hj⟩ := place_some hs
  rw [e]; exact hj
theorem omega_sf (hcat : catB c = true) : sfB (omegaF c ls) = true := by
  have hl := T.len
  have hsz : ∀ {x : Int}, 0 ≤ x → x < c.Objects → gi (sizesOf ls) x = ((gl ls x).length : Int) := fun x0 x1 => gi_sizes T x0 (by omega)
  have hshape : sfShapeB (omegaF c ls) = true := by
    unfold sfShapeB sfHead
    simp only [Bool.and_eq_true, List.all_eq_true, beq_iff_eq, inS_iff]
    refine ⟨⟨hcat, by show ((sizesOf ls).length : Int) = c.Objects; unfold sizesOf; rw [List.length_map]; exact hl, fun y hy => ?_, by show (acts c ls).length = _; unfold acts; rw [mapI_length]⟩, fun a ha => ?_⟩
    · obtain ⟨L, hL, rfl⟩ := List.mem_map.1 (show y ∈ ls.map _ from hy)
      obtain ⟨i, hi, rfl⟩ := List.getElem_of_mem hL
      have h16 := T.l16 (x := (i : Int)) (by omega) (by omega)
      rw [gl_eq (List.getElem?_eq_getElem hi)] at h16
      omega
    · obtain ⟨a0, a1⟩ := ns_mem.1 ha
      have hf := T.cat.fr a0 a1
      have ht := T.cat.to a0 a1
      show mapB (gr (acts c ls) a) (gi (sizesOf ls) (gi c.From a)) (gi (sizesOf ls) (gi c.To a)) = true
      rw [gr_acts T a0 a1, hsz hf.1 hf.2, hsz ht.1 ht.2, mapB_iff]
      refine ⟨by unfold act; rw [List.length_map], fun y hy => ?_⟩
      obtain ⟨s, hs, rfl⟩ := List.mem_map.1 (show y ∈ (gl ls (gi c.From a)).map _ from hy)
      exact place_lt T (T.pull a0 a1 ((T.mem hf.1 (by omega)).1 hs))
  have S := sfShape_of hshape
  unfold sfB
  rw [hshape, Bool.true_and]
  unfold sfLawB
  rw [Bool.and_eq_true, Bool.not_eq_true', Bool.not_eq_true', ns_any_false, ns_any_false]
  refine ⟨fun x x0 x1 => ?_, fun a a0 a1 => ?_⟩
  · have x1 : x < c.Objects := by have h : x < (c.Objects.toNat : Int) := x1; omega
    have hid := T.cat.id x0 x1
    have e1 := T.cat.idf x x0 x1
    have e2 := T.cat.idt x x0 x1
    unfold idBad
    rw [ns_any_false]
    intro e h0 h1
    have h1 : e < (gl ls x).length := by
      have h : e < ((gi (sizesOf ls) x).toNat : Int) := h1
      rw [hsz x0 x1] at h; omega
    obtain ⟨s, s1, s2, s3, s4⟩ := sieve_at T x0 (by omega) h0 h1
    show (gi (gr (acts c ls) (gi c.Identity x)) e != e) = false
    rw [gr_acts T hid.1 hid.2, act_gi T hid.1 hid.2 h0 (s := s) (by rw [e1]; exact s1), e2, pull_id T.cat x0 x1 s3, s4]
    exact bneF rfl
  · rw [ns_any_false]
    intro b b0 b1
    unfold cmpBad
    cases he : gi c.To a == gi c.From b with
    | false => rfl
    | true =>
      have he : gi c.To a = gi c.From b := by simpa using he
      have hf := T.cat.fr a0 a1
      have ht := T.cat.to a0 a1
      have hc := T.cat.cell a b a0 a1 b0 b1 he
      rw [Bool.true_and, ns_any_false]
      intro e h0 h1
      have h1 : e < (gl ls (gi c.From a)).length := by
        have h : e < ((gi (sizesOf ls) (gi c.From a)).toNat : Int) := h1
        rw [hsz hf.1 hf.2] at h; omega
      obtain ⟨s, s1, s2, s3, s4⟩ := sieve_at T hf.1 (by omega) h0 h1
      have hp := T.pull a0 a1 s3
      show (gi (gr (acts c ls) (gk c.Composites a b)) e != gi (gr (acts c ls) b) (gi (gr (acts c ls) a) e)) = false
      rw [gr_acts T hc.1 hc.2.1, gr_acts T a0 a1, gr_acts T b0 b1, act_gi T a0 a1 h0 s1, act_gi T hc.1 hc.2.1 h0 (s := s) (by rw [hc.2.2.1]; exact s1), hc.2.2.2,
        act_gi T b0 b1 (place_lt T hp).1 (s := pullS c a s) (by rw [← he]; exact place_get T hp), pull_comp T.cat a0 a1 b0 b1 he]
      exact bneF rfl
/-- the true elements -/
def truthM (c : MCategory) (ls : List (List (List Int))) : List (List Int) := mapI ls.length fun x => [tp c ls x]
theorem gr_truth {x : Int} (x0 : 0 ≤ x) (x1 : x < ls.length) : gr (truthM c ls) x = [tp c ls x] := by
  have _ := T
  have h := idx_gr (l := truthM c ls) (j := x) x0 (by unfold truthM; rw [mapI_length]; exact x1)
  obtain ⟨n, rfl⟩ : ∃ n : Nat, x = n := ⟨x.toNat, by omega⟩
  rw [idx_nat] at h
  unfold truthM at h ⊢
  rw [mapI_get _ (by omega)] at h
  exact (Option.some.inj h).symm
theorem act_tp {a : Int} (a0 : 0 ≤ a) (a1 : a < c.From.length) : gi (act c ls a) (tp c ls (gi c.From a)) = tp c ls (gi c.To a) := by
  have hf := T.fr a0 a1
  have ho := T.out hf.1 hf.2
  show gi (act c ls a) (placeS (gl ls (gi c.From a)) (outS c (gi c.From a))) = _
  rw [act_gi T a0 a1 (place_lt T ho).1 (place_get T ho), pull_top T.cat a0 a1]; rfl
theorem truth_part : partB (omegaF c ls) (truthM c ls) = true := by
  have hl := T.len
  unfold partB
  simp only [Bool.and_eq_true, beq_iff_eq, List.all_eq_true, Bool.not_eq_true', ns_any_false]
  refine ⟨by show (truthM c ls).length = (sizesOf ls).length; unfold truthM sizesOf; rw [mapI_length, List.length_map], fun x hx => ?_, fun a a0 a1 => ?_⟩
  · obtain ⟨x0, x1⟩ := ns_mem.1 hx
    have x1 : x < ls.length := by unfold truthM at x1; rw [mapI_length] at x1; exact x1
    have ht := tp_range T x0 x1
    unfold ptRow
    rw [gr_truth T x0 x1, Bool.and_eq_true, inS_iff]
    refine ⟨rfl, fun y hy => ?_⟩
    rw [List.mem_singleton.1 hy]
    show _ ∧ _ < gi (sizesOf ls) x
    rw [gi_sizes T x0 x1]; exact ht
  · have hf := T.fr a0 a1
    have ht := T.to a0 a1
    unfold ptBad
    show ((ns (gr (truthM c ls) (gi c.From a)).length).any fun i => !hasB (gr (truthM c ls) (gi c.To a)) (gi (gr (acts c ls) a) (gi (gr (truthM c ls) (gi c.From a)) i))) = false
    rw [gr_truth T hf.1 hf.2, gr_truth T ht.1 ht.2, gr_acts T a0 a1, ns_any_false]
    intro i i0 i1
    have : i = 0 := by have h : i < (1 : Nat) := i1; omega
    subst this
    show (!hasB [tp c ls (gi c.To a)] (gi (act c ls a) (tp c ls (gi c.From a)))) = false
    rw [act_tp T a0 a1]
    unfold hasB
    simp
/-- the elements with no true image -/
def noneQ (c : MCategory) (ls : List (List (List Int))) (x e : Int) : Bool := !((outS c x).any fun a => hasB (gr (truthM c ls) (gi c.To a)) (gi (gr (acts c ls) a) e))
theorem true_iff {x e : Int} (x0 : 0 ≤ x) (x1 : x < ls.length) {s : List Int} (hs : s ∈ gl ls x) (he : placeS (gl ls x) s = e) : hasB (gr (truthM c ls) x) e = true ↔ s = outS c x := by
  rw [gr_truth T x0 x1, hasB_iff, List.mem_singleton]
  constructor
  · intro h
    have h1 := place_get T hs
    have h2 := place_get T (T.out x0 x1)
    have : placeS (gl ls x) s = placeS (gl ls x) (outS c x) := by rw [he, h]; rfl
    rw [this, h2] at h1
    exact (Option.some.inj h1).symm
  · intro h
    rw [← he, h]; rfl
theorem none_iff {x e : Int} (x0 : 0 ≤ x) (x1 : x < ls.length) (e0 : 0 ≤ e) {s : List Int} (hs : s ∈ gl ls x) (hg : (gl ls x)[e.toNat]? = some s) : noneQ c ls x e = true ↔ s = [] := by
  have hsv := (T.mem x0 x1).1 hs
  unfold noneQ
  rw [Bool.not_eq_true', List.any_eq_false]
  have key : ∀ a : Int, a ∈ outS c x → (hasB (gr (truthM c ls) (gi c.To a)) (gi (gr (acts c ls) a) e) = true ↔ a ∈ s) := fun a ha => by
    obtain ⟨⟨a0, a1⟩, ea⟩ := outS_mem.1 ha
    have ht := T.cat.to a0 a1
    have ht' := T.to a0 a1
    have hid := T.cat.id ht.1 ht.2
    have hp := T.pull a0 a1 (s := s) (x := x) hsv
    rw [gr_acts T a0 a1, act_gi T a0 a1 e0 (s := s) (by rw [ea]; exact hg), true_iff T ht'.1 ht'.2 hp rfl]
    have := sv_top T.cat ht.1 ht.2 ((T.mem ht'.1 ht'.2).1 hp)
    rw [← beq_iff_eq, ← this, hasB_iff]
    unfold pullS
    rw [List.mem_filter, outS_mem, hasB_iff, T.cat.unitR a a0 a1]
    exact ⟨fun h => h.2, fun h => ⟨⟨hid, T.cat.idf _ ht.1 ht.2⟩, h⟩⟩
  constructor
  · intro h
    cases s with
    | nil => rfl
    | cons a t =>
      have ha : a ∈ outS c x := outS_mem.2 ⟨hsv.arr a (by simp), hsv.src a (by simp)⟩
      exact absurd ((key a ha).2 (by simp)) (h a ha)
  · rintro rfl a ha h
    exact nomatch (key a ha).1 h
/-- all sieves are empty or the greatest exactly where each arrow generates the greatest -/
theorem all_iff : (∀ x e : Int, 0 ≤ x → x < ls.length → 0 ≤ e → e < ((gl ls x).length : Int) → (hasB (gr (truthM c ls) x) e || noneQ c ls x e) = true) ↔ tvB c = true := by
  have hl := T.len
  unfold tvB
  rw [List.all_eq_true]
  constructor
  · intro h a ha
    obtain ⟨a0, a1⟩ := ns_mem.1 ha
    have hf := T.fr a0 a1
    have hf' := T.cat.fr a0 a1
    obtain ⟨hsv, hin⟩ := close1 T.cat a0 a1
    have hs := (T.mem hf.1 hf.2).2 hsv
    have hp := place_lt T hs
    have := h _ _ hf.1 hf.2 hp.1 hp.2
    rw [Bool.or_eq_true, true_iff T hf.1 hf.2 hs rfl, none_iff T hf.1 hf.2 hp.1 hs (place_get T hs)] at this
    rw [sv_top T.cat hf'.1 hf'.2 hsv, beq_iff_eq]
    rcases this with h | h
    · exact h
    · rw [h] at hin; exact nomatch hin
  · intro h x e x0 x1 e0 e1
    obtain ⟨s, s1, s2, s3, s4⟩ := sieve_at T x0 x1 e0 e1
    rw [Bool.or_eq_true, true_iff T x0 x1 s2 s4, none_iff T x0 x1 e0 s2 s1]
    cases hs : s with
    | nil => exact .inr rfl
    | cons a t =>
      left
      rw [← hs]
      have ha : a ∈ s := by rw [hs]; simp
      have hr := s3.arr a ha
      have := h a (ns_mem.2 hr)
      rw [hasB_iff, s3.src a ha] at this
      have hsub : gi c.Identity x ∈ s := by
        obtain ⟨_, y, hy, b, hb, e1, e2⟩ := close_mem.1 this
        rw [List.mem_singleton.1 hy] at e1 e2
        rw [← e2]; exact s3.closed a ha b hb.1 hb.2 e1
      have := sv_top T.cat x0 (by omega) s3
      rw [hasB_iff.2 hsub] at this
      simpa using this.symm
end
end Go.Proofs.YtbedkejmebepcaaGreat
