/- Separated set functors: the reference looks at least covers, the program at all; the law of IsSeparated, on plain data. No condition beside those that each theorem names. -/
import Derived.Test.YtdlhbbhdfnnmnaaGreatUg
namespace Go.Proofs.YtdlhbbhdfnnmnaaGreat
open Go Go.Li

/-- where the arrows of s take e -/
def imgS (f : MSetFunctor) (s : List Int) (e : Int) : List Int := s.map fun a => gi (gr f.Actions a) e
def Src (f : MSetFunctor) (x : Int) (s : List Int) : Prop := ∀ a ∈ s, (0 ≤ a ∧ a < f.Shape.From.length) ∧ gi f.Shape.From a = x
section
variable {f : MSetFunctor} (S : SF f) {x e : Int} {s : List Int} (hs : Src f x s) (hl : s.length ≤ 1048576) (e0 : 0 ≤ e) (e1 : e < gi f.Sizes x)
include S hs hl e0 e1
theorem specImages : spec_l28Images f s e = some (imgS f s e) := by
  unfold spec_l28Images
  refine (congrArg retM (for_all s (fun i => (imgS f (s.take i) e, (i : Int))) (e := (imgS f s e, (s.length : Int))) rfl ?_ ?_)).trans rfl
  · intro i a ha
    have hi := getElem?_lt ha
    obtain ⟨⟨a0, a1⟩, ax⟩ := hs a (List.mem_of_getElem? ha)
    have ht : (imgS f (s.take i) e).length ≤ 1048576 := by unfold imgS; rw [List.length_map, List.length_take]; omega
    show spec_l28Images_L0 f s e (imgS f (s.take i) e) (i : Int) = _
    unfold spec_l28Images_L0
    rw [decT (by omega), cond_true, idx_nat, ha, some_bind', S.idxA a0 a1, some_bind', S.at_ a0 a1 e0 (by rw [ax]; exact e1), some_bind', fits_ok (by omega) (by omega), some_bind', w64_nat (by omega), take_succ_get ha]
    unfold imgS
    rw [List.map_append]; rfl
  · show spec_l28Images_L0 f s e _ _ = _
    unfold spec_l28Images_L0
    rw [decF (by omega), cond_false, List.take_length]
theorem implRestricted : impl_SetFunctor_restricted f s e = some (imgS f s e) := by
  unfold impl_SetFunctor_restricted
  refine (congrArg retM (for_all s (fun i => (imgS f (s.take i) e, (i : Int))) (e := (imgS f s e, (s.length : Int))) rfl ?_ ?_)).trans rfl
  · intro i a ha
    have hi := getElem?_lt ha
    obtain ⟨⟨a0, a1⟩, ax⟩ := hs a (List.mem_of_getElem? ha)
    have ht : (imgS f (s.take i) e).length ≤ 1048576 := by unfold imgS; rw [List.length_map, List.length_take]; omega
    show impl_SetFunctor_restricted_L0 f s e (imgS f (s.take i) e) (i : Int) = _
    unfold impl_SetFunctor_restricted_L0
    rw [decT (by omega), cond_true, idx_nat, ha, some_bind', S.idxA a0 a1, some_bind', S.at_ a0 a1 e0 (by rw [ax]; exact e1), some_bind', fits_ok (by omega) (by omega), some_bind', w64_nat (by omega), take_succ_get ha]
    unfold imgS
    rw [List.map_append]; rfl
  · show impl_SetFunctor_restricted_L0 f s e _ _ = _
    unfold impl_SetFunctor_restricted_L0
    rw [decF (by omega), cond_false, List.take_length]
theorem img_bd : ∀ y ∈ imgS f s e, 0 ≤ y ∧ y < 256 := by
  have _ := hl
  intro y hy
  obtain ⟨a, ha, rfl⟩ := List.mem_map.1 hy
  obtain ⟨⟨a0, a1⟩, ax⟩ := hs a ha
  have h1 := S.img a0 a1 e0 (by rw [ax]; exact e1)
  have ht := S.cat.to a0 a1
  have h2 := (S.s _ ht.1 ht.2).2
  omega
end
/-- a list of numbers as a string -/
def keyS (l : List Int) : ByteArray := strOfNums (l.map (fun n => IntKind.u8.wrap n) ++ [255])
theorem implKey {l : List Int} (hl : l.length ≤ 1048576) : impl_key [l] = some (keyS l) := by
  unfold impl_key
  refine (congrArg retM (for_all [l] (fun i => (if i = 0 then [] else l.map (fun n => IntKind.u8.wrap n) ++ [255], (i : Int))) (e := (l.map (fun n => IntKind.u8.wrap n) ++ [255], 1)) rfl ?_ ?_)).trans rfl
  · intro i y hy
    obtain rfl : i = 0 := by have := getElem?_lt hy; simp at this; exact this
    obtain rfl : l = y := by simpa using hy
    show impl_key_L0 [l] [] ((0 : Nat) : Int) = _
    unfold impl_key_L0
    have : idx [l] ((0 : Nat) : Int) = some l := by rw [idx_nat]; rfl
    rw [decT (by simp), cond_true, this, some_bind']
    refine (for_all l (fun i => ((l.take i).map (fun n => IntKind.u8.wrap n), (i : Int))) (e := (l.map (fun n => IntKind.u8.wrap n), (l.length : Int))) rfl ?_ ?_).trans ?_
    · intro i n hn
      have hi := getElem?_lt hn
      have ht : ((l.take i).map (fun n => IntKind.u8.wrap n)).length ≤ 1048576 := by rw [List.length_map, List.length_take]; omega
      show impl_key_L1 l ((l.take i).map (fun n => IntKind.u8.wrap n)) (i : Int) = _
      unfold impl_key_L1
      rw [decT (by omega), cond_true, idx_nat, hn, some_bind', fits_ok (by omega) (by omega), some_bind', w64_nat (by omega), take_succ_get hn, List.map_append]; rfl
    · show impl_key_L1 l _ _ = _
      unfold impl_key_L1
      rw [decF (by omega), cond_false, List.take_length]
    · have ht : (l.map (fun n => IntKind.u8.wrap n)).length ≤ 1048576 := by rw [List.length_map]; omega
      show (fits 1 ((l.map (fun n => IntKind.u8.wrap n)).length + 1) >>= _) = _
      rw [fits_ok (by omega) (by omega), some_bind', w64_nat (by omega)]; rfl
  · show impl_key_L0 [l] _ _ = _
    unfold impl_key_L0
    rw [decF (by simp), cond_false]; rfl
theorem wrap_u8 {n : Int} (h0 : 0 ≤ n) (h1 : n < 256) : IntKind.u8.wrap n = n := by
  unfold IntKind.wrap
  have : n % (2 ^ IntKind.u8.bits : Int) = n := by
    show n % 256 = n
    omega
  rw [this]
  rfl
theorem byte_inj {m n : Int} (m0 : 0 ≤ m) (m1 : m < 256) (n0 : 0 ≤ n) (n1 : n < 256) (h : UInt8.ofNat m.toNat = UInt8.ofNat n.toNat) : m = n := by
  have h2 := congrArg UInt8.toNat h
  rw [UInt8.toNat_ofNat', UInt8.toNat_ofNat', Nat.mod_eq_of_lt (by omega), Nat.mod_eq_of_lt (by omega)] at h2
  omega
theorem map_inj_bd : ∀ {l k : List Int}, (∀ y ∈ l, 0 ≤ y ∧ y < 256) → (∀ y ∈ k, 0 ≤ y ∧ y < 256) → l.map (fun n => UInt8.ofNat n.toNat) = k.map (fun n => UInt8.ofNat n.toNat) → l = k := by
  intro l
  induction l with
  | nil => intro k _ _ h; cases k with | nil => rfl | cons b k => simp at h
  | cons a l ih =>
    intro k h1 h2 h
    cases k with
    | nil => simp at h
    | cons b k =>
      rw [List.map_cons, List.map_cons] at h
      injection h with h3 h4
      have ha := h1 a (by simp)
      have hb := h2 b (by simp)
      rw [byte_inj ha.1 ha.2 hb.1 hb.2 h3, ih (fun y hy => h1 y (by simp [hy])) (fun y hy => h2 y (by simp [hy])) h4]
theorem keyS_inj {l k : List Int} (h1 : ∀ y ∈ l, 0 ≤ y ∧ y < 256) (h2 : ∀ y ∈ k, 0 ≤ y ∧ y < 256) (h : keyS l = keyS k) : l = k := by
  have wr : ∀ {l : List Int}, (∀ y ∈ l, 0 ≤ y ∧ y < 256) → l.map (fun n => IntKind.u8.wrap n) = l := by
    intro l hl
    have : l.map (fun n => IntKind.u8.wrap n) = l.map id := List.map_congr_left fun y hy => wrap_u8 (hl y hy).1 (hl y hy).2
    rw [this, List.map_id]
  unfold keyS at h
  rw [wr h1, wr h2] at h
  have h3 := congrArg (fun b : ByteArray => b.data.toList) h
  simp only [strOfNums_data, List.map_append] at h3
  exact map_inj_bd h1 h2 (List.append_cancel_right h3)

/-- keys put into a map: it has as many entries as keys only if the keys are apart -/
theorem mput_keys {m : List (ByteArray × Bool)} {k : ByteArray} : (k ∈ m.map Prod.fst ∧ (mput m k true).map Prod.fst = m.map Prod.fst) ∨ (k ∉ m.map Prod.fst ∧ (mput m k true).map Prod.fst = m.map Prod.fst ++ [k]) := by
  induction m with
  | nil => exact .inr ⟨by simp, rfl⟩
  | cons p m ih =>
    unfold mput
    cases h : (p.1 == k) with
    | true =>
      have h' : p.1 = k := (MapKept.bytes_beq _ _).1 h
      exact .inl ⟨by simp [h'], by simp [h']⟩
    | false =>
      have h' : k ≠ p.1 := fun e => by rw [(MapKept.bytes_beq _ _).2 e.symm] at h; cases h
      rw [cond_false]
      rcases ih with ⟨h1, h2⟩ | ⟨h1, h2⟩
      · exact .inl ⟨by rw [List.map_cons]; exact List.mem_cons_of_mem _ h1, by rw [List.map_cons, h2, List.map_cons]⟩
      · exact .inr ⟨by rw [List.map_cons]; exact fun h3 => (List.mem_cons.1 h3).elim h' h1, by rw [List.map_cons, h2, List.map_cons, List.cons_append]⟩
theorem seen_len (K : Int → ByteArray) : ∀ (l : List Int) (m : List (ByteArray × Bool)), (m.map Prod.fst).Nodup →
    (l.foldl (fun m e => mput m (K e) true) m).length ≤ m.length + l.length ∧ ((l.foldl (fun m e => mput m (K e) true) m).length = m.length + l.length ↔ (m.map Prod.fst ++ l.map K).Nodup) := by
  intro l
  induction l with
  | nil => intro m hm; exact ⟨Nat.le_refl _, by simp [hm]⟩
  | cons a l ih =>
    intro m hm
    rw [List.foldl_cons, List.length_cons]
    rcases mput_keys (m := m) (k := K a) with ⟨h1, h2⟩ | ⟨h1, h2⟩
    · have hl : (mput m (K a) true).length = m.length := by simpa using congrArg List.length h2
      obtain ⟨g1, _⟩ := ih (mput m (K a) true) (by rw [h2]; exact hm)
      rw [hl] at g1
      refine ⟨by omega, ⟨fun h => by omega, fun h => ?_⟩⟩
      have := (List.nodup_append.1 h).2.2 (K a) h1 (K a) (by simp)
      exact absurd rfl this
    · have hl : (mput m (K a) true).length = m.length + 1 := by simpa using congrArg List.length h2
      have hn : (m.map Prod.fst ++ [K a]).Nodup := List.nodup_append.2 ⟨hm, by simp, fun x hx y hy => by rw [List.mem_singleton.1 hy]; exact fun e => h1 (e ▸ hx)⟩
      obtain ⟨g1, g2⟩ := ih (mput m (K a) true) (by rw [h2]; exact hn)
      rw [hl] at g1 g2
      rw [h2, List.append_assoc, List.singleton_append] at g2
      rw [List.map_cons]
      refine ⟨by omega, ⟨fun h => g2.1 (by omega), fun h => by have := g2.2 h; omega⟩⟩
theorem nodup_ns (K : Int → ByteArray) (n : Nat) : ((ns n).map K).Nodup ↔ ∀ a b : Int, (0 ≤ a ∧ a < n) → (0 ≤ b ∧ b < n) → K a = K b → a = b := by
  constructor
  · intro h a b ha hb hk
    obtain ⟨i, rfl⟩ := Int.eq_ofNat_of_zero_le ha.1
    obtain ⟨j, rfl⟩ := Int.eq_ofNat_of_zero_le hb.1
    have e1 : ((ns n).map K)[i]? = some (K (i : Int)) := mapI_get K (by omega)
    have e2 : ((ns n).map K)[j]? = some (K (j : Int)) := mapI_get K (by omega)
    have hi := getElem?_lt e1
    have := (List.getElem?_inj (i := i) (j := j) hi h).1 (by rw [e1, e2, hk])
    omega
  · intro h
    rw [List.Nodup, List.pairwise_map]
    exact (ns_pw n).imp_of_mem fun {a b} ha hb hab hk => by have := h a b (ns_mem.1 ha) (ns_mem.1 hb) hk; omega

/-- elements that s tells apart -/
def Inj (f : MSetFunctor) (x : Int) (s : List Int) : Prop := ∀ a b : Int, (0 ≤ a ∧ a < gi f.Sizes x) → (0 ≤ b ∧ b < gi f.Sizes x) → imgS f s a = imgS f s b → a = b
def seenM (f : MSetFunctor) (s : List Int) (l : List Int) : List (ByteArray × Bool) := l.foldl (fun m e => mput m (keyS (imgS f s e)) true) []
def diffB (f : MSetFunctor) (x : Int) (s : List Int) : Bool := ((seenM f s (ns (gi f.Sizes x).toNat)).length : Int) != gi f.Sizes x
def twiceB (f : MSetFunctor) (x : Int) (s : List Int) (e : Int) : Bool := (((ns (gi f.Sizes x).toNat).filter fun d => imgS f s d == imgS f s e).length : Int) != 1
section
variable {f : MSetFunctor} (S : SF f) {x : Int} (x0 : 0 ≤ x) (x1 : x < f.Shape.Objects) {s : List Int} (hs : Src f x s) (hl : s.length ≤ 1048576)
include S x0 x1 hs hl
theorem diff_iff : diffB f x s = false ↔ Inj f x s := by
  have hz := S.s x x0 x1
  have h := (seen_len (fun e => keyS (imgS f s e)) (ns (gi f.Sizes x).toNat) [] List.nodup_nil).2
  rw [List.map_nil, List.nil_append, nodup_ns, ns_length, List.length_nil, Nat.zero_add] at h
  unfold diffB
  rw [bne_eq_false_iff_eq]
  constructor
  · intro h1 a b ha hb hab
    exact h.1 (by have h2 := h1; unfold seenM at h2; omega) a b ⟨ha.1, by omega⟩ ⟨hb.1, by omega⟩ (by rw [hab])
  · intro h1
    have := h.2 fun a b ha hb hk => h1 a b ⟨ha.1, by omega⟩ ⟨hb.1, by omega⟩ (keyS_inj (img_bd S hs hl ha.1 (by omega)) (img_bd S hs hl hb.1 (by omega)) hk)
    unfold seenM
    omega
theorem twice_iff : (ns (gi f.Sizes x).toNat).any (twiceB f x s) = false ↔ Inj f x s := by
  have _ := hs
  have _ := hl
  have hz := S.s x x0 x1
  rw [ns_any_false]
  have key : ∀ e : Int, (0 ≤ e ∧ e < gi f.Sizes x) → (twiceB f x s e = false ↔ ∀ d : Int, (0 ≤ d ∧ d < gi f.Sizes x) → imgS f s d = imgS f s e → d = e) := by
    intro e he
    have hm : e ∈ (ns (gi f.Sizes x).toNat).filter fun d => imgS f s d == imgS f s e := List.mem_filter.2 ⟨ns_mem.2 ⟨he.1, by omega⟩, by simp⟩
    unfold twiceB
    rw [bne_eq_false_iff_eq]
    constructor
    · intro h d hd hde
      have hm2 : d ∈ (ns (gi f.Sizes x).toNat).filter fun d => imgS f s d == imgS f s e := List.mem_filter.2 ⟨ns_mem.2 ⟨hd.1, by omega⟩, by simp [hde]⟩
      generalize (ns (gi f.Sizes x).toNat).filter (fun d => imgS f s d == imgS f s e) = L at h hm hm2
      match L, h with
      | [y], _ => rw [List.mem_singleton.1 hm, List.mem_singleton.1 hm2]
      | [], h => simp at h
      | y :: z :: l, h => simp only [List.length_cons] at h; omega
    · intro h
      have hn : ((ns (gi f.Sizes x).toNat).filter fun d => imgS f s d == imgS f s e).Nodup := ns_filter_nodup
      have hall : ∀ d ∈ (ns (gi f.Sizes x).toNat).filter (fun d => imgS f s d == imgS f s e), d = e := by
        intro d hd
        obtain ⟨h1, h2⟩ := List.mem_filter.1 hd
        have := ns_mem.1 h1
        exact h d ⟨this.1, by omega⟩ (by simpa using h2)
      generalize (ns (gi f.Sizes x).toNat).filter (fun d => imgS f s d == imgS f s e) = L at hm hn hall
      match L with
      | [] => cases hm
      | [y] => rfl
      | y :: z :: l =>
        have e1 := hall y (by simp)
        have e2 := hall z (by simp)
        rw [e1, e2] at hn
        simp at hn
  constructor
  · intro h a b ha hb hab
    exact ((key b hb).1 (h b hb.1 (by omega))) a ha hab
  · intro h e h0 h1
    exact (key e ⟨h0, by omega⟩).2 fun d hd hde => h d e hd ⟨h0, by omega⟩ hde
theorem specGlued {fam : List Int} : spec_l28Glued f x s fam = some ((ns (gi f.Sizes x).toNat).filter fun d => imgS f s d == fam) := by
  have hz := S.s x x0 x1
  unfold spec_l28Glued
  refine (congrArg retM (keep_loop (ns (gi f.Sizes x).toNat) (fun d => imgS f s d == fam) (fun acc i => (acc, (i : Int))) rfl ?_ ?_)).trans rfl
  · intro i d acc hd hacc
    obtain ⟨rfl, hi⟩ := ns_get hd
    show spec_l28Glued_L0 f x s fam acc (i : Int) = _
    unfold spec_l28Glued_L0
    have hlen : (imgS f s (i : Int)).length ≤ 1048576 := by unfold imgS; rw [List.length_map]; exact hl
    rw [S.idxS x0 x1, some_bind', decT (by omega), cond_true, specImages S hs hl (by omega) (by omega), some_bind', specSame _ _ (by omega), some_bind', fits_ok (by omega) (by omega), some_bind', w64_nat (by omega)]
    cases (imgS f s (i : Int) == fam) <;> rfl
  · intro acc
    show spec_l28Glued_L0 f x s fam acc _ = _
    unfold spec_l28Glued_L0
    rw [S.idxS x0 x1, some_bind', ns_length, decF (by omega), cond_false]
end
/-- the arrows of an object that lie in each of some sieves -/
def interS (c : MCategory) (x : Int) (C : List (List Int)) : List Int := (outS c x).filter fun a => C.all fun s => hasB s a
def leastS (t : MTopology) (x : Int) : List Int := interS t.Shape x (gl t.Covers x)
theorem inter_mem {c : MCategory} {x a : Int} {C : List (List Int)} : a ∈ interS c x C ↔ a ∈ outS c x ∧ ∀ s ∈ C, a ∈ s := by
  unfold interS
  rw [List.mem_filter, List.all_eq_true]
  exact ⟨fun h => ⟨h.1, fun s hs => hasB_iff.1 (h.2 s hs)⟩, fun h => ⟨h.1, fun s hs => hasB_iff.2 (h.2 s hs)⟩⟩
section
variable {c : MCategory} {ls : List (List (List Int))} (T : Tab c ls) {q : Int → List Int → Bool} (K : Closed c ls q) {x : Int} (x0 : 0 ≤ x) (x1 : x < ls.length)
include T x0 x1
theorem inter_sv {C : List (List Int)} (hC : ∀ s ∈ C, s ∈ gl ls x) : Sv c x (interS c x C) := by
  refine ⟨?_, fun y hy => (outS_mem.1 (inter_mem.1 hy).1).2, fun y hy b b0 b1 hb => ?_⟩
  · unfold interS outS
    rw [List.filter_filter]
    exact filter_form
  · obtain ⟨h1, h2⟩ := inter_mem.1 hy
    obtain ⟨⟨a0, a1⟩, ax⟩ := outS_mem.1 h1
    have hc := T.cat.cell y b a0 a1 b0 b1 hb
    refine inter_mem.2 ⟨outS_mem.2 ⟨⟨hc.1, hc.2.1⟩, by rw [hc.2.2.1, ax]⟩, fun s hs => ?_⟩
    exact ((T.mem x0 x1).1 (hC s hs)).closed y (h2 s hs) b b0 b1 hb
include K
theorem inter_cov : ∀ {C : List (List Int)}, (∀ s ∈ C, s ∈ gl ls x ∧ q x s = true) → q x (interS c x C) = true := by
  intro C
  induction C with
  | nil =>
    intro _
    have : interS c x [] = outS c x := by unfold interS; simp
    rw [this]
    exact K.top x x0 x1
  | cons s C ih =>
    intro hC
    have hr := ih fun u hu => hC u (by simp [hu])
    have hs := hC s (by simp)
    have rsv := inter_sv T x0 x1 (C := C) fun u hu => (hC u (by simp [hu])).1
    have tsv := inter_sv T x0 x1 (C := s :: C) fun u hu => (hC u hu).1
    have ssv := (T.mem x0 x1).1 hs.1
    refine K.loc x x0 x1 s hs.1 _ ((T.mem x0 x1).2 tsv) hs.2 ?_
    unfold localB
    rw [Bool.not_eq_true', List.any_eq_false]
    intro a ha
    obtain ⟨a0, a1⟩ := ssv.arr a ha
    have ax := ssv.src a ha
    have e : pullS c a (interS c x (s :: C)) = pullS c a (interS c x C) := by
      unfold pullS
      apply List.filter_congr
      intro b hb
      obtain ⟨⟨b0, b1⟩, bx⟩ := outS_mem.1 hb
      have hin := ssv.closed a ha b b0 b1 bx.symm
      rw [Bool.eq_iff_iff, hasB_iff, hasB_iff, inter_mem, inter_mem]
      exact ⟨fun h => ⟨h.1, fun u hu => h.2 u (by simp [hu])⟩, fun h => ⟨h.1, fun u hu => (List.mem_cons.1 hu).elim (fun e => by rw [e]; exact hin) (h.2 u)⟩⟩
    rw [e]
    have := K.arrow a (interS c x C) a0 a1 (by rw [ax]; exact (T.mem x0 x1).2 rsv) (by rw [ax]; exact hr)
    rw [this]; simp
end
section
variable {t : MTopology} (ht : TopSmall t) (F : Form t) {f : MSetFunctor} (S : SF f) (he : t.Shape = f.Shape) {ls : List (List (List Int))} (T : Tab t.Shape ls)
include ht F S he T
theorem src_of {x : Int} (x0 : 0 ≤ x) (x1 : x < ls.length) {s : List Int} (h : Sv t.Shape x s) : Src f x s ∧ s.length ≤ 1048576 := by
  have _ := ht
  have _ := F
  have _ := S
  have _ := x0
  have _ := x1
  have h1 := h.len
  have h2 := T.cat.m
  refine ⟨fun a ha => ?_, by omega⟩
  rw [← he]
  exact ⟨h.arr a ha, h.src a ha⟩
/-- a set functor is separated for all covers exactly if it is for the least ones -/
theorem sep_same (K : Closed t.Shape ls (covB t.Covers)) {x : Nat} (x1 : x < ls.length) :
    ((ns (gi f.Sizes x).toNat).any (twiceB f x (leastS t x))) = ((gl ls x).any fun s => covB t.Covers x s && diffB f x s) := by
  have hlen := T.len
  rw [he] at hlen
  obtain ⟨_, c2⟩ := covs F T ht
  have hc := c2 x x1
  have y0 : (0 : Int) ≤ x := by omega
  have y1 : (x : Int) < ls.length := by omega
  have lsv : Sv t.Shape x (leastS t x) := inter_sv T y0 y1 fun s hs => hc.2 s hs
  have lcov : covB t.Covers x (leastS t x) = true := inter_cov T K y0 y1 fun s hs => ⟨hc.2 s hs, by unfold covB; exact List.contains_iff_mem.2 hs⟩
  obtain ⟨s1, s2⟩ := src_of ht F S he T y0 y1 lsv
  have h1 := twice_iff S y0 (by omega) s1 s2
  have h2 : ((gl ls x).any fun s => covB t.Covers x s && diffB f x s) = false ↔ Inj f x (leastS t x) := by
    rw [List.any_eq_false]
    constructor
    · intro h
      have := h _ ((T.mem y0 y1).2 lsv)
      rw [lcov, Bool.true_and, Bool.not_eq_true] at this
      exact (diff_iff S y0 (by omega) s1 s2).1 this
    · intro h s hs
      have ssv := (T.mem y0 y1).1 hs
      obtain ⟨r1, r2⟩ := src_of ht F S he T y0 y1 ssv
      cases e : covB t.Covers (x : Int) s with
      | false => simp
      | true =>
        rw [Bool.true_and, Bool.not_eq_true]
        refine (diff_iff S y0 (by omega) r1 r2).2 fun a b ha hb hab => h a b ha hb ?_
        unfold imgS at hab ⊢
        rw [List.map_inj_left] at hab ⊢
        intro z hz
        refine hab z ((inter_mem.1 hz).2 s ?_)
        unfold covB at e
        exact List.contains_iff_mem.1 e
  cases e1 : (ns (gi f.Sizes x).toNat).any (twiceB f x (leastS t x)) with
  | false => exact (h2.2 (h1.1 e1)).symm
  | true =>
    cases e2 : (gl ls x).any fun s => covB t.Covers x s && diffB f x s with
    | true => rfl
    | false => rw [h1.2 (h2.1 e2)] at e1; cases e1
def sepB (t : MTopology) (f : MSetFunctor) (n : Nat) : Bool := !((ns n).any fun x => (ns (gi f.Sizes x).toNat).any (twiceB f x (leastS t x)))
theorem specLeastL : spec_l27Least t = some (mapI ls.length (leastS t)) := by
  have _ := S
  have _ := he
  have hm := T.cat.m
  have h8 := T.len8
  obtain ⟨cl, cs⟩ := covs F T ht
  unfold spec_l27Least
  refine (congrArg retM (map_loop ls.length (leastS t) (fun acc i => (acc, (i : Int))) rfl ?_ ?_)).trans rfl
  · intro i acc hi ha
    obtain ⟨hcl, hcm⟩ := cs i hi
    show spec_l27Least_L0 t acc i = _
    unfold spec_l27Least_L0
    rw [decT (by omega), cond_true, specOut (by omega), some_bind']
    have ho := outS_len t.Shape (i : Int)
    refine (keep_loop (outS t.Shape i) (fun a => (gl t.Covers i).all fun s => hasB s a) (fun acc i => (acc, (i : Int))) rfl ?_ ?_).trans ?_
    · intro j a acc ha hacc
      have hj := getElem?_lt ha
      show spec_l27Least_L1 t (i : Int) _ acc (j : Int) = _
      unfold spec_l27Least_L1
      rw [decT (by omega), cond_true]
      refine (for_all (gl t.Covers i) (fun k => (((gl t.Covers i).take k).all (fun s => hasB s a), (k : Int))) (e := ((gl t.Covers i).all (fun s => hasB s a), ((gl t.Covers i).length : Int))) rfl ?_ ?_).trans ?_
      · intro k s hs
        have hk := getElem?_lt hs
        have h40 := T.s40 (by omega) (by omega) (hcm s (List.mem_of_getElem? hs))
        show spec_l27Least_L2 t (i : Int) _ (j : Int) _ (k : Int) = _
        unfold spec_l27Least_L2
        rw [idx_gl (by omega) (by omega), some_bind', decT (by omega), cond_true, take_all hs]
        cases ((gl t.Covers i).take k).all fun s => hasB s a with
        | false => rw [cond_false, some_bind', w64_nat (by omega)]; rfl
        | true => rw [cond_true, some_bind', idx_nat, hs, some_bind', idx_nat, ha, some_bind', specHas _ _ (by omega), some_bind', some_bind', w64_nat (by omega)]; rfl
      · show spec_l27Least_L2 t (i : Int) _ (j : Int) _ _ = _
        unfold spec_l27Least_L2
        rw [idx_gl (by omega) (by omega), some_bind', decF (by omega), cond_false, all_len]
      · show (bif (gl t.Covers i).all (fun s => hasB s a) then _ else _) = _
        cases (gl t.Covers i).all fun s => hasB s a with
        | true => rw [cond_true, idx_nat, ha, some_bind', fits_ok (by omega) (by omega), some_bind', w64_nat (by omega)]; rfl
        | false => rw [cond_false, w64_nat (by omega)]; rfl
    · intro acc
      show spec_l27Least_L1 t (i : Int) _ acc _ = _
      unfold spec_l27Least_L1
      rw [decF (by omega), cond_false]
    · show (fits 24 (acc.length + 1) >>= _) = _
      rw [fits_ok (by omega) (by omega), some_bind', w64_nat (by omega)]; rfl
  · intro acc ha
    show spec_l27Least_L0 t acc _ = _
    unfold spec_l27Least_L0
    rw [decF (by omega), cond_false]
theorem specSeparated : spec_l28Separated f (mapI ls.length (leastS t)) = some (sepB t f ls.length) := by
  have hlen := T.len
  rw [he] at hlen
  have h8 := T.len8
  obtain ⟨_, c2⟩ := covs F T ht
  unfold spec_l28Separated
  have hx : ∀ x : Nat, x < ls.length → spec_l28Separated_L0 f (mapI ls.length (leastS t)) (x : Int) = bif (ns (gi f.Sizes x).toNat).any (twiceB f x (leastS t x)) then some (.ret false) else some (.norm ((x + 1 : Nat) : Int)) := by
    intro x hx
    have y0 : (0 : Int) ≤ x := by omega
    have y1 : (x : Int) < f.Shape.Objects := by omega
    have hz := S.s (x : Int) y0 y1
    have lsv : Sv t.Shape x (leastS t x) := inter_sv T y0 (by omega) fun s hs => (c2 x hx).2 s hs
    obtain ⟨s1, s2⟩ := src_of ht F S he T y0 (by omega) lsv
    have hi : idx (mapI ls.length (leastS t)) (x : Int) = some (leastS t x) := by rw [idx_nat]; exact mapI_get _ hx
    unfold spec_l28Separated_L0
    rw [decT (by omega), cond_true, forb (n := (gi f.Sizes x).toNat) (twiceB f x (leastS t x)) (fun e he => by
      unfold spec_l28Separated_L1
      simp only [S.idxS y0 y1, some_bind', hi, decT (show (e : Int) < gi f.Sizes x by omega), cond_true, specImages S s1 s2 (e := (e : Int)) (by omega) (by omega), specGlued S y0 y1 s1 s2]
      rw [w64_nat (by omega)]; rfl) (by unfold spec_l28Separated_L1; rw [S.idxS y0 y1, some_bind', decF (by omega), cond_false]), w64_nat (by omega)]
  rw [forb (n := ls.length) (fun x => (ns (gi f.Sizes x).toNat).any (twiceB f x (leastS t x))) hx (by unfold spec_l28Separated_L0; rw [decF (by omega), cond_false])]
  unfold sepB
  cases (ns ls.length).any fun x => (ns (gi f.Sizes x).toNat).any (twiceB f x (leastS t x)) <;> rfl
theorem implSeparated (K : Closed t.Shape ls (covB t.Covers)) (n : Int) : impl_coverage_isSeparated (KK t.Shape ls (covB t.Covers) n) f = some (sepB t f ls.length) := by
  have hlen := T.len
  rw [he] at hlen
  have h8 := T.len8
  unfold impl_coverage_isSeparated
  have hx : ∀ x : Nat, x < ls.length → impl_coverage_isSeparated_L0 (KK t.Shape ls (covB t.Covers) n) f (x : Int) = bif (ns (gi f.Sizes x).toNat).any (twiceB f x (leastS t x)) then some (.ret false) else some (.norm ((x + 1 : Nat) : Int)) := by
    intro x hx
    have y0 : (0 : Int) ≤ x := by omega
    have y1 : (x : Int) < f.Shape.Objects := by omega
    have hz := S.s (x : Int) y0 y1
    have h16 := T.l16 y0 (by omega)
    rw [sep_same ht F S he T K hx]
    unfold impl_coverage_isSeparated_L0
    show (bif decide ((x : Int) < ((marksP ls (covB t.Covers)).length : Int)) then (idx (marksP ls (covB t.Covers)) (x : Int) >>= _) else _) = _
    rw [marks_length, decT (by omega), cond_true, idx_marks y0 (by omega), some_bind']
    have hs : ∀ (j : Nat) s, (gl ls x)[j]? = some s → impl_coverage_isSeparated_L1 (KK t.Shape ls (covB t.Covers) n) f (x : Int) ((gl ls x).map (covB t.Covers x)) (j : Int) = bif covB t.Covers x s && diffB f x s then some (.ret false) else some (.norm ((j + 1 : Nat) : Int)) := by
      intro j s hj
      have hjl := getElem?_lt hj
      obtain ⟨s1, s2⟩ := src_of ht F S he T y0 (by omega) ((T.mem y0 (by omega)).1 (List.mem_of_getElem? hj))
      unfold impl_coverage_isSeparated_L1
      rw [List.length_map, decT (by omega), cond_true, idx_nat, List.getElem?_map, hj]
      show (some (covB t.Covers x s) >>= _) = _
      rw [some_bind', S.idxS y0 y1, some_bind']
      refine (for_all (ns (gi f.Sizes x).toNat) (fun i => ((i : Int), seenM f s ((ns (gi f.Sizes x).toNat).take i))) (e := (gi f.Sizes x, seenM f s (ns (gi f.Sizes x).toNat))) rfl ?_ ?_).trans ?_
      · intro i e hie
        obtain ⟨rfl, hi⟩ := ns_get hie
        have hl2 : (imgS f s (i : Int)).length ≤ 1048576 := by unfold imgS; rw [List.length_map]; exact s2
        show impl_coverage_isSeparated_L2 _ f (x : Int) (j : Int) _ (i : Int) (seenM f s ((ns (gi f.Sizes x).toNat).take i)) = _
        unfold impl_coverage_isSeparated_L2
        show (bif decide ((i : Int) < gi f.Sizes x) then (idx ls (x : Int) >>= _) else _) = _
        rw [decT (by omega), cond_true, idx_gl y0 (by omega), some_bind', idx_nat, hj, some_bind', implRestricted S s1 s2 (by omega) (by omega), some_bind', implKey hl2, some_bind', w64_nat (by omega), take_succ_get hie]
        unfold seenM
        rw [List.foldl_append]; rfl
      · show impl_coverage_isSeparated_L2 _ f (x : Int) (j : Int) _ _ _ = _
        unfold impl_coverage_isSeparated_L2
        rw [ns_length, decF (by omega), cond_false, List.take_of_length_le (by rw [ns_length]; exact Nat.le_refl _)]
        show some (Out.exit 4 (((gi f.Sizes x).toNat : Int), _)) = _
        rw [Int.toNat_of_nonneg hz.1]
      · rw [w64_nat (by omega)]
        simp only [some_bind', cond_some, cond_and]; rfl
    refine (for_anyb (gl ls x) (fun s => covB t.Covers x s && diffB f x s) (fun j => (j : Int)) rfl ?_ ?_ (e := ((gl ls x).length : Int)) (y := false) ?_).trans ?_
    · intro j s hj hp; rw [hs j s hj, hp]; rfl
    · intro j s hj hp; rw [hs j s hj, hp]; rfl
    · unfold impl_coverage_isSeparated_L1
      rw [List.length_map, decF (by omega), cond_false]
    · rw [w64_nat (by omega)]
      cases (gl ls x).any fun s => covB t.Covers x s && diffB f x s <;> rfl
  rw [forb (n := ls.length) (fun x => (ns (gi f.Sizes x).toNat).any (twiceB f x (leastS t x))) hx (by
    unfold impl_coverage_isSeparated_L0
    show (bif decide ((ls.length : Int) < ((marksP ls (covB t.Covers)).length : Int)) then _ else _) = _
    rw [marks_length, decF (by omega), cond_false])]
  unfold sepB
  cases (ns ls.length).any fun x => (ns (gi f.Sizes x).toNat).any (twiceB f x (leastS t x)) <;> rfl
end
theorem sep_alike {t : MTopology} {f : MSetFunctor} (ht : TopSmall t) (hf : SFSmall f) : ∃ y, spec_IsSeparated t f = some y ∧ impl_IsSeparated t f = some y := by
  unfold spec_IsSeparated impl_IsSeparated spec_l28Code impl_sheafCode
  rw [specForm ht, some_bind', specIsF hf, some_bind', implForm ht, some_bind', implAreF [f] (by simp) (by simpa using hf), some_bind', cond_some, cond_or, some_bind']
  rw [show [f].all sfB = sfB f by simp]
  cases h1 : formB t with
  | false => exact ⟨(false, 1), rfl, rfl⟩
  | true =>
    cases h2 : sfB f with
    | false => exact ⟨(false, 1), rfl, rfl⟩
    | true =>
      have S := sf_of h2
      simp only [Bool.not_true, Bool.or_false, cond_false]
      rw [specSameCat ht.c, some_bind']
      rcases on_alike (f := f) ht h1 with ⟨e, y, he, g1, g2, g3, g4⟩ | ⟨ls, n, T, hs, ⟨y, g1, g2⟩, go, g4⟩
      · refine ⟨(false, e), ?_, ?_⟩
        · rw [g1, some_bind', cond_some, some_bind', g2]
          rcases g3 with h | ⟨h, h'⟩
          · rw [h, decF (by rintro ⟨_, h⟩; exact he h), cond_false]
            show retM (bif e != 0 then _ else _) = _
            rw [bneT he, cond_true]; rfl
          · subst h'
            rw [h]; rfl
        · rw [g4, some_bind']
          show retM (bif e != 0 then _ else _) = _
          rw [bneT he, cond_true]; rfl
      · have F := form_of h1
        have K := (closed_iff T).1 go
        refine ⟨(sepB t f ls.length, 0), ?_, ?_⟩
        · rw [g1, some_bind', g2, beqT rfl, cond_true, some_bind', sameB_eq.2 hs]
          show retM (bif (0 : Int) != 0 then some (.ret (false, (0 : Int))) else (spec_l27Least t >>= _)) = _
          rw [bneF rfl, cond_false, specLeastL ht F S hs T, some_bind', specSeparated ht F S hs T, some_bind']; rfl
        · rw [g4, some_bind']
          show retM (bif (0 : Int) != 0 then some (.ret (false, (0 : Int))) else (impl_coverage_isSeparated (KK t.Shape ls (covB t.Covers) n) f >>= _)) = _
          rw [bneF rfl, cond_false, implSeparated ht F S hs T K n, some_bind']; rfl
theorem separated_law {x0 : MTopology} {x1 : MSetFunctor} (hl : TopLens x0) (hl1 : SFLens x1) : laws_FnExactIsSeparated x0 x1 = some true := by
  unfold laws_FnExactIsSeparated
  rw [szTop hl, some_bind']
  by_cases h : (topSize x0 : Int) ≤ 1048576
  · rw [if_pos h, decF (by omega), cond_false, szSFK (by omega) (by omega) hl1, some_bind']
    by_cases h' : (sfSize x1 : Int) ≤ 1048576 - topSize x0
    · have hn : topSize x0 ≤ 1048576 := by omega
      have hn1 : sfSize x1 ≤ 1048576 := by omega
      have hs := topSmall_of hn
      have hs1 := sfSmall_of hn1
      obtain ⟨y, h1, h2⟩ := sep_alike hs hs1
      rw [if_pos h', decF (by omega), cond_false, toTop hn]
      simp only [some_bind', toSF hn1, h1, h2, eqTop_self hs, eqSF_self hs1, beq_self_eq_true, bne_self_eq_false, Bool.not_true, cond_false]
      rfl
    · rw [if_neg h', decT (by omega), cond_true]; rfl
  · rw [if_neg h, decT (by omega), cond_true]; rfl
end Go.Proofs.YtdlhbbhdfnnmnaaGreat
