/- Two-valued categories, groupoids, complements: the program and the reference; the law of TwoValued, on plain data. No condition beside those that each theorem names. -/
import Derived.Test.YtbedkejmebepcaaGreatVa
import Derived.Test.YtbedkejmebepcaaGreatUa
import Derived.Test.YtbedkejmebepcaaGreatVg
import Derived.Test.YtbedkejmebepcaaGreatRa
namespace Go.Proofs.YtbedkejmebepcaaGreat
open Go Go.Li

theorem gr_allow {f : MSetFunctor} (S : SF f) (q : Int → Int → Bool) {x : Int} (x0 : 0 ≤ x) (x1 : x < f.Shape.Objects) : gr (allowS f q) x = (ns (gi f.Sizes x).toNat).filter (q x) := by
  have hl := S.sl
  have h := idx_gr (l := allowS f q) (j := x) x0 (by unfold allowS; rw [mapI_length]; omega)
  obtain ⟨n, rfl⟩ : ∃ n : Nat, x = n := ⟨x.toNat, by omega⟩
  rw [idx_nat] at h
  unfold allowS at h ⊢
  rw [mapI_get _ (by omega)] at h
  exact (Option.some.inj h).symm
theorem allow_has {f : MSetFunctor} (S : SF f) (q : Int → Int → Bool) {x e : Int} (x0 : 0 ≤ x) (x1 : x < f.Shape.Objects) (e0 : 0 ≤ e) (e1 : e < gi f.Sizes x) : hasB (gr (allowS f q) x) e = q x e := by
  rw [gr_allow S q x0 x1, Bool.eq_iff_iff, hasB_iff, List.mem_filter, ns_mem]
  exact ⟨fun h => h.2, fun h => ⟨⟨e0, by omega⟩, h⟩⟩
section
variable {c : MCategory} (H : Cat c)
include H
theorem implAll {x : Int} (h0 : 0 ≤ x) (h1 : x < c.Objects) (s : List Int) (hs : s.length ≤ 1048576) : impl_all c x s = some (hasB s (gi c.Identity x)) := by
  unfold impl_all impl_sieve_isGreatest
  rw [H.idxI h0 h1, some_bind', implHas _ _ (by omega)]; rfl
theorem implTwo (hs : CatSmall c) (hc : catB c = true) : impl_IsTwoValued c = some (tvB c, 0) := by
  have hm := H.m
  unfold impl_IsTwoValued
  rw [implIs hs, some_bind', hc]
  show retM (S := Unit) (lbind (blockM 0 (loopM (impl_IsTwoValued_L0 c) (0 : Int))) _) = _
  rw [forb (n := c.From.length) (fun a => !hasB (closeS c [a]) (gi c.Identity (gi c.From a))) (y := (false, (0 : Int))) (fun i hi => by
    have a0 : (0 : Int) ≤ (i : Int) := by omega
    have a1 : (i : Int) < c.From.length := by omega
    have hf := H.fr a0 a1
    have hA : Arr c [(i : Int)] := fun y hy => by rw [List.mem_singleton.1 hy]; exact ⟨a0, a1⟩
    unfold impl_IsTwoValued_L0
    rw [decT a1, cond_true, H.idxF a0 a1, some_bind', implClose H.toShape hA (by simp), some_bind', implAll H hf.1 hf.2 _ (by have := (close1 H a0 a1).1.len; omega), some_bind', w64_nat (by omega)]) (by unfold impl_IsTwoValued_L0; rw [decF (by omega), cond_false]), any_not]
  show retM (S := Unit) (bif !tvB c then _ else _) = _
  cases tvB c <;> rfl
theorem specTwo (hs : CatSmall c) (hc : catB c = true) : spec_IsTwoValued c = some (tvB c, 0) := by
  have hm := H.m
  unfold spec_IsTwoValued
  rw [specIs hs, some_bind', hc]
  show retM (S := Unit) (lbind (blockM 0 (loopM (spec_IsTwoValued_L0 c) (0 : Int))) _) = _
  rw [forb (n := c.From.length) (fun a => !hasB (closeS c [a]) (gi c.Identity (gi c.From a))) (y := (false, (0 : Int))) (fun i hi => by
    have a0 : (0 : Int) ≤ (i : Int) := by omega
    have a1 : (i : Int) < c.From.length := by omega
    have hf := H.fr a0 a1
    have hA : Arr c [(i : Int)] := fun y hy => by rw [List.mem_singleton.1 hy]; exact ⟨a0, a1⟩
    have hl := sv_len H hf.1 hf.2 (close1 H a0 a1).1
    have e : (((closeS c [(i : Int)]).length : Int) != ((outS c (gi c.From i)).length : Int)) = ((closeS c [(i : Int)]).length != (outS c (gi c.From i)).length) := by
      rw [Bool.eq_iff_iff]; simp only [bne_iff_ne, ne_eq]; omega
    unfold spec_IsTwoValued_L0
    rw [decT a1, cond_true, specClose H.toShape hA (by simp), some_bind', H.idxF a0 a1, some_bind', specOut (by omega), some_bind', e, hl, w64_nat (by omega)]) (by unfold spec_IsTwoValued_L0; rw [decF (by omega), cond_false]), any_not]
  show retM (S := Unit) (bif !tvB c then _ else _) = _
  cases tvB c <;> rfl
theorem implHom (x y : Int) : impl_Category_hom c x y = some ((ns c.From.length).filter (homB c x y)) := by
  have hm := H.m
  unfold impl_Category_hom
  refine (congrArg retM (keep_loop (ns c.From.length) (homB c x y) (fun acc i => (acc, (i : Int))) rfl ?_ ?_)).trans rfl
  · intro i a acc ha hacc
    obtain ⟨rfl, hi⟩ := ns_get ha
    show impl_Category_hom_L0 c x y acc i = _
    unfold impl_Category_hom_L0
    rw [decT (by omega), cond_true, H.idxF (by omega) (by omega), some_bind', H.idxT (by omega) (by omega), fits_ok (by omega) (by omega)]
    simp only [some_bind']
    rw [w64_nat (by omega)]
    unfold homB
    cases h1 : gi c.From (i : Int) == x with
    | false => rfl
    | true =>
      simp only [cond_true, some_bind', Bool.true_and]
      cases gi c.To (i : Int) == y <;> rfl
  · intro acc
    show impl_Category_hom_L0 c x y acc _ = _
    unfold impl_Category_hom_L0
    rw [ns_length, decF (by omega), cond_false]
theorem implInverse {f : Int} (f0 : 0 ≤ f) (f1 : f < c.From.length) : ∃ y, impl_Category_inverse c f = some y ∧ decide (y < 0) = !((ns c.From.length).any fun g => homB c (gi c.To f) (gi c.From f) g && invB c f g) := by
  have hm := H.m
  have hf := H.fr f0 f1
  have ht := H.to f0 f1
  unfold impl_Category_inverse
  rw [H.idxF f0 f1, some_bind', H.idxT f0 f1, some_bind', implHom H, some_bind']
  have hin : ∀ g ∈ (ns c.From.length).filter (homB c (gi c.To f) (gi c.From f)), 0 ≤ g ∧ g < c.From.length := fun g hg => ns_mem.1 (List.mem_filter.1 hg).1
  have hbody : ∀ (i : Nat) g, ((ns c.From.length).filter (homB c (gi c.To f) (gi c.From f)))[i]? = some g → impl_Category_inverse_L0 c f (gi c.From f) (gi c.To f) ((ns c.From.length).filter (homB c (gi c.To f) (gi c.From f))) i = bif invB c f g then some (.ret g) else some (.norm ((i + 1 : Nat) : Int)) := fun i g hg => by
    have hr := hin g (List.mem_of_getElem? hg)
    have hi := getElem?_lt hg
    have hl := List.length_filter_le (homB c (gi c.To f) (gi c.From f)) (ns c.From.length)
    rw [ns_length] at hl
    unfold impl_Category_inverse_L0 invB
    rw [decT (by omega), cond_true, idx_nat, hg, some_bind', H.toShape.thenI f0 f1 hr.1 hr.2, some_bind', H.idxI hf.1 hf.2, some_bind', H.toShape.thenI hr.1 hr.2 f0 f1, some_bind', H.idxI ht.1 ht.2, some_bind', w64_nat (by omega)]
    cases gk c.Composites f g == gi c.Identity (gi c.From f) <;> rfl
  rcases for_anyg (s0 := (0 : Int)) (k := 0) (f := fun _ => some (Out.ret (S := Unit) (-1 : Int))) ((ns c.From.length).filter (homB c (gi c.To f) (gi c.From f))) (invB c f) (fun y : Int => 0 ≤ y) (fun i => (i : Int)) rfl (e := (((ns c.From.length).filter (homB c (gi c.To f) (gi c.From f))).length : Int))
    (body := impl_Category_inverse_L0 c f (gi c.From f) (gi c.To f) ((ns c.From.length).filter (homB c (gi c.To f) (gi c.From f))))
    (fun i g hg hp => by rw [hbody i g hg, hp]; rfl) (fun i g hg hp => ⟨g, by rw [hbody i g hg, hp]; rfl, (hin g (List.mem_of_getElem? hg)).1⟩) (by unfold impl_Category_inverse_L0; rw [decF (by omega), cond_false]) with ⟨h1, y, h2, h3⟩ | ⟨h1, h2⟩
  · refine ⟨y, by rw [h2]; rfl, ?_⟩
    rw [any_filter'] at h1
    rw [h1, decF (by omega)]; rfl
  · refine ⟨-1, by rw [h2]; rfl, ?_⟩
    rw [any_filter'] at h1
    rw [h1]; rfl
theorem implGroupoid (hs : CatSmall c) (hc : catB c = true) : impl_IsGroupoid c = some (tvB c, 0) := by
  have hm := H.m
  rw [tv_gr H]
  unfold impl_IsGroupoid
  rw [implIs hs, some_bind', hc]
  show retM (S := Unit) (lbind (blockM 0 (loopM (impl_IsGroupoid_L0 c) (0 : Int))) _) = _
  rw [forb (n := c.From.length) (fun f => !((ns c.From.length).any fun g => homB c (gi c.To f) (gi c.From f) g && invB c f g)) (y := (false, (0 : Int))) (fun i hi => by
    obtain ⟨y, h1, h2⟩ := implInverse H (f := (i : Int)) (by omega) (by omega)
    unfold impl_IsGroupoid_L0
    rw [decT (by omega), cond_true, h1, some_bind', h2, w64_nat (by omega)]) (by unfold impl_IsGroupoid_L0; rw [decF (by omega), cond_false]), any_not]
  show retM (S := Unit) (bif !grB c then _ else _) = _
  cases grB c <;> rfl
end
section
variable {f : MSetFunctor} (S : SF f) {M N : List (List Int)} (hM : M.length = f.Sizes.length) (hN : N.length = f.Sizes.length) (sM : ∀ y ∈ M, y.length ≤ 1048576) (sN : ∀ y ∈ N, y.length ≤ 1048576)
include S
theorem implHolds {x : Int} (hM : M.length = f.Sizes.length) (sM : ∀ y ∈ M, y.length ≤ 1048576) (x0 : 0 ≤ x) (x1 : x < f.Shape.Objects) (e : Int) : impl_Part_holds (MPart.mk M) x e = some (hasB (gr M x) e) := by
  have hl := S.sl
  unfold impl_Part_holds
  show retM (S := Unit) (idx M x >>= _) = _
  rw [idx_gr x0 (by omega), some_bind', implHas _ _ (by have := sM _ (gr_mem (l := M) (j := x) x0 (by omega)); omega)]; rfl
def impQ (f : MSetFunctor) (M N : List (List Int)) (x e : Int) : Bool := !((outS f.Shape x).any fun a => hasB (gr M (gi f.Shape.To a)) (gi (gr f.Actions a) e) && !hasB (gr N (gi f.Shape.To a)) (gi (gr f.Actions a) e))
include hM hN sM sN
theorem implImply : impl_SetFunctor_imply f (MPart.mk M) (MPart.mk N) = some (MPart.mk (allowS f (impQ f M N))) := by
  have hm := S.cat.m
  unfold impl_SetFunctor_imply
  rw [implPartOf S (p := fun a0 a1 => impl_SetFunctor_imply_1 a0 a1 f (MPart.mk M) (MPart.mk N)) (q := impQ f M N) (fun x e x0 x1 e0 e1 => by
    have hlen := outS_len f.Shape x
    have hbody : ∀ (i : Nat) a, (outS f.Shape x)[i]? = some a → impl_SetFunctor_imply_1_L0 e f (MPart.mk M) (MPart.mk N) (outS f.Shape x) i = bif hasB (gr M (gi f.Shape.To a)) (gi (gr f.Actions a) e) && !hasB (gr N (gi f.Shape.To a)) (gi (gr f.Actions a) e) then some (.ret false) else some (.norm ((i + 1 : Nat) : Int)) := fun i a ha => by
      obtain ⟨⟨a0, a1⟩, ea⟩ := outS_mem.1 (List.mem_of_getElem? ha)
      have hi := getElem?_lt ha
      have ht := S.cat.to a0 a1
      unfold impl_SetFunctor_imply_1_L0
      rw [decT (by omega), cond_true, idx_nat, ha, some_bind', S.cat.idxT a0 a1, some_bind', S.idxA a0 a1, some_bind', S.at_ a0 a1 e0 (by rw [ea]; exact e1), some_bind', implHolds S hM sM ht.1 ht.2, some_bind', implHolds S hN sN ht.1 ht.2, some_bind', w64_nat (by omega)]
      cases hasB (gr M (gi f.Shape.To a)) (gi (gr f.Actions a) e) <;> rfl
    unfold impl_SetFunctor_imply_1
    rw [implOut (by omega), some_bind', for_anyb (s0 := (0 : Int)) (outS f.Shape x) (fun a => hasB (gr M (gi f.Shape.To a)) (gi (gr f.Actions a) e) && !hasB (gr N (gi f.Shape.To a)) (gi (gr f.Actions a) e)) (fun i => (i : Int)) rfl (e := ((outS f.Shape x).length : Int)) (y := false) (fun i a ha hp => by rw [hbody i a ha, hp]; rfl) (fun i a ha hp => by rw [hbody i a ha, hp]; rfl) (by unfold impl_SetFunctor_imply_1_L0; rw [decF (by omega), cond_false])]
    unfold impQ
    cases (outS f.Shape x).any fun a => hasB (gr M (gi f.Shape.To a)) (gi (gr f.Actions a) e) && !hasB (gr N (gi f.Shape.To a)) (gi (gr f.Actions a) e) <;> rfl), some_bind']
  rfl
theorem implJoinP : impl_SetFunctor_join f (MPart.mk M) (MPart.mk N) = some (MPart.mk (allowS f fun x e => hasB (gr M x) e || hasB (gr N x) e)) := by
  unfold impl_SetFunctor_join
  rw [implPartOf S (p := fun a0 a1 => impl_SetFunctor_join_1 a0 a1 (MPart.mk M) (MPart.mk N)) (q := fun x e => hasB (gr M x) e || hasB (gr N x) e) (fun x e x0 x1 e0 e1 => by
    unfold impl_SetFunctor_join_1
    rw [implHolds S hM sM x0 x1, some_bind', implHolds S hN sN x0 x1, some_bind']
    cases hasB (gr M x) e <;> rfl), some_bind']
  rfl
end
theorem allow_len {f : MSetFunctor} (q : Int → Int → Bool) : (allowS f q).length = f.Sizes.length := by unfold allowS; rw [mapI_length]
theorem implComplemented {f : MSetFunctor} (hf : SFSmall f) (S : SF f) (hb : sfB f = true) {M : List (List Int)} (hp : PartSmall (MPart.mk M)) (hP : partB f M = true) (hM : M.length = f.Sizes.length) :
    impl_IsComplemented f (MPart.mk M) = some (fullB f (allowS f fun x e => hasB (gr M x) e || hasB (gr (allowS f (impQ f M (allowS f fun _ _ => false))) x) e), 0) := by
  have hr : ∀ q : Int → Int → Bool, ∀ y ∈ allowS f q, y.length ≤ 1048576 := fun q => (allow_small S q).r
  unfold impl_IsComplemented
  rw [implAreParts hf hp, some_bind']
  have e : fpB f (MPart.mk M) = true := by unfold fpB; rw [hb]; exact hP
  rw [e]
  have hnone : impl_SetFunctor_none f = some (MPart.mk (allowS f fun _ _ => false)) := by
    unfold impl_SetFunctor_none
    rw [implPartOf S (p := fun a0 a1 => impl_SetFunctor_none_1 a0 a1) (q := fun _ _ => false) (fun _ _ _ _ _ _ => rfl), some_bind']; rfl
  have hneg : impl_SetFunctor_negate f (MPart.mk M) = some (MPart.mk (allowS f (impQ f M (allowS f fun _ _ => false)))) := by
    unfold impl_SetFunctor_negate
    rw [hnone, some_bind', implImply S hM (allow_len _) hp.r (hr _), some_bind']; rfl
  show retM (S := Unit) (impl_SetFunctor_negate f (MPart.mk M) >>= _) = _
  rw [hneg, some_bind', implJoinP S hM (allow_len _) hp.r (hr _), some_bind', implWhole S (allow_len _), some_bind']; rfl
/-- the true elements have a complement exactly in groupoids -/
theorem compl_two {c : MCategory} {ls : List (List (List Int))} (T : Tab c ls) (hc : catB c = true) :
    fullB (omegaF c ls) (allowS (omegaF c ls) fun x e => hasB (gr (truthM c ls) x) e || hasB (gr (allowS (omegaF c ls) (impQ (omegaF c ls) (truthM c ls) (allowS (omegaF c ls) fun _ _ => false))) x) e) = tvB c := by
  have S := sf_of (omega_sf T hc)
  have hl := T.len
  rw [Bool.eq_iff_iff, full_iff S, ← all_iff T]
  have key : ∀ x e : Int, 0 ≤ x → x < ls.length → 0 ≤ e → e < ((gl ls x).length : Int) → hasB (gr (allowS (omegaF c ls) (impQ (omegaF c ls) (truthM c ls) (allowS (omegaF c ls) fun _ _ => false))) x) e = noneQ c ls x e := by
    intro x e x0 x1 e0 e1
    rw [allow_has S _ x0 (by show x < c.Objects; omega) e0 (by show e < gi (sizesOf ls) x; rw [gi_sizes T x0 x1]; exact e1)]
    unfold impQ noneQ
    congr 1
    refine any_congr' fun a ha => ?_
    obtain ⟨⟨a0, a1⟩, ea⟩ := outS_mem.1 (show a ∈ outS c x from ha)
    have ht := T.cat.to a0 a1
    have : hasB (gr (allowS (omegaF c ls) fun _ _ => false) (gi c.To a)) (gi (gr (acts c ls) a) e) = false := by
      rw [gr_allow S _ ht.1 ht.2]
      simp [hasB]
    show (hasB (gr (truthM c ls) (gi c.To a)) (gi (gr (acts c ls) a) e) && !hasB (gr (allowS (omegaF c ls) fun _ _ => false) (gi c.To a)) (gi (gr (acts c ls) a) e)) = _
    rw [this, Bool.not_false, Bool.and_true]
  constructor
  · intro h x e x0 x1 e0 e1
    have := h x e x0 (by show x < c.Objects; omega) e0 (by show e < gi (sizesOf ls) x; rw [gi_sizes T x0 x1]; exact e1)
    rw [key x e x0 x1 e0 e1] at this
    exact this
  · intro h x e x0 x1 e0 e1
    have x1 : x < ls.length := by have : x < c.Objects := x1; omega
    have e1 : e < ((gl ls x).length : Int) := by have h : e < gi (sizesOf ls) x := e1; rwa [gi_sizes T x0 x1] at h
    rw [key x e x0 x1 e0 e1]
    exact h x e x0 x1 e0 e1
theorem two_all {c : MCategory} (hs : CatSmall c) : ∃ a w t, impl_IsTwoValued c = some a ∧ spec_IsTwoValued c = some a ∧ (a.2 = 0 ∧ impl_IsGroupoid c = some (a.1, 0) ∧ impl_Classifier c = some w ∧ impl_GreatestSieves c = some t ∧ w.2 = t.2 ∧
    (w.2 = 3 ∨ w.2 = 0 ∧ t.1.length ≤ 8 ∧ impl_IsComplemented w.1 (MPart.mk (t.1.map fun y => [y])) = some (a.1, 0) ∧ impl_IsPart w.1 (MPart.mk (t.1.map fun y => [y])) = some true) ∨ a = (false, 1)) := by
  cases hc : catB c with
  | false =>
    refine ⟨(false, 1), (MSetFunctor.mk c [] [], 0), ([], 0), ?_, ?_, .inr rfl⟩
    · unfold impl_IsTwoValued; rw [implIs hs, some_bind', hc]; rfl
    · unfold spec_IsTwoValued; rw [specIs hs, some_bind', hc]; rfl
  | true =>
    have H := cat_of hc
    rcases scan H c.Objects.toNat with ⟨ls, L⟩ | ⟨k, ls, hk, L, hn⟩
    · have T : Tab c ls := ⟨H, L⟩
      have S := sf_of (omega_sf T hc)
      have h8 := T.len8
      have htops : (tops c ls).map (fun y => [y]) = truthM c ls := by
        unfold tops truthM mapI
        rw [List.map_map]; rfl
      have hps : PartSmall (MPart.mk (truthM c ls)) := by
        refine ⟨by show (truthM c ls).length ≤ _; unfold truthM; rw [mapI_length]; omega, fun y hy => ?_⟩
        obtain ⟨x, _, rfl⟩ := mapI_mem.1 (show y ∈ mapI ls.length _ from hy)
        show 1 ≤ 1048576; omega
      have hlen : (truthM c ls).length = (omegaF c ls).Sizes.length := by
        show (truthM c ls).length = (sizesOf ls).length
        unfold truthM sizesOf; rw [mapI_length, List.length_map]
      have hsf := omegaSmall T hs
      refine ⟨(tvB c, 0), (omegaF c ls, 0), (tops c ls, 0), implTwo H hs hc, specTwo H hs hc, .inl ⟨rfl, implGroupoid H hs hc, ?_, ?_, rfl, .inr ⟨rfl, ?_, ?_, ?_⟩⟩⟩
      · unfold impl_Classifier
        rw [implIs hs, some_bind', hc]
        show retM (S := Unit) (impl_Category_classifier c >>= _) = _
        rw [implClassifier H hs L, some_bind']; rfl
      · unfold impl_GreatestSieves
        rw [implIs hs, some_bind', hc]
        show retM (S := Unit) (impl_Category_classifier c >>= _) = _
        rw [implClassifier H hs L, some_bind']
        show retM (S := Unit) (impl_classifier_tops (MClassifier.mk (MSetFunctor.mk c (sizesOf ls) (acts c ls)) ls) >>= _) = _
        rw [implTops T (sizesOf ls) [] (acts c ls), some_bind']; rfl
      · show (tops c ls).length ≤ 8; unfold tops; rw [mapI_length]; exact h8
      · show impl_IsComplemented (omegaF c ls) (MPart.mk ((tops c ls).map fun y => [y])) = some (tvB c, 0)
        rw [htops, implComplemented hsf S (omega_sf T hc) hps (truth_part T) hlen, compl_two T hc]
      · show impl_IsPart (omegaF c ls) (MPart.mk ((tops c ls).map fun y => [y])) = some true
        unfold impl_IsPart
        have e : fpB (omegaF c ls) (MPart.mk (truthM c ls)) = true := by unfold fpB; rw [omega_sf T hc]; exact truth_part T
        rw [htops, implAreParts hsf hps, some_bind', e]; rfl
    · refine ⟨(tvB c, 0), (MSetFunctor.mk (MCategory.mk (0 : Int) [] [] [] []) [] [], 3), ([], 3), implTwo H hs hc, specTwo H hs hc, .inl ⟨rfl, implGroupoid H hs hc, ?_, ?_, rfl, .inl rfl⟩⟩
      · unfold impl_Classifier
        rw [implIs hs, some_bind', hc]
        show retM (S := Unit) (impl_Category_classifier c >>= _) = _
        rw [implClassifierNo H hs hk L hn, some_bind']; rfl
      · unfold impl_GreatestSieves
        rw [implIs hs, some_bind', hc]
        show retM (S := Unit) (impl_Category_classifier c >>= _) = _
        rw [implClassifierNo H hs hk L hn, some_bind']; rfl
theorem two_law {x0 : List Int} (hl : x0.length ≤ maxLen ∧ ∀ y ∈ x0, 0 ≤ y ∧ y < 256) : laws_FnTwoValued x0 = some true := by
  unfold laws_FnTwoValued
  have hbig : laws_big x0 = some (decide ((x0.length : Int) > 4096)) := rfl
  rw [hbig, some_bind']
  by_cases hb : (x0.length : Int) > 4096
  · rw [decT hb, cond_true]; rfl
  · rw [decF hb, cond_false]
    obtain ⟨c, e, hs⟩ := drawTwo (x := x0) ⟨by omega, hl.2⟩
    obtain ⟨a, w, t, h1, h2, h⟩ := two_all hs
    rw [e, some_bind', h1, some_bind', h2, some_bind']
    rw [bneF rfl, cond_false, beqT rfl, some_bind']
    show retM (S := Unit) (bif a.2 != (0 : Int) then _ else _) = _
    rcases h with ⟨ha, g1, g2, g3, g4, g5⟩ | rfl
    · rw [ha, bneF rfl, cond_false, g1, some_bind', g2, some_bind', g3, some_bind']
      rw [bneF rfl, cond_false, beqT rfl]
      show retM (S := Unit) ((some (w.2 != t.2)) >>= _) = _
      rw [g4, bneF rfl, some_bind', cond_false]
      rcases g5 with h3 | ⟨h0, h8, k1, k2⟩
      · rw [← g4, h3]; rfl
      · rw [← g4, h0, bneF rfl, cond_false]
        have hloop : ∀ {R : Type} (k : List (List Int) × Int → Option (Out R Bool)), lbind (blockM 0 (loopM (fun s : List (List Int) × Int => laws_FnTwoValued_L0 t s.1 s.2) (([] : List (List Int)), (0 : Int)))) k = k (t.1.map (fun y => [y]), (t.1.length : Int)) := fun k => by
          refine (for_all t.1 (fun i => ((t.1.take i).map (fun y => [y]), (i : Int))) rfl (fun i y hy => ?_) (e := (t.1.map (fun y => [y]), (t.1.length : Int))) ?_)
          · have hi := getElem?_lt hy
            show laws_FnTwoValued_L0 t ((t.1.take i).map fun y => [y]) i = _
            unfold laws_FnTwoValued_L0
            rw [decT (by omega), cond_true, idx_nat, hy, some_bind', fits_ok (by rw [List.length_map, List.length_take]; omega) (by rw [List.length_map, List.length_take]; omega), some_bind', w64_nat (by omega), take_succ_get hy, List.map_append]; rfl
          · show laws_FnTwoValued_L0 t ((t.1.take t.1.length).map fun y => [y]) t.1.length = _
            unfold laws_FnTwoValued_L0
            rw [decF (by omega), cond_false, List.take_length]
        rw [hloop]
        show retM (S := Unit) (impl_IsComplemented w.1 (MPart.mk (t.1.map fun y => [y])) >>= _) = _
        rw [k1, some_bind']
        show retM (S := Unit) ((impl_IsPart w.1 (MPart.mk (t.1.map fun y => [y])) >>= _) >>= _) = _
        rw [k2, some_bind', cond_true, beqT rfl]; rfl
    · rfl
end Go.Proofs.YtbedkejmebepcaaGreat
