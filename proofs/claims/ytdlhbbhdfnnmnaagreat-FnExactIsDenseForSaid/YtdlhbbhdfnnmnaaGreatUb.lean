/- The part of the elements that a condition allows. No condition beside those that each theorem names. -/
import Derived.Test.YtdlhbbhdfnnmnaaGreatUa
namespace Go.Proofs.YtdlhbbhdfnnmnaaGreat
open Go Go.Li

def allowS (f : MSetFunctor) (q : Int → Int → Bool) : List (List Int) := mapI f.Sizes.length fun x => (ns (gi f.Sizes x).toNat).filter (q x)
theorem implPartOf {f : MSetFunctor} (S : SF f) {p : Int → Int → Option Bool} {q : Int → Int → Bool} (hp : ∀ x e : Int, 0 ≤ x → x < f.Shape.Objects → 0 ≤ e → e < gi f.Sizes x → p x e = some (q x e)) : impl_partOf f p = some (MPart.mk (allowS f q)) := by
  have hl := S.sl
  have ho := S.cat.o8
  unfold impl_partOf
  refine (congrArg retM (map_loop f.Sizes.length (fun x => (ns (gi f.Sizes x).toNat).filter (q x)) (fun acc i => ((i : Int), acc)) rfl ?_ ?_)).trans rfl
  · intro x acc hx ha
    have hs := S.s (x : Int) (by omega) (by omega)
    show impl_partOf_L0 f p x acc = _
    unfold impl_partOf_L0
    rw [decT (by omega), cond_true, S.idxS (by omega) (by omega), some_bind']
    refine (keep_loop (ns (gi f.Sizes x).toNat) (q x) (fun acc i => (acc, (i : Int))) rfl ?_ ?_).trans ?_
    · intro e e' acc2 he hacc
      obtain ⟨rfl, hi⟩ := ns_get he
      show impl_partOf_L1 p x (gi f.Sizes x) acc2 e = _
      unfold impl_partOf_L1
      rw [decT (by omega), cond_true, hp x e (by omega) (by omega) (by omega) (by omega), some_bind', fits_ok (by omega) (by omega), some_bind', w64_nat (by omega)]
      cases q (x : Int) (e : Int) <;> rfl
    · intro acc2
      show impl_partOf_L1 p x (gi f.Sizes x) acc2 _ = _
      unfold impl_partOf_L1
      rw [ns_length, decF (by omega), cond_false]
    · dsimp only
      rw [fits_ok (by omega) (by omega), some_bind', w64_nat (by omega)]
  · intro acc ha
    show impl_partOf_L0 f p _ acc = _
    unfold impl_partOf_L0
    rw [decF (by omega), cond_false]
theorem allow_small {f : MSetFunctor} (S : SF f) (q : Int → Int → Bool) : PartSmall (MPart.mk (allowS f q)) := by
  have hl := S.sl
  have ho := S.cat.o8
  refine ⟨by show (allowS f q).length ≤ _; unfold allowS; rw [mapI_length]; omega, fun y hy => ?_⟩
  obtain ⟨x, ⟨x0, x1⟩, rfl⟩ := mapI_mem.1 (show y ∈ mapI f.Sizes.length _ from hy)
  have hs := S.s x x0 (by omega)
  have := List.length_filter_le (q x) (ns (gi f.Sizes x).toNat)
  rw [ns_length] at this
  omega
theorem allow_cells {f : MSetFunctor} (S : SF f) (q : Int → Int → Bool) : s2 (allowS f q) ≤ 8 * 1048576 := by
  have h := allow_small S q
  have hl := S.sl
  have ho := S.cat.o8
  have b := s2_le 1048576 h.r
  have c : (allowS f q).length * 1048576 ≤ 8 * 1048576 := Nat.mul_le_mul_right _ (by unfold allowS; rw [mapI_length]; omega)
  exact Nat.le_trans b c
end Go.Proofs.YtdlhbbhdfnnmnaaGreat
