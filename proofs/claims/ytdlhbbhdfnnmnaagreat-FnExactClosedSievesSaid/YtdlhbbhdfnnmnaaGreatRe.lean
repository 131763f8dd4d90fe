/- Closing a sieve, and the least covers: the reference and the program agree. No condition beside those that each theorem names. -/
import Derived.Test.YtdlhbbhdfnnmnaaGreatRk
import Derived.Test.YtdlhbbhdfnnmnaaGreatRq
namespace Go.Proofs.YtdlhbbhdfnnmnaaGreat
open Go Go.Li

/-- the closure of a sieve -/
def clB (t : MTopology) (x : Int) (s : List Int) : List Int := (outS t.Shape x).filter fun a => covB t.Covers (gi t.Shape.To a) (pullS t.Shape a s)
section
variable {t : MTopology} (F : Form t) {ls : List (List (List Int))} (T : Tab t.Shape ls) (ht : TopSmall t)
include F T ht
theorem specClose' {x : Int} {s : List Int} (h0 : 0 ≤ x) (h1 : x < ls.length) (hs : Sv t.Shape x s) : spec_l27Close t x s = some (clB t x s) := by
  have hm := T.cat.m
  obtain ⟨cl, cs⟩ := covs F T ht
  have hs40 : s.length ≤ 40 := T.s40 h0 h1 ((T.mem h0 h1).2 hs)
  unfold spec_l27Close
  rw [specOut (by omega), some_bind']
  have ho := outS_len t.Shape x
  refine (congrArg retM (keep_loop (outS t.Shape x) (fun a => covB t.Covers (gi t.Shape.To a) (pullS t.Shape a s)) (fun acc i => (acc, (i : Int))) rfl ?_ ?_)).trans rfl
  · intro i a acc ha hacc
    have hi := getElem?_lt ha
    obtain ⟨⟨a0, a1⟩, _⟩ := outS_mem.1 (List.mem_of_getElem? ha)
    have hto := T.to a0 a1
    obtain ⟨n, hn⟩ : ∃ n : Nat, gi t.Shape.To a = n := ⟨(gi t.Shape.To a).toNat, by omega⟩
    have hrow := cs n (by omega)
    show spec_l27Close_L0 t s _ acc (i : Int) = _
    unfold spec_l27Close_L0
    rw [decT (by omega), cond_true, idx_nat, ha, some_bind', T.cat.idxT a0 a1, some_bind', idx_gl hto.1 (by omega), some_bind', some_bind', specPull T.cat.toShape a0 a1 _ (by omega), some_bind', specFind _ _ (by rw [hn]; omega) (fun y hy => by
      rw [hn] at hy; have := T.s40 (by omega) (by omega) (hrow.2 y hy); omega), some_bind', place_ge]
    show (bif covB t.Covers (gi t.Shape.To a) (pullS t.Shape a s) then _ else _) = _
    cases covB t.Covers (gi t.Shape.To a) (pullS t.Shape a s) with
    | true => rw [cond_true, some_bind', fits_ok (by omega) (by omega), some_bind', w64_nat (by omega)]; rfl
    | false => rw [cond_false, w64_nat (by omega)]; rfl
  · intro acc
    show spec_l27Close_L0 t s _ acc _ = _
    unfold spec_l27Close_L0
    rw [decF (by omega), cond_false]
theorem implClosure {n x : Int} {s : List Int} (h0 : 0 ≤ x) (h1 : x < ls.length) (hs : Sv t.Shape x s) : impl_coverage_closure (KK t.Shape ls (covB t.Covers) n) x s = some (clB t x s) := by
  have _ := F
  have _ := ht
  have hm := T.cat.m
  have hs40 : s.length ≤ 40 := T.s40 h0 h1 ((T.mem h0 h1).2 hs)
  unfold impl_coverage_closure
  show retM (impl_Category_outOf t.Shape x >>= _) = _
  rw [implOut (by omega), some_bind']
  have ho := outS_len t.Shape x
  refine (congrArg retM (keep_loop (outS t.Shape x) (fun a => covB t.Covers (gi t.Shape.To a) (pullS t.Shape a s)) (fun acc i => (acc, (i : Int))) rfl ?_ ?_)).trans rfl
  · intro i a acc ha hacc
    have hi := getElem?_lt ha
    obtain ⟨⟨a0, a1⟩, _⟩ := outS_mem.1 (List.mem_of_getElem? ha)
    have hto := T.to a0 a1
    show impl_coverage_closure_L0 _ s _ acc (i : Int) = _
    unfold impl_coverage_closure_L0
    rw [decT (by omega), cond_true, idx_nat, ha, some_bind']
    show (idx t.Shape.To a >>= fun e30 => (impl_Category_pull t.Shape a s >>= _)) = _
    rw [T.cat.idxT a0 a1, some_bind', implPull T.cat.toShape a0 a1 _ (by omega), some_bind', isAt T hto.1 hto.2 (T.pull a0 a1 hs), some_bind']
    cases covB t.Covers (gi t.Shape.To a) (pullS t.Shape a s) with
    | true => rw [cond_true, fits_ok (by omega) (by omega), some_bind', w64_nat (by omega)]; rfl
    | false => rw [cond_false, w64_nat (by omega)]; rfl
  · intro acc
    show impl_coverage_closure_L0 _ s _ acc _ = _
    unfold impl_coverage_closure_L0
    rw [decF (by omega), cond_false]
end
end Go.Proofs.YtdlhbbhdfnnmnaaGreat
