/- Two topologies on one category: the reference and the program agree on whether they are. No condition beside those that each theorem names. -/
import Derived.Test.YtcmckiiafgcmjaaGreatRk
namespace Go.Proofs.YtcmckiiafgcmjaaGreat
open Go Go.Li

/-- are two categories the same tables -/
def sameB (c d : MCategory) : Bool := c.Objects == d.Objects && (c.From == d.From && (c.To == d.To && (c.Identity == d.Identity && c.Composites == d.Composites)))
theorem sameB_eq {c d : MCategory} : sameB c d = true ↔ c = d := by
  unfold sameB
  simp only [Bool.and_eq_true, beq_iff_eq]
  constructor
  · rintro ⟨h1, h2, h3, h4, h5⟩
    cases c; cases d
    dsimp only at h1 h2 h3 h4 h5
    rw [h1, h2, h3, h4, h5]
  · rintro rfl; exact ⟨rfl, rfl, rfl, rfl, rfl⟩
theorem specSameCat {c d : MCategory} (h : CatSmall c) : spec_l02Same c d = some (sameB c d) := by
  obtain ⟨h1, h2, h3, h4, h5⟩ := h
  have e5 : spec_l01Same2 c.Composites d.Composites = some (c.Composites == d.Composites) := eqSS _ _ (by omega) (fun z hz => by have := h5 z hz; omega)
  unfold spec_l02Same sameB
  cases c.Objects == d.Objects with
  | false => rfl
  | true =>
    rw [cond_true, specSame _ _ (by omega), some_bind']
    cases c.From == d.From with
    | false => rfl
    | true =>
      rw [cond_true, specSame _ _ (by omega), some_bind']
      cases c.To == d.To with
      | false => rfl
      | true =>
        rw [cond_true, specSame _ _ (by omega), some_bind']
        cases c.Identity == d.Identity with
        | false => rfl
        | true => rw [cond_true, e5]; rfl
theorem zip_same : ∀ {x y : List (List Int)}, x.length = y.length → (x == y) = !((x.zip y).any fun z => !(z.1 == z.2)) := by
  intro x
  induction x with
  | nil => intro y h; cases y with
    | nil => rfl
    | cons b y => simp at h
  | cons a x ih =>
    intro y h
    cases y with
    | nil => simp at h
    | cons b y =>
      have h' : x.length = y.length := by simpa using h
      rw [List.zip_cons_cons, List.any_cons, Bool.not_or, Bool.not_not, ← ih h']; rfl
theorem implSameCat {c d : MCategory} (h : CatSmall c) : impl_sameCategory c d = some (sameB c d) := by
  obtain ⟨h1, h2, h3, h4, h5⟩ := h
  unfold impl_sameCategory sameB
  cases e1 : c.Objects == d.Objects with
  | false => rw [show (c.Objects != d.Objects) = true by unfold bne; rw [e1]; rfl]; rfl
  | true =>
    rw [show (c.Objects != d.Objects) = false by unfold bne; rw [e1]; rfl, cond_false, implSame _ _ (by omega), some_bind']
    cases c.From == d.From with
    | false => rfl
    | true =>
      rw [Bool.not_true, cond_false, implSame _ _ (by omega), some_bind']
      cases c.To == d.To with
      | false => rfl
      | true =>
        rw [Bool.not_true, cond_false, implSame _ _ (by omega), some_bind']
        cases c.Identity == d.Identity with
        | false => rfl
        | true =>
          rw [Bool.not_true, cond_false, some_bind']
          simp only [Bool.true_and]
          by_cases hl : c.Composites.length = d.Composites.length
          · rw [bneF (by omega), cond_false, zip_same hl]
            refine (congrArg retM (for_anyb (c.Composites.zip d.Composites) (fun z => !(z.1 == z.2)) (fun i => (i : Int)) rfl ?_ ?_ (e := ((c.Composites.zip d.Composites).length : Int)) (y := false) ?_)).trans ?_
            · intro i z hz hp
              obtain ⟨z1, z2⟩ := z
              obtain ⟨g1, g2⟩ := List.getElem?_zip_eq_some.1 hz
              have hi := getElem?_lt g1
              have := h5 _ (List.mem_of_getElem? g1)
              unfold impl_sameCategory_L0
              rw [decT (by omega), cond_true, idx_nat, g1, some_bind', idx_nat, g2, some_bind', implSame _ _ (by omega), some_bind']
              rw [show (!(z1 == z2)) = false from hp, cond_false, w64_nat (by omega)]
            · intro i z hz hp
              obtain ⟨z1, z2⟩ := z
              obtain ⟨g1, g2⟩ := List.getElem?_zip_eq_some.1 hz
              have hi := getElem?_lt g1
              have := h5 _ (List.mem_of_getElem? g1)
              unfold impl_sameCategory_L0
              rw [decT (by omega), cond_true, idx_nat, g1, some_bind', idx_nat, g2, some_bind', implSame _ _ (by omega), some_bind']
              rw [show (!(z1 == z2)) = true from hp, cond_true]
            · unfold impl_sameCategory_L0
              rw [List.length_zip, ← hl, Nat.min_self, decF (by omega), cond_false]
            · cases (c.Composites.zip d.Composites).any fun z => !(z.1 == z.2) <;> rfl
          · rw [bneT (by omega)]
            have : (c.Composites == d.Composites) = false := beqF fun h => hl (by rw [h])
            rw [this]; rfl

/-- what the two topologies are, if they are two topologies on one category -/
structure Both (t u : MTopology) (ls : List (List (List Int))) (n m : Int) : Prop where
  T : Tab t.Shape ls
  ct : t.Covers.length = ls.length ∧ ∀ i : Nat, i < ls.length → (gl t.Covers i).length ≤ 1048576 ∧ ∀ s ∈ gl t.Covers i, s ∈ gl ls i
  cu : u.Covers.length = ls.length ∧ ∀ i : Nat, i < ls.length → (gl u.Covers i).length ≤ 1048576 ∧ ∀ s ∈ gl u.Covers i, s ∈ gl ls i
  n0 : 0 ≤ n
  n1 : n ≤ (cnt ls (covB t.Covers) : Int)
  same : u.Shape = t.Shape
theorem two_alike {t u : MTopology} (ht : TopSmall t) (hu : TopSmall u) :
    (∃ (e : Int) (y : ML27Table × List (List Bool) × List (List Bool) × Int), e ≠ 0 ∧ spec_l27Two t u = some y ∧ y.2.2.2 = e ∧ impl_twoTopologies t u = some (none, none, e)) ∨
    ∃ ls n m, Both t u ls n m ∧ spec_l27Two t u = some (TB t.Shape ls, marksP ls (covB t.Covers), marksP ls (covB u.Covers), 0) ∧
      impl_twoTopologies t u = some (some (KK t.Shape ls (covB t.Covers) n), some (KK u.Shape ls (covB u.Covers) m), 0) := by
  cases hf : formB t with
  | false => exact .inl ⟨1, _, by decide, by unfold spec_l27Two; rw [specForm ht, hf]; rfl, rfl, by unfold impl_twoTopologies; rw [implForm ht, hf]; rfl⟩
  | true =>
    cases hg : formB u with
    | false => exact .inl ⟨1, _, by decide, by unfold spec_l27Two; rw [specForm ht, hf, some_bind', Bool.not_true, cond_false, specForm hu, hg]; rfl, rfl, by unfold impl_twoTopologies; rw [implForm ht, hf, some_bind', Bool.not_true, cond_false, implForm hu, hg]; rfl⟩
    | true =>
      have F := form_of hf
      have G := form_of hg
      have covNo : ∀ {v : MTopology}, TopSmall v → Form v → ∀ {k : Nat} {ls : List (List (List Int))}, k < v.Shape.Objects.toNat → Lists v.Shape k ls → Found v.Shape k none → impl_Topology_coverage v = some (none, false) := by
        intro v hv E k ls hk h hn
        unfold impl_Topology_coverage; rw [implCoverageOfNo hv.c E.cat hk h hn]; rfl
      have e2 : ∀ {v : MTopology} (hv : TopSmall v) (E : Form v), formB v = true → (∃ y, spec_l27Code v = some y ∧ y.2.2 = 3 ∧ impl_Topology_coverage v = some (none, false)) ∨ ∃ ls, Tab v.Shape ls := by
        intro v hv E hE
        rcases form_scan E with h | ⟨k, ls, hk, h, hn⟩
        · exact .inr h
        · obtain ⟨y, h1, h2⟩ := specCodeNo hv hE E hk h hn
          exact .inl ⟨y, h1, h2, covNo hv E hk h hn⟩
      have tab : ∀ {v : MTopology} (hv : TopSmall v) (E : Form v), formB v = true → ∀ {ls : List (List (List Int))} (T : Tab v.Shape ls), ∃ n : Int, 0 ≤ n ∧ n ≤ (cnt ls (covB v.Covers) : Int) ∧ spec_l27Code v = some (TB v.Shape ls, marksP ls (covB v.Covers), if openB v.Shape ls (covB v.Covers) = true then 5 else 0) ∧
          impl_Topology_coverage v = some (some (KK v.Shape ls (covB v.Covers) n), true) := by
        intro v hv E hE ls T
        obtain ⟨c1, c2⟩ := covs E T hv
        obtain ⟨n, n0, n1, hn⟩ := implCoverageT T rfl hv.c c1 c2
        exact ⟨n, n0, n1, specCode E T hv hE, hn⟩
      have s0 : ∀ {y z : ML27Table × List (List Bool) × Int}, spec_l27Code t = some y → spec_l27Code u = some z → spec_l27Two t u = retM (((bif y.2.2 == (3 : Int) then some true else some (z.2.2 == (3 : Int))) >>= fun g377 => (bif g377 then (some (Out.ret (S := Unit) ((y.1, ([]), ([]), ((3 : Int)))))) else (((bif (y.2.2) != ((0 : Int)) then (some (true)) else (bif (z.2.2) != ((0 : Int)) then (some (true)) else ((spec_l02Same t.Shape u.Shape) >>= fun y391 => (some (!(y391))))))) >>= fun g387 => (bif g387 then (some (Out.ret ((y.1, ([]), ([]), ((5 : Int)))))) else (some (Out.ret ((y.1, y.2.1, z.2.1, ((0 : Int)))))))))))  := by
        intro y z h1 h2
        unfold spec_l27Two
        rw [specForm ht, hf, some_bind', Bool.not_true, cond_false, specForm hu, hg, some_bind', some_bind', Bool.not_true, cond_false, h1, some_bind', h2, some_bind']
      have i0 : ∀ {a b : Option MCoverage × Bool}, impl_Topology_coverage t = some a → impl_Topology_coverage u = some b → a.2 = false ∨ b.2 = false → (a.1 = none ↔ a.2 = false) → (b.1 = none ↔ b.2 = false) → impl_twoTopologies t u = some (none, none, 3) := by
        intro a b h1 h2 h3 h4 h5
        obtain ⟨a1, a2⟩ := a
        obtain ⟨b1, b2⟩ := b
        unfold impl_twoTopologies
        rw [implForm ht, hf, some_bind', Bool.not_true, cond_false, implForm hu, hg, some_bind', some_bind', Bool.not_true, cond_false, h1, some_bind']
        dsimp only at h3 h4 h5 ⊢
        cases a1 with
        | none => rw [h2]; cases b1 <;> (rw [h4.1 rfl]; rfl)
        | some A =>
          have : a2 = true := by
            cases h : a2 with
            | true => rfl
            | false => cases h4.2 h
          subst this
          cases b1 with
          | none => rw [h2, h5.1 rfl]; rfl
          | some B =>
            rcases h3 with h | h
            · cases h
            · cases h5.2 h
      rcases e2 ht F hf with ⟨y, y1, y2, y3⟩ | ⟨ls, T⟩
      · refine .inl ⟨3, ?_⟩
        have : ∃ z b, spec_l27Code u = some z ∧ impl_Topology_coverage u = some b ∧ (b.1 = none ↔ b.2 = false) := by
          rcases e2 hu G hg with ⟨z, z1, z2, z3⟩ | ⟨ls, T⟩
          · exact ⟨z, _, z1, z3, ⟨fun _ => rfl, fun _ => rfl⟩⟩
          · obtain ⟨n, _, _, h1, h2⟩ := tab hu G hg T
            exact ⟨_, _, h1, h2, ⟨(fun h => by cases h), (fun h => by cases h)⟩⟩
        obtain ⟨z, b, z1, b1, b2⟩ := this
        exact ⟨(y.1, [], [], 3), by decide, by rw [s0 y1 z1, y2]; rfl, rfl, i0 y3 b1 (.inl rfl) ⟨fun _ => rfl, fun _ => rfl⟩ b2⟩
      · obtain ⟨n, n0, n1, p1, p2⟩ := tab ht F hf T
        have c0 : ((if openB t.Shape ls (covB t.Covers) = true then (5 : Int) else 0) == 3) = false := by split <;> rfl
        rcases e2 hu G hg with ⟨z, z1, z2, z3⟩ | ⟨ls', T'⟩
        · exact .inl ⟨3, (TB t.Shape ls, [], [], 3), by decide, by rw [s0 p1 z1]; dsimp only; rw [c0, cond_false, z2]; rfl, rfl, i0 p2 z3 (.inr rfl) ⟨(fun h => by cases h), (fun h => by cases h)⟩ ⟨fun _ => rfl, fun _ => rfl⟩⟩
        · have : ∃ ls'', Tab u.Shape ls'' ∧ (u.Shape = t.Shape → ls'' = ls) := by
            by_cases h : u.Shape = t.Shape
            · exact ⟨ls, by rw [h]; exact T, fun _ => rfl⟩
            · exact ⟨ls', T', fun h' => absurd h' h⟩
          obtain ⟨ls2, T2, hls⟩ := this
          obtain ⟨m, m0, m1, q1, q2⟩ := tab hu G hg T2
          have c1 : ((if openB u.Shape ls2 (covB u.Covers) = true then (5 : Int) else 0) == 3) = false := by split <;> rfl
          have hs0 := s0 p1 q1
          have hi0 : impl_twoTopologies t u = retM ((((impl_coverage_isTopology (KK t.Shape ls (covB t.Covers) n)) >>= fun y506 => (bif !(y506) then (some (true)) else ((impl_coverage_isTopology (KK u.Shape ls2 (covB u.Covers) m)) >>= fun y509 => (bif !(y509) then (some (true)) else ((impl_sameCategory t.Shape u.Shape) >>= fun y514 => (some (!(y514)))))))) >>= fun g504 => (bif g504 then (some (Out.ret (S := Unit) ((none, none, ((5 : Int)))))) else (some (Out.ret (((some (KK t.Shape ls (covB t.Covers) n)), (some (KK u.Shape ls2 (covB u.Covers) m)), ((0 : Int)))))))))  := by
            unfold impl_twoTopologies
            rw [implForm ht, hf, some_bind', Bool.not_true, cond_false, implForm hu, hg, some_bind', some_bind', Bool.not_true, cond_false, p2, some_bind']
            dsimp only
            rw [q2, some_bind']; rfl
          dsimp only at hs0
          rw [c0, cond_false, c1, some_bind', cond_false] at hs0
          rw [implIsTop T, some_bind'] at hi0
          cases o1 : openB t.Shape ls (covB t.Covers) with
          | true =>
            rw [o1] at hs0 hi0
            exact .inl ⟨5, (TB t.Shape ls, [], [], 5), by decide, by rw [hs0]; rfl, rfl, by rw [hi0]; rfl⟩
          | false =>
            rw [o1, Bool.not_false, Bool.not_true, cond_false, implIsTop T2, some_bind'] at hi0
            rw [o1] at hs0
            cases o2 : openB u.Shape ls2 (covB u.Covers) with
            | true =>
              rw [o2] at hs0 hi0
              exact .inl ⟨5, (TB t.Shape ls, [], [], 5), by decide, by rw [hs0]; rfl, rfl, by rw [hi0]; rfl⟩
            | false =>
              rw [o2] at hs0 hi0
              rw [Bool.not_false, Bool.not_true, cond_false, implSameCat ht.c, some_bind', some_bind'] at hi0
              rw [specSameCat ht.c] at hs0
              cases e : sameB t.Shape u.Shape with
              | false =>
                rw [e] at hs0 hi0
                exact .inl ⟨5, (TB t.Shape ls, [], [], 5), by decide, by rw [hs0]; rfl, rfl, by rw [hi0]; rfl⟩
              | true =>
                rw [e] at hs0 hi0
                have hsh := (sameB_eq.1 e).symm
                obtain rfl := hls hsh
                refine .inr ⟨ls2, n, m, ⟨T, covs F T ht, covs G T2 hu, n0, n1, hsh⟩, by rw [hs0]; rfl, by rw [hi0]; rfl⟩
end Go.Proofs.YtcmckiiafgcmjaaGreat
