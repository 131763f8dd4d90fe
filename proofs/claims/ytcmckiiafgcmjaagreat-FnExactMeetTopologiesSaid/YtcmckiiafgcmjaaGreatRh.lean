/- The topology that covers generate: the reference spreads the marks one by one, the program in passes; both end at the least closed marks. No condition beside those that each theorem names. -/
import Derived.Test.YtcmckiiafgcmjaaGreatRd
namespace Go.Proofs.YtcmckiiafgcmjaaGreat
open Go Go.Li

section
variable {c : MCategory} {ls : List (List (List Int))}
/-- what marking has kept since q0, counted n0 -/
structure Run (c : MCategory) (ls : List (List (List Int))) (q0 : Int → List Int → Bool) (n0 : Int) (q : Int → List Int → Bool) (n : Int) : Prop where
  le : Le ls q0 q
  forced : ∀ r, Closed c ls r → Le ls q0 r → Le ls q r
  z : 0 ≤ n0
  ge : n0 ≤ n
  cn : n ≤ (cnt ls q : Int)
  same : n = n0 → Le ls q q0
theorem Run.start {q : Int → List Int → Bool} {n : Int} (h0 : 0 ≤ n) (hn : n ≤ (cnt ls q : Int)) : Run c ls q n q n :=
  ⟨Le.rfl', fun _ _ h => h, h0, Int.le_refl _, hn, fun _ => Le.rfl'⟩
variable (T : Tab c ls)
include T
theorem Run.mark {q0 q : Int → List Int → Bool} {n0 n : Int} (R : Run c ls q0 n0 q n) {x : Int} (h0 : 0 ≤ x) (h1 : x < ls.length) {s : List Int} (hs : s ∈ gl ls x) (hf : ∀ r, Closed c ls r → Le ls q0 r → r x s = true) :
    ∃ m, impl_coverage_mark (KK c ls q n) x (placeS (gl ls x) s) = some (marksP ls (put q x s), m) ∧ Run c ls q0 n0 (put q x s) m := by
  obtain ⟨m, hm, h⟩ := implMark T (p := q) (n := n) h0 h1 hs
  have hc := cnt_le T q
  have hz := R.z
  have hg := R.ge
  have hn := R.cn
  have le : Le ls q0 (put q x s) := R.le.tr Le.put
  have fo : ∀ r, Closed c ls r → Le ls q0 r → Le ls (put q x s) r := fun r hr hl => put_le (R.forced r hr hl) (hf r hr hl)
  refine ⟨m, hm, ?_⟩
  rcases h with ⟨rfl, hp⟩ | ⟨rfl, hp⟩
  · have := cnt_mono (Le.put (ls := ls) (p := q) (x := x) (s := s))
    exact ⟨le, fo, hz, hg, by omega, fun e => put_le (R.same e) (R.same e x h0 h1 s hs hp)⟩
  · have := cnt_put h0 h1 hs hp
    rw [w64_id (by omega) (by omega)]
    exact ⟨le, fo, hz, by omega, by omega, fun e => by omega⟩

/-- one pass of the program -/
theorem pass {q : Int → List Int → Bool} {n : Int} (h0 : 0 ≤ n) (hn : n ≤ (cnt ls q : Int)) :
    ∃ q' n', impl_coverage_follows_close (KK c ls q n) = some (marksP ls q', n') ∧ Run c ls q n q' n' ∧ (n' = n → Closed c ls q') := by
  have h8 := T.len8
  have hm := T.cat.m
  have htl : (tops c ls).length = ls.length := mapI_length _ _
  have e0 : impl_classifier_tops (KK c ls q n).Classifier = some (tops c ls) := implTops T _ [] _
  obtain ⟨e, ⟨q1, n1, he, R1, A1⟩, e1⟩ := for_loop (R := List (List Bool) × Int) (k := 0) (body := fun s : Int × Int × List (List Bool) => impl_coverage_follows_close_L0 (KK c ls q n) (tops c ls) s.1 s.2.1 s.2.2) (s0 := ((0 : Int), n, marksP ls q)) (ns ls.length)
    (fun i s => ∃ q' n', s = ((i : Int), n', marksP ls q') ∧ Run c ls q n q' n' ∧ ∀ x : Int, 0 ≤ x → x < i → q' x (outS c x) = true) ⟨q, n, rfl, Run.start h0 hn, fun x _ _ => by omega⟩
    (by
      rintro i x s hx ⟨q', n', rfl, R, A⟩
      obtain ⟨rfl, hi⟩ := ns_get hx
      have g0 : (0 : Int) ≤ (i : Int) := by omega
      have g1 : (i : Int) < ls.length := by omega
      obtain ⟨m, hmk, R'⟩ := R.mark T g0 g1 (T.out g0 g1) fun r hr _ => hr.top _ g0 g1
      refine ⟨(((i + 1 : Nat) : Int), m, marksP ls (put q' i (outS c i))), ?_, _, m, rfl, R', fun x x0 x1 => ?_⟩
      · show impl_coverage_follows_close_L0 _ _ (i : Int) n' (marksP ls q') = _
        unfold impl_coverage_follows_close_L0
        rw [decT (by omega), cond_true, T.tops_at g0 g1, some_bind']
        show (impl_coverage_mark (KK c ls q' n') (i : Int) _ >>= _) = _
        rw [hmk, some_bind', w64_nat (by omega)]
      · by_cases e : x = i
        · subst e; exact put_has
        · exact Le.put x x0 (by omega) _ (T.out x0 (by omega)) (A x x0 (by omega)))
    (by
      rintro s ⟨q', n', rfl, h⟩
      refine ⟨_, ?_, q', n', rfl, h⟩
      show impl_coverage_follows_close_L0 _ _ _ n' (marksP ls q') = _
      unfold impl_coverage_follows_close_L0
      rw [ns_length, decF (by omega), cond_false])
  subst he
  obtain ⟨e, ⟨q2, n2, he, R2, L2, A2⟩, e2⟩ := for_loop (R := List (List Bool) × Int) (k := 2) (body := fun s : Int × Int × List (List Bool) => impl_coverage_follows_close_L1 (KK c ls q n) s.1 s.2.1 s.2.2) (s0 := ((0 : Int), n1, marksP ls q1)) (ns c.From.length)
    (fun i s => ∃ q' n', s = ((i : Int), n', marksP ls q') ∧ Run c ls q n q' n' ∧ Le ls q1 q' ∧ ∀ a : Int, 0 ≤ a → a < i → ∀ s ∈ gl ls (gi c.From a), q (gi c.From a) s = true → q' (gi c.To a) (pullS c a s) = true) ⟨q1, n1, rfl, R1, Le.rfl', fun x _ _ => by omega⟩
    (by
      rintro i x s hx ⟨q', n', rfl, R, L, A⟩
      obtain ⟨rfl, hi⟩ := ns_get hx
      have a0 : (0 : Int) ≤ (i : Int) := by omega
      have a1 : (i : Int) < c.From.length := by omega
      have hf := T.fr a0 a1
      have ht := T.to a0 a1
      have h16 := T.l16 hf.1 hf.2
      obtain ⟨e, ⟨q'', n'', he, R'', L'', A''⟩, e1⟩ := for_loop (R := List (List Bool) × Int) (k := 4) (body := fun s : Int × Int × List (List Bool) => impl_coverage_follows_close_L2 (KK c ls q n) (i : Int) ((gl ls (gi c.From i)).map (q' (gi c.From i))) s.1 s.2.1 s.2.2) (s0 := ((0 : Int), n', marksP ls q')) (gl ls (gi c.From i))
        (fun k s => ∃ q'' n'', s = ((k : Int), n'', marksP ls q'') ∧ Run c ls q n q'' n'' ∧ Le ls q' q'' ∧ ∀ s ∈ (gl ls (gi c.From i)).take k, q (gi c.From i) s = true → q'' (gi c.To i) (pullS c i s) = true) ⟨q', n', rfl, R, Le.rfl', fun s hs => by simp at hs⟩
        (by
          rintro k s z hks ⟨q'', n'', rfl, R'', L'', A''⟩
          have hk := getElem?_lt hks
          have hsm := List.mem_of_getElem? hks
          have hsv := (T.mem hf.1 hf.2).1 hsm
          have hb : ∀ z : Int × Int × List (List Bool), z = ((k : Int), n'', marksP ls q'') → impl_coverage_follows_close_L2 (KK c ls q n) (i : Int) ((gl ls (gi c.From i)).map (q' (gi c.From i))) z.1 z.2.1 z.2.2 = (bif q' (gi c.From i) s then (impl_coverage_mark (KK c ls q'' n'') (gi c.To i) (placeS (gl ls (gi c.To i)) (pullS c i s)) >>= fun y119 => some (Out.norm (((k + 1 : Nat) : Int), y119.2, y119.1))) else some (Out.norm (((k + 1 : Nat) : Int), n'', marksP ls q''))) := by
            rintro _ rfl
            unfold impl_coverage_follows_close_L2
            rw [List.length_map, decT (by omega), cond_true, idx_nat, List.getElem?_map, hks]
            simp only [Option.map_some, some_bind']
            cases q' (gi c.From (i : Int)) s with
            | false => rw [cond_false, cond_false, w64_nat (by omega)]
            | true =>
              rw [cond_true, cond_true]
              show (idx c.To (i : Int) >>= fun e103 => (idx (acts c ls) (i : Int) >>= _)) = _
              rw [T.cat.idxT a0 a1, some_bind', T.acts_at a0 a1, some_bind', T.act_at hks, some_bind', w64_nat (by omega)]
          cases es : q' (gi c.From (i : Int)) s with
          | false =>
            rw [es] at hb
            refine ⟨_, hb _ rfl, q'', n'', rfl, R'', L'', fun u hu hq => ?_⟩
            rw [take_succ_get hks] at hu
            rcases List.mem_append.1 hu with hu | hu
            · exact A'' u hu hq
            · obtain rfl : u = s := by simpa using hu
              have := R.le _ hf.1 hf.2 u hsm hq
              rw [es] at this; cases this
          | true =>
            rw [es] at hb
            obtain ⟨m, hmk, R'⟩ := R''.mark T ht.1 ht.2 (T.pull a0 a1 hsv) fun r hr hl => hr.arrow _ _ a0 a1 hsm (R.forced r hr hl _ hf.1 hf.2 s hsm es)
            refine ⟨_, (hb _ rfl).trans (by rw [cond_true, hmk, some_bind']), _, m, rfl, R', L''.tr Le.put, fun u hu hq => ?_⟩
            rw [take_succ_get hks] at hu
            rcases List.mem_append.1 hu with hu | hu
            · exact Le.put _ ht.1 ht.2 _ (T.pull a0 a1 ((T.mem hf.1 hf.2).1 (List.mem_of_mem_take hu))) (A'' u hu hq)
            · obtain rfl : u = s := by simpa using hu
              exact put_has)
        (by
          rintro s ⟨q'', n'', rfl, h⟩
          refine ⟨_, ?_, q'', n'', rfl, h⟩
          show impl_coverage_follows_close_L2 _ _ _ _ n'' (marksP ls q'') = _
          unfold impl_coverage_follows_close_L2
          rw [List.length_map, decF (by omega), cond_false])
      subst he
      refine ⟨(((i + 1 : Nat) : Int), n'', marksP ls q''), ?_, q'', n'', rfl, R'', L.tr L'', fun a a0' a1' s hs hq => ?_⟩
      · show impl_coverage_follows_close_L1 _ (i : Int) n' (marksP ls q') = _
        unfold impl_coverage_follows_close_L1
        show (bif decide ((i : Int) < (c.From.length : Int)) then (idx c.From (i : Int) >>= _) else _) = _
        rw [decT a1, cond_true, T.cat.idxF a0 a1, some_bind', idx_marks hf.1 hf.2, some_bind', cloneB T _ (by rw [List.length_map]; omega), some_bind']
        exact (lb_exit e1).trans (by rw [w64_nat (by omega)])
      · by_cases e : a = i
        · subst e; exact A'' s (by rw [List.take_length]; exact hs) hq
        · have f' := T.fr a0' (by omega : a < c.From.length)
          have t' := T.to a0' (by omega : a < c.From.length)
          exact L'' _ t'.1 t'.2 _ (T.pull a0' (by omega) ((T.mem f'.1 f'.2).1 hs)) (A a a0' (by omega) s hs hq))
    (by
      rintro s ⟨q', n', rfl, h⟩
      refine ⟨_, ?_, q', n', rfl, h⟩
      show impl_coverage_follows_close_L1 _ _ n' (marksP ls q') = _
      unfold impl_coverage_follows_close_L1
      rw [ns_length]
      show (bif decide ((c.From.length : Int) < (c.From.length : Int)) then _ else _) = _
      rw [decF (by omega), cond_false])
  subst he
  obtain ⟨e, ⟨q3, n3, he, R3, L3, A3⟩, e3⟩ := for_loop (R := List (List Bool) × Int) (k := 6) (body := fun s : Int × Int × List (List Bool) => impl_coverage_follows_close_L3 (KK c ls q n) s.1 s.2.1 s.2.2) (s0 := ((0 : Int), n2, marksP ls q2)) (ns ls.length)
    (fun i s => ∃ q' n', s = ((i : Int), n', marksP ls q') ∧ Run c ls q n q' n' ∧ Le ls q2 q' ∧ ∀ x : Int, 0 ≤ x → x < i → ∀ t ∈ gl ls x, ∀ s ∈ gl ls x, q x s = true → localB c q s t = true → q' x t = true) ⟨q2, n2, rfl, R2, Le.rfl', fun x _ _ => by omega⟩
    (by
      rintro i x s hx ⟨q', n', rfl, R, L, A⟩
      obtain ⟨rfl, hi⟩ := ns_get hx
      have g0 : (0 : Int) ≤ (i : Int) := by omega
      have g1 : (i : Int) < ls.length := by omega
      have h16 := T.l16 g0 g1
      obtain ⟨e, ⟨q4, n4, he, R4, L4, A4⟩, e4⟩ := for_loop (R := List (List Bool) × Int) (k := 8) (body := fun s : Int × Int × List (List Bool) => impl_coverage_follows_close_L4 (KK c ls q n) (i : Int) (gl ls i) s.1 s.2.1 s.2.2) (s0 := ((0 : Int), n', marksP ls q')) (gl ls i)
        (fun k s => ∃ q'' n'', s = ((k : Int), n'', marksP ls q'') ∧ Run c ls q n q'' n'' ∧ Le ls q' q'' ∧ ∀ t ∈ (gl ls i).take k, ∀ s ∈ gl ls i, q i s = true → localB c q s t = true → q'' i t = true) ⟨q', n', rfl, R, Le.rfl', fun s hs => by simp at hs⟩
        (by
          rintro k t z hkt ⟨q4, n4, rfl, R4, L4, A4⟩
          have hk := getElem?_lt hkt
          have htm := List.mem_of_getElem? hkt
          obtain ⟨e, ⟨q5, n5, he, R5, L5, A5⟩, e5⟩ := for_loop (R := List (List Bool) × Int) (k := 10) (body := fun s : Int × Int × List (List Bool) => impl_coverage_follows_close_L5 (KK c ls q n) (i : Int) (gl ls i) (k : Int) ((gl ls i).map (q4 i)) s.1 s.2.1 s.2.2) (s0 := ((0 : Int), n4, marksP ls q4)) (gl ls i)
            (fun j s => ∃ q'' n'', s = ((j : Int), n'', marksP ls q'') ∧ Run c ls q n q'' n'' ∧ Le ls q4 q'' ∧ ∀ s ∈ (gl ls i).take j, q i s = true → localB c q s t = true → q'' i t = true) ⟨q4, n4, rfl, R4, Le.rfl', fun s hs => by simp at hs⟩
            (by
              rintro j s z hjs ⟨q5, n5, rfl, R5, L5, A5⟩
              have hj := getElem?_lt hjs
              have hsm := List.mem_of_getElem? hjs
              have hb : ∀ z : Int × Int × List (List Bool), z = ((j : Int), n5, marksP ls q5) → impl_coverage_follows_close_L5 (KK c ls q n) (i : Int) (gl ls i) (k : Int) ((gl ls i).map (q4 i)) z.1 z.2.1 z.2.2 = (bif q4 i s && (!(q5 i t) && localB c q5 s t) then (impl_coverage_mark (KK c ls q5 n5) (i : Int) (placeS (gl ls i) t) >>= fun y119 => some (Out.norm (((j + 1 : Nat) : Int), y119.2, y119.1))) else some (Out.norm (((j + 1 : Nat) : Int), n5, marksP ls q5))) := by
                rintro _ rfl
                unfold impl_coverage_follows_close_L5
                rw [List.length_map, decT (by omega), cond_true, idx_nat, List.getElem?_map, hjs]
                simp only [Option.map_some, some_bind']
                rw [idx_marks g0 g1]
                simp only [some_bind']
                rw [idx_nat, List.getElem?_map, hkt, idx_nat, hkt, idx_nat, hjs]
                simp only [Option.map_some, some_bind']
                have hl := implLocally T (p := q5) (n := n5) g0 g1 hsm htm
                rw [place_at (T.nodup g0 g1) hkt, w64_nat (by omega)]
                cases q4 (i : Int) s with
                | false => simp only [cond_false, some_bind', Bool.false_and]
                | true =>
                  cases q5 (i : Int) t with
                  | true => simp only [cond_true, cond_false, some_bind', Bool.not_true, Bool.false_and, Bool.and_false]
                  | false =>
                    simp only [cond_true, Bool.not_false, Bool.true_and]
                    show (((impl_coverage_locally (KK c ls q5 n5) t s >>= _) >>= _)) = _
                    rw [hl, some_bind', some_bind']
              cases ec : q4 (i : Int) s && (!(q5 (i : Int) t) && localB c q5 s t) with
              | false =>
                rw [ec] at hb
                refine ⟨_, hb _ rfl, q5, n5, rfl, R5, L5, fun u hu hq hl => ?_⟩
                rw [take_succ_get hjs] at hu
                rcases List.mem_append.1 hu with hu | hu
                · exact A5 u hu hq hl
                · obtain rfl : u = s := by simpa using hu
                  have h1 := R4.le _ g0 g1 u hsm hq
                  have h2 := local_mono T R5.le g0 g1 hsm htm hl
                  rw [h1, h2] at ec
                  simpa using ec
              | true =>
                rw [ec] at hb
                simp only [Bool.and_eq_true] at ec
                obtain ⟨m, hmk, R'⟩ := R5.mark T g0 g1 htm fun r hr hl => hr.loc _ g0 g1 s hsm t htm (R4.forced r hr hl _ g0 g1 s hsm ec.1) (local_mono T (R5.forced r hr hl) g0 g1 hsm htm ec.2.2)
                exact ⟨_, (hb _ rfl).trans (by rw [cond_true, hmk, some_bind']), _, m, rfl, R', L5.tr Le.put, fun u _ _ _ => put_has⟩)
            (by
              rintro s ⟨q'', n'', rfl, h⟩
              refine ⟨_, ?_, q'', n'', rfl, h⟩
              show impl_coverage_follows_close_L5 _ _ _ _ _ _ n'' (marksP ls q'') = _
              unfold impl_coverage_follows_close_L5
              rw [List.length_map, decF (by omega), cond_false])
          subst he
          refine ⟨(((k + 1 : Nat) : Int), n5, marksP ls q5), ?_, q5, n5, rfl, R5, L4.tr L5, fun u hu s hs hq hl => ?_⟩
          · show impl_coverage_follows_close_L4 _ _ _ (k : Int) n4 (marksP ls q4) = _
            unfold impl_coverage_follows_close_L4
            rw [decT (by omega), cond_true, idx_marks g0 g1, some_bind', cloneB T _ (by rw [List.length_map]; omega), some_bind']
            exact (lb_exit e5).trans (by rw [w64_nat (by omega)])
          · rw [take_succ_get hkt] at hu
            rcases List.mem_append.1 hu with hu | hu
            · exact L5 _ g0 g1 u (List.mem_of_mem_take hu) (A4 u hu s hs hq hl)
            · obtain rfl : u = t := by simpa using hu
              exact A5 s (by rw [List.take_length]; exact hs) hq hl)
        (by
          rintro s ⟨q'', n'', rfl, h⟩
          refine ⟨_, ?_, q'', n'', rfl, h⟩
          show impl_coverage_follows_close_L4 _ _ _ _ n'' (marksP ls q'') = _
          unfold impl_coverage_follows_close_L4
          rw [decF (by omega), cond_false])
      subst he
      refine ⟨(((i + 1 : Nat) : Int), n4, marksP ls q4), ?_, q4, n4, rfl, R4, L.tr L4, fun x x0 x1 t ht s hs hq hl => ?_⟩
      · show impl_coverage_follows_close_L3 _ (i : Int) n' (marksP ls q') = _
        unfold impl_coverage_follows_close_L3
        show (bif decide ((i : Int) < (ls.length : Int)) then (idx ls (i : Int) >>= _) else _) = _
        rw [decT g1, cond_true, idx_gl g0 g1, some_bind']
        exact (lb_exit e4).trans (by rw [w64_nat (by omega)])
      · by_cases e : x = i
        · subst e; exact A4 t (by rw [List.take_length]; exact ht) s hs hq hl
        · exact L4 x x0 (by omega) t ht (A x x0 (by omega) t ht s hs hq hl))
    (by
      rintro s ⟨q', n', rfl, h⟩
      refine ⟨_, ?_, q', n', rfl, h⟩
      show impl_coverage_follows_close_L3 _ _ n' (marksP ls q') = _
      unfold impl_coverage_follows_close_L3
      rw [ns_length]
      show (bif decide ((ls.length : Int) < (ls.length : Int)) then _ else _) = _
      rw [decF (by omega), cond_false])
  subst he
  refine ⟨q3, n3, ?_, R3, fun e => ⟨fun x x0 x1 => ?_, fun a s a0 a1 hs hq => ?_, fun x x0 x1 s hs t ht hq hl => ?_⟩⟩
  · unfold impl_coverage_follows_close
    rw [e0, some_bind']
    exact (congrArg finM ((lb_exit e1).trans ((lb_exit e2).trans (lb_exit e3)))).trans rfl
  · exact (L2.tr L3) x x0 x1 _ (T.out x0 x1) (A1 x x0 (by rw [ns_length]; exact x1))
  · have hf := T.fr a0 a1
    have ht := T.to a0 a1
    exact L3 _ ht.1 ht.2 _ (T.pull a0 a1 ((T.mem hf.1 hf.2).1 hs)) (A2 a a0 (by rw [ns_length]; exact a1) s hs (R3.same e _ hf.1 hf.2 s hs hq))
  · exact A3 x x0 (by rw [ns_length]; exact x1) t ht s hs (R3.same e x x0 x1 s hs hq) (local_mono T (R3.same e) x0 x1 hs ht hl)
end
end Go.Proofs.YtcmckiiafgcmjaaGreat
