/- How the arguments of the law that are handed in read. No condition. -/
import Derived.Test.YtcnehblmgfbfoaaGreatQg
import Derived.Test.YtcnehblmgfbfoaaGreatKj
namespace Go.Proofs.YtcnehblmgfbfoaaGreat
open Go Go.Li Go.ChangeShapes Go.WideShapes Go.Deep
section
variable {H : Type} {enc : TypeId × Value → H} {W : World} {base : Nat}
theorem I1 : Tryz.prog.cellsOf 2 = 1 := by kernel_rfl
theorem qU : Tryz.prog.cellsOf 22 = 1 := by kernel_rfl
theorem xR {n : Nat} {v : Value} {x : DataW H × List MemPlace} (h : DataW.trod enc Tryz.prog W 0 (fun _ => true) true n 22 [v] = some x) : ∃ (xs : (List Int)) (f : List Nat), (bE (aJ .i64)).rep W.heap [v] xs f ∧ xs.length ≤ maxLen := I2 Tryz.underlying22 Tryz.underlying2 I1 h
theorem NU : Tryz.prog.cellsOf 23 = 1 := by kernel_rfl
theorem W9 {n : Nat} {v : Value} {x : DataW H × List MemPlace} (h : DataW.trod enc Tryz.prog W 0 (fun _ => true) true n 23 [v] = some x) : ∃ (xs : (List (List Int))) (f : List Nat), (bE (bE (aJ .i64))).rep W.heap [v] xs f ∧ xs.length ≤ maxLen ∧ ∀ u ∈ xs, u.length ≤ maxLen :=
  G0 (Q := fun y : (List Int) => y.length ≤ maxLen) rfl Tryz.underlying23 qU (fun h => by
    obtain ⟨xs, f, h1, h2⟩ := xR h
    exact ⟨xs, f, h1, h2⟩) h
theorem AI : Tryz.prog.cellsOf 25 = 5 := by kernel_rfl
set_option maxRecDepth 100000 in
theorem K3 {n : Nat} {cs : List Value} {x : DataW H × List MemPlace} (hl : cs.length = 5) (h : DataW.trod enc Tryz.prog W 0 (fun _ => true) true n 25 cs = some x) : ∃ (m : aH) (v1 v2 v3 v4 : Value) (f1 f2 f3 f4 : List Nat), cs = [.int .i64 m.aD, v1, v2, v3, v4] ∧ (bE (aJ .i64)).rep W.heap [v1] m.aF f1 ∧ (bE (aJ .i64)).rep W.heap [v2] m.To f2 ∧ (bE (aJ .i64)).rep W.heap [v3] m.aG f3 ∧ (bE (bE (aJ .i64))).rep W.heap [v4] m.aC f4 ∧ vF m := by
  match cs, hl, h with
  | [c0, c1, c2, c3, c4], _, h =>
    obtain ⟨xs, n, _, _, _, hlen, u2⟩ := DataW.trod_struct Tryz.underlying25 h
    have hl : xs.length = 5 := hlen
    obtain ⟨y0, e0⟩ : ∃ y, xs[0]? = some y := ⟨_, List.getElem?_eq_getElem (by omega)⟩
    have g0 : DataW.trod enc Tryz.prog W 0 (fun _ => true) true n 2 ((([c0, c1, c2, c3, c4] : List Value).drop 0).take (Tryz.prog.cellsOf 2)) = some y0 := (u2 0 _ rfl).trans e0
    rw [I1] at g0
    obtain ⟨k0, q0, _⟩ := DataW.trod_int Tryz.underlying2 g0
    replace q0 : c0 = .int .i64 k0 := by simpa using q0
    obtain ⟨y1, e1⟩ : ∃ y, xs[1]? = some y := ⟨_, List.getElem?_eq_getElem (by omega)⟩
    have g1 : DataW.trod enc Tryz.prog W 0 (fun _ => true) true n 22 ((([c0, c1, c2, c3, c4] : List Value).drop 1).take (Tryz.prog.cellsOf 22)) = some y1 := (u2 1 _ rfl).trans e1
    rw [qU] at g1
    obtain ⟨x1, f1, p1, l1⟩ := xR (v := c1) g1
    obtain ⟨y2, e2⟩ : ∃ y, xs[2]? = some y := ⟨_, List.getElem?_eq_getElem (by omega)⟩
    have g2 : DataW.trod enc Tryz.prog W 0 (fun _ => true) true n 22 ((([c0, c1, c2, c3, c4] : List Value).drop 2).take (Tryz.prog.cellsOf 22)) = some y2 := (u2 2 _ rfl).trans e2
    rw [qU] at g2
    obtain ⟨x2, f2, p2, l2⟩ := xR (v := c2) g2
    obtain ⟨y3, e3⟩ : ∃ y, xs[3]? = some y := ⟨_, List.getElem?_eq_getElem (by omega)⟩
    have g3 : DataW.trod enc Tryz.prog W 0 (fun _ => true) true n 22 ((([c0, c1, c2, c3, c4] : List Value).drop 3).take (Tryz.prog.cellsOf 22)) = some y3 := (u2 3 _ rfl).trans e3
    rw [qU] at g3
    obtain ⟨x3, f3, p3, l3⟩ := xR (v := c3) g3
    obtain ⟨y4, e4⟩ : ∃ y, xs[4]? = some y := ⟨_, List.getElem?_eq_getElem (by omega)⟩
    have g4 : DataW.trod enc Tryz.prog W 0 (fun _ => true) true n 23 ((([c0, c1, c2, c3, c4] : List Value).drop 4).take (Tryz.prog.cellsOf 23)) = some y4 := (u2 4 _ rfl).trans e4
    rw [NU] at g4
    obtain ⟨x4, f4, p4, l4, r4⟩ := W9 (v := c4) g4
    exact ⟨aH.mk k0 x1 x2 x3 x4, c1, c2, c3, c4, f1, f2, f3, f4, (by subst q0; rfl), p1, p2, p3, p4, ⟨l1, l2, l3, l4, r4⟩⟩
set_option maxRecDepth 100000 in
theorem agW {v : Value} {d : DataW H} {ps : List MemPlace} (xQ : Value.okWide Tryz.prog W .any base 25 v) (h : DataW.Trod enc Tryz.prog W 0 (fun _ => true) true 25 v d ps) : ∃ (m : aH) (v1 v2 v3 v4 : Value) (f1 f2 f3 f4 : List Nat), v = .agg #[.int .i64 m.aD, v1, v2, v3, v4] ∧ (bE (aJ .i64)).rep W.heap [v1] m.aF f1 ∧ (bE (aJ .i64)).rep W.heap [v2] m.To f2 ∧ (bE (aJ .i64)).rep W.heap [v3] m.aG f3 ∧ (bE (bE (aJ .i64))).rep W.heap [v4] m.aC f4 ∧ vF m := by
  obtain ⟨⟨cs⟩, rfl, qe⟩ := okWide_struct Tryz.underlying25 xQ
  obtain ⟨fuel, hf⟩ := h
  rw [AI] at qe
  obtain ⟨m, v1, v2, v3, v4, f1, f2, f3, f4, e, hr⟩ := K3 (cs := cs) qe hf
  subst e
  exact ⟨m, v1, v2, v3, v4, f1, f2, f3, f4, rfl, hr⟩
theorem FM : Tryz.prog.cellsOf 27 = 12 := by kernel_rfl
set_option maxRecDepth 100000 in
theorem Rv {n : Nat} {cs : List Value} {x : DataW H × List MemPlace} (hl : cs.length = 12) (h : DataW.trod enc Tryz.prog W 0 (fun _ => true) true n 27 cs = some x) : ∃ (m : aS) (v1 v2 v3 v4 v6 v7 v8 v9 v10 v11 : Value) (f1 f2 f3 f4 f6 f7 f8 f9 f10 f11 : List Nat), cs = [.int .i64 m.aB.aD, v1, v2, v3, v4, .int .i64 m.aE.aD, v6, v7, v8, v9, v10, v11] ∧ (bE (aJ .i64)).rep W.heap [v1] m.aB.aF f1 ∧ (bE (aJ .i64)).rep W.heap [v2] m.aB.To f2 ∧ (bE (aJ .i64)).rep W.heap [v3] m.aB.aG f3 ∧ (bE (bE (aJ .i64))).rep W.heap [v4] m.aB.aC f4 ∧ (bE (aJ .i64)).rep W.heap [v6] m.aE.aF f6 ∧ (bE (aJ .i64)).rep W.heap [v7] m.aE.To f7 ∧ (bE (aJ .i64)).rep W.heap [v8] m.aE.aG f8 ∧ (bE (bE (aJ .i64))).rep W.heap [v9] m.aE.aC f9 ∧ (bE (aJ .i64)).rep W.heap [v10] m.aD f10 ∧ (bE (aJ .i64)).rep W.heap [v11] m.ab f11 ∧ r8 m := by
  match cs, hl, h with
  | [c0, c1, c2, c3, c4, c5, c6, c7, c8, c9, vP, vQ], _, h =>
    obtain ⟨xs, n, _, _, _, hlen, u2⟩ := DataW.trod_struct Tryz.underlying27 h
    have hl : xs.length = 4 := hlen
    obtain ⟨y0, e0⟩ : ∃ y, xs[0]? = some y := ⟨_, List.getElem?_eq_getElem (by omega)⟩
    have g0 : DataW.trod enc Tryz.prog W 0 (fun _ => true) true n 25 ((([c0, c1, c2, c3, c4, c5, c6, c7, c8, c9, vP, vQ] : List Value).drop 0).take (Tryz.prog.cellsOf 25)) = some y0 := (u2 0 _ rfl).trans e0
    rw [AI] at g0
    have g0 : DataW.trod enc Tryz.prog W 0 (fun _ => true) true n 25 [c0, c1, c2, c3, c4] = some y0 := g0
    obtain ⟨m0, DM, DN, DO, DP, GW, GX, GY, GZ, z0, K4, K5, K6, K7, l0⟩ := K3 rfl g0
    obtain ⟨y1, e1⟩ : ∃ y, xs[1]? = some y := ⟨_, List.getElem?_eq_getElem (by omega)⟩
    have g1 : DataW.trod enc Tryz.prog W 0 (fun _ => true) true n 25 ((([c0, c1, c2, c3, c4, c5, c6, c7, c8, c9, vP, vQ] : List Value).drop 5).take (Tryz.prog.cellsOf 25)) = some y1 := (u2 1 _ rfl).trans e1
    rw [AI] at g1
    have g1 : DataW.trod enc Tryz.prog W 0 (fun _ => true) true n 25 [c5, c6, c7, c8, c9] = some y1 := g1
    obtain ⟨m1, Xa, Xb, Xc, Xd, Xe, Xf, Xg, Xh, z1, Xi, Xj, Xk, Xl, l1⟩ := K3 rfl g1
    obtain ⟨y2, e2⟩ : ∃ y, xs[2]? = some y := ⟨_, List.getElem?_eq_getElem (by omega)⟩
    have g2 : DataW.trod enc Tryz.prog W 0 (fun _ => true) true n 22 ((([c0, c1, c2, c3, c4, c5, c6, c7, c8, c9, vP, vQ] : List Value).drop 10).take (Tryz.prog.cellsOf 22)) = some y2 := (u2 2 _ rfl).trans e2
    rw [qU] at g2
    obtain ⟨x2, f2, p2, l2⟩ := xR (v := vP) g2
    obtain ⟨y3, e3⟩ : ∃ y, xs[3]? = some y := ⟨_, List.getElem?_eq_getElem (by omega)⟩
    have g3 : DataW.trod enc Tryz.prog W 0 (fun _ => true) true n 22 ((([c0, c1, c2, c3, c4, c5, c6, c7, c8, c9, vP, vQ] : List Value).drop 11).take (Tryz.prog.cellsOf 22)) = some y3 := (u2 3 _ rfl).trans e3
    rw [qU] at g3
    obtain ⟨x3, f3, p3, l3⟩ := xR (v := vQ) g3
    exact ⟨aS.mk m0 m1 x2 x3, DM, DN, DO, DP, Xa, Xb, Xc, Xd, vP, vQ, GW, GX, GY, GZ, Xe, Xf, Xg, Xh, f2, f3, (by cases z0; cases z1; rfl), K4, K5, K6, K7, Xi, Xj, Xk, Xl, p2, p3, ⟨l0, l1, l2, l3⟩⟩
set_option maxRecDepth 100000 in
theorem agX {v : Value} {d : DataW H} {ps : List MemPlace} (xQ : Value.okWide Tryz.prog W .any base 27 v) (h : DataW.Trod enc Tryz.prog W 0 (fun _ => true) true 27 v d ps) : ∃ (m : aS) (v1 v2 v3 v4 v6 v7 v8 v9 v10 v11 : Value) (f1 f2 f3 f4 f6 f7 f8 f9 f10 f11 : List Nat), v = .agg #[.int .i64 m.aB.aD, v1, v2, v3, v4, .int .i64 m.aE.aD, v6, v7, v8, v9, v10, v11] ∧ (bE (aJ .i64)).rep W.heap [v1] m.aB.aF f1 ∧ (bE (aJ .i64)).rep W.heap [v2] m.aB.To f2 ∧ (bE (aJ .i64)).rep W.heap [v3] m.aB.aG f3 ∧ (bE (bE (aJ .i64))).rep W.heap [v4] m.aB.aC f4 ∧ (bE (aJ .i64)).rep W.heap [v6] m.aE.aF f6 ∧ (bE (aJ .i64)).rep W.heap [v7] m.aE.To f7 ∧ (bE (aJ .i64)).rep W.heap [v8] m.aE.aG f8 ∧ (bE (bE (aJ .i64))).rep W.heap [v9] m.aE.aC f9 ∧ (bE (aJ .i64)).rep W.heap [v10] m.aD f10 ∧ (bE (aJ .i64)).rep W.heap [v11] m.ab f11 ∧ r8 m := by
  obtain ⟨⟨cs⟩, rfl, qe⟩ := okWide_struct Tryz.underlying27 xQ
  obtain ⟨fuel, hf⟩ := h
  rw [FM] at qe
  obtain ⟨m, v1, v2, v3, v4, v6, v7, v8, v9, v10, v11, f1, f2, f3, f4, f6, f7, f8, f9, f10, f11, e, hr⟩ := Rv (cs := cs) qe hf
  subst e
  exact ⟨m, v1, v2, v3, v4, v6, v7, v8, v9, v10, v11, f1, f2, f3, f4, f6, f7, f8, f9, f10, f11, rfl, hr⟩
theorem NW : Tryz.prog.cellsOf 29 = 14 := by kernel_rfl
set_option maxRecDepth 100000 in
theorem Xm {n : Nat} {cs : List Value} {x : DataW H × List MemPlace} (hl : cs.length = 14) (h : DataW.trod enc Tryz.prog W 0 (fun _ => true) true n 29 cs = some x) : ∃ (m : bB) (v1 v2 v3 v4 v6 v7 v8 v9 v10 v11 v12 DQ : Value) (f1 f2 f3 f4 f6 f7 f8 f9 f10 f11 f12 f13 : List Nat), cs = [.int .i64 m.On.aB.aD, v1, v2, v3, v4, .int .i64 m.On.aE.aD, v6, v7, v8, v9, v10, v11, v12, DQ] ∧ (bE (aJ .i64)).rep W.heap [v1] m.On.aB.aF f1 ∧ (bE (aJ .i64)).rep W.heap [v2] m.On.aB.To f2 ∧ (bE (aJ .i64)).rep W.heap [v3] m.On.aB.aG f3 ∧ (bE (bE (aJ .i64))).rep W.heap [v4] m.On.aB.aC f4 ∧ (bE (aJ .i64)).rep W.heap [v6] m.On.aE.aF f6 ∧ (bE (aJ .i64)).rep W.heap [v7] m.On.aE.To f7 ∧ (bE (aJ .i64)).rep W.heap [v8] m.On.aE.aG f8 ∧ (bE (bE (aJ .i64))).rep W.heap [v9] m.On.aE.aC f9 ∧ (bE (aJ .i64)).rep W.heap [v10] m.On.aD f10 ∧ (bE (aJ .i64)).rep W.heap [v11] m.On.ab f11 ∧ (bE (aJ .i64)).rep W.heap [v12] m.Unit f12 ∧ (bE (aJ .i64)).rep W.heap [DQ] m.ba f13 ∧ uQ m := by
  match cs, hl, h with
  | [c0, c1, c2, c3, c4, c5, c6, c7, c8, c9, vP, vQ, BE, DR], _, h =>
    obtain ⟨xs, n, _, _, _, hlen, u2⟩ := DataW.trod_struct Tryz.underlying29 h
    have hl : xs.length = 3 := hlen
    obtain ⟨y0, e0⟩ : ∃ y, xs[0]? = some y := ⟨_, List.getElem?_eq_getElem (by omega)⟩
    have g0 : DataW.trod enc Tryz.prog W 0 (fun _ => true) true n 27 ((([c0, c1, c2, c3, c4, c5, c6, c7, c8, c9, vP, vQ, BE, DR] : List Value).drop 0).take (Tryz.prog.cellsOf 27)) = some y0 := (u2 0 _ rfl).trans e0
    rw [FM] at g0
    have g0 : DataW.trod enc Tryz.prog W 0 (fun _ => true) true n 27 [c0, c1, c2, c3, c4, c5, c6, c7, c8, c9, vP, vQ] = some y0 := g0
    obtain ⟨m0, DM, DN, DO, DP, KZ, K0, K1, K2, GU, GV, GW, GX, GY, GZ, Rp, Rq, Rs, Ru, MB, MC, z0, K4, K5, K6, K7, Xn, Xo, Xp, Xq, Ts, Tt, l0⟩ := Rv rfl g0
    obtain ⟨y1, e1⟩ : ∃ y, xs[1]? = some y := ⟨_, List.getElem?_eq_getElem (by omega)⟩
    have g1 : DataW.trod enc Tryz.prog W 0 (fun _ => true) true n 22 ((([c0, c1, c2, c3, c4, c5, c6, c7, c8, c9, vP, vQ, BE, DR] : List Value).drop 12).take (Tryz.prog.cellsOf 22)) = some y1 := (u2 1 _ rfl).trans e1
    rw [qU] at g1
    obtain ⟨x1, f1, p1, l1⟩ := xR (v := BE) g1
    obtain ⟨y2, e2⟩ : ∃ y, xs[2]? = some y := ⟨_, List.getElem?_eq_getElem (by omega)⟩
    have g2 : DataW.trod enc Tryz.prog W 0 (fun _ => true) true n 22 ((([c0, c1, c2, c3, c4, c5, c6, c7, c8, c9, vP, vQ, BE, DR] : List Value).drop 13).take (Tryz.prog.cellsOf 22)) = some y2 := (u2 2 _ rfl).trans e2
    rw [qU] at g2
    obtain ⟨x2, f2, p2, l2⟩ := xR (v := DR) g2
    exact ⟨bB.mk m0 x1 x2, DM, DN, DO, DP, KZ, K0, K1, K2, GU, GV, BE, DR, GW, GX, GY, GZ, Rp, Rq, Rs, Ru, MB, MC, f1, f2, (by cases z0; rfl), K4, K5, K6, K7, Xn, Xo, Xp, Xq, Ts, Tt, p1, p2, ⟨l0, l1, l2⟩⟩
set_option maxRecDepth 100000 in
theorem W8 {v : Value} {d : DataW H} {ps : List MemPlace} (xQ : Value.okWide Tryz.prog W .any base 29 v) (h : DataW.Trod enc Tryz.prog W 0 (fun _ => true) true 29 v d ps) : ∃ (m : bB) (v1 v2 v3 v4 v6 v7 v8 v9 v10 v11 v12 DQ : Value) (f1 f2 f3 f4 f6 f7 f8 f9 f10 f11 f12 f13 : List Nat), v = .agg #[.int .i64 m.On.aB.aD, v1, v2, v3, v4, .int .i64 m.On.aE.aD, v6, v7, v8, v9, v10, v11, v12, DQ] ∧ (bE (aJ .i64)).rep W.heap [v1] m.On.aB.aF f1 ∧ (bE (aJ .i64)).rep W.heap [v2] m.On.aB.To f2 ∧ (bE (aJ .i64)).rep W.heap [v3] m.On.aB.aG f3 ∧ (bE (bE (aJ .i64))).rep W.heap [v4] m.On.aB.aC f4 ∧ (bE (aJ .i64)).rep W.heap [v6] m.On.aE.aF f6 ∧ (bE (aJ .i64)).rep W.heap [v7] m.On.aE.To f7 ∧ (bE (aJ .i64)).rep W.heap [v8] m.On.aE.aG f8 ∧ (bE (bE (aJ .i64))).rep W.heap [v9] m.On.aE.aC f9 ∧ (bE (aJ .i64)).rep W.heap [v10] m.On.aD f10 ∧ (bE (aJ .i64)).rep W.heap [v11] m.On.ab f11 ∧ (bE (aJ .i64)).rep W.heap [v12] m.Unit f12 ∧ (bE (aJ .i64)).rep W.heap [DQ] m.ba f13 ∧ uQ m := by
  obtain ⟨⟨cs⟩, rfl, qe⟩ := okWide_struct Tryz.underlying29 xQ
  obtain ⟨fuel, hf⟩ := h
  rw [NW] at qe
  obtain ⟨m, v1, v2, v3, v4, v6, v7, v8, v9, v10, v11, v12, DQ, f1, f2, f3, f4, f6, f7, f8, f9, f10, f11, f12, f13, e, hr⟩ := Xm (cs := cs) qe hf
  subst e
  exact ⟨m, v1, v2, v3, v4, v6, v7, v8, v9, v10, v11, v12, DQ, f1, f2, f3, f4, f6, f7, f8, f9, f10, f11, f12, f13, rfl, hr⟩
end
end Go.Proofs.YtcnehblmgfbfoaaGreat
