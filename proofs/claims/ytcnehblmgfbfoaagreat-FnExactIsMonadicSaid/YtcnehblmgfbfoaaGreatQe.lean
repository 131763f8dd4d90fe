/- How the arguments of the law that are handed in read. No condition. -/
import Derived.Test.YtcnehblmgfbfoaaGreatQg
import Derived.Test.YtcnehblmgfbfoaaGreatKk
namespace Go.Proofs.YtcnehblmgfbfoaaGreat
open Go Go.Li Go.ChangeShapes Go.WideShapes Go.Deep
section
variable {H : Type} {enc : TypeId × Value → H} {W : World} {base : Nat}
theorem J6 : Tryz.prog.cellsOf 2 = 1 := by kernel_rfl
theorem rH : Tryz.prog.cellsOf 22 = 1 := by kernel_rfl
theorem yq {n : Nat} {v : Value} {x : DataW H × List MemPlace} (h : DataW.trod enc Tryz.prog W 0 (fun _ => true) true n 22 [v] = some x) : ∃ (xs : (List Int)) (f : List Nat), (bB (aK .i64)).rep W.heap [v] xs f ∧ xs.length ≤ maxLen := J7 Tryz.underlying22 Tryz.underlying2 J6 h
theorem Po : Tryz.prog.cellsOf 23 = 1 := by kernel_rfl
theorem Yy {n : Nat} {v : Value} {x : DataW H × List MemPlace} (h : DataW.trod enc Tryz.prog W 0 (fun _ => true) true n 23 [v] = some x) : ∃ (xs : (List (List Int))) (f : List Nat), (bB (bB (aK .i64))).rep W.heap [v] xs f ∧ xs.length ≤ maxLen ∧ ∀ u ∈ xs, u.length ≤ maxLen :=
  Ib (Q := fun y : (List Int) => y.length ≤ maxLen) rfl Tryz.underlying23 rH (fun h => by
    obtain ⟨xs, f, h1, h2⟩ := yq h
    exact ⟨xs, f, h1, h2⟩) h
theorem Bo : Tryz.prog.cellsOf 25 = 5 := by kernel_rfl
set_option maxRecDepth 100000 in
theorem Mo {n : Nat} {cs : List Value} {x : DataW H × List MemPlace} (hl : cs.length = 5) (h : DataW.trod enc Tryz.prog W 0 (fun _ => true) true n 25 cs = some x) : ∃ (m : aJ) (v1 v2 v3 v4 : Value) (f1 f2 f3 f4 : List Nat), cs = [.int .i64 m.aE, v1, v2, v3, v4] ∧ (bB (aK .i64)).rep W.heap [v1] m.aH f1 ∧ (bB (aK .i64)).rep W.heap [v2] m.To f2 ∧ (bB (aK .i64)).rep W.heap [v3] m.aI f3 ∧ (bB (bB (aK .i64))).rep W.heap [v4] m.aG f4 ∧ vY m := by
  match cs, hl, h with
  | [c0, c1, c2, c3, c4], _, h =>
    obtain ⟨xs, n, _, _, _, hlen, uP⟩ := DataW.trod_struct Tryz.underlying25 h
    have hl : xs.length = 5 := hlen
    obtain ⟨y0, e0⟩ : ∃ y, xs[0]? = some y := ⟨_, List.getElem?_eq_getElem (by omega)⟩
    have g0 : DataW.trod enc Tryz.prog W 0 (fun _ => true) true n 2 ((([c0, c1, c2, c3, c4] : List Value).drop 0).take (Tryz.prog.cellsOf 2)) = some y0 := (uP 0 _ rfl).trans e0
    rw [J6] at g0
    obtain ⟨k0, q0, _⟩ := DataW.trod_int Tryz.underlying2 g0
    replace q0 : c0 = .int .i64 k0 := by simpa using q0
    obtain ⟨y1, e1⟩ : ∃ y, xs[1]? = some y := ⟨_, List.getElem?_eq_getElem (by omega)⟩
    have g1 : DataW.trod enc Tryz.prog W 0 (fun _ => true) true n 22 ((([c0, c1, c2, c3, c4] : List Value).drop 1).take (Tryz.prog.cellsOf 22)) = some y1 := (uP 1 _ rfl).trans e1
    rw [rH] at g1
    obtain ⟨x1, f1, p1, l1⟩ := yq (v := c1) g1
    obtain ⟨y2, e2⟩ : ∃ y, xs[2]? = some y := ⟨_, List.getElem?_eq_getElem (by omega)⟩
    have g2 : DataW.trod enc Tryz.prog W 0 (fun _ => true) true n 22 ((([c0, c1, c2, c3, c4] : List Value).drop 2).take (Tryz.prog.cellsOf 22)) = some y2 := (uP 2 _ rfl).trans e2
    rw [rH] at g2
    obtain ⟨x2, f2, p2, l2⟩ := yq (v := c2) g2
    obtain ⟨y3, e3⟩ : ∃ y, xs[3]? = some y := ⟨_, List.getElem?_eq_getElem (by omega)⟩
    have g3 : DataW.trod enc Tryz.prog W 0 (fun _ => true) true n 22 ((([c0, c1, c2, c3, c4] : List Value).drop 3).take (Tryz.prog.cellsOf 22)) = some y3 := (uP 3 _ rfl).trans e3
    rw [rH] at g3
    obtain ⟨x3, f3, p3, l3⟩ := yq (v := c3) g3
    obtain ⟨y4, e4⟩ : ∃ y, xs[4]? = some y := ⟨_, List.getElem?_eq_getElem (by omega)⟩
    have g4 : DataW.trod enc Tryz.prog W 0 (fun _ => true) true n 23 ((([c0, c1, c2, c3, c4] : List Value).drop 4).take (Tryz.prog.cellsOf 23)) = some y4 := (uP 4 _ rfl).trans e4
    rw [Po] at g4
    obtain ⟨x4, f4, p4, l4, r4⟩ := Yy (v := c4) g4
    exact ⟨aJ.mk k0 x1 x2 x3 x4, c1, c2, c3, c4, f1, f2, f3, f4, (by subst q0; rfl), p1, p2, p3, p4, ⟨l1, l2, l3, l4, r4⟩⟩
set_option maxRecDepth 100000 in
theorem ai3 {v : Value} {d : DataW H} {ps : List MemPlace} (yp : Value.okWide Tryz.prog W .any base 25 v) (h : DataW.Trod enc Tryz.prog W 0 (fun _ => true) true 25 v d ps) : ∃ (m : aJ) (v1 v2 v3 v4 : Value) (f1 f2 f3 f4 : List Nat), v = .agg #[.int .i64 m.aE, v1, v2, v3, v4] ∧ (bB (aK .i64)).rep W.heap [v1] m.aH f1 ∧ (bB (aK .i64)).rep W.heap [v2] m.To f2 ∧ (bB (aK .i64)).rep W.heap [v3] m.aI f3 ∧ (bB (bB (aK .i64))).rep W.heap [v4] m.aG f4 ∧ vY m := by
  obtain ⟨⟨cs⟩, rfl, p7⟩ := okWide_struct Tryz.underlying25 yp
  obtain ⟨fuel, hf⟩ := h
  rw [Bo] at p7
  obtain ⟨m, v1, v2, v3, v4, f1, f2, f3, f4, e, hr⟩ := Mo (cs := cs) p7 hf
  subst e
  exact ⟨m, v1, v2, v3, v4, f1, f2, f3, f4, rfl, hr⟩
theorem Bp : Tryz.prog.cellsOf 27 = 12 := by kernel_rfl
set_option maxRecDepth 100000 in
theorem Mp {n : Nat} {cs : List Value} {x : DataW H × List MemPlace} (hl : cs.length = 12) (h : DataW.trod enc Tryz.prog W 0 (fun _ => true) true n 27 cs = some x) : ∃ (m : aN) (v1 v2 v3 v4 v6 v7 v8 v9 v10 v11 : Value) (f1 f2 f3 f4 f6 f7 f8 f9 f10 f11 : List Nat), cs = [.int .i64 m.aA.aE, v1, v2, v3, v4, .int .i64 m.aF.aE, v6, v7, v8, v9, v10, v11] ∧ (bB (aK .i64)).rep W.heap [v1] m.aA.aH f1 ∧ (bB (aK .i64)).rep W.heap [v2] m.aA.To f2 ∧ (bB (aK .i64)).rep W.heap [v3] m.aA.aI f3 ∧ (bB (bB (aK .i64))).rep W.heap [v4] m.aA.aG f4 ∧ (bB (aK .i64)).rep W.heap [v6] m.aF.aH f6 ∧ (bB (aK .i64)).rep W.heap [v7] m.aF.To f7 ∧ (bB (aK .i64)).rep W.heap [v8] m.aF.aI f8 ∧ (bB (bB (aK .i64))).rep W.heap [v9] m.aF.aG f9 ∧ (bB (aK .i64)).rep W.heap [v10] m.aE f10 ∧ (bB (aK .i64)).rep W.heap [v11] m.ab f11 ∧ qY m := by
  match cs, hl, h with
  | [c0, c1, c2, c3, c4, c5, c6, c7, c8, c9, xF, xG], _, h =>
    obtain ⟨xs, n, _, _, _, hlen, uP⟩ := DataW.trod_struct Tryz.underlying27 h
    have hl : xs.length = 4 := hlen
    obtain ⟨y0, e0⟩ : ∃ y, xs[0]? = some y := ⟨_, List.getElem?_eq_getElem (by omega)⟩
    have g0 : DataW.trod enc Tryz.prog W 0 (fun _ => true) true n 25 ((([c0, c1, c2, c3, c4, c5, c6, c7, c8, c9, xF, xG] : List Value).drop 0).take (Tryz.prog.cellsOf 25)) = some y0 := (uP 0 _ rfl).trans e0
    rw [Bo] at g0
    have g0 : DataW.trod enc Tryz.prog W 0 (fun _ => true) true n 25 [c0, c1, c2, c3, c4] = some y0 := g0
    obtain ⟨m0, EG, EH, EI, EJ, H7, H8, H9, Ia, z0, Mq, Mr, Ms, Mt, l0⟩ := Mo rfl g0
    obtain ⟨y1, e1⟩ : ∃ y, xs[1]? = some y := ⟨_, List.getElem?_eq_getElem (by omega)⟩
    have g1 : DataW.trod enc Tryz.prog W 0 (fun _ => true) true n 25 ((([c0, c1, c2, c3, c4, c5, c6, c7, c8, c9, xF, xG] : List Value).drop 5).take (Tryz.prog.cellsOf 25)) = some y1 := (uP 1 _ rfl).trans e1
    rw [Bo] at g1
    have g1 : DataW.trod enc Tryz.prog W 0 (fun _ => true) true n 25 [c5, c6, c7, c8, c9] = some y1 := g1
    obtain ⟨m1, Mu, Mw, Mx, My, Mz, MA, MB, MC, z1, MD, ME, MG, MH, l1⟩ := Mo rfl g1
    obtain ⟨y2, e2⟩ : ∃ y, xs[2]? = some y := ⟨_, List.getElem?_eq_getElem (by omega)⟩
    have g2 : DataW.trod enc Tryz.prog W 0 (fun _ => true) true n 22 ((([c0, c1, c2, c3, c4, c5, c6, c7, c8, c9, xF, xG] : List Value).drop 10).take (Tryz.prog.cellsOf 22)) = some y2 := (uP 2 _ rfl).trans e2
    rw [rH] at g2
    obtain ⟨x2, f2, p2, l2⟩ := yq (v := xF) g2
    obtain ⟨y3, e3⟩ : ∃ y, xs[3]? = some y := ⟨_, List.getElem?_eq_getElem (by omega)⟩
    have g3 : DataW.trod enc Tryz.prog W 0 (fun _ => true) true n 22 ((([c0, c1, c2, c3, c4, c5, c6, c7, c8, c9, xF, xG] : List Value).drop 11).take (Tryz.prog.cellsOf 22)) = some y3 := (uP 3 _ rfl).trans e3
    rw [rH] at g3
    obtain ⟨x3, f3, p3, l3⟩ := yq (v := xG) g3
    exact ⟨aN.mk m0 m1 x2 x3, EG, EH, EI, EJ, Mu, Mw, Mx, My, xF, xG, H7, H8, H9, Ia, Mz, MA, MB, MC, f2, f3, (by cases z0; cases z1; rfl), Mq, Mr, Ms, Mt, MD, ME, MG, MH, p2, p3, ⟨l0, l1, l2, l3⟩⟩
set_option maxRecDepth 100000 in
theorem ai4 {v : Value} {d : DataW H} {ps : List MemPlace} (yp : Value.okWide Tryz.prog W .any base 27 v) (h : DataW.Trod enc Tryz.prog W 0 (fun _ => true) true 27 v d ps) : ∃ (m : aN) (v1 v2 v3 v4 v6 v7 v8 v9 v10 v11 : Value) (f1 f2 f3 f4 f6 f7 f8 f9 f10 f11 : List Nat), v = .agg #[.int .i64 m.aA.aE, v1, v2, v3, v4, .int .i64 m.aF.aE, v6, v7, v8, v9, v10, v11] ∧ (bB (aK .i64)).rep W.heap [v1] m.aA.aH f1 ∧ (bB (aK .i64)).rep W.heap [v2] m.aA.To f2 ∧ (bB (aK .i64)).rep W.heap [v3] m.aA.aI f3 ∧ (bB (bB (aK .i64))).rep W.heap [v4] m.aA.aG f4 ∧ (bB (aK .i64)).rep W.heap [v6] m.aF.aH f6 ∧ (bB (aK .i64)).rep W.heap [v7] m.aF.To f7 ∧ (bB (aK .i64)).rep W.heap [v8] m.aF.aI f8 ∧ (bB (bB (aK .i64))).rep W.heap [v9] m.aF.aG f9 ∧ (bB (aK .i64)).rep W.heap [v10] m.aE f10 ∧ (bB (aK .i64)).rep W.heap [v11] m.ab f11 ∧ qY m := by
  obtain ⟨⟨cs⟩, rfl, p7⟩ := okWide_struct Tryz.underlying27 yp
  obtain ⟨fuel, hf⟩ := h
  rw [Bp] at p7
  obtain ⟨m, v1, v2, v3, v4, v6, v7, v8, v9, v10, v11, f1, f2, f3, f4, f6, f7, f8, f9, f10, f11, e, hr⟩ := Mp (cs := cs) p7 hf
  subst e
  exact ⟨m, v1, v2, v3, v4, v6, v7, v8, v9, v10, v11, f1, f2, f3, f4, f6, f7, f8, f9, f10, f11, rfl, hr⟩
theorem Pp : Tryz.prog.cellsOf 45 = 26 := by kernel_rfl
set_option maxRecDepth 100000 in
theorem Yz {n : Nat} {cs : List Value} {x : DataW H × List MemPlace} (hl : cs.length = 26) (h : DataW.trod enc Tryz.prog W 0 (fun _ => true) true n 45 cs = some x) : ∃ (m : bI) (v1 v2 v3 v4 v6 v7 v8 v9 v10 v11 EK EL EM EN ES ET v20 v21 v22 EU v24 v25 : Value) (f1 f2 f3 f4 f6 f7 f8 f9 f10 f11 f13 f14 f15 f16 f18 f19 f20 f21 f22 f23 f24 f25 : List Nat), cs = [.int .i64 m.Left.aA.aE, v1, v2, v3, v4, .int .i64 m.Left.aF.aE, v6, v7, v8, v9, v10, v11, .int .i64 m.ae.aA.aE, EK, EL, EM, EN, .int .i64 m.ae.aF.aE, ES, ET, v20, v21, v22, EU, v24, v25] ∧ (bB (aK .i64)).rep W.heap [v1] m.Left.aA.aH f1 ∧ (bB (aK .i64)).rep W.heap [v2] m.Left.aA.To f2 ∧ (bB (aK .i64)).rep W.heap [v3] m.Left.aA.aI f3 ∧ (bB (bB (aK .i64))).rep W.heap [v4] m.Left.aA.aG f4 ∧ (bB (aK .i64)).rep W.heap [v6] m.Left.aF.aH f6 ∧ (bB (aK .i64)).rep W.heap [v7] m.Left.aF.To f7 ∧ (bB (aK .i64)).rep W.heap [v8] m.Left.aF.aI f8 ∧ (bB (bB (aK .i64))).rep W.heap [v9] m.Left.aF.aG f9 ∧ (bB (aK .i64)).rep W.heap [v10] m.Left.aE f10 ∧ (bB (aK .i64)).rep W.heap [v11] m.Left.ab f11 ∧ (bB (aK .i64)).rep W.heap [EK] m.ae.aA.aH f13 ∧ (bB (aK .i64)).rep W.heap [EL] m.ae.aA.To f14 ∧ (bB (aK .i64)).rep W.heap [EM] m.ae.aA.aI f15 ∧ (bB (bB (aK .i64))).rep W.heap [EN] m.ae.aA.aG f16 ∧ (bB (aK .i64)).rep W.heap [ES] m.ae.aF.aH f18 ∧ (bB (aK .i64)).rep W.heap [ET] m.ae.aF.To f19 ∧ (bB (aK .i64)).rep W.heap [v20] m.ae.aF.aI f20 ∧ (bB (bB (aK .i64))).rep W.heap [v21] m.ae.aF.aG f21 ∧ (bB (aK .i64)).rep W.heap [v22] m.ae.aE f22 ∧ (bB (aK .i64)).rep W.heap [EU] m.ae.ab f23 ∧ (bB (aK .i64)).rep W.heap [v24] m.Unit f24 ∧ (bB (aK .i64)).rep W.heap [v25] m.aw f25 ∧ qB m := by
  match cs, hl, h with
  | [c0, c1, c2, c3, c4, c5, c6, c7, c8, c9, xF, xG, EV, J8, J9, Ka, Kc, EW, EX, EY, EZ, E0, Kd, Ke, GX, GY], _, h =>
    obtain ⟨xs, n, _, _, _, hlen, uP⟩ := DataW.trod_struct Tryz.underlying45 h
    have hl : xs.length = 4 := hlen
    obtain ⟨y0, e0⟩ : ∃ y, xs[0]? = some y := ⟨_, List.getElem?_eq_getElem (by omega)⟩
    have g0 : DataW.trod enc Tryz.prog W 0 (fun _ => true) true n 27 ((([c0, c1, c2, c3, c4, c5, c6, c7, c8, c9, xF, xG, EV, J8, J9, Ka, Kc, EW, EX, EY, EZ, E0, Kd, Ke, GX, GY] : List Value).drop 0).take (Tryz.prog.cellsOf 27)) = some y0 := (uP 0 _ rfl).trans e0
    rw [Bp] at g0
    have g0 : DataW.trod enc Tryz.prog W 0 (fun _ => true) true n 27 [c0, c1, c2, c3, c4, c5, c6, c7, c8, c9, xF, xG] = some y0 := g0
    obtain ⟨m0, EG, EH, EI, EJ, Mk, Ml, Mm, Mn, H5, H6, H7, H8, H9, Ia, SS, SU, SV, SX, N7, N8, z0, Mq, Mr, Ms, Mt, YA, YB, YC, YD, U2, U3, l0⟩ := Mp rfl g0
    obtain ⟨y1, e1⟩ : ∃ y, xs[1]? = some y := ⟨_, List.getElem?_eq_getElem (by omega)⟩
    have g1 : DataW.trod enc Tryz.prog W 0 (fun _ => true) true n 27 ((([c0, c1, c2, c3, c4, c5, c6, c7, c8, c9, xF, xG, EV, J8, J9, Ka, Kc, EW, EX, EY, EZ, E0, Kd, Ke, GX, GY] : List Value).drop 12).take (Tryz.prog.cellsOf 27)) = some y1 := (uP 1 _ rfl).trans e1
    rw [Bp] at g1
    have g1 : DataW.trod enc Tryz.prog W 0 (fun _ => true) true n 27 [EV, J8, J9, Ka, Kc, EW, EX, EY, EZ, E0, Kd, Ke] = some y1 := g1
    obtain ⟨m1, Mu, Mw, Mx, My, YE, YF, YG, YH, U4, U5, Mz, MA, MB, MC, YI, YJ, YK, YL, U6, U7, z1, MD, ME, MG, MH, YM, YN, YO, YP, U8, U9, l1⟩ := Mp rfl g1
    obtain ⟨y2, e2⟩ : ∃ y, xs[2]? = some y := ⟨_, List.getElem?_eq_getElem (by omega)⟩
    have g2 : DataW.trod enc Tryz.prog W 0 (fun _ => true) true n 22 ((([c0, c1, c2, c3, c4, c5, c6, c7, c8, c9, xF, xG, EV, J8, J9, Ka, Kc, EW, EX, EY, EZ, E0, Kd, Ke, GX, GY] : List Value).drop 24).take (Tryz.prog.cellsOf 22)) = some y2 := (uP 2 _ rfl).trans e2
    rw [rH] at g2
    obtain ⟨x2, f2, p2, l2⟩ := yq (v := GX) g2
    obtain ⟨y3, e3⟩ : ∃ y, xs[3]? = some y := ⟨_, List.getElem?_eq_getElem (by omega)⟩
    have g3 : DataW.trod enc Tryz.prog W 0 (fun _ => true) true n 22 ((([c0, c1, c2, c3, c4, c5, c6, c7, c8, c9, xF, xG, EV, J8, J9, Ka, Kc, EW, EX, EY, EZ, E0, Kd, Ke, GX, GY] : List Value).drop 25).take (Tryz.prog.cellsOf 22)) = some y3 := (uP 3 _ rfl).trans e3
    rw [rH] at g3
    obtain ⟨x3, f3, p3, l3⟩ := yq (v := GY) g3
    exact ⟨bI.mk m0 m1 x2 x3, EG, EH, EI, EJ, Mk, Ml, Mm, Mn, H5, H6, Mu, Mw, Mx, My, YE, YF, YG, YH, U4, U5, GX, GY, H7, H8, H9, Ia, SS, SU, SV, SX, N7, N8, Mz, MA, MB, MC, YI, YJ, YK, YL, U6, U7, f2, f3, (by cases z0; cases z1; rfl), Mq, Mr, Ms, Mt, YA, YB, YC, YD, U2, U3, MD, ME, MG, MH, YM, YN, YO, YP, U8, U9, p2, p3, ⟨l0, l1, l2, l3⟩⟩
set_option maxRecDepth 100000 in
theorem Yx {v : Value} {d : DataW H} {ps : List MemPlace} (yp : Value.okWide Tryz.prog W .any base 45 v) (h : DataW.Trod enc Tryz.prog W 0 (fun _ => true) true 45 v d ps) : ∃ (m : bI) (v1 v2 v3 v4 v6 v7 v8 v9 v10 v11 EK EL EM EN ES ET v20 v21 v22 EU v24 v25 : Value) (f1 f2 f3 f4 f6 f7 f8 f9 f10 f11 f13 f14 f15 f16 f18 f19 f20 f21 f22 f23 f24 f25 : List Nat), v = .agg #[.int .i64 m.Left.aA.aE, v1, v2, v3, v4, .int .i64 m.Left.aF.aE, v6, v7, v8, v9, v10, v11, .int .i64 m.ae.aA.aE, EK, EL, EM, EN, .int .i64 m.ae.aF.aE, ES, ET, v20, v21, v22, EU, v24, v25] ∧ (bB (aK .i64)).rep W.heap [v1] m.Left.aA.aH f1 ∧ (bB (aK .i64)).rep W.heap [v2] m.Left.aA.To f2 ∧ (bB (aK .i64)).rep W.heap [v3] m.Left.aA.aI f3 ∧ (bB (bB (aK .i64))).rep W.heap [v4] m.Left.aA.aG f4 ∧ (bB (aK .i64)).rep W.heap [v6] m.Left.aF.aH f6 ∧ (bB (aK .i64)).rep W.heap [v7] m.Left.aF.To f7 ∧ (bB (aK .i64)).rep W.heap [v8] m.Left.aF.aI f8 ∧ (bB (bB (aK .i64))).rep W.heap [v9] m.Left.aF.aG f9 ∧ (bB (aK .i64)).rep W.heap [v10] m.Left.aE f10 ∧ (bB (aK .i64)).rep W.heap [v11] m.Left.ab f11 ∧ (bB (aK .i64)).rep W.heap [EK] m.ae.aA.aH f13 ∧ (bB (aK .i64)).rep W.heap [EL] m.ae.aA.To f14 ∧ (bB (aK .i64)).rep W.heap [EM] m.ae.aA.aI f15 ∧ (bB (bB (aK .i64))).rep W.heap [EN] m.ae.aA.aG f16 ∧ (bB (aK .i64)).rep W.heap [ES] m.ae.aF.aH f18 ∧ (bB (aK .i64)).rep W.heap [ET] m.ae.aF.To f19 ∧ (bB (aK .i64)).rep W.heap [v20] m.ae.aF.aI f20 ∧ (bB (bB (aK .i64))).rep W.heap [v21] m.ae.aF.aG f21 ∧ (bB (aK .i64)).rep W.heap [v22] m.ae.aE f22 ∧ (bB (aK .i64)).rep W.heap [EU] m.ae.ab f23 ∧ (bB (aK .i64)).rep W.heap [v24] m.Unit f24 ∧ (bB (aK .i64)).rep W.heap [v25] m.aw f25 ∧ qB m := by
  obtain ⟨⟨cs⟩, rfl, p7⟩ := okWide_struct Tryz.underlying45 yp
  obtain ⟨fuel, hf⟩ := h
  rw [Pp] at p7
  obtain ⟨m, v1, v2, v3, v4, v6, v7, v8, v9, v10, v11, EK, EL, EM, EN, ES, ET, v20, v21, v22, EU, v24, v25, f1, f2, f3, f4, f6, f7, f8, f9, f10, f11, f13, f14, f15, f16, f18, f19, f20, f21, f22, f23, f24, f25, e, hr⟩ := Yz (cs := cs) p7 hf
  subst e
  exact ⟨m, v1, v2, v3, v4, v6, v7, v8, v9, v10, v11, EK, EL, EM, EN, ES, ET, v20, v21, v22, EU, v24, v25, f1, f2, f3, f4, f6, f7, f8, f9, f10, f11, f13, f14, f15, f16, f18, f19, f20, f21, f22, f23, f24, f25, rfl, hr⟩
end
end Go.Proofs.YtcnehblmgfbfoaaGreat
