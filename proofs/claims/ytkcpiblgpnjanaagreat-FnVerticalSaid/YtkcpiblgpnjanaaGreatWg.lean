/- Walks by the calculus D. No condition beside those that each theorem names. -/
import Derived.Test.YtkcpiblgpnjanaaGreatDi
import Derived.Test.YtkcpiblgpnjanaaGreatMo
import Derived.Test.YtkcpiblgpnjanaaGreatDp
import Derived.Test.YtkcpiblgpnjanaaGreatDs
import Derived.Test.YtkcpiblgpnjanaaGreatWa
import Derived.Test.YtkcpiblgpnjanaaGreatWb
import Derived.Test.YtkcpiblgpnjanaaGreatWc
import Derived.Test.YtkcpiblgpnjanaaGreatWd
namespace Go.Proofs.YtkcpiblgpnjanaaGreat
open Go Go.Li Go.Dk
set_option linter.unusedVariables false
set_option maxHeartbeats 16000000
set_option maxRecDepth 100000
theorem adi {x0:Int} {x1:(List Int)} {eE:Value} {x2:(List Int)} {dS:Value}:Ct Tryz.prog 216 false (lE x0 x1 x2) [.int .i64 (x0),eE,dS] [.rd false (aD (aB .i64)) eE x1,.rd false (aD (aB .i64)) dS x2] (fun y (v:Value)=>[v]) (fun y v=>[.rd false (aD (rP vi)) v y]):=by
 refine ct (S:=Unit) Cq Tryz.func216 rfl rfl ?_
 repeat' first
  | ((first | show Dk.ER _ _ _ | show Dk.bb _ _ | show Dk.EF _ _ _ | show Dk.EO _ _ _ | show Dk.EP _ _ | show Dk.ba _ _ _ _ | show Dk.aw _ _ _ _ | show Dk.Kp _ _ _ _ | show Dk.bp _ _ | show Dk.bc _ _ _ _); repeat' first | exact rfl | (refine @id.{0} _ ?_; constructor))
  | intro _
  | exact rfl
  | (refine (id (α:=@Eq (List Value) _ _) ?_); dsimp only; try exact rfl)
  | apply Dk.lgS (t:=239) (S:=vi)
  | apply Dk.lnS (t:=239)
  | apply Dk.ixS (t:=239)
  | apply Dk.apS (t:=239) (bY.mk _ _ _)
  | apply Dk.MP (n:=3)
  | apply Dk.KD (n:=3)
  | apply Dk.Ru (n:=3)
  | apply Dk.stS (n:=3) (S:=vi) _
  | apply Dk.AD.T9
  | apply Dk.AD.Yw (n:=3)
  | apply Dk.AD.Ua (n:=3)
  | (refine @id.{0} _ ?_; constructor)
  | apply Dk.DG 0 (V:=Value) (W:=List (List Value)) (fun (s:(List bY)×Int) v u=>[.own (aK 242 (ji 3)) v u,.rd false (vz vi) (.bool true) (u,s.1)]) (fun s v u=>[(7,v),(8,.int .i64 (s.2))]) _ _ [(0,_),(1,_),(2,_)]
  | apply Dk.DG 2 (V:=Value) (W:=List (List Value)) (fun (s:(List bY)×Int) v u=>[.own (aK 242 (ji 3)) v u,.rd false (vz vi) (.bool true) (u,s.1)]) (fun s v u=>[(7,v),(9,.int .i64 (s.2))]) _ _ [(0,_),(1,_),(2,_)]
  | apply Dk.DG 4 (V:=Value) (W:=List (List Value)) (fun (s:(List bY)×Int) v u=>[.own (aK 242 (ji 3)) v u,.rd false (vz vi) (.bool true) (u,s.1)]) (fun s v u=>[(7,v),(10,.int .i64 (s.2))]) _ _ [(0,_),(1,_),(2,_),(9,_)]
  | apply Dk.DG 6 (V:=Value) (W:=List (List Value)) (fun (s:(List bY)×Int) v u=>[.own (aK 242 (ji 3)) v u,.rd false (vz vi) (.bool true) (u,s.1)]) (fun s v u=>[(7,v),(11,.int .i64 (s.2))]) _ _ []
  | apply Dk.DG 8 (V:=Value) (W:=List (List Value)) (fun (s:(List bY)×Int) v u=>[.own (aK 242 (ji 3)) v u,.rd false (vz vi) (.bool true) (u,s.1)]) (fun s v u=>[(7,v),(12,.int .i64 (s.2))]) _ _ [(11,_)]
  | apply Dk.quiet (id:=12) (by kernel_rfl)
  | apply Dk.quiet (id:=18) (by kernel_rfl)
  | apply Dk.any (id:=13) 19 [0] [[],[],[],[],[],[],[],[],[],[],[],[],[],[],[],[],[],[],[15]] [[],[],[],[1,2],[3,1,2],[4,3,1,2],[],[],[6,7],[8,6,7],[],[],[10,11],[12,10,11],[13,12,10,11],[14,13,12,10,11],[],[16],[15,14,13,12,10,11,17,16,15,14,13,12,10,11]] (by kernel_rfl)
  | apply v7
  | apply ac1
  | exact ()
theorem adj {x0:Int} {x1:(List Int)} {eE:Value} {x2:(List Int)} {dS:Value}:Ct Tryz.prog 207 true (fT x0 x1 x2) [.int .i64 (x0),eE,dS] [.rd false (aD (aB .i64)) eE x1,.rd false (aD (aB .i64)) dS x2] (fun y (v:Value×Value×Value×Value)=>[.agg #[.int .i64 y.aE,v.1,v.2.1,v.2.2.1,v.2.2.2]]) (fun y v=>[.own (aK 2 (aB .i64)) v.1 y.aG,.own (aK 2 (aB .i64)) v.2.1 y.To,.own (aK 2 (aB .i64)) v.2.2.1 y.aJ,.own (aK 24 (aK 2 (aB .i64))) v.2.2.2 y.aF]):=by
 refine ct (S:=Unit) (ca fun _ _=>rfl) Tryz.func207 rfl rfl ?_
 repeat' first
  | ((first | show Dk.ER _ _ _ | show Dk.bb _ _ | show Dk.EF _ _ _ | show Dk.EO _ _ _ | show Dk.EP _ _ | show Dk.ba _ _ _ _ | show Dk.aw _ _ _ _ | show Dk.Kp _ _ _ _ | show Dk.bp _ _ | show Dk.bc _ _ _ _); repeat' first | exact rfl | (refine @id.{0} _ ?_; constructor))
  | intro _
  | exact rfl
  | (refine Dk.s9 (t:=83) rfl ?_ ?_)
  | apply Dk.AD.Rh (d:=108)
  | (refine Dk.s9 (t:=112) rfl ?_ ?_)
  | (refine @id.{0} _ ?_; constructor)
  | apply Dk.j4 0 (V:=Value×Value) (A:=Nat×Value×Value) (_,_,_) (fun a (s:Int×(List Int)×(List Int)×(List Int)) v=>Dk.pc (fun a0=>Dk.pc (fun a1 a2=>[.row a0 [.int .i64 (x0),v.1,v.2,a1,a2] 27,.own (aK 2 (aB .i64)) a1 s.2.2.2,.own (aK 2 (aB .i64)) v.1 s.2.1,.own (aK 2 (aB .i64)) v.2 s.2.2.1])) a) (fun a s v=>Dk.pc (fun a0=>Dk.pc (fun a1 a2=>[(8,.pointer (some ⟨a0,0,none⟩)),(9,.int .i64 (s.1))])) a) (_,_) [(6,_),(7,_)]
  | apply Dk.j4 2 (V:=Value) (A:=Nat×Value×Value×Value) (_,_,_,_) (fun a (s:Int×(List (List Int))) v=>Dk.pc (fun a0=>Dk.pc (fun a1=>Dk.pc (fun a2 a3=>[.row a0 [.int .i64 (x0),a1,a2,a3,v] 27,.own (aK 24 (aK 2 (aB .i64))) v s.2]))) a) (fun a s v=>Dk.pc (fun a0=>Dk.pc (fun a1=>Dk.pc (fun a2 a3=>[(8,.pointer (some ⟨a0,0,none⟩)),(10,.int .i64 (s.1))]))) a) _ [(6,_),(7,_)]
  | apply Dk.loop 4 (V:=Value) (fun (s:(List Int)×Int) v=>[.own (aK 2 (aB .i64)) v s.1]) (fun s v=>[(11,v),(12,.int .i64 (s.2))]) _ [(6,_),(7,_),(8,_),(10,_)]
  | apply Dk.loop 6 (V:=Unit) (fun (s:Int×Int) v=>[]) (fun s v=>[(13,.int .i64 (s.1)),(15,.int .i64 (s.2))]) () [(6,_),(7,_),(8,_),(10,_),(11,_),(12,_),(14,_)]
  | apply Dk.quiet (id:=20) (by kernel_rfl)
  | apply Dk.quiet (id:=25) (by kernel_rfl)
  | apply Dk.any (id:=6) 8 [] [] [[],[0],[],[],[2,3],[4,2,3],[5,4,2,3],[6,5,4,2,3]] (by kernel_rfl)
  | apply Dk.any (id:=7) 8 [] [] [[],[0],[],[],[2,3],[4,2,3],[5,4,2,3],[6,5,4,2,3]] (by kernel_rfl)
  | apply Dk.any (id:=9) 8 [] [] [[],[0],[],[],[2,3],[4,2,3],[5,4,2,3],[]] (by kernel_rfl)
  | apply Dk.any (id:=21) 11 [] [] [[],[],[0,1],[2,0,1],[3,2,0,1],[4,3,2,0,1],[],[],[6,7],[8,6,7],[9,8,6,7]] (by kernel_rfl)
  | apply adi
  | apply WM
  | apply v7
  | apply LC
  | exact ()
theorem adk {x0:(List (List Int))} {dI:Value}:Ct Tryz.prog 208 true (jD x0) [dI] [.rd false (aD (aD (aB .i64))) dI x0] (fun y (v:Value×Value×Value×Value)=>[.agg #[.int .i64 y.aE,v.1,v.2.1,v.2.2.1,v.2.2.2]]) (fun y v=>[.own (aK 2 (aB .i64)) v.1 y.aG,.own (aK 2 (aB .i64)) v.2.1 y.To,.own (aK 2 (aB .i64)) v.2.2.1 y.aJ,.own (aK 24 (aK 2 (aB .i64))) v.2.2.2 y.aF]):=by
 refine ct (S:=Unit) (ca fun _ _=>rfl) Tryz.func208 rfl rfl ?_
 repeat' first
  | ((first | show Dk.ER _ _ _ | show Dk.bb _ _ | show Dk.EF _ _ _ | show Dk.EO _ _ _ | show Dk.EP _ _ | show Dk.ba _ _ _ _ | show Dk.aw _ _ _ _ | show Dk.Kp _ _ _ _ | show Dk.bp _ _ | show Dk.bc _ _ _ _); repeat' first | exact rfl | (refine @id.{0} _ ?_; constructor))
  | intro _
  | exact rfl
  | (refine @id.{0} _ ?_; constructor)
  | apply Dk.any (id:=2) 7 [] [] [[],[0,0],[],[2,2],[],[],[5]] (by kernel_rfl)
  | apply WE
  | exact ()
theorem QJ {x0:aI} {aV:Value} {bG:Value} {aO:Value} {aM:Value}:Ct Tryz.prog 138 true (kE x0) [.agg #[.int .i64 (x0.aE),aV,bG,aO,aM]] [.rd false (aD (aB .i64)) aV x0.aG,.rd false (aD (aB .i64)) bG x0.To,.rd false (aD (aB .i64)) aO x0.aJ,.rd false (aD (aD (aB .i64))) aM x0.aF] (fun y (v:Value×Value×Value×Value)=>[.agg #[.int .i64 y.aE,v.1,v.2.1,v.2.2.1,v.2.2.2]]) (fun y v=>[.own (aK 2 (aB .i64)) v.1 y.aG,.own (aK 2 (aB .i64)) v.2.1 y.To,.own (aK 2 (aB .i64)) v.2.2.1 y.aJ,.own (aK 24 (aK 2 (aB .i64))) v.2.2.2 y.aF]):=by
 refine ct (S:=Unit) (ca fun _ _=>rfl) Tryz.func138 rfl rfl ?_
 repeat' first
  | ((first | show Dk.ER _ _ _ | show Dk.bb _ _ | show Dk.EF _ _ _ | show Dk.EO _ _ _ | show Dk.EP _ _ | show Dk.ba _ _ _ _ | show Dk.aw _ _ _ _ | show Dk.Kp _ _ _ _ | show Dk.bp _ _ | show Dk.bc _ _ _ _); repeat' first | exact rfl | (refine @id.{0} _ ?_; constructor))
  | intro _
  | exact rfl
  | (refine @id.{0} _ ?_; constructor)
  | apply Dk.any (id:=1) 14 [] [] [[],[0],[],[2],[3,2],[],[5],[6,5,4,3,2],[],[8],[9,8,7,6,5,4,3,2],[],[11],[12,11,10,9,8,7,6,5,4,3,2]] (by kernel_rfl)
  | apply v7
  | apply WE
  | exact ()
theorem WW {x0:aI} {aV:Value} {bG:Value} {aO:Value} {aM:Value} {x1:aI} {cA:Value} {cR:Value} {bH:Value} {bB:Value}:Ct Tryz.prog 195 true (iY x0 x1) [.agg #[.int .i64 (x0.aE),aV,bG,aO,aM],.agg #[.int .i64 (x1.aE),cA,cR,bH,bB]] [.rd false (aD (aB .i64)) aV x0.aG,.rd false (aD (aB .i64)) bG x0.To,.rd false (aD (aB .i64)) aO x0.aJ,.rd false (aD (aD (aB .i64))) aM x0.aF,.rd false (aD (aB .i64)) cA x1.aG,.rd false (aD (aB .i64)) cR x1.To,.rd false (aD (aB .i64)) bH x1.aJ,.rd false (aD (aD (aB .i64))) bB x1.aF] (fun y (v:Value×Value×Value×Value)=>[.agg #[.int .i64 y.aE,v.1,v.2.1,v.2.2.1,v.2.2.2]]) (fun y v=>[.own (aK 2 (aB .i64)) v.1 y.aG,.own (aK 2 (aB .i64)) v.2.1 y.To,.own (aK 2 (aB .i64)) v.2.2.1 y.aJ,.own (aK 24 (aK 2 (aB .i64))) v.2.2.2 y.aF]):=by
 refine ct (S:=Unit) (ca fun _ _=>rfl) Tryz.func195 rfl rfl ?_
 repeat' first
  | ((first | show Dk.ER _ _ _ | show Dk.bb _ _ | show Dk.EF _ _ _ | show Dk.EO _ _ _ | show Dk.EP _ _ | show Dk.ba _ _ _ _ | show Dk.aw _ _ _ _ | show Dk.Kp _ _ _ _ | show Dk.bp _ _ | show Dk.bc _ _ _ _); repeat' first | exact rfl | (refine @id.{0} _ ?_; constructor))
  | intro _
  | exact rfl
  | apply Dk.Rh (d:=69)
  | apply Dk.ixH (d:=70)
  | apply Dk.stR (e:=24) (t:=24)
  | (refine @id.{0} _ ?_; constructor)
  | apply Dk.j4 0 (V:=Value) (A:=Nat×Value×Value×Value) (_,_,_,_) (fun a (s:Int×(List Int)) v=>Dk.pc (fun a0=>Dk.pc (fun a1=>Dk.pc (fun a2 a3=>[.row a0 [.int .i64 (ak (x0.aE+x1.aE)),a1,a2,v,a3] 27,.own (aK 2 (aB .i64)) v s.2]))) a) (fun a s v=>Dk.pc (fun a0=>Dk.pc (fun a1=>Dk.pc (fun a2 a3=>[(7,.pointer (some ⟨a0,0,none⟩)),(8,.int .i64 (s.1))]))) a) _ [(3,_),(4,_),(5,_),(6,_)]
  | apply Dk.j4 2 (V:=Unit) (A:=Value) _ (fun a (s:Int×(List (List Int))) v=>[.own (aK 24 (aK 2 (aB .i64))) a s.2]) (fun a s v=>[(9,.int .i64 (s.1))]) () [(3,_),(4,_),(5,_),(6,_),(7,_)]
  | apply Dk.j4 4 (V:=Unit) (A:=Value) _ (fun a (s:Int×(List (List Int))) v=>[.own (aK 24 (aK 2 (aB .i64))) a s.2]) (fun a s v=>[(10,.int .i64 (s.1))]) () [(3,_),(4,_),(5,_),(6,_),(7,_),(9,_)]
  | apply Dk.j4 6 (V:=Value×Value×Value) (A:=Nat×Value) (_,_) (fun a (s:Int×(List Int)×(List Int)×(List (List Int))) v=>Dk.pc (fun a0 a1=>[.row a0 [.int .i64 (ak (x0.aE+x1.aE)),v.1,v.2.1,a1,v.2.2] 27,.own (aK 2 (aB .i64)) v.1 s.2.1,.own (aK 2 (aB .i64)) v.2.1 s.2.2.1,.own (aK 24 (aK 2 (aB .i64))) v.2.2 s.2.2.2]) a) (fun a s v=>Dk.pc (fun a0 a1=>[(7,.pointer (some ⟨a0,0,none⟩)),(11,.int .i64 (s.1))]) a) (_,_,_) [(3,_),(4,_),(5,_),(6,_)]
  | apply Dk.loop 8 (V:=Value) (fun (s:(List Int)×Int) v=>[.own (aK 2 (aB .i64)) v s.1]) (fun s v=>[(12,v),(13,.int .i64 (s.2))]) _ [(3,_),(4,_),(5,_),(6,_),(7,_),(11,_)]
  | apply Dk.loop 10 (V:=Value) (fun (s:(List Int)×Int) v=>[.own (aK 2 (aB .i64)) v s.1]) (fun s v=>[(12,v),(14,.int .i64 (s.2))]) _ [(3,_),(4,_),(5,_),(6,_),(7,_),(11,_)]
  | apply Dk.quiet (id:=1) (by kernel_rfl)
  | apply Dk.any (id:=7) 10 [] [] [[],[0],[],[2],[],[3,2,4],[5,3,2,4],[],[6,5,3,2,4,7],[8,6,5,3,2,4,7]] (by kernel_rfl)
  | apply Dk.um (id:=14) [Dk.ay.own (aK 24 (aK 2 (aB .i64))) _ _] 10 [] [[],[],[],[],[],[],[],[],[],[12]] [[],[0],[],[],[3],[],[4,3,5],[6,4,3,5],[],[7,6,4,3,5,8]] (by kernel_rfl)
  | apply Dk.any (id:=18) 10 [] [] [[],[0],[],[2],[],[3,2,4],[5,3,2,4],[],[6,5,3,2,4,7],[8,6,5,3,2,4,7]] (by kernel_rfl)
  | apply Dk.any (id:=19) 10 [] [] [[],[0],[],[2],[],[3,2,4],[5,3,2,4],[],[6,5,3,2,4,7],[8,6,5,3,2,4,7]] (by kernel_rfl)
  | apply QJ
  | exact ()
theorem R2 {x0:aI} {aV:Value} {bG:Value} {aO:Value} {aM:Value} {x1:aI} {cA:Value} {cR:Value} {bH:Value} {bB:Value} {x2:(List Int)} {dS:Value} {x3:(List Int)} {gU:Value}:Ct Tryz.prog 72 true (jI x0 x1 x2 x3) [.agg #[.int .i64 (x0.aE),aV,bG,aO,aM],.agg #[.int .i64 (x1.aE),cA,cR,bH,bB],dS,gU] [.rd false (aD (aB .i64)) aV x0.aG,.rd false (aD (aB .i64)) bG x0.To,.rd false (aD (aB .i64)) aO x0.aJ,.rd false (aD (aD (aB .i64))) aM x0.aF,.rd false (aD (aB .i64)) cA x1.aG,.rd false (aD (aB .i64)) cR x1.To,.rd false (aD (aB .i64)) bH x1.aJ,.rd false (aD (aD (aB .i64))) bB x1.aF,.rd false (aD (aB .i64)) dS x2,.rd false (aD (aB .i64)) gU x3] (fun y (v:Value×Value×Value×Value×Value×Value×Value×Value×Value×Value)=>[.agg #[.int .i64 y.aA.aE,v.1,v.2.1,v.2.2.1,v.2.2.2.1,.int .i64 y.aC.aE,v.2.2.2.2.1,v.2.2.2.2.2.1,v.2.2.2.2.2.2.1,v.2.2.2.2.2.2.2.1,v.2.2.2.2.2.2.2.2.1,v.2.2.2.2.2.2.2.2.2]]) (fun y v=>[.own (aK 2 (aB .i64)) v.1 y.aA.aG,.own (aK 2 (aB .i64)) v.2.1 y.aA.To,.own (aK 2 (aB .i64)) v.2.2.1 y.aA.aJ,.own (aK 24 (aK 2 (aB .i64))) v.2.2.2.1 y.aA.aF,.own (aK 2 (aB .i64)) v.2.2.2.2.1 y.aC.aG,.own (aK 2 (aB .i64)) v.2.2.2.2.2.1 y.aC.To,.own (aK 2 (aB .i64)) v.2.2.2.2.2.2.1 y.aC.aJ,.own (aK 24 (aK 2 (aB .i64))) v.2.2.2.2.2.2.2.1 y.aC.aF,.own (aK 2 (aB .i64)) v.2.2.2.2.2.2.2.2.1 y.aE,.own (aK 2 (aB .i64)) v.2.2.2.2.2.2.2.2.2 y.ae]):=by
 refine ct (S:=Unit) (ca fun _ _=>rfl) Tryz.func72 rfl rfl ?_
 repeat' first
  | ((first | show Dk.ER _ _ _ | show Dk.bb _ _ | show Dk.EF _ _ _ | show Dk.EO _ _ _ | show Dk.EP _ _ | show Dk.ba _ _ _ _ | show Dk.aw _ _ _ _ | show Dk.Kp _ _ _ _ | show Dk.bp _ _ | show Dk.bc _ _ _ _); repeat' first | exact rfl | (refine @id.{0} _ ?_; constructor))
  | intro _
  | exact rfl
  | (refine @id.{0} _ ?_; constructor)
  | apply Dk.any (id:=1) 7 [] [] [[],[0],[],[2,1,0],[],[4,3,2,1,0],[]] (by kernel_rfl)
  | apply QJ
  | apply v7
  | exact ()
theorem adl {x0:aL} {dV:Nat} {cW:Value} {x1:aI} {cA:Value} {cR:Value} {bH:Value} {bB:Value}:Ct Tryz.prog 163 false (oF x0 x1) [.pointer (some (⟨dV,0,none⟩)),.agg #[.int .i64 (x1.aE),cA,cR,bH,bB]] [.row dV [cW,.int .i64 (x0.At),.int .u64 (x0.av)] 142,.rd false (aD (aB .u8)) cW x0.Code,.rd false (aD (aB .i64)) cA x1.aG,.rd false (aD (aB .i64)) cR x1.To,.rd false (aD (aB .i64)) bH x1.aJ,.rd false (aD (aD (aB .i64))) bB x1.aF] (fun y (v:Value×Value×Value×Value)=>[.agg #[.int .i64 y.1.aE,v.1,v.2.1,v.2.2.1,v.2.2.2]]) (fun y v=>[.rd false (aD (aB .i64)) v.1 y.1.aG,.rd false (aD (aB .i64)) v.2.1 y.1.To,.rd false (aD (aB .i64)) v.2.2.1 y.1.aJ,.rd false (aD (aD (aB .i64))) v.2.2.2 y.1.aF,.row dV [cW,.int .i64 y.2.At,.int .u64 y.2.av] 142]):=by
 refine ct (S:=Unit) Cq Tryz.func163 rfl rfl ?_
 repeat' first
  | ((first | show Dk.ER _ _ _ | show Dk.bb _ _ | show Dk.EF _ _ _ | show Dk.EO _ _ _ | show Dk.EP _ _ | show Dk.ba _ _ _ _ | show Dk.aw _ _ _ _ | show Dk.Kp _ _ _ _ | show Dk.bp _ _ | show Dk.bc _ _ _ _); repeat' first | exact rfl | (refine @id.{0} _ ?_; constructor))
  | intro _
  | exact rfl
  | (refine Dk.s9 (t:=58) rfl ?_ ?_)
  | apply Dk.slT (t:=24)
  | apply Dk.stN
  | (refine @id.{0} _ ?_; constructor)
  | apply Dk.um (id:=13) [Dk.ay.row _ _ 142] 6 [] [[],[],[],[],[],[8]] [[],[0],[],[],[3],[2,4,3]] (by kernel_rfl)
  | apply Dk.um (id:=18) [Dk.ay.row _ _ 142] 13 [] [[],[],[],[],[],[],[],[15],[],[],[],[7],[]] [[],[0],[],[1,0,2],[3,1,0,2],[],[],[5,6],[],[],[9],[8,10,9,7,5,6],[11,8,10,9,5,6]] (by kernel_rfl)
  | apply Dk.um (id:=21) [Dk.ay.row _ _ 142] 8 [] [[],[],[],[],[],[],[],[10]] [[],[0],[],[],[],[4],[5,4],[3,6,5,4]] (by kernel_rfl)
  | apply Dk.XI (id:=6) 9 (e:=24) (e2:=2) (T:=(aB .i64)) (by kernel_rfl)
  | apply QJ
  | apply AM
  | apply WN
  | exact ()
theorem Oh {x0:aP} {dQ:Addr} {cB:Value} {cG:Value} {bS:Value} {bJ:Value} {cC:Value} {cH:Value} {bT:Value} {bK:Value} {cN:Value} {cP:Value} {cD:Value} {cI:Value} {bU:Value} {bL:Value} {cE:Value} {cJ:Value} {bV:Value} {bN:Value} {cO:Value} {cQ:Value} {dB:Value}:Ct Tryz.prog 105 true (kI x0 (fun a0 a1 a2 a3=>gV a0 a1 a2 a3)) [.pointer (some (dQ)),.func (.func 106) #[] #[]] [.au dQ [.int .i64 (x0.aA.aA.aE),cB,cG,bS,bJ,.int .i64 (x0.aA.aC.aE),cC,cH,bT,bK,cN,cP,.int .i64 (x0.aC.aA.aE),cD,cI,bU,bL,.int .i64 (x0.aC.aC.aE),cE,cJ,bV,bN,cO,cQ,dB],.rd false (aD (aB .i64)) cB x0.aA.aA.aG,.rd false (aD (aB .i64)) cG x0.aA.aA.To,.rd false (aD (aB .i64)) bS x0.aA.aA.aJ,.rd false (aD (aD (aB .i64))) bJ x0.aA.aA.aF,.rd false (aD (aB .i64)) cC x0.aA.aC.aG,.rd false (aD (aB .i64)) cH x0.aA.aC.To,.rd false (aD (aB .i64)) bT x0.aA.aC.aJ,.rd false (aD (aD (aB .i64))) bK x0.aA.aC.aF,.rd false (aD (aB .i64)) cN x0.aA.aE,.rd false (aD (aB .i64)) cP x0.aA.ae,.rd false (aD (aB .i64)) cD x0.aC.aA.aG,.rd false (aD (aB .i64)) cI x0.aC.aA.To,.rd false (aD (aB .i64)) bU x0.aC.aA.aJ,.rd false (aD (aD (aB .i64))) bL x0.aC.aA.aF,.rd false (aD (aB .i64)) cE x0.aC.aC.aG,.rd false (aD (aB .i64)) cJ x0.aC.aC.To,.rd false (aD (aB .i64)) bV x0.aC.aC.aJ,.rd false (aD (aD (aB .i64))) bN x0.aC.aC.aF,.rd false (aD (aB .i64)) cO x0.aC.aE,.rd false (aD (aB .i64)) cQ x0.aC.ae,.rd false (aD (aB .i64)) dB x0.ag] (fun y (_:Unit)=>[.int .i64 y]) (fun y _=>[]):=by
 refine ct (S:=Unit) (ca fun _ _=>rfl) Tryz.func105 rfl rfl ?_
 repeat' first
  | ((first | show Dk.ER _ _ _ | show Dk.bb _ _ | show Dk.EF _ _ _ | show Dk.EO _ _ _ | show Dk.EP _ _ | show Dk.ba _ _ _ _ | show Dk.aw _ _ _ _ | show Dk.Kp _ _ _ _ | show Dk.bp _ _ | show Dk.bc _ _ _ _); repeat' first | exact rfl | (refine @id.{0} _ ?_; constructor))
  | intro _
  | exact rfl
  | (refine @id.{0} _ ?_; constructor)
  | apply Dk.loop 0 (V:=Unit) (fun (s:Int) v=>[]) (fun s v=>[(12,.int .i64 (s))]) () [(0,_),(1,_),(11,_)]
  | apply Dk.quiet (id:=4) (by kernel_rfl)
  | apply WJ
  | exact ()
end Go.Proofs.YtkcpiblgpnjanaaGreat
