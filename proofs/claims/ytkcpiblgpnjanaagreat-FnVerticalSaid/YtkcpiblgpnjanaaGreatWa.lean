/- Walks by the calculus D. No condition beside those that each theorem names. -/
import Derived.Test.YtkcpiblgpnjanaaGreatDi
import Derived.Test.YtkcpiblgpnjanaaGreatMo
import Derived.Test.YtkcpiblgpnjanaaGreatDp
import Derived.Test.YtkcpiblgpnjanaaGreatDs
namespace Go.Proofs.YtkcpiblgpnjanaaGreat
open Go Go.Li Go.Dk
set_option linter.unusedVariables false
set_option maxHeartbeats 16000000
set_option maxRecDepth 100000
theorem c7 {x0:(List Int)} {dI:Value}:Ct Tryz.prog 7 true (rC x0) [dI] [.rd false (aD (aB .u8)) dI x0] (fun y (_:Unit)=>[.bool y]) (fun y _=>[]):=by
 refine ct (S:=Unit) (ca fun _ _=>rfl) Tryz.func7 rfl rfl ?_
 repeat' first
  | ((first | show Dk.ER _ _ _ | show Dk.bb _ _ | show Dk.EF _ _ _ | show Dk.EO _ _ _ | show Dk.EP _ _ | show Dk.ba _ _ _ _ | show Dk.aw _ _ _ _ | show Dk.Kp _ _ _ _ | show Dk.bp _ _ | show Dk.bc _ _ _ _); repeat' first | exact rfl | (refine @id.{0} _ ?_; constructor))
  | intro _
  | exact rfl
  | (refine @id.{0} _ ?_; constructor)
  | exact ()
theorem WD {x0:(List (List Int))} {dI:Value}:Ct Tryz.prog 198 true (fE x0) [dI] [.rd false (aD (aD (aB .i64))) dI x0] (fun y (v:Value×Value×Value×Value)=>[.agg #[.int .i64 y.aE,v.1,v.2.1,v.2.2.1,v.2.2.2]]) (fun y v=>[.own (aK 2 (aB .i64)) v.1 y.aG,.own (aK 2 (aB .i64)) v.2.1 y.To,.own (aK 2 (aB .i64)) v.2.2.1 y.aJ,.own (aK 24 (aK 2 (aB .i64))) v.2.2.2 y.aF]):=by
 refine ct (S:=Unit) (ca fun _ _=>rfl) Tryz.func198 rfl rfl ?_
 repeat' first
  | ((first | show Dk.ER _ _ _ | show Dk.bb _ _ | show Dk.EF _ _ _ | show Dk.EO _ _ _ | show Dk.EP _ _ | show Dk.ba _ _ _ _ | show Dk.aw _ _ _ _ | show Dk.Kp _ _ _ _ | show Dk.bp _ _ | show Dk.bc _ _ _ _); repeat' first | exact rfl | (refine @id.{0} _ ?_; constructor))
  | intro _
  | exact rfl
  | (refine Dk.s9 (t:=31) rfl ?_ ?_)
  | (refine Dk.s9 (t:=93) rfl ?_ ?_)
  | (refine @id.{0} _ ?_; constructor)
  | apply Dk.j4 0 (V:=Value×Value×Value) (A:=Nat×Value×Value) (_,_,_) (fun a (s:(List (List Int))×Int×(List Int)×(List Int)) v=>Dk.pc (fun a0=>Dk.pc (fun a1 a2=>[.row a0 [.int .i64 ((x0.length:Int)),v.2.1,v.2.2,a1,a2] 27,.own (aK 24 (aK 2 (aB .i64))) v.1 s.1,.own (aK 2 (aB .i64)) v.2.1 s.2.2.1,.own (aK 2 (aB .i64)) v.2.2 s.2.2.2])) a) (fun a s v=>Dk.pc (fun a0=>Dk.pc (fun a1 a2=>[(4,v.1),(5,.pointer (some ⟨a0,0,none⟩)),(6,.int .i64 (s.2.1))])) a) (_,_,_) [(0,_),(2,_),(3,_)]
  | apply Dk.j4 2 (V:=Value×Value×Value) (A:=Nat×Value×Value) (_,_,_) (fun a (s:(List Int)×Int×(List Int)×(List Int)) v=>Dk.pc (fun a0=>Dk.pc (fun a1 a2=>[.row a0 [.int .i64 ((x0.length:Int)),v.2.1,v.2.2,a1,a2] 27,.own (aK 2 (aB .i64)) v.1 s.1,.own (aK 2 (aB .i64)) v.2.1 s.2.2.1,.own (aK 2 (aB .i64)) v.2.2 s.2.2.2])) a) (fun a s v=>Dk.pc (fun a0=>Dk.pc (fun a1 a2=>[(5,.pointer (some ⟨a0,0,none⟩)),(7,v.1),(8,.int .i64 (s.2.1))])) a) (_,_,_) [(0,_),(2,_),(3,_),(4,_),(6,_)]
  | apply Dk.j4 4 (V:=Value) (A:=Nat×Value×Value×Value) (_,_,_,_) (fun a (s:Int×(List Int)) v=>Dk.pc (fun a0=>Dk.pc (fun a1=>Dk.pc (fun a2 a3=>[.row a0 [.int .i64 ((x0.length:Int)),a1,a2,v,a3] 27,.own (aK 2 (aB .i64)) v s.2]))) a) (fun a s v=>Dk.pc (fun a0=>Dk.pc (fun a1=>Dk.pc (fun a2 a3=>[(5,.pointer (some ⟨a0,0,none⟩)),(9,.int .i64 (s.1))]))) a) _ [(2,_),(3,_),(4,_)]
  | apply Dk.j4 6 (V:=Value) (A:=Nat×Value×Value×Value) (_,_,_,_) (fun a (s:Int×(List (List Int))) v=>Dk.pc (fun a0=>Dk.pc (fun a1=>Dk.pc (fun a2 a3=>[.row a0 [.int .i64 ((x0.length:Int)),a1,a2,a3,v] 27,.own (aK 24 (aK 2 (aB .i64))) v s.2]))) a) (fun a s v=>Dk.pc (fun a0=>Dk.pc (fun a1=>Dk.pc (fun a2 a3=>[(5,.pointer (some ⟨a0,0,none⟩)),(10,.int .i64 (s.1))]))) a) _ [(2,_),(4,_)]
  | apply Dk.loop 8 (V:=Value) (fun (s:(List Int)×Int) v=>[.own (aK 2 (aB .i64)) v s.1]) (fun s v=>[(11,v),(12,.int .i64 (s.2))]) _ [(2,_),(4,_),(5,_),(10,_)]
  | apply Dk.quiet (id:=28) (by kernel_rfl)
  | apply Dk.quiet (id:=29) (by kernel_rfl)
  | apply Dk.any (id:=19) 10 [] [] [[],[0],[],[],[2,3],[4,2,3],[],[5,4,2,3,6],[7,5,4,2,3,6],[8,7,5,4,2,3,6]] (by kernel_rfl)
  | exact ()
theorem v7 {x0:(List Int)} {dI:Value}:Ct Tryz.prog 113 true (dR x0) [dI] [.rd false (aD (aB .i64)) dI x0] (fun y (v:Value)=>[v]) (fun y v=>[.own (aK 2 (aB .i64)) v y]):=by
 refine ct (S:=Unit) (ca fun _ _=>rfl) Tryz.func113 rfl rfl ?_
 repeat' first
  | ((first | show Dk.ER _ _ _ | show Dk.bb _ _ | show Dk.EF _ _ _ | show Dk.EO _ _ _ | show Dk.EP _ _ | show Dk.ba _ _ _ _ | show Dk.aw _ _ _ _ | show Dk.Kp _ _ _ _ | show Dk.bp _ _ | show Dk.bc _ _ _ _); repeat' first | exact rfl | (refine @id.{0} _ ?_; constructor))
  | intro _
  | exact rfl
  | (refine @id.{0} _ ?_; constructor)
  | exact ()
theorem WE {x0:(List (List Int))} {dI:Value}:Ct Tryz.prog 155 true (lU x0) [dI] [.rd false (aD (aD (aB .i64))) dI x0] (fun y (v:Value)=>[v]) (fun y v=>[.own (aK 24 (aK 2 (aB .i64))) v y]):=by
 refine ct (S:=Unit) (ca fun _ _=>rfl) Tryz.func155 rfl rfl ?_
 repeat' first
  | ((first | show Dk.ER _ _ _ | show Dk.bb _ _ | show Dk.EF _ _ _ | show Dk.EO _ _ _ | show Dk.EP _ _ | show Dk.ba _ _ _ _ | show Dk.aw _ _ _ _ | show Dk.Kp _ _ _ _ | show Dk.bp _ _ | show Dk.bc _ _ _ _); repeat' first | exact rfl | (refine @id.{0} _ ?_; constructor))
  | intro _
  | exact rfl
  | (refine @id.{0} _ ?_; constructor)
  | apply Dk.loop 0 (V:=Value) (fun (s:(List (List Int))×Int) v=>[.own (aK 24 (aK 2 (aB .i64))) v s.1]) (fun s v=>[(3,v),(4,.int .i64 (s.2))]) _ [(0,_)]
  | apply v7
  | exact ()
theorem acF  : Ct Tryz.prog 210 true (mZ) [] [] (fun y (v:Value×Value×Value×Value)=>[.agg #[.int .i64 y.aE,v.1,v.2.1,v.2.2.1,v.2.2.2]]) (fun y v=>[.own (aK 2 (aB .i64)) v.1 y.aG,.own (aK 2 (aB .i64)) v.2.1 y.To,.own (aK 2 (aB .i64)) v.2.2.1 y.aJ,.own (aK 24 (aK 2 (aB .i64))) v.2.2.2 y.aF]):=by
 refine ct (S:=Unit) (ca fun _ _=>rfl) Tryz.func210 rfl rfl ?_
 repeat' first
  | ((first | show Dk.ER _ _ _ | show Dk.bb _ _ | show Dk.EF _ _ _ | show Dk.EO _ _ _ | show Dk.EP _ _ | show Dk.ba _ _ _ _ | show Dk.aw _ _ _ _ | show Dk.Kp _ _ _ _ | show Dk.bp _ _ | show Dk.bc _ _ _ _); repeat' first | exact rfl | (refine @id.{0} _ ?_; constructor))
  | intro _
  | exact rfl
  | apply Dk.yE (d:=1)
  | apply Dk.yE (d:=2)
  | apply Dk.yE (d:=3)
  | apply Dk.yE (d:=4)
  | apply Dk.yE (d:=5)
  | apply Dk.yE (d:=6)
  | apply Dk.yE (d:=7)
  | apply Dk.yE (d:=8)
  | apply Dk.yE (d:=9)
  | (refine @id.{0} _ ?_; constructor)
  | exact ()
theorem acG {x0:aI} {aV:Value} {bG:Value} {aO:Value} {aM:Value}:Ct Tryz.prog 211 true (pZ x0) [.agg #[.int .i64 (x0.aE),aV,bG,aO,aM]] [.rd false (aD (aB .i64)) aV x0.aG,.rd false (aD (aB .i64)) bG x0.To,.rd false (aD (aB .i64)) aO x0.aJ,.rd false (aD (aD (aB .i64))) aM x0.aF] (fun y (v:Value×Value×Value×Value)=>[.agg #[.int .i64 y.aE,v.1,v.2.1,v.2.2.1,v.2.2.2]]) (fun y v=>[.own (aK 2 (aB .i64)) v.1 y.aG,.own (aK 2 (aB .i64)) v.2.1 y.To,.own (aK 2 (aB .i64)) v.2.2.1 y.aJ,.own (aK 24 (aK 2 (aB .i64))) v.2.2.2 y.aF]):=by
 refine ct (S:=Unit) (ca fun _ _=>rfl) Tryz.func211 rfl rfl ?_
 repeat' first
  | ((first | show Dk.ER _ _ _ | show Dk.bb _ _ | show Dk.EF _ _ _ | show Dk.EO _ _ _ | show Dk.EP _ _ | show Dk.ba _ _ _ _ | show Dk.aw _ _ _ _ | show Dk.Kp _ _ _ _ | show Dk.bp _ _ | show Dk.bc _ _ _ _); repeat' first | exact rfl | (refine @id.{0} _ ?_; constructor))
  | intro _
  | exact rfl
  | (refine Dk.s9 (t:=32) rfl ?_ ?_)
  | (refine @id.{0} _ ?_; constructor)
  | apply Dk.j4 0 (V:=Value) (A:=Nat×Value×Value×Value) (_,_,_,_) (fun a (s:Int×(List (List Int))) v=>Dk.pc (fun a0=>Dk.pc (fun a1=>Dk.pc (fun a2 a3=>[.row a0 [.int .i64 (x0.aE),a1,a2,a3,v] 27,.own (aK 24 (aK 2 (aB .i64))) v s.2]))) a) (fun a s v=>Dk.pc (fun a0=>Dk.pc (fun a1=>Dk.pc (fun a2 a3=>[(3,.pointer (some ⟨a0,0,none⟩)),(4,.int .i64 (s.1))]))) a) _ [(1,_),(2,_)]
  | apply Dk.loop 2 (V:=Value) (fun (s:(List Int)×Int) v=>[.own (aK 2 (aB .i64)) v s.1]) (fun s v=>[(5,v),(6,.int .i64 (s.2))]) _ [(1,_),(2,_),(3,_),(4,_)]
  | apply Dk.Z5 (id:=1) [13,0,1,2,3,4,5,6,7,8,9,10,11,12,14] [1,2,3,4,5,6,7,8,9,10,11,12,13,0,14] [] 14 [] [] [[],[],[1],[],[3],[4,3],[],[6],[7,6,5,4,3],[],[9],[10,9,8,7,6,5,4,3],[],[2,1,5,4,3,8,7,6,5,4,3,11,10,9,8,7,6,5,4,3,12]] (by kernel_rfl)
  | apply v7
  | exact ()
theorem QH {x0:aI} {aV:Value} {bG:Value} {aO:Value} {aM:Value} {x1:Int} {x2:Int}:Ct Tryz.prog 136 true (lF x0 x1 x2) [.agg #[.int .i64 (x0.aE),aV,bG,aO,aM],.int .i64 (x1),.int .i64 (x2)] [.rd false (aD (aB .i64)) aV x0.aG,.rd false (aD (aB .i64)) bG x0.To,.rd false (aD (aB .i64)) aO x0.aJ,.rd false (aD (aD (aB .i64))) aM x0.aF] (fun y (v:Value)=>[v]) (fun y v=>[.own (aK 2 (aB .i64)) v y]):=by
 refine ct (S:=Unit) (ca fun _ _=>rfl) Tryz.func136 rfl rfl ?_
 repeat' first
  | ((first | show Dk.ER _ _ _ | show Dk.bb _ _ | show Dk.EF _ _ _ | show Dk.EO _ _ _ | show Dk.EP _ _ | show Dk.ba _ _ _ _ | show Dk.aw _ _ _ _ | show Dk.Kp _ _ _ _ | show Dk.bp _ _ | show Dk.bc _ _ _ _); repeat' first | exact rfl | (refine @id.{0} _ ?_; constructor))
  | intro _
  | exact rfl
  | (refine @id.{0} _ ?_; constructor)
  | apply Dk.loop 0 (V:=Value) (fun (s:(List Int)×Int) v=>[.own (aK 2 (aB .i64)) v s.1]) (fun s v=>[(7,v),(8,.int .i64 (s.2))]) _ [(1,_),(2,_),(3,_)]
  | exact ()
theorem acH {x0:aI} {aV:Value} {bG:Value} {aO:Value} {aM:Value} {x1:aI} {cA:Value} {cR:Value} {bH:Value} {bB:Value} {x2:(List Int)} {dS:Value}:Ct Tryz.prog 174 true (nA x0 x1 x2) [.agg #[.int .i64 (x0.aE),aV,bG,aO,aM],.agg #[.int .i64 (x1.aE),cA,cR,bH,bB],dS] [.rd false (aD (aB .i64)) aV x0.aG,.rd false (aD (aB .i64)) bG x0.To,.rd false (aD (aB .i64)) aO x0.aJ,.rd false (aD (aD (aB .i64))) aM x0.aF,.rd false (aD (aB .i64)) cA x1.aG,.rd false (aD (aB .i64)) cR x1.To,.rd false (aD (aB .i64)) bH x1.aJ,.rd false (aD (aD (aB .i64))) bB x1.aF,.rd false (aD (aB .i64)) dS x2] (fun y (_:Unit)=>[.bool y]) (fun y _=>[]):=by
 refine ct (S:=Unit) (ca fun _ _=>rfl) Tryz.func174 rfl rfl ?_
 repeat' first
  | ((first | show Dk.ER _ _ _ | show Dk.bb _ _ | show Dk.EF _ _ _ | show Dk.EO _ _ _ | show Dk.EP _ _ | show Dk.ba _ _ _ _ | show Dk.aw _ _ _ _ | show Dk.Kp _ _ _ _ | show Dk.bp _ _ | show Dk.bc _ _ _ _); repeat' first | exact rfl | (refine @id.{0} _ ?_; constructor))
  | intro _
  | exact rfl
  | (refine @id.{0} _ ?_; constructor)
  | apply Dk.loop 0 (V:=Unit) (fun (s:Int) v=>[]) (fun s v=>[(7,.int .i64 (s))]) () [(2,_),(3,_),(4,_)]
  | apply Dk.quiet (id:=4) (by kernel_rfl)
  | apply Dk.tail (id:=5) 20 (by kernel_rfl)
  | apply QH
  | exact ()
theorem acI {x0:aI} {aV:Value} {bG:Value} {aO:Value} {aM:Value} {x1:aI} {cA:Value} {cR:Value} {bH:Value} {bB:Value} {x2:(List Int)} {dS:Value}:Ct Tryz.prog 201 true (nB x0 x1 x2) [.agg #[.int .i64 (x0.aE),aV,bG,aO,aM],.agg #[.int .i64 (x1.aE),cA,cR,bH,bB],dS] [.rd false (aD (aB .i64)) aV x0.aG,.rd false (aD (aB .i64)) bG x0.To,.rd false (aD (aB .i64)) aO x0.aJ,.rd false (aD (aD (aB .i64))) aM x0.aF,.rd false (aD (aB .i64)) cA x1.aG,.rd false (aD (aB .i64)) cR x1.To,.rd false (aD (aB .i64)) bH x1.aJ,.rd false (aD (aD (aB .i64))) bB x1.aF,.own (aK 2 (aB .i64)) dS x2] (fun y (_:Unit)=>[.bool y.1]) (fun y _=>[.own (aK 2 (aB .i64)) dS y.2]):=by
 refine ct (S:=Unit) (ca fun _ _=>rfl) Tryz.func201 rfl rfl ?_
 repeat' first
  | ((first | show Dk.ER _ _ _ | show Dk.bb _ _ | show Dk.EF _ _ _ | show Dk.EO _ _ _ | show Dk.EP _ _ | show Dk.ba _ _ _ _ | show Dk.aw _ _ _ _ | show Dk.Kp _ _ _ _ | show Dk.bp _ _ | show Dk.bc _ _ _ _); repeat' first | exact rfl | (refine @id.{0} _ ?_; constructor))
  | intro _
  | exact rfl
  | (refine Dk.s9 (t:=22) rfl ?_ ?_)
  | (refine @id.{0} _ ?_; constructor)
  | apply Dk.loop 0 (V:=Unit) (fun (s:Bool×(List Int)) v=>[.own (aK 2 (aB .i64)) dS s.2]) (fun s v=>[(7,.bool (s.1))]) () [(2,_),(3,_),(4,_)]
  | apply Dk.loop 2 (V:=Unit) (fun (s:Bool×Int×(List Int)) v=>[.own (aK 2 (aB .i64)) dS s.2.2]) (fun s v=>[(7,.bool (s.1)),(8,.int .i64 (s.2.1))]) () [(2,_),(3,_),(4,_)]
  | apply Dk.loop 4 (V:=Unit) (fun (s:Bool×Int×(List Int)) v=>[.own (aK 2 (aB .i64)) dS s.2.2]) (fun s v=>[(7,.bool (s.1)),(9,.int .i64 (s.2.1))]) () [(2,_),(3,_),(4,_),(8,_)]
  | apply Dk.quiet (id:=12) (by kernel_rfl)
  | exact ()
theorem WG {rc:aI→aI→(List Int)→(List Int)→Int→(List (List Int))→Option ((List (List Int)))} (ih:∀ {x0:aI} {aV:Value} {bG:Value} {aO:Value} {aM:Value} {x1:aI} {cA:Value} {cR:Value} {bH:Value} {bB:Value} {x2:(List Int)} {dS:Value} {x3:(List Int)} {gU:Value} {x4:Int} {x5:(List (List Int))} {qF:Value},Ct Tryz.prog 175 true (rc x0 x1 x2 x3 x4 x5) [.agg #[.int .i64 (x0.aE),aV,bG,aO,aM],.agg #[.int .i64 (x1.aE),cA,cR,bH,bB],dS,gU,.int .i64 (x4),qF] [.rd false (aD (aB .i64)) aV x0.aG,.rd false (aD (aB .i64)) bG x0.To,.rd false (aD (aB .i64)) aO x0.aJ,.rd false (aD (aD (aB .i64))) aM x0.aF,.rd false (aD (aB .i64)) cA x1.aG,.rd false (aD (aB .i64)) cR x1.To,.rd false (aD (aB .i64)) bH x1.aJ,.rd false (aD (aD (aB .i64))) bB x1.aF,.rd false (aD (aB .i64)) dS x2,.rd false (aD (aB .i64)) gU x3,.own (aK 24 (aK 2 (aB .i64))) qF x5] (fun y (v:Value)=>[v]) (fun y v=>[.own (aK 24 (aK 2 (aB .i64))) v y])) {x0:aI} {aV:Value} {bG:Value} {aO:Value} {aM:Value} {x1:aI} {cA:Value} {cR:Value} {bH:Value} {bB:Value} {x2:(List Int)} {dS:Value} {x3:(List Int)} {gU:Value} {x4:Int} {x5:(List (List Int))} {qF:Value}:Ct Tryz.prog 175 true (kT rc x0 x1 x2 x3 x4 x5) [.agg #[.int .i64 (x0.aE),aV,bG,aO,aM],.agg #[.int .i64 (x1.aE),cA,cR,bH,bB],dS,gU,.int .i64 (x4),qF] [.rd false (aD (aB .i64)) aV x0.aG,.rd false (aD (aB .i64)) bG x0.To,.rd false (aD (aB .i64)) aO x0.aJ,.rd false (aD (aD (aB .i64))) aM x0.aF,.rd false (aD (aB .i64)) cA x1.aG,.rd false (aD (aB .i64)) cR x1.To,.rd false (aD (aB .i64)) bH x1.aJ,.rd false (aD (aD (aB .i64))) bB x1.aF,.rd false (aD (aB .i64)) dS x2,.rd false (aD (aB .i64)) gU x3,.own (aK 24 (aK 2 (aB .i64))) qF x5] (fun y (v:Value)=>[v]) (fun y v=>[.own (aK 24 (aK 2 (aB .i64))) v y]):=by
 refine ct (S:=Unit) (ca fun _ _=>rfl) Tryz.func175 rfl rfl ?_
 repeat' first
  | ((first | show Dk.ER _ _ _ | show Dk.bb _ _ | show Dk.EF _ _ _ | show Dk.EO _ _ _ | show Dk.EP _ _ | show Dk.ba _ _ _ _ | show Dk.aw _ _ _ _ | show Dk.Kp _ _ _ _ | show Dk.bp _ _ | show Dk.bc _ _ _ _); repeat' first | exact rfl | (refine @id.{0} _ ?_; constructor))
  | intro _
  | exact rfl
  | (refine @id.{0} _ ?_; constructor)
  | apply ih
  | apply Dk.loop 0 (V:=Unit) (fun (s:Int) v=>[]) (fun s v=>[(4,.int .i64 (s))]) () [(2,_),(3,_),(5,_),(6,_),(7,_)]
  | apply Dk.loop 2 (V:=Value) (fun (s:(List (List Int))×Int) v=>[.own (aK 24 (aK 2 (aB .i64))) v s.1]) (fun s v=>[(5,v),(14,.int .i64 (s.2))]) _ [(2,_),(3,_),(4,_),(6,_),(7,_),(13,_)]
  | apply Dk.any (id:=5) 17 [] [] [[],[],[],[2],[],[3,2,4],[5,3,2,4],[1,6,5,3,2,4],[7,1,6,5,3,2,4],[],[],[10],[],[11,10,12],[13,11,10,12],[9,14,13,11,10,12],[15,9,14,13,11,10,12]] (by kernel_rfl)
  | apply v7
  | apply QH
  | apply acI
  | exact ()
theorem WH (n:Nat):∀ {x0:aI} {aV:Value} {bG:Value} {aO:Value} {aM:Value} {x1:aI} {cA:Value} {cR:Value} {bH:Value} {bB:Value} {x2:(List Int)} {dS:Value} {x3:(List Int)} {gU:Value} {x4:Int} {x5:(List (List Int))} {qF:Value},Ct Tryz.prog 175 true (iE n x0 x1 x2 x3 x4 x5) [.agg #[.int .i64 (x0.aE),aV,bG,aO,aM],.agg #[.int .i64 (x1.aE),cA,cR,bH,bB],dS,gU,.int .i64 (x4),qF] [.rd false (aD (aB .i64)) aV x0.aG,.rd false (aD (aB .i64)) bG x0.To,.rd false (aD (aB .i64)) aO x0.aJ,.rd false (aD (aD (aB .i64))) aM x0.aF,.rd false (aD (aB .i64)) cA x1.aG,.rd false (aD (aB .i64)) cR x1.To,.rd false (aD (aB .i64)) bH x1.aJ,.rd false (aD (aD (aB .i64))) bB x1.aF,.rd false (aD (aB .i64)) dS x2,.rd false (aD (aB .i64)) gU x3,.own (aK 24 (aK 2 (aB .i64))) qF x5] (fun y (v:Value)=>[v]) (fun y v=>[.own (aK 24 (aK 2 (aB .i64))) v y]):=by
 induction n with
 | zero=>intros; rw [qa]; exact ⟨(ca fun _ _=>rfl),fun _ _ _ _ _ _ _ y hy=>nomatch (show none=some y from hy)⟩
 | succ n ih=>exact WG ih
theorem acJ {x0:aI} {aV:Value} {bG:Value} {aO:Value} {aM:Value} {x1:aI} {cA:Value} {cR:Value} {bH:Value} {bB:Value} {x2:(List Int)} {dS:Value} {x3:(List Int)} {gU:Value} {x4:Int} {x5:(List (List Int))} {qF:Value}:Ct Tryz.prog 175 true (iE 64 x0 x1 x2 x3 x4 x5) [.agg #[.int .i64 (x0.aE),aV,bG,aO,aM],.agg #[.int .i64 (x1.aE),cA,cR,bH,bB],dS,gU,.int .i64 (x4),qF] [.rd false (aD (aB .i64)) aV x0.aG,.rd false (aD (aB .i64)) bG x0.To,.rd false (aD (aB .i64)) aO x0.aJ,.rd false (aD (aD (aB .i64))) aM x0.aF,.rd false (aD (aB .i64)) cA x1.aG,.rd false (aD (aB .i64)) cR x1.To,.rd false (aD (aB .i64)) bH x1.aJ,.rd false (aD (aD (aB .i64))) bB x1.aF,.rd false (aD (aB .i64)) dS x2,.rd false (aD (aB .i64)) gU x3,.own (aK 24 (aK 2 (aB .i64))) qF x5] (fun y (v:Value)=>[v]) (fun y v=>[.own (aK 24 (aK 2 (aB .i64))) v y]):=by
 exact WH 64
theorem acK {x0:(List Int)} {dI:Value} {x1:Int}:Ct Tryz.prog 199 true (nD x0 x1) [dI,.int .i64 (x1)] [.rd false (aD (aB .i64)) dI x0] (fun y (_:Unit)=>[.int .i64 y]) (fun y _=>[]):=by
 refine ct (S:=Unit) (ca fun _ _=>rfl) Tryz.func199 rfl rfl ?_
 repeat' first
  | ((first | show Dk.ER _ _ _ | show Dk.bb _ _ | show Dk.EF _ _ _ | show Dk.EO _ _ _ | show Dk.EP _ _ | show Dk.ba _ _ _ _ | show Dk.aw _ _ _ _ | show Dk.Kp _ _ _ _ | show Dk.bp _ _ | show Dk.bc _ _ _ _); repeat' first | exact rfl | (refine @id.{0} _ ?_; constructor))
  | intro _
  | exact rfl
  | (refine @id.{0} _ ?_; constructor)
  | apply Dk.loop 0 (V:=Unit) (fun (s:Int) v=>[]) (fun s v=>[(5,.int .i64 (s))]) () [(0,_),(1,_)]
  | exact ()
theorem acL {x0:(List Int)} {dI:Value}:Ct Tryz.prog 166 true (lO x0) [dI] [.rd false (aD (aB .i64)) dI x0] (fun y (v:Value)=>[v]) (fun y v=>[.own (aK 2 (aB .i64)) v y]):=by
 refine ct (S:=Unit) (ca fun _ _=>rfl) Tryz.func166 rfl rfl ?_
 repeat' first
  | ((first | show Dk.ER _ _ _ | show Dk.bb _ _ | show Dk.EF _ _ _ | show Dk.EO _ _ _ | show Dk.EP _ _ | show Dk.ba _ _ _ _ | show Dk.aw _ _ _ _ | show Dk.Kp _ _ _ _ | show Dk.bp _ _ | show Dk.bc _ _ _ _); repeat' first | exact rfl | (refine @id.{0} _ ?_; constructor))
  | intro _
  | exact rfl
  | (refine @id.{0} _ ?_; constructor)
  | apply Dk.loop 0 (V:=Value×Value) (fun (s:(List Int)×(List Int)×Int) v=>[.own (aK 2 (aB .i64)) v.1 s.1,.own (aK 2 (aB .i64)) v.2 s.2.1]) (fun s v=>[(3,v.1),(4,v.2),(5,.int .i64 (s.2.2))]) (_,_) [(0,_)]
  | apply acK
  | exact ()
theorem c63 {x0:aI} {aV:Value} {bG:Value} {aO:Value} {aM:Value} {x1:(List Int)} {eE:Value} {x2:(List Int)} {dS:Value}:Ct Tryz.prog 63 true (oZ x0 x1 x2) [.agg #[.int .i64 (x0.aE),aV,bG,aO,aM],eE,dS] [.rd false (aD (aB .i64)) aV x0.aG,.rd false (aD (aB .i64)) bG x0.To,.rd false (aD (aB .i64)) aO x0.aJ,.rd false (aD (aD (aB .i64))) aM x0.aF,.rd false (aD (aB .i64)) eE x1,.rd false (aD (aB .i64)) dS x2] (fun y (v:Value)=>[v]) (fun y v=>[.own (aK 2 (aB .i64)) v y]):=by
 refine ct (S:=Unit) (ca fun _ _=>rfl) Tryz.func63 rfl rfl ?_
 repeat' first
  | ((first | show Dk.ER _ _ _ | show Dk.bb _ _ | show Dk.EF _ _ _ | show Dk.EO _ _ _ | show Dk.EP _ _ | show Dk.ba _ _ _ _ | show Dk.aw _ _ _ _ | show Dk.Kp _ _ _ _ | show Dk.bp _ _ | show Dk.bc _ _ _ _); repeat' first | exact rfl | (refine @id.{0} _ ?_; constructor))
  | intro _
  | exact rfl
  | (refine @id.{0} _ ?_; constructor)
  | apply Dk.loop 0 (V:=Value) (fun (s:(List Int)×Int) v=>[.own (aK 2 (aB .i64)) v s.1]) (fun s v=>[(7,v),(8,.int .i64 (s.2))]) _ [(1,_),(2,_),(3,_)]
  | apply Dk.any (id:=5) 16 [] [] [[],[],[1],[],[],[3,4],[5,3,4],[2,1,6,5,3,4],[7,2,1,6,5,3,4],[],[],[9,10],[11,9,10],[8,7,2,1,6,5,3,4,12,11,9,10],[13,8,7,2,1,6,5,3,4,12,11,9,10],[14,13,8,7,2,1,6,5,3,4,12,11,9,10]] (by kernel_rfl)
  | exact ()
end Go.Proofs.YtkcpiblgpnjanaaGreat
