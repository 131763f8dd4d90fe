/- Walks by the calculus D. No condition beside those that each theorem names. -/
import Derived.Test.YtkcpiblgpnjanaaGreatDi
import Derived.Test.YtkcpiblgpnjanaaGreatMo
import Derived.Test.YtkcpiblgpnjanaaGreatDp
import Derived.Test.YtkcpiblgpnjanaaGreatDs
namespace Go.Proofs.YtkcpiblgpnjanaaGreat
open Go Go.Li Go.Dk
set_option linter.unusedVariables false
set_option maxHeartbeats 16000000
set_option maxRecDepth 100000
theorem c7 {x0:(List Int)} {dI:Value}:Ct Tryz.prog 7 true (qW x0) [dI] [.rd false (aD (aA .u8)) dI x0] (fun y (_:Unit)=>[.bool y]) (fun y _=>[]):=by
 refine ct (S:=Unit) (cf fun _ _=>rfl) Tryz.func7 rfl rfl ?_
 repeat' first
  | ((first | show Dk.ER _ _ _ | show Dk.bd _ _ | show Dk.EF _ _ _ | show Dk.EO _ _ _ | show Dk.EP _ _ | show Dk.bb _ _ _ _ | show Dk.av _ _ _ _ | show Dk.Kp _ _ _ _ | show Dk.bp _ _ | show Dk.bg _ _ _ _); repeat' first | exact rfl | (refine @id.{0} _ ?_; constructor))
  | intro _
  | exact rfl
  | (refine @id.{0} _ ?_; constructor)
  | exact ()
theorem acN {x0:(List Int)} {dI:Value} {x1:(List Int)} {eC:Value}:Ct Tryz.prog 218 true (mE x0 x1) [dI,eC] [.rd false (aD (aA .i64)) dI x0,.rd false (aD (aA .i64)) eC x1] (fun y (_:Unit)=>[.bool y]) (fun y _=>[]):=by
 refine ct (S:=Unit) (cf fun _ _=>rfl) Tryz.func218 rfl rfl ?_
 repeat' first
  | ((first | show Dk.ER _ _ _ | show Dk.bd _ _ | show Dk.EF _ _ _ | show Dk.EO _ _ _ | show Dk.EP _ _ | show Dk.bb _ _ _ _ | show Dk.av _ _ _ _ | show Dk.Kp _ _ _ _ | show Dk.bp _ _ | show Dk.bg _ _ _ _); repeat' first | exact rfl | (refine @id.{0} _ ?_; constructor))
  | intro _
  | exact rfl
  | (refine @id.{0} _ ?_; constructor)
  | apply Dk.loop 0 (V:=Unit) (fun (s:Int) v=>[]) (fun s v=>[(5,.int .i64 (s))]) () [(0,_),(1,_)]
  | apply Dk.quiet (id:=4) (by kernel_rfl)
  | apply Dk.quiet (id:=5) (by kernel_rfl)
  | exact ()
theorem acO {x0:bS} {rD:Value} {x1:bS} {rE:Value}:Ct Tryz.prog 217 true (jO x0 x1) [.agg #[.int .i64 (x0.aG),.int .i64 (x0.To),rD],.agg #[.int .i64 (x1.aG),.int .i64 (x1.To),rE]] [.rd false (aD (aA .i64)) rD x0.l3,.rd false (aD (aA .i64)) rE x1.l3] (fun y (_:Unit)=>[.bool y]) (fun y _=>[]):=by
 refine ct (S:=Unit) (cf fun _ _=>rfl) Tryz.func217 rfl rfl ?_
 repeat' first
  | ((first | show Dk.ER _ _ _ | show Dk.bd _ _ | show Dk.EF _ _ _ | show Dk.EO _ _ _ | show Dk.EP _ _ | show Dk.bb _ _ _ _ | show Dk.av _ _ _ _ | show Dk.Kp _ _ _ _ | show Dk.bp _ _ | show Dk.bg _ _ _ _); repeat' first | exact rfl | (refine @id.{0} _ ?_; constructor))
  | intro _
  | exact rfl
  | (refine @id.{0} _ ?_; constructor)
  | apply acN
  | exact ()
theorem acP  : Ct Tryz.prog 210 true (nJ) [] [] (fun y (v:Value×Value×Value×Value)=>[.agg #[.int .i64 y.aC,v.1,v.2.1,v.2.2.1,v.2.2.2]]) (fun y v=>[.own (aK 2 (aA .i64)) v.1 y.aG,.own (aK 2 (aA .i64)) v.2.1 y.To,.own (aK 2 (aA .i64)) v.2.2.1 y.aJ,.own (aK 24 (aK 2 (aA .i64))) v.2.2.2 y.aF]):=by
 refine ct (S:=Unit) (cf fun _ _=>rfl) Tryz.func210 rfl rfl ?_
 repeat' first
  | ((first | show Dk.ER _ _ _ | show Dk.bd _ _ | show Dk.EF _ _ _ | show Dk.EO _ _ _ | show Dk.EP _ _ | show Dk.bb _ _ _ _ | show Dk.av _ _ _ _ | show Dk.Kp _ _ _ _ | show Dk.bp _ _ | show Dk.bg _ _ _ _); repeat' first | exact rfl | (refine @id.{0} _ ?_; constructor))
  | intro _
  | exact rfl
  | apply Dk.yt (d:=1)
  | apply Dk.yt (d:=2)
  | apply Dk.yt (d:=3)
  | apply Dk.yt (d:=4)
  | apply Dk.yt (d:=5)
  | apply Dk.yt (d:=6)
  | apply Dk.yt (d:=7)
  | apply Dk.yt (d:=8)
  | apply Dk.yt (d:=9)
  | (refine @id.{0} _ ?_; constructor)
  | exact ()
theorem acQ {x0:aI} {aU:Value} {bC:Value} {aO:Value} {aM:Value}:Ct Tryz.prog 178 true (nM x0) [.agg #[.int .i64 (x0.aC),aU,bC,aO,aM]] [.rd false (aD (aA .i64)) aU x0.aG,.rd false (aD (aA .i64)) bC x0.To,.rd false (aD (aA .i64)) aO x0.aJ,.rd false (aD (aD (aA .i64))) aM x0.aF] (fun y (_:Unit)=>[.int .i64 y.1,.int .i64 y.2.1,.int .i64 y.2.2.1,.int .i64 y.2.2.2]) (fun y _=>[]):=by
 refine ct (S:=Unit) (cf fun _ _=>rfl) Tryz.func178 rfl rfl ?_
 repeat' first
  | ((first | show Dk.ER _ _ _ | show Dk.bd _ _ | show Dk.EF _ _ _ | show Dk.EO _ _ _ | show Dk.EP _ _ | show Dk.bb _ _ _ _ | show Dk.av _ _ _ _ | show Dk.Kp _ _ _ _ | show Dk.bp _ _ | show Dk.bg _ _ _ _); repeat' first | exact rfl | (refine @id.{0} _ ?_; constructor))
  | intro _
  | exact rfl
  | (refine Dk.tA (t:=65) rfl ?_ ?_)
  | (refine Dk.tA (t:=81) rfl ?_ ?_)
  | (refine @id.{0} _ ?_; constructor)
  | apply Dk.loop 0 (V:=Unit) (fun (s:Int) v=>[]) (fun s v=>[(7,.int .i64 (s))]) () [(1,_),(6,_)]
  | apply Dk.loop 2 (V:=Unit) (fun (s:Int) v=>[]) (fun s v=>[(8,.int .i64 (s))]) () [(1,_),(6,_)]
  | apply Dk.loop 4 (V:=Unit) (fun (s:Int) v=>[]) (fun s v=>[(9,.int .i64 (s))]) () [(1,_),(6,_),(8,_)]
  | apply Dk.loop 6 (V:=Unit) (fun (s:Int) v=>[]) (fun s v=>[(10,.int .i64 (s))]) () [(1,_),(6,_),(8,_),(9,_)]
  | apply Dk.quiet (id:=5) (by kernel_rfl)
  | apply Dk.quiet (id:=13) (by kernel_rfl)
  | apply Dk.quiet (id:=17) (by kernel_rfl)
  | exact ()
theorem Ll {x0:aI} {dK:Addr} {aU:Value} {bC:Value} {aO:Value} {aM:Value}:Ct Tryz.prog 146 true (dY x0) [.pointer (some (dK))] [.ak dK [.int .i64 (x0.aC),aU,bC,aO,aM],.rd false (aD (aA .i64)) aU x0.aG,.rd false (aD (aA .i64)) bC x0.To,.rd false (aD (aA .i64)) aO x0.aJ,.rd false (aD (aD (aA .i64))) aM x0.aF] (fun y (_:Unit)=>[.int .i64 y]) (fun y _=>[]):=by
 refine ct (S:=Unit) (cf fun _ _=>rfl) Tryz.func146 rfl rfl ?_
 repeat' first
  | ((first | show Dk.ER _ _ _ | show Dk.bd _ _ | show Dk.EF _ _ _ | show Dk.EO _ _ _ | show Dk.EP _ _ | show Dk.bb _ _ _ _ | show Dk.av _ _ _ _ | show Dk.Kp _ _ _ _ | show Dk.bp _ _ | show Dk.bg _ _ _ _); repeat' first | exact rfl | (refine @id.{0} _ ?_; constructor))
  | intro _
  | exact rfl
  | (refine @id.{0} _ ?_; constructor)
  | exact ()
theorem Ic {x0:aI} {dK:Addr} {aU:Value} {bC:Value} {aO:Value} {aM:Value} {x1:Int} {x2:Int}:Ct Tryz.prog 108 true (dJ x0 x1 x2) [.pointer (some (dK)),.int .i64 (x1),.int .i64 (x2)] [.ak dK [.int .i64 (x0.aC),aU,bC,aO,aM],.rd false (aD (aA .i64)) aU x0.aG,.rd false (aD (aA .i64)) bC x0.To,.rd false (aD (aA .i64)) aO x0.aJ,.rd false (aD (aD (aA .i64))) aM x0.aF] (fun y (_:Unit)=>[.int .i64 y]) (fun y _=>[]):=by
 refine ct (S:=Unit) (cf fun _ _=>rfl) Tryz.func108 rfl rfl ?_
 repeat' first
  | ((first | show Dk.ER _ _ _ | show Dk.bd _ _ | show Dk.EF _ _ _ | show Dk.EO _ _ _ | show Dk.EP _ _ | show Dk.bb _ _ _ _ | show Dk.av _ _ _ _ | show Dk.Kp _ _ _ _ | show Dk.bp _ _ | show Dk.bg _ _ _ _); repeat' first | exact rfl | (refine @id.{0} _ ?_; constructor))
  | intro _
  | exact rfl
  | (refine @id.{0} _ ?_; constructor)
  | exact ()
theorem acR {x0:aI} {dK:Addr} {aU:Value} {bC:Value} {aO:Value} {aM:Value}:Ct Tryz.prog 186 true (kD x0) [.pointer (some (dK))] [.ak dK [.int .i64 (x0.aC),aU,bC,aO,aM],.rd false (aD (aA .i64)) aU x0.aG,.rd false (aD (aA .i64)) bC x0.To,.rd false (aD (aA .i64)) aO x0.aJ,.rd false (aD (aD (aA .i64))) aM x0.aF] (fun y (_:Unit)=>[.int .i64 y.1,.int .i64 y.2.1,.int .i64 y.2.2.1,.int .i64 y.2.2.2]) (fun y _=>[]):=by
 refine ct (S:=Unit) (cf fun _ _=>rfl) Tryz.func186 rfl rfl ?_
 repeat' first
  | ((first | show Dk.ER _ _ _ | show Dk.bd _ _ | show Dk.EF _ _ _ | show Dk.EO _ _ _ | show Dk.EP _ _ | show Dk.bb _ _ _ _ | show Dk.av _ _ _ _ | show Dk.Kp _ _ _ _ | show Dk.bp _ _ | show Dk.bg _ _ _ _); repeat' first | exact rfl | (refine @id.{0} _ ?_; constructor))
  | intro _
  | exact rfl
  | (refine Dk.tA (t:=64) rfl ?_ ?_)
  | (refine Dk.tA (t:=74) rfl ?_ ?_)
  | (refine @id.{0} _ ?_; constructor)
  | apply Dk.loop 0 (V:=Unit) (fun (s:Int) v=>[]) (fun s v=>[(7,.int .i64 (s))]) () [(0,_),(6,_)]
  | apply Dk.loop 2 (V:=Unit) (fun (s:Int) v=>[]) (fun s v=>[(8,.int .i64 (s))]) () [(0,_),(6,_)]
  | apply Dk.loop 4 (V:=Unit) (fun (s:Int) v=>[]) (fun s v=>[(9,.int .i64 (s))]) () [(0,_),(6,_),(8,_)]
  | apply Dk.loop 6 (V:=Unit) (fun (s:Int) v=>[]) (fun s v=>[(10,.int .i64 (s))]) () [(0,_),(6,_),(8,_),(9,_)]
  | apply Dk.quiet (id:=5) (by kernel_rfl)
  | apply Ll
  | apply Ic
  | exact ()
theorem Qn {x0:aI} {dK:Addr} {aU:Value} {bC:Value} {aO:Value} {aM:Value} {x1:Int} {x2:Int}:Ct Tryz.prog 107 true (jJ x0 x1 x2) [.pointer (some (dK)),.int .i64 (x1),.int .i64 (x2)] [.ak dK [.int .i64 (x0.aC),aU,bC,aO,aM],.rd false (aD (aA .i64)) aU x0.aG,.rd false (aD (aA .i64)) bC x0.To,.rd false (aD (aA .i64)) aO x0.aJ,.rd false (aD (aD (aA .i64))) aM x0.aF] (fun y (v:Value)=>[v]) (fun y v=>[.own (aK 2 (aA .i64)) v y]):=by
 refine ct (S:=Unit) (cf fun _ _=>rfl) Tryz.func107 rfl rfl ?_
 repeat' first
  | ((first | show Dk.ER _ _ _ | show Dk.bd _ _ | show Dk.EF _ _ _ | show Dk.EO _ _ _ | show Dk.EP _ _ | show Dk.bb _ _ _ _ | show Dk.av _ _ _ _ | show Dk.Kp _ _ _ _ | show Dk.bp _ _ | show Dk.bg _ _ _ _); repeat' first | exact rfl | (refine @id.{0} _ ?_; constructor))
  | intro _
  | exact rfl
  | (refine @id.{0} _ ?_; constructor)
  | apply Dk.loop 0 (V:=Value) (fun (s:(List Int)×Int) v=>[.own (aK 2 (aA .i64)) v s.1]) (fun s v=>[(7,v),(15,.int .i64 (s.2))]) _ [(0,_),(1,_),(2,_),(14,_)]
  | exact ()
theorem WS {x0:aI} {dK:Addr} {aU:Value} {bC:Value} {aO:Value} {aM:Value} {x1:Int}:Ct Tryz.prog 47 true (eH x0 x1) [.pointer (some (dK)),.int .i64 (x1)] [.ak dK [.int .i64 (x0.aC),aU,bC,aO,aM],.rd false (aD (aA .i64)) aU x0.aG,.rd false (aD (aA .i64)) bC x0.To,.rd false (aD (aA .i64)) aO x0.aJ,.rd false (aD (aD (aA .i64))) aM x0.aF] (fun y (_:Unit)=>[.int .i64 y]) (fun y _=>[]):=by
 refine ct (S:=Unit) (cf fun _ _=>rfl) Tryz.func47 rfl rfl ?_
 repeat' first
  | ((first | show Dk.ER _ _ _ | show Dk.bd _ _ | show Dk.EF _ _ _ | show Dk.EO _ _ _ | show Dk.EP _ _ | show Dk.bb _ _ _ _ | show Dk.av _ _ _ _ | show Dk.Kp _ _ _ _ | show Dk.bp _ _ | show Dk.bg _ _ _ _); repeat' first | exact rfl | (refine @id.{0} _ ?_; constructor))
  | intro _
  | exact rfl
  | (refine @id.{0} _ ?_; constructor)
  | apply Dk.loop 0 (V:=Unit) (fun (s:Int) v=>[]) (fun s v=>[(28,.int .i64 (s))]) () [(0,_),(1,_),(5,_),(6,_),(26,_),(27,_)]
  | apply Dk.quiet (id:=1) (by kernel_rfl)
  | apply Dk.quiet (id:=5) (by kernel_rfl)
  | apply Qn
  | apply Ic
  | exact ()
theorem Qo {x0:aL} {dK:Addr} {bA:Value} {bG:Value} {aS:Value} {aP:Value} {bB:Value} {bH:Value} {aT:Value} {aQ:Value} {bI:Value} {bR:Value} {x1:aL} {jB:Addr} {bJ:Value} {bX:Value} {bD:Value} {aY:Value} {bK:Value} {bY:Value} {bE:Value} {aZ:Value} {cF:Value} {cL:Value} {x2:(List Int)} {eB:Value} {x3:Int}:Ct Tryz.prog 106 true (iB x0 x1 x2 x3) [.pointer (some (dK)),.pointer (some (jB)),eB,.int .i64 (x3)] [.ak jB [.int .i64 (x1.aB.aC),bJ,bX,bD,aY,.int .i64 (x1.aE.aC),bK,bY,bE,aZ,cF,cL],.ak dK [.int .i64 (x0.aB.aC),bA,bG,aS,aP,.int .i64 (x0.aE.aC),bB,bH,aT,aQ,bI,bR],.rd false (aD (aA .i64)) bA x0.aB.aG,.rd false (aD (aA .i64)) bG x0.aB.To,.rd false (aD (aA .i64)) aS x0.aB.aJ,.rd false (aD (aD (aA .i64))) aP x0.aB.aF,.rd false (aD (aA .i64)) bB x0.aE.aG,.rd false (aD (aA .i64)) bH x0.aE.To,.rd false (aD (aA .i64)) aT x0.aE.aJ,.rd false (aD (aD (aA .i64))) aQ x0.aE.aF,.rd false (aD (aA .i64)) bI x0.aC,.rd false (aD (aA .i64)) bR x0.af,.rd false (aD (aA .i64)) bJ x1.aB.aG,.rd false (aD (aA .i64)) bX x1.aB.To,.rd false (aD (aA .i64)) bD x1.aB.aJ,.rd false (aD (aD (aA .i64))) aY x1.aB.aF,.rd false (aD (aA .i64)) bK x1.aE.aG,.rd false (aD (aA .i64)) bY x1.aE.To,.rd false (aD (aA .i64)) bE x1.aE.aJ,.rd false (aD (aD (aA .i64))) aZ x1.aE.aF,.rd false (aD (aA .i64)) cF x1.aC,.rd false (aD (aA .i64)) cL x1.af,.rd false (aD (aA .i64)) eB x2] (fun y (_:Unit)=>[.bool y]) (fun y _=>[]):=by
 refine ct (S:=Unit) (cf fun _ _=>rfl) Tryz.func106 rfl rfl ?_
 repeat' first
  | ((first | show Dk.ER _ _ _ | show Dk.bd _ _ | show Dk.EF _ _ _ | show Dk.EO _ _ _ | show Dk.EP _ _ | show Dk.bb _ _ _ _ | show Dk.av _ _ _ _ | show Dk.Kp _ _ _ _ | show Dk.bp _ _ | show Dk.bg _ _ _ _); repeat' first | exact rfl | (refine @id.{0} _ ?_; constructor))
  | intro _
  | exact rfl
  | (refine @id.{0} _ ?_; constructor)
  | apply Dk.quiet (id:=1) (by kernel_rfl)
  | apply Dk.quiet (id:=2) (by kernel_rfl)
  | apply Ic
  | exact ()
theorem acS {x0:(List Int)} {dI:Value} {x1:Int}:Ct Tryz.prog 199 true (nN x0 x1) [dI,.int .i64 (x1)] [.rd false (aD (aA .i64)) dI x0] (fun y (_:Unit)=>[.int .i64 y]) (fun y _=>[]):=by
 refine ct (S:=Unit) (cf fun _ _=>rfl) Tryz.func199 rfl rfl ?_
 repeat' first
  | ((first | show Dk.ER _ _ _ | show Dk.bd _ _ | show Dk.EF _ _ _ | show Dk.EO _ _ _ | show Dk.EP _ _ | show Dk.bb _ _ _ _ | show Dk.av _ _ _ _ | show Dk.Kp _ _ _ _ | show Dk.bp _ _ | show Dk.bg _ _ _ _); repeat' first | exact rfl | (refine @id.{0} _ ?_; constructor))
  | intro _
  | exact rfl
  | (refine @id.{0} _ ?_; constructor)
  | apply Dk.loop 0 (V:=Unit) (fun (s:Int) v=>[]) (fun s v=>[(5,.int .i64 (s))]) () [(0,_),(1,_)]
  | exact ()
theorem acT {x0:(List Int)} {dI:Value}:Ct Tryz.prog 166 true (lY x0) [dI] [.rd false (aD (aA .i64)) dI x0] (fun y (v:Value)=>[v]) (fun y v=>[.own (aK 2 (aA .i64)) v y]):=by
 refine ct (S:=Unit) (cf fun _ _=>rfl) Tryz.func166 rfl rfl ?_
 repeat' first
  | ((first | show Dk.ER _ _ _ | show Dk.bd _ _ | show Dk.EF _ _ _ | show Dk.EO _ _ _ | show Dk.EP _ _ | show Dk.bb _ _ _ _ | show Dk.av _ _ _ _ | show Dk.Kp _ _ _ _ | show Dk.bp _ _ | show Dk.bg _ _ _ _); repeat' first | exact rfl | (refine @id.{0} _ ?_; constructor))
  | intro _
  | exact rfl
  | (refine @id.{0} _ ?_; constructor)
  | apply Dk.loop 0 (V:=Value×Value) (fun (s:(List Int)×(List Int)×Int) v=>[.own (aK 2 (aA .i64)) v.1 s.1,.own (aK 2 (aA .i64)) v.2 s.2.1]) (fun s v=>[(3,v.1),(4,v.2),(5,.int .i64 (s.2.2))]) (_,_) [(0,_)]
  | apply acS
  | exact ()
theorem c51 {x0:aI} {dK:Addr} {aU:Value} {bC:Value} {aO:Value} {aM:Value} {x1:(List Int)} {eC:Value} {x2:(List Int)} {eB:Value}:Ct Tryz.prog 51 true (iW x0 x1 x2) [.pointer (some (dK)),eC,eB] [.ak dK [.int .i64 (x0.aC),aU,bC,aO,aM],.rd false (aD (aA .i64)) aU x0.aG,.rd false (aD (aA .i64)) bC x0.To,.rd false (aD (aA .i64)) aO x0.aJ,.rd false (aD (aD (aA .i64))) aM x0.aF,.rd false (aD (aA .i64)) eC x1,.rd false (aD (aA .i64)) eB x2] (fun y (v:Value)=>[v]) (fun y v=>[.own (aK 2 (aA .i64)) v y]):=by
 refine ct (S:=Unit) (cf fun _ _=>rfl) Tryz.func51 rfl rfl ?_
 repeat' first
  | ((first | show Dk.ER _ _ _ | show Dk.bd _ _ | show Dk.EF _ _ _ | show Dk.EO _ _ _ | show Dk.EP _ _ | show Dk.bb _ _ _ _ | show Dk.av _ _ _ _ | show Dk.Kp _ _ _ _ | show Dk.bp _ _ | show Dk.bg _ _ _ _); repeat' first | exact rfl | (refine @id.{0} _ ?_; constructor))
  | intro _
  | exact rfl
  | (refine @id.{0} _ ?_; constructor)
  | apply Dk.jq 0 (V:=Unit) (A:=Value) _ (fun a (s:Int×(List Int)) v=>[.own (aK 2 (aA .i64)) a s.2]) (fun a s v=>[(7,a),(14,.int .i64 (s.1))]) () [(0,_),(1,_),(2,_),(13,_)]
  | apply Dk.any (id:=5) 11 [0,1] [] [[],[],[],[],[],[3,4],[5,3,4],[],[],[7,8],[9,7,8]] (by kernel_rfl)
  | apply Ic
  | exact ()
end Go.Proofs.YtkcpiblgpnjanaaGreat
