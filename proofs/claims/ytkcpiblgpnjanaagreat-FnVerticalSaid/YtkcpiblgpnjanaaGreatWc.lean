/- Walks by the calculus D. No condition beside those that each theorem names. -/
import Derived.Test.YtkcpiblgpnjanaaGreatDi
import Derived.Test.YtkcpiblgpnjanaaGreatMo
import Derived.Test.YtkcpiblgpnjanaaGreatDp
import Derived.Test.YtkcpiblgpnjanaaGreatDs
namespace Go.Proofs.YtkcpiblgpnjanaaGreat
open Go Go.Li Go.Dk
set_option linter.unusedVariables false
set_option maxHeartbeats 16000000
set_option maxRecDepth 100000
theorem AM {x0:aL} {dV:Nat} {cW:Value} {x1:Int}:Ct Tryz.prog 56 true (bZ x0 x1) [.pointer (some (⟨dV,0,none⟩)),.int .i64 (x1)] [.row dV [cW,.int .i64 (x0.At),.int .u64 (x0.av)] 142,.rd false (aD (aB .u8)) cW x0.Code] (fun y (_:Unit)=>[.int .i64 y.1]) (fun y _=>[.row dV [cW,.int .i64 y.2.At,.int .u64 y.2.av] 142]):=by
 refine ct (S:=Unit) (ca fun _ _=>rfl) Tryz.func56 rfl rfl ?_
 repeat' first
  | ((first | show Dk.ER _ _ _ | show Dk.bb _ _ | show Dk.EF _ _ _ | show Dk.EO _ _ _ | show Dk.EP _ _ | show Dk.ba _ _ _ _ | show Dk.aw _ _ _ _ | show Dk.Kp _ _ _ _ | show Dk.bp _ _ | show Dk.bc _ _ _ _); repeat' first | exact rfl | (refine @id.{0} _ ?_; constructor))
  | intro _
  | exact rfl
  | apply Dk.D.s6 (d:=13)
  | apply Dk.AD.s6 (d:=13)
  | apply Dk.D.s6 (d:=14)
  | apply Dk.AD.s6 (d:=14)
  | apply Dk.D.s6 (d:=21)
  | apply Dk.AD.s6 (d:=21)
  | apply Dk.D.s6 (d:=22)
  | apply Dk.AD.s6 (d:=22)
  | apply Dk.D.s6 (d:=57)
  | apply Dk.AD.s6 (d:=57)
  | (refine @id.{0} _ ?_; constructor)
  | apply Dk.quiet (id:=5) (by kernel_rfl)
  | apply Dk.quiet (id:=6) (by kernel_rfl)
  | exact ()
theorem acS {x0:aL} {dV:Nat} {cW:Value} {x1:Int}:Ct Tryz.prog 206 true (jE x0 x1) [.pointer (some (⟨dV,0,none⟩)),.int .i64 (x1)] [.row dV [cW,.int .i64 (x0.At),.int .u64 (x0.av)] 142,.rd false (aD (aB .u8)) cW x0.Code] (fun y (v:Value)=>[v]) (fun y v=>[.own (aK 24 (aK 2 (aB .i64))) v y.1,.row dV [cW,.int .i64 y.2.At,.int .u64 y.2.av] 142]):=by
 refine ct (S:=Unit) (ca fun _ _=>rfl) Tryz.func206 rfl rfl ?_
 repeat' first
  | ((first | show Dk.ER _ _ _ | show Dk.bb _ _ | show Dk.EF _ _ _ | show Dk.EO _ _ _ | show Dk.EP _ _ | show Dk.ba _ _ _ _ | show Dk.aw _ _ _ _ | show Dk.Kp _ _ _ _ | show Dk.bp _ _ | show Dk.bc _ _ _ _); repeat' first | exact rfl | (refine @id.{0} _ ?_; constructor))
  | intro _
  | exact rfl
  | (apply Dk.MR (t:=45); exact rfl)
  | (refine Dk.s9 (t:=62) rfl ?_ ?_)
  | (refine Dk.s9 (t:=67) rfl ?_ ?_)
  | (refine @id.{0} _ ?_; constructor)
  | apply Dk.loop 0 (V:=Value) (fun (s:(List (List Int))×Int×Int×Int) v=>[.row dV [cW,.int .i64 (s.2.2.1),.int .u64 (s.2.2.2)] 142,.own (aK 24 (aK 2 (aB .i64))) v s.1]) (fun s v=>[(5,v),(6,.int .i64 (s.2.1))]) _ [(0,_),(1,_)]
  | apply Dk.j4 2 (V:=Unit) (A:=Value) _ (fun a (s:Int×Int×Int×(List Int)) v=>[.row dV [cW,.int .i64 (s.2.1),.int .u64 (s.2.2.1)] 142,.own (aK 2 (aB .i64)) a s.2.2.2]) (fun a s v=>[(7,a),(8,.int .i64 (s.1))]) () [(0,_),(1,_),(5,_),(6,_)]
  | apply Dk.j4 4 (V:=Unit) (A:=Value) _ (fun a (s:Int×(List (List Int))) v=>[.own (aK 24 (aK 2 (aB .i64))) a s.2]) (fun a s v=>[(5,a),(9,.int .i64 (s.1))]) () [(1,_)]
  | apply Dk.j4 6 (V:=Unit) (A:=Value) _ (fun a (s:Int×(List (List Int))) v=>[.own (aK 24 (aK 2 (aB .i64))) a s.2]) (fun a s v=>[(5,a),(10,.int .i64 (s.1))]) () [(1,_),(9,_)]
  | apply Dk.j4 8 (V:=Unit) (A:=Value) _ (fun a (s:Int×(List (List Int))) v=>[.own (aK 24 (aK 2 (aB .i64))) a s.2]) (fun a s v=>[(5,a),(11,.int .i64 (s.1))]) () [(1,_),(9,_),(10,_)]
  | apply Dk.um (id:=13) [Dk.ay.row _ _ 142] 8 [] [[],[],[],[],[],[],[],[10]] [[],[],[1],[0,2,1],[3,0,2,1],[],[],[5,6]] (by kernel_rfl)
  | apply AM
  | exact ()
theorem WM {x0:aI} {aV:Value} {bG:Value} {aO:Value} {aM:Value}:Ct Tryz.prog 197 true (fF x0) [.agg #[.int .i64 (x0.aE),aV,bG,aO,aM]] [.rd false (aD (aB .i64)) aV x0.aG,.rd false (aD (aB .i64)) bG x0.To,.rd false (aD (aB .i64)) aO x0.aJ,.rd false (aD (aD (aB .i64))) aM x0.aF] (fun y (_:Unit)=>[.bool y]) (fun y _=>[]):=by
 refine ct (S:=Unit) (ca fun _ _=>rfl) Tryz.func197 rfl rfl ?_
 repeat' first
  | ((first | show Dk.ER _ _ _ | show Dk.bb _ _ | show Dk.EF _ _ _ | show Dk.EO _ _ _ | show Dk.EP _ _ | show Dk.ba _ _ _ _ | show Dk.aw _ _ _ _ | show Dk.Kp _ _ _ _ | show Dk.bp _ _ | show Dk.bc _ _ _ _); repeat' first | exact rfl | (refine @id.{0} _ ?_; constructor))
  | intro _
  | exact rfl
  | (refine @id.{0} _ ?_; constructor)
  | exact ()
theorem LC {x0:(List Int)} {dI:Value} {x1:(List Int)} {eE:Value}:Ct Tryz.prog 122 true (fG x0 x1) [dI,eE] [.rd false (aD (aB .i64)) dI x0,.rd false (aD (aB .i64)) eE x1] (fun y (_:Unit)=>[.bool y]) (fun y _=>[]):=by
 refine ct (S:=Unit) (ca fun _ _=>rfl) Tryz.func122 rfl rfl ?_
 repeat' first
  | ((first | show Dk.ER _ _ _ | show Dk.bb _ _ | show Dk.EF _ _ _ | show Dk.EO _ _ _ | show Dk.EP _ _ | show Dk.ba _ _ _ _ | show Dk.aw _ _ _ _ | show Dk.Kp _ _ _ _ | show Dk.bp _ _ | show Dk.bc _ _ _ _); repeat' first | exact rfl | (refine @id.{0} _ ?_; constructor))
  | intro _
  | exact rfl
  | (refine @id.{0} _ ?_; constructor)
  | apply Dk.loop 0 (V:=Unit) (fun (s:Int) v=>[]) (fun s v=>[(5,.int .i64 (s))]) () [(0,_),(1,_)]
  | apply Dk.quiet (id:=6) (by kernel_rfl)
  | exact ()
theorem acT {x0:aL} {dV:Nat} {cW:Value}:Ct Tryz.prog 209 true (jC x0) [.pointer (some (⟨dV,0,none⟩))] [.row dV [cW,.int .i64 (x0.At),.int .u64 (x0.av)] 142,.rd false (aD (aB .u8)) cW x0.Code] (fun y (v:Value)=>[v]) (fun y v=>[.own (aK 24 (aK 2 (aB .i64))) v y.1,.row dV [cW,.int .i64 y.2.At,.int .u64 y.2.av] 142]):=by
 refine ct (S:=Unit) (ca fun _ _=>rfl) Tryz.func209 rfl rfl ?_
 repeat' first
  | ((first | show Dk.ER _ _ _ | show Dk.bb _ _ | show Dk.EF _ _ _ | show Dk.EO _ _ _ | show Dk.EP _ _ | show Dk.ba _ _ _ _ | show Dk.aw _ _ _ _ | show Dk.Kp _ _ _ _ | show Dk.bp _ _ | show Dk.bc _ _ _ _); repeat' first | exact rfl | (refine @id.{0} _ ?_; constructor))
  | intro _
  | exact rfl
  | apply Dk.D.Dj (d:=2) (x:=.tmp 8)
  | apply Dk.D.Dj (d:=2) (x:=.tmp 13)
  | apply Dk.D.Dj (d:=2) (x:=.tmp 18)
  | apply Dk.D.Dj (d:=2) (x:=.tmp 24)
  | apply Dk.D.Dj (d:=2) (x:=.tmp 30)
  | apply Dk.D.Dj (d:=2) (x:=.tmp 36)
  | apply Dk.D.Dj (d:=2) (x:=.tmp 43)
  | apply Dk.D.Dj (d:=2) (x:=.tmp 47)
  | (refine @id.{0} _ ?_; constructor)
  | apply AM
  | exact ()
theorem WN {x0:aL} {dV:Nat} {cW:Value} {x1:(List Int)} {eE:Value}:Ct Tryz.prog 170 true (lW x0 x1) [.pointer (some (⟨dV,0,none⟩)),eE] [.row dV [cW,.int .i64 (x0.At),.int .u64 (x0.av)] 142,.rd false (aD (aB .u8)) cW x0.Code,.rd false (aD (aB .i64)) eE x1] (fun y (_:Unit)=>[.int .i64 y.1]) (fun y _=>[.row dV [cW,.int .i64 y.2.At,.int .u64 y.2.av] 142]):=by
 refine ct (S:=Unit) (ca fun _ _=>rfl) Tryz.func170 rfl rfl ?_
 repeat' first
  | ((first | show Dk.ER _ _ _ | show Dk.bb _ _ | show Dk.EF _ _ _ | show Dk.EO _ _ _ | show Dk.EP _ _ | show Dk.ba _ _ _ _ | show Dk.aw _ _ _ _ | show Dk.Kp _ _ _ _ | show Dk.bp _ _ | show Dk.bc _ _ _ _); repeat' first | exact rfl | (refine @id.{0} _ ?_; constructor))
  | intro _
  | exact rfl
  | (refine @id.{0} _ ?_; constructor)
  | apply AM
  | exact ()
theorem LD {x0:Int} {x1:(List Int)} {eE:Value}:Ct Tryz.prog 164 true (iZ x0 x1) [.int .i64 (x0),eE] [.rd false (aD (aB .i64)) eE x1] (fun y (_:Unit)=>[.bool y]) (fun y _=>[]):=by
 refine ct (S:=Unit) (ca fun _ _=>rfl) Tryz.func164 rfl rfl ?_
 repeat' first
  | ((first | show Dk.ER _ _ _ | show Dk.bb _ _ | show Dk.EF _ _ _ | show Dk.EO _ _ _ | show Dk.EP _ _ | show Dk.ba _ _ _ _ | show Dk.aw _ _ _ _ | show Dk.Kp _ _ _ _ | show Dk.bp _ _ | show Dk.bc _ _ _ _); repeat' first | exact rfl | (refine @id.{0} _ ?_; constructor))
  | intro _
  | exact rfl
  | (refine @id.{0} _ ?_; constructor)
  | apply Dk.loop 0 (V:=Unit) (fun (s:Int) v=>[]) (fun s v=>[(5,.int .i64 (s))]) () [(0,_),(1,_)]
  | exact ()
theorem acU {x0:(List Int)} {dI:Value} {x1:Int} {x2:Int}:Ct Tryz.prog 202 true (lY x0 x1 x2) [dI,.int .i64 (x1),.int .i64 (x2)] [.rd false (aD (aB .i64)) dI x0] (fun y (_:Unit)=>[.bool y]) (fun y _=>[]):=by
 refine ct (S:=Unit) (ca fun _ _=>rfl) Tryz.func202 rfl rfl ?_
 repeat' first
  | ((first | show Dk.ER _ _ _ | show Dk.bb _ _ | show Dk.EF _ _ _ | show Dk.EO _ _ _ | show Dk.EP _ _ | show Dk.ba _ _ _ _ | show Dk.aw _ _ _ _ | show Dk.Kp _ _ _ _ | show Dk.bp _ _ | show Dk.bc _ _ _ _); repeat' first | exact rfl | (refine @id.{0} _ ?_; constructor))
  | intro _
  | exact rfl
  | (refine @id.{0} _ ?_; constructor)
  | apply LD
  | exact ()
theorem acV {x0:(List (List Int))} {dI:Value} {x1:(List (List Int))} {eE:Value}:Ct Tryz.prog 176 true (pU x0 x1) [dI,eE] [.rd false (aD (aD (aB .i64))) dI x0,.rd false (aD (aD (aB .i64))) eE x1] (fun y (_:Unit)=>[.bool y]) (fun y _=>[]):=by
 refine ct (S:=Unit) (ca fun _ _=>rfl) Tryz.func176 rfl rfl ?_
 repeat' first
  | ((first | show Dk.ER _ _ _ | show Dk.bb _ _ | show Dk.EF _ _ _ | show Dk.EO _ _ _ | show Dk.EP _ _ | show Dk.ba _ _ _ _ | show Dk.aw _ _ _ _ | show Dk.Kp _ _ _ _ | show Dk.bp _ _ | show Dk.bc _ _ _ _); repeat' first | exact rfl | (refine @id.{0} _ ?_; constructor))
  | intro _
  | exact rfl
  | (refine @id.{0} _ ?_; constructor)
  | apply Dk.loop 0 (V:=Unit) (fun (s:Int) v=>[]) (fun s v=>[(5,.int .i64 (s))]) () [(0,_),(1,_)]
  | apply Dk.quiet (id:=6) (by kernel_rfl)
  | apply LC
  | exact ()
theorem acW {x0:(List Int)} {dI:Value} {x1:(List Int)} {eE:Value}:Ct Tryz.prog 120 true (oU x0 x1) [dI,eE] [.rd false (aD (aB .i64)) dI x0,.rd false (aD (aB .i64)) eE x1] (fun y (v:Value)=>[v]) (fun y v=>[.own (aK 2 (aB .i64)) v y]):=by
 refine ct (S:=Unit) (ca fun _ _=>rfl) Tryz.func120 rfl rfl ?_
 repeat' first
  | ((first | show Dk.ER _ _ _ | show Dk.bb _ _ | show Dk.EF _ _ _ | show Dk.EO _ _ _ | show Dk.EP _ _ | show Dk.ba _ _ _ _ | show Dk.aw _ _ _ _ | show Dk.Kp _ _ _ _ | show Dk.bp _ _ | show Dk.bc _ _ _ _); repeat' first | exact rfl | (refine @id.{0} _ ?_; constructor))
  | intro _
  | exact rfl
  | (refine @id.{0} _ ?_; constructor)
  | apply Dk.loop 0 (V:=Value) (fun (s:(List Int)×Int) v=>[.own (aK 2 (aB .i64)) v s.1]) (fun s v=>[(5,v),(6,.int .i64 (s.2))]) _ [(0,_),(1,_)]
  | exact ()
theorem Zg {x0:aN} {aW:Value} {bC:Value} {aS:Value} {aQ:Value} {aY:Value} {bD:Value} {aT:Value} {aR:Value} {bI:Value} {bR:Value}:Ct Tryz.prog 61 true (jP x0) [.agg #[.int .i64 (x0.aA.aE),aW,bC,aS,aQ,.int .i64 (x0.aC.aE),aY,bD,aT,aR,bI,bR]] [.rd false (aD (aB .i64)) aW x0.aA.aG,.rd false (aD (aB .i64)) bC x0.aA.To,.rd false (aD (aB .i64)) aS x0.aA.aJ,.rd false (aD (aD (aB .i64))) aQ x0.aA.aF,.rd false (aD (aB .i64)) aY x0.aC.aG,.rd false (aD (aB .i64)) bD x0.aC.To,.rd false (aD (aB .i64)) aT x0.aC.aJ,.rd false (aD (aD (aB .i64))) aR x0.aC.aF,.rd false (aD (aB .i64)) bI x0.aE,.rd false (aD (aB .i64)) bR x0.ae] (fun y (v:Value)=>[v]) (fun y v=>[.own (aK 2 (aB .i64)) v y]):=by
 refine ct (S:=Unit) (ca fun _ _=>rfl) Tryz.func61 rfl rfl ?_
 repeat' first
  | ((first | show Dk.ER _ _ _ | show Dk.bb _ _ | show Dk.EF _ _ _ | show Dk.EO _ _ _ | show Dk.EP _ _ | show Dk.ba _ _ _ _ | show Dk.aw _ _ _ _ | show Dk.Kp _ _ _ _ | show Dk.bp _ _ | show Dk.bc _ _ _ _); repeat' first | exact rfl | (refine @id.{0} _ ?_; constructor))
  | intro _
  | exact rfl
  | (refine @id.{0} _ ?_; constructor)
  | apply acW
  | exact ()
theorem acX {x0:aN} {aW:Value} {bC:Value} {aS:Value} {aQ:Value} {aY:Value} {bD:Value} {aT:Value} {aR:Value} {bI:Value} {bR:Value} {x1:aN} {bP:Value} {bW:Value} {bE:Value} {aZ:Value} {bQ:Value} {bX:Value} {bF:Value} {bA:Value} {cF:Value} {cL:Value} {x2:(List Int)} {dS:Value}:Ct Tryz.prog 171 true (oW x0 x1 x2) [.agg #[.int .i64 (x0.aA.aE),aW,bC,aS,aQ,.int .i64 (x0.aC.aE),aY,bD,aT,aR,bI,bR],.agg #[.int .i64 (x1.aA.aE),bP,bW,bE,aZ,.int .i64 (x1.aC.aE),bQ,bX,bF,bA,cF,cL],dS] [.rd false (aD (aB .i64)) aW x0.aA.aG,.rd false (aD (aB .i64)) bC x0.aA.To,.rd false (aD (aB .i64)) aS x0.aA.aJ,.rd false (aD (aD (aB .i64))) aQ x0.aA.aF,.rd false (aD (aB .i64)) aY x0.aC.aG,.rd false (aD (aB .i64)) bD x0.aC.To,.rd false (aD (aB .i64)) aT x0.aC.aJ,.rd false (aD (aD (aB .i64))) aR x0.aC.aF,.rd false (aD (aB .i64)) bI x0.aE,.rd false (aD (aB .i64)) bR x0.ae,.rd false (aD (aB .i64)) bP x1.aA.aG,.rd false (aD (aB .i64)) bW x1.aA.To,.rd false (aD (aB .i64)) bE x1.aA.aJ,.rd false (aD (aD (aB .i64))) aZ x1.aA.aF,.rd false (aD (aB .i64)) bQ x1.aC.aG,.rd false (aD (aB .i64)) bX x1.aC.To,.rd false (aD (aB .i64)) bF x1.aC.aJ,.rd false (aD (aD (aB .i64))) bA x1.aC.aF,.rd false (aD (aB .i64)) cF x1.aE,.rd false (aD (aB .i64)) cL x1.ae,.rd false (aD (aB .i64)) dS x2] (fun y (_:Unit)=>[.bool y]) (fun y _=>[]):=by
 refine ct (S:=Unit) (ca fun _ _=>rfl) Tryz.func171 rfl rfl ?_
 repeat' first
  | ((first | show Dk.ER _ _ _ | show Dk.bb _ _ | show Dk.EF _ _ _ | show Dk.EO _ _ _ | show Dk.EP _ _ | show Dk.ba _ _ _ _ | show Dk.aw _ _ _ _ | show Dk.Kp _ _ _ _ | show Dk.bp _ _ | show Dk.bc _ _ _ _); repeat' first | exact rfl | (refine @id.{0} _ ?_; constructor))
  | intro _
  | exact rfl
  | (refine @id.{0} _ ?_; constructor)
  | apply Dk.loop 0 (V:=Unit) (fun (s:Int) v=>[]) (fun s v=>[(7,.int .i64 (s))]) () [(2,_),(3,_),(4,_)]
  | apply Dk.quiet (id:=6) (by kernel_rfl)
  | apply LD
  | exact ()
theorem WO {x0:Int} {x1:Int} {x2:Int}:Ct Tryz.prog 142 true (kR x0 x1 x2) [.int .i64 (x0),.int .i64 (x1),.int .i64 (x2)] [] (fun y (_:Unit)=>[.bool y]) (fun y _=>[]):=by
 refine ct (S:=Unit) (ca fun _ _=>rfl) Tryz.func142 rfl rfl ?_
 repeat' first
  | ((first | show Dk.ER _ _ _ | show Dk.bb _ _ | show Dk.EF _ _ _ | show Dk.EO _ _ _ | show Dk.EP _ _ | show Dk.ba _ _ _ _ | show Dk.aw _ _ _ _ | show Dk.Kp _ _ _ _ | show Dk.bp _ _ | show Dk.bc _ _ _ _); repeat' first | exact rfl | (refine @id.{0} _ ?_; constructor))
  | intro _
  | exact rfl
  | (refine @id.{0} _ ?_; constructor)
  | exact ()
theorem WQ {x0:(List Int)} {dI:Value} {x1:Int}:Ct Tryz.prog 79 true (iG x0 x1) [dI,.int .i64 (x1)] [.rd false (aD (aB .i64)) dI x0] (fun y (_:Unit)=>[.bool y]) (fun y _=>[]):=by
 refine ct (S:=Unit) (ca fun _ _=>rfl) Tryz.func79 rfl rfl ?_
 repeat' first
  | ((first | show Dk.ER _ _ _ | show Dk.bb _ _ | show Dk.EF _ _ _ | show Dk.EO _ _ _ | show Dk.EP _ _ | show Dk.ba _ _ _ _ | show Dk.aw _ _ _ _ | show Dk.Kp _ _ _ _ | show Dk.bp _ _ | show Dk.bc _ _ _ _); repeat' first | exact rfl | (refine @id.{0} _ ?_; constructor))
  | intro _
  | exact rfl
  | (refine @id.{0} _ ?_; constructor)
  | apply Dk.loop 0 (V:=Unit) (fun (s:Int) v=>[]) (fun s v=>[(9,.int .i64 (s))]) () [(1,_),(7,_),(8,_)]
  | apply WO
  | exact ()
theorem acY {x0:aI} {dQ:Addr} {aV:Value} {bG:Value} {aO:Value} {aM:Value} {x1:Int} {x2:Int}:Ct Tryz.prog 107 true (kK x0 x1 x2) [.pointer (some (dQ)),.int .i64 (x1),.int .i64 (x2)] [.au dQ [.int .i64 (x0.aE),aV,bG,aO,aM],.rd false (aD (aB .i64)) aV x0.aG,.rd false (aD (aB .i64)) bG x0.To,.rd false (aD (aB .i64)) aO x0.aJ,.rd false (aD (aD (aB .i64))) aM x0.aF] (fun y (v:Value)=>[v]) (fun y v=>[.own (aK 2 (aB .i64)) v y]):=by
 refine ct (S:=Unit) (ca fun _ _=>rfl) Tryz.func107 rfl rfl ?_
 repeat' first
  | ((first | show Dk.ER _ _ _ | show Dk.bb _ _ | show Dk.EF _ _ _ | show Dk.EO _ _ _ | show Dk.EP _ _ | show Dk.ba _ _ _ _ | show Dk.aw _ _ _ _ | show Dk.Kp _ _ _ _ | show Dk.bp _ _ | show Dk.bc _ _ _ _); repeat' first | exact rfl | (refine @id.{0} _ ?_; constructor))
  | intro _
  | exact rfl
  | (refine @id.{0} _ ?_; constructor)
  | apply Dk.loop 0 (V:=Value) (fun (s:(List Int)×Int) v=>[.own (aK 2 (aB .i64)) v s.1]) (fun s v=>[(7,v),(15,.int .i64 (s.2))]) _ [(0,_),(1,_),(2,_),(14,_)]
  | exact ()
theorem acZ {x0:Int}:Ct Tryz.prog 102 true (iU x0) [.int .i64 (x0)] [] (fun y (_:Unit)=>[.bool y]) (fun y _=>[]):=by
 refine ct (S:=Unit) (ca fun _ _=>rfl) Tryz.func102 rfl rfl ?_
 repeat' first
  | ((first | show Dk.ER _ _ _ | show Dk.bb _ _ | show Dk.EF _ _ _ | show Dk.EO _ _ _ | show Dk.EP _ _ | show Dk.ba _ _ _ _ | show Dk.aw _ _ _ _ | show Dk.Kp _ _ _ _ | show Dk.bp _ _ | show Dk.bc _ _ _ _); repeat' first | exact rfl | (refine @id.{0} _ ?_; constructor))
  | intro _
  | exact rfl
  | (refine @id.{0} _ ?_; constructor)
  | exact ()
end Go.Proofs.YtkcpiblgpnjanaaGreat
