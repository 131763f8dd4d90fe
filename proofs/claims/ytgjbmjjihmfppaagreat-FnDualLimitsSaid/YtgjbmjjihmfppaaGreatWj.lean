/- Walks by the calculus D. No condition beside those that each theorem names. -/
import Derived.Test.YtgjbmjjihmfppaaGreatDi
import Derived.Test.YtgjbmjjihmfppaaGreatMo
import Derived.Test.YtgjbmjjihmfppaaGreatDp
import Derived.Test.YtgjbmjjihmfppaaGreatDs
import Derived.Test.YtgjbmjjihmfppaaGreatWb
import Derived.Test.YtgjbmjjihmfppaaGreatWc
import Derived.Test.YtgjbmjjihmfppaaGreatWf
import Derived.Test.YtgjbmjjihmfppaaGreatWg
import Derived.Test.YtgjbmjjihmfppaaGreatWh
namespace Go.Proofs.YtgjbmjjihmfppaaGreat
open Go Go.Li Go.Dk
set_option linter.unusedVariables false
set_option maxHeartbeats 16000000
set_option maxRecDepth 100000
theorem c64 {x0:(List aG)} {cY:Value}:Ct Tryz.prog 64 true (iM x0) [cY] [.rd false (aE (x9 N8)) cY x0] (fun y (_:Unit)=>[.bool y]) (fun y _=>[]):=by
 refine ct (S:=Unit) (db fun _ _=>rfl) Tryz.func64 rfl rfl ?_
 repeat' first
  | ((first | show Dk.ER _ _ _ | show Dk.bd _ _ | show Dk.EF _ _ _ | show Dk.EO _ _ _ | show Dk.EP _ _ | show Dk.ba _ _ _ _ | show Dk.aw _ _ _ _ | show Dk.Kp _ _ _ _ | show Dk.bp _ _ | show Dk.bg _ _ _ _); repeat' first | exact rfl | (refine @id.{0} _ ?_; constructor))
  | intro _
  | exact rfl
  | (refine @id.{0} _ ?_; constructor)
  | apply Dk.loop 0 (V:=Unit) (fun (s:Int) v=>[]) (fun s v=>[(7,.int .i64 (s))]) () [(5,_),(6,_)]
  | apply acF
  | exact ()
theorem I2 {x0:aN} {dE:Addr} {aV:Value} {bA:Value} {aS:Value} {aP:Value} {aW:Value} {bB:Value} {aT:Value} {aQ:Value} {bE:Value} {bF:Value}:Ct Tryz.prog 35 true (dC x0) [.pointer (some (dE))] [.aq dE [.int .i64 (x0.aH.aA),aV,bA,aS,aP,.int .i64 (x0.aI.aA),aW,bB,aT,aQ,bE,bF],.rd false (aE (aC .i64)) aV x0.aH.aD,.rd false (aE (aC .i64)) bA x0.aH.To,.rd false (aE (aC .i64)) aS x0.aH.aJ,.rd false (aE (aE (aC .i64))) aP x0.aH.aB,.rd false (aE (aC .i64)) aW x0.aI.aD,.rd false (aE (aC .i64)) bB x0.aI.To,.rd false (aE (aC .i64)) aT x0.aI.aJ,.rd false (aE (aE (aC .i64))) aQ x0.aI.aB,.rd false (aE (aC .i64)) bE x0.aA,.rd false (aE (aC .i64)) bF x0.aj] (fun y (_:Unit)=>[.bool y]) (fun y _=>[]):=by
 refine ct (S:=Unit) (db fun _ _=>rfl) Tryz.func35 rfl rfl ?_
 repeat' first
  | ((first | show Dk.ER _ _ _ | show Dk.bd _ _ | show Dk.EF _ _ _ | show Dk.EO _ _ _ | show Dk.EP _ _ | show Dk.ba _ _ _ _ | show Dk.aw _ _ _ _ | show Dk.Kp _ _ _ _ | show Dk.bp _ _ | show Dk.bg _ _ _ _); repeat' first | exact rfl | (refine @id.{0} _ ?_; constructor))
  | intro _
  | exact rfl
  | (refine @id.{0} _ ?_; constructor)
  | apply Dk.ZA (id:=1) 7 [] [[],[0],[1,0],[],[3],[4,3],[2,1,0,5,4,3]] (by kernel_rfl)
  | apply c64
  | apply c65
  | exact ()
theorem YJ {x0:aN} {dE:Addr} {aV:Value} {bA:Value} {aS:Value} {aP:Value} {aW:Value} {bB:Value} {aT:Value} {aQ:Value} {bE:Value} {bF:Value}:Ct Tryz.prog 42 true (eN x0) [.pointer (some (dE))] [.aq dE [.int .i64 (x0.aH.aA),aV,bA,aS,aP,.int .i64 (x0.aI.aA),aW,bB,aT,aQ,bE,bF],.rd false (aE (aC .i64)) aV x0.aH.aD,.rd false (aE (aC .i64)) bA x0.aH.To,.rd false (aE (aC .i64)) aS x0.aH.aJ,.rd false (aE (aE (aC .i64))) aP x0.aH.aB,.rd false (aE (aC .i64)) aW x0.aI.aD,.rd false (aE (aC .i64)) bB x0.aI.To,.rd false (aE (aC .i64)) aT x0.aI.aJ,.rd false (aE (aE (aC .i64))) aQ x0.aI.aB,.rd false (aE (aC .i64)) bE x0.aA,.rd false (aE (aC .i64)) bF x0.aj] (fun y (v:Value×Value×Value×Value×Value×Value×Value×Value×Value×Value)=>[.agg #[.int .i64 y.aH.aA,v.1,v.2.1,v.2.2.1,v.2.2.2.1,.int .i64 y.aI.aA,v.2.2.2.2.1,v.2.2.2.2.2.1,v.2.2.2.2.2.2.1,v.2.2.2.2.2.2.2.1,v.2.2.2.2.2.2.2.2.1,v.2.2.2.2.2.2.2.2.2]]) (fun y v=>[.own (aK 2 (aC .i64)) v.1 y.aH.aD,.own (aK 2 (aC .i64)) v.2.1 y.aH.To,.own (aK 2 (aC .i64)) v.2.2.1 y.aH.aJ,.own (aK 24 (aK 2 (aC .i64))) v.2.2.2.1 y.aH.aB,.own (aK 2 (aC .i64)) v.2.2.2.2.1 y.aI.aD,.own (aK 2 (aC .i64)) v.2.2.2.2.2.1 y.aI.To,.own (aK 2 (aC .i64)) v.2.2.2.2.2.2.1 y.aI.aJ,.own (aK 24 (aK 2 (aC .i64))) v.2.2.2.2.2.2.2.1 y.aI.aB,.own (aK 2 (aC .i64)) v.2.2.2.2.2.2.2.2.1 y.aA,.own (aK 2 (aC .i64)) v.2.2.2.2.2.2.2.2.2 y.aj]):=by
 refine ct (S:=Unit) (db fun _ _=>rfl) Tryz.func42 rfl rfl ?_
 repeat' first
  | ((first | show Dk.ER _ _ _ | show Dk.bd _ _ | show Dk.EF _ _ _ | show Dk.EO _ _ _ | show Dk.EP _ _ | show Dk.ba _ _ _ _ | show Dk.aw _ _ _ _ | show Dk.Kp _ _ _ _ | show Dk.bp _ _ | show Dk.bg _ _ _ _); repeat' first | exact rfl | (refine @id.{0} _ ?_; constructor))
  | intro _
  | exact rfl
  | (refine @id.{0} _ ?_; constructor)
  | apply Dk.any (id:=1) 10 [] [] [[],[0],[1,0],[2,1,0],[],[4],[5,4],[6,5,4,3,2,1,0],[],[]] (by kernel_rfl)
  | apply Dk.any (id:=2) 8 [] [] [[],[0],[1,0],[2,1,0],[],[4],[5,4],[6,5,4]] (by kernel_rfl)
  | apply c73
  | apply c74
  | exact ()
theorem WG {x0:aN} {p:Addr} {py p4 p5 p6 p7 p8 p9 qa uo ua:Value}:Ct Tryz.prog 37 true (fU x0) [.pointer (some p)] [.aq p [.int .i64 x0.aH.aA,py,p4,p5,p6,.int .i64 x0.aI.aA,p7,p8,p9,qa,uo,ua],.rd false (aE (aC .i64)) py x0.aH.aD,.rd false (aE (aC .i64)) p4 x0.aH.To,.rd false (aE (aC .i64)) p5 x0.aH.aJ,.rd false (aE (aE (aC .i64))) p6 x0.aH.aB,.rd false (aE (aC .i64)) p7 x0.aI.aD,.rd false (aE (aC .i64)) p8 x0.aI.To,.rd false (aE (aC .i64)) p9 x0.aI.aJ,.rd false (aE (aE (aC .i64))) qa x0.aI.aB,.rd false (aE (aC .i64)) uo x0.aA,.rd false (aE (aC .i64)) ua x0.aj] (fun y (v:Nat×Value×Value×Value×Value×Value×Value×Value×Value×Value×Value)=>[.iface 87 (.agg #[.pointer (some ⟨v.1,0,none⟩)])]) (fun y v=>[.row v.1 [.int .i64 y.aH.aA,v.2.1,v.2.2.1,v.2.2.2.1,v.2.2.2.2.1,.int .i64 y.aI.aA,v.2.2.2.2.2.1,v.2.2.2.2.2.2.1,v.2.2.2.2.2.2.2.1,v.2.2.2.2.2.2.2.2.1,v.2.2.2.2.2.2.2.2.2.1,v.2.2.2.2.2.2.2.2.2.2] 29,.own (aK 2 (aC .i64)) v.2.1 y.aH.aD,.own (aK 2 (aC .i64)) v.2.2.1 y.aH.To,.own (aK 2 (aC .i64)) v.2.2.2.1 y.aH.aJ,.own (aK 24 (aK 2 (aC .i64))) v.2.2.2.2.1 y.aH.aB,.own (aK 2 (aC .i64)) v.2.2.2.2.2.1 y.aI.aD,.own (aK 2 (aC .i64)) v.2.2.2.2.2.2.1 y.aI.To,.own (aK 2 (aC .i64)) v.2.2.2.2.2.2.2.1 y.aI.aJ,.own (aK 24 (aK 2 (aC .i64))) v.2.2.2.2.2.2.2.2.1 y.aI.aB,.own (aK 2 (aC .i64)) v.2.2.2.2.2.2.2.2.2.1 y.aA,.own (aK 2 (aC .i64)) v.2.2.2.2.2.2.2.2.2.2 y.aj]):=by
 refine ct (S:=Unit) (db fun _ _=>rfl) Tryz.func37 rfl rfl ?_
 repeat' first
  | ((first | show Dk.ER _ _ _ | show Dk.bd _ _ | show Dk.EF _ _ _ | show Dk.EO _ _ _ | show Dk.EP _ _ | show Dk.ba _ _ _ _ | show Dk.aw _ _ _ _ | show Dk.Kp _ _ _ _ | show Dk.bp _ _ | show Dk.bg _ _ _ _); repeat' first | exact rfl | (refine @id.{0} _ ?_; constructor))
  | intro _
  | exact rfl
  | (refine @id.{0} _ ?_; constructor)
  | apply YJ
  | exact ()
theorem YK {x0:aN} {p:Addr} {py p4 p5 p6 p7 p8 p9 qa uo ua:Value}:Ct Tryz.prog 76 false (iJ x0) [.pointer (some p)] [.aq p [.int .i64 x0.aH.aA,py,p4,p5,p6,.int .i64 x0.aI.aA,p7,p8,p9,qa,uo,ua],.rd false (aE (aC .i64)) py x0.aH.aD,.rd false (aE (aC .i64)) p4 x0.aH.To,.rd false (aE (aC .i64)) p5 x0.aH.aJ,.rd false (aE (aE (aC .i64))) p6 x0.aH.aB,.rd false (aE (aC .i64)) p7 x0.aI.aD,.rd false (aE (aC .i64)) p8 x0.aI.To,.rd false (aE (aC .i64)) p9 x0.aI.aJ,.rd false (aE (aE (aC .i64))) qa x0.aI.aB,.rd false (aE (aC .i64)) uo x0.aA,.rd false (aE (aC .i64)) ua x0.aj] (fun y (v:Value)=>[v,.bool y.2]) (fun y v=>[.rd false (aE (n7 sW)) v y.1]):=by
 refine ct (S:=Unit) uz Tryz.func76 rfl rfl ?_
 repeat' first
  | ((first | show Dk.ER _ _ _ | show Dk.bd _ _ | show Dk.EF _ _ _ | show Dk.EO _ _ _ | show Dk.EP _ _ | show Dk.ba _ _ _ _ | show Dk.aw _ _ _ _ | show Dk.Kp _ _ _ _ | show Dk.bp _ _ | show Dk.bg _ _ _ _); repeat' first | exact rfl | (refine @id.{0} _ ?_; constructor))
  | intro _
  | exact rfl
  | apply Dk.X5 (t:=83) (S:=rV)
  | (refine @id.{0} _ ?_; constructor)
  | apply Dk.Uo 0 (V:=Value) (W:=Nat) (A:=Nat) _ (fun a (s:Int×List bD) v b=>[.row a [v] 83,.own (aK 32 rV) v s.2,.row b [.int .i64 s.1] 2]) (fun a s v b=>[(4,.pointer (some ⟨a,0,none⟩)),(5,.pointer (some ⟨b,0,none⟩))]) _ _ [(0,_)]
  | apply Dk.quiet (id:=3) (by kernel_rfl)
  | apply acB
  | exact ()
theorem c66 {x0:aN} {dE:Addr} {aV:Value} {bA:Value} {aS:Value} {aP:Value} {aW:Value} {bB:Value} {aT:Value} {aQ:Value} {bE:Value} {bF:Value} {x1:Int}:Ct Tryz.prog 66 false (oS x0 x1) [.pointer (some (dE)),.int .i64 (x1)] [.aq dE [.int .i64 (x0.aH.aA),aV,bA,aS,aP,.int .i64 (x0.aI.aA),aW,bB,aT,aQ,bE,bF],.rd false (aE (aC .i64)) aV x0.aH.aD,.rd false (aE (aC .i64)) bA x0.aH.To,.rd false (aE (aC .i64)) aS x0.aH.aJ,.rd false (aE (aE (aC .i64))) aP x0.aH.aB,.rd false (aE (aC .i64)) aW x0.aI.aD,.rd false (aE (aC .i64)) bB x0.aI.To,.rd false (aE (aC .i64)) aT x0.aI.aJ,.rd false (aE (aE (aC .i64))) aQ x0.aI.aB,.rd false (aE (aC .i64)) bE x0.aA,.rd false (aE (aC .i64)) bF x0.aj] (fun y (v:Value)=>[v,.bool y.2]) (fun y v=>[.rd false (aE (n7 sW)) v y.1]):=by
 refine ct (S:=Unit) uz Tryz.func66 rfl rfl ?_
 repeat' first
  | ((first | show Dk.ER _ _ _ | show Dk.bd _ _ | show Dk.EF _ _ _ | show Dk.EO _ _ _ | show Dk.EP _ _ | show Dk.ba _ _ _ _ | show Dk.aw _ _ _ _ | show Dk.Kp _ _ _ _ | show Dk.bp _ _ | show Dk.bg _ _ _ _); repeat' first | exact rfl | (refine @id.{0} _ ?_; constructor))
  | intro _
  | exact rfl
  | apply Dk.T2 (t:=83) (S:=sW)
  | apply Dk.T3 (t:=83) (x:=.tmp 25)
  | apply Dk.T5 (t:=83) (bD.mk _ _)
  | (refine @id.{0} _ ?_; constructor)
  | apply Dk.vX 0 (V:=Value) (W:=List (List Value)) (fun (s:List bD×Int) v u=>[.own (aK 32 (iz 2)) v u,.rd false (sL sW) (.bool true) (u,s.1)]) (fun s v u=>[(8,v),(21,.int .i64 s.2)]) _ _ [(0,_),(1,_),(6,_),(19,_),(20,_)]
  | apply YK
  | apply YE
  | exact ()
theorem YL {x0:aN} {dE:Addr} {aV:Value} {bA:Value} {aS:Value} {aP:Value} {aW:Value} {bB:Value} {aT:Value} {aQ:Value} {bE:Value} {bF:Value}:Ct Tryz.prog 36 false (nO x0) [.pointer (some (dE))] [.aq dE [.int .i64 (x0.aH.aA),aV,bA,aS,aP,.int .i64 (x0.aI.aA),aW,bB,aT,aQ,bE,bF],.rd false (aE (aC .i64)) aV x0.aH.aD,.rd false (aE (aC .i64)) bA x0.aH.To,.rd false (aE (aC .i64)) aS x0.aH.aJ,.rd false (aE (aE (aC .i64))) aP x0.aH.aB,.rd false (aE (aC .i64)) aW x0.aI.aD,.rd false (aE (aC .i64)) bB x0.aI.To,.rd false (aE (aC .i64)) aT x0.aI.aJ,.rd false (aE (aE (aC .i64))) aQ x0.aI.aB,.rd false (aE (aC .i64)) bE x0.aA,.rd false (aE (aC .i64)) bF x0.aj] (fun y (v:Value)=>[.agg #[.int .i64 y.1.ef,v],.int .i64 y.2]) (fun y v=>[.rd false (aE (aC .i64)) v y.1.cf]):=by
 refine ct (S:=Unit) uz Tryz.func36 rfl rfl ?_
 repeat' first
  | ((first | show Dk.ER _ _ _ | show Dk.bd _ _ | show Dk.EF _ _ _ | show Dk.EO _ _ _ | show Dk.EP _ _ | show Dk.ba _ _ _ _ | show Dk.aw _ _ _ _ | show Dk.Kp _ _ _ _ | show Dk.bp _ _ | show Dk.bg _ _ _ _); repeat' first | exact rfl | (refine @id.{0} _ ?_; constructor))
  | intro _
  | exact rfl
  | (refine @id.{0} _ ?_; constructor)
  | apply c66
  | exact ()
theorem c9 {x0:aN} {py p4 p5 p6 p7 p8 p9 qa uo ua:Value}:Ct Tryz.prog 9 false (lD x0) [.agg #[.int .i64 x0.aH.aA,py,p4,p5,p6,.int .i64 x0.aI.aA,p7,p8,p9,qa,uo,ua]] [.rd false (aE (aC .i64)) py x0.aH.aD,.rd false (aE (aC .i64)) p4 x0.aH.To,.rd false (aE (aC .i64)) p5 x0.aH.aJ,.rd false (aE (aE (aC .i64))) p6 x0.aH.aB,.rd false (aE (aC .i64)) p7 x0.aI.aD,.rd false (aE (aC .i64)) p8 x0.aI.To,.rd false (aE (aC .i64)) p9 x0.aI.aJ,.rd false (aE (aE (aC .i64))) qa x0.aI.aB,.rd false (aE (aC .i64)) uo x0.aA,.rd false (aE (aC .i64)) ua x0.aj] (fun y (v:Value)=>[.agg #[.int .i64 y.1.ef,v],.int .i64 y.2]) (fun y v=>[.rd false (aE (aC .i64)) v y.1.cf]):=by
 refine ct (S:=Unit) uz Tryz.func9 rfl rfl ?_
 repeat' first
  | ((first | show Dk.ER _ _ _ | show Dk.bd _ _ | show Dk.EF _ _ _ | show Dk.EO _ _ _ | show Dk.EP _ _ | show Dk.ba _ _ _ _ | show Dk.aw _ _ _ _ | show Dk.Kp _ _ _ _ | show Dk.bp _ _ | show Dk.bg _ _ _ _); repeat' first | exact rfl | (refine @id.{0} _ ?_; constructor))
  | intro _
  | exact rfl
  | (apply Dk.Un (e:=29); · (repeat (first | exact Dk.de.row | apply Dk.de.there)))
  | (apply Dk.Ql (e:=29); · (repeat (first | exact Dk.de.row | apply Dk.de.there)))
  | (refine @id.{0} _ ?_; constructor)
  | apply I2
  | apply WG
  | apply Ko
  | apply YL
  | exact Dk.Kz (by kernel_rfl)
  | exact ()
theorem Lv {x0:aN} {aV:Value} {bA:Value} {aS:Value} {aP:Value} {aW:Value} {bB:Value} {aT:Value} {aQ:Value} {bE:Value} {bF:Value}:Ct Tryz.prog 12 true (oN x0) [.agg #[.int .i64 (x0.aH.aA),aV,bA,aS,aP,.int .i64 (x0.aI.aA),aW,bB,aT,aQ,bE,bF]] [.rd false (aE (aC .i64)) aV x0.aH.aD,.rd false (aE (aC .i64)) bA x0.aH.To,.rd false (aE (aC .i64)) aS x0.aH.aJ,.rd false (aE (aE (aC .i64))) aP x0.aH.aB,.rd false (aE (aC .i64)) aW x0.aI.aD,.rd false (aE (aC .i64)) bB x0.aI.To,.rd false (aE (aC .i64)) aT x0.aI.aJ,.rd false (aE (aE (aC .i64))) aQ x0.aI.aB,.rd false (aE (aC .i64)) bE x0.aA,.rd false (aE (aC .i64)) bF x0.aj] (fun y (_:Unit)=>[.bool y]) (fun y _=>[]):=by
 refine ct (S:=Unit) (db fun _ _=>rfl) Tryz.func12 rfl rfl ?_
 repeat' first
  | ((first | show Dk.ER _ _ _ | show Dk.bd _ _ | show Dk.EF _ _ _ | show Dk.EO _ _ _ | show Dk.EP _ _ | show Dk.ba _ _ _ _ | show Dk.aw _ _ _ _ | show Dk.Kp _ _ _ _ | show Dk.bp _ _ | show Dk.bg _ _ _ _); repeat' first | exact rfl | (refine @id.{0} _ ?_; constructor))
  | intro _
  | exact rfl
  | (refine @id.{0} _ ?_; constructor)
  | apply I2
  | exact ()
theorem c13 {x0:aN} {aV:Value} {bA:Value} {aS:Value} {aP:Value} {aW:Value} {bB:Value} {aT:Value} {aQ:Value} {bE:Value} {bF:Value}:Ct Tryz.prog 13 true (gM x0) [.agg #[.int .i64 (x0.aH.aA),aV,bA,aS,aP,.int .i64 (x0.aI.aA),aW,bB,aT,aQ,bE,bF]] [.rd false (aE (aC .i64)) aV x0.aH.aD,.rd false (aE (aC .i64)) bA x0.aH.To,.rd false (aE (aC .i64)) aS x0.aH.aJ,.rd false (aE (aE (aC .i64))) aP x0.aH.aB,.rd false (aE (aC .i64)) aW x0.aI.aD,.rd false (aE (aC .i64)) bB x0.aI.To,.rd false (aE (aC .i64)) aT x0.aI.aJ,.rd false (aE (aE (aC .i64))) aQ x0.aI.aB,.rd false (aE (aC .i64)) bE x0.aA,.rd false (aE (aC .i64)) bF x0.aj] (fun y (v:Value×Value×Value×Value×Value×Value×Value×Value×Value×Value)=>[.agg #[.int .i64 y.1.aH.aA,v.1,v.2.1,v.2.2.1,v.2.2.2.1,.int .i64 y.1.aI.aA,v.2.2.2.2.1,v.2.2.2.2.2.1,v.2.2.2.2.2.2.1,v.2.2.2.2.2.2.2.1,v.2.2.2.2.2.2.2.2.1,v.2.2.2.2.2.2.2.2.2],.int .i64 y.2]) (fun y v=>[.own (aK 2 (aC .i64)) v.1 y.1.aH.aD,.own (aK 2 (aC .i64)) v.2.1 y.1.aH.To,.own (aK 2 (aC .i64)) v.2.2.1 y.1.aH.aJ,.own (aK 24 (aK 2 (aC .i64))) v.2.2.2.1 y.1.aH.aB,.own (aK 2 (aC .i64)) v.2.2.2.2.1 y.1.aI.aD,.own (aK 2 (aC .i64)) v.2.2.2.2.2.1 y.1.aI.To,.own (aK 2 (aC .i64)) v.2.2.2.2.2.2.1 y.1.aI.aJ,.own (aK 24 (aK 2 (aC .i64))) v.2.2.2.2.2.2.2.1 y.1.aI.aB,.own (aK 2 (aC .i64)) v.2.2.2.2.2.2.2.2.1 y.1.aA,.own (aK 2 (aC .i64)) v.2.2.2.2.2.2.2.2.2 y.1.aj]):=by
 refine ct (S:=Unit) (db fun _ _=>rfl) Tryz.func13 rfl rfl ?_
 repeat' first
  | ((first | show Dk.ER _ _ _ | show Dk.bd _ _ | show Dk.EF _ _ _ | show Dk.EO _ _ _ | show Dk.EP _ _ | show Dk.ba _ _ _ _ | show Dk.aw _ _ _ _ | show Dk.Kp _ _ _ _ | show Dk.bp _ _ | show Dk.bg _ _ _ _); repeat' first | exact rfl | (refine @id.{0} _ ?_; constructor))
  | intro _
  | exact rfl
  | (refine @id.{0} _ ?_; constructor)
  | apply I2
  | apply YJ
  | exact ()
theorem c14 {x0:aN} {aV:Value} {bA:Value} {aS:Value} {aP:Value} {aW:Value} {bB:Value} {aT:Value} {aQ:Value} {bE:Value} {bF:Value}:Ct Tryz.prog 14 false (oD x0) [.agg #[.int .i64 (x0.aH.aA),aV,bA,aS,aP,.int .i64 (x0.aI.aA),aW,bB,aT,aQ,bE,bF]] [.rd false (aE (aC .i64)) aV x0.aH.aD,.rd false (aE (aC .i64)) bA x0.aH.To,.rd false (aE (aC .i64)) aS x0.aH.aJ,.rd false (aE (aE (aC .i64))) aP x0.aH.aB,.rd false (aE (aC .i64)) aW x0.aI.aD,.rd false (aE (aC .i64)) bB x0.aI.To,.rd false (aE (aC .i64)) aT x0.aI.aJ,.rd false (aE (aE (aC .i64))) aQ x0.aI.aB,.rd false (aE (aC .i64)) bE x0.aA,.rd false (aE (aC .i64)) bF x0.aj] (fun y (v:Value)=>[.agg #[.int .i64 y.1.ef,v],.int .i64 y.2]) (fun y v=>[.rd false (aE (aC .i64)) v y.1.cf]):=by
 refine ct (S:=Unit) uz Tryz.func14 rfl rfl ?_
 repeat' first
  | ((first | show Dk.ER _ _ _ | show Dk.bd _ _ | show Dk.EF _ _ _ | show Dk.EO _ _ _ | show Dk.EP _ _ | show Dk.ba _ _ _ _ | show Dk.aw _ _ _ _ | show Dk.Kp _ _ _ _ | show Dk.bp _ _ | show Dk.bg _ _ _ _); repeat' first | exact rfl | (refine @id.{0} _ ?_; constructor))
  | intro _
  | exact rfl
  | (apply Dk.Un (e:=29); · (repeat (first | exact Dk.de.row | apply Dk.de.there)))
  | (apply Dk.Ql (e:=29); · (repeat (first | exact Dk.de.row | apply Dk.de.there)))
  | (refine @id.{0} _ ?_; constructor)
  | apply I2
  | apply YL
  | exact ()
theorem YM {x0:gJ} {fC:Addr} {dA:Value} {dF:Value} {cR:Value} {cO:Value} {dB:Value} {dG:Value} {cS:Value} {cP:Value} {dJ:Value} {dL:Value} {x1:bD} {eD:Value}:Ct Tryz.prog 43 true (jI x0 x1) [.iface 87 (.agg #[.pointer (some (fC))]),.agg #[.int .i64 (x1.ef),eD]] [.aq fC [.int .i64 (x0.cj.aH.aA),dA,dF,cR,cO,.int .i64 (x0.cj.aI.aA),dB,dG,cS,cP,dJ,dL],.rd false (aE (aC .i64)) dA x0.cj.aH.aD,.rd false (aE (aC .i64)) dF x0.cj.aH.To,.rd false (aE (aC .i64)) cR x0.cj.aH.aJ,.rd false (aE (aE (aC .i64))) cO x0.cj.aH.aB,.rd false (aE (aC .i64)) dB x0.cj.aI.aD,.rd false (aE (aC .i64)) dG x0.cj.aI.To,.rd false (aE (aC .i64)) cS x0.cj.aI.aJ,.rd false (aE (aE (aC .i64))) cP x0.cj.aI.aB,.rd false (aE (aC .i64)) dJ x0.cj.aA,.rd false (aE (aC .i64)) dL x0.cj.aj,.rd false (aE (aC .i64)) eD x1.cf] (fun y (_:Unit)=>[.bool y.1,.int .i64 y.2]) (fun y _=>[]):=by
 refine ct (S:=Unit) (db fun _ _=>rfl) Tryz.func43 rfl rfl ?_
 repeat' first
  | ((first | show Dk.ER _ _ _ | show Dk.bd _ _ | show Dk.EF _ _ _ | show Dk.EO _ _ _ | show Dk.EP _ _ | show Dk.ba _ _ _ _ | show Dk.aw _ _ _ _ | show Dk.Kp _ _ _ _ | show Dk.bp _ _ | show Dk.bg _ _ _ _); repeat' first | exact rfl | (refine @id.{0} _ ?_; constructor))
  | intro _
  | exact rfl
  | (refine @id.{0} _ ?_; constructor)
  | apply Dk.quiet (id:=7) (by kernel_rfl)
  | apply YG
  | apply YK
  | apply YE
  | apply Ko
  | exact Dk.Kz (by kernel_rfl)
  | exact ()
theorem c15 {x0:aN} {x1:bD} {py p4 p5 p6 p7 p8 p9 qa uo ua w1:Value}:Ct Tryz.prog 15 true (lK x0 x1) [.agg #[.int .i64 x0.aH.aA,py,p4,p5,p6,.int .i64 x0.aI.aA,p7,p8,p9,qa,uo,ua],.agg #[.int .i64 x1.ef,w1]] [.rd false (aE (aC .i64)) py x0.aH.aD,.rd false (aE (aC .i64)) p4 x0.aH.To,.rd false (aE (aC .i64)) p5 x0.aH.aJ,.rd false (aE (aE (aC .i64))) p6 x0.aH.aB,.rd false (aE (aC .i64)) p7 x0.aI.aD,.rd false (aE (aC .i64)) p8 x0.aI.To,.rd false (aE (aC .i64)) p9 x0.aI.aJ,.rd false (aE (aE (aC .i64))) qa x0.aI.aB,.rd false (aE (aC .i64)) uo x0.aA,.rd false (aE (aC .i64)) ua x0.aj,.rd false (aE (aC .i64)) w1 x1.cf] (fun y (_:Unit)=>[.bool y.1,.int .i64 y.2]) (fun y _=>[]):=by
 refine ct (S:=Unit) (db fun _ _=>rfl) Tryz.func15 rfl rfl ?_
 repeat' first
  | ((first | show Dk.ER _ _ _ | show Dk.bd _ _ | show Dk.EF _ _ _ | show Dk.EO _ _ _ | show Dk.EP _ _ | show Dk.ba _ _ _ _ | show Dk.aw _ _ _ _ | show Dk.Kp _ _ _ _ | show Dk.bp _ _ | show Dk.bg _ _ _ _); repeat' first | exact rfl | (refine @id.{0} _ ?_; constructor))
  | intro _
  | exact rfl
  | (refine @id.{0} _ ?_; constructor)
  | apply Dk.any (id:=3) 5 [] [] [[],[],[0,1,0],[2,0,1,0],[2,0,1,0]] (by kernel_rfl)
  | apply I2
  | apply WG
  | apply YM
  | exact ()
theorem c44 {x0:gJ} {fC:Addr} {dA:Value} {dF:Value} {cR:Value} {cO:Value} {dB:Value} {dG:Value} {cS:Value} {cP:Value} {dJ:Value} {dL:Value} {x1:bD} {eD:Value} {x2:bD} {gD:Value}:Ct Tryz.prog 44 true (lL x0 x1 x2) [.iface 87 (.agg #[.pointer (some (fC))]),.agg #[.int .i64 (x1.ef),eD],.agg #[.int .i64 (x2.ef),gD]] [.aq fC [.int .i64 (x0.cj.aH.aA),dA,dF,cR,cO,.int .i64 (x0.cj.aI.aA),dB,dG,cS,cP,dJ,dL],.rd false (aE (aC .i64)) dA x0.cj.aH.aD,.rd false (aE (aC .i64)) dF x0.cj.aH.To,.rd false (aE (aC .i64)) cR x0.cj.aH.aJ,.rd false (aE (aE (aC .i64))) cO x0.cj.aH.aB,.rd false (aE (aC .i64)) dB x0.cj.aI.aD,.rd false (aE (aC .i64)) dG x0.cj.aI.To,.rd false (aE (aC .i64)) cS x0.cj.aI.aJ,.rd false (aE (aE (aC .i64))) cP x0.cj.aI.aB,.rd false (aE (aC .i64)) dJ x0.cj.aA,.rd false (aE (aC .i64)) dL x0.cj.aj,.rd false (aE (aC .i64)) eD x1.cf,.rd false (aE (aC .i64)) gD x2.cf] (fun y (_:Unit)=>[.int .i64 y.1,.int .i64 y.2]) (fun y _=>[]):=by
 refine ct (S:=Unit) (db fun _ _=>rfl) Tryz.func44 rfl rfl ?_
 repeat' first
  | ((first | show Dk.ER _ _ _ | show Dk.bd _ _ | show Dk.EF _ _ _ | show Dk.EO _ _ _ | show Dk.EP _ _ | show Dk.ba _ _ _ _ | show Dk.aw _ _ _ _ | show Dk.Kp _ _ _ _ | show Dk.bp _ _ | show Dk.bg _ _ _ _); repeat' first | exact rfl | (refine @id.{0} _ ?_; constructor))
  | intro _
  | exact rfl
  | (refine @id.{0} _ ?_; constructor)
  | apply Dk.any (id:=9) 4 [] [] [[],[0],[],[]] (by kernel_rfl)
  | apply YG
  | apply YM
  | apply YC
  | apply Ko
  | exact Dk.Kz (by kernel_rfl)
  | exact ()
theorem c16 {x0:aN} {x1 x2:bD} {py p4 p5 p6 p7 p8 p9 qa uo ua w1 w2:Value}:Ct Tryz.prog 16 true (gH x0 x1 x2) [.agg #[.int .i64 x0.aH.aA,py,p4,p5,p6,.int .i64 x0.aI.aA,p7,p8,p9,qa,uo,ua],.agg #[.int .i64 x1.ef,w1],.agg #[.int .i64 x2.ef,w2]] [.rd false (aE (aC .i64)) py x0.aH.aD,.rd false (aE (aC .i64)) p4 x0.aH.To,.rd false (aE (aC .i64)) p5 x0.aH.aJ,.rd false (aE (aE (aC .i64))) p6 x0.aH.aB,.rd false (aE (aC .i64)) p7 x0.aI.aD,.rd false (aE (aC .i64)) p8 x0.aI.To,.rd false (aE (aC .i64)) p9 x0.aI.aJ,.rd false (aE (aE (aC .i64))) qa x0.aI.aB,.rd false (aE (aC .i64)) uo x0.aA,.rd false (aE (aC .i64)) ua x0.aj,.rd false (aE (aC .i64)) w1 x1.cf,.rd false (aE (aC .i64)) w2 x2.cf] (fun y (_:Unit)=>[.int .i64 y.1,.int .i64 y.2]) (fun y _=>[]):=by
 refine ct (S:=Unit) (db fun _ _=>rfl) Tryz.func16 rfl rfl ?_
 repeat' first
  | ((first | show Dk.ER _ _ _ | show Dk.bd _ _ | show Dk.EF _ _ _ | show Dk.EO _ _ _ | show Dk.EP _ _ | show Dk.ba _ _ _ _ | show Dk.aw _ _ _ _ | show Dk.Kp _ _ _ _ | show Dk.bp _ _ | show Dk.bg _ _ _ _); repeat' first | exact rfl | (refine @id.{0} _ ?_; constructor))
  | intro _
  | exact rfl
  | (refine @id.{0} _ ?_; constructor)
  | apply Dk.any (id:=3) 6 [] [] [[],[],[],[0,1,2,0],[3,0,1,2,0],[3,0,1,2,0]] (by kernel_rfl)
  | apply I2
  | apply WG
  | apply c44
  | exact ()
end Go.Proofs.YtgjbmjjihmfppaaGreat
