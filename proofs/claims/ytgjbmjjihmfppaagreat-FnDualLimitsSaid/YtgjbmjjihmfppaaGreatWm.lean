/- Walks by the calculus D. No condition beside those that each theorem names. -/
import Derived.Test.YtgjbmjjihmfppaaGreatDi
import Derived.Test.YtgjbmjjihmfppaaGreatMo
import Derived.Test.YtgjbmjjihmfppaaGreatDp
import Derived.Test.YtgjbmjjihmfppaaGreatDs
import Derived.Test.YtgjbmjjihmfppaaGreatWb
import Derived.Test.YtgjbmjjihmfppaaGreatWc
import Derived.Test.YtgjbmjjihmfppaaGreatWd
import Derived.Test.YtgjbmjjihmfppaaGreatWf
import Derived.Test.YtgjbmjjihmfppaaGreatWg
import Derived.Test.YtgjbmjjihmfppaaGreatWi
import Derived.Test.YtgjbmjjihmfppaaGreatWj
import Derived.Test.YtgjbmjjihmfppaaGreatWk
import Derived.Test.YtgjbmjjihmfppaaGreatWl
namespace Go.Proofs.YtgjbmjjihmfppaaGreat
open Go Go.Li Go.Dk
set_option linter.unusedVariables false
set_option maxHeartbeats 16000000
set_option maxRecDepth 100000
theorem c62 {x0:aL} {cH:Nat} {bK:Value}:Ct Tryz.prog 62 false (nM x0) [.pointer (some (⟨cH,0,none⟩))] [.row cH [bK,.int .i64 (x0.At),.int .u64 (x0.au)] 81,.rd false (aE (aC .u8)) bK x0.Code] (fun y (v:Value×Value×Value×Value×Value×Value×Value×Value×Value×Value)=>[.agg #[.int .i64 y.1.aH.aA,v.1,v.2.1,v.2.2.1,v.2.2.2.1,.int .i64 y.1.aI.aA,v.2.2.2.2.1,v.2.2.2.2.2.1,v.2.2.2.2.2.2.1,v.2.2.2.2.2.2.2.1,v.2.2.2.2.2.2.2.2.1,v.2.2.2.2.2.2.2.2.2]]) (fun y v=>[.rd false (aE (aC .i64)) v.1 y.1.aH.aD,.rd false (aE (aC .i64)) v.2.1 y.1.aH.To,.rd false (aE (aC .i64)) v.2.2.1 y.1.aH.aJ,.rd false (aE (aE (aC .i64))) v.2.2.2.1 y.1.aH.aB,.rd false (aE (aC .i64)) v.2.2.2.2.1 y.1.aI.aD,.rd false (aE (aC .i64)) v.2.2.2.2.2.1 y.1.aI.To,.rd false (aE (aC .i64)) v.2.2.2.2.2.2.1 y.1.aI.aJ,.rd false (aE (aE (aC .i64))) v.2.2.2.2.2.2.2.1 y.1.aI.aB,.rd false (aE (aC .i64)) v.2.2.2.2.2.2.2.2.1 y.1.aA,.rd false (aE (aC .i64)) v.2.2.2.2.2.2.2.2.2 y.1.aj,.row cH [bK,.int .i64 y.2.At,.int .u64 y.2.au] 81]):=by
 refine ct (S:=Unit) uz Tryz.func62 rfl rfl ?_
 repeat' first
  | ((first | show Dk.ER _ _ _ | show Dk.bd _ _ | show Dk.EF _ _ _ | show Dk.EO _ _ _ | show Dk.EP _ _ | show Dk.ba _ _ _ _ | show Dk.aw _ _ _ _ | show Dk.Kp _ _ _ _ | show Dk.bp _ _ | show Dk.bg _ _ _ _); repeat' first | exact rfl | (refine @id.{0} _ ?_; constructor))
  | (intro (v:Value×Value×Value×Value×Value×Value×Value×Value×Value×Value); obtain ⟨_,_,_,_,_,_,_,_,_,_⟩:=v; dsimp only)
  | intro _
  | exact rfl
  | (refine @id.{0} _ ?_; constructor)
  | apply Dk.yg (id:=8) [Dk.av.row _ _ 81] 12 [] [[],[],[],[],[14],[],[],[],[],[],[],[4]] [[],[0],[],[],[2,3],[],[],[6],[7,6],[8,7,6],[9,8,7,6],[5,10,9,8,7,6,4,2,3]] (by kernel_rfl)
  | apply Kr
  | apply c83
  | apply Aj
  | apply acy
  | exact ()
theorem c63 {x0:aL} {cH:Nat} {bK:Value}:Ct Tryz.prog 63 false (kI x0) [.pointer (some (⟨cH,0,none⟩))] [.row cH [bK,.int .i64 (x0.At),.int .u64 (x0.au)] 81,.rd false (aE (aC .u8)) bK x0.Code] (fun y (v:Value×Value×Value×Value×Value×Value×Value×Value×Value×Value)=>[.agg #[.int .i64 y.1.aH.aA,v.1,v.2.1,v.2.2.1,v.2.2.2.1,.int .i64 y.1.aI.aA,v.2.2.2.2.1,v.2.2.2.2.2.1,v.2.2.2.2.2.2.1,v.2.2.2.2.2.2.2.1,v.2.2.2.2.2.2.2.2.1,v.2.2.2.2.2.2.2.2.2]]) (fun y v=>[.rd false (aE (aC .i64)) v.1 y.1.aH.aD,.rd false (aE (aC .i64)) v.2.1 y.1.aH.To,.rd false (aE (aC .i64)) v.2.2.1 y.1.aH.aJ,.rd false (aE (aE (aC .i64))) v.2.2.2.1 y.1.aH.aB,.rd false (aE (aC .i64)) v.2.2.2.2.1 y.1.aI.aD,.rd false (aE (aC .i64)) v.2.2.2.2.2.1 y.1.aI.To,.rd false (aE (aC .i64)) v.2.2.2.2.2.2.1 y.1.aI.aJ,.rd false (aE (aE (aC .i64))) v.2.2.2.2.2.2.2.1 y.1.aI.aB,.rd false (aE (aC .i64)) v.2.2.2.2.2.2.2.2.1 y.1.aA,.rd false (aE (aC .i64)) v.2.2.2.2.2.2.2.2.2 y.1.aj,.row cH [bK,.int .i64 y.2.At,.int .u64 y.2.au] 81]):=by
 refine ct (S:=Unit) uz Tryz.func63 rfl rfl ?_
 repeat' first
  | ((first | show Dk.ER _ _ _ | show Dk.bd _ _ | show Dk.EF _ _ _ | show Dk.EO _ _ _ | show Dk.EP _ _ | show Dk.ba _ _ _ _ | show Dk.aw _ _ _ _ | show Dk.Kp _ _ _ _ | show Dk.bp _ _ | show Dk.bg _ _ _ _); repeat' first | exact rfl | (refine @id.{0} _ ?_; constructor))
  | intro _
  | exact rfl
  | apply Dk.Qe (t:=104)
  | apply Dk.X6 (t:=104)
  | apply Dk.T4 (n:=12)
  | apply Dk.Qc (n:=12)
  | apply Dk.N0 (n:=12)
  | (refine @id.{0} _ ?_; constructor)
  | apply Dk.loop 0 (V:=Unit) (fun (s:Int×Int×Int) v=>[.row cH [bK,.int .i64 (s.2.1),.int .u64 (s.2.2)] 81]) (fun s v=>[(3,.int .i64 (s.1))]) () [(0,_),(2,_)]
  | apply acK
  | apply c80
  | apply YF
  | apply YH
  | apply Aj
  | apply Wt
  | apply YI
  | exact ()
theorem c33 {x0:aL} {cH:Nat} {bK:Value}:Ct Tryz.prog 33 false (kQ x0) [.pointer (some (⟨cH,0,none⟩))] [.row cH [bK,.int .i64 (x0.At),.int .u64 (x0.au)] 81,.rd false (aE (aC .u8)) bK x0.Code] (fun y (v:Value×Value×Value×Value×Value×Value×Value×Value×Value×Value)=>[.agg #[.int .i64 y.1.aH.aA,v.1,v.2.1,v.2.2.1,v.2.2.2.1,.int .i64 y.1.aI.aA,v.2.2.2.2.1,v.2.2.2.2.2.1,v.2.2.2.2.2.2.1,v.2.2.2.2.2.2.2.1,v.2.2.2.2.2.2.2.2.1,v.2.2.2.2.2.2.2.2.2]]) (fun y v=>[.rd false (aE (aC .i64)) v.1 y.1.aH.aD,.rd false (aE (aC .i64)) v.2.1 y.1.aH.To,.rd false (aE (aC .i64)) v.2.2.1 y.1.aH.aJ,.rd false (aE (aE (aC .i64))) v.2.2.2.1 y.1.aH.aB,.rd false (aE (aC .i64)) v.2.2.2.2.1 y.1.aI.aD,.rd false (aE (aC .i64)) v.2.2.2.2.2.1 y.1.aI.To,.rd false (aE (aC .i64)) v.2.2.2.2.2.2.1 y.1.aI.aJ,.rd false (aE (aE (aC .i64))) v.2.2.2.2.2.2.2.1 y.1.aI.aB,.rd false (aE (aC .i64)) v.2.2.2.2.2.2.2.2.1 y.1.aA,.rd false (aE (aC .i64)) v.2.2.2.2.2.2.2.2.2 y.1.aj,.row cH [bK,.int .i64 y.2.At,.int .u64 y.2.au] 81]):=by
 refine ct (S:=Unit) uz Tryz.func33 rfl rfl ?_
 repeat' first
  | ((first | show Dk.ER _ _ _ | show Dk.bd _ _ | show Dk.EF _ _ _ | show Dk.EO _ _ _ | show Dk.EP _ _ | show Dk.ba _ _ _ _ | show Dk.aw _ _ _ _ | show Dk.Kp _ _ _ _ | show Dk.bp _ _ | show Dk.bg _ _ _ _); repeat' first | exact rfl | (refine @id.{0} _ ?_; constructor))
  | intro _
  | exact rfl
  | (refine @id.{0} _ ?_; constructor)
  | apply Aj
  | apply c62
  | apply c63
  | exact ()
theorem c8 {x0:(List Int)} {cY:Value}:Ct Tryz.prog 8 false (iL x0) [cY] [.rd false (aE (aC .u8)) cY x0] (fun y (v:Value×Value×Value×Value×Value×Value×Value×Value×Value×Value)=>[.agg #[.int .i64 y.aH.aA,v.1,v.2.1,v.2.2.1,v.2.2.2.1,.int .i64 y.aI.aA,v.2.2.2.2.1,v.2.2.2.2.2.1,v.2.2.2.2.2.2.1,v.2.2.2.2.2.2.2.1,v.2.2.2.2.2.2.2.2.1,v.2.2.2.2.2.2.2.2.2]]) (fun y v=>[.rd false (aE (aC .i64)) v.1 y.aH.aD,.rd false (aE (aC .i64)) v.2.1 y.aH.To,.rd false (aE (aC .i64)) v.2.2.1 y.aH.aJ,.rd false (aE (aE (aC .i64))) v.2.2.2.1 y.aH.aB,.rd false (aE (aC .i64)) v.2.2.2.2.1 y.aI.aD,.rd false (aE (aC .i64)) v.2.2.2.2.2.1 y.aI.To,.rd false (aE (aC .i64)) v.2.2.2.2.2.2.1 y.aI.aJ,.rd false (aE (aE (aC .i64))) v.2.2.2.2.2.2.2.1 y.aI.aB,.rd false (aE (aC .i64)) v.2.2.2.2.2.2.2.2.1 y.aA,.rd false (aE (aC .i64)) v.2.2.2.2.2.2.2.2.2 y.aj]):=by
 refine ct (S:=Unit) uz Tryz.func8 rfl rfl ?_
 repeat' first
  | ((first | show Dk.ER _ _ _ | show Dk.bd _ _ | show Dk.EF _ _ _ | show Dk.EO _ _ _ | show Dk.EP _ _ | show Dk.ba _ _ _ _ | show Dk.aw _ _ _ _ | show Dk.Kp _ _ _ _ | show Dk.bp _ _ | show Dk.bg _ _ _ _); repeat' first | exact rfl | (refine @id.{0} _ ?_; constructor))
  | intro _
  | exact rfl
  | (refine @id.{0} _ ?_; constructor)
  | apply c34
  | apply c33
  | exact ()
theorem Ue {x0:aN} {aV:Value} {bA:Value} {aS:Value} {aP:Value} {aW:Value} {bB:Value} {aT:Value} {aQ:Value} {bE:Value} {bF:Value}:Ct Tryz.prog 10 false (lG x0) [.agg #[.int .i64 (x0.aH.aA),aV,bA,aS,aP,.int .i64 (x0.aI.aA),aW,bB,aT,aQ,bE,bF]] [.rd false (aE (aC .i64)) aV x0.aH.aD,.rd false (aE (aC .i64)) bA x0.aH.To,.rd false (aE (aC .i64)) aS x0.aH.aJ,.rd false (aE (aE (aC .i64))) aP x0.aH.aB,.rd false (aE (aC .i64)) aW x0.aI.aD,.rd false (aE (aC .i64)) bB x0.aI.To,.rd false (aE (aC .i64)) aT x0.aI.aJ,.rd false (aE (aE (aC .i64))) aQ x0.aI.aB,.rd false (aE (aC .i64)) bE x0.aA,.rd false (aE (aC .i64)) bF x0.aj] (fun y (v:Value)=>[.agg #[.int .i64 y.1.ef,v],.int .i64 y.2]) (fun y v=>[.rd false (aE (aC .i64)) v y.1.cf]):=by
 refine ct (S:=Unit) uz Tryz.func10 rfl rfl ?_
 repeat' first
  | ((first | show Dk.ER _ _ _ | show Dk.bd _ _ | show Dk.EF _ _ _ | show Dk.EO _ _ _ | show Dk.EP _ _ | show Dk.ba _ _ _ _ | show Dk.aw _ _ _ _ | show Dk.Kp _ _ _ _ | show Dk.bp _ _ | show Dk.bg _ _ _ _); repeat' first | exact rfl | (refine @id.{0} _ ?_; constructor))
  | intro _
  | exact rfl
  | (refine @id.{0} _ ?_; constructor)
  | apply c38
  | apply c40
  | apply c39
  | exact ()
theorem c3 {x0:(List Int)} {cY:Value}:Ct Tryz.prog 3 true (iZ x0) [cY] [.rd false (aE (aC .u8)) cY x0] (fun y (_:Unit)=>[.bool y]) (fun y _=>[]):=by
 refine ct (S:=Unit) (db fun _ _=>rfl) Tryz.func3 rfl rfl ?_
 repeat' first
  | ((first | show Dk.ER _ _ _ | show Dk.bd _ _ | show Dk.EF _ _ _ | show Dk.EO _ _ _ | show Dk.EP _ _ | show Dk.ba _ _ _ _ | show Dk.aw _ _ _ _ | show Dk.Kp _ _ _ _ | show Dk.bp _ _ | show Dk.bg _ _ _ _); repeat' first | exact rfl | (refine @id.{0} _ ?_; constructor))
  | intro _
  | exact rfl
  | (refine @id.{0} _ ?_; constructor)
  | apply c7
  | apply c8
  | apply c9
  | apply Ue
  | apply Uf
  | apply Lv
  | apply c13
  | apply c14
  | apply c15
  | apply c16
  | exact ()
theorem pI {w:World} {x0:(List Int)} {cY:Value} {acN:List Nat} (acO:(aE (aC .u8)).rep w.heap [cY] x0 acN) {y:(Bool)} (hm:iZ x0=some y):Calls Tryz.prog 3 #[cY] w (fun e w'=>e = .returned (.bool y)∧ak [] w w'):=
 RC c3 (.fact (RD acO) (.nil)) hm
end Go.Proofs.YtgjbmjjihmfppaaGreat
