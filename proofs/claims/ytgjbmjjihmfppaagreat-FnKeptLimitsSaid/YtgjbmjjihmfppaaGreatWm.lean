/- Walks by the calculus D. No condition beside those that each theorem names. -/
import Derived.Test.YtgjbmjjihmfppaaGreatDi
import Derived.Test.YtgjbmjjihmfppaaGreatMo
import Derived.Test.YtgjbmjjihmfppaaGreatDp
import Derived.Test.YtgjbmjjihmfppaaGreatDs
import Derived.Test.YtgjbmjjihmfppaaGreatWa
import Derived.Test.YtgjbmjjihmfppaaGreatWc
import Derived.Test.YtgjbmjjihmfppaaGreatWd
import Derived.Test.YtgjbmjjihmfppaaGreatWf
import Derived.Test.YtgjbmjjihmfppaaGreatWg
import Derived.Test.YtgjbmjjihmfppaaGreatWh
import Derived.Test.YtgjbmjjihmfppaaGreatWi
import Derived.Test.YtgjbmjjihmfppaaGreatWj
import Derived.Test.YtgjbmjjihmfppaaGreatWk
import Derived.Test.YtgjbmjjihmfppaaGreatWl
namespace Go.Proofs.YtgjbmjjihmfppaaGreat
open Go Go.Li Go.Dk
set_option linter.unusedVariables false
set_option maxHeartbeats 16000000
set_option maxRecDepth 100000
theorem ZG {x0:aK} {cV:Nat} {bW:Value}:Ct Tryz.prog 62 false (jZ x0) [.pointer (some (⟨cV,0,none⟩))] [.row cV [bW,.int .i64 (x0.At),.int .u64 (x0.ao)] 81,.rd false (aB (aC .u8)) bW x0.Code] (fun y (v:Value×Value×Value×Value×Value×Value×Value×Value×Value×Value)=>[.agg #[.int .i64 y.1.aE.aA,v.1,v.2.1,v.2.2.1,v.2.2.2.1,.int .i64 y.1.aH.aA,v.2.2.2.2.1,v.2.2.2.2.2.1,v.2.2.2.2.2.2.1,v.2.2.2.2.2.2.2.1,v.2.2.2.2.2.2.2.2.1,v.2.2.2.2.2.2.2.2.2]]) (fun y v=>[.rd false (aB (aC .i64)) v.1 y.1.aE.aF,.rd false (aB (aC .i64)) v.2.1 y.1.aE.To,.rd false (aB (aC .i64)) v.2.2.1 y.1.aE.aJ,.rd false (aB (aB (aC .i64))) v.2.2.2.1 y.1.aE.aD,.rd false (aB (aC .i64)) v.2.2.2.2.1 y.1.aH.aF,.rd false (aB (aC .i64)) v.2.2.2.2.2.1 y.1.aH.To,.rd false (aB (aC .i64)) v.2.2.2.2.2.2.1 y.1.aH.aJ,.rd false (aB (aB (aC .i64))) v.2.2.2.2.2.2.2.1 y.1.aH.aD,.rd false (aB (aC .i64)) v.2.2.2.2.2.2.2.2.1 y.1.aA,.rd false (aB (aC .i64)) v.2.2.2.2.2.2.2.2.2 y.1.ab,.row cV [bW,.int .i64 y.2.At,.int .u64 y.2.ao] 81]):=by
 refine ct (S:=Unit) tZ Tryz.func62 rfl rfl ?_
 repeat' first
  | ((first | show Dk.ER _ _ _ | show Dk.ba _ _ | show Dk.EF _ _ _ | show Dk.EO _ _ _ | show Dk.EP _ _ | show Dk.aX _ _ _ _ | show Dk.aq _ _ _ _ | show Dk.Kp _ _ _ _ | show Dk.bn _ _ | show Dk.bb _ _ _ _); repeat' first | exact rfl | (refine @id.{0} _ ?_; constructor))
  | (intro (v:Value×Value×Value×Value×Value×Value×Value×Value×Value×Value); obtain ⟨_,_,_,_,_,_,_,_,_,_⟩:=v; dsimp only)
  | intro _
  | exact rfl
  | (refine @id.{0} _ ?_; constructor)
  | apply Dk.wq (id:=8) [Dk.aw.row _ _ 81] 12 [] [[],[],[],[],[14],[],[],[],[],[],[],[4]] [[],[0],[],[],[2,3],[],[],[6],[7,6],[8,7,6],[9,8,7,6],[5,10,9,8,7,6,4,2,3]] (by kernel_rfl)
  | apply LG
  | apply ZD
  | apply zB
  | apply adA
  | exact ()
theorem c63 {x0:aK} {cV:Nat} {bW:Value}:Ct Tryz.prog 63 false (lG x0) [.pointer (some (⟨cV,0,none⟩))] [.row cV [bW,.int .i64 (x0.At),.int .u64 (x0.ao)] 81,.rd false (aB (aC .u8)) bW x0.Code] (fun y (v:Value×Value×Value×Value×Value×Value×Value×Value×Value×Value)=>[.agg #[.int .i64 y.1.aE.aA,v.1,v.2.1,v.2.2.1,v.2.2.2.1,.int .i64 y.1.aH.aA,v.2.2.2.2.1,v.2.2.2.2.2.1,v.2.2.2.2.2.2.1,v.2.2.2.2.2.2.2.1,v.2.2.2.2.2.2.2.2.1,v.2.2.2.2.2.2.2.2.2]]) (fun y v=>[.rd false (aB (aC .i64)) v.1 y.1.aE.aF,.rd false (aB (aC .i64)) v.2.1 y.1.aE.To,.rd false (aB (aC .i64)) v.2.2.1 y.1.aE.aJ,.rd false (aB (aB (aC .i64))) v.2.2.2.1 y.1.aE.aD,.rd false (aB (aC .i64)) v.2.2.2.2.1 y.1.aH.aF,.rd false (aB (aC .i64)) v.2.2.2.2.2.1 y.1.aH.To,.rd false (aB (aC .i64)) v.2.2.2.2.2.2.1 y.1.aH.aJ,.rd false (aB (aB (aC .i64))) v.2.2.2.2.2.2.2.1 y.1.aH.aD,.rd false (aB (aC .i64)) v.2.2.2.2.2.2.2.2.1 y.1.aA,.rd false (aB (aC .i64)) v.2.2.2.2.2.2.2.2.2 y.1.ab,.row cV [bW,.int .i64 y.2.At,.int .u64 y.2.ao] 81]):=by
 refine ct (S:=Unit) tZ Tryz.func63 rfl rfl ?_
 repeat' first
  | ((first | show Dk.ER _ _ _ | show Dk.ba _ _ | show Dk.EF _ _ _ | show Dk.EO _ _ _ | show Dk.EP _ _ | show Dk.aX _ _ _ _ | show Dk.aq _ _ _ _ | show Dk.Kp _ _ _ _ | show Dk.bn _ _ | show Dk.bb _ _ _ _); repeat' first | exact rfl | (refine @id.{0} _ ?_; constructor))
  | intro _
  | exact rfl
  | apply Dk.MH (t:=104)
  | apply Dk.UL (t:=104)
  | apply Dk.Q8 (n:=12)
  | apply Dk.ME (n:=12)
  | apply Dk.KP (n:=12)
  | (refine @id.{0} _ ?_; constructor)
  | apply Dk.loop 0 (V:=Unit) (fun (s:Int×Int×Int) v=>[.row cV [bW,.int .i64 (s.2.1),.int .u64 (s.2.2)] 81]) (fun s v=>[(3,.int .i64 (s.1))]) () [(0,_),(2,_)]
  | apply adJ
  | apply ZE
  | apply W8
  | apply Xh
  | apply zB
  | apply WY
  | apply Xj
  | exact ()
theorem c33 {x0:aK} {cV:Nat} {bW:Value}:Ct Tryz.prog 33 false (oV x0) [.pointer (some (⟨cV,0,none⟩))] [.row cV [bW,.int .i64 (x0.At),.int .u64 (x0.ao)] 81,.rd false (aB (aC .u8)) bW x0.Code] (fun y (v:Value×Value×Value×Value×Value×Value×Value×Value×Value×Value)=>[.agg #[.int .i64 y.1.aE.aA,v.1,v.2.1,v.2.2.1,v.2.2.2.1,.int .i64 y.1.aH.aA,v.2.2.2.2.1,v.2.2.2.2.2.1,v.2.2.2.2.2.2.1,v.2.2.2.2.2.2.2.1,v.2.2.2.2.2.2.2.2.1,v.2.2.2.2.2.2.2.2.2]]) (fun y v=>[.rd false (aB (aC .i64)) v.1 y.1.aE.aF,.rd false (aB (aC .i64)) v.2.1 y.1.aE.To,.rd false (aB (aC .i64)) v.2.2.1 y.1.aE.aJ,.rd false (aB (aB (aC .i64))) v.2.2.2.1 y.1.aE.aD,.rd false (aB (aC .i64)) v.2.2.2.2.1 y.1.aH.aF,.rd false (aB (aC .i64)) v.2.2.2.2.2.1 y.1.aH.To,.rd false (aB (aC .i64)) v.2.2.2.2.2.2.1 y.1.aH.aJ,.rd false (aB (aB (aC .i64))) v.2.2.2.2.2.2.2.1 y.1.aH.aD,.rd false (aB (aC .i64)) v.2.2.2.2.2.2.2.2.1 y.1.aA,.rd false (aB (aC .i64)) v.2.2.2.2.2.2.2.2.2 y.1.ab,.row cV [bW,.int .i64 y.2.At,.int .u64 y.2.ao] 81]):=by
 refine ct (S:=Unit) tZ Tryz.func33 rfl rfl ?_
 repeat' first
  | ((first | show Dk.ER _ _ _ | show Dk.ba _ _ | show Dk.EF _ _ _ | show Dk.EO _ _ _ | show Dk.EP _ _ | show Dk.aX _ _ _ _ | show Dk.aq _ _ _ _ | show Dk.Kp _ _ _ _ | show Dk.bn _ _ | show Dk.bb _ _ _ _); repeat' first | exact rfl | (refine @id.{0} _ ?_; constructor))
  | intro _
  | exact rfl
  | (refine @id.{0} _ ?_; constructor)
  | apply zB
  | apply ZG
  | apply c63
  | exact ()
theorem c45 {x0:aK} {cV:Nat} {bW:Value}:Ct Tryz.prog 45 false (lS x0) [.pointer (some (⟨cV,0,none⟩))] [.row cV [bW,.int .i64 (x0.At),.int .u64 (x0.ao)] 81,.rd false (aB (aC .u8)) bW x0.Code] (fun y (v:Value×Value×Value×Value×Value×Value×Value×Value×Value×Value×Value×Value×Value×Value×Value×Value×Value×Value×Value×Value)=>[.agg #[.int .i64 y.1.aE.aA,v.1,v.2.1,v.2.2.1,v.2.2.2.1,.int .i64 y.1.aH.aA,v.2.2.2.2.1,v.2.2.2.2.2.1,v.2.2.2.2.2.2.1,v.2.2.2.2.2.2.2.1,v.2.2.2.2.2.2.2.2.1,v.2.2.2.2.2.2.2.2.2.1],.agg #[.int .i64 y.2.1.aE.aA,v.2.2.2.2.2.2.2.2.2.2.1,v.2.2.2.2.2.2.2.2.2.2.2.1,v.2.2.2.2.2.2.2.2.2.2.2.2.1,v.2.2.2.2.2.2.2.2.2.2.2.2.2.1,.int .i64 y.2.1.aH.aA,v.2.2.2.2.2.2.2.2.2.2.2.2.2.2.1,v.2.2.2.2.2.2.2.2.2.2.2.2.2.2.2.1,v.2.2.2.2.2.2.2.2.2.2.2.2.2.2.2.2.1,v.2.2.2.2.2.2.2.2.2.2.2.2.2.2.2.2.2.1,v.2.2.2.2.2.2.2.2.2.2.2.2.2.2.2.2.2.2.1,v.2.2.2.2.2.2.2.2.2.2.2.2.2.2.2.2.2.2.2]]) (fun y v=>[.rd false (aB (aC .i64)) v.1 y.1.aE.aF,.rd false (aB (aC .i64)) v.2.1 y.1.aE.To,.rd false (aB (aC .i64)) v.2.2.1 y.1.aE.aJ,.rd false (aB (aB (aC .i64))) v.2.2.2.1 y.1.aE.aD,.rd false (aB (aC .i64)) v.2.2.2.2.1 y.1.aH.aF,.rd false (aB (aC .i64)) v.2.2.2.2.2.1 y.1.aH.To,.rd false (aB (aC .i64)) v.2.2.2.2.2.2.1 y.1.aH.aJ,.rd false (aB (aB (aC .i64))) v.2.2.2.2.2.2.2.1 y.1.aH.aD,.rd false (aB (aC .i64)) v.2.2.2.2.2.2.2.2.1 y.1.aA,.rd false (aB (aC .i64)) v.2.2.2.2.2.2.2.2.2.1 y.1.ab,.rd false (aB (aC .i64)) v.2.2.2.2.2.2.2.2.2.2.1 y.2.1.aE.aF,.rd false (aB (aC .i64)) v.2.2.2.2.2.2.2.2.2.2.2.1 y.2.1.aE.To,.rd false (aB (aC .i64)) v.2.2.2.2.2.2.2.2.2.2.2.2.1 y.2.1.aE.aJ,.rd false (aB (aB (aC .i64))) v.2.2.2.2.2.2.2.2.2.2.2.2.2.1 y.2.1.aE.aD,.rd false (aB (aC .i64)) v.2.2.2.2.2.2.2.2.2.2.2.2.2.2.1 y.2.1.aH.aF,.rd false (aB (aC .i64)) v.2.2.2.2.2.2.2.2.2.2.2.2.2.2.2.1 y.2.1.aH.To,.rd false (aB (aC .i64)) v.2.2.2.2.2.2.2.2.2.2.2.2.2.2.2.2.1 y.2.1.aH.aJ,.rd false (aB (aB (aC .i64))) v.2.2.2.2.2.2.2.2.2.2.2.2.2.2.2.2.2.1 y.2.1.aH.aD,.rd false (aB (aC .i64)) v.2.2.2.2.2.2.2.2.2.2.2.2.2.2.2.2.2.2.1 y.2.1.aA,.rd false (aB (aC .i64)) v.2.2.2.2.2.2.2.2.2.2.2.2.2.2.2.2.2.2.2 y.2.1.ab,.row cV [bW,.int .i64 y.2.2.At,.int .u64 y.2.2.ao] 81]):=by
 refine ct (S:=Unit) tZ Tryz.func45 rfl rfl ?_
 repeat' first
  | ((first | show Dk.ER _ _ _ | show Dk.ba _ _ | show Dk.EF _ _ _ | show Dk.EO _ _ _ | show Dk.EP _ _ | show Dk.aX _ _ _ _ | show Dk.aq _ _ _ _ | show Dk.Kp _ _ _ _ | show Dk.bn _ _ | show Dk.bb _ _ _ _); repeat' first | exact rfl | (refine @id.{0} _ ?_; constructor))
  | intro _
  | exact rfl
  | (apply Dk.Rb (t:=16); exact rfl)
  | apply Dk.AD.akM (f:=62)
  | apply Dk.AD.Ml (f:=62)
  | apply Dk.AD.aiI (f:=62)
  | apply Dk.MH (t:=104)
  | apply Dk.UL (t:=104)
  | apply Dk.Q8 (n:=12)
  | apply Dk.ME (n:=12)
  | apply Dk.KP (n:=12)
  | (refine @id.{0} _ ?_; constructor)
  | apply Dk.wq (id:=3) [Dk.aw.row _ _ 81] 3 [] [[],[],[5]] [[],[],[1]] (by kernel_rfl)
  | apply Dk.any (id:=5) 4 [] [] [[],[],[1],[2,1]] (by kernel_rfl)
  | apply Dk.wq (id:=11) [Dk.aw.row _ _ 81] 5 [] [[],[],[],[],[7]] [[],[],[],[2],[1,3,2]] (by kernel_rfl)
  | apply Dk.X1 (id:=10) [0,1,2,3,4] 5 [6,7] [8,9] 6 (iy Ht) 81 (by kernel_rfl)
  | apply c33
  | apply zB
  | apply ZF
  | apply ZG
  | apply Xj
  | apply ZE
  | apply W8
  | apply Xh
  | apply ZD
  | exact ()
theorem c25 {x0:(List Int)} {cY:Value}:Ct Tryz.prog 25 false (jB x0) [cY] [.rd false (aB (aC .u8)) cY x0] (fun y (v:Value×Value×Value×Value×Value×Value×Value×Value×Value×Value×Value×Value×Value×Value×Value×Value×Value×Value×Value×Value)=>[.agg #[.int .i64 y.1.aE.aA,v.1,v.2.1,v.2.2.1,v.2.2.2.1,.int .i64 y.1.aH.aA,v.2.2.2.2.1,v.2.2.2.2.2.1,v.2.2.2.2.2.2.1,v.2.2.2.2.2.2.2.1,v.2.2.2.2.2.2.2.2.1,v.2.2.2.2.2.2.2.2.2.1],.agg #[.int .i64 y.2.aE.aA,v.2.2.2.2.2.2.2.2.2.2.1,v.2.2.2.2.2.2.2.2.2.2.2.1,v.2.2.2.2.2.2.2.2.2.2.2.2.1,v.2.2.2.2.2.2.2.2.2.2.2.2.2.1,.int .i64 y.2.aH.aA,v.2.2.2.2.2.2.2.2.2.2.2.2.2.2.1,v.2.2.2.2.2.2.2.2.2.2.2.2.2.2.2.1,v.2.2.2.2.2.2.2.2.2.2.2.2.2.2.2.2.1,v.2.2.2.2.2.2.2.2.2.2.2.2.2.2.2.2.2.1,v.2.2.2.2.2.2.2.2.2.2.2.2.2.2.2.2.2.2.1,v.2.2.2.2.2.2.2.2.2.2.2.2.2.2.2.2.2.2.2]]) (fun y v=>[.rd false (aB (aC .i64)) v.1 y.1.aE.aF,.rd false (aB (aC .i64)) v.2.1 y.1.aE.To,.rd false (aB (aC .i64)) v.2.2.1 y.1.aE.aJ,.rd false (aB (aB (aC .i64))) v.2.2.2.1 y.1.aE.aD,.rd false (aB (aC .i64)) v.2.2.2.2.1 y.1.aH.aF,.rd false (aB (aC .i64)) v.2.2.2.2.2.1 y.1.aH.To,.rd false (aB (aC .i64)) v.2.2.2.2.2.2.1 y.1.aH.aJ,.rd false (aB (aB (aC .i64))) v.2.2.2.2.2.2.2.1 y.1.aH.aD,.rd false (aB (aC .i64)) v.2.2.2.2.2.2.2.2.1 y.1.aA,.rd false (aB (aC .i64)) v.2.2.2.2.2.2.2.2.2.1 y.1.ab,.rd false (aB (aC .i64)) v.2.2.2.2.2.2.2.2.2.2.1 y.2.aE.aF,.rd false (aB (aC .i64)) v.2.2.2.2.2.2.2.2.2.2.2.1 y.2.aE.To,.rd false (aB (aC .i64)) v.2.2.2.2.2.2.2.2.2.2.2.2.1 y.2.aE.aJ,.rd false (aB (aB (aC .i64))) v.2.2.2.2.2.2.2.2.2.2.2.2.2.1 y.2.aE.aD,.rd false (aB (aC .i64)) v.2.2.2.2.2.2.2.2.2.2.2.2.2.2.1 y.2.aH.aF,.rd false (aB (aC .i64)) v.2.2.2.2.2.2.2.2.2.2.2.2.2.2.2.1 y.2.aH.To,.rd false (aB (aC .i64)) v.2.2.2.2.2.2.2.2.2.2.2.2.2.2.2.2.1 y.2.aH.aJ,.rd false (aB (aB (aC .i64))) v.2.2.2.2.2.2.2.2.2.2.2.2.2.2.2.2.2.1 y.2.aH.aD,.rd false (aB (aC .i64)) v.2.2.2.2.2.2.2.2.2.2.2.2.2.2.2.2.2.2.1 y.2.aA,.rd false (aB (aC .i64)) v.2.2.2.2.2.2.2.2.2.2.2.2.2.2.2.2.2.2.2 y.2.ab]):=by
 refine ct (S:=Unit) tZ Tryz.func25 rfl rfl ?_
 repeat' first
  | ((first | show Dk.ER _ _ _ | show Dk.ba _ _ | show Dk.EF _ _ _ | show Dk.EO _ _ _ | show Dk.EP _ _ | show Dk.aX _ _ _ _ | show Dk.aq _ _ _ _ | show Dk.Kp _ _ _ _ | show Dk.bn _ _ | show Dk.bb _ _ _ _); repeat' first | exact rfl | (refine @id.{0} _ ?_; constructor))
  | intro _
  | exact rfl
  | (refine @id.{0} _ ?_; constructor)
  | apply Dk.anyS (id:=2) [0,1] [2,3] (by kernel_rfl)
  | apply c34
  | apply c45
  | exact ()
theorem c46 {x0 x1:aM} {p q:Addr} {lz l3 l4 l5 l6 l7 l8 l9 uo ua AU AV AW AX AY AZ A0 A3 wo wa:Value}:Ct Tryz.prog 46 true (pX x0 x1 false) [.pointer (some p),.pointer (some q),.bool false] [.au p [.int .i64 x0.aE.aA,lz,l3,l4,l5,.int .i64 x0.aH.aA,l6,l7,l8,l9,uo,ua],.au q [.int .i64 x1.aE.aA,AU,AV,AW,AX,.int .i64 x1.aH.aA,AY,AZ,A0,A3,wo,wa],.rd false (aB (aC .i64)) lz x0.aE.aF,.rd false (aB (aC .i64)) l3 x0.aE.To,.rd false (aB (aC .i64)) l4 x0.aE.aJ,.rd false (aB (aB (aC .i64))) l5 x0.aE.aD,.rd false (aB (aC .i64)) l6 x0.aH.aF,.rd false (aB (aC .i64)) l7 x0.aH.To,.rd false (aB (aC .i64)) l8 x0.aH.aJ,.rd false (aB (aB (aC .i64))) l9 x0.aH.aD,.rd false (aB (aC .i64)) uo x0.aA,.rd false (aB (aC .i64)) ua x0.ab,.rd false (aB (aC .i64)) AU x1.aE.aF,.rd false (aB (aC .i64)) AV x1.aE.To,.rd false (aB (aC .i64)) AW x1.aE.aJ,.rd false (aB (aB (aC .i64))) AX x1.aE.aD,.rd false (aB (aC .i64)) AY x1.aH.aF,.rd false (aB (aC .i64)) AZ x1.aH.To,.rd false (aB (aC .i64)) A0 x1.aH.aJ,.rd false (aB (aB (aC .i64))) A3 x1.aH.aD,.rd false (aB (aC .i64)) wo x1.aA,.rd false (aB (aC .i64)) wa x1.ab] (fun y (_:Unit)=>[.bool y.1,.int .i64 y.2]) (fun _ _=>[]):=by
 refine ct (S:=Unit) (ca fun _ _=>rfl) Tryz.func46 rfl rfl ?_
 repeat' first
  | ((first | show Dk.ER _ _ _ | show Dk.ba _ _ | show Dk.EF _ _ _ | show Dk.EO _ _ _ | show Dk.EP _ _ | show Dk.aX _ _ _ _ | show Dk.aq _ _ _ _ | show Dk.Kp _ _ _ _ | show Dk.bn _ _ | show Dk.bb _ _ _ _); repeat' first | exact rfl | (refine @id.{0} _ ?_; constructor))
  | intro _
  | exact rfl
  | (refine @id.{0} _ ?_; constructor)
  | apply c84
  | apply c85
  | exact ()
theorem c20 {x0:aM} {aU:Value} {aW:Value} {aR:Value} {aP:Value} {aV:Value} {aY:Value} {aS:Value} {aQ:Value} {bC:Value} {bF:Value} {x1:aM} {bT:Value} {bZ:Value} {bI:Value} {bG:Value} {bU:Value} {cA:Value} {bJ:Value} {bH:Value} {cJ:Value} {cM:Value}:Ct Tryz.prog 20 true (lK x0 x1) [.agg #[.int .i64 (x0.aE.aA),aU,aW,aR,aP,.int .i64 (x0.aH.aA),aV,aY,aS,aQ,bC,bF],.agg #[.int .i64 (x1.aE.aA),bT,bZ,bI,bG,.int .i64 (x1.aH.aA),bU,cA,bJ,bH,cJ,cM]] [.rd false (aB (aC .i64)) aU x0.aE.aF,.rd false (aB (aC .i64)) aW x0.aE.To,.rd false (aB (aC .i64)) aR x0.aE.aJ,.rd false (aB (aB (aC .i64))) aP x0.aE.aD,.rd false (aB (aC .i64)) aV x0.aH.aF,.rd false (aB (aC .i64)) aY x0.aH.To,.rd false (aB (aC .i64)) aS x0.aH.aJ,.rd false (aB (aB (aC .i64))) aQ x0.aH.aD,.rd false (aB (aC .i64)) bC x0.aA,.rd false (aB (aC .i64)) bF x0.ab,.rd false (aB (aC .i64)) bT x1.aE.aF,.rd false (aB (aC .i64)) bZ x1.aE.To,.rd false (aB (aC .i64)) bI x1.aE.aJ,.rd false (aB (aB (aC .i64))) bG x1.aE.aD,.rd false (aB (aC .i64)) bU x1.aH.aF,.rd false (aB (aC .i64)) cA x1.aH.To,.rd false (aB (aC .i64)) bJ x1.aH.aJ,.rd false (aB (aB (aC .i64))) bH x1.aH.aD,.rd false (aB (aC .i64)) cJ x1.aA,.rd false (aB (aC .i64)) cM x1.ab] (fun y (_:Unit)=>[.bool y.1,.int .i64 y.2]) (fun y _=>[]):=by
 refine ct (S:=Unit) (ca fun _ _=>rfl) Tryz.func20 rfl rfl ?_
 repeat' first
  | ((first | show Dk.ER _ _ _ | show Dk.ba _ _ | show Dk.EF _ _ _ | show Dk.EO _ _ _ | show Dk.EP _ _ | show Dk.aX _ _ _ _ | show Dk.aq _ _ _ _ | show Dk.Kp _ _ _ _ | show Dk.bn _ _ | show Dk.bb _ _ _ _); repeat' first | exact rfl | (refine @id.{0} _ ?_; constructor))
  | intro _
  | exact rfl
  | (refine @id.{0} _ ?_; constructor)
  | apply c46
  | exact ()
theorem c48 {x0:aM} {aU:Value} {aW:Value} {aR:Value} {aP:Value} {aV:Value} {aY:Value} {aS:Value} {aQ:Value} {bC:Value} {bF:Value} {x1:aM} {bT:Value} {bZ:Value} {bI:Value} {bG:Value} {bU:Value} {cA:Value} {bJ:Value} {bH:Value} {cJ:Value} {cM:Value} {x2:aM} {iZ:Value} {kL:Value} {fY:Value} {fF:Value} {jA:Value} {kM:Value} {fZ:Value} {fG:Value} {mH:Value} {nD:Value}:Ct Tryz.prog 48 true (jG x0 x1 x2) [.agg #[.int .i64 (x0.aE.aA),aU,aW,aR,aP,.int .i64 (x0.aH.aA),aV,aY,aS,aQ,bC,bF],.agg #[.int .i64 (x1.aE.aA),bT,bZ,bI,bG,.int .i64 (x1.aH.aA),bU,cA,bJ,bH,cJ,cM],.agg #[.int .i64 (x2.aE.aA),iZ,kL,fY,fF,.int .i64 (x2.aH.aA),jA,kM,fZ,fG,mH,nD]] [.rd false (aB (aC .i64)) aU x0.aE.aF,.rd false (aB (aC .i64)) aW x0.aE.To,.rd false (aB (aC .i64)) aR x0.aE.aJ,.rd false (aB (aB (aC .i64))) aP x0.aE.aD,.rd false (aB (aC .i64)) aV x0.aH.aF,.rd false (aB (aC .i64)) aY x0.aH.To,.rd false (aB (aC .i64)) aS x0.aH.aJ,.rd false (aB (aB (aC .i64))) aQ x0.aH.aD,.rd false (aB (aC .i64)) bC x0.aA,.rd false (aB (aC .i64)) bF x0.ab,.rd false (aB (aC .i64)) bT x1.aE.aF,.rd false (aB (aC .i64)) bZ x1.aE.To,.rd false (aB (aC .i64)) bI x1.aE.aJ,.rd false (aB (aB (aC .i64))) bG x1.aE.aD,.rd false (aB (aC .i64)) bU x1.aH.aF,.rd false (aB (aC .i64)) cA x1.aH.To,.rd false (aB (aC .i64)) bJ x1.aH.aJ,.rd false (aB (aB (aC .i64))) bH x1.aH.aD,.rd false (aB (aC .i64)) cJ x1.aA,.rd false (aB (aC .i64)) cM x1.ab,.rd false (aB (aC .i64)) iZ x2.aE.aF,.rd false (aB (aC .i64)) kL x2.aE.To,.rd false (aB (aC .i64)) fY x2.aE.aJ,.rd false (aB (aB (aC .i64))) fF x2.aE.aD,.rd false (aB (aC .i64)) jA x2.aH.aF,.rd false (aB (aC .i64)) kM x2.aH.To,.rd false (aB (aC .i64)) fZ x2.aH.aJ,.rd false (aB (aB (aC .i64))) fG x2.aH.aD,.rd false (aB (aC .i64)) mH x2.aA,.rd false (aB (aC .i64)) nD x2.ab] (fun y (_:Unit)=>[.bool y.1,.int .i64 y.2]) (fun y _=>[]):=by
 refine ct (S:=Unit) (ca fun _ _=>rfl) Tryz.func48 rfl rfl ?_
 repeat' first
  | ((first | show Dk.ER _ _ _ | show Dk.ba _ _ | show Dk.EF _ _ _ | show Dk.EO _ _ _ | show Dk.EP _ _ | show Dk.aX _ _ _ _ | show Dk.aq _ _ _ _ | show Dk.Kp _ _ _ _ | show Dk.bn _ _ | show Dk.bb _ _ _ _); repeat' first | exact rfl | (refine @id.{0} _ ?_; constructor))
  | intro _
  | exact rfl
  | (refine @id.{0} _ ?_; constructor)
  | apply Dk.loop 0 (V:=Unit) (fun (s:Int) v=>[]) (fun s v=>[(11,.int .i64 (s))]) () [(3,_),(4,_),(5,_),(8,_),(9,_)]
  | apply Dk.quiet (id:=7) (by kernel_rfl)
  | apply Dk.any (id:=8) 8 [] [] [[],[],[],[],[2,3],[4,2,3],[],[5,4,2,3,6]] (by kernel_rfl)
  | apply c88
  | apply c70
  | apply c89
  | exact ()
theorem c26 {x0:aM} {aU:Value} {aW:Value} {aR:Value} {aP:Value} {aV:Value} {aY:Value} {aS:Value} {aQ:Value} {bC:Value} {bF:Value} {x1:aM} {bT:Value} {bZ:Value} {bI:Value} {bG:Value} {bU:Value} {cA:Value} {bJ:Value} {bH:Value} {cJ:Value} {cM:Value}:Ct Tryz.prog 26 true (lM x0 x1) [.agg #[.int .i64 (x0.aE.aA),aU,aW,aR,aP,.int .i64 (x0.aH.aA),aV,aY,aS,aQ,bC,bF],.agg #[.int .i64 (x1.aE.aA),bT,bZ,bI,bG,.int .i64 (x1.aH.aA),bU,cA,bJ,bH,cJ,cM]] [.rd false (aB (aC .i64)) aU x0.aE.aF,.rd false (aB (aC .i64)) aW x0.aE.To,.rd false (aB (aC .i64)) aR x0.aE.aJ,.rd false (aB (aB (aC .i64))) aP x0.aE.aD,.rd false (aB (aC .i64)) aV x0.aH.aF,.rd false (aB (aC .i64)) aY x0.aH.To,.rd false (aB (aC .i64)) aS x0.aH.aJ,.rd false (aB (aB (aC .i64))) aQ x0.aH.aD,.rd false (aB (aC .i64)) bC x0.aA,.rd false (aB (aC .i64)) bF x0.ab,.rd false (aB (aC .i64)) bT x1.aE.aF,.rd false (aB (aC .i64)) bZ x1.aE.To,.rd false (aB (aC .i64)) bI x1.aE.aJ,.rd false (aB (aB (aC .i64))) bG x1.aE.aD,.rd false (aB (aC .i64)) bU x1.aH.aF,.rd false (aB (aC .i64)) cA x1.aH.To,.rd false (aB (aC .i64)) bJ x1.aH.aJ,.rd false (aB (aB (aC .i64))) bH x1.aH.aD,.rd false (aB (aC .i64)) cJ x1.aA,.rd false (aB (aC .i64)) cM x1.ab] (fun y (_:Unit)=>[.bool y.1,.int .i64 y.2]) (fun y _=>[]):=by
 refine ct (S:=Unit) (ca fun _ _=>rfl) Tryz.func26 rfl rfl ?_
 repeat' first
  | ((first | show Dk.ER _ _ _ | show Dk.ba _ _ | show Dk.EF _ _ _ | show Dk.EO _ _ _ | show Dk.EP _ _ | show Dk.aX _ _ _ _ | show Dk.aq _ _ _ _ | show Dk.Kp _ _ _ _ | show Dk.bn _ _ | show Dk.bb _ _ _ _); repeat' first | exact rfl | (refine @id.{0} _ ?_; constructor))
  | intro _
  | exact rfl
  | (refine @id.{0} _ ?_; constructor)
  | apply c47
  | apply c48
  | exact ()
theorem c5 {x0:(List Int)} {cY:Value}:Ct Tryz.prog 5 true (jU x0) [cY] [.rd false (aB (aC .u8)) cY x0] (fun y (_:Unit)=>[.bool y]) (fun y _=>[]):=by
 refine ct (S:=Unit) (ca fun _ _=>rfl) Tryz.func5 rfl rfl ?_
 repeat' first
  | ((first | show Dk.ER _ _ _ | show Dk.ba _ _ | show Dk.EF _ _ _ | show Dk.EO _ _ _ | show Dk.EP _ _ | show Dk.aX _ _ _ _ | show Dk.aq _ _ _ _ | show Dk.Kp _ _ _ _ | show Dk.bn _ _ | show Dk.bb _ _ _ _); repeat' first | exact rfl | (refine @id.{0} _ ?_; constructor))
  | intro _
  | exact rfl
  | (refine @id.{0} _ ?_; constructor)
  | apply c7
  | apply c25
  | apply c20
  | apply c26
  | apply c14
  | apply c27
  | apply c28
  | apply c29
  | exact ()
theorem rB {w:World} {x0:(List Int)} {cY:Value} {adM:List Nat} (adN:(aB (aC .u8)).rep w.heap [cY] x0 adM) {y:(Bool)} (hm:jU x0=some y):Calls Tryz.prog 5 #[cY] w (fun e w'=>e = .returned (.bool y)∧an [] w w'):=
 Sr c5 (.fact (Ss adN) (.nil)) hm
end Go.Proofs.YtgjbmjjihmfppaaGreat
