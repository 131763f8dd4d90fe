/- Walks by the calculus D. No condition beside those that each theorem names. -/
import Derived.Test.YtgjbmjjihmfppaaGreatDp
import Derived.Test.YtgjbmjjihmfppaaGreatDi
import Derived.Test.YtgjbmjjihmfppaaGreatMo
import Derived.Test.YtgjbmjjihmfppaaGreatDs
import Derived.Test.YtgjbmjjihmfppaaGreatWb
import Derived.Test.YtgjbmjjihmfppaaGreatWc
import Derived.Test.YtgjbmjjihmfppaaGreatWd
import Derived.Test.YtgjbmjjihmfppaaGreatWe
import Derived.Test.YtgjbmjjihmfppaaGreatWg
import Derived.Test.YtgjbmjjihmfppaaGreatWi
import Derived.Test.YtgjbmjjihmfppaaGreatWj
import Derived.Test.YtgjbmjjihmfppaaGreatWk
import Derived.Test.YtgjbmjjihmfppaaGreatWl
namespace Go.Proofs.YtgjbmjjihmfppaaGreat
open Go Go.Li Go.Dk
set_option linter.unusedVariables false
set_option maxHeartbeats 16000000
set_option maxRecDepth 100000
theorem c62 {x0:aK} {dC:Nat} {cA:Value}:Ct Tryz.prog 62 false (kJ x0) [.pointer (some (⟨dC,0,none⟩))] [.row dC [cA,.int .i64 (x0.At),.int .u64 (x0.au)] 81,.rd false (bL (aM .u8)) cA x0.Code] (fun y (v:Value×Value×Value×Value×Value×Value×Value×Value×Value×Value)=>[.agg #[.int .i64 y.1.aC.aA,v.1,v.2.1,v.2.2.1,v.2.2.2.1,.int .i64 y.1.aD.aA,v.2.2.2.2.1,v.2.2.2.2.2.1,v.2.2.2.2.2.2.1,v.2.2.2.2.2.2.2.1,v.2.2.2.2.2.2.2.2.1,v.2.2.2.2.2.2.2.2.2]]) (fun y v=>[rI v.1 y.1.aC.aE,rI v.2.1 y.1.aC.To,rI v.2.2.1 y.1.aC.aH,rJ v.2.2.2.1 y.1.aC.aB,rI v.2.2.2.2.1 y.1.aD.aE,rI v.2.2.2.2.2.1 y.1.aD.To,rI v.2.2.2.2.2.2.1 y.1.aD.aH,rJ v.2.2.2.2.2.2.2.1 y.1.aD.aB,rI v.2.2.2.2.2.2.2.2.1 y.1.aA,rI v.2.2.2.2.2.2.2.2.2 y.1.ab,.row dC [cA,.int .i64 y.2.At,.int .u64 y.2.au] 81]):=by
 refine ct (S:=Unit) u9 Tryz.func62 rfl rfl ?_
 repeat' first
  | (apply Dk.fe; repeat' first | exact rfl | (refine @id.{0} _ ?_; constructor))
  | (intro (v:Value×Value×Value×Value×Value×Value×Value×Value×Value×Value); obtain ⟨_,_,_,_,_,_,_,_,_,_⟩:=v; dsimp only)
  | intro _
  | exact rfl
  | (refine @id.{0} _ ?_; constructor)
  | apply Dk.xD (id:=8) [Dk.aX.row _ _ 81] 12 [] [[],[],[],[],[14],[],[],[],[],[],[],[4]] [[],[0],[],[],[2,3],[],[],[6],[7,6],[8,7,6],[9,8,7,6],[5,10,9,8,7,6,4,2,3]] (by kernel_rfl)
  | apply Nb
  | apply c83
  | apply AL
  | apply afG
  | exact ()
theorem c63 {x0:aK} {dC:Nat} {cA:Value}:Ct Tryz.prog 63 false (lT x0) [.pointer (some (⟨dC,0,none⟩))] [.row dC [cA,.int .i64 (x0.At),.int .u64 (x0.au)] 81,.rd false (bL (aM .u8)) cA x0.Code] (fun y (v:Value×Value×Value×Value×Value×Value×Value×Value×Value×Value)=>[.agg #[.int .i64 y.1.aC.aA,v.1,v.2.1,v.2.2.1,v.2.2.2.1,.int .i64 y.1.aD.aA,v.2.2.2.2.1,v.2.2.2.2.2.1,v.2.2.2.2.2.2.1,v.2.2.2.2.2.2.2.1,v.2.2.2.2.2.2.2.2.1,v.2.2.2.2.2.2.2.2.2]]) (fun y v=>[rI v.1 y.1.aC.aE,rI v.2.1 y.1.aC.To,rI v.2.2.1 y.1.aC.aH,rJ v.2.2.2.1 y.1.aC.aB,rI v.2.2.2.2.1 y.1.aD.aE,rI v.2.2.2.2.2.1 y.1.aD.To,rI v.2.2.2.2.2.2.1 y.1.aD.aH,rJ v.2.2.2.2.2.2.2.1 y.1.aD.aB,rI v.2.2.2.2.2.2.2.2.1 y.1.aA,rI v.2.2.2.2.2.2.2.2.2 y.1.ab,.row dC [cA,.int .i64 y.2.At,.int .u64 y.2.au] 81]):=by
 refine ct (S:=Unit) u9 Tryz.func63 rfl rfl ?_
 repeat' first
  | (apply Dk.fe; repeat' first | exact rfl | (refine @id.{0} _ ?_; constructor))
  | intro _
  | exact rfl
  | apply Dk.N9 (t:=104)
  | apply Dk.WR (t:=104)
  | apply Dk.N4 (n:=12)
  | apply Dk.N3 (n:=12)
  | apply Dk.Mi (n:=12)
  | (refine @id.{0} _ ?_; constructor)
  | apply Dk.loop 0 (V:=Unit) (fun (s:Int×Int×Int) v=>[.row dC [cA,.int .i64 (s.2.1),.int .u64 (s.2.2)] 81]) (fun s v=>[(3,.int .i64 (s.1))]) () [(0,_),(2,_)]
  | apply afP
  | apply c80
  | apply YY
  | apply Y9
  | apply AL
  | apply YW
  | apply Zb
  | exact ()
theorem c33 {x0:aK} {dC:Nat} {cA:Value}:Ct Tryz.prog 33 false (oZ x0) [.pointer (some (⟨dC,0,none⟩))] [.row dC [cA,.int .i64 (x0.At),.int .u64 (x0.au)] 81,.rd false (bL (aM .u8)) cA x0.Code] (fun y (v:Value×Value×Value×Value×Value×Value×Value×Value×Value×Value)=>[.agg #[.int .i64 y.1.aC.aA,v.1,v.2.1,v.2.2.1,v.2.2.2.1,.int .i64 y.1.aD.aA,v.2.2.2.2.1,v.2.2.2.2.2.1,v.2.2.2.2.2.2.1,v.2.2.2.2.2.2.2.1,v.2.2.2.2.2.2.2.2.1,v.2.2.2.2.2.2.2.2.2]]) (fun y v=>[rI v.1 y.1.aC.aE,rI v.2.1 y.1.aC.To,rI v.2.2.1 y.1.aC.aH,rJ v.2.2.2.1 y.1.aC.aB,rI v.2.2.2.2.1 y.1.aD.aE,rI v.2.2.2.2.2.1 y.1.aD.To,rI v.2.2.2.2.2.2.1 y.1.aD.aH,rJ v.2.2.2.2.2.2.2.1 y.1.aD.aB,rI v.2.2.2.2.2.2.2.2.1 y.1.aA,rI v.2.2.2.2.2.2.2.2.2 y.1.ab,.row dC [cA,.int .i64 y.2.At,.int .u64 y.2.au] 81]):=by
 refine ct (S:=Unit) u9 Tryz.func33 rfl rfl ?_
 repeat' first
  | (apply Dk.fe; repeat' first | exact rfl | (refine @id.{0} _ ?_; constructor))
  | intro _
  | exact rfl
  | (refine @id.{0} _ ?_; constructor)
  | apply AL
  | apply c62
  | apply c63
  | exact ()
theorem c45 {x0:aK} {dC:Nat} {cA:Value}:Ct Tryz.prog 45 false (mD x0) [.pointer (some (⟨dC,0,none⟩))] [.row dC [cA,.int .i64 (x0.At),.int .u64 (x0.au)] 81,.rd false (bL (aM .u8)) cA x0.Code] (fun y (v:Value×Value×Value×Value×Value×Value×Value×Value×Value×Value×Value×Value×Value×Value×Value×Value×Value×Value×Value×Value)=>[.agg #[.int .i64 y.1.aC.aA,v.1,v.2.1,v.2.2.1,v.2.2.2.1,.int .i64 y.1.aD.aA,v.2.2.2.2.1,v.2.2.2.2.2.1,v.2.2.2.2.2.2.1,v.2.2.2.2.2.2.2.1,v.2.2.2.2.2.2.2.2.1,v.2.2.2.2.2.2.2.2.2.1],.agg #[.int .i64 y.2.1.aC.aA,v.2.2.2.2.2.2.2.2.2.2.1,v.2.2.2.2.2.2.2.2.2.2.2.1,v.2.2.2.2.2.2.2.2.2.2.2.2.1,v.2.2.2.2.2.2.2.2.2.2.2.2.2.1,.int .i64 y.2.1.aD.aA,v.2.2.2.2.2.2.2.2.2.2.2.2.2.2.1,v.2.2.2.2.2.2.2.2.2.2.2.2.2.2.2.1,v.2.2.2.2.2.2.2.2.2.2.2.2.2.2.2.2.1,v.2.2.2.2.2.2.2.2.2.2.2.2.2.2.2.2.2.1,v.2.2.2.2.2.2.2.2.2.2.2.2.2.2.2.2.2.2.1,v.2.2.2.2.2.2.2.2.2.2.2.2.2.2.2.2.2.2.2]]) (fun y v=>[rI v.1 y.1.aC.aE,rI v.2.1 y.1.aC.To,rI v.2.2.1 y.1.aC.aH,rJ v.2.2.2.1 y.1.aC.aB,rI v.2.2.2.2.1 y.1.aD.aE,rI v.2.2.2.2.2.1 y.1.aD.To,rI v.2.2.2.2.2.2.1 y.1.aD.aH,rJ v.2.2.2.2.2.2.2.1 y.1.aD.aB,rI v.2.2.2.2.2.2.2.2.1 y.1.aA,rI v.2.2.2.2.2.2.2.2.2.1 y.1.ab,rI v.2.2.2.2.2.2.2.2.2.2.1 y.2.1.aC.aE,rI v.2.2.2.2.2.2.2.2.2.2.2.1 y.2.1.aC.To,rI v.2.2.2.2.2.2.2.2.2.2.2.2.1 y.2.1.aC.aH,rJ v.2.2.2.2.2.2.2.2.2.2.2.2.2.1 y.2.1.aC.aB,rI v.2.2.2.2.2.2.2.2.2.2.2.2.2.2.1 y.2.1.aD.aE,rI v.2.2.2.2.2.2.2.2.2.2.2.2.2.2.2.1 y.2.1.aD.To,rI v.2.2.2.2.2.2.2.2.2.2.2.2.2.2.2.2.1 y.2.1.aD.aH,rJ v.2.2.2.2.2.2.2.2.2.2.2.2.2.2.2.2.2.1 y.2.1.aD.aB,rI v.2.2.2.2.2.2.2.2.2.2.2.2.2.2.2.2.2.2.1 y.2.1.aA,rI v.2.2.2.2.2.2.2.2.2.2.2.2.2.2.2.2.2.2.2 y.2.1.ab,.row dC [cA,.int .i64 y.2.2.At,.int .u64 y.2.2.au] 81]):=by
 refine ct (S:=Unit) u9 Tryz.func45 rfl rfl ?_
 repeat' first
  | (apply Dk.fe; repeat' first | exact rfl | (refine @id.{0} _ ?_; constructor))
  | intro _
  | exact rfl
  | (apply Dk.N8 (t:=16); exact rfl)
  | apply Dk.AD.am9 (f:=62)
  | apply Dk.AD.NI (f:=62)
  | apply Dk.AD.akT (f:=62)
  | apply Dk.N9 (t:=104)
  | apply Dk.WR (t:=104)
  | apply Dk.N4 (n:=12)
  | apply Dk.N3 (n:=12)
  | apply Dk.Mi (n:=12)
  | (refine @id.{0} _ ?_; constructor)
  | apply Dk.xD (id:=3) [Dk.aX.row _ _ 81] 3 [] [[],[],[5]] [[],[],[1]] (by kernel_rfl)
  | apply Dk.any (id:=5) 4 [] [] [[],[],[1],[2,1]] (by kernel_rfl)
  | apply Dk.xD (id:=11) [Dk.aX.row _ _ 81] 5 [] [[],[],[],[],[7]] [[],[],[],[2],[1,3,2]] (by kernel_rfl)
  | apply Dk.ZT (id:=10) [0,1,2,3,4] 5 [6,7] [8,9] 6 (iu IS) 81 (by kernel_rfl)
  | apply c33
  | apply AL
  | apply c38
  | apply c62
  | apply Zb
  | apply c80
  | apply YY
  | apply Y9
  | apply c83
  | exact ()
theorem c30 {x0:(List Int)} {cX:Value}:Ct Tryz.prog 30 false (gT x0) [cX] [.rd false (bL (aM .u8)) cX x0] (fun y (v:Value×Value×Value×Value×Value×Value×Value×Value×Value×Value×Value×Value×Value×Value×Value×Value×Value×Value×Value×Value)=>[.agg #[.int .i64 y.1.aC.aA,v.1,v.2.1,v.2.2.1,v.2.2.2.1,.int .i64 y.1.aD.aA,v.2.2.2.2.1,v.2.2.2.2.2.1,v.2.2.2.2.2.2.1,v.2.2.2.2.2.2.2.1,v.2.2.2.2.2.2.2.2.1,v.2.2.2.2.2.2.2.2.2.1],.agg #[.int .i64 y.2.aC.aA,v.2.2.2.2.2.2.2.2.2.2.1,v.2.2.2.2.2.2.2.2.2.2.2.1,v.2.2.2.2.2.2.2.2.2.2.2.2.1,v.2.2.2.2.2.2.2.2.2.2.2.2.2.1,.int .i64 y.2.aD.aA,v.2.2.2.2.2.2.2.2.2.2.2.2.2.2.1,v.2.2.2.2.2.2.2.2.2.2.2.2.2.2.2.1,v.2.2.2.2.2.2.2.2.2.2.2.2.2.2.2.2.1,v.2.2.2.2.2.2.2.2.2.2.2.2.2.2.2.2.2.1,v.2.2.2.2.2.2.2.2.2.2.2.2.2.2.2.2.2.2.1,v.2.2.2.2.2.2.2.2.2.2.2.2.2.2.2.2.2.2.2]]) (fun y v=>[rI v.1 y.1.aC.aE,rI v.2.1 y.1.aC.To,rI v.2.2.1 y.1.aC.aH,rJ v.2.2.2.1 y.1.aC.aB,rI v.2.2.2.2.1 y.1.aD.aE,rI v.2.2.2.2.2.1 y.1.aD.To,rI v.2.2.2.2.2.2.1 y.1.aD.aH,rJ v.2.2.2.2.2.2.2.1 y.1.aD.aB,rI v.2.2.2.2.2.2.2.2.1 y.1.aA,rI v.2.2.2.2.2.2.2.2.2.1 y.1.ab,rI v.2.2.2.2.2.2.2.2.2.2.1 y.2.aC.aE,rI v.2.2.2.2.2.2.2.2.2.2.2.1 y.2.aC.To,rI v.2.2.2.2.2.2.2.2.2.2.2.2.1 y.2.aC.aH,rJ v.2.2.2.2.2.2.2.2.2.2.2.2.2.1 y.2.aC.aB,rI v.2.2.2.2.2.2.2.2.2.2.2.2.2.2.1 y.2.aD.aE,rI v.2.2.2.2.2.2.2.2.2.2.2.2.2.2.2.1 y.2.aD.To,rI v.2.2.2.2.2.2.2.2.2.2.2.2.2.2.2.2.1 y.2.aD.aH,rJ v.2.2.2.2.2.2.2.2.2.2.2.2.2.2.2.2.2.1 y.2.aD.aB,rI v.2.2.2.2.2.2.2.2.2.2.2.2.2.2.2.2.2.2.1 y.2.aA,rI v.2.2.2.2.2.2.2.2.2.2.2.2.2.2.2.2.2.2.2 y.2.ab]):=by
 refine ct (S:=Unit) u9 Tryz.func30 rfl rfl ?_
 repeat' first
  | (apply Dk.fe; repeat' first | exact rfl | (refine @id.{0} _ ?_; constructor))
  | intro _
  | exact rfl
  | (refine @id.{0} _ ?_; constructor)
  | apply Dk.anyS (id:=2) [0,1] [2,3] (by kernel_rfl)
  | apply c34
  | apply c45
  | exact ()
theorem U4 {x0 x1:aI} {p q:Addr} {jz j3 j4 j5 j6 j7 j8 j9 uo ua tH tI tJ tK tL tM tN tO wo wa:Value}:Ct Tryz.prog 49 true (lP (fun a0=>gC a0) x0 x1 false) [.pointer (some p),.pointer (some q),.bool false,.func (.func 50) #[] #[]] [.ay p [.int .i64 x0.aC.aA,jz,j3,j4,j5,.int .i64 x0.aD.aA,j6,j7,j8,j9,uo,ua],.ay q [.int .i64 x1.aC.aA,tH,tI,tJ,tK,.int .i64 x1.aD.aA,tL,tM,tN,tO,wo,wa],rI jz x0.aC.aE,rI j3 x0.aC.To,rI j4 x0.aC.aH,rJ j5 x0.aC.aB,rI j6 x0.aD.aE,rI j7 x0.aD.To,rI j8 x0.aD.aH,rJ j9 x0.aD.aB,rI uo x0.aA,rI ua x0.ab,rI tH x1.aC.aE,rI tI x1.aC.To,rI tJ x1.aC.aH,rJ tK x1.aC.aB,rI tL x1.aD.aE,rI tM x1.aD.To,rI tN x1.aD.aH,rJ tO x1.aD.aB,rI wo x1.aA,rI wa x1.ab] (fun y (_:Unit)=>[.bool y.1,.int .i64 y.2]) (fun _ _=>[]):=by
 refine ct (S:=Unit) (ca fun _ _=>rfl) Tryz.func49 rfl rfl ?_
 repeat' first
  | (apply Dk.fe; repeat' first | exact rfl | (refine @id.{0} _ ?_; constructor))
  | intro _
  | exact rfl
  | (refine @id.{0} _ ?_; constructor)
  | apply Ze
  | apply c50
  | exact ()
theorem U5 {x0 x1:aI} {p q:Addr} {jz j3 j4 j5 j6 j7 j8 j9 uo ua tH tI tJ tK tL tM tN tO wo wa:Value}:Ct Tryz.prog 49 true (lP (fun a0=>hJ a0) x0 x1 false) [.pointer (some p),.pointer (some q),.bool false,.func (.func 51) #[] #[]] [.ay p [.int .i64 x0.aC.aA,jz,j3,j4,j5,.int .i64 x0.aD.aA,j6,j7,j8,j9,uo,ua],.ay q [.int .i64 x1.aC.aA,tH,tI,tJ,tK,.int .i64 x1.aD.aA,tL,tM,tN,tO,wo,wa],rI jz x0.aC.aE,rI j3 x0.aC.To,rI j4 x0.aC.aH,rJ j5 x0.aC.aB,rI j6 x0.aD.aE,rI j7 x0.aD.To,rI j8 x0.aD.aH,rJ j9 x0.aD.aB,rI uo x0.aA,rI ua x0.ab,rI tH x1.aC.aE,rI tI x1.aC.To,rI tJ x1.aC.aH,rJ tK x1.aC.aB,rI tL x1.aD.aE,rI tM x1.aD.To,rI tN x1.aD.aH,rJ tO x1.aD.aB,rI wo x1.aA,rI wa x1.ab] (fun y (_:Unit)=>[.bool y.1,.int .i64 y.2]) (fun _ _=>[]):=by
 refine ct (S:=Unit) (ca fun _ _=>rfl) Tryz.func49 rfl rfl ?_
 repeat' first
  | (apply Dk.fe; repeat' first | exact rfl | (refine @id.{0} _ ?_; constructor))
  | intro _
  | exact rfl
  | (refine @id.{0} _ ?_; constructor)
  | apply Ze
  | apply c51
  | exact ()
theorem c24 {x0 x1:aI} {jz j3 j4 j5 j6 j7 j8 j9 uo ua tH tI tJ tK tL tM tN tO wo wa:Value}:Ct Tryz.prog 24 true (jN x0 x1) [.agg #[.int .i64 x0.aC.aA,jz,j3,j4,j5,.int .i64 x0.aD.aA,j6,j7,j8,j9,uo,ua],.agg #[.int .i64 x1.aC.aA,tH,tI,tJ,tK,.int .i64 x1.aD.aA,tL,tM,tN,tO,wo,wa]] [rI jz x0.aC.aE,rI j3 x0.aC.To,rI j4 x0.aC.aH,rJ j5 x0.aC.aB,rI j6 x0.aD.aE,rI j7 x0.aD.To,rI j8 x0.aD.aH,rJ j9 x0.aD.aB,rI uo x0.aA,rI ua x0.ab,rI tH x1.aC.aE,rI tI x1.aC.To,rI tJ x1.aC.aH,rJ tK x1.aC.aB,rI tL x1.aD.aE,rI tM x1.aD.To,rI tN x1.aD.aH,rJ tO x1.aD.aB,rI wo x1.aA,rI wa x1.ab] (fun y (_:Unit)=>[.bool y.1,.int .i64 y.2]) (fun _ _=>[]):=by
 refine ct (S:=Unit) (ca fun _ _=>rfl) Tryz.func24 rfl rfl ?_
 repeat' first
  | (apply Dk.fe; repeat' first | exact rfl | (refine @id.{0} _ ?_; constructor))
  | intro _
  | exact rfl
  | (refine @id.{0} _ ?_; constructor)
  | apply U5
  | exact ()
theorem c58 {x0:aI} {aS aV aQ aO aT aW aR aP bC bG:Value} {x1:aI} {bV cB bN bH bW cC bP bI cL cQ:Value} {x2:aI} {rE rN pQ nJ rF rO pR nK rY sF:Value}:Ct Tryz.prog 58 true (eU x0 x1 x2) [.agg #[.int .i64 (x0.aC.aA),aS,aV,aQ,aO,.int .i64 (x0.aD.aA),aT,aW,aR,aP,bC,bG],.agg #[.int .i64 (x1.aC.aA),bV,cB,bN,bH,.int .i64 (x1.aD.aA),bW,cC,bP,bI,cL,cQ],.agg #[.int .i64 (x2.aC.aA),rE,rN,pQ,nJ,.int .i64 (x2.aD.aA),rF,rO,pR,nK,rY,sF]] [rI aS x0.aC.aE,rI aV x0.aC.To,rI aQ x0.aC.aH,rJ aO x0.aC.aB,rI aT x0.aD.aE,rI aW x0.aD.To,rI aR x0.aD.aH,rJ aP x0.aD.aB,rI bC x0.aA,rI bG x0.ab,rI bV x1.aC.aE,rI cB x1.aC.To,rI bN x1.aC.aH,rJ bH x1.aC.aB,rI bW x1.aD.aE,rI cC x1.aD.To,rI bP x1.aD.aH,rJ bI x1.aD.aB,rI cL x1.aA,rI cQ x1.ab,rI rE x2.aC.aE,rI rN x2.aC.To,rI pQ x2.aC.aH,rJ nJ x2.aC.aB,rI rF x2.aD.aE,rI rO x2.aD.To,rI pR x2.aD.aH,rJ nK x2.aD.aB,rI rY x2.aA,rI sF x2.ab] (fun y (_:Unit)=>[.bool y.1,.int .i64 y.2]) (fun y _=>[]):=by
 refine ct (S:=Unit) (ca fun _ _=>rfl) Tryz.func58 rfl rfl ?_
 repeat' first
  | (apply Dk.fe; repeat' first | exact rfl | (refine @id.{0} _ ?_; constructor))
  | intro _
  | exact rfl
  | (refine @id.{0} _ ?_; constructor)
  | apply Dk.loop 0 (V:=Unit) (fun (s:Int) v=>[]) (fun s v=>[(11,.int .i64 (s))]) () [(3,_),(4,_),(5,_),(8,_),(9,_)]
  | apply Dk.loop 2 (V:=Unit) (fun (s:Int×Int×Int) v=>[]) (fun s v=>[(12,.int .i64 (s.1)),(13,.int .i64 (s.2.1)),(14,.int .i64 (s.2.2))]) () [(3,_),(4,_),(5,_),(8,_),(9,_),(11,_)]
  | apply Dk.quiet (id:=7) (by kernel_rfl)
  | apply Dk.quiet (id:=13) (by kernel_rfl)
  | apply Dk.quiet (id:=16) (by kernel_rfl)
  | apply Dk.any (id:=12) 7 [] [] [[],[],[0,1],[2,0,1],[],[3,2,0,1,4],[]] (by kernel_rfl)
  | apply c88
  | apply c70
  | apply c89
  | apply TH
  | exact ()
theorem c31 {x0:aI} {aS aV aQ aO aT aW aR aP bC bG:Value} {x1:aI} {bV cB bN bH bW cC bP bI cL cQ:Value}:Ct Tryz.prog 31 true (jT x0 x1) [.agg #[.int .i64 (x0.aC.aA),aS,aV,aQ,aO,.int .i64 (x0.aD.aA),aT,aW,aR,aP,bC,bG],.agg #[.int .i64 (x1.aC.aA),bV,cB,bN,bH,.int .i64 (x1.aD.aA),bW,cC,bP,bI,cL,cQ]] [rI aS x0.aC.aE,rI aV x0.aC.To,rI aQ x0.aC.aH,rJ aO x0.aC.aB,rI aT x0.aD.aE,rI aW x0.aD.To,rI aR x0.aD.aH,rJ aP x0.aD.aB,rI bC x0.aA,rI bG x0.ab,rI bV x1.aC.aE,rI cB x1.aC.To,rI bN x1.aC.aH,rJ bH x1.aC.aB,rI bW x1.aD.aE,rI cC x1.aD.To,rI bP x1.aD.aH,rJ bI x1.aD.aB,rI cL x1.aA,rI cQ x1.ab] (fun y (_:Unit)=>[.bool y.1,.int .i64 y.2]) (fun y _=>[]):=by
 refine ct (S:=Unit) (ca fun _ _=>rfl) Tryz.func31 rfl rfl ?_
 repeat' first
  | (apply Dk.fe; repeat' first | exact rfl | (refine @id.{0} _ ?_; constructor))
  | intro _
  | exact rfl
  | (refine @id.{0} _ ?_; constructor)
  | apply c47
  | apply c58
  | exact ()
theorem c22 {x0 x1:aI} {jz j3 j4 j5 j6 j7 j8 j9 uo ua tH tI tJ tK tL tM tN tO wo wa:Value}:Ct Tryz.prog 22 true (jK x0 x1) [.agg #[.int .i64 x0.aC.aA,jz,j3,j4,j5,.int .i64 x0.aD.aA,j6,j7,j8,j9,uo,ua],.agg #[.int .i64 x1.aC.aA,tH,tI,tJ,tK,.int .i64 x1.aD.aA,tL,tM,tN,tO,wo,wa]] [rI jz x0.aC.aE,rI j3 x0.aC.To,rI j4 x0.aC.aH,rJ j5 x0.aC.aB,rI j6 x0.aD.aE,rI j7 x0.aD.To,rI j8 x0.aD.aH,rJ j9 x0.aD.aB,rI uo x0.aA,rI ua x0.ab,rI tH x1.aC.aE,rI tI x1.aC.To,rI tJ x1.aC.aH,rJ tK x1.aC.aB,rI tL x1.aD.aE,rI tM x1.aD.To,rI tN x1.aD.aH,rJ tO x1.aD.aB,rI wo x1.aA,rI wa x1.ab] (fun y (_:Unit)=>[.bool y.1,.int .i64 y.2]) (fun _ _=>[]):=by
 refine ct (S:=Unit) (ca fun _ _=>rfl) Tryz.func22 rfl rfl ?_
 repeat' first
  | (apply Dk.fe; repeat' first | exact rfl | (refine @id.{0} _ ?_; constructor))
  | intro _
  | exact rfl
  | (refine @id.{0} _ ?_; constructor)
  | apply U4
  | exact ()
theorem c46 {x0 x1:aI} {p q:Addr} {jz j3 j4 j5 j6 j7 j8 j9 uo ua tH tI tJ tK tL tM tN tO wo wa:Value}:Ct Tryz.prog 46 true (qB x0 x1 false) [.pointer (some p),.pointer (some q),.bool false] [.ay p [.int .i64 x0.aC.aA,jz,j3,j4,j5,.int .i64 x0.aD.aA,j6,j7,j8,j9,uo,ua],.ay q [.int .i64 x1.aC.aA,tH,tI,tJ,tK,.int .i64 x1.aD.aA,tL,tM,tN,tO,wo,wa],rI jz x0.aC.aE,rI j3 x0.aC.To,rI j4 x0.aC.aH,rJ j5 x0.aC.aB,rI j6 x0.aD.aE,rI j7 x0.aD.To,rI j8 x0.aD.aH,rJ j9 x0.aD.aB,rI uo x0.aA,rI ua x0.ab,rI tH x1.aC.aE,rI tI x1.aC.To,rI tJ x1.aC.aH,rJ tK x1.aC.aB,rI tL x1.aD.aE,rI tM x1.aD.To,rI tN x1.aD.aH,rJ tO x1.aD.aB,rI wo x1.aA,rI wa x1.ab] (fun y (_:Unit)=>[.bool y.1,.int .i64 y.2]) (fun _ _=>[]):=by
 refine ct (S:=Unit) (ca fun _ _=>rfl) Tryz.func46 rfl rfl ?_
 repeat' first
  | (apply Dk.fe; repeat' first | exact rfl | (refine @id.{0} _ ?_; constructor))
  | intro _
  | exact rfl
  | (refine @id.{0} _ ?_; constructor)
  | apply Ze
  | apply c85
  | exact ()
theorem c20 {x0:aI} {aS aV aQ aO aT aW aR aP bC bG:Value} {x1:aI} {bV cB bN bH bW cC bP bI cL cQ:Value}:Ct Tryz.prog 20 true (lX x0 x1) [.agg #[.int .i64 (x0.aC.aA),aS,aV,aQ,aO,.int .i64 (x0.aD.aA),aT,aW,aR,aP,bC,bG],.agg #[.int .i64 (x1.aC.aA),bV,cB,bN,bH,.int .i64 (x1.aD.aA),bW,cC,bP,bI,cL,cQ]] [rI aS x0.aC.aE,rI aV x0.aC.To,rI aQ x0.aC.aH,rJ aO x0.aC.aB,rI aT x0.aD.aE,rI aW x0.aD.To,rI aR x0.aD.aH,rJ aP x0.aD.aB,rI bC x0.aA,rI bG x0.ab,rI bV x1.aC.aE,rI cB x1.aC.To,rI bN x1.aC.aH,rJ bH x1.aC.aB,rI bW x1.aD.aE,rI cC x1.aD.To,rI bP x1.aD.aH,rJ bI x1.aD.aB,rI cL x1.aA,rI cQ x1.ab] (fun y (_:Unit)=>[.bool y.1,.int .i64 y.2]) (fun y _=>[]):=by
 refine ct (S:=Unit) (ca fun _ _=>rfl) Tryz.func20 rfl rfl ?_
 repeat' first
  | (apply Dk.fe; repeat' first | exact rfl | (refine @id.{0} _ ?_; constructor))
  | intro _
  | exact rfl
  | (refine @id.{0} _ ?_; constructor)
  | apply c46
  | exact ()
theorem c6 {x0:(List Int)} {cX:Value}:Ct Tryz.prog 6 true (iO x0) [cX] [.rd false (bL (aM .u8)) cX x0] (fun y (_:Unit)=>[.bool y]) (fun y _=>[]):=by
 refine ct (S:=Unit) (ca fun _ _=>rfl) Tryz.func6 rfl rfl ?_
 repeat' first
  | (apply Dk.fe; repeat' first | exact rfl | (refine @id.{0} _ ?_; constructor))
  | intro _
  | exact rfl
  | (refine @id.{0} _ ?_; constructor)
  | apply c7
  | apply c30
  | apply c24
  | apply c31
  | apply c32
  | apply c22
  | apply c28
  | apply c14
  | apply c20
  | exact ()
theorem qS {w:World} {x0:(List Int)} {cX:Value} {afT:List Nat} (afU:(bL (aM .u8)).rep w.heap [cX] x0 afT) {y:(Bool)} (hm:iO x0=some y):Calls Tryz.prog 6 #[cX] w (fun e w'=>e = .returned (.bool y)∧aq [] w w'):=
 Uj c6 (.fact (Uk afU) (.nil)) hm
end Go.Proofs.YtgjbmjjihmfppaaGreat
