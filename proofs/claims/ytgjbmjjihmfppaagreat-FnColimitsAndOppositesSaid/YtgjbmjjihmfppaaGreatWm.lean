/- Walks by the calculus D. No condition beside those that each theorem names. -/
import Derived.Test.YtgjbmjjihmfppaaGreatDp
import Derived.Test.YtgjbmjjihmfppaaGreatDi
import Derived.Test.YtgjbmjjihmfppaaGreatMo
import Derived.Test.YtgjbmjjihmfppaaGreatDs
import Derived.Test.YtgjbmjjihmfppaaGreatWa
import Derived.Test.YtgjbmjjihmfppaaGreatWc
import Derived.Test.YtgjbmjjihmfppaaGreatWd
import Derived.Test.YtgjbmjjihmfppaaGreatWe
import Derived.Test.YtgjbmjjihmfppaaGreatWf
import Derived.Test.YtgjbmjjihmfppaaGreatWg
import Derived.Test.YtgjbmjjihmfppaaGreatWh
import Derived.Test.YtgjbmjjihmfppaaGreatWi
import Derived.Test.YtgjbmjjihmfppaaGreatWj
import Derived.Test.YtgjbmjjihmfppaaGreatWk
import Derived.Test.YtgjbmjjihmfppaaGreatWl
namespace Go.Proofs.YtgjbmjjihmfppaaGreat
open Go Go.Li Go.Dk
set_option linter.unusedVariables false
set_option maxHeartbeats 16000000
set_option maxRecDepth 100000
theorem c62 {x0:aK} {dB:Nat} {cA:Value}:Ct Tryz.prog 62 false (kU x0) [.pointer (some (⟨dB,0,none⟩))] [.row dB [cA,.int .i64 (x0.At),.int .u64 (x0.aq)] 81,.rd false (bJ (aM .u8)) cA x0.Code] (fun y (v:Value×Value×Value×Value×Value×Value×Value×Value×Value×Value)=>[.agg #[.int .i64 y.1.aC.aA,v.1,v.2.1,v.2.2.1,v.2.2.2.1,.int .i64 y.1.aE.aA,v.2.2.2.2.1,v.2.2.2.2.2.1,v.2.2.2.2.2.2.1,v.2.2.2.2.2.2.2.1,v.2.2.2.2.2.2.2.2.1,v.2.2.2.2.2.2.2.2.2]]) (fun y v=>[rI v.1 y.1.aC.aD,rI v.2.1 y.1.aC.To,rI v.2.2.1 y.1.aC.aH,rJ v.2.2.2.1 y.1.aC.aB,rI v.2.2.2.2.1 y.1.aE.aD,rI v.2.2.2.2.2.1 y.1.aE.To,rI v.2.2.2.2.2.2.1 y.1.aE.aH,rJ v.2.2.2.2.2.2.2.1 y.1.aE.aB,rI v.2.2.2.2.2.2.2.2.1 y.1.aA,rI v.2.2.2.2.2.2.2.2.2 y.1.ab,.row dB [cA,.int .i64 y.2.At,.int .u64 y.2.aq] 81]):=by
 refine ct (S:=Unit) vK Tryz.func62 rfl rfl ?_
 repeat' first
  | (apply Dk.fe; repeat' first | exact rfl | (refine @id.{0} _ ?_; constructor))
  | (intro (v:Value×Value×Value×Value×Value×Value×Value×Value×Value×Value); obtain ⟨_,_,_,_,_,_,_,_,_,_⟩:=v; dsimp only)
  | intro _
  | exact rfl
  | (refine @id.{0} _ ?_; constructor)
  | apply Dk.xg (id:=8) [Dk.aw.row _ _ 81] 12 [] [[],[],[],[],[14],[],[],[],[],[],[],[4]] [[],[0],[],[],[2,3],[],[],[6],[7,6],[8,7,6],[9,8,7,6],[5,10,9,8,7,6,4,2,3]] (by kernel_rfl)
  | apply MN
  | apply c83
  | apply Al
  | apply ae1
  | exact ()
theorem c63 {x0:aK} {dB:Nat} {cA:Value}:Ct Tryz.prog 63 false (mA x0) [.pointer (some (⟨dB,0,none⟩))] [.row dB [cA,.int .i64 (x0.At),.int .u64 (x0.aq)] 81,.rd false (bJ (aM .u8)) cA x0.Code] (fun y (v:Value×Value×Value×Value×Value×Value×Value×Value×Value×Value)=>[.agg #[.int .i64 y.1.aC.aA,v.1,v.2.1,v.2.2.1,v.2.2.2.1,.int .i64 y.1.aE.aA,v.2.2.2.2.1,v.2.2.2.2.2.1,v.2.2.2.2.2.2.1,v.2.2.2.2.2.2.2.1,v.2.2.2.2.2.2.2.2.1,v.2.2.2.2.2.2.2.2.2]]) (fun y v=>[rI v.1 y.1.aC.aD,rI v.2.1 y.1.aC.To,rI v.2.2.1 y.1.aC.aH,rJ v.2.2.2.1 y.1.aC.aB,rI v.2.2.2.2.1 y.1.aE.aD,rI v.2.2.2.2.2.1 y.1.aE.To,rI v.2.2.2.2.2.2.1 y.1.aE.aH,rJ v.2.2.2.2.2.2.2.1 y.1.aE.aB,rI v.2.2.2.2.2.2.2.2.1 y.1.aA,rI v.2.2.2.2.2.2.2.2.2 y.1.ab,.row dB [cA,.int .i64 y.2.At,.int .u64 y.2.aq] 81]):=by
 refine ct (S:=Unit) vK Tryz.func63 rfl rfl ?_
 repeat' first
  | (apply Dk.fe; repeat' first | exact rfl | (refine @id.{0} _ ?_; constructor))
  | intro _
  | exact rfl
  | apply Dk.NJ (t:=104)
  | apply Dk.V2 (t:=104)
  | apply Dk.NH (n:=12)
  | apply Dk.NG (n:=12)
  | apply Dk.LJ (n:=12)
  | (refine @id.{0} _ ?_; constructor)
  | apply Dk.loop 0 (V:=Unit) (fun (s:Int×Int×Int) v=>[.row dB [cA,.int .i64 (s.2.1),.int .u64 (s.2.2)] 81]) (fun s v=>[(3,.int .i64 (s.1))]) () [(0,_),(2,_)]
  | apply ae9
  | apply c80
  | apply Yn
  | apply Yx
  | apply Al
  | apply Yl
  | apply Yz
  | exact ()
theorem c33 {x0:aK} {dB:Nat} {cA:Value}:Ct Tryz.prog 33 false (pF x0) [.pointer (some (⟨dB,0,none⟩))] [.row dB [cA,.int .i64 (x0.At),.int .u64 (x0.aq)] 81,.rd false (bJ (aM .u8)) cA x0.Code] (fun y (v:Value×Value×Value×Value×Value×Value×Value×Value×Value×Value)=>[.agg #[.int .i64 y.1.aC.aA,v.1,v.2.1,v.2.2.1,v.2.2.2.1,.int .i64 y.1.aE.aA,v.2.2.2.2.1,v.2.2.2.2.2.1,v.2.2.2.2.2.2.1,v.2.2.2.2.2.2.2.1,v.2.2.2.2.2.2.2.2.1,v.2.2.2.2.2.2.2.2.2]]) (fun y v=>[rI v.1 y.1.aC.aD,rI v.2.1 y.1.aC.To,rI v.2.2.1 y.1.aC.aH,rJ v.2.2.2.1 y.1.aC.aB,rI v.2.2.2.2.1 y.1.aE.aD,rI v.2.2.2.2.2.1 y.1.aE.To,rI v.2.2.2.2.2.2.1 y.1.aE.aH,rJ v.2.2.2.2.2.2.2.1 y.1.aE.aB,rI v.2.2.2.2.2.2.2.2.1 y.1.aA,rI v.2.2.2.2.2.2.2.2.2 y.1.ab,.row dB [cA,.int .i64 y.2.At,.int .u64 y.2.aq] 81]):=by
 refine ct (S:=Unit) vK Tryz.func33 rfl rfl ?_
 repeat' first
  | (apply Dk.fe; repeat' first | exact rfl | (refine @id.{0} _ ?_; constructor))
  | intro _
  | exact rfl
  | (refine @id.{0} _ ?_; constructor)
  | apply Al
  | apply c62
  | apply c63
  | exact ()
theorem c45 {x0:aK} {dB:Nat} {cA:Value}:Ct Tryz.prog 45 false (mL x0) [.pointer (some (⟨dB,0,none⟩))] [.row dB [cA,.int .i64 (x0.At),.int .u64 (x0.aq)] 81,.rd false (bJ (aM .u8)) cA x0.Code] (fun y (v:Value×Value×Value×Value×Value×Value×Value×Value×Value×Value×Value×Value×Value×Value×Value×Value×Value×Value×Value×Value)=>[.agg #[.int .i64 y.1.aC.aA,v.1,v.2.1,v.2.2.1,v.2.2.2.1,.int .i64 y.1.aE.aA,v.2.2.2.2.1,v.2.2.2.2.2.1,v.2.2.2.2.2.2.1,v.2.2.2.2.2.2.2.1,v.2.2.2.2.2.2.2.2.1,v.2.2.2.2.2.2.2.2.2.1],.agg #[.int .i64 y.2.1.aC.aA,v.2.2.2.2.2.2.2.2.2.2.1,v.2.2.2.2.2.2.2.2.2.2.2.1,v.2.2.2.2.2.2.2.2.2.2.2.2.1,v.2.2.2.2.2.2.2.2.2.2.2.2.2.1,.int .i64 y.2.1.aE.aA,v.2.2.2.2.2.2.2.2.2.2.2.2.2.2.1,v.2.2.2.2.2.2.2.2.2.2.2.2.2.2.2.1,v.2.2.2.2.2.2.2.2.2.2.2.2.2.2.2.2.1,v.2.2.2.2.2.2.2.2.2.2.2.2.2.2.2.2.2.1,v.2.2.2.2.2.2.2.2.2.2.2.2.2.2.2.2.2.2.1,v.2.2.2.2.2.2.2.2.2.2.2.2.2.2.2.2.2.2.2]]) (fun y v=>[rI v.1 y.1.aC.aD,rI v.2.1 y.1.aC.To,rI v.2.2.1 y.1.aC.aH,rJ v.2.2.2.1 y.1.aC.aB,rI v.2.2.2.2.1 y.1.aE.aD,rI v.2.2.2.2.2.1 y.1.aE.To,rI v.2.2.2.2.2.2.1 y.1.aE.aH,rJ v.2.2.2.2.2.2.2.1 y.1.aE.aB,rI v.2.2.2.2.2.2.2.2.1 y.1.aA,rI v.2.2.2.2.2.2.2.2.2.1 y.1.ab,rI v.2.2.2.2.2.2.2.2.2.2.1 y.2.1.aC.aD,rI v.2.2.2.2.2.2.2.2.2.2.2.1 y.2.1.aC.To,rI v.2.2.2.2.2.2.2.2.2.2.2.2.1 y.2.1.aC.aH,rJ v.2.2.2.2.2.2.2.2.2.2.2.2.2.1 y.2.1.aC.aB,rI v.2.2.2.2.2.2.2.2.2.2.2.2.2.2.1 y.2.1.aE.aD,rI v.2.2.2.2.2.2.2.2.2.2.2.2.2.2.2.1 y.2.1.aE.To,rI v.2.2.2.2.2.2.2.2.2.2.2.2.2.2.2.2.1 y.2.1.aE.aH,rJ v.2.2.2.2.2.2.2.2.2.2.2.2.2.2.2.2.2.1 y.2.1.aE.aB,rI v.2.2.2.2.2.2.2.2.2.2.2.2.2.2.2.2.2.2.1 y.2.1.aA,rI v.2.2.2.2.2.2.2.2.2.2.2.2.2.2.2.2.2.2.2 y.2.1.ab,.row dB [cA,.int .i64 y.2.2.At,.int .u64 y.2.2.aq] 81]):=by
 refine ct (S:=Unit) vK Tryz.func45 rfl rfl ?_
 repeat' first
  | (apply Dk.fe; repeat' first | exact rfl | (refine @id.{0} _ ?_; constructor))
  | intro _
  | exact rfl
  | (apply Dk.Sk (t:=16); exact rfl)
  | apply Dk.AD.amp (f:=62)
  | apply Dk.AD.Nh (f:=62)
  | apply Dk.AD.akc (f:=62)
  | apply Dk.NJ (t:=104)
  | apply Dk.V2 (t:=104)
  | apply Dk.NH (n:=12)
  | apply Dk.NG (n:=12)
  | apply Dk.LJ (n:=12)
  | (refine @id.{0} _ ?_; constructor)
  | apply Dk.xg (id:=3) [Dk.aw.row _ _ 81] 3 [] [[],[],[5]] [[],[],[1]] (by kernel_rfl)
  | apply Dk.any (id:=5) 4 [] [] [[],[],[1],[2,1]] (by kernel_rfl)
  | apply Dk.xg (id:=11) [Dk.aw.row _ _ 81] 5 [] [[],[],[],[],[7]] [[],[],[],[2],[1,3,2]] (by kernel_rfl)
  | apply Dk.Zh (id:=10) [0,1,2,3,4] 5 [6,7] [8,9] 6 (iq Is) 81 (by kernel_rfl)
  | apply c33
  | apply Al
  | apply c38
  | apply c62
  | apply Yz
  | apply c80
  | apply Yn
  | apply Yx
  | apply c83
  | exact ()
theorem c17 {x0:(List Int)} {dC:Value}:Ct Tryz.prog 17 false (iE x0) [dC] [.rd false (bJ (aM .u8)) dC x0] (fun y (v:Value×Value×Value×Value×Value×Value×Value×Value×Value×Value×Value×Value×Value×Value×Value×Value×Value×Value×Value×Value)=>[.agg #[.int .i64 y.1.aC.aA,v.1,v.2.1,v.2.2.1,v.2.2.2.1,.int .i64 y.1.aE.aA,v.2.2.2.2.1,v.2.2.2.2.2.1,v.2.2.2.2.2.2.1,v.2.2.2.2.2.2.2.1,v.2.2.2.2.2.2.2.2.1,v.2.2.2.2.2.2.2.2.2.1],.agg #[.int .i64 y.2.aC.aA,v.2.2.2.2.2.2.2.2.2.2.1,v.2.2.2.2.2.2.2.2.2.2.2.1,v.2.2.2.2.2.2.2.2.2.2.2.2.1,v.2.2.2.2.2.2.2.2.2.2.2.2.2.1,.int .i64 y.2.aE.aA,v.2.2.2.2.2.2.2.2.2.2.2.2.2.2.1,v.2.2.2.2.2.2.2.2.2.2.2.2.2.2.2.1,v.2.2.2.2.2.2.2.2.2.2.2.2.2.2.2.2.1,v.2.2.2.2.2.2.2.2.2.2.2.2.2.2.2.2.2.1,v.2.2.2.2.2.2.2.2.2.2.2.2.2.2.2.2.2.2.1,v.2.2.2.2.2.2.2.2.2.2.2.2.2.2.2.2.2.2.2]]) (fun y v=>[rI v.1 y.1.aC.aD,rI v.2.1 y.1.aC.To,rI v.2.2.1 y.1.aC.aH,rJ v.2.2.2.1 y.1.aC.aB,rI v.2.2.2.2.1 y.1.aE.aD,rI v.2.2.2.2.2.1 y.1.aE.To,rI v.2.2.2.2.2.2.1 y.1.aE.aH,rJ v.2.2.2.2.2.2.2.1 y.1.aE.aB,rI v.2.2.2.2.2.2.2.2.1 y.1.aA,rI v.2.2.2.2.2.2.2.2.2.1 y.1.ab,rI v.2.2.2.2.2.2.2.2.2.2.1 y.2.aC.aD,rI v.2.2.2.2.2.2.2.2.2.2.2.1 y.2.aC.To,rI v.2.2.2.2.2.2.2.2.2.2.2.2.1 y.2.aC.aH,rJ v.2.2.2.2.2.2.2.2.2.2.2.2.2.1 y.2.aC.aB,rI v.2.2.2.2.2.2.2.2.2.2.2.2.2.2.1 y.2.aE.aD,rI v.2.2.2.2.2.2.2.2.2.2.2.2.2.2.2.1 y.2.aE.To,rI v.2.2.2.2.2.2.2.2.2.2.2.2.2.2.2.2.1 y.2.aE.aH,rJ v.2.2.2.2.2.2.2.2.2.2.2.2.2.2.2.2.2.1 y.2.aE.aB,rI v.2.2.2.2.2.2.2.2.2.2.2.2.2.2.2.2.2.2.1 y.2.aA,rI v.2.2.2.2.2.2.2.2.2.2.2.2.2.2.2.2.2.2.2 y.2.ab]):=by
 refine ct (S:=Unit) vK Tryz.func17 rfl rfl ?_
 repeat' first
  | (apply Dk.fe; repeat' first | exact rfl | (refine @id.{0} _ ?_; constructor))
  | intro _
  | exact rfl
  | (refine @id.{0} _ ?_; constructor)
  | apply Dk.anyS (id:=2) [0,1] [2,3] (by kernel_rfl)
  | apply c34
  | apply c45
  | exact ()
theorem c46 {x0 x1:aI} {p q:Addr} {fq fu fv fw fx fy gf gh uo ua lr lu lv ly lz l3 l4 l5 wo wa:Value}:Ct Tryz.prog 46 true (jA x0 x1 false) [.pointer (some p),.pointer (some q),.bool false] [.au p [.int .i64 x0.aC.aA,fq,fu,fv,fw,.int .i64 x0.aE.aA,fx,fy,gf,gh,uo,ua],.au q [.int .i64 x1.aC.aA,lr,lu,lv,ly,.int .i64 x1.aE.aA,lz,l3,l4,l5,wo,wa],rI fq x0.aC.aD,rI fu x0.aC.To,rI fv x0.aC.aH,rJ fw x0.aC.aB,rI fx x0.aE.aD,rI fy x0.aE.To,rI gf x0.aE.aH,rJ gh x0.aE.aB,rI uo x0.aA,rI ua x0.ab,rI lr x1.aC.aD,rI lu x1.aC.To,rI lv x1.aC.aH,rJ ly x1.aC.aB,rI lz x1.aE.aD,rI l3 x1.aE.To,rI l4 x1.aE.aH,rJ l5 x1.aE.aB,rI wo x1.aA,rI wa x1.ab] (fun y (_:Unit)=>[.bool y.1,.int .i64 y.2]) (fun _ _=>[]):=by
 refine ct (S:=Unit) (b9 fun _ _=>rfl) Tryz.func46 rfl rfl ?_
 repeat' first
  | (apply Dk.fe; repeat' first | exact rfl | (refine @id.{0} _ ?_; constructor))
  | intro _
  | exact rfl
  | (refine @id.{0} _ ?_; constructor)
  | apply YB
  | apply c85
  | exact ()
theorem YC {x0 x1:aI} {p q:Addr} {fq fu fv fw fx fy gf gh uo ua lr lu lv ly lz l3 l4 l5 wo wa:Value}:Ct Tryz.prog 46 true (jA x0 x1 true) [.pointer (some p),.pointer (some q),.bool true] [.au p [.int .i64 x0.aC.aA,fq,fu,fv,fw,.int .i64 x0.aE.aA,fx,fy,gf,gh,uo,ua],.au q [.int .i64 x1.aC.aA,lr,lu,lv,ly,.int .i64 x1.aE.aA,lz,l3,l4,l5,wo,wa],rI fq x0.aC.aD,rI fu x0.aC.To,rI fv x0.aC.aH,rJ fw x0.aC.aB,rI fx x0.aE.aD,rI fy x0.aE.To,rI gf x0.aE.aH,rJ gh x0.aE.aB,rI uo x0.aA,rI ua x0.ab,rI lr x1.aC.aD,rI lu x1.aC.To,rI lv x1.aC.aH,rJ ly x1.aC.aB,rI lz x1.aE.aD,rI l3 x1.aE.To,rI l4 x1.aE.aH,rJ l5 x1.aE.aB,rI wo x1.aA,rI wa x1.ab] (fun y (_:Unit)=>[.bool y.1,.int .i64 y.2]) (fun _ _=>[]):=by
 refine ct (S:=Unit) (b9 fun _ _=>rfl) Tryz.func46 rfl rfl ?_
 repeat' first
  | (apply Dk.fe; repeat' first | exact rfl | (refine @id.{0} _ ?_; constructor))
  | intro _
  | exact rfl
  | (refine @id.{0} _ ?_; constructor)
  | apply Rz
  | apply c85
  | exact ()
theorem c18 {x0:aI} {aU aZ aQ aO aV bA aR aP bK bP:Value} {x1:aI} {bV cB bL bE bW cC bN bF cM cQ:Value}:Ct Tryz.prog 18 true (kN x0 x1) [.agg #[.int .i64 (x0.aC.aA),aU,aZ,aQ,aO,.int .i64 (x0.aE.aA),aV,bA,aR,aP,bK,bP],.agg #[.int .i64 (x1.aC.aA),bV,cB,bL,bE,.int .i64 (x1.aE.aA),bW,cC,bN,bF,cM,cQ]] [rI aU x0.aC.aD,rI aZ x0.aC.To,rI aQ x0.aC.aH,rJ aO x0.aC.aB,rI aV x0.aE.aD,rI bA x0.aE.To,rI aR x0.aE.aH,rJ aP x0.aE.aB,rI bK x0.aA,rI bP x0.ab,rI bV x1.aC.aD,rI cB x1.aC.To,rI bL x1.aC.aH,rJ bE x1.aC.aB,rI bW x1.aE.aD,rI cC x1.aE.To,rI bN x1.aE.aH,rJ bF x1.aE.aB,rI cM x1.aA,rI cQ x1.ab] (fun y (_:Unit)=>[.bool y.1,.int .i64 y.2]) (fun y _=>[]):=by
 refine ct (S:=Unit) (b9 fun _ _=>rfl) Tryz.func18 rfl rfl ?_
 repeat' first
  | (apply Dk.fe; repeat' first | exact rfl | (refine @id.{0} _ ?_; constructor))
  | intro _
  | exact rfl
  | (refine @id.{0} _ ?_; constructor)
  | apply c46
  | apply YC
  | exact ()
theorem c48 {x0:aI} {aU aZ aQ aO aV bA aR aP bK bP:Value} {x1:aI} {bV cB bL bE bW cC bN bF cM cQ:Value} {x2:aI} {qZ rE pU nP rA rF pV nQ rQ rX:Value}:Ct Tryz.prog 48 true (jS x0 x1 x2) [.agg #[.int .i64 (x0.aC.aA),aU,aZ,aQ,aO,.int .i64 (x0.aE.aA),aV,bA,aR,aP,bK,bP],.agg #[.int .i64 (x1.aC.aA),bV,cB,bL,bE,.int .i64 (x1.aE.aA),bW,cC,bN,bF,cM,cQ],.agg #[.int .i64 (x2.aC.aA),qZ,rE,pU,nP,.int .i64 (x2.aE.aA),rA,rF,pV,nQ,rQ,rX]] [rI aU x0.aC.aD,rI aZ x0.aC.To,rI aQ x0.aC.aH,rJ aO x0.aC.aB,rI aV x0.aE.aD,rI bA x0.aE.To,rI aR x0.aE.aH,rJ aP x0.aE.aB,rI bK x0.aA,rI bP x0.ab,rI bV x1.aC.aD,rI cB x1.aC.To,rI bL x1.aC.aH,rJ bE x1.aC.aB,rI bW x1.aE.aD,rI cC x1.aE.To,rI bN x1.aE.aH,rJ bF x1.aE.aB,rI cM x1.aA,rI cQ x1.ab,rI qZ x2.aC.aD,rI rE x2.aC.To,rI pU x2.aC.aH,rJ nP x2.aC.aB,rI rA x2.aE.aD,rI rF x2.aE.To,rI pV x2.aE.aH,rJ nQ x2.aE.aB,rI rQ x2.aA,rI rX x2.ab] (fun y (_:Unit)=>[.bool y.1,.int .i64 y.2]) (fun y _=>[]):=by
 refine ct (S:=Unit) (b9 fun _ _=>rfl) Tryz.func48 rfl rfl ?_
 repeat' first
  | (apply Dk.fe; repeat' first | exact rfl | (refine @id.{0} _ ?_; constructor))
  | intro _
  | exact rfl
  | (refine @id.{0} _ ?_; constructor)
  | apply Dk.loop 0 (V:=Unit) (fun (s:Int) v=>[]) (fun s v=>[(11,.int .i64 (s))]) () [(3,_),(4,_),(5,_),(8,_),(9,_)]
  | apply Dk.quiet (id:=7) (by kernel_rfl)
  | apply Dk.any (id:=8) 8 [] [] [[],[],[],[],[2,3],[4,2,3],[],[5,4,2,3,6]] (by kernel_rfl)
  | apply c88
  | apply c70
  | apply c89
  | exact ()
theorem c19 {x0:aI} {aU aZ aQ aO aV bA aR aP bK bP:Value} {x1:aI} {bV cB bL bE bW cC bN bF cM cQ:Value}:Ct Tryz.prog 19 true (kO x0 x1) [.agg #[.int .i64 (x0.aC.aA),aU,aZ,aQ,aO,.int .i64 (x0.aE.aA),aV,bA,aR,aP,bK,bP],.agg #[.int .i64 (x1.aC.aA),bV,cB,bL,bE,.int .i64 (x1.aE.aA),bW,cC,bN,bF,cM,cQ]] [rI aU x0.aC.aD,rI aZ x0.aC.To,rI aQ x0.aC.aH,rJ aO x0.aC.aB,rI aV x0.aE.aD,rI bA x0.aE.To,rI aR x0.aE.aH,rJ aP x0.aE.aB,rI bK x0.aA,rI bP x0.ab,rI bV x1.aC.aD,rI cB x1.aC.To,rI bL x1.aC.aH,rJ bE x1.aC.aB,rI bW x1.aE.aD,rI cC x1.aE.To,rI bN x1.aE.aH,rJ bF x1.aE.aB,rI cM x1.aA,rI cQ x1.ab] (fun y (_:Unit)=>[.bool y.1,.int .i64 y.2]) (fun y _=>[]):=by
 refine ct (S:=Unit) (b9 fun _ _=>rfl) Tryz.func19 rfl rfl ?_
 repeat' first
  | (apply Dk.fe; repeat' first | exact rfl | (refine @id.{0} _ ?_; constructor))
  | intro _
  | exact rfl
  | (refine @id.{0} _ ?_; constructor)
  | apply Dk.any (id:=4) 10 [9] [] [[],[0],[],[2,1,0],[],[4,3,2,1,0],[1,0,3,2,1,0,5,4,3,2,1,0,5,4,3,2,1,0],[6,1,0,3,2,1,0,5,4,3,2,1,0,5,4,3,2,1,0],[7,6,1,0,3,2,1,0,5,4,3,2,1,0,5,4,3,2,1,0],[7,6,1,0,3,2,1,0,5,4,3,2,1,0,5,4,3,2,1,0]] (by kernel_rfl)
  | apply c47
  | apply c40
  | apply c48
  | exact ()
theorem c20 {x0:aI} {aU aZ aQ aO aV bA aR aP bK bP:Value} {x1:aI} {bV cB bL bE bW cC bN bF cM cQ:Value}:Ct Tryz.prog 20 true (mE x0 x1) [.agg #[.int .i64 (x0.aC.aA),aU,aZ,aQ,aO,.int .i64 (x0.aE.aA),aV,bA,aR,aP,bK,bP],.agg #[.int .i64 (x1.aC.aA),bV,cB,bL,bE,.int .i64 (x1.aE.aA),bW,cC,bN,bF,cM,cQ]] [rI aU x0.aC.aD,rI aZ x0.aC.To,rI aQ x0.aC.aH,rJ aO x0.aC.aB,rI aV x0.aE.aD,rI bA x0.aE.To,rI aR x0.aE.aH,rJ aP x0.aE.aB,rI bK x0.aA,rI bP x0.ab,rI bV x1.aC.aD,rI cB x1.aC.To,rI bL x1.aC.aH,rJ bE x1.aC.aB,rI bW x1.aE.aD,rI cC x1.aE.To,rI bN x1.aE.aH,rJ bF x1.aE.aB,rI cM x1.aA,rI cQ x1.ab] (fun y (_:Unit)=>[.bool y.1,.int .i64 y.2]) (fun y _=>[]):=by
 refine ct (S:=Unit) (b9 fun _ _=>rfl) Tryz.func20 rfl rfl ?_
 repeat' first
  | (apply Dk.fe; repeat' first | exact rfl | (refine @id.{0} _ ?_; constructor))
  | intro _
  | exact rfl
  | (refine @id.{0} _ ?_; constructor)
  | apply c46
  | apply YC
  | exact ()
theorem Uk {x0 x1:aI} {p q:Addr} {fq fu fv fw fx fy gf gh uo ua lr lu lv ly lz l3 l4 l5 wo wa:Value}:Ct Tryz.prog 49 true (fB (fun a0=>eM a0) x0 x1 false) [.pointer (some p),.pointer (some q),.bool false,.func (.func 50) #[] #[]] [.au p [.int .i64 x0.aC.aA,fq,fu,fv,fw,.int .i64 x0.aE.aA,fx,fy,gf,gh,uo,ua],.au q [.int .i64 x1.aC.aA,lr,lu,lv,ly,.int .i64 x1.aE.aA,lz,l3,l4,l5,wo,wa],rI fq x0.aC.aD,rI fu x0.aC.To,rI fv x0.aC.aH,rJ fw x0.aC.aB,rI fx x0.aE.aD,rI fy x0.aE.To,rI gf x0.aE.aH,rJ gh x0.aE.aB,rI uo x0.aA,rI ua x0.ab,rI lr x1.aC.aD,rI lu x1.aC.To,rI lv x1.aC.aH,rJ ly x1.aC.aB,rI lz x1.aE.aD,rI l3 x1.aE.To,rI l4 x1.aE.aH,rJ l5 x1.aE.aB,rI wo x1.aA,rI wa x1.ab] (fun y (_:Unit)=>[.bool y.1,.int .i64 y.2]) (fun _ _=>[]):=by
 refine ct (S:=Unit) (b9 fun _ _=>rfl) Tryz.func49 rfl rfl ?_
 repeat' first
  | (apply Dk.fe; repeat' first | exact rfl | (refine @id.{0} _ ?_; constructor))
  | intro _
  | exact rfl
  | (refine @id.{0} _ ?_; constructor)
  | apply YB
  | apply c50
  | exact ()
theorem RA {x0 x1:aI} {p q:Addr} {fq fu fv fw fx fy gf gh uo ua lr lu lv ly lz l3 l4 l5 wo wa:Value}:Ct Tryz.prog 49 true (fB (fun a0=>eM a0) x0 x1 true) [.pointer (some p),.pointer (some q),.bool true,.func (.func 50) #[] #[]] [.au p [.int .i64 x0.aC.aA,fq,fu,fv,fw,.int .i64 x0.aE.aA,fx,fy,gf,gh,uo,ua],.au q [.int .i64 x1.aC.aA,lr,lu,lv,ly,.int .i64 x1.aE.aA,lz,l3,l4,l5,wo,wa],rI fq x0.aC.aD,rI fu x0.aC.To,rI fv x0.aC.aH,rJ fw x0.aC.aB,rI fx x0.aE.aD,rI fy x0.aE.To,rI gf x0.aE.aH,rJ gh x0.aE.aB,rI uo x0.aA,rI ua x0.ab,rI lr x1.aC.aD,rI lu x1.aC.To,rI lv x1.aC.aH,rJ ly x1.aC.aB,rI lz x1.aE.aD,rI l3 x1.aE.To,rI l4 x1.aE.aH,rJ l5 x1.aE.aB,rI wo x1.aA,rI wa x1.ab] (fun y (_:Unit)=>[.bool y.1,.int .i64 y.2]) (fun _ _=>[]):=by
 refine ct (S:=Unit) (b9 fun _ _=>rfl) Tryz.func49 rfl rfl ?_
 repeat' first
  | (apply Dk.fe; repeat' first | exact rfl | (refine @id.{0} _ ?_; constructor))
  | intro _
  | exact rfl
  | (refine @id.{0} _ ?_; constructor)
  | apply Rz
  | apply c50
  | exact ()
theorem Ul {x0 x1:aI} {p q:Addr} {fq fu fv fw fx fy gf gh uo ua lr lu lv ly lz l3 l4 l5 wo wa:Value}:Ct Tryz.prog 49 true (fB (fun a0=>fA a0) x0 x1 false) [.pointer (some p),.pointer (some q),.bool false,.func (.func 51) #[] #[]] [.au p [.int .i64 x0.aC.aA,fq,fu,fv,fw,.int .i64 x0.aE.aA,fx,fy,gf,gh,uo,ua],.au q [.int .i64 x1.aC.aA,lr,lu,lv,ly,.int .i64 x1.aE.aA,lz,l3,l4,l5,wo,wa],rI fq x0.aC.aD,rI fu x0.aC.To,rI fv x0.aC.aH,rJ fw x0.aC.aB,rI fx x0.aE.aD,rI fy x0.aE.To,rI gf x0.aE.aH,rJ gh x0.aE.aB,rI uo x0.aA,rI ua x0.ab,rI lr x1.aC.aD,rI lu x1.aC.To,rI lv x1.aC.aH,rJ ly x1.aC.aB,rI lz x1.aE.aD,rI l3 x1.aE.To,rI l4 x1.aE.aH,rJ l5 x1.aE.aB,rI wo x1.aA,rI wa x1.ab] (fun y (_:Unit)=>[.bool y.1,.int .i64 y.2]) (fun _ _=>[]):=by
 refine ct (S:=Unit) (b9 fun _ _=>rfl) Tryz.func49 rfl rfl ?_
 repeat' first
  | (apply Dk.fe; repeat' first | exact rfl | (refine @id.{0} _ ?_; constructor))
  | intro _
  | exact rfl
  | (refine @id.{0} _ ?_; constructor)
  | apply YB
  | apply c51
  | exact ()
theorem RB {x0 x1:aI} {p q:Addr} {fq fu fv fw fx fy gf gh uo ua lr lu lv ly lz l3 l4 l5 wo wa:Value}:Ct Tryz.prog 49 true (fB (fun a0=>fA a0) x0 x1 true) [.pointer (some p),.pointer (some q),.bool true,.func (.func 51) #[] #[]] [.au p [.int .i64 x0.aC.aA,fq,fu,fv,fw,.int .i64 x0.aE.aA,fx,fy,gf,gh,uo,ua],.au q [.int .i64 x1.aC.aA,lr,lu,lv,ly,.int .i64 x1.aE.aA,lz,l3,l4,l5,wo,wa],rI fq x0.aC.aD,rI fu x0.aC.To,rI fv x0.aC.aH,rJ fw x0.aC.aB,rI fx x0.aE.aD,rI fy x0.aE.To,rI gf x0.aE.aH,rJ gh x0.aE.aB,rI uo x0.aA,rI ua x0.ab,rI lr x1.aC.aD,rI lu x1.aC.To,rI lv x1.aC.aH,rJ ly x1.aC.aB,rI lz x1.aE.aD,rI l3 x1.aE.To,rI l4 x1.aE.aH,rJ l5 x1.aE.aB,rI wo x1.aA,rI wa x1.ab] (fun y (_:Unit)=>[.bool y.1,.int .i64 y.2]) (fun _ _=>[]):=by
 refine ct (S:=Unit) (b9 fun _ _=>rfl) Tryz.func49 rfl rfl ?_
 repeat' first
  | (apply Dk.fe; repeat' first | exact rfl | (refine @id.{0} _ ?_; constructor))
  | intro _
  | exact rfl
  | (refine @id.{0} _ ?_; constructor)
  | apply Rz
  | apply c51
  | exact ()
theorem c21 {x0 x1:aI} {fq fu fv fw fx fy gf gh uo ua lr lu lv ly lz l3 l4 l5 wo wa:Value}:Ct Tryz.prog 21 true (iK x0 x1) [.agg #[.int .i64 x0.aC.aA,fq,fu,fv,fw,.int .i64 x0.aE.aA,fx,fy,gf,gh,uo,ua],.agg #[.int .i64 x1.aC.aA,lr,lu,lv,ly,.int .i64 x1.aE.aA,lz,l3,l4,l5,wo,wa]] [rI fq x0.aC.aD,rI fu x0.aC.To,rI fv x0.aC.aH,rJ fw x0.aC.aB,rI fx x0.aE.aD,rI fy x0.aE.To,rI gf x0.aE.aH,rJ gh x0.aE.aB,rI uo x0.aA,rI ua x0.ab,rI lr x1.aC.aD,rI lu x1.aC.To,rI lv x1.aC.aH,rJ ly x1.aC.aB,rI lz x1.aE.aD,rI l3 x1.aE.To,rI l4 x1.aE.aH,rJ l5 x1.aE.aB,rI wo x1.aA,rI wa x1.ab] (fun y (_:Unit)=>[.bool y.1,.int .i64 y.2]) (fun _ _=>[]):=by
 refine ct (S:=Unit) (b9 fun _ _=>rfl) Tryz.func21 rfl rfl ?_
 repeat' first
  | (apply Dk.fe; repeat' first | exact rfl | (refine @id.{0} _ ?_; constructor))
  | intro _
  | exact rfl
  | (refine @id.{0} _ ?_; constructor)
  | apply RA
  | exact ()
theorem c22 {x0 x1:aI} {fq fu fv fw fx fy gf gh uo ua lr lu lv ly lz l3 l4 l5 wo wa:Value}:Ct Tryz.prog 22 true (jR x0 x1) [.agg #[.int .i64 x0.aC.aA,fq,fu,fv,fw,.int .i64 x0.aE.aA,fx,fy,gf,gh,uo,ua],.agg #[.int .i64 x1.aC.aA,lr,lu,lv,ly,.int .i64 x1.aE.aA,lz,l3,l4,l5,wo,wa]] [rI fq x0.aC.aD,rI fu x0.aC.To,rI fv x0.aC.aH,rJ fw x0.aC.aB,rI fx x0.aE.aD,rI fy x0.aE.To,rI gf x0.aE.aH,rJ gh x0.aE.aB,rI uo x0.aA,rI ua x0.ab,rI lr x1.aC.aD,rI lu x1.aC.To,rI lv x1.aC.aH,rJ ly x1.aC.aB,rI lz x1.aE.aD,rI l3 x1.aE.To,rI l4 x1.aE.aH,rJ l5 x1.aE.aB,rI wo x1.aA,rI wa x1.ab] (fun y (_:Unit)=>[.bool y.1,.int .i64 y.2]) (fun _ _=>[]):=by
 refine ct (S:=Unit) (b9 fun _ _=>rfl) Tryz.func22 rfl rfl ?_
 repeat' first
  | (apply Dk.fe; repeat' first | exact rfl | (refine @id.{0} _ ?_; constructor))
  | intro _
  | exact rfl
  | (refine @id.{0} _ ?_; constructor)
  | apply Uk
  | exact ()
theorem c23 {x0 x1:aI} {fq fu fv fw fx fy gf gh uo ua lr lu lv ly lz l3 l4 l5 wo wa:Value}:Ct Tryz.prog 23 true (iU x0 x1) [.agg #[.int .i64 x0.aC.aA,fq,fu,fv,fw,.int .i64 x0.aE.aA,fx,fy,gf,gh,uo,ua],.agg #[.int .i64 x1.aC.aA,lr,lu,lv,ly,.int .i64 x1.aE.aA,lz,l3,l4,l5,wo,wa]] [rI fq x0.aC.aD,rI fu x0.aC.To,rI fv x0.aC.aH,rJ fw x0.aC.aB,rI fx x0.aE.aD,rI fy x0.aE.To,rI gf x0.aE.aH,rJ gh x0.aE.aB,rI uo x0.aA,rI ua x0.ab,rI lr x1.aC.aD,rI lu x1.aC.To,rI lv x1.aC.aH,rJ ly x1.aC.aB,rI lz x1.aE.aD,rI l3 x1.aE.To,rI l4 x1.aE.aH,rJ l5 x1.aE.aB,rI wo x1.aA,rI wa x1.ab] (fun y (_:Unit)=>[.bool y.1,.int .i64 y.2]) (fun _ _=>[]):=by
 refine ct (S:=Unit) (b9 fun _ _=>rfl) Tryz.func23 rfl rfl ?_
 repeat' first
  | (apply Dk.fe; repeat' first | exact rfl | (refine @id.{0} _ ?_; constructor))
  | intro _
  | exact rfl
  | (refine @id.{0} _ ?_; constructor)
  | apply RB
  | exact ()
theorem c24 {x0 x1:aI} {fq fu fv fw fx fy gf gh uo ua lr lu lv ly lz l3 l4 l5 wo wa:Value}:Ct Tryz.prog 24 true (kB x0 x1) [.agg #[.int .i64 x0.aC.aA,fq,fu,fv,fw,.int .i64 x0.aE.aA,fx,fy,gf,gh,uo,ua],.agg #[.int .i64 x1.aC.aA,lr,lu,lv,ly,.int .i64 x1.aE.aA,lz,l3,l4,l5,wo,wa]] [rI fq x0.aC.aD,rI fu x0.aC.To,rI fv x0.aC.aH,rJ fw x0.aC.aB,rI fx x0.aE.aD,rI fy x0.aE.To,rI gf x0.aE.aH,rJ gh x0.aE.aB,rI uo x0.aA,rI ua x0.ab,rI lr x1.aC.aD,rI lu x1.aC.To,rI lv x1.aC.aH,rJ ly x1.aC.aB,rI lz x1.aE.aD,rI l3 x1.aE.To,rI l4 x1.aE.aH,rJ l5 x1.aE.aB,rI wo x1.aA,rI wa x1.ab] (fun y (_:Unit)=>[.bool y.1,.int .i64 y.2]) (fun _ _=>[]):=by
 refine ct (S:=Unit) (b9 fun _ _=>rfl) Tryz.func24 rfl rfl ?_
 repeat' first
  | (apply Dk.fe; repeat' first | exact rfl | (refine @id.{0} _ ?_; constructor))
  | intro _
  | exact rfl
  | (refine @id.{0} _ ?_; constructor)
  | apply Ul
  | exact ()
theorem c4 {x0:(List Int)} {dC:Value}:Ct Tryz.prog 4 true (fD x0) [dC] [.rd false (bJ (aM .u8)) dC x0] (fun y (_:Unit)=>[.bool y]) (fun y _=>[]):=by
 refine ct (S:=Unit) (b9 fun _ _=>rfl) Tryz.func4 rfl rfl ?_
 repeat' first
  | (apply Dk.fe; repeat' first | exact rfl | (refine @id.{0} _ ?_; constructor))
  | intro _
  | exact rfl
  | (refine @id.{0} _ ?_; constructor)
  | apply c7
  | apply c17
  | apply c18
  | apply c19
  | apply c13
  | apply c20
  | apply c21
  | apply c22
  | apply c23
  | apply c24
  | exact ()
theorem nO {w:World} {x0:(List Int)} {dC:Value} {afc:List Nat} (afd:(bJ (aM .u8)).rep w.heap [dC] x0 afc) {y:(Bool)} (hm:fD x0=some y):Calls Tryz.prog 4 #[dC] w (fun e w'=>e = .returned (.bool y)∧an [] w w'):=
 TO c4 (.fact (TP afd) (.nil)) hm
end Go.Proofs.YtgjbmjjihmfppaaGreat
