/- Walks by the calculus D. No condition beside those that each theorem names. -/
import Derived.Test.YtilhlobfebngdaaGreatDp
import Derived.Test.YtilhlobfebngdaaGreatDi
import Derived.Test.YtilhlobfebngdaaGreatMo
import Derived.Test.YtilhlobfebngdaaGreatDs
import Derived.Test.YtilhlobfebngdaaGreatWb
import Derived.Test.YtilhlobfebngdaaGreatWc
import Derived.Test.YtilhlobfebngdaaGreatWf
import Derived.Test.YtilhlobfebngdaaGreatWg
import Derived.Test.YtilhlobfebngdaaGreatWh
namespace Go.Proofs.YtilhlobfebngdaaGreat
open Go Go.Li Go.Dk
set_option linter.unusedVariables false
set_option maxHeartbeats 16000000
set_option maxRecDepth 100000
theorem c65 {x0:aQ} {dD:Addr} {bK bQ aZ aW bL bR bA aY bU bZ:Value}:Ct Tryz.prog 65 true (gS x0) [.pointer (some (dD))] [.bn dD [.int .i64 (x0.aB.aA),bK,bQ,aZ,aW,.int .i64 (x0.aH.aA),bL,bR,bA,aY,bU,bZ],rI bK x0.aB.aG,rI bQ x0.aB.To,rI aZ x0.aB.aJ,rJ aW x0.aB.aE,rI bL x0.aH.aG,rI bR x0.aH.To,rI bA x0.aH.aJ,rJ aY x0.aH.aE,rI bU x0.aA,rI bZ x0.ab] (fun y (_:Unit)=>[.bool y]) (fun y _=>[]):=by
 refine ct (S:=Unit) (b9 fun _ _=>rfl) Tryz.func65 rfl rfl ?_
 repeat' first
  | (apply Dk.fe; repeat' first | exact rfl | (refine @id.{0} _ ?_; constructor))
  | intro _
  | exact rfl
  | (refine @id.{0} _ ?_; constructor)
  | apply Dk.Wt (id:=1) 7 [] [[],[0],[0,1],[],[3],[3,4],[0,1,2,3,4,5]] (by kernel_rfl)
  | apply c92
  | apply c93
  | exact ()
theorem af3 {x0:(List aQ)} {cX:Value}:Ct Tryz.prog 148 true (mM x0) [cX] [.rd false (bH (xG I8)) cX x0] (fun y (_:Unit)=>[.bool y]) (fun y _=>[]):=by
 refine ct (S:=Unit) (b9 fun _ _=>rfl) Tryz.func148 rfl rfl ?_
 repeat' first
  | (apply Dk.fe; repeat' first | exact rfl | (refine @id.{0} _ ?_; constructor))
  | intro _
  | exact rfl
  | (refine @id.{0} _ ?_; constructor)
  | apply Dk.loop 0 (V:=Unit) (fun (s:Int) v=>[]) (fun s v=>[(7,.int .i64 (s))]) () [(5,_),(6,_)]
  | apply c65
  | exact ()
theorem af4 {x0:bT} {dD:Addr} {eM eU eC dU eN eV eD dV fC fJ eP eW eE dW eQ eX eG dX fD fK gP:Value}:Ct Tryz.prog 129 true (gO x0) [.pointer (some (dD))] [.bn dD [.int .i64 (x0.aB.aB.aA),eM,eU,eC,dU,.int .i64 (x0.aB.aH.aA),eN,eV,eD,dV,fC,fJ,.int .i64 (x0.aH.aB.aA),eP,eW,eE,dW,.int .i64 (x0.aH.aH.aA),eQ,eX,eG,dX,fD,fK,gP],rI eM x0.aB.aB.aG,rI eU x0.aB.aB.To,rI eC x0.aB.aB.aJ,rJ dU x0.aB.aB.aE,rI eN x0.aB.aH.aG,rI eV x0.aB.aH.To,rI eD x0.aB.aH.aJ,rJ dV x0.aB.aH.aE,rI fC x0.aB.aA,rI fJ x0.aB.ab,rI eP x0.aH.aB.aG,rI eW x0.aH.aB.To,rI eE x0.aH.aB.aJ,rJ dW x0.aH.aB.aE,rI eQ x0.aH.aH.aG,rI eX x0.aH.aH.To,rI eG x0.aH.aH.aJ,rJ dX x0.aH.aH.aE,rI fD x0.aH.aA,rI fK x0.aH.ab,rI gP x0.bh] (fun y (_:Unit)=>[.bool y]) (fun y _=>[]):=by
 refine ct (S:=Unit) (b9 fun _ _=>rfl) Tryz.func129 rfl rfl ?_
 repeat' first
  | (apply Dk.fe; repeat' first | exact rfl | (refine @id.{0} _ ?_; constructor))
  | intro _
  | exact rfl
  | (refine @id.{0} _ ?_; constructor)
  | apply Dk.loop 0 (V:=Unit) (fun (s:Int) v=>[]) (fun s v=>[(54,.int .i64 (s))]) () [(3,_),(4,_),(52,_),(53,_)]
  | apply Dk.quiet (id:=1) (by kernel_rfl)
  | apply Dk.quiet (id:=7) (by kernel_rfl)
  | apply Dk.Wt (id:=2) 3 [] [[],[],[0,1]] (by kernel_rfl)
  | apply af3
  | apply afX
  | apply LU
  | apply Ps
  | apply TL
  | exact ()
theorem c98 {x0:bT} {dD:Addr} {eM eU eC dU eN eV eD dV fC fJ eP eW eE dW eQ eX eG dX fD fK gP:Value}:Ct Tryz.prog 98 true (fX x0) [.pointer (some (dD))] [.bn dD [.int .i64 (x0.aB.aB.aA),eM,eU,eC,dU,.int .i64 (x0.aB.aH.aA),eN,eV,eD,dV,fC,fJ,.int .i64 (x0.aH.aB.aA),eP,eW,eE,dW,.int .i64 (x0.aH.aH.aA),eQ,eX,eG,dX,fD,fK,gP],rI eM x0.aB.aB.aG,rI eU x0.aB.aB.To,rI eC x0.aB.aB.aJ,rJ dU x0.aB.aB.aE,rI eN x0.aB.aH.aG,rI eV x0.aB.aH.To,rI eD x0.aB.aH.aJ,rJ dV x0.aB.aH.aE,rI fC x0.aB.aA,rI fJ x0.aB.ab,rI eP x0.aH.aB.aG,rI eW x0.aH.aB.To,rI eE x0.aH.aB.aJ,rJ dW x0.aH.aB.aE,rI eQ x0.aH.aH.aG,rI eX x0.aH.aH.To,rI eG x0.aH.aH.aJ,rJ dX x0.aH.aH.aE,rI fD x0.aH.aA,rI fK x0.aH.ab,rI gP x0.bh] (fun y (_:Unit)=>[.bool y]) (fun y _=>[]):=by
 refine ct (S:=Unit) (b9 fun _ _=>rfl) Tryz.func98 rfl rfl ?_
 repeat' first
  | (apply Dk.fe; repeat' first | exact rfl | (refine @id.{0} _ ?_; constructor))
  | intro _
  | exact rfl
  | (refine @id.{0} _ ?_; constructor)
  | apply af4
  | apply Pu
  | exact ()
theorem c69 {x0:(List bT)} {cX:Value}:Ct Tryz.prog 69 true (lJ x0) [cX] [.rd false (bH (xG MD)) cX x0] (fun y (_:Unit)=>[.bool y]) (fun y _=>[]):=by
 refine ct (S:=Unit) (b9 fun _ _=>rfl) Tryz.func69 rfl rfl ?_
 repeat' first
  | (apply Dk.fe; repeat' first | exact rfl | (refine @id.{0} _ ?_; constructor))
  | intro _
  | exact rfl
  | (refine @id.{0} _ ?_; constructor)
  | apply Dk.loop 0 (V:=Unit) (fun (s:Int) v=>[]) (fun s v=>[(7,.int .i64 (s))]) () [(5,_),(6,_)]
  | apply c98
  | exact ()
theorem c33 {x0:bV} {dD:Addr} {bB bF aT aR bC bG aU aS bN bP cB cD:Value}:Ct Tryz.prog 33 true (lK x0) [.pointer (some (dD))] [.bn dD [.int .i64 (x0.On.aB.aA),bB,bF,aT,aR,.int .i64 (x0.On.aH.aA),bC,bG,aU,aS,bN,bP,cB,cD],rI bB x0.On.aB.aG,rI bF x0.On.aB.To,rI aT x0.On.aB.aJ,rJ aR x0.On.aB.aE,rI bC x0.On.aH.aG,rI bG x0.On.aH.To,rI aU x0.On.aH.aJ,rJ aS x0.On.aH.aE,rI bN x0.On.aA,rI bP x0.On.ab,rI cB x0.Unit,rI cD x0.bz] (fun y (_:Unit)=>[.bool y]) (fun y _=>[]):=by
 refine ct (S:=Unit) (b9 fun _ _=>rfl) Tryz.func33 rfl rfl ?_
 repeat' first
  | (apply Dk.fe; repeat' first | exact rfl | (refine @id.{0} _ ?_; constructor))
  | intro _
  | exact rfl
  | apply Dk.AD.val (d:=45)
  | apply Dk.AD.val (d:=55)
  | (apply Dk.Lp (t:=2); exact rfl)
  | (refine @id.{0} _ ?_; constructor)
  | apply Dk.quiet (id:=1) (by kernel_rfl)
  | apply Dk.any (id:=3) 14 [] [] [[],[0],[0,1],[0,1,2],[0,1,2,3],[],[5],[5,6],[],[8],[8,9],[0,1,2,3,4,5,6,7,8,9,10],[],[]] (by kernel_rfl)
  | apply Dk.any (id:=4) 11 [] [] [[],[],[1],[1,2],[1,2,3],[],[5],[5,6],[5,6,7],[0,1,2,3,4,5,6,7,8],[]] (by kernel_rfl)
  | apply Dk.any (id:=5) 11 [] [] [[],[],[1],[1,2],[1,2,3],[],[5],[5,6],[5,6,7],[0,1,2,3,4,5,6,7,8],[]] (by kernel_rfl)
  | apply c65
  | apply c66
  | apply c67
  | apply c68
  | apply c69
  | apply c70
  | exact ()
theorem TP {x0:bV} {dD:Addr} {bB bF aT aR bC bG aU aS bN bP cB cD:Value} {x1:(List Int)} {dS:Value} {x2:(List Int)} {eA:Value}:Ct Tryz.prog 44 true (iM x0 x1 x2) [.pointer (some (dD)),dS,eA] [.bn dD [.int .i64 (x0.On.aB.aA),bB,bF,aT,aR,.int .i64 (x0.On.aH.aA),bC,bG,aU,aS,bN,bP,cB,cD],rI bB x0.On.aB.aG,rI bF x0.On.aB.To,rI aT x0.On.aB.aJ,rJ aR x0.On.aB.aE,rI bC x0.On.aH.aG,rI bG x0.On.aH.To,rI aU x0.On.aH.aJ,rJ aS x0.On.aH.aE,rI bN x0.On.aA,rI bP x0.On.ab,rI cB x0.Unit,rI cD x0.bz,rI dS x1,rI eA x2] (fun y (_:Unit)=>[.int .i64 y]) (fun y _=>[]):=by
 refine ct (S:=Unit) (b9 fun _ _=>rfl) Tryz.func44 rfl rfl ?_
 repeat' first
  | (apply Dk.fe; repeat' first | exact rfl | (refine @id.{0} _ ?_; constructor))
  | intro _
  | exact rfl
  | (refine @id.{0} _ ?_; constructor)
  | apply c33
  | apply Ps
  | apply LU
  | exact ()
end Go.Proofs.YtilhlobfebngdaaGreat
