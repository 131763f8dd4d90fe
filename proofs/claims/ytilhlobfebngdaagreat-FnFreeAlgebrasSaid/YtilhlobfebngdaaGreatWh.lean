/- Walks by the calculus D. No condition beside those that each theorem names. -/
import Derived.Test.YtilhlobfebngdaaGreatDp
import Derived.Test.YtilhlobfebngdaaGreatDi
import Derived.Test.YtilhlobfebngdaaGreatMo
import Derived.Test.YtilhlobfebngdaaGreatDs
import Derived.Test.YtilhlobfebngdaaGreatWa
import Derived.Test.YtilhlobfebngdaaGreatWb
import Derived.Test.YtilhlobfebngdaaGreatWc
import Derived.Test.YtilhlobfebngdaaGreatWd
namespace Go.Proofs.YtilhlobfebngdaaGreat
open Go Go.Li Go.Dk
set_option linter.unusedVariables false
set_option maxHeartbeats 16000000
set_option maxRecDepth 100000
theorem afY {x0:Int} {x1:(List Int)} {dS:Value} {x2:(List Int)} {eA:Value}:Ct Tryz.prog 150 false (mW x0 x1 x2) [.int .i64 (x0),dS,eA] [rI dS x1,rI eA x2] (fun y (v:Value)=>[v]) (fun y v=>[.rd false (bH (rj wZ)) v y]):=by
 refine ct (S:=Unit) B6 Tryz.func150 rfl rfl ?_
 repeat' first
  | (apply Dk.fe; repeat' first | exact rfl | (refine @id.{0} _ ?_; constructor))
  | intro _
  | exact rfl
  | (refine (id (α:=@Eq (List Value) _ _) ?_); dsimp only; try exact rfl)
  | apply Dk.lgS (t:=176) (S:=wZ)
  | apply Dk.lnS (t:=176)
  | apply Dk.ixS (t:=176)
  | apply Dk.apS (t:=176) (bX.mk _ _ _)
  | apply Dk.SY (n:=3)
  | apply Dk.Qi (n:=3)
  | apply Dk.Wv (n:=3)
  | apply Dk.stS (n:=3) (S:=wZ) _
  | apply Dk.AD.VF
  | apply Dk.AD.laG (n:=3)
  | apply Dk.AD.VG (n:=3)
  | (refine @id.{0} _ ?_; constructor)
  | apply Dk.E0 0 (V:=Value) (W:=List (List Value)) (fun (s:(List bX)×Int) v u=>[.own (aL 179 (jm 3)) v u,.rd false (xa wZ) (.bool true) (u,s.1)]) (fun s v u=>[(7,v),(8,.int .i64 (s.2))]) _ _ [(0,_),(1,_),(2,_)]
  | apply Dk.E0 2 (V:=Value) (W:=List (List Value)) (fun (s:(List bX)×Int) v u=>[.own (aL 179 (jm 3)) v u,.rd false (xa wZ) (.bool true) (u,s.1)]) (fun s v u=>[(7,v),(9,.int .i64 (s.2))]) _ _ [(0,_),(1,_),(2,_)]
  | apply Dk.E0 4 (V:=Value) (W:=List (List Value)) (fun (s:(List bX)×Int) v u=>[.own (aL 179 (jm 3)) v u,.rd false (xa wZ) (.bool true) (u,s.1)]) (fun s v u=>[(7,v),(10,.int .i64 (s.2))]) _ _ [(0,_),(1,_),(2,_),(9,_)]
  | apply Dk.E0 6 (V:=Value) (W:=List (List Value)) (fun (s:(List bX)×Int) v u=>[.own (aL 179 (jm 3)) v u,.rd false (xa wZ) (.bool true) (u,s.1)]) (fun s v u=>[(7,v),(11,.int .i64 (s.2))]) _ _ []
  | apply Dk.E0 8 (V:=Value) (W:=List (List Value)) (fun (s:(List bX)×Int) v u=>[.own (aL 179 (jm 3)) v u,.rd false (xa wZ) (.bool true) (u,s.1)]) (fun s v u=>[(7,v),(12,.int .i64 (s.2))]) _ _ [(11,_)]
  | apply Dk.quiet (id:=12) (by kernel_rfl)
  | apply Dk.quiet (id:=18) (by kernel_rfl)
  | apply Dk.any (id:=13) 19 [0] [[],[],[],[],[],[],[],[],[],[],[],[],[],[],[],[],[],[],[15]] [[],[],[],[1,2],[1,2,3],[1,2,3,4],[],[],[6,7],[6,7,8],[],[],[10,11],[10,11,12],[10,11,12,13],[10,11,12,13,14],[],[16],[10,11,12,13,14,15,16,17]] (by kernel_rfl)
  | apply wW
  | apply afv
  | exact ()
theorem afZ {x0:Int} {x1:(List Int)} {dS:Value} {x2:(List Int)} {eA:Value}:Ct Tryz.prog 133 true (gJ x0 x1 x2) [.int .i64 (x0),dS,eA] [rI dS x1,rI eA x2] (fun y (v:Value×Value×Value×Value)=>[.agg #[.int .i64 y.aA,v.1,v.2.1,v.2.2.1,v.2.2.2]]) (fun y v=>[.own (aL 2 (aN .i64)) v.1 y.aG,.own (aL 2 (aN .i64)) v.2.1 y.To,.own (aL 2 (aN .i64)) v.2.2.1 y.aJ,.own (aL 24 (aL 2 (aN .i64))) v.2.2.2 y.aE]):=by
 refine ct (S:=Unit) (b9 fun _ _=>rfl) Tryz.func133 rfl rfl ?_
 repeat' first
  | (apply Dk.fe; repeat' first | exact rfl | (refine @id.{0} _ ?_; constructor))
  | intro _
  | exact rfl
  | (refine Dk.uW (t:=83) rfl ?_ ?_)
  | apply Dk.AD.apR (d:=108)
  | (refine Dk.uW (t:=112) rfl ?_ ?_)
  | (refine @id.{0} _ ?_; constructor)
  | apply Dk.jg 0 (V:=Value×Value) (A:=Nat×Value×Value) (_,_,_) (fun a (s:Int×(List Int)×(List Int)×(List Int)) v=>Dk.pc (fun a0=>Dk.pc (fun a1 a2=>[.row a0 [.int .i64 (x0),v.1,v.2,a1,a2] 27,.own (aL 2 (aN .i64)) a1 s.2.2.2,.own (aL 2 (aN .i64)) v.1 s.2.1,.own (aL 2 (aN .i64)) v.2 s.2.2.1])) a) (fun a s v=>Dk.pc (fun a0=>Dk.pc (fun a1 a2=>[(8,.pointer (some ⟨a0,0,none⟩)),(9,.int .i64 (s.1))])) a) (_,_) [(6,_),(7,_)]
  | apply Dk.jg 2 (V:=Value) (A:=Nat×Value×Value×Value) (_,_,_,_) (fun a (s:Int×(List (List Int))) v=>Dk.pc (fun a0=>Dk.pc (fun a1=>Dk.pc (fun a2 a3=>[.row a0 [.int .i64 (x0),a1,a2,a3,v] 27,.own (aL 24 (aL 2 (aN .i64))) v s.2]))) a) (fun a s v=>Dk.pc (fun a0=>Dk.pc (fun a1=>Dk.pc (fun a2 a3=>[(8,.pointer (some ⟨a0,0,none⟩)),(10,.int .i64 (s.1))]))) a) _ [(6,_),(7,_)]
  | apply Dk.loop 4 (V:=Value) (fun (s:(List Int)×Int) v=>[.own (aL 2 (aN .i64)) v s.1]) (fun s v=>[(11,v),(12,.int .i64 (s.2))]) _ [(6,_),(7,_),(8,_),(10,_)]
  | apply Dk.loop 6 (V:=Unit) (fun (s:Int×Int) v=>[]) (fun s v=>[(13,.int .i64 (s.1)),(15,.int .i64 (s.2))]) () [(6,_),(7,_),(8,_),(10,_),(11,_),(12,_),(14,_)]
  | apply Dk.quiet (id:=20) (by kernel_rfl)
  | apply Dk.quiet (id:=25) (by kernel_rfl)
  | apply Dk.any (id:=6) 8 [] [] [[],[0],[],[],[2,3],[2,3,4],[2,3,4,5],[2,3,4,5,6]] (by kernel_rfl)
  | apply Dk.any (id:=7) 8 [] [] [[],[0],[],[],[2,3],[2,3,4],[2,3,4,5],[2,3,4,5,6]] (by kernel_rfl)
  | apply Dk.any (id:=9) 8 [] [] [[],[0],[],[],[2,3],[2,3,4],[2,3,4,5],[]] (by kernel_rfl)
  | apply Dk.any (id:=21) 11 [] [] [[],[],[0,1],[0,1,2],[0,1,2,3],[0,1,2,3,4],[],[],[6,7],[6,7,8],[6,7,8,9]] (by kernel_rfl)
  | apply afY
  | apply YJ
  | apply wW
  | apply TN
  | exact ()
theorem af0 {x0:aQ} {bK bQ aZ aW bL bR bA aY bU bZ:Value} {x1:Int} {x2:Int} {x3:Int}:Ct Tryz.prog 155 true (lQ x0 x1 x2 x3) [.agg #[.int .i64 (x0.aB.aA),bK,bQ,aZ,aW,.int .i64 (x0.aH.aA),bL,bR,bA,aY,bU,bZ],.int .i64 (x1),.int .i64 (x2),.int .i64 (x3)] [rI bK x0.aB.aG,rI bQ x0.aB.To,rI aZ x0.aB.aJ,rJ aW x0.aB.aE,rI bL x0.aH.aG,rI bR x0.aH.To,rI bA x0.aH.aJ,rJ aY x0.aH.aE,rI bU x0.aA,rI bZ x0.ab] (fun y (_:Unit)=>[.bool y]) (fun y _=>[]):=by
 refine ct (S:=Unit) (b9 fun _ _=>rfl) Tryz.func155 rfl rfl ?_
 repeat' first
  | (apply Dk.fe; repeat' first | exact rfl | (refine @id.{0} _ ?_; constructor))
  | intro _
  | exact rfl
  | (refine @id.{0} _ ?_; constructor)
  | apply Dk.loop 0 (V:=Unit) (fun (s:Int) v=>[]) (fun s v=>[(9,.int .i64 (s))]) () [(1,_),(2,_),(3,_),(4,_)]
  | apply Dk.loop 2 (V:=Unit) (fun (s:Int) v=>[]) (fun s v=>[(11,.int .i64 (s))]) () [(1,_),(2,_),(3,_),(4,_),(9,_),(10,_)]
  | apply Dk.any (id:=4) 8 [] [] [[],[0],[],[2],[],[2,3,4],[2,3,4,5],[]] (by kernel_rfl)
  | apply Dk.any (id:=8) 8 [] [] [[],[],[],[],[],[],[4,5],[4,5,6]] (by kernel_rfl)
  | apply D9
  | apply YD
  | exact ()
theorem af1 {x0:aQ} {bK bQ aZ aW bL bR bA aY bU bZ:Value} {x1:Int}:Ct Tryz.prog 141 true (qR x0 x1) [.agg #[.int .i64 (x0.aB.aA),bK,bQ,aZ,aW,.int .i64 (x0.aH.aA),bL,bR,bA,aY,bU,bZ],.int .i64 (x1)] [rI bK x0.aB.aG,rI bQ x0.aB.To,rI aZ x0.aB.aJ,rJ aW x0.aB.aE,rI bL x0.aH.aG,rI bR x0.aH.To,rI bA x0.aH.aJ,rJ aY x0.aH.aE,rI bU x0.aA,rI bZ x0.ab] (fun y (_:Unit)=>[.int .i64 y.1,.int .i64 y.2.1,.bool y.2.2]) (fun y _=>[]):=by
 refine ct (S:=Unit) (b9 fun _ _=>rfl) Tryz.func141 rfl rfl ?_
 repeat' first
  | (apply Dk.fe; repeat' first | exact rfl | (refine @id.{0} _ ?_; constructor))
  | intro _
  | exact rfl
  | (refine @id.{0} _ ?_; constructor)
  | apply Dk.loop 0 (V:=Unit) (fun (s:Int) v=>[]) (fun s v=>[(7,.int .i64 (s))]) () [(1,_),(2,_)]
  | apply Dk.loop 2 (V:=Unit) (fun (s:Int) v=>[]) (fun s v=>[(9,.int .i64 (s))]) () [(1,_),(2,_),(7,_),(8,_)]
  | apply Dk.quiet (id:=8) (by kernel_rfl)
  | apply Dk.quiet (id:=9) (by kernel_rfl)
  | apply Dk.any (id:=4) 8 [] [] [[],[0],[],[2],[],[2,3,4],[2,3,4,5],[]] (by kernel_rfl)
  | apply D9
  | apply af0
  | exact ()
theorem c76 {x0:bV} {bB bF aT aR bC bG aU aS bN bP cB cD:Value}:Ct Tryz.prog 76 true (sH x0) [.agg #[.int .i64 (x0.On.aB.aA),bB,bF,aT,aR,.int .i64 (x0.On.aH.aA),bC,bG,aU,aS,bN,bP,cB,cD]] [rI bB x0.On.aB.aG,rI bF x0.On.aB.To,rI aT x0.On.aB.aJ,rJ aR x0.On.aB.aE,rI bC x0.On.aH.aG,rI bG x0.On.aH.To,rI aU x0.On.aH.aJ,rJ aS x0.On.aH.aE,rI bN x0.On.aA,rI bP x0.On.ab,rI cB x0.Unit,rI cD x0.bz] (fun y (v:Value)=>[v]) (fun y v=>[.own (aL 24 (aL 2 (aN .i64))) v y]):=by
 refine ct (S:=Unit) (b9 fun _ _=>rfl) Tryz.func76 rfl rfl ?_
 repeat' first
  | (apply Dk.fe; repeat' first | exact rfl | (refine @id.{0} _ ?_; constructor))
  | intro _
  | exact rfl
  | apply Dk.xL (d:=46)
  | (refine @id.{0} _ ?_; constructor)
  | apply Dk.loop 0 (V:=Value) (fun (s:(List (List Int))×Int) v=>[.own (aL 24 (aL 2 (aN .i64))) v s.1]) (fun s v=>[(4,v),(5,.int .i64 (s.2))]) _ [(1,_),(3,_)]
  | apply Dk.loop 2 (V:=Value) (fun (s:(List (List Int))×Int) v=>[.own (aL 24 (aL 2 (aN .i64))) v s.1]) (fun s v=>[(4,v),(7,.int .i64 (s.2))]) _ [(1,_),(3,_),(5,_),(6,_)]
  | apply Dk.quiet (id:=10) (by kernel_rfl)
  | apply Dk.any (id:=6) 8 [] [] [[],[],[1],[1,2],[],[1,2,3,4],[1,2,3,4,5],[]] (by kernel_rfl)
  | apply D9
  | apply YE
  | exact ()
theorem af2 {x0:aI} {dD:Addr} {aV bE aP aO:Value}:Ct Tryz.prog 107 true (jK x0) [.pointer (some (dD))] [.bn dD [.int .i64 (x0.aA),aV,bE,aP,aO],rI aV x0.aG,rI bE x0.To,rI aP x0.aJ,rJ aO x0.aE] (fun y (_:Unit)=>[.bool y]) (fun y _=>[]):=by
 refine ct (S:=Unit) (b9 fun _ _=>rfl) Tryz.func107 rfl rfl ?_
 repeat' first
  | (apply Dk.fe; repeat' first | exact rfl | (refine @id.{0} _ ?_; constructor))
  | intro _
  | exact rfl
  | (refine @id.{0} _ ?_; constructor)
  | apply Dk.loop 0 (V:=Unit) (fun (s:Int) v=>[]) (fun s v=>[(88,.int .i64 (s))]) () [(0,_),(3,_),(86,_),(87,_)]
  | apply Dk.loop 2 (V:=Unit) (fun (s:Int) v=>[]) (fun s v=>[(106,.int .i64 (s))]) () [(0,_),(3,_),(104,_),(105,_)]
  | apply Dk.loop 4 (V:=Unit) (fun (s:Int) v=>[]) (fun s v=>[(117,.int .i64 (s))]) () [(0,_),(3,_),(6,_),(104,_),(105,_),(106,_),(115,_),(116,_)]
  | apply Dk.quiet (id:=2) (by kernel_rfl)
  | apply Dk.quiet (id:=4) (by kernel_rfl)
  | apply Dk.quiet (id:=20) (by kernel_rfl)
  | apply Dk.quiet (id:=23) (by kernel_rfl)
  | apply LU
  | apply c71
  | apply Ps
  | apply TL
  | exact ()
theorem c78 {x0:aI} {dD:Addr} {aV bE aP aO:Value}:Ct Tryz.prog 78 true (gG x0) [.pointer (some (dD))] [.bn dD [.int .i64 (x0.aA),aV,bE,aP,aO],rI aV x0.aG,rI bE x0.To,rI aP x0.aJ,rJ aO x0.aE] (fun y (_:Unit)=>[.bool y]) (fun y _=>[]):=by
 refine ct (S:=Unit) (b9 fun _ _=>rfl) Tryz.func78 rfl rfl ?_
 repeat' first
  | (apply Dk.fe; repeat' first | exact rfl | (refine @id.{0} _ ?_; constructor))
  | intro _
  | exact rfl
  | (refine @id.{0} _ ?_; constructor)
  | apply af2
  | apply afq
  | exact ()
theorem c92 {x0:(List aI)} {cX:Value}:Ct Tryz.prog 92 true (lF x0) [cX] [.rd false (bH (xG Qu)) cX x0] (fun y (_:Unit)=>[.bool y]) (fun y _=>[]):=by
 refine ct (S:=Unit) (b9 fun _ _=>rfl) Tryz.func92 rfl rfl ?_
 repeat' first
  | (apply Dk.fe; repeat' first | exact rfl | (refine @id.{0} _ ?_; constructor))
  | intro _
  | exact rfl
  | (refine @id.{0} _ ?_; constructor)
  | apply Dk.loop 0 (V:=Unit) (fun (s:Int) v=>[]) (fun s v=>[(7,.int .i64 (s))]) () [(5,_),(6,_)]
  | apply c78
  | exact ()
theorem Pu {x0:bT} {dD:Addr} {eM eU eC dU eN eV eD dV fC fJ eP eW eE dW eQ eX eG dX fD fK gP:Value}:Ct Tryz.prog 130 true (lT x0 (fun a0 a1 a2 a3=>jQ a0 a1 a2 a3)) [.pointer (some (dD)),.func (.func 131) #[] #[]] [.bn dD [.int .i64 (x0.aB.aB.aA),eM,eU,eC,dU,.int .i64 (x0.aB.aH.aA),eN,eV,eD,dV,fC,fJ,.int .i64 (x0.aH.aB.aA),eP,eW,eE,dW,.int .i64 (x0.aH.aH.aA),eQ,eX,eG,dX,fD,fK,gP],rI eM x0.aB.aB.aG,rI eU x0.aB.aB.To,rI eC x0.aB.aB.aJ,rJ dU x0.aB.aB.aE,rI eN x0.aB.aH.aG,rI eV x0.aB.aH.To,rI eD x0.aB.aH.aJ,rJ dV x0.aB.aH.aE,rI fC x0.aB.aA,rI fJ x0.aB.ab,rI eP x0.aH.aB.aG,rI eW x0.aH.aB.To,rI eE x0.aH.aB.aJ,rJ dW x0.aH.aB.aE,rI eQ x0.aH.aH.aG,rI eX x0.aH.aH.To,rI eG x0.aH.aH.aJ,rJ dX x0.aH.aH.aE,rI fD x0.aH.aA,rI fK x0.aH.ab,rI gP x0.bh] (fun y (_:Unit)=>[.int .i64 y]) (fun y _=>[]):=by
 refine ct (S:=Unit) (b9 fun _ _=>rfl) Tryz.func130 rfl rfl ?_
 repeat' first
  | (apply Dk.fe; repeat' first | exact rfl | (refine @id.{0} _ ?_; constructor))
  | intro _
  | exact rfl
  | (refine @id.{0} _ ?_; constructor)
  | apply Dk.loop 0 (V:=Unit) (fun (s:Int) v=>[]) (fun s v=>[(12,.int .i64 (s))]) () [(0,_),(1,_),(11,_)]
  | apply Dk.quiet (id:=4) (by kernel_rfl)
  | apply afr
  | exact ()
theorem c54 {x0:aI} {dD:Addr} {aV bE aP aO:Value} {x1:(List Int)} {dS:Value}:Ct Tryz.prog 54 true (rB x0 x1) [.pointer (some (dD)),dS] [.bn dD [.int .i64 (x0.aA),aV,bE,aP,aO],rI aV x0.aG,rI bE x0.To,rI aP x0.aJ,rJ aO x0.aE,rI dS x1] (fun y (_:Unit)=>[.int .i64 y]) (fun y _=>[]):=by
 refine ct (S:=Unit) (b9 fun _ _=>rfl) Tryz.func54 rfl rfl ?_
 repeat' first
  | (apply Dk.fe; repeat' first | exact rfl | (refine @id.{0} _ ?_; constructor))
  | intro _
  | exact rfl
  | (refine @id.{0} _ ?_; constructor)
  | apply c78
  | apply Ps
  | exact ()
end Go.Proofs.YtilhlobfebngdaaGreat
