/- Walks by the calculus D. No condition beside those that each theorem names. -/
import Derived.Test.YtjdkifckhidlbaaGreatDp
import Derived.Test.YtjdkifckhidlbaaGreatDi
import Derived.Test.YtjdkifckhidlbaaGreatMo
import Derived.Test.YtjdkifckhidlbaaGreatDs
import Derived.Test.YtjdkifckhidlbaaGreatWa
import Derived.Test.YtjdkifckhidlbaaGreatWb
import Derived.Test.YtjdkifckhidlbaaGreatWc
import Derived.Test.YtjdkifckhidlbaaGreatWd
namespace Go.Proofs.YtjdkifckhidlbaaGreat
open Go Go.Li Go.Dk
set_option linter.unusedVariables false
set_option maxHeartbeats 16000000
set_option maxRecDepth 100000
theorem afN {x0:Int} {x1:(List Int)} {fH:Value} {x2:(List Int)} {eB:Value}:Ct Tryz.prog 303 false (mC x0 x1 x2) [.int .i64 (x0),fH,eB] [rI fH x1,rI eB x2] (fun y (v:Value)=>[v]) (fun y v=>[.rd false (bY (tI wH)) v y]):=by
 refine ct (S:=Unit) HC Tryz.func303 rfl rfl ?_
 repeat' first
  | (apply Dk.fe; repeat' first | exact rfl | (refine @id.{0} _ ?_; constructor))
  | intro _
  | exact rfl
  | (refine (id (α:=@Eq (List Value) _ _) ?_); dsimp only; try exact rfl)
  | apply Dk.lgS (t:=283) (S:=wH)
  | apply Dk.lnS (t:=283)
  | apply Dk.ixS (t:=283)
  | apply Dk.apS (t:=283) (cE.mk _ _ _)
  | apply Dk.V2 (n:=3)
  | apply Dk.V3 (n:=3)
  | apply Dk.lsS (n:=3)
  | apply Dk.stS (n:=3) (S:=wH) _
  | apply Dk.AD.Vi
  | apply Dk.AD.laG (n:=3)
  | apply Dk.AD.Vj (n:=3)
  | (refine @id.{0} _ ?_; constructor)
  | apply Dk.Er 0 (V:=Value) (W:=List (List Value)) (fun (s:(List cE)×Int) v u=>[.own (aK 286 (jw 3)) v u,.rd false (vU wH) (.bool true) (u,s.1)]) (fun s v u=>[(7,v),(8,.int .i64 (s.2))]) _ _ [(0,_),(1,_),(2,_)]
  | apply Dk.Er 2 (V:=Value) (W:=List (List Value)) (fun (s:(List cE)×Int) v u=>[.own (aK 286 (jw 3)) v u,.rd false (vU wH) (.bool true) (u,s.1)]) (fun s v u=>[(7,v),(9,.int .i64 (s.2))]) _ _ [(0,_),(1,_),(2,_)]
  | apply Dk.Er 4 (V:=Value) (W:=List (List Value)) (fun (s:(List cE)×Int) v u=>[.own (aK 286 (jw 3)) v u,.rd false (vU wH) (.bool true) (u,s.1)]) (fun s v u=>[(7,v),(10,.int .i64 (s.2))]) _ _ [(0,_),(1,_),(2,_),(9,_)]
  | apply Dk.Er 6 (V:=Value) (W:=List (List Value)) (fun (s:(List cE)×Int) v u=>[.own (aK 286 (jw 3)) v u,.rd false (vU wH) (.bool true) (u,s.1)]) (fun s v u=>[(7,v),(11,.int .i64 (s.2))]) _ _ []
  | apply Dk.Er 8 (V:=Value) (W:=List (List Value)) (fun (s:(List cE)×Int) v u=>[.own (aK 286 (jw 3)) v u,.rd false (vU wH) (.bool true) (u,s.1)]) (fun s v u=>[(7,v),(12,.int .i64 (s.2))]) _ _ [(11,_)]
  | apply Dk.quiet (id:=12) (by kernel_rfl)
  | apply Dk.quiet (id:=18) (by kernel_rfl)
  | apply Dk.any (id:=13) 19 [0] [[],[],[],[],[],[],[],[],[],[],[],[],[],[],[],[],[],[],[15]] [[],[],[],[1,2],[1,2,3],[1,2,3,4],[],[],[6,7],[6,7,8],[],[],[10,11],[10,11,12],[10,11,12,13],[10,11,12,13,14],[],[16],[10,11,12,13,14,15,16,17]] (by kernel_rfl)
  | apply zJ
  | apply ae9
  | exact ()
theorem afO {x0:Int} {x1:(List Int)} {fH:Value} {x2:(List Int)} {eB:Value}:Ct Tryz.prog 267 true (gA x0 x1 x2) [.int .i64 (x0),fH,eB] [rI fH x1,rI eB x2] (fun y (v:Value×Value×Value×Value)=>[.agg #[.int .i64 y.aA,v.1,v.2.1,v.2.2.1,v.2.2.2]]) (fun y v=>[.own (aK 2 (aM .i64)) v.1 y.aH,.own (aK 2 (aM .i64)) v.2.1 y.To,.own (aK 2 (aM .i64)) v.2.2.1 y.aJ,.own (aK 24 (aK 2 (aM .i64))) v.2.2.2 y.aE]):=by
 refine ct (S:=Unit) (cf fun _ _=>rfl) Tryz.func267 rfl rfl ?_
 repeat' first
  | (apply Dk.fe; repeat' first | exact rfl | (refine @id.{0} _ ?_; constructor))
  | intro _
  | exact rfl
  | (refine Dk.va (t:=83) rfl ?_ ?_)
  | apply Dk.AD.Sb (d:=108)
  | (refine Dk.va (t:=112) rfl ?_ ?_)
  | (refine @id.{0} _ ?_; constructor)
  | apply Dk.j5 0 (V:=Value×Value) (A:=Nat×Value×Value) (_,_,_) (fun a (s:Int×(List Int)×(List Int)×(List Int)) v=>Dk.pc (fun a0=>Dk.pc (fun a1 a2=>[.row a0 [.int .i64 (x0),v.1,v.2,a1,a2] 27,.own (aK 2 (aM .i64)) a1 s.2.2.2,.own (aK 2 (aM .i64)) v.1 s.2.1,.own (aK 2 (aM .i64)) v.2 s.2.2.1])) a) (fun a s v=>Dk.pc (fun a0=>Dk.pc (fun a1 a2=>[(8,.pointer (some ⟨a0,0,none⟩)),(9,.int .i64 (s.1))])) a) (_,_) [(6,_),(7,_)]
  | apply Dk.j5 2 (V:=Value) (A:=Nat×Value×Value×Value) (_,_,_,_) (fun a (s:Int×(List (List Int))) v=>Dk.pc (fun a0=>Dk.pc (fun a1=>Dk.pc (fun a2 a3=>[.row a0 [.int .i64 (x0),a1,a2,a3,v] 27,.own (aK 24 (aK 2 (aM .i64))) v s.2]))) a) (fun a s v=>Dk.pc (fun a0=>Dk.pc (fun a1=>Dk.pc (fun a2 a3=>[(8,.pointer (some ⟨a0,0,none⟩)),(10,.int .i64 (s.1))]))) a) _ [(6,_),(7,_)]
  | apply Dk.loop 4 (V:=Value) (fun (s:(List Int)×Int) v=>[.own (aK 2 (aM .i64)) v s.1]) (fun s v=>[(11,v),(12,.int .i64 (s.2))]) _ [(6,_),(7,_),(8,_),(10,_)]
  | apply Dk.loop 6 (V:=Unit) (fun (s:Int×Int) v=>[]) (fun s v=>[(13,.int .i64 (s.1)),(15,.int .i64 (s.2))]) () [(6,_),(7,_),(8,_),(10,_),(11,_),(12,_),(14,_)]
  | apply Dk.quiet (id:=20) (by kernel_rfl)
  | apply Dk.quiet (id:=25) (by kernel_rfl)
  | apply Dk.any (id:=6) 8 [] [] [[],[0],[],[],[2,3],[2,3,4],[2,3,4,5],[2,3,4,5,6]] (by kernel_rfl)
  | apply Dk.any (id:=7) 8 [] [] [[],[0],[],[],[2,3],[2,3,4],[2,3,4,5],[2,3,4,5,6]] (by kernel_rfl)
  | apply Dk.any (id:=9) 8 [] [] [[],[0],[],[],[2,3],[2,3,4],[2,3,4,5],[]] (by kernel_rfl)
  | apply Dk.any (id:=21) 11 [] [] [[],[],[0,1],[0,1,2],[0,1,2,3],[0,1,2,3,4],[],[],[6,7],[6,7,8],[6,7,8,9]] (by kernel_rfl)
  | apply afN
  | apply Yl
  | apply zJ
  | apply MK
  | exact ()
theorem c95 {x0:aI} {bF bV aP aN:Value} {x1:aI} {cF cR bR bI:Value}:Ct Tryz.prog 95 true (lZ x0 x1) [.agg #[.int .i64 (x0.aA),bF,bV,aP,aN],.agg #[.int .i64 (x1.aA),cF,cR,bR,bI]] [rI bF x0.aH,rI bV x0.To,rI aP x0.aJ,rJ aN x0.aE,rI cF x1.aH,rI cR x1.To,rI bR x1.aJ,rJ bI x1.aE] (fun y (_:Unit)=>[.bool y]) (fun y _=>[]):=by
 refine ct (S:=Unit) (cf fun _ _=>rfl) Tryz.func95 rfl rfl ?_
 repeat' first
  | (apply Dk.fe; repeat' first | exact rfl | (refine @id.{0} _ ?_; constructor))
  | intro _
  | exact rfl
  | (apply Dk.Sl (t:=4); exact rfl)
  | (refine @id.{0} _ ?_; constructor)
  | apply afi
  | exact ()
theorem afP {x0:aL} {dM:Nat} {cQ:Value} {x1:Int}:Ct Tryz.prog 105 true (nC x0 x1) [.pointer (some (⟨dM,0,none⟩)),.int .i64 (x1)] [.row dM [cQ,.int .i64 (x0.At),.int .u64 (x0.av)] 193,.rd false (bY (aM .u8)) cQ x0.Code] (fun y (_:Unit)=>[.int .i64 y.1]) (fun y _=>[.row dM [cQ,.int .i64 y.2.At,.int .u64 y.2.av] 193]):=by
 refine ct (S:=Unit) (cf fun _ _=>rfl) Tryz.func105 rfl rfl ?_
 repeat' first
  | (apply Dk.fe; repeat' first | exact rfl | (refine @id.{0} _ ?_; constructor))
  | intro _
  | exact rfl
  | (refine @id.{0} _ ?_; constructor)
  | apply Am
  | apply Yj
  | exact ()
theorem Yr {x0:aI} {bF bV aP aN:Value} {x1:aI} {cF cR bR bI:Value}:Ct Tryz.prog 84 true (kK x0 x1) [.agg #[.int .i64 (x0.aA),bF,bV,aP,aN],.agg #[.int .i64 (x1.aA),cF,cR,bR,bI]] [rI bF x0.aH,rI bV x0.To,rI aP x0.aJ,rJ aN x0.aE,rI cF x1.aH,rI cR x1.To,rI bR x1.aJ,rJ bI x1.aE] (fun y (_:Unit)=>[.bool y]) (fun y _=>[]):=by
 refine ct (S:=Unit) (cf fun _ _=>rfl) Tryz.func84 rfl rfl ?_
 repeat' first
  | (apply Dk.fe; repeat' first | exact rfl | (refine @id.{0} _ ?_; constructor))
  | intro _
  | exact rfl
  | (refine @id.{0} _ ?_; constructor)
  | apply MK
  | apply afq
  | exact ()
theorem afQ {x0:aO} {bT cB bD bB bU cC bE bC cD cG:Value} {x1:aO} {cT cV cO cJ cU cW cP cK dA dD:Value}:Ct Tryz.prog 198 true (nY x0 x1) [.agg #[.int .i64 (x0.aB.aA),bT,cB,bD,bB,.int .i64 (x0.aF.aA),bU,cC,bE,bC,cD,cG],.agg #[.int .i64 (x1.aB.aA),cT,cV,cO,cJ,.int .i64 (x1.aF.aA),cU,cW,cP,cK,dA,dD]] [rI bT x0.aB.aH,rI cB x0.aB.To,rI bD x0.aB.aJ,rJ bB x0.aB.aE,rI bU x0.aF.aH,rI cC x0.aF.To,rI bE x0.aF.aJ,rJ bC x0.aF.aE,rI cD x0.aA,rI cG x0.ae,rI cT x1.aB.aH,rI cV x1.aB.To,rI cO x1.aB.aJ,rJ cJ x1.aB.aE,rI cU x1.aF.aH,rI cW x1.aF.To,rI cP x1.aF.aJ,rJ cK x1.aF.aE,rI dA x1.aA,rI dD x1.ae] (fun y (_:Unit)=>[.bool y]) (fun y _=>[]):=by
 refine ct (S:=Unit) (cf fun _ _=>rfl) Tryz.func198 rfl rfl ?_
 repeat' first
  | (apply Dk.fe; repeat' first | exact rfl | (refine @id.{0} _ ?_; constructor))
  | intro _
  | exact rfl
  | (refine @id.{0} _ ?_; constructor)
  | apply Yr
  | exact ()
theorem Ys {x0:aI} {cZ:Addr} {bF bV aP aN:Value} {x1:aI} {lO:Addr} {cF cR bR bI:Value}:Ct Tryz.prog 78 true (fN x0 x1) [.pointer (some (cZ)),.pointer (some (lO))] [.bb lO [.int .i64 (x1.aA),cF,cR,bR,bI],.bb cZ [.int .i64 (x0.aA),bF,bV,aP,aN],rI bF x0.aH,rI bV x0.To,rI aP x0.aJ,rJ aN x0.aE,rI cF x1.aH,rI cR x1.To,rI bR x1.aJ,rJ bI x1.aE] (fun y (_:Unit)=>[.bool y]) (fun y _=>[]):=by
 refine ct (S:=Unit) (cf fun _ _=>rfl) Tryz.func78 rfl rfl ?_
 repeat' first
  | (apply Dk.fe; repeat' first | exact rfl | (refine @id.{0} _ ?_; constructor))
  | intro _
  | exact rfl
  | (refine @id.{0} _ ?_; constructor)
  | apply Dk.loop 0 (V:=Unit) (fun (s:Int) v=>[]) (fun s v=>[(69,.int .i64 (s))]) () [(0,_),(1,_),(68,_)]
  | apply Dk.quiet (id:=1) (by kernel_rfl)
  | apply Dk.quiet (id:=6) (by kernel_rfl)
  | apply afl
  | exact ()
theorem afR {x0:aO} {cZ:Addr} {bT cB bD bB bU cC bE bC cD cG:Value} {x1:aO} {lO:Addr} {cT cV cO cJ cU cW cP cK dA dD:Value}:Ct Tryz.prog 219 true (oB x0 x1) [.pointer (some (cZ)),.pointer (some (lO))] [.bb lO [.int .i64 (x1.aB.aA),cT,cV,cO,cJ,.int .i64 (x1.aF.aA),cU,cW,cP,cK,dA,dD],.bb cZ [.int .i64 (x0.aB.aA),bT,cB,bD,bB,.int .i64 (x0.aF.aA),bU,cC,bE,bC,cD,cG],rI bT x0.aB.aH,rI cB x0.aB.To,rI bD x0.aB.aJ,rJ bB x0.aB.aE,rI bU x0.aF.aH,rI cC x0.aF.To,rI bE x0.aF.aJ,rJ bC x0.aF.aE,rI cD x0.aA,rI cG x0.ae,rI cT x1.aB.aH,rI cV x1.aB.To,rI cO x1.aB.aJ,rJ cJ x1.aB.aE,rI cU x1.aF.aH,rI cW x1.aF.To,rI cP x1.aF.aJ,rJ cK x1.aF.aE,rI dA x1.aA,rI dD x1.ae] (fun y (_:Unit)=>[.bool y]) (fun y _=>[]):=by
 refine ct (S:=Unit) (cf fun _ _=>rfl) Tryz.func219 rfl rfl ?_
 repeat' first
  | (apply Dk.fe; repeat' first | exact rfl | (refine @id.{0} _ ?_; constructor))
  | intro _
  | exact rfl
  | (refine @id.{0} _ ?_; constructor)
  | apply Dk.quiet (id:=1) (by kernel_rfl)
  | apply Ys
  | exact ()
theorem afS {x0:aO} {cZ:Addr} {bT cB bD bB bU cC bE bC cD cG:Value} {x1:aO} {lO:Addr} {cT cV cO cJ cU cW cP cK dA dD:Value}:Ct Tryz.prog 291 true (jJ x0 x1) [.pointer (some (cZ)),.pointer (some (lO))] [.bb lO [.int .i64 (x1.aB.aA),cT,cV,cO,cJ,.int .i64 (x1.aF.aA),cU,cW,cP,cK,dA,dD],.bb cZ [.int .i64 (x0.aB.aA),bT,cB,bD,bB,.int .i64 (x0.aF.aA),bU,cC,bE,bC,cD,cG],rI bT x0.aB.aH,rI cB x0.aB.To,rI bD x0.aB.aJ,rJ bB x0.aB.aE,rI bU x0.aF.aH,rI cC x0.aF.To,rI bE x0.aF.aJ,rJ bC x0.aF.aE,rI cD x0.aA,rI cG x0.ae,rI cT x1.aB.aH,rI cV x1.aB.To,rI cO x1.aB.aJ,rJ cJ x1.aB.aE,rI cU x1.aF.aH,rI cW x1.aF.To,rI cP x1.aF.aJ,rJ cK x1.aF.aE,rI dA x1.aA,rI dD x1.ae] (fun y (_:Unit)=>[.bool y]) (fun y _=>[]):=by
 refine ct (S:=Unit) (cf fun _ _=>rfl) Tryz.func291 rfl rfl ?_
 repeat' first
  | (apply Dk.fe; repeat' first | exact rfl | (refine @id.{0} _ ?_; constructor))
  | intro _
  | exact rfl
  | (refine @id.{0} _ ?_; constructor)
  | apply Dk.quiet (id:=1) (by kernel_rfl)
  | apply Ys
  | exact ()
theorem Pa {x0:aS} {cZ:Addr} {bJ bP aZ aT bK bQ bA aU bW cA bG bL aW aQ bH bN aY aR bS bX cS cN:Value} {x1:Int} {x2:Int} {x3:Int} {x4:aI} {sL:Addr} {qM rK mB kZ:Value} {x5:qW} {x6:Int} {fh:aS} {Cy:Addr} {lv mr jq iz ly mw jr iH nu o6 lj mc jg iv ll me jh iw nq nv uI tD:Value}:Ct Tryz.prog 110 true (fM x0 x1 x2 x3 x4 x5 x6 (fun a0 a1=>fA fh a0 a1)) [.pointer (some (cZ)),.int .i64 (x1),.int .i64 (x2),.int .i64 (x3),.pointer (some (sL)),.agg #[.int .i64 (x5.aH),.int .i64 (x5.To)],.int .i64 (x6),.func (.func 111) #[.pointer (some (Cy))] #[]] [.bb sL [.int .i64 (x4.aA),qM,rK,mB,kZ],.bb cZ [.int .i64 (x0.Left.aB.aA),bJ,bP,aZ,aT,.int .i64 (x0.Left.aF.aA),bK,bQ,bA,aU,bW,cA,.int .i64 (x0.ab.aB.aA),bG,bL,aW,aQ,.int .i64 (x0.ab.aF.aA),bH,bN,aY,aR,bS,bX,cS,cN],rI bJ x0.Left.aB.aH,rI bP x0.Left.aB.To,rI aZ x0.Left.aB.aJ,rJ aT x0.Left.aB.aE,rI bK x0.Left.aF.aH,rI bQ x0.Left.aF.To,rI bA x0.Left.aF.aJ,rJ aU x0.Left.aF.aE,rI bW x0.Left.aA,rI cA x0.Left.ae,rI bG x0.ab.aB.aH,rI bL x0.ab.aB.To,rI aW x0.ab.aB.aJ,rJ aQ x0.ab.aB.aE,rI bH x0.ab.aF.aH,rI bN x0.ab.aF.To,rI aY x0.ab.aF.aJ,rJ aR x0.ab.aF.aE,rI bS x0.ab.aA,rI bX x0.ab.ae,rI cS x0.Unit,rI cN x0.ba,rI qM x4.aH,rI rK x4.To,rI mB x4.aJ,rJ kZ x4.aE,.bb Cy [.int .i64 (fh.Left.aB.aA),lv,mr,jq,iz,.int .i64 (fh.Left.aF.aA),ly,mw,jr,iH,nu,o6,.int .i64 (fh.ab.aB.aA),lj,mc,jg,iv,.int .i64 (fh.ab.aF.aA),ll,me,jh,iw,nq,nv,uI,tD],rI lv fh.Left.aB.aH,rI mr fh.Left.aB.To,rI jq fh.Left.aB.aJ,rJ iz fh.Left.aB.aE,rI ly fh.Left.aF.aH,rI mw fh.Left.aF.To,rI jr fh.Left.aF.aJ,rJ iH fh.Left.aF.aE,rI nu fh.Left.aA,rI o6 fh.Left.ae,rI lj fh.ab.aB.aH,rI mc fh.ab.aB.To,rI jg fh.ab.aB.aJ,rJ iv fh.ab.aB.aE,rI ll fh.ab.aF.aH,rI me fh.ab.aF.To,rI jh fh.ab.aF.aJ,rJ iw fh.ab.aF.aE,rI nq fh.ab.aA,rI nv fh.ab.ae,rI uI fh.Unit,rI tD fh.ba] (fun y (_:Unit)=>[.int .i64 y.1,.int .i64 y.2]) (fun y _=>[]):=by
 refine ct (S:=Unit) (cf fun _ _=>rfl) Tryz.func110 rfl rfl ?_
 repeat' first
  | (apply Dk.fe; repeat' first | exact rfl | (refine @id.{0} _ ?_; constructor))
  | intro _
  | exact rfl
  | (refine @id.{0} _ ?_; constructor)
  | apply Dk.quiet (id:=3) (by kernel_rfl)
  | apply Js
  | apply Jt
  | apply MJ
  | apply RD
  | exact ()
end Go.Proofs.YtjdkifckhidlbaaGreat
