/- Walks by the calculus D. No condition beside those that each theorem names. -/
import Derived.Test.YtjdkifckhidlbaaGreatDp
import Derived.Test.YtjdkifckhidlbaaGreatDi
import Derived.Test.YtjdkifckhidlbaaGreatMo
import Derived.Test.YtjdkifckhidlbaaGreatDs
namespace Go.Proofs.YtjdkifckhidlbaaGreat
open Go Go.Li Go.Dk
set_option linter.unusedVariables false
set_option maxHeartbeats 16000000
set_option maxRecDepth 100000
theorem zJ {x0:(List Int)} {cX:Value}:Ct Tryz.prog 100 true (dE x0) [cX] [rI cX x0] (fun y (v:Value)=>[v]) (fun y v=>[.own (aK 2 (aM .i64)) v y]):=by
 refine ct (S:=Unit) (cf fun _ _=>rfl) Tryz.func100 rfl rfl ?_
 repeat' first
  | (apply Dk.fe; repeat' first | exact rfl | (refine @id.{0} _ ?_; constructor))
  | intro _
  | exact rfl
  | (refine @id.{0} _ ?_; constructor)
  | exact ()
theorem Yc {x0:(List (List Int))} {cX:Value}:Ct Tryz.prog 208 true (mO x0) [cX] [rJ cX x0] (fun y (v:Value)=>[v]) (fun y v=>[.own (aK 24 (aK 2 (aM .i64))) v y]):=by
 refine ct (S:=Unit) (cf fun _ _=>rfl) Tryz.func208 rfl rfl ?_
 repeat' first
  | (apply Dk.fe; repeat' first | exact rfl | (refine @id.{0} _ ?_; constructor))
  | intro _
  | exact rfl
  | (refine @id.{0} _ ?_; constructor)
  | apply Dk.loop 0 (V:=Value) (fun (s:(List (List Int))×Int) v=>[.own (aK 24 (aK 2 (aM .i64))) v s.1]) (fun s v=>[(3,v),(4,.int .i64 (s.2))]) _ [(0,_)]
  | apply zJ
  | exact ()
theorem Yd {x0:aI} {bF bV aP aN:Value}:Ct Tryz.prog 271 true (gT x0) [.agg #[.int .i64 (x0.aA),bF,bV,aP,aN]] [rI bF x0.aH,rI bV x0.To,rI aP x0.aJ,rJ aN x0.aE] (fun y (v:Value×Value×Value×Value)=>[.agg #[.int .i64 y.aA,v.1,v.2.1,v.2.2.1,v.2.2.2]]) (fun y v=>[.own (aK 2 (aM .i64)) v.1 y.aH,.own (aK 2 (aM .i64)) v.2.1 y.To,.own (aK 2 (aM .i64)) v.2.2.1 y.aJ,.own (aK 24 (aK 2 (aM .i64))) v.2.2.2 y.aE]):=by
 refine ct (S:=Unit) (cf fun _ _=>rfl) Tryz.func271 rfl rfl ?_
 repeat' first
  | (apply Dk.fe; repeat' first | exact rfl | (refine @id.{0} _ ?_; constructor))
  | intro _
  | exact rfl
  | (refine Dk.va (t:=32) rfl ?_ ?_)
  | (refine @id.{0} _ ?_; constructor)
  | apply Dk.j5 0 (V:=Value) (A:=Nat×Value×Value×Value) (_,_,_,_) (fun a (s:Int×(List (List Int))) v=>Dk.pc (fun a0=>Dk.pc (fun a1=>Dk.pc (fun a2 a3=>[.row a0 [.int .i64 (x0.aA),a1,a2,a3,v] 27,.own (aK 24 (aK 2 (aM .i64))) v s.2]))) a) (fun a s v=>Dk.pc (fun a0=>Dk.pc (fun a1=>Dk.pc (fun a2 a3=>[(3,.pointer (some ⟨a0,0,none⟩)),(4,.int .i64 (s.1))]))) a) _ [(1,_),(2,_)]
  | apply Dk.loop 2 (V:=Value) (fun (s:(List Int)×Int) v=>[.own (aK 2 (aM .i64)) v s.1]) (fun s v=>[(5,v),(6,.int .i64 (s.2))]) _ [(1,_),(2,_),(3,_),(4,_)]
  | apply Dk.abW (id:=1) [13,0,1,2,3,4,5,6,7,8,9,10,11,12,14] [1,2,3,4,5,6,7,8,9,10,11,12,13,0,14] [] 14 [] [] [[],[],[1],[],[3],[3,4],[],[6],[3,4,5,6,7],[],[9],[3,4,5,6,7,8,9,10],[],[1,2,3,4,5,6,7,8,9,10,11,12]] (by kernel_rfl)
  | apply zJ
  | exact ()
theorem FW {x0:aI} {bF bV aP aN:Value} {x1:Int} {x2:Int}:Ct Tryz.prog 248 true (iX x0 x1 x2) [.agg #[.int .i64 (x0.aA),bF,bV,aP,aN],.int .i64 (x1),.int .i64 (x2)] [rI bF x0.aH,rI bV x0.To,rI aP x0.aJ,rJ aN x0.aE] (fun y (v:Value)=>[v]) (fun y v=>[.own (aK 2 (aM .i64)) v y]):=by
 refine ct (S:=Unit) (cf fun _ _=>rfl) Tryz.func248 rfl rfl ?_
 repeat' first
  | (apply Dk.fe; repeat' first | exact rfl | (refine @id.{0} _ ?_; constructor))
  | intro _
  | exact rfl
  | (refine @id.{0} _ ?_; constructor)
  | apply Dk.loop 0 (V:=Value) (fun (s:(List Int)×Int) v=>[.own (aK 2 (aM .i64)) v s.1]) (fun s v=>[(7,v),(8,.int .i64 (s.2))]) _ [(1,_),(2,_),(3,_)]
  | exact ()
theorem ae2 {x0:aI} {bF bV aP aN:Value} {x1:aI} {cF cR bR bI:Value} {x2:(List Int)} {eB:Value}:Ct Tryz.prog 276 true (nV x0 x1 x2) [.agg #[.int .i64 (x0.aA),bF,bV,aP,aN],.agg #[.int .i64 (x1.aA),cF,cR,bR,bI],eB] [rI bF x0.aH,rI bV x0.To,rI aP x0.aJ,rJ aN x0.aE,rI cF x1.aH,rI cR x1.To,rI bR x1.aJ,rJ bI x1.aE,rI eB x2] (fun y (_:Unit)=>[.bool y]) (fun y _=>[]):=by
 refine ct (S:=Unit) (cf fun _ _=>rfl) Tryz.func276 rfl rfl ?_
 repeat' first
  | (apply Dk.fe; repeat' first | exact rfl | (refine @id.{0} _ ?_; constructor))
  | intro _
  | exact rfl
  | (refine @id.{0} _ ?_; constructor)
  | apply Dk.loop 0 (V:=Unit) (fun (s:Int) v=>[]) (fun s v=>[(7,.int .i64 (s))]) () [(2,_),(3,_),(4,_)]
  | apply Dk.quiet (id:=4) (by kernel_rfl)
  | apply Dk.tail (id:=5) 20 (by kernel_rfl)
  | apply FW
  | exact ()
theorem ae3 {x0:aI} {bF bV aP aN:Value} {x1:aI} {cF cR bR bI:Value} {x2:(List Int)} {eB:Value}:Ct Tryz.prog 304 true (nW x0 x1 x2) [.agg #[.int .i64 (x0.aA),bF,bV,aP,aN],.agg #[.int .i64 (x1.aA),cF,cR,bR,bI],eB] [rI bF x0.aH,rI bV x0.To,rI aP x0.aJ,rJ aN x0.aE,rI cF x1.aH,rI cR x1.To,rI bR x1.aJ,rJ bI x1.aE,.own (aK 2 (aM .i64)) eB x2] (fun y (_:Unit)=>[.bool y.1]) (fun y _=>[.own (aK 2 (aM .i64)) eB y.2]):=by
 refine ct (S:=Unit) (cf fun _ _=>rfl) Tryz.func304 rfl rfl ?_
 repeat' first
  | (apply Dk.fe; repeat' first | exact rfl | (refine @id.{0} _ ?_; constructor))
  | intro _
  | exact rfl
  | (refine Dk.va (t:=22) rfl ?_ ?_)
  | (refine @id.{0} _ ?_; constructor)
  | apply Dk.loop 0 (V:=Unit) (fun (s:Bool×(List Int)) v=>[.own (aK 2 (aM .i64)) eB s.2]) (fun s v=>[(7,.bool (s.1))]) () [(2,_),(3,_),(4,_)]
  | apply Dk.loop 2 (V:=Unit) (fun (s:Bool×Int×(List Int)) v=>[.own (aK 2 (aM .i64)) eB s.2.2]) (fun s v=>[(7,.bool (s.1)),(8,.int .i64 (s.2.1))]) () [(2,_),(3,_),(4,_)]
  | apply Dk.loop 4 (V:=Unit) (fun (s:Bool×Int×(List Int)) v=>[.own (aK 2 (aM .i64)) eB s.2.2]) (fun s v=>[(7,.bool (s.1)),(9,.int .i64 (s.2.1))]) () [(2,_),(3,_),(4,_),(8,_)]
  | apply Dk.quiet (id:=12) (by kernel_rfl)
  | exact ()
theorem Ye {rc:aI→aI→(List Int)→(List Int)→Int→(List (List Int))→Option ((List (List Int)))} (ih:∀ {x0:aI} {bF bV aP aN:Value} {x1:aI} {cF cR bR bI:Value} {x2:(List Int)} {eB:Value} {x3:(List Int)} {gS:Value} {x4:Int} {x5:(List (List Int))} {rB:Value},Ct Tryz.prog 277 true (rc x0 x1 x2 x3 x4 x5) [.agg #[.int .i64 (x0.aA),bF,bV,aP,aN],.agg #[.int .i64 (x1.aA),cF,cR,bR,bI],eB,gS,.int .i64 (x4),rB] [rI bF x0.aH,rI bV x0.To,rI aP x0.aJ,rJ aN x0.aE,rI cF x1.aH,rI cR x1.To,rI bR x1.aJ,rJ bI x1.aE,rI eB x2,rI gS x3,.own (aK 24 (aK 2 (aM .i64))) rB x5] (fun y (v:Value)=>[v]) (fun y v=>[.own (aK 24 (aK 2 (aM .i64))) v y])) {x0:aI} {bF bV aP aN:Value} {x1:aI} {cF cR bR bI:Value} {x2:(List Int)} {eB:Value} {x3:(List Int)} {gS:Value} {x4:Int} {x5:(List (List Int))} {rB:Value}:Ct Tryz.prog 277 true (lQ rc x0 x1 x2 x3 x4 x5) [.agg #[.int .i64 (x0.aA),bF,bV,aP,aN],.agg #[.int .i64 (x1.aA),cF,cR,bR,bI],eB,gS,.int .i64 (x4),rB] [rI bF x0.aH,rI bV x0.To,rI aP x0.aJ,rJ aN x0.aE,rI cF x1.aH,rI cR x1.To,rI bR x1.aJ,rJ bI x1.aE,rI eB x2,rI gS x3,.own (aK 24 (aK 2 (aM .i64))) rB x5] (fun y (v:Value)=>[v]) (fun y v=>[.own (aK 24 (aK 2 (aM .i64))) v y]):=by
 refine ct (S:=Unit) (cf fun _ _=>rfl) Tryz.func277 rfl rfl ?_
 repeat' first
  | (apply Dk.fe; repeat' first | exact rfl | (refine @id.{0} _ ?_; constructor))
  | intro _
  | exact rfl
  | (refine @id.{0} _ ?_; constructor)
  | apply ih
  | apply Dk.loop 0 (V:=Unit) (fun (s:Int) v=>[]) (fun s v=>[(4,.int .i64 (s))]) () [(2,_),(3,_),(5,_),(6,_),(7,_)]
  | apply Dk.loop 2 (V:=Value) (fun (s:(List (List Int))×Int) v=>[.own (aK 24 (aK 2 (aM .i64))) v s.1]) (fun s v=>[(5,v),(14,.int .i64 (s.2))]) _ [(2,_),(3,_),(4,_),(6,_),(7,_),(13,_)]
  | apply Dk.any (id:=5) 17 [] [] [[],[],[],[2],[],[2,3,4],[2,3,4,5],[1,2,3,4,5,6],[1,2,3,4,5,6,7],[],[],[10],[],[10,11,12],[10,11,12,13],[9,10,11,12,13,14],[9,10,11,12,13,14,15]] (by kernel_rfl)
  | apply zJ
  | apply FW
  | apply ae3
  | exact ()
theorem Yf (n:Nat):∀ {x0:aI} {bF bV aP aN:Value} {x1:aI} {cF cR bR bI:Value} {x2:(List Int)} {eB:Value} {x3:(List Int)} {gS:Value} {x4:Int} {x5:(List (List Int))} {rB:Value},Ct Tryz.prog 277 true (iV n x0 x1 x2 x3 x4 x5) [.agg #[.int .i64 (x0.aA),bF,bV,aP,aN],.agg #[.int .i64 (x1.aA),cF,cR,bR,bI],eB,gS,.int .i64 (x4),rB] [rI bF x0.aH,rI bV x0.To,rI aP x0.aJ,rJ aN x0.aE,rI cF x1.aH,rI cR x1.To,rI bR x1.aJ,rJ bI x1.aE,rI eB x2,rI gS x3,.own (aK 24 (aK 2 (aM .i64))) rB x5] (fun y (v:Value)=>[v]) (fun y v=>[.own (aK 24 (aK 2 (aM .i64))) v y]):=by
 induction n with
 | zero=>intros; rw [s7]; exact ⟨(cf fun _ _=>rfl),fun _ _ _ _ _ _ _ y hy=>nomatch (show none=some y from hy)⟩
 | succ n ih=>exact Ye ih
theorem ae4 {x0:aI} {bF bV aP aN:Value} {x1:aI} {cF cR bR bI:Value} {x2:(List Int)} {eB:Value} {x3:(List Int)} {gS:Value} {x4:Int} {x5:(List (List Int))} {rB:Value}:Ct Tryz.prog 277 true (iV 64 x0 x1 x2 x3 x4 x5) [.agg #[.int .i64 (x0.aA),bF,bV,aP,aN],.agg #[.int .i64 (x1.aA),cF,cR,bR,bI],eB,gS,.int .i64 (x4),rB] [rI bF x0.aH,rI bV x0.To,rI aP x0.aJ,rJ aN x0.aE,rI cF x1.aH,rI cR x1.To,rI bR x1.aJ,rJ bI x1.aE,rI eB x2,rI gS x3,.own (aK 24 (aK 2 (aM .i64))) rB x5] (fun y (v:Value)=>[v]) (fun y v=>[.own (aK 24 (aK 2 (aM .i64))) v y]):=by
 exact Yf 64
theorem DX {x0:aI} {bF bV aP aN:Value} {x1:Int} {x2:Int}:Ct Tryz.prog 140 true (eL x0 x1 x2) [.agg #[.int .i64 (x0.aA),bF,bV,aP,aN],.int .i64 (x1),.int .i64 (x2)] [rI bF x0.aH,rI bV x0.To,rI aP x0.aJ,rJ aN x0.aE] (fun y (_:Unit)=>[.int .i64 y]) (fun y _=>[]):=by
 refine ct (S:=Unit) (cf fun _ _=>rfl) Tryz.func140 rfl rfl ?_
 repeat' first
  | (apply Dk.fe; repeat' first | exact rfl | (refine @id.{0} _ ?_; constructor))
  | intro _
  | exact rfl
  | (refine @id.{0} _ ?_; constructor)
  | exact ()
theorem Yg {x0:aO} {bT cB bD bB bU cC bE bC cD cG:Value} {x1:Int} {x2:Int} {x3:Int} {x4:Int}:Ct Tryz.prog 216 true (gB x0 x1 x2 x3 x4) [.agg #[.int .i64 (x0.aB.aA),bT,cB,bD,bB,.int .i64 (x0.aF.aA),bU,cC,bE,bC,cD,cG],.int .i64 (x1),.int .i64 (x2),.int .i64 (x3),.int .i64 (x4)] [rI bT x0.aB.aH,rI cB x0.aB.To,rI bD x0.aB.aJ,rJ bB x0.aB.aE,rI bU x0.aF.aH,rI cC x0.aF.To,rI bE x0.aF.aJ,rJ bC x0.aF.aE,rI cD x0.aA,rI cG x0.ae] (fun y (v:Value)=>[v]) (fun y v=>[.own (aK 2 (aM .i64)) v y]):=by
 refine ct (S:=Unit) (cf fun _ _=>rfl) Tryz.func216 rfl rfl ?_
 repeat' first
  | (apply Dk.fe; repeat' first | exact rfl | (refine @id.{0} _ ?_; constructor))
  | intro _
  | exact rfl
  | (refine @id.{0} _ ?_; constructor)
  | apply Dk.loop 0 (V:=Value) (fun (s:(List Int)×Int) v=>[.own (aK 2 (aM .i64)) v s.1]) (fun s v=>[(12,v),(13,.int .i64 (s.2))]) _ [(3,_),(4,_),(5,_),(11,_)]
  | apply Dk.quiet (id:=6) (by kernel_rfl)
  | apply FW
  | apply DX
  | exact ()
theorem MI {x0:Int} {x1:(List Int)} {fH:Value}:Ct Tryz.prog 207 true (jU x0 x1) [.int .i64 (x0),fH] [rI fH x1] (fun y (_:Unit)=>[.bool y]) (fun y _=>[]):=by
 refine ct (S:=Unit) (cf fun _ _=>rfl) Tryz.func207 rfl rfl ?_
 repeat' first
  | (apply Dk.fe; repeat' first | exact rfl | (refine @id.{0} _ ?_; constructor))
  | intro _
  | exact rfl
  | (refine @id.{0} _ ?_; constructor)
  | apply Dk.loop 0 (V:=Unit) (fun (s:Int) v=>[]) (fun s v=>[(5,.int .i64 (s))]) () [(0,_),(1,_)]
  | exact ()
theorem ae5 {x0:(List Int)} {cX:Value} {x1:Int} {x2:Int}:Ct Tryz.prog 275 true (mQ x0 x1 x2) [cX,.int .i64 (x1),.int .i64 (x2)] [rI cX x0] (fun y (_:Unit)=>[.bool y]) (fun y _=>[]):=by
 refine ct (S:=Unit) (cf fun _ _=>rfl) Tryz.func275 rfl rfl ?_
 repeat' first
  | (apply Dk.fe; repeat' first | exact rfl | (refine @id.{0} _ ?_; constructor))
  | intro _
  | exact rfl
  | (refine @id.{0} _ ?_; constructor)
  | apply MI
  | exact ()
theorem ae6 {x0:aO} {bT cB bD bB bU cC bE bC cD cG:Value} {x1:aO} {cT cV cO cJ cU cW cP cK dA dD:Value} {x2:(List Int)} {eB:Value}:Ct Tryz.prog 199 true (gJ x0 x1 x2) [.agg #[.int .i64 (x0.aB.aA),bT,cB,bD,bB,.int .i64 (x0.aF.aA),bU,cC,bE,bC,cD,cG],.agg #[.int .i64 (x1.aB.aA),cT,cV,cO,cJ,.int .i64 (x1.aF.aA),cU,cW,cP,cK,dA,dD],eB] [rI bT x0.aB.aH,rI cB x0.aB.To,rI bD x0.aB.aJ,rJ bB x0.aB.aE,rI bU x0.aF.aH,rI cC x0.aF.To,rI bE x0.aF.aJ,rJ bC x0.aF.aE,rI cD x0.aA,rI cG x0.ae,rI cT x1.aB.aH,rI cV x1.aB.To,rI cO x1.aB.aJ,rJ cJ x1.aB.aE,rI cU x1.aF.aH,rI cW x1.aF.To,rI cP x1.aF.aJ,rJ cK x1.aF.aE,rI dA x1.aA,rI dD x1.ae,rI eB x2] (fun y (_:Unit)=>[.bool y]) (fun y _=>[]):=by
 refine ct (S:=Unit) (cf fun _ _=>rfl) Tryz.func199 rfl rfl ?_
 repeat' first
  | (apply Dk.fe; repeat' first | exact rfl | (refine @id.{0} _ ?_; constructor))
  | intro _
  | exact rfl
  | (refine @id.{0} _ ?_; constructor)
  | apply Dk.loop 0 (V:=Unit) (fun (s:Int) v=>[]) (fun s v=>[(9,.int .i64 (s))]) () [(2,_),(3,_),(4,_),(7,_),(8,_)]
  | apply Dk.loop 2 (V:=Unit) (fun (s:Int) v=>[]) (fun s v=>[(10,.int .i64 (s))]) () [(2,_),(3,_),(4,_),(7,_),(8,_)]
  | apply Dk.quiet (id:=7) (by kernel_rfl)
  | apply Dk.quiet (id:=12) (by kernel_rfl)
  | apply Dk.any (id:=1) 7 [] [[],[],[],[],[],[],[4]] [[],[0],[],[2],[],[],[0,1,4,5]] (by kernel_rfl)
  | apply MI
  | apply DX
  | exact ()
theorem ae7 {x0:aS} {bJ bP aZ aT bK bQ bA aU bW cA bG bL aW aQ bH bN aY aR bS bX cS cN:Value} {x1:Int} {x2:Int}:Ct Tryz.prog 113 true (oC x0 x1 x2) [.agg #[.int .i64 (x0.Left.aB.aA),bJ,bP,aZ,aT,.int .i64 (x0.Left.aF.aA),bK,bQ,bA,aU,bW,cA,.int .i64 (x0.ab.aB.aA),bG,bL,aW,aQ,.int .i64 (x0.ab.aF.aA),bH,bN,aY,aR,bS,bX,cS,cN],.int .i64 (x1),.int .i64 (x2)] [rI bJ x0.Left.aB.aH,rI bP x0.Left.aB.To,rI aZ x0.Left.aB.aJ,rJ aT x0.Left.aB.aE,rI bK x0.Left.aF.aH,rI bQ x0.Left.aF.To,rI bA x0.Left.aF.aJ,rJ aU x0.Left.aF.aE,rI bW x0.Left.aA,rI cA x0.Left.ae,rI bG x0.ab.aB.aH,rI bL x0.ab.aB.To,rI aW x0.ab.aB.aJ,rJ aQ x0.ab.aB.aE,rI bH x0.ab.aF.aH,rI bN x0.ab.aF.To,rI aY x0.ab.aF.aJ,rJ aR x0.ab.aF.aE,rI bS x0.ab.aA,rI bX x0.ab.ae,rI cS x0.Unit,rI cN x0.ba] (fun y (_:Unit)=>[.int .i64 y]) (fun y _=>[]):=by
 refine ct (S:=Unit) (cf fun _ _=>rfl) Tryz.func113 rfl rfl ?_
 repeat' first
  | (apply Dk.fe; repeat' first | exact rfl | (refine @id.{0} _ ?_; constructor))
  | intro _
  | exact rfl
  | (refine @id.{0} _ ?_; constructor)
  | apply Dk.quiet (id:=1) (by kernel_rfl)
  | apply DX
  | exact ()
end Go.Proofs.YtjdkifckhidlbaaGreat
