/- Walks by the calculus D. No condition beside those that each theorem names. -/
import Derived.Test.YtilhlobfebngdaaGreatDp
import Derived.Test.YtilhlobfebngdaaGreatDi
import Derived.Test.YtilhlobfebngdaaGreatMo
import Derived.Test.YtilhlobfebngdaaGreatDs
namespace Go.Proofs.YtilhlobfebngdaaGreat
open Go Go.Li Go.Dk
set_option linter.unusedVariables false
set_option maxHeartbeats 16000000
set_option maxRecDepth 100000
theorem xV {x0:(List Int)} {cU:Value}:Ct Tryz.prog 116 true (dN x0) [cU] [rI cU x0] (fun y (v:Value)=>[v]) (fun y v=>[.own (aI 2 (aL .i64)) v y]):=by
 refine ct (S:=Unit) (bu fun _ _=>rfl) Tryz.func116 rfl rfl ?_
 repeat' first
  | (apply Dk.fe; repeat' first | exact rfl | (refine @id.{0} _ ?_; constructor))
  | intro _
  | exact rfl
  | (refine @id.{0} _ ?_; constructor)
  | exact ()
theorem aa3 {x0:(List (List Int))} {cU:Value}:Ct Tryz.prog 144 true (oC x0) [cU] [rJ cU x0] (fun y (v:Value)=>[v]) (fun y v=>[.own (aI 24 (aI 2 (aL .i64))) v y]):=by
 refine ct (S:=Unit) (bu fun _ _=>rfl) Tryz.func144 rfl rfl ?_
 repeat' first
  | (apply Dk.fe; repeat' first | exact rfl | (refine @id.{0} _ ?_; constructor))
  | intro _
  | exact rfl
  | (refine @id.{0} _ ?_; constructor)
  | apply Dk.loop 0 (V:=Value) (fun (s:(List (List Int))×Int) v=>[.own (aI 24 (aI 2 (aL .i64))) v s.1]) (fun s v=>[(3,v),(4,.int .i64 (s.2))]) _ [(0,_)]
  | apply xV
  | exact ()
theorem aa4 {x0:aF} {aQ bC aO aN:Value}:Ct Tryz.prog 137 true (kL x0) [.agg #[.int .i64 (x0.aA),aQ,bC,aO,aN]] [rI aQ x0.aE,rI bC x0.To,rI aO x0.aH,rJ aN x0.aC] (fun y (v:Value×Value×Value×Value)=>[.agg #[.int .i64 y.aA,v.1,v.2.1,v.2.2.1,v.2.2.2]]) (fun y v=>[.own (aI 2 (aL .i64)) v.1 y.aE,.own (aI 2 (aL .i64)) v.2.1 y.To,.own (aI 2 (aL .i64)) v.2.2.1 y.aH,.own (aI 24 (aI 2 (aL .i64))) v.2.2.2 y.aC]):=by
 refine ct (S:=Unit) (bu fun _ _=>rfl) Tryz.func137 rfl rfl ?_
 repeat' first
  | (apply Dk.fe; repeat' first | exact rfl | (refine @id.{0} _ ?_; constructor))
  | intro _
  | exact rfl
  | (refine Dk.uo (t:=32) rfl ?_ ?_)
  | (refine @id.{0} _ ?_; constructor)
  | apply Dk.iv 0 (V:=Value) (A:=Nat×Value×Value×Value) (_,_,_,_) (fun a (s:Int×(List (List Int))) v=>Dk.pc (fun a0=>Dk.pc (fun a1=>Dk.pc (fun a2 a3=>[.row a0 [.int .i64 (x0.aA),a1,a2,a3,v] 27,.own (aI 24 (aI 2 (aL .i64))) v s.2]))) a) (fun a s v=>Dk.pc (fun a0=>Dk.pc (fun a1=>Dk.pc (fun a2 a3=>[(3,.pointer (some ⟨a0,0,none⟩)),(4,.int .i64 (s.1))]))) a) _ [(1,_),(2,_)]
  | apply Dk.loop 2 (V:=Value) (fun (s:(List Int)×Int) v=>[.own (aI 2 (aL .i64)) v s.1]) (fun s v=>[(5,v),(6,.int .i64 (s.2))]) _ [(1,_),(2,_),(3,_),(4,_)]
  | apply Dk.Sl (id:=1) [13,0,1,2,3,4,5,6,7,8,9,10,11,12,14] [1,2,3,4,5,6,7,8,9,10,11,12,13,0,14] [] 14 [] [] [[],[],[1],[],[3],[3,4],[],[6],[3,4,5,6,7],[],[9],[3,4,5,6,7,8,9,10],[],[1,2,3,4,5,6,7,8,9,10,11,12]] (by kernel_rfl)
  | apply xV
  | exact ()
theorem Hj {x0:aF} {aQ bC aO aN:Value} {x1:Int} {x2:Int}:Ct Tryz.prog 32 true (eY x0 x1 x2) [.agg #[.int .i64 (x0.aA),aQ,bC,aO,aN],.int .i64 (x1),.int .i64 (x2)] [rI aQ x0.aE,rI bC x0.To,rI aO x0.aH,rJ aN x0.aC] (fun y (v:Value)=>[v]) (fun y v=>[.own (aI 2 (aL .i64)) v y]):=by
 refine ct (S:=Unit) (bu fun _ _=>rfl) Tryz.func32 rfl rfl ?_
 repeat' first
  | (apply Dk.fe; repeat' first | exact rfl | (refine @id.{0} _ ?_; constructor))
  | intro _
  | exact rfl
  | (refine @id.{0} _ ?_; constructor)
  | apply Dk.loop 0 (V:=Value) (fun (s:(List Int)×Int) v=>[.own (aI 2 (aL .i64)) v s.1]) (fun s v=>[(7,v),(8,.int .i64 (s.2))]) _ [(1,_),(2,_),(3,_)]
  | exact ()
theorem aiL {x0:aF} {aQ bC aO aN:Value} {x1:aF} {bW cF bF aZ:Value} {x2:(List Int)} {eI:Value}:Ct Tryz.prog 151 true (pX x0 x1 x2) [.agg #[.int .i64 (x0.aA),aQ,bC,aO,aN],.agg #[.int .i64 (x1.aA),bW,cF,bF,aZ],eI] [rI aQ x0.aE,rI bC x0.To,rI aO x0.aH,rJ aN x0.aC,rI bW x1.aE,rI cF x1.To,rI bF x1.aH,rJ aZ x1.aC,rI eI x2] (fun y (_:Unit)=>[.bool y]) (fun y _=>[]):=by
 refine ct (S:=Unit) (bu fun _ _=>rfl) Tryz.func151 rfl rfl ?_
 repeat' first
  | (apply Dk.fe; repeat' first | exact rfl | (refine @id.{0} _ ?_; constructor))
  | intro _
  | exact rfl
  | (refine @id.{0} _ ?_; constructor)
  | apply Dk.loop 0 (V:=Unit) (fun (s:Int) v=>[]) (fun s v=>[(7,.int .i64 (s))]) () [(2,_),(3,_),(4,_)]
  | apply Dk.quiet (id:=4) (by kernel_rfl)
  | apply Dk.tail (id:=5) 20 (by kernel_rfl)
  | apply Hj
  | exact ()
theorem aiM {x0:aF} {aQ bC aO aN:Value} {x1:aF} {bW cF bF aZ:Value} {x2:(List Int)} {eI:Value}:Ct Tryz.prog 157 true (pY x0 x1 x2) [.agg #[.int .i64 (x0.aA),aQ,bC,aO,aN],.agg #[.int .i64 (x1.aA),bW,cF,bF,aZ],eI] [rI aQ x0.aE,rI bC x0.To,rI aO x0.aH,rJ aN x0.aC,rI bW x1.aE,rI cF x1.To,rI bF x1.aH,rJ aZ x1.aC,.own (aI 2 (aL .i64)) eI x2] (fun y (_:Unit)=>[.bool y.1]) (fun y _=>[.own (aI 2 (aL .i64)) eI y.2]):=by
 refine ct (S:=Unit) (bu fun _ _=>rfl) Tryz.func157 rfl rfl ?_
 repeat' first
  | (apply Dk.fe; repeat' first | exact rfl | (refine @id.{0} _ ?_; constructor))
  | intro _
  | exact rfl
  | (refine Dk.uo (t:=22) rfl ?_ ?_)
  | (refine @id.{0} _ ?_; constructor)
  | apply Dk.loop 0 (V:=Unit) (fun (s:Bool×(List Int)) v=>[.own (aI 2 (aL .i64)) eI s.2]) (fun s v=>[(7,.bool (s.1))]) () [(2,_),(3,_),(4,_)]
  | apply Dk.loop 2 (V:=Unit) (fun (s:Bool×Int×(List Int)) v=>[.own (aI 2 (aL .i64)) eI s.2.2]) (fun s v=>[(7,.bool (s.1)),(8,.int .i64 (s.2.1))]) () [(2,_),(3,_),(4,_)]
  | apply Dk.loop 4 (V:=Unit) (fun (s:Bool×Int×(List Int)) v=>[.own (aI 2 (aL .i64)) eI s.2.2]) (fun s v=>[(7,.bool (s.1)),(9,.int .i64 (s.2.1))]) () [(2,_),(3,_),(4,_),(8,_)]
  | apply Dk.quiet (id:=12) (by kernel_rfl)
  | exact ()
theorem aa5 {rc:aF→aF→(List Int)→(List Int)→Int→(List (List Int))→Option ((List (List Int)))} (ih:∀ {x0:aF} {aQ bC aO aN:Value} {x1:aF} {bW cF bF aZ:Value} {x2:(List Int)} {eI:Value} {x3:(List Int)} {iX:Value} {x4:Int} {x5:(List (List Int))} {tW:Value},Ct Tryz.prog 152 true (rc x0 x1 x2 x3 x4 x5) [.agg #[.int .i64 (x0.aA),aQ,bC,aO,aN],.agg #[.int .i64 (x1.aA),bW,cF,bF,aZ],eI,iX,.int .i64 (x4),tW] [rI aQ x0.aE,rI bC x0.To,rI aO x0.aH,rJ aN x0.aC,rI bW x1.aE,rI cF x1.To,rI bF x1.aH,rJ aZ x1.aC,rI eI x2,rI iX x3,.own (aI 24 (aI 2 (aL .i64))) tW x5] (fun y (v:Value)=>[v]) (fun y v=>[.own (aI 24 (aI 2 (aL .i64))) v y])) {x0:aF} {aQ bC aO aN:Value} {x1:aF} {bW cF bF aZ:Value} {x2:(List Int)} {eI:Value} {x3:(List Int)} {iX:Value} {x4:Int} {x5:(List (List Int))} {tW:Value}:Ct Tryz.prog 152 true (mW rc x0 x1 x2 x3 x4 x5) [.agg #[.int .i64 (x0.aA),aQ,bC,aO,aN],.agg #[.int .i64 (x1.aA),bW,cF,bF,aZ],eI,iX,.int .i64 (x4),tW] [rI aQ x0.aE,rI bC x0.To,rI aO x0.aH,rJ aN x0.aC,rI bW x1.aE,rI cF x1.To,rI bF x1.aH,rJ aZ x1.aC,rI eI x2,rI iX x3,.own (aI 24 (aI 2 (aL .i64))) tW x5] (fun y (v:Value)=>[v]) (fun y v=>[.own (aI 24 (aI 2 (aL .i64))) v y]):=by
 refine ct (S:=Unit) (bu fun _ _=>rfl) Tryz.func152 rfl rfl ?_
 repeat' first
  | (apply Dk.fe; repeat' first | exact rfl | (refine @id.{0} _ ?_; constructor))
  | intro _
  | exact rfl
  | (refine @id.{0} _ ?_; constructor)
  | apply ih
  | apply Dk.loop 0 (V:=Unit) (fun (s:Int) v=>[]) (fun s v=>[(4,.int .i64 (s))]) () [(2,_),(3,_),(5,_),(6,_),(7,_)]
  | apply Dk.loop 2 (V:=Value) (fun (s:(List (List Int))×Int) v=>[.own (aI 24 (aI 2 (aL .i64))) v s.1]) (fun s v=>[(5,v),(14,.int .i64 (s.2))]) _ [(2,_),(3,_),(4,_),(6,_),(7,_),(13,_)]
  | apply Dk.any (id:=5) 17 [] [] [[],[],[],[2],[],[2,3,4],[2,3,4,5],[1,2,3,4,5,6],[1,2,3,4,5,6,7],[],[],[10],[],[10,11,12],[10,11,12,13],[9,10,11,12,13,14],[9,10,11,12,13,14,15]] (by kernel_rfl)
  | apply xV
  | apply Hj
  | apply aiM
  | exact ()
theorem aa6 (n:Nat):∀ {x0:aF} {aQ bC aO aN:Value} {x1:aF} {bW cF bF aZ:Value} {x2:(List Int)} {eI:Value} {x3:(List Int)} {iX:Value} {x4:Int} {x5:(List (List Int))} {tW:Value},Ct Tryz.prog 152 true (jM n x0 x1 x2 x3 x4 x5) [.agg #[.int .i64 (x0.aA),aQ,bC,aO,aN],.agg #[.int .i64 (x1.aA),bW,cF,bF,aZ],eI,iX,.int .i64 (x4),tW] [rI aQ x0.aE,rI bC x0.To,rI aO x0.aH,rJ aN x0.aC,rI bW x1.aE,rI cF x1.To,rI bF x1.aH,rJ aZ x1.aC,rI eI x2,rI iX x3,.own (aI 24 (aI 2 (aL .i64))) tW x5] (fun y (v:Value)=>[v]) (fun y v=>[.own (aI 24 (aI 2 (aL .i64))) v y]):=by
 induction n with
 | zero=>intros; rw [u5]; exact ⟨(bu fun _ _=>rfl),fun _ _ _ _ _ _ _ y hy=>nomatch (show none=some y from hy)⟩
 | succ n ih=>exact aa5 ih
theorem aiN {x0:aF} {aQ bC aO aN:Value} {x1:aF} {bW cF bF aZ:Value} {x2:(List Int)} {eI:Value} {x3:(List Int)} {iX:Value} {x4:Int} {x5:(List (List Int))} {tW:Value}:Ct Tryz.prog 152 true (jM 64 x0 x1 x2 x3 x4 x5) [.agg #[.int .i64 (x0.aA),aQ,bC,aO,aN],.agg #[.int .i64 (x1.aA),bW,cF,bF,aZ],eI,iX,.int .i64 (x4),tW] [rI aQ x0.aE,rI bC x0.To,rI aO x0.aH,rJ aN x0.aC,rI bW x1.aE,rI cF x1.To,rI bF x1.aH,rJ aZ x1.aC,rI eI x2,rI iX x3,.own (aI 24 (aI 2 (aL .i64))) tW x5] (fun y (v:Value)=>[v]) (fun y v=>[.own (aI 24 (aI 2 (aL .i64))) v y]):=by
 exact aa6 64
theorem NI {x0:aF} {aQ bC aO aN:Value} {x1:Int} {x2:Int}:Ct Tryz.prog 50 true (eK x0 x1 x2) [.agg #[.int .i64 (x0.aA),aQ,bC,aO,aN],.int .i64 (x1),.int .i64 (x2)] [rI aQ x0.aE,rI bC x0.To,rI aO x0.aH,rJ aN x0.aC] (fun y (_:Unit)=>[.int .i64 y]) (fun y _=>[]):=by
 refine ct (S:=Unit) (bu fun _ _=>rfl) Tryz.func50 rfl rfl ?_
 repeat' first
  | (apply Dk.fe; repeat' first | exact rfl | (refine @id.{0} _ ?_; constructor))
  | intro _
  | exact rfl
  | (refine @id.{0} _ ?_; constructor)
  | exact ()
theorem c77 {x0:aF} {aQ bC aO aN:Value} {x1:Int}:Ct Tryz.prog 77 true (gS x0 x1) [.agg #[.int .i64 (x0.aA),aQ,bC,aO,aN],.int .i64 (x1)] [rI aQ x0.aE,rI bC x0.To,rI aO x0.aH,rJ aN x0.aC] (fun y (_:Unit)=>[.bool y]) (fun y _=>[]):=by
 refine ct (S:=Unit) (bu fun _ _=>rfl) Tryz.func77 rfl rfl ?_
 repeat' first
  | (apply Dk.fe; repeat' first | exact rfl | (refine @id.{0} _ ?_; constructor))
  | intro _
  | exact rfl
  | (refine @id.{0} _ ?_; constructor)
  | apply Dk.quiet (id:=1) (by kernel_rfl)
  | exact ()
theorem c64 {x0:aP} {bG bN aV aR bH bP aW aS bV cA:Value} {x1:(List Int)} {eB:Value} {x2:(List Int)} {eI:Value}:Ct Tryz.prog 64 true (lD x0 x1 x2) [.agg #[.int .i64 (x0.aB.aA),bG,bN,aV,aR,.int .i64 (x0.aG.aA),bH,bP,aW,aS,bV,cA],eB,eI] [rI bG x0.aB.aE,rI bN x0.aB.To,rI aV x0.aB.aH,rJ aR x0.aB.aC,rI bH x0.aG.aE,rI bP x0.aG.To,rI aW x0.aG.aH,rJ aS x0.aG.aC,rI bV x0.aA,rI cA x0.ab,rI eB x1,rI eI x2] (fun y (_:Unit)=>[.bool y]) (fun y _=>[]):=by
 refine ct (S:=Unit) (bu fun _ _=>rfl) Tryz.func64 rfl rfl ?_
 repeat' first
  | (apply Dk.fe; repeat' first | exact rfl | (refine @id.{0} _ ?_; constructor))
  | intro _
  | exact rfl
  | (refine @id.{0} _ ?_; constructor)
  | apply Dk.loop 0 (V:=Unit) (fun (s:Int) v=>[]) (fun s v=>[(8,.int .i64 (s))]) () [(1,_),(2,_),(3,_),(7,_)]
  | apply Dk.quiet (id:=6) (by kernel_rfl)
  | apply Dk.quiet (id:=8) (by kernel_rfl)
  | apply NI
  | apply c77
  | exact ()
theorem aiO {x0:aF} {aQ bC aO aN:Value}:Ct Tryz.prog 143 true (pA x0) [.agg #[.int .i64 (x0.aA),aQ,bC,aO,aN]] [rI aQ x0.aE,rI bC x0.To,rI aO x0.aH,rJ aN x0.aC] (fun y (v:Value)=>[v]) (fun y v=>[.own (aI 2 (aL .i64)) v y]):=by
 refine ct (S:=Unit) (bu fun _ _=>rfl) Tryz.func143 rfl rfl ?_
 repeat' first
  | (apply Dk.fe; repeat' first | exact rfl | (refine @id.{0} _ ?_; constructor))
  | intro _
  | exact rfl
  | (refine @id.{0} _ ?_; constructor)
  | apply Dk.loop 0 (V:=Value) (fun (s:(List Int)×Int) v=>[.own (aI 2 (aL .i64)) v s.1]) (fun s v=>[(3,v),(4,.int .i64 (s.2))]) _ [(1,_)]
  | apply c77
  | exact ()
theorem aa7 {x0:aP} {bG bN aV aR bH bP aW aS bV cA:Value} {x1:Int} {x2:Int} {x3:Int} {x4:Int}:Ct Tryz.prog 142 true (fR x0 x1 x2 x3 x4) [.agg #[.int .i64 (x0.aB.aA),bG,bN,aV,aR,.int .i64 (x0.aG.aA),bH,bP,aW,aS,bV,cA],.int .i64 (x1),.int .i64 (x2),.int .i64 (x3),.int .i64 (x4)] [rI bG x0.aB.aE,rI bN x0.aB.To,rI aV x0.aB.aH,rJ aR x0.aB.aC,rI bH x0.aG.aE,rI bP x0.aG.To,rI aW x0.aG.aH,rJ aS x0.aG.aC,rI bV x0.aA,rI cA x0.ab] (fun y (v:Value)=>[v]) (fun y v=>[.own (aI 2 (aL .i64)) v y]):=by
 refine ct (S:=Unit) (bu fun _ _=>rfl) Tryz.func142 rfl rfl ?_
 repeat' first
  | (apply Dk.fe; repeat' first | exact rfl | (refine @id.{0} _ ?_; constructor))
  | intro _
  | exact rfl
  | (refine @id.{0} _ ?_; constructor)
  | apply Dk.loop 0 (V:=Value) (fun (s:(List Int)×Int) v=>[.own (aI 2 (aL .i64)) v s.1]) (fun s v=>[(12,v),(13,.int .i64 (s.2))]) _ [(3,_),(4,_),(5,_),(11,_)]
  | apply Dk.quiet (id:=6) (by kernel_rfl)
  | apply Hj
  | apply NI
  | exact ()
theorem VV {x0:Int} {x1:(List Int)} {eB:Value}:Ct Tryz.prog 87 true (kR x0 x1) [.int .i64 (x0),eB] [rI eB x1] (fun y (_:Unit)=>[.bool y]) (fun y _=>[]):=by
 refine ct (S:=Unit) (bu fun _ _=>rfl) Tryz.func87 rfl rfl ?_
 repeat' first
  | (apply Dk.fe; repeat' first | exact rfl | (refine @id.{0} _ ?_; constructor))
  | intro _
  | exact rfl
  | (refine @id.{0} _ ?_; constructor)
  | apply Dk.loop 0 (V:=Unit) (fun (s:Int) v=>[]) (fun s v=>[(5,.int .i64 (s))]) () [(0,_),(1,_)]
  | exact ()
theorem aiP {x0:(List Int)} {cU:Value} {x1:Int} {x2:Int}:Ct Tryz.prog 146 true (oL x0 x1 x2) [cU,.int .i64 (x1),.int .i64 (x2)] [rI cU x0] (fun y (_:Unit)=>[.bool y]) (fun y _=>[]):=by
 refine ct (S:=Unit) (bu fun _ _=>rfl) Tryz.func146 rfl rfl ?_
 repeat' first
  | (apply Dk.fe; repeat' first | exact rfl | (refine @id.{0} _ ?_; constructor))
  | intro _
  | exact rfl
  | (refine @id.{0} _ ?_; constructor)
  | apply VV
  | exact ()
theorem c61 {x0:aP} {bG bN aV aR bH bP aW aS bV cA:Value} {x1:aP} {cW dE cH cC cX dF cI cD dQ dU:Value} {x2:(List Int)} {eI:Value}:Ct Tryz.prog 61 true (gP x0 x1 x2) [.agg #[.int .i64 (x0.aB.aA),bG,bN,aV,aR,.int .i64 (x0.aG.aA),bH,bP,aW,aS,bV,cA],.agg #[.int .i64 (x1.aB.aA),cW,dE,cH,cC,.int .i64 (x1.aG.aA),cX,dF,cI,cD,dQ,dU],eI] [rI bG x0.aB.aE,rI bN x0.aB.To,rI aV x0.aB.aH,rJ aR x0.aB.aC,rI bH x0.aG.aE,rI bP x0.aG.To,rI aW x0.aG.aH,rJ aS x0.aG.aC,rI bV x0.aA,rI cA x0.ab,rI cW x1.aB.aE,rI dE x1.aB.To,rI cH x1.aB.aH,rJ cC x1.aB.aC,rI cX x1.aG.aE,rI dF x1.aG.To,rI cI x1.aG.aH,rJ cD x1.aG.aC,rI dQ x1.aA,rI dU x1.ab,rI eI x2] (fun y (_:Unit)=>[.bool y]) (fun y _=>[]):=by
 refine ct (S:=Unit) (bu fun _ _=>rfl) Tryz.func61 rfl rfl ?_
 repeat' first
  | (apply Dk.fe; repeat' first | exact rfl | (refine @id.{0} _ ?_; constructor))
  | intro _
  | exact rfl
  | (refine @id.{0} _ ?_; constructor)
  | apply Dk.loop 0 (V:=Unit) (fun (s:Int) v=>[]) (fun s v=>[(9,.int .i64 (s))]) () [(2,_),(3,_),(4,_),(7,_),(8,_)]
  | apply Dk.loop 2 (V:=Unit) (fun (s:Int) v=>[]) (fun s v=>[(10,.int .i64 (s))]) () [(2,_),(3,_),(4,_),(7,_),(8,_)]
  | apply Dk.quiet (id:=7) (by kernel_rfl)
  | apply Dk.quiet (id:=12) (by kernel_rfl)
  | apply Dk.any (id:=1) 7 [] [[],[],[],[],[],[],[4]] [[],[0],[],[2],[],[],[0,1,4,5]] (by kernel_rfl)
  | apply VV
  | apply NI
  | exact ()
theorem c40 {x0:bT} {bI bK bA aT bJ bL bB aU bS bX cG cS:Value} {x1:Int} {x2:Int} {x3:Int}:Ct Tryz.prog 40 true (lK x0 x1 x2 x3) [.agg #[.int .i64 (x0.On.aB.aA),bI,bK,bA,aT,.int .i64 (x0.On.aG.aA),bJ,bL,bB,aU,bS,bX,cG,cS],.int .i64 (x1),.int .i64 (x2),.int .i64 (x3)] [rI bI x0.On.aB.aE,rI bK x0.On.aB.To,rI bA x0.On.aB.aH,rJ aT x0.On.aB.aC,rI bJ x0.On.aG.aE,rI bL x0.On.aG.To,rI bB x0.On.aG.aH,rJ aU x0.On.aG.aC,rI bS x0.On.aA,rI bX x0.On.ab,rI cG x0.Unit,rI cS x0.cn] (fun y (_:Unit)=>[.int .i64 y]) (fun y _=>[]):=by
 refine ct (S:=Unit) (bu fun _ _=>rfl) Tryz.func40 rfl rfl ?_
 repeat' first
  | (apply Dk.fe; repeat' first | exact rfl | (refine @id.{0} _ ?_; constructor))
  | intro _
  | exact rfl
  | (refine @id.{0} _ ?_; constructor)
  | apply Dk.quiet (id:=2) (by kernel_rfl)
  | apply NI
  | exact ()
end Go.Proofs.YtilhlobfebngdaaGreat
