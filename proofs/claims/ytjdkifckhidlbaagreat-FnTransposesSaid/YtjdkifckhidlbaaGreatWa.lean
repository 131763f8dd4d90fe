/- Walks by the calculus D. No condition beside those that each theorem names. -/
import Derived.Test.YtjdkifckhidlbaaGreatDp
import Derived.Test.YtjdkifckhidlbaaGreatDi
import Derived.Test.YtjdkifckhidlbaaGreatMo
import Derived.Test.YtjdkifckhidlbaaGreatDs
namespace Go.Proofs.YtjdkifckhidlbaaGreat
open Go Go.Li Go.Dk
set_option linter.unusedVariables false
set_option maxHeartbeats 16000000
set_option maxRecDepth 100000
theorem xw {x0:(List Int)} {cY:Value}:Ct Tryz.prog 100 true (dC x0) [cY] [rI cY x0] (fun y (v:Value)=>[v]) (fun y v=>[.own (aL 2 (aN .i64)) v y]):=by
 refine ct (S:=Unit) (bw fun _ _=>rfl) Tryz.func100 rfl rfl ?_
 repeat' first
  | (apply Dk.fe; repeat' first | exact rfl | (refine @id.{0} _ ?_; constructor))
  | intro _
  | exact rfl
  | (refine @id.{0} _ ?_; constructor)
  | exact ()
theorem T1 {x0:(List (List Int))} {cY:Value}:Ct Tryz.prog 208 true (lA x0) [cY] [rJ cY x0] (fun y (v:Value)=>[v]) (fun y v=>[.own (aL 24 (aL 2 (aN .i64))) v y]):=by
 refine ct (S:=Unit) (bw fun _ _=>rfl) Tryz.func208 rfl rfl ?_
 repeat' first
  | (apply Dk.fe; repeat' first | exact rfl | (refine @id.{0} _ ?_; constructor))
  | intro _
  | exact rfl
  | (refine @id.{0} _ ?_; constructor)
  | apply Dk.loop 0 (V:=Value) (fun (s:(List (List Int))×Int) v=>[.own (aL 24 (aL 2 (aN .i64))) v s.1]) (fun s v=>[(3,v),(4,.int .i64 (s.2))]) _ [(0,_)]
  | apply xw
  | exact ()
theorem T3 {x0:aI} {aQ bF aO aM:Value}:Ct Tryz.prog 271 true (iI x0) [.agg #[.int .i64 (x0.aA),aQ,bF,aO,aM]] [rI aQ x0.aG,rI bF x0.To,rI aO x0.aJ,rJ aM x0.aB] (fun y (v:Value×Value×Value×Value)=>[.agg #[.int .i64 y.aA,v.1,v.2.1,v.2.2.1,v.2.2.2]]) (fun y v=>[.own (aL 2 (aN .i64)) v.1 y.aG,.own (aL 2 (aN .i64)) v.2.1 y.To,.own (aL 2 (aN .i64)) v.2.2.1 y.aJ,.own (aL 24 (aL 2 (aN .i64))) v.2.2.2 y.aB]):=by
 refine ct (S:=Unit) (bw fun _ _=>rfl) Tryz.func271 rfl rfl ?_
 repeat' first
  | (apply Dk.fe; repeat' first | exact rfl | (refine @id.{0} _ ?_; constructor))
  | intro _
  | exact rfl
  | (refine Dk.sZ (t:=32) rfl ?_ ?_)
  | (refine @id.{0} _ ?_; constructor)
  | apply Dk.js 0 (V:=Value) (A:=Nat×Value×Value×Value) (_,_,_,_) (fun a (s:Int×(List (List Int))) v=>Dk.pc (fun a0=>Dk.pc (fun a1=>Dk.pc (fun a2 a3=>[.row a0 [.int .i64 (x0.aA),a1,a2,a3,v] 27,.own (aL 24 (aL 2 (aN .i64))) v s.2]))) a) (fun a s v=>Dk.pc (fun a0=>Dk.pc (fun a1=>Dk.pc (fun a2 a3=>[(3,.pointer (some ⟨a0,0,none⟩)),(4,.int .i64 (s.1))]))) a) _ [(1,_),(2,_)]
  | apply Dk.loop 2 (V:=Value) (fun (s:(List Int)×Int) v=>[.own (aL 2 (aN .i64)) v s.1]) (fun s v=>[(5,v),(6,.int .i64 (s.2))]) _ [(1,_),(2,_),(3,_),(4,_)]
  | apply Dk.XB (id:=1) [13,0,1,2,3,4,5,6,7,8,9,10,11,12,14] [1,2,3,4,5,6,7,8,9,10,11,12,13,0,14] [] 14 [] [] [[],[],[1],[],[3],[3,4],[],[6],[3,4,5,6,7],[],[9],[3,4,5,6,7,8,9,10],[],[1,2,3,4,5,6,7,8,9,10,11,12]] (by kernel_rfl)
  | apply xw
  | exact ()
theorem C0 {x0:aI} {aQ bF aO aM:Value} {x1:Int} {x2:Int}:Ct Tryz.prog 248 true (gT x0 x1 x2) [.agg #[.int .i64 (x0.aA),aQ,bF,aO,aM],.int .i64 (x1),.int .i64 (x2)] [rI aQ x0.aG,rI bF x0.To,rI aO x0.aJ,rJ aM x0.aB] (fun y (v:Value)=>[v]) (fun y v=>[.own (aL 2 (aN .i64)) v y]):=by
 refine ct (S:=Unit) (bw fun _ _=>rfl) Tryz.func248 rfl rfl ?_
 repeat' first
  | (apply Dk.fe; repeat' first | exact rfl | (refine @id.{0} _ ?_; constructor))
  | intro _
  | exact rfl
  | (refine @id.{0} _ ?_; constructor)
  | apply Dk.loop 0 (V:=Value) (fun (s:(List Int)×Int) v=>[.own (aL 2 (aN .i64)) v s.1]) (fun s v=>[(7,v),(8,.int .i64 (s.2))]) _ [(1,_),(2,_),(3,_)]
  | exact ()
theorem aaU {x0:aI} {aQ bF aO aM:Value} {x1:aI} {cE cL bJ bC:Value} {x2:(List Int)} {dS:Value}:Ct Tryz.prog 276 true (mM x0 x1 x2) [.agg #[.int .i64 (x0.aA),aQ,bF,aO,aM],.agg #[.int .i64 (x1.aA),cE,cL,bJ,bC],dS] [rI aQ x0.aG,rI bF x0.To,rI aO x0.aJ,rJ aM x0.aB,rI cE x1.aG,rI cL x1.To,rI bJ x1.aJ,rJ bC x1.aB,rI dS x2] (fun y (_:Unit)=>[.bool y]) (fun y _=>[]):=by
 refine ct (S:=Unit) (bw fun _ _=>rfl) Tryz.func276 rfl rfl ?_
 repeat' first
  | (apply Dk.fe; repeat' first | exact rfl | (refine @id.{0} _ ?_; constructor))
  | intro _
  | exact rfl
  | (refine @id.{0} _ ?_; constructor)
  | apply Dk.loop 0 (V:=Unit) (fun (s:Int) v=>[]) (fun s v=>[(7,.int .i64 (s))]) () [(2,_),(3,_),(4,_)]
  | apply Dk.quiet (id:=4) (by kernel_rfl)
  | apply Dk.tail (id:=5) 20 (by kernel_rfl)
  | apply C0
  | exact ()
theorem aaV {x0:aI} {aQ bF aO aM:Value} {x1:aI} {cE cL bJ bC:Value} {x2:(List Int)} {dS:Value}:Ct Tryz.prog 304 true (mN x0 x1 x2) [.agg #[.int .i64 (x0.aA),aQ,bF,aO,aM],.agg #[.int .i64 (x1.aA),cE,cL,bJ,bC],dS] [rI aQ x0.aG,rI bF x0.To,rI aO x0.aJ,rJ aM x0.aB,rI cE x1.aG,rI cL x1.To,rI bJ x1.aJ,rJ bC x1.aB,.own (aL 2 (aN .i64)) dS x2] (fun y (_:Unit)=>[.bool y.1]) (fun y _=>[.own (aL 2 (aN .i64)) dS y.2]):=by
 refine ct (S:=Unit) (bw fun _ _=>rfl) Tryz.func304 rfl rfl ?_
 repeat' first
  | (apply Dk.fe; repeat' first | exact rfl | (refine @id.{0} _ ?_; constructor))
  | intro _
  | exact rfl
  | (refine Dk.sZ (t:=22) rfl ?_ ?_)
  | (refine @id.{0} _ ?_; constructor)
  | apply Dk.loop 0 (V:=Unit) (fun (s:Bool×(List Int)) v=>[.own (aL 2 (aN .i64)) dS s.2]) (fun s v=>[(7,.bool (s.1))]) () [(2,_),(3,_),(4,_)]
  | apply Dk.loop 2 (V:=Unit) (fun (s:Bool×Int×(List Int)) v=>[.own (aL 2 (aN .i64)) dS s.2.2]) (fun s v=>[(7,.bool (s.1)),(8,.int .i64 (s.2.1))]) () [(2,_),(3,_),(4,_)]
  | apply Dk.loop 4 (V:=Unit) (fun (s:Bool×Int×(List Int)) v=>[.own (aL 2 (aN .i64)) dS s.2.2]) (fun s v=>[(7,.bool (s.1)),(9,.int .i64 (s.2.1))]) () [(2,_),(3,_),(4,_),(8,_)]
  | apply Dk.quiet (id:=12) (by kernel_rfl)
  | exact ()
theorem T4 {rc:aI→aI→(List Int)→(List Int)→Int→(List (List Int))→Option ((List (List Int)))} (ih:∀ {x0:aI} {aQ bF aO aM:Value} {x1:aI} {cE cL bJ bC:Value} {x2:(List Int)} {dS:Value} {x3:(List Int)} {gF:Value} {x4:Int} {x5:(List (List Int))} {pS:Value},Ct Tryz.prog 277 true (rc x0 x1 x2 x3 x4 x5) [.agg #[.int .i64 (x0.aA),aQ,bF,aO,aM],.agg #[.int .i64 (x1.aA),cE,cL,bJ,bC],dS,gF,.int .i64 (x4),pS] [rI aQ x0.aG,rI bF x0.To,rI aO x0.aJ,rJ aM x0.aB,rI cE x1.aG,rI cL x1.To,rI bJ x1.aJ,rJ bC x1.aB,rI dS x2,rI gF x3,.own (aL 24 (aL 2 (aN .i64))) pS x5] (fun y (v:Value)=>[v]) (fun y v=>[.own (aL 24 (aL 2 (aN .i64))) v y])) {x0:aI} {aQ bF aO aM:Value} {x1:aI} {cE cL bJ bC:Value} {x2:(List Int)} {dS:Value} {x3:(List Int)} {gF:Value} {x4:Int} {x5:(List (List Int))} {pS:Value}:Ct Tryz.prog 277 true (kB rc x0 x1 x2 x3 x4 x5) [.agg #[.int .i64 (x0.aA),aQ,bF,aO,aM],.agg #[.int .i64 (x1.aA),cE,cL,bJ,bC],dS,gF,.int .i64 (x4),pS] [rI aQ x0.aG,rI bF x0.To,rI aO x0.aJ,rJ aM x0.aB,rI cE x1.aG,rI cL x1.To,rI bJ x1.aJ,rJ bC x1.aB,rI dS x2,rI gF x3,.own (aL 24 (aL 2 (aN .i64))) pS x5] (fun y (v:Value)=>[v]) (fun y v=>[.own (aL 24 (aL 2 (aN .i64))) v y]):=by
 refine ct (S:=Unit) (bw fun _ _=>rfl) Tryz.func277 rfl rfl ?_
 repeat' first
  | (apply Dk.fe; repeat' first | exact rfl | (refine @id.{0} _ ?_; constructor))
  | intro _
  | exact rfl
  | (refine @id.{0} _ ?_; constructor)
  | apply ih
  | apply Dk.loop 0 (V:=Unit) (fun (s:Int) v=>[]) (fun s v=>[(4,.int .i64 (s))]) () [(2,_),(3,_),(5,_),(6,_),(7,_)]
  | apply Dk.loop 2 (V:=Value) (fun (s:(List (List Int))×Int) v=>[.own (aL 24 (aL 2 (aN .i64))) v s.1]) (fun s v=>[(5,v),(14,.int .i64 (s.2))]) _ [(2,_),(3,_),(4,_),(6,_),(7,_),(13,_)]
  | apply Dk.any (id:=5) 17 [] [] [[],[],[],[2],[],[2,3,4],[2,3,4,5],[1,2,3,4,5,6],[1,2,3,4,5,6,7],[],[],[10],[],[10,11,12],[10,11,12,13],[9,10,11,12,13,14],[9,10,11,12,13,14,15]] (by kernel_rfl)
  | apply xw
  | apply C0
  | apply aaV
  | exact ()
theorem T5 (n:Nat):∀ {x0:aI} {aQ bF aO aM:Value} {x1:aI} {cE cL bJ bC:Value} {x2:(List Int)} {dS:Value} {x3:(List Int)} {gF:Value} {x4:Int} {x5:(List (List Int))} {pS:Value},Ct Tryz.prog 277 true (gQ n x0 x1 x2 x3 x4 x5) [.agg #[.int .i64 (x0.aA),aQ,bF,aO,aM],.agg #[.int .i64 (x1.aA),cE,cL,bJ,bC],dS,gF,.int .i64 (x4),pS] [rI aQ x0.aG,rI bF x0.To,rI aO x0.aJ,rJ aM x0.aB,rI cE x1.aG,rI cL x1.To,rI bJ x1.aJ,rJ bC x1.aB,rI dS x2,rI gF x3,.own (aL 24 (aL 2 (aN .i64))) pS x5] (fun y (v:Value)=>[v]) (fun y v=>[.own (aL 24 (aL 2 (aN .i64))) v y]):=by
 induction n with
 | zero=>intros; rw [uz]; exact ⟨(bw fun _ _=>rfl),fun _ _ _ _ _ _ _ y hy=>nomatch (show none=some y from hy)⟩
 | succ n ih=>exact T4 ih
theorem aaW {x0:aI} {aQ bF aO aM:Value} {x1:aI} {cE cL bJ bC:Value} {x2:(List Int)} {dS:Value} {x3:(List Int)} {gF:Value} {x4:Int} {x5:(List (List Int))} {pS:Value}:Ct Tryz.prog 277 true (gQ 64 x0 x1 x2 x3 x4 x5) [.agg #[.int .i64 (x0.aA),aQ,bF,aO,aM],.agg #[.int .i64 (x1.aA),cE,cL,bJ,bC],dS,gF,.int .i64 (x4),pS] [rI aQ x0.aG,rI bF x0.To,rI aO x0.aJ,rJ aM x0.aB,rI cE x1.aG,rI cL x1.To,rI bJ x1.aJ,rJ bC x1.aB,rI dS x2,rI gF x3,.own (aL 24 (aL 2 (aN .i64))) pS x5] (fun y (v:Value)=>[v]) (fun y v=>[.own (aL 24 (aL 2 (aN .i64))) v y]):=by
 exact T5 64
theorem C1 {x0:aI} {aQ bF aO aM:Value} {x1:Int} {x2:Int}:Ct Tryz.prog 140 true (eK x0 x1 x2) [.agg #[.int .i64 (x0.aA),aQ,bF,aO,aM],.int .i64 (x1),.int .i64 (x2)] [rI aQ x0.aG,rI bF x0.To,rI aO x0.aJ,rJ aM x0.aB] (fun y (_:Unit)=>[.int .i64 y]) (fun y _=>[]):=by
 refine ct (S:=Unit) (bw fun _ _=>rfl) Tryz.func140 rfl rfl ?_
 repeat' first
  | (apply Dk.fe; repeat' first | exact rfl | (refine @id.{0} _ ?_; constructor))
  | intro _
  | exact rfl
  | (refine @id.{0} _ ?_; constructor)
  | exact ()
theorem T6 {x0:aP} {bU bZ bD aY bV cA bE aZ cG cJ:Value} {x1:Int} {x2:Int} {x3:Int} {x4:Int}:Ct Tryz.prog 216 true (fG x0 x1 x2 x3 x4) [.agg #[.int .i64 (x0.aE.aA),bU,bZ,bD,aY,.int .i64 (x0.aH.aA),bV,cA,bE,aZ,cG,cJ],.int .i64 (x1),.int .i64 (x2),.int .i64 (x3),.int .i64 (x4)] [rI bU x0.aE.aG,rI bZ x0.aE.To,rI bD x0.aE.aJ,rJ aY x0.aE.aB,rI bV x0.aH.aG,rI cA x0.aH.To,rI bE x0.aH.aJ,rJ aZ x0.aH.aB,rI cG x0.aA,rI cJ x0.ae] (fun y (v:Value)=>[v]) (fun y v=>[.own (aL 2 (aN .i64)) v y]):=by
 refine ct (S:=Unit) (bw fun _ _=>rfl) Tryz.func216 rfl rfl ?_
 repeat' first
  | (apply Dk.fe; repeat' first | exact rfl | (refine @id.{0} _ ?_; constructor))
  | intro _
  | exact rfl
  | (refine @id.{0} _ ?_; constructor)
  | apply Dk.loop 0 (V:=Value) (fun (s:(List Int)×Int) v=>[.own (aL 2 (aN .i64)) v s.1]) (fun s v=>[(12,v),(13,.int .i64 (s.2))]) _ [(3,_),(4,_),(5,_),(11,_)]
  | apply Dk.quiet (id:=6) (by kernel_rfl)
  | apply C0
  | apply C1
  | exact ()
theorem Ji {x0:Int} {x1:(List Int)} {eQ:Value}:Ct Tryz.prog 207 true (iM x0 x1) [.int .i64 (x0),eQ] [rI eQ x1] (fun y (_:Unit)=>[.bool y]) (fun y _=>[]):=by
 refine ct (S:=Unit) (bw fun _ _=>rfl) Tryz.func207 rfl rfl ?_
 repeat' first
  | (apply Dk.fe; repeat' first | exact rfl | (refine @id.{0} _ ?_; constructor))
  | intro _
  | exact rfl
  | (refine @id.{0} _ ?_; constructor)
  | apply Dk.loop 0 (V:=Unit) (fun (s:Int) v=>[]) (fun s v=>[(5,.int .i64 (s))]) () [(0,_),(1,_)]
  | exact ()
theorem aaX {x0:(List Int)} {cY:Value} {x1:Int} {x2:Int}:Ct Tryz.prog 275 true (lE x0 x1 x2) [cY,.int .i64 (x1),.int .i64 (x2)] [rI cY x0] (fun y (_:Unit)=>[.bool y]) (fun y _=>[]):=by
 refine ct (S:=Unit) (bw fun _ _=>rfl) Tryz.func275 rfl rfl ?_
 repeat' first
  | (apply Dk.fe; repeat' first | exact rfl | (refine @id.{0} _ ?_; constructor))
  | intro _
  | exact rfl
  | (refine @id.{0} _ ?_; constructor)
  | apply Ji
  | exact ()
theorem aaY {x0:aP} {bU bZ bD aY bV cA bE aZ cG cJ:Value} {x1:aP} {cU dA cP cM cV dB cQ cN dH dP:Value} {x2:(List Int)} {dS:Value}:Ct Tryz.prog 199 true (fK x0 x1 x2) [.agg #[.int .i64 (x0.aE.aA),bU,bZ,bD,aY,.int .i64 (x0.aH.aA),bV,cA,bE,aZ,cG,cJ],.agg #[.int .i64 (x1.aE.aA),cU,dA,cP,cM,.int .i64 (x1.aH.aA),cV,dB,cQ,cN,dH,dP],dS] [rI bU x0.aE.aG,rI bZ x0.aE.To,rI bD x0.aE.aJ,rJ aY x0.aE.aB,rI bV x0.aH.aG,rI cA x0.aH.To,rI bE x0.aH.aJ,rJ aZ x0.aH.aB,rI cG x0.aA,rI cJ x0.ae,rI cU x1.aE.aG,rI dA x1.aE.To,rI cP x1.aE.aJ,rJ cM x1.aE.aB,rI cV x1.aH.aG,rI dB x1.aH.To,rI cQ x1.aH.aJ,rJ cN x1.aH.aB,rI dH x1.aA,rI dP x1.ae,rI dS x2] (fun y (_:Unit)=>[.bool y]) (fun y _=>[]):=by
 refine ct (S:=Unit) (bw fun _ _=>rfl) Tryz.func199 rfl rfl ?_
 repeat' first
  | (apply Dk.fe; repeat' first | exact rfl | (refine @id.{0} _ ?_; constructor))
  | intro _
  | exact rfl
  | (refine @id.{0} _ ?_; constructor)
  | apply Dk.loop 0 (V:=Unit) (fun (s:Int) v=>[]) (fun s v=>[(9,.int .i64 (s))]) () [(2,_),(3,_),(4,_),(7,_),(8,_)]
  | apply Dk.loop 2 (V:=Unit) (fun (s:Int) v=>[]) (fun s v=>[(10,.int .i64 (s))]) () [(2,_),(3,_),(4,_),(7,_),(8,_)]
  | apply Dk.quiet (id:=7) (by kernel_rfl)
  | apply Dk.quiet (id:=12) (by kernel_rfl)
  | apply Dk.any (id:=1) 7 [] [[],[],[],[],[],[],[4]] [[],[0],[],[2],[],[],[0,1,4,5]] (by kernel_rfl)
  | apply Ji
  | apply C1
  | exact ()
theorem aaZ {x0:bN} {bK bR bA aT bL bS bB aU bX cB bG bP aV aR bH bQ aW aS bW bY cS cO:Value} {x1:Int} {x2:Int}:Ct Tryz.prog 113 true (mS x0 x1 x2) [.agg #[.int .i64 (x0.Left.aE.aA),bK,bR,bA,aT,.int .i64 (x0.Left.aH.aA),bL,bS,bB,aU,bX,cB,.int .i64 (x0.ab.aE.aA),bG,bP,aV,aR,.int .i64 (x0.ab.aH.aA),bH,bQ,aW,aS,bW,bY,cS,cO],.int .i64 (x1),.int .i64 (x2)] [rI bK x0.Left.aE.aG,rI bR x0.Left.aE.To,rI bA x0.Left.aE.aJ,rJ aT x0.Left.aE.aB,rI bL x0.Left.aH.aG,rI bS x0.Left.aH.To,rI bB x0.Left.aH.aJ,rJ aU x0.Left.aH.aB,rI bX x0.Left.aA,rI cB x0.Left.ae,rI bG x0.ab.aE.aG,rI bP x0.ab.aE.To,rI aV x0.ab.aE.aJ,rJ aR x0.ab.aE.aB,rI bH x0.ab.aH.aG,rI bQ x0.ab.aH.To,rI aW x0.ab.aH.aJ,rJ aS x0.ab.aH.aB,rI bW x0.ab.aA,rI bY x0.ab.ae,rI cS x0.Unit,rI cO x0.br] (fun y (_:Unit)=>[.int .i64 y]) (fun y _=>[]):=by
 refine ct (S:=Unit) (bw fun _ _=>rfl) Tryz.func113 rfl rfl ?_
 repeat' first
  | (apply Dk.fe; repeat' first | exact rfl | (refine @id.{0} _ ?_; constructor))
  | intro _
  | exact rfl
  | (refine @id.{0} _ ?_; constructor)
  | apply Dk.quiet (id:=1) (by kernel_rfl)
  | apply C1
  | exact ()
end Go.Proofs.YtjdkifckhidlbaaGreat
