/- Walks by the calculus D. No condition beside those that each theorem names. -/
import Derived.Test.YtilhlobfebngdaaGreatDp
import Derived.Test.YtilhlobfebngdaaGreatDi
import Derived.Test.YtilhlobfebngdaaGreatMo
import Derived.Test.YtilhlobfebngdaaGreatDs
namespace Go.Proofs.YtilhlobfebngdaaGreat
open Go Go.Li Go.Dk
set_option linter.unusedVariables false
set_option maxHeartbeats 16000000
set_option maxRecDepth 100000
theorem wW {x0:(List Int)} {cX:Value}:Ct Tryz.prog 116 true (dM x0) [cX] [rI cX x0] (fun y (v:Value)=>[v]) (fun y v=>[.own (aL 2 (aN .i64)) v y]):=by
 refine ct (S:=Unit) (b9 fun _ _=>rfl) Tryz.func116 rfl rfl ?_
 repeat' first
  | (apply Dk.fe; repeat' first | exact rfl | (refine @id.{0} _ ?_; constructor))
  | intro _
  | exact rfl
  | (refine @id.{0} _ ?_; constructor)
  | exact ()
theorem Yy {x0:(List (List Int))} {cX:Value}:Ct Tryz.prog 144 true (nK x0) [cX] [rJ cX x0] (fun y (v:Value)=>[v]) (fun y v=>[.own (aL 24 (aL 2 (aN .i64))) v y]):=by
 refine ct (S:=Unit) (b9 fun _ _=>rfl) Tryz.func144 rfl rfl ?_
 repeat' first
  | (apply Dk.fe; repeat' first | exact rfl | (refine @id.{0} _ ?_; constructor))
  | intro _
  | exact rfl
  | (refine @id.{0} _ ?_; constructor)
  | apply Dk.loop 0 (V:=Value) (fun (s:(List (List Int))×Int) v=>[.own (aL 24 (aL 2 (aN .i64))) v s.1]) (fun s v=>[(3,v),(4,.int .i64 (s.2))]) _ [(0,_)]
  | apply wW
  | exact ()
theorem Yz {x0:aI} {aV bE aP aO:Value}:Ct Tryz.prog 137 true (jT x0) [.agg #[.int .i64 (x0.aA),aV,bE,aP,aO]] [rI aV x0.aG,rI bE x0.To,rI aP x0.aJ,rJ aO x0.aE] (fun y (v:Value×Value×Value×Value)=>[.agg #[.int .i64 y.aA,v.1,v.2.1,v.2.2.1,v.2.2.2]]) (fun y v=>[.own (aL 2 (aN .i64)) v.1 y.aG,.own (aL 2 (aN .i64)) v.2.1 y.To,.own (aL 2 (aN .i64)) v.2.2.1 y.aJ,.own (aL 24 (aL 2 (aN .i64))) v.2.2.2 y.aE]):=by
 refine ct (S:=Unit) (b9 fun _ _=>rfl) Tryz.func137 rfl rfl ?_
 repeat' first
  | (apply Dk.fe; repeat' first | exact rfl | (refine @id.{0} _ ?_; constructor))
  | intro _
  | exact rfl
  | (refine Dk.uW (t:=32) rfl ?_ ?_)
  | (refine @id.{0} _ ?_; constructor)
  | apply Dk.jg 0 (V:=Value) (A:=Nat×Value×Value×Value) (_,_,_,_) (fun a (s:Int×(List (List Int))) v=>Dk.pc (fun a0=>Dk.pc (fun a1=>Dk.pc (fun a2 a3=>[.row a0 [.int .i64 (x0.aA),a1,a2,a3,v] 27,.own (aL 24 (aL 2 (aN .i64))) v s.2]))) a) (fun a s v=>Dk.pc (fun a0=>Dk.pc (fun a1=>Dk.pc (fun a2 a3=>[(3,.pointer (some ⟨a0,0,none⟩)),(4,.int .i64 (s.1))]))) a) _ [(1,_),(2,_)]
  | apply Dk.loop 2 (V:=Value) (fun (s:(List Int)×Int) v=>[.own (aL 2 (aN .i64)) v s.1]) (fun s v=>[(5,v),(6,.int .i64 (s.2))]) _ [(1,_),(2,_),(3,_),(4,_)]
  | apply Dk.abV (id:=1) [13,0,1,2,3,4,5,6,7,8,9,10,11,12,14] [1,2,3,4,5,6,7,8,9,10,11,12,13,0,14] [] 14 [] [] [[],[],[1],[],[3],[3,4],[],[6],[3,4,5,6,7],[],[9],[3,4,5,6,7,8,9,10],[],[1,2,3,4,5,6,7,8,9,10,11,12]] (by kernel_rfl)
  | apply wW
  | exact ()
theorem D9 {x0:aI} {aV bE aP aO:Value} {x1:Int} {x2:Int}:Ct Tryz.prog 32 true (eY x0 x1 x2) [.agg #[.int .i64 (x0.aA),aV,bE,aP,aO],.int .i64 (x1),.int .i64 (x2)] [rI aV x0.aG,rI bE x0.To,rI aP x0.aJ,rJ aO x0.aE] (fun y (v:Value)=>[v]) (fun y v=>[.own (aL 2 (aN .i64)) v y]):=by
 refine ct (S:=Unit) (b9 fun _ _=>rfl) Tryz.func32 rfl rfl ?_
 repeat' first
  | (apply Dk.fe; repeat' first | exact rfl | (refine @id.{0} _ ?_; constructor))
  | intro _
  | exact rfl
  | (refine @id.{0} _ ?_; constructor)
  | apply Dk.loop 0 (V:=Value) (fun (s:(List Int)×Int) v=>[.own (aL 2 (aN .i64)) v s.1]) (fun s v=>[(7,v),(8,.int .i64 (s.2))]) _ [(1,_),(2,_),(3,_)]
  | exact ()
theorem afl {x0:aI} {aV bE aP aO:Value} {x1:aI} {bY cH bJ bD:Value} {x2:(List Int)} {eA:Value}:Ct Tryz.prog 151 true (pB x0 x1 x2) [.agg #[.int .i64 (x0.aA),aV,bE,aP,aO],.agg #[.int .i64 (x1.aA),bY,cH,bJ,bD],eA] [rI aV x0.aG,rI bE x0.To,rI aP x0.aJ,rJ aO x0.aE,rI bY x1.aG,rI cH x1.To,rI bJ x1.aJ,rJ bD x1.aE,rI eA x2] (fun y (_:Unit)=>[.bool y]) (fun y _=>[]):=by
 refine ct (S:=Unit) (b9 fun _ _=>rfl) Tryz.func151 rfl rfl ?_
 repeat' first
  | (apply Dk.fe; repeat' first | exact rfl | (refine @id.{0} _ ?_; constructor))
  | intro _
  | exact rfl
  | (refine @id.{0} _ ?_; constructor)
  | apply Dk.loop 0 (V:=Unit) (fun (s:Int) v=>[]) (fun s v=>[(7,.int .i64 (s))]) () [(2,_),(3,_),(4,_)]
  | apply Dk.quiet (id:=4) (by kernel_rfl)
  | apply Dk.tail (id:=5) 20 (by kernel_rfl)
  | apply D9
  | exact ()
theorem afm {x0:aI} {aV bE aP aO:Value} {x1:aI} {bY cH bJ bD:Value} {x2:(List Int)} {eA:Value}:Ct Tryz.prog 157 true (pC x0 x1 x2) [.agg #[.int .i64 (x0.aA),aV,bE,aP,aO],.agg #[.int .i64 (x1.aA),bY,cH,bJ,bD],eA] [rI aV x0.aG,rI bE x0.To,rI aP x0.aJ,rJ aO x0.aE,rI bY x1.aG,rI cH x1.To,rI bJ x1.aJ,rJ bD x1.aE,.own (aL 2 (aN .i64)) eA x2] (fun y (_:Unit)=>[.bool y.1]) (fun y _=>[.own (aL 2 (aN .i64)) eA y.2]):=by
 refine ct (S:=Unit) (b9 fun _ _=>rfl) Tryz.func157 rfl rfl ?_
 repeat' first
  | (apply Dk.fe; repeat' first | exact rfl | (refine @id.{0} _ ?_; constructor))
  | intro _
  | exact rfl
  | (refine Dk.uW (t:=22) rfl ?_ ?_)
  | (refine @id.{0} _ ?_; constructor)
  | apply Dk.loop 0 (V:=Unit) (fun (s:Bool×(List Int)) v=>[.own (aL 2 (aN .i64)) eA s.2]) (fun s v=>[(7,.bool (s.1))]) () [(2,_),(3,_),(4,_)]
  | apply Dk.loop 2 (V:=Unit) (fun (s:Bool×Int×(List Int)) v=>[.own (aL 2 (aN .i64)) eA s.2.2]) (fun s v=>[(7,.bool (s.1)),(8,.int .i64 (s.2.1))]) () [(2,_),(3,_),(4,_)]
  | apply Dk.loop 4 (V:=Unit) (fun (s:Bool×Int×(List Int)) v=>[.own (aL 2 (aN .i64)) eA s.2.2]) (fun s v=>[(7,.bool (s.1)),(9,.int .i64 (s.2.1))]) () [(2,_),(3,_),(4,_),(8,_)]
  | apply Dk.quiet (id:=12) (by kernel_rfl)
  | exact ()
theorem YA {rc:aI→aI→(List Int)→(List Int)→Int→(List (List Int))→Option ((List (List Int)))} (ih:∀ {x0:aI} {aV bE aP aO:Value} {x1:aI} {bY cH bJ bD:Value} {x2:(List Int)} {eA:Value} {x3:(List Int)} {iI:Value} {x4:Int} {x5:(List (List Int))} {tH:Value},Ct Tryz.prog 152 true (rc x0 x1 x2 x3 x4 x5) [.agg #[.int .i64 (x0.aA),aV,bE,aP,aO],.agg #[.int .i64 (x1.aA),bY,cH,bJ,bD],eA,iI,.int .i64 (x4),tH] [rI aV x0.aG,rI bE x0.To,rI aP x0.aJ,rJ aO x0.aE,rI bY x1.aG,rI cH x1.To,rI bJ x1.aJ,rJ bD x1.aE,rI eA x2,rI iI x3,.own (aL 24 (aL 2 (aN .i64))) tH x5] (fun y (v:Value)=>[v]) (fun y v=>[.own (aL 24 (aL 2 (aN .i64))) v y])) {x0:aI} {aV bE aP aO:Value} {x1:aI} {bY cH bJ bD:Value} {x2:(List Int)} {eA:Value} {x3:(List Int)} {iI:Value} {x4:Int} {x5:(List (List Int))} {tH:Value}:Ct Tryz.prog 152 true (mC rc x0 x1 x2 x3 x4 x5) [.agg #[.int .i64 (x0.aA),aV,bE,aP,aO],.agg #[.int .i64 (x1.aA),bY,cH,bJ,bD],eA,iI,.int .i64 (x4),tH] [rI aV x0.aG,rI bE x0.To,rI aP x0.aJ,rJ aO x0.aE,rI bY x1.aG,rI cH x1.To,rI bJ x1.aJ,rJ bD x1.aE,rI eA x2,rI iI x3,.own (aL 24 (aL 2 (aN .i64))) tH x5] (fun y (v:Value)=>[v]) (fun y v=>[.own (aL 24 (aL 2 (aN .i64))) v y]):=by
 refine ct (S:=Unit) (b9 fun _ _=>rfl) Tryz.func152 rfl rfl ?_
 repeat' first
  | (apply Dk.fe; repeat' first | exact rfl | (refine @id.{0} _ ?_; constructor))
  | intro _
  | exact rfl
  | (refine @id.{0} _ ?_; constructor)
  | apply ih
  | apply Dk.loop 0 (V:=Unit) (fun (s:Int) v=>[]) (fun s v=>[(4,.int .i64 (s))]) () [(2,_),(3,_),(5,_),(6,_),(7,_)]
  | apply Dk.loop 2 (V:=Value) (fun (s:(List (List Int))×Int) v=>[.own (aL 24 (aL 2 (aN .i64))) v s.1]) (fun s v=>[(5,v),(14,.int .i64 (s.2))]) _ [(2,_),(3,_),(4,_),(6,_),(7,_),(13,_)]
  | apply Dk.any (id:=5) 17 [] [] [[],[],[],[2],[],[2,3,4],[2,3,4,5],[1,2,3,4,5,6],[1,2,3,4,5,6,7],[],[],[10],[],[10,11,12],[10,11,12,13],[9,10,11,12,13,14],[9,10,11,12,13,14,15]] (by kernel_rfl)
  | apply wW
  | apply D9
  | apply afm
  | exact ()
theorem YB (n:Nat):∀ {x0:aI} {aV bE aP aO:Value} {x1:aI} {bY cH bJ bD:Value} {x2:(List Int)} {eA:Value} {x3:(List Int)} {iI:Value} {x4:Int} {x5:(List (List Int))} {tH:Value},Ct Tryz.prog 152 true (iZ n x0 x1 x2 x3 x4 x5) [.agg #[.int .i64 (x0.aA),aV,bE,aP,aO],.agg #[.int .i64 (x1.aA),bY,cH,bJ,bD],eA,iI,.int .i64 (x4),tH] [rI aV x0.aG,rI bE x0.To,rI aP x0.aJ,rJ aO x0.aE,rI bY x1.aG,rI cH x1.To,rI bJ x1.aJ,rJ bD x1.aE,rI eA x2,rI iI x3,.own (aL 24 (aL 2 (aN .i64))) tH x5] (fun y (v:Value)=>[v]) (fun y v=>[.own (aL 24 (aL 2 (aN .i64))) v y]):=by
 induction n with
 | zero=>intros; rw [u2]; exact ⟨(b9 fun _ _=>rfl),fun _ _ _ _ _ _ _ y hy=>nomatch (show none=some y from hy)⟩
 | succ n ih=>exact YA ih
theorem afn {x0:aI} {aV bE aP aO:Value} {x1:aI} {bY cH bJ bD:Value} {x2:(List Int)} {eA:Value} {x3:(List Int)} {iI:Value} {x4:Int} {x5:(List (List Int))} {tH:Value}:Ct Tryz.prog 152 true (iZ 64 x0 x1 x2 x3 x4 x5) [.agg #[.int .i64 (x0.aA),aV,bE,aP,aO],.agg #[.int .i64 (x1.aA),bY,cH,bJ,bD],eA,iI,.int .i64 (x4),tH] [rI aV x0.aG,rI bE x0.To,rI aP x0.aJ,rJ aO x0.aE,rI bY x1.aG,rI cH x1.To,rI bJ x1.aJ,rJ bD x1.aE,rI eA x2,rI iI x3,.own (aL 24 (aL 2 (aN .i64))) tH x5] (fun y (v:Value)=>[v]) (fun y v=>[.own (aL 24 (aL 2 (aN .i64))) v y]):=by
 exact YB 64
theorem Hu {x0:aI} {aV bE aP aO:Value} {x1:Int} {x2:Int}:Ct Tryz.prog 50 true (dN x0 x1 x2) [.agg #[.int .i64 (x0.aA),aV,bE,aP,aO],.int .i64 (x1),.int .i64 (x2)] [rI aV x0.aG,rI bE x0.To,rI aP x0.aJ,rJ aO x0.aE] (fun y (_:Unit)=>[.int .i64 y]) (fun y _=>[]):=by
 refine ct (S:=Unit) (b9 fun _ _=>rfl) Tryz.func50 rfl rfl ?_
 repeat' first
  | (apply Dk.fe; repeat' first | exact rfl | (refine @id.{0} _ ?_; constructor))
  | intro _
  | exact rfl
  | (refine @id.{0} _ ?_; constructor)
  | exact ()
theorem YC {x0:aI} {aV bE aP aO:Value} {x1:Int}:Ct Tryz.prog 77 true (gF x0 x1) [.agg #[.int .i64 (x0.aA),aV,bE,aP,aO],.int .i64 (x1)] [rI aV x0.aG,rI bE x0.To,rI aP x0.aJ,rJ aO x0.aE] (fun y (_:Unit)=>[.bool y]) (fun y _=>[]):=by
 refine ct (S:=Unit) (b9 fun _ _=>rfl) Tryz.func77 rfl rfl ?_
 repeat' first
  | (apply Dk.fe; repeat' first | exact rfl | (refine @id.{0} _ ?_; constructor))
  | intro _
  | exact rfl
  | (refine @id.{0} _ ?_; constructor)
  | apply Dk.quiet (id:=1) (by kernel_rfl)
  | exact ()
theorem c64 {x0:aQ} {bK bQ aZ aW bL bR bA aY bU bZ:Value} {x1:(List Int)} {dS:Value} {x2:(List Int)} {eA:Value}:Ct Tryz.prog 64 true (kO x0 x1 x2) [.agg #[.int .i64 (x0.aB.aA),bK,bQ,aZ,aW,.int .i64 (x0.aH.aA),bL,bR,bA,aY,bU,bZ],dS,eA] [rI bK x0.aB.aG,rI bQ x0.aB.To,rI aZ x0.aB.aJ,rJ aW x0.aB.aE,rI bL x0.aH.aG,rI bR x0.aH.To,rI bA x0.aH.aJ,rJ aY x0.aH.aE,rI bU x0.aA,rI bZ x0.ab,rI dS x1,rI eA x2] (fun y (_:Unit)=>[.bool y]) (fun y _=>[]):=by
 refine ct (S:=Unit) (b9 fun _ _=>rfl) Tryz.func64 rfl rfl ?_
 repeat' first
  | (apply Dk.fe; repeat' first | exact rfl | (refine @id.{0} _ ?_; constructor))
  | intro _
  | exact rfl
  | (refine @id.{0} _ ?_; constructor)
  | apply Dk.loop 0 (V:=Unit) (fun (s:Int) v=>[]) (fun s v=>[(8,.int .i64 (s))]) () [(1,_),(2,_),(3,_),(7,_)]
  | apply Dk.quiet (id:=6) (by kernel_rfl)
  | apply Dk.quiet (id:=8) (by kernel_rfl)
  | apply Hu
  | apply YC
  | exact ()
theorem afo {x0:aI} {aV bE aP aO:Value}:Ct Tryz.prog 143 true (oE x0) [.agg #[.int .i64 (x0.aA),aV,bE,aP,aO]] [rI aV x0.aG,rI bE x0.To,rI aP x0.aJ,rJ aO x0.aE] (fun y (v:Value)=>[v]) (fun y v=>[.own (aL 2 (aN .i64)) v y]):=by
 refine ct (S:=Unit) (b9 fun _ _=>rfl) Tryz.func143 rfl rfl ?_
 repeat' first
  | (apply Dk.fe; repeat' first | exact rfl | (refine @id.{0} _ ?_; constructor))
  | intro _
  | exact rfl
  | (refine @id.{0} _ ?_; constructor)
  | apply Dk.loop 0 (V:=Value) (fun (s:(List Int)×Int) v=>[.own (aL 2 (aN .i64)) v s.1]) (fun s v=>[(3,v),(4,.int .i64 (s.2))]) _ [(1,_)]
  | apply YC
  | exact ()
theorem YD {x0:aQ} {bK bQ aZ aW bL bR bA aY bU bZ:Value} {x1:Int} {x2:Int} {x3:Int} {x4:Int}:Ct Tryz.prog 142 true (fQ x0 x1 x2 x3 x4) [.agg #[.int .i64 (x0.aB.aA),bK,bQ,aZ,aW,.int .i64 (x0.aH.aA),bL,bR,bA,aY,bU,bZ],.int .i64 (x1),.int .i64 (x2),.int .i64 (x3),.int .i64 (x4)] [rI bK x0.aB.aG,rI bQ x0.aB.To,rI aZ x0.aB.aJ,rJ aW x0.aB.aE,rI bL x0.aH.aG,rI bR x0.aH.To,rI bA x0.aH.aJ,rJ aY x0.aH.aE,rI bU x0.aA,rI bZ x0.ab] (fun y (v:Value)=>[v]) (fun y v=>[.own (aL 2 (aN .i64)) v y]):=by
 refine ct (S:=Unit) (b9 fun _ _=>rfl) Tryz.func142 rfl rfl ?_
 repeat' first
  | (apply Dk.fe; repeat' first | exact rfl | (refine @id.{0} _ ?_; constructor))
  | intro _
  | exact rfl
  | (refine @id.{0} _ ?_; constructor)
  | apply Dk.loop 0 (V:=Value) (fun (s:(List Int)×Int) v=>[.own (aL 2 (aN .i64)) v s.1]) (fun s v=>[(12,v),(13,.int .i64 (s.2))]) _ [(3,_),(4,_),(5,_),(11,_)]
  | apply Dk.quiet (id:=6) (by kernel_rfl)
  | apply D9
  | apply Hu
  | exact ()
theorem TK {x0:Int} {x1:(List Int)} {dS:Value}:Ct Tryz.prog 87 true (jZ x0 x1) [.int .i64 (x0),dS] [rI dS x1] (fun y (_:Unit)=>[.bool y]) (fun y _=>[]):=by
 refine ct (S:=Unit) (b9 fun _ _=>rfl) Tryz.func87 rfl rfl ?_
 repeat' first
  | (apply Dk.fe; repeat' first | exact rfl | (refine @id.{0} _ ?_; constructor))
  | intro _
  | exact rfl
  | (refine @id.{0} _ ?_; constructor)
  | apply Dk.loop 0 (V:=Unit) (fun (s:Int) v=>[]) (fun s v=>[(5,.int .i64 (s))]) () [(0,_),(1,_)]
  | exact ()
theorem afp {x0:(List Int)} {cX:Value} {x1:Int} {x2:Int}:Ct Tryz.prog 146 true (nS x0 x1 x2) [cX,.int .i64 (x1),.int .i64 (x2)] [rI cX x0] (fun y (_:Unit)=>[.bool y]) (fun y _=>[]):=by
 refine ct (S:=Unit) (b9 fun _ _=>rfl) Tryz.func146 rfl rfl ?_
 repeat' first
  | (apply Dk.fe; repeat' first | exact rfl | (refine @id.{0} _ ?_; constructor))
  | intro _
  | exact rfl
  | (refine @id.{0} _ ?_; constructor)
  | apply TK
  | exact ()
theorem c61 {x0:aQ} {bK bQ aZ aW bL bR bA aY bU bZ:Value} {x1:aQ} {cV dE cI cE cW dF cJ cF dP dT:Value} {x2:(List Int)} {eA:Value}:Ct Tryz.prog 61 true (gN x0 x1 x2) [.agg #[.int .i64 (x0.aB.aA),bK,bQ,aZ,aW,.int .i64 (x0.aH.aA),bL,bR,bA,aY,bU,bZ],.agg #[.int .i64 (x1.aB.aA),cV,dE,cI,cE,.int .i64 (x1.aH.aA),cW,dF,cJ,cF,dP,dT],eA] [rI bK x0.aB.aG,rI bQ x0.aB.To,rI aZ x0.aB.aJ,rJ aW x0.aB.aE,rI bL x0.aH.aG,rI bR x0.aH.To,rI bA x0.aH.aJ,rJ aY x0.aH.aE,rI bU x0.aA,rI bZ x0.ab,rI cV x1.aB.aG,rI dE x1.aB.To,rI cI x1.aB.aJ,rJ cE x1.aB.aE,rI cW x1.aH.aG,rI dF x1.aH.To,rI cJ x1.aH.aJ,rJ cF x1.aH.aE,rI dP x1.aA,rI dT x1.ab,rI eA x2] (fun y (_:Unit)=>[.bool y]) (fun y _=>[]):=by
 refine ct (S:=Unit) (b9 fun _ _=>rfl) Tryz.func61 rfl rfl ?_
 repeat' first
  | (apply Dk.fe; repeat' first | exact rfl | (refine @id.{0} _ ?_; constructor))
  | intro _
  | exact rfl
  | (refine @id.{0} _ ?_; constructor)
  | apply Dk.loop 0 (V:=Unit) (fun (s:Int) v=>[]) (fun s v=>[(9,.int .i64 (s))]) () [(2,_),(3,_),(4,_),(7,_),(8,_)]
  | apply Dk.loop 2 (V:=Unit) (fun (s:Int) v=>[]) (fun s v=>[(10,.int .i64 (s))]) () [(2,_),(3,_),(4,_),(7,_),(8,_)]
  | apply Dk.quiet (id:=7) (by kernel_rfl)
  | apply Dk.quiet (id:=12) (by kernel_rfl)
  | apply Dk.any (id:=1) 7 [] [[],[],[],[],[],[],[4]] [[],[0],[],[2],[],[],[0,1,4,5]] (by kernel_rfl)
  | apply TK
  | apply Hu
  | exact ()
theorem YE {x0:bV} {bB bF aT aR bC bG aU aS bN bP cB cD:Value} {x1:Int} {x2:Int}:Ct Tryz.prog 49 true (jB x0 x1 x2) [.agg #[.int .i64 (x0.On.aB.aA),bB,bF,aT,aR,.int .i64 (x0.On.aH.aA),bC,bG,aU,aS,bN,bP,cB,cD],.int .i64 (x1),.int .i64 (x2)] [rI bB x0.On.aB.aG,rI bF x0.On.aB.To,rI aT x0.On.aB.aJ,rJ aR x0.On.aB.aE,rI bC x0.On.aH.aG,rI bG x0.On.aH.To,rI aU x0.On.aH.aJ,rJ aS x0.On.aH.aE,rI bN x0.On.aA,rI bP x0.On.ab,rI cB x0.Unit,rI cD x0.bz] (fun y (_:Unit)=>[.bool y]) (fun y _=>[]):=by
 refine ct (S:=Unit) (b9 fun _ _=>rfl) Tryz.func49 rfl rfl ?_
 repeat' first
  | (apply Dk.fe; repeat' first | exact rfl | (refine @id.{0} _ ?_; constructor))
  | intro _
  | exact rfl
  | (refine @id.{0} _ ?_; constructor)
  | apply Dk.quiet (id:=2) (by kernel_rfl)
  | apply Dk.quiet (id:=4) (by kernel_rfl)
  | apply Hu
  | apply YC
  | exact ()
theorem c53 {x0:bV} {bB bF aT aR bC bG aU aS bN bP cB cD:Value} {x1:(List Int)} {dS:Value} {x2:(List Int)} {eA:Value}:Ct Tryz.prog 53 true (mB x0 x1 x2) [.agg #[.int .i64 (x0.On.aB.aA),bB,bF,aT,aR,.int .i64 (x0.On.aH.aA),bC,bG,aU,aS,bN,bP,cB,cD],dS,eA] [rI bB x0.On.aB.aG,rI bF x0.On.aB.To,rI aT x0.On.aB.aJ,rJ aR x0.On.aB.aE,rI bC x0.On.aH.aG,rI bG x0.On.aH.To,rI aU x0.On.aH.aJ,rJ aS x0.On.aH.aE,rI bN x0.On.aA,rI bP x0.On.ab,rI cB x0.Unit,rI cD x0.bz,rI dS x1,rI eA x2] (fun y (v:Value)=>[v]) (fun y v=>[.own (aL 2 (aN .i64)) v y]):=by
 refine ct (S:=Unit) (b9 fun _ _=>rfl) Tryz.func53 rfl rfl ?_
 repeat' first
  | (apply Dk.fe; repeat' first | exact rfl | (refine @id.{0} _ ?_; constructor))
  | intro _
  | exact rfl
  | (refine @id.{0} _ ?_; constructor)
  | apply Dk.loop 0 (V:=Value) (fun (s:(List Int)×Int) v=>[.own (aL 2 (aN .i64)) v s.1]) (fun s v=>[(9,v),(10,.int .i64 (s.2))]) _ [(1,_),(2,_),(3,_),(7,_),(8,_)]
  | apply Dk.quiet (id:=7) (by kernel_rfl)
  | apply Dk.any (id:=2) 7 [] [] [[],[],[1],[1,2],[],[4],[4,5]] (by kernel_rfl)
  | apply D9
  | apply Hu
  | exact ()
end Go.Proofs.YtilhlobfebngdaaGreat
