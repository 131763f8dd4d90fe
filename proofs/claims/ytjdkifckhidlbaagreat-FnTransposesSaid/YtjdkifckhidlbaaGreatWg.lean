/- Walks by the calculus D. No condition beside those that each theorem names. -/
import Derived.Test.YtjdkifckhidlbaaGreatDp
import Derived.Test.YtjdkifckhidlbaaGreatDi
import Derived.Test.YtjdkifckhidlbaaGreatMo
import Derived.Test.YtjdkifckhidlbaaGreatDs
import Derived.Test.YtjdkifckhidlbaaGreatWa
import Derived.Test.YtjdkifckhidlbaaGreatWb
import Derived.Test.YtjdkifckhidlbaaGreatWc
import Derived.Test.YtjdkifckhidlbaaGreatWd
namespace Go.Proofs.YtjdkifckhidlbaaGreat
open Go Go.Li Go.Dk
set_option linter.unusedVariables false
set_option maxHeartbeats 16000000
set_option maxRecDepth 100000
theorem abv {x0:aP} {bU bZ bD aY bV cA bE aZ cG cJ:Value} {x1:Int} {x2:Int} {x3:Int}:Ct Tryz.prog 284 true (jR x0 x1 x2 x3) [.agg #[.int .i64 (x0.aE.aA),bU,bZ,bD,aY,.int .i64 (x0.aH.aA),bV,cA,bE,aZ,cG,cJ],.int .i64 (x1),.int .i64 (x2),.int .i64 (x3)] [rI bU x0.aE.aG,rI bZ x0.aE.To,rI bD x0.aE.aJ,rJ aY x0.aE.aB,rI bV x0.aH.aG,rI cA x0.aH.To,rI bE x0.aH.aJ,rJ aZ x0.aH.aB,rI cG x0.aA,rI cJ x0.ae] (fun y (_:Unit)=>[.bool y]) (fun y _=>[]):=by
 refine ct (S:=Unit) (bw fun _ _=>rfl) Tryz.func284 rfl rfl ?_
 repeat' first
  | (apply Dk.fe; repeat' first | exact rfl | (refine @id.{0} _ ?_; constructor))
  | intro _
  | exact rfl
  | (refine @id.{0} _ ?_; constructor)
  | apply Dk.loop 0 (V:=Unit) (fun (s:Int) v=>[]) (fun s v=>[(9,.int .i64 (s))]) () [(1,_),(2,_),(3,_),(4,_)]
  | apply Dk.loop 2 (V:=Unit) (fun (s:Int) v=>[]) (fun s v=>[(11,.int .i64 (s))]) () [(1,_),(2,_),(3,_),(4,_),(9,_),(10,_)]
  | apply Dk.any (id:=4) 8 [] [] [[],[0],[],[2],[],[2,3,4],[2,3,4,5],[]] (by kernel_rfl)
  | apply Dk.any (id:=8) 8 [] [] [[],[],[],[],[],[],[4,5],[4,5,6]] (by kernel_rfl)
  | apply C0
  | apply T6
  | exact ()
theorem abw {x0:aP} {bU bZ bD aY bV cA bE aZ cG cJ:Value} {x1:Int}:Ct Tryz.prog 215 true (nT x0 x1) [.agg #[.int .i64 (x0.aE.aA),bU,bZ,bD,aY,.int .i64 (x0.aH.aA),bV,cA,bE,aZ,cG,cJ],.int .i64 (x1)] [rI bU x0.aE.aG,rI bZ x0.aE.To,rI bD x0.aE.aJ,rJ aY x0.aE.aB,rI bV x0.aH.aG,rI cA x0.aH.To,rI bE x0.aH.aJ,rJ aZ x0.aH.aB,rI cG x0.aA,rI cJ x0.ae] (fun y (_:Unit)=>[.int .i64 y.1,.int .i64 y.2.1,.bool y.2.2]) (fun y _=>[]):=by
 refine ct (S:=Unit) (bw fun _ _=>rfl) Tryz.func215 rfl rfl ?_
 repeat' first
  | (apply Dk.fe; repeat' first | exact rfl | (refine @id.{0} _ ?_; constructor))
  | intro _
  | exact rfl
  | (refine @id.{0} _ ?_; constructor)
  | apply Dk.loop 0 (V:=Unit) (fun (s:Int) v=>[]) (fun s v=>[(7,.int .i64 (s))]) () [(1,_),(2,_)]
  | apply Dk.loop 2 (V:=Unit) (fun (s:Int) v=>[]) (fun s v=>[(9,.int .i64 (s))]) () [(1,_),(2,_),(7,_),(8,_)]
  | apply Dk.quiet (id:=8) (by kernel_rfl)
  | apply Dk.quiet (id:=9) (by kernel_rfl)
  | apply Dk.any (id:=4) 8 [] [] [[],[0],[],[2],[],[2,3,4],[2,3,4,5],[]] (by kernel_rfl)
  | apply C0
  | apply abv
  | exact ()
theorem Ul {x0:aK} {dN:Nat} {cK:Value} {x1:Int}:Ct Tryz.prog 105 true (gS x0 x1) [.pointer (some (⟨dN,0,none⟩)),.int .i64 (x1)] [.row dN [cK,.int .i64 (x0.At),.int .u64 (x0.aq)] 193,.rd false (bT (aN .u8)) cK x0.Code] (fun y (_:Unit)=>[.int .i64 y.1]) (fun y _=>[.row dN [cK,.int .i64 y.2.At,.int .u64 y.2.aq] 193]):=by
 refine ct (S:=Unit) (bw fun _ _=>rfl) Tryz.func105 rfl rfl ?_
 repeat' first
  | (apply Dk.fe; repeat' first | exact rfl | (refine @id.{0} _ ?_; constructor))
  | intro _
  | exact rfl
  | (refine @id.{0} _ ?_; constructor)
  | apply xZ
  | apply Uc
  | exact ()
theorem abx {x0:aI} {aQ bF aO aM:Value}:Ct Tryz.prog 186 true (oA x0) [.agg #[.int .i64 (x0.aA),aQ,bF,aO,aM]] [rI aQ x0.aG,rI bF x0.To,rI aO x0.aJ,rJ aM x0.aB] (fun y (_:Unit)=>[.bool y]) (fun y _=>[]):=by
 refine ct (S:=Unit) (bw fun _ _=>rfl) Tryz.func186 rfl rfl ?_
 repeat' first
  | (apply Dk.fe; repeat' first | exact rfl | (refine @id.{0} _ ?_; constructor))
  | intro _
  | exact rfl
  | (refine Dk.sZ (t:=102) rfl ?_ ?_)
  | (refine @id.{0} _ ?_; constructor)
  | apply Dk.loop 0 (V:=Unit) (fun (s:Int) v=>[]) (fun s v=>[(4,.int .i64 (s))]) () [(1,_),(3,_)]
  | apply Dk.loop 2 (V:=Unit) (fun (s:Int) v=>[]) (fun s v=>[(5,.int .i64 (s))]) () [(1,_),(3,_)]
  | apply Dk.loop 4 (V:=Unit) (fun (s:Int) v=>[]) (fun s v=>[(6,.int .i64 (s))]) () [(1,_),(3,_),(5,_)]
  | apply Dk.quiet (id:=9) (by kernel_rfl)
  | apply Dk.quiet (id:=20) (by kernel_rfl)
  | apply Dk.quiet (id:=23) (by kernel_rfl)
  | apply abb
  | apply aaX
  | apply Ji
  | exact ()
theorem c94 {x0:aI} {aQ bF aO aM:Value}:Ct Tryz.prog 94 true (oB x0) [.agg #[.int .i64 (x0.aA),aQ,bF,aO,aM]] [rI aQ x0.aG,rI bF x0.To,rI aO x0.aJ,rJ aM x0.aB] (fun y (_:Unit)=>[.bool y]) (fun y _=>[]):=by
 refine ct (S:=Unit) (bw fun _ _=>rfl) Tryz.func94 rfl rfl ?_
 repeat' first
  | (apply Dk.fe; repeat' first | exact rfl | (refine @id.{0} _ ?_; constructor))
  | intro _
  | exact rfl
  | (refine @id.{0} _ ?_; constructor)
  | apply abx
  | apply abe
  | exact ()
theorem aby {x0:aP} {bU bZ bD aY bV cA bE aZ cG cJ:Value}:Ct Tryz.prog 133 true (oC x0) [.agg #[.int .i64 (x0.aE.aA),bU,bZ,bD,aY,.int .i64 (x0.aH.aA),bV,cA,bE,aZ,cG,cJ]] [rI bU x0.aE.aG,rI bZ x0.aE.To,rI bD x0.aE.aJ,rJ aY x0.aE.aB,rI bV x0.aH.aG,rI cA x0.aH.To,rI bE x0.aH.aJ,rJ aZ x0.aH.aB,rI cG x0.aA,rI cJ x0.ae] (fun y (_:Unit)=>[.bool y]) (fun y _=>[]):=by
 refine ct (S:=Unit) (bw fun _ _=>rfl) Tryz.func133 rfl rfl ?_
 repeat' first
  | (apply Dk.fe; repeat' first | exact rfl | (refine @id.{0} _ ?_; constructor))
  | intro _
  | exact rfl
  | (refine Dk.sZ (t:=136) rfl ?_ ?_)
  | (refine @id.{0} _ ?_; constructor)
  | apply Dk.loop 0 (V:=Unit) (fun (s:Int) v=>[]) (fun s v=>[(5,.int .i64 (s))]) () [(1,_),(3,_),(4,_)]
  | apply Dk.loop 2 (V:=Unit) (fun (s:Int) v=>[]) (fun s v=>[(6,.int .i64 (s))]) () [(1,_),(3,_),(4,_)]
  | apply Dk.loop 4 (V:=Unit) (fun (s:Int) v=>[]) (fun s v=>[(7,.int .i64 (s))]) () [(1,_),(3,_),(4,_)]
  | apply Dk.loop 6 (V:=Unit) (fun (s:Int) v=>[]) (fun s v=>[(8,.int .i64 (s))]) () [(1,_),(3,_),(4,_),(7,_)]
  | apply Dk.quiet (id:=9) (by kernel_rfl)
  | apply Dk.quiet (id:=14) (by kernel_rfl)
  | apply Dk.quiet (id:=22) (by kernel_rfl)
  | apply Dk.any (id:=1) 7 [] [[],[],[],[],[],[],[4]] [[],[0],[],[2],[],[],[0,1,4,5]] (by kernel_rfl)
  | apply c94
  | apply Ji
  | exact ()
theorem W1 {x0:aI} {cW:Addr} {aQ bF aO aM:Value} {x1:aI} {lS:Addr} {cE cL bJ bC:Value}:Ct Tryz.prog 78 true (fI x0 x1) [.pointer (some (cW)),.pointer (some (lS))] [.bd lS [.int .i64 (x1.aA),cE,cL,bJ,bC],.bd cW [.int .i64 (x0.aA),aQ,bF,aO,aM],rI aQ x0.aG,rI bF x0.To,rI aO x0.aJ,rJ aM x0.aB,rI cE x1.aG,rI cL x1.To,rI bJ x1.aJ,rJ bC x1.aB] (fun y (_:Unit)=>[.bool y]) (fun y _=>[]):=by
 refine ct (S:=Unit) (bw fun _ _=>rfl) Tryz.func78 rfl rfl ?_
 repeat' first
  | (apply Dk.fe; repeat' first | exact rfl | (refine @id.{0} _ ?_; constructor))
  | intro _
  | exact rfl
  | (refine @id.{0} _ ?_; constructor)
  | apply Dk.loop 0 (V:=Unit) (fun (s:Int) v=>[]) (fun s v=>[(69,.int .i64 (s))]) () [(0,_),(1,_),(68,_)]
  | apply Dk.quiet (id:=1) (by kernel_rfl)
  | apply Dk.quiet (id:=6) (by kernel_rfl)
  | apply abh
  | exact ()
theorem abz {x0:aP} {cW:Addr} {bU bZ bD aY bV cA bE aZ cG cJ:Value} {x1:aP} {lS:Addr} {cU dA cP cM cV dB cQ cN dH dP:Value}:Ct Tryz.prog 219 true (mR x0 x1) [.pointer (some (cW)),.pointer (some (lS))] [.bd lS [.int .i64 (x1.aE.aA),cU,dA,cP,cM,.int .i64 (x1.aH.aA),cV,dB,cQ,cN,dH,dP],.bd cW [.int .i64 (x0.aE.aA),bU,bZ,bD,aY,.int .i64 (x0.aH.aA),bV,cA,bE,aZ,cG,cJ],rI bU x0.aE.aG,rI bZ x0.aE.To,rI bD x0.aE.aJ,rJ aY x0.aE.aB,rI bV x0.aH.aG,rI cA x0.aH.To,rI bE x0.aH.aJ,rJ aZ x0.aH.aB,rI cG x0.aA,rI cJ x0.ae,rI cU x1.aE.aG,rI dA x1.aE.To,rI cP x1.aE.aJ,rJ cM x1.aE.aB,rI cV x1.aH.aG,rI dB x1.aH.To,rI cQ x1.aH.aJ,rJ cN x1.aH.aB,rI dH x1.aA,rI dP x1.ae] (fun y (_:Unit)=>[.bool y]) (fun y _=>[]):=by
 refine ct (S:=Unit) (bw fun _ _=>rfl) Tryz.func219 rfl rfl ?_
 repeat' first
  | (apply Dk.fe; repeat' first | exact rfl | (refine @id.{0} _ ?_; constructor))
  | intro _
  | exact rfl
  | (refine @id.{0} _ ?_; constructor)
  | apply Dk.quiet (id:=1) (by kernel_rfl)
  | apply W1
  | exact ()
theorem abA {x0:aP} {cW:Addr} {bU bZ bD aY bV cA bE aZ cG cJ:Value} {x1:aP} {lS:Addr} {cU dA cP cM cV dB cQ cN dH dP:Value}:Ct Tryz.prog 291 true (iB x0 x1) [.pointer (some (cW)),.pointer (some (lS))] [.bd lS [.int .i64 (x1.aE.aA),cU,dA,cP,cM,.int .i64 (x1.aH.aA),cV,dB,cQ,cN,dH,dP],.bd cW [.int .i64 (x0.aE.aA),bU,bZ,bD,aY,.int .i64 (x0.aH.aA),bV,cA,bE,aZ,cG,cJ],rI bU x0.aE.aG,rI bZ x0.aE.To,rI bD x0.aE.aJ,rJ aY x0.aE.aB,rI bV x0.aH.aG,rI cA x0.aH.To,rI bE x0.aH.aJ,rJ aZ x0.aH.aB,rI cG x0.aA,rI cJ x0.ae,rI cU x1.aE.aG,rI dA x1.aE.To,rI cP x1.aE.aJ,rJ cM x1.aE.aB,rI cV x1.aH.aG,rI dB x1.aH.To,rI cQ x1.aH.aJ,rJ cN x1.aH.aB,rI dH x1.aA,rI dP x1.ae] (fun y (_:Unit)=>[.bool y]) (fun y _=>[]):=by
 refine ct (S:=Unit) (bw fun _ _=>rfl) Tryz.func291 rfl rfl ?_
 repeat' first
  | (apply Dk.fe; repeat' first | exact rfl | (refine @id.{0} _ ?_; constructor))
  | intro _
  | exact rfl
  | (refine @id.{0} _ ?_; constructor)
  | apply Dk.quiet (id:=1) (by kernel_rfl)
  | apply W1
  | exact ()
theorem Lk {x0:cD} {cW:Addr} {dT dZ dI dD dU eA dJ dE eH eM dV eB dK dF dW eC dL dG eI eN fM:Value}:Ct Tryz.prog 234 true (jT x0 (fun a0 a1 a2 a3=>iE a0 a1 a2 a3)) [.pointer (some (cW)),.func (.func 235) #[] #[]] [.bd cW [.int .i64 (x0.aE.aE.aA),dT,dZ,dI,dD,.int .i64 (x0.aE.aH.aA),dU,eA,dJ,dE,eH,eM,.int .i64 (x0.aH.aE.aA),dV,eB,dK,dF,.int .i64 (x0.aH.aH.aA),dW,eC,dL,dG,eI,eN,fM],rI dT x0.aE.aE.aG,rI dZ x0.aE.aE.To,rI dI x0.aE.aE.aJ,rJ dD x0.aE.aE.aB,rI dU x0.aE.aH.aG,rI eA x0.aE.aH.To,rI dJ x0.aE.aH.aJ,rJ dE x0.aE.aH.aB,rI eH x0.aE.aA,rI eM x0.aE.ae,rI dV x0.aH.aE.aG,rI eB x0.aH.aE.To,rI dK x0.aH.aE.aJ,rJ dF x0.aH.aE.aB,rI dW x0.aH.aH.aG,rI eC x0.aH.aH.To,rI dL x0.aH.aH.aJ,rJ dG x0.aH.aH.aB,rI eI x0.aH.aA,rI eN x0.aH.ae,rI fM x0.bc] (fun y (_:Unit)=>[.int .i64 y]) (fun y _=>[]):=by
 refine ct (S:=Unit) (bw fun _ _=>rfl) Tryz.func234 rfl rfl ?_
 repeat' first
  | (apply Dk.fe; repeat' first | exact rfl | (refine @id.{0} _ ?_; constructor))
  | intro _
  | exact rfl
  | (refine @id.{0} _ ?_; constructor)
  | apply Dk.loop 0 (V:=Unit) (fun (s:Int) v=>[]) (fun s v=>[(12,.int .i64 (s))]) () [(0,_),(1,_),(11,_)]
  | apply Dk.quiet (id:=4) (by kernel_rfl)
  | apply aa5
  | exact ()
end Go.Proofs.YtjdkifckhidlbaaGreat
