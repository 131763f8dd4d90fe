/- Walks by the calculus D. No condition beside those that each theorem names. -/
import Derived.Test.YtbhhmalgcnhniaaGreatDi
import Derived.Test.YtbhhmalgcnhniaaGreatMo
import Derived.Test.YtbhhmalgcnhniaaGreatDp
import Derived.Test.YtbhhmalgcnhniaaGreatDs
import Derived.Test.YtbhhmalgcnhniaaGreatWa
import Derived.Test.YtbhhmalgcnhniaaGreatWb
import Derived.Test.YtbhhmalgcnhniaaGreatWc
import Derived.Test.YtbhhmalgcnhniaaGreatWd
namespace Go.Proofs.YtbhhmalgcnhniaaGreat
open Go Go.Li Go.Dk
set_option linter.unusedVariables false
set_option maxHeartbeats 16000000
set_option maxRecDepth 100000
theorem adu {x0:(List (List Int))} {cO:Value}:Ct Tryz.prog 210 true (jQ x0) [cO] [rJ cO x0] (fun y (v:Value×Value×Value×Value)=>[.agg #[.int .i64 y.aA,v.1,v.2.1,v.2.2.1,v.2.2.2]]) (fun y v=>[.own (aI 2 (aK .i64)) v.1 y.aF,.own (aI 2 (aK .i64)) v.2.1 y.To,.own (aI 2 (aK .i64)) v.2.2.1 y.aH,.own (aI 22 (aI 2 (aK .i64))) v.2.2.2 y.aC]):=by
 refine ct (S:=Unit) (bo fun _ _=>rfl) Tryz.func210 rfl rfl ?_
 repeat' first
  | (apply Dk.fe; repeat' first | exact rfl | (refine @id.{0} _ ?_; constructor))
  | intro _
  | exact rfl
  | (refine @id.{0} _ ?_; constructor)
  | apply Dk.any (id:=2) 7 [] [] [[],[0],[],[2],[],[],[5]] (by kernel_rfl)
  | apply V5
  | exact ()
theorem adv {x0:aG} {aU bA aP aL:Value} {x1:Int} {x2:Int}:Ct Tryz.prog 231 true (oG x0 x1 x2) [.agg #[.int .i64 (x0.aA),aU,bA,aP,aL],.int .i64 (x1),.int .i64 (x2)] [rI aU x0.aF,rI bA x0.To,rI aP x0.aH,rJ aL x0.aC] (fun y (_:Unit)=>[.bool y]) (fun y _=>[]):=by
 refine ct (S:=Unit) (bo fun _ _=>rfl) Tryz.func231 rfl rfl ?_
 repeat' first
  | (apply Dk.fe; repeat' first | exact rfl | (refine @id.{0} _ ?_; constructor))
  | intro _
  | exact rfl
  | (refine @id.{0} _ ?_; constructor)
  | apply Dk.loop 0 (V:=Unit) (fun (s:Int) v=>[]) (fun s v=>[(8,.int .i64 (s))]) () [(3,_),(7,_)]
  | apply Dk.quiet (id:=5) (by kernel_rfl)
  | apply Bt
  | apply PN
  | exact ()
theorem adw {x0:aJ} {aS aV aQ aN aT aW aR aO aZ bB:Value}:Ct Tryz.prog 196 true (kN x0) [.agg #[.int .i64 (x0.aD.aA),aS,aV,aQ,aN,.int .i64 (x0.aB.aA),aT,aW,aR,aO,aZ,bB]] [rI aS x0.aD.aF,rI aV x0.aD.To,rI aQ x0.aD.aH,rJ aN x0.aD.aC,rI aT x0.aB.aF,rI aW x0.aB.To,rI aR x0.aB.aH,rJ aO x0.aB.aC,rI aZ x0.aA,rI bB x0.ab] (fun y (_:Unit)=>[.bool y]) (fun y _=>[]):=by
 refine ct (S:=Unit) (bo fun _ _=>rfl) Tryz.func196 rfl rfl ?_
 repeat' first
  | (apply Dk.fe; repeat' first | exact rfl | (refine @id.{0} _ ?_; constructor))
  | intro _
  | exact rfl
  | (refine @id.{0} _ ?_; constructor)
  | apply Dk.loop 0 (V:=Unit) (fun (s:Int) v=>[]) (fun s v=>[(3,.int .i64 (s))]) () [(1,_)]
  | apply Dk.loop 2 (V:=Unit) (fun (s:Bool×Int) v=>[]) (fun s v=>[(4,.bool (s.1)),(5,.int .i64 (s.2))]) () [(1,_),(3,_)]
  | apply Dk.quiet (id:=8) (by kernel_rfl)
  | apply adv
  | exact ()
theorem Wr {x0:aJ} {aS aV aQ aN aT aW aR aO aZ bB:Value}:Ct Tryz.prog 128 true (fX x0) [.agg #[.int .i64 (x0.aD.aA),aS,aV,aQ,aN,.int .i64 (x0.aB.aA),aT,aW,aR,aO,aZ,bB]] [rI aS x0.aD.aF,rI aV x0.aD.To,rI aQ x0.aD.aH,rJ aN x0.aD.aC,rI aT x0.aB.aF,rI aW x0.aB.To,rI aR x0.aB.aH,rJ aO x0.aB.aC,rI aZ x0.aA,rI bB x0.ab] (fun y (_:Unit)=>[.bool y]) (fun y _=>[]):=by
 refine ct (S:=Unit) (bo fun _ _=>rfl) Tryz.func128 rfl rfl ?_
 repeat' first
  | (apply Dk.fe; repeat' first | exact rfl | (refine @id.{0} _ ?_; constructor))
  | intro _
  | exact rfl
  | (refine @id.{0} _ ?_; constructor)
  | apply acQ
  | apply ac6
  | apply adw
  | exact ()
theorem c93 {x0:aG} {aU bA aP aL:Value} {x1:aG} {bI bS bD aY:Value}:Ct Tryz.prog 93 true (gS x0 x1) [.agg #[.int .i64 (x0.aA),aU,bA,aP,aL],.agg #[.int .i64 (x1.aA),bI,bS,bD,aY]] [rI aU x0.aF,rI bA x0.To,rI aP x0.aH,rJ aL x0.aC,rI bI x1.aF,rI bS x1.To,rI bD x1.aH,rJ aY x1.aC] (fun y (_:Unit)=>[.bool y]) (fun y _=>[]):=by
 refine ct (S:=Unit) (bo fun _ _=>rfl) Tryz.func93 rfl rfl ?_
 repeat' first
  | (apply Dk.fe; repeat' first | exact rfl | (refine @id.{0} _ ?_; constructor))
  | intro _
  | exact rfl
  | (refine @id.{0} _ ?_; constructor)
  | apply Q6
  | apply adg
  | exact ()
theorem c20 {x0:aJ} {aS aV aQ aN aT aW aR aO aZ bB:Value} {x1:aJ} {cR cV cC bY cS cW cD bZ dA dL:Value}:Ct Tryz.prog 20 true (kP x0 x1) [.agg #[.int .i64 (x0.aD.aA),aS,aV,aQ,aN,.int .i64 (x0.aB.aA),aT,aW,aR,aO,aZ,bB],.agg #[.int .i64 (x1.aD.aA),cR,cV,cC,bY,.int .i64 (x1.aB.aA),cS,cW,cD,bZ,dA,dL]] [rI aS x0.aD.aF,rI aV x0.aD.To,rI aQ x0.aD.aH,rJ aN x0.aD.aC,rI aT x0.aB.aF,rI aW x0.aB.To,rI aR x0.aB.aH,rJ aO x0.aB.aC,rI aZ x0.aA,rI bB x0.ab,rI cR x1.aD.aF,rI cV x1.aD.To,rI cC x1.aD.aH,rJ bY x1.aD.aC,rI cS x1.aB.aF,rI cW x1.aB.To,rI cD x1.aB.aH,rJ bZ x1.aB.aC,rI dA x1.aA,rI dL x1.ab] (fun y (_:Unit)=>[.bool y]) (fun y _=>[]):=by
 refine ct (S:=Unit) (bo fun _ _=>rfl) Tryz.func20 rfl rfl ?_
 repeat' first
  | (apply Dk.fe; repeat' first | exact rfl | (refine @id.{0} _ ?_; constructor))
  | intro _
  | exact rfl
  | (refine @id.{0} _ ?_; constructor)
  | apply c93
  | apply Q6
  | exact ()
theorem Ws {x0:aG} {cB:Addr} {aU bA aP aL:Value} {x1:aG} {lO:Addr} {bI bS bD aY:Value}:Ct Tryz.prog 83 true (fB x0 x1) [.pointer (some (cB)),.pointer (some (lO))] [.bg lO [.int .i64 (x1.aA),bI,bS,bD,aY],.bg cB [.int .i64 (x0.aA),aU,bA,aP,aL],rI aU x0.aF,rI bA x0.To,rI aP x0.aH,rJ aL x0.aC,rI bI x1.aF,rI bS x1.To,rI bD x1.aH,rJ aY x1.aC] (fun y (_:Unit)=>[.bool y]) (fun y _=>[]):=by
 refine ct (S:=Unit) (bo fun _ _=>rfl) Tryz.func83 rfl rfl ?_
 repeat' first
  | (apply Dk.fe; repeat' first | exact rfl | (refine @id.{0} _ ?_; constructor))
  | intro _
  | exact rfl
  | (refine @id.{0} _ ?_; constructor)
  | apply Dk.loop 0 (V:=Unit) (fun (s:Int) v=>[]) (fun s v=>[(69,.int .i64 (s))]) () [(0,_),(1,_),(68,_)]
  | apply Dk.quiet (id:=1) (by kernel_rfl)
  | apply Dk.quiet (id:=6) (by kernel_rfl)
  | apply adi
  | exact ()
theorem adx {x0:aJ} {cB:Addr} {aS aV aQ aN aT aW aR aO aZ bB:Value} {x1:aJ} {lO:Addr} {cR cV cC bY cS cW cD bZ dA dL:Value}:Ct Tryz.prog 233 true (jC x0 x1) [.pointer (some (cB)),.pointer (some (lO))] [.bg lO [.int .i64 (x1.aD.aA),cR,cV,cC,bY,.int .i64 (x1.aB.aA),cS,cW,cD,bZ,dA,dL],.bg cB [.int .i64 (x0.aD.aA),aS,aV,aQ,aN,.int .i64 (x0.aB.aA),aT,aW,aR,aO,aZ,bB],rI aS x0.aD.aF,rI aV x0.aD.To,rI aQ x0.aD.aH,rJ aN x0.aD.aC,rI aT x0.aB.aF,rI aW x0.aB.To,rI aR x0.aB.aH,rJ aO x0.aB.aC,rI aZ x0.aA,rI bB x0.ab,rI cR x1.aD.aF,rI cV x1.aD.To,rI cC x1.aD.aH,rJ bY x1.aD.aC,rI cS x1.aB.aF,rI cW x1.aB.To,rI cD x1.aB.aH,rJ bZ x1.aB.aC,rI dA x1.aA,rI dL x1.ab] (fun y (_:Unit)=>[.bool y]) (fun y _=>[]):=by
 refine ct (S:=Unit) (bo fun _ _=>rfl) Tryz.func233 rfl rfl ?_
 repeat' first
  | (apply Dk.fe; repeat' first | exact rfl | (refine @id.{0} _ ?_; constructor))
  | intro _
  | exact rfl
  | (refine @id.{0} _ ?_; constructor)
  | apply Dk.quiet (id:=1) (by kernel_rfl)
  | apply Ws
  | exact ()
theorem ady {x0:bE} {cB:Addr} {cE cJ bT bN cF cK bU bP cP cT cG cL bV bQ cH cM bW bR cQ cU cZ:Value}:Ct Tryz.prog 131 true (gG x0) [.pointer (some (cB))] [.bg cB [.int .i64 (x0.aD.aD.aA),cE,cJ,bT,bN,.int .i64 (x0.aD.aB.aA),cF,cK,bU,bP,cP,cT,.int .i64 (x0.aB.aD.aA),cG,cL,bV,bQ,.int .i64 (x0.aB.aB.aA),cH,cM,bW,bR,cQ,cU,cZ],rI cE x0.aD.aD.aF,rI cJ x0.aD.aD.To,rI bT x0.aD.aD.aH,rJ bN x0.aD.aD.aC,rI cF x0.aD.aB.aF,rI cK x0.aD.aB.To,rI bU x0.aD.aB.aH,rJ bP x0.aD.aB.aC,rI cP x0.aD.aA,rI cT x0.aD.ab,rI cG x0.aB.aD.aF,rI cL x0.aB.aD.To,rI bV x0.aB.aD.aH,rJ bQ x0.aB.aD.aC,rI cH x0.aB.aB.aF,rI cM x0.aB.aB.To,rI bW x0.aB.aB.aH,rJ bR x0.aB.aB.aC,rI cQ x0.aB.aA,rI cU x0.aB.ab,rI cZ x0.ba] (fun y (_:Unit)=>[.bool y]) (fun y _=>[]):=by
 refine ct (S:=Unit) (bo fun _ _=>rfl) Tryz.func131 rfl rfl ?_
 repeat' first
  | (apply Dk.fe; repeat' first | exact rfl | (refine @id.{0} _ ?_; constructor))
  | intro _
  | exact rfl
  | (refine @id.{0} _ ?_; constructor)
  | apply Dk.loop 0 (V:=Unit) (fun (s:Int) v=>[]) (fun s v=>[(10,.int .i64 (s))]) () [(0,_),(8,_),(9,_)]
  | apply PO
  | exact ()
theorem adz {x0:aJ} {cB:Addr} {aS aV aQ aN aT aW aR aO aZ bB:Value} {x1:Int}:Ct Tryz.prog 203 true (eA x0 x1) [.pointer (some (cB)),.int .i64 (x1)] [.bg cB [.int .i64 (x0.aD.aA),aS,aV,aQ,aN,.int .i64 (x0.aB.aA),aT,aW,aR,aO,aZ,bB],rI aS x0.aD.aF,rI aV x0.aD.To,rI aQ x0.aD.aH,rJ aN x0.aD.aC,rI aT x0.aB.aF,rI aW x0.aB.To,rI aR x0.aB.aH,rJ aO x0.aB.aC,rI aZ x0.aA,rI bB x0.ab] (fun y (_:Unit)=>[.int .i64 y.1,.int .i64 y.2.1,.bool y.2.2]) (fun y _=>[]):=by
 refine ct (S:=Unit) (bo fun _ _=>rfl) Tryz.func203 rfl rfl ?_
 repeat' first
  | (apply Dk.fe; repeat' first | exact rfl | (refine @id.{0} _ ?_; constructor))
  | intro _
  | exact rfl
  | (refine @id.{0} _ ?_; constructor)
  | apply Dk.loop 0 (V:=Unit) (fun (s:Int) v=>[]) (fun s v=>[(16,.int .i64 (s))]) () [(0,_),(1,_),(14,_),(15,_)]
  | apply Dk.loop 2 (V:=Unit) (fun (s:Int) v=>[]) (fun s v=>[(28,.int .i64 (s))]) () [(0,_),(1,_),(7,_),(14,_),(15,_),(16,_),(26,_),(27,_)]
  | apply CM
  | apply acW
  | exact ()
theorem c63 {x0:aJ} {cB:Addr} {aS aV aQ aN aT aW aR aO aZ bB:Value} {x1:aJ} {lO:Addr} {cR cV cC bY cS cW cD bZ dA dL:Value}:Ct Tryz.prog 63 true (oJ x0 x1) [.pointer (some (cB)),.pointer (some (lO))] [.bg lO [.int .i64 (x1.aD.aA),cR,cV,cC,bY,.int .i64 (x1.aB.aA),cS,cW,cD,bZ,dA,dL],.bg cB [.int .i64 (x0.aD.aA),aS,aV,aQ,aN,.int .i64 (x0.aB.aA),aT,aW,aR,aO,aZ,bB],rI aS x0.aD.aF,rI aV x0.aD.To,rI aQ x0.aD.aH,rJ aN x0.aD.aC,rI aT x0.aB.aF,rI aW x0.aB.To,rI aR x0.aB.aH,rJ aO x0.aB.aC,rI aZ x0.aA,rI bB x0.ab,rI cR x1.aD.aF,rI cV x1.aD.To,rI cC x1.aD.aH,rJ bY x1.aD.aC,rI cS x1.aB.aF,rI cW x1.aB.To,rI cD x1.aB.aH,rJ bZ x1.aB.aC,rI dA x1.aA,rI dL x1.ab] (fun y (_:Unit)=>[.bool y]) (fun y _=>[]):=by
 refine ct (S:=Unit) (bo fun _ _=>rfl) Tryz.func63 rfl rfl ?_
 repeat' first
  | (apply Dk.fe; repeat' first | exact rfl | (refine @id.{0} _ ?_; constructor))
  | intro _
  | exact rfl
  | (refine @id.{0} _ ?_; constructor)
  | apply Dk.quiet (id:=1) (by kernel_rfl)
  | apply Ws
  | exact ()
end Go.Proofs.YtbhhmalgcnhniaaGreat
