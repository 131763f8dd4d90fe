/- Walks by the calculus D. No condition beside those that each theorem names. -/
import Derived.Test.YtbhhmalgcnhniaaGreatDi
import Derived.Test.YtbhhmalgcnhniaaGreatMo
import Derived.Test.YtbhhmalgcnhniaaGreatDp
import Derived.Test.YtbhhmalgcnhniaaGreatDs
import Derived.Test.YtbhhmalgcnhniaaGreatWb
import Derived.Test.YtbhhmalgcnhniaaGreatWc
import Derived.Test.YtbhhmalgcnhniaaGreatWd
import Derived.Test.YtbhhmalgcnhniaaGreatWf
import Derived.Test.YtbhhmalgcnhniaaGreatWg
import Derived.Test.YtbhhmalgcnhniaaGreatWh
namespace Go.Proofs.YtbhhmalgcnhniaaGreat
open Go Go.Li Go.Dk
set_option linter.unusedVariables false
set_option maxHeartbeats 16000000
set_option maxRecDepth 100000
theorem KU {x0:aJ} {cB:Addr} {aS aV aQ aN aT aW aR aO aZ bB:Value}:Ct Tryz.prog 105 true (eK x0) [.pointer (some (cB))] [.bg cB [.int .i64 (x0.aD.aA),aS,aV,aQ,aN,.int .i64 (x0.aB.aA),aT,aW,aR,aO,aZ,bB],rI aS x0.aD.aF,rI aV x0.aD.To,rI aQ x0.aD.aH,rJ aN x0.aD.aC,rI aT x0.aB.aF,rI aW x0.aB.To,rI aR x0.aB.aH,rJ aO x0.aB.aC,rI aZ x0.aA,rI bB x0.ab] (fun y (_:Unit)=>[.bool y]) (fun y _=>[]):=by
 refine ct (S:=Unit) (bo fun _ _=>rfl) Tryz.func105 rfl rfl ?_
 repeat' first
  | (apply Dk.fe; repeat' first | exact rfl | (refine @id.{0} _ ?_; constructor))
  | intro _
  | exact rfl
  | (refine @id.{0} _ ?_; constructor)
  | apply Dk.N9 (id:=1) 7 [] [[],[0],[0,1],[],[3],[3,4],[0,1,2,3,4,5]] (by kernel_rfl)
  | apply adD
  | apply adE
  | exact ()
theorem c43 {x0:aJ} {aS aV aQ aN aT aW aR aO aZ bB:Value}:Ct Tryz.prog 43 true (gW x0) [.agg #[.int .i64 (x0.aD.aA),aS,aV,aQ,aN,.int .i64 (x0.aB.aA),aT,aW,aR,aO,aZ,bB]] [rI aS x0.aD.aF,rI aV x0.aD.To,rI aQ x0.aD.aH,rJ aN x0.aD.aC,rI aT x0.aB.aF,rI aW x0.aB.To,rI aR x0.aB.aH,rJ aO x0.aB.aC,rI aZ x0.aA,rI bB x0.ab] (fun y (v:Value×Value×Value×Value×Value×Value×Value×Value×Value×Value×Value)=>[.agg #[.int .i64 y.1.aD.aA,v.1,v.2.1,v.2.2.1,v.2.2.2.1,.int .i64 y.1.aB.aA,v.2.2.2.2.1,v.2.2.2.2.2.1,v.2.2.2.2.2.2.1,v.2.2.2.2.2.2.2.1,v.2.2.2.2.2.2.2.2.1,v.2.2.2.2.2.2.2.2.2.1],v.2.2.2.2.2.2.2.2.2.2,.int .i64 y.2.2]) (fun y v=>[.own (aI 2 (aK .i64)) v.1 y.1.aD.aF,.own (aI 2 (aK .i64)) v.2.1 y.1.aD.To,.own (aI 2 (aK .i64)) v.2.2.1 y.1.aD.aH,.own (aI 22 (aI 2 (aK .i64))) v.2.2.2.1 y.1.aD.aC,.own (aI 2 (aK .i64)) v.2.2.2.2.1 y.1.aB.aF,.own (aI 2 (aK .i64)) v.2.2.2.2.2.1 y.1.aB.To,.own (aI 2 (aK .i64)) v.2.2.2.2.2.2.1 y.1.aB.aH,.own (aI 22 (aI 2 (aK .i64))) v.2.2.2.2.2.2.2.1 y.1.aB.aC,.own (aI 2 (aK .i64)) v.2.2.2.2.2.2.2.2.1 y.1.aA,.own (aI 2 (aK .i64)) v.2.2.2.2.2.2.2.2.2.1 y.1.ab,.own (aI 2 (aK .i64)) v.2.2.2.2.2.2.2.2.2.2 y.2.1]):=by
 refine ct (S:=Unit) (bo fun _ _=>rfl) Tryz.func43 rfl rfl ?_
 repeat' first
  | (apply Dk.fe; repeat' first | exact rfl | (refine @id.{0} _ ?_; constructor))
  | intro _
  | exact rfl
  | (refine @id.{0} _ ?_; constructor)
  | apply KU
  | apply Wq
  | apply adr
  | exact ()
theorem Nl {x0:aJ} {cB:Addr} {aS aV aQ aN aT aW aR aO aZ bB:Value}:Ct Tryz.prog 120 true (rZ x0 (fun a0=>eD a0)) [.pointer (some (cB)),.func (.func 126) #[] #[]] [.bg cB [.int .i64 (x0.aD.aA),aS,aV,aQ,aN,.int .i64 (x0.aB.aA),aT,aW,aR,aO,aZ,bB],rI aS x0.aD.aF,rI aV x0.aD.To,rI aQ x0.aD.aH,rJ aN x0.aD.aC,rI aT x0.aB.aF,rI aW x0.aB.To,rI aR x0.aB.aH,rJ aO x0.aB.aC,rI aZ x0.aA,rI bB x0.ab] (fun y (_:Unit)=>[.bool y.1,.int .i64 y.2]) (fun y _=>[]):=by
 refine ct (S:=Unit) (bo fun _ _=>rfl) Tryz.func120 rfl rfl ?_
 repeat' first
  | (apply Dk.fe; repeat' first | exact rfl | (refine @id.{0} _ ?_; constructor))
  | intro _
  | exact rfl
  | (refine @id.{0} _ ?_; constructor)
  | apply KU
  | apply Wq
  | exact ()
theorem c45 {x0:aJ} {aS aV aQ aN aT aW aR aO aZ bB:Value}:Ct Tryz.prog 45 true (iX x0) [.agg #[.int .i64 (x0.aD.aA),aS,aV,aQ,aN,.int .i64 (x0.aB.aA),aT,aW,aR,aO,aZ,bB]] [rI aS x0.aD.aF,rI aV x0.aD.To,rI aQ x0.aD.aH,rJ aN x0.aD.aC,rI aT x0.aB.aF,rI aW x0.aB.To,rI aR x0.aB.aH,rJ aO x0.aB.aC,rI aZ x0.aA,rI bB x0.ab] (fun y (_:Unit)=>[.bool y.1,.int .i64 y.2]) (fun y _=>[]):=by
 refine ct (S:=Unit) (bo fun _ _=>rfl) Tryz.func45 rfl rfl ?_
 repeat' first
  | (apply Dk.fe; repeat' first | exact rfl | (refine @id.{0} _ ?_; constructor))
  | intro _
  | exact rfl
  | (refine @id.{0} _ ?_; constructor)
  | apply Nl
  | exact ()
theorem Wu {x0:(List aJ)} {cO:Value}:Ct Tryz.prog 62 true (iK x0) [cO] [.rd false (bG (wb GV)) cO x0] (fun y (_:Unit)=>[.bool y]) (fun y _=>[]):=by
 refine ct (S:=Unit) (bo fun _ _=>rfl) Tryz.func62 rfl rfl ?_
 repeat' first
  | (apply Dk.fe; repeat' first | exact rfl | (refine @id.{0} _ ?_; constructor))
  | intro _
  | exact rfl
  | (refine @id.{0} _ ?_; constructor)
  | apply Dk.loop 0 (V:=Unit) (fun (s:Int) v=>[]) (fun s v=>[(7,.int .i64 (s))]) () [(5,_),(6,_)]
  | apply KU
  | exact ()
theorem c23 {x0:aJ} {aS aV aQ aN aT aW aR aO aZ bB:Value} {x1:aJ} {cR cV cC bY cS cW cD bZ dA dL:Value}:Ct Tryz.prog 23 true (lB x0 x1) [.agg #[.int .i64 (x0.aD.aA),aS,aV,aQ,aN,.int .i64 (x0.aB.aA),aT,aW,aR,aO,aZ,bB],.agg #[.int .i64 (x1.aD.aA),cR,cV,cC,bY,.int .i64 (x1.aB.aA),cS,cW,cD,bZ,dA,dL]] [rI aS x0.aD.aF,rI aV x0.aD.To,rI aQ x0.aD.aH,rJ aN x0.aD.aC,rI aT x0.aB.aF,rI aW x0.aB.To,rI aR x0.aB.aH,rJ aO x0.aB.aC,rI aZ x0.aA,rI bB x0.ab,rI cR x1.aD.aF,rI cV x1.aD.To,rI cC x1.aD.aH,rJ bY x1.aD.aC,rI cS x1.aB.aF,rI cW x1.aB.To,rI cD x1.aB.aH,rJ bZ x1.aB.aC,rI dA x1.aA,rI dL x1.ab] (fun y (v:Value×Value×Value×Value×Value×Value×Value×Value×Value×Value)=>[.agg #[.int .i64 y.1.aD.aA,v.1,v.2.1,v.2.2.1,v.2.2.2.1,.int .i64 y.1.aB.aA,v.2.2.2.2.1,v.2.2.2.2.2.1,v.2.2.2.2.2.2.1,v.2.2.2.2.2.2.2.1,v.2.2.2.2.2.2.2.2.1,v.2.2.2.2.2.2.2.2.2],.int .i64 y.2]) (fun y v=>[.own (aI 2 (aK .i64)) v.1 y.1.aD.aF,.own (aI 2 (aK .i64)) v.2.1 y.1.aD.To,.own (aI 2 (aK .i64)) v.2.2.1 y.1.aD.aH,.own (aI 22 (aI 2 (aK .i64))) v.2.2.2.1 y.1.aD.aC,.own (aI 2 (aK .i64)) v.2.2.2.2.1 y.1.aB.aF,.own (aI 2 (aK .i64)) v.2.2.2.2.2.1 y.1.aB.To,.own (aI 2 (aK .i64)) v.2.2.2.2.2.2.1 y.1.aB.aH,.own (aI 22 (aI 2 (aK .i64))) v.2.2.2.2.2.2.2.1 y.1.aB.aC,.own (aI 2 (aK .i64)) v.2.2.2.2.2.2.2.2.1 y.1.aA,.own (aI 2 (aK .i64)) v.2.2.2.2.2.2.2.2.2 y.1.ab]):=by
 refine ct (S:=Unit) (bo fun _ _=>rfl) Tryz.func23 rfl rfl ?_
 repeat' first
  | (apply Dk.fe; repeat' first | exact rfl | (refine @id.{0} _ ?_; constructor))
  | intro _
  | exact rfl
  | (refine @id.{0} _ ?_; constructor)
  | apply Wu
  | apply Ws
  | apply YS
  | exact ()
theorem adH {x0:bE} {cB:Addr} {cE cJ bT bN cF cK bU bP cP cT cG cL bV bQ cH cM bW bR cQ cU cZ:Value}:Ct Tryz.prog 200 true (fW x0) [.pointer (some (cB))] [.bg cB [.int .i64 (x0.aD.aD.aA),cE,cJ,bT,bN,.int .i64 (x0.aD.aB.aA),cF,cK,bU,bP,cP,cT,.int .i64 (x0.aB.aD.aA),cG,cL,bV,bQ,.int .i64 (x0.aB.aB.aA),cH,cM,bW,bR,cQ,cU,cZ],rI cE x0.aD.aD.aF,rI cJ x0.aD.aD.To,rI bT x0.aD.aD.aH,rJ bN x0.aD.aD.aC,rI cF x0.aD.aB.aF,rI cK x0.aD.aB.To,rI bU x0.aD.aB.aH,rJ bP x0.aD.aB.aC,rI cP x0.aD.aA,rI cT x0.aD.ab,rI cG x0.aB.aD.aF,rI cL x0.aB.aD.To,rI bV x0.aB.aD.aH,rJ bQ x0.aB.aD.aC,rI cH x0.aB.aB.aF,rI cM x0.aB.aB.To,rI bW x0.aB.aB.aH,rJ bR x0.aB.aB.aC,rI cQ x0.aB.aA,rI cU x0.aB.ab,rI cZ x0.ba] (fun y (_:Unit)=>[.bool y]) (fun y _=>[]):=by
 refine ct (S:=Unit) (bo fun _ _=>rfl) Tryz.func200 rfl rfl ?_
 repeat' first
  | (apply Dk.fe; repeat' first | exact rfl | (refine @id.{0} _ ?_; constructor))
  | intro _
  | exact rfl
  | (refine @id.{0} _ ?_; constructor)
  | apply Dk.loop 0 (V:=Unit) (fun (s:Int) v=>[]) (fun s v=>[(54,.int .i64 (s))]) () [(3,_),(4,_),(52,_),(53,_)]
  | apply Dk.quiet (id:=1) (by kernel_rfl)
  | apply Dk.quiet (id:=7) (by kernel_rfl)
  | apply Dk.N9 (id:=2) 3 [] [[],[],[0,1]] (by kernel_rfl)
  | apply Wu
  | apply adx
  | apply Ng
  | apply PR
  | apply PT
  | exact ()
theorem PV {x0:bE} {cB:Addr} {cE cJ bT bN cF cK bU bP cP cT cG cL bV bQ cH cM bW bR cQ cU cZ:Value}:Ct Tryz.prog 130 true (dV x0) [.pointer (some (cB))] [.bg cB [.int .i64 (x0.aD.aD.aA),cE,cJ,bT,bN,.int .i64 (x0.aD.aB.aA),cF,cK,bU,bP,cP,cT,.int .i64 (x0.aB.aD.aA),cG,cL,bV,bQ,.int .i64 (x0.aB.aB.aA),cH,cM,bW,bR,cQ,cU,cZ],rI cE x0.aD.aD.aF,rI cJ x0.aD.aD.To,rI bT x0.aD.aD.aH,rJ bN x0.aD.aD.aC,rI cF x0.aD.aB.aF,rI cK x0.aD.aB.To,rI bU x0.aD.aB.aH,rJ bP x0.aD.aB.aC,rI cP x0.aD.aA,rI cT x0.aD.ab,rI cG x0.aB.aD.aF,rI cL x0.aB.aD.To,rI bV x0.aB.aD.aH,rJ bQ x0.aB.aD.aC,rI cH x0.aB.aB.aF,rI cM x0.aB.aB.To,rI bW x0.aB.aB.aH,rJ bR x0.aB.aB.aC,rI cQ x0.aB.aA,rI cU x0.aB.ab,rI cZ x0.ba] (fun y (_:Unit)=>[.bool y]) (fun y _=>[]):=by
 refine ct (S:=Unit) (bo fun _ _=>rfl) Tryz.func130 rfl rfl ?_
 repeat' first
  | (apply Dk.fe; repeat' first | exact rfl | (refine @id.{0} _ ?_; constructor))
  | intro _
  | exact rfl
  | (refine @id.{0} _ ?_; constructor)
  | apply adH
  | apply Nj
  | exact ()
theorem c47 {x0:bE} {cE cJ bT bN cF cK bU bP cP cT cG cL bV bQ cH cM bW bR cQ cU cZ:Value}:Ct Tryz.prog 47 true (gH x0) [.agg #[.int .i64 (x0.aD.aD.aA),cE,cJ,bT,bN,.int .i64 (x0.aD.aB.aA),cF,cK,bU,bP,cP,cT,.int .i64 (x0.aB.aD.aA),cG,cL,bV,bQ,.int .i64 (x0.aB.aB.aA),cH,cM,bW,bR,cQ,cU,cZ]] [rI cE x0.aD.aD.aF,rI cJ x0.aD.aD.To,rI bT x0.aD.aD.aH,rJ bN x0.aD.aD.aC,rI cF x0.aD.aB.aF,rI cK x0.aD.aB.To,rI bU x0.aD.aB.aH,rJ bP x0.aD.aB.aC,rI cP x0.aD.aA,rI cT x0.aD.ab,rI cG x0.aB.aD.aF,rI cL x0.aB.aD.To,rI bV x0.aB.aD.aH,rJ bQ x0.aB.aD.aC,rI cH x0.aB.aB.aF,rI cM x0.aB.aB.To,rI bW x0.aB.aB.aH,rJ bR x0.aB.aB.aC,rI cQ x0.aB.aA,rI cU x0.aB.ab,rI cZ x0.ba] (fun y (_:Unit)=>[.bool y.1,.int .i64 y.2]) (fun y _=>[]):=by
 refine ct (S:=Unit) (bo fun _ _=>rfl) Tryz.func47 rfl rfl ?_
 repeat' first
  | (apply Dk.fe; repeat' first | exact rfl | (refine @id.{0} _ ?_; constructor))
  | intro _
  | exact rfl
  | (refine @id.{0} _ ?_; constructor)
  | apply PV
  | apply ady
  | exact ()
theorem c48 {x0:bE} {cE cJ bT bN cF cK bU bP cP cT cG cL bV bQ cH cM bW bR cQ cU cZ:Value}:Ct Tryz.prog 48 true (jD x0) [.agg #[.int .i64 (x0.aD.aD.aA),cE,cJ,bT,bN,.int .i64 (x0.aD.aB.aA),cF,cK,bU,bP,cP,cT,.int .i64 (x0.aB.aD.aA),cG,cL,bV,bQ,.int .i64 (x0.aB.aB.aA),cH,cM,bW,bR,cQ,cU,cZ]] [rI cE x0.aD.aD.aF,rI cJ x0.aD.aD.To,rI bT x0.aD.aD.aH,rJ bN x0.aD.aD.aC,rI cF x0.aD.aB.aF,rI cK x0.aD.aB.To,rI bU x0.aD.aB.aH,rJ bP x0.aD.aB.aC,rI cP x0.aD.aA,rI cT x0.aD.ab,rI cG x0.aB.aD.aF,rI cL x0.aB.aD.To,rI bV x0.aB.aD.aH,rJ bQ x0.aB.aD.aC,rI cH x0.aB.aB.aF,rI cM x0.aB.aB.To,rI bW x0.aB.aB.aH,rJ bR x0.aB.aB.aC,rI cQ x0.aB.aA,rI cU x0.aB.ab,rI cZ x0.ba] (fun y (_:Unit)=>[.bool y]) (fun y _=>[]):=by
 refine ct (S:=Unit) (bo fun _ _=>rfl) Tryz.func48 rfl rfl ?_
 repeat' first
  | (apply Dk.fe; repeat' first | exact rfl | (refine @id.{0} _ ?_; constructor))
  | intro _
  | exact rfl
  | (refine @id.{0} _ ?_; constructor)
  | apply PV
  | exact ()
theorem c68 {x0:aJ} {cB:Addr} {aS aV aQ aN aT aW aR aO aZ bB:Value} {x1:aJ} {lO:Addr} {cR cV cC bY cS cW cD bZ dA dL:Value} {x2:(List Int)} {dU:Value} {x3:(List Int)} {gC:Value}:Ct Tryz.prog 68 true (pS x0 x1 x2 x3) [.pointer (some (cB)),.pointer (some (lO)),dU,gC] [.bg lO [.int .i64 (x1.aD.aA),cR,cV,cC,bY,.int .i64 (x1.aB.aA),cS,cW,cD,bZ,dA,dL],.bg cB [.int .i64 (x0.aD.aA),aS,aV,aQ,aN,.int .i64 (x0.aB.aA),aT,aW,aR,aO,aZ,bB],rI aS x0.aD.aF,rI aV x0.aD.To,rI aQ x0.aD.aH,rJ aN x0.aD.aC,rI aT x0.aB.aF,rI aW x0.aB.To,rI aR x0.aB.aH,rJ aO x0.aB.aC,rI aZ x0.aA,rI bB x0.ab,rI cR x1.aD.aF,rI cV x1.aD.To,rI cC x1.aD.aH,rJ bY x1.aD.aC,rI cS x1.aB.aF,rI cW x1.aB.To,rI cD x1.aB.aH,rJ bZ x1.aB.aC,rI dA x1.aA,rI dL x1.ab,rI dU x2,rI gC x3] (fun y (v:Value×Value×Value×Value×Value×Value×Value×Value×Value×Value×Value×Value×Value×Value×Value×Value×Value×Value×Value×Value×Value×Value)=>[.agg #[.int .i64 y.Left.aD.aA,v.1,v.2.1,v.2.2.1,v.2.2.2.1,.int .i64 y.Left.aB.aA,v.2.2.2.2.1,v.2.2.2.2.2.1,v.2.2.2.2.2.2.1,v.2.2.2.2.2.2.2.1,v.2.2.2.2.2.2.2.2.1,v.2.2.2.2.2.2.2.2.2.1,.int .i64 y.au.aD.aA,v.2.2.2.2.2.2.2.2.2.2.1,v.2.2.2.2.2.2.2.2.2.2.2.1,v.2.2.2.2.2.2.2.2.2.2.2.2.1,v.2.2.2.2.2.2.2.2.2.2.2.2.2.1,.int .i64 y.au.aB.aA,v.2.2.2.2.2.2.2.2.2.2.2.2.2.2.1,v.2.2.2.2.2.2.2.2.2.2.2.2.2.2.2.1,v.2.2.2.2.2.2.2.2.2.2.2.2.2.2.2.2.1,v.2.2.2.2.2.2.2.2.2.2.2.2.2.2.2.2.2.1,v.2.2.2.2.2.2.2.2.2.2.2.2.2.2.2.2.2.2.1,v.2.2.2.2.2.2.2.2.2.2.2.2.2.2.2.2.2.2.2.1,v.2.2.2.2.2.2.2.2.2.2.2.2.2.2.2.2.2.2.2.2.1,v.2.2.2.2.2.2.2.2.2.2.2.2.2.2.2.2.2.2.2.2.2]]) (fun y v=>[.own (aI 2 (aK .i64)) v.1 y.Left.aD.aF,.own (aI 2 (aK .i64)) v.2.1 y.Left.aD.To,.own (aI 2 (aK .i64)) v.2.2.1 y.Left.aD.aH,.own (aI 22 (aI 2 (aK .i64))) v.2.2.2.1 y.Left.aD.aC,.own (aI 2 (aK .i64)) v.2.2.2.2.1 y.Left.aB.aF,.own (aI 2 (aK .i64)) v.2.2.2.2.2.1 y.Left.aB.To,.own (aI 2 (aK .i64)) v.2.2.2.2.2.2.1 y.Left.aB.aH,.own (aI 22 (aI 2 (aK .i64))) v.2.2.2.2.2.2.2.1 y.Left.aB.aC,.own (aI 2 (aK .i64)) v.2.2.2.2.2.2.2.2.1 y.Left.aA,.own (aI 2 (aK .i64)) v.2.2.2.2.2.2.2.2.2.1 y.Left.ab,.own (aI 2 (aK .i64)) v.2.2.2.2.2.2.2.2.2.2.1 y.au.aD.aF,.own (aI 2 (aK .i64)) v.2.2.2.2.2.2.2.2.2.2.2.1 y.au.aD.To,.own (aI 2 (aK .i64)) v.2.2.2.2.2.2.2.2.2.2.2.2.1 y.au.aD.aH,.own (aI 22 (aI 2 (aK .i64))) v.2.2.2.2.2.2.2.2.2.2.2.2.2.1 y.au.aD.aC,.own (aI 2 (aK .i64)) v.2.2.2.2.2.2.2.2.2.2.2.2.2.2.1 y.au.aB.aF,.own (aI 2 (aK .i64)) v.2.2.2.2.2.2.2.2.2.2.2.2.2.2.2.1 y.au.aB.To,.own (aI 2 (aK .i64)) v.2.2.2.2.2.2.2.2.2.2.2.2.2.2.2.2.1 y.au.aB.aH,.own (aI 22 (aI 2 (aK .i64))) v.2.2.2.2.2.2.2.2.2.2.2.2.2.2.2.2.2.1 y.au.aB.aC,.own (aI 2 (aK .i64)) v.2.2.2.2.2.2.2.2.2.2.2.2.2.2.2.2.2.2.1 y.au.aA,.own (aI 2 (aK .i64)) v.2.2.2.2.2.2.2.2.2.2.2.2.2.2.2.2.2.2.2.1 y.au.ab,.own (aI 2 (aK .i64)) v.2.2.2.2.2.2.2.2.2.2.2.2.2.2.2.2.2.2.2.2.1 y.Unit,.own (aI 2 (aK .i64)) v.2.2.2.2.2.2.2.2.2.2.2.2.2.2.2.2.2.2.2.2.2 y.jm]):=by
 refine ct (S:=Unit) (bo fun _ _=>rfl) Tryz.func68 rfl rfl ?_
 repeat' first
  | (apply Dk.fe; repeat' first | exact rfl | (refine @id.{0} _ ?_; constructor))
  | intro _
  | exact rfl
  | (refine @id.{0} _ ?_; constructor)
  | apply ads
  | apply Q5
  | exact ()
theorem adI {x0:aJ} {cB:Addr} {aS aV aQ aN aT aW aR aO aZ bB:Value}:Ct Tryz.prog 132 true (gI x0) [.pointer (some (cB))] [.bg cB [.int .i64 (x0.aD.aA),aS,aV,aQ,aN,.int .i64 (x0.aB.aA),aT,aW,aR,aO,aZ,bB],rI aS x0.aD.aF,rI aV x0.aD.To,rI aQ x0.aD.aH,rJ aN x0.aD.aC,rI aT x0.aB.aF,rI aW x0.aB.To,rI aR x0.aB.aH,rJ aO x0.aB.aC,rI aZ x0.aA,rI bB x0.ab] (fun y (v:Value×Value×Value×Value×Value×Value×Value×Value×Value×Value×Value×Value×Value×Value×Value×Value×Value×Value×Value×Value×Value×Value)=>[.agg #[.int .i64 y.1.Left.aD.aA,v.1,v.2.1,v.2.2.1,v.2.2.2.1,.int .i64 y.1.Left.aB.aA,v.2.2.2.2.1,v.2.2.2.2.2.1,v.2.2.2.2.2.2.1,v.2.2.2.2.2.2.2.1,v.2.2.2.2.2.2.2.2.1,v.2.2.2.2.2.2.2.2.2.1,.int .i64 y.1.au.aD.aA,v.2.2.2.2.2.2.2.2.2.2.1,v.2.2.2.2.2.2.2.2.2.2.2.1,v.2.2.2.2.2.2.2.2.2.2.2.2.1,v.2.2.2.2.2.2.2.2.2.2.2.2.2.1,.int .i64 y.1.au.aB.aA,v.2.2.2.2.2.2.2.2.2.2.2.2.2.2.1,v.2.2.2.2.2.2.2.2.2.2.2.2.2.2.2.1,v.2.2.2.2.2.2.2.2.2.2.2.2.2.2.2.2.1,v.2.2.2.2.2.2.2.2.2.2.2.2.2.2.2.2.2.1,v.2.2.2.2.2.2.2.2.2.2.2.2.2.2.2.2.2.2.1,v.2.2.2.2.2.2.2.2.2.2.2.2.2.2.2.2.2.2.2.1,v.2.2.2.2.2.2.2.2.2.2.2.2.2.2.2.2.2.2.2.2.1,v.2.2.2.2.2.2.2.2.2.2.2.2.2.2.2.2.2.2.2.2.2],.bool y.2]) (fun y v=>[.own (aI 2 (aK .i64)) v.1 y.1.Left.aD.aF,.own (aI 2 (aK .i64)) v.2.1 y.1.Left.aD.To,.own (aI 2 (aK .i64)) v.2.2.1 y.1.Left.aD.aH,.own (aI 22 (aI 2 (aK .i64))) v.2.2.2.1 y.1.Left.aD.aC,.own (aI 2 (aK .i64)) v.2.2.2.2.1 y.1.Left.aB.aF,.own (aI 2 (aK .i64)) v.2.2.2.2.2.1 y.1.Left.aB.To,.own (aI 2 (aK .i64)) v.2.2.2.2.2.2.1 y.1.Left.aB.aH,.own (aI 22 (aI 2 (aK .i64))) v.2.2.2.2.2.2.2.1 y.1.Left.aB.aC,.own (aI 2 (aK .i64)) v.2.2.2.2.2.2.2.2.1 y.1.Left.aA,.own (aI 2 (aK .i64)) v.2.2.2.2.2.2.2.2.2.1 y.1.Left.ab,.own (aI 2 (aK .i64)) v.2.2.2.2.2.2.2.2.2.2.1 y.1.au.aD.aF,.own (aI 2 (aK .i64)) v.2.2.2.2.2.2.2.2.2.2.2.1 y.1.au.aD.To,.own (aI 2 (aK .i64)) v.2.2.2.2.2.2.2.2.2.2.2.2.1 y.1.au.aD.aH,.own (aI 22 (aI 2 (aK .i64))) v.2.2.2.2.2.2.2.2.2.2.2.2.2.1 y.1.au.aD.aC,.own (aI 2 (aK .i64)) v.2.2.2.2.2.2.2.2.2.2.2.2.2.2.1 y.1.au.aB.aF,.own (aI 2 (aK .i64)) v.2.2.2.2.2.2.2.2.2.2.2.2.2.2.2.1 y.1.au.aB.To,.own (aI 2 (aK .i64)) v.2.2.2.2.2.2.2.2.2.2.2.2.2.2.2.2.1 y.1.au.aB.aH,.own (aI 22 (aI 2 (aK .i64))) v.2.2.2.2.2.2.2.2.2.2.2.2.2.2.2.2.2.1 y.1.au.aB.aC,.own (aI 2 (aK .i64)) v.2.2.2.2.2.2.2.2.2.2.2.2.2.2.2.2.2.2.1 y.1.au.aA,.own (aI 2 (aK .i64)) v.2.2.2.2.2.2.2.2.2.2.2.2.2.2.2.2.2.2.2.1 y.1.au.ab,.own (aI 2 (aK .i64)) v.2.2.2.2.2.2.2.2.2.2.2.2.2.2.2.2.2.2.2.2.1 y.1.Unit,.own (aI 2 (aK .i64)) v.2.2.2.2.2.2.2.2.2.2.2.2.2.2.2.2.2.2.2.2.2 y.1.jm]):=by
 refine ct (S:=Unit) (bo fun _ _=>rfl) Tryz.func132 rfl rfl ?_
 repeat' first
  | (apply Dk.fe; repeat' first | exact rfl | (refine @id.{0} _ ?_; constructor))
  | intro _
  | exact rfl
  | (refine @id.{0} _ ?_; constructor)
  | apply Dk.loop 0 (V:=Value×Value) (fun (s:(List Int)×(List Int)×Int) v=>[.own (aI 2 (aK .i64)) v.1 s.1,.own (aI 2 (aK .i64)) v.2 s.2.1]) (fun s v=>[(6,v.1),(7,v.2),(8,.int .i64 (s.2.2))]) (_,_) [(0,_),(2,_),(4,_),(5,_)]
  | apply Dk.loop 2 (V:=Value) (fun (s:(List Int)×Int) v=>[.own (aI 2 (aK .i64)) v s.1]) (fun s v=>[(12,v),(60,.int .i64 (s.2))]) _ [(0,_),(2,_),(4,_),(5,_),(6,_),(7,_),(59,_)]
  | apply Dk.loop 4 (V:=Value) (fun (s:(List Int)×Int) v=>[.own (aI 2 (aK .i64)) v s.1]) (fun s v=>[(16,v),(108,.int .i64 (s.2))]) _ [(0,_),(2,_),(4,_),(5,_),(6,_),(7,_),(12,_),(106,_),(107,_)]
  | apply Dk.quiet (id:=1) (by kernel_rfl)
  | apply Dk.quiet (id:=15) (by kernel_rfl)
  | apply Dk.any (id:=16) 23 [] [] [[],[],[],[],[2,3],[2,3,4],[],[],[6,7],[6,7,8],[],[],[10,11],[10,11,12],[],[],[],[15,16],[15,16,17],[],[14,15,16,17,18,19],[1,2,3,4,5,6,7,8,9,10,11,12,13,14,15,16,17,18,19,20],[1,2,3,4,5,6,7,8,9,10,11,12,13,14,15,16,17,18,19,20,21]] (by kernel_rfl)
  | apply Dk.any (id:=22) 20 [] [] [[],[],[],[],[],[3,4],[3,4,5],[],[],[7,8],[7,8,9],[],[11],[11,12],[11,12,13],[],[11,12,13,14,15],[11,12,13,14,15,16],[1,2,3,4,5,6,7,8,9,10,11,12,13,14,15,16,17],[1,2,3,4,5,6,7,8,9,10,11,12,13,14,15,16,17,18]] (by kernel_rfl)
  | apply adz
  | apply zZ
  | apply acX
  | apply Ni
  | apply c68
  | exact ()
theorem c49 {x0:aJ} {aS aV aQ aN aT aW aR aO aZ bB:Value}:Ct Tryz.prog 49 true (kH x0) [.agg #[.int .i64 (x0.aD.aA),aS,aV,aQ,aN,.int .i64 (x0.aB.aA),aT,aW,aR,aO,aZ,bB]] [rI aS x0.aD.aF,rI aV x0.aD.To,rI aQ x0.aD.aH,rJ aN x0.aD.aC,rI aT x0.aB.aF,rI aW x0.aB.To,rI aR x0.aB.aH,rJ aO x0.aB.aC,rI aZ x0.aA,rI bB x0.ab] (fun y (v:Value×Value×Value×Value×Value×Value×Value×Value×Value×Value×Value×Value×Value×Value×Value×Value×Value×Value×Value×Value×Value×Value)=>[.agg #[.int .i64 y.1.Left.aD.aA,v.1,v.2.1,v.2.2.1,v.2.2.2.1,.int .i64 y.1.Left.aB.aA,v.2.2.2.2.1,v.2.2.2.2.2.1,v.2.2.2.2.2.2.1,v.2.2.2.2.2.2.2.1,v.2.2.2.2.2.2.2.2.1,v.2.2.2.2.2.2.2.2.2.1,.int .i64 y.1.au.aD.aA,v.2.2.2.2.2.2.2.2.2.2.1,v.2.2.2.2.2.2.2.2.2.2.2.1,v.2.2.2.2.2.2.2.2.2.2.2.2.1,v.2.2.2.2.2.2.2.2.2.2.2.2.2.1,.int .i64 y.1.au.aB.aA,v.2.2.2.2.2.2.2.2.2.2.2.2.2.2.1,v.2.2.2.2.2.2.2.2.2.2.2.2.2.2.2.1,v.2.2.2.2.2.2.2.2.2.2.2.2.2.2.2.2.1,v.2.2.2.2.2.2.2.2.2.2.2.2.2.2.2.2.2.1,v.2.2.2.2.2.2.2.2.2.2.2.2.2.2.2.2.2.2.1,v.2.2.2.2.2.2.2.2.2.2.2.2.2.2.2.2.2.2.2.1,v.2.2.2.2.2.2.2.2.2.2.2.2.2.2.2.2.2.2.2.2.1,v.2.2.2.2.2.2.2.2.2.2.2.2.2.2.2.2.2.2.2.2.2],.int .i64 y.2]) (fun y v=>[.own (aI 2 (aK .i64)) v.1 y.1.Left.aD.aF,.own (aI 2 (aK .i64)) v.2.1 y.1.Left.aD.To,.own (aI 2 (aK .i64)) v.2.2.1 y.1.Left.aD.aH,.own (aI 22 (aI 2 (aK .i64))) v.2.2.2.1 y.1.Left.aD.aC,.own (aI 2 (aK .i64)) v.2.2.2.2.1 y.1.Left.aB.aF,.own (aI 2 (aK .i64)) v.2.2.2.2.2.1 y.1.Left.aB.To,.own (aI 2 (aK .i64)) v.2.2.2.2.2.2.1 y.1.Left.aB.aH,.own (aI 22 (aI 2 (aK .i64))) v.2.2.2.2.2.2.2.1 y.1.Left.aB.aC,.own (aI 2 (aK .i64)) v.2.2.2.2.2.2.2.2.1 y.1.Left.aA,.own (aI 2 (aK .i64)) v.2.2.2.2.2.2.2.2.2.1 y.1.Left.ab,.own (aI 2 (aK .i64)) v.2.2.2.2.2.2.2.2.2.2.1 y.1.au.aD.aF,.own (aI 2 (aK .i64)) v.2.2.2.2.2.2.2.2.2.2.2.1 y.1.au.aD.To,.own (aI 2 (aK .i64)) v.2.2.2.2.2.2.2.2.2.2.2.2.1 y.1.au.aD.aH,.own (aI 22 (aI 2 (aK .i64))) v.2.2.2.2.2.2.2.2.2.2.2.2.2.1 y.1.au.aD.aC,.own (aI 2 (aK .i64)) v.2.2.2.2.2.2.2.2.2.2.2.2.2.2.1 y.1.au.aB.aF,.own (aI 2 (aK .i64)) v.2.2.2.2.2.2.2.2.2.2.2.2.2.2.2.1 y.1.au.aB.To,.own (aI 2 (aK .i64)) v.2.2.2.2.2.2.2.2.2.2.2.2.2.2.2.2.1 y.1.au.aB.aH,.own (aI 22 (aI 2 (aK .i64))) v.2.2.2.2.2.2.2.2.2.2.2.2.2.2.2.2.2.1 y.1.au.aB.aC,.own (aI 2 (aK .i64)) v.2.2.2.2.2.2.2.2.2.2.2.2.2.2.2.2.2.2.1 y.1.au.aA,.own (aI 2 (aK .i64)) v.2.2.2.2.2.2.2.2.2.2.2.2.2.2.2.2.2.2.2.1 y.1.au.ab,.own (aI 2 (aK .i64)) v.2.2.2.2.2.2.2.2.2.2.2.2.2.2.2.2.2.2.2.2.1 y.1.Unit,.own (aI 2 (aK .i64)) v.2.2.2.2.2.2.2.2.2.2.2.2.2.2.2.2.2.2.2.2.2 y.1.jm]):=by
 refine ct (S:=Unit) (bo fun _ _=>rfl) Tryz.func49 rfl rfl ?_
 repeat' first
  | (apply Dk.fe; repeat' first | exact rfl | (refine @id.{0} _ ?_; constructor))
  | intro _
  | exact rfl
  | (refine @id.{0} _ ?_; constructor)
  | apply KU
  | apply adI
  | exact ()
theorem adJ {x0:(List bE)} {cO:Value}:Ct Tryz.prog 149 true (kS x0) [cO] [.rd false (bG (wb Oj)) cO x0] (fun y (_:Unit)=>[.bool y]) (fun y _=>[]):=by
 refine ct (S:=Unit) (bo fun _ _=>rfl) Tryz.func149 rfl rfl ?_
 repeat' first
  | (apply Dk.fe; repeat' first | exact rfl | (refine @id.{0} _ ?_; constructor))
  | intro _
  | exact rfl
  | (refine @id.{0} _ ?_; constructor)
  | apply Dk.loop 0 (V:=Unit) (fun (s:Int) v=>[]) (fun s v=>[(7,.int .i64 (s))]) () [(5,_),(6,_)]
  | apply PV
  | exact ()
theorem c69 {x0:bX} {cB:Addr} {eB eL dN dD eC eM dP dE fC fP dX eI dJ dB dY eJ dK dC eY fD lR jM:Value}:Ct Tryz.prog 69 true (jJ x0) [.pointer (some (cB))] [.bg cB [.int .i64 (x0.Left.aD.aA),eB,eL,dN,dD,.int .i64 (x0.Left.aB.aA),eC,eM,dP,dE,fC,fP,.int .i64 (x0.au.aD.aA),dX,eI,dJ,dB,.int .i64 (x0.au.aB.aA),dY,eJ,dK,dC,eY,fD,lR,jM],rI eB x0.Left.aD.aF,rI eL x0.Left.aD.To,rI dN x0.Left.aD.aH,rJ dD x0.Left.aD.aC,rI eC x0.Left.aB.aF,rI eM x0.Left.aB.To,rI dP x0.Left.aB.aH,rJ dE x0.Left.aB.aC,rI fC x0.Left.aA,rI fP x0.Left.ab,rI dX x0.au.aD.aF,rI eI x0.au.aD.To,rI dJ x0.au.aD.aH,rJ dB x0.au.aD.aC,rI dY x0.au.aB.aF,rI eJ x0.au.aB.To,rI dK x0.au.aB.aH,rJ dC x0.au.aB.aC,rI eY x0.au.aA,rI fD x0.au.ab,rI lR x0.Unit,rI jM x0.jm] (fun y (_:Unit)=>[.bool y]) (fun y _=>[]):=by
 refine ct (S:=Unit) (bo fun _ _=>rfl) Tryz.func69 rfl rfl ?_
 repeat' first
  | (apply Dk.fe; repeat' first | exact rfl | (refine @id.{0} _ ?_; constructor))
  | intro _
  | exact rfl
  | apply Dk.AD.val (d:=47)
  | apply Dk.AD.val (d:=54)
  | (refine @id.{0} _ ?_; constructor)
  | apply Dk.loop 0 (V:=Unit) (fun (s:Int) v=>[]) (fun s v=>[(64,.int .i64 (s))]) () [(0,_),(3,_),(4,_),(62,_),(63,_)]
  | apply Dk.loop 2 (V:=Unit) (fun (s:Int) v=>[]) (fun s v=>[(107,.int .i64 (s))]) () [(0,_),(3,_),(105,_),(106,_)]
  | apply Dk.quiet (id:=1) (by kernel_rfl)
  | apply Dk.quiet (id:=11) (by kernel_rfl)
  | apply Dk.quiet (id:=17) (by kernel_rfl)
  | apply Dk.any (id:=2) 16 [] [] [[],[0],[0,1],[],[3],[3,4],[0,1,2,3,4,5],[],[7],[7,8],[],[10],[10,11],[0,1,2,3,4,5,6,7,8,9,10,11,12],[],[]] (by kernel_rfl)
  | apply Dk.any (id:=4) 8 [] [] [[],[],[],[2],[2,3],[2,3,4],[0,1,2,3,4,5],[]] (by kernel_rfl)
  | apply Dk.any (id:=5) 8 [] [] [[],[],[],[2],[2,3],[2,3,4],[0,1,2,3,4,5],[]] (by kernel_rfl)
  | apply YS
  | apply YT
  | apply adJ
  | apply zZ
  | exact ()
theorem adK {x0:bX} {cB:Addr} {eB eL dN dD eC eM dP dE fC fP dX eI dJ dB dY eJ dK dC eY fD lR jM:Value}:Ct Tryz.prog 133 true (fS x0) [.pointer (some (cB))] [.bg cB [.int .i64 (x0.Left.aD.aA),eB,eL,dN,dD,.int .i64 (x0.Left.aB.aA),eC,eM,dP,dE,fC,fP,.int .i64 (x0.au.aD.aA),dX,eI,dJ,dB,.int .i64 (x0.au.aB.aA),dY,eJ,dK,dC,eY,fD,lR,jM],rI eB x0.Left.aD.aF,rI eL x0.Left.aD.To,rI dN x0.Left.aD.aH,rJ dD x0.Left.aD.aC,rI eC x0.Left.aB.aF,rI eM x0.Left.aB.To,rI dP x0.Left.aB.aH,rJ dE x0.Left.aB.aC,rI fC x0.Left.aA,rI fP x0.Left.ab,rI dX x0.au.aD.aF,rI eI x0.au.aD.To,rI dJ x0.au.aD.aH,rJ dB x0.au.aD.aC,rI dY x0.au.aB.aF,rI eJ x0.au.aB.To,rI dK x0.au.aB.aH,rJ dC x0.au.aB.aC,rI eY x0.au.aA,rI fD x0.au.ab,rI lR x0.Unit,rI jM x0.jm] (fun y (_:Unit)=>[.bool y]) (fun y _=>[]):=by
 refine ct (S:=Unit) (bo fun _ _=>rfl) Tryz.func133 rfl rfl ?_
 repeat' first
  | (apply Dk.fe; repeat' first | exact rfl | (refine @id.{0} _ ?_; constructor))
  | intro _
  | exact rfl
  | (refine @id.{0} _ ?_; constructor)
  | apply Dk.N9 (id:=1) 7 [] [[],[0],[0,1],[],[3],[3,4],[0,1,2,3,4,5]] (by kernel_rfl)
  | apply Wu
  | apply c63
  | apply c69
  | exact ()
end Go.Proofs.YtbhhmalgcnhniaaGreat
