/- Walks by the calculus D. No condition beside those that each theorem names. -/
import Derived.Test.YtcnehblmgfbfoaaGreatDp
import Derived.Test.YtcnehblmgfbfoaaGreatDi
import Derived.Test.YtcnehblmgfbfoaaGreatMo
import Derived.Test.YtcnehblmgfbfoaaGreatDs
import Derived.Test.YtcnehblmgfbfoaaGreatWb
import Derived.Test.YtcnehblmgfbfoaaGreatWc
import Derived.Test.YtcnehblmgfbfoaaGreatWf
import Derived.Test.YtcnehblmgfbfoaaGreatWg
import Derived.Test.YtcnehblmgfbfoaaGreatWh
namespace Go.Proofs.YtcnehblmgfbfoaaGreat
open Go Go.Li Go.Dk
set_option linter.unusedVariables false
set_option maxHeartbeats 16000000
set_option maxRecDepth 100000
theorem NX {x0:(List aD)} {cC:Value}:Ct Tryz.prog 171 true (fI x0) [cC] [.rd false (bE (u7 My)) cC x0] (fun y (_:Unit)=>[.bool y]) (fun y _=>[]):=by
 refine ct (S:=Unit) (cf fun _ _=>rfl) Tryz.func171 rfl rfl ?_
 repeat' first
  | (apply Dk.fe; repeat' first | exact rfl | (refine @id.{0} _ ?_; constructor))
  | intro _
  | exact rfl
  | (refine @id.{0} _ ?_; constructor)
  | apply Dk.loop 0 (V:=Unit) (fun (s:Int) v=>[]) (fun s v=>[(7,.int .i64 (s))]) () [(5,_),(6,_)]
  | apply Ue
  | exact ()
theorem Uj {x0:aN} {cG:Addr} {bF bK aY aU bG bL aZ aV bQ bS:Value}:Ct Tryz.prog 109 true (dK x0) [.pointer (some (cG))] [.aw cG [.int .i64 (x0.aG.aA),bF,bK,aY,aU,.int .i64 (x0.aH.aA),bG,bL,aZ,aV,bQ,bS],rI bF x0.aG.aB,rI bK x0.aG.To,rI aY x0.aG.aF,rJ aU x0.aG.aC,rI bG x0.aH.aB,rI bL x0.aH.To,rI aZ x0.aH.aF,rJ aV x0.aH.aC,rI bQ x0.aA,rI bS x0.ae] (fun y (_:Unit)=>[.bool y]) (fun y _=>[]):=by
 refine ct (S:=Unit) (cf fun _ _=>rfl) Tryz.func109 rfl rfl ?_
 repeat' first
  | (apply Dk.fe; repeat' first | exact rfl | (refine @id.{0} _ ?_; constructor))
  | intro _
  | exact rfl
  | (refine @id.{0} _ ?_; constructor)
  | apply Dk.Xq (id:=1) 7 [] [[],[0],[0,1],[],[3],[3,4],[0,1,2,3,4,5]] (by kernel_rfl)
  | apply NX
  | apply aau
  | exact ()
theorem Uk {x0:(List aN)} {cC:Value}:Ct Tryz.prog 84 true (eZ x0) [cC] [.rd false (bE (u7 C3)) cC x0] (fun y (_:Unit)=>[.bool y]) (fun y _=>[]):=by
 refine ct (S:=Unit) (cf fun _ _=>rfl) Tryz.func84 rfl rfl ?_
 repeat' first
  | (apply Dk.fe; repeat' first | exact rfl | (refine @id.{0} _ ?_; constructor))
  | intro _
  | exact rfl
  | (refine @id.{0} _ ?_; constructor)
  | apply Dk.loop 0 (V:=Unit) (fun (s:Int) v=>[]) (fun s v=>[(7,.int .i64 (s))]) () [(5,_),(6,_)]
  | apply Uj
  | exact ()
theorem Qi {x0:aD} {cG:Addr} {aO aR aK aJ:Value} {x1:aD} {iM:Addr} {aT bC aQ aP:Value} {x2:aD} {nF:Addr} {iN lM eJ dF:Value}:Ct Tryz.prog 96 true (fL x0 x1 x2 (fun a0 a1=>fA a0 a1)) [.pointer (some (cG)),.pointer (some (iM)),.pointer (some (nF)),.func (.func 97) #[] #[]] [.aw nF [.int .i64 (x2.aA),iN,lM,eJ,dF],.aw iM [.int .i64 (x1.aA),aT,bC,aQ,aP],.aw cG [.int .i64 (x0.aA),aO,aR,aK,aJ],rI aO x0.aB,rI aR x0.To,rI aK x0.aF,rJ aJ x0.aC,rI aT x1.aB,rI bC x1.To,rI aQ x1.aF,rJ aP x1.aC,rI iN x2.aB,rI lM x2.To,rI eJ x2.aF,rJ dF x2.aC] (fun y (v:Value×Value×Value×Value×Value×Value×Value×Value×Value×Value)=>[.agg #[.int .i64 y.1.aG.aA,v.1,v.2.1,v.2.2.1,v.2.2.2.1,.int .i64 y.1.aH.aA,v.2.2.2.2.1,v.2.2.2.2.2.1,v.2.2.2.2.2.2.1,v.2.2.2.2.2.2.2.1,v.2.2.2.2.2.2.2.2.1,v.2.2.2.2.2.2.2.2.2],.int .i64 y.2]) (fun y v=>[.own (aI 2 (aL .i64)) v.1 y.1.aG.aB,.own (aI 2 (aL .i64)) v.2.1 y.1.aG.To,.own (aI 2 (aL .i64)) v.2.2.1 y.1.aG.aF,.own (aI 22 (aI 2 (aL .i64))) v.2.2.2.1 y.1.aG.aC,.own (aI 2 (aL .i64)) v.2.2.2.2.1 y.1.aH.aB,.own (aI 2 (aL .i64)) v.2.2.2.2.2.1 y.1.aH.To,.own (aI 2 (aL .i64)) v.2.2.2.2.2.2.1 y.1.aH.aF,.own (aI 22 (aI 2 (aL .i64))) v.2.2.2.2.2.2.2.1 y.1.aH.aC,.own (aI 2 (aL .i64)) v.2.2.2.2.2.2.2.2.1 y.1.aA,.own (aI 2 (aL .i64)) v.2.2.2.2.2.2.2.2.2 y.1.ae]):=by
 refine ct (S:=Unit) (cf fun _ _=>rfl) Tryz.func96 rfl rfl ?_
 repeat' first
  | (apply Dk.fe; repeat' first | exact rfl | (refine @id.{0} _ ?_; constructor))
  | intro _
  | exact rfl
  | (refine @id.{0} _ ?_; constructor)
  | apply Dk.dg 0 (V:=Unit) (A:=Value) _ (fun a (s:Int×(List Int)) v=>[.own (aI 2 (aL .i64)) a s.2]) (fun a s v=>[(12,a),(38,.int .i64 (s.1))]) () [(1,_),(2,_),(3,_),(8,_),(10,_),(13,_),(37,_)]
  | apply Dk.dg 2 (V:=Unit) (A:=Value) _ (fun a (s:Int×(List Int)) v=>[.own (aI 2 (aL .i64)) a s.2]) (fun a s v=>[(13,a),(54,.int .i64 (s.1))]) () [(1,_),(2,_),(3,_),(8,_),(10,_),(12,_),(53,_)]
  | apply NX
  | apply Uh
  | apply T8
  | apply xE
  | apply Ia
  | apply c97
  | exact ()
theorem c27 {x0:aD} {aO aR aK aJ:Value} {x1:aD} {aT bC aQ aP:Value}:Ct Tryz.prog 27 true (fS x0 x1) [.agg #[.int .i64 (x0.aA),aO,aR,aK,aJ],.agg #[.int .i64 (x1.aA),aT,bC,aQ,aP]] [rI aO x0.aB,rI aR x0.To,rI aK x0.aF,rJ aJ x0.aC,rI aT x1.aB,rI bC x1.To,rI aQ x1.aF,rJ aP x1.aC] (fun y (v:Value×Value×Value×Value×Value×Value×Value×Value×Value×Value)=>[.agg #[.int .i64 y.1.aG.aA,v.1,v.2.1,v.2.2.1,v.2.2.2.1,.int .i64 y.1.aH.aA,v.2.2.2.2.1,v.2.2.2.2.2.1,v.2.2.2.2.2.2.1,v.2.2.2.2.2.2.2.1,v.2.2.2.2.2.2.2.2.1,v.2.2.2.2.2.2.2.2.2],.int .i64 y.2]) (fun y v=>[.own (aI 2 (aL .i64)) v.1 y.1.aG.aB,.own (aI 2 (aL .i64)) v.2.1 y.1.aG.To,.own (aI 2 (aL .i64)) v.2.2.1 y.1.aG.aF,.own (aI 22 (aI 2 (aL .i64))) v.2.2.2.1 y.1.aG.aC,.own (aI 2 (aL .i64)) v.2.2.2.2.1 y.1.aH.aB,.own (aI 2 (aL .i64)) v.2.2.2.2.2.1 y.1.aH.To,.own (aI 2 (aL .i64)) v.2.2.2.2.2.2.1 y.1.aH.aF,.own (aI 22 (aI 2 (aL .i64))) v.2.2.2.2.2.2.2.1 y.1.aH.aC,.own (aI 2 (aL .i64)) v.2.2.2.2.2.2.2.2.1 y.1.aA,.own (aI 2 (aL .i64)) v.2.2.2.2.2.2.2.2.2 y.1.ae]):=by
 refine ct (S:=Unit) (cf fun _ _=>rfl) Tryz.func27 rfl rfl ?_
 repeat' first
  | (apply Dk.fe; repeat' first | exact rfl | (refine @id.{0} _ ?_; constructor))
  | intro _
  | exact rfl
  | (refine @id.{0} _ ?_; constructor)
  | apply Qi
  | exact ()
theorem Qj {x0:aD} {cG:Addr} {aO aR aK aJ:Value} {x1:aD} {iM:Addr} {aT bC aQ aP:Value} {x2:aD} {nF:Addr} {iN lM eJ dF:Value}:Ct Tryz.prog 96 true (fL x0 x1 x2 (fun a0 a1=>eK a0 a1)) [.pointer (some (cG)),.pointer (some (iM)),.pointer (some (nF)),.func (.func 98) #[] #[]] [.aw nF [.int .i64 (x2.aA),iN,lM,eJ,dF],.aw iM [.int .i64 (x1.aA),aT,bC,aQ,aP],.aw cG [.int .i64 (x0.aA),aO,aR,aK,aJ],rI aO x0.aB,rI aR x0.To,rI aK x0.aF,rJ aJ x0.aC,rI aT x1.aB,rI bC x1.To,rI aQ x1.aF,rJ aP x1.aC,rI iN x2.aB,rI lM x2.To,rI eJ x2.aF,rJ dF x2.aC] (fun y (v:Value×Value×Value×Value×Value×Value×Value×Value×Value×Value)=>[.agg #[.int .i64 y.1.aG.aA,v.1,v.2.1,v.2.2.1,v.2.2.2.1,.int .i64 y.1.aH.aA,v.2.2.2.2.1,v.2.2.2.2.2.1,v.2.2.2.2.2.2.1,v.2.2.2.2.2.2.2.1,v.2.2.2.2.2.2.2.2.1,v.2.2.2.2.2.2.2.2.2],.int .i64 y.2]) (fun y v=>[.own (aI 2 (aL .i64)) v.1 y.1.aG.aB,.own (aI 2 (aL .i64)) v.2.1 y.1.aG.To,.own (aI 2 (aL .i64)) v.2.2.1 y.1.aG.aF,.own (aI 22 (aI 2 (aL .i64))) v.2.2.2.1 y.1.aG.aC,.own (aI 2 (aL .i64)) v.2.2.2.2.1 y.1.aH.aB,.own (aI 2 (aL .i64)) v.2.2.2.2.2.1 y.1.aH.To,.own (aI 2 (aL .i64)) v.2.2.2.2.2.2.1 y.1.aH.aF,.own (aI 22 (aI 2 (aL .i64))) v.2.2.2.2.2.2.2.1 y.1.aH.aC,.own (aI 2 (aL .i64)) v.2.2.2.2.2.2.2.2.1 y.1.aA,.own (aI 2 (aL .i64)) v.2.2.2.2.2.2.2.2.2 y.1.ae]):=by
 refine ct (S:=Unit) (cf fun _ _=>rfl) Tryz.func96 rfl rfl ?_
 repeat' first
  | (apply Dk.fe; repeat' first | exact rfl | (refine @id.{0} _ ?_; constructor))
  | intro _
  | exact rfl
  | (refine @id.{0} _ ?_; constructor)
  | apply Dk.dg 0 (V:=Unit) (A:=Value) _ (fun a (s:Int×(List Int)) v=>[.own (aI 2 (aL .i64)) a s.2]) (fun a s v=>[(12,a),(38,.int .i64 (s.1))]) () [(1,_),(2,_),(3,_),(8,_),(10,_),(13,_),(37,_)]
  | apply Dk.dg 2 (V:=Unit) (A:=Value) _ (fun a (s:Int×(List Int)) v=>[.own (aI 2 (aL .i64)) a s.2]) (fun a s v=>[(13,a),(54,.int .i64 (s.1))]) () [(1,_),(2,_),(3,_),(8,_),(10,_),(12,_),(53,_)]
  | apply NX
  | apply Uh
  | apply T8
  | apply xE
  | apply Ia
  | apply c98
  | exact ()
theorem c28 {x0:aD} {aO aR aK aJ:Value} {x1:aD} {aT bC aQ aP:Value}:Ct Tryz.prog 28 true (fM x0 x1) [.agg #[.int .i64 (x0.aA),aO,aR,aK,aJ],.agg #[.int .i64 (x1.aA),aT,bC,aQ,aP]] [rI aO x0.aB,rI aR x0.To,rI aK x0.aF,rJ aJ x0.aC,rI aT x1.aB,rI bC x1.To,rI aQ x1.aF,rJ aP x1.aC] (fun y (v:Value×Value×Value×Value×Value×Value×Value×Value×Value×Value)=>[.agg #[.int .i64 y.1.aG.aA,v.1,v.2.1,v.2.2.1,v.2.2.2.1,.int .i64 y.1.aH.aA,v.2.2.2.2.1,v.2.2.2.2.2.1,v.2.2.2.2.2.2.1,v.2.2.2.2.2.2.2.1,v.2.2.2.2.2.2.2.2.1,v.2.2.2.2.2.2.2.2.2],.int .i64 y.2]) (fun y v=>[.own (aI 2 (aL .i64)) v.1 y.1.aG.aB,.own (aI 2 (aL .i64)) v.2.1 y.1.aG.To,.own (aI 2 (aL .i64)) v.2.2.1 y.1.aG.aF,.own (aI 22 (aI 2 (aL .i64))) v.2.2.2.1 y.1.aG.aC,.own (aI 2 (aL .i64)) v.2.2.2.2.1 y.1.aH.aB,.own (aI 2 (aL .i64)) v.2.2.2.2.2.1 y.1.aH.To,.own (aI 2 (aL .i64)) v.2.2.2.2.2.2.1 y.1.aH.aF,.own (aI 22 (aI 2 (aL .i64))) v.2.2.2.2.2.2.2.1 y.1.aH.aC,.own (aI 2 (aL .i64)) v.2.2.2.2.2.2.2.2.1 y.1.aA,.own (aI 2 (aL .i64)) v.2.2.2.2.2.2.2.2.2 y.1.ae]):=by
 refine ct (S:=Unit) (cf fun _ _=>rfl) Tryz.func28 rfl rfl ?_
 repeat' first
  | (apply Dk.fe; repeat' first | exact rfl | (refine @id.{0} _ ?_; constructor))
  | intro _
  | exact rfl
  | (refine @id.{0} _ ?_; constructor)
  | apply Qj
  | exact ()
theorem c35 {x0:aN} {bF bK aY aU bG bL aZ aV bQ bS:Value}:Ct Tryz.prog 35 true (mI x0) [.agg #[.int .i64 (x0.aG.aA),bF,bK,aY,aU,.int .i64 (x0.aH.aA),bG,bL,aZ,aV,bQ,bS]] [rI bF x0.aG.aB,rI bK x0.aG.To,rI aY x0.aG.aF,rJ aU x0.aG.aC,rI bG x0.aH.aB,rI bL x0.aH.To,rI aZ x0.aH.aF,rJ aV x0.aH.aC,rI bQ x0.aA,rI bS x0.ae] (fun y (_:Unit)=>[.bool y]) (fun y _=>[]):=by
 refine ct (S:=Unit) (cf fun _ _=>rfl) Tryz.func35 rfl rfl ?_
 repeat' first
  | (apply Dk.fe; repeat' first | exact rfl | (refine @id.{0} _ ?_; constructor))
  | intro _
  | exact rfl
  | (refine @id.{0} _ ?_; constructor)
  | apply Uj
  | exact ()
end Go.Proofs.YtcnehblmgfbfoaaGreat
