/- Walks by the calculus D. No condition beside those that each theorem names. -/
import Derived.Test.YtcnehblmgfbfoaaGreatDp
import Derived.Test.YtcnehblmgfbfoaaGreatDi
import Derived.Test.YtcnehblmgfbfoaaGreatMo
import Derived.Test.YtcnehblmgfbfoaaGreatDs
import Derived.Test.YtcnehblmgfbfoaaGreatWa
import Derived.Test.YtcnehblmgfbfoaaGreatWc
import Derived.Test.YtcnehblmgfbfoaaGreatWd
import Derived.Test.YtcnehblmgfbfoaaGreatWe
import Derived.Test.YtcnehblmgfbfoaaGreatWg
import Derived.Test.YtcnehblmgfbfoaaGreatWh
namespace Go.Proofs.YtcnehblmgfbfoaaGreat
open Go Go.Li Go.Dk
set_option linter.unusedVariables false
set_option maxHeartbeats 16000000
set_option maxRecDepth 100000
theorem c8 {x0:bB} {aQ aU aO aL aR aV aP aN aZ bA bM bN:Value} {x1:Int}:Ct Tryz.prog 8 true (mM x0 x1) [.agg #[.int .i64 (x0.On.aB.aD),aQ,aU,aO,aL,.int .i64 (x0.On.aE.aD),aR,aV,aP,aN,aZ,bA,bM,bN],.int .i64 (x1)] [rI aQ x0.On.aB.aF,rI aU x0.On.aB.To,rI aO x0.On.aB.aG,rJ aL x0.On.aB.aC,rI aR x0.On.aE.aF,rI aV x0.On.aE.To,rI aP x0.On.aE.aG,rJ aN x0.On.aE.aC,rI aZ x0.On.aD,rI bA x0.On.ab,rI bM x0.Unit,rI bN x0.ba] (fun y (_:Unit)=>[.int .i64 y]) (fun y _=>[]):=by
 refine ct (S:=Unit) (bp fun _ _=>rfl) Tryz.func8 rfl rfl ?_
 repeat' first
  | (apply Dk.fe; repeat' first | exact rfl | (refine @id.{0} _ ?_; constructor))
  | intro _
  | exact rfl
  | (refine @id.{0} _ ?_; constructor)
  | apply c53
  | apply MK
  | exact ()
theorem vP {x0:bB} {aQ aU aO aL aR aV aP aN aZ bA bM bN:Value}:Ct Tryz.prog 10 true (iC x0) [.agg #[.int .i64 (x0.On.aB.aD),aQ,aU,aO,aL,.int .i64 (x0.On.aE.aD),aR,aV,aP,aN,aZ,bA,bM,bN]] [rI aQ x0.On.aB.aF,rI aU x0.On.aB.To,rI aO x0.On.aB.aG,rJ aL x0.On.aB.aC,rI aR x0.On.aE.aF,rI aV x0.On.aE.To,rI aP x0.On.aE.aG,rJ aN x0.On.aE.aC,rI aZ x0.On.aD,rI bA x0.On.ab,rI bM x0.Unit,rI bN x0.ba] (fun y (v:Value×Value×Value×Value×Value×Value×Value×Value×Value×Value×Value×Value)=>[.agg #[.int .i64 y.On.aB.aD,v.1,v.2.1,v.2.2.1,v.2.2.2.1,.int .i64 y.On.aE.aD,v.2.2.2.2.1,v.2.2.2.2.2.1,v.2.2.2.2.2.2.1,v.2.2.2.2.2.2.2.1,v.2.2.2.2.2.2.2.2.1,v.2.2.2.2.2.2.2.2.2.1,v.2.2.2.2.2.2.2.2.2.2.1,v.2.2.2.2.2.2.2.2.2.2.2]]) (fun y v=>[.own (aI 2 (aJ .i64)) v.1 y.On.aB.aF,.own (aI 2 (aJ .i64)) v.2.1 y.On.aB.To,.own (aI 2 (aJ .i64)) v.2.2.1 y.On.aB.aG,.own (aI 22 (aI 2 (aJ .i64))) v.2.2.2.1 y.On.aB.aC,.own (aI 2 (aJ .i64)) v.2.2.2.2.1 y.On.aE.aF,.own (aI 2 (aJ .i64)) v.2.2.2.2.2.1 y.On.aE.To,.own (aI 2 (aJ .i64)) v.2.2.2.2.2.2.1 y.On.aE.aG,.own (aI 22 (aI 2 (aJ .i64))) v.2.2.2.2.2.2.2.1 y.On.aE.aC,.own (aI 2 (aJ .i64)) v.2.2.2.2.2.2.2.2.1 y.On.aD,.own (aI 2 (aJ .i64)) v.2.2.2.2.2.2.2.2.2.1 y.On.ab,.own (aI 2 (aJ .i64)) v.2.2.2.2.2.2.2.2.2.2.1 y.Unit,.own (aI 2 (aJ .i64)) v.2.2.2.2.2.2.2.2.2.2.2 y.ba]):=by
 refine ct (S:=Unit) (bp fun _ _=>rfl) Tryz.func10 rfl rfl ?_
 repeat' first
  | (apply Dk.fe; repeat' first | exact rfl | (refine @id.{0} _ ?_; constructor))
  | intro _
  | exact rfl
  | (refine @id.{0} _ ?_; constructor)
  | apply c60
  | apply MN
  | exact ()
theorem N8 {xs:List bW} {mm:List (ByteArray×Int)} {kc c:aH} {p pc:Addr} {k0 k6 k7 k8 gf gt gi gc df dt di dc:Value} {AP:aH} {FQ Jj:Addr} {yJ BL u5 sW:Value} {qv:bB} {D8:Addr} {qV rM pO n5 qW rN pP n7 sX uo yK yL:Value} {Sk:(List (List Int))} {Jk:Addr} {Jl:Value}:Ct Tryz.prog 64 true (kB mm xs kc c (fun a0=>gJ qv a0) (fun a0=>dR a0 AP qv Sk)) [.pointer (some p),.pointer (some pc),.func (.func 65) #[.pointer (some (D8))] #[],.func (.func 66) #[] #[.pointer (some (FQ)),.pointer (some (D8)),.pointer (some (Jk))]] [.aw p [k0,.int .i64 kc.aD,gf,gt,gi,gc,k6,k7,k8],.aw pc [.int .i64 c.aD,df,dt,di,dc],.rd false (bE (kn rq)) k6 xs,.rd false (o3 Value.string (Value.int .i64)) k8 mm,rI gf kc.aF,rI gt kc.To,rI gi kc.aG,rJ gc kc.aC,rI df c.aF,rI dt c.To,rI di c.aG,rJ dc c.aC,.aw Jk [Jl],.aw D8 [.int .i64 (qv.On.aB.aD),qV,rM,pO,n5,.int .i64 (qv.On.aE.aD),qW,rN,pP,n7,sX,uo,yK,yL],.aw FQ [.pointer (some (Jj))],.aw Jj [.int .i64 (AP.aD),yJ,BL,u5,sW],rI yJ AP.aF,rI BL AP.To,rI u5 AP.aG,rJ sW AP.aC,rI qV qv.On.aB.aF,rI rM qv.On.aB.To,rI pO qv.On.aB.aG,rJ n5 qv.On.aB.aC,rI qW qv.On.aE.aF,rI rN qv.On.aE.To,rI pP qv.On.aE.aG,rJ n7 qv.On.aE.aC,rI sX qv.On.aD,rI uo qv.On.ab,rI yK qv.Unit,rI yL qv.ba,rJ Jl Sk] (fun y (v:Value×Value×Value×Value×Value×Value×Value×Value×Value×Value)=>[.agg #[.int .i64 y.aB.aD,v.1,v.2.1,v.2.2.1,v.2.2.2.1,.int .i64 y.aE.aD,v.2.2.2.2.1,v.2.2.2.2.2.1,v.2.2.2.2.2.2.1,v.2.2.2.2.2.2.2.1,v.2.2.2.2.2.2.2.2.1,v.2.2.2.2.2.2.2.2.2]]) (fun y v=>[.own (aI 2 (aJ .i64)) v.1 y.aB.aF,.own (aI 2 (aJ .i64)) v.2.1 y.aB.To,.own (aI 2 (aJ .i64)) v.2.2.1 y.aB.aG,.own (aI 22 (aI 2 (aJ .i64))) v.2.2.2.1 y.aB.aC,.own (aI 2 (aJ .i64)) v.2.2.2.2.1 y.aE.aF,.own (aI 2 (aJ .i64)) v.2.2.2.2.2.1 y.aE.To,.own (aI 2 (aJ .i64)) v.2.2.2.2.2.2.1 y.aE.aG,.own (aI 22 (aI 2 (aJ .i64))) v.2.2.2.2.2.2.2.1 y.aE.aC,.own (aI 2 (aJ .i64)) v.2.2.2.2.2.2.2.2.1 y.aD,.own (aI 2 (aJ .i64)) v.2.2.2.2.2.2.2.2.2 y.ab]):=by
 refine ct (S:=Unit) (bp fun _ _=>rfl) Tryz.func64 rfl rfl ?_
 repeat' first
  | (apply Dk.fe; repeat' first | exact rfl | (refine @id.{0} _ ?_; constructor))
  | intro _
  | exact rfl
  | (refine @id.{0} _ ?_; constructor)
  | apply Dk.loop 0 (V:=Value) (fun (s:List Int×Int) v=>[.own (aI 2 (aJ .i64)) v s.1]) (fun s v=>[(9,v),(11,.int .i64 s.2)]) _ [(0,_),(1,_),(2,_),(3,_),(8,_),(10,_)]
  | apply Dk.loop 2 (V:=Value) (fun (s:List Int×Int) v=>[.own (aI 2 (aJ .i64)) v s.1]) (fun s v=>[(10,v),(36,.int .i64 s.2)]) _ [(0,_),(1,_),(3,_),(8,_),(9,_),(34,_),(35,_)]
  | apply Dk.any (id:=9) 25 [0] [] [[],[],[],[],[3],[3,4],[3,4,5],[],[3,4,5,6,7],[3,4,5,6,7,8],[2,3,4,5,6,7,8,9],[2,3,4,5,6,7,8,9,10],[],[],[13],[13,14],[13,14,15],[],[13,14,15,16,17],[13,14,15,16,17,18],[12,13,14,15,16,17,18,19],[12,13,14,15,16,17,18,19,20],[],[],[22,23]] (by kernel_rfl)
  | apply c65
  | apply c66
  | apply XP
  | apply Lr
  | apply Sg
  | exact ()
theorem c14 {x0:bB} {aQ aU aO aL aR aV aP aN aZ bA bM bN:Value} {x1:Int}:Ct Tryz.prog 14 true (lJ x0 x1) [.agg #[.int .i64 (x0.On.aB.aD),aQ,aU,aO,aL,.int .i64 (x0.On.aE.aD),aR,aV,aP,aN,aZ,bA,bM,bN],.int .i64 (x1)] [.own (aI 2 (aJ .i64)) aQ x0.On.aB.aF,.own (aI 2 (aJ .i64)) aU x0.On.aB.To,.own (aI 2 (aJ .i64)) aO x0.On.aB.aG,.own (aI 22 (aI 2 (aJ .i64))) aL x0.On.aB.aC,.own (aI 2 (aJ .i64)) aR x0.On.aE.aF,.own (aI 2 (aJ .i64)) aV x0.On.aE.To,.own (aI 2 (aJ .i64)) aP x0.On.aE.aG,.own (aI 22 (aI 2 (aJ .i64))) aN x0.On.aE.aC,.own (aI 2 (aJ .i64)) aZ x0.On.aD,.own (aI 2 (aJ .i64)) bA x0.On.ab,.own (aI 2 (aJ .i64)) bM x0.Unit,.own (aI 2 (aJ .i64)) bN x0.ba] (fun y (_:Unit)=>[.int .i64 y.1]) (fun y _=>[.own (aI 2 (aJ .i64)) aQ y.2.1,.own (aI 2 (aJ .i64)) aU y.2.2.1,.own (aI 2 (aJ .i64)) aO y.2.2.2.1,.own (aI 22 (aI 2 (aJ .i64))) aL y.2.2.2.2.1,.own (aI 2 (aJ .i64)) aR y.2.2.2.2.2.1,.own (aI 2 (aJ .i64)) aV y.2.2.2.2.2.2.1,.own (aI 2 (aJ .i64)) aP y.2.2.2.2.2.2.2.1,.own (aI 22 (aI 2 (aJ .i64))) aN y.2.2.2.2.2.2.2.2.1,.own (aI 2 (aJ .i64)) aZ y.2.2.2.2.2.2.2.2.2.1,.own (aI 2 (aJ .i64)) bA y.2.2.2.2.2.2.2.2.2.2.1,.own (aI 2 (aJ .i64)) bM y.2.2.2.2.2.2.2.2.2.2.2.1,.own (aI 2 (aJ .i64)) bN y.2.2.2.2.2.2.2.2.2.2.2.2]):=by
 refine ct (S:=Unit) (bp fun _ _=>rfl) Tryz.func14 rfl rfl ?_
 repeat' first
  | (apply Dk.fe; repeat' first | exact rfl | (refine @id.{0} _ ?_; constructor))
  | intro _
  | exact rfl
  | (refine @id.{0} _ ?_; constructor)
  | apply UD
  | apply MO
  | exact ()
end Go.Proofs.YtcnehblmgfbfoaaGreat
