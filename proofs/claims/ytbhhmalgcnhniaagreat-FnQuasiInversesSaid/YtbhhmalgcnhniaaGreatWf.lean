/- Walks by the calculus D. No condition beside those that each theorem names. -/
import Derived.Test.YtbhhmalgcnhniaaGreatDi
import Derived.Test.YtbhhmalgcnhniaaGreatMo
import Derived.Test.YtbhhmalgcnhniaaGreatDp
import Derived.Test.YtbhhmalgcnhniaaGreatDs
import Derived.Test.YtbhhmalgcnhniaaGreatWa
import Derived.Test.YtbhhmalgcnhniaaGreatWb
import Derived.Test.YtbhhmalgcnhniaaGreatWd
namespace Go.Proofs.YtbhhmalgcnhniaaGreat
open Go Go.Li Go.Dk
set_option linter.unusedVariables false
set_option maxHeartbeats 16000000
set_option maxRecDepth 100000
theorem c98 {x0:aG} {aU bA aP aL:Value} {x1:aG} {bI bS bD aY:Value}:Ct Tryz.prog 98 true (mD x0 x1) [.agg #[.int .i64 (x0.aA),aU,bA,aP,aL],.agg #[.int .i64 (x1.aA),bI,bS,bD,aY]] [rI aU x0.aF,rI bA x0.To,rI aP x0.aH,rJ aL x0.aC,rI bI x1.aF,rI bS x1.To,rI bD x1.aH,rJ aY x1.aC] (fun y (_:Unit)=>[.bool y]) (fun y _=>[]):=by
 refine ct (S:=Unit) (bo fun _ _=>rfl) Tryz.func98 rfl rfl ?_
 repeat' first
  | (apply Dk.fe; repeat' first | exact rfl | (refine @id.{0} _ ?_; constructor))
  | intro _
  | exact rfl
  | (apply Dk.LS (t:=4); exact rfl)
  | (refine @id.{0} _ ?_; constructor)
  | apply acK
  | exact ()
theorem Wp {x0:aG} {cB:Addr} {aU bA aP aL:Value} {x1:Int} {x2:Int}:Ct Tryz.prog 192 true (fO x0 x1 x2) [.pointer (some (cB)),.int .i64 (x1),.int .i64 (x2)] [.bg cB [.int .i64 (x0.aA),aU,bA,aP,aL],rI aU x0.aF,rI bA x0.To,rI aP x0.aH,rJ aL x0.aC] (fun y (_:Unit)=>[.int .i64 y]) (fun y _=>[]):=by
 refine ct (S:=Unit) (bo fun _ _=>rfl) Tryz.func192 rfl rfl ?_
 repeat' first
  | (apply Dk.fe; repeat' first | exact rfl | (refine @id.{0} _ ?_; constructor))
  | intro _
  | exact rfl
  | (refine @id.{0} _ ?_; constructor)
  | apply Dk.loop 0 (V:=Unit) (fun (s:Int) v=>[]) (fun s v=>[(14,.int .i64 (s))]) () [(0,_),(12,_),(13,_)]
  | apply CM
  | apply PO
  | exact ()
theorem adp {x0:aJ} {p:Addr} {YK YL YM YN YO YP YQ YR fo fa:Value}:Ct Tryz.prog 191 true (eE x0) [.pointer (some p)] [.bg p [.int .i64 x0.aD.aA,YK,YL,YM,YN,.int .i64 x0.aB.aA,YO,YP,YQ,YR,fo,fa],rI YK x0.aD.aF,rI YL x0.aD.To,rI YM x0.aD.aH,rJ YN x0.aD.aC,rI YO x0.aB.aF,rI YP x0.aB.To,rI YQ x0.aB.aH,rJ YR x0.aB.aC,rI fo x0.aA,rI fa x0.ab] (fun y (_:Unit)=>[.bool y]) (fun _ _=>[]):=by
 refine ct (S:=Unit) (bo fun _ _=>rfl) Tryz.func191 rfl rfl ?_
 repeat' first
  | (apply Dk.fe; repeat' first | exact rfl | (refine @id.{0} _ ?_; constructor))
  | intro _
  | exact rfl
  | (refine @id.{0} _ ?_; constructor)
  | apply Dk.scp
  | apply Dk.lab
  | apply Dk.loop 0 (V:=Unit) (fun (s:Int) _=>[]) (fun s _=>[(3,.int .i64 s)]) () [(0,_)]
  | apply Dk.Xf 2 1 (V:=Unit) (fun (s:Int) _=>[]) (fun s _=>[(20,.int .i64 s)]) () [(0,_),(3,_),(18,_),(19,_)] rfl
  | apply Dk.nlx
  | apply Dk.xlx
  | (apply Dk.xlo <;> first | exact rfl | skip)
  | apply Wp
  | exact ()
theorem Wq {x0:aJ} {cB:Addr} {aS aV aQ aN aT aW aR aO aZ bB:Value}:Ct Tryz.prog 126 true (eD x0) [.pointer (some (cB))] [.bg cB [.int .i64 (x0.aD.aA),aS,aV,aQ,aN,.int .i64 (x0.aB.aA),aT,aW,aR,aO,aZ,bB],rI aS x0.aD.aF,rI aV x0.aD.To,rI aQ x0.aD.aH,rJ aN x0.aD.aC,rI aT x0.aB.aF,rI aW x0.aB.To,rI aR x0.aB.aH,rJ aO x0.aB.aC,rI aZ x0.aA,rI bB x0.ab] (fun y (_:Unit)=>[.bool y]) (fun y _=>[]):=by
 refine ct (S:=Unit) (bo fun _ _=>rfl) Tryz.func126 rfl rfl ?_
 repeat' first
  | (apply Dk.fe; repeat' first | exact rfl | (refine @id.{0} _ ?_; constructor))
  | intro _
  | exact rfl
  | (refine @id.{0} _ ?_; constructor)
  | apply acU
  | apply ada
  | apply adp
  | exact ()
theorem adq {x0:aG} {cB:Addr} {aU bA aP aL:Value}:Ct Tryz.prog 158 true (iU x0) [.pointer (some (cB))] [.bg cB [.int .i64 (x0.aA),aU,bA,aP,aL],rI aU x0.aF,rI bA x0.To,rI aP x0.aH,rJ aL x0.aC] (fun y (v:Value×Value×Value×Value)=>[.agg #[.int .i64 y.aA,v.1,v.2.1,v.2.2.1,v.2.2.2]]) (fun y v=>[.own (aI 2 (aK .i64)) v.1 y.aF,.own (aI 2 (aK .i64)) v.2.1 y.To,.own (aI 2 (aK .i64)) v.2.2.1 y.aH,.own (aI 22 (aI 2 (aK .i64))) v.2.2.2 y.aC]):=by
 refine ct (S:=Unit) (bo fun _ _=>rfl) Tryz.func158 rfl rfl ?_
 repeat' first
  | (apply Dk.fe; repeat' first | exact rfl | (refine @id.{0} _ ?_; constructor))
  | intro _
  | exact rfl
  | (refine @id.{0} _ ?_; constructor)
  | apply Dk.any (id:=1) 24 [] [] [[],[0],[0,1],[0,1,2],[],[4],[4,5],[4,5,6],[4,5,6,7],[],[9],[9,10],[9,10,11],[4,5,6,7,8,9,10,11,12],[],[14],[14,15],[14,15,16],[4,5,6,7,8,9,10,11,12,13,14,15,16,17],[],[19],[19,20],[19,20,21],[4,5,6,7,8,9,10,11,12,13,14,15,16,17,18,19,20,21,22]] (by kernel_rfl)
  | apply Q5
  | apply adb
  | exact ()
theorem Ni {x0:aG} {cB:Addr} {aU bA aP aL:Value} {x1:aG} {lO:Addr} {bI bS bD aY:Value} {x2:(List Int)} {dU:Value} {x3:(List Int)} {gC:Value}:Ct Tryz.prog 87 true (gB x0 x1 x2 x3) [.pointer (some (cB)),.pointer (some (lO)),dU,gC] [.bg lO [.int .i64 (x1.aA),bI,bS,bD,aY],.bg cB [.int .i64 (x0.aA),aU,bA,aP,aL],rI aU x0.aF,rI bA x0.To,rI aP x0.aH,rJ aL x0.aC,rI bI x1.aF,rI bS x1.To,rI bD x1.aH,rJ aY x1.aC,rI dU x2,rI gC x3] (fun y (v:Value×Value×Value×Value×Value×Value×Value×Value×Value×Value)=>[.agg #[.int .i64 y.aD.aA,v.1,v.2.1,v.2.2.1,v.2.2.2.1,.int .i64 y.aB.aA,v.2.2.2.2.1,v.2.2.2.2.2.1,v.2.2.2.2.2.2.1,v.2.2.2.2.2.2.2.1,v.2.2.2.2.2.2.2.2.1,v.2.2.2.2.2.2.2.2.2]]) (fun y v=>[.own (aI 2 (aK .i64)) v.1 y.aD.aF,.own (aI 2 (aK .i64)) v.2.1 y.aD.To,.own (aI 2 (aK .i64)) v.2.2.1 y.aD.aH,.own (aI 22 (aI 2 (aK .i64))) v.2.2.2.1 y.aD.aC,.own (aI 2 (aK .i64)) v.2.2.2.2.1 y.aB.aF,.own (aI 2 (aK .i64)) v.2.2.2.2.2.1 y.aB.To,.own (aI 2 (aK .i64)) v.2.2.2.2.2.2.1 y.aB.aH,.own (aI 22 (aI 2 (aK .i64))) v.2.2.2.2.2.2.2.1 y.aB.aC,.own (aI 2 (aK .i64)) v.2.2.2.2.2.2.2.2.1 y.aA,.own (aI 2 (aK .i64)) v.2.2.2.2.2.2.2.2.2 y.ab]):=by
 refine ct (S:=Unit) (bo fun _ _=>rfl) Tryz.func87 rfl rfl ?_
 repeat' first
  | (apply Dk.fe; repeat' first | exact rfl | (refine @id.{0} _ ?_; constructor))
  | intro _
  | exact rfl
  | (refine @id.{0} _ ?_; constructor)
  | apply adq
  | apply Q5
  | exact ()
theorem adr {x0:eG} {sH:Addr} {nG oB lP kT nH oC lQ kU pT qE:Value}:Ct Tryz.prog 127 true (gR x0) [.agg #[.pointer (some (sH))]] [.bg sH [.int .i64 (x0.Functor.aD.aA),nG,oB,lP,kT,.int .i64 (x0.Functor.aB.aA),nH,oC,lQ,kU,pT,qE],rI nG x0.Functor.aD.aF,rI oB x0.Functor.aD.To,rI lP x0.Functor.aD.aH,rJ kT x0.Functor.aD.aC,rI nH x0.Functor.aB.aF,rI oC x0.Functor.aB.To,rI lQ x0.Functor.aB.aH,rJ kU x0.Functor.aB.aC,rI pT x0.Functor.aA,rI qE x0.Functor.ab] (fun y (v:Value×Value×Value×Value×Value×Value×Value×Value×Value×Value×Value)=>[.agg #[.int .i64 y.1.aD.aA,v.1,v.2.1,v.2.2.1,v.2.2.2.1,.int .i64 y.1.aB.aA,v.2.2.2.2.1,v.2.2.2.2.2.1,v.2.2.2.2.2.2.1,v.2.2.2.2.2.2.2.1,v.2.2.2.2.2.2.2.2.1,v.2.2.2.2.2.2.2.2.2.1],v.2.2.2.2.2.2.2.2.2.2]) (fun y v=>[.own (aI 2 (aK .i64)) v.1 y.1.aD.aF,.own (aI 2 (aK .i64)) v.2.1 y.1.aD.To,.own (aI 2 (aK .i64)) v.2.2.1 y.1.aD.aH,.own (aI 22 (aI 2 (aK .i64))) v.2.2.2.1 y.1.aD.aC,.own (aI 2 (aK .i64)) v.2.2.2.2.1 y.1.aB.aF,.own (aI 2 (aK .i64)) v.2.2.2.2.2.1 y.1.aB.To,.own (aI 2 (aK .i64)) v.2.2.2.2.2.2.1 y.1.aB.aH,.own (aI 22 (aI 2 (aK .i64))) v.2.2.2.2.2.2.2.1 y.1.aB.aC,.own (aI 2 (aK .i64)) v.2.2.2.2.2.2.2.2.1 y.1.aA,.own (aI 2 (aK .i64)) v.2.2.2.2.2.2.2.2.2.1 y.1.ab,.own (aI 2 (aK .i64)) v.2.2.2.2.2.2.2.2.2.2 y.2]):=by
 refine ct (S:=Unit) (bo fun _ _=>rfl) Tryz.func127 rfl rfl ?_
 repeat' first
  | (apply Dk.fe; repeat' first | exact rfl | (refine @id.{0} _ ?_; constructor))
  | intro _
  | exact rfl
  | (refine @id.{0} _ ?_; constructor)
  | apply Dk.loop 0 (V:=Value×Value) (fun (s:(List Int)×(List Int)×Int) v=>[.own (aI 2 (aK .i64)) v.1 s.1,.own (aI 2 (aK .i64)) v.2 s.2.1]) (fun s v=>[(6,v.1),(7,v.2),(8,.int .i64 (s.2.2))]) (_,_) [(1,_),(2,_),(4,_),(5,_)]
  | apply Dk.loop 2 (V:=Value×Value) (fun (s:(List Int)×(List Int)×Int) v=>[.own (aI 2 (aK .i64)) v.1 s.1,.own (aI 2 (aK .i64)) v.2 s.2.1]) (fun s v=>[(6,v.1),(7,v.2),(43,.int .i64 (s.2.2))]) (_,_) [(1,_),(2,_),(4,_),(5,_),(8,_),(41,_),(42,_)]
  | apply Dk.loop 4 (V:=Value) (fun (s:(List Int)×Int) v=>[.own (aI 2 (aK .i64)) v s.1]) (fun s v=>[(12,v),(69,.int .i64 (s.2))]) _ [(1,_),(2,_),(4,_),(5,_),(6,_),(7,_),(68,_)]
  | apply Dk.loop 6 (V:=Value) (fun (s:(List Int)×Int) v=>[.own (aI 2 (aK .i64)) v s.1]) (fun s v=>[(12,v),(112,.int .i64 (s.2))]) _ [(1,_),(2,_),(4,_),(5,_),(6,_),(7,_),(16,_),(68,_),(69,_),(110,_),(111,_)]
  | apply Dk.quiet (id:=1) (by kernel_rfl)
  | apply Dk.quiet (id:=18) (by kernel_rfl)
  | apply Dk.quiet (id:=19) (by kernel_rfl)
  | apply Dk.any (id:=20) 12 [] [] [[],[],[],[1,2],[1,2,3],[],[],[5,6],[5,6,7],[0,1,2,3,4,5,6,7,8],[0,1,2,3,4,5,6,7,8,9],[]] (by kernel_rfl)
  | apply Wp
  | apply zZ
  | apply PO
  | apply CM
  | apply Ni
  | exact ()
theorem YS {x0:aJ} {cB:Addr} {aS aV aQ aN aT aW aR aO aZ bB:Value} {x1:aJ} {lO:Addr} {cR cV cC bY cS cW cD bZ dA dL:Value}:Ct Tryz.prog 65 true (gY x0 x1) [.pointer (some (cB)),.pointer (some (lO))] [.bg lO [.int .i64 (x1.aD.aA),cR,cV,cC,bY,.int .i64 (x1.aB.aA),cS,cW,cD,bZ,dA,dL],.bg cB [.int .i64 (x0.aD.aA),aS,aV,aQ,aN,.int .i64 (x0.aB.aA),aT,aW,aR,aO,aZ,bB],rI aS x0.aD.aF,rI aV x0.aD.To,rI aQ x0.aD.aH,rJ aN x0.aD.aC,rI aT x0.aB.aF,rI aW x0.aB.To,rI aR x0.aB.aH,rJ aO x0.aB.aC,rI aZ x0.aA,rI bB x0.ab,rI cR x1.aD.aF,rI cV x1.aD.To,rI cC x1.aD.aH,rJ bY x1.aD.aC,rI cS x1.aB.aF,rI cW x1.aB.To,rI cD x1.aB.aH,rJ bZ x1.aB.aC,rI dA x1.aA,rI dL x1.ab] (fun y (v:Value×Value×Value×Value×Value×Value×Value×Value×Value×Value)=>[.agg #[.int .i64 y.aD.aA,v.1,v.2.1,v.2.2.1,v.2.2.2.1,.int .i64 y.aB.aA,v.2.2.2.2.1,v.2.2.2.2.2.1,v.2.2.2.2.2.2.1,v.2.2.2.2.2.2.2.1,v.2.2.2.2.2.2.2.2.1,v.2.2.2.2.2.2.2.2.2]]) (fun y v=>[.own (aI 2 (aK .i64)) v.1 y.aD.aF,.own (aI 2 (aK .i64)) v.2.1 y.aD.To,.own (aI 2 (aK .i64)) v.2.2.1 y.aD.aH,.own (aI 22 (aI 2 (aK .i64))) v.2.2.2.1 y.aD.aC,.own (aI 2 (aK .i64)) v.2.2.2.2.1 y.aB.aF,.own (aI 2 (aK .i64)) v.2.2.2.2.2.1 y.aB.To,.own (aI 2 (aK .i64)) v.2.2.2.2.2.2.1 y.aB.aH,.own (aI 22 (aI 2 (aK .i64))) v.2.2.2.2.2.2.2.1 y.aB.aC,.own (aI 2 (aK .i64)) v.2.2.2.2.2.2.2.2.1 y.aA,.own (aI 2 (aK .i64)) v.2.2.2.2.2.2.2.2.2 y.ab]):=by
 refine ct (S:=Unit) (bo fun _ _=>rfl) Tryz.func65 rfl rfl ?_
 repeat' first
  | (apply Dk.fe; repeat' first | exact rfl | (refine @id.{0} _ ?_; constructor))
  | intro _
  | exact rfl
  | (refine @id.{0} _ ?_; constructor)
  | apply Dk.any (id:=1) 24 [] [] [[],[0],[0,1],[],[3],[3,4],[],[6],[6,7],[6,7,8],[],[10],[10,11],[10,11,12],[6,7,8,9,10,11,12,13],[],[15],[15,16],[15,16,17],[],[19],[19,20],[19,20,21],[6,7,8,9,10,11,12,13,14,15,16,17,18,19,20,21,22]] (by kernel_rfl)
  | apply Wd
  | apply Ni
  | exact ()
theorem YT {x0:aG} {cB:Addr} {aU bA aP aL:Value}:Ct Tryz.prog 64 true (kK x0) [.pointer (some (cB))] [.bg cB [.int .i64 (x0.aA),aU,bA,aP,aL],rI aU x0.aF,rI bA x0.To,rI aP x0.aH,rJ aL x0.aC] (fun y (v:Value×Value×Value×Value×Value×Value×Value×Value×Value×Value)=>[.agg #[.int .i64 y.aD.aA,v.1,v.2.1,v.2.2.1,v.2.2.2.1,.int .i64 y.aB.aA,v.2.2.2.2.1,v.2.2.2.2.2.1,v.2.2.2.2.2.2.1,v.2.2.2.2.2.2.2.1,v.2.2.2.2.2.2.2.2.1,v.2.2.2.2.2.2.2.2.2]]) (fun y v=>[.own (aI 2 (aK .i64)) v.1 y.aD.aF,.own (aI 2 (aK .i64)) v.2.1 y.aD.To,.own (aI 2 (aK .i64)) v.2.2.1 y.aD.aH,.own (aI 22 (aI 2 (aK .i64))) v.2.2.2.1 y.aD.aC,.own (aI 2 (aK .i64)) v.2.2.2.2.1 y.aB.aF,.own (aI 2 (aK .i64)) v.2.2.2.2.2.1 y.aB.To,.own (aI 2 (aK .i64)) v.2.2.2.2.2.2.1 y.aB.aH,.own (aI 22 (aI 2 (aK .i64))) v.2.2.2.2.2.2.2.1 y.aB.aC,.own (aI 2 (aK .i64)) v.2.2.2.2.2.2.2.2.1 y.aA,.own (aI 2 (aK .i64)) v.2.2.2.2.2.2.2.2.2 y.ab]):=by
 refine ct (S:=Unit) (bo fun _ _=>rfl) Tryz.func64 rfl rfl ?_
 repeat' first
  | (apply Dk.fe; repeat' first | exact rfl | (refine @id.{0} _ ?_; constructor))
  | intro _
  | exact rfl
  | (refine @id.{0} _ ?_; constructor)
  | apply adj
  | apply Ng
  | apply Ni
  | exact ()
theorem ads {x0:aJ} {cB:Addr} {aS aV aQ aN aT aW aR aO aZ bB:Value}:Ct Tryz.prog 148 true (fU x0) [.pointer (some (cB))] [.bg cB [.int .i64 (x0.aD.aA),aS,aV,aQ,aN,.int .i64 (x0.aB.aA),aT,aW,aR,aO,aZ,bB],rI aS x0.aD.aF,rI aV x0.aD.To,rI aQ x0.aD.aH,rJ aN x0.aD.aC,rI aT x0.aB.aF,rI aW x0.aB.To,rI aR x0.aB.aH,rJ aO x0.aB.aC,rI aZ x0.aA,rI bB x0.ab] (fun y (v:Value×Value×Value×Value×Value×Value×Value×Value×Value×Value)=>[.agg #[.int .i64 y.aD.aA,v.1,v.2.1,v.2.2.1,v.2.2.2.1,.int .i64 y.aB.aA,v.2.2.2.2.1,v.2.2.2.2.2.1,v.2.2.2.2.2.2.1,v.2.2.2.2.2.2.2.1,v.2.2.2.2.2.2.2.2.1,v.2.2.2.2.2.2.2.2.2]]) (fun y v=>[.own (aI 2 (aK .i64)) v.1 y.aD.aF,.own (aI 2 (aK .i64)) v.2.1 y.aD.To,.own (aI 2 (aK .i64)) v.2.2.1 y.aD.aH,.own (aI 22 (aI 2 (aK .i64))) v.2.2.2.1 y.aD.aC,.own (aI 2 (aK .i64)) v.2.2.2.2.1 y.aB.aF,.own (aI 2 (aK .i64)) v.2.2.2.2.2.1 y.aB.To,.own (aI 2 (aK .i64)) v.2.2.2.2.2.2.1 y.aB.aH,.own (aI 22 (aI 2 (aK .i64))) v.2.2.2.2.2.2.2.1 y.aB.aC,.own (aI 2 (aK .i64)) v.2.2.2.2.2.2.2.2.1 y.aA,.own (aI 2 (aK .i64)) v.2.2.2.2.2.2.2.2.2 y.ab]):=by
 refine ct (S:=Unit) (bo fun _ _=>rfl) Tryz.func148 rfl rfl ?_
 repeat' first
  | (apply Dk.fe; repeat' first | exact rfl | (refine @id.{0} _ ?_; constructor))
  | intro _
  | exact rfl
  | (refine @id.{0} _ ?_; constructor)
  | apply Dk.any (id:=1) 14 [] [] [[],[0],[0,1],[],[3],[3,4],[],[6],[6,7],[6,7,8],[],[10],[10,11],[10,11,12]] (by kernel_rfl)
  | apply Ni
  | exact ()
end Go.Proofs.YtbhhmalgcnhniaaGreat
