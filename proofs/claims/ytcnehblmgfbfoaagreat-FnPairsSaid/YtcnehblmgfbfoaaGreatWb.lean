/- Walks by the calculus D. No condition beside those that each theorem names. -/
import Derived.Test.YtcnehblmgfbfoaaGreatDp
import Derived.Test.YtcnehblmgfbfoaaGreatDi
import Derived.Test.YtcnehblmgfbfoaaGreatMo
import Derived.Test.YtcnehblmgfbfoaaGreatDs
namespace Go.Proofs.YtcnehblmgfbfoaaGreat
open Go Go.Li Go.Dk
set_option linter.unusedVariables false
set_option maxHeartbeats 16000000
set_option maxRecDepth 100000
theorem xE {x0:aD} {cG:Addr} {aO aR aK aJ:Value}:Ct Tryz.prog 88 true (bB x0) [.pointer (some (cG))] [.aw cG [.int .i64 (x0.aA),aO,aR,aK,aJ],rI aO x0.aB,rI aR x0.To,rI aK x0.aF,rJ aJ x0.aC] (fun y (_:Unit)=>[.int .i64 y]) (fun y _=>[]):=by
 refine ct (S:=Unit) (cf fun _ _=>rfl) Tryz.func88 rfl rfl ?_
 repeat' first
  | (apply Dk.fe; repeat' first | exact rfl | (refine @id.{0} _ ?_; constructor))
  | intro _
  | exact rfl
  | (refine @id.{0} _ ?_; constructor)
  | exact ()
theorem NQ {x0:Int} {x1:Int} {x2:Int}:Ct Tryz.prog 179 true (dG x0 x1 x2) [.int .i64 (x0),.int .i64 (x1),.int .i64 (x2)] [] (fun y (_:Unit)=>[.bool y]) (fun y _=>[]):=by
 refine ct (S:=Unit) (cf fun _ _=>rfl) Tryz.func179 rfl rfl ?_
 repeat' first
  | (apply Dk.fe; repeat' first | exact rfl | (refine @id.{0} _ ?_; constructor))
  | intro _
  | exact rfl
  | (refine @id.{0} _ ?_; constructor)
  | exact ()
theorem NR {x0:(List Int)} {cC:Value} {x1:Int}:Ct Tryz.prog 123 true (dC x0 x1) [cC,.int .i64 (x1)] [rI cC x0] (fun y (_:Unit)=>[.bool y]) (fun y _=>[]):=by
 refine ct (S:=Unit) (cf fun _ _=>rfl) Tryz.func123 rfl rfl ?_
 repeat' first
  | (apply Dk.fe; repeat' first | exact rfl | (refine @id.{0} _ ?_; constructor))
  | intro _
  | exact rfl
  | (refine @id.{0} _ ?_; constructor)
  | apply Dk.loop 0 (V:=Unit) (fun (s:Int) v=>[]) (fun s v=>[(9,.int .i64 (s))]) () [(1,_),(7,_),(8,_)]
  | apply NQ
  | exact ()
theorem H4 {x0:aD} {cG:Addr} {aO aR aK aJ:Value} {x1:Int} {x2:Int}:Ct Tryz.prog 67 true (bR x0 x1 x2) [.pointer (some (cG)),.int .i64 (x1),.int .i64 (x2)] [.aw cG [.int .i64 (x0.aA),aO,aR,aK,aJ],rI aO x0.aB,rI aR x0.To,rI aK x0.aF,rJ aJ x0.aC] (fun y (_:Unit)=>[.int .i64 y]) (fun y _=>[]):=by
 refine ct (S:=Unit) (cf fun _ _=>rfl) Tryz.func67 rfl rfl ?_
 repeat' first
  | (apply Dk.fe; repeat' first | exact rfl | (refine @id.{0} _ ?_; constructor))
  | intro _
  | exact rfl
  | (refine @id.{0} _ ?_; constructor)
  | exact ()
theorem aaa {x0:aD} {cG:Addr} {aO aR aK aJ:Value}:Ct Tryz.prog 268 true (gL x0) [.pointer (some (cG))] [.aw cG [.int .i64 (x0.aA),aO,aR,aK,aJ],rI aO x0.aB,rI aR x0.To,rI aK x0.aF,rJ aJ x0.aC] (fun y (_:Unit)=>[.int .i64 y.1,.int .i64 y.2.1,.int .i64 y.2.2.1,.int .i64 y.2.2.2]) (fun y _=>[]):=by
 refine ct (S:=Unit) (cf fun _ _=>rfl) Tryz.func268 rfl rfl ?_
 repeat' first
  | (apply Dk.fe; repeat' first | exact rfl | (refine @id.{0} _ ?_; constructor))
  | intro _
  | exact rfl
  | (refine Dk.ry (t:=64) rfl ?_ ?_)
  | (refine Dk.ry (t:=74) rfl ?_ ?_)
  | (refine @id.{0} _ ?_; constructor)
  | apply Dk.loop 0 (V:=Unit) (fun (s:Int) v=>[]) (fun s v=>[(7,.int .i64 (s))]) () [(0,_),(6,_)]
  | apply Dk.loop 2 (V:=Unit) (fun (s:Int) v=>[]) (fun s v=>[(8,.int .i64 (s))]) () [(0,_),(6,_)]
  | apply Dk.loop 4 (V:=Unit) (fun (s:Int) v=>[]) (fun s v=>[(9,.int .i64 (s))]) () [(0,_),(6,_),(8,_)]
  | apply Dk.loop 6 (V:=Unit) (fun (s:Int) v=>[]) (fun s v=>[(10,.int .i64 (s))]) () [(0,_),(6,_),(8,_),(9,_)]
  | apply Dk.quiet (id:=5) (by kernel_rfl)
  | apply xE
  | apply H4
  | exact ()
theorem T6 {x0:Int} {x1:Int} {x2:aD} {pB nF:Addr} {iN lM eJ dF:Value} {x3:Int} {oU:Addr} {x4:aD} {pC oV:Addr} {oO oW nL nG:Value}:Ct Tryz.prog 167 true (iC x0 x1 x2 x3 x4) [.int .i64 (x0),.int .i64 (x1),.pointer (some (pB)),.pointer (some (oU)),.pointer (some (pC))] [.aw pC [.pointer (some (oV))],.aw oV [.int .i64 (x4.aA),oO,oW,nL,nG],.aw oU [.int .i64 (x3)],.aw pB [.pointer (some (nF))],.aw nF [.int .i64 (x2.aA),iN,lM,eJ,dF],rI iN x2.aB,rI lM x2.To,rI eJ x2.aF,rJ dF x2.aC,rI oO x4.aB,rI oW x4.To,rI nL x4.aF,rJ nG x4.aC] (fun y (_:Unit)=>[.int .i64 y]) (fun y _=>[]):=by
 refine ct (S:=Unit) (cf fun _ _=>rfl) Tryz.func167 rfl rfl ?_
 repeat' first
  | (apply Dk.fe; repeat' first | exact rfl | (refine @id.{0} _ ?_; constructor))
  | intro _
  | exact rfl
  | apply Dk.D.mj (d:=11)
  | apply Dk.AD.mj (d:=11)
  | apply Dk.D.mj (d:=14)
  | apply Dk.AD.mj (d:=14)
  | apply Dk.D.mj (d:=21)
  | apply Dk.AD.mj (d:=21)
  | apply Dk.D.mj (d:=24)
  | apply Dk.AD.mj (d:=24)
  | (refine @id.{0} _ ?_; constructor)
  | apply Dk.quiet (id:=1) (by kernel_rfl)
  | apply H4
  | exact ()
theorem NS {x0:Int} {x1:(List Int)} {cH:Value}:Ct Tryz.prog 256 true (gZ x0 x1) [.int .i64 (x0),cH] [rI cH x1] (fun y (_:Unit)=>[.bool y]) (fun y _=>[]):=by
 refine ct (S:=Unit) (cf fun _ _=>rfl) Tryz.func256 rfl rfl ?_
 repeat' first
  | (apply Dk.fe; repeat' first | exact rfl | (refine @id.{0} _ ?_; constructor))
  | intro _
  | exact rfl
  | (refine @id.{0} _ ?_; constructor)
  | apply Dk.loop 0 (V:=Unit) (fun (s:Int) v=>[]) (fun s v=>[(5,.int .i64 (s))]) () [(0,_),(1,_)]
  | exact ()
theorem aab {x0:(List Int)} {cC:Value} {x1:Int} {x2:Int}:Ct Tryz.prog 258 true (jO x0 x1 x2) [cC,.int .i64 (x1),.int .i64 (x2)] [rI cC x0] (fun y (_:Unit)=>[.bool y]) (fun y _=>[]):=by
 refine ct (S:=Unit) (cf fun _ _=>rfl) Tryz.func258 rfl rfl ?_
 repeat' first
  | (apply Dk.fe; repeat' first | exact rfl | (refine @id.{0} _ ?_; constructor))
  | intro _
  | exact rfl
  | (refine @id.{0} _ ?_; constructor)
  | apply NS
  | exact ()
theorem c94 {x0:(List Int)} {cC:Value} {x1:(List Int)} {cH:Value} {x2:Int}:Ct Tryz.prog 94 true (kP x0 x1 x2) [cC,cH,.int .i64 (x2)] [rI cC x0,rI cH x1] (fun y (v:Value)=>[v]) (fun y v=>[.own (aI 2 (aL .i64)) v y]):=by
 refine ct (S:=Unit) (cf fun _ _=>rfl) Tryz.func94 rfl rfl ?_
 repeat' first
  | (apply Dk.fe; repeat' first | exact rfl | (refine @id.{0} _ ?_; constructor))
  | intro _
  | exact rfl
  | (refine @id.{0} _ ?_; constructor)
  | apply Dk.loop 0 (V:=Value) (fun (s:(List Int)×Int) v=>[.own (aI 2 (aL .i64)) v s.1]) (fun s v=>[(7,v),(8,.int .i64 (s.2))]) _ [(0,_),(1,_),(2,_)]
  | apply Dk.any (id:=5) 13 [] [] [[],[],[],[1,2],[1,2,3],[],[1,2,3,4,5],[],[],[7,8],[7,8,9],[1,2,3,4,5,6,7,8,9,10],[1,2,3,4,5,6,7,8,9,10,11]] (by kernel_rfl)
  | exact ()
theorem T8 {x0:Int}:Ct Tryz.prog 172 true (jQ x0) [.int .i64 (x0)] [] (fun y (v:Value)=>[v]) (fun y v=>[.own (aI 2 (aL .i64)) v y]):=by
 refine ct (S:=Unit) (cf fun _ _=>rfl) Tryz.func172 rfl rfl ?_
 repeat' first
  | (apply Dk.fe; repeat' first | exact rfl | (refine @id.{0} _ ?_; constructor))
  | intro _
  | exact rfl
  | (refine @id.{0} _ ?_; constructor)
  | apply Dk.dg 0 (V:=Unit) (A:=Value) _ (fun a (s:Int×(List Int)) v=>[.own (aI 2 (aL .i64)) a s.2]) (fun a s v=>[(3,a),(9,.int .i64 (s.1))]) () [(8,_)]
  | exact ()
theorem c97 {x0:Int} {x1:Int}:Ct Tryz.prog 97 true (fA x0 x1) [.int .i64 (x0),.int .i64 (x1)] [] (fun y (_:Unit)=>[.int .i64 y]) (fun y _=>[]):=by
 refine ct (S:=Unit) (cf fun _ _=>rfl) Tryz.func97 rfl rfl ?_
 repeat' first
  | (apply Dk.fe; repeat' first | exact rfl | (refine @id.{0} _ ?_; constructor))
  | intro _
  | exact rfl
  | apply Dk.D.mj (d:=7)
  | apply Dk.AD.mj (d:=7)
  | (refine @id.{0} _ ?_; constructor)
  | exact ()
theorem T9 {x0:Int} {x1:Int} {x2:Int} {nF:Addr} {x3:aD} {pD oU:Addr} {oP oX nM nH:Value} {x4:Int} {oV:Addr} {x5:aD} {pE pF:Addr} {oQ oY nN nI:Value} {x6:aD} {pG:Addr} {oR oZ nO oJ:Value} {x7:Int} {pH:Addr}:Ct Tryz.prog 178 true (jI x0 x1 x2 x3 x4 x5 x6 x7) [.int .i64 (x0),.int .i64 (x1),.pointer (some (nF)),.pointer (some (pD)),.pointer (some (oV)),.pointer (some (pE)),.pointer (some (pG)),.pointer (some (pH))] [.aw pH [.int .i64 (x7)],.aw pG [.int .i64 (x6.aA),oR,oZ,nO,oJ],.aw pE [.pointer (some (pF))],.aw pF [.int .i64 (x5.aA),oQ,oY,nN,nI],.aw oV [.int .i64 (x4)],.aw pD [.pointer (some (oU))],.aw oU [.int .i64 (x3.aA),oP,oX,nM,nH],.aw nF [.int .i64 (x2)],rI oP x3.aB,rI oX x3.To,rI nM x3.aF,rJ nH x3.aC,rI oQ x5.aB,rI oY x5.To,rI nN x5.aF,rJ nI x5.aC,rI oR x6.aB,rI oZ x6.To,rI nO x6.aF] (fun y (_:Unit)=>[.int .i64 y]) (fun y _=>[]):=by
 refine ct (S:=Unit) (cf fun _ _=>rfl) Tryz.func178 rfl rfl ?_
 repeat' first
  | (apply Dk.fe; repeat' first | exact rfl | (refine @id.{0} _ ?_; constructor))
  | intro _
  | exact rfl
  | (refine @id.{0} _ ?_; constructor)
  | apply Dk.quiet (id:=4) (by kernel_rfl)
  | apply Dk.quiet (id:=5) (by kernel_rfl)
  | apply H4
  | apply NQ
  | exact ()
theorem Ua {x0:aD} {cG:Addr} {aO aR aK aJ:Value} {x1:(List Int)} {cH:Value}:Ct Tryz.prog 182 true (eM x0 x1) [.pointer (some (cG)),cH] [.aw cG [.int .i64 (x0.aA),aO,aR,aK,aJ],rI aO x0.aB,rI aR x0.To,rI aK x0.aF,rJ aJ x0.aC,rI cH x1] (fun y (v:Value)=>[v]) (fun y v=>[.own (aI 4 pQ) v y]):=by
 refine ct (S:=Unit) (cf fun _ _=>rfl) Tryz.func182 rfl rfl ?_
 repeat' first
  | (apply Dk.fe; repeat' first | exact rfl | (refine @id.{0} _ ?_; constructor))
  | intro _
  | exact rfl
  | (refine @id.{0} _ ?_; constructor)
  | apply Dk.dg 0 (V:=Unit) (A:=Value) _ (fun a (s:Int×(List Bool)) v=>[.own (aI 4 pQ) a s.2]) (fun a s v=>[(5,a),(13,.int .i64 (s.1))]) () [(11,_),(12,_)]
  | apply xE
  | exact ()
end Go.Proofs.YtcnehblmgfbfoaaGreat
