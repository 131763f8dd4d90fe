/- Walks by the calculus D. No condition beside those that each theorem names. -/
import Derived.Test.YtcnehblmgfbfoaaGreatDp
import Derived.Test.YtcnehblmgfbfoaaGreatDi
import Derived.Test.YtcnehblmgfbfoaaGreatMo
import Derived.Test.YtcnehblmgfbfoaaGreatDs
import Derived.Test.YtcnehblmgfbfoaaGreatWb
import Derived.Test.YtcnehblmgfbfoaaGreatWc
import Derived.Test.YtcnehblmgfbfoaaGreatWd
namespace Go.Proofs.YtcnehblmgfbfoaaGreat
open Go Go.Li Go.Dk
set_option linter.unusedVariables false
set_option maxHeartbeats 16000000
set_option maxRecDepth 100000
theorem Yd {x0:bB} {aQ aU aO aL aR aV aP aN aZ bA bM bN:Value}:Ct Tryz.prog 136 true (kO x0) [.agg #[.int .i64 (x0.On.aB.aD),aQ,aU,aO,aL,.int .i64 (x0.On.aE.aD),aR,aV,aP,aN,aZ,bA,bM,bN]] [rI aQ x0.On.aB.aF,rI aU x0.On.aB.To,rI aO x0.On.aB.aG,rJ aL x0.On.aB.aC,rI aR x0.On.aE.aF,rI aV x0.On.aE.To,rI aP x0.On.aE.aG,rJ aN x0.On.aE.aC,rI aZ x0.On.aD,rI bA x0.On.ab,rI bM x0.Unit,rI bN x0.ba] (fun y (v:Value×Value×Value×Value×Value)=>[.agg #[.int .i64 y.1.aD,v.1,v.2.1,v.2.2.1,v.2.2.2.1],v.2.2.2.2]) (fun y v=>[.own (aI 2 (aJ .i64)) v.1 y.1.aF,.own (aI 2 (aJ .i64)) v.2.1 y.1.To,.own (aI 2 (aJ .i64)) v.2.2.1 y.1.aG,.own (aI 22 (aI 2 (aJ .i64))) v.2.2.2.1 y.1.aC,.own (aI 22 (aI 2 (aJ .i64))) v.2.2.2.2 y.2]):=by
 refine ct (S:=Unit) (bp fun _ _=>rfl) Tryz.func136 rfl rfl ?_
 repeat' first
  | (apply Dk.fe; repeat' first | exact rfl | (refine @id.{0} _ ?_; constructor))
  | intro _
  | exact rfl
  | (refine Dk.zv (t:=31) rfl ?_ ?_)
  | apply Dk.Gr (d:=56)
  | (refine @id.{0} _ ?_; constructor)
  | apply Dk.loop 0 (V:=Value) (fun (s:(List (List Int))×Int) v=>[.own (aI 22 (aI 2 (aJ .i64))) v s.1]) (fun s v=>[(5,v),(6,.int .i64 (s.2))]) _ [(1,_),(2,_),(4,_)]
  | apply Dk.loop 2 (V:=Value) (fun (s:(List (List Int))×Int) v=>[.own (aI 22 (aI 2 (aJ .i64))) v s.1]) (fun s v=>[(5,v),(7,.int .i64 (s.2))]) _ [(1,_),(2,_),(4,_),(6,_)]
  | apply Dk.loop 4 (V:=Value) (fun (s:(List (List Int))×Int) v=>[.own (aI 22 (aI 2 (aJ .i64))) v s.1]) (fun s v=>[(5,v),(9,.int .i64 (s.2))]) _ [(1,_),(2,_),(4,_),(6,_),(7,_),(8,_)]
  | apply Dk.mb 6 (V:=Value) (A:=Nat×Value×Value×Value) (_,_,_,_) (fun a (s:Int×(List Int)) v=>Dk.pc (fun a0=>Dk.pc (fun a1=>Dk.pc (fun a2 a3=>[.row a0 [.int .i64 (x0.On.aB.aD),a1,a2,v,a3] 31,.own (aI 2 (aJ .i64)) v s.2]))) a) (fun a s v=>Dk.pc (fun a0=>Dk.pc (fun a1=>Dk.pc (fun a2 a3=>[(10,.pointer (some ⟨a0,0,none⟩)),(11,.int .i64 (s.1))]))) a) _ [(1,_),(2,_),(4,_),(5,_)]
  | apply Dk.mb 8 (V:=Value) (A:=Nat×Value×Value×Value) (_,_,_,_) (fun a (s:Int×(List (List Int))) v=>Dk.pc (fun a0=>Dk.pc (fun a1=>Dk.pc (fun a2 a3=>[.row a0 [.int .i64 (x0.On.aB.aD),a1,a2,a3,v] 31,.own (aI 22 (aI 2 (aJ .i64))) v s.2]))) a) (fun a s v=>Dk.pc (fun a0=>Dk.pc (fun a1=>Dk.pc (fun a2 a3=>[(10,.pointer (some ⟨a0,0,none⟩)),(12,.int .i64 (s.1))]))) a) _ [(1,_),(2,_),(5,_)]
  | apply Dk.loop 10 (V:=Value) (fun (s:(List Int)×Int) v=>[.own (aI 2 (aJ .i64)) v s.1]) (fun s v=>[(13,v),(14,.int .i64 (s.2))]) _ [(1,_),(2,_),(5,_),(10,_),(12,_)]
  | apply Dk.quiet (id:=26) (by kernel_rfl)
  | apply Dk.quiet (id:=28) (by kernel_rfl)
  | apply Dk.any (id:=9) 8 [] [] [[],[],[],[2],[2,3],[],[2,3,4,5],[2,3,4,5,6]] (by kernel_rfl)
  | apply Dk.Pc (id:=14) [9,0,1,2,3,4,5,6,7,8,10] [1,2,3,4,5,6,7,8,9,0,10] [] 10 [] [] [[],[],[1],[],[3],[],[3,4,5],[],[],[1,2,3,4,5,6,7,8]] (by kernel_rfl)
  | apply Dk.any (id:=18) 13 [] [] [[],[0],[],[],[],[],[5],[],[5,6,7],[5,6,7,8],[3,4,5,6,7,8,9],[2,3,4,5,6,7,8,9,10],[2,3,4,5,6,7,8,9,10,11]] (by kernel_rfl)
  | apply Dk.any (id:=29) 18 [0] [] [[],[],[1],[1,2],[],[4],[4,5],[],[],[8],[8,9],[],[11],[11,12],[],[14],[14,15],[7,8,9,10,11,12,13,14,15,16]] (by kernel_rfl)
  | apply Lq
  | apply RR
  | apply RS
  | apply MJ
  | apply XK
  | exact ()
theorem UE {x0:aH} {cD:Addr} {bH bR aW aT:Value} {x1:aH} {kA:Addr} {dV fF cW cH:Value}:Ct Tryz.prog 85 true (fO x0 x1) [.pointer (some (cD)),.pointer (some (kA))] [.aw kA [.int .i64 (x1.aD),dV,fF,cW,cH],.aw cD [.int .i64 (x0.aD),bH,bR,aW,aT],rI bH x0.aF,rI bR x0.To,rI aW x0.aG,rJ aT x0.aC,rI dV x1.aF,rI fF x1.To,rI cW x1.aG,rJ cH x1.aC] (fun y (_:Unit)=>[.bool y]) (fun y _=>[]):=by
 refine ct (S:=Unit) (bp fun _ _=>rfl) Tryz.func85 rfl rfl ?_
 repeat' first
  | (apply Dk.fe; repeat' first | exact rfl | (refine @id.{0} _ ?_; constructor))
  | intro _
  | exact rfl
  | (refine @id.{0} _ ?_; constructor)
  | apply Dk.loop 0 (V:=Unit) (fun (s:Int) v=>[]) (fun s v=>[(69,.int .i64 (s))]) () [(0,_),(1,_),(68,_)]
  | apply Dk.quiet (id:=1) (by kernel_rfl)
  | apply Dk.quiet (id:=6) (by kernel_rfl)
  | apply XW
  | exact ()
theorem Ye {x0:aH} {cD:Addr} {bH bR aW aT:Value}:Ct Tryz.prog 119 true (gE x0) [.pointer (some (cD))] [.aw cD [.int .i64 (x0.aD),bH,bR,aW,aT],rI bH x0.aF,rI bR x0.To,rI aW x0.aG,rJ aT x0.aC] (fun y (v:Value×Value×Value×Value)=>[.agg #[.int .i64 y.aD,v.1,v.2.1,v.2.2.1,v.2.2.2]]) (fun y v=>[.own (aI 2 (aJ .i64)) v.1 y.aF,.own (aI 2 (aJ .i64)) v.2.1 y.To,.own (aI 2 (aJ .i64)) v.2.2.1 y.aG,.own (aI 22 (aI 2 (aJ .i64))) v.2.2.2 y.aC]):=by
 refine ct (S:=Unit) (bp fun _ _=>rfl) Tryz.func119 rfl rfl ?_
 repeat' first
  | (apply Dk.fe; repeat' first | exact rfl | (refine @id.{0} _ ?_; constructor))
  | intro _
  | exact rfl
  | (refine @id.{0} _ ?_; constructor)
  | apply Dk.any (id:=1) 24 [] [] [[],[0],[0,1],[0,1,2],[],[4],[4,5],[4,5,6],[4,5,6,7],[],[9],[9,10],[9,10,11],[4,5,6,7,8,9,10,11,12],[],[14],[14,15],[14,15,16],[4,5,6,7,8,9,10,11,12,13,14,15,16,17],[],[19],[19,20],[19,20,21],[4,5,6,7,8,9,10,11,12,13,14,15,16,17,18,19,20,21,22]] (by kernel_rfl)
  | apply RM
  | apply XO
  | exact ()
theorem Sg {x0:aH} {cD:Addr} {bH bR aW aT:Value} {x1:aH} {kA:Addr} {dV fF cW cH:Value} {x2:(List Int)} {lE:Value} {x3:(List Int)} {oJ:Value}:Ct Tryz.prog 89 true (jX x0 x1 x2 x3) [.pointer (some (cD)),.pointer (some (kA)),lE,oJ] [.aw kA [.int .i64 (x1.aD),dV,fF,cW,cH],.aw cD [.int .i64 (x0.aD),bH,bR,aW,aT],rI bH x0.aF,rI bR x0.To,rI aW x0.aG,rJ aT x0.aC,rI dV x1.aF,rI fF x1.To,rI cW x1.aG,rJ cH x1.aC,rI lE x2,rI oJ x3] (fun y (v:Value×Value×Value×Value×Value×Value×Value×Value×Value×Value)=>[.agg #[.int .i64 y.aB.aD,v.1,v.2.1,v.2.2.1,v.2.2.2.1,.int .i64 y.aE.aD,v.2.2.2.2.1,v.2.2.2.2.2.1,v.2.2.2.2.2.2.1,v.2.2.2.2.2.2.2.1,v.2.2.2.2.2.2.2.2.1,v.2.2.2.2.2.2.2.2.2]]) (fun y v=>[.own (aI 2 (aJ .i64)) v.1 y.aB.aF,.own (aI 2 (aJ .i64)) v.2.1 y.aB.To,.own (aI 2 (aJ .i64)) v.2.2.1 y.aB.aG,.own (aI 22 (aI 2 (aJ .i64))) v.2.2.2.1 y.aB.aC,.own (aI 2 (aJ .i64)) v.2.2.2.2.1 y.aE.aF,.own (aI 2 (aJ .i64)) v.2.2.2.2.2.1 y.aE.To,.own (aI 2 (aJ .i64)) v.2.2.2.2.2.2.1 y.aE.aG,.own (aI 22 (aI 2 (aJ .i64))) v.2.2.2.2.2.2.2.1 y.aE.aC,.own (aI 2 (aJ .i64)) v.2.2.2.2.2.2.2.2.1 y.aD,.own (aI 2 (aJ .i64)) v.2.2.2.2.2.2.2.2.2 y.ab]):=by
 refine ct (S:=Unit) (bp fun _ _=>rfl) Tryz.func89 rfl rfl ?_
 repeat' first
  | (apply Dk.fe; repeat' first | exact rfl | (refine @id.{0} _ ?_; constructor))
  | intro _
  | exact rfl
  | (refine @id.{0} _ ?_; constructor)
  | apply Ye
  | apply RM
  | exact ()
theorem Yf {x0:aS} {cD:Addr} {bI bP bF bC bJ bQ bG bD bU bV:Value} {x1:aS} {kA:Addr} {cF cP cB bY cG cQ cC bZ cY dE:Value}:Ct Tryz.prog 293 true (gO x0 x1) [.pointer (some (cD)),.pointer (some (kA))] [.aw kA [.int .i64 (x1.aB.aD),cF,cP,cB,bY,.int .i64 (x1.aE.aD),cG,cQ,cC,bZ,cY,dE],.aw cD [.int .i64 (x0.aB.aD),bI,bP,bF,bC,.int .i64 (x0.aE.aD),bJ,bQ,bG,bD,bU,bV],rI bI x0.aB.aF,rI bP x0.aB.To,rI bF x0.aB.aG,rJ bC x0.aB.aC,rI bJ x0.aE.aF,rI bQ x0.aE.To,rI bG x0.aE.aG,rJ bD x0.aE.aC,rI bU x0.aD,rI bV x0.ab,rI cF x1.aB.aF,rI cP x1.aB.To,rI cB x1.aB.aG,rJ bY x1.aB.aC,rI cG x1.aE.aF,rI cQ x1.aE.To,rI cC x1.aE.aG,rJ bZ x1.aE.aC,rI cY x1.aD,rI dE x1.ab] (fun y (_:Unit)=>[.bool y]) (fun y _=>[]):=by
 refine ct (S:=Unit) (bp fun _ _=>rfl) Tryz.func293 rfl rfl ?_
 repeat' first
  | (apply Dk.fe; repeat' first | exact rfl | (refine @id.{0} _ ?_; constructor))
  | intro _
  | exact rfl
  | (refine @id.{0} _ ?_; constructor)
  | apply Dk.quiet (id:=1) (by kernel_rfl)
  | apply UE
  | exact ()
theorem c73 {x0:aH} {bH bR aW aT:Value} {x1:Int}:Ct Tryz.prog 73 true (gT x0 x1) [.agg #[.int .i64 (x0.aD),bH,bR,aW,aT],.int .i64 (x1)] [rI bH x0.aF,rI bR x0.To,rI aW x0.aG,rJ aT x0.aC] (fun y (_:Unit)=>[.int .i64 y]) (fun y _=>[]):=by
 refine ct (S:=Unit) (bp fun _ _=>rfl) Tryz.func73 rfl rfl ?_
 repeat' first
  | (apply Dk.fe; repeat' first | exact rfl | (refine @id.{0} _ ?_; constructor))
  | intro _
  | exact rfl
  | (refine @id.{0} _ ?_; constructor)
  | apply RQ
  | apply XR
  | exact ()
theorem c16 {x0:aS} {bI bP bF bC bJ bQ bG bD bU bV:Value} {x1:Int}:Ct Tryz.prog 16 true (iE x0 x1) [.agg #[.int .i64 (x0.aB.aD),bI,bP,bF,bC,.int .i64 (x0.aE.aD),bJ,bQ,bG,bD,bU,bV],.int .i64 (x1)] [rI bI x0.aB.aF,rI bP x0.aB.To,rI bF x0.aB.aG,rJ bC x0.aB.aC,rI bJ x0.aE.aF,rI bQ x0.aE.To,rI bG x0.aE.aG,rJ bD x0.aE.aC,rI bU x0.aD,rI bV x0.ab] (fun y (_:Unit)=>[.int .i64 y]) (fun y _=>[]):=by
 refine ct (S:=Unit) (bp fun _ _=>rfl) Tryz.func16 rfl rfl ?_
 repeat' first
  | (apply Dk.fe; repeat' first | exact rfl | (refine @id.{0} _ ?_; constructor))
  | intro _
  | exact rfl
  | (refine @id.{0} _ ?_; constructor)
  | apply c73
  | apply RQ
  | exact ()
end Go.Proofs.YtcnehblmgfbfoaaGreat
