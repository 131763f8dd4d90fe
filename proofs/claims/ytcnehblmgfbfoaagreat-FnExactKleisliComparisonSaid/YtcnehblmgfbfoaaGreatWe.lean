/- Walks by the calculus D. No condition beside those that each theorem names. -/
import Derived.Test.YtcnehblmgfbfoaaGreatDp
import Derived.Test.YtcnehblmgfbfoaaGreatDi
import Derived.Test.YtcnehblmgfbfoaaGreatMo
import Derived.Test.YtcnehblmgfbfoaaGreatDs
import Derived.Test.YtcnehblmgfbfoaaGreatWa
import Derived.Test.YtcnehblmgfbfoaaGreatWb
import Derived.Test.YtcnehblmgfbfoaaGreatWc
import Derived.Test.YtcnehblmgfbfoaaGreatWd
namespace Go.Proofs.YtcnehblmgfbfoaaGreat
open Go Go.Li Go.Dk
set_option linter.unusedVariables false
set_option maxHeartbeats 16000000
set_option maxRecDepth 100000
theorem X0 {x0:aH} {bH bR aW aT:Value} {x1:Int}:Ct Tryz.prog 133 true (iS x0 x1) [.agg #[.int .i64 (x0.aD),bH,bR,aW,aT],.int .i64 (x1)] [rI bH x0.aF,rI bR x0.To,rI aW x0.aG,rJ aT x0.aC] (fun y (_:Unit)=>[.int .i64 y]) (fun y _=>[]):=by
 refine ct (S:=Unit) (bp fun _ _=>rfl) Tryz.func133 rfl rfl ?_
 repeat' first
  | (apply Dk.fe; repeat' first | exact rfl | (refine @id.{0} _ ?_; constructor))
  | intro _
  | exact rfl
  | (refine @id.{0} _ ?_; constructor)
  | apply MK
  | apply XL
  | exact ()
theorem c53 {x0:aS} {bI bP bF bC bJ bQ bG bD bU bV:Value} {x1:Int}:Ct Tryz.prog 53 true (lG x0 x1) [.agg #[.int .i64 (x0.aB.aD),bI,bP,bF,bC,.int .i64 (x0.aE.aD),bJ,bQ,bG,bD,bU,bV],.int .i64 (x1)] [rI bI x0.aB.aF,rI bP x0.aB.To,rI bF x0.aB.aG,rJ bC x0.aB.aC,rI bJ x0.aE.aF,rI bQ x0.aE.To,rI bG x0.aE.aG,rJ bD x0.aE.aC,rI bU x0.aD,rI bV x0.ab] (fun y (_:Unit)=>[.int .i64 y]) (fun y _=>[]):=by
 refine ct (S:=Unit) (bp fun _ _=>rfl) Tryz.func53 rfl rfl ?_
 repeat' first
  | (apply Dk.fe; repeat' first | exact rfl | (refine @id.{0} _ ?_; constructor))
  | intro _
  | exact rfl
  | (refine @id.{0} _ ?_; constructor)
  | apply X0
  | apply MK
  | exact ()
theorem X1 {x0:bB} {aQ aU aO aL aR aV aP aN aZ bA bM bN:Value}:Ct Tryz.prog 221 true (nF x0) [.agg #[.int .i64 (x0.On.aB.aD),aQ,aU,aO,aL,.int .i64 (x0.On.aE.aD),aR,aV,aP,aN,aZ,bA,bM,bN]] [rI aQ x0.On.aB.aF,rI aU x0.On.aB.To,rI aO x0.On.aB.aG,rJ aL x0.On.aB.aC,rI aR x0.On.aE.aF,rI aV x0.On.aE.To,rI aP x0.On.aE.aG,rJ aN x0.On.aE.aC,rI aZ x0.On.aD,rI bA x0.On.ab,rI bM x0.Unit,rI bN x0.ba] (fun y (v:Value)=>[v]) (fun y v=>[.own (aI 22 (aI 2 (aJ .i64))) v y]):=by
 refine ct (S:=Unit) (bp fun _ _=>rfl) Tryz.func221 rfl rfl ?_
 repeat' first
  | (apply Dk.fe; repeat' first | exact rfl | (refine @id.{0} _ ?_; constructor))
  | intro _
  | exact rfl
  | apply Dk.Gr (d:=46)
  | (refine @id.{0} _ ?_; constructor)
  | apply Dk.loop 0 (V:=Value) (fun (s:(List (List Int))×Int) v=>[.own (aI 22 (aI 2 (aJ .i64))) v s.1]) (fun s v=>[(4,v),(5,.int .i64 (s.2))]) _ [(1,_),(3,_)]
  | apply Dk.loop 2 (V:=Value) (fun (s:(List (List Int))×Int) v=>[.own (aI 22 (aI 2 (aJ .i64))) v s.1]) (fun s v=>[(4,v),(7,.int .i64 (s.2))]) _ [(1,_),(3,_),(5,_),(6,_)]
  | apply Dk.quiet (id:=10) (by kernel_rfl)
  | apply Dk.any (id:=6) 8 [] [] [[],[],[1],[1,2],[],[1,2,3,4],[1,2,3,4,5],[]] (by kernel_rfl)
  | apply Lq
  | apply XI
  | exact ()
theorem X2 {x0:bB} {aQ aU aO aL aR aV aP aN aZ bA bM bN:Value}:Ct Tryz.prog 135 true (mC x0) [.agg #[.int .i64 (x0.On.aB.aD),aQ,aU,aO,aL,.int .i64 (x0.On.aE.aD),aR,aV,aP,aN,aZ,bA,bM,bN]] [rI aQ x0.On.aB.aF,rI aU x0.On.aB.To,rI aO x0.On.aB.aG,rJ aL x0.On.aB.aC,rI aR x0.On.aE.aF,rI aV x0.On.aE.To,rI aP x0.On.aE.aG,rJ aN x0.On.aE.aC,rI aZ x0.On.aD,rI bA x0.On.ab,rI bM x0.Unit,rI bN x0.ba] (fun y (v:Value×Value×Value×Value×Value×Value)=>[.agg #[.int .i64 y.1.aD,v.1,v.2.1,v.2.2.1,v.2.2.2.1],v.2.2.2.2.1,v.2.2.2.2.2]) (fun y v=>[.own (aI 2 (aJ .i64)) v.1 y.1.aF,.own (aI 2 (aJ .i64)) v.2.1 y.1.To,.own (aI 2 (aJ .i64)) v.2.2.1 y.1.aG,.own (aI 22 (aI 2 (aJ .i64))) v.2.2.2.1 y.1.aC,.own (aI 22 (aI 2 (aJ .i64))) v.2.2.2.2.1 y.2.1,.own (aI 22 (aI 2 (aJ .i64))) v.2.2.2.2.2 y.2.2]):=by
 refine ct (S:=Unit) (bp fun _ _=>rfl) Tryz.func135 rfl rfl ?_
 repeat' first
  | (apply Dk.fe; repeat' first | exact rfl | (refine @id.{0} _ ?_; constructor))
  | intro _
  | exact rfl
  | (refine Dk.zv (t:=33) rfl ?_ ?_)
  | apply Dk.Gr (d:=59)
  | (refine @id.{0} _ ?_; constructor)
  | apply Dk.loop 0 (V:=Value) (fun (s:(List (List Int))×Int) v=>[.own (aI 22 (aI 2 (aJ .i64))) v s.1]) (fun s v=>[(7,v),(8,.int .i64 (s.2))]) _ [(1,_),(2,_),(5,_),(6,_)]
  | apply Dk.loop 2 (V:=Value) (fun (s:(List (List Int))×Int) v=>[.own (aI 22 (aI 2 (aJ .i64))) v s.1]) (fun s v=>[(7,v),(9,.int .i64 (s.2))]) _ [(1,_),(2,_),(5,_),(6,_),(8,_)]
  | apply Dk.loop 4 (V:=Value) (fun (s:(List (List Int))×Int) v=>[.own (aI 22 (aI 2 (aJ .i64))) v s.1]) (fun s v=>[(7,v),(11,.int .i64 (s.2))]) _ [(1,_),(2,_),(5,_),(6,_),(8,_),(9,_),(10,_)]
  | apply Dk.mb 6 (V:=Value) (A:=Nat×Value×Value×Value×Value) (_,_,_,_,_) (fun a (s:Int×(List Int)) v=>Dk.pc (fun a0=>Dk.pc (fun a1=>Dk.pc (fun a2=>Dk.pc (fun a3 a4=>[.row a0 [a1,a2,a3,v,a4] 31,.own (aI 2 (aJ .i64)) v s.2])))) a) (fun a s v=>Dk.pc (fun a0=>Dk.pc (fun a1=>Dk.pc (fun a2=>Dk.pc (fun a3 a4=>[(12,.pointer (some ⟨a0,0,none⟩)),(13,.int .i64 (s.1))])))) a) _ [(2,_),(5,_),(6,_),(7,_)]
  | apply Dk.mb 8 (V:=Value) (A:=Nat×Value×Value×Value×Value) (_,_,_,_,_) (fun a (s:Int×(List (List Int))) v=>Dk.pc (fun a0=>Dk.pc (fun a1=>Dk.pc (fun a2=>Dk.pc (fun a3 a4=>[.row a0 [a1,a2,a3,a4,v] 31,.own (aI 22 (aI 2 (aJ .i64))) v s.2])))) a) (fun a s v=>Dk.pc (fun a0=>Dk.pc (fun a1=>Dk.pc (fun a2=>Dk.pc (fun a3 a4=>[(12,.pointer (some ⟨a0,0,none⟩)),(14,.int .i64 (s.1))])))) a) _ [(2,_),(5,_),(6,_),(7,_)]
  | apply Dk.loop 10 (V:=Value) (fun (s:(List Int)×Int) v=>[.own (aI 2 (aJ .i64)) v s.1]) (fun s v=>[(15,v),(16,.int .i64 (s.2))]) _ [(2,_),(5,_),(6,_),(7,_),(12,_),(14,_)]
  | apply Dk.quiet (id:=28) (by kernel_rfl)
  | apply Dk.any (id:=10) 9 [] [] [[],[],[],[1,2],[1,2,3],[],[],[5,6],[5,6,7]] (by kernel_rfl)
  | apply Dk.any (id:=19) 18 [] [] [[],[0],[],[],[],[],[5],[],[],[7,8],[7,8,9],[7,8,9,10],[7,8,9,10,11],[5,6,7,8,9,10,11,12],[5,6,7,8,9,10,11,12,13],[3,4,5,6,7,8,9,10,11,12,13,14],[2,3,4,5,6,7,8,9,10,11,12,13,14,15],[2,3,4,5,6,7,8,9,10,11,12,13,14,15,16]] (by kernel_rfl)
  | apply Dk.any (id:=29) 27 [0] [] [[],[],[],[1,2],[1,2,3],[1,2,3,4],[1,2,3,4,5],[],[],[7,8],[7,8,9],[7,8,9,10],[7,8,9,10,11],[],[],[],[14,15],[14,15,16],[14,15,16,17],[14,15,16,17,18],[],[],[20,21],[20,21,22],[20,21,22,23],[20,21,22,23,24],[13,14,15,16,17,18,19,20,21,22,23,24,25]] (by kernel_rfl)
  | apply X1
  | apply XJ
  | apply RR
  | apply RS
  | apply MJ
  | apply D4
  | exact ()
theorem X3 {x0:aS} {cD:Addr} {bI bP bF bC bJ bQ bG bD bU bV:Value}:Ct Tryz.prog 183 true (jM x0) [.pointer (some (cD))] [.aw cD [.int .i64 (x0.aB.aD),bI,bP,bF,bC,.int .i64 (x0.aE.aD),bJ,bQ,bG,bD,bU,bV],rI bI x0.aB.aF,rI bP x0.aB.To,rI bF x0.aB.aG,rJ bC x0.aB.aC,rI bJ x0.aE.aF,rI bQ x0.aE.To,rI bG x0.aE.aG,rJ bD x0.aE.aC,rI bU x0.aD,rI bV x0.ab] (fun y (_:Unit)=>[.bool y]) (fun y _=>[]):=by
 refine ct (S:=Unit) (bp fun _ _=>rfl) Tryz.func183 rfl rfl ?_
 repeat' first
  | (apply Dk.fe; repeat' first | exact rfl | (refine @id.{0} _ ?_; constructor))
  | intro _
  | exact rfl
  | (refine @id.{0} _ ?_; constructor)
  | apply Dk.loop 0 (V:=Unit) (fun (s:Int) v=>[]) (fun s v=>[(66,.int .i64 (s))]) () [(0,_),(3,_),(4,_),(64,_),(65,_)]
  | apply Dk.loop 2 (V:=Unit) (fun (s:Int) v=>[]) (fun s v=>[(121,.int .i64 (s))]) () [(0,_),(3,_),(4,_),(119,_),(120,_)]
  | apply Dk.loop 4 (V:=Unit) (fun (s:Int) v=>[]) (fun s v=>[(153,.int .i64 (s))]) () [(0,_),(4,_),(151,_),(152,_)]
  | apply Dk.loop 6 (V:=Unit) (fun (s:Int) v=>[]) (fun s v=>[(160,.int .i64 (s))]) () [(0,_),(4,_),(9,_),(151,_),(152,_),(153,_),(158,_),(159,_)]
  | apply Dk.quiet (id:=1) (by kernel_rfl)
  | apply Dk.quiet (id:=2) (by kernel_rfl)
  | apply Dk.quiet (id:=7) (by kernel_rfl)
  | apply Dk.quiet (id:=13) (by kernel_rfl)
  | apply Dk.quiet (id:=22) (by kernel_rfl)
  | apply D2
  | apply Lu
  | apply Ad
  | exact ()
theorem c69 {x0:aH} {bH bR aW aT:Value} {x1:aH} {dV fF cW cH:Value}:Ct Tryz.prog 69 true (jE x0 x1) [.agg #[.int .i64 (x0.aD),bH,bR,aW,aT],.agg #[.int .i64 (x1.aD),dV,fF,cW,cH]] [rI bH x0.aF,rI bR x0.To,rI aW x0.aG,rJ aT x0.aC,rI dV x1.aF,rI fF x1.To,rI cW x1.aG,rJ cH x1.aC] (fun y (_:Unit)=>[.bool y]) (fun y _=>[]):=by
 refine ct (S:=Unit) (bp fun _ _=>rfl) Tryz.func69 rfl rfl ?_
 repeat' first
  | (apply Dk.fe; repeat' first | exact rfl | (refine @id.{0} _ ?_; constructor))
  | intro _
  | exact rfl
  | (refine @id.{0} _ ?_; constructor)
  | apply ML
  | apply XQ
  | exact ()
theorem BE {x0:aS} {bI bP bF bC bJ bQ bG bD bU bV:Value} {x1:aS} {cF cP cB bY cG cQ cC bZ cY dE:Value}:Ct Tryz.prog 12 true (fT x0 x1) [.agg #[.int .i64 (x0.aB.aD),bI,bP,bF,bC,.int .i64 (x0.aE.aD),bJ,bQ,bG,bD,bU,bV],.agg #[.int .i64 (x1.aB.aD),cF,cP,cB,bY,.int .i64 (x1.aE.aD),cG,cQ,cC,bZ,cY,dE]] [rI bI x0.aB.aF,rI bP x0.aB.To,rI bF x0.aB.aG,rJ bC x0.aB.aC,rI bJ x0.aE.aF,rI bQ x0.aE.To,rI bG x0.aE.aG,rJ bD x0.aE.aC,rI bU x0.aD,rI bV x0.ab,rI cF x1.aB.aF,rI cP x1.aB.To,rI cB x1.aB.aG,rJ bY x1.aB.aC,rI cG x1.aE.aF,rI cQ x1.aE.To,rI cC x1.aE.aG,rJ bZ x1.aE.aC,rI cY x1.aD,rI dE x1.ab] (fun y (_:Unit)=>[.bool y]) (fun y _=>[]):=by
 refine ct (S:=Unit) (bp fun _ _=>rfl) Tryz.func12 rfl rfl ?_
 repeat' first
  | (apply Dk.fe; repeat' first | exact rfl | (refine @id.{0} _ ?_; constructor))
  | intro _
  | exact rfl
  | (refine @id.{0} _ ?_; constructor)
  | apply c69
  | apply ML
  | exact ()
end Go.Proofs.YtcnehblmgfbfoaaGreat
