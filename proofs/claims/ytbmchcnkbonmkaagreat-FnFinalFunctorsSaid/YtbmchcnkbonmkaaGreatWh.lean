/- Walks by the calculus D. No condition beside those that each theorem names. -/
import Derived.Test.YtbmchcnkbonmkaaGreatDi
import Derived.Test.YtbmchcnkbonmkaaGreatMo
import Derived.Test.YtbmchcnkbonmkaaGreatDp
import Derived.Test.YtbmchcnkbonmkaaGreatDs
import Derived.Test.YtbmchcnkbonmkaaGreatWa
import Derived.Test.YtbmchcnkbonmkaaGreatWb
import Derived.Test.YtbmchcnkbonmkaaGreatWc
import Derived.Test.YtbmchcnkbonmkaaGreatWd
namespace Go.Proofs.YtbmchcnkbonmkaaGreat
open Go Go.Li Go.Dk
set_option linter.unusedVariables false
set_option maxHeartbeats 16000000
set_option maxRecDepth 100000
theorem afu {x0:Int} {x1:(List Int)} {dD:Value} {x2:(List Int)} {dC:Value}:Ct Tryz.prog 119 false (lO x0 x1 x2) [.int .i64 (x0),dD,dC] [rI dD x1,rI dC x2] (fun y (v:Value)=>[v]) (fun y v=>[.rd false (bG (my wE)) v y]):=by
 refine ct (S:=Unit) yi Tryz.func119 rfl rfl ?_
 repeat' first
  | (apply Dk.fe; repeat' first | exact rfl | (refine @id.{0} _ ?_; constructor))
  | intro _
  | exact rfl
  | (refine (id (α:=@Eq (List Value) _ _) ?_); dsimp only; try exact rfl)
  | apply Dk.WM (t:=152) (S:=wE)
  | apply Dk.WN (t:=152)
  | apply Dk.ixS (t:=152)
  | apply Dk.WR (t:=152) (bJ.mk _ _ _)
  | apply Dk.WO (n:=3)
  | apply Dk.WQ (n:=3)
  | apply Dk.lsS (n:=3)
  | apply Dk.stS (n:=3) (S:=wE) _
  | apply Dk.AD.VW
  | apply Dk.AD.laG (n:=3)
  | apply Dk.AD.VX (n:=3)
  | (refine @id.{0} _ ?_; constructor)
  | apply Dk.xJ 0 (V:=Value) (W:=List (List Value)) (fun (s:(List bJ)×Int) v u=>[.own (aI 155 (jg 3)) v u,.rd false (uC wE) (.bool true) (u,s.1)]) (fun s v u=>[(7,v),(8,.int .i64 (s.2))]) _ _ [(0,_),(1,_),(2,_)]
  | apply Dk.xJ 2 (V:=Value) (W:=List (List Value)) (fun (s:(List bJ)×Int) v u=>[.own (aI 155 (jg 3)) v u,.rd false (uC wE) (.bool true) (u,s.1)]) (fun s v u=>[(7,v),(9,.int .i64 (s.2))]) _ _ [(0,_),(1,_),(2,_)]
  | apply Dk.xJ 4 (V:=Value) (W:=List (List Value)) (fun (s:(List bJ)×Int) v u=>[.own (aI 155 (jg 3)) v u,.rd false (uC wE) (.bool true) (u,s.1)]) (fun s v u=>[(7,v),(10,.int .i64 (s.2))]) _ _ [(0,_),(1,_),(2,_),(9,_)]
  | apply Dk.xJ 6 (V:=Value) (W:=List (List Value)) (fun (s:(List bJ)×Int) v u=>[.own (aI 155 (jg 3)) v u,.rd false (uC wE) (.bool true) (u,s.1)]) (fun s v u=>[(7,v),(11,.int .i64 (s.2))]) _ _ []
  | apply Dk.xJ 8 (V:=Value) (W:=List (List Value)) (fun (s:(List bJ)×Int) v u=>[.own (aI 155 (jg 3)) v u,.rd false (uC wE) (.bool true) (u,s.1)]) (fun s v u=>[(7,v),(12,.int .i64 (s.2))]) _ _ [(11,_)]
  | apply Dk.quiet (id:=12) (by kernel_rfl)
  | apply Dk.quiet (id:=18) (by kernel_rfl)
  | apply Dk.any (id:=13) 19 [0] [[],[],[],[],[],[],[],[],[],[],[],[],[],[],[],[],[],[],[15]] [[],[],[],[1,2],[3,1,2],[4,3,1,2],[],[],[6,7],[8,6,7],[],[],[10,11],[12,10,11],[13,12,10,11],[14,13,12,10,11],[],[16],[15,14,13,12,10,11,17,16,15,14,13,12,10,11]] (by kernel_rfl)
  | apply DE
  | apply ae8
  | exact ()
theorem afv {x0:Int} {x1:(List Int)} {dD:Value} {x2:(List Int)} {dC:Value}:Ct Tryz.prog 104 true (eQ x0 x1 x2) [.int .i64 (x0),dD,dC] [rI dD x1,rI dC x2] (fun y (v:Value×Value×Value×Value)=>[.agg #[.int .i64 y.aA,v.1,v.2.1,v.2.2.1,v.2.2.2]]) (fun y v=>[.own (aI 2 (aL .i64)) v.1 y.aC,.own (aI 2 (aL .i64)) v.2.1 y.To,.own (aI 2 (aL .i64)) v.2.2.1 y.aH,.own (aI 24 (aI 2 (aL .i64))) v.2.2.2 y.aB]):=by
 refine ct (S:=Unit) (bw fun _ _=>rfl) Tryz.func104 rfl rfl ?_
 repeat' first
  | (apply Dk.fe; repeat' first | exact rfl | (refine @id.{0} _ ?_; constructor))
  | intro _
  | exact rfl
  | (refine Dk.uH (t:=83) rfl ?_ ?_)
  | apply Dk.AD.apR (d:=108)
  | (refine Dk.uH (t:=112) rfl ?_ ?_)
  | (refine @id.{0} _ ?_; constructor)
  | apply Dk.je 0 (V:=Value×Value) (A:=Nat×Value×Value) (_,_,_) (fun a (s:Int×(List Int)×(List Int)×(List Int)) v=>Dk.pc (fun a0=>Dk.pc (fun a1 a2=>[.row a0 [.int .i64 (x0),v.1,v.2,a1,a2] 27,.own (aI 2 (aL .i64)) a1 s.2.2.2,.own (aI 2 (aL .i64)) v.1 s.2.1,.own (aI 2 (aL .i64)) v.2 s.2.2.1])) a) (fun a s v=>Dk.pc (fun a0=>Dk.pc (fun a1 a2=>[(8,.pointer (some ⟨a0,0,none⟩)),(9,.int .i64 (s.1))])) a) (_,_) [(6,_),(7,_)]
  | apply Dk.je 2 (V:=Value) (A:=Nat×Value×Value×Value) (_,_,_,_) (fun a (s:Int×(List (List Int))) v=>Dk.pc (fun a0=>Dk.pc (fun a1=>Dk.pc (fun a2 a3=>[.row a0 [.int .i64 (x0),a1,a2,a3,v] 27,.own (aI 24 (aI 2 (aL .i64))) v s.2]))) a) (fun a s v=>Dk.pc (fun a0=>Dk.pc (fun a1=>Dk.pc (fun a2 a3=>[(8,.pointer (some ⟨a0,0,none⟩)),(10,.int .i64 (s.1))]))) a) _ [(6,_),(7,_)]
  | apply Dk.loop 4 (V:=Value) (fun (s:(List Int)×Int) v=>[.own (aI 2 (aL .i64)) v s.1]) (fun s v=>[(11,v),(12,.int .i64 (s.2))]) _ [(6,_),(7,_),(8,_),(10,_)]
  | apply Dk.loop 6 (V:=Unit) (fun (s:Int×Int) v=>[]) (fun s v=>[(13,.int .i64 (s.1)),(15,.int .i64 (s.2))]) () [(6,_),(7,_),(8,_),(10,_),(11,_),(12,_),(14,_)]
  | apply Dk.quiet (id:=20) (by kernel_rfl)
  | apply Dk.quiet (id:=25) (by kernel_rfl)
  | apply Dk.any (id:=6) 8 [] [] [[],[0],[],[],[2,3],[4,2,3],[5,4,2,3],[6,5,4,2,3]] (by kernel_rfl)
  | apply Dk.any (id:=7) 8 [] [] [[],[0],[],[],[2,3],[4,2,3],[5,4,2,3],[6,5,4,2,3]] (by kernel_rfl)
  | apply Dk.any (id:=9) 8 [] [] [[],[0],[],[],[2,3],[4,2,3],[5,4,2,3],[]] (by kernel_rfl)
  | apply Dk.any (id:=21) 11 [] [] [[],[],[0,1],[2,0,1],[3,2,0,1],[4,3,2,0,1],[],[],[6,7],[8,6,7],[9,8,6,7]] (by kernel_rfl)
  | apply afu
  | apply c74
  | apply DE
  | apply afg
  | exact ()
theorem c67 {x0:aG} {aU aZ aN aK:Value} {x1:aG} {bK bY bE bB:Value}:Ct Tryz.prog 67 true (lG x0 x1) [.agg #[.int .i64 (x0.aA),aU,aZ,aN,aK],.agg #[.int .i64 (x1.aA),bK,bY,bE,bB]] [rI aU x0.aC,rI aZ x0.To,rI aN x0.aH,rJ aK x0.aB,rI bK x1.aC,rI bY x1.To,rI bE x1.aH,rJ bB x1.aB] (fun y (_:Unit)=>[.bool y]) (fun y _=>[]):=by
 refine ct (S:=Unit) (bw fun _ _=>rfl) Tryz.func67 rfl rfl ?_
 repeat' first
  | (apply Dk.fe; repeat' first | exact rfl | (refine @id.{0} _ ?_; constructor))
  | intro _
  | exact rfl
  | (apply Dk.WX (t:=4); exact rfl)
  | (refine @id.{0} _ ?_; constructor)
  | apply afi
  | exact ()
theorem c55 {x0:aG} {cS:Addr} {aU aZ aN aK:Value}:Ct Tryz.prog 55 true (gU x0) [.pointer (some (cS))] [.aw cS [.int .i64 (x0.aA),aU,aZ,aN,aK],rI aU x0.aC,rI aZ x0.To,rI aN x0.aH,rJ aK x0.aB] (fun y (_:Unit)=>[.bool y]) (fun y _=>[]):=by
 refine ct (S:=Unit) (bw fun _ _=>rfl) Tryz.func55 rfl rfl ?_
 repeat' first
  | (apply Dk.fe; repeat' first | exact rfl | (refine @id.{0} _ ?_; constructor))
  | intro _
  | exact rfl
  | (refine @id.{0} _ ?_; constructor)
  | apply Dk.loop 0 (V:=Unit) (fun (s:Int) v=>[]) (fun s v=>[(88,.int .i64 (s))]) () [(0,_),(3,_),(86,_),(87,_)]
  | apply Dk.loop 2 (V:=Unit) (fun (s:Int) v=>[]) (fun s v=>[(106,.int .i64 (s))]) () [(0,_),(3,_),(104,_),(105,_)]
  | apply Dk.loop 4 (V:=Unit) (fun (s:Int) v=>[]) (fun s v=>[(117,.int .i64 (s))]) () [(0,_),(3,_),(6,_),(104,_),(105,_),(106,_),(115,_),(116,_)]
  | apply Dk.quiet (id:=2) (by kernel_rfl)
  | apply Dk.quiet (id:=4) (by kernel_rfl)
  | apply Dk.quiet (id:=20) (by kernel_rfl)
  | apply Dk.quiet (id:=23) (by kernel_rfl)
  | apply Lw
  | apply YS
  | apply YT
  | apply c93
  | exact ()
theorem c25 {x0:aG} {cS:Addr} {aU aZ aN aK:Value}:Ct Tryz.prog 25 true (eN x0) [.pointer (some (cS))] [.aw cS [.int .i64 (x0.aA),aU,aZ,aN,aK],rI aU x0.aC,rI aZ x0.To,rI aN x0.aH,rJ aK x0.aB] (fun y (_:Unit)=>[.bool y]) (fun y _=>[]):=by
 refine ct (S:=Unit) (bw fun _ _=>rfl) Tryz.func25 rfl rfl ?_
 repeat' first
  | (apply Dk.fe; repeat' first | exact rfl | (refine @id.{0} _ ?_; constructor))
  | intro _
  | exact rfl
  | (refine @id.{0} _ ?_; constructor)
  | apply c55
  | apply c56
  | exact ()
theorem c52 {x0:aJ} {cS:Addr} {aS aV aQ aO aT aW aR aP bA bC:Value}:Ct Tryz.prog 52 true (kE x0) [.pointer (some (cS))] [.aw cS [.int .i64 (x0.aE.aA),aS,aV,aQ,aO,.int .i64 (x0.aF.aA),aT,aW,aR,aP,bA,bC],rI aS x0.aE.aC,rI aV x0.aE.To,rI aQ x0.aE.aH,rJ aO x0.aE.aB,rI aT x0.aF.aC,rI aW x0.aF.To,rI aR x0.aF.aH,rJ aP x0.aF.aB,rI bA x0.aA,rI bC x0.ah] (fun y (_:Unit)=>[.bool y]) (fun y _=>[]):=by
 refine ct (S:=Unit) (bw fun _ _=>rfl) Tryz.func52 rfl rfl ?_
 repeat' first
  | (apply Dk.fe; repeat' first | exact rfl | (refine @id.{0} _ ?_; constructor))
  | intro _
  | exact rfl
  | (refine @id.{0} _ ?_; constructor)
  | apply Dk.loop 0 (V:=Unit) (fun (s:Int) v=>[]) (fun s v=>[(66,.int .i64 (s))]) () [(0,_),(3,_),(4,_),(64,_),(65,_)]
  | apply Dk.loop 2 (V:=Unit) (fun (s:Int) v=>[]) (fun s v=>[(121,.int .i64 (s))]) () [(0,_),(3,_),(4,_),(119,_),(120,_)]
  | apply Dk.loop 4 (V:=Unit) (fun (s:Int) v=>[]) (fun s v=>[(153,.int .i64 (s))]) () [(0,_),(4,_),(151,_),(152,_)]
  | apply Dk.loop 6 (V:=Unit) (fun (s:Int) v=>[]) (fun s v=>[(160,.int .i64 (s))]) () [(0,_),(4,_),(9,_),(151,_),(152,_),(153,_),(158,_),(159,_)]
  | apply Dk.quiet (id:=1) (by kernel_rfl)
  | apply Dk.quiet (id:=2) (by kernel_rfl)
  | apply Dk.quiet (id:=7) (by kernel_rfl)
  | apply Dk.quiet (id:=13) (by kernel_rfl)
  | apply Dk.quiet (id:=22) (by kernel_rfl)
  | apply Lw
  | apply YT
  | apply JM
  | exact ()
theorem c97 {x0:aJ} {cS:Addr} {aS aV aQ aO aT aW aR aP bA bC:Value} {x1:bD} {gT:Value}:Ct Tryz.prog 97 true (qI x0 x1) [.pointer (some (cS)),.agg #[.int .i64 (x1.da),gT]] [.aw cS [.int .i64 (x0.aE.aA),aS,aV,aQ,aO,.int .i64 (x0.aF.aA),aT,aW,aR,aP,bA,bC],rI aS x0.aE.aC,rI aV x0.aE.To,rI aQ x0.aE.aH,rJ aO x0.aE.aB,rI aT x0.aF.aC,rI aW x0.aF.To,rI aR x0.aF.aH,rJ aP x0.aF.aB,rI bA x0.aA,rI bC x0.ah,rI gT x1.ay] (fun y (_:Unit)=>[.bool y]) (fun y _=>[]):=by
 refine ct (S:=Unit) (bw fun _ _=>rfl) Tryz.func97 rfl rfl ?_
 repeat' first
  | (apply Dk.fe; repeat' first | exact rfl | (refine @id.{0} _ ?_; constructor))
  | intro _
  | exact rfl
  | (refine @id.{0} _ ?_; constructor)
  | apply Dk.loop 0 (V:=Unit) (fun (s:Int) v=>[]) (fun s v=>[(44,.int .i64 (s))]) () [(0,_),(3,_),(5,_),(42,_),(43,_)]
  | apply Dk.loop 2 (V:=Unit) (fun (s:Int) v=>[]) (fun s v=>[(69,.int .i64 (s))]) () [(0,_),(3,_),(5,_),(67,_),(68,_)]
  | apply Dk.quiet (id:=2) (by kernel_rfl)
  | apply Dk.quiet (id:=7) (by kernel_rfl)
  | apply Dk.quiet (id:=13) (by kernel_rfl)
  | apply YS
  | apply Lw
  | apply YT
  | apply c93
  | apply JM
  | exact ()
theorem c64 {x0:lD} {lN:Addr} {eC eS dM dI eD eU dN dJ fE fO:Value} {x1:(List bD)} {dD:Value}:Ct Tryz.prog 64 true (oC x0 x1) [.iface 97 (.agg #[.pointer (some (lN))]),dD] [.aw lN [.int .i64 (x0.eh.aE.aA),eC,eS,dM,dI,.int .i64 (x0.eh.aF.aA),eD,eU,dN,dJ,fE,fO],rI eC x0.eh.aE.aC,rI eS x0.eh.aE.To,rI dM x0.eh.aE.aH,rJ dI x0.eh.aE.aB,rI eD x0.eh.aF.aC,rI eU x0.eh.aF.To,rI dN x0.eh.aF.aH,rJ dJ x0.eh.aF.aB,rI fE x0.eh.aA,rI fO x0.eh.ah,.rd false (bG (my uR)) dD x1] (fun y (_:Unit)=>[.int .i64 y]) (fun y _=>[]):=by
 refine ct (S:=Unit) (bw fun _ _=>rfl) Tryz.func64 rfl rfl ?_
 repeat' first
  | (apply Dk.fe; repeat' first | exact rfl | (refine @id.{0} _ ?_; constructor))
  | intro _
  | exact rfl
  | (refine @id.{0} _ ?_; constructor)
  | apply Dk.loop 0 (V:=Unit) (fun (s:Int) v=>[]) (fun s v=>[(9,.int .i64 (s))]) () [(0,_),(7,_),(8,_)]
  | apply Dk.quiet (id:=4) (by kernel_rfl)
  | apply c97
  | apply Sa
  | exact Dk.Sz (by kernel_rfl)
  | exact ()
end Go.Proofs.YtbmchcnkbonmkaaGreat
