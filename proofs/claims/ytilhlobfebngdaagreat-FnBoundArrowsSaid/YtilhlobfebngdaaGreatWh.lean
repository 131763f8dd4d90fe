/- Walks by the calculus D. No condition beside those that each theorem names. -/
import Derived.Test.YtilhlobfebngdaaGreatDp
import Derived.Test.YtilhlobfebngdaaGreatDi
import Derived.Test.YtilhlobfebngdaaGreatMo
import Derived.Test.YtilhlobfebngdaaGreatDs
import Derived.Test.YtilhlobfebngdaaGreatWa
import Derived.Test.YtilhlobfebngdaaGreatWb
import Derived.Test.YtilhlobfebngdaaGreatWc
import Derived.Test.YtilhlobfebngdaaGreatWd
namespace Go.Proofs.YtilhlobfebngdaaGreat
open Go Go.Li Go.Dk
set_option linter.unusedVariables false
set_option maxHeartbeats 16000000
set_option maxRecDepth 100000
theorem ajo {x0:Int} {x1:(List Int)} {eB:Value} {x2:(List Int)} {eI:Value}:Ct Tryz.prog 150 false (nN x0 x1 x2) [.int .i64 (x0),eB,eI] [rI eB x1,rI eI x2] (fun y (v:Value)=>[v]) (fun y v=>[.rd false (bE (sr xY)) v y]):=by
 refine ct (S:=Unit) C4 Tryz.func150 rfl rfl ?_
 repeat' first
  | (apply Dk.fe; repeat' first | exact rfl | (refine @id.{0} _ ?_; constructor))
  | intro _
  | exact rfl
  | (refine (id (α:=@Eq (List Value) _ _) ?_); dsimp only; try exact rfl)
  | apply Dk.lgS (t:=176) (S:=xY)
  | apply Dk.lnS (t:=176)
  | apply Dk.ixS (t:=176)
  | apply Dk.apS (t:=176) (bZ.mk _ _ _)
  | apply Dk.Va (n:=3)
  | apply Dk.Sy (n:=3)
  | apply Dk.YK (n:=3)
  | apply Dk.stS (n:=3) (S:=xY) _
  | apply Dk.AD.XX
  | apply Dk.AD.laG (n:=3)
  | apply Dk.AD.XY (n:=3)
  | (refine @id.{0} _ ?_; constructor)
  | apply Dk.Gn 0 (V:=Value) (W:=List (List Value)) (fun (s:(List bZ)×Int) v u=>[.own (aI 179 (jx 3)) v u,.rd false (yc xY) (.bool true) (u,s.1)]) (fun s v u=>[(7,v),(8,.int .i64 (s.2))]) _ _ [(0,_),(1,_),(2,_)]
  | apply Dk.Gn 2 (V:=Value) (W:=List (List Value)) (fun (s:(List bZ)×Int) v u=>[.own (aI 179 (jx 3)) v u,.rd false (yc xY) (.bool true) (u,s.1)]) (fun s v u=>[(7,v),(9,.int .i64 (s.2))]) _ _ [(0,_),(1,_),(2,_)]
  | apply Dk.Gn 4 (V:=Value) (W:=List (List Value)) (fun (s:(List bZ)×Int) v u=>[.own (aI 179 (jx 3)) v u,.rd false (yc xY) (.bool true) (u,s.1)]) (fun s v u=>[(7,v),(10,.int .i64 (s.2))]) _ _ [(0,_),(1,_),(2,_),(9,_)]
  | apply Dk.Gn 6 (V:=Value) (W:=List (List Value)) (fun (s:(List bZ)×Int) v u=>[.own (aI 179 (jx 3)) v u,.rd false (yc xY) (.bool true) (u,s.1)]) (fun s v u=>[(7,v),(11,.int .i64 (s.2))]) _ _ []
  | apply Dk.Gn 8 (V:=Value) (W:=List (List Value)) (fun (s:(List bZ)×Int) v u=>[.own (aI 179 (jx 3)) v u,.rd false (yc xY) (.bool true) (u,s.1)]) (fun s v u=>[(7,v),(12,.int .i64 (s.2))]) _ _ [(11,_)]
  | apply Dk.quiet (id:=12) (by kernel_rfl)
  | apply Dk.quiet (id:=18) (by kernel_rfl)
  | apply Dk.any (id:=13) 19 [0] [[],[],[],[],[],[],[],[],[],[],[],[],[],[],[],[],[],[],[15]] [[],[],[],[1,2],[1,2,3],[1,2,3,4],[],[],[6,7],[6,7,8],[],[],[10,11],[10,11,12],[10,11,12,13],[10,11,12,13,14],[],[16],[10,11,12,13,14,15,16,17]] (by kernel_rfl)
  | apply xV
  | apply ai2
  | exact ()
theorem ajp {x0:Int} {x1:(List Int)} {eB:Value} {x2:(List Int)} {eI:Value}:Ct Tryz.prog 133 true (gJ x0 x1 x2) [.int .i64 (x0),eB,eI] [rI eB x1,rI eI x2] (fun y (v:Value×Value×Value×Value)=>[.agg #[.int .i64 y.aA,v.1,v.2.1,v.2.2.1,v.2.2.2]]) (fun y v=>[.own (aI 2 (aL .i64)) v.1 y.aE,.own (aI 2 (aL .i64)) v.2.1 y.To,.own (aI 2 (aL .i64)) v.2.2.1 y.aH,.own (aI 24 (aI 2 (aL .i64))) v.2.2.2 y.aC]):=by
 refine ct (S:=Unit) (bu fun _ _=>rfl) Tryz.func133 rfl rfl ?_
 repeat' first
  | (apply Dk.fe; repeat' first | exact rfl | (refine @id.{0} _ ?_; constructor))
  | intro _
  | exact rfl
  | (refine Dk.uo (t:=83) rfl ?_ ?_)
  | apply Dk.AD.apR (d:=108)
  | (refine Dk.uo (t:=112) rfl ?_ ?_)
  | (refine @id.{0} _ ?_; constructor)
  | apply Dk.iv 0 (V:=Value×Value) (A:=Nat×Value×Value) (_,_,_) (fun a (s:Int×(List Int)×(List Int)×(List Int)) v=>Dk.pc (fun a0=>Dk.pc (fun a1 a2=>[.row a0 [.int .i64 (x0),v.1,v.2,a1,a2] 27,.own (aI 2 (aL .i64)) a1 s.2.2.2,.own (aI 2 (aL .i64)) v.1 s.2.1,.own (aI 2 (aL .i64)) v.2 s.2.2.1])) a) (fun a s v=>Dk.pc (fun a0=>Dk.pc (fun a1 a2=>[(8,.pointer (some ⟨a0,0,none⟩)),(9,.int .i64 (s.1))])) a) (_,_) [(6,_),(7,_)]
  | apply Dk.iv 2 (V:=Value) (A:=Nat×Value×Value×Value) (_,_,_,_) (fun a (s:Int×(List (List Int))) v=>Dk.pc (fun a0=>Dk.pc (fun a1=>Dk.pc (fun a2 a3=>[.row a0 [.int .i64 (x0),a1,a2,a3,v] 27,.own (aI 24 (aI 2 (aL .i64))) v s.2]))) a) (fun a s v=>Dk.pc (fun a0=>Dk.pc (fun a1=>Dk.pc (fun a2 a3=>[(8,.pointer (some ⟨a0,0,none⟩)),(10,.int .i64 (s.1))]))) a) _ [(6,_),(7,_)]
  | apply Dk.loop 4 (V:=Value) (fun (s:(List Int)×Int) v=>[.own (aI 2 (aL .i64)) v s.1]) (fun s v=>[(11,v),(12,.int .i64 (s.2))]) _ [(6,_),(7,_),(8,_),(10,_)]
  | apply Dk.loop 6 (V:=Unit) (fun (s:Int×Int) v=>[]) (fun s v=>[(13,.int .i64 (s.1)),(15,.int .i64 (s.2))]) () [(6,_),(7,_),(8,_),(10,_),(11,_),(12,_),(14,_)]
  | apply Dk.quiet (id:=20) (by kernel_rfl)
  | apply Dk.quiet (id:=25) (by kernel_rfl)
  | apply Dk.any (id:=6) 8 [] [] [[],[0],[],[],[2,3],[2,3,4],[2,3,4,5],[2,3,4,5,6]] (by kernel_rfl)
  | apply Dk.any (id:=7) 8 [] [] [[],[0],[],[],[2,3],[2,3,4],[2,3,4,5],[2,3,4,5,6]] (by kernel_rfl)
  | apply Dk.any (id:=9) 8 [] [] [[],[0],[],[],[2,3],[2,3,4],[2,3,4,5],[]] (by kernel_rfl)
  | apply Dk.any (id:=21) 11 [] [] [[],[],[0,1],[0,1,2],[0,1,2,3],[0,1,2,3,4],[],[],[6,7],[6,7,8],[6,7,8,9]] (by kernel_rfl)
  | apply ajo
  | apply Rp
  | apply xV
  | apply VX
  | exact ()
theorem ajq {x0:aF} {aQ bC aO aN:Value} {x1:aF} {bW cF bF aZ:Value}:Ct Tryz.prog 120 true (nL x0 x1) [.agg #[.int .i64 (x0.aA),aQ,bC,aO,aN],.agg #[.int .i64 (x1.aA),bW,cF,bF,aZ]] [rI aQ x0.aE,rI bC x0.To,rI aO x0.aH,rJ aN x0.aC,rI bW x1.aE,rI cF x1.To,rI bF x1.aH,rJ aZ x1.aC] (fun y (_:Unit)=>[.bool y]) (fun y _=>[]):=by
 refine ct (S:=Unit) (bu fun _ _=>rfl) Tryz.func120 rfl rfl ?_
 repeat' first
  | (apply Dk.fe; repeat' first | exact rfl | (refine @id.{0} _ ?_; constructor))
  | intro _
  | exact rfl
  | (apply Dk.M5 (t:=4); exact rfl)
  | (refine @id.{0} _ ?_; constructor)
  | apply aiO
  | exact ()
theorem c60 {x0:aF} {aQ bC aO aN:Value} {x1:aF} {bW cF bF aZ:Value}:Ct Tryz.prog 60 true (rV x0 x1) [.agg #[.int .i64 (x0.aA),aQ,bC,aO,aN],.agg #[.int .i64 (x1.aA),bW,cF,bF,aZ]] [rI aQ x0.aE,rI bC x0.To,rI aO x0.aH,rJ aN x0.aC,rI bW x1.aE,rI cF x1.To,rI bF x1.aH,rJ aZ x1.aC] (fun y (_:Unit)=>[.bool y]) (fun y _=>[]):=by
 refine ct (S:=Unit) (bu fun _ _=>rfl) Tryz.func60 rfl rfl ?_
 repeat' first
  | (apply Dk.fe; repeat' first | exact rfl | (refine @id.{0} _ ?_; constructor))
  | intro _
  | exact rfl
  | (refine @id.{0} _ ?_; constructor)
  | apply VX
  | apply c89
  | exact ()
theorem ajr {x0:aF} {dM:Addr} {aQ bC aO aN:Value}:Ct Tryz.prog 107 true (jZ x0) [.pointer (some (dM))] [.bc dM [.int .i64 (x0.aA),aQ,bC,aO,aN],rI aQ x0.aE,rI bC x0.To,rI aO x0.aH,rJ aN x0.aC] (fun y (_:Unit)=>[.bool y]) (fun y _=>[]):=by
 refine ct (S:=Unit) (bu fun _ _=>rfl) Tryz.func107 rfl rfl ?_
 repeat' first
  | (apply Dk.fe; repeat' first | exact rfl | (refine @id.{0} _ ?_; constructor))
  | intro _
  | exact rfl
  | (refine @id.{0} _ ?_; constructor)
  | apply Dk.loop 0 (V:=Unit) (fun (s:Int) v=>[]) (fun s v=>[(88,.int .i64 (s))]) () [(0,_),(3,_),(86,_),(87,_)]
  | apply Dk.loop 2 (V:=Unit) (fun (s:Int) v=>[]) (fun s v=>[(106,.int .i64 (s))]) () [(0,_),(3,_),(104,_),(105,_)]
  | apply Dk.loop 4 (V:=Unit) (fun (s:Int) v=>[]) (fun s v=>[(117,.int .i64 (s))]) () [(0,_),(3,_),(6,_),(104,_),(105,_),(106,_),(115,_),(116,_)]
  | apply Dk.quiet (id:=2) (by kernel_rfl)
  | apply Dk.quiet (id:=4) (by kernel_rfl)
  | apply Dk.quiet (id:=20) (by kernel_rfl)
  | apply Dk.quiet (id:=23) (by kernel_rfl)
  | apply LS
  | apply c71
  | apply VW
  | apply c37
  | exact ()
theorem c78 {x0:aF} {dM:Addr} {aQ bC aO aN:Value}:Ct Tryz.prog 78 true (iR x0) [.pointer (some (dM))] [.bc dM [.int .i64 (x0.aA),aQ,bC,aO,aN],rI aQ x0.aE,rI bC x0.To,rI aO x0.aH,rJ aN x0.aC] (fun y (_:Unit)=>[.bool y]) (fun y _=>[]):=by
 refine ct (S:=Unit) (bu fun _ _=>rfl) Tryz.func78 rfl rfl ?_
 repeat' first
  | (apply Dk.fe; repeat' first | exact rfl | (refine @id.{0} _ ?_; constructor))
  | intro _
  | exact rfl
  | (refine @id.{0} _ ?_; constructor)
  | apply ajr
  | apply aiS
  | exact ()
theorem c92 {x0:(List aF)} {cU:Value}:Ct Tryz.prog 92 true (lW x0) [cU] [.rd false (bE (yD SM)) cU x0] (fun y (_:Unit)=>[.bool y]) (fun y _=>[]):=by
 refine ct (S:=Unit) (bu fun _ _=>rfl) Tryz.func92 rfl rfl ?_
 repeat' first
  | (apply Dk.fe; repeat' first | exact rfl | (refine @id.{0} _ ?_; constructor))
  | intro _
  | exact rfl
  | (refine @id.{0} _ ?_; constructor)
  | apply Dk.loop 0 (V:=Unit) (fun (s:Int) v=>[]) (fun s v=>[(7,.int .i64 (s))]) () [(5,_),(6,_)]
  | apply c78
  | exact ()
theorem ajs {a0 a1:Int} {ll:List (List Int)} {mm:List (ByteArray×Int)} {x0:bT} {pl pa pb q3 q1 pm:Addr} {vl va Ru Rv Rw Rx Ry Rz RA RB fo fa fu fj:Value}:Ct Tryz.prog 104 true (gL a0 a1 ll mm x0) [.int .i64 a0,.int .i64 a1,.pointer (some pl),.pointer (some pa),.pointer (some pb)] [.bc pl [vl],.bc pa [va],.bc pb [.pointer (some pm),.pointer (some pm),.func (.func 72) #[] #[.pointer (some q3),.pointer (some q1)]],.bc q3 [.pointer (some pm)],.bc q1 [.pointer (some pm)],.bc pm [.int .i64 x0.On.aB.aA,Ru,Rv,Rw,Rx,.int .i64 x0.On.aG.aA,Ry,Rz,RA,RB,fo,fa,fu,fj],rJ vl ll,.rd false (yL Value.string (Value.int .i64)) va mm,rI Ru x0.On.aB.aE,rI Rv x0.On.aB.To,rI Rw x0.On.aB.aH,rJ Rx x0.On.aB.aC,rI Ry x0.On.aG.aE,rI Rz x0.On.aG.To,rI RA x0.On.aG.aH,rJ RB x0.On.aG.aC,rI fo x0.On.aA,rI fa x0.On.ab,rI fu x0.Unit,rI fj x0.cn] (fun y (_:Unit)=>[.int .i64 y]) (fun _ _=>[]):=by
 refine ct (S:=Unit) (bu fun _ _=>rfl) Tryz.func104 rfl rfl ?_
 repeat' first
  | (apply Dk.fe; repeat' first | exact rfl | (refine @id.{0} _ ?_; constructor))
  | intro _
  | exact rfl
  | apply Dk.lkq (t:=135)
  | (refine @id.{0} _ ?_; constructor)
  | apply Dk.any (id:=2) 22 [] [] [[],[],[1],[1,2],[],[4],[4,5],[],[7],[],[9],[9,10],[],[12],[12,13],[],[15],[15,16],[7,8,9,10,11,12,13,14,15,16,17],[1,2,3,4,5,6,7,8,9,10,11,12,13,14,15,16,17,18],[1,2,3,4,5,6,7,8,9,10,11,12,13,14,15,16,17,18,19],[1,2,3,4,5,6,7,8,9,10,11,12,13,14,15,16,17,18,19,20]] (by kernel_rfl)
  | apply Dk.any (id:=1) 9 [] [] [[],[],[0,1],[0,1,2],[],[],[4,5],[4,5,6],[0,1,2,3]] (by kernel_rfl)
  | apply c72
  | apply Ux
  | exact ()
theorem RC {x0:aF} {dG:Nat} {aQ bC aO aN:Value} {abm:List (List Int)} {abn:List (ByteArray×Int)} {we:bT} {abo abp abq abr abt LU:Addr} {abu abv VY VZ V0 V1 V2 V3 V4 V5 abw abx aby abz:Value}:Ct Tryz.prog 103 true (lR x0 (fun a0 a1=>gL a0 a1 abm abn we)) [.pointer (some (⟨dG,0,none⟩)),.func (.func 104) #[] #[.pointer (some abo),.pointer (some abp),.pointer (some abq)]] [.row dG [.int .i64 (x0.aA),aQ,bC,aO,aN] 27,rI aQ x0.aE,rI bC x0.To,rI aO x0.aH,.own (aI 24 (aI 2 (aL .i64))) aN x0.aC,.bc abo [abu],.bc abp [abv],.bc abq [.pointer (some LU),.pointer (some LU),.func (.func 72) #[] #[.pointer (some abr),.pointer (some abt)]],.bc abr [.pointer (some LU)],.bc abt [.pointer (some LU)],.bc LU [.int .i64 we.On.aB.aA,VY,VZ,V0,V1,.int .i64 we.On.aG.aA,V2,V3,V4,V5,abw,abx,aby,abz],rJ abu abm,.rd false (yL Value.string (Value.int .i64)) abv abn,rI VY we.On.aB.aE,rI VZ we.On.aB.To,rI V0 we.On.aB.aH,rJ V1 we.On.aB.aC,rI V2 we.On.aG.aE,rI V3 we.On.aG.To,rI V4 we.On.aG.aH,rJ V5 we.On.aG.aC,rI abw we.On.aA,rI abx we.On.ab,rI aby we.Unit,rI abz we.cn] (fun y (v:Value)=>[]) (fun y v=>[.row dG [.int .i64 y.aA,aQ,bC,aO,v] 27,.own (aI 24 (aI 2 (aL .i64))) v y.aC]):=by
 refine ctv (bu fun _ _=>rfl) Tryz.func103 rfl rfl ?_
 repeat' first
  | (apply Dk.fe; repeat' first | exact rfl | (refine @id.{0} _ ?_; constructor))
  | intro _
  | exact rfl
  | (refine @id.{0} _ ?_; constructor)
  | apply Dk.iv 0 (V:=Unit) (A:=Value) _ (fun a (s:Int×(List (List Int))) v=>[.own (aI 24 (aI 2 (aL .i64))) a s.2]) (fun a s v=>[(19,.int .i64 (s.1))]) () [(0,_),(1,_),(4,_),(18,_)]
  | apply Dk.iv 2 (V:=Unit) (A:=Value) _ (fun a (s:Int×(List (List Int))) v=>[.own (aI 24 (aI 2 (aL .i64))) a s.2]) (fun a s v=>[(38,.int .i64 (s.1))]) () [(0,_),(1,_),(4,_),(5,_),(18,_),(19,_),(37,_)]
  | apply Dk.quiet (id:=10) (by kernel_rfl)
  | apply Dk.any (id:=5) 7 [] [] [[],[0],[0,1],[0,1,2],[],[],[5]] (by kernel_rfl)
  | apply Dk.any (id:=11) 12 [] [] [[],[0],[0,1],[0,1,2],[],[0,1,2,3,4],[0,1,2,3,4,5],[],[],[],[],[8,9,10]] (by kernel_rfl)
  | apply LS
  | apply ajs
  | exact ()
theorem c73 {x0:bT} {p:Addr} {Ru Rv Rw Rx Ry Rz RA RB fo fa fu fj:Value}:Ct Tryz.prog 73 true (mA x0) [.pointer (some p)] [.bc p [.int .i64 x0.On.aB.aA,Ru,Rv,Rw,Rx,.int .i64 x0.On.aG.aA,Ry,Rz,RA,RB,fo,fa,fu,fj],rI Ru x0.On.aB.aE,rI Rv x0.On.aB.To,rI Rw x0.On.aB.aH,rJ Rx x0.On.aB.aC,rI Ry x0.On.aG.aE,rI Rz x0.On.aG.To,rI RA x0.On.aG.aH,rJ RB x0.On.aG.aC,rI fo x0.On.aA,rI fa x0.On.ab,rI fu x0.Unit,rI fj x0.cn] (fun y (v:Value×Value×Value×Value×Value)=>[.agg #[.int .i64 y.1.aA,v.1,v.2.1,v.2.2.1,v.2.2.2.1],v.2.2.2.2,.bool y.2.2]) (fun y v=>[.own (aI 2 (aL .i64)) v.1 y.1.aE,.own (aI 2 (aL .i64)) v.2.1 y.1.To,.own (aI 2 (aL .i64)) v.2.2.1 y.1.aH,.own (aI 24 (aI 2 (aL .i64))) v.2.2.2.1 y.1.aC,.own (aI 24 (aI 2 (aL .i64))) v.2.2.2.2 y.2.1]):=by
 refine ct (S:=Unit) (bu fun _ _=>rfl) Tryz.func73 rfl rfl ?_
 repeat' first
  | (apply Dk.fe; repeat' first | exact rfl | (refine @id.{0} _ ?_; constructor))
  | intro _
  | exact rfl
  | apply Dk.lkq (t:=135)
  | (apply Dk.acj (T:=(yL Value.string (Value.int .i64))) 19; · (repeat (first | exact Dk.ed.own (by repeat constructor) | apply Dk.ed.there)))
  | (refine @id.{0} _ ?_; constructor)
  | apply Dk.iv 0 (V:=Value) (A:=Nat×Value×Value×Value) (_,_,_,_) (fun a (s:List Int×Int) v=>Dk.pc (fun a0=>Dk.pc (fun a1=>Dk.pc (fun a2 a3=>[.row a0 [.int .i64 x0.On.aB.aA,a1,a2,v,a3] 27,.own (aI 2 (aL .i64)) v s.1]))) a) (fun a s v=>Dk.pc (fun a0=>Dk.pc (fun a1=>Dk.pc (fun a2 a3=>[(8,.pointer (some ⟨a0,0,none⟩)),(36,.int .i64 s.2)]))) a) _ [(0,_),(2,_),(5,_),(6,_),(7,_),(34,_),(35,_)]
  | apply Dk.Sl (id:=6) [10,0,1,2,3,4,5,6,7,8,9,11] [1,2,3,4,5,6,7,8,9,10,0,11] [] 11 [] [] [[],[],[1],[1,2],[1,2,3],[1,2,3,4],[],[6],[],[6,7,8],[1,2,3,4,5,6,7,8,9]] (by kernel_rfl)
  | apply Dk.any (id:=10) 11 [] [] [[],[0],[],[],[],[],[3,4,5],[3,4,5,6],[3,4,5,6,7],[2,3,4,5,6,7,8],[2,3,4,5,6,7,8,9]] (by kernel_rfl)
  | apply Dk.anyS (id:=13) [0,1] [2] [3,4] (by kernel_rfl)
  | apply Dk.quiet (id:=3) (by kernel_rfl)
  | apply c99
  | apply ai0
  | apply c38
  | apply aiU
  | apply Ux
  | apply RC
  | exact ()
theorem c74 {x0:bT} {bI bK bA aT bJ bL bB aU bS bX cG cS:Value}:Ct Tryz.prog 74 true (nX x0) [.agg #[.int .i64 (x0.On.aB.aA),bI,bK,bA,aT,.int .i64 (x0.On.aG.aA),bJ,bL,bB,aU,bS,bX,cG,cS]] [rI bI x0.On.aB.aE,rI bK x0.On.aB.To,rI bA x0.On.aB.aH,rJ aT x0.On.aB.aC,rI bJ x0.On.aG.aE,rI bL x0.On.aG.To,rI bB x0.On.aG.aH,rJ aU x0.On.aG.aC,rI bS x0.On.aA,rI bX x0.On.ab,rI cG x0.Unit,rI cS x0.cn] (fun y (v:Value×Value×Value×Value×Value)=>[.agg #[.int .i64 y.1.aA,v.1,v.2.1,v.2.2.1,v.2.2.2.1],v.2.2.2.2]) (fun y v=>[.own (aI 2 (aL .i64)) v.1 y.1.aE,.own (aI 2 (aL .i64)) v.2.1 y.1.To,.own (aI 2 (aL .i64)) v.2.2.1 y.1.aH,.own (aI 24 (aI 2 (aL .i64))) v.2.2.2.1 y.1.aC,.own (aI 24 (aI 2 (aL .i64))) v.2.2.2.2 y.2]):=by
 refine ct (S:=Unit) (bu fun _ _=>rfl) Tryz.func74 rfl rfl ?_
 repeat' first
  | (apply Dk.fe; repeat' first | exact rfl | (refine @id.{0} _ ?_; constructor))
  | intro _
  | exact rfl
  | (refine Dk.uo (t:=31) rfl ?_ ?_)
  | apply Dk.xM (d:=56)
  | (refine @id.{0} _ ?_; constructor)
  | apply Dk.loop 0 (V:=Value) (fun (s:(List (List Int))×Int) v=>[.own (aI 24 (aI 2 (aL .i64))) v s.1]) (fun s v=>[(5,v),(6,.int .i64 (s.2))]) _ [(1,_),(2,_),(4,_)]
  | apply Dk.loop 2 (V:=Value) (fun (s:(List (List Int))×Int) v=>[.own (aI 24 (aI 2 (aL .i64))) v s.1]) (fun s v=>[(5,v),(7,.int .i64 (s.2))]) _ [(1,_),(2,_),(4,_),(6,_)]
  | apply Dk.loop 4 (V:=Value) (fun (s:(List (List Int))×Int) v=>[.own (aI 24 (aI 2 (aL .i64))) v s.1]) (fun s v=>[(5,v),(9,.int .i64 (s.2))]) _ [(1,_),(2,_),(4,_),(6,_),(7,_),(8,_)]
  | apply Dk.iv 6 (V:=Value) (A:=Nat×Value×Value×Value) (_,_,_,_) (fun a (s:Int×(List Int)) v=>Dk.pc (fun a0=>Dk.pc (fun a1=>Dk.pc (fun a2 a3=>[.row a0 [.int .i64 (x0.On.aB.aA),a1,a2,v,a3] 27,.own (aI 2 (aL .i64)) v s.2]))) a) (fun a s v=>Dk.pc (fun a0=>Dk.pc (fun a1=>Dk.pc (fun a2 a3=>[(10,.pointer (some ⟨a0,0,none⟩)),(11,.int .i64 (s.1))]))) a) _ [(1,_),(2,_),(4,_),(5,_)]
  | apply Dk.iv 8 (V:=Value) (A:=Nat×Value×Value×Value) (_,_,_,_) (fun a (s:Int×(List (List Int))) v=>Dk.pc (fun a0=>Dk.pc (fun a1=>Dk.pc (fun a2 a3=>[.row a0 [.int .i64 (x0.On.aB.aA),a1,a2,a3,v] 27,.own (aI 24 (aI 2 (aL .i64))) v s.2]))) a) (fun a s v=>Dk.pc (fun a0=>Dk.pc (fun a1=>Dk.pc (fun a2 a3=>[(10,.pointer (some ⟨a0,0,none⟩)),(12,.int .i64 (s.1))]))) a) _ [(1,_),(2,_),(5,_)]
  | apply Dk.loop 10 (V:=Value) (fun (s:(List Int)×Int) v=>[.own (aI 2 (aL .i64)) v s.1]) (fun s v=>[(13,v),(14,.int .i64 (s.2))]) _ [(1,_),(2,_),(5,_),(10,_),(12,_)]
  | apply Dk.quiet (id:=26) (by kernel_rfl)
  | apply Dk.quiet (id:=28) (by kernel_rfl)
  | apply Dk.any (id:=9) 8 [] [] [[],[],[],[2],[2,3],[],[2,3,4,5],[2,3,4,5,6]] (by kernel_rfl)
  | apply Dk.Sl (id:=14) [9,0,1,2,3,4,5,6,7,8,10] [1,2,3,4,5,6,7,8,9,0,10] [] 10 [] [] [[],[],[1],[],[3],[],[3,4,5],[],[],[1,2,3,4,5,6,7,8]] (by kernel_rfl)
  | apply Dk.any (id:=18) 13 [] [] [[],[0],[],[],[],[],[5],[],[5,6,7],[5,6,7,8],[3,4,5,6,7,8,9],[2,3,4,5,6,7,8,9,10],[2,3,4,5,6,7,8,9,10,11]] (by kernel_rfl)
  | apply Dk.any (id:=29) 18 [0] [] [[],[],[1],[1,2],[],[4],[4,5],[],[],[8],[8,9],[],[11],[11,12],[],[14],[14,15],[7,8,9,10,11,12,13,14,15,16]] (by kernel_rfl)
  | apply Hj
  | apply abc
  | apply abd
  | apply Rp
  | apply c40
  | exact ()
end Go.Proofs.YtilhlobfebngdaaGreat
