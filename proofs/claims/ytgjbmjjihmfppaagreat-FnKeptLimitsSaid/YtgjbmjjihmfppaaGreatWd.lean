/- Walks by the calculus D. No condition beside those that each theorem names. -/
import Derived.Test.YtgjbmjjihmfppaaGreatDi
import Derived.Test.YtgjbmjjihmfppaaGreatMo
import Derived.Test.YtgjbmjjihmfppaaGreatDp
import Derived.Test.YtgjbmjjihmfppaaGreatDs
namespace Go.Proofs.YtgjbmjjihmfppaaGreat
open Go Go.Li Go.Dk
set_option linter.unusedVariables false
set_option maxHeartbeats 16000000
set_option maxRecDepth 100000
theorem IN {x0:(List (List Int))} {cY:Value}:Ct Tryz.prog 119 true (dB x0) [cY] [.rd false (aB (aB (aC .i64))) cY x0] (fun y (v:Value×Value×Value×Value)=>[.agg #[.int .i64 y.aA,v.1,v.2.1,v.2.2.1,v.2.2.2]]) (fun y v=>[.own (aL 2 (aC .i64)) v.1 y.aF,.own (aL 2 (aC .i64)) v.2.1 y.To,.own (aL 2 (aC .i64)) v.2.2.1 y.aJ,.own (aL 24 (aL 2 (aC .i64))) v.2.2.2 y.aD]):=by
 refine ct (S:=Unit) (ca fun _ _=>rfl) Tryz.func119 rfl rfl ?_
 repeat' first
  | ((first | show Dk.ER _ _ _ | show Dk.ba _ _ | show Dk.EF _ _ _ | show Dk.EO _ _ _ | show Dk.EP _ _ | show Dk.aX _ _ _ _ | show Dk.aq _ _ _ _ | show Dk.Kp _ _ _ _ | show Dk.bn _ _ | show Dk.bb _ _ _ _); repeat' first | exact rfl | (refine @id.{0} _ ?_; constructor))
  | intro _
  | exact rfl
  | (refine Dk.ue (t:=31) rfl ?_ ?_)
  | (refine Dk.ue (t:=93) rfl ?_ ?_)
  | (refine @id.{0} _ ?_; constructor)
  | apply Dk.jr 0 (V:=Value×Value×Value) (A:=Nat×Value×Value) (_,_,_) (fun a (s:(List (List Int))×Int×(List Int)×(List Int)) v=>Dk.pc (fun a0=>Dk.pc (fun a1 a2=>[.row a0 [.int .i64 ((x0.length:Int)),v.2.1,v.2.2,a1,a2] 27,.own (aL 24 (aL 2 (aC .i64))) v.1 s.1,.own (aL 2 (aC .i64)) v.2.1 s.2.2.1,.own (aL 2 (aC .i64)) v.2.2 s.2.2.2])) a) (fun a s v=>Dk.pc (fun a0=>Dk.pc (fun a1 a2=>[(4,v.1),(5,.pointer (some ⟨a0,0,none⟩)),(6,.int .i64 (s.2.1))])) a) (_,_,_) [(0,_),(2,_),(3,_)]
  | apply Dk.jr 2 (V:=Value×Value×Value) (A:=Nat×Value×Value) (_,_,_) (fun a (s:(List Int)×Int×(List Int)×(List Int)) v=>Dk.pc (fun a0=>Dk.pc (fun a1 a2=>[.row a0 [.int .i64 ((x0.length:Int)),v.2.1,v.2.2,a1,a2] 27,.own (aL 2 (aC .i64)) v.1 s.1,.own (aL 2 (aC .i64)) v.2.1 s.2.2.1,.own (aL 2 (aC .i64)) v.2.2 s.2.2.2])) a) (fun a s v=>Dk.pc (fun a0=>Dk.pc (fun a1 a2=>[(5,.pointer (some ⟨a0,0,none⟩)),(7,v.1),(8,.int .i64 (s.2.1))])) a) (_,_,_) [(0,_),(2,_),(3,_),(4,_),(6,_)]
  | apply Dk.jr 4 (V:=Value) (A:=Nat×Value×Value×Value) (_,_,_,_) (fun a (s:Int×(List Int)) v=>Dk.pc (fun a0=>Dk.pc (fun a1=>Dk.pc (fun a2 a3=>[.row a0 [.int .i64 ((x0.length:Int)),a1,a2,v,a3] 27,.own (aL 2 (aC .i64)) v s.2]))) a) (fun a s v=>Dk.pc (fun a0=>Dk.pc (fun a1=>Dk.pc (fun a2 a3=>[(5,.pointer (some ⟨a0,0,none⟩)),(9,.int .i64 (s.1))]))) a) _ [(2,_),(3,_),(4,_)]
  | apply Dk.jr 6 (V:=Value) (A:=Nat×Value×Value×Value) (_,_,_,_) (fun a (s:Int×(List (List Int))) v=>Dk.pc (fun a0=>Dk.pc (fun a1=>Dk.pc (fun a2 a3=>[.row a0 [.int .i64 ((x0.length:Int)),a1,a2,a3,v] 27,.own (aL 24 (aL 2 (aC .i64))) v s.2]))) a) (fun a s v=>Dk.pc (fun a0=>Dk.pc (fun a1=>Dk.pc (fun a2 a3=>[(5,.pointer (some ⟨a0,0,none⟩)),(10,.int .i64 (s.1))]))) a) _ [(2,_),(4,_)]
  | apply Dk.loop 8 (V:=Value) (fun (s:(List Int)×Int) v=>[.own (aL 2 (aC .i64)) v s.1]) (fun s v=>[(11,v),(12,.int .i64 (s.2))]) _ [(2,_),(4,_),(5,_),(10,_)]
  | apply Dk.quiet (id:=28) (by kernel_rfl)
  | apply Dk.quiet (id:=29) (by kernel_rfl)
  | apply Dk.any (id:=19) 10 [] [] [[],[0],[],[],[2,3],[4,2,3],[],[5,4,2,3,6],[7,5,4,2,3,6],[8,7,5,4,2,3,6]] (by kernel_rfl)
  | exact ()
theorem adl {x0:(List Int)} {cY:Value} {x1:(List Int)} {dP:Value}:Ct Tryz.prog 162 true (lO x0 x1) [cY,dP] [.rd false (aB (aC .i64)) cY x0,.rd false (aB (aC .i64)) dP x1] (fun y (_:Unit)=>[.bool y]) (fun y _=>[]):=by
 refine ct (S:=Unit) (ca fun _ _=>rfl) Tryz.func162 rfl rfl ?_
 repeat' first
  | ((first | show Dk.ER _ _ _ | show Dk.ba _ _ | show Dk.EF _ _ _ | show Dk.EO _ _ _ | show Dk.EP _ _ | show Dk.aX _ _ _ _ | show Dk.aq _ _ _ _ | show Dk.Kp _ _ _ _ | show Dk.bn _ _ | show Dk.bb _ _ _ _); repeat' first | exact rfl | (refine @id.{0} _ ?_; constructor))
  | intro _
  | exact rfl
  | (refine @id.{0} _ ?_; constructor)
  | apply Dk.loop 0 (V:=Unit) (fun (s:Int) v=>[]) (fun s v=>[(5,.int .i64 (s))]) () [(0,_),(1,_)]
  | apply Dk.quiet (id:=4) (by kernel_rfl)
  | apply Dk.quiet (id:=5) (by kernel_rfl)
  | exact ()
theorem adm {x0:bP} {sD:Value} {x1:bP} {sE:Value}:Ct Tryz.prog 159 true (iI x0 x1) [.agg #[.int .i64 (x0.aF),.int .i64 (x0.To),sD],.agg #[.int .i64 (x1.aF),.int .i64 (x1.To),sE]] [.rd false (aB (aC .i64)) sD x0.lq,.rd false (aB (aC .i64)) sE x1.lq] (fun y (_:Unit)=>[.bool y]) (fun y _=>[]):=by
 refine ct (S:=Unit) (ca fun _ _=>rfl) Tryz.func159 rfl rfl ?_
 repeat' first
  | ((first | show Dk.ER _ _ _ | show Dk.ba _ _ | show Dk.EF _ _ _ | show Dk.EO _ _ _ | show Dk.EP _ _ | show Dk.aX _ _ _ _ | show Dk.aq _ _ _ _ | show Dk.Kp _ _ _ _ | show Dk.bn _ _ | show Dk.bb _ _ _ _); repeat' first | exact rfl | (refine @id.{0} _ ?_; constructor))
  | intro _
  | exact rfl
  | (refine @id.{0} _ ?_; constructor)
  | apply adl
  | exact ()
theorem WY  : Ct Tryz.prog 104 true (nB) [] [] (fun y (v:Value×Value×Value×Value)=>[.agg #[.int .i64 y.aA,v.1,v.2.1,v.2.2.1,v.2.2.2]]) (fun y v=>[.own (aL 2 (aC .i64)) v.1 y.aF,.own (aL 2 (aC .i64)) v.2.1 y.To,.own (aL 2 (aC .i64)) v.2.2.1 y.aJ,.own (aL 24 (aL 2 (aC .i64))) v.2.2.2 y.aD]):=by
 refine ct (S:=Unit) (ca fun _ _=>rfl) Tryz.func104 rfl rfl ?_
 repeat' first
  | ((first | show Dk.ER _ _ _ | show Dk.ba _ _ | show Dk.EF _ _ _ | show Dk.EO _ _ _ | show Dk.EP _ _ | show Dk.aX _ _ _ _ | show Dk.aq _ _ _ _ | show Dk.Kp _ _ _ _ | show Dk.bn _ _ | show Dk.bb _ _ _ _); repeat' first | exact rfl | (refine @id.{0} _ ?_; constructor))
  | intro _
  | exact rfl
  | (refine @id.{0} _ ?_; constructor)
  | apply IN
  | exact ()
theorem adn {x0:Int} {x1:Int} {x2:Int}:Ct Tryz.prog 141 true (qR x0 x1 x2) [.int .i64 (x0),.int .i64 (x1),.int .i64 (x2)] [] (fun y (_:Unit)=>[.bool y]) (fun y _=>[]):=by
 refine ct (S:=Unit) (ca fun _ _=>rfl) Tryz.func141 rfl rfl ?_
 repeat' first
  | ((first | show Dk.ER _ _ _ | show Dk.ba _ _ | show Dk.EF _ _ _ | show Dk.EO _ _ _ | show Dk.EP _ _ | show Dk.aX _ _ _ _ | show Dk.aq _ _ _ _ | show Dk.Kp _ _ _ _ | show Dk.bn _ _ | show Dk.bb _ _ _ _); repeat' first | exact rfl | (refine @id.{0} _ ?_; constructor))
  | intro _
  | exact rfl
  | (refine @id.{0} _ ?_; constructor)
  | exact ()
theorem WZ {x0:Int} {x1:Int} {x2:Int}:Ct Tryz.prog 92 true (eX x0 x1 x2) [.int .i64 (x0),.int .i64 (x1),.int .i64 (x2)] [] (fun y (_:Unit)=>[.bool y]) (fun y _=>[]):=by
 refine ct (S:=Unit) (ca fun _ _=>rfl) Tryz.func92 rfl rfl ?_
 repeat' first
  | ((first | show Dk.ER _ _ _ | show Dk.ba _ _ | show Dk.EF _ _ _ | show Dk.EO _ _ _ | show Dk.EP _ _ | show Dk.aX _ _ _ _ | show Dk.aq _ _ _ _ | show Dk.Kp _ _ _ _ | show Dk.bn _ _ | show Dk.bb _ _ _ _); repeat' first | exact rfl | (refine @id.{0} _ ?_; constructor))
  | intro _
  | exact rfl
  | (refine @id.{0} _ ?_; constructor)
  | exact ()
theorem W0 {x0:(List Int)} {cY:Value} {x1:Int}:Ct Tryz.prog 93 true (fA x0 x1) [cY,.int .i64 (x1)] [.rd false (aB (aC .i64)) cY x0] (fun y (_:Unit)=>[.bool y]) (fun y _=>[]):=by
 refine ct (S:=Unit) (ca fun _ _=>rfl) Tryz.func93 rfl rfl ?_
 repeat' first
  | ((first | show Dk.ER _ _ _ | show Dk.ba _ _ | show Dk.EF _ _ _ | show Dk.EO _ _ _ | show Dk.EP _ _ | show Dk.aX _ _ _ _ | show Dk.aq _ _ _ _ | show Dk.Kp _ _ _ _ | show Dk.bn _ _ | show Dk.bb _ _ _ _); repeat' first | exact rfl | (refine @id.{0} _ ?_; constructor))
  | intro _
  | exact rfl
  | (refine @id.{0} _ ?_; constructor)
  | apply Dk.loop 0 (V:=Unit) (fun (s:Int) v=>[]) (fun s v=>[(9,.int .i64 (s))]) () [(1,_),(7,_),(8,_)]
  | apply WZ
  | exact ()
theorem Zy {x0:(List Int)} {cY:Value} {x1:(List Int)} {dP:Value}:Ct Tryz.prog 98 true (oJ x0 x1) [cY,dP] [.rd false (aB (aC .i64)) cY x0,.rd false (aB (aC .i64)) dP x1] (fun y (v:Value)=>[v]) (fun y v=>[.own (aL 2 (aC .i64)) v y]):=by
 refine ct (S:=Unit) (ca fun _ _=>rfl) Tryz.func98 rfl rfl ?_
 repeat' first
  | ((first | show Dk.ER _ _ _ | show Dk.ba _ _ | show Dk.EF _ _ _ | show Dk.EO _ _ _ | show Dk.EP _ _ | show Dk.aX _ _ _ _ | show Dk.aq _ _ _ _ | show Dk.Kp _ _ _ _ | show Dk.bn _ _ | show Dk.bb _ _ _ _); repeat' first | exact rfl | (refine @id.{0} _ ?_; constructor))
  | intro _
  | exact rfl
  | (refine @id.{0} _ ?_; constructor)
  | apply Dk.jr 0 (V:=Unit) (A:=Value) _ (fun a (s:Int×(List Int)) v=>[.own (aL 2 (aC .i64)) a s.2]) (fun a s v=>[(5,a),(13,.int .i64 (s.1))]) () [(1,_),(11,_),(12,_)]
  | exact ()
theorem Zz {x0:bE} {qF:Value} {x1:aM} {rA:Addr} {bT:Value} {bZ:Value} {bI:Value} {bG:Value} {bU:Value} {cA:Value} {bJ:Value} {bH:Value} {cJ:Value} {cM:Value}:Ct Tryz.prog 55 true (kG x0 x1) [.agg #[.int .i64 (x0.fv),qF],.pointer (some (rA))] [.au rA [.int .i64 (x1.aE.aA),bT,bZ,bI,bG,.int .i64 (x1.aH.aA),bU,cA,bJ,bH,cJ,cM],.rd false (aB (aC .i64)) qF x0.bw,.rd false (aB (aC .i64)) bT x1.aE.aF,.rd false (aB (aC .i64)) bZ x1.aE.To,.rd false (aB (aC .i64)) bI x1.aE.aJ,.rd false (aB (aB (aC .i64))) bG x1.aE.aD,.rd false (aB (aC .i64)) bU x1.aH.aF,.rd false (aB (aC .i64)) cA x1.aH.To,.rd false (aB (aC .i64)) bJ x1.aH.aJ,.rd false (aB (aB (aC .i64))) bH x1.aH.aD,.rd false (aB (aC .i64)) cJ x1.aA,.rd false (aB (aC .i64)) cM x1.ab] (fun y (v:Value)=>[.agg #[.int .i64 y.fv,v]]) (fun y v=>[.own (aL 2 (aC .i64)) v y.bw]):=by
 refine ct (S:=Unit) (ca fun _ _=>rfl) Tryz.func55 rfl rfl ?_
 repeat' first
  | ((first | show Dk.ER _ _ _ | show Dk.ba _ _ | show Dk.EF _ _ _ | show Dk.EO _ _ _ | show Dk.EP _ _ | show Dk.aX _ _ _ _ | show Dk.aq _ _ _ _ | show Dk.Kp _ _ _ _ | show Dk.bn _ _ | show Dk.bb _ _ _ _); repeat' first | exact rfl | (refine @id.{0} _ ?_; constructor))
  | intro _
  | exact rfl
  | (refine @id.{0} _ ?_; constructor)
  | apply Dk.any (id:=1) 15 [] [] [[],[0],[1,0],[2,1,0],[],[4],[3,2,1,0,5,4],[6,3,2,1,0,5,4],[],[8],[],[10],[11,10],[12,11,10],[9,8,13,12,11,10]] (by kernel_rfl)
  | apply Zy
  | exact ()
theorem ado {x0:aI} {aT:Value} {bB:Value} {aO:Value} {aN:Value} {x1:Int}:Ct Tryz.prog 166 true (jF x0 x1) [.agg #[.int .i64 (x0.aA),aT,bB,aO,aN],.int .i64 (x1)] [.rd false (aB (aC .i64)) aT x0.aF,.rd false (aB (aC .i64)) bB x0.To,.rd false (aB (aC .i64)) aO x0.aJ,.rd false (aB (aB (aC .i64))) aN x0.aD] (fun y (v:Value)=>[v]) (fun y v=>[.own (aL 2 (aC .i64)) v y]):=by
 refine ct (S:=Unit) (ca fun _ _=>rfl) Tryz.func166 rfl rfl ?_
 repeat' first
  | ((first | show Dk.ER _ _ _ | show Dk.ba _ _ | show Dk.EF _ _ _ | show Dk.EO _ _ _ | show Dk.EP _ _ | show Dk.aX _ _ _ _ | show Dk.aq _ _ _ _ | show Dk.Kp _ _ _ _ | show Dk.bn _ _ | show Dk.bb _ _ _ _); repeat' first | exact rfl | (refine @id.{0} _ ?_; constructor))
  | intro _
  | exact rfl
  | (refine @id.{0} _ ?_; constructor)
  | apply Dk.loop 0 (V:=Value) (fun (s:(List Int)×Int) v=>[.own (aL 2 (aC .i64)) v s.1]) (fun s v=>[(5,v),(6,.int .i64 (s.2))]) _ [(1,_),(2,_)]
  | apply Dk.quiet (id:=5) (by kernel_rfl)
  | exact ()
theorem adp {x0:aI} {aT:Value} {bB:Value} {aO:Value} {aN:Value} {x1:Int}:Ct Tryz.prog 167 true (kY x0 x1) [.agg #[.int .i64 (x0.aA),aT,bB,aO,aN],.int .i64 (x1)] [.rd false (aB (aC .i64)) aT x0.aF,.rd false (aB (aC .i64)) bB x0.To,.rd false (aB (aC .i64)) aO x0.aJ,.rd false (aB (aB (aC .i64))) aN x0.aD] (fun y (v:Value)=>[v]) (fun y v=>[.own (aL 2 (aC .i64)) v y]):=by
 refine ct (S:=Unit) (ca fun _ _=>rfl) Tryz.func167 rfl rfl ?_
 repeat' first
  | ((first | show Dk.ER _ _ _ | show Dk.ba _ _ | show Dk.EF _ _ _ | show Dk.EO _ _ _ | show Dk.EP _ _ | show Dk.aX _ _ _ _ | show Dk.aq _ _ _ _ | show Dk.Kp _ _ _ _ | show Dk.bn _ _ | show Dk.bb _ _ _ _); repeat' first | exact rfl | (refine @id.{0} _ ?_; constructor))
  | intro _
  | exact rfl
  | (refine @id.{0} _ ?_; constructor)
  | apply Dk.loop 0 (V:=Value) (fun (s:(List Int)×Int) v=>[.own (aL 2 (aC .i64)) v s.1]) (fun s v=>[(5,v),(6,.int .i64 (s.2))]) _ [(1,_),(2,_)]
  | apply Dk.quiet (id:=5) (by kernel_rfl)
  | exact ()
theorem adq {x0:(List Int)} {cY:Value} {x1:Int}:Ct Tryz.prog 168 true (qC x0 x1) [cY,.int .i64 (x1)] [.rd false (aB (aC .i64)) cY x0] (fun y (_:Unit)=>[.bool y]) (fun y _=>[]):=by
 refine ct (S:=Unit) (ca fun _ _=>rfl) Tryz.func168 rfl rfl ?_
 repeat' first
  | ((first | show Dk.ER _ _ _ | show Dk.ba _ _ | show Dk.EF _ _ _ | show Dk.EO _ _ _ | show Dk.EP _ _ | show Dk.aX _ _ _ _ | show Dk.aq _ _ _ _ | show Dk.Kp _ _ _ _ | show Dk.bn _ _ | show Dk.bb _ _ _ _); repeat' first | exact rfl | (refine @id.{0} _ ?_; constructor))
  | intro _
  | exact rfl
  | (refine @id.{0} _ ?_; constructor)
  | apply Dk.loop 0 (V:=Unit) (fun (s:Int) v=>[]) (fun s v=>[(5,.int .i64 (s))]) () [(0,_),(1,_)]
  | exact ()
theorem adr {x0:aI} {aT:Value} {bB:Value} {aO:Value} {aN:Value} {x1:Int}:Ct Tryz.prog 164 true (jK x0 x1) [.agg #[.int .i64 (x0.aA),aT,bB,aO,aN],.int .i64 (x1)] [.rd false (aB (aC .i64)) aT x0.aF,.rd false (aB (aC .i64)) bB x0.To,.rd false (aB (aC .i64)) aO x0.aJ,.rd false (aB (aB (aC .i64))) aN x0.aD] (fun y (_:Unit)=>[.int .i64 y]) (fun y _=>[]):=by
 refine ct (S:=Unit) (ca fun _ _=>rfl) Tryz.func164 rfl rfl ?_
 repeat' first
  | ((first | show Dk.ER _ _ _ | show Dk.ba _ _ | show Dk.EF _ _ _ | show Dk.EO _ _ _ | show Dk.EP _ _ | show Dk.aX _ _ _ _ | show Dk.aq _ _ _ _ | show Dk.Kp _ _ _ _ | show Dk.bn _ _ | show Dk.bb _ _ _ _); repeat' first | exact rfl | (refine @id.{0} _ ?_; constructor))
  | intro _
  | exact rfl
  | (refine @id.{0} _ ?_; constructor)
  | apply Dk.loop 0 (V:=Unit) (fun (s:Int) v=>[]) (fun s v=>[(7,.int .i64 (s))]) () [(5,_),(6,_)]
  | apply Dk.any (id:=1) 5 [] [] [[],[],[0,1],[],[]] (by kernel_rfl)
  | apply ado
  | apply adp
  | apply adq
  | exact ()
theorem ads {x0:aM} {aU:Value} {aW:Value} {aR:Value} {aP:Value} {aV:Value} {aY:Value} {aS:Value} {aQ:Value} {bC:Value} {bF:Value} {x1:aM} {bT:Value} {bZ:Value} {bI:Value} {bG:Value} {bU:Value} {cA:Value} {bJ:Value} {bH:Value} {cJ:Value} {cM:Value} {x2:(List Int)} {dX:Value} {x3:Int}:Ct Tryz.prog 165 true (iL x0 x1 x2 x3) [.agg #[.int .i64 (x0.aE.aA),aU,aW,aR,aP,.int .i64 (x0.aH.aA),aV,aY,aS,aQ,bC,bF],.agg #[.int .i64 (x1.aE.aA),bT,bZ,bI,bG,.int .i64 (x1.aH.aA),bU,cA,bJ,bH,cJ,cM],dX,.int .i64 (x3)] [.rd false (aB (aC .i64)) aU x0.aE.aF,.rd false (aB (aC .i64)) aW x0.aE.To,.rd false (aB (aC .i64)) aR x0.aE.aJ,.rd false (aB (aB (aC .i64))) aP x0.aE.aD,.rd false (aB (aC .i64)) aV x0.aH.aF,.rd false (aB (aC .i64)) aY x0.aH.To,.rd false (aB (aC .i64)) aS x0.aH.aJ,.rd false (aB (aB (aC .i64))) aQ x0.aH.aD,.rd false (aB (aC .i64)) bC x0.aA,.rd false (aB (aC .i64)) bF x0.ab,.rd false (aB (aC .i64)) bT x1.aE.aF,.rd false (aB (aC .i64)) bZ x1.aE.To,.rd false (aB (aC .i64)) bI x1.aE.aJ,.rd false (aB (aB (aC .i64))) bG x1.aE.aD,.rd false (aB (aC .i64)) bU x1.aH.aF,.rd false (aB (aC .i64)) cA x1.aH.To,.rd false (aB (aC .i64)) bJ x1.aH.aJ,.rd false (aB (aB (aC .i64))) bH x1.aH.aD,.rd false (aB (aC .i64)) cJ x1.aA,.rd false (aB (aC .i64)) cM x1.ab,.rd false (aB (aC .i64)) dX x2] (fun y (_:Unit)=>[.bool y]) (fun y _=>[]):=by
 refine ct (S:=Unit) (ca fun _ _=>rfl) Tryz.func165 rfl rfl ?_
 repeat' first
  | ((first | show Dk.ER _ _ _ | show Dk.ba _ _ | show Dk.EF _ _ _ | show Dk.EO _ _ _ | show Dk.EP _ _ | show Dk.aX _ _ _ _ | show Dk.aq _ _ _ _ | show Dk.Kp _ _ _ _ | show Dk.bn _ _ | show Dk.bb _ _ _ _); repeat' first | exact rfl | (refine @id.{0} _ ?_; constructor))
  | intro _
  | exact rfl
  | (refine @id.{0} _ ?_; constructor)
  | apply Dk.quiet (id:=2) (by kernel_rfl)
  | apply Dk.any (id:=1) 7 [] [[],[],[],[],[],[],[4]] [[],[0],[],[2],[],[],[4,1,0,0,1,0,4,5]] (by kernel_rfl)
  | exact ()
theorem W1 {p:Addr}:Ct Tryz.prog 186 true fK [.agg #[.pointer (some p)]] [] (fun _ (_:Unit)=>[.pointer (some p)]) (fun _ _=>[]):=by
 refine ct (S:=Unit) (ca fun _ _=>rfl) Tryz.func186 rfl rfl ?_
 repeat' first
  | ((first | show Dk.ER _ _ _ | show Dk.ba _ _ | show Dk.EF _ _ _ | show Dk.EO _ _ _ | show Dk.EP _ _ | show Dk.aX _ _ _ _ | show Dk.aq _ _ _ _ | show Dk.Kp _ _ _ _ | show Dk.bn _ _ | show Dk.bb _ _ _ _); repeat' first | exact rfl | (refine @id.{0} _ ?_; constructor))
  | intro _
  | exact rfl
  | (refine @id.{0} _ ?_; constructor)
  | exact ()
end Go.Proofs.YtgjbmjjihmfppaaGreat
