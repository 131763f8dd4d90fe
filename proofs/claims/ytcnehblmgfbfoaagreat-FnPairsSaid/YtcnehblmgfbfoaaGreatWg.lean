/- Walks by the calculus D. No condition beside those that each theorem names. -/
import Derived.Test.YtcnehblmgfbfoaaGreatDp
import Derived.Test.YtcnehblmgfbfoaaGreatDi
import Derived.Test.YtcnehblmgfbfoaaGreatMo
import Derived.Test.YtcnehblmgfbfoaaGreatDs
import Derived.Test.YtcnehblmgfbfoaaGreatWb
import Derived.Test.YtcnehblmgfbfoaaGreatWc
import Derived.Test.YtcnehblmgfbfoaaGreatWd
namespace Go.Proofs.YtcnehblmgfbfoaaGreat
open Go Go.Li Go.Dk
set_option linter.unusedVariables false
set_option maxHeartbeats 16000000
set_option maxRecDepth 100000
theorem Ug {x0:aD} {cG:Addr} {aO aR aK aJ:Value} {x1:aD} {iM:Addr} {aT bC aQ aP:Value}:Ct Tryz.prog 85 true (eI x0 x1) [.pointer (some (cG)),.pointer (some (iM))] [.aw iM [.int .i64 (x1.aA),aT,bC,aQ,aP],.aw cG [.int .i64 (x0.aA),aO,aR,aK,aJ],rI aO x0.aB,rI aR x0.To,rI aK x0.aF,rJ aJ x0.aC,rI aT x1.aB,rI bC x1.To,rI aQ x1.aF,rJ aP x1.aC] (fun y (_:Unit)=>[.bool y]) (fun y _=>[]):=by
 refine ct (S:=Unit) (cf fun _ _=>rfl) Tryz.func85 rfl rfl ?_
 repeat' first
  | (apply Dk.fe; repeat' first | exact rfl | (refine @id.{0} _ ?_; constructor))
  | intro _
  | exact rfl
  | (refine @id.{0} _ ?_; constructor)
  | apply Dk.loop 0 (V:=Unit) (fun (s:Int) v=>[]) (fun s v=>[(69,.int .i64 (s))]) () [(0,_),(1,_),(68,_)]
  | apply Dk.quiet (id:=1) (by kernel_rfl)
  | apply Dk.quiet (id:=6) (by kernel_rfl)
  | apply aan
  | exact ()
theorem Lv {x0:aD} {cJ:Nat} {aO aR aK aJ:Value} {yA:aD} {H8 zS:Addr} {A0 DV wN uC:Value} {yB:Int} {zT:Addr} {yC:aD} {H9 zU:Addr} {A3 DW wO uD:Value}:Ct Tryz.prog 166 true (cQ x0 (fun a0 a1=>iC a0 a1 yA yB yC)) [.pointer (some (⟨cJ,0,none⟩)),.func (.func 167) #[] #[.pointer (some (H8)),.pointer (some (zT)),.pointer (some (H9))]] [.row cJ [.int .i64 (x0.aA),aO,aR,aK,aJ] 31,rI aO x0.aB,rI aR x0.To,rI aK x0.aF,.own (aI 22 (aI 2 (aL .i64))) aJ x0.aC,.aw H9 [.pointer (some (zU))],.aw zU [.int .i64 (yC.aA),A3,DW,wO,uD],.aw zT [.int .i64 (yB)],.aw H8 [.pointer (some (zS))],.aw zS [.int .i64 (yA.aA),A0,DV,wN,uC],rI A0 yA.aB,rI DV yA.To,rI wN yA.aF,rJ uC yA.aC,rI A3 yC.aB,rI DW yC.To,rI wO yC.aF,rJ uD yC.aC] (fun y (v:Value)=>[]) (fun y v=>[.row cJ [.int .i64 y.aA,aO,aR,aK,v] 31,.own (aI 22 (aI 2 (aL .i64))) v y.aC]):=by
 refine VL (cf fun _ _=>rfl) Tryz.func166 rfl rfl ?_
 repeat' first
  | (apply Dk.fe; repeat' first | exact rfl | (refine @id.{0} _ ?_; constructor))
  | intro _
  | exact rfl
  | (refine @id.{0} _ ?_; constructor)
  | apply Dk.dg 0 (V:=Unit) (A:=Value) _ (fun a (s:Int×(List (List Int))) v=>[.own (aI 22 (aI 2 (aL .i64))) a s.2]) (fun a s v=>[(19,.int .i64 (s.1))]) () [(0,_),(1,_),(4,_),(18,_)]
  | apply Dk.dg 2 (V:=Unit) (A:=Value) _ (fun a (s:Int×(List (List Int))) v=>[.own (aI 22 (aI 2 (aL .i64))) a s.2]) (fun a s v=>[(38,.int .i64 (s.1))]) () [(0,_),(1,_),(4,_),(5,_),(18,_),(19,_),(37,_)]
  | apply Dk.quiet (id:=10) (by kernel_rfl)
  | apply Dk.any (id:=5) 7 [] [] [[],[0],[0,1],[0,1,2],[],[],[5]] (by kernel_rfl)
  | apply Dk.any (id:=11) 12 [] [] [[],[0],[0,1],[0,1,2],[],[0,1,2,3,4],[0,1,2,3,4,5],[],[],[],[],[8,9,10]] (by kernel_rfl)
  | apply xE
  | apply T6
  | exact ()
theorem Uh {x0:aD} {cG:Addr} {aO aR aK aJ:Value} {x1:aD} {iM:Addr} {aT bC aQ aP:Value}:Ct Tryz.prog 86 true (jH x0 x1) [.pointer (some (cG)),.pointer (some (iM))] [.aw iM [.int .i64 (x1.aA),aT,bC,aQ,aP],.aw cG [.int .i64 (x0.aA),aO,aR,aK,aJ],rI aO x0.aB,rI aR x0.To,rI aK x0.aF,rJ aJ x0.aC,rI aT x1.aB,rI bC x1.To,rI aQ x1.aF,rJ aP x1.aC] (fun y (v:Value×Value×Value×Value)=>[.agg #[.int .i64 y.1.aA,v.1,v.2.1,v.2.2.1,v.2.2.2],.bool y.2]) (fun y v=>[.own (aI 2 (aL .i64)) v.1 y.1.aB,.own (aI 2 (aL .i64)) v.2.1 y.1.To,.own (aI 2 (aL .i64)) v.2.2.1 y.1.aF,.own (aI 22 (aI 2 (aL .i64))) v.2.2.2 y.1.aC]):=by
 refine ct (S:=Unit) (cf fun _ _=>rfl) Tryz.func86 rfl rfl ?_
 repeat' first
  | (apply Dk.fe; repeat' first | exact rfl | (refine @id.{0} _ ?_; constructor))
  | intro _
  | exact rfl
  | (refine @id.{0} _ ?_; constructor)
  | apply Dk.dg 0 (V:=Value×Value) (A:=Nat×Value×Value) (_,_,_) (fun a (s:Int×(List Int)×(List Int)) v=>Dk.pc (fun a0=>Dk.pc (fun a1 a2=>[.row a0 [.int .i64 (ai (x0.aA * x1.aA)),v.1,v.2,a1,a2] 31,.own (aI 2 (aL .i64)) v.1 s.2.1,.own (aI 2 (aL .i64)) v.2 s.2.2])) a) (fun a s v=>Dk.pc (fun a0=>Dk.pc (fun a1 a2=>[(8,.pointer (some ⟨a0,0,none⟩)),(48,.int .i64 (s.1))])) a) (_,_) [(2,_),(3,_),(4,_),(6,_),(7,_),(47,_)]
  | apply Dk.dg 2 (V:=Value×Value) (A:=Nat×Value×Value) (_,_,_) (fun a (s:Int×(List Int)×(List Int)) v=>Dk.pc (fun a0=>Dk.pc (fun a1 a2=>[.row a0 [.int .i64 (ai (x0.aA * x1.aA)),v.1,v.2,a1,a2] 31,.own (aI 2 (aL .i64)) v.1 s.2.1,.own (aI 2 (aL .i64)) v.2 s.2.2])) a) (fun a s v=>Dk.pc (fun a0=>Dk.pc (fun a1 a2=>[(8,.pointer (some ⟨a0,0,none⟩)),(56,.int .i64 (s.1))])) a) (_,_) [(2,_),(3,_),(4,_),(6,_),(7,_),(9,_),(47,_),(48,_),(55,_)]
  | apply Dk.dg 4 (V:=Value) (A:=Nat×Value×Value×Value) (_,_,_,_) (fun a (s:Int×(List Int)) v=>Dk.pc (fun a0=>Dk.pc (fun a1=>Dk.pc (fun a2 a3=>[.row a0 [.int .i64 (ai (x0.aA * x1.aA)),a1,a2,v,a3] 31,.own (aI 2 (aL .i64)) v s.2]))) a) (fun a s v=>Dk.pc (fun a0=>Dk.pc (fun a1=>Dk.pc (fun a2 a3=>[(8,.pointer (some ⟨a0,0,none⟩)),(110,.int .i64 (s.1))]))) a) _ [(2,_),(3,_),(4,_),(7,_),(108,_),(109,_)]
  | apply Dk.dg 6 (V:=Value) (A:=Nat×Value×Value×Value) (_,_,_,_) (fun a (s:Int×(List Int)) v=>Dk.pc (fun a0=>Dk.pc (fun a1=>Dk.pc (fun a2 a3=>[.row a0 [.int .i64 (ai (x0.aA * x1.aA)),a1,a2,v,a3] 31,.own (aI 2 (aL .i64)) v s.2]))) a) (fun a s v=>Dk.pc (fun a0=>Dk.pc (fun a1=>Dk.pc (fun a2 a3=>[(8,.pointer (some ⟨a0,0,none⟩)),(119,.int .i64 (s.1))]))) a) _ [(2,_),(3,_),(4,_),(7,_),(12,_),(108,_),(109,_),(110,_),(117,_),(118,_)]
  | apply Dk.quiet (id:=2) (by kernel_rfl)
  | apply Dk.any (id:=1) 7 [] [] [[],[0],[0,1],[0,1,2],[],[4],[]] (by kernel_rfl)
  | apply Dk.any (id:=11) 20 [] [] [[],[0],[],[2],[2,3],[2,3,4],[],[2,3,4,5,6],[2,3,4,5,6,7],[],[2,3,4,5,6,7,8,9],[],[11],[11,12],[11,12,13],[],[11,12,13,14,15],[11,12,13,14,15,16],[2,3,4,5,6,7,8,9,10,11,12,13,14,15,16,17],[2,3,4,5,6,7,8,9,10,11,12,13,14,15,16,17,18]] (by kernel_rfl)
  | apply Dk.any (id:=12) 20 [] [] [[],[0],[],[2],[2,3],[2,3,4],[],[2,3,4,5,6],[2,3,4,5,6,7],[],[2,3,4,5,6,7,8,9],[],[11],[11,12],[11,12,13],[],[11,12,13,14,15],[11,12,13,14,15,16],[2,3,4,5,6,7,8,9,10,11,12,13,14,15,16,17],[2,3,4,5,6,7,8,9,10,11,12,13,14,15,16,17,18]] (by kernel_rfl)
  | apply xE
  | apply T6
  | apply Lv
  | exact ()
theorem c95 {x0:aD} {aO aR aK aJ:Value} {x1:aD} {aT bC aQ aP:Value}:Ct Tryz.prog 95 true (eE x0 x1) [.agg #[.int .i64 (x0.aA),aO,aR,aK,aJ],.agg #[.int .i64 (x1.aA),aT,bC,aQ,aP]] [rI aO x0.aB,rI aR x0.To,rI aK x0.aF,rJ aJ x0.aC,rI aT x1.aB,rI bC x1.To,rI aQ x1.aF,rJ aP x1.aC] (fun y (_:Unit)=>[.bool y]) (fun y _=>[]):=by
 refine ct (S:=Unit) (cf fun _ _=>rfl) Tryz.func95 rfl rfl ?_
 repeat' first
  | (apply Dk.fe; repeat' first | exact rfl | (refine @id.{0} _ ?_; constructor))
  | intro _
  | exact rfl
  | (refine @id.{0} _ ?_; constructor)
  | apply Pf
  | apply aai
  | exact ()
theorem c26 {x0:aN} {bF bK aY aU bG bL aZ aV bQ bS:Value} {x1:aN} {bT bY bN bH bU bZ bP bI cD cE:Value}:Ct Tryz.prog 26 true (dB x0 x1) [.agg #[.int .i64 (x0.aG.aA),bF,bK,aY,aU,.int .i64 (x0.aH.aA),bG,bL,aZ,aV,bQ,bS],.agg #[.int .i64 (x1.aG.aA),bT,bY,bN,bH,.int .i64 (x1.aH.aA),bU,bZ,bP,bI,cD,cE]] [rI bF x0.aG.aB,rI bK x0.aG.To,rI aY x0.aG.aF,rJ aU x0.aG.aC,rI bG x0.aH.aB,rI bL x0.aH.To,rI aZ x0.aH.aF,rJ aV x0.aH.aC,rI bQ x0.aA,rI bS x0.ae,rI bT x1.aG.aB,rI bY x1.aG.To,rI bN x1.aG.aF,rJ bH x1.aG.aC,rI bU x1.aH.aB,rI bZ x1.aH.To,rI bP x1.aH.aF,rJ bI x1.aH.aC,rI cD x1.aA,rI cE x1.ae] (fun y (_:Unit)=>[.bool y]) (fun y _=>[]):=by
 refine ct (S:=Unit) (cf fun _ _=>rfl) Tryz.func26 rfl rfl ?_
 repeat' first
  | (apply Dk.fe; repeat' first | exact rfl | (refine @id.{0} _ ?_; constructor))
  | intro _
  | exact rfl
  | (refine @id.{0} _ ?_; constructor)
  | apply c95
  | apply Pf
  | exact ()
theorem aaw {x0:aD} {cG:Addr} {aO aR aK aJ:Value} {x1:(List Int)} {cH:Value}:Ct Tryz.prog 181 true (cP x0 x1) [.pointer (some (cG)),cH] [.aw cG [.int .i64 (x0.aA),aO,aR,aK,aJ],rI aO x0.aB,rI aR x0.To,rI aK x0.aF,rJ aJ x0.aC,rI cH x1] (fun y (_:Unit)=>[.bool y]) (fun y _=>[]):=by
 refine ct (S:=Unit) (cf fun _ _=>rfl) Tryz.func181 rfl rfl ?_
 repeat' first
  | (apply Dk.fe; repeat' first | exact rfl | (refine @id.{0} _ ?_; constructor))
  | intro _
  | exact rfl
  | (refine Dk.ry (t:=62) rfl ?_ ?_)
  | (refine @id.{0} _ ?_; constructor)
  | apply Dk.loop 0 (V:=Unit) (fun (s:Int) v=>[]) (fun s v=>[(19,.int .i64 (s))]) () [(0,_),(1,_),(5,_),(17,_),(18,_)]
  | apply Dk.loop 2 (V:=Unit) (fun (s:Int) v=>[]) (fun s v=>[(61,.int .i64 (s))]) () [(0,_),(1,_),(5,_),(7,_),(17,_),(18,_),(19,_),(59,_),(60,_)]
  | apply Dk.quiet (id:=7) (by kernel_rfl)
  | apply aaq
  | apply Ua
  | apply H4
  | exact ()
end Go.Proofs.YtcnehblmgfbfoaaGreat
