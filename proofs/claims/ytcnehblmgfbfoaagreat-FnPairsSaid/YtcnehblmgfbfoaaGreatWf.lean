/- Walks by the calculus D. No condition beside those that each theorem names. -/
import Derived.Test.YtcnehblmgfbfoaaGreatDp
import Derived.Test.YtcnehblmgfbfoaaGreatDi
import Derived.Test.YtcnehblmgfbfoaaGreatMo
import Derived.Test.YtcnehblmgfbfoaaGreatDs
import Derived.Test.YtcnehblmgfbfoaaGreatWb
import Derived.Test.YtcnehblmgfbfoaaGreatWc
import Derived.Test.YtcnehblmgfbfoaaGreatWd
namespace Go.Proofs.YtcnehblmgfbfoaaGreat
open Go Go.Li Go.Dk
set_option linter.unusedVariables false
set_option maxHeartbeats 16000000
set_option maxRecDepth 100000
theorem Ud {x0:aD} {aO aR aK aJ:Value} {x1:aD} {aT bC aQ aP:Value}:Ct Tryz.prog 101 true (gN x0 x1) [.agg #[.int .i64 (x0.aA),aO,aR,aK,aJ],.agg #[.int .i64 (x1.aA),aT,bC,aQ,aP]] [rI aO x0.aB,rI aR x0.To,rI aK x0.aF,rJ aJ x0.aC,rI aT x1.aB,rI bC x1.To,rI aQ x1.aF,rJ aP x1.aC] (fun y (_:Unit)=>[.bool y]) (fun y _=>[]):=by
 refine ct (S:=Unit) (cf fun _ _=>rfl) Tryz.func101 rfl rfl ?_
 repeat' first
  | (apply Dk.fe; repeat' first | exact rfl | (refine @id.{0} _ ?_; constructor))
  | intro _
  | exact rfl
  | (apply Dk.OB (t:=4); exact rfl)
  | (refine @id.{0} _ ?_; constructor)
  | apply aak
  | exact ()
theorem aas {x0:aD} {cG:Addr} {aO aR aK aJ:Value}:Ct Tryz.prog 267 true (fP x0) [.pointer (some (cG))] [.aw cG [.int .i64 (x0.aA),aO,aR,aK,aJ],rI aO x0.aB,rI aR x0.To,rI aK x0.aF,rJ aJ x0.aC] (fun y (_:Unit)=>[.bool y]) (fun y _=>[]):=by
 refine ct (S:=Unit) (cf fun _ _=>rfl) Tryz.func267 rfl rfl ?_
 repeat' first
  | (apply Dk.fe; repeat' first | exact rfl | (refine @id.{0} _ ?_; constructor))
  | intro _
  | exact rfl
  | (refine @id.{0} _ ?_; constructor)
  | apply Dk.loop 0 (V:=Unit) (fun (s:Int) v=>[]) (fun s v=>[(88,.int .i64 (s))]) () [(0,_),(3,_),(86,_),(87,_)]
  | apply Dk.loop 2 (V:=Unit) (fun (s:Int) v=>[]) (fun s v=>[(106,.int .i64 (s))]) () [(0,_),(3,_),(104,_),(105,_)]
  | apply Dk.loop 4 (V:=Unit) (fun (s:Int) v=>[]) (fun s v=>[(117,.int .i64 (s))]) () [(0,_),(3,_),(6,_),(104,_),(105,_),(106,_),(115,_),(116,_)]
  | apply Dk.quiet (id:=2) (by kernel_rfl)
  | apply Dk.quiet (id:=4) (by kernel_rfl)
  | apply Dk.quiet (id:=20) (by kernel_rfl)
  | apply Dk.quiet (id:=23) (by kernel_rfl)
  | apply xE
  | apply NQ
  | apply NR
  | apply aal
  | exact ()
theorem Ue {x0:aD} {cG:Addr} {aO aR aK aJ:Value}:Ct Tryz.prog 201 true (dA x0) [.pointer (some (cG))] [.aw cG [.int .i64 (x0.aA),aO,aR,aK,aJ],rI aO x0.aB,rI aR x0.To,rI aK x0.aF,rJ aJ x0.aC] (fun y (_:Unit)=>[.bool y]) (fun y _=>[]):=by
 refine ct (S:=Unit) (cf fun _ _=>rfl) Tryz.func201 rfl rfl ?_
 repeat' first
  | (apply Dk.fe; repeat' first | exact rfl | (refine @id.{0} _ ?_; constructor))
  | intro _
  | exact rfl
  | (refine @id.{0} _ ?_; constructor)
  | apply aas
  | apply aaa
  | exact ()
theorem aau {x0:aN} {cG:Addr} {bF bK aY aU bG bL aZ aV bQ bS:Value}:Ct Tryz.prog 183 true (iA x0) [.pointer (some (cG))] [.aw cG [.int .i64 (x0.aG.aA),bF,bK,aY,aU,.int .i64 (x0.aH.aA),bG,bL,aZ,aV,bQ,bS],rI bF x0.aG.aB,rI bK x0.aG.To,rI aY x0.aG.aF,rJ aU x0.aG.aC,rI bG x0.aH.aB,rI bL x0.aH.To,rI aZ x0.aH.aF,rJ aV x0.aH.aC,rI bQ x0.aA,rI bS x0.ae] (fun y (_:Unit)=>[.bool y]) (fun y _=>[]):=by
 refine ct (S:=Unit) (cf fun _ _=>rfl) Tryz.func183 rfl rfl ?_
 repeat' first
  | (apply Dk.fe; repeat' first | exact rfl | (refine @id.{0} _ ?_; constructor))
  | intro _
  | exact rfl
  | (refine @id.{0} _ ?_; constructor)
  | apply Dk.loop 0 (V:=Unit) (fun (s:Int) v=>[]) (fun s v=>[(66,.int .i64 (s))]) () [(0,_),(3,_),(4,_),(64,_),(65,_)]
  | apply Dk.loop 2 (V:=Unit) (fun (s:Int) v=>[]) (fun s v=>[(121,.int .i64 (s))]) () [(0,_),(3,_),(4,_),(119,_),(120,_)]
  | apply Dk.loop 4 (V:=Unit) (fun (s:Int) v=>[]) (fun s v=>[(153,.int .i64 (s))]) () [(0,_),(4,_),(151,_),(152,_)]
  | apply Dk.loop 6 (V:=Unit) (fun (s:Int) v=>[]) (fun s v=>[(160,.int .i64 (s))]) () [(0,_),(4,_),(9,_),(151,_),(152,_),(153,_),(158,_),(159,_)]
  | apply Dk.quiet (id:=1) (by kernel_rfl)
  | apply Dk.quiet (id:=2) (by kernel_rfl)
  | apply Dk.quiet (id:=7) (by kernel_rfl)
  | apply Dk.quiet (id:=13) (by kernel_rfl)
  | apply Dk.quiet (id:=22) (by kernel_rfl)
  | apply xE
  | apply NR
  | apply H4
  | exact ()
theorem Ls {x0:aD} {cJ:Nat} {aO aR aK aJ:Value} {yA:Int} {zS:Addr} {yB:aD} {H6 zT:Addr} {AY DS wL uA:Value} {yC:Int} {zU:Addr} {Dd:aD} {H7 Lt:Addr} {AZ DU wM uB:Value} {Uf:Int} {Lu:Addr}:Ct Tryz.prog 166 true (cQ x0 (fun a0 a1=>jI a0 a1 yA yB yC Dd (aD.mk x0.aA x0.aB x0.To x0.aF []) Uf)) [.pointer (some (⟨cJ,0,none⟩)),.func (.func 178) #[] #[.pointer (some (zS)),.pointer (some (H6)),.pointer (some (zU)),.pointer (some (H7)),.pointer (some (⟨cJ,0,none⟩)),.pointer (some (Lu))]] [.row cJ [.int .i64 (x0.aA),aO,aR,aK,aJ] 31,rI aO x0.aB,rI aR x0.To,rI aK x0.aF,.own (aI 22 (aI 2 (aL .i64))) aJ x0.aC,.aw Lu [.int .i64 (Uf)],.aw H7 [.pointer (some (Lt))],.aw Lt [.int .i64 (Dd.aA),AZ,DU,wM,uB],.aw zU [.int .i64 (yC)],.aw H6 [.pointer (some (zT))],.aw zT [.int .i64 (yB.aA),AY,DS,wL,uA],.aw zS [.int .i64 (yA)],rI AY yB.aB,rI DS yB.To,rI wL yB.aF,rJ uA yB.aC,rI AZ Dd.aB,rI DU Dd.To,rI wM Dd.aF,rJ uB Dd.aC] (fun y (v:Value)=>[]) (fun y v=>[.row cJ [.int .i64 y.aA,aO,aR,aK,v] 31,.own (aI 22 (aI 2 (aL .i64))) v y.aC]):=by
 refine VL (cf fun _ _=>rfl) Tryz.func166 rfl rfl ?_
 repeat' first
  | (apply Dk.fe; repeat' first | exact rfl | (refine @id.{0} _ ?_; constructor))
  | intro _
  | exact rfl
  | (refine @id.{0} _ ?_; constructor)
  | apply Dk.dg 0 (V:=Unit) (A:=Value) _ (fun a (s:Int×(List (List Int))) v=>[.own (aI 22 (aI 2 (aL .i64))) a s.2]) (fun a s v=>[(19,.int .i64 (s.1))]) () [(0,_),(1,_),(4,_),(18,_)]
  | apply Dk.dg 2 (V:=Unit) (A:=Value) _ (fun a (s:Int×(List (List Int))) v=>[.own (aI 22 (aI 2 (aL .i64))) a s.2]) (fun a s v=>[(38,.int .i64 (s.1))]) () [(0,_),(1,_),(4,_),(5,_),(18,_),(19,_),(37,_)]
  | apply Dk.quiet (id:=10) (by kernel_rfl)
  | apply Dk.any (id:=5) 7 [] [] [[],[0],[0,1],[0,1,2],[],[],[5]] (by kernel_rfl)
  | apply Dk.any (id:=11) 12 [] [] [[],[0],[0,1],[0,1,2],[],[0,1,2,3,4],[0,1,2,3,4,5],[],[],[],[],[8,9,10]] (by kernel_rfl)
  | apply xE
  | apply T9
  | exact ()
theorem aav {x0:aD} {cG:Addr} {aO aR aK aJ:Value} {x1:aD} {iM:Addr} {aT bC aQ aP:Value} {x2:Bool}:Ct Tryz.prog 104 true (mZ x0 x1 x2) [.pointer (some (cG)),.pointer (some (iM)),.bool (x2)] [.aw iM [.int .i64 (x1.aA),aT,bC,aQ,aP],.aw cG [.int .i64 (x0.aA),aO,aR,aK,aJ],rI aO x0.aB,rI aR x0.To,rI aK x0.aF,rJ aJ x0.aC,rI aT x1.aB,rI bC x1.To,rI aQ x1.aF,rJ aP x1.aC] (fun y (v:Value×Value×Value×Value)=>[.agg #[.int .i64 y.1.aA,v.1,v.2.1,v.2.2.1,v.2.2.2],.bool y.2]) (fun y v=>[.own (aI 2 (aL .i64)) v.1 y.1.aB,.own (aI 2 (aL .i64)) v.2.1 y.1.To,.own (aI 2 (aL .i64)) v.2.2.1 y.1.aF,.own (aI 22 (aI 2 (aL .i64))) v.2.2.2 y.1.aC]):=by
 refine ct (S:=Unit) (cf fun _ _=>rfl) Tryz.func104 rfl rfl ?_
 repeat' first
  | (apply Dk.fe; repeat' first | exact rfl | (refine @id.{0} _ ?_; constructor))
  | intro _
  | exact rfl
  | (refine @id.{0} _ ?_; constructor)
  | apply Dk.dg 0 (V:=Value×Value) (A:=Nat×Value×Value) (_,_,_) (fun a (s:Int×(List Int)×(List Int)) v=>Dk.pc (fun a0=>Dk.pc (fun a1 a2=>[.row a0 [.int .i64 (ai (x0.aA+x1.aA)),v.1,v.2,a1,a2] 31,.own (aI 2 (aL .i64)) v.1 s.2.1,.own (aI 2 (aL .i64)) v.2 s.2.2])) a) (fun a s v=>Dk.pc (fun a0=>Dk.pc (fun a1 a2=>[(10,.pointer (some ⟨a0,0,none⟩)),(50,.int .i64 (s.1))])) a) (_,_) [(2,_),(3,_),(4,_),(6,_),(8,_),(9,_),(49,_)]
  | apply Dk.dg 2 (V:=Value) (A:=Nat×Value×Value×Value) (_,_,_,_) (fun a (s:Int×(List Int)) v=>Dk.pc (fun a0=>Dk.pc (fun a1=>Dk.pc (fun a2 a3=>[.row a0 [.int .i64 (ai (x0.aA+x1.aA)),a1,a2,v,a3] 31,.own (aI 2 (aL .i64)) v s.2]))) a) (fun a s v=>Dk.pc (fun a0=>Dk.pc (fun a1=>Dk.pc (fun a2 a3=>[(10,.pointer (some ⟨a0,0,none⟩)),(87,.int .i64 (s.1))]))) a) _ [(2,_),(3,_),(4,_),(6,_),(8,_),(9,_),(85,_),(86,_)]
  | apply Dk.dg 4 (V:=Value×Value) (A:=Nat×Value×Value) (_,_,_) (fun a (s:Int×(List Int)×(List Int)) v=>Dk.pc (fun a0=>Dk.pc (fun a1 a2=>[.row a0 [.int .i64 (ai (x0.aA+x1.aA)),v.1,v.2,a1,a2] 31,.own (aI 2 (aL .i64)) v.1 s.2.1,.own (aI 2 (aL .i64)) v.2 s.2.2])) a) (fun a s v=>Dk.pc (fun a0=>Dk.pc (fun a1 a2=>[(10,.pointer (some ⟨a0,0,none⟩)),(15,.int .i64 (s.1))])) a) (_,_) [(3,_),(4,_),(6,_),(8,_),(9,_),(14,_)]
  | apply Dk.dg 6 (V:=Value×Value) (A:=Nat×Value×Value) (_,_,_) (fun a (s:Int×(List Int)×(List Int)) v=>Dk.pc (fun a0=>Dk.pc (fun a1 a2=>[.row a0 [.int .i64 (ai (x0.aA+x1.aA)),v.1,v.2,a1,a2] 31,.own (aI 2 (aL .i64)) v.1 s.2.1,.own (aI 2 (aL .i64)) v.2 s.2.2])) a) (fun a s v=>Dk.pc (fun a0=>Dk.pc (fun a1 a2=>[(10,.pointer (some ⟨a0,0,none⟩)),(16,.int .i64 (s.1))])) a) (_,_) [(3,_),(4,_),(6,_),(8,_),(9,_),(14,_),(15,_)]
  | apply Dk.any (id:=1) 8 [] [] [[],[0],[0,1],[0,1,2],[],[4],[],[]] (by kernel_rfl)
  | apply Dk.Rs (id:=2) [22,0,1,2,3,4,5,6,7,8,9,10,11,12,13,14,15,16,17,18,19,20,21,23] [1,2,3,4,5,6,7,8,9,10,11,12,13,14,15,16,17,18,19,20,21,22,0,23] [] 23 [] [] [[],[],[],[2],[2,3],[2,3,4],[1,2,3,4,5],[],[7],[7,8],[7,8,9],[7,8,9,10],[],[12],[12,13],[12,13,14],[7,8,9,10,11,12,13,14,15],[],[17],[17,18],[17,18,19],[7,8,9,10,11,12,13,14,15,16,17,18,19,20],[1,2,3,4,5,6,7,8,9,10,11,12,13,14,15,16,17,18,19,20,21]] (by kernel_rfl)
  | apply Dk.any (id:=6) 12 [] [] [[],[0],[],[],[3],[3,4],[3,4,5],[],[3,4,5,6,7],[3,4,5,6,7,8],[2,3,4,5,6,7,8,9],[2,3,4,5,6,7,8,9,10]] (by kernel_rfl)
  | apply Dk.any (id:=7) 12 [] [] [[],[0],[],[],[3],[3,4],[3,4,5],[],[3,4,5,6,7],[3,4,5,6,7,8],[2,3,4,5,6,7,8,9],[2,3,4,5,6,7,8,9,10]] (by kernel_rfl)
  | apply xE
  | apply H5
  | apply T9
  | apply Ls
  | exact ()
end Go.Proofs.YtcnehblmgfbfoaaGreat
