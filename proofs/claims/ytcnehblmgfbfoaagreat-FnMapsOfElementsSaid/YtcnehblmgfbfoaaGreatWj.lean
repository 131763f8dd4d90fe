/- Walks by the calculus D. No condition beside those that each theorem names. -/
import Derived.Test.YtcnehblmgfbfoaaGreatDp
import Derived.Test.YtcnehblmgfbfoaaGreatDi
import Derived.Test.YtcnehblmgfbfoaaGreatMo
import Derived.Test.YtcnehblmgfbfoaaGreatDs
import Derived.Test.YtcnehblmgfbfoaaGreatWa
import Derived.Test.YtcnehblmgfbfoaaGreatWd
import Derived.Test.YtcnehblmgfbfoaaGreatWe
import Derived.Test.YtcnehblmgfbfoaaGreatWf
import Derived.Test.YtcnehblmgfbfoaaGreatWg
import Derived.Test.YtcnehblmgfbfoaaGreatWh
namespace Go.Proofs.YtcnehblmgfbfoaaGreat
open Go Go.Li Go.Dk
set_option linter.unusedVariables false
set_option maxHeartbeats 16000000
set_option maxRecDepth 100000
theorem Zr {x0:aL} {cX:Nat} {bN:Value} {x1:aH} {dC dQ cL bY:Value}:Ct Tryz.prog 164 false (mD x0 x1) [.pointer (some (⟨cX,0,none⟩)),.agg #[.int .i64 (x1.aD),dC,dQ,cL,bY]] [.row cX [bN,.int .i64 (x0.At),.int .u64 (x0.aj)] 194,.rd false (aV (aN .u8)) bN x0.Code,rI dC x1.aG,rI dQ x1.To,rI cL x1.aI,rJ bY x1.aB] (fun y (v:Value×Value×Value×Value)=>[.agg #[.int .i64 y.1.aD,v.1,v.2.1,v.2.2.1,v.2.2.2]]) (fun y v=>[rI v.1 y.1.aG,rI v.2.1 y.1.To,rI v.2.2.1 y.1.aI,rJ v.2.2.2 y.1.aB,.row cX [bN,.int .i64 y.2.At,.int .u64 y.2.aj] 194]):=by
 refine ct (S:=Unit) zR Tryz.func164 rfl rfl ?_
 repeat' first
  | (apply Dk.fe; repeat' first | exact rfl | (refine @id.{0} _ ?_; constructor))
  | intro _
  | exact rfl
  | (refine Dk.tV (t:=58) rfl ?_ ?_)
  | apply Dk.slT (t:=22)
  | apply Dk.stN
  | (refine @id.{0} _ ?_; constructor)
  | apply Dk.ru (id:=13) [Dk.aq.row _ _ 194] 6 [] [[],[],[],[],[],[8]] [[],[0],[],[],[3],[2,3,4]] (by kernel_rfl)
  | apply Dk.ru (id:=18) [Dk.aq.row _ _ 194] 13 [] [[],[],[],[],[],[],[],[15],[],[],[],[7],[]] [[],[0],[],[0,1,2],[0,1,2,3],[],[],[5,6],[],[],[9],[5,6,7,8,9,10],[5,6,8,9,10,11]] (by kernel_rfl)
  | apply Dk.ru (id:=21) [Dk.aq.row _ _ 194] 8 [] [[],[],[],[],[],[],[],[10]] [[],[0],[],[],[],[4],[4,5],[3,4,5,6]] (by kernel_rfl)
  | apply Dk.aab (id:=6) 9 (e:=22) (e2:=2) (T:=(aN .i64)) (by kernel_rfl)
  | apply Ep
  | apply Al
  | apply Za
  | exact ()
theorem Zs {x0:aK} {aW bC aU aS bP bD:Value}:Ct Tryz.prog 265 true (lL x0) [.agg #[.int .i64 (x0.aC.aD),aW,bC,aU,aS,bP,bD]] [rI aW x0.aC.aG,rI bC x0.aC.To,rI aU x0.aC.aI,rJ aS x0.aC.aB,rI bP x0.aP,rJ bD x0.aO] (fun y (v:Value×Value×Value×Value×Value×Value)=>[.agg #[.int .i64 y.aC.aD,v.1,v.2.1,v.2.2.1,v.2.2.2.1,v.2.2.2.2.1,v.2.2.2.2.2]]) (fun y v=>[.own (aJ 2 (aN .i64)) v.1 y.aC.aG,.own (aJ 2 (aN .i64)) v.2.1 y.aC.To,.own (aJ 2 (aN .i64)) v.2.2.1 y.aC.aI,.own (aJ 22 (aJ 2 (aN .i64))) v.2.2.2.1 y.aC.aB,.own (aJ 2 (aN .i64)) v.2.2.2.2.1 y.aP,.own (aJ 22 (aJ 2 (aN .i64))) v.2.2.2.2.2 y.aO]):=by
 refine ct (S:=Unit) (bx fun _ _=>rfl) Tryz.func265 rfl rfl ?_
 repeat' first
  | (apply Dk.fe; repeat' first | exact rfl | (refine @id.{0} _ ?_; constructor))
  | intro _
  | exact rfl
  | (refine @id.{0} _ ?_; constructor)
  | apply Dk.any (id:=1) 8 [] [] [[],[0],[0,1],[],[3],[0,1,2,3,4],[],[6]] (by kernel_rfl)
  | apply Ep
  | apply Eo
  | apply GJ
  | exact ()
theorem agt {x0:aL} {cX:Nat} {bN:Value} {x1:aK} {dK dP cY cR eC dS:Value}:Ct Tryz.prog 185 false (pD x0 x1) [.pointer (some (⟨cX,0,none⟩)),.agg #[.int .i64 (x1.aC.aD),dK,dP,cY,cR,eC,dS]] [.row cX [bN,.int .i64 (x0.At),.int .u64 (x0.aj)] 194,.rd false (aV (aN .u8)) bN x0.Code,rI dK x1.aC.aG,rI dP x1.aC.To,rI cY x1.aC.aI,rJ cR x1.aC.aB,rI eC x1.aP,rJ dS x1.aO] (fun y (v:Value×Value×Value×Value×Value×Value)=>[.agg #[.int .i64 y.1.aC.aD,v.1,v.2.1,v.2.2.1,v.2.2.2.1,v.2.2.2.2.1,v.2.2.2.2.2]]) (fun y v=>[rI v.1 y.1.aC.aG,rI v.2.1 y.1.aC.To,rI v.2.2.1 y.1.aC.aI,rJ v.2.2.2.1 y.1.aC.aB,rI v.2.2.2.2.1 y.1.aP,rJ v.2.2.2.2.2 y.1.aO,.row cX [bN,.int .i64 y.2.At,.int .u64 y.2.aj] 194]):=by
 refine ct (S:=Unit) zR Tryz.func185 rfl rfl ?_
 repeat' first
  | (apply Dk.fe; repeat' first | exact rfl | (refine @id.{0} _ ?_; constructor))
  | (intro (v:Value×Value×Value×Value×Value×Value); obtain ⟨_,_,_,_,_,_⟩:=v; dsimp only)
  | intro _
  | exact rfl
  | (refine Dk.tV (t:=34) rfl ?_ ?_)
  | apply Dk.D.rV (d:=72)
  | apply Dk.AD.rV (d:=72)
  | (refine @id.{0} _ ?_; constructor)
  | apply Dk.ru (id:=7) [Dk.aq.row _ _ 194] 10 [] [[],[],[],[],[],[],[12],[],[],[6]] [[],[0],[],[],[3],[3,4],[2,3,4,5],[],[],[2,3,4,5,6,7,8]] (by kernel_rfl)
  | apply Dk.ru (id:=12) [Dk.aq.row _ _ 194] 19 [] [[],[],[],[],[],[],[],[],[],[],[],[],[21],[],[12],[],[14],[],[]] [[],[0],[],[0,1,2],[0,1,2,3],[],[],[6],[],[6,7,8],[6,7,8,9],[6,7,8,9,10],[5,6,7,8,9,10,11],[],[5,6,7,8,9,10,11,12,13],[],[5,6,7,8,9,10,11,13,14,15],[5,6,7,8,9,10,11,13,15,16],[5,6,7,8,9,10,11,13,15,16,17]] (by kernel_rfl)
  | apply Zs
  | apply Al
  | apply Zr
  | apply Za
  | exact ()
theorem agu {x0:aK} {aW bC aU aS bP bD:Value} {x1:aK} {dK dP cY cR eC dS:Value} {x2:(List (List Int))} {kJ:Value}:Ct Tryz.prog 209 true (iY x0 x1 x2) [.agg #[.int .i64 (x0.aC.aD),aW,bC,aU,aS,bP,bD],.agg #[.int .i64 (x1.aC.aD),dK,dP,cY,cR,eC,dS],kJ] [rI aW x0.aC.aG,rI bC x0.aC.To,rI aU x0.aC.aI,rJ aS x0.aC.aB,rI bP x0.aP,rJ bD x0.aO,rI dK x1.aC.aG,rI dP x1.aC.To,rI cY x1.aC.aI,rJ cR x1.aC.aB,rI eC x1.aP,rJ dS x1.aO,rJ kJ x2] (fun y (v:Value×Value×Value×Value×Value×Value×Value×Value×Value×Value×Value×Value×Value)=>[.agg #[.int .i64 y.aF.aC.aD,v.1,v.2.1,v.2.2.1,v.2.2.2.1,v.2.2.2.2.1,v.2.2.2.2.2.1,.int .i64 y.aM.aC.aD,v.2.2.2.2.2.2.1,v.2.2.2.2.2.2.2.1,v.2.2.2.2.2.2.2.2.1,v.2.2.2.2.2.2.2.2.2.1,v.2.2.2.2.2.2.2.2.2.2.1,v.2.2.2.2.2.2.2.2.2.2.2.1,v.2.2.2.2.2.2.2.2.2.2.2.2]]) (fun y v=>[.own (aJ 2 (aN .i64)) v.1 y.aF.aC.aG,.own (aJ 2 (aN .i64)) v.2.1 y.aF.aC.To,.own (aJ 2 (aN .i64)) v.2.2.1 y.aF.aC.aI,.own (aJ 22 (aJ 2 (aN .i64))) v.2.2.2.1 y.aF.aC.aB,.own (aJ 2 (aN .i64)) v.2.2.2.2.1 y.aF.aP,.own (aJ 22 (aJ 2 (aN .i64))) v.2.2.2.2.2.1 y.aF.aO,.own (aJ 2 (aN .i64)) v.2.2.2.2.2.2.1 y.aM.aC.aG,.own (aJ 2 (aN .i64)) v.2.2.2.2.2.2.2.1 y.aM.aC.To,.own (aJ 2 (aN .i64)) v.2.2.2.2.2.2.2.2.1 y.aM.aC.aI,.own (aJ 22 (aJ 2 (aN .i64))) v.2.2.2.2.2.2.2.2.2.1 y.aM.aC.aB,.own (aJ 2 (aN .i64)) v.2.2.2.2.2.2.2.2.2.2.1 y.aM.aP,.own (aJ 22 (aJ 2 (aN .i64))) v.2.2.2.2.2.2.2.2.2.2.2.1 y.aM.aO,.own (aJ 22 (aJ 2 (aN .i64))) v.2.2.2.2.2.2.2.2.2.2.2.2 y.cD]):=by
 refine ct (S:=Unit) (bx fun _ _=>rfl) Tryz.func209 rfl rfl ?_
 repeat' first
  | (apply Dk.fe; repeat' first | exact rfl | (refine @id.{0} _ ?_; constructor))
  | intro _
  | exact rfl
  | (refine @id.{0} _ ?_; constructor)
  | apply Dk.any (id:=1) 5 [] [] [[],[0],[],[0,1,2],[]] (by kernel_rfl)
  | apply Zs
  | apply GJ
  | exact ()
theorem Zt {x0:aH} {cU:Addr} {bA bJ aT aR:Value}:Ct Tryz.prog 201 true (eU x0) [.pointer (some (cU))] [.au cU [.int .i64 (x0.aD),bA,bJ,aT,aR],rI bA x0.aG,rI bJ x0.To,rI aT x0.aI,rJ aR x0.aB] (fun y (_:Unit)=>[.bool y]) (fun y _=>[]):=by
 refine ct (S:=Unit) (bx fun _ _=>rfl) Tryz.func201 rfl rfl ?_
 repeat' first
  | (apply Dk.fe; repeat' first | exact rfl | (refine @id.{0} _ ?_; constructor))
  | intro _
  | exact rfl
  | (refine @id.{0} _ ?_; constructor)
  | apply af4
  | apply agk
  | exact ()
theorem agv {x0:aK} {cU:Addr} {aW bC aU aS bP bD:Value}:Ct Tryz.prog 187 true (gK x0) [.pointer (some (cU))] [.au cU [.int .i64 (x0.aC.aD),aW,bC,aU,aS,bP,bD],rI aW x0.aC.aG,rI bC x0.aC.To,rI aU x0.aC.aI,rJ aS x0.aC.aB,rI bP x0.aP,rJ bD x0.aO] (fun y (_:Unit)=>[.bool y]) (fun y _=>[]):=by
 refine ct (S:=Unit) (bx fun _ _=>rfl) Tryz.func187 rfl rfl ?_
 repeat' first
  | (apply Dk.fe; repeat' first | exact rfl | (refine @id.{0} _ ?_; constructor))
  | intro _
  | exact rfl
  | (refine @id.{0} _ ?_; constructor)
  | apply Dk.loop 0 (V:=Unit) (fun (s:Int) v=>[]) (fun s v=>[(47,.int .i64 (s))]) () [(0,_),(3,_),(45,_),(46,_)]
  | apply Dk.quiet (id:=2) (by kernel_rfl)
  | apply Dk.quiet (id:=7) (by kernel_rfl)
  | apply Zt
  | apply No
  | apply PN
  | apply Zb
  | exact ()
theorem c40 {x0:aY} {cJ cS bR bK cK cT bS bL cZ dD:Value} {x1:aY} {eV fV eD dX eW fW eF dY hY iN:Value}:Ct Tryz.prog 40 true (lC x0 x1) [.agg #[.int .i64 (x0.aF.aD),cJ,cS,bR,bK,.int .i64 (x0.aM.aD),cK,cT,bS,bL,cZ,dD],.agg #[.int .i64 (x1.aF.aD),eV,fV,eD,dX,.int .i64 (x1.aM.aD),eW,fW,eF,dY,hY,iN]] [rI cJ x0.aF.aG,rI cS x0.aF.To,rI bR x0.aF.aI,rJ bK x0.aF.aB,rI cK x0.aM.aG,rI cT x0.aM.To,rI bS x0.aM.aI,rJ bL x0.aM.aB,rI cZ x0.aD,rI dD x0.bc,rI eV x1.aF.aG,rI fV x1.aF.To,rI eD x1.aF.aI,rJ dX x1.aF.aB,rI eW x1.aM.aG,rI fW x1.aM.To,rI eF x1.aM.aI,rJ dY x1.aM.aB,rI hY x1.aD,rI iN x1.bc] (fun y (_:Unit)=>[.bool y]) (fun y _=>[]):=by
 refine ct (S:=Unit) (bx fun _ _=>rfl) Tryz.func40 rfl rfl ?_
 repeat' first
  | (apply Dk.fe; repeat' first | exact rfl | (refine @id.{0} _ ?_; constructor))
  | intro _
  | exact rfl
  | (refine @id.{0} _ ?_; constructor)
  | apply c47
  | apply Y8
  | exact ()
theorem agw {x0:(List aH)} {cO:Value}:Ct Tryz.prog 171 true (jS x0) [cO] [.rd false (aV (wU QP)) cO x0] (fun y (_:Unit)=>[.bool y]) (fun y _=>[]):=by
 refine ct (S:=Unit) (bx fun _ _=>rfl) Tryz.func171 rfl rfl ?_
 repeat' first
  | (apply Dk.fe; repeat' first | exact rfl | (refine @id.{0} _ ?_; constructor))
  | intro _
  | exact rfl
  | (refine @id.{0} _ ?_; constructor)
  | apply Dk.loop 0 (V:=Unit) (fun (s:Int) v=>[]) (fun s v=>[(7,.int .i64 (s))]) () [(5,_),(6,_)]
  | apply Zt
  | exact ()
end Go.Proofs.YtcnehblmgfbfoaaGreat
