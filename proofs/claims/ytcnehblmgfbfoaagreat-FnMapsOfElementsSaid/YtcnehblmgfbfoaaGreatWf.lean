/- Walks by the calculus D. No condition beside those that each theorem names. -/
import Derived.Test.YtcnehblmgfbfoaaGreatDp
import Derived.Test.YtcnehblmgfbfoaaGreatDi
import Derived.Test.YtcnehblmgfbfoaaGreatMo
import Derived.Test.YtcnehblmgfbfoaaGreatDs
import Derived.Test.YtcnehblmgfbfoaaGreatWa
import Derived.Test.YtcnehblmgfbfoaaGreatWb
import Derived.Test.YtcnehblmgfbfoaaGreatWc
import Derived.Test.YtcnehblmgfbfoaaGreatWd
namespace Go.Proofs.YtcnehblmgfbfoaaGreat
open Go Go.Li Go.Dk
set_option linter.unusedVariables false
set_option maxHeartbeats 16000000
set_option maxRecDepth 100000
theorem af2 {x0:aL} {cX:Nat} {bN:Value}:Ct Tryz.prog 250 true (iO x0) [.pointer (some (⟨cX,0,none⟩))] [.row cX [bN,.int .i64 (x0.At),.int .u64 (x0.aj)] 194,.rd false (aV (aN .u8)) bN x0.Code] (fun y (v:Value)=>[v]) (fun y v=>[.own (aJ 22 (aJ 2 (aN .i64))) v y.1,.row cX [bN,.int .i64 y.2.At,.int .u64 y.2.aj] 194]):=by
 refine ct (S:=Unit) (bx fun _ _=>rfl) Tryz.func250 rfl rfl ?_
 repeat' first
  | (apply Dk.fe; repeat' first | exact rfl | (refine @id.{0} _ ?_; constructor))
  | intro _
  | exact rfl
  | apply Dk.D.Ey (d:=2) (x:=.tmp 8)
  | apply Dk.D.Ey (d:=2) (x:=.tmp 13)
  | apply Dk.D.Ey (d:=2) (x:=.tmp 18)
  | apply Dk.D.Ey (d:=2) (x:=.tmp 24)
  | apply Dk.D.Ey (d:=2) (x:=.tmp 30)
  | apply Dk.D.Ey (d:=2) (x:=.tmp 36)
  | apply Dk.D.Ey (d:=2) (x:=.tmp 43)
  | apply Dk.D.Ey (d:=2) (x:=.tmp 47)
  | (refine @id.{0} _ ?_; constructor)
  | apply Al
  | exact ()
theorem af3 {x0:aH} {bA bJ aT aR:Value}:Ct Tryz.prog 252 true (qU x0) [.agg #[.int .i64 (x0.aD),bA,bJ,aT,aR]] [rI bA x0.aG,rI bJ x0.To,rI aT x0.aI,rJ aR x0.aB] (fun y (v:Value×Value×Value×Value)=>[.agg #[.int .i64 y.aD,v.1,v.2.1,v.2.2.1,v.2.2.2]]) (fun y v=>[.own (aJ 2 (aN .i64)) v.1 y.aG,.own (aJ 2 (aN .i64)) v.2.1 y.To,.own (aJ 2 (aN .i64)) v.2.2.1 y.aI,.own (aJ 22 (aJ 2 (aN .i64))) v.2.2.2 y.aB]):=by
 refine ct (S:=Unit) (bx fun _ _=>rfl) Tryz.func252 rfl rfl ?_
 repeat' first
  | (apply Dk.fe; repeat' first | exact rfl | (refine @id.{0} _ ?_; constructor))
  | intro _
  | exact rfl
  | (refine Dk.tV (t:=32) rfl ?_ ?_)
  | (refine @id.{0} _ ?_; constructor)
  | apply Dk.de 0 (V:=Value) (A:=Nat×Value×Value×Value) (_,_,_,_) (fun a (s:Int×(List (List Int))) v=>Dk.pc (fun a0=>Dk.pc (fun a1=>Dk.pc (fun a2 a3=>[.row a0 [.int .i64 (x0.aD),a1,a2,a3,v] 31,.own (aJ 22 (aJ 2 (aN .i64))) v s.2]))) a) (fun a s v=>Dk.pc (fun a0=>Dk.pc (fun a1=>Dk.pc (fun a2 a3=>[(3,.pointer (some ⟨a0,0,none⟩)),(4,.int .i64 (s.1))]))) a) _ [(1,_),(2,_)]
  | apply Dk.loop 2 (V:=Value) (fun (s:(List Int)×Int) v=>[.own (aJ 2 (aN .i64)) v s.1]) (fun s v=>[(5,v),(6,.int .i64 (s.2))]) _ [(1,_),(2,_),(3,_),(4,_)]
  | apply Dk.acm (id:=1) [13,0,1,2,3,4,5,6,7,8,9,10,11,12,14] [1,2,3,4,5,6,7,8,9,10,11,12,13,0,14] [] 14 [] [] [[],[],[1],[],[3],[3,4],[],[6],[3,4,5,6,7],[],[9],[3,4,5,6,7,8,9,10],[],[1,2,3,4,5,6,7,8,9,10,11,12]] (by kernel_rfl)
  | apply Eo
  | exact ()
theorem No {x0:(List Int)} {cO:Value} {x1:Int}:Ct Tryz.prog 123 true (fX x0 x1) [cO,.int .i64 (x1)] [rI cO x0] (fun y (_:Unit)=>[.bool y]) (fun y _=>[]):=by
 refine ct (S:=Unit) (bx fun _ _=>rfl) Tryz.func123 rfl rfl ?_
 repeat' first
  | (apply Dk.fe; repeat' first | exact rfl | (refine @id.{0} _ ?_; constructor))
  | intro _
  | exact rfl
  | (refine @id.{0} _ ?_; constructor)
  | apply Dk.loop 0 (V:=Unit) (fun (s:Int) v=>[]) (fun s v=>[(9,.int .i64 (s))]) () [(1,_),(7,_),(8,_)]
  | apply Y4
  | exact ()
theorem af4 {x0:aH} {cU:Addr} {bA bJ aT aR:Value}:Ct Tryz.prog 267 true (iC x0) [.pointer (some (cU))] [.au cU [.int .i64 (x0.aD),bA,bJ,aT,aR],rI bA x0.aG,rI bJ x0.To,rI aT x0.aI,rJ aR x0.aB] (fun y (_:Unit)=>[.bool y]) (fun y _=>[]):=by
 refine ct (S:=Unit) (bx fun _ _=>rfl) Tryz.func267 rfl rfl ?_
 repeat' first
  | (apply Dk.fe; repeat' first | exact rfl | (refine @id.{0} _ ?_; constructor))
  | intro _
  | exact rfl
  | (refine @id.{0} _ ?_; constructor)
  | apply Dk.loop 0 (V:=Unit) (fun (s:Int) v=>[]) (fun s v=>[(88,.int .i64 (s))]) () [(0,_),(3,_),(86,_),(87,_)]
  | apply Dk.loop 2 (V:=Unit) (fun (s:Int) v=>[]) (fun s v=>[(106,.int .i64 (s))]) () [(0,_),(3,_),(104,_),(105,_)]
  | apply Dk.loop 4 (V:=Unit) (fun (s:Int) v=>[]) (fun s v=>[(117,.int .i64 (s))]) () [(0,_),(3,_),(6,_),(104,_),(105,_),(106,_),(115,_),(116,_)]
  | apply Dk.quiet (id:=2) (by kernel_rfl)
  | apply Dk.quiet (id:=4) (by kernel_rfl)
  | apply Dk.quiet (id:=20) (by kernel_rfl)
  | apply Dk.quiet (id:=23) (by kernel_rfl)
  | apply PN
  | apply Y4
  | apply No
  | apply afD
  | exact ()
theorem Zb {x0:(List Int)} {cO:Value} {x1:Int} {x2:Int}:Ct Tryz.prog 266 true (mK x0 x1 x2) [cO,.int .i64 (x1),.int .i64 (x2)] [rI cO x0] (fun y (_:Unit)=>[.bool y]) (fun y _=>[]):=by
 refine ct (S:=Unit) (bx fun _ _=>rfl) Tryz.func266 rfl rfl ?_
 repeat' first
  | (apply Dk.fe; repeat' first | exact rfl | (refine @id.{0} _ ?_; constructor))
  | intro _
  | exact rfl
  | (refine @id.{0} _ ?_; constructor)
  | apply No
  | exact ()
theorem af5 {x0:(List Int)} {cO:Value} {x1:(List Int)} {dG:Value}:Ct Tryz.prog 165 true (mL x0 x1) [cO,dG] [rI cO x0,rI dG x1] (fun y (_:Unit)=>[.bool y]) (fun y _=>[]):=by
 refine ct (S:=Unit) (bx fun _ _=>rfl) Tryz.func165 rfl rfl ?_
 repeat' first
  | (apply Dk.fe; repeat' first | exact rfl | (refine @id.{0} _ ?_; constructor))
  | intro _
  | exact rfl
  | (refine @id.{0} _ ?_; constructor)
  | apply afJ
  | exact ()
theorem c85 {x0:aH} {cU:Addr} {bA bJ aT aR:Value} {x1:aH} {rC:Addr} {dC dQ cL bY:Value}:Ct Tryz.prog 85 true (iK x0 x1) [.pointer (some (cU)),.pointer (some (rC))] [.au rC [.int .i64 (x1.aD),dC,dQ,cL,bY],.au cU [.int .i64 (x0.aD),bA,bJ,aT,aR],rI bA x0.aG,rI bJ x0.To,rI aT x0.aI,rJ aR x0.aB,rI dC x1.aG,rI dQ x1.To,rI cL x1.aI,rJ bY x1.aB] (fun y (_:Unit)=>[.bool y]) (fun y _=>[]):=by
 refine ct (S:=Unit) (bx fun _ _=>rfl) Tryz.func85 rfl rfl ?_
 repeat' first
  | (apply Dk.fe; repeat' first | exact rfl | (refine @id.{0} _ ?_; constructor))
  | intro _
  | exact rfl
  | (refine @id.{0} _ ?_; constructor)
  | apply Dk.loop 0 (V:=Unit) (fun (s:Int) v=>[]) (fun s v=>[(69,.int .i64 (s))]) () [(0,_),(1,_),(68,_)]
  | apply Dk.quiet (id:=1) (by kernel_rfl)
  | apply Dk.quiet (id:=6) (by kernel_rfl)
  | apply af5
  | exact ()
theorem af6 {x0:aY} {cU:Addr} {cJ cS bR bK cK cT bS bL cZ dD:Value}:Ct Tryz.prog 183 true (jY x0) [.pointer (some (cU))] [.au cU [.int .i64 (x0.aF.aD),cJ,cS,bR,bK,.int .i64 (x0.aM.aD),cK,cT,bS,bL,cZ,dD],rI cJ x0.aF.aG,rI cS x0.aF.To,rI bR x0.aF.aI,rJ bK x0.aF.aB,rI cK x0.aM.aG,rI cT x0.aM.To,rI bS x0.aM.aI,rJ bL x0.aM.aB,rI cZ x0.aD,rI dD x0.bc] (fun y (_:Unit)=>[.bool y]) (fun y _=>[]):=by
 refine ct (S:=Unit) (bx fun _ _=>rfl) Tryz.func183 rfl rfl ?_
 repeat' first
  | (apply Dk.fe; repeat' first | exact rfl | (refine @id.{0} _ ?_; constructor))
  | intro _
  | exact rfl
  | (refine @id.{0} _ ?_; constructor)
  | apply Dk.loop 0 (V:=Unit) (fun (s:Int) v=>[]) (fun s v=>[(66,.int .i64 (s))]) () [(0,_),(3,_),(4,_),(64,_),(65,_)]
  | apply Dk.loop 2 (V:=Unit) (fun (s:Int) v=>[]) (fun s v=>[(121,.int .i64 (s))]) () [(0,_),(3,_),(4,_),(119,_),(120,_)]
  | apply Dk.loop 4 (V:=Unit) (fun (s:Int) v=>[]) (fun s v=>[(153,.int .i64 (s))]) () [(0,_),(4,_),(151,_),(152,_)]
  | apply Dk.loop 6 (V:=Unit) (fun (s:Int) v=>[]) (fun s v=>[(160,.int .i64 (s))]) () [(0,_),(4,_),(9,_),(151,_),(152,_),(153,_),(158,_),(159,_)]
  | apply Dk.quiet (id:=1) (by kernel_rfl)
  | apply Dk.quiet (id:=2) (by kernel_rfl)
  | apply Dk.quiet (id:=7) (by kernel_rfl)
  | apply Dk.quiet (id:=13) (by kernel_rfl)
  | apply Dk.quiet (id:=22) (by kernel_rfl)
  | apply PN
  | apply No
  | apply Y7
  | exact ()
theorem af7 {x0:Int} {x1:(List Int)} {dG:Value}:Ct Tryz.prog 216 true (qT x0 x1) [.int .i64 (x0),dG] [rI dG x1] (fun y (v:Value)=>[v]) (fun y v=>[.own (aJ 2 (aN .i64)) v y]):=by
 refine ct (S:=Unit) (bx fun _ _=>rfl) Tryz.func216 rfl rfl ?_
 repeat' first
  | (apply Dk.fe; repeat' first | exact rfl | (refine @id.{0} _ ?_; constructor))
  | intro _
  | exact rfl
  | (refine @id.{0} _ ?_; constructor)
  | apply Dk.de 0 (V:=Unit) (A:=Value) _ (fun a (s:Int×(List Bool)) v=>[.own (aJ 4 jc) a s.2]) (fun a s v=>[(5,a),(12,.int .i64 (s.1))]) () [(10,_),(11,_)]
  | apply afS
  | exact ()
theorem af8 {x0:bX} {cU:Addr} {bV cB bG bE cM cE bW cC bH bF cN cF dN:Value}:Ct Tryz.prog 132 true (gJ x0) [.pointer (some (cU))] [.au cU [.int .i64 (x0.aF.aC.aD),bV,cB,bG,bE,cM,cE,.int .i64 (x0.aM.aC.aD),bW,cC,bH,bF,cN,cF,dN],rI bV x0.aF.aC.aG,rI cB x0.aF.aC.To,rI bG x0.aF.aC.aI,rJ bE x0.aF.aC.aB,rI cM x0.aF.aP,rJ cE x0.aF.aO,rI bW x0.aM.aC.aG,rI cC x0.aM.aC.To,rI bH x0.aM.aC.aI,rJ bF x0.aM.aC.aB,rI cN x0.aM.aP,rJ cF x0.aM.aO,rJ dN x0.cD] (fun y (_:Unit)=>[.bool y]) (fun y _=>[]):=by
 refine ct (S:=Unit) (bx fun _ _=>rfl) Tryz.func132 rfl rfl ?_
 repeat' first
  | (apply Dk.fe; repeat' first | exact rfl | (refine @id.{0} _ ?_; constructor))
  | intro _
  | exact rfl
  | (refine @id.{0} _ ?_; constructor)
  | apply Dk.loop 0 (V:=Unit) (fun (s:Int) v=>[]) (fun s v=>[(10,.int .i64 (s))]) () [(0,_),(8,_),(9,_)]
  | apply af7
  | exact ()
end Go.Proofs.YtcnehblmgfbfoaaGreat
