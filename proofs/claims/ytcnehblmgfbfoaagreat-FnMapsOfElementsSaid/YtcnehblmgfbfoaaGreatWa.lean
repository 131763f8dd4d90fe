/- Walks by the calculus D. No condition beside those that each theorem names. -/
import Derived.Test.YtcnehblmgfbfoaaGreatDp
import Derived.Test.YtcnehblmgfbfoaaGreatDi
import Derived.Test.YtcnehblmgfbfoaaGreatMo
import Derived.Test.YtcnehblmgfbfoaaGreatDs
namespace Go.Proofs.YtcnehblmgfbfoaaGreat
open Go Go.Li Go.Dk
set_option linter.unusedVariables false
set_option maxHeartbeats 16000000
set_option maxRecDepth 100000
theorem Al {x0:aL} {cX:Nat} {bN:Value} {x1:Int}:Ct Tryz.prog 82 true (aZ x0 x1) [.pointer (some (⟨cX,0,none⟩)),.int .i64 (x1)] [.row cX [bN,.int .i64 (x0.At),.int .u64 (x0.aj)] 194,.rd false (aV (aN .u8)) bN x0.Code] (fun y (_:Unit)=>[.int .i64 y.1]) (fun y _=>[.row cX [bN,.int .i64 y.2.At,.int .u64 y.2.aj] 194]):=by
 refine ct (S:=Unit) (bx fun _ _=>rfl) Tryz.func82 rfl rfl ?_
 repeat' first
  | (apply Dk.fe; repeat' first | exact rfl | (refine @id.{0} _ ?_; constructor))
  | intro _
  | exact rfl
  | apply Dk.D.rV (d:=13)
  | apply Dk.AD.rV (d:=13)
  | apply Dk.D.rV (d:=14)
  | apply Dk.AD.rV (d:=14)
  | apply Dk.D.rV (d:=21)
  | apply Dk.AD.rV (d:=21)
  | apply Dk.D.rV (d:=22)
  | apply Dk.AD.rV (d:=22)
  | apply Dk.D.rV (d:=57)
  | apply Dk.AD.rV (d:=57)
  | (refine @id.{0} _ ?_; constructor)
  | apply Dk.quiet (id:=5) (by kernel_rfl)
  | apply Dk.quiet (id:=6) (by kernel_rfl)
  | exact ()
theorem Nj {x0:(List Int)} {cO:Value} {x1:(List Int)} {dG:Value}:Ct Tryz.prog 137 true (fI x0 x1) [cO,dG] [rI cO x0,rI dG x1] (fun y (_:Unit)=>[.bool y]) (fun y _=>[]):=by
 refine ct (S:=Unit) (bx fun _ _=>rfl) Tryz.func137 rfl rfl ?_
 repeat' first
  | (apply Dk.fe; repeat' first | exact rfl | (refine @id.{0} _ ?_; constructor))
  | intro _
  | exact rfl
  | (refine @id.{0} _ ?_; constructor)
  | apply Dk.loop 0 (V:=Unit) (fun (s:Int) v=>[]) (fun s v=>[(5,.int .i64 (s))]) () [(0,_),(1,_)]
  | apply Dk.quiet (id:=6) (by kernel_rfl)
  | exact ()
theorem c92 {x0:aH} {bA bJ aT aR:Value} {x1:aH} {dC dQ cL bY:Value}:Ct Tryz.prog 92 true (jO x0 x1) [.agg #[.int .i64 (x0.aD),bA,bJ,aT,aR],.agg #[.int .i64 (x1.aD),dC,dQ,cL,bY]] [rI bA x0.aG,rI bJ x0.To,rI aT x0.aI,rJ aR x0.aB,rI dC x1.aG,rI dQ x1.To,rI cL x1.aI,rJ bY x1.aB] (fun y (v:Value×Value×Value×Value)=>[.agg #[.int .i64 y.aD,v.1,v.2.1,v.2.2.1,v.2.2.2]]) (fun y v=>[.own (aJ 2 (aN .i64)) v.1 y.aG,.own (aJ 2 (aN .i64)) v.2.1 y.To,.own (aJ 2 (aN .i64)) v.2.2.1 y.aI,.own (aJ 22 (aJ 2 (aN .i64))) v.2.2.2 y.aB]):=by
 refine ct (S:=Unit) (bx fun _ _=>rfl) Tryz.func92 rfl rfl ?_
 repeat' first
  | (apply Dk.fe; repeat' first | exact rfl | (refine @id.{0} _ ?_; constructor))
  | intro _
  | exact rfl
  | (refine Dk.tV (t:=114) rfl ?_ ?_)
  | (refine Dk.tV (t:=121) rfl ?_ ?_)
  | (refine @id.{0} _ ?_; constructor)
  | apply Dk.de 0 (V:=Value) (A:=Nat×Value×Value×Value) (_,_,_,_) (fun a (s:Int×(List Int)) v=>Dk.pc (fun a0=>Dk.pc (fun a1=>Dk.pc (fun a2 a3=>[.row a0 [.int .i64 (ai (x0.aD * x1.aD)),a1,a2,v,a3] 31,.own (aJ 2 (aN .i64)) v s.2]))) a) (fun a s v=>Dk.pc (fun a0=>Dk.pc (fun a1=>Dk.pc (fun a2 a3=>[(7,.pointer (some ⟨a0,0,none⟩)),(8,.int .i64 (s.1))]))) a) _ [(2,_),(3,_),(4,_),(5,_),(6,_)]
  | apply Dk.de 2 (V:=Value) (A:=Nat×Value×Value×Value) (_,_,_,_) (fun a (s:Int×(List Int)) v=>Dk.pc (fun a0=>Dk.pc (fun a1=>Dk.pc (fun a2 a3=>[.row a0 [.int .i64 (ai (x0.aD * x1.aD)),a1,a2,v,a3] 31,.own (aJ 2 (aN .i64)) v s.2]))) a) (fun a s v=>Dk.pc (fun a0=>Dk.pc (fun a1=>Dk.pc (fun a2 a3=>[(7,.pointer (some ⟨a0,0,none⟩)),(9,.int .i64 (s.1))]))) a) _ [(2,_),(3,_),(4,_),(5,_),(6,_),(8,_)]
  | apply Dk.de 4 (V:=Value×Value×Value) (A:=Nat×Value) (_,_) (fun a (s:Int×(List Int)×(List Int)×(List (List Int))) v=>Dk.pc (fun a0 a1=>[.row a0 [.int .i64 (ai (x0.aD * x1.aD)),v.1,v.2.1,a1,v.2.2] 31,.own (aJ 2 (aN .i64)) v.1 s.2.1,.own (aJ 2 (aN .i64)) v.2.1 s.2.2.1,.own (aJ 22 (aJ 2 (aN .i64))) v.2.2 s.2.2.2]) a) (fun a s v=>Dk.pc (fun a0 a1=>[(7,.pointer (some ⟨a0,0,none⟩)),(10,.int .i64 (s.1))]) a) (_,_,_) [(2,_),(3,_),(4,_),(5,_),(6,_)]
  | apply Dk.de 6 (V:=Value×Value×Value) (A:=Nat×Value) (_,_) (fun a (s:Int×(List Int)×(List Int)×(List (List Int))) v=>Dk.pc (fun a0 a1=>[.row a0 [.int .i64 (ai (x0.aD * x1.aD)),v.1,v.2.1,a1,v.2.2] 31,.own (aJ 2 (aN .i64)) v.1 s.2.1,.own (aJ 2 (aN .i64)) v.2.1 s.2.2.1,.own (aJ 22 (aJ 2 (aN .i64))) v.2.2 s.2.2.2]) a) (fun a s v=>Dk.pc (fun a0 a1=>[(7,.pointer (some ⟨a0,0,none⟩)),(11,.int .i64 (s.1))]) a) (_,_,_) [(2,_),(3,_),(4,_),(5,_),(6,_),(10,_)]
  | apply Dk.loop 8 (V:=Value) (fun (s:(List Int)×Int) v=>[.own (aJ 2 (aN .i64)) v s.1]) (fun s v=>[(12,v),(13,.int .i64 (s.2))]) _ [(2,_),(3,_),(4,_),(5,_),(6,_),(7,_),(10,_),(11,_)]
  | apply Dk.loop 10 (V:=Value) (fun (s:(List Int)×Int) v=>[.own (aJ 2 (aN .i64)) v s.1]) (fun s v=>[(12,v),(14,.int .i64 (s.2))]) _ [(2,_),(3,_),(4,_),(5,_),(6,_),(7,_),(10,_),(11,_),(13,_)]
  | apply Dk.quiet (id:=1) (by kernel_rfl)
  | apply Dk.quiet (id:=27) (by kernel_rfl)
  | apply Dk.any (id:=9) 16 [] [] [[],[0],[],[2],[],[2,3,4],[2,3,4,5],[],[2,3,4,5,6,7],[],[9],[],[9,10,11],[9,10,11,12],[2,3,4,5,6,7,8,9,10,11,12,13],[2,3,4,5,6,7,8,9,10,11,12,13,14]] (by kernel_rfl)
  | apply Dk.any (id:=16) 16 [] [] [[],[0],[],[2],[],[2,3,4],[2,3,4,5],[],[2,3,4,5,6,7],[],[9],[],[9,10,11],[9,10,11,12],[2,3,4,5,6,7,8,9,10,11,12,13],[2,3,4,5,6,7,8,9,10,11,12,13,14]] (by kernel_rfl)
  | apply Dk.any (id:=17) 16 [] [] [[],[0],[],[2],[],[2,3,4],[2,3,4,5],[],[2,3,4,5,6,7],[],[9],[],[9,10,11],[9,10,11,12],[2,3,4,5,6,7,8,9,10,11,12,13],[2,3,4,5,6,7,8,9,10,11,12,13,14]] (by kernel_rfl)
  | exact ()
theorem Y1 {x0:Int} {x1:Int} {x2:Int}:Ct Tryz.prog 257 true (oC x0 x1 x2) [.int .i64 (x0),.int .i64 (x1),.int .i64 (x2)] [] (fun y (_:Unit)=>[.bool y]) (fun y _=>[]):=by
 refine ct (S:=Unit) (bx fun _ _=>rfl) Tryz.func257 rfl rfl ?_
 repeat' first
  | (apply Dk.fe; repeat' first | exact rfl | (refine @id.{0} _ ?_; constructor))
  | intro _
  | exact rfl
  | (refine @id.{0} _ ?_; constructor)
  | exact ()
theorem Y2 {x0:(List Int)} {cO:Value} {x1:Int}:Ct Tryz.prog 292 true (lE x0 x1) [cO,.int .i64 (x1)] [rI cO x0] (fun y (_:Unit)=>[.int .i64 y]) (fun y _=>[]):=by
 refine ct (S:=Unit) (bx fun _ _=>rfl) Tryz.func292 rfl rfl ?_
 repeat' first
  | (apply Dk.fe; repeat' first | exact rfl | (refine @id.{0} _ ?_; constructor))
  | intro _
  | exact rfl
  | (refine @id.{0} _ ?_; constructor)
  | apply Dk.loop 0 (V:=Unit) (fun (s:Int) v=>[]) (fun s v=>[(5,.int .i64 (s))]) () [(0,_),(1,_)]
  | exact ()
theorem afD {x0:aH} {cU:Addr} {bA bJ aT aR:Value} {x1:Int}:Ct Tryz.prog 245 true (gY x0 x1) [.pointer (some (cU)),.int .i64 (x1)] [.au cU [.int .i64 (x0.aD),bA,bJ,aT,aR],rI bA x0.aG,rI bJ x0.To,rI aT x0.aI,rJ aR x0.aB] (fun y (_:Unit)=>[.agg #[.int .i64 y.aG,.int .i64 y.To]]) (fun y _=>[]):=by
 refine ct (S:=Unit) (bx fun _ _=>rfl) Tryz.func245 rfl rfl ?_
 repeat' first
  | (apply Dk.fe; repeat' first | exact rfl | (refine @id.{0} _ ?_; constructor))
  | intro _
  | exact rfl
  | (refine @id.{0} _ ?_; constructor)
  | apply Dk.any (id:=1) 14 [] [] [[],[0],[0,1],[0,1,2],[],[0,1,2,3,4],[0,1,2,3,4,5],[],[7],[7,8],[7,8,9],[],[7,8,9,10,11],[7,8,9,10,11,12]] (by kernel_rfl)
  | exact ()
theorem afE {x0:aK} {cU:Addr} {aW bC aU aS bP bD:Value}:Ct Tryz.prog 190 true (eX x0) [.pointer (some (cU))] [.au cU [.int .i64 (x0.aC.aD),aW,bC,aU,aS,bP,bD],rI aW x0.aC.aG,rI bC x0.aC.To,rI aU x0.aC.aI,rJ aS x0.aC.aB,rI bP x0.aP,rJ bD x0.aO] (fun y (v:Value)=>[v]) (fun y v=>[.own (aJ 22 (aJ 2 (aN .i64))) v y]):=by
 refine ct (S:=Unit) (bx fun _ _=>rfl) Tryz.func190 rfl rfl ?_
 repeat' first
  | (apply Dk.fe; repeat' first | exact rfl | (refine @id.{0} _ ?_; constructor))
  | intro _
  | exact rfl
  | apply Dk.ui (d:=26)
  | (refine @id.{0} _ ?_; constructor)
  | apply Dk.loop 0 (V:=Value) (fun (s:(List (List Int))×Int) v=>[.own (aJ 22 (aJ 2 (aN .i64))) v s.1]) (fun s v=>[(3,v),(13,.int .i64 (s.2))]) _ [(11,_),(12,_)]
  | apply Dk.loop 2 (V:=Value) (fun (s:(List (List Int))×Int) v=>[.own (aJ 22 (aJ 2 (aN .i64))) v s.1]) (fun s v=>[(3,v),(6,.int .i64 (s.2))]) _ [(4,_),(5,_),(11,_),(12,_),(13,_)]
  | exact ()
theorem Nl {x0:(List (List Int))} {cO:Value}:Ct Tryz.prog 129 true (kK x0) [cO] [rJ cO x0] (fun y (_:Unit)=>[.string y]) (fun y _=>[]):=by
 refine ct (S:=Unit) (bx fun _ _=>rfl) Tryz.func129 rfl rfl ?_
 repeat' first
  | (apply Dk.fe; repeat' first | exact rfl | (refine @id.{0} _ ?_; constructor))
  | intro _
  | exact rfl
  | (refine @id.{0} _ ?_; constructor)
  | apply Dk.loop 0 (V:=Value) (fun (s:(List Int)×Int) v=>[.own (aJ 5 (aN .u8)) v s.1]) (fun s v=>[(3,v),(11,.int .i64 (s.2))]) _ [(9,_),(10,_)]
  | apply Dk.loop 2 (V:=Value) (fun (s:(List Int)×Int) v=>[.own (aJ 5 (aN .u8)) v s.1]) (fun s v=>[(3,v),(17,.int .i64 (s.2))]) _ [(9,_),(10,_),(11,_),(15,_),(16,_)]
  | exact ()
theorem afF {x0:(List Int)} {cO:Value} {x1:(List Int)} {dG:Value}:Ct Tryz.prog 173 true (qL x0 x1) [cO,dG] [rI cO x0,rI dG x1] (fun y (v:Value)=>[v]) (fun y v=>[.own (aJ 2 (aN .i64)) v y]):=by
 refine ct (S:=Unit) (bx fun _ _=>rfl) Tryz.func173 rfl rfl ?_
 repeat' first
  | (apply Dk.fe; repeat' first | exact rfl | (refine @id.{0} _ ?_; constructor))
  | intro _
  | exact rfl
  | (refine @id.{0} _ ?_; constructor)
  | apply Dk.de 0 (V:=Unit) (A:=Value) _ (fun a (s:Int×(List Int)) v=>[.own (aJ 2 (aN .i64)) a s.2]) (fun a s v=>[(5,a),(13,.int .i64 (s.1))]) () [(1,_),(11,_),(12,_)]
  | exact ()
end Go.Proofs.YtcnehblmgfbfoaaGreat
