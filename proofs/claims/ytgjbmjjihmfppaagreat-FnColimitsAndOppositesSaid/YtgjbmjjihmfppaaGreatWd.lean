/- Walks by the calculus D. No condition beside those that each theorem names. -/
import Derived.Test.YtgjbmjjihmfppaaGreatDp
import Derived.Test.YtgjbmjjihmfppaaGreatDi
import Derived.Test.YtgjbmjjihmfppaaGreatMo
import Derived.Test.YtgjbmjjihmfppaaGreatDs
namespace Go.Proofs.YtgjbmjjihmfppaaGreat
open Go Go.Li Go.Dk
set_option linter.unusedVariables false
set_option maxHeartbeats 16000000
set_option maxRecDepth 100000
theorem JG {x0:(List (List Int))} {dC:Value}:Ct Tryz.prog 119 true (dI x0) [dC] [rJ dC x0] (fun y (v:Value×Value×Value×Value)=>[.agg #[.int .i64 y.aA,v.1,v.2.1,v.2.2.1,v.2.2.2]]) (fun y v=>[.own (aJ 2 (aM .i64)) v.1 y.aD,.own (aJ 2 (aM .i64)) v.2.1 y.To,.own (aJ 2 (aM .i64)) v.2.2.1 y.aH,.own (aJ 24 (aJ 2 (aM .i64))) v.2.2.2 y.aB]):=by
 refine ct (S:=Unit) (b9 fun _ _=>rfl) Tryz.func119 rfl rfl ?_
 repeat' first
  | (apply Dk.fe; repeat' first | exact rfl | (refine @id.{0} _ ?_; constructor))
  | intro _
  | exact rfl
  | (refine Dk.uP (t:=31) rfl ?_ ?_)
  | (refine Dk.uP (t:=93) rfl ?_ ?_)
  | (refine @id.{0} _ ?_; constructor)
  | apply Dk.j6 0 (V:=Value×Value×Value) (A:=Nat×Value×Value) (_,_,_) (fun a (s:(List (List Int))×Int×(List Int)×(List Int)) v=>Dk.pc (fun a0=>Dk.pc (fun a1 a2=>[.row a0 [.int .i64 ((x0.length:Int)),v.2.1,v.2.2,a1,a2] 27,.own (aJ 24 (aJ 2 (aM .i64))) v.1 s.1,.own (aJ 2 (aM .i64)) v.2.1 s.2.2.1,.own (aJ 2 (aM .i64)) v.2.2 s.2.2.2])) a) (fun a s v=>Dk.pc (fun a0=>Dk.pc (fun a1 a2=>[(4,v.1),(5,.pointer (some ⟨a0,0,none⟩)),(6,.int .i64 (s.2.1))])) a) (_,_,_) [(0,_),(2,_),(3,_)]
  | apply Dk.j6 2 (V:=Value×Value×Value) (A:=Nat×Value×Value) (_,_,_) (fun a (s:(List Int)×Int×(List Int)×(List Int)) v=>Dk.pc (fun a0=>Dk.pc (fun a1 a2=>[.row a0 [.int .i64 ((x0.length:Int)),v.2.1,v.2.2,a1,a2] 27,.own (aJ 2 (aM .i64)) v.1 s.1,.own (aJ 2 (aM .i64)) v.2.1 s.2.2.1,.own (aJ 2 (aM .i64)) v.2.2 s.2.2.2])) a) (fun a s v=>Dk.pc (fun a0=>Dk.pc (fun a1 a2=>[(5,.pointer (some ⟨a0,0,none⟩)),(7,v.1),(8,.int .i64 (s.2.1))])) a) (_,_,_) [(0,_),(2,_),(3,_),(4,_),(6,_)]
  | apply Dk.j6 4 (V:=Value) (A:=Nat×Value×Value×Value) (_,_,_,_) (fun a (s:Int×(List Int)) v=>Dk.pc (fun a0=>Dk.pc (fun a1=>Dk.pc (fun a2 a3=>[.row a0 [.int .i64 ((x0.length:Int)),a1,a2,v,a3] 27,.own (aJ 2 (aM .i64)) v s.2]))) a) (fun a s v=>Dk.pc (fun a0=>Dk.pc (fun a1=>Dk.pc (fun a2 a3=>[(5,.pointer (some ⟨a0,0,none⟩)),(9,.int .i64 (s.1))]))) a) _ [(2,_),(3,_),(4,_)]
  | apply Dk.j6 6 (V:=Value) (A:=Nat×Value×Value×Value) (_,_,_,_) (fun a (s:Int×(List (List Int))) v=>Dk.pc (fun a0=>Dk.pc (fun a1=>Dk.pc (fun a2 a3=>[.row a0 [.int .i64 ((x0.length:Int)),a1,a2,a3,v] 27,.own (aJ 24 (aJ 2 (aM .i64))) v s.2]))) a) (fun a s v=>Dk.pc (fun a0=>Dk.pc (fun a1=>Dk.pc (fun a2 a3=>[(5,.pointer (some ⟨a0,0,none⟩)),(10,.int .i64 (s.1))]))) a) _ [(2,_),(4,_)]
  | apply Dk.loop 8 (V:=Value) (fun (s:(List Int)×Int) v=>[.own (aJ 2 (aM .i64)) v s.1]) (fun s v=>[(11,v),(12,.int .i64 (s.2))]) _ [(2,_),(4,_),(5,_),(10,_)]
  | apply Dk.quiet (id:=28) (by kernel_rfl)
  | apply Dk.quiet (id:=29) (by kernel_rfl)
  | apply Dk.any (id:=19) 10 [] [] [[],[0],[],[],[2,3],[4,2,3],[],[5,4,2,3,6],[7,5,4,2,3,6],[8,7,5,4,2,3,6]] (by kernel_rfl)
  | exact ()
theorem aeN {x0:(List Int)} {dC:Value} {x1:(List Int)} {eA:Value}:Ct Tryz.prog 162 true (mH x0 x1) [dC,eA] [rI dC x0,rI eA x1] (fun y (_:Unit)=>[.bool y]) (fun y _=>[]):=by
 refine ct (S:=Unit) (b9 fun _ _=>rfl) Tryz.func162 rfl rfl ?_
 repeat' first
  | (apply Dk.fe; repeat' first | exact rfl | (refine @id.{0} _ ?_; constructor))
  | intro _
  | exact rfl
  | (refine @id.{0} _ ?_; constructor)
  | apply Dk.loop 0 (V:=Unit) (fun (s:Int) v=>[]) (fun s v=>[(5,.int .i64 (s))]) () [(0,_),(1,_)]
  | apply Dk.quiet (id:=4) (by kernel_rfl)
  | apply Dk.quiet (id:=5) (by kernel_rfl)
  | exact ()
theorem aeO {x0:bQ} {sF:Value} {x1:bQ} {sG:Value}:Ct Tryz.prog 159 true (iY x0 x1) [.agg #[.int .i64 (x0.aD),.int .i64 (x0.To),sF],.agg #[.int .i64 (x1.aD),.int .i64 (x1.To),sG]] [rI sF x0.mh,rI sG x1.mh] (fun y (_:Unit)=>[.bool y]) (fun y _=>[]):=by
 refine ct (S:=Unit) (b9 fun _ _=>rfl) Tryz.func159 rfl rfl ?_
 repeat' first
  | (apply Dk.fe; repeat' first | exact rfl | (refine @id.{0} _ ?_; constructor))
  | intro _
  | exact rfl
  | (refine @id.{0} _ ?_; constructor)
  | apply aeN
  | exact ()
theorem Yl  : Ct Tryz.prog 104 true (nN) [] [] (fun y (v:Value×Value×Value×Value)=>[.agg #[.int .i64 y.aA,v.1,v.2.1,v.2.2.1,v.2.2.2]]) (fun y v=>[.own (aJ 2 (aM .i64)) v.1 y.aD,.own (aJ 2 (aM .i64)) v.2.1 y.To,.own (aJ 2 (aM .i64)) v.2.2.1 y.aH,.own (aJ 24 (aJ 2 (aM .i64))) v.2.2.2 y.aB]):=by
 refine ct (S:=Unit) (b9 fun _ _=>rfl) Tryz.func104 rfl rfl ?_
 repeat' first
  | (apply Dk.fe; repeat' first | exact rfl | (refine @id.{0} _ ?_; constructor))
  | intro _
  | exact rfl
  | (refine @id.{0} _ ?_; constructor)
  | apply JG
  | exact ()
theorem c95 {x0:aG} {dR:Addr} {aS aY aN aL:Value} {x1:Int}:Ct Tryz.prog 95 true (iA x0 x1) [.pointer (some (dR)),.int .i64 (x1)] [.au dR [.int .i64 (x0.aA),aS,aY,aN,aL],rI aS x0.aD,rI aY x0.To,rI aN x0.aH,rJ aL x0.aB] (fun y (_:Unit)=>[.agg #[.int .i64 y.aD,.int .i64 y.To]]) (fun y _=>[]):=by
 refine ct (S:=Unit) (b9 fun _ _=>rfl) Tryz.func95 rfl rfl ?_
 repeat' first
  | (apply Dk.fe; repeat' first | exact rfl | (refine @id.{0} _ ?_; constructor))
  | intro _
  | exact rfl
  | (refine @id.{0} _ ?_; constructor)
  | apply Dk.any (id:=1) 14 [] [] [[],[0],[1,0],[2,1,0],[],[3,2,1,0,4],[5,3,2,1,0,4],[],[7],[8,7],[9,8,7],[],[10,9,8,7,11],[12,10,9,8,7,11]] (by kernel_rfl)
  | exact ()
theorem c98 {x0:(List Int)} {dC:Value} {x1:(List Int)} {eA:Value}:Ct Tryz.prog 98 true (oV x0 x1) [dC,eA] [rI dC x0,rI eA x1] (fun y (v:Value)=>[v]) (fun y v=>[.own (aJ 2 (aM .i64)) v y]):=by
 refine ct (S:=Unit) (b9 fun _ _=>rfl) Tryz.func98 rfl rfl ?_
 repeat' first
  | (apply Dk.fe; repeat' first | exact rfl | (refine @id.{0} _ ?_; constructor))
  | intro _
  | exact rfl
  | (refine @id.{0} _ ?_; constructor)
  | apply Dk.j6 0 (V:=Unit) (A:=Value) _ (fun a (s:Int×(List Int)) v=>[.own (aJ 2 (aM .i64)) a s.2]) (fun a s v=>[(5,a),(13,.int .i64 (s.1))]) () [(1,_),(11,_),(12,_)]
  | exact ()
theorem c55 {x0:bG} {lE:Value} {x1:aI} {qY:Addr} {bV cB bL bE bW cC bN bF cM cQ:Value}:Ct Tryz.prog 55 true (kZ x0 x1) [.agg #[.int .i64 (x0.dy),lE],.pointer (some (qY))] [.au qY [.int .i64 (x1.aC.aA),bV,cB,bL,bE,.int .i64 (x1.aE.aA),bW,cC,bN,bF,cM,cQ],rI lE x0.br,rI bV x1.aC.aD,rI cB x1.aC.To,rI bL x1.aC.aH,rJ bE x1.aC.aB,rI bW x1.aE.aD,rI cC x1.aE.To,rI bN x1.aE.aH,rJ bF x1.aE.aB,rI cM x1.aA,rI cQ x1.ab] (fun y (v:Value)=>[.agg #[.int .i64 y.dy,v]]) (fun y v=>[.own (aJ 2 (aM .i64)) v y.br]):=by
 refine ct (S:=Unit) (b9 fun _ _=>rfl) Tryz.func55 rfl rfl ?_
 repeat' first
  | (apply Dk.fe; repeat' first | exact rfl | (refine @id.{0} _ ?_; constructor))
  | intro _
  | exact rfl
  | (refine @id.{0} _ ?_; constructor)
  | apply Dk.any (id:=1) 15 [] [] [[],[0],[1,0],[2,1,0],[],[4],[3,2,1,0,5,4],[6,3,2,1,0,5,4],[],[8],[],[10],[11,10],[12,11,10],[9,8,13,12,11,10]] (by kernel_rfl)
  | apply c98
  | exact ()
theorem aeP {x0:aG} {aS aY aN aL:Value} {x1:Int}:Ct Tryz.prog 166 true (jQ x0 x1) [.agg #[.int .i64 (x0.aA),aS,aY,aN,aL],.int .i64 (x1)] [rI aS x0.aD,rI aY x0.To,rI aN x0.aH,rJ aL x0.aB] (fun y (v:Value)=>[v]) (fun y v=>[.own (aJ 2 (aM .i64)) v y]):=by
 refine ct (S:=Unit) (b9 fun _ _=>rfl) Tryz.func166 rfl rfl ?_
 repeat' first
  | (apply Dk.fe; repeat' first | exact rfl | (refine @id.{0} _ ?_; constructor))
  | intro _
  | exact rfl
  | (refine @id.{0} _ ?_; constructor)
  | apply Dk.loop 0 (V:=Value) (fun (s:(List Int)×Int) v=>[.own (aJ 2 (aM .i64)) v s.1]) (fun s v=>[(5,v),(6,.int .i64 (s.2))]) _ [(1,_),(2,_)]
  | apply Dk.quiet (id:=5) (by kernel_rfl)
  | exact ()
theorem aeQ {x0:aG} {aS aY aN aL:Value} {x1:Int}:Ct Tryz.prog 167 true (lO x0 x1) [.agg #[.int .i64 (x0.aA),aS,aY,aN,aL],.int .i64 (x1)] [rI aS x0.aD,rI aY x0.To,rI aN x0.aH,rJ aL x0.aB] (fun y (v:Value)=>[v]) (fun y v=>[.own (aJ 2 (aM .i64)) v y]):=by
 refine ct (S:=Unit) (b9 fun _ _=>rfl) Tryz.func167 rfl rfl ?_
 repeat' first
  | (apply Dk.fe; repeat' first | exact rfl | (refine @id.{0} _ ?_; constructor))
  | intro _
  | exact rfl
  | (refine @id.{0} _ ?_; constructor)
  | apply Dk.loop 0 (V:=Value) (fun (s:(List Int)×Int) v=>[.own (aJ 2 (aM .i64)) v s.1]) (fun s v=>[(5,v),(6,.int .i64 (s.2))]) _ [(1,_),(2,_)]
  | apply Dk.quiet (id:=5) (by kernel_rfl)
  | exact ()
theorem aeR {x0:(List Int)} {dC:Value} {x1:Int}:Ct Tryz.prog 168 true (qI x0 x1) [dC,.int .i64 (x1)] [rI dC x0] (fun y (_:Unit)=>[.bool y]) (fun y _=>[]):=by
 refine ct (S:=Unit) (b9 fun _ _=>rfl) Tryz.func168 rfl rfl ?_
 repeat' first
  | (apply Dk.fe; repeat' first | exact rfl | (refine @id.{0} _ ?_; constructor))
  | intro _
  | exact rfl
  | (refine @id.{0} _ ?_; constructor)
  | apply Dk.loop 0 (V:=Unit) (fun (s:Int) v=>[]) (fun s v=>[(5,.int .i64 (s))]) () [(0,_),(1,_)]
  | exact ()
theorem aeS {x0:aG} {aS aY aN aL:Value} {x1:Int}:Ct Tryz.prog 164 true (jW x0 x1) [.agg #[.int .i64 (x0.aA),aS,aY,aN,aL],.int .i64 (x1)] [rI aS x0.aD,rI aY x0.To,rI aN x0.aH,rJ aL x0.aB] (fun y (_:Unit)=>[.int .i64 y]) (fun y _=>[]):=by
 refine ct (S:=Unit) (b9 fun _ _=>rfl) Tryz.func164 rfl rfl ?_
 repeat' first
  | (apply Dk.fe; repeat' first | exact rfl | (refine @id.{0} _ ?_; constructor))
  | intro _
  | exact rfl
  | (refine @id.{0} _ ?_; constructor)
  | apply Dk.loop 0 (V:=Unit) (fun (s:Int) v=>[]) (fun s v=>[(7,.int .i64 (s))]) () [(5,_),(6,_)]
  | apply Dk.any (id:=1) 5 [] [] [[],[],[0,1],[],[]] (by kernel_rfl)
  | apply aeP
  | apply aeQ
  | apply aeR
  | exact ()
theorem aeT {x0:aI} {aU aZ aQ aO aV bA aR aP bK bP:Value} {x1:aI} {bV cB bL bE bW cC bN bF cM cQ:Value} {x2:(List Int)} {eC:Value} {x3:Int}:Ct Tryz.prog 165 true (jB x0 x1 x2 x3) [.agg #[.int .i64 (x0.aC.aA),aU,aZ,aQ,aO,.int .i64 (x0.aE.aA),aV,bA,aR,aP,bK,bP],.agg #[.int .i64 (x1.aC.aA),bV,cB,bL,bE,.int .i64 (x1.aE.aA),bW,cC,bN,bF,cM,cQ],eC,.int .i64 (x3)] [rI aU x0.aC.aD,rI aZ x0.aC.To,rI aQ x0.aC.aH,rJ aO x0.aC.aB,rI aV x0.aE.aD,rI bA x0.aE.To,rI aR x0.aE.aH,rJ aP x0.aE.aB,rI bK x0.aA,rI bP x0.ab,rI bV x1.aC.aD,rI cB x1.aC.To,rI bL x1.aC.aH,rJ bE x1.aC.aB,rI bW x1.aE.aD,rI cC x1.aE.To,rI bN x1.aE.aH,rJ bF x1.aE.aB,rI cM x1.aA,rI cQ x1.ab,rI eC x2] (fun y (_:Unit)=>[.bool y]) (fun y _=>[]):=by
 refine ct (S:=Unit) (b9 fun _ _=>rfl) Tryz.func165 rfl rfl ?_
 repeat' first
  | (apply Dk.fe; repeat' first | exact rfl | (refine @id.{0} _ ?_; constructor))
  | intro _
  | exact rfl
  | (refine @id.{0} _ ?_; constructor)
  | apply Dk.quiet (id:=2) (by kernel_rfl)
  | apply Dk.any (id:=1) 7 [] [[],[],[],[],[],[],[4]] [[],[0],[],[2],[],[],[4,1,0,0,1,0,4,5]] (by kernel_rfl)
  | exact ()
theorem aeU {x0:(List (List Int))} {dC:Value}:Ct Tryz.prog 128 true (sA x0) [dC] [rJ dC x0] (fun y (_:Unit)=>[.string y]) (fun y _=>[]):=by
 refine ct (S:=Unit) (b9 fun _ _=>rfl) Tryz.func128 rfl rfl ?_
 repeat' first
  | (apply Dk.fe; repeat' first | exact rfl | (refine @id.{0} _ ?_; constructor))
  | intro _
  | exact rfl
  | (refine @id.{0} _ ?_; constructor)
  | apply Dk.loop 0 (V:=Value) (fun (s:(List Int)×Int) v=>[.own (aJ 5 (aM .u8)) v s.1]) (fun s v=>[(3,v),(11,.int .i64 (s.2))]) _ [(9,_),(10,_)]
  | apply Dk.loop 2 (V:=Value) (fun (s:(List Int)×Int) v=>[.own (aJ 5 (aM .u8)) v s.1]) (fun s v=>[(3,v),(17,.int .i64 (s.2))]) _ [(9,_),(10,_),(11,_),(15,_),(16,_)]
  | exact ()
theorem c91 {x0:bG} {lE:Value}:Ct Tryz.prog 91 true (lC x0) [.agg #[.int .i64 (x0.dy),lE]] [rI lE x0.br] (fun y (_:Unit)=>[.string y]) (fun y _=>[]):=by
 refine ct (S:=Unit) (b9 fun _ _=>rfl) Tryz.func91 rfl rfl ?_
 repeat' first
  | (apply Dk.fe; repeat' first | exact rfl | (refine @id.{0} _ ?_; constructor))
  | intro _
  | exact rfl
  | (refine @id.{0} _ ?_; constructor)
  | apply aeU
  | exact ()
end Go.Proofs.YtgjbmjjihmfppaaGreat
