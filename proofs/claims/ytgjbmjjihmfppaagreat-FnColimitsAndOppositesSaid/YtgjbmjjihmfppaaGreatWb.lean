/- Walks by the calculus D. No condition beside those that each theorem names. -/
import Derived.Test.YtgjbmjjihmfppaaGreatDp
import Derived.Test.YtgjbmjjihmfppaaGreatDi
import Derived.Test.YtgjbmjjihmfppaaGreatMo
import Derived.Test.YtgjbmjjihmfppaaGreatDs
namespace Go.Proofs.YtgjbmjjihmfppaaGreat
open Go Go.Li Go.Dk
set_option linter.unusedVariables false
set_option maxHeartbeats 16000000
set_option maxRecDepth 100000
theorem Ye  : Ct Tryz.prog 120 true (lP) [] [] (fun y (v:Value×Value×Value×Value)=>[.agg #[.int .i64 y.aA,v.1,v.2.1,v.2.2.1,v.2.2.2]]) (fun y v=>[.own (aJ 2 (aM .i64)) v.1 y.aD,.own (aJ 2 (aM .i64)) v.2.1 y.To,.own (aJ 2 (aM .i64)) v.2.2.1 y.aH,.own (aJ 24 (aJ 2 (aM .i64))) v.2.2.2 y.aB]):=by
 refine ct (S:=Unit) (b9 fun _ _=>rfl) Tryz.func120 rfl rfl ?_
 repeat' first
  | (apply Dk.fe; repeat' first | exact rfl | (refine @id.{0} _ ?_; constructor))
  | intro _
  | exact rfl
  | apply Dk.zC (d:=1)
  | apply Dk.zC (d:=2)
  | apply Dk.zC (d:=3)
  | apply Dk.zC (d:=4)
  | apply Dk.zC (d:=5)
  | apply Dk.zC (d:=6)
  | apply Dk.zC (d:=7)
  | apply Dk.zC (d:=8)
  | apply Dk.zC (d:=9)
  | (refine @id.{0} _ ?_; constructor)
  | exact ()
theorem aeA {x0:aG} {aS aY aN aL:Value} {x1:aG} {bU cI bB aW:Value}:Ct Tryz.prog 133 true (fC x0 x1) [.agg #[.int .i64 (x0.aA),aS,aY,aN,aL],.agg #[.int .i64 (x1.aA),bU,cI,bB,aW]] [rI aS x0.aD,rI aY x0.To,rI aN x0.aH,rJ aL x0.aB,rI bU x1.aD,rI cI x1.To,rI bB x1.aH,rJ aW x1.aB] (fun y (v:Value×Value×Value×Value)=>[.agg #[.int .i64 y.aA,v.1,v.2.1,v.2.2.1,v.2.2.2]]) (fun y v=>[.own (aJ 2 (aM .i64)) v.1 y.aD,.own (aJ 2 (aM .i64)) v.2.1 y.To,.own (aJ 2 (aM .i64)) v.2.2.1 y.aH,.own (aJ 24 (aJ 2 (aM .i64))) v.2.2.2 y.aB]):=by
 refine ct (S:=Unit) (b9 fun _ _=>rfl) Tryz.func133 rfl rfl ?_
 repeat' first
  | (apply Dk.fe; repeat' first | exact rfl | (refine @id.{0} _ ?_; constructor))
  | intro _
  | exact rfl
  | (refine Dk.uP (t:=114) rfl ?_ ?_)
  | (refine Dk.uP (t:=121) rfl ?_ ?_)
  | (refine @id.{0} _ ?_; constructor)
  | apply Dk.j6 0 (V:=Value) (A:=Nat×Value×Value×Value) (_,_,_,_) (fun a (s:Int×(List Int)) v=>Dk.pc (fun a0=>Dk.pc (fun a1=>Dk.pc (fun a2 a3=>[.row a0 [.int .i64 (aj (x0.aA * x1.aA)),a1,a2,v,a3] 27,.own (aJ 2 (aM .i64)) v s.2]))) a) (fun a s v=>Dk.pc (fun a0=>Dk.pc (fun a1=>Dk.pc (fun a2 a3=>[(7,.pointer (some ⟨a0,0,none⟩)),(8,.int .i64 (s.1))]))) a) _ [(2,_),(3,_),(4,_),(5,_),(6,_)]
  | apply Dk.j6 2 (V:=Value) (A:=Nat×Value×Value×Value) (_,_,_,_) (fun a (s:Int×(List Int)) v=>Dk.pc (fun a0=>Dk.pc (fun a1=>Dk.pc (fun a2 a3=>[.row a0 [.int .i64 (aj (x0.aA * x1.aA)),a1,a2,v,a3] 27,.own (aJ 2 (aM .i64)) v s.2]))) a) (fun a s v=>Dk.pc (fun a0=>Dk.pc (fun a1=>Dk.pc (fun a2 a3=>[(7,.pointer (some ⟨a0,0,none⟩)),(9,.int .i64 (s.1))]))) a) _ [(2,_),(3,_),(4,_),(5,_),(6,_),(8,_)]
  | apply Dk.j6 4 (V:=Value×Value×Value) (A:=Nat×Value) (_,_) (fun a (s:Int×(List Int)×(List Int)×(List (List Int))) v=>Dk.pc (fun a0 a1=>[.row a0 [.int .i64 (aj (x0.aA * x1.aA)),v.1,v.2.1,a1,v.2.2] 27,.own (aJ 2 (aM .i64)) v.1 s.2.1,.own (aJ 2 (aM .i64)) v.2.1 s.2.2.1,.own (aJ 24 (aJ 2 (aM .i64))) v.2.2 s.2.2.2]) a) (fun a s v=>Dk.pc (fun a0 a1=>[(7,.pointer (some ⟨a0,0,none⟩)),(10,.int .i64 (s.1))]) a) (_,_,_) [(2,_),(3,_),(4,_),(5,_),(6,_)]
  | apply Dk.j6 6 (V:=Value×Value×Value) (A:=Nat×Value) (_,_) (fun a (s:Int×(List Int)×(List Int)×(List (List Int))) v=>Dk.pc (fun a0 a1=>[.row a0 [.int .i64 (aj (x0.aA * x1.aA)),v.1,v.2.1,a1,v.2.2] 27,.own (aJ 2 (aM .i64)) v.1 s.2.1,.own (aJ 2 (aM .i64)) v.2.1 s.2.2.1,.own (aJ 24 (aJ 2 (aM .i64))) v.2.2 s.2.2.2]) a) (fun a s v=>Dk.pc (fun a0 a1=>[(7,.pointer (some ⟨a0,0,none⟩)),(11,.int .i64 (s.1))]) a) (_,_,_) [(2,_),(3,_),(4,_),(5,_),(6,_),(10,_)]
  | apply Dk.loop 8 (V:=Value) (fun (s:(List Int)×Int) v=>[.own (aJ 2 (aM .i64)) v s.1]) (fun s v=>[(12,v),(13,.int .i64 (s.2))]) _ [(2,_),(3,_),(4,_),(5,_),(6,_),(7,_),(10,_),(11,_)]
  | apply Dk.loop 10 (V:=Value) (fun (s:(List Int)×Int) v=>[.own (aJ 2 (aM .i64)) v s.1]) (fun s v=>[(12,v),(14,.int .i64 (s.2))]) _ [(2,_),(3,_),(4,_),(5,_),(6,_),(7,_),(10,_),(11,_),(13,_)]
  | apply Dk.quiet (id:=1) (by kernel_rfl)
  | apply Dk.quiet (id:=27) (by kernel_rfl)
  | apply Dk.any (id:=9) 16 [] [] [[],[0],[],[2],[],[3,2,4],[5,3,2,4],[],[6,5,3,2,4,7],[],[9],[],[10,9,11],[12,10,9,11],[8,6,5,3,2,4,7,13,12,10,9,11],[14,8,6,5,3,2,4,7,13,12,10,9,11]] (by kernel_rfl)
  | apply Dk.any (id:=16) 16 [] [] [[],[0],[],[2],[],[3,2,4],[5,3,2,4],[],[6,5,3,2,4,7],[],[9],[],[10,9,11],[12,10,9,11],[8,6,5,3,2,4,7,13,12,10,9,11],[14,8,6,5,3,2,4,7,13,12,10,9,11]] (by kernel_rfl)
  | apply Dk.any (id:=17) 16 [] [] [[],[0],[],[2],[],[3,2,4],[5,3,2,4],[],[6,5,3,2,4,7],[],[9],[],[10,9,11],[12,10,9,11],[8,6,5,3,2,4,7,13,12,10,9,11],[14,8,6,5,3,2,4,7,13,12,10,9,11]] (by kernel_rfl)
  | exact ()
theorem aeB {x0:aG} {aS aY aN aL:Value} {x1:Int}:Ct Tryz.prog 149 true (pA x0 x1) [.agg #[.int .i64 (x0.aA),aS,aY,aN,aL],.int .i64 (x1)] [rI aS x0.aD,rI aY x0.To,rI aN x0.aH,rJ aL x0.aB] (fun y (_:Unit)=>[.bool y]) (fun y _=>[]):=by
 refine ct (S:=Unit) (b9 fun _ _=>rfl) Tryz.func149 rfl rfl ?_
 repeat' first
  | (apply Dk.fe; repeat' first | exact rfl | (refine @id.{0} _ ?_; constructor))
  | intro _
  | exact rfl
  | (refine @id.{0} _ ?_; constructor)
  | apply Dk.quiet (id:=1) (by kernel_rfl)
  | exact ()
theorem aeC {x0:aG} {aS aY aN aL:Value}:Ct Tryz.prog 121 true (mW x0) [.agg #[.int .i64 (x0.aA),aS,aY,aN,aL]] [rI aS x0.aD,rI aY x0.To,rI aN x0.aH,rJ aL x0.aB] (fun y (v:Value)=>[v]) (fun y v=>[.own (aJ 2 (aM .i64)) v y]):=by
 refine ct (S:=Unit) (b9 fun _ _=>rfl) Tryz.func121 rfl rfl ?_
 repeat' first
  | (apply Dk.fe; repeat' first | exact rfl | (refine @id.{0} _ ?_; constructor))
  | intro _
  | exact rfl
  | (refine @id.{0} _ ?_; constructor)
  | apply Dk.loop 0 (V:=Value) (fun (s:(List Int)×Int) v=>[.own (aJ 2 (aM .i64)) v s.1]) (fun s v=>[(3,v),(4,.int .i64 (s.2))]) _ [(1,_)]
  | apply aeB
  | exact ()
theorem Tb {x0:aG} {dR:Addr} {aS aY aN aL:Value}:Ct Tryz.prog 94 true (dW x0) [.pointer (some (dR))] [.au dR [.int .i64 (x0.aA),aS,aY,aN,aL],rI aS x0.aD,rI aY x0.To,rI aN x0.aH,rJ aL x0.aB] (fun y (_:Unit)=>[.int .i64 y]) (fun y _=>[]):=by
 refine ct (S:=Unit) (b9 fun _ _=>rfl) Tryz.func94 rfl rfl ?_
 repeat' first
  | (apply Dk.fe; repeat' first | exact rfl | (refine @id.{0} _ ?_; constructor))
  | intro _
  | exact rfl
  | (refine @id.{0} _ ?_; constructor)
  | exact ()
theorem c92 {x0:Int} {x1:Int} {x2:Int}:Ct Tryz.prog 92 true (kW x0 x1 x2) [.int .i64 (x0),.int .i64 (x1),.int .i64 (x2)] [] (fun y (_:Unit)=>[.bool y]) (fun y _=>[]):=by
 refine ct (S:=Unit) (b9 fun _ _=>rfl) Tryz.func92 rfl rfl ?_
 repeat' first
  | (apply Dk.fe; repeat' first | exact rfl | (refine @id.{0} _ ?_; constructor))
  | intro _
  | exact rfl
  | (refine @id.{0} _ ?_; constructor)
  | exact ()
theorem c93 {x0:(List Int)} {dC:Value} {x1:Int}:Ct Tryz.prog 93 true (iW x0 x1) [dC,.int .i64 (x1)] [rI dC x0] (fun y (_:Unit)=>[.bool y]) (fun y _=>[]):=by
 refine ct (S:=Unit) (b9 fun _ _=>rfl) Tryz.func93 rfl rfl ?_
 repeat' first
  | (apply Dk.fe; repeat' first | exact rfl | (refine @id.{0} _ ?_; constructor))
  | intro _
  | exact rfl
  | (refine @id.{0} _ ?_; constructor)
  | apply Dk.loop 0 (V:=Unit) (fun (s:Int) v=>[]) (fun s v=>[(9,.int .i64 (s))]) () [(1,_),(7,_),(8,_)]
  | apply c92
  | exact ()
theorem O4 {x0:aG} {dR:Addr} {aS aY aN aL:Value} {x1:Int} {x2:Int}:Ct Tryz.prog 96 true (dJ x0 x1 x2) [.pointer (some (dR)),.int .i64 (x1),.int .i64 (x2)] [.au dR [.int .i64 (x0.aA),aS,aY,aN,aL],rI aS x0.aD,rI aY x0.To,rI aN x0.aH,rJ aL x0.aB] (fun y (_:Unit)=>[.int .i64 y]) (fun y _=>[]):=by
 refine ct (S:=Unit) (b9 fun _ _=>rfl) Tryz.func96 rfl rfl ?_
 repeat' first
  | (apply Dk.fe; repeat' first | exact rfl | (refine @id.{0} _ ?_; constructor))
  | intro _
  | exact rfl
  | (refine @id.{0} _ ?_; constructor)
  | exact ()
theorem aeD {x0:aG} {dR:Addr} {aS aY aN aL:Value}:Ct Tryz.prog 140 true (jN x0) [.pointer (some (dR))] [.au dR [.int .i64 (x0.aA),aS,aY,aN,aL],rI aS x0.aD,rI aY x0.To,rI aN x0.aH,rJ aL x0.aB] (fun y (_:Unit)=>[.int .i64 y.1,.int .i64 y.2.1,.int .i64 y.2.2.1,.int .i64 y.2.2.2]) (fun y _=>[]):=by
 refine ct (S:=Unit) (b9 fun _ _=>rfl) Tryz.func140 rfl rfl ?_
 repeat' first
  | (apply Dk.fe; repeat' first | exact rfl | (refine @id.{0} _ ?_; constructor))
  | intro _
  | exact rfl
  | (refine Dk.uP (t:=64) rfl ?_ ?_)
  | (refine Dk.uP (t:=74) rfl ?_ ?_)
  | (refine @id.{0} _ ?_; constructor)
  | apply Dk.loop 0 (V:=Unit) (fun (s:Int) v=>[]) (fun s v=>[(7,.int .i64 (s))]) () [(0,_),(6,_)]
  | apply Dk.loop 2 (V:=Unit) (fun (s:Int) v=>[]) (fun s v=>[(8,.int .i64 (s))]) () [(0,_),(6,_)]
  | apply Dk.loop 4 (V:=Unit) (fun (s:Int) v=>[]) (fun s v=>[(9,.int .i64 (s))]) () [(0,_),(6,_),(8,_)]
  | apply Dk.loop 6 (V:=Unit) (fun (s:Int) v=>[]) (fun s v=>[(10,.int .i64 (s))]) () [(0,_),(6,_),(8,_),(9,_)]
  | apply Dk.quiet (id:=5) (by kernel_rfl)
  | apply Tb
  | apply O4
  | exact ()
theorem Yf {x0:Int} {x1:Int} {x2:aG} {sL sM:Addr} {sI sJ rH rC:Value}:Ct Tryz.prog 114 true (eQ x0 x1 x2) [.int .i64 (x0),.int .i64 (x1),.pointer (some (sL))] [.au sL [.pointer (some (sM))],.au sM [.int .i64 (x2.aA),sI,sJ,rH,rC],rI sI x2.aD,rI sJ x2.To,rI rH x2.aH,rJ rC x2.aB] (fun y (_:Unit)=>[.int .i64 y]) (fun y _=>[]):=by
 refine ct (S:=Unit) (b9 fun _ _=>rfl) Tryz.func114 rfl rfl ?_
 repeat' first
  | (apply Dk.fe; repeat' first | exact rfl | (refine @id.{0} _ ?_; constructor))
  | intro _
  | exact rfl
  | (refine @id.{0} _ ?_; constructor)
  | apply O4
  | exact ()
theorem Yg {x0:aG} {dR:Addr} {aS aY aN aL:Value} {x1:Int} {x2:Int}:Ct Tryz.prog 118 true (iO x0 x1 x2) [.pointer (some (dR)),.int .i64 (x1),.int .i64 (x2)] [.au dR [.int .i64 (x0.aA),aS,aY,aN,aL],rI aS x0.aD,rI aY x0.To,rI aN x0.aH,rJ aL x0.aB] (fun y (v:Value)=>[v]) (fun y v=>[.own (aJ 2 (aM .i64)) v y]):=by
 refine ct (S:=Unit) (b9 fun _ _=>rfl) Tryz.func118 rfl rfl ?_
 repeat' first
  | (apply Dk.fe; repeat' first | exact rfl | (refine @id.{0} _ ?_; constructor))
  | intro _
  | exact rfl
  | (refine @id.{0} _ ?_; constructor)
  | apply Dk.loop 0 (V:=Value) (fun (s:(List Int)×Int) v=>[.own (aJ 2 (aM .i64)) v s.1]) (fun s v=>[(7,v),(15,.int .i64 (s.2))]) _ [(0,_),(1,_),(2,_),(14,_)]
  | exact ()
theorem c78 {x0:aI} {x1 x2:bG} {p:Addr} {fq fu fv fw fx fy gf gh uo ua v1 v2:Value}:Ct Tryz.prog 78 true (nW x0 x1 x2) [.pointer (some p),.agg #[.int .i64 x1.dy,v1],.agg #[.int .i64 x2.dy,v2]] [.au p [.int .i64 x0.aC.aA,fq,fu,fv,fw,.int .i64 x0.aE.aA,fx,fy,gf,gh,uo,ua],rI fq x0.aC.aD,rI fu x0.aC.To,rI fv x0.aC.aH,rJ fw x0.aC.aB,rI fx x0.aE.aD,rI fy x0.aE.To,rI gf x0.aE.aH,rJ gh x0.aE.aB,rI uo x0.aA,rI ua x0.ab,rI v1 x1.br,rI v2 x2.br] (fun y (v:Value)=>[v]) (fun y v=>[.own (aJ 2 (aM .i64)) v y]):=by
 refine ct (S:=Unit) (b9 fun _ _=>rfl) Tryz.func78 rfl rfl ?_
 repeat' first
  | (apply Dk.fe; repeat' first | exact rfl | (refine @id.{0} _ ?_; constructor))
  | intro _
  | exact rfl
  | (refine @id.{0} _ ?_; constructor)
  | apply Dk.scp
  | apply Dk.lab
  | apply Dk.loop 0 (V:=Value) (fun (s:List Int×Int) v=>[.own (aJ 2 (aM .i64)) v s.1]) (fun s v=>[(8,v),(24,.int .i64 s.2)]) _ [(4,_),(5,_),(7,_),(22,_),(23,_)]
  | apply Dk.Sr 2 1 (V:=Unit) (fun (s:Int) _=>[]) (fun s _=>[(31,.int .i64 s)]) () [(4,_),(5,_),(7,_),(22,_),(23,_),(8,_),(10,_),(24,_),(29,_),(30,_)] rfl
  | apply Dk.nlx
  | apply Dk.xlx
  | (apply Dk.xlo <;> first | exact rfl | skip)
  | apply Dk.quiet (id:=9) (by kernel_rfl)
  | apply Yg
  | apply O4
  | exact ()
theorem aeE {x0:(List Int)} {dC:Value} {x1:Int}:Ct Tryz.prog 163 true (nX x0 x1) [dC,.int .i64 (x1)] [rI dC x0] (fun y (_:Unit)=>[.int .i64 y]) (fun y _=>[]):=by
 refine ct (S:=Unit) (b9 fun _ _=>rfl) Tryz.func163 rfl rfl ?_
 repeat' first
  | (apply Dk.fe; repeat' first | exact rfl | (refine @id.{0} _ ?_; constructor))
  | intro _
  | exact rfl
  | (refine @id.{0} _ ?_; constructor)
  | apply Dk.loop 0 (V:=Unit) (fun (s:Int) v=>[]) (fun s v=>[(5,.int .i64 (s))]) () [(0,_),(1,_)]
  | exact ()
theorem aeF {x0:(List Int)} {dC:Value}:Ct Tryz.prog 160 true (mD x0) [dC] [rI dC x0] (fun y (v:Value)=>[v]) (fun y v=>[.own (aJ 2 (aM .i64)) v y]):=by
 refine ct (S:=Unit) (b9 fun _ _=>rfl) Tryz.func160 rfl rfl ?_
 repeat' first
  | (apply Dk.fe; repeat' first | exact rfl | (refine @id.{0} _ ?_; constructor))
  | intro _
  | exact rfl
  | (refine @id.{0} _ ?_; constructor)
  | apply Dk.loop 0 (V:=Value×Value) (fun (s:(List Int)×(List Int)×Int) v=>[.own (aJ 2 (aM .i64)) v.1 s.1,.own (aJ 2 (aM .i64)) v.2 s.2.1]) (fun s v=>[(3,v.1),(4,v.2),(5,.int .i64 (s.2.2))]) (_,_) [(0,_)]
  | apply aeE
  | exact ()
end Go.Proofs.YtgjbmjjihmfppaaGreat
