/- Walks by the calculus D. No condition beside those that each theorem names. -/
import Derived.Test.YtgjbmjjihmfppaaGreatDp
import Derived.Test.YtgjbmjjihmfppaaGreatDi
import Derived.Test.YtgjbmjjihmfppaaGreatMo
import Derived.Test.YtgjbmjjihmfppaaGreatDs
namespace Go.Proofs.YtgjbmjjihmfppaaGreat
open Go Go.Li Go.Dk
set_option linter.unusedVariables false
set_option maxHeartbeats 16000000
set_option maxRecDepth 100000
theorem TH {x0:(List Int)} {cX:Value} {x1:(List Int)} {dX:Value}:Ct Tryz.prog 99 true (eM x0 x1) [cX,dX] [rI cX x0,rI dX x1] (fun y (_:Unit)=>[.bool y]) (fun y _=>[]):=by
 refine ct (S:=Unit) (ca fun _ _=>rfl) Tryz.func99 rfl rfl ?_
 repeat' first
  | (apply Dk.fe; repeat' first | exact rfl | (refine @id.{0} _ ?_; constructor))
  | intro _
  | exact rfl
  | (refine @id.{0} _ ?_; constructor)
  | apply Dk.loop 0 (V:=Unit) (fun (s:Int) v=>[]) (fun s v=>[(5,.int .i64 (s))]) () [(0,_),(1,_)]
  | apply Dk.quiet (id:=6) (by kernel_rfl)
  | exact ()
theorem afc {x0:aG} {aU bB aN aL:Value} {x1:aG} {bU cG bD bA:Value}:Ct Tryz.prog 133 true (fB x0 x1) [.agg #[.int .i64 (x0.aA),aU,bB,aN,aL],.agg #[.int .i64 (x1.aA),bU,cG,bD,bA]] [rI aU x0.aE,rI bB x0.To,rI aN x0.aH,rJ aL x0.aB,rI bU x1.aE,rI cG x1.To,rI bD x1.aH,rJ bA x1.aB] (fun y (v:Value×Value×Value×Value)=>[.agg #[.int .i64 y.aA,v.1,v.2.1,v.2.2.1,v.2.2.2]]) (fun y v=>[.own (aJ 2 (aM .i64)) v.1 y.aE,.own (aJ 2 (aM .i64)) v.2.1 y.To,.own (aJ 2 (aM .i64)) v.2.2.1 y.aH,.own (aJ 24 (aJ 2 (aM .i64))) v.2.2.2 y.aB]):=by
 refine ct (S:=Unit) (ca fun _ _=>rfl) Tryz.func133 rfl rfl ?_
 repeat' first
  | (apply Dk.fe; repeat' first | exact rfl | (refine @id.{0} _ ?_; constructor))
  | intro _
  | exact rfl
  | (refine Dk.ve (t:=114) rfl ?_ ?_)
  | (refine Dk.ve (t:=121) rfl ?_ ?_)
  | (refine @id.{0} _ ?_; constructor)
  | apply Dk.jr 0 (V:=Value) (A:=Nat×Value×Value×Value) (_,_,_,_) (fun a (s:Int×(List Int)) v=>Dk.pc (fun a0=>Dk.pc (fun a1=>Dk.pc (fun a2 a3=>[.row a0 [.int .i64 (an (x0.aA * x1.aA)),a1,a2,v,a3] 27,.own (aJ 2 (aM .i64)) v s.2]))) a) (fun a s v=>Dk.pc (fun a0=>Dk.pc (fun a1=>Dk.pc (fun a2 a3=>[(7,.pointer (some ⟨a0,0,none⟩)),(8,.int .i64 (s.1))]))) a) _ [(2,_),(3,_),(4,_),(5,_),(6,_)]
  | apply Dk.jr 2 (V:=Value) (A:=Nat×Value×Value×Value) (_,_,_,_) (fun a (s:Int×(List Int)) v=>Dk.pc (fun a0=>Dk.pc (fun a1=>Dk.pc (fun a2 a3=>[.row a0 [.int .i64 (an (x0.aA * x1.aA)),a1,a2,v,a3] 27,.own (aJ 2 (aM .i64)) v s.2]))) a) (fun a s v=>Dk.pc (fun a0=>Dk.pc (fun a1=>Dk.pc (fun a2 a3=>[(7,.pointer (some ⟨a0,0,none⟩)),(9,.int .i64 (s.1))]))) a) _ [(2,_),(3,_),(4,_),(5,_),(6,_),(8,_)]
  | apply Dk.jr 4 (V:=Value×Value×Value) (A:=Nat×Value) (_,_) (fun a (s:Int×(List Int)×(List Int)×(List (List Int))) v=>Dk.pc (fun a0 a1=>[.row a0 [.int .i64 (an (x0.aA * x1.aA)),v.1,v.2.1,a1,v.2.2] 27,.own (aJ 2 (aM .i64)) v.1 s.2.1,.own (aJ 2 (aM .i64)) v.2.1 s.2.2.1,.own (aJ 24 (aJ 2 (aM .i64))) v.2.2 s.2.2.2]) a) (fun a s v=>Dk.pc (fun a0 a1=>[(7,.pointer (some ⟨a0,0,none⟩)),(10,.int .i64 (s.1))]) a) (_,_,_) [(2,_),(3,_),(4,_),(5,_),(6,_)]
  | apply Dk.jr 6 (V:=Value×Value×Value) (A:=Nat×Value) (_,_) (fun a (s:Int×(List Int)×(List Int)×(List (List Int))) v=>Dk.pc (fun a0 a1=>[.row a0 [.int .i64 (an (x0.aA * x1.aA)),v.1,v.2.1,a1,v.2.2] 27,.own (aJ 2 (aM .i64)) v.1 s.2.1,.own (aJ 2 (aM .i64)) v.2.1 s.2.2.1,.own (aJ 24 (aJ 2 (aM .i64))) v.2.2 s.2.2.2]) a) (fun a s v=>Dk.pc (fun a0 a1=>[(7,.pointer (some ⟨a0,0,none⟩)),(11,.int .i64 (s.1))]) a) (_,_,_) [(2,_),(3,_),(4,_),(5,_),(6,_),(10,_)]
  | apply Dk.loop 8 (V:=Value) (fun (s:(List Int)×Int) v=>[.own (aJ 2 (aM .i64)) v s.1]) (fun s v=>[(12,v),(13,.int .i64 (s.2))]) _ [(2,_),(3,_),(4,_),(5,_),(6,_),(7,_),(10,_),(11,_)]
  | apply Dk.loop 10 (V:=Value) (fun (s:(List Int)×Int) v=>[.own (aJ 2 (aM .i64)) v s.1]) (fun s v=>[(12,v),(14,.int .i64 (s.2))]) _ [(2,_),(3,_),(4,_),(5,_),(6,_),(7,_),(10,_),(11,_),(13,_)]
  | apply Dk.quiet (id:=1) (by kernel_rfl)
  | apply Dk.quiet (id:=27) (by kernel_rfl)
  | apply Dk.any (id:=9) 16 [] [] [[],[0],[],[2],[],[3,2,4],[5,3,2,4],[],[6,5,3,2,4,7],[],[9],[],[10,9,11],[12,10,9,11],[8,6,5,3,2,4,7,13,12,10,9,11],[14,8,6,5,3,2,4,7,13,12,10,9,11]] (by kernel_rfl)
  | apply Dk.any (id:=16) 16 [] [] [[],[0],[],[2],[],[3,2,4],[5,3,2,4],[],[6,5,3,2,4,7],[],[9],[],[10,9,11],[12,10,9,11],[8,6,5,3,2,4,7,13,12,10,9,11],[14,8,6,5,3,2,4,7,13,12,10,9,11]] (by kernel_rfl)
  | apply Dk.any (id:=17) 16 [] [] [[],[0],[],[2],[],[3,2,4],[5,3,2,4],[],[6,5,3,2,4,7],[],[9],[],[10,9,11],[12,10,9,11],[8,6,5,3,2,4,7,13,12,10,9,11],[14,8,6,5,3,2,4,7,13,12,10,9,11]] (by kernel_rfl)
  | exact ()
theorem afd {x0:aG} {aU bB aN aL:Value} {x1:Int}:Ct Tryz.prog 149 true (oU x0 x1) [.agg #[.int .i64 (x0.aA),aU,bB,aN,aL],.int .i64 (x1)] [rI aU x0.aE,rI bB x0.To,rI aN x0.aH,rJ aL x0.aB] (fun y (_:Unit)=>[.bool y]) (fun y _=>[]):=by
 refine ct (S:=Unit) (ca fun _ _=>rfl) Tryz.func149 rfl rfl ?_
 repeat' first
  | (apply Dk.fe; repeat' first | exact rfl | (refine @id.{0} _ ?_; constructor))
  | intro _
  | exact rfl
  | (refine @id.{0} _ ?_; constructor)
  | apply Dk.quiet (id:=1) (by kernel_rfl)
  | exact ()
theorem afe {x0:aG} {aU bB aN aL:Value}:Ct Tryz.prog 121 true (mR x0) [.agg #[.int .i64 (x0.aA),aU,bB,aN,aL]] [rI aU x0.aE,rI bB x0.To,rI aN x0.aH,rJ aL x0.aB] (fun y (v:Value)=>[v]) (fun y v=>[.own (aJ 2 (aM .i64)) v y]):=by
 refine ct (S:=Unit) (ca fun _ _=>rfl) Tryz.func121 rfl rfl ?_
 repeat' first
  | (apply Dk.fe; repeat' first | exact rfl | (refine @id.{0} _ ?_; constructor))
  | intro _
  | exact rfl
  | (refine @id.{0} _ ?_; constructor)
  | apply Dk.loop 0 (V:=Value) (fun (s:(List Int)×Int) v=>[.own (aJ 2 (aM .i64)) v s.1]) (fun s v=>[(3,v),(4,.int .i64 (s.2))]) _ [(1,_)]
  | apply afd
  | exact ()
theorem aff {x0:Int} {x1:Int} {x2:Int}:Ct Tryz.prog 141 true (qV x0 x1 x2) [.int .i64 (x0),.int .i64 (x1),.int .i64 (x2)] [] (fun y (_:Unit)=>[.bool y]) (fun y _=>[]):=by
 refine ct (S:=Unit) (ca fun _ _=>rfl) Tryz.func141 rfl rfl ?_
 repeat' first
  | (apply Dk.fe; repeat' first | exact rfl | (refine @id.{0} _ ?_; constructor))
  | intro _
  | exact rfl
  | (refine @id.{0} _ ?_; constructor)
  | exact ()
theorem YQ {x0:Int} {x1:(List Int)} {dX:Value}:Ct Tryz.prog 68 true (jY x0 x1) [.int .i64 (x0),dX] [rI dX x1] (fun y (_:Unit)=>[.bool y]) (fun y _=>[]):=by
 refine ct (S:=Unit) (ca fun _ _=>rfl) Tryz.func68 rfl rfl ?_
 repeat' first
  | (apply Dk.fe; repeat' first | exact rfl | (refine @id.{0} _ ?_; constructor))
  | intro _
  | exact rfl
  | (refine @id.{0} _ ?_; constructor)
  | apply Dk.loop 0 (V:=Unit) (fun (s:Int) v=>[]) (fun s v=>[(5,.int .i64 (s))]) () [(0,_),(1,_)]
  | exact ()
theorem afg {x0:(List Int)} {cX:Value} {x1:Int} {x2:Int}:Ct Tryz.prog 142 true (mC x0 x1 x2) [cX,.int .i64 (x1),.int .i64 (x2)] [rI cX x0] (fun y (_:Unit)=>[.bool y]) (fun y _=>[]):=by
 refine ct (S:=Unit) (ca fun _ _=>rfl) Tryz.func142 rfl rfl ?_
 repeat' first
  | (apply Dk.fe; repeat' first | exact rfl | (refine @id.{0} _ ?_; constructor))
  | intro _
  | exact rfl
  | (refine @id.{0} _ ?_; constructor)
  | apply YQ
  | exact ()
theorem Pw {x0:aG} {dG:Addr} {aU bB aN aL:Value}:Ct Tryz.prog 94 true (dS x0) [.pointer (some (dG))] [.ay dG [.int .i64 (x0.aA),aU,bB,aN,aL],rI aU x0.aE,rI bB x0.To,rI aN x0.aH,rJ aL x0.aB] (fun y (_:Unit)=>[.int .i64 y]) (fun y _=>[]):=by
 refine ct (S:=Unit) (ca fun _ _=>rfl) Tryz.func94 rfl rfl ?_
 repeat' first
  | (apply Dk.fe; repeat' first | exact rfl | (refine @id.{0} _ ?_; constructor))
  | intro _
  | exact rfl
  | (refine @id.{0} _ ?_; constructor)
  | exact ()
theorem c95 {x0:aG} {dG:Addr} {aU bB aN aL:Value} {x1:Int}:Ct Tryz.prog 95 true (gY x0 x1) [.pointer (some (dG)),.int .i64 (x1)] [.ay dG [.int .i64 (x0.aA),aU,bB,aN,aL],rI aU x0.aE,rI bB x0.To,rI aN x0.aH,rJ aL x0.aB] (fun y (_:Unit)=>[.agg #[.int .i64 y.aE,.int .i64 y.To]]) (fun y _=>[]):=by
 refine ct (S:=Unit) (ca fun _ _=>rfl) Tryz.func95 rfl rfl ?_
 repeat' first
  | (apply Dk.fe; repeat' first | exact rfl | (refine @id.{0} _ ?_; constructor))
  | intro _
  | exact rfl
  | (refine @id.{0} _ ?_; constructor)
  | apply Dk.any (id:=1) 14 [] [] [[],[0],[1,0],[2,1,0],[],[3,2,1,0,4],[5,3,2,1,0,4],[],[7],[8,7],[9,8,7],[],[10,9,8,7,11],[12,10,9,8,7,11]] (by kernel_rfl)
  | exact ()
theorem Px {x0:aG} {dG:Addr} {aU bB aN aL:Value} {x1:Int} {x2:Int}:Ct Tryz.prog 96 true (dM x0 x1 x2) [.pointer (some (dG)),.int .i64 (x1),.int .i64 (x2)] [.ay dG [.int .i64 (x0.aA),aU,bB,aN,aL],rI aU x0.aE,rI bB x0.To,rI aN x0.aH,rJ aL x0.aB] (fun y (_:Unit)=>[.int .i64 y]) (fun y _=>[]):=by
 refine ct (S:=Unit) (ca fun _ _=>rfl) Tryz.func96 rfl rfl ?_
 repeat' first
  | (apply Dk.fe; repeat' first | exact rfl | (refine @id.{0} _ ?_; constructor))
  | intro _
  | exact rfl
  | (refine @id.{0} _ ?_; constructor)
  | exact ()
theorem afh {x0:aG} {dG:Addr} {aU bB aN aL:Value}:Ct Tryz.prog 140 true (jG x0) [.pointer (some (dG))] [.ay dG [.int .i64 (x0.aA),aU,bB,aN,aL],rI aU x0.aE,rI bB x0.To,rI aN x0.aH,rJ aL x0.aB] (fun y (_:Unit)=>[.int .i64 y.1,.int .i64 y.2.1,.int .i64 y.2.2.1,.int .i64 y.2.2.2]) (fun y _=>[]):=by
 refine ct (S:=Unit) (ca fun _ _=>rfl) Tryz.func140 rfl rfl ?_
 repeat' first
  | (apply Dk.fe; repeat' first | exact rfl | (refine @id.{0} _ ?_; constructor))
  | intro _
  | exact rfl
  | (refine Dk.ve (t:=64) rfl ?_ ?_)
  | (refine Dk.ve (t:=74) rfl ?_ ?_)
  | (refine @id.{0} _ ?_; constructor)
  | apply Dk.loop 0 (V:=Unit) (fun (s:Int) v=>[]) (fun s v=>[(7,.int .i64 (s))]) () [(0,_),(6,_)]
  | apply Dk.loop 2 (V:=Unit) (fun (s:Int) v=>[]) (fun s v=>[(8,.int .i64 (s))]) () [(0,_),(6,_)]
  | apply Dk.loop 4 (V:=Unit) (fun (s:Int) v=>[]) (fun s v=>[(9,.int .i64 (s))]) () [(0,_),(6,_),(8,_)]
  | apply Dk.loop 6 (V:=Unit) (fun (s:Int) v=>[]) (fun s v=>[(10,.int .i64 (s))]) () [(0,_),(6,_),(8,_),(9,_)]
  | apply Dk.quiet (id:=5) (by kernel_rfl)
  | apply Pw
  | apply Px
  | exact ()
theorem YR {x0:Int} {x1:Int} {x2:aG} {sT sU:Addr} {sQ sR rR rH:Value}:Ct Tryz.prog 114 true (pD x0 x1 x2) [.int .i64 (x0),.int .i64 (x1),.pointer (some (sT))] [.ay sT [.pointer (some (sU))],.ay sU [.int .i64 (x2.aA),sQ,sR,rR,rH],rI sQ x2.aE,rI sR x2.To,rI rR x2.aH,rJ rH x2.aB] (fun y (_:Unit)=>[.int .i64 y]) (fun y _=>[]):=by
 refine ct (S:=Unit) (ca fun _ _=>rfl) Tryz.func114 rfl rfl ?_
 repeat' first
  | (apply Dk.fe; repeat' first | exact rfl | (refine @id.{0} _ ?_; constructor))
  | intro _
  | exact rfl
  | (refine @id.{0} _ ?_; constructor)
  | apply Px
  | exact ()
theorem YS {x0:aG} {dG:Addr} {aU bB aN aL:Value} {x1:Int} {x2:Int}:Ct Tryz.prog 118 true (iK x0 x1 x2) [.pointer (some (dG)),.int .i64 (x1),.int .i64 (x2)] [.ay dG [.int .i64 (x0.aA),aU,bB,aN,aL],rI aU x0.aE,rI bB x0.To,rI aN x0.aH,rJ aL x0.aB] (fun y (v:Value)=>[v]) (fun y v=>[.own (aJ 2 (aM .i64)) v y]):=by
 refine ct (S:=Unit) (ca fun _ _=>rfl) Tryz.func118 rfl rfl ?_
 repeat' first
  | (apply Dk.fe; repeat' first | exact rfl | (refine @id.{0} _ ?_; constructor))
  | intro _
  | exact rfl
  | (refine @id.{0} _ ?_; constructor)
  | apply Dk.loop 0 (V:=Value) (fun (s:(List Int)×Int) v=>[.own (aJ 2 (aM .i64)) v s.1]) (fun s v=>[(7,v),(15,.int .i64 (s.2))]) _ [(0,_),(1,_),(2,_),(14,_)]
  | exact ()
theorem c78 {x0:aI} {x1 x2:aZ} {p:Addr} {jz j3 j4 j5 j6 j7 j8 j9 uo ua v1 v2:Value}:Ct Tryz.prog 78 true (nQ x0 x1 x2) [.pointer (some p),.agg #[.int .i64 x1.cn,v1],.agg #[.int .i64 x2.cn,v2]] [.ay p [.int .i64 x0.aC.aA,jz,j3,j4,j5,.int .i64 x0.aD.aA,j6,j7,j8,j9,uo,ua],rI jz x0.aC.aE,rI j3 x0.aC.To,rI j4 x0.aC.aH,rJ j5 x0.aC.aB,rI j6 x0.aD.aE,rI j7 x0.aD.To,rI j8 x0.aD.aH,rJ j9 x0.aD.aB,rI uo x0.aA,rI ua x0.ab,rI v1 x1.bb,rI v2 x2.bb] (fun y (v:Value)=>[v]) (fun y v=>[.own (aJ 2 (aM .i64)) v y]):=by
 refine ct (S:=Unit) (ca fun _ _=>rfl) Tryz.func78 rfl rfl ?_
 repeat' first
  | (apply Dk.fe; repeat' first | exact rfl | (refine @id.{0} _ ?_; constructor))
  | intro _
  | exact rfl
  | (refine @id.{0} _ ?_; constructor)
  | apply Dk.scp
  | apply Dk.lab
  | apply Dk.loop 0 (V:=Value) (fun (s:List Int×Int) v=>[.own (aJ 2 (aM .i64)) v s.1]) (fun s v=>[(8,v),(24,.int .i64 s.2)]) _ [(4,_),(5,_),(7,_),(22,_),(23,_)]
  | apply Dk.S8 2 1 (V:=Unit) (fun (s:Int) _=>[]) (fun s _=>[(31,.int .i64 s)]) () [(4,_),(5,_),(7,_),(22,_),(23,_),(8,_),(10,_),(24,_),(29,_),(30,_)] rfl
  | apply Dk.nlx
  | apply Dk.xlx
  | (apply Dk.xlo <;> first | exact rfl | skip)
  | apply Dk.quiet (id:=9) (by kernel_rfl)
  | apply YS
  | apply Px
  | exact ()
theorem afi {x0:(List (List Int))} {cX:Value} {x1:(List (List Int))} {dX:Value}:Ct Tryz.prog 126 true (qR x0 x1) [cX,dX] [rJ cX x0,rJ dX x1] (fun y (_:Unit)=>[.bool y]) (fun y _=>[]):=by
 refine ct (S:=Unit) (ca fun _ _=>rfl) Tryz.func126 rfl rfl ?_
 repeat' first
  | (apply Dk.fe; repeat' first | exact rfl | (refine @id.{0} _ ?_; constructor))
  | intro _
  | exact rfl
  | (refine @id.{0} _ ?_; constructor)
  | apply Dk.loop 0 (V:=Unit) (fun (s:Int) v=>[]) (fun s v=>[(5,.int .i64 (s))]) () [(0,_),(1,_)]
  | apply Dk.quiet (id:=6) (by kernel_rfl)
  | apply TH
  | exact ()
end Go.Proofs.YtgjbmjjihmfppaaGreat
