/- Walks by the calculus D. No condition beside those that each theorem names. -/
import Derived.Test.YtgjbmjjihmfppaaGreatDp
import Derived.Test.YtgjbmjjihmfppaaGreatDi
import Derived.Test.YtgjbmjjihmfppaaGreatMo
import Derived.Test.YtgjbmjjihmfppaaGreatDs
import Derived.Test.YtgjbmjjihmfppaaGreatWa
import Derived.Test.YtgjbmjjihmfppaaGreatWb
import Derived.Test.YtgjbmjjihmfppaaGreatWc
import Derived.Test.YtgjbmjjihmfppaaGreatWd
import Derived.Test.YtgjbmjjihmfppaaGreatWe
import Derived.Test.YtgjbmjjihmfppaaGreatWf
import Derived.Test.YtgjbmjjihmfppaaGreatWg
import Derived.Test.YtgjbmjjihmfppaaGreatWh
namespace Go.Proofs.YtgjbmjjihmfppaaGreat
open Go Go.Li Go.Dk
set_option linter.unusedVariables false
set_option maxHeartbeats 16000000
set_option maxRecDepth 100000
theorem ae6 {x0:aG} {aS aY aN aL:Value} {x1:aG} {bU cI bB aW:Value}:Ct Tryz.prog 154 true (hJ x0 x1) [.agg #[.int .i64 (x0.aA),aS,aY,aN,aL],.agg #[.int .i64 (x1.aA),bU,cI,bB,aW]] [rI aS x0.aD,rI aY x0.To,rI aN x0.aH,rJ aL x0.aB,rI bU x1.aD,rI cI x1.To,rI bB x1.aH,rJ aW x1.aB] (fun y (v:Value×Value×Value×Value)=>match v with | (q0,q1,q2,q3)=>[.agg #[.int .i64 y.aA,q0,q1,q2,q3]]) (fun y v=>match v with | (q0,q1,q2,q3)=>[.own (aJ 2 (aM .i64)) q0 y.aD,.own (aJ 2 (aM .i64)) q1 y.To,.own (aJ 2 (aM .i64)) q2 y.aH,.own (aJ 24 (aJ 2 (aM .i64))) q3 y.aB]):=by
 refine ct (S:=Unit) (b9 fun _ _=>rfl) Tryz.func154 rfl rfl ?_
 repeat' first
  | (apply Dk.fe; repeat' first | exact rfl | (refine @id.{0} _ ?_; constructor))
  | intro _
  | exact rfl
  | (refine Dk.uP (t:=60) rfl ?_ ?_)
  | (refine @id.{0} _ ?_; constructor)
  | apply Dk.j6 0 (V:=Value×Value) (A:=Nat×Value×Value×Value) (_,_,_,_) (fun a (s:Int×(List Int)×(List Int)) v=>Dk.pc (fun a0=>Dk.pc (fun a1=>Dk.pc (fun a2 a3=>[.row a0 [a1,v.1,v.2,a2,a3] 27,.own (aJ 2 (aM .i64)) v.1 s.2.1,.own (aJ 2 (aM .i64)) v.2 s.2.2]))) a) (fun a s v=>Dk.pc (fun a0=>Dk.pc (fun a1=>Dk.pc (fun a2 a3=>[(5,.pointer (some ⟨a0,0,none⟩)),(7,.int .i64 (s.1))]))) a) (_,_) [(2,_),(3,_),(4,_),(6,_)]
  | apply Dk.j6 2 (V:=Value×Value) (A:=Nat×Value×Value×Value) (_,_,_,_) (fun a (s:Int×(List Int)×(List Int)) v=>Dk.pc (fun a0=>Dk.pc (fun a1=>Dk.pc (fun a2 a3=>[.row a0 [a1,v.1,v.2,a2,a3] 27,.own (aJ 2 (aM .i64)) v.1 s.2.1,.own (aJ 2 (aM .i64)) v.2 s.2.2]))) a) (fun a s v=>Dk.pc (fun a0=>Dk.pc (fun a1=>Dk.pc (fun a2 a3=>[(5,.pointer (some ⟨a0,0,none⟩)),(8,.int .i64 (s.1))]))) a) (_,_) [(2,_),(3,_),(4,_),(6,_),(7,_)]
  | apply Dk.loop 4 (V:=Value) (fun (s:(List (List Int))×Int) v=>[.own (aJ 24 (aJ 2 (aM .i64))) v s.1]) (fun s v=>[(9,v),(10,.int .i64 (s.2))]) _ [(2,_),(3,_),(4,_),(5,_),(6,_)]
  | apply Dk.loop 6 (V:=Value) (fun (s:(List Int)×Int) v=>[.own (aJ 2 (aM .i64)) v s.1]) (fun s v=>[(11,v),(12,.int .i64 (s.2))]) _ [(2,_),(3,_),(4,_),(5,_),(6,_),(9,_),(10,_)]
  | apply Dk.quiet (id:=20) (by kernel_rfl)
  | apply Dk.quiet (id:=21) (by kernel_rfl)
  | apply Yq
  | exact ()
theorem ae7 {x0:aK} {dB:Nat} {cA:Value}:Ct Tryz.prog 131 true (gS x0) [.pointer (some (⟨dB,0,none⟩))] [.row dB [cA,.int .i64 (x0.At),.int .u64 (x0.aq)] 81,.rd false (bJ (aM .u8)) cA x0.Code] (fun y (v:Value×Value×Value×Value)=>[.agg #[.int .i64 y.1.aA,v.1,v.2.1,v.2.2.1,v.2.2.2]]) (fun y v=>[.own (aJ 2 (aM .i64)) v.1 y.1.aD,.own (aJ 2 (aM .i64)) v.2.1 y.1.To,.own (aJ 2 (aM .i64)) v.2.2.1 y.1.aH,.own (aJ 24 (aJ 2 (aM .i64))) v.2.2.2 y.1.aB,.row dB [cA,.int .i64 y.2.At,.int .u64 y.2.aq] 81]):=by
 refine ct (S:=Unit) (b9 fun _ _=>rfl) Tryz.func131 rfl rfl ?_
 repeat' first
  | (apply Dk.fe; repeat' first | exact rfl | (refine @id.{0} _ ?_; constructor))
  | intro _
  | exact rfl
  | (refine Dk.uP (t:=59) rfl ?_ ?_)
  | (refine @id.{0} _ ?_; constructor)
  | apply Dk.loop 1 (V:=Value) (fun (s:(List (List Int))×Int) v=>[.own (aJ 24 (aJ 2 (aM .i64))) v s.1]) (fun s v=>[(4,v),(5,.int .i64 (s.2))]) _ [(2,_),(3,_)]
  | apply Dk.loop 3 (V:=Value) (fun (s:(List Int)×Int) v=>[.own (aJ 2 (aM .i64)) v s.1]) (fun s v=>[(6,v),(7,.int .i64 (s.2))]) _ [(2,_),(3,_),(4,_),(5,_)]
  | apply Dk.loop 5 (V:=Value×Value) (fun (s:(List Int)×(List Int)×Int×Int×Int) v=>[.row dB [cA,.int .i64 (s.2.2.2.1),.int .u64 (s.2.2.2.2)] 81,.own (aJ 2 (aM .i64)) v.1 s.1,.own (aJ 2 (aM .i64)) v.2 s.2.1]) (fun s v=>[(9,v.1),(10,v.2),(11,.int .i64 (s.2.2.1))]) (_,_) [(0,_),(2,_),(8,_)]
  | apply Al
  | apply aeG
  | apply JG
  | apply Yr
  | apply Yj
  | apply Ym
  | apply Ye
  | apply ae6
  | apply Ya
  | exact ()
theorem MN {x0:aK} {dB:Nat} {cA:Value} {x1:Int} {x2:Int}:Ct Tryz.prog 101 true (jG x0 x1 x2) [.pointer (some (⟨dB,0,none⟩)),.int .i64 (x1),.int .i64 (x2)] [.row dB [cA,.int .i64 (x0.At),.int .u64 (x0.aq)] 81,.rd false (bJ (aM .u8)) cA x0.Code] (fun y (v:Value×Value×Value×Value)=>[.agg #[.int .i64 y.1.aA,v.1,v.2.1,v.2.2.1,v.2.2.2]]) (fun y v=>[.own (aJ 2 (aM .i64)) v.1 y.1.aD,.own (aJ 2 (aM .i64)) v.2.1 y.1.To,.own (aJ 2 (aM .i64)) v.2.2.1 y.1.aH,.own (aJ 24 (aJ 2 (aM .i64))) v.2.2.2 y.1.aB,.row dB [cA,.int .i64 y.2.At,.int .u64 y.2.aq] 81]):=by
 refine ct (S:=Unit) (b9 fun _ _=>rfl) Tryz.func101 rfl rfl ?_
 repeat' first
  | (apply Dk.fe; repeat' first | exact rfl | (refine @id.{0} _ ?_; constructor))
  | intro _
  | exact rfl
  | (refine @id.{0} _ ?_; constructor)
  | apply Dk.loop 0 (V:=Unit) (fun (s:Int×Int×Int) v=>[.row dB [cA,.int .i64 (s.2.1),.int .u64 (s.2.2)] 81]) (fun s v=>[(7,.int .i64 (s.1))]) () [(0,_),(1,_),(2,_),(6,_)]
  | apply Dk.xg (id:=6) [Dk.aw.row _ _ 81] 3 [] [[],[],[5]] [[],[],[1]] (by kernel_rfl)
  | apply Dk.xg (id:=8) [Dk.aw.row _ _ 81] 3 [] [[],[],[5]] [[],[],[1]] (by kernel_rfl)
  | apply ae7
  | apply Al
  | apply Yq
  | apply aeA
  | apply Yh
  | apply JG
  | exact ()
theorem Yv {rc:aG→aG→(List Int)→(List aI)→Option ((List aI))} (ih:∀ {x0:aG} {aS aY aN aL:Value} {x1:aG} {bU cI bB aW:Value} {x2:(List Int)} {eC:Value} {x3:(List aI)} {gD:Value},Ct Tryz.prog 122 true (rc x0 x1 x2 x3) [.agg #[.int .i64 (x0.aA),aS,aY,aN,aL],.agg #[.int .i64 (x1.aA),bU,cI,bB,aW],eC,gD] [rI aS x0.aD,rI aY x0.To,rI aN x0.aH,rJ aL x0.aB,rI bU x1.aD,rI cI x1.To,rI bB x1.aH,rJ aW x1.aB,rI eC x2,.own (aJ 29 uy) gD x3] (fun y (v:Value)=>[v]) (fun y v=>[.own (aJ 29 uy) v y])) {x0:aG} {aS aY aN aL:Value} {x1:aG} {bU cI bB aW:Value} {x2:(List Int)} {eC:Value} {x3:(List aI)} {gD:Value}:Ct Tryz.prog 122 true (lG rc x0 x1 x2 x3) [.agg #[.int .i64 (x0.aA),aS,aY,aN,aL],.agg #[.int .i64 (x1.aA),bU,cI,bB,aW],eC,gD] [rI aS x0.aD,rI aY x0.To,rI aN x0.aH,rJ aL x0.aB,rI bU x1.aD,rI cI x1.To,rI bB x1.aH,rJ aW x1.aB,rI eC x2,.own (aJ 29 uy) gD x3] (fun y (v:Value)=>[v]) (fun y v=>[.own (aJ 29 uy) v y]):=by
 refine ct (S:=Unit) (b9 fun _ _=>rfl) Tryz.func122 rfl rfl ?_
 repeat' first
  | (apply Dk.fe; repeat' first | exact rfl | (refine @id.{0} _ ?_; constructor))
  | intro _
  | exact rfl
  | apply Dk.NJ (t:=104)
  | apply ih
  | apply Dk.apO (t:=104) (S:=uy) (aI.mk (aG.mk _ _ _ _ _) (aG.mk _ _ _ _ _) _ _)
  | (refine @id.{0} _ ?_; constructor)
  | apply Dk.loop 0 (V:=Value) (fun (s:(List Int)×Int) v=>[.own (aJ 2 (aM .i64)) v s.1]) (fun s v=>[(9,v),(10,.int .i64 (s.2))]) _ [(2,_),(3,_),(4,_),(5,_)]
  | apply Dk.j6 2 (V:=Unit) (A:=Value) _ (fun a (s:Int×(List Int)) v=>[.own (aJ 2 (aM .i64)) a s.2]) (fun a s v=>[(9,a),(11,.int .i64 (s.1))]) () [(2,_),(3,_),(4,_),(5,_)]
  | apply Dk.loop 4 (V:=Value) (fun (s:(List aI)×Int) v=>[.own (aJ 29 uy) v s.1]) (fun s v=>[(3,v),(13,.int .i64 (s.2))]) _ [(2,_),(4,_),(5,_),(12,_)]
  | apply Dk.loop 6 (V:=Value) (fun (s:(List aI)×Int) v=>[.own (aJ 29 uy) v s.1]) (fun s v=>[(3,v),(14,.int .i64 (s.2))]) _ [(2,_),(4,_),(5,_)]
  | apply Dk.any (id:=12) 14 [] [] [[],[],[1],[],[2,1,3],[4,2,1,3],[],[6],[],[],[8,9],[10,8,9],[7,6,11,10,8,9],[12,7,6,11,10,8,9]] (by kernel_rfl)
  | apply Dk.any (id:=22) 8 [] [[],[],[],[],[],[],[3],[]] [[],[],[],[2],[],[4],[3,2,5,4,3,2],[]] (by kernel_rfl)
  | apply Dk.Sp (id:=17) [(0,8)] 8 rfl (by kernel_rfl)
  | apply aet
  | apply aev
  | apply O5
  | apply zH
  | exact ()
theorem Yw (n:Nat):∀ {x0:aG} {aS aY aN aL:Value} {x1:aG} {bU cI bB aW:Value} {x2:(List Int)} {eC:Value} {x3:(List aI)} {gD:Value},Ct Tryz.prog 122 true (gV n x0 x1 x2 x3) [.agg #[.int .i64 (x0.aA),aS,aY,aN,aL],.agg #[.int .i64 (x1.aA),bU,cI,bB,aW],eC,gD] [rI aS x0.aD,rI aY x0.To,rI aN x0.aH,rJ aL x0.aB,rI bU x1.aD,rI cI x1.To,rI bB x1.aH,rJ aW x1.aB,rI eC x2,.own (aJ 29 uy) gD x3] (fun y (v:Value)=>[v]) (fun y v=>[.own (aJ 29 uy) v y]):=by
 induction n with
 | zero=>intros; rw [r6]; exact ⟨(b9 fun _ _=>rfl),fun _ _ _ _ _ _ _ y hy=>nomatch (show none=some y from hy)⟩
 | succ n ih=>exact Yv ih
theorem ae8 {x0:aG} {aS aY aN aL:Value} {x1:aG} {bU cI bB aW:Value} {x2:(List Int)} {eC:Value} {x3:(List aI)} {gD:Value}:Ct Tryz.prog 122 true (gV 64 x0 x1 x2 x3) [.agg #[.int .i64 (x0.aA),aS,aY,aN,aL],.agg #[.int .i64 (x1.aA),bU,cI,bB,aW],eC,gD] [rI aS x0.aD,rI aY x0.To,rI aN x0.aH,rJ aL x0.aB,rI bU x1.aD,rI cI x1.To,rI bB x1.aH,rJ aW x1.aB,rI eC x2,.own (aJ 29 uy) gD x3] (fun y (v:Value)=>[v]) (fun y v=>[.own (aJ 29 uy) v y]):=by
 exact Yw 64
theorem Yx {x0:aG} {aS aY aN aL:Value} {x1:aG} {bU cI bB aW:Value}:Ct Tryz.prog 82 true (kE x0 x1) [.agg #[.int .i64 (x0.aA),aS,aY,aN,aL],.agg #[.int .i64 (x1.aA),bU,cI,bB,aW]] [rI aS x0.aD,rI aY x0.To,rI aN x0.aH,rJ aL x0.aB,rI bU x1.aD,rI cI x1.To,rI bB x1.aH,rJ aW x1.aB] (fun y (v:Value)=>[v]) (fun y v=>[.own (aJ 29 uy) v y]):=by
 refine ct (S:=Unit) (b9 fun _ _=>rfl) Tryz.func82 rfl rfl ?_
 repeat' first
  | (apply Dk.fe; repeat' first | exact rfl | (refine @id.{0} _ ?_; constructor))
  | intro _
  | exact rfl
  | apply Dk.V1 (t:=104) uy
  | (refine @id.{0} _ ?_; constructor)
  | apply ae8
  | exact ()
theorem Yy {x0:aG} {aS aY aN aL:Value} {x1:aG} {bU cI bB aW:Value} {x2:Int}:Ct Tryz.prog 123 true (eJ x0 x1 x2) [.agg #[.int .i64 (x0.aA),aS,aY,aN,aL],.agg #[.int .i64 (x1.aA),bU,cI,bB,aW],.int .i64 (x2)] [rI aS x0.aD,rI aY x0.To,rI aN x0.aH,rJ aL x0.aB,rI bU x1.aD,rI cI x1.To,rI bB x1.aH,rJ aW x1.aB] (fun y (v:Value×Value×Value×Value×Value×Value×Value×Value×Value×Value)=>[.agg #[.int .i64 y.aC.aA,v.1,v.2.1,v.2.2.1,v.2.2.2.1,.int .i64 y.aE.aA,v.2.2.2.2.1,v.2.2.2.2.2.1,v.2.2.2.2.2.2.1,v.2.2.2.2.2.2.2.1,v.2.2.2.2.2.2.2.2.1,v.2.2.2.2.2.2.2.2.2]]) (fun y v=>[.own (aJ 2 (aM .i64)) v.1 y.aC.aD,.own (aJ 2 (aM .i64)) v.2.1 y.aC.To,.own (aJ 2 (aM .i64)) v.2.2.1 y.aC.aH,.own (aJ 24 (aJ 2 (aM .i64))) v.2.2.2.1 y.aC.aB,.own (aJ 2 (aM .i64)) v.2.2.2.2.1 y.aE.aD,.own (aJ 2 (aM .i64)) v.2.2.2.2.2.1 y.aE.To,.own (aJ 2 (aM .i64)) v.2.2.2.2.2.2.1 y.aE.aH,.own (aJ 24 (aJ 2 (aM .i64))) v.2.2.2.2.2.2.2.1 y.aE.aB,.own (aJ 2 (aM .i64)) v.2.2.2.2.2.2.2.2.1 y.aA,.own (aJ 2 (aM .i64)) v.2.2.2.2.2.2.2.2.2 y.ab]):=by
 refine ct (S:=Unit) (b9 fun _ _=>rfl) Tryz.func123 rfl rfl ?_
 repeat' first
  | (apply Dk.fe; repeat' first | exact rfl | (refine @id.{0} _ ?_; constructor))
  | intro _
  | exact rfl
  | (refine @id.{0} _ ?_; constructor)
  | apply Dk.loop 0 (V:=Value) (fun (s:(List Int)×Int) v=>[.own (aJ 2 (aM .i64)) v s.1]) (fun s v=>[(7,v),(9,.int .i64 (s.2))]) _ [(2,_),(3,_),(4,_),(6,_),(8,_)]
  | apply Dk.loop 2 (V:=Value) (fun (s:(List Int)×Int) v=>[.own (aJ 2 (aM .i64)) v s.1]) (fun s v=>[(8,v),(10,.int .i64 (s.2))]) _ [(2,_),(3,_),(4,_),(6,_),(7,_)]
  | apply O5
  | exact ()
theorem Yz {x0:aG} {aS aY aN aL:Value}:Ct Tryz.prog 79 true (fU x0) [.agg #[.int .i64 (x0.aA),aS,aY,aN,aL]] [rI aS x0.aD,rI aY x0.To,rI aN x0.aH,rJ aL x0.aB] (fun y (v:Value×Value×Value×Value×Value×Value×Value×Value×Value×Value)=>[.agg #[.int .i64 y.aC.aA,v.1,v.2.1,v.2.2.1,v.2.2.2.1,.int .i64 y.aE.aA,v.2.2.2.2.1,v.2.2.2.2.2.1,v.2.2.2.2.2.2.1,v.2.2.2.2.2.2.2.1,v.2.2.2.2.2.2.2.2.1,v.2.2.2.2.2.2.2.2.2]]) (fun y v=>[.own (aJ 2 (aM .i64)) v.1 y.aC.aD,.own (aJ 2 (aM .i64)) v.2.1 y.aC.To,.own (aJ 2 (aM .i64)) v.2.2.1 y.aC.aH,.own (aJ 24 (aJ 2 (aM .i64))) v.2.2.2.1 y.aC.aB,.own (aJ 2 (aM .i64)) v.2.2.2.2.1 y.aE.aD,.own (aJ 2 (aM .i64)) v.2.2.2.2.2.1 y.aE.To,.own (aJ 2 (aM .i64)) v.2.2.2.2.2.2.1 y.aE.aH,.own (aJ 24 (aJ 2 (aM .i64))) v.2.2.2.2.2.2.2.1 y.aE.aB,.own (aJ 2 (aM .i64)) v.2.2.2.2.2.2.2.2.1 y.aA,.own (aJ 2 (aM .i64)) v.2.2.2.2.2.2.2.2.2 y.ab]):=by
 refine ct (S:=Unit) (b9 fun _ _=>rfl) Tryz.func79 rfl rfl ?_
 repeat' first
  | (apply Dk.fe; repeat' first | exact rfl | (refine @id.{0} _ ?_; constructor))
  | intro _
  | exact rfl
  | (refine @id.{0} _ ?_; constructor)
  | apply Dk.loop 0 (V:=Value) (fun (s:(List Int)×Int) v=>[.own (aJ 2 (aM .i64)) v s.1]) (fun s v=>[(3,v),(5,.int .i64 (s.2))]) _ [(1,_),(2,_),(4,_)]
  | apply Dk.loop 2 (V:=Value) (fun (s:(List Int)×Int) v=>[.own (aJ 2 (aM .i64)) v s.1]) (fun s v=>[(4,v),(6,.int .i64 (s.2))]) _ [(1,_),(2,_),(3,_)]
  | apply O5
  | exact ()
theorem c83 {x0:aK} {dB:Nat} {cA:Value} {x1:aG} {bU cI bB aW:Value} {x2:Int} {x3:Int}:Ct Tryz.prog 83 true (jH x0 x1 x2 x3) [.pointer (some (⟨dB,0,none⟩)),.agg #[.int .i64 (x1.aA),bU,cI,bB,aW],.int .i64 (x2),.int .i64 (x3)] [.row dB [cA,.int .i64 (x0.At),.int .u64 (x0.aq)] 81,.rd false (bJ (aM .u8)) cA x0.Code,rI bU x1.aD,rI cI x1.To,rI bB x1.aH,rJ aW x1.aB] (fun y (v:Value×Value×Value×Value×Value×Value×Value×Value×Value×Value)=>[.agg #[.int .i64 y.1.aC.aA,v.1,v.2.1,v.2.2.1,v.2.2.2.1,.int .i64 y.1.aE.aA,v.2.2.2.2.1,v.2.2.2.2.2.1,v.2.2.2.2.2.2.1,v.2.2.2.2.2.2.2.1,v.2.2.2.2.2.2.2.2.1,v.2.2.2.2.2.2.2.2.2]]) (fun y v=>[.own (aJ 2 (aM .i64)) v.1 y.1.aC.aD,.own (aJ 2 (aM .i64)) v.2.1 y.1.aC.To,.own (aJ 2 (aM .i64)) v.2.2.1 y.1.aC.aH,.own (aJ 24 (aJ 2 (aM .i64))) v.2.2.2.1 y.1.aC.aB,.own (aJ 2 (aM .i64)) v.2.2.2.2.1 y.1.aE.aD,.own (aJ 2 (aM .i64)) v.2.2.2.2.2.1 y.1.aE.To,.own (aJ 2 (aM .i64)) v.2.2.2.2.2.2.1 y.1.aE.aH,.own (aJ 24 (aJ 2 (aM .i64))) v.2.2.2.2.2.2.2.1 y.1.aE.aB,.own (aJ 2 (aM .i64)) v.2.2.2.2.2.2.2.2.1 y.1.aA,.own (aJ 2 (aM .i64)) v.2.2.2.2.2.2.2.2.2 y.1.ab,.row dB [cA,.int .i64 y.2.At,.int .u64 y.2.aq] 81]):=by
 refine ct (S:=Unit) (b9 fun _ _=>rfl) Tryz.func83 rfl rfl ?_
 repeat' first
  | (apply Dk.fe; repeat' first | exact rfl | (refine @id.{0} _ ?_; constructor))
  | intro _
  | exact rfl
  | apply Dk.NJ (t:=104)
  | apply Dk.V2 (t:=104)
  | apply Dk.NH (n:=12)
  | apply Dk.NG (n:=12)
  | apply Dk.LJ (n:=12)
  | (apply Dk.Sk (t:=38); exact rfl)
  | (refine @id.{0} _ ?_; constructor)
  | apply Dk.xg (id:=7) [Dk.aw.row _ _ 81] 6 [] [[],[],[],[],[],[8]] [[],[],[],[],[3],[2,4,3]] (by kernel_rfl)
  | apply MN
  | apply Yn
  | apply Yx
  | apply Al
  | apply Yy
  | apply Yz
  | exact ()
theorem ae9 {x0:aK} {dB:Nat} {cA:Value}:Ct Tryz.prog 103 true (nT x0) [.pointer (some (⟨dB,0,none⟩))] [.row dB [cA,.int .i64 (x0.At),.int .u64 (x0.aq)] 81,.rd false (bJ (aM .u8)) cA x0.Code] (fun y (v:Value×Value×Value×Value)=>[.agg #[.int .i64 y.1.aA,v.1,v.2.1,v.2.2.1,v.2.2.2]]) (fun y v=>[.own (aJ 2 (aM .i64)) v.1 y.1.aD,.own (aJ 2 (aM .i64)) v.2.1 y.1.To,.own (aJ 2 (aM .i64)) v.2.2.1 y.1.aH,.own (aJ 24 (aJ 2 (aM .i64))) v.2.2.2 y.1.aB,.row dB [cA,.int .i64 y.2.At,.int .u64 y.2.aq] 81]):=by
 refine ct (S:=Unit) (b9 fun _ _=>rfl) Tryz.func103 rfl rfl ?_
 repeat' first
  | (apply Dk.fe; repeat' first | exact rfl | (refine @id.{0} _ ?_; constructor))
  | intro _
  | exact rfl
  | (refine @id.{0} _ ?_; constructor)
  | apply Al
  | apply JG
  | apply Yl
  | apply Yr
  | apply Ya
  | apply Yj
  | apply Ym
  | apply MN
  | exact ()
theorem c80 {x0:aK} {dB:Nat} {cA:Value}:Ct Tryz.prog 80 true (kV x0) [.pointer (some (⟨dB,0,none⟩))] [.row dB [cA,.int .i64 (x0.At),.int .u64 (x0.aq)] 81,.rd false (bJ (aM .u8)) cA x0.Code] (fun y (v:Value×Value×Value×Value)=>[.agg #[.int .i64 y.1.aA,v.1,v.2.1,v.2.2.1,v.2.2.2]]) (fun y v=>[.own (aJ 2 (aM .i64)) v.1 y.1.aD,.own (aJ 2 (aM .i64)) v.2.1 y.1.To,.own (aJ 2 (aM .i64)) v.2.2.1 y.1.aH,.own (aJ 24 (aJ 2 (aM .i64))) v.2.2.2 y.1.aB,.row dB [cA,.int .i64 y.2.At,.int .u64 y.2.aq] 81]):=by
 refine ct (S:=Unit) (b9 fun _ _=>rfl) Tryz.func80 rfl rfl ?_
 repeat' first
  | (apply Dk.fe; repeat' first | exact rfl | (refine @id.{0} _ ?_; constructor))
  | intro _
  | exact rfl
  | (refine @id.{0} _ ?_; constructor)
  | apply Al
  | apply JG
  | apply Ye
  | apply MN
  | exact ()
theorem afa {x0:aI} {aU aZ aQ aO aV bA aR aP bK bP:Value} {x1:aI} {bV cB bL bE bW cC bN bF cM cQ:Value} {x2:Bool} {x3:Int}:Ct Tryz.prog 143 false (mQ x0 x1 x2 x3) [.agg #[.int .i64 (x0.aC.aA),aU,aZ,aQ,aO,.int .i64 (x0.aE.aA),aV,bA,aR,aP,bK,bP],.agg #[.int .i64 (x1.aC.aA),bV,cB,bL,bE,.int .i64 (x1.aE.aA),bW,cC,bN,bF,cM,cQ],.bool (x2),.int .i64 (x3)] [rI aU x0.aC.aD,rI aZ x0.aC.To,rI aQ x0.aC.aH,rJ aO x0.aC.aB,rI aV x0.aE.aD,rI bA x0.aE.To,rI aR x0.aE.aH,rJ aP x0.aE.aB,rI bK x0.aA,rI bP x0.ab,rI bV x1.aC.aD,rI cB x1.aC.To,rI bL x1.aC.aH,rJ bE x1.aC.aB,rI bW x1.aE.aD,rI cC x1.aE.To,rI bN x1.aE.aH,rJ bF x1.aE.aB,rI cM x1.aA,rI cQ x1.ab] (fun y (v:Value)=>[v]) (fun y v=>[rJ v y]):=by
 refine ct (S:=Unit) vK Tryz.func143 rfl rfl ?_
 repeat' first
  | (apply Dk.fe; repeat' first | exact rfl | (refine @id.{0} _ ?_; constructor))
  | intro _
  | exact rfl
  | apply Dk.zC (d:=40)
  | (refine Dk.uP (t:=61) rfl ?_ ?_)
  | (refine @id.{0} _ ?_; constructor)
  | apply Dk.loop 0 (V:=Value) (fun (s:(List (List Int))×Int) v=>[.own (aJ 24 (aJ 2 (aM .i64))) v s.1]) (fun s v=>[(10,v),(11,.int .i64 (s.2))]) _ [(2,_),(3,_),(4,_),(5,_),(9,_)]
  | apply Dk.loop 2 (V:=Value) (fun (s:(List Int)×Int) v=>[.own (aJ 2 (aM .i64)) v s.1]) (fun s v=>[(13,v),(14,.int .i64 (s.2))]) _ [(2,_),(3,_),(4,_),(5,_),(12,_)]
  | apply Dk.loop 4 (V:=Value) (fun (s:(List Int)×Int) v=>[.own (aJ 2 (aM .i64)) v s.1]) (fun s v=>[(15,v),(16,.int .i64 (s.2))]) _ [(2,_),(3,_),(4,_),(5,_),(12,_),(13,_),(14,_)]
  | apply Dk.Sp (id:=6) [(0,11)] 11 rfl (by kernel_rfl)
  | apply ae2
  | apply ae0
  | exact ()
theorem afb {x0:aI} {aU aZ aQ aO aV bA aR aP bK bP:Value}:Ct Tryz.prog 108 false (lU x0) [.agg #[.int .i64 (x0.aC.aA),aU,aZ,aQ,aO,.int .i64 (x0.aE.aA),aV,bA,aR,aP,bK,bP]] [rI aU x0.aC.aD,rI aZ x0.aC.To,rI aQ x0.aC.aH,rJ aO x0.aC.aB,rI aV x0.aE.aD,rI bA x0.aE.To,rI aR x0.aE.aH,rJ aP x0.aE.aB,rI bK x0.aA,rI bP x0.ab] (fun y (v:Value)=>[v]) (fun y v=>[.rd false (bJ (iq kp)) v y]):=by
 refine ct (S:=Unit) vK Tryz.func108 rfl rfl ?_
 repeat' first
  | (apply Dk.fe; repeat' first | exact rfl | (refine @id.{0} _ ?_; constructor))
  | intro _
  | exact rfl
  | apply Dk.VU (t:=83) (S:=kp)
  | apply Dk.VV (t:=83) (x:=.tmp 14)
  | apply Dk.VQ.U4 (t:=83) (x:=.tmp 27)
  | apply Dk.Si (t:=83) (bG.mk _ _)
  | (refine @id.{0} _ ?_; constructor)
  | apply Dk.wq 0 (V:=Value) (W:=List (List Value)) (fun (s:List bG×Int) v u=>[.own (aJ 32 (ee 2)) v u,.rd false (qt kp) (.bool true) (u,s.1)]) (fun s v u=>[(3,v),(4,.int .i64 s.2)]) _ _ [(1,_)]
  | apply Dk.wq 2 (V:=Value) (W:=List (List Value)) (fun (s:List bG×Int) v u=>[.own (aJ 32 (ee 2)) v u,.rd false (qt kp) (.bool true) (u,s.1)]) (fun s v u=>[(3,v),(6,.int .i64 s.2)]) _ _ [(1,_),(4,_),(5,_)]
  | apply Dk.any (id:=5) 10 [] [] [[],[0],[],[2],[],[1,0,3,2,4],[],[],[7],[8,7]] (by kernel_rfl)
  | apply Yy
  | apply afa
  | exact ()
theorem c69 {x0:aI} {aU aZ aQ aO aV bA aR aP bK bP:Value}:Ct Tryz.prog 69 false (mR x0) [.agg #[.int .i64 (x0.aC.aA),aU,aZ,aQ,aO,.int .i64 (x0.aE.aA),aV,bA,aR,aP,bK,bP]] [rI aU x0.aC.aD,rI aZ x0.aC.To,rI aQ x0.aC.aH,rJ aO x0.aC.aB,rI aV x0.aE.aD,rI bA x0.aE.To,rI aR x0.aE.aH,rJ aP x0.aE.aB,rI bK x0.aA,rI bP x0.ab] (fun y (v:Value)=>[v,.int .i64 y.2]) (fun y v=>[.rd false (bJ (iq kp)) v y.1]):=by
 refine ct (S:=Unit) vK Tryz.func69 rfl rfl ?_
 repeat' first
  | (apply Dk.fe; repeat' first | exact rfl | (refine @id.{0} _ ?_; constructor))
  | intro _
  | exact rfl
  | (refine @id.{0} _ ?_; constructor)
  | apply afb
  | exact ()
theorem c88 {x0:aI} {aU aZ aQ aO aV bA aR aP bK bP:Value} {x1:aI} {bV cB bL bE bW cC bN bF cM cQ:Value}:Ct Tryz.prog 88 false (qW x0 x1) [.agg #[.int .i64 (x0.aC.aA),aU,aZ,aQ,aO,.int .i64 (x0.aE.aA),aV,bA,aR,aP,bK,bP],.agg #[.int .i64 (x1.aC.aA),bV,cB,bL,bE,.int .i64 (x1.aE.aA),bW,cC,bN,bF,cM,cQ]] [rI aU x0.aC.aD,rI aZ x0.aC.To,rI aQ x0.aC.aH,rJ aO x0.aC.aB,rI aV x0.aE.aD,rI bA x0.aE.To,rI aR x0.aE.aH,rJ aP x0.aE.aB,rI bK x0.aA,rI bP x0.ab,rI bV x1.aC.aD,rI cB x1.aC.To,rI bL x1.aC.aH,rJ bE x1.aC.aB,rI bW x1.aE.aD,rI cC x1.aE.To,rI bN x1.aE.aH,rJ bF x1.aE.aB,rI cM x1.aA,rI cQ x1.ab] (fun y (v:Value×Value)=>[v.1,v.2,.int .i64 y.2.2]) (fun y v=>[.rd false (bJ (iq kp)) v.1 y.1,.rd false (bJ (iq kp)) v.2 y.2.1]):=by
 refine ct (S:=Unit) vK Tryz.func88 rfl rfl ?_
 repeat' first
  | (apply Dk.fe; repeat' first | exact rfl | (refine @id.{0} _ ?_; constructor))
  | intro _
  | exact rfl
  | (refine @id.{0} _ ?_; constructor)
  | apply c69
  | exact ()
end Go.Proofs.YtgjbmjjihmfppaaGreat
