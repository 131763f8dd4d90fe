/- Walks by the calculus D. No condition beside those that each theorem names. -/
import Derived.Test.YtacpfhajafmigaaGreatDi
import Derived.Test.YtacpfhajafmigaaGreatMo
import Derived.Test.YtacpfhajafmigaaGreatDg
import Derived.Test.YtacpfhajafmigaaGreatDs
import Derived.Test.YtacpfhajafmigaaGreatWa
import Derived.Test.YtacpfhajafmigaaGreatWc
import Derived.Test.YtacpfhajafmigaaGreatWd
import Derived.Test.YtacpfhajafmigaaGreatWe
import Derived.Test.YtacpfhajafmigaaGreatWf
import Derived.Test.YtacpfhajafmigaaGreatWg
import Derived.Test.YtacpfhajafmigaaGreatWh
namespace Go.Proofs.YtacpfhajafmigaaGreat
open Go Go.Li Go.Dk
set_option linter.unusedVariables false
set_option maxHeartbeats 16000000
set_option maxRecDepth 100000
theorem c125 {x0:aI} {bR:Value} {cF:Value} {bB:Value} {aW:Value} {x1:aI} {dM:Value} {dS:Value} {cR:Value} {cL:Value}:Ct Tryz.prog 125 true (kH x0 x1) [.agg #[.int .i64 (x0.aH),bR,cF,bB,aW],.agg #[.int .i64 (x1.aH),dM,dS,cR,cL]] [.rd false (aB (aC .i64)) bR x0.aG,.rd false (aB (aC .i64)) cF x0.To,.rd false (aB (aC .i64)) bB x0.aO,.rd false (aB (aB (aC .i64))) aW x0.aE,.rd false (aB (aC .i64)) dM x1.aG,.rd false (aB (aC .i64)) dS x1.To,.rd false (aB (aC .i64)) cR x1.aO,.rd false (aB (aB (aC .i64))) cL x1.aE] (fun y (v:Value×Value×Value×Value)=>match v with | (q0,q1,q2,q3)=>[.agg #[.int .i64 y.aH,q0,q1,q2,q3]]) (fun y v=>match v with | (q0,q1,q2,q3)=>[.own (aJ 2 (aC .i64)) q0 y.aG,.own (aJ 2 (aC .i64)) q1 y.To,.own (aJ 2 (aC .i64)) q2 y.aO,.own (aJ 24 (aJ 2 (aC .i64))) q3 y.aE]):=by
 refine ct (S:=Unit) (owt fun _ _=>rfl) Tryz.func125 rfl rfl ?_
 repeat' first
  | intro _
  | exact rfl
  | (refine Dk.cdR (t:=60) rfl ?_ ?_)
  | (refine @id.{0} _ ?_; constructor)
  | apply Dk.loopA 0 (V:=Value×Value) (A:=Nat×Value×Value×Value) (_,_,_,_) (fun a (s:Int×(List Int)×(List Int)) v=>Dk.pc (fun a0=>Dk.pc (fun a1=>Dk.pc (fun a2 a3=>[.row a0 [a1,v.1,v.2,a2,a3] 27,.own (aJ 2 (aC .i64)) v.1 s.2.1,.own (aJ 2 (aC .i64)) v.2 s.2.2]))) a) (fun a s v=>Dk.pc (fun a0=>Dk.pc (fun a1=>Dk.pc (fun a2 a3=>[(5,.pointer (some ⟨a0,0,none⟩)),(7,.int .i64 (s.1))]))) a) (_,_) [(2,_),(3,_),(4,_),(6,_)]
  | apply Dk.loopA 2 (V:=Value×Value) (A:=Nat×Value×Value×Value) (_,_,_,_) (fun a (s:Int×(List Int)×(List Int)) v=>Dk.pc (fun a0=>Dk.pc (fun a1=>Dk.pc (fun a2 a3=>[.row a0 [a1,v.1,v.2,a2,a3] 27,.own (aJ 2 (aC .i64)) v.1 s.2.1,.own (aJ 2 (aC .i64)) v.2 s.2.2]))) a) (fun a s v=>Dk.pc (fun a0=>Dk.pc (fun a1=>Dk.pc (fun a2 a3=>[(5,.pointer (some ⟨a0,0,none⟩)),(8,.int .i64 (s.1))]))) a) (_,_) [(2,_),(3,_),(4,_),(6,_),(7,_)]
  | apply Dk.loop 4 (V:=Value) (fun (s:(List (List Int))×Int) v=>[.own (aJ 24 (aJ 2 (aC .i64))) v s.1]) (fun s v=>[(9,v),(10,.int .i64 (s.2))]) _ [(2,_),(3,_),(4,_),(5,_),(6,_)]
  | apply Dk.loop 6 (V:=Value) (fun (s:(List Int)×Int) v=>[.own (aJ 2 (aC .i64)) v s.1]) (fun s v=>[(11,v),(12,.int .i64 (s.2))]) _ [(2,_),(3,_),(4,_),(5,_),(6,_),(9,_),(10,_)]
  | apply Dk.quiet (id:=20) (by kernel_rfl)
  | apply Dk.quiet (id:=21) (by kernel_rfl)
  | apply c114
  | exact ()
theorem c113 {x0:aL} {cU:Nat} {bL:Value}:Ct Tryz.prog 113 true (fL x0) [.pointer (some (⟨cU,0,none⟩))] [.row cU [bL,.int .i64 (x0.At),.int .u64 (x0.Hash)] 72,.rd false (aB (aC .u8)) bL x0.Code] (fun y (v:Value×Value×Value×Value)=>[.agg #[.int .i64 y.1.aH,v.1,v.2.1,v.2.2.1,v.2.2.2]]) (fun y v=>[.own (aJ 2 (aC .i64)) v.1 y.1.aG,.own (aJ 2 (aC .i64)) v.2.1 y.1.To,.own (aJ 2 (aC .i64)) v.2.2.1 y.1.aO,.own (aJ 24 (aJ 2 (aC .i64))) v.2.2.2 y.1.aE,.row cU [bL,.int .i64 y.2.At,.int .u64 y.2.Hash] 72]):=by
 refine ct (S:=Unit) (owt fun _ _=>rfl) Tryz.func113 rfl rfl ?_
 repeat' first
  | intro _
  | exact rfl
  | (refine Dk.cdR (t:=59) rfl ?_ ?_)
  | (refine @id.{0} _ ?_; constructor)
  | apply Dk.loop 1 (V:=Value) (fun (s:(List (List Int))×Int) v=>[.own (aJ 24 (aJ 2 (aC .i64))) v s.1]) (fun s v=>[(4,v),(5,.int .i64 (s.2))]) _ [(2,_),(3,_)]
  | apply Dk.loop 3 (V:=Value) (fun (s:(List Int)×Int) v=>[.own (aJ 2 (aC .i64)) v s.1]) (fun s v=>[(6,v),(7,.int .i64 (s.2))]) _ [(2,_),(3,_),(4,_),(5,_)]
  | apply Dk.loop 5 (V:=Value×Value) (fun (s:(List Int)×(List Int)×Int×Int×Int) v=>[.row cU [bL,.int .i64 (s.2.2.2.1),.int .u64 (s.2.2.2.2)] 72,.own (aJ 2 (aC .i64)) v.1 s.1,.own (aJ 2 (aC .i64)) v.2 s.2.1]) (fun s v=>[(9,v.1),(10,v.2),(11,.int .i64 (s.2.2.1))]) (_,_) [(0,_),(2,_),(8,_)]
  | apply c33
  | apply c119
  | apply c117
  | apply c120
  | apply c122
  | apply c121
  | apply c123
  | apply c125
  | apply c124
  | exact ()
theorem c107 {x0:aL} {cU:Nat} {bL:Value} {x1:Int} {x2:Int}:Ct Tryz.prog 107 true (mU x0 x1 x2) [.pointer (some (⟨cU,0,none⟩)),.int .i64 (x1),.int .i64 (x2)] [.row cU [bL,.int .i64 (x0.At),.int .u64 (x0.Hash)] 72,.rd false (aB (aC .u8)) bL x0.Code] (fun y (v:Value×Value×Value×Value)=>[.agg #[.int .i64 y.1.aH,v.1,v.2.1,v.2.2.1,v.2.2.2]]) (fun y v=>[.own (aJ 2 (aC .i64)) v.1 y.1.aG,.own (aJ 2 (aC .i64)) v.2.1 y.1.To,.own (aJ 2 (aC .i64)) v.2.2.1 y.1.aO,.own (aJ 24 (aJ 2 (aC .i64))) v.2.2.2 y.1.aE,.row cU [bL,.int .i64 y.2.At,.int .u64 y.2.Hash] 72]):=by
 refine ct (S:=Unit) (owt fun _ _=>rfl) Tryz.func107 rfl rfl ?_
 repeat' first
  | intro _
  | exact rfl
  | (refine @id.{0} _ ?_; constructor)
  | apply Dk.loop 0 (V:=Unit) (fun (s:Int×Int×Int) v=>[.row cU [bL,.int .i64 (s.2.1),.int .u64 (s.2.2)] 72]) (fun s v=>[(7,.int .i64 (s.1))]) () [(0,_),(1,_),(2,_),(6,_)]
  | apply Dk.anyH (id:=6) [Dk.Ent.row _ _ 72] 3 [] [[],[],[5]] [[],[],[1]] (by kernel_rfl)
  | apply Dk.anyH (id:=8) [Dk.Ent.row _ _ 72] 3 [] [[],[],[5]] [[],[],[1]] (by kernel_rfl)
  | apply c113
  | apply c33
  | apply c114
  | apply c115
  | apply c116
  | apply c117
  | exact ()
theorem c97 {x0:aL} {cU:Nat} {bL:Value} {x1:Int} {x2:Int}:Ct Tryz.prog 97 false (kQ x0 x1 x2) [.pointer (some (⟨cU,0,none⟩)),.int .i64 (x1),.int .i64 (x2)] [.row cU [bL,.int .i64 (x0.At),.int .u64 (x0.Hash)] 72,.rd false (aB (aC .u8)) bL x0.Code] (fun y (v:Value×Value×Value×Value)=>[.agg #[.int .i64 y.1.aH,v.1,v.2.1,v.2.2.1,v.2.2.2]]) (fun y v=>[.rd false (aB (aC .i64)) v.1 y.1.aG,.rd false (aB (aC .i64)) v.2.1 y.1.To,.rd false (aB (aC .i64)) v.2.2.1 y.1.aO,.rd false (aB (aB (aC .i64))) v.2.2.2 y.1.aE,.row cU [bL,.int .i64 y.2.At,.int .u64 y.2.Hash] 72]):=by
 refine ct (S:=Unit) owf Tryz.func97 rfl rfl ?_
 repeat' first
  | intro _
  | exact rfl
  | (refine @id.{0} _ ?_; constructor)
  | apply c107
  | apply c33
  | apply c108
  | exact ()
theorem c84 {x0:aL} {cU:Nat} {bL:Value}:Ct Tryz.prog 84 false (kR x0) [.pointer (some (⟨cU,0,none⟩))] [.row cU [bL,.int .i64 (x0.At),.int .u64 (x0.Hash)] 72,.rd false (aB (aC .u8)) bL x0.Code] (fun y (v:Value×Value×Value×Value)=>[.agg #[.int .i64 y.1.aH,v.1,v.2.1,v.2.2.1,v.2.2.2]]) (fun y v=>[.rd false (aB (aC .i64)) v.1 y.1.aG,.rd false (aB (aC .i64)) v.2.1 y.1.To,.rd false (aB (aC .i64)) v.2.2.1 y.1.aO,.rd false (aB (aB (aC .i64))) v.2.2.2 y.1.aE,.row cU [bL,.int .i64 y.2.At,.int .u64 y.2.Hash] 72]):=by
 refine ct (S:=Unit) owf Tryz.func84 rfl rfl ?_
 repeat' first
  | intro _
  | exact rfl
  | (refine @id.{0} _ ?_; constructor)
  | apply c33
  | apply c97
  | exact ()
theorem c34 {x0:aL} {cU:Nat} {bL:Value} {x1:aI} {dM:Value} {dS:Value} {cR:Value} {cL:Value} {x2:Int}:Ct Tryz.prog 34 true (kU x0 x1 x2) [.pointer (some (⟨cU,0,none⟩)),.agg #[.int .i64 (x1.aH),dM,dS,cR,cL],.int .i64 (x2)] [.row cU [bL,.int .i64 (x0.At),.int .u64 (x0.Hash)] 72,.rd false (aB (aC .u8)) bL x0.Code,.rd false (aB (aC .i64)) dM x1.aG,.rd false (aB (aC .i64)) dS x1.To,.rd false (aB (aC .i64)) cR x1.aO,.rd false (aB (aB (aC .i64))) cL x1.aE] (fun y (v:Value×Value×Value×Value×Value×Value)=>[.agg #[.int .i64 y.1.aA.aH,v.1,v.2.1,v.2.2.1,v.2.2.2.1,v.2.2.2.2.1,v.2.2.2.2.2]]) (fun y v=>[.own (aJ 2 (aC .i64)) v.1 y.1.aA.aG,.own (aJ 2 (aC .i64)) v.2.1 y.1.aA.To,.own (aJ 2 (aC .i64)) v.2.2.1 y.1.aA.aO,.own (aJ 24 (aJ 2 (aC .i64))) v.2.2.2.1 y.1.aA.aE,.own (aJ 2 (aC .i64)) v.2.2.2.2.1 y.1.aM,.own (aJ 24 (aJ 2 (aC .i64))) v.2.2.2.2.2 y.1.aN,.row cU [bL,.int .i64 y.2.At,.int .u64 y.2.Hash] 72]):=by
 refine ct (S:=Unit) (owt fun _ _=>rfl) Tryz.func34 rfl rfl ?_
 repeat' first
  | intro _
  | exact rfl
  | apply Dk.apR (d:=88)
  | apply Dk.ixH (d:=89)
  | apply Dk.stR (e:=25) (t:=25)
  | (refine @id.{0} _ ?_; constructor)
  | apply Dk.loop 0 (V:=Unit) (fun (s:Int×Int×Int) v=>[.row cU [bL,.int .i64 (s.2.1),.int .u64 (s.2.2)] 72]) (fun s v=>[(7,.int .i64 (s.1))]) () [(0,_),(2,_),(4,_),(6,_)]
  | apply Dk.loop 2 (V:=Value) (fun (s:(List Int)×Int×Int×Int) v=>[.row cU [bL,.int .i64 (s.2.2.1),.int .u64 (s.2.2.2)] 72,.own (aJ 2 (aC .i64)) v s.1]) (fun s v=>[(8,v),(9,.int .i64 (s.2.1))]) _ [(0,_),(2,_),(4,_),(6,_),(7,_)]
  | apply Dk.loopA 4 (V:=Unit) (A:=Value) _ (fun a (s:Int×Int×Int×(List (List (List Int)))) v=>[.row cU [bL,.int .i64 (s.2.1),.int .u64 (s.2.2.1)] 72,.own (aJ 25 (aJ 24 (aJ 2 (aC .i64)))) a s.2.2.2]) (fun a s v=>[(11,a),(12,.int .i64 (s.1))]) () [(0,_),(2,_),(4,_),(6,_),(7,_),(10,_)]
  | apply Dk.loop 6 (V:=Unit) (fun (s:Bool×Int) v=>[]) (fun s v=>[(14,.bool (s.1)),(15,.int .i64 (s.2))]) () [(0,_),(2,_),(4,_),(6,_),(7,_),(10,_)]
  | apply Dk.anyH (id:=16) [Dk.Ent.row _ _ 72] 22 [0,1] [[],[],[],[],[],[],[],[],[],[],[],[],[25],[],[],[],[],[],[],[12],[],[]] [[],[],[],[],[2,3],[4,2,3],[],[],[7],[],[8,7,9],[10,8,7,9],[6,11,10,8,7,9],[],[],[14],[],[15,14,16],[17,15,14,16],[13,18,17,15,14,16,12,6,11,10,8,7,9],[6,11,10,8,7,9,19,13,18,17,15,14,16,6,11,10,8,7,9],[20,6,11,10,8,7,9,19,13,18,17,15,14,16,6,11,10,8,7,9]] (by kernel_rfl)
  | apply Dk.anyH (id:=25) [Dk.Ent.row _ _ 72] 6 [] [[],[],[],[],[],[8]] [[],[],[],[2],[3,2],[1,4,3,2]] (by kernel_rfl)
  | apply c33
  | apply c67
  | apply c68
  | apply c69
  | exact ()
theorem c99 {x0:aL} {cU:Nat} {bL:Value} {x1:aF} {bK:Value} {bV:Value} {bE:Value} {bA:Value} {cI:Value} {cB:Value}:Ct Tryz.prog 99 false (nV x0 x1) [.pointer (some (⟨cU,0,none⟩)),.agg #[.int .i64 (x1.aA.aH),bK,bV,bE,bA,cI,cB]] [.row cU [bL,.int .i64 (x0.At),.int .u64 (x0.Hash)] 72,.rd false (aB (aC .u8)) bL x0.Code,.rd false (aB (aC .i64)) bK x1.aA.aG,.rd false (aB (aC .i64)) bV x1.aA.To,.rd false (aB (aC .i64)) bE x1.aA.aO,.rd false (aB (aB (aC .i64))) bA x1.aA.aE,.rd false (aB (aC .i64)) cI x1.aM,.rd false (aB (aB (aC .i64))) cB x1.aN] (fun y (v:Value×Value×Value×Value×Value×Value)=>[.agg #[.int .i64 y.1.aA.aH,v.1,v.2.1,v.2.2.1,v.2.2.2.1,v.2.2.2.2.1,v.2.2.2.2.2]]) (fun y v=>[.rd false (aB (aC .i64)) v.1 y.1.aA.aG,.rd false (aB (aC .i64)) v.2.1 y.1.aA.To,.rd false (aB (aC .i64)) v.2.2.1 y.1.aA.aO,.rd false (aB (aB (aC .i64))) v.2.2.2.1 y.1.aA.aE,.rd false (aB (aC .i64)) v.2.2.2.2.1 y.1.aM,.rd false (aB (aB (aC .i64))) v.2.2.2.2.2 y.1.aN,.row cU [bL,.int .i64 y.2.At,.int .u64 y.2.Hash] 72]):=by
 refine ct (S:=Unit) owf Tryz.func99 rfl rfl ?_
 repeat' first
  | (intro (v:Value×Value×Value×Value×Value×Value); obtain ⟨_,_,_,_,_,_⟩:=v; dsimp only)
  | intro _
  | exact rfl
  | (refine Dk.cdR (t:=34) rfl ?_ ?_)
  | apply Dk.D.ari (d:=72)
  | apply Dk.AD.ari (d:=72)
  | (refine @id.{0} _ ?_; constructor)
  | apply Dk.anyH (id:=7) [Dk.Ent.row _ _ 72] 10 [] [[],[],[],[],[],[],[12],[],[],[6]] [[],[0],[],[],[3],[4,3],[2,5,4,3],[],[],[7,8,6,2,5,4,3]] (by kernel_rfl)
  | apply Dk.anyH (id:=12) [Dk.Ent.row _ _ 72] 19 [] [[],[],[],[],[],[],[],[],[],[],[],[],[21],[],[12],[],[14],[],[]] [[],[0],[],[1,0,2],[3,1,0,2],[],[],[6],[],[7,6,8],[9,7,6,8],[10,9,7,6,8],[5,11,10,9,7,6,8],[],[13,12,5,11,10,9,7,6,8],[],[15,14,13,5,11,10,9,7,6,8],[16,15,13,5,11,10,9,7,6,8],[13,5,11,10,9,7,6,8,17,16,15,13,5,11,10,9,7,6,8]] (by kernel_rfl)
  | apply c48
  | apply c33
  | apply c108
  | apply c111
  | exact ()
theorem c85 {x0:aL} {cU:Nat} {bL:Value} {x1:aI} {dM:Value} {dS:Value} {cR:Value} {cL:Value} {x2:Int}:Ct Tryz.prog 85 false (iQ x0 x1 x2) [.pointer (some (⟨cU,0,none⟩)),.agg #[.int .i64 (x1.aH),dM,dS,cR,cL],.int .i64 (x2)] [.row cU [bL,.int .i64 (x0.At),.int .u64 (x0.Hash)] 72,.rd false (aB (aC .u8)) bL x0.Code,.rd false (aB (aC .i64)) dM x1.aG,.rd false (aB (aC .i64)) dS x1.To,.rd false (aB (aC .i64)) cR x1.aO,.rd false (aB (aB (aC .i64))) cL x1.aE] (fun y (v:Value×Value×Value×Value×Value×Value)=>[.agg #[.int .i64 y.1.aA.aH,v.1,v.2.1,v.2.2.1,v.2.2.2.1,v.2.2.2.2.1,v.2.2.2.2.2]]) (fun y v=>[.rd false (aB (aC .i64)) v.1 y.1.aA.aG,.rd false (aB (aC .i64)) v.2.1 y.1.aA.To,.rd false (aB (aC .i64)) v.2.2.1 y.1.aA.aO,.rd false (aB (aB (aC .i64))) v.2.2.2.1 y.1.aA.aE,.rd false (aB (aC .i64)) v.2.2.2.2.1 y.1.aM,.rd false (aB (aB (aC .i64))) v.2.2.2.2.2 y.1.aN,.row cU [bL,.int .i64 y.2.At,.int .u64 y.2.Hash] 72]):=by
 refine ct (S:=Unit) owf Tryz.func85 rfl rfl ?_
 repeat' first
  | intro _
  | exact rfl
  | (refine @id.{0} _ ?_; constructor)
  | apply c98
  | apply c34
  | apply c33
  | apply c99
  | exact ()
theorem c62 {x0:aL} {cU:Nat} {bL:Value} {x1:Int}:Ct Tryz.prog 62 false (nW x0 x1) [.pointer (some (⟨cU,0,none⟩)),.int .i64 (x1)] [.row cU [bL,.int .i64 (x0.At),.int .u64 (x0.Hash)] 72,.rd false (aB (aC .u8)) bL x0.Code] (fun y (v:Value×Value×Value×Value×Value×Value×Value×Value×Value×Value×Value×Value)=>[.agg #[.int .i64 y.1.aA.aH,v.1,v.2.1,v.2.2.1,v.2.2.2.1,v.2.2.2.2.1,v.2.2.2.2.2.1],.agg #[.int .i64 y.2.1.aA.aH,v.2.2.2.2.2.2.1,v.2.2.2.2.2.2.2.1,v.2.2.2.2.2.2.2.2.1,v.2.2.2.2.2.2.2.2.2.1,v.2.2.2.2.2.2.2.2.2.2.1,v.2.2.2.2.2.2.2.2.2.2.2]]) (fun y v=>[.rd false (aB (aC .i64)) v.1 y.1.aA.aG,.rd false (aB (aC .i64)) v.2.1 y.1.aA.To,.rd false (aB (aC .i64)) v.2.2.1 y.1.aA.aO,.rd false (aB (aB (aC .i64))) v.2.2.2.1 y.1.aA.aE,.rd false (aB (aC .i64)) v.2.2.2.2.1 y.1.aM,.rd false (aB (aB (aC .i64))) v.2.2.2.2.2.1 y.1.aN,.rd false (aB (aC .i64)) v.2.2.2.2.2.2.1 y.2.1.aA.aG,.rd false (aB (aC .i64)) v.2.2.2.2.2.2.2.1 y.2.1.aA.To,.rd false (aB (aC .i64)) v.2.2.2.2.2.2.2.2.1 y.2.1.aA.aO,.rd false (aB (aB (aC .i64))) v.2.2.2.2.2.2.2.2.2.1 y.2.1.aA.aE,.rd false (aB (aC .i64)) v.2.2.2.2.2.2.2.2.2.2.1 y.2.1.aM,.rd false (aB (aB (aC .i64))) v.2.2.2.2.2.2.2.2.2.2.2 y.2.1.aN,.row cU [bL,.int .i64 y.2.2.At,.int .u64 y.2.2.Hash] 72]):=by
 refine ct (S:=Unit) owf Tryz.func62 rfl rfl ?_
 repeat' first
  | intro _
  | exact rfl
  | apply Dk.AD.callR (f:=84)
  | apply Dk.AD.callHR (f:=84)
  | apply Dk.AD.callMR (f:=84)
  | apply Dk.AD.callR (f:=85)
  | apply Dk.AD.callHR (f:=85)
  | apply Dk.AD.callMR (f:=85)
  | (refine @id.{0} _ ?_; constructor)
  | apply Dk.anyH (id:=4) [Dk.Ent.row _ _ 72] 6 [] [[],[],[],[8],[],[3]] [[],[],[],[2],[],[1,3,2,4,3,2]] (by kernel_rfl)
  | apply Dk.anyH (id:=5) [Dk.Ent.row _ _ 72] 5 [] [[],[],[],[],[7]] [[],[],[],[],[1,2,3]] (by kernel_rfl)
  | apply c84
  | apply c85
  | apply c33
  | exact ()
end Go.Proofs.YtacpfhajafmigaaGreat
