/- Walks by the calculus D. No condition beside those that each theorem names. -/
import Derived.Test.YtkhdhnpokfibjaaGreatDi
import Derived.Test.YtkhdhnpokfibjaaGreatMo
import Derived.Test.YtkhdhnpokfibjaaGreatDp
import Derived.Test.YtkhdhnpokfibjaaGreatDs
import Derived.Test.YtkhdhnpokfibjaaGreatWa
import Derived.Test.YtkhdhnpokfibjaaGreatWb
import Derived.Test.YtkhdhnpokfibjaaGreatWc
import Derived.Test.YtkhdhnpokfibjaaGreatWe
import Derived.Test.YtkhdhnpokfibjaaGreatWf
import Derived.Test.YtkhdhnpokfibjaaGreatWg
import Derived.Test.YtkhdhnpokfibjaaGreatWh
namespace Go.Proofs.YtkhdhnpokfibjaaGreat
open Go Go.Li Go.Dk
set_option linter.unusedVariables false
set_option maxHeartbeats 16000000
set_option maxRecDepth 100000
theorem c101 {x0:aL} {eP:Nat} {dF:Value}:Ct Tryz.prog 101 true (hJ x0) [.pointer (some (⟨eP,0,none⟩))] [.row eP [dF,.int .i64 (x0.At),.int .u64 (x0.Hash)] 87,.rd false (aE (aC .u8)) dF x0.Code] (fun y (v:Value×Value×Value×Value)=>[.agg #[.int .i64 y.1.aD,v.1,v.2.1,v.2.2.1,v.2.2.2]]) (fun y v=>[.own (aK 2 (aC .i64)) v.1 y.1.aG,.own (aK 2 (aC .i64)) v.2.1 y.1.To,.own (aK 2 (aC .i64)) v.2.2.1 y.1.aJ,.own (aK 24 (aK 2 (aC .i64))) v.2.2.2 y.1.aF,.row eP [dF,.int .i64 y.2.At,.int .u64 y.2.Hash] 87]):=by
 refine ct (S:=Unit) (owt fun _ _=>rfl) Tryz.func101 rfl rfl ?_
 repeat' first
  | intro _
  | exact rfl
  | (refine Dk.cdR (t:=59) rfl ?_ ?_)
  | (refine @id.{0} _ ?_; constructor)
  | apply Dk.loop 1 (V:=Value) (fun (s:(List (List Int))×Int) v=>[.own (aK 24 (aK 2 (aC .i64))) v s.1]) (fun s v=>[(4,v),(5,.int .i64 (s.2))]) _ [(2,_),(3,_)]
  | apply Dk.loop 3 (V:=Value) (fun (s:(List Int)×Int) v=>[.own (aK 2 (aC .i64)) v s.1]) (fun s v=>[(6,v),(7,.int .i64 (s.2))]) _ [(2,_),(3,_),(4,_),(5,_)]
  | apply Dk.loop 5 (V:=Value×Value) (fun (s:(List Int)×(List Int)×Int×Int×Int) v=>[.row eP [dF,.int .i64 (s.2.2.2.1),.int .u64 (s.2.2.2.2)] 87,.own (aK 2 (aC .i64)) v.1 s.1,.own (aK 2 (aC .i64)) v.2 s.2.1]) (fun s v=>[(9,v.1),(10,v.2),(11,.int .i64 (s.2.2.1))]) (_,_) [(0,_),(2,_),(8,_)]
  | apply c28
  | apply c123
  | apply c105
  | apply c124
  | apply c126
  | apply c125
  | apply c127
  | apply c129
  | apply c128
  | exact ()
theorem c64 {x0:aL} {eP:Nat} {dF:Value} {x1:Int} {x2:Int}:Ct Tryz.prog 64 true (lO x0 x1 x2) [.pointer (some (⟨eP,0,none⟩)),.int .i64 (x1),.int .i64 (x2)] [.row eP [dF,.int .i64 (x0.At),.int .u64 (x0.Hash)] 87,.rd false (aE (aC .u8)) dF x0.Code] (fun y (v:Value×Value×Value×Value)=>[.agg #[.int .i64 y.1.aD,v.1,v.2.1,v.2.2.1,v.2.2.2]]) (fun y v=>[.own (aK 2 (aC .i64)) v.1 y.1.aG,.own (aK 2 (aC .i64)) v.2.1 y.1.To,.own (aK 2 (aC .i64)) v.2.2.1 y.1.aJ,.own (aK 24 (aK 2 (aC .i64))) v.2.2.2 y.1.aF,.row eP [dF,.int .i64 y.2.At,.int .u64 y.2.Hash] 87]):=by
 refine ct (S:=Unit) (owt fun _ _=>rfl) Tryz.func64 rfl rfl ?_
 repeat' first
  | intro _
  | exact rfl
  | (refine @id.{0} _ ?_; constructor)
  | apply Dk.loop 0 (V:=Unit) (fun (s:Int×Int×Int) v=>[.row eP [dF,.int .i64 (s.2.1),.int .u64 (s.2.2)] 87]) (fun s v=>[(7,.int .i64 (s.1))]) () [(0,_),(1,_),(2,_),(6,_)]
  | apply Dk.anyH (id:=6) [Dk.Ent.row _ _ 87] 3 [] [[],[],[5]] [[],[],[1]] (by kernel_rfl)
  | apply Dk.anyH (id:=8) [Dk.Ent.row _ _ 87] 3 [] [[],[],[5]] [[],[],[1]] (by kernel_rfl)
  | apply c101
  | apply c28
  | apply c102
  | apply c103
  | apply c104
  | apply c105
  | exact ()
theorem c31 {x0:aI} {aV:Value} {bK:Value} {aP:Value} {aO:Value} {x1:aI} {cK:Value} {dA:Value} {bL:Value} {bB:Value}:Ct Tryz.prog 31 true (jZ x0 x1) [.agg #[.int .i64 (x0.aD),aV,bK,aP,aO],.agg #[.int .i64 (x1.aD),cK,dA,bL,bB]] [.rd false (aE (aC .i64)) aV x0.aG,.rd false (aE (aC .i64)) bK x0.To,.rd false (aE (aC .i64)) aP x0.aJ,.rd false (aE (aE (aC .i64))) aO x0.aF,.rd false (aE (aC .i64)) cK x1.aG,.rd false (aE (aC .i64)) dA x1.To,.rd false (aE (aC .i64)) bL x1.aJ,.rd false (aE (aE (aC .i64))) bB x1.aF] (fun y (v:Value)=>[v]) (fun y v=>[.own (aK 29 sO29) v y]):=by
 refine ct (S:=Unit) (owt fun _ _=>rfl) Tryz.func31 rfl rfl ?_
 repeat' first
  | intro _
  | exact rfl
  | apply Dk.lgO (t:=57) sO29
  | (refine @id.{0} _ ?_; constructor)
  | apply c68
  | exact ()
theorem c29 {x0:aL} {eP:Nat} {dF:Value} {x1:aI} {cK:Value} {dA:Value} {bL:Value} {bB:Value} {x2:Int} {x3:Int}:Ct Tryz.prog 29 true (lP x0 x1 x2 x3) [.pointer (some (⟨eP,0,none⟩)),.agg #[.int .i64 (x1.aD),cK,dA,bL,bB],.int .i64 (x2),.int .i64 (x3)] [.row eP [dF,.int .i64 (x0.At),.int .u64 (x0.Hash)] 87,.rd false (aE (aC .u8)) dF x0.Code,.rd false (aE (aC .i64)) cK x1.aG,.rd false (aE (aC .i64)) dA x1.To,.rd false (aE (aC .i64)) bL x1.aJ,.rd false (aE (aE (aC .i64))) bB x1.aF] (fun y (v:Value×Value×Value×Value×Value×Value×Value×Value×Value×Value)=>[.agg #[.int .i64 y.1.aA.aD,v.1,v.2.1,v.2.2.1,v.2.2.2.1,.int .i64 y.1.aB.aD,v.2.2.2.2.1,v.2.2.2.2.2.1,v.2.2.2.2.2.2.1,v.2.2.2.2.2.2.2.1,v.2.2.2.2.2.2.2.2.1,v.2.2.2.2.2.2.2.2.2]]) (fun y v=>[.own (aK 2 (aC .i64)) v.1 y.1.aA.aG,.own (aK 2 (aC .i64)) v.2.1 y.1.aA.To,.own (aK 2 (aC .i64)) v.2.2.1 y.1.aA.aJ,.own (aK 24 (aK 2 (aC .i64))) v.2.2.2.1 y.1.aA.aF,.own (aK 2 (aC .i64)) v.2.2.2.2.1 y.1.aB.aG,.own (aK 2 (aC .i64)) v.2.2.2.2.2.1 y.1.aB.To,.own (aK 2 (aC .i64)) v.2.2.2.2.2.2.1 y.1.aB.aJ,.own (aK 24 (aK 2 (aC .i64))) v.2.2.2.2.2.2.2.1 y.1.aB.aF,.own (aK 2 (aC .i64)) v.2.2.2.2.2.2.2.2.1 y.1.aD,.own (aK 2 (aC .i64)) v.2.2.2.2.2.2.2.2.2 y.1.Arrows,.row eP [dF,.int .i64 y.2.At,.int .u64 y.2.Hash] 87]):=by
 refine ct (S:=Unit) (owt fun _ _=>rfl) Tryz.func29 rfl rfl ?_
 repeat' first
  | intro _
  | exact rfl
  | apply Dk.lnO (t:=57)
  | apply Dk.ixO (t:=57)
  | apply Dk.lsS (n:=12)
  | apply Dk.laS (n:=12)
  | apply Dk.laS0 (n:=12)
  | (refine Dk.rwU (t:=38) rfl ?_)
  | (refine @id.{0} _ ?_; constructor)
  | apply Dk.anyH (id:=7) [Dk.Ent.row _ _ 87] 6 [] [[],[],[],[],[],[8]] [[],[],[],[],[3],[2,4,3]] (by kernel_rfl)
  | apply c64
  | apply c30
  | apply c31
  | apply c28
  | apply c65
  | apply c66
  | exact ()
theorem c85 {x0:aL} {eP:Nat} {dF:Value}:Ct Tryz.prog 85 false (lR x0) [.pointer (some (⟨eP,0,none⟩))] [.row eP [dF,.int .i64 (x0.At),.int .u64 (x0.Hash)] 87,.rd false (aE (aC .u8)) dF x0.Code] (fun y (v:Value×Value×Value×Value×Value×Value×Value×Value×Value×Value)=>[.agg #[.int .i64 y.1.aA.aD,v.1,v.2.1,v.2.2.1,v.2.2.2.1,.int .i64 y.1.aB.aD,v.2.2.2.2.1,v.2.2.2.2.2.1,v.2.2.2.2.2.2.1,v.2.2.2.2.2.2.2.1,v.2.2.2.2.2.2.2.2.1,v.2.2.2.2.2.2.2.2.2]]) (fun y v=>[.rd false (aE (aC .i64)) v.1 y.1.aA.aG,.rd false (aE (aC .i64)) v.2.1 y.1.aA.To,.rd false (aE (aC .i64)) v.2.2.1 y.1.aA.aJ,.rd false (aE (aE (aC .i64))) v.2.2.2.1 y.1.aA.aF,.rd false (aE (aC .i64)) v.2.2.2.2.1 y.1.aB.aG,.rd false (aE (aC .i64)) v.2.2.2.2.2.1 y.1.aB.To,.rd false (aE (aC .i64)) v.2.2.2.2.2.2.1 y.1.aB.aJ,.rd false (aE (aE (aC .i64))) v.2.2.2.2.2.2.2.1 y.1.aB.aF,.rd false (aE (aC .i64)) v.2.2.2.2.2.2.2.2.1 y.1.aD,.rd false (aE (aC .i64)) v.2.2.2.2.2.2.2.2.2 y.1.Arrows,.row eP [dF,.int .i64 y.2.At,.int .u64 y.2.Hash] 87]):=by
 refine ct (S:=Unit) owf Tryz.func85 rfl rfl ?_
 repeat' first
  | (intro (v:Value×Value×Value×Value×Value×Value×Value×Value×Value×Value); obtain ⟨_,_,_,_,_,_,_,_,_,_⟩:=v; dsimp only)
  | intro _
  | exact rfl
  | (refine @id.{0} _ ?_; constructor)
  | apply Dk.anyH (id:=8) [Dk.Ent.row _ _ 87] 12 [] [[],[],[],[],[14],[],[],[],[],[],[],[4]] [[],[0],[],[],[2,3],[],[],[6],[7,6],[8,7,6],[9,8,7,6],[5,10,9,8,7,6,4,2,3]] (by kernel_rfl)
  | apply c64
  | apply c29
  | apply c28
  | apply c117
  | exact ()
theorem c49 {x0:aL} {eP:Nat} {dF:Value}:Ct Tryz.prog 49 false (oE x0) [.pointer (some (⟨eP,0,none⟩))] [.row eP [dF,.int .i64 (x0.At),.int .u64 (x0.Hash)] 87,.rd false (aE (aC .u8)) dF x0.Code] (fun y (v:Value×Value×Value×Value×Value×Value×Value×Value×Value×Value×Value×Value×Value×Value×Value×Value×Value×Value×Value×Value)=>[.agg #[.int .i64 y.1.aA.aD,v.1,v.2.1,v.2.2.1,v.2.2.2.1,.int .i64 y.1.aB.aD,v.2.2.2.2.1,v.2.2.2.2.2.1,v.2.2.2.2.2.2.1,v.2.2.2.2.2.2.2.1,v.2.2.2.2.2.2.2.2.1,v.2.2.2.2.2.2.2.2.2.1],.agg #[.int .i64 y.2.1.aA.aD,v.2.2.2.2.2.2.2.2.2.2.1,v.2.2.2.2.2.2.2.2.2.2.2.1,v.2.2.2.2.2.2.2.2.2.2.2.2.1,v.2.2.2.2.2.2.2.2.2.2.2.2.2.1,.int .i64 y.2.1.aB.aD,v.2.2.2.2.2.2.2.2.2.2.2.2.2.2.1,v.2.2.2.2.2.2.2.2.2.2.2.2.2.2.2.1,v.2.2.2.2.2.2.2.2.2.2.2.2.2.2.2.2.1,v.2.2.2.2.2.2.2.2.2.2.2.2.2.2.2.2.2.1,v.2.2.2.2.2.2.2.2.2.2.2.2.2.2.2.2.2.2.1,v.2.2.2.2.2.2.2.2.2.2.2.2.2.2.2.2.2.2.2]]) (fun y v=>[.rd false (aE (aC .i64)) v.1 y.1.aA.aG,.rd false (aE (aC .i64)) v.2.1 y.1.aA.To,.rd false (aE (aC .i64)) v.2.2.1 y.1.aA.aJ,.rd false (aE (aE (aC .i64))) v.2.2.2.1 y.1.aA.aF,.rd false (aE (aC .i64)) v.2.2.2.2.1 y.1.aB.aG,.rd false (aE (aC .i64)) v.2.2.2.2.2.1 y.1.aB.To,.rd false (aE (aC .i64)) v.2.2.2.2.2.2.1 y.1.aB.aJ,.rd false (aE (aE (aC .i64))) v.2.2.2.2.2.2.2.1 y.1.aB.aF,.rd false (aE (aC .i64)) v.2.2.2.2.2.2.2.2.1 y.1.aD,.rd false (aE (aC .i64)) v.2.2.2.2.2.2.2.2.2.1 y.1.Arrows,.rd false (aE (aC .i64)) v.2.2.2.2.2.2.2.2.2.2.1 y.2.1.aA.aG,.rd false (aE (aC .i64)) v.2.2.2.2.2.2.2.2.2.2.2.1 y.2.1.aA.To,.rd false (aE (aC .i64)) v.2.2.2.2.2.2.2.2.2.2.2.2.1 y.2.1.aA.aJ,.rd false (aE (aE (aC .i64))) v.2.2.2.2.2.2.2.2.2.2.2.2.2.1 y.2.1.aA.aF,.rd false (aE (aC .i64)) v.2.2.2.2.2.2.2.2.2.2.2.2.2.2.1 y.2.1.aB.aG,.rd false (aE (aC .i64)) v.2.2.2.2.2.2.2.2.2.2.2.2.2.2.2.1 y.2.1.aB.To,.rd false (aE (aC .i64)) v.2.2.2.2.2.2.2.2.2.2.2.2.2.2.2.2.1 y.2.1.aB.aJ,.rd false (aE (aE (aC .i64))) v.2.2.2.2.2.2.2.2.2.2.2.2.2.2.2.2.2.1 y.2.1.aB.aF,.rd false (aE (aC .i64)) v.2.2.2.2.2.2.2.2.2.2.2.2.2.2.2.2.2.2.1 y.2.1.aD,.rd false (aE (aC .i64)) v.2.2.2.2.2.2.2.2.2.2.2.2.2.2.2.2.2.2.2 y.2.1.Arrows,.row eP [dF,.int .i64 y.2.2.At,.int .u64 y.2.2.Hash] 87]):=by
 refine ct (S:=Unit) owf Tryz.func49 rfl rfl ?_
 repeat' first
  | (intro (v:Value×Value×Value×Value×Value×Value×Value×Value×Value×Value); obtain ⟨_,_,_,_,_,_,_,_,_,_⟩:=v; dsimp only)
  | intro _
  | exact rfl
  | apply Dk.AD.callR (f:=85)
  | apply Dk.AD.callHR (f:=85)
  | apply Dk.AD.callMR (f:=85)
  | (refine Dk.cdR (t:=15) rfl ?_ ?_)
  | apply Dk.lnO (t:=57)
  | apply Dk.ixO (t:=57)
  | apply Dk.lsS (n:=12)
  | apply Dk.laS (n:=12)
  | apply Dk.laS0 (n:=12)
  | (refine @id.{0} _ ?_; constructor)
  | apply Dk.anyH (id:=4) [Dk.Ent.row _ _ 87] 3 [] [[],[],[5]] [[],[],[1]] (by kernel_rfl)
  | apply Dk.anyS (id:=7) [0,1] [2,3] (by kernel_rfl)
  | apply Dk.anyS (id:=11) [0,1] [2,3] (by kernel_rfl)
  | apply Dk.anyC1 (id:=10) [0,1,2,3,4] 5 [6,7] [8,9] 5 (sStr sS29) 87 (by kernel_rfl)
  | apply c85
  | apply c28
  | apply c58
  | apply c30
  | apply c31
  | exact ()
theorem c32 {x0:aN} {aW:Value} {bC:Value} {aS:Value} {aQ:Value} {aY:Value} {bD:Value} {aT:Value} {aR:Value} {bS:Value} {bV:Value} {x1:aN} {bT:Value} {cE:Value} {bE:Value} {aZ:Value} {bU:Value} {cF:Value} {bF:Value} {bA:Value} {cN:Value} {cO:Value} {x2:Int}:Ct Tryz.prog 32 false (lB x0 x1 x2) [.agg #[.int .i64 (x0.aA.aD),aW,bC,aS,aQ,.int .i64 (x0.aB.aD),aY,bD,aT,aR,bS,bV],.agg #[.int .i64 (x1.aA.aD),bT,cE,bE,aZ,.int .i64 (x1.aB.aD),bU,cF,bF,bA,cN,cO],.int .i64 (x2)] [.rd false (aE (aC .i64)) aW x0.aA.aG,.rd false (aE (aC .i64)) bC x0.aA.To,.rd false (aE (aC .i64)) aS x0.aA.aJ,.rd false (aE (aE (aC .i64))) aQ x0.aA.aF,.rd false (aE (aC .i64)) aY x0.aB.aG,.rd false (aE (aC .i64)) bD x0.aB.To,.rd false (aE (aC .i64)) aT x0.aB.aJ,.rd false (aE (aE (aC .i64))) aR x0.aB.aF,.rd false (aE (aC .i64)) bS x0.aD,.rd false (aE (aC .i64)) bV x0.Arrows,.rd false (aE (aC .i64)) bT x1.aA.aG,.rd false (aE (aC .i64)) cE x1.aA.To,.rd false (aE (aC .i64)) bE x1.aA.aJ,.rd false (aE (aE (aC .i64))) aZ x1.aA.aF,.rd false (aE (aC .i64)) bU x1.aB.aG,.rd false (aE (aC .i64)) cF x1.aB.To,.rd false (aE (aC .i64)) bF x1.aB.aJ,.rd false (aE (aE (aC .i64))) bA x1.aB.aF,.rd false (aE (aC .i64)) cN x1.aD,.rd false (aE (aC .i64)) cO x1.Arrows] (fun y (v:Value)=>[v]) (fun y v=>[.rd false (aE (aE (aC .i64))) v y]):=by
 refine ct (S:=Unit) owf Tryz.func32 rfl rfl ?_
 repeat' first
  | intro _
  | exact rfl
  | (refine @id.{0} _ ?_; constructor)
  | apply c53
  | exact ()
theorem c33 {x0:aN} {aW:Value} {bC:Value} {aS:Value} {aQ:Value} {aY:Value} {bD:Value} {aT:Value} {aR:Value} {bS:Value} {bV:Value} {x1:aN} {bT:Value} {cE:Value} {bE:Value} {aZ:Value} {bU:Value} {cF:Value} {bF:Value} {bA:Value} {cN:Value} {cO:Value} {x2:(List Int)} {eL:Value}:Ct Tryz.prog 33 true (fT x0 x1 x2) [.agg #[.int .i64 (x0.aA.aD),aW,bC,aS,aQ,.int .i64 (x0.aB.aD),aY,bD,aT,aR,bS,bV],.agg #[.int .i64 (x1.aA.aD),bT,cE,bE,aZ,.int .i64 (x1.aB.aD),bU,cF,bF,bA,cN,cO],eL] [.rd false (aE (aC .i64)) aW x0.aA.aG,.rd false (aE (aC .i64)) bC x0.aA.To,.rd false (aE (aC .i64)) aS x0.aA.aJ,.rd false (aE (aE (aC .i64))) aQ x0.aA.aF,.rd false (aE (aC .i64)) aY x0.aB.aG,.rd false (aE (aC .i64)) bD x0.aB.To,.rd false (aE (aC .i64)) aT x0.aB.aJ,.rd false (aE (aE (aC .i64))) aR x0.aB.aF,.rd false (aE (aC .i64)) bS x0.aD,.rd false (aE (aC .i64)) bV x0.Arrows,.rd false (aE (aC .i64)) bT x1.aA.aG,.rd false (aE (aC .i64)) cE x1.aA.To,.rd false (aE (aC .i64)) bE x1.aA.aJ,.rd false (aE (aE (aC .i64))) aZ x1.aA.aF,.rd false (aE (aC .i64)) bU x1.aB.aG,.rd false (aE (aC .i64)) cF x1.aB.To,.rd false (aE (aC .i64)) bF x1.aB.aJ,.rd false (aE (aE (aC .i64))) bA x1.aB.aF,.rd false (aE (aC .i64)) cN x1.aD,.rd false (aE (aC .i64)) cO x1.Arrows,.rd false (aE (aC .i64)) eL x2] (fun y (v:Value×Value×Value×Value×Value×Value×Value×Value×Value×Value×Value×Value×Value×Value×Value×Value×Value×Value×Value×Value×Value)=>[.agg #[.int .i64 y.aA.aA.aD,v.1,v.2.1,v.2.2.1,v.2.2.2.1,.int .i64 y.aA.aB.aD,v.2.2.2.2.1,v.2.2.2.2.2.1,v.2.2.2.2.2.2.1,v.2.2.2.2.2.2.2.1,v.2.2.2.2.2.2.2.2.1,v.2.2.2.2.2.2.2.2.2.1,.int .i64 y.aB.aA.aD,v.2.2.2.2.2.2.2.2.2.2.1,v.2.2.2.2.2.2.2.2.2.2.2.1,v.2.2.2.2.2.2.2.2.2.2.2.2.1,v.2.2.2.2.2.2.2.2.2.2.2.2.2.1,.int .i64 y.aB.aB.aD,v.2.2.2.2.2.2.2.2.2.2.2.2.2.2.1,v.2.2.2.2.2.2.2.2.2.2.2.2.2.2.2.1,v.2.2.2.2.2.2.2.2.2.2.2.2.2.2.2.2.1,v.2.2.2.2.2.2.2.2.2.2.2.2.2.2.2.2.2.1,v.2.2.2.2.2.2.2.2.2.2.2.2.2.2.2.2.2.2.1,v.2.2.2.2.2.2.2.2.2.2.2.2.2.2.2.2.2.2.2.1,v.2.2.2.2.2.2.2.2.2.2.2.2.2.2.2.2.2.2.2.2]]) (fun y v=>[.own (aK 2 (aC .i64)) v.1 y.aA.aA.aG,.own (aK 2 (aC .i64)) v.2.1 y.aA.aA.To,.own (aK 2 (aC .i64)) v.2.2.1 y.aA.aA.aJ,.own (aK 24 (aK 2 (aC .i64))) v.2.2.2.1 y.aA.aA.aF,.own (aK 2 (aC .i64)) v.2.2.2.2.1 y.aA.aB.aG,.own (aK 2 (aC .i64)) v.2.2.2.2.2.1 y.aA.aB.To,.own (aK 2 (aC .i64)) v.2.2.2.2.2.2.1 y.aA.aB.aJ,.own (aK 24 (aK 2 (aC .i64))) v.2.2.2.2.2.2.2.1 y.aA.aB.aF,.own (aK 2 (aC .i64)) v.2.2.2.2.2.2.2.2.1 y.aA.aD,.own (aK 2 (aC .i64)) v.2.2.2.2.2.2.2.2.2.1 y.aA.Arrows,.own (aK 2 (aC .i64)) v.2.2.2.2.2.2.2.2.2.2.1 y.aB.aA.aG,.own (aK 2 (aC .i64)) v.2.2.2.2.2.2.2.2.2.2.2.1 y.aB.aA.To,.own (aK 2 (aC .i64)) v.2.2.2.2.2.2.2.2.2.2.2.2.1 y.aB.aA.aJ,.own (aK 24 (aK 2 (aC .i64))) v.2.2.2.2.2.2.2.2.2.2.2.2.2.1 y.aB.aA.aF,.own (aK 2 (aC .i64)) v.2.2.2.2.2.2.2.2.2.2.2.2.2.2.1 y.aB.aB.aG,.own (aK 2 (aC .i64)) v.2.2.2.2.2.2.2.2.2.2.2.2.2.2.2.1 y.aB.aB.To,.own (aK 2 (aC .i64)) v.2.2.2.2.2.2.2.2.2.2.2.2.2.2.2.2.1 y.aB.aB.aJ,.own (aK 24 (aK 2 (aC .i64))) v.2.2.2.2.2.2.2.2.2.2.2.2.2.2.2.2.2.1 y.aB.aB.aF,.own (aK 2 (aC .i64)) v.2.2.2.2.2.2.2.2.2.2.2.2.2.2.2.2.2.2.1 y.aB.aD,.own (aK 2 (aC .i64)) v.2.2.2.2.2.2.2.2.2.2.2.2.2.2.2.2.2.2.2.1 y.aB.Arrows,.own (aK 2 (aC .i64)) v.2.2.2.2.2.2.2.2.2.2.2.2.2.2.2.2.2.2.2.2 y.Components]):=by
 refine ct (S:=Unit) (owt fun _ _=>rfl) Tryz.func33 rfl rfl ?_
 repeat' first
  | intro _
  | exact rfl
  | (refine @id.{0} _ ?_; constructor)
  | apply Dk.any (id:=1) 5 [] [] [[],[0],[],[2,1,0],[]] (by kernel_rfl)
  | apply c69
  | apply c60
  | exact ()
end Go.Proofs.YtkhdhnpokfibjaaGreat
