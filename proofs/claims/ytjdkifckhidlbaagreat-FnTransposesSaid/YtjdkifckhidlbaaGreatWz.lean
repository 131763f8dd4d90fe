/- Walks by the calculus D. No condition beside those that each theorem names. -/
import Derived.Test.YtjdkifckhidlbaaGreatDp
import Derived.Test.YtjdkifckhidlbaaGreatDi
import Derived.Test.YtjdkifckhidlbaaGreatMo
import Derived.Test.YtjdkifckhidlbaaGreatDs
import Derived.Test.YtjdkifckhidlbaaGreatWa
import Derived.Test.YtjdkifckhidlbaaGreatWc
import Derived.Test.YtjdkifckhidlbaaGreatWd
import Derived.Test.YtjdkifckhidlbaaGreatWe
import Derived.Test.YtjdkifckhidlbaaGreatWf
import Derived.Test.YtjdkifckhidlbaaGreatWh
namespace Go.Proofs.YtjdkifckhidlbaaGreat
open Go Go.Li Go.Dk
set_option linter.unusedVariables false
set_option maxHeartbeats 16000000
set_option maxRecDepth 100000
theorem abV {x0:aK} {dN:Nat} {cK:Value}:Ct Tryz.prog 173 true (gP x0) [.pointer (some (⟨dN,0,none⟩))] [.row dN [cK,.int .i64 (x0.At),.int .u64 (x0.aq)] 193,.rd false (bT (aN .u8)) cK x0.Code] (fun y (v:Value×Value×Value×Value)=>[.agg #[.int .i64 y.1.aA,v.1,v.2.1,v.2.2.1,v.2.2.2]]) (fun y v=>[.own (aL 2 (aN .i64)) v.1 y.1.aG,.own (aL 2 (aN .i64)) v.2.1 y.1.To,.own (aL 2 (aN .i64)) v.2.2.1 y.1.aJ,.own (aL 24 (aL 2 (aN .i64))) v.2.2.2 y.1.aB,.row dN [cK,.int .i64 y.2.At,.int .u64 y.2.aq] 193]):=by
 refine ct (S:=Unit) (bw fun _ _=>rfl) Tryz.func173 rfl rfl ?_
 repeat' first
  | (apply Dk.fe; repeat' first | exact rfl | (refine @id.{0} _ ?_; constructor))
  | intro _
  | exact rfl
  | (refine Dk.sZ (t:=59) rfl ?_ ?_)
  | (refine @id.{0} _ ?_; constructor)
  | apply Dk.loop 1 (V:=Value) (fun (s:(List (List Int))×Int) v=>[.own (aL 24 (aL 2 (aN .i64))) v s.1]) (fun s v=>[(4,v),(5,.int .i64 (s.2))]) _ [(2,_),(3,_)]
  | apply Dk.loop 3 (V:=Value) (fun (s:(List Int)×Int) v=>[.own (aL 2 (aN .i64)) v s.1]) (fun s v=>[(6,v),(7,.int .i64 (s.2))]) _ [(2,_),(3,_),(4,_),(5,_)]
  | apply Dk.loop 5 (V:=Value×Value) (fun (s:(List Int)×(List Int)×Int×Int×Int) v=>[.row dN [cK,.int .i64 (s.2.2.2.1),.int .u64 (s.2.2.2.2)] 193,.own (aL 2 (aN .i64)) v.1 s.1,.own (aL 2 (aN .i64)) v.2 s.2.1]) (fun s v=>[(9,v.1),(10,v.2),(11,.int .i64 (s.2.2.1))]) (_,_) [(0,_),(2,_),(8,_)]
  | apply xZ
  | apply aa6
  | apply Ue
  | apply abC
  | apply aa7
  | apply abD
  | apply aa8
  | apply abl
  | apply T3
  | exact ()
theorem Up {x0:aK} {dN:Nat} {cK:Value} {x1:Int} {x2:Int}:Ct Tryz.prog 74 true (gY x0 x1 x2) [.pointer (some (⟨dN,0,none⟩)),.int .i64 (x1),.int .i64 (x2)] [.row dN [cK,.int .i64 (x0.At),.int .u64 (x0.aq)] 193,.rd false (bT (aN .u8)) cK x0.Code] (fun y (v:Value×Value×Value×Value)=>[.agg #[.int .i64 y.1.aA,v.1,v.2.1,v.2.2.1,v.2.2.2]]) (fun y v=>[.own (aL 2 (aN .i64)) v.1 y.1.aG,.own (aL 2 (aN .i64)) v.2.1 y.1.To,.own (aL 2 (aN .i64)) v.2.2.1 y.1.aJ,.own (aL 24 (aL 2 (aN .i64))) v.2.2.2 y.1.aB,.row dN [cK,.int .i64 y.2.At,.int .u64 y.2.aq] 193]):=by
 refine ct (S:=Unit) (bw fun _ _=>rfl) Tryz.func74 rfl rfl ?_
 repeat' first
  | (apply Dk.fe; repeat' first | exact rfl | (refine @id.{0} _ ?_; constructor))
  | intro _
  | exact rfl
  | (refine @id.{0} _ ?_; constructor)
  | apply Dk.loop 0 (V:=Unit) (fun (s:Int×Int×Int) v=>[.row dN [cK,.int .i64 (s.2.1),.int .u64 (s.2.2)] 193]) (fun s v=>[(7,.int .i64 (s.1))]) () [(0,_),(1,_),(2,_),(6,_)]
  | apply Dk.vj (id:=6) [Dk.aw.row _ _ 193] 3 [] [[],[],[5]] [[],[],[1]] (by kernel_rfl)
  | apply Dk.vj (id:=8) [Dk.aw.row _ _ 193] 3 [] [[],[],[5]] [[],[],[1]] (by kernel_rfl)
  | apply abV
  | apply xZ
  | apply WZ
  | apply c85
  | apply Uf
  | apply Ue
  | exact ()
theorem c96 {x0:aI} {aQ bF aO aM:Value} {x1:aI} {cE cL bJ bC:Value}:Ct Tryz.prog 96 true (mJ x0 x1) [.agg #[.int .i64 (x0.aA),aQ,bF,aO,aM],.agg #[.int .i64 (x1.aA),cE,cL,bJ,bC]] [rI aQ x0.aG,rI bF x0.To,rI aO x0.aJ,rJ aM x0.aB,rI cE x1.aG,rI cL x1.To,rI bJ x1.aJ,rJ bC x1.aB] (fun y (v:Value)=>[v]) (fun y v=>[.own (aL 29 sK) v y]):=by
 refine ct (S:=Unit) (bw fun _ _=>rfl) Tryz.func96 rfl rfl ?_
 repeat' first
  | (apply Dk.fe; repeat' first | exact rfl | (refine @id.{0} _ ?_; constructor))
  | intro _
  | exact rfl
  | apply Dk.lgO (t:=81) sK
  | (refine @id.{0} _ ?_; constructor)
  | apply abm
  | exact ()
theorem W3 {x0:aK} {dN:Nat} {cK:Value} {x1:aI} {cE cL bJ bC:Value} {x2:Int} {x3:Int}:Ct Tryz.prog 73 true (lB x0 x1 x2 x3) [.pointer (some (⟨dN,0,none⟩)),.agg #[.int .i64 (x1.aA),cE,cL,bJ,bC],.int .i64 (x2),.int .i64 (x3)] [.row dN [cK,.int .i64 (x0.At),.int .u64 (x0.aq)] 193,.rd false (bT (aN .u8)) cK x0.Code,rI cE x1.aG,rI cL x1.To,rI bJ x1.aJ,rJ bC x1.aB] (fun y (v:Value×Value×Value×Value×Value×Value×Value×Value×Value×Value)=>[.agg #[.int .i64 y.1.aE.aA,v.1,v.2.1,v.2.2.1,v.2.2.2.1,.int .i64 y.1.aH.aA,v.2.2.2.2.1,v.2.2.2.2.2.1,v.2.2.2.2.2.2.1,v.2.2.2.2.2.2.2.1,v.2.2.2.2.2.2.2.2.1,v.2.2.2.2.2.2.2.2.2]]) (fun y v=>[.own (aL 2 (aN .i64)) v.1 y.1.aE.aG,.own (aL 2 (aN .i64)) v.2.1 y.1.aE.To,.own (aL 2 (aN .i64)) v.2.2.1 y.1.aE.aJ,.own (aL 24 (aL 2 (aN .i64))) v.2.2.2.1 y.1.aE.aB,.own (aL 2 (aN .i64)) v.2.2.2.2.1 y.1.aH.aG,.own (aL 2 (aN .i64)) v.2.2.2.2.2.1 y.1.aH.To,.own (aL 2 (aN .i64)) v.2.2.2.2.2.2.1 y.1.aH.aJ,.own (aL 24 (aL 2 (aN .i64))) v.2.2.2.2.2.2.2.1 y.1.aH.aB,.own (aL 2 (aN .i64)) v.2.2.2.2.2.2.2.2.1 y.1.aA,.own (aL 2 (aN .i64)) v.2.2.2.2.2.2.2.2.2 y.1.ae,.row dN [cK,.int .i64 y.2.At,.int .u64 y.2.aq] 193]):=by
 refine ct (S:=Unit) (bw fun _ _=>rfl) Tryz.func73 rfl rfl ?_
 repeat' first
  | (apply Dk.fe; repeat' first | exact rfl | (refine @id.{0} _ ?_; constructor))
  | intro _
  | exact rfl
  | apply Dk.Wx (t:=81)
  | apply Dk.ixO (t:=81)
  | apply Dk.Wr (n:=12)
  | apply Dk.RB (n:=12)
  | apply Dk.RC (n:=12)
  | (apply Dk.Ou (t:=38); exact rfl)
  | (refine @id.{0} _ ?_; constructor)
  | apply Dk.vj (id:=7) [Dk.aw.row _ _ 193] 6 [] [[],[],[],[],[],[8]] [[],[],[],[],[3],[2,3,4]] (by kernel_rfl)
  | apply Up
  | apply c95
  | apply c96
  | apply xZ
  | apply abn
  | apply O6
  | exact ()
end Go.Proofs.YtjdkifckhidlbaaGreat
