/- Walks by the calculus D. No condition beside those that each theorem names. -/
import Derived.Test.YtjdkifckhidlbaaGreatDp
import Derived.Test.YtjdkifckhidlbaaGreatDi
import Derived.Test.YtjdkifckhidlbaaGreatMo
import Derived.Test.YtjdkifckhidlbaaGreatDs
import Derived.Test.YtjdkifckhidlbaaGreatWa
import Derived.Test.YtjdkifckhidlbaaGreatWc
import Derived.Test.YtjdkifckhidlbaaGreatWd
import Derived.Test.YtjdkifckhidlbaaGreatWe
namespace Go.Proofs.YtjdkifckhidlbaaGreat
open Go Go.Li Go.Dk
set_option linter.unusedVariables false
set_option maxHeartbeats 16000000
set_option maxRecDepth 100000
theorem abS {x0:aK} {dN:Nat} {cK:Value} {x1:aI} {cE cL bJ bC:Value}:Ct Tryz.prog 223 false (pA x0 x1) [.pointer (some (⟨dN,0,none⟩)),.agg #[.int .i64 (x1.aA),cE,cL,bJ,bC]] [.row dN [cK,.int .i64 (x0.At),.int .u64 (x0.aq)] 193,.rd false (bT (aN .u8)) cK x0.Code,rI cE x1.aG,rI cL x1.To,rI bJ x1.aJ,rJ bC x1.aB] (fun y (v:Value×Value×Value×Value×Value×Value×Value×Value×Value×Value×Value×Value×Value×Value)=>[.agg #[.int .i64 y.1.aA,v.1,v.2.1,v.2.2.1,v.2.2.2.1],.agg #[.int .i64 y.2.1.aE.aA,v.2.2.2.2.1,v.2.2.2.2.2.1,v.2.2.2.2.2.2.1,v.2.2.2.2.2.2.2.1,.int .i64 y.2.1.aH.aA,v.2.2.2.2.2.2.2.2.1,v.2.2.2.2.2.2.2.2.2.1,v.2.2.2.2.2.2.2.2.2.2.1,v.2.2.2.2.2.2.2.2.2.2.2.1,v.2.2.2.2.2.2.2.2.2.2.2.2.1,v.2.2.2.2.2.2.2.2.2.2.2.2.2]]) (fun y v=>[rI v.1 y.1.aG,rI v.2.1 y.1.To,rI v.2.2.1 y.1.aJ,rJ v.2.2.2.1 y.1.aB,rI v.2.2.2.2.1 y.2.1.aE.aG,rI v.2.2.2.2.2.1 y.2.1.aE.To,rI v.2.2.2.2.2.2.1 y.2.1.aE.aJ,rJ v.2.2.2.2.2.2.2.1 y.2.1.aE.aB,rI v.2.2.2.2.2.2.2.2.1 y.2.1.aH.aG,rI v.2.2.2.2.2.2.2.2.2.1 y.2.1.aH.To,rI v.2.2.2.2.2.2.2.2.2.2.1 y.2.1.aH.aJ,rJ v.2.2.2.2.2.2.2.2.2.2.2.1 y.2.1.aH.aB,rI v.2.2.2.2.2.2.2.2.2.2.2.2.1 y.2.1.aA,rI v.2.2.2.2.2.2.2.2.2.2.2.2.2 y.2.1.ae,.row dN [cK,.int .i64 y.2.2.At,.int .u64 y.2.2.aq] 193]):=by
 refine ct (S:=Unit) EE Tryz.func223 rfl rfl ?_
 repeat' first
  | (apply Dk.fe; repeat' first | exact rfl | (refine @id.{0} _ ?_; constructor))
  | intro _
  | exact rfl
  | (refine Dk.sZ (t:=59) rfl ?_ ?_)
  | apply Dk.xo (d:=85)
  | (refine @id.{0} _ ?_; constructor)
  | apply Dk.loop 0 (V:=Value) (fun (s:(List Int)×Int) v=>[.own (aL 2 (aN .i64)) v s.1]) (fun s v=>[(6,v),(7,.int .i64 (s.2))]) _ [(0,_),(3,_),(4,_),(5,_)]
  | apply Dk.loop 2 (V:=Value) (fun (s:(List Int)×Int×Int×Int) v=>[.row dN [cK,.int .i64 (s.2.2.1),.int .u64 (s.2.2.2)] 193,.own (aL 2 (aN .i64)) v s.1]) (fun s v=>[(6,v),(8,.int .i64 (s.2.1))]) _ [(0,_),(3,_),(4,_),(5,_)]
  | apply Dk.loop 4 (V:=Value) (fun (s:(List (List Int))×Int) v=>[.own (aL 24 (aL 2 (aN .i64))) v s.1]) (fun s v=>[(9,v),(10,.int .i64 (s.2))]) _ [(3,_),(4,_),(5,_),(6,_)]
  | apply Dk.loop 6 (V:=Value) (fun (s:(List (List Int))×Int) v=>[.own (aL 24 (aL 2 (aN .i64))) v s.1]) (fun s v=>[(9,v),(11,.int .i64 (s.2))]) _ [(3,_),(4,_),(5,_),(6,_),(10,_)]
  | apply Dk.loop 8 (V:=Value) (fun (s:(List (List Int))×Int) v=>[.own (aL 24 (aL 2 (aN .i64))) v s.1]) (fun s v=>[(9,v),(13,.int .i64 (s.2))]) _ [(3,_),(4,_),(5,_),(6,_),(10,_),(11,_),(12,_)]
  | apply Dk.js 10 (V:=Value) (A:=Nat×Value×Value×Value×Value) (_,_,_,_,_) (fun a (s:Int×(List Int)) v=>Dk.pc (fun a0=>Dk.pc (fun a1=>Dk.pc (fun a2=>Dk.pc (fun a3 a4=>[.row a0 [a1,a2,a3,v,a4] 27,.own (aL 2 (aN .i64)) v s.2])))) a) (fun a s v=>Dk.pc (fun a0=>Dk.pc (fun a1=>Dk.pc (fun a2=>Dk.pc (fun a3 a4=>[(14,.pointer (some ⟨a0,0,none⟩)),(15,.int .i64 (s.1))])))) a) _ [(3,_),(4,_),(5,_),(6,_),(9,_)]
  | apply Dk.js 12 (V:=Value) (A:=Nat×Value×Value×Value×Value) (_,_,_,_,_) (fun a (s:Int×(List (List Int))) v=>Dk.pc (fun a0=>Dk.pc (fun a1=>Dk.pc (fun a2=>Dk.pc (fun a3 a4=>[.row a0 [a1,a2,a3,a4,v] 27,.own (aL 24 (aL 2 (aN .i64))) v s.2])))) a) (fun a s v=>Dk.pc (fun a0=>Dk.pc (fun a1=>Dk.pc (fun a2=>Dk.pc (fun a3 a4=>[(14,.pointer (some ⟨a0,0,none⟩)),(16,.int .i64 (s.1))])))) a) _ [(3,_),(4,_),(5,_),(6,_),(9,_)]
  | apply Dk.loop 14 (V:=Value) (fun (s:(List Int)×Int) v=>[.own (aL 2 (aN .i64)) v s.1]) (fun s v=>[(17,v),(18,.int .i64 (s.2))]) _ [(3,_),(4,_),(5,_),(6,_),(9,_),(14,_),(16,_)]
  | apply Dk.quiet (id:=35) (by kernel_rfl)
  | apply Dk.any (id:=17) 9 [] [] [[],[],[],[1,2],[1,2,3],[],[],[5,6],[5,6,7]] (by kernel_rfl)
  | apply Dk.any (id:=26) 16 [] [] [[],[0],[],[],[],[],[5],[],[],[7,8],[7,8,9],[5,6,7,8,9,10],[5,6,7,8,9,10,11],[3,4,5,6,7,8,9,10,11,12],[2,3,4,5,6,7,8,9,10,11,12,13],[2,3,4,5,6,7,8,9,10,11,12,13,14]] (by kernel_rfl)
  | apply Dk.any (id:=36) 27 [0] [] [[],[],[],[1,2],[1,2,3],[1,2,3,4],[1,2,3,4,5],[],[],[7,8],[7,8,9],[7,8,9,10],[7,8,9,10,11],[],[],[],[14,15],[14,15,16],[14,15,16,17],[14,15,16,17,18],[],[],[20,21],[20,21,22],[20,21,22,23],[20,21,22,23,24],[13,14,15,16,17,18,19,20,21,22,23,24,25]] (by kernel_rfl)
  | apply Dk.any (id:=40) 3 [] [] [[],[],[1]] (by kernel_rfl)
  | apply Dk.any (id:=41) 7 [] [] [[],[],[],[],[],[4],[1,2,3,4,5]] (by kernel_rfl)
  | apply xZ
  | apply C0
  | apply aba
  | apply abd
  | apply Uf
  | apply C1
  | apply O6
  | apply DU
  | exact ()
end Go.Proofs.YtjdkifckhidlbaaGreat
