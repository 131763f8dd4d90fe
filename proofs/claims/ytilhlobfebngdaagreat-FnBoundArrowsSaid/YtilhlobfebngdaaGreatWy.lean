/- Walks by the calculus D. No condition beside those that each theorem names. -/
import Derived.Test.YtilhlobfebngdaaGreatDp
import Derived.Test.YtilhlobfebngdaaGreatDi
import Derived.Test.YtilhlobfebngdaaGreatMo
import Derived.Test.YtilhlobfebngdaaGreatDs
import Derived.Test.YtilhlobfebngdaaGreatWa
import Derived.Test.YtilhlobfebngdaaGreatWc
import Derived.Test.YtilhlobfebngdaaGreatWd
import Derived.Test.YtilhlobfebngdaaGreatWe
namespace Go.Proofs.YtilhlobfebngdaaGreat
open Go Go.Li Go.Dk
set_option linter.unusedVariables false
set_option maxHeartbeats 16000000
set_option maxRecDepth 100000
theorem ajx {x0:aJ} {dG:Nat} {cB:Value} {x1:aF} {bW cF bF aZ:Value}:Ct Tryz.prog 117 false (sZ x0 x1) [.pointer (some (⟨dG,0,none⟩)),.agg #[.int .i64 (x1.aA),bW,cF,bF,aZ]] [.row dG [cB,.int .i64 (x0.At),.int .u64 (x0.an)] 91,.rd false (bE (aL .u8)) cB x0.Code,rI bW x1.aE,rI cF x1.To,rI bF x1.aH,rJ aZ x1.aC] (fun y (v:Value×Value×Value×Value×Value×Value×Value×Value×Value×Value×Value×Value×Value×Value)=>[.agg #[.int .i64 y.1.aA,v.1,v.2.1,v.2.2.1,v.2.2.2.1],.agg #[.int .i64 y.2.1.aB.aA,v.2.2.2.2.1,v.2.2.2.2.2.1,v.2.2.2.2.2.2.1,v.2.2.2.2.2.2.2.1,.int .i64 y.2.1.aG.aA,v.2.2.2.2.2.2.2.2.1,v.2.2.2.2.2.2.2.2.2.1,v.2.2.2.2.2.2.2.2.2.2.1,v.2.2.2.2.2.2.2.2.2.2.2.1,v.2.2.2.2.2.2.2.2.2.2.2.2.1,v.2.2.2.2.2.2.2.2.2.2.2.2.2]]) (fun y v=>[rI v.1 y.1.aE,rI v.2.1 y.1.To,rI v.2.2.1 y.1.aH,rJ v.2.2.2.1 y.1.aC,rI v.2.2.2.2.1 y.2.1.aB.aE,rI v.2.2.2.2.2.1 y.2.1.aB.To,rI v.2.2.2.2.2.2.1 y.2.1.aB.aH,rJ v.2.2.2.2.2.2.2.1 y.2.1.aB.aC,rI v.2.2.2.2.2.2.2.2.1 y.2.1.aG.aE,rI v.2.2.2.2.2.2.2.2.2.1 y.2.1.aG.To,rI v.2.2.2.2.2.2.2.2.2.2.1 y.2.1.aG.aH,rJ v.2.2.2.2.2.2.2.2.2.2.2.1 y.2.1.aG.aC,rI v.2.2.2.2.2.2.2.2.2.2.2.2.1 y.2.1.aA,rI v.2.2.2.2.2.2.2.2.2.2.2.2.2 y.2.1.ab,.row dG [cB,.int .i64 y.2.2.At,.int .u64 y.2.2.an] 91]):=by
 refine ct (S:=Unit) C4 Tryz.func117 rfl rfl ?_
 repeat' first
  | (apply Dk.fe; repeat' first | exact rfl | (refine @id.{0} _ ?_; constructor))
  | intro _
  | exact rfl
  | (refine Dk.uo (t:=59) rfl ?_ ?_)
  | apply Dk.xM (d:=85)
  | (refine @id.{0} _ ?_; constructor)
  | apply Dk.loop 0 (V:=Value) (fun (s:(List Int)×Int) v=>[.own (aI 2 (aL .i64)) v s.1]) (fun s v=>[(6,v),(7,.int .i64 (s.2))]) _ [(0,_),(3,_),(4,_),(5,_)]
  | apply Dk.loop 2 (V:=Value) (fun (s:(List Int)×Int×Int×Int) v=>[.row dG [cB,.int .i64 (s.2.2.1),.int .u64 (s.2.2.2)] 91,.own (aI 2 (aL .i64)) v s.1]) (fun s v=>[(6,v),(8,.int .i64 (s.2.1))]) _ [(0,_),(3,_),(4,_),(5,_)]
  | apply Dk.loop 4 (V:=Value) (fun (s:(List (List Int))×Int) v=>[.own (aI 24 (aI 2 (aL .i64))) v s.1]) (fun s v=>[(9,v),(10,.int .i64 (s.2))]) _ [(3,_),(4,_),(5,_),(6,_)]
  | apply Dk.loop 6 (V:=Value) (fun (s:(List (List Int))×Int) v=>[.own (aI 24 (aI 2 (aL .i64))) v s.1]) (fun s v=>[(9,v),(11,.int .i64 (s.2))]) _ [(3,_),(4,_),(5,_),(6,_),(10,_)]
  | apply Dk.loop 8 (V:=Value) (fun (s:(List (List Int))×Int) v=>[.own (aI 24 (aI 2 (aL .i64))) v s.1]) (fun s v=>[(9,v),(13,.int .i64 (s.2))]) _ [(3,_),(4,_),(5,_),(6,_),(10,_),(11,_),(12,_)]
  | apply Dk.iv 10 (V:=Value) (A:=Nat×Value×Value×Value×Value) (_,_,_,_,_) (fun a (s:Int×(List Int)) v=>Dk.pc (fun a0=>Dk.pc (fun a1=>Dk.pc (fun a2=>Dk.pc (fun a3 a4=>[.row a0 [a1,a2,a3,v,a4] 27,.own (aI 2 (aL .i64)) v s.2])))) a) (fun a s v=>Dk.pc (fun a0=>Dk.pc (fun a1=>Dk.pc (fun a2=>Dk.pc (fun a3 a4=>[(14,.pointer (some ⟨a0,0,none⟩)),(15,.int .i64 (s.1))])))) a) _ [(3,_),(4,_),(5,_),(6,_),(9,_)]
  | apply Dk.iv 12 (V:=Value) (A:=Nat×Value×Value×Value×Value) (_,_,_,_,_) (fun a (s:Int×(List (List Int))) v=>Dk.pc (fun a0=>Dk.pc (fun a1=>Dk.pc (fun a2=>Dk.pc (fun a3 a4=>[.row a0 [a1,a2,a3,a4,v] 27,.own (aI 24 (aI 2 (aL .i64))) v s.2])))) a) (fun a s v=>Dk.pc (fun a0=>Dk.pc (fun a1=>Dk.pc (fun a2=>Dk.pc (fun a3 a4=>[(14,.pointer (some ⟨a0,0,none⟩)),(16,.int .i64 (s.1))])))) a) _ [(3,_),(4,_),(5,_),(6,_),(9,_)]
  | apply Dk.loop 14 (V:=Value) (fun (s:(List Int)×Int) v=>[.own (aI 2 (aL .i64)) v s.1]) (fun s v=>[(17,v),(18,.int .i64 (s.2))]) _ [(3,_),(4,_),(5,_),(6,_),(9,_),(14,_),(16,_)]
  | apply Dk.quiet (id:=35) (by kernel_rfl)
  | apply Dk.any (id:=17) 9 [] [] [[],[],[],[1,2],[1,2,3],[],[],[5,6],[5,6,7]] (by kernel_rfl)
  | apply Dk.any (id:=26) 16 [] [] [[],[0],[],[],[],[],[5],[],[],[7,8],[7,8,9],[5,6,7,8,9,10],[5,6,7,8,9,10,11],[3,4,5,6,7,8,9,10,11,12],[2,3,4,5,6,7,8,9,10,11,12,13],[2,3,4,5,6,7,8,9,10,11,12,13,14]] (by kernel_rfl)
  | apply Dk.any (id:=36) 27 [0] [] [[],[],[],[1,2],[1,2,3],[1,2,3,4],[1,2,3,4,5],[],[],[7,8],[7,8,9],[7,8,9,10],[7,8,9,10,11],[],[],[],[14,15],[14,15,16],[14,15,16,17],[14,15,16,17,18],[],[],[20,21],[20,21,22],[20,21,22,23],[20,21,22,23,24],[13,14,15,16,17,18,19,20,21,22,23,24,25]] (by kernel_rfl)
  | apply Dk.any (id:=40) 3 [] [] [[],[],[1]] (by kernel_rfl)
  | apply Dk.any (id:=41) 7 [] [] [[],[],[],[],[],[4],[1,2,3,4,5]] (by kernel_rfl)
  | apply Bo
  | apply Hj
  | apply abc
  | apply abd
  | apply Rp
  | apply NI
  | apply Rq
  | apply I0
  | exact ()
end Go.Proofs.YtilhlobfebngdaaGreat
