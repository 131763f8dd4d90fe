/- Walks by the calculus D. No condition beside those that each theorem names. -/
import Derived.Test.YtbhhmalgcnhniaaGreatDi
import Derived.Test.YtbhhmalgcnhniaaGreatMo
import Derived.Test.YtbhhmalgcnhniaaGreatDp
import Derived.Test.YtbhhmalgcnhniaaGreatDs
import Derived.Test.YtbhhmalgcnhniaaGreatWa
import Derived.Test.YtbhhmalgcnhniaaGreatWb
import Derived.Test.YtbhhmalgcnhniaaGreatWc
import Derived.Test.YtbhhmalgcnhniaaGreatWe
namespace Go.Proofs.YtbhhmalgcnhniaaGreat
open Go Go.Li Go.Dk
set_option linter.unusedVariables false
set_option maxHeartbeats 16000000
set_option maxRecDepth 100000
theorem adM {x0:aM} {eH:Nat} {cI:Value} {x1:aG} {bI bS bD aY:Value}:Ct Tryz.prog 190 false (qW x0 x1) [.pointer (some (⟨eH,0,none⟩)),.agg #[.int .i64 (x1.aA),bI,bS,bD,aY]] [.row eH [cI,.int .i64 (x0.At),.int .u64 (x0.aw)] 162,.rd false (bG (aK .u8)) cI x0.Code,rI bI x1.aF,rI bS x1.To,rI bD x1.aH,rJ aY x1.aC] (fun y (v:Value×Value×Value×Value×Value×Value×Value×Value×Value×Value×Value×Value×Value×Value)=>[.agg #[.int .i64 y.1.aA,v.1,v.2.1,v.2.2.1,v.2.2.2.1],.agg #[.int .i64 y.2.1.aD.aA,v.2.2.2.2.1,v.2.2.2.2.2.1,v.2.2.2.2.2.2.1,v.2.2.2.2.2.2.2.1,.int .i64 y.2.1.aB.aA,v.2.2.2.2.2.2.2.2.1,v.2.2.2.2.2.2.2.2.2.1,v.2.2.2.2.2.2.2.2.2.2.1,v.2.2.2.2.2.2.2.2.2.2.2.1,v.2.2.2.2.2.2.2.2.2.2.2.2.1,v.2.2.2.2.2.2.2.2.2.2.2.2.2]]) (fun y v=>[rI v.1 y.1.aF,rI v.2.1 y.1.To,rI v.2.2.1 y.1.aH,rJ v.2.2.2.1 y.1.aC,rI v.2.2.2.2.1 y.2.1.aD.aF,rI v.2.2.2.2.2.1 y.2.1.aD.To,rI v.2.2.2.2.2.2.1 y.2.1.aD.aH,rJ v.2.2.2.2.2.2.2.1 y.2.1.aD.aC,rI v.2.2.2.2.2.2.2.2.1 y.2.1.aB.aF,rI v.2.2.2.2.2.2.2.2.2.1 y.2.1.aB.To,rI v.2.2.2.2.2.2.2.2.2.2.1 y.2.1.aB.aH,rJ v.2.2.2.2.2.2.2.2.2.2.2.1 y.2.1.aB.aC,rI v.2.2.2.2.2.2.2.2.2.2.2.2.1 y.2.1.aA,rI v.2.2.2.2.2.2.2.2.2.2.2.2.2 y.2.1.ab,.row eH [cI,.int .i64 y.2.2.At,.int .u64 y.2.2.aw] 162]):=by
 refine ct (S:=Unit) Gi Tryz.func190 rfl rfl ?_
 repeat' first
  | (apply Dk.fe; repeat' first | exact rfl | (refine @id.{0} _ ?_; constructor))
  | intro _
  | exact rfl
  | (refine Dk.te (t:=59) rfl ?_ ?_)
  | apply Dk.yo (d:=85)
  | (refine @id.{0} _ ?_; constructor)
  | apply Dk.loop 0 (V:=Value) (fun (s:(List Int)×Int) v=>[.own (aI 2 (aK .i64)) v s.1]) (fun s v=>[(6,v),(7,.int .i64 (s.2))]) _ [(0,_),(3,_),(4,_),(5,_)]
  | apply Dk.loop 2 (V:=Value) (fun (s:(List Int)×Int×Int×Int) v=>[.row eH [cI,.int .i64 (s.2.2.1),.int .u64 (s.2.2.2)] 162,.own (aI 2 (aK .i64)) v s.1]) (fun s v=>[(6,v),(8,.int .i64 (s.2.1))]) _ [(0,_),(3,_),(4,_),(5,_)]
  | apply Dk.loop 4 (V:=Value) (fun (s:(List (List Int))×Int) v=>[.own (aI 22 (aI 2 (aK .i64))) v s.1]) (fun s v=>[(9,v),(10,.int .i64 (s.2))]) _ [(3,_),(4,_),(5,_),(6,_)]
  | apply Dk.loop 6 (V:=Value) (fun (s:(List (List Int))×Int) v=>[.own (aI 22 (aI 2 (aK .i64))) v s.1]) (fun s v=>[(9,v),(11,.int .i64 (s.2))]) _ [(3,_),(4,_),(5,_),(6,_),(10,_)]
  | apply Dk.loop 8 (V:=Value) (fun (s:(List (List Int))×Int) v=>[.own (aI 22 (aI 2 (aK .i64))) v s.1]) (fun s v=>[(9,v),(13,.int .i64 (s.2))]) _ [(3,_),(4,_),(5,_),(6,_),(10,_),(11,_),(12,_)]
  | apply Dk.iH 10 (V:=Value) (A:=Nat×Value×Value×Value×Value) (_,_,_,_,_) (fun a (s:Int×(List Int)) v=>Dk.pc (fun a0=>Dk.pc (fun a1=>Dk.pc (fun a2=>Dk.pc (fun a3 a4=>[.row a0 [a1,a2,a3,v,a4] 32,.own (aI 2 (aK .i64)) v s.2])))) a) (fun a s v=>Dk.pc (fun a0=>Dk.pc (fun a1=>Dk.pc (fun a2=>Dk.pc (fun a3 a4=>[(14,.pointer (some ⟨a0,0,none⟩)),(15,.int .i64 (s.1))])))) a) _ [(3,_),(4,_),(5,_),(6,_),(9,_)]
  | apply Dk.iH 12 (V:=Value) (A:=Nat×Value×Value×Value×Value) (_,_,_,_,_) (fun a (s:Int×(List (List Int))) v=>Dk.pc (fun a0=>Dk.pc (fun a1=>Dk.pc (fun a2=>Dk.pc (fun a3 a4=>[.row a0 [a1,a2,a3,a4,v] 32,.own (aI 22 (aI 2 (aK .i64))) v s.2])))) a) (fun a s v=>Dk.pc (fun a0=>Dk.pc (fun a1=>Dk.pc (fun a2=>Dk.pc (fun a3 a4=>[(14,.pointer (some ⟨a0,0,none⟩)),(16,.int .i64 (s.1))])))) a) _ [(3,_),(4,_),(5,_),(6,_),(9,_)]
  | apply Dk.loop 14 (V:=Value) (fun (s:(List Int)×Int) v=>[.own (aI 2 (aK .i64)) v s.1]) (fun s v=>[(17,v),(18,.int .i64 (s.2))]) _ [(3,_),(4,_),(5,_),(6,_),(9,_),(14,_),(16,_)]
  | apply Dk.quiet (id:=35) (by kernel_rfl)
  | apply Dk.any (id:=17) 9 [] [] [[],[],[],[1,2],[1,2,3],[],[],[5,6],[5,6,7]] (by kernel_rfl)
  | apply Dk.any (id:=26) 16 [] [] [[],[0],[],[],[],[],[5],[],[],[7,8],[7,8,9],[5,6,7,8,9,10],[5,6,7,8,9,10,11],[3,4,5,6,7,8,9,10,11,12],[2,3,4,5,6,7,8,9,10,11,12,13],[2,3,4,5,6,7,8,9,10,11,12,13,14]] (by kernel_rfl)
  | apply Dk.any (id:=36) 27 [0] [] [[],[],[],[1,2],[1,2,3],[1,2,3,4],[1,2,3,4,5],[],[],[7,8],[7,8,9],[7,8,9,10],[7,8,9,10,11],[],[],[],[14,15],[14,15,16],[14,15,16,17],[14,15,16,17,18],[],[],[20,21],[20,21,22],[20,21,22,23],[20,21,22,23,24],[13,14,15,16,17,18,19,20,21,22,23,24,25]] (by kernel_rfl)
  | apply Dk.any (id:=40) 3 [] [] [[],[],[1]] (by kernel_rfl)
  | apply Dk.any (id:=41) 7 [] [] [[],[],[],[],[],[4],[1,2,3,4,5]] (by kernel_rfl)
  | apply Cn
  | apply Bt
  | apply ac3
  | apply ac4
  | apply V9
  | apply PM
  | apply YJ
  | apply Nh
  | exact ()
end Go.Proofs.YtbhhmalgcnhniaaGreat
