/- Walks by the calculus D. No condition beside those that each theorem names. -/
import Derived.Test.YtbhhmalgcnhniaaGreatDi
import Derived.Test.YtbhhmalgcnhniaaGreatMo
import Derived.Test.YtbhhmalgcnhniaaGreatDp
import Derived.Test.YtbhhmalgcnhniaaGreatDs
import Derived.Test.YtbhhmalgcnhniaaGreatWa
import Derived.Test.YtbhhmalgcnhniaaGreatWb
import Derived.Test.YtbhhmalgcnhniaaGreatWc
import Derived.Test.YtbhhmalgcnhniaaGreatWd
import Derived.Test.YtbhhmalgcnhniaaGreatWe
import Derived.Test.YtbhhmalgcnhniaaGreatWf
import Derived.Test.YtbhhmalgcnhniaaGreatWg
import Derived.Test.YtbhhmalgcnhniaaGreatWh
namespace Go.Proofs.YtbhhmalgcnhniaaGreat
open Go Go.Li Go.Dk
set_option linter.unusedVariables false
set_option maxHeartbeats 16000000
set_option maxRecDepth 100000
theorem adP {x0:aM} {eH:Nat} {cI:Value}:Ct Tryz.prog 152 true (iF x0) [.pointer (some (⟨eH,0,none⟩))] [.row eH [cI,.int .i64 (x0.At),.int .u64 (x0.aw)] 162,.rd false (bG (aK .u8)) cI x0.Code] (fun y (v:Value×Value×Value×Value)=>[.agg #[.int .i64 y.1.aA,v.1,v.2.1,v.2.2.1,v.2.2.2]]) (fun y v=>[.own (aI 2 (aK .i64)) v.1 y.1.aF,.own (aI 2 (aK .i64)) v.2.1 y.1.To,.own (aI 2 (aK .i64)) v.2.2.1 y.1.aH,.own (aI 22 (aI 2 (aK .i64))) v.2.2.2 y.1.aC,.row eH [cI,.int .i64 y.2.At,.int .u64 y.2.aw] 162]):=by
 refine ct (S:=Unit) (bo fun _ _=>rfl) Tryz.func152 rfl rfl ?_
 repeat' first
  | (apply Dk.fe; repeat' first | exact rfl | (refine @id.{0} _ ?_; constructor))
  | intro _
  | exact rfl
  | (refine Dk.te (t:=59) rfl ?_ ?_)
  | (refine @id.{0} _ ?_; constructor)
  | apply Dk.loop 1 (V:=Value) (fun (s:(List (List Int))×Int) v=>[.own (aI 22 (aI 2 (aK .i64))) v s.1]) (fun s v=>[(4,v),(5,.int .i64 (s.2))]) _ [(2,_),(3,_)]
  | apply Dk.loop 3 (V:=Value) (fun (s:(List Int)×Int) v=>[.own (aI 2 (aK .i64)) v s.1]) (fun s v=>[(6,v),(7,.int .i64 (s.2))]) _ [(2,_),(3,_),(4,_),(5,_)]
  | apply Dk.loop 5 (V:=Value×Value) (fun (s:(List Int)×(List Int)×Int×Int×Int) v=>[.row eH [cI,.int .i64 (s.2.2.2.1),.int .u64 (s.2.2.2.2)] 162,.own (aI 2 (aK .i64)) v.1 s.1,.own (aI 2 (aK .i64)) v.2 s.2.1]) (fun s v=>[(9,v.1),(10,v.2),(11,.int .i64 (s.2.2.1))]) (_,_) [(0,_),(2,_),(8,_)]
  | apply Cn
  | apply acY
  | apply Wi
  | apply adB
  | apply ac1
  | apply adu
  | apply ac9
  | apply adk
  | apply acJ
  | exact ()
theorem Wv {x0:aM} {eH:Nat} {cI:Value} {x1:Int} {x2:Int}:Ct Tryz.prog 80 true (lJ x0 x1 x2) [.pointer (some (⟨eH,0,none⟩)),.int .i64 (x1),.int .i64 (x2)] [.row eH [cI,.int .i64 (x0.At),.int .u64 (x0.aw)] 162,.rd false (bG (aK .u8)) cI x0.Code] (fun y (v:Value×Value×Value×Value)=>[.agg #[.int .i64 y.1.aA,v.1,v.2.1,v.2.2.1,v.2.2.2]]) (fun y v=>[.own (aI 2 (aK .i64)) v.1 y.1.aF,.own (aI 2 (aK .i64)) v.2.1 y.1.To,.own (aI 2 (aK .i64)) v.2.2.1 y.1.aH,.own (aI 22 (aI 2 (aK .i64))) v.2.2.2 y.1.aC,.row eH [cI,.int .i64 y.2.At,.int .u64 y.2.aw] 162]):=by
 refine ct (S:=Unit) (bo fun _ _=>rfl) Tryz.func80 rfl rfl ?_
 repeat' first
  | (apply Dk.fe; repeat' first | exact rfl | (refine @id.{0} _ ?_; constructor))
  | intro _
  | exact rfl
  | (refine @id.{0} _ ?_; constructor)
  | apply Dk.loop 0 (V:=Unit) (fun (s:Int×Int×Int) v=>[.row eH [cI,.int .i64 (s.2.1),.int .u64 (s.2.2)] 162]) (fun s v=>[(7,.int .i64 (s.1))]) () [(0,_),(1,_),(2,_),(6,_)]
  | apply Dk.ym (id:=6) [Dk.aq.row _ _ 162] 3 [] [[],[],[5]] [[],[],[1]] (by kernel_rfl)
  | apply Dk.ym (id:=8) [Dk.aq.row _ _ 162] 3 [] [[],[],[5]] [[],[],[1]] (by kernel_rfl)
  | apply adP
  | apply Cn
  | apply Wj
  | apply c89
  | apply V9
  | apply Wi
  | exact ()
theorem c99 {x0:aG} {aU bA aP aL:Value} {x1:aG} {bI bS bD aY:Value}:Ct Tryz.prog 99 true (mH x0 x1) [.agg #[.int .i64 (x0.aA),aU,bA,aP,aL],.agg #[.int .i64 (x1.aA),bI,bS,bD,aY]] [rI aU x0.aF,rI bA x0.To,rI aP x0.aH,rJ aL x0.aC,rI bI x1.aF,rI bS x1.To,rI bD x1.aH,rJ aY x1.aC] (fun y (v:Value)=>[v]) (fun y v=>[.own (aI 34 tj) v y]):=by
 refine ct (S:=Unit) (bo fun _ _=>rfl) Tryz.func99 rfl rfl ?_
 repeat' first
  | (apply Dk.fe; repeat' first | exact rfl | (refine @id.{0} _ ?_; constructor))
  | intro _
  | exact rfl
  | apply Dk.Yq (t:=116) tj
  | (refine @id.{0} _ ?_; constructor)
  | apply Wn
  | exact ()
theorem c79 {x0:aM} {eH:Nat} {cI:Value} {x1:aG} {bI bS bD aY:Value} {x2:Int} {x3:Int}:Ct Tryz.prog 79 true (pH x0 x1 x2 x3) [.pointer (some (⟨eH,0,none⟩)),.agg #[.int .i64 (x1.aA),bI,bS,bD,aY],.int .i64 (x2),.int .i64 (x3)] [.row eH [cI,.int .i64 (x0.At),.int .u64 (x0.aw)] 162,.rd false (bG (aK .u8)) cI x0.Code,rI bI x1.aF,rI bS x1.To,rI bD x1.aH,rJ aY x1.aC] (fun y (v:Value×Value×Value×Value×Value×Value×Value×Value×Value×Value)=>[.agg #[.int .i64 y.1.aD.aA,v.1,v.2.1,v.2.2.1,v.2.2.2.1,.int .i64 y.1.aB.aA,v.2.2.2.2.1,v.2.2.2.2.2.1,v.2.2.2.2.2.2.1,v.2.2.2.2.2.2.2.1,v.2.2.2.2.2.2.2.2.1,v.2.2.2.2.2.2.2.2.2]]) (fun y v=>[.own (aI 2 (aK .i64)) v.1 y.1.aD.aF,.own (aI 2 (aK .i64)) v.2.1 y.1.aD.To,.own (aI 2 (aK .i64)) v.2.2.1 y.1.aD.aH,.own (aI 22 (aI 2 (aK .i64))) v.2.2.2.1 y.1.aD.aC,.own (aI 2 (aK .i64)) v.2.2.2.2.1 y.1.aB.aF,.own (aI 2 (aK .i64)) v.2.2.2.2.2.1 y.1.aB.To,.own (aI 2 (aK .i64)) v.2.2.2.2.2.2.1 y.1.aB.aH,.own (aI 22 (aI 2 (aK .i64))) v.2.2.2.2.2.2.2.1 y.1.aB.aC,.own (aI 2 (aK .i64)) v.2.2.2.2.2.2.2.2.1 y.1.aA,.own (aI 2 (aK .i64)) v.2.2.2.2.2.2.2.2.2 y.1.ab,.row eH [cI,.int .i64 y.2.At,.int .u64 y.2.aw] 162]):=by
 refine ct (S:=Unit) (bo fun _ _=>rfl) Tryz.func79 rfl rfl ?_
 repeat' first
  | (apply Dk.fe; repeat' first | exact rfl | (refine @id.{0} _ ?_; constructor))
  | intro _
  | exact rfl
  | apply Dk.Yr (t:=116)
  | apply Dk.ixO (t:=116)
  | apply Dk.Yk (n:=12)
  | apply Dk.T4 (n:=12)
  | apply Dk.T5 (n:=12)
  | (apply Dk.LS (t:=38); exact rfl)
  | (refine @id.{0} _ ?_; constructor)
  | apply Dk.ym (id:=7) [Dk.aq.row _ _ 162] 6 [] [[],[],[],[],[],[8]] [[],[],[],[],[3],[2,3,4]] (by kernel_rfl)
  | apply Wv
  | apply c98
  | apply c99
  | apply Cn
  | apply adl
  | apply YJ
  | exact ()
theorem c82 {x0:aM} {eH:Nat} {cI:Value}:Ct Tryz.prog 82 false (pK x0) [.pointer (some (⟨eH,0,none⟩))] [.row eH [cI,.int .i64 (x0.At),.int .u64 (x0.aw)] 162,.rd false (bG (aK .u8)) cI x0.Code] (fun y (v:Value×Value×Value×Value×Value×Value×Value×Value×Value×Value)=>[.agg #[.int .i64 y.1.aD.aA,v.1,v.2.1,v.2.2.1,v.2.2.2.1,.int .i64 y.1.aB.aA,v.2.2.2.2.1,v.2.2.2.2.2.1,v.2.2.2.2.2.2.1,v.2.2.2.2.2.2.2.1,v.2.2.2.2.2.2.2.2.1,v.2.2.2.2.2.2.2.2.2]]) (fun y v=>[rI v.1 y.1.aD.aF,rI v.2.1 y.1.aD.To,rI v.2.2.1 y.1.aD.aH,rJ v.2.2.2.1 y.1.aD.aC,rI v.2.2.2.2.1 y.1.aB.aF,rI v.2.2.2.2.2.1 y.1.aB.To,rI v.2.2.2.2.2.2.1 y.1.aB.aH,rJ v.2.2.2.2.2.2.2.1 y.1.aB.aC,rI v.2.2.2.2.2.2.2.2.1 y.1.aA,rI v.2.2.2.2.2.2.2.2.2 y.1.ab,.row eH [cI,.int .i64 y.2.At,.int .u64 y.2.aw] 162]):=by
 refine ct (S:=Unit) Gi Tryz.func82 rfl rfl ?_
 repeat' first
  | (apply Dk.fe; repeat' first | exact rfl | (refine @id.{0} _ ?_; constructor))
  | (intro (v:Value×Value×Value×Value×Value×Value×Value×Value×Value×Value); obtain ⟨_,_,_,_,_,_,_,_,_,_⟩:=v; dsimp only)
  | intro _
  | exact rfl
  | (refine @id.{0} _ ?_; constructor)
  | apply Dk.ym (id:=8) [Dk.aq.row _ _ 162] 12 [] [[],[],[],[],[14],[],[],[],[],[],[],[4]] [[],[0],[],[],[2,3],[],[],[6],[6,7],[6,7,8],[6,7,8,9],[2,3,4,5,6,7,8,9,10]] (by kernel_rfl)
  | apply Wv
  | apply c79
  | apply Cn
  | apply adm
  | exact ()
end Go.Proofs.YtbhhmalgcnhniaaGreat
