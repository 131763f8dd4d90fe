/- Walks by the calculus D. No condition beside those that each theorem names. -/
import Derived.Test.YtilhlobfebngdaaGreatDp
import Derived.Test.YtilhlobfebngdaaGreatDi
import Derived.Test.YtilhlobfebngdaaGreatMo
import Derived.Test.YtilhlobfebngdaaGreatDs
namespace Go.Proofs.YtilhlobfebngdaaGreat
open Go Go.Li Go.Dk
set_option linter.unusedVariables false
set_option maxHeartbeats 16000000
set_option maxRecDepth 100000
theorem abb {x0:(List (List Int))} {cU:Value}:Ct Tryz.prog 112 true (fE x0) [cU] [rJ cU x0] (fun y (v:Value×Value×Value×Value)=>[.agg #[.int .i64 y.aA,v.1,v.2.1,v.2.2.1,v.2.2.2]]) (fun y v=>[.own (aI 2 (aL .i64)) v.1 y.aE,.own (aI 2 (aL .i64)) v.2.1 y.To,.own (aI 2 (aL .i64)) v.2.2.1 y.aH,.own (aI 24 (aI 2 (aL .i64))) v.2.2.2 y.aC]):=by
 refine ct (S:=Unit) (bu fun _ _=>rfl) Tryz.func112 rfl rfl ?_
 repeat' first
  | (apply Dk.fe; repeat' first | exact rfl | (refine @id.{0} _ ?_; constructor))
  | intro _
  | exact rfl
  | (refine Dk.uo (t:=31) rfl ?_ ?_)
  | (refine Dk.uo (t:=93) rfl ?_ ?_)
  | (refine @id.{0} _ ?_; constructor)
  | apply Dk.iv 0 (V:=Value×Value×Value) (A:=Nat×Value×Value) (_,_,_) (fun a (s:(List (List Int))×Int×(List Int)×(List Int)) v=>Dk.pc (fun a0=>Dk.pc (fun a1 a2=>[.row a0 [.int .i64 ((x0.length:Int)),v.2.1,v.2.2,a1,a2] 27,.own (aI 24 (aI 2 (aL .i64))) v.1 s.1,.own (aI 2 (aL .i64)) v.2.1 s.2.2.1,.own (aI 2 (aL .i64)) v.2.2 s.2.2.2])) a) (fun a s v=>Dk.pc (fun a0=>Dk.pc (fun a1 a2=>[(4,v.1),(5,.pointer (some ⟨a0,0,none⟩)),(6,.int .i64 (s.2.1))])) a) (_,_,_) [(0,_),(2,_),(3,_)]
  | apply Dk.iv 2 (V:=Value×Value×Value) (A:=Nat×Value×Value) (_,_,_) (fun a (s:(List Int)×Int×(List Int)×(List Int)) v=>Dk.pc (fun a0=>Dk.pc (fun a1 a2=>[.row a0 [.int .i64 ((x0.length:Int)),v.2.1,v.2.2,a1,a2] 27,.own (aI 2 (aL .i64)) v.1 s.1,.own (aI 2 (aL .i64)) v.2.1 s.2.2.1,.own (aI 2 (aL .i64)) v.2.2 s.2.2.2])) a) (fun a s v=>Dk.pc (fun a0=>Dk.pc (fun a1 a2=>[(5,.pointer (some ⟨a0,0,none⟩)),(7,v.1),(8,.int .i64 (s.2.1))])) a) (_,_,_) [(0,_),(2,_),(3,_),(4,_),(6,_)]
  | apply Dk.iv 4 (V:=Value) (A:=Nat×Value×Value×Value) (_,_,_,_) (fun a (s:Int×(List Int)) v=>Dk.pc (fun a0=>Dk.pc (fun a1=>Dk.pc (fun a2 a3=>[.row a0 [.int .i64 ((x0.length:Int)),a1,a2,v,a3] 27,.own (aI 2 (aL .i64)) v s.2]))) a) (fun a s v=>Dk.pc (fun a0=>Dk.pc (fun a1=>Dk.pc (fun a2 a3=>[(5,.pointer (some ⟨a0,0,none⟩)),(9,.int .i64 (s.1))]))) a) _ [(2,_),(3,_),(4,_)]
  | apply Dk.iv 6 (V:=Value) (A:=Nat×Value×Value×Value) (_,_,_,_) (fun a (s:Int×(List (List Int))) v=>Dk.pc (fun a0=>Dk.pc (fun a1=>Dk.pc (fun a2 a3=>[.row a0 [.int .i64 ((x0.length:Int)),a1,a2,a3,v] 27,.own (aI 24 (aI 2 (aL .i64))) v s.2]))) a) (fun a s v=>Dk.pc (fun a0=>Dk.pc (fun a1=>Dk.pc (fun a2 a3=>[(5,.pointer (some ⟨a0,0,none⟩)),(10,.int .i64 (s.1))]))) a) _ [(2,_),(4,_)]
  | apply Dk.loop 8 (V:=Value) (fun (s:(List Int)×Int) v=>[.own (aI 2 (aL .i64)) v s.1]) (fun s v=>[(11,v),(12,.int .i64 (s.2))]) _ [(2,_),(4,_),(5,_),(10,_)]
  | apply Dk.quiet (id:=28) (by kernel_rfl)
  | apply Dk.quiet (id:=29) (by kernel_rfl)
  | apply Dk.any (id:=19) 10 [] [] [[],[0],[],[],[2,3],[2,3,4],[],[2,3,4,5,6],[2,3,4,5,6,7],[2,3,4,5,6,7,8]] (by kernel_rfl)
  | exact ()
theorem ai1 {x0:(List Int)} {cU:Value} {x1:(List Int)} {eB:Value}:Ct Tryz.prog 160 true (oB x0 x1) [cU,eB] [rI cU x0,rI eB x1] (fun y (_:Unit)=>[.bool y]) (fun y _=>[]):=by
 refine ct (S:=Unit) (bu fun _ _=>rfl) Tryz.func160 rfl rfl ?_
 repeat' first
  | (apply Dk.fe; repeat' first | exact rfl | (refine @id.{0} _ ?_; constructor))
  | intro _
  | exact rfl
  | (refine @id.{0} _ ?_; constructor)
  | apply Dk.loop 0 (V:=Unit) (fun (s:Int) v=>[]) (fun s v=>[(5,.int .i64 (s))]) () [(0,_),(1,_)]
  | apply Dk.quiet (id:=4) (by kernel_rfl)
  | apply Dk.quiet (id:=5) (by kernel_rfl)
  | exact ()
theorem ai2 {x0:bZ} {vE:Value} {x1:bZ} {vF:Value}:Ct Tryz.prog 156 true (kS x0 x1) [.agg #[.int .i64 (x0.aE),.int .i64 (x0.To),vE],.agg #[.int .i64 (x1.aE),.int .i64 (x1.To),vF]] [rI vE x0.mh,rI vF x1.mh] (fun y (_:Unit)=>[.bool y]) (fun y _=>[]):=by
 refine ct (S:=Unit) (bu fun _ _=>rfl) Tryz.func156 rfl rfl ?_
 repeat' first
  | (apply Dk.fe; repeat' first | exact rfl | (refine @id.{0} _ ?_; constructor))
  | intro _
  | exact rfl
  | (refine @id.{0} _ ?_; constructor)
  | apply ai1
  | exact ()
theorem VX {x0:(List Int)} {cU:Value} {x1:(List Int)} {eB:Value}:Ct Tryz.prog 88 true (fQ x0 x1) [cU,eB] [rI cU x0,rI eB x1] (fun y (_:Unit)=>[.bool y]) (fun y _=>[]):=by
 refine ct (S:=Unit) (bu fun _ _=>rfl) Tryz.func88 rfl rfl ?_
 repeat' first
  | (apply Dk.fe; repeat' first | exact rfl | (refine @id.{0} _ ?_; constructor))
  | intro _
  | exact rfl
  | (refine @id.{0} _ ?_; constructor)
  | apply Dk.loop 0 (V:=Unit) (fun (s:Int) v=>[]) (fun s v=>[(5,.int .i64 (s))]) () [(0,_),(1,_)]
  | apply Dk.quiet (id:=6) (by kernel_rfl)
  | exact ()
theorem ai3  : Ct Tryz.prog 136 true (pW) [] [] (fun y (v:Value×Value×Value×Value)=>[.agg #[.int .i64 y.aA,v.1,v.2.1,v.2.2.1,v.2.2.2]]) (fun y v=>[.own (aI 2 (aL .i64)) v.1 y.aE,.own (aI 2 (aL .i64)) v.2.1 y.To,.own (aI 2 (aL .i64)) v.2.2.1 y.aH,.own (aI 24 (aI 2 (aL .i64))) v.2.2.2 y.aC]):=by
 refine ct (S:=Unit) (bu fun _ _=>rfl) Tryz.func136 rfl rfl ?_
 repeat' first
  | (apply Dk.fe; repeat' first | exact rfl | (refine @id.{0} _ ?_; constructor))
  | intro _
  | exact rfl
  | apply Dk.xM (d:=1)
  | apply Dk.xM (d:=2)
  | apply Dk.xM (d:=3)
  | apply Dk.xM (d:=4)
  | apply Dk.xM (d:=5)
  | apply Dk.xM (d:=6)
  | apply Dk.xM (d:=7)
  | apply Dk.xM (d:=8)
  | apply Dk.xM (d:=9)
  | (refine @id.{0} _ ?_; constructor)
  | exact ()
theorem ai4 {x0:(List Int)} {cU:Value} {x1:Int}:Ct Tryz.prog 161 true (pZ x0 x1) [cU,.int .i64 (x1)] [rI cU x0] (fun y (_:Unit)=>[.int .i64 y]) (fun y _=>[]):=by
 refine ct (S:=Unit) (bu fun _ _=>rfl) Tryz.func161 rfl rfl ?_
 repeat' first
  | (apply Dk.fe; repeat' first | exact rfl | (refine @id.{0} _ ?_; constructor))
  | intro _
  | exact rfl
  | (refine @id.{0} _ ?_; constructor)
  | apply Dk.loop 0 (V:=Unit) (fun (s:Int) v=>[]) (fun s v=>[(5,.int .i64 (s))]) () [(0,_),(1,_)]
  | exact ()
theorem ai5 {x0:(List Int)} {cU:Value}:Ct Tryz.prog 158 true (nT x0) [cU] [rI cU x0] (fun y (v:Value)=>[v]) (fun y v=>[.own (aI 2 (aL .i64)) v y]):=by
 refine ct (S:=Unit) (bu fun _ _=>rfl) Tryz.func158 rfl rfl ?_
 repeat' first
  | (apply Dk.fe; repeat' first | exact rfl | (refine @id.{0} _ ?_; constructor))
  | intro _
  | exact rfl
  | (refine @id.{0} _ ?_; constructor)
  | apply Dk.loop 0 (V:=Value×Value) (fun (s:(List Int)×(List Int)×Int) v=>[.own (aI 2 (aL .i64)) v.1 s.1,.own (aI 2 (aL .i64)) v.2 s.2.1]) (fun s v=>[(3,v.1),(4,v.2),(5,.int .i64 (s.2.2))]) (_,_) [(0,_)]
  | apply ai4
  | exact ()
theorem ai6 {x0:aF} {aQ bC aO aN:Value} {x1:Int}:Ct Tryz.prog 164 true (sF x0 x1) [.agg #[.int .i64 (x0.aA),aQ,bC,aO,aN],.int .i64 (x1)] [rI aQ x0.aE,rI bC x0.To,rI aO x0.aH,rJ aN x0.aC] (fun y (v:Value)=>[v]) (fun y v=>[.own (aI 2 (aL .i64)) v y]):=by
 refine ct (S:=Unit) (bu fun _ _=>rfl) Tryz.func164 rfl rfl ?_
 repeat' first
  | (apply Dk.fe; repeat' first | exact rfl | (refine @id.{0} _ ?_; constructor))
  | intro _
  | exact rfl
  | (refine @id.{0} _ ?_; constructor)
  | apply Dk.loop 0 (V:=Value) (fun (s:(List Int)×Int) v=>[.own (aI 2 (aL .i64)) v s.1]) (fun s v=>[(5,v),(6,.int .i64 (s.2))]) _ [(1,_),(2,_)]
  | apply Dk.quiet (id:=5) (by kernel_rfl)
  | exact ()
theorem ai7 {x0:aF} {aQ bC aO aN:Value} {x1:Int}:Ct Tryz.prog 165 true (tT x0 x1) [.agg #[.int .i64 (x0.aA),aQ,bC,aO,aN],.int .i64 (x1)] [rI aQ x0.aE,rI bC x0.To,rI aO x0.aH,rJ aN x0.aC] (fun y (v:Value)=>[v]) (fun y v=>[.own (aI 2 (aL .i64)) v y]):=by
 refine ct (S:=Unit) (bu fun _ _=>rfl) Tryz.func165 rfl rfl ?_
 repeat' first
  | (apply Dk.fe; repeat' first | exact rfl | (refine @id.{0} _ ?_; constructor))
  | intro _
  | exact rfl
  | (refine @id.{0} _ ?_; constructor)
  | apply Dk.loop 0 (V:=Value) (fun (s:(List Int)×Int) v=>[.own (aI 2 (aL .i64)) v s.1]) (fun s v=>[(5,v),(6,.int .i64 (s.2))]) _ [(1,_),(2,_)]
  | apply Dk.quiet (id:=5) (by kernel_rfl)
  | exact ()
theorem ai8 {x0:(List Int)} {cU:Value} {x1:Int}:Ct Tryz.prog 166 true (uW x0 x1) [cU,.int .i64 (x1)] [rI cU x0] (fun y (_:Unit)=>[.bool y]) (fun y _=>[]):=by
 refine ct (S:=Unit) (bu fun _ _=>rfl) Tryz.func166 rfl rfl ?_
 repeat' first
  | (apply Dk.fe; repeat' first | exact rfl | (refine @id.{0} _ ?_; constructor))
  | intro _
  | exact rfl
  | (refine @id.{0} _ ?_; constructor)
  | apply Dk.loop 0 (V:=Unit) (fun (s:Int) v=>[]) (fun s v=>[(5,.int .i64 (s))]) () [(0,_),(1,_)]
  | exact ()
theorem ai9 {x0:aF} {aQ bC aO aN:Value} {x1:Int}:Ct Tryz.prog 162 true (tX x0 x1) [.agg #[.int .i64 (x0.aA),aQ,bC,aO,aN],.int .i64 (x1)] [rI aQ x0.aE,rI bC x0.To,rI aO x0.aH,rJ aN x0.aC] (fun y (_:Unit)=>[.int .i64 y]) (fun y _=>[]):=by
 refine ct (S:=Unit) (bu fun _ _=>rfl) Tryz.func162 rfl rfl ?_
 repeat' first
  | (apply Dk.fe; repeat' first | exact rfl | (refine @id.{0} _ ?_; constructor))
  | intro _
  | exact rfl
  | (refine @id.{0} _ ?_; constructor)
  | apply Dk.loop 0 (V:=Unit) (fun (s:Int) v=>[]) (fun s v=>[(7,.int .i64 (s))]) () [(5,_),(6,_)]
  | apply Dk.any (id:=1) 5 [] [] [[],[],[0,1],[],[]] (by kernel_rfl)
  | apply ai6
  | apply ai7
  | apply ai8
  | exact ()
theorem abc {x0:(List (List Int))} {cU:Value} {x1:Int}:Ct Tryz.prog 105 true (fU x0 x1) [cU,.int .i64 (x1)] [rJ cU x0] (fun y (v:Value)=>[v]) (fun y v=>[.own (aI 2 (aL .i64)) v y]):=by
 refine ct (S:=Unit) (bu fun _ _=>rfl) Tryz.func105 rfl rfl ?_
 repeat' first
  | (apply Dk.fe; repeat' first | exact rfl | (refine @id.{0} _ ?_; constructor))
  | intro _
  | exact rfl
  | (refine @id.{0} _ ?_; constructor)
  | apply Dk.loop 0 (V:=Value) (fun (s:(List Int)×Int) v=>[.own (aI 2 (aL .i64)) v s.1]) (fun s v=>[(5,v),(6,.int .i64 (s.2))]) _ [(0,_),(1,_)]
  | exact ()
theorem abd {x0:(List (List Int))} {cU:Value} {x1:(List Int)} {eB:Value}:Ct Tryz.prog 106 true (iO x0 x1) [cU,eB] [rJ cU x0,rI eB x1] (fun y (_:Unit)=>[.int .i64 y]) (fun y _=>[]):=by
 refine ct (S:=Unit) (bu fun _ _=>rfl) Tryz.func106 rfl rfl ?_
 repeat' first
  | (apply Dk.fe; repeat' first | exact rfl | (refine @id.{0} _ ?_; constructor))
  | intro _
  | exact rfl
  | (refine @id.{0} _ ?_; constructor)
  | apply Dk.loop 0 (V:=Unit) (fun (s:Int) v=>[]) (fun s v=>[(5,.int .i64 (s))]) () [(0,_),(1,_)]
  | apply VX
  | exact ()
theorem aja {x0:aF} {aQ bC aO aN:Value}:Ct Tryz.prog 124 true (qA x0) [.agg #[.int .i64 (x0.aA),aQ,bC,aO,aN]] [rI aQ x0.aE,rI bC x0.To,rI aO x0.aH,rJ aN x0.aC] (fun y (_:Unit)=>[.int .i64 y.1,.int .i64 y.2.1,.int .i64 y.2.2.1,.int .i64 y.2.2.2]) (fun y _=>[]):=by
 refine ct (S:=Unit) (bu fun _ _=>rfl) Tryz.func124 rfl rfl ?_
 repeat' first
  | (apply Dk.fe; repeat' first | exact rfl | (refine @id.{0} _ ?_; constructor))
  | intro _
  | exact rfl
  | (refine Dk.uo (t:=65) rfl ?_ ?_)
  | (refine Dk.uo (t:=81) rfl ?_ ?_)
  | (refine @id.{0} _ ?_; constructor)
  | apply Dk.loop 0 (V:=Unit) (fun (s:Int) v=>[]) (fun s v=>[(7,.int .i64 (s))]) () [(1,_),(6,_)]
  | apply Dk.loop 2 (V:=Unit) (fun (s:Int) v=>[]) (fun s v=>[(8,.int .i64 (s))]) () [(1,_),(6,_)]
  | apply Dk.loop 4 (V:=Unit) (fun (s:Int) v=>[]) (fun s v=>[(9,.int .i64 (s))]) () [(1,_),(6,_),(8,_)]
  | apply Dk.loop 6 (V:=Unit) (fun (s:Int) v=>[]) (fun s v=>[(10,.int .i64 (s))]) () [(1,_),(6,_),(8,_),(9,_)]
  | apply Dk.quiet (id:=5) (by kernel_rfl)
  | apply Dk.quiet (id:=13) (by kernel_rfl)
  | apply Dk.quiet (id:=17) (by kernel_rfl)
  | exact ()
theorem c89 {x0:(List (List Int))} {cU:Value} {x1:(List (List Int))} {eB:Value}:Ct Tryz.prog 89 true (tK x0 x1) [cU,eB] [rJ cU x0,rJ eB x1] (fun y (_:Unit)=>[.bool y]) (fun y _=>[]):=by
 refine ct (S:=Unit) (bu fun _ _=>rfl) Tryz.func89 rfl rfl ?_
 repeat' first
  | (apply Dk.fe; repeat' first | exact rfl | (refine @id.{0} _ ?_; constructor))
  | intro _
  | exact rfl
  | (refine @id.{0} _ ?_; constructor)
  | apply Dk.loop 0 (V:=Unit) (fun (s:Int) v=>[]) (fun s v=>[(5,.int .i64 (s))]) () [(0,_),(1,_)]
  | apply Dk.quiet (id:=6) (by kernel_rfl)
  | apply VX
  | exact ()
theorem c30 {x0:aF} {aQ bC aO aN:Value} {x1:Int}:Ct Tryz.prog 30 true (jO x0 x1) [.agg #[.int .i64 (x0.aA),aQ,bC,aO,aN],.int .i64 (x1)] [rI aQ x0.aE,rI bC x0.To,rI aO x0.aH,rJ aN x0.aC] (fun y (_:Unit)=>[.bool y]) (fun y _=>[]):=by
 refine ct (S:=Unit) (bu fun _ _=>rfl) Tryz.func30 rfl rfl ?_
 repeat' first
  | (apply Dk.fe; repeat' first | exact rfl | (refine @id.{0} _ ?_; constructor))
  | intro _
  | exact rfl
  | (refine @id.{0} _ ?_; constructor)
  | exact ()
theorem Uy {x0:(List Int)} {cU:Value}:Ct Tryz.prog 128 true (jR x0) [cU] [rI cU x0] (fun y (v:Value)=>[v]) (fun y v=>[.own (aI 2 (aL .i64)) v y]):=by
 refine ct (S:=Unit) (bu fun _ _=>rfl) Tryz.func128 rfl rfl ?_
 repeat' first
  | (apply Dk.fe; repeat' first | exact rfl | (refine @id.{0} _ ?_; constructor))
  | intro _
  | exact rfl
  | (refine @id.{0} _ ?_; constructor)
  | exact ()
theorem ajb {x0:(List (List Int))} {cU:Value}:Ct Tryz.prog 147 true (tA x0) [cU] [rJ cU x0] (fun y (v:Value)=>[v]) (fun y v=>[.own (aI 24 (aI 2 (aL .i64))) v y]):=by
 refine ct (S:=Unit) (bu fun _ _=>rfl) Tryz.func147 rfl rfl ?_
 repeat' first
  | (apply Dk.fe; repeat' first | exact rfl | (refine @id.{0} _ ?_; constructor))
  | intro _
  | exact rfl
  | (refine @id.{0} _ ?_; constructor)
  | apply Dk.loop 0 (V:=Value) (fun (s:(List (List Int))×Int) v=>[.own (aI 24 (aI 2 (aL .i64))) v s.1]) (fun s v=>[(3,v),(11,.int .i64 (s.2))]) _ [(9,_),(10,_)]
  | apply Uy
  | exact ()
theorem c38 {p:Addr}:Ct Tryz.prog 38 true fV [.pointer (some p)] [] (fun _ (v:Nat×Nat)=>[.agg #[.pointer (some p),.pointer (some p),.func (.func 72) #[] #[.pointer (some ⟨v.1,0,none⟩),.pointer (some ⟨v.2,0,none⟩)]]]) (fun _ v=>[.row v.1 [.pointer (some p)] 59,.row v.2 [.pointer (some p)] 65]):=by
 refine ct (S:=Unit) (bu fun _ _=>rfl) Tryz.func38 rfl rfl ?_
 repeat' first
  | (apply Dk.fe; repeat' first | exact rfl | (refine @id.{0} _ ?_; constructor))
  | intro _
  | exact rfl
  | (refine @id.{0} _ ?_; constructor)
  | exact ()
end Go.Proofs.YtilhlobfebngdaaGreat
