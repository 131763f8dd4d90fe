/- Walks by the calculus D. No condition beside those that each theorem names. -/
import Derived.Test.YtilhlobfebngdaaGreatDp
import Derived.Test.YtilhlobfebngdaaGreatDi
import Derived.Test.YtilhlobfebngdaaGreatMo
import Derived.Test.YtilhlobfebngdaaGreatDs
namespace Go.Proofs.YtilhlobfebngdaaGreat
open Go Go.Li Go.Dk
set_option linter.unusedVariables false
set_option maxHeartbeats 16000000
set_option maxRecDepth 100000
theorem Bo {x0:aJ} {dG:Nat} {cB:Value} {x1:Int}:Ct Tryz.prog 31 true (bY x0 x1) [.pointer (some (⟨dG,0,none⟩)),.int .i64 (x1)] [.row dG [cB,.int .i64 (x0.At),.int .u64 (x0.an)] 91,.rd false (bE (aL .u8)) cB x0.Code] (fun y (_:Unit)=>[.int .i64 y.1]) (fun y _=>[.row dG [cB,.int .i64 y.2.At,.int .u64 y.2.an] 91]):=by
 refine ct (S:=Unit) (bu fun _ _=>rfl) Tryz.func31 rfl rfl ?_
 repeat' first
  | (apply Dk.fe; repeat' first | exact rfl | (refine @id.{0} _ ?_; constructor))
  | intro _
  | exact rfl
  | apply Dk.D.vx (d:=13)
  | apply Dk.AD.vx (d:=13)
  | apply Dk.D.vx (d:=14)
  | apply Dk.AD.vx (d:=14)
  | apply Dk.D.vx (d:=21)
  | apply Dk.AD.vx (d:=21)
  | apply Dk.D.vx (d:=22)
  | apply Dk.AD.vx (d:=22)
  | apply Dk.D.vx (d:=57)
  | apply Dk.AD.vx (d:=57)
  | (refine @id.{0} _ ?_; constructor)
  | apply Dk.quiet (id:=5) (by kernel_rfl)
  | apply Dk.quiet (id:=6) (by kernel_rfl)
  | exact ()
theorem aiV {x0:aJ} {dG:Nat} {cB:Value} {x1:Int}:Ct Tryz.prog 132 true (kZ x0 x1) [.pointer (some (⟨dG,0,none⟩)),.int .i64 (x1)] [.row dG [cB,.int .i64 (x0.At),.int .u64 (x0.an)] 91,.rd false (bE (aL .u8)) cB x0.Code] (fun y (v:Value)=>[v]) (fun y v=>[.own (aI 24 (aI 2 (aL .i64))) v y.1,.row dG [cB,.int .i64 y.2.At,.int .u64 y.2.an] 91]):=by
 refine ct (S:=Unit) (bu fun _ _=>rfl) Tryz.func132 rfl rfl ?_
 repeat' first
  | (apply Dk.fe; repeat' first | exact rfl | (refine @id.{0} _ ?_; constructor))
  | intro _
  | exact rfl
  | (apply Dk.M5 (t:=45); exact rfl)
  | (refine Dk.uo (t:=62) rfl ?_ ?_)
  | (refine Dk.uo (t:=67) rfl ?_ ?_)
  | (refine @id.{0} _ ?_; constructor)
  | apply Dk.loop 0 (V:=Value) (fun (s:(List (List Int))×Int×Int×Int) v=>[.row dG [cB,.int .i64 (s.2.2.1),.int .u64 (s.2.2.2)] 91,.own (aI 24 (aI 2 (aL .i64))) v s.1]) (fun s v=>[(5,v),(6,.int .i64 (s.2.1))]) _ [(0,_),(1,_)]
  | apply Dk.iv 2 (V:=Unit) (A:=Value) _ (fun a (s:Int×Int×Int×(List Int)) v=>[.row dG [cB,.int .i64 (s.2.1),.int .u64 (s.2.2.1)] 91,.own (aI 2 (aL .i64)) a s.2.2.2]) (fun a s v=>[(7,a),(8,.int .i64 (s.1))]) () [(0,_),(1,_),(5,_),(6,_)]
  | apply Dk.iv 4 (V:=Unit) (A:=Value) _ (fun a (s:Int×(List (List Int))) v=>[.own (aI 24 (aI 2 (aL .i64))) a s.2]) (fun a s v=>[(5,a),(9,.int .i64 (s.1))]) () [(1,_)]
  | apply Dk.iv 6 (V:=Unit) (A:=Value) _ (fun a (s:Int×(List (List Int))) v=>[.own (aI 24 (aI 2 (aL .i64))) a s.2]) (fun a s v=>[(5,a),(10,.int .i64 (s.1))]) () [(1,_),(9,_)]
  | apply Dk.iv 8 (V:=Unit) (A:=Value) _ (fun a (s:Int×(List (List Int))) v=>[.own (aI 24 (aI 2 (aL .i64))) a s.2]) (fun a s v=>[(5,a),(11,.int .i64 (s.1))]) () [(1,_),(9,_),(10,_)]
  | apply Dk.xJ (id:=13) [Dk.av.row _ _ 91] 8 [] [[],[],[],[],[],[],[],[10]] [[],[],[1],[0,1,2],[0,1,2,3],[],[],[5,6]] (by kernel_rfl)
  | apply Bo
  | exact ()
theorem Rp {x0:aF} {aQ bC aO aN:Value}:Ct Tryz.prog 75 true (dT x0) [.agg #[.int .i64 (x0.aA),aQ,bC,aO,aN]] [rI aQ x0.aE,rI bC x0.To,rI aO x0.aH,rJ aN x0.aC] (fun y (_:Unit)=>[.bool y]) (fun y _=>[]):=by
 refine ct (S:=Unit) (bu fun _ _=>rfl) Tryz.func75 rfl rfl ?_
 repeat' first
  | (apply Dk.fe; repeat' first | exact rfl | (refine @id.{0} _ ?_; constructor))
  | intro _
  | exact rfl
  | (refine @id.{0} _ ?_; constructor)
  | exact ()
theorem aiW {x0:aJ} {dG:Nat} {cB:Value}:Ct Tryz.prog 135 true (kW x0) [.pointer (some (⟨dG,0,none⟩))] [.row dG [cB,.int .i64 (x0.At),.int .u64 (x0.an)] 91,.rd false (bE (aL .u8)) cB x0.Code] (fun y (v:Value)=>[v]) (fun y v=>[.own (aI 24 (aI 2 (aL .i64))) v y.1,.row dG [cB,.int .i64 y.2.At,.int .u64 y.2.an] 91]):=by
 refine ct (S:=Unit) (bu fun _ _=>rfl) Tryz.func135 rfl rfl ?_
 repeat' first
  | (apply Dk.fe; repeat' first | exact rfl | (refine @id.{0} _ ?_; constructor))
  | intro _
  | exact rfl
  | apply Dk.D.F7 (d:=2) (x:=.tmp 8)
  | apply Dk.D.F7 (d:=2) (x:=.tmp 13)
  | apply Dk.D.F7 (d:=2) (x:=.tmp 18)
  | apply Dk.D.F7 (d:=2) (x:=.tmp 24)
  | apply Dk.D.F7 (d:=2) (x:=.tmp 30)
  | apply Dk.D.F7 (d:=2) (x:=.tmp 36)
  | apply Dk.D.F7 (d:=2) (x:=.tmp 43)
  | apply Dk.D.F7 (d:=2) (x:=.tmp 47)
  | (refine @id.{0} _ ?_; constructor)
  | apply Bo
  | exact ()
theorem aiX {x0:aF} {aQ bC aO aN:Value} {x1:aF} {bW cF bF aZ:Value}:Ct Tryz.prog 111 true (gO x0 x1) [.agg #[.int .i64 (x0.aA),aQ,bC,aO,aN],.agg #[.int .i64 (x1.aA),bW,cF,bF,aZ]] [rI aQ x0.aE,rI bC x0.To,rI aO x0.aH,rJ aN x0.aC,rI bW x1.aE,rI cF x1.To,rI bF x1.aH,rJ aZ x1.aC] (fun y (v:Value×Value×Value×Value)=>[.agg #[.int .i64 y.aA,v.1,v.2.1,v.2.2.1,v.2.2.2]]) (fun y v=>[.own (aI 2 (aL .i64)) v.1 y.aE,.own (aI 2 (aL .i64)) v.2.1 y.To,.own (aI 2 (aL .i64)) v.2.2.1 y.aH,.own (aI 24 (aI 2 (aL .i64))) v.2.2.2 y.aC]):=by
 refine ct (S:=Unit) (bu fun _ _=>rfl) Tryz.func111 rfl rfl ?_
 repeat' first
  | (apply Dk.fe; repeat' first | exact rfl | (refine @id.{0} _ ?_; constructor))
  | intro _
  | exact rfl
  | (refine Dk.uo (t:=114) rfl ?_ ?_)
  | (refine Dk.uo (t:=121) rfl ?_ ?_)
  | (refine @id.{0} _ ?_; constructor)
  | apply Dk.iv 0 (V:=Value) (A:=Nat×Value×Value×Value) (_,_,_,_) (fun a (s:Int×(List Int)) v=>Dk.pc (fun a0=>Dk.pc (fun a1=>Dk.pc (fun a2 a3=>[.row a0 [.int .i64 (aj (x0.aA * x1.aA)),a1,a2,v,a3] 27,.own (aI 2 (aL .i64)) v s.2]))) a) (fun a s v=>Dk.pc (fun a0=>Dk.pc (fun a1=>Dk.pc (fun a2 a3=>[(7,.pointer (some ⟨a0,0,none⟩)),(8,.int .i64 (s.1))]))) a) _ [(2,_),(3,_),(4,_),(5,_),(6,_)]
  | apply Dk.iv 2 (V:=Value) (A:=Nat×Value×Value×Value) (_,_,_,_) (fun a (s:Int×(List Int)) v=>Dk.pc (fun a0=>Dk.pc (fun a1=>Dk.pc (fun a2 a3=>[.row a0 [.int .i64 (aj (x0.aA * x1.aA)),a1,a2,v,a3] 27,.own (aI 2 (aL .i64)) v s.2]))) a) (fun a s v=>Dk.pc (fun a0=>Dk.pc (fun a1=>Dk.pc (fun a2 a3=>[(7,.pointer (some ⟨a0,0,none⟩)),(9,.int .i64 (s.1))]))) a) _ [(2,_),(3,_),(4,_),(5,_),(6,_),(8,_)]
  | apply Dk.iv 4 (V:=Value×Value×Value) (A:=Nat×Value) (_,_) (fun a (s:Int×(List Int)×(List Int)×(List (List Int))) v=>Dk.pc (fun a0 a1=>[.row a0 [.int .i64 (aj (x0.aA * x1.aA)),v.1,v.2.1,a1,v.2.2] 27,.own (aI 2 (aL .i64)) v.1 s.2.1,.own (aI 2 (aL .i64)) v.2.1 s.2.2.1,.own (aI 24 (aI 2 (aL .i64))) v.2.2 s.2.2.2]) a) (fun a s v=>Dk.pc (fun a0 a1=>[(7,.pointer (some ⟨a0,0,none⟩)),(10,.int .i64 (s.1))]) a) (_,_,_) [(2,_),(3,_),(4,_),(5,_),(6,_)]
  | apply Dk.iv 6 (V:=Value×Value×Value) (A:=Nat×Value) (_,_) (fun a (s:Int×(List Int)×(List Int)×(List (List Int))) v=>Dk.pc (fun a0 a1=>[.row a0 [.int .i64 (aj (x0.aA * x1.aA)),v.1,v.2.1,a1,v.2.2] 27,.own (aI 2 (aL .i64)) v.1 s.2.1,.own (aI 2 (aL .i64)) v.2.1 s.2.2.1,.own (aI 24 (aI 2 (aL .i64))) v.2.2 s.2.2.2]) a) (fun a s v=>Dk.pc (fun a0 a1=>[(7,.pointer (some ⟨a0,0,none⟩)),(11,.int .i64 (s.1))]) a) (_,_,_) [(2,_),(3,_),(4,_),(5,_),(6,_),(10,_)]
  | apply Dk.loop 8 (V:=Value) (fun (s:(List Int)×Int) v=>[.own (aI 2 (aL .i64)) v s.1]) (fun s v=>[(12,v),(13,.int .i64 (s.2))]) _ [(2,_),(3,_),(4,_),(5,_),(6,_),(7,_),(10,_),(11,_)]
  | apply Dk.loop 10 (V:=Value) (fun (s:(List Int)×Int) v=>[.own (aI 2 (aL .i64)) v s.1]) (fun s v=>[(12,v),(14,.int .i64 (s.2))]) _ [(2,_),(3,_),(4,_),(5,_),(6,_),(7,_),(10,_),(11,_),(13,_)]
  | apply Dk.quiet (id:=1) (by kernel_rfl)
  | apply Dk.quiet (id:=27) (by kernel_rfl)
  | apply Dk.any (id:=9) 16 [] [] [[],[0],[],[2],[],[2,3,4],[2,3,4,5],[],[2,3,4,5,6,7],[],[9],[],[9,10,11],[9,10,11,12],[2,3,4,5,6,7,8,9,10,11,12,13],[2,3,4,5,6,7,8,9,10,11,12,13,14]] (by kernel_rfl)
  | apply Dk.any (id:=16) 16 [] [] [[],[0],[],[2],[],[2,3,4],[2,3,4,5],[],[2,3,4,5,6,7],[],[9],[],[9,10,11],[9,10,11,12],[2,3,4,5,6,7,8,9,10,11,12,13],[2,3,4,5,6,7,8,9,10,11,12,13,14]] (by kernel_rfl)
  | apply Dk.any (id:=17) 16 [] [] [[],[0],[],[2],[],[2,3,4],[2,3,4,5],[],[2,3,4,5,6,7],[],[9],[],[9,10,11],[9,10,11,12],[2,3,4,5,6,7,8,9,10,11,12,13],[2,3,4,5,6,7,8,9,10,11,12,13,14]] (by kernel_rfl)
  | exact ()
theorem c58 {x0:aJ} {dG:Nat} {cB:Value} {x1:(List Int)} {eB:Value}:Ct Tryz.prog 58 true (oI x0 x1) [.pointer (some (⟨dG,0,none⟩)),eB] [.row dG [cB,.int .i64 (x0.At),.int .u64 (x0.an)] 91,.rd false (bE (aL .u8)) cB x0.Code,rI eB x1] (fun y (_:Unit)=>[.int .i64 y.1]) (fun y _=>[.row dG [cB,.int .i64 y.2.At,.int .u64 y.2.an] 91]):=by
 refine ct (S:=Unit) (bu fun _ _=>rfl) Tryz.func58 rfl rfl ?_
 repeat' first
  | (apply Dk.fe; repeat' first | exact rfl | (refine @id.{0} _ ?_; constructor))
  | intro _
  | exact rfl
  | (refine @id.{0} _ ?_; constructor)
  | apply Bo
  | exact ()
theorem aiY {x0:Int} {x1:Int} {x2:Int}:Ct Tryz.prog 145 true (tP x0 x1 x2) [.int .i64 (x0),.int .i64 (x1),.int .i64 (x2)] [] (fun y (_:Unit)=>[.bool y]) (fun y _=>[]):=by
 refine ct (S:=Unit) (bu fun _ _=>rfl) Tryz.func145 rfl rfl ?_
 repeat' first
  | (apply Dk.fe; repeat' first | exact rfl | (refine @id.{0} _ ?_; constructor))
  | intro _
  | exact rfl
  | (refine @id.{0} _ ?_; constructor)
  | exact ()
theorem c71 {x0:Int} {x1:Int} {x2:Int}:Ct Tryz.prog 71 true (mS x0 x1 x2) [.int .i64 (x0),.int .i64 (x1),.int .i64 (x2)] [] (fun y (_:Unit)=>[.bool y]) (fun y _=>[]):=by
 refine ct (S:=Unit) (bu fun _ _=>rfl) Tryz.func71 rfl rfl ?_
 repeat' first
  | (apply Dk.fe; repeat' first | exact rfl | (refine @id.{0} _ ?_; constructor))
  | intro _
  | exact rfl
  | (refine @id.{0} _ ?_; constructor)
  | exact ()
theorem VW {x0:(List Int)} {cU:Value} {x1:Int}:Ct Tryz.prog 34 true (gT x0 x1) [cU,.int .i64 (x1)] [rI cU x0] (fun y (_:Unit)=>[.bool y]) (fun y _=>[]):=by
 refine ct (S:=Unit) (bu fun _ _=>rfl) Tryz.func34 rfl rfl ?_
 repeat' first
  | (apply Dk.fe; repeat' first | exact rfl | (refine @id.{0} _ ?_; constructor))
  | intro _
  | exact rfl
  | (refine @id.{0} _ ?_; constructor)
  | apply Dk.loop 0 (V:=Unit) (fun (s:Int) v=>[]) (fun s v=>[(9,.int .i64 (s))]) () [(1,_),(7,_),(8,_)]
  | apply c71
  | exact ()
theorem c37 {x0:aF} {dM:Addr} {aQ bC aO aN:Value} {x1:Int}:Ct Tryz.prog 37 true (eQ x0 x1) [.pointer (some (dM)),.int .i64 (x1)] [.bc dM [.int .i64 (x0.aA),aQ,bC,aO,aN],rI aQ x0.aE,rI bC x0.To,rI aO x0.aH,rJ aN x0.aC] (fun y (_:Unit)=>[.agg #[.int .i64 y.aE,.int .i64 y.To]]) (fun y _=>[]):=by
 refine ct (S:=Unit) (bu fun _ _=>rfl) Tryz.func37 rfl rfl ?_
 repeat' first
  | (apply Dk.fe; repeat' first | exact rfl | (refine @id.{0} _ ?_; constructor))
  | intro _
  | exact rfl
  | (refine @id.{0} _ ?_; constructor)
  | apply Dk.any (id:=1) 14 [] [] [[],[0],[0,1],[0,1,2],[],[0,1,2,3,4],[0,1,2,3,4,5],[],[7],[7,8],[7,8,9],[],[7,8,9,10,11],[7,8,9,10,11,12]] (by kernel_rfl)
  | exact ()
theorem aiZ {x0:(List Int)} {cU:Value} {x1:(List Int)} {eB:Value}:Ct Tryz.prog 126 true (tU x0 x1) [cU,eB] [rI cU x0,rI eB x1] (fun y (_:Unit)=>[.int .i64 y]) (fun y _=>[]):=by
 refine ct (S:=Unit) (bu fun _ _=>rfl) Tryz.func126 rfl rfl ?_
 repeat' first
  | (apply Dk.fe; repeat' first | exact rfl | (refine @id.{0} _ ?_; constructor))
  | intro _
  | exact rfl
  | (refine @id.{0} _ ?_; constructor)
  | apply Dk.loop 0 (V:=Unit) (fun (s:Int) v=>[]) (fun s v=>[(8,.int .i64 (s))]) () [(0,_),(1,_),(7,_)]
  | apply Dk.quiet (id:=6) (by kernel_rfl)
  | apply Dk.quiet (id:=7) (by kernel_rfl)
  | exact ()
theorem c94 {x0:(List Int)} {cU:Value} {x1:(List Int)} {eB:Value}:Ct Tryz.prog 94 true (oP x0 x1) [cU,eB] [rI cU x0,rI eB x1] (fun y (_:Unit)=>[.bool y]) (fun y _=>[]):=by
 refine ct (S:=Unit) (bu fun _ _=>rfl) Tryz.func94 rfl rfl ?_
 repeat' first
  | (apply Dk.fe; repeat' first | exact rfl | (refine @id.{0} _ ?_; constructor))
  | intro _
  | exact rfl
  | (refine @id.{0} _ ?_; constructor)
  | apply aiZ
  | exact ()
theorem c97 {x0:(List Int)} {cU:Value} {x1:(List Int)} {eB:Value}:Ct Tryz.prog 97 true (tC x0 x1) [cU,eB] [rI cU x0,rI eB x1] (fun y (v:Value)=>[v]) (fun y v=>[.own (aI 2 (aL .i64)) v y]):=by
 refine ct (S:=Unit) (bu fun _ _=>rfl) Tryz.func97 rfl rfl ?_
 repeat' first
  | (apply Dk.fe; repeat' first | exact rfl | (refine @id.{0} _ ?_; constructor))
  | intro _
  | exact rfl
  | (refine @id.{0} _ ?_; constructor)
  | apply Dk.iv 0 (V:=Unit) (A:=Value) _ (fun a (s:Int×(List Int)) v=>[.own (aI 2 (aL .i64)) a s.2]) (fun a s v=>[(5,a),(13,.int .i64 (s.1))]) () [(1,_),(11,_),(12,_)]
  | exact ()
theorem c39 {x0:aF} {aQ bC aO aN:Value} {x1:Int}:Ct Tryz.prog 39 true (nM x0 x1) [.agg #[.int .i64 (x0.aA),aQ,bC,aO,aN],.int .i64 (x1)] [rI aQ x0.aE,rI bC x0.To,rI aO x0.aH,rJ aN x0.aC] (fun y (_:Unit)=>[.bool y]) (fun y _=>[]):=by
 refine ct (S:=Unit) (bu fun _ _=>rfl) Tryz.func39 rfl rfl ?_
 repeat' first
  | (apply Dk.fe; repeat' first | exact rfl | (refine @id.{0} _ ?_; constructor))
  | intro _
  | exact rfl
  | (refine @id.{0} _ ?_; constructor)
  | exact ()
theorem Ux {x0:(List (List Int))} {cU:Value}:Ct Tryz.prog 102 true (sT x0) [cU] [rJ cU x0] (fun y (_:Unit)=>[.string y]) (fun y _=>[]):=by
 refine ct (S:=Unit) (bu fun _ _=>rfl) Tryz.func102 rfl rfl ?_
 repeat' first
  | (apply Dk.fe; repeat' first | exact rfl | (refine @id.{0} _ ?_; constructor))
  | intro _
  | exact rfl
  | (refine @id.{0} _ ?_; constructor)
  | apply Dk.loop 0 (V:=Value) (fun (s:(List Int)×Int) v=>[.own (aI 5 (aL .u8)) v s.1]) (fun s v=>[(3,v),(11,.int .i64 (s.2))]) _ [(9,_),(10,_)]
  | apply Dk.loop 2 (V:=Value) (fun (s:(List Int)×Int) v=>[.own (aI 5 (aL .u8)) v s.1]) (fun s v=>[(3,v),(17,.int .i64 (s.2))]) _ [(9,_),(10,_),(11,_),(15,_),(16,_)]
  | exact ()
theorem ai0 {x0:List (List Int)} {v0:Value}:Ct Tryz.prog 100 true (tB x0) [v0] [rJ v0 x0] (fun _ (v:Value)=>[v]) (fun y v=>[.own (yL Value.string (Value.int .i64)) v y]):=by
 refine ct (S:=Unit) (bu fun _ _=>rfl) Tryz.func100 rfl rfl ?_
 repeat' first
  | (apply Dk.fe; repeat' first | exact rfl | (refine @id.{0} _ ?_; constructor))
  | intro _
  | exact rfl
  | (refine @id.{0} _ ?_; constructor)
  | apply Dk.loop 0 (V:=Value) (fun (s:List (ByteArray×Int)×Int) v=>[.own (yL Value.string (Value.int .i64)) v s.1]) (fun s v=>[(3,v),(9,.int .i64 s.2)]) _ [(7,_),(8,_)]
  | apply Ux
  | exact ()
theorem c15 {x0:(List Int)} {cU:Value} {x1:(List Int)} {eB:Value}:Ct Tryz.prog 15 true (eR x0 x1) [cU,eB] [rI cU x0,rI eB x1] (fun y (_:Unit)=>[.bool y]) (fun y _=>[]):=by
 refine ct (S:=Unit) (bu fun _ _=>rfl) Tryz.func15 rfl rfl ?_
 repeat' first
  | (apply Dk.fe; repeat' first | exact rfl | (refine @id.{0} _ ?_; constructor))
  | intro _
  | exact rfl
  | (refine @id.{0} _ ?_; constructor)
  | apply Dk.loop 0 (V:=Unit) (fun (s:Int) v=>[]) (fun s v=>[(5,.int .i64 (s))]) () [(0,_),(1,_)]
  | apply Dk.quiet (id:=6) (by kernel_rfl)
  | exact ()
theorem c14 {x0:(List (List Int))} {cU:Value} {x1:(List (List Int))} {eB:Value}:Ct Tryz.prog 14 true (jP x0 x1) [cU,eB] [rJ cU x0,rJ eB x1] (fun y (_:Unit)=>[.bool y]) (fun y _=>[]):=by
 refine ct (S:=Unit) (bu fun _ _=>rfl) Tryz.func14 rfl rfl ?_
 repeat' first
  | (apply Dk.fe; repeat' first | exact rfl | (refine @id.{0} _ ?_; constructor))
  | intro _
  | exact rfl
  | (refine @id.{0} _ ?_; constructor)
  | apply Dk.loop 0 (V:=Unit) (fun (s:Int) v=>[]) (fun s v=>[(5,.int .i64 (s))]) () [(0,_),(1,_)]
  | apply Dk.quiet (id:=6) (by kernel_rfl)
  | apply c15
  | exact ()
end Go.Proofs.YtilhlobfebngdaaGreat
