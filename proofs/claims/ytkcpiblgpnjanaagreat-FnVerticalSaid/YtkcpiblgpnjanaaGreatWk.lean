/- Walks by the calculus D. No condition beside those that each theorem names. -/
import Derived.Test.YtkcpiblgpnjanaaGreatDi
import Derived.Test.YtkcpiblgpnjanaaGreatMo
import Derived.Test.YtkcpiblgpnjanaaGreatDp
import Derived.Test.YtkcpiblgpnjanaaGreatDs
import Derived.Test.YtkcpiblgpnjanaaGreatWa
import Derived.Test.YtkcpiblgpnjanaaGreatWc
import Derived.Test.YtkcpiblgpnjanaaGreatWd
import Derived.Test.YtkcpiblgpnjanaaGreatWf
import Derived.Test.YtkcpiblgpnjanaaGreatWg
namespace Go.Proofs.YtkcpiblgpnjanaaGreat
open Go Go.Li Go.Dk
set_option linter.unusedVariables false
set_option maxHeartbeats 16000000
set_option maxRecDepth 100000
theorem adv {x0:aI} {aV:Value} {bG:Value} {aO:Value} {aM:Value} {x1:aI} {cA:Value} {cR:Value} {bH:Value} {bB:Value}:Ct Tryz.prog 212 true (iL x0 x1) [.agg #[.int .i64 (x0.aE),aV,bG,aO,aM],.agg #[.int .i64 (x1.aE),cA,cR,bH,bB]] [.rd false (aD (aB .i64)) aV x0.aG,.rd false (aD (aB .i64)) bG x0.To,.rd false (aD (aB .i64)) aO x0.aJ,.rd false (aD (aD (aB .i64))) aM x0.aF,.rd false (aD (aB .i64)) cA x1.aG,.rd false (aD (aB .i64)) cR x1.To,.rd false (aD (aB .i64)) bH x1.aJ,.rd false (aD (aD (aB .i64))) bB x1.aF] (fun y (v:Value×Value×Value×Value)=>match v with | (q0,q1,q2,q3)=>[.agg #[.int .i64 y.aE,q0,q1,q2,q3]]) (fun y v=>match v with | (q0,q1,q2,q3)=>[.own (aK 2 (aB .i64)) q0 y.aG,.own (aK 2 (aB .i64)) q1 y.To,.own (aK 2 (aB .i64)) q2 y.aJ,.own (aK 24 (aK 2 (aB .i64))) q3 y.aF]):=by
 refine ct (S:=Unit) (ca fun _ _=>rfl) Tryz.func212 rfl rfl ?_
 repeat' first
  | ((first | show Dk.ER _ _ _ | show Dk.bb _ _ | show Dk.EF _ _ _ | show Dk.EO _ _ _ | show Dk.EP _ _ | show Dk.ba _ _ _ _ | show Dk.aw _ _ _ _ | show Dk.Kp _ _ _ _ | show Dk.bp _ _ | show Dk.bc _ _ _ _); repeat' first | exact rfl | (refine @id.{0} _ ?_; constructor))
  | intro _
  | exact rfl
  | (refine Dk.s9 (t:=60) rfl ?_ ?_)
  | (refine @id.{0} _ ?_; constructor)
  | apply Dk.j4 0 (V:=Value×Value) (A:=Nat×Value×Value×Value) (_,_,_,_) (fun a (s:Int×(List Int)×(List Int)) v=>Dk.pc (fun a0=>Dk.pc (fun a1=>Dk.pc (fun a2 a3=>[.row a0 [a1,v.1,v.2,a2,a3] 27,.own (aK 2 (aB .i64)) v.1 s.2.1,.own (aK 2 (aB .i64)) v.2 s.2.2]))) a) (fun a s v=>Dk.pc (fun a0=>Dk.pc (fun a1=>Dk.pc (fun a2 a3=>[(5,.pointer (some ⟨a0,0,none⟩)),(7,.int .i64 (s.1))]))) a) (_,_) [(2,_),(3,_),(4,_),(6,_)]
  | apply Dk.j4 2 (V:=Value×Value) (A:=Nat×Value×Value×Value) (_,_,_,_) (fun a (s:Int×(List Int)×(List Int)) v=>Dk.pc (fun a0=>Dk.pc (fun a1=>Dk.pc (fun a2 a3=>[.row a0 [a1,v.1,v.2,a2,a3] 27,.own (aK 2 (aB .i64)) v.1 s.2.1,.own (aK 2 (aB .i64)) v.2 s.2.2]))) a) (fun a s v=>Dk.pc (fun a0=>Dk.pc (fun a1=>Dk.pc (fun a2 a3=>[(5,.pointer (some ⟨a0,0,none⟩)),(8,.int .i64 (s.1))]))) a) (_,_) [(2,_),(3,_),(4,_),(6,_),(7,_)]
  | apply Dk.loop 4 (V:=Value) (fun (s:(List (List Int))×Int) v=>[.own (aK 24 (aK 2 (aB .i64))) v s.1]) (fun s v=>[(9,v),(10,.int .i64 (s.2))]) _ [(2,_),(3,_),(4,_),(5,_),(6,_)]
  | apply Dk.loop 6 (V:=Value) (fun (s:(List Int)×Int) v=>[.own (aK 2 (aB .i64)) v s.1]) (fun s v=>[(11,v),(12,.int .i64 (s.2))]) _ [(2,_),(3,_),(4,_),(5,_),(6,_),(9,_),(10,_)]
  | apply Dk.quiet (id:=20) (by kernel_rfl)
  | apply Dk.quiet (id:=21) (by kernel_rfl)
  | apply WW
  | exact ()
theorem adw {x0:aL} {dV:Nat} {cW:Value}:Ct Tryz.prog 194 true (iD x0) [.pointer (some (⟨dV,0,none⟩))] [.row dV [cW,.int .i64 (x0.At),.int .u64 (x0.av)] 142,.rd false (aD (aB .u8)) cW x0.Code] (fun y (v:Value×Value×Value×Value)=>[.agg #[.int .i64 y.1.aE,v.1,v.2.1,v.2.2.1,v.2.2.2]]) (fun y v=>[.own (aK 2 (aB .i64)) v.1 y.1.aG,.own (aK 2 (aB .i64)) v.2.1 y.1.To,.own (aK 2 (aB .i64)) v.2.2.1 y.1.aJ,.own (aK 24 (aK 2 (aB .i64))) v.2.2.2 y.1.aF,.row dV [cW,.int .i64 y.2.At,.int .u64 y.2.av] 142]):=by
 refine ct (S:=Unit) (ca fun _ _=>rfl) Tryz.func194 rfl rfl ?_
 repeat' first
  | ((first | show Dk.ER _ _ _ | show Dk.bb _ _ | show Dk.EF _ _ _ | show Dk.EO _ _ _ | show Dk.EP _ _ | show Dk.ba _ _ _ _ | show Dk.aw _ _ _ _ | show Dk.Kp _ _ _ _ | show Dk.bp _ _ | show Dk.bc _ _ _ _); repeat' first | exact rfl | (refine @id.{0} _ ?_; constructor))
  | intro _
  | exact rfl
  | (refine Dk.s9 (t:=59) rfl ?_ ?_)
  | (refine @id.{0} _ ?_; constructor)
  | apply Dk.loop 1 (V:=Value) (fun (s:(List (List Int))×Int) v=>[.own (aK 24 (aK 2 (aB .i64))) v s.1]) (fun s v=>[(4,v),(5,.int .i64 (s.2))]) _ [(2,_),(3,_)]
  | apply Dk.loop 3 (V:=Value) (fun (s:(List Int)×Int) v=>[.own (aK 2 (aB .i64)) v s.1]) (fun s v=>[(6,v),(7,.int .i64 (s.2))]) _ [(2,_),(3,_),(4,_),(5,_)]
  | apply Dk.loop 5 (V:=Value×Value) (fun (s:(List Int)×(List Int)×Int×Int×Int) v=>[.row dV [cW,.int .i64 (s.2.2.2.1),.int .u64 (s.2.2.2.2)] 142,.own (aK 2 (aB .i64)) v.1 s.1,.own (aK 2 (aB .i64)) v.2 s.2.1]) (fun s v=>[(9,v.1),(10,v.2),(11,.int .i64 (s.2.2.1))]) (_,_) [(0,_),(2,_),(8,_)]
  | apply AM
  | apply acS
  | apply WD
  | apply adj
  | apply acT
  | apply adk
  | apply acF
  | apply adv
  | apply acG
  | exact ()
theorem W0 {x0:aL} {dV:Nat} {cW:Value} {x1:Int} {x2:Int}:Ct Tryz.prog 162 true (lV x0 x1 x2) [.pointer (some (⟨dV,0,none⟩)),.int .i64 (x1),.int .i64 (x2)] [.row dV [cW,.int .i64 (x0.At),.int .u64 (x0.av)] 142,.rd false (aD (aB .u8)) cW x0.Code] (fun y (v:Value×Value×Value×Value)=>[.agg #[.int .i64 y.1.aE,v.1,v.2.1,v.2.2.1,v.2.2.2]]) (fun y v=>[.own (aK 2 (aB .i64)) v.1 y.1.aG,.own (aK 2 (aB .i64)) v.2.1 y.1.To,.own (aK 2 (aB .i64)) v.2.2.1 y.1.aJ,.own (aK 24 (aK 2 (aB .i64))) v.2.2.2 y.1.aF,.row dV [cW,.int .i64 y.2.At,.int .u64 y.2.av] 142]):=by
 refine ct (S:=Unit) (ca fun _ _=>rfl) Tryz.func162 rfl rfl ?_
 repeat' first
  | ((first | show Dk.ER _ _ _ | show Dk.bb _ _ | show Dk.EF _ _ _ | show Dk.EO _ _ _ | show Dk.EP _ _ | show Dk.ba _ _ _ _ | show Dk.aw _ _ _ _ | show Dk.Kp _ _ _ _ | show Dk.bp _ _ | show Dk.bc _ _ _ _); repeat' first | exact rfl | (refine @id.{0} _ ?_; constructor))
  | intro _
  | exact rfl
  | (refine @id.{0} _ ?_; constructor)
  | apply Dk.loop 0 (V:=Unit) (fun (s:Int×Int×Int) v=>[.row dV [cW,.int .i64 (s.2.1),.int .u64 (s.2.2)] 142]) (fun s v=>[(7,.int .i64 (s.1))]) () [(0,_),(1,_),(2,_),(6,_)]
  | apply Dk.um (id:=6) [Dk.ay.row _ _ 142] 3 [] [[],[],[5]] [[],[],[1]] (by kernel_rfl)
  | apply Dk.um (id:=8) [Dk.ay.row _ _ 142] 3 [] [[],[],[5]] [[],[],[1]] (by kernel_rfl)
  | apply adw
  | apply AM
  | apply WW
  | apply ac2
  | apply WM
  | apply WD
  | exact ()
theorem W1 {rc:aI→aI→(List Int)→(List aN)→Option ((List aN))} (ih:∀ {x0:aI} {aV:Value} {bG:Value} {aO:Value} {aM:Value} {x1:aI} {cA:Value} {cR:Value} {bH:Value} {bB:Value} {x2:(List Int)} {dS:Value} {x3:(List aN)} {gU:Value},Ct Tryz.prog 118 true (rc x0 x1 x2 x3) [.agg #[.int .i64 (x0.aE),aV,bG,aO,aM],.agg #[.int .i64 (x1.aE),cA,cR,bH,bB],dS,gU] [.rd false (aD (aB .i64)) aV x0.aG,.rd false (aD (aB .i64)) bG x0.To,.rd false (aD (aB .i64)) aO x0.aJ,.rd false (aD (aD (aB .i64))) aM x0.aF,.rd false (aD (aB .i64)) cA x1.aG,.rd false (aD (aB .i64)) cR x1.To,.rd false (aD (aB .i64)) bH x1.aJ,.rd false (aD (aD (aB .i64))) bB x1.aF,.rd false (aD (aB .i64)) dS x2,.own (aK 29 tj) gU x3] (fun y (v:Value)=>[v]) (fun y v=>[.own (aK 29 tj) v y])) {x0:aI} {aV:Value} {bG:Value} {aO:Value} {aM:Value} {x1:aI} {cA:Value} {cR:Value} {bH:Value} {bB:Value} {x2:(List Int)} {dS:Value} {x3:(List aN)} {gU:Value}:Ct Tryz.prog 118 true (kU rc x0 x1 x2 x3) [.agg #[.int .i64 (x0.aE),aV,bG,aO,aM],.agg #[.int .i64 (x1.aE),cA,cR,bH,bB],dS,gU] [.rd false (aD (aB .i64)) aV x0.aG,.rd false (aD (aB .i64)) bG x0.To,.rd false (aD (aB .i64)) aO x0.aJ,.rd false (aD (aD (aB .i64))) aM x0.aF,.rd false (aD (aB .i64)) cA x1.aG,.rd false (aD (aB .i64)) cR x1.To,.rd false (aD (aB .i64)) bH x1.aJ,.rd false (aD (aD (aB .i64))) bB x1.aF,.rd false (aD (aB .i64)) dS x2,.own (aK 29 tj) gU x3] (fun y (v:Value)=>[v]) (fun y v=>[.own (aK 29 tj) v y]):=by
 refine ct (S:=Unit) (ca fun _ _=>rfl) Tryz.func118 rfl rfl ?_
 repeat' first
  | ((first | show Dk.ER _ _ _ | show Dk.bb _ _ | show Dk.EF _ _ _ | show Dk.EO _ _ _ | show Dk.EP _ _ | show Dk.ba _ _ _ _ | show Dk.aw _ _ _ _ | show Dk.Kp _ _ _ _ | show Dk.bp _ _ | show Dk.bc _ _ _ _); repeat' first | exact rfl | (refine @id.{0} _ ?_; constructor))
  | intro _
  | exact rfl
  | apply Dk.Rx (t:=59)
  | apply ih
  | apply Dk.Ub (t:=59) (S:=tj) (aN.mk (aI.mk _ _ _ _ _) (aI.mk _ _ _ _ _) _ _)
  | (refine @id.{0} _ ?_; constructor)
  | apply Dk.loop 0 (V:=Value) (fun (s:(List Int)×Int) v=>[.own (aK 2 (aB .i64)) v s.1]) (fun s v=>[(9,v),(10,.int .i64 (s.2))]) _ [(2,_),(3,_),(4,_),(5,_)]
  | apply Dk.j4 2 (V:=Unit) (A:=Value) _ (fun a (s:Int×(List Int)) v=>[.own (aK 2 (aB .i64)) a s.2]) (fun a s v=>[(9,a),(11,.int .i64 (s.1))]) () [(2,_),(3,_),(4,_),(5,_)]
  | apply Dk.loop 4 (V:=Value) (fun (s:(List aN)×Int) v=>[.own (aK 29 tj) v s.1]) (fun s v=>[(3,v),(13,.int .i64 (s.2))]) _ [(2,_),(4,_),(5,_),(12,_)]
  | apply Dk.loop 6 (V:=Value) (fun (s:(List aN)×Int) v=>[.own (aK 29 tj) v s.1]) (fun s v=>[(3,v),(14,.int .i64 (s.2))]) _ [(2,_),(4,_),(5,_)]
  | apply Dk.any (id:=12) 14 [] [] [[],[],[1],[],[2,1,3],[4,2,1,3],[],[6],[],[],[8,9],[10,8,9],[7,6,11,10,8,9],[12,7,6,11,10,8,9]] (by kernel_rfl)
  | apply Dk.any (id:=22) 8 [] [[],[],[],[],[],[],[3],[]] [[],[],[],[2],[],[4],[3,2,5,4,3,2],[]] (by kernel_rfl)
  | apply Dk.RB (id:=17) [(0,8)] 8 rfl (by kernel_rfl)
  | apply acH
  | apply acJ
  | apply R2
  | apply v7
  | exact ()
theorem W2 (n:Nat):∀ {x0:aI} {aV:Value} {bG:Value} {aO:Value} {aM:Value} {x1:aI} {cA:Value} {cR:Value} {bH:Value} {bB:Value} {x2:(List Int)} {dS:Value} {x3:(List aN)} {gU:Value},Ct Tryz.prog 118 true (iF n x0 x1 x2 x3) [.agg #[.int .i64 (x0.aE),aV,bG,aO,aM],.agg #[.int .i64 (x1.aE),cA,cR,bH,bB],dS,gU] [.rd false (aD (aB .i64)) aV x0.aG,.rd false (aD (aB .i64)) bG x0.To,.rd false (aD (aB .i64)) aO x0.aJ,.rd false (aD (aD (aB .i64))) aM x0.aF,.rd false (aD (aB .i64)) cA x1.aG,.rd false (aD (aB .i64)) cR x1.To,.rd false (aD (aB .i64)) bH x1.aJ,.rd false (aD (aD (aB .i64))) bB x1.aF,.rd false (aD (aB .i64)) dS x2,.own (aK 29 tj) gU x3] (fun y (v:Value)=>[v]) (fun y v=>[.own (aK 29 tj) v y]):=by
 induction n with
 | zero=>intros; rw [qa]; exact ⟨(ca fun _ _=>rfl),fun _ _ _ _ _ _ _ y hy=>nomatch (show none=some y from hy)⟩
 | succ n ih=>exact W1 ih
theorem adx {x0:aI} {aV:Value} {bG:Value} {aO:Value} {aM:Value} {x1:aI} {cA:Value} {cR:Value} {bH:Value} {bB:Value} {x2:(List Int)} {dS:Value} {x3:(List aN)} {gU:Value}:Ct Tryz.prog 118 true (iF 64 x0 x1 x2 x3) [.agg #[.int .i64 (x0.aE),aV,bG,aO,aM],.agg #[.int .i64 (x1.aE),cA,cR,bH,bB],dS,gU] [.rd false (aD (aB .i64)) aV x0.aG,.rd false (aD (aB .i64)) bG x0.To,.rd false (aD (aB .i64)) aO x0.aJ,.rd false (aD (aD (aB .i64))) aM x0.aF,.rd false (aD (aB .i64)) cA x1.aG,.rd false (aD (aB .i64)) cR x1.To,.rd false (aD (aB .i64)) bH x1.aJ,.rd false (aD (aD (aB .i64))) bB x1.aF,.rd false (aD (aB .i64)) dS x2,.own (aK 29 tj) gU x3] (fun y (v:Value)=>[v]) (fun y v=>[.own (aK 29 tj) v y]):=by
 exact W2 64
theorem W3 {x0:aI} {aV:Value} {bG:Value} {aO:Value} {aM:Value} {x1:aI} {cA:Value} {cR:Value} {bH:Value} {bB:Value}:Ct Tryz.prog 58 true (kF x0 x1) [.agg #[.int .i64 (x0.aE),aV,bG,aO,aM],.agg #[.int .i64 (x1.aE),cA,cR,bH,bB]] [.rd false (aD (aB .i64)) aV x0.aG,.rd false (aD (aB .i64)) bG x0.To,.rd false (aD (aB .i64)) aO x0.aJ,.rd false (aD (aD (aB .i64))) aM x0.aF,.rd false (aD (aB .i64)) cA x1.aG,.rd false (aD (aB .i64)) cR x1.To,.rd false (aD (aB .i64)) bH x1.aJ,.rd false (aD (aD (aB .i64))) bB x1.aF] (fun y (v:Value)=>[v]) (fun y v=>[.own (aK 29 tj) v y]):=by
 refine ct (S:=Unit) (ca fun _ _=>rfl) Tryz.func58 rfl rfl ?_
 repeat' first
  | ((first | show Dk.ER _ _ _ | show Dk.bb _ _ | show Dk.EF _ _ _ | show Dk.EO _ _ _ | show Dk.EP _ _ | show Dk.ba _ _ _ _ | show Dk.aw _ _ _ _ | show Dk.Kp _ _ _ _ | show Dk.bp _ _ | show Dk.bc _ _ _ _); repeat' first | exact rfl | (refine @id.{0} _ ?_; constructor))
  | intro _
  | exact rfl
  | apply Dk.lgO (t:=59) tj
  | (refine @id.{0} _ ?_; constructor)
  | apply adx
  | exact ()
theorem ady {x0:aI} {aV:Value} {bG:Value} {aO:Value} {aM:Value} {x1:aI} {cA:Value} {cR:Value} {bH:Value} {bB:Value} {x2:Int}:Ct Tryz.prog 192 true (jJ x0 x1 x2) [.agg #[.int .i64 (x0.aE),aV,bG,aO,aM],.agg #[.int .i64 (x1.aE),cA,cR,bH,bB],.int .i64 (x2)] [.rd false (aD (aB .i64)) aV x0.aG,.rd false (aD (aB .i64)) bG x0.To,.rd false (aD (aB .i64)) aO x0.aJ,.rd false (aD (aD (aB .i64))) aM x0.aF,.rd false (aD (aB .i64)) cA x1.aG,.rd false (aD (aB .i64)) cR x1.To,.rd false (aD (aB .i64)) bH x1.aJ,.rd false (aD (aD (aB .i64))) bB x1.aF] (fun y (v:Value×Value×Value×Value×Value×Value×Value×Value×Value×Value)=>[.agg #[.int .i64 y.aA.aE,v.1,v.2.1,v.2.2.1,v.2.2.2.1,.int .i64 y.aC.aE,v.2.2.2.2.1,v.2.2.2.2.2.1,v.2.2.2.2.2.2.1,v.2.2.2.2.2.2.2.1,v.2.2.2.2.2.2.2.2.1,v.2.2.2.2.2.2.2.2.2]]) (fun y v=>[.own (aK 2 (aB .i64)) v.1 y.aA.aG,.own (aK 2 (aB .i64)) v.2.1 y.aA.To,.own (aK 2 (aB .i64)) v.2.2.1 y.aA.aJ,.own (aK 24 (aK 2 (aB .i64))) v.2.2.2.1 y.aA.aF,.own (aK 2 (aB .i64)) v.2.2.2.2.1 y.aC.aG,.own (aK 2 (aB .i64)) v.2.2.2.2.2.1 y.aC.To,.own (aK 2 (aB .i64)) v.2.2.2.2.2.2.1 y.aC.aJ,.own (aK 24 (aK 2 (aB .i64))) v.2.2.2.2.2.2.2.1 y.aC.aF,.own (aK 2 (aB .i64)) v.2.2.2.2.2.2.2.2.1 y.aE,.own (aK 2 (aB .i64)) v.2.2.2.2.2.2.2.2.2 y.ae]):=by
 refine ct (S:=Unit) (ca fun _ _=>rfl) Tryz.func192 rfl rfl ?_
 repeat' first
  | ((first | show Dk.ER _ _ _ | show Dk.bb _ _ | show Dk.EF _ _ _ | show Dk.EO _ _ _ | show Dk.EP _ _ | show Dk.ba _ _ _ _ | show Dk.aw _ _ _ _ | show Dk.Kp _ _ _ _ | show Dk.bp _ _ | show Dk.bc _ _ _ _); repeat' first | exact rfl | (refine @id.{0} _ ?_; constructor))
  | intro _
  | exact rfl
  | (refine @id.{0} _ ?_; constructor)
  | apply Dk.loop 0 (V:=Value) (fun (s:(List Int)×Int) v=>[.own (aK 2 (aB .i64)) v s.1]) (fun s v=>[(7,v),(9,.int .i64 (s.2))]) _ [(2,_),(3,_),(4,_),(6,_),(8,_)]
  | apply Dk.loop 2 (V:=Value) (fun (s:(List Int)×Int) v=>[.own (aK 2 (aB .i64)) v s.1]) (fun s v=>[(8,v),(10,.int .i64 (s.2))]) _ [(2,_),(3,_),(4,_),(6,_),(7,_)]
  | apply R2
  | exact ()
theorem adz {x0:aI} {aV:Value} {bG:Value} {aO:Value} {aM:Value}:Ct Tryz.prog 193 true (jK x0) [.agg #[.int .i64 (x0.aE),aV,bG,aO,aM]] [.rd false (aD (aB .i64)) aV x0.aG,.rd false (aD (aB .i64)) bG x0.To,.rd false (aD (aB .i64)) aO x0.aJ,.rd false (aD (aD (aB .i64))) aM x0.aF] (fun y (v:Value×Value×Value×Value×Value×Value×Value×Value×Value×Value)=>[.agg #[.int .i64 y.aA.aE,v.1,v.2.1,v.2.2.1,v.2.2.2.1,.int .i64 y.aC.aE,v.2.2.2.2.1,v.2.2.2.2.2.1,v.2.2.2.2.2.2.1,v.2.2.2.2.2.2.2.1,v.2.2.2.2.2.2.2.2.1,v.2.2.2.2.2.2.2.2.2]]) (fun y v=>[.own (aK 2 (aB .i64)) v.1 y.aA.aG,.own (aK 2 (aB .i64)) v.2.1 y.aA.To,.own (aK 2 (aB .i64)) v.2.2.1 y.aA.aJ,.own (aK 24 (aK 2 (aB .i64))) v.2.2.2.1 y.aA.aF,.own (aK 2 (aB .i64)) v.2.2.2.2.1 y.aC.aG,.own (aK 2 (aB .i64)) v.2.2.2.2.2.1 y.aC.To,.own (aK 2 (aB .i64)) v.2.2.2.2.2.2.1 y.aC.aJ,.own (aK 24 (aK 2 (aB .i64))) v.2.2.2.2.2.2.2.1 y.aC.aF,.own (aK 2 (aB .i64)) v.2.2.2.2.2.2.2.2.1 y.aE,.own (aK 2 (aB .i64)) v.2.2.2.2.2.2.2.2.2 y.ae]):=by
 refine ct (S:=Unit) (ca fun _ _=>rfl) Tryz.func193 rfl rfl ?_
 repeat' first
  | ((first | show Dk.ER _ _ _ | show Dk.bb _ _ | show Dk.EF _ _ _ | show Dk.EO _ _ _ | show Dk.EP _ _ | show Dk.ba _ _ _ _ | show Dk.aw _ _ _ _ | show Dk.Kp _ _ _ _ | show Dk.bp _ _ | show Dk.bc _ _ _ _); repeat' first | exact rfl | (refine @id.{0} _ ?_; constructor))
  | intro _
  | exact rfl
  | (refine @id.{0} _ ?_; constructor)
  | apply Dk.loop 0 (V:=Value) (fun (s:(List Int)×Int) v=>[.own (aK 2 (aB .i64)) v s.1]) (fun s v=>[(3,v),(5,.int .i64 (s.2))]) _ [(1,_),(2,_),(4,_)]
  | apply Dk.loop 2 (V:=Value) (fun (s:(List Int)×Int) v=>[.own (aK 2 (aB .i64)) v s.1]) (fun s v=>[(4,v),(6,.int .i64 (s.2))]) _ [(1,_),(2,_),(3,_)]
  | apply R2
  | exact ()
theorem adA {x0:aL} {dV:Nat} {cW:Value} {x1:aI} {cA:Value} {cR:Value} {bH:Value} {bB:Value} {x2:Int} {x3:Int}:Ct Tryz.prog 161 true (oE x0 x1 x2 x3) [.pointer (some (⟨dV,0,none⟩)),.agg #[.int .i64 (x1.aE),cA,cR,bH,bB],.int .i64 (x2),.int .i64 (x3)] [.row dV [cW,.int .i64 (x0.At),.int .u64 (x0.av)] 142,.rd false (aD (aB .u8)) cW x0.Code,.rd false (aD (aB .i64)) cA x1.aG,.rd false (aD (aB .i64)) cR x1.To,.rd false (aD (aB .i64)) bH x1.aJ,.rd false (aD (aD (aB .i64))) bB x1.aF] (fun y (v:Value×Value×Value×Value×Value×Value×Value×Value×Value×Value)=>[.agg #[.int .i64 y.1.aA.aE,v.1,v.2.1,v.2.2.1,v.2.2.2.1,.int .i64 y.1.aC.aE,v.2.2.2.2.1,v.2.2.2.2.2.1,v.2.2.2.2.2.2.1,v.2.2.2.2.2.2.2.1,v.2.2.2.2.2.2.2.2.1,v.2.2.2.2.2.2.2.2.2]]) (fun y v=>[.own (aK 2 (aB .i64)) v.1 y.1.aA.aG,.own (aK 2 (aB .i64)) v.2.1 y.1.aA.To,.own (aK 2 (aB .i64)) v.2.2.1 y.1.aA.aJ,.own (aK 24 (aK 2 (aB .i64))) v.2.2.2.1 y.1.aA.aF,.own (aK 2 (aB .i64)) v.2.2.2.2.1 y.1.aC.aG,.own (aK 2 (aB .i64)) v.2.2.2.2.2.1 y.1.aC.To,.own (aK 2 (aB .i64)) v.2.2.2.2.2.2.1 y.1.aC.aJ,.own (aK 24 (aK 2 (aB .i64))) v.2.2.2.2.2.2.2.1 y.1.aC.aF,.own (aK 2 (aB .i64)) v.2.2.2.2.2.2.2.2.1 y.1.aE,.own (aK 2 (aB .i64)) v.2.2.2.2.2.2.2.2.2 y.1.ae,.row dV [cW,.int .i64 y.2.At,.int .u64 y.2.av] 142]):=by
 refine ct (S:=Unit) (ca fun _ _=>rfl) Tryz.func161 rfl rfl ?_
 repeat' first
  | ((first | show Dk.ER _ _ _ | show Dk.bb _ _ | show Dk.EF _ _ _ | show Dk.EO _ _ _ | show Dk.EP _ _ | show Dk.ba _ _ _ _ | show Dk.aw _ _ _ _ | show Dk.Kp _ _ _ _ | show Dk.bp _ _ | show Dk.bc _ _ _ _); repeat' first | exact rfl | (refine @id.{0} _ ?_; constructor))
  | intro _
  | exact rfl
  | apply Dk.Rx (t:=59)
  | apply Dk.UT (t:=59)
  | apply Dk.Ru (n:=12)
  | apply Dk.MP (n:=12)
  | apply Dk.KD (n:=12)
  | (apply Dk.MR (t:=38); exact rfl)
  | (refine @id.{0} _ ?_; constructor)
  | apply Dk.um (id:=7) [Dk.ay.row _ _ 142] 6 [] [[],[],[],[],[],[8]] [[],[],[],[],[3],[2,4,3]] (by kernel_rfl)
  | apply W0
  | apply WV
  | apply W3
  | apply AM
  | apply ady
  | apply adz
  | exact ()
end Go.Proofs.YtkcpiblgpnjanaaGreat
