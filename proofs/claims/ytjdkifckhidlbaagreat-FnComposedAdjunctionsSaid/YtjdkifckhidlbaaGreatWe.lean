/- Walks by the calculus D. No condition beside those that each theorem names. -/
import Derived.Test.YtjdkifckhidlbaaGreatDp
import Derived.Test.YtjdkifckhidlbaaGreatDi
import Derived.Test.YtjdkifckhidlbaaGreatMo
import Derived.Test.YtjdkifckhidlbaaGreatDs
import Derived.Test.YtjdkifckhidlbaaGreatWa
import Derived.Test.YtjdkifckhidlbaaGreatWb
import Derived.Test.YtjdkifckhidlbaaGreatWc
namespace Go.Proofs.YtjdkifckhidlbaaGreat
open Go Go.Li Go.Dk
set_option linter.unusedVariables false
set_option maxHeartbeats 16000000
set_option maxRecDepth 100000
theorem RF {x0:aI} {bF bV aP aN:Value}:Ct Tryz.prog 182 true (lA x0) [.agg #[.int .i64 (x0.aA),bF,bV,aP,aN]] [rI bF x0.aH,rI bV x0.To,rI aP x0.aJ,rJ aN x0.aE] (fun y (v:Value×Value×Value×Value)=>[.agg #[.int .i64 y.aA,v.1,v.2.1,v.2.2.1,v.2.2.2]]) (fun y v=>[.own (aK 2 (aM .i64)) v.1 y.aH,.own (aK 2 (aM .i64)) v.2.1 y.To,.own (aK 2 (aM .i64)) v.2.2.1 y.aJ,.own (aK 24 (aK 2 (aM .i64))) v.2.2.2 y.aE]):=by
 refine ct (S:=Unit) (cf fun _ _=>rfl) Tryz.func182 rfl rfl ?_
 repeat' first
  | (apply Dk.fe; repeat' first | exact rfl | (refine @id.{0} _ ?_; constructor))
  | intro _
  | exact rfl
  | (refine @id.{0} _ ?_; constructor)
  | apply Dk.any (id:=1) 14 [] [] [[],[0],[],[2],[2,3],[],[5],[2,3,4,5,6],[],[8],[2,3,4,5,6,7,8,9],[],[11],[2,3,4,5,6,7,8,9,10,11,12]] (by kernel_rfl)
  | apply zJ
  | apply Yc
  | exact ()
theorem c99 {x0:aI} {bF bV aP aN:Value} {x1:aI} {cF cR bR bI:Value}:Ct Tryz.prog 99 true (jT x0 x1) [.agg #[.int .i64 (x0.aA),bF,bV,aP,aN],.agg #[.int .i64 (x1.aA),cF,cR,bR,bI]] [rI bF x0.aH,rI bV x0.To,rI aP x0.aJ,rJ aN x0.aE,rI cF x1.aH,rI cR x1.To,rI bR x1.aJ,rJ bI x1.aE] (fun y (v:Value×Value×Value×Value)=>[.agg #[.int .i64 y.aA,v.1,v.2.1,v.2.2.1,v.2.2.2]]) (fun y v=>[.own (aK 2 (aM .i64)) v.1 y.aH,.own (aK 2 (aM .i64)) v.2.1 y.To,.own (aK 2 (aM .i64)) v.2.2.1 y.aJ,.own (aK 24 (aK 2 (aM .i64))) v.2.2.2 y.aE]):=by
 refine ct (S:=Unit) (cf fun _ _=>rfl) Tryz.func99 rfl rfl ?_
 repeat' first
  | (apply Dk.fe; repeat' first | exact rfl | (refine @id.{0} _ ?_; constructor))
  | intro _
  | exact rfl
  | apply Dk.Sb (d:=69)
  | apply Dk.ixH (d:=70)
  | apply Dk.stR (e:=24) (t:=24)
  | (refine @id.{0} _ ?_; constructor)
  | apply Dk.j5 0 (V:=Value) (A:=Nat×Value×Value×Value) (_,_,_,_) (fun a (s:Int×(List Int)) v=>Dk.pc (fun a0=>Dk.pc (fun a1=>Dk.pc (fun a2 a3=>[.row a0 [.int .i64 (ao (x0.aA+x1.aA)),a1,a2,v,a3] 27,.own (aK 2 (aM .i64)) v s.2]))) a) (fun a s v=>Dk.pc (fun a0=>Dk.pc (fun a1=>Dk.pc (fun a2 a3=>[(7,.pointer (some ⟨a0,0,none⟩)),(8,.int .i64 (s.1))]))) a) _ [(3,_),(4,_),(5,_),(6,_)]
  | apply Dk.j5 2 (V:=Unit) (A:=Value) _ (fun a (s:Int×(List (List Int))) v=>[.own (aK 24 (aK 2 (aM .i64))) a s.2]) (fun a s v=>[(9,.int .i64 (s.1))]) () [(3,_),(4,_),(5,_),(6,_),(7,_)]
  | apply Dk.j5 4 (V:=Unit) (A:=Value) _ (fun a (s:Int×(List (List Int))) v=>[.own (aK 24 (aK 2 (aM .i64))) a s.2]) (fun a s v=>[(10,.int .i64 (s.1))]) () [(3,_),(4,_),(5,_),(6,_),(7,_),(9,_)]
  | apply Dk.j5 6 (V:=Value×Value×Value) (A:=Nat×Value) (_,_) (fun a (s:Int×(List Int)×(List Int)×(List (List Int))) v=>Dk.pc (fun a0 a1=>[.row a0 [.int .i64 (ao (x0.aA+x1.aA)),v.1,v.2.1,a1,v.2.2] 27,.own (aK 2 (aM .i64)) v.1 s.2.1,.own (aK 2 (aM .i64)) v.2.1 s.2.2.1,.own (aK 24 (aK 2 (aM .i64))) v.2.2 s.2.2.2]) a) (fun a s v=>Dk.pc (fun a0 a1=>[(7,.pointer (some ⟨a0,0,none⟩)),(11,.int .i64 (s.1))]) a) (_,_,_) [(3,_),(4,_),(5,_),(6,_)]
  | apply Dk.loop 8 (V:=Value) (fun (s:(List Int)×Int) v=>[.own (aK 2 (aM .i64)) v s.1]) (fun s v=>[(12,v),(13,.int .i64 (s.2))]) _ [(3,_),(4,_),(5,_),(6,_),(7,_),(11,_)]
  | apply Dk.loop 10 (V:=Value) (fun (s:(List Int)×Int) v=>[.own (aK 2 (aM .i64)) v s.1]) (fun s v=>[(12,v),(14,.int .i64 (s.2))]) _ [(3,_),(4,_),(5,_),(6,_),(7,_),(11,_)]
  | apply Dk.quiet (id:=1) (by kernel_rfl)
  | apply Dk.any (id:=7) 10 [] [] [[],[0],[],[2],[],[2,3,4],[2,3,4,5],[],[2,3,4,5,6,7],[2,3,4,5,6,7,8]] (by kernel_rfl)
  | apply Dk.xf (id:=14) [Dk.aX.own (aK 24 (aK 2 (aM .i64))) _ _] 10 [] [[],[],[],[],[],[],[],[],[],[12]] [[],[0],[],[],[3],[],[3,4,5],[3,4,5,6],[],[3,4,5,6,7,8]] (by kernel_rfl)
  | apply Dk.any (id:=18) 10 [] [] [[],[0],[],[2],[],[2,3,4],[2,3,4,5],[],[2,3,4,5,6,7],[2,3,4,5,6,7,8]] (by kernel_rfl)
  | apply Dk.any (id:=19) 10 [] [] [[],[0],[],[2],[],[2,3,4],[2,3,4,5],[],[2,3,4,5,6,7],[2,3,4,5,6,7,8]] (by kernel_rfl)
  | apply RF
  | exact ()
theorem afw {x0:aI} {bF bV aP aN:Value} {x1:aI} {cF cR bR bI:Value}:Ct Tryz.prog 272 true (jB x0 x1) [.agg #[.int .i64 (x0.aA),bF,bV,aP,aN],.agg #[.int .i64 (x1.aA),cF,cR,bR,bI]] [rI bF x0.aH,rI bV x0.To,rI aP x0.aJ,rJ aN x0.aE,rI cF x1.aH,rI cR x1.To,rI bR x1.aJ,rJ bI x1.aE] (fun y (v:Value×Value×Value×Value)=>match v with | (q0,q1,q2,q3)=>[.agg #[.int .i64 y.aA,q0,q1,q2,q3]]) (fun y v=>match v with | (q0,q1,q2,q3)=>[.own (aK 2 (aM .i64)) q0 y.aH,.own (aK 2 (aM .i64)) q1 y.To,.own (aK 2 (aM .i64)) q2 y.aJ,.own (aK 24 (aK 2 (aM .i64))) q3 y.aE]):=by
 refine ct (S:=Unit) (cf fun _ _=>rfl) Tryz.func272 rfl rfl ?_
 repeat' first
  | (apply Dk.fe; repeat' first | exact rfl | (refine @id.{0} _ ?_; constructor))
  | intro _
  | exact rfl
  | (refine Dk.va (t:=60) rfl ?_ ?_)
  | (refine @id.{0} _ ?_; constructor)
  | apply Dk.j5 0 (V:=Value×Value) (A:=Nat×Value×Value×Value) (_,_,_,_) (fun a (s:Int×(List Int)×(List Int)) v=>Dk.pc (fun a0=>Dk.pc (fun a1=>Dk.pc (fun a2 a3=>[.row a0 [a1,v.1,v.2,a2,a3] 27,.own (aK 2 (aM .i64)) v.1 s.2.1,.own (aK 2 (aM .i64)) v.2 s.2.2]))) a) (fun a s v=>Dk.pc (fun a0=>Dk.pc (fun a1=>Dk.pc (fun a2 a3=>[(5,.pointer (some ⟨a0,0,none⟩)),(7,.int .i64 (s.1))]))) a) (_,_) [(2,_),(3,_),(4,_),(6,_)]
  | apply Dk.j5 2 (V:=Value×Value) (A:=Nat×Value×Value×Value) (_,_,_,_) (fun a (s:Int×(List Int)×(List Int)) v=>Dk.pc (fun a0=>Dk.pc (fun a1=>Dk.pc (fun a2 a3=>[.row a0 [a1,v.1,v.2,a2,a3] 27,.own (aK 2 (aM .i64)) v.1 s.2.1,.own (aK 2 (aM .i64)) v.2 s.2.2]))) a) (fun a s v=>Dk.pc (fun a0=>Dk.pc (fun a1=>Dk.pc (fun a2 a3=>[(5,.pointer (some ⟨a0,0,none⟩)),(8,.int .i64 (s.1))]))) a) (_,_) [(2,_),(3,_),(4,_),(6,_),(7,_)]
  | apply Dk.loop 4 (V:=Value) (fun (s:(List (List Int))×Int) v=>[.own (aK 24 (aK 2 (aM .i64))) v s.1]) (fun s v=>[(9,v),(10,.int .i64 (s.2))]) _ [(2,_),(3,_),(4,_),(5,_),(6,_)]
  | apply Dk.loop 6 (V:=Value) (fun (s:(List Int)×Int) v=>[.own (aK 2 (aM .i64)) v s.1]) (fun s v=>[(11,v),(12,.int .i64 (s.2))]) _ [(2,_),(3,_),(4,_),(5,_),(6,_),(9,_),(10,_)]
  | apply Dk.quiet (id:=20) (by kernel_rfl)
  | apply Dk.quiet (id:=21) (by kernel_rfl)
  | apply c99
  | exact ()
theorem GR {x0:aI} {bF bV aP aN:Value} {x1:aI} {cF cR bR bI:Value} {x2:(List Int)} {eB:Value} {x3:(List Int)} {gS:Value}:Ct Tryz.prog 87 true (fY x0 x1 x2 x3) [.agg #[.int .i64 (x0.aA),bF,bV,aP,aN],.agg #[.int .i64 (x1.aA),cF,cR,bR,bI],eB,gS] [rI bF x0.aH,rI bV x0.To,rI aP x0.aJ,rJ aN x0.aE,rI cF x1.aH,rI cR x1.To,rI bR x1.aJ,rJ bI x1.aE,rI eB x2,rI gS x3] (fun y (v:Value×Value×Value×Value×Value×Value×Value×Value×Value×Value)=>[.agg #[.int .i64 y.aB.aA,v.1,v.2.1,v.2.2.1,v.2.2.2.1,.int .i64 y.aF.aA,v.2.2.2.2.1,v.2.2.2.2.2.1,v.2.2.2.2.2.2.1,v.2.2.2.2.2.2.2.1,v.2.2.2.2.2.2.2.2.1,v.2.2.2.2.2.2.2.2.2]]) (fun y v=>[.own (aK 2 (aM .i64)) v.1 y.aB.aH,.own (aK 2 (aM .i64)) v.2.1 y.aB.To,.own (aK 2 (aM .i64)) v.2.2.1 y.aB.aJ,.own (aK 24 (aK 2 (aM .i64))) v.2.2.2.1 y.aB.aE,.own (aK 2 (aM .i64)) v.2.2.2.2.1 y.aF.aH,.own (aK 2 (aM .i64)) v.2.2.2.2.2.1 y.aF.To,.own (aK 2 (aM .i64)) v.2.2.2.2.2.2.1 y.aF.aJ,.own (aK 24 (aK 2 (aM .i64))) v.2.2.2.2.2.2.2.1 y.aF.aE,.own (aK 2 (aM .i64)) v.2.2.2.2.2.2.2.2.1 y.aA,.own (aK 2 (aM .i64)) v.2.2.2.2.2.2.2.2.2 y.ae]):=by
 refine ct (S:=Unit) (cf fun _ _=>rfl) Tryz.func87 rfl rfl ?_
 repeat' first
  | (apply Dk.fe; repeat' first | exact rfl | (refine @id.{0} _ ?_; constructor))
  | intro _
  | exact rfl
  | (refine @id.{0} _ ?_; constructor)
  | apply Dk.any (id:=1) 7 [] [] [[],[0],[],[0,1,2],[],[0,1,2,3,4],[]] (by kernel_rfl)
  | apply RF
  | apply zJ
  | exact ()
theorem Ym {rc:aI→aI→(List Int)→(List aO)→Option ((List aO))} (ih:∀ {x0:aI} {bF bV aP aN:Value} {x1:aI} {cF cR bR bI:Value} {x2:(List Int)} {eB:Value} {x3:(List aO)} {gS:Value},Ct Tryz.prog 189 true (rc x0 x1 x2 x3) [.agg #[.int .i64 (x0.aA),bF,bV,aP,aN],.agg #[.int .i64 (x1.aA),cF,cR,bR,bI],eB,gS] [rI bF x0.aH,rI bV x0.To,rI aP x0.aJ,rJ aN x0.aE,rI cF x1.aH,rI cR x1.To,rI bR x1.aJ,rJ bI x1.aE,rI eB x2,.own (aK 29 uP) gS x3] (fun y (v:Value)=>[v]) (fun y v=>[.own (aK 29 uP) v y])) {x0:aI} {bF bV aP aN:Value} {x1:aI} {cF cR bR bI:Value} {x2:(List Int)} {eB:Value} {x3:(List aO)} {gS:Value}:Ct Tryz.prog 189 true (lR rc x0 x1 x2 x3) [.agg #[.int .i64 (x0.aA),bF,bV,aP,aN],.agg #[.int .i64 (x1.aA),cF,cR,bR,bI],eB,gS] [rI bF x0.aH,rI bV x0.To,rI aP x0.aJ,rJ aN x0.aE,rI cF x1.aH,rI cR x1.To,rI bR x1.aJ,rJ bI x1.aE,rI eB x2,.own (aK 29 uP) gS x3] (fun y (v:Value)=>[v]) (fun y v=>[.own (aK 29 uP) v y]):=by
 refine ct (S:=Unit) (cf fun _ _=>rfl) Tryz.func189 rfl rfl ?_
 repeat' first
  | (apply Dk.fe; repeat' first | exact rfl | (refine @id.{0} _ ?_; constructor))
  | intro _
  | exact rfl
  | apply Dk.lnO (t:=81)
  | apply ih
  | apply Dk.Vk (t:=81) (S:=uP) (aO.mk (aI.mk _ _ _ _ _) (aI.mk _ _ _ _ _) _ _)
  | (refine @id.{0} _ ?_; constructor)
  | apply Dk.loop 0 (V:=Value) (fun (s:(List Int)×Int) v=>[.own (aK 2 (aM .i64)) v s.1]) (fun s v=>[(9,v),(10,.int .i64 (s.2))]) _ [(2,_),(3,_),(4,_),(5,_)]
  | apply Dk.j5 2 (V:=Unit) (A:=Value) _ (fun a (s:Int×(List Int)) v=>[.own (aK 2 (aM .i64)) a s.2]) (fun a s v=>[(9,a),(11,.int .i64 (s.1))]) () [(2,_),(3,_),(4,_),(5,_)]
  | apply Dk.loop 4 (V:=Value) (fun (s:(List aO)×Int) v=>[.own (aK 29 uP) v s.1]) (fun s v=>[(3,v),(13,.int .i64 (s.2))]) _ [(2,_),(4,_),(5,_),(12,_)]
  | apply Dk.loop 6 (V:=Value) (fun (s:(List aO)×Int) v=>[.own (aK 29 uP) v s.1]) (fun s v=>[(3,v),(14,.int .i64 (s.2))]) _ [(2,_),(4,_),(5,_)]
  | apply Dk.any (id:=12) 14 [] [] [[],[],[1],[],[1,2,3],[1,2,3,4],[],[6],[],[],[8,9],[8,9,10],[6,7,8,9,10,11],[6,7,8,9,10,11,12]] (by kernel_rfl)
  | apply Dk.any (id:=22) 8 [] [[],[],[],[],[],[],[3],[]] [[],[],[],[2],[],[4],[2,3,4,5],[]] (by kernel_rfl)
  | apply Dk.Zd (id:=17) [(0,8)] 8 rfl (by kernel_rfl)
  | apply ae2
  | apply ae4
  | apply GR
  | apply zJ
  | exact ()
theorem Yn (n:Nat):∀ {x0:aI} {bF bV aP aN:Value} {x1:aI} {cF cR bR bI:Value} {x2:(List Int)} {eB:Value} {x3:(List aO)} {gS:Value},Ct Tryz.prog 189 true (iW n x0 x1 x2 x3) [.agg #[.int .i64 (x0.aA),bF,bV,aP,aN],.agg #[.int .i64 (x1.aA),cF,cR,bR,bI],eB,gS] [rI bF x0.aH,rI bV x0.To,rI aP x0.aJ,rJ aN x0.aE,rI cF x1.aH,rI cR x1.To,rI bR x1.aJ,rJ bI x1.aE,rI eB x2,.own (aK 29 uP) gS x3] (fun y (v:Value)=>[v]) (fun y v=>[.own (aK 29 uP) v y]):=by
 induction n with
 | zero=>intros; rw [s7]; exact ⟨(cf fun _ _=>rfl),fun _ _ _ _ _ _ _ y hy=>nomatch (show none=some y from hy)⟩
 | succ n ih=>exact Ym ih
theorem afx {x0:aI} {bF bV aP aN:Value} {x1:aI} {cF cR bR bI:Value} {x2:(List Int)} {eB:Value} {x3:(List aO)} {gS:Value}:Ct Tryz.prog 189 true (iW 64 x0 x1 x2 x3) [.agg #[.int .i64 (x0.aA),bF,bV,aP,aN],.agg #[.int .i64 (x1.aA),cF,cR,bR,bI],eB,gS] [rI bF x0.aH,rI bV x0.To,rI aP x0.aJ,rJ aN x0.aE,rI cF x1.aH,rI cR x1.To,rI bR x1.aJ,rJ bI x1.aE,rI eB x2,.own (aK 29 uP) gS x3] (fun y (v:Value)=>[v]) (fun y v=>[.own (aK 29 uP) v y]):=by
 exact Yn 64
theorem afy {x0:aI} {bF bV aP aN:Value} {x1:aI} {cF cR bR bI:Value} {x2:Int}:Ct Tryz.prog 172 true (kF x0 x1 x2) [.agg #[.int .i64 (x0.aA),bF,bV,aP,aN],.agg #[.int .i64 (x1.aA),cF,cR,bR,bI],.int .i64 (x2)] [rI bF x0.aH,rI bV x0.To,rI aP x0.aJ,rJ aN x0.aE,rI cF x1.aH,rI cR x1.To,rI bR x1.aJ,rJ bI x1.aE] (fun y (v:Value×Value×Value×Value×Value×Value×Value×Value×Value×Value)=>[.agg #[.int .i64 y.aB.aA,v.1,v.2.1,v.2.2.1,v.2.2.2.1,.int .i64 y.aF.aA,v.2.2.2.2.1,v.2.2.2.2.2.1,v.2.2.2.2.2.2.1,v.2.2.2.2.2.2.2.1,v.2.2.2.2.2.2.2.2.1,v.2.2.2.2.2.2.2.2.2]]) (fun y v=>[.own (aK 2 (aM .i64)) v.1 y.aB.aH,.own (aK 2 (aM .i64)) v.2.1 y.aB.To,.own (aK 2 (aM .i64)) v.2.2.1 y.aB.aJ,.own (aK 24 (aK 2 (aM .i64))) v.2.2.2.1 y.aB.aE,.own (aK 2 (aM .i64)) v.2.2.2.2.1 y.aF.aH,.own (aK 2 (aM .i64)) v.2.2.2.2.2.1 y.aF.To,.own (aK 2 (aM .i64)) v.2.2.2.2.2.2.1 y.aF.aJ,.own (aK 24 (aK 2 (aM .i64))) v.2.2.2.2.2.2.2.1 y.aF.aE,.own (aK 2 (aM .i64)) v.2.2.2.2.2.2.2.2.1 y.aA,.own (aK 2 (aM .i64)) v.2.2.2.2.2.2.2.2.2 y.ae]):=by
 refine ct (S:=Unit) (cf fun _ _=>rfl) Tryz.func172 rfl rfl ?_
 repeat' first
  | (apply Dk.fe; repeat' first | exact rfl | (refine @id.{0} _ ?_; constructor))
  | intro _
  | exact rfl
  | (refine @id.{0} _ ?_; constructor)
  | apply Dk.loop 0 (V:=Value) (fun (s:(List Int)×Int) v=>[.own (aK 2 (aM .i64)) v s.1]) (fun s v=>[(7,v),(9,.int .i64 (s.2))]) _ [(2,_),(3,_),(4,_),(6,_),(8,_)]
  | apply Dk.loop 2 (V:=Value) (fun (s:(List Int)×Int) v=>[.own (aK 2 (aM .i64)) v s.1]) (fun s v=>[(8,v),(10,.int .i64 (s.2))]) _ [(2,_),(3,_),(4,_),(6,_),(7,_)]
  | apply GR
  | exact ()
theorem Ti {x0:aI} {bF bV aP aN:Value}:Ct Tryz.prog 97 true (eK x0) [.agg #[.int .i64 (x0.aA),bF,bV,aP,aN]] [rI bF x0.aH,rI bV x0.To,rI aP x0.aJ,rJ aN x0.aE] (fun y (v:Value×Value×Value×Value×Value×Value×Value×Value×Value×Value)=>[.agg #[.int .i64 y.aB.aA,v.1,v.2.1,v.2.2.1,v.2.2.2.1,.int .i64 y.aF.aA,v.2.2.2.2.1,v.2.2.2.2.2.1,v.2.2.2.2.2.2.1,v.2.2.2.2.2.2.2.1,v.2.2.2.2.2.2.2.2.1,v.2.2.2.2.2.2.2.2.2]]) (fun y v=>[.own (aK 2 (aM .i64)) v.1 y.aB.aH,.own (aK 2 (aM .i64)) v.2.1 y.aB.To,.own (aK 2 (aM .i64)) v.2.2.1 y.aB.aJ,.own (aK 24 (aK 2 (aM .i64))) v.2.2.2.1 y.aB.aE,.own (aK 2 (aM .i64)) v.2.2.2.2.1 y.aF.aH,.own (aK 2 (aM .i64)) v.2.2.2.2.2.1 y.aF.To,.own (aK 2 (aM .i64)) v.2.2.2.2.2.2.1 y.aF.aJ,.own (aK 24 (aK 2 (aM .i64))) v.2.2.2.2.2.2.2.1 y.aF.aE,.own (aK 2 (aM .i64)) v.2.2.2.2.2.2.2.2.1 y.aA,.own (aK 2 (aM .i64)) v.2.2.2.2.2.2.2.2.2 y.ae]):=by
 refine ct (S:=Unit) (cf fun _ _=>rfl) Tryz.func97 rfl rfl ?_
 repeat' first
  | (apply Dk.fe; repeat' first | exact rfl | (refine @id.{0} _ ?_; constructor))
  | intro _
  | exact rfl
  | (refine @id.{0} _ ?_; constructor)
  | apply Dk.loop 0 (V:=Value) (fun (s:(List Int)×Int) v=>[.own (aK 2 (aM .i64)) v s.1]) (fun s v=>[(3,v),(5,.int .i64 (s.2))]) _ [(1,_),(2,_),(4,_)]
  | apply Dk.loop 2 (V:=Value) (fun (s:(List Int)×Int) v=>[.own (aK 2 (aM .i64)) v s.1]) (fun s v=>[(4,v),(6,.int .i64 (s.2))]) _ [(1,_),(2,_),(3,_)]
  | apply GR
  | exact ()
theorem afz {x0:aO} {bT cB bD bB bU cC bE bC cD cG:Value}:Ct Tryz.prog 217 true (qJ x0) [.agg #[.int .i64 (x0.aB.aA),bT,cB,bD,bB,.int .i64 (x0.aF.aA),bU,cC,bE,bC,cD,cG]] [rI bT x0.aB.aH,rI cB x0.aB.To,rI bD x0.aB.aJ,rJ bB x0.aB.aE,rI bU x0.aF.aH,rI cC x0.aF.To,rI bE x0.aF.aJ,rJ bC x0.aF.aE,rI cD x0.aA,rI cG x0.ae] (fun y (v:Value×Value×Value×Value×Value×Value×Value×Value×Value×Value)=>[.agg #[.int .i64 y.aB.aA,v.1,v.2.1,v.2.2.1,v.2.2.2.1,.int .i64 y.aF.aA,v.2.2.2.2.1,v.2.2.2.2.2.1,v.2.2.2.2.2.2.1,v.2.2.2.2.2.2.2.1,v.2.2.2.2.2.2.2.2.1,v.2.2.2.2.2.2.2.2.2]]) (fun y v=>[.own (aK 2 (aM .i64)) v.1 y.aB.aH,.own (aK 2 (aM .i64)) v.2.1 y.aB.To,.own (aK 2 (aM .i64)) v.2.2.1 y.aB.aJ,.own (aK 24 (aK 2 (aM .i64))) v.2.2.2.1 y.aB.aE,.own (aK 2 (aM .i64)) v.2.2.2.2.1 y.aF.aH,.own (aK 2 (aM .i64)) v.2.2.2.2.2.1 y.aF.To,.own (aK 2 (aM .i64)) v.2.2.2.2.2.2.1 y.aF.aJ,.own (aK 24 (aK 2 (aM .i64))) v.2.2.2.2.2.2.2.1 y.aF.aE,.own (aK 2 (aM .i64)) v.2.2.2.2.2.2.2.2.1 y.aA,.own (aK 2 (aM .i64)) v.2.2.2.2.2.2.2.2.2 y.ae]):=by
 refine ct (S:=Unit) (cf fun _ _=>rfl) Tryz.func217 rfl rfl ?_
 repeat' first
  | (apply Dk.fe; repeat' first | exact rfl | (refine @id.{0} _ ?_; constructor))
  | intro _
  | exact rfl
  | (refine @id.{0} _ ?_; constructor)
  | apply GR
  | exact ()
theorem Yo {x0:aO} {bT cB bD bB bU cC bE bC cD cG:Value}:Ct Tryz.prog 218 true (jQ x0) [.agg #[.int .i64 (x0.aB.aA),bT,cB,bD,bB,.int .i64 (x0.aF.aA),bU,cC,bE,bC,cD,cG]] [rI bT x0.aB.aH,rI cB x0.aB.To,rI bD x0.aB.aJ,rJ bB x0.aB.aE,rI bU x0.aF.aH,rI cC x0.aF.To,rI bE x0.aF.aJ,rJ bC x0.aF.aE,rI cD x0.aA,rI cG x0.ae] (fun y (v:Value×Value×Value×Value×Value×Value×Value×Value×Value×Value)=>[.agg #[.int .i64 y.aB.aA,v.1,v.2.1,v.2.2.1,v.2.2.2.1,.int .i64 y.aF.aA,v.2.2.2.2.1,v.2.2.2.2.2.1,v.2.2.2.2.2.2.1,v.2.2.2.2.2.2.2.1,v.2.2.2.2.2.2.2.2.1,v.2.2.2.2.2.2.2.2.2]]) (fun y v=>[.own (aK 2 (aM .i64)) v.1 y.aB.aH,.own (aK 2 (aM .i64)) v.2.1 y.aB.To,.own (aK 2 (aM .i64)) v.2.2.1 y.aB.aJ,.own (aK 24 (aK 2 (aM .i64))) v.2.2.2.1 y.aB.aE,.own (aK 2 (aM .i64)) v.2.2.2.2.1 y.aF.aH,.own (aK 2 (aM .i64)) v.2.2.2.2.2.1 y.aF.To,.own (aK 2 (aM .i64)) v.2.2.2.2.2.2.1 y.aF.aJ,.own (aK 24 (aK 2 (aM .i64))) v.2.2.2.2.2.2.2.1 y.aF.aE,.own (aK 2 (aM .i64)) v.2.2.2.2.2.2.2.2.1 y.aA,.own (aK 2 (aM .i64)) v.2.2.2.2.2.2.2.2.2 y.ae]):=by
 refine ct (S:=Unit) (cf fun _ _=>rfl) Tryz.func218 rfl rfl ?_
 repeat' first
  | (apply Dk.fe; repeat' first | exact rfl | (refine @id.{0} _ ?_; constructor))
  | intro _
  | exact rfl
  | (refine @id.{0} _ ?_; constructor)
  | apply Dk.any (id:=1) 10 [] [] [[],[0],[0,1],[],[3],[0,1,2,3,4],[],[6],[],[8]] (by kernel_rfl)
  | apply Yd
  | apply GR
  | exact ()
theorem afA {x0:aL} {dM:Nat} {cQ:Value} {x1:aI} {cF cR bR bI:Value}:Ct Tryz.prog 175 false (pI x0 x1) [.pointer (some (⟨dM,0,none⟩)),.agg #[.int .i64 (x1.aA),cF,cR,bR,bI]] [.row dM [cQ,.int .i64 (x0.At),.int .u64 (x0.av)] 193,.rd false (bY (aM .u8)) cQ x0.Code,rI cF x1.aH,rI cR x1.To,rI bR x1.aJ,rJ bI x1.aE] (fun y (v:Value×Value×Value×Value)=>[.agg #[.int .i64 y.1.aA,v.1,v.2.1,v.2.2.1,v.2.2.2]]) (fun y v=>[rI v.1 y.1.aH,rI v.2.1 y.1.To,rI v.2.2.1 y.1.aJ,rJ v.2.2.2 y.1.aE,.row dM [cQ,.int .i64 y.2.At,.int .u64 y.2.av] 193]):=by
 refine ct (S:=Unit) HC Tryz.func175 rfl rfl ?_
 repeat' first
  | (apply Dk.fe; repeat' first | exact rfl | (refine @id.{0} _ ?_; constructor))
  | intro _
  | exact rfl
  | (refine Dk.va (t:=58) rfl ?_ ?_)
  | apply Dk.slT (t:=24)
  | apply Dk.stN
  | (refine @id.{0} _ ?_; constructor)
  | apply Dk.xf (id:=13) [Dk.aX.row _ _ 193] 6 [] [[],[],[],[],[],[8]] [[],[0],[],[],[3],[2,3,4]] (by kernel_rfl)
  | apply Dk.xf (id:=18) [Dk.aX.row _ _ 193] 13 [] [[],[],[],[],[],[],[],[15],[],[],[],[7],[]] [[],[0],[],[0,1,2],[0,1,2,3],[],[],[5,6],[],[],[9],[5,6,7,8,9,10],[5,6,8,9,10,11]] (by kernel_rfl)
  | apply Dk.xf (id:=21) [Dk.aX.row _ _ 193] 8 [] [[],[],[],[],[],[],[],[10]] [[],[0],[],[],[],[4],[4,5],[3,4,5,6]] (by kernel_rfl)
  | apply Dk.Za (id:=6) 9 (e:=24) (e2:=2) (T:=(aM .i64)) (by kernel_rfl)
  | apply RF
  | apply Am
  | apply Yj
  | exact ()
theorem Yp {x0:aO} {bT cB bD bB bU cC bE bC cD cG:Value} {x1:aO} {cT cV cO cJ cU cW cP cK dA dD:Value}:Ct Tryz.prog 141 true (jD x0 x1) [.agg #[.int .i64 (x0.aB.aA),bT,cB,bD,bB,.int .i64 (x0.aF.aA),bU,cC,bE,bC,cD,cG],.agg #[.int .i64 (x1.aB.aA),cT,cV,cO,cJ,.int .i64 (x1.aF.aA),cU,cW,cP,cK,dA,dD]] [rI bT x0.aB.aH,rI cB x0.aB.To,rI bD x0.aB.aJ,rJ bB x0.aB.aE,rI bU x0.aF.aH,rI cC x0.aF.To,rI bE x0.aF.aJ,rJ bC x0.aF.aE,rI cD x0.aA,rI cG x0.ae,rI cT x1.aB.aH,rI cV x1.aB.To,rI cO x1.aB.aJ,rJ cJ x1.aB.aE,rI cU x1.aF.aH,rI cW x1.aF.To,rI cP x1.aF.aJ,rJ cK x1.aF.aE,rI dA x1.aA,rI dD x1.ae] (fun y (v:Value×Value×Value×Value×Value×Value×Value×Value×Value×Value)=>[.agg #[.int .i64 y.aB.aA,v.1,v.2.1,v.2.2.1,v.2.2.2.1,.int .i64 y.aF.aA,v.2.2.2.2.1,v.2.2.2.2.2.1,v.2.2.2.2.2.2.1,v.2.2.2.2.2.2.2.1,v.2.2.2.2.2.2.2.2.1,v.2.2.2.2.2.2.2.2.2]]) (fun y v=>[.own (aK 2 (aM .i64)) v.1 y.aB.aH,.own (aK 2 (aM .i64)) v.2.1 y.aB.To,.own (aK 2 (aM .i64)) v.2.2.1 y.aB.aJ,.own (aK 24 (aK 2 (aM .i64))) v.2.2.2.1 y.aB.aE,.own (aK 2 (aM .i64)) v.2.2.2.2.1 y.aF.aH,.own (aK 2 (aM .i64)) v.2.2.2.2.2.1 y.aF.To,.own (aK 2 (aM .i64)) v.2.2.2.2.2.2.1 y.aF.aJ,.own (aK 24 (aK 2 (aM .i64))) v.2.2.2.2.2.2.2.1 y.aF.aE,.own (aK 2 (aM .i64)) v.2.2.2.2.2.2.2.2.1 y.aA,.own (aK 2 (aM .i64)) v.2.2.2.2.2.2.2.2.2 y.ae]):=by
 refine ct (S:=Unit) (cf fun _ _=>rfl) Tryz.func141 rfl rfl ?_
 repeat' first
  | (apply Dk.fe; repeat' first | exact rfl | (refine @id.{0} _ ?_; constructor))
  | intro _
  | exact rfl
  | (refine @id.{0} _ ?_; constructor)
  | apply Dk.any (id:=1) 14 [] [] [[],[0],[],[2],[],[4],[],[6],[4,5,6,7],[],[9],[],[11],[4,5,6,7,8,9,10,11,12]] (by kernel_rfl)
  | apply afb
  | apply GR
  | exact ()
end Go.Proofs.YtjdkifckhidlbaaGreat
