/- Walks by the calculus D. No condition beside those that each theorem names. -/
import Derived.Test.YtbhhmalgcnhniaaGreatDi
import Derived.Test.YtbhhmalgcnhniaaGreatMo
import Derived.Test.YtbhhmalgcnhniaaGreatDp
import Derived.Test.YtbhhmalgcnhniaaGreatDs
import Derived.Test.YtbhhmalgcnhniaaGreatWa
import Derived.Test.YtbhhmalgcnhniaaGreatWc
namespace Go.Proofs.YtbhhmalgcnhniaaGreat
open Go Go.Li Go.Dk
set_option linter.unusedVariables false
set_option maxHeartbeats 16000000
set_option maxRecDepth 100000
theorem PU {x0:aG} {aU bA aP aL:Value}:Ct Tryz.prog 161 true (kV x0) [.agg #[.int .i64 (x0.aA),aU,bA,aP,aL]] [rI aU x0.aF,rI bA x0.To,rI aP x0.aH,rJ aL x0.aC] (fun y (v:Value×Value×Value×Value)=>[.agg #[.int .i64 y.aA,v.1,v.2.1,v.2.2.1,v.2.2.2]]) (fun y v=>[.own (aI 2 (aK .i64)) v.1 y.aF,.own (aI 2 (aK .i64)) v.2.1 y.To,.own (aI 2 (aK .i64)) v.2.2.1 y.aH,.own (aI 22 (aI 2 (aK .i64))) v.2.2.2 y.aC]):=by
 refine ct (S:=Unit) (bo fun _ _=>rfl) Tryz.func161 rfl rfl ?_
 repeat' first
  | (apply Dk.fe; repeat' first | exact rfl | (refine @id.{0} _ ?_; constructor))
  | intro _
  | exact rfl
  | (refine @id.{0} _ ?_; constructor)
  | apply Dk.any (id:=1) 14 [] [] [[],[0],[],[2],[2,3],[],[5],[2,3,4,5,6],[],[8],[2,3,4,5,6,7,8,9],[],[11],[2,3,4,5,6,7,8,9,10,11,12]] (by kernel_rfl)
  | apply Br
  | apply V5
  | exact ()
theorem Wj {x0:aG} {aU bA aP aL:Value} {x1:aG} {bI bS bD aY:Value}:Ct Tryz.prog 101 true (jL x0 x1) [.agg #[.int .i64 (x0.aA),aU,bA,aP,aL],.agg #[.int .i64 (x1.aA),bI,bS,bD,aY]] [rI aU x0.aF,rI bA x0.To,rI aP x0.aH,rJ aL x0.aC,rI bI x1.aF,rI bS x1.To,rI bD x1.aH,rJ aY x1.aC] (fun y (v:Value×Value×Value×Value)=>[.agg #[.int .i64 y.aA,v.1,v.2.1,v.2.2.1,v.2.2.2]]) (fun y v=>[.own (aI 2 (aK .i64)) v.1 y.aF,.own (aI 2 (aK .i64)) v.2.1 y.To,.own (aI 2 (aK .i64)) v.2.2.1 y.aH,.own (aI 22 (aI 2 (aK .i64))) v.2.2.2 y.aC]):=by
 refine ct (S:=Unit) (bo fun _ _=>rfl) Tryz.func101 rfl rfl ?_
 repeat' first
  | (apply Dk.fe; repeat' first | exact rfl | (refine @id.{0} _ ?_; constructor))
  | intro _
  | exact rfl
  | apply Dk.Yn (d:=69)
  | apply Dk.ixH (d:=70)
  | apply Dk.stR (e:=22) (t:=22)
  | (refine @id.{0} _ ?_; constructor)
  | apply Dk.iH 0 (V:=Value) (A:=Nat×Value×Value×Value) (_,_,_,_) (fun a (s:Int×(List Int)) v=>Dk.pc (fun a0=>Dk.pc (fun a1=>Dk.pc (fun a2 a3=>[.row a0 [.int .i64 (aj (x0.aA+x1.aA)),a1,a2,v,a3] 32,.own (aI 2 (aK .i64)) v s.2]))) a) (fun a s v=>Dk.pc (fun a0=>Dk.pc (fun a1=>Dk.pc (fun a2 a3=>[(7,.pointer (some ⟨a0,0,none⟩)),(8,.int .i64 (s.1))]))) a) _ [(3,_),(4,_),(5,_),(6,_)]
  | apply Dk.iH 2 (V:=Unit) (A:=Value) _ (fun a (s:Int×(List (List Int))) v=>[.own (aI 22 (aI 2 (aK .i64))) a s.2]) (fun a s v=>[(9,.int .i64 (s.1))]) () [(3,_),(4,_),(5,_),(6,_),(7,_)]
  | apply Dk.iH 4 (V:=Unit) (A:=Value) _ (fun a (s:Int×(List (List Int))) v=>[.own (aI 22 (aI 2 (aK .i64))) a s.2]) (fun a s v=>[(10,.int .i64 (s.1))]) () [(3,_),(4,_),(5,_),(6,_),(7,_),(9,_)]
  | apply Dk.iH 6 (V:=Value×Value×Value) (A:=Nat×Value) (_,_) (fun a (s:Int×(List Int)×(List Int)×(List (List Int))) v=>Dk.pc (fun a0 a1=>[.row a0 [.int .i64 (aj (x0.aA+x1.aA)),v.1,v.2.1,a1,v.2.2] 32,.own (aI 2 (aK .i64)) v.1 s.2.1,.own (aI 2 (aK .i64)) v.2.1 s.2.2.1,.own (aI 22 (aI 2 (aK .i64))) v.2.2 s.2.2.2]) a) (fun a s v=>Dk.pc (fun a0 a1=>[(7,.pointer (some ⟨a0,0,none⟩)),(11,.int .i64 (s.1))]) a) (_,_,_) [(3,_),(4,_),(5,_),(6,_)]
  | apply Dk.loop 8 (V:=Value) (fun (s:(List Int)×Int) v=>[.own (aI 2 (aK .i64)) v s.1]) (fun s v=>[(12,v),(13,.int .i64 (s.2))]) _ [(3,_),(4,_),(5,_),(6,_),(7,_),(11,_)]
  | apply Dk.loop 10 (V:=Value) (fun (s:(List Int)×Int) v=>[.own (aI 2 (aK .i64)) v s.1]) (fun s v=>[(12,v),(14,.int .i64 (s.2))]) _ [(3,_),(4,_),(5,_),(6,_),(7,_),(11,_)]
  | apply Dk.quiet (id:=1) (by kernel_rfl)
  | apply Dk.any (id:=7) 10 [] [] [[],[0],[],[2],[],[2,3,4],[2,3,4,5],[],[2,3,4,5,6,7],[2,3,4,5,6,7,8]] (by kernel_rfl)
  | apply Dk.ym (id:=14) [Dk.aq.own (aI 22 (aI 2 (aK .i64))) _ _] 10 [] [[],[],[],[],[],[],[],[],[],[12]] [[],[0],[],[],[3],[],[3,4,5],[3,4,5,6],[],[3,4,5,6,7,8]] (by kernel_rfl)
  | apply Dk.any (id:=18) 10 [] [] [[],[0],[],[2],[],[2,3,4],[2,3,4,5],[],[2,3,4,5,6,7],[2,3,4,5,6,7,8]] (by kernel_rfl)
  | apply Dk.any (id:=19) 10 [] [] [[],[0],[],[2],[],[2,3,4],[2,3,4,5],[],[2,3,4,5,6,7],[2,3,4,5,6,7,8]] (by kernel_rfl)
  | apply PU
  | exact ()
theorem adk {x0:aG} {aU bA aP aL:Value} {x1:aG} {bI bS bD aY:Value}:Ct Tryz.prog 214 true (iP x0 x1) [.agg #[.int .i64 (x0.aA),aU,bA,aP,aL],.agg #[.int .i64 (x1.aA),bI,bS,bD,aY]] [rI aU x0.aF,rI bA x0.To,rI aP x0.aH,rJ aL x0.aC,rI bI x1.aF,rI bS x1.To,rI bD x1.aH,rJ aY x1.aC] (fun y (v:Value×Value×Value×Value)=>match v with | (q0,q1,q2,q3)=>[.agg #[.int .i64 y.aA,q0,q1,q2,q3]]) (fun y v=>match v with | (q0,q1,q2,q3)=>[.own (aI 2 (aK .i64)) q0 y.aF,.own (aI 2 (aK .i64)) q1 y.To,.own (aI 2 (aK .i64)) q2 y.aH,.own (aI 22 (aI 2 (aK .i64))) q3 y.aC]):=by
 refine ct (S:=Unit) (bo fun _ _=>rfl) Tryz.func214 rfl rfl ?_
 repeat' first
  | (apply Dk.fe; repeat' first | exact rfl | (refine @id.{0} _ ?_; constructor))
  | intro _
  | exact rfl
  | (refine Dk.te (t:=60) rfl ?_ ?_)
  | (refine @id.{0} _ ?_; constructor)
  | apply Dk.iH 0 (V:=Value×Value) (A:=Nat×Value×Value×Value) (_,_,_,_) (fun a (s:Int×(List Int)×(List Int)) v=>Dk.pc (fun a0=>Dk.pc (fun a1=>Dk.pc (fun a2 a3=>[.row a0 [a1,v.1,v.2,a2,a3] 32,.own (aI 2 (aK .i64)) v.1 s.2.1,.own (aI 2 (aK .i64)) v.2 s.2.2]))) a) (fun a s v=>Dk.pc (fun a0=>Dk.pc (fun a1=>Dk.pc (fun a2 a3=>[(5,.pointer (some ⟨a0,0,none⟩)),(7,.int .i64 (s.1))]))) a) (_,_) [(2,_),(3,_),(4,_),(6,_)]
  | apply Dk.iH 2 (V:=Value×Value) (A:=Nat×Value×Value×Value) (_,_,_,_) (fun a (s:Int×(List Int)×(List Int)) v=>Dk.pc (fun a0=>Dk.pc (fun a1=>Dk.pc (fun a2 a3=>[.row a0 [a1,v.1,v.2,a2,a3] 32,.own (aI 2 (aK .i64)) v.1 s.2.1,.own (aI 2 (aK .i64)) v.2 s.2.2]))) a) (fun a s v=>Dk.pc (fun a0=>Dk.pc (fun a1=>Dk.pc (fun a2 a3=>[(5,.pointer (some ⟨a0,0,none⟩)),(8,.int .i64 (s.1))]))) a) (_,_) [(2,_),(3,_),(4,_),(6,_),(7,_)]
  | apply Dk.loop 4 (V:=Value) (fun (s:(List (List Int))×Int) v=>[.own (aI 22 (aI 2 (aK .i64))) v s.1]) (fun s v=>[(9,v),(10,.int .i64 (s.2))]) _ [(2,_),(3,_),(4,_),(5,_),(6,_)]
  | apply Dk.loop 6 (V:=Value) (fun (s:(List Int)×Int) v=>[.own (aI 2 (aK .i64)) v s.1]) (fun s v=>[(11,v),(12,.int .i64 (s.2))]) _ [(2,_),(3,_),(4,_),(5,_),(6,_),(9,_),(10,_)]
  | apply Dk.quiet (id:=20) (by kernel_rfl)
  | apply Dk.quiet (id:=21) (by kernel_rfl)
  | apply Wj
  | exact ()
theorem Nh {x0:aG} {aU bA aP aL:Value} {x1:aG} {bI bS bD aY:Value} {x2:(List Int)} {dU:Value} {x3:(List Int)} {gC:Value}:Ct Tryz.prog 91 true (gN x0 x1 x2 x3) [.agg #[.int .i64 (x0.aA),aU,bA,aP,aL],.agg #[.int .i64 (x1.aA),bI,bS,bD,aY],dU,gC] [rI aU x0.aF,rI bA x0.To,rI aP x0.aH,rJ aL x0.aC,rI bI x1.aF,rI bS x1.To,rI bD x1.aH,rJ aY x1.aC,rI dU x2,rI gC x3] (fun y (v:Value×Value×Value×Value×Value×Value×Value×Value×Value×Value)=>[.agg #[.int .i64 y.aD.aA,v.1,v.2.1,v.2.2.1,v.2.2.2.1,.int .i64 y.aB.aA,v.2.2.2.2.1,v.2.2.2.2.2.1,v.2.2.2.2.2.2.1,v.2.2.2.2.2.2.2.1,v.2.2.2.2.2.2.2.2.1,v.2.2.2.2.2.2.2.2.2]]) (fun y v=>[.own (aI 2 (aK .i64)) v.1 y.aD.aF,.own (aI 2 (aK .i64)) v.2.1 y.aD.To,.own (aI 2 (aK .i64)) v.2.2.1 y.aD.aH,.own (aI 22 (aI 2 (aK .i64))) v.2.2.2.1 y.aD.aC,.own (aI 2 (aK .i64)) v.2.2.2.2.1 y.aB.aF,.own (aI 2 (aK .i64)) v.2.2.2.2.2.1 y.aB.To,.own (aI 2 (aK .i64)) v.2.2.2.2.2.2.1 y.aB.aH,.own (aI 22 (aI 2 (aK .i64))) v.2.2.2.2.2.2.2.1 y.aB.aC,.own (aI 2 (aK .i64)) v.2.2.2.2.2.2.2.2.1 y.aA,.own (aI 2 (aK .i64)) v.2.2.2.2.2.2.2.2.2 y.ab]):=by
 refine ct (S:=Unit) (bo fun _ _=>rfl) Tryz.func91 rfl rfl ?_
 repeat' first
  | (apply Dk.fe; repeat' first | exact rfl | (refine @id.{0} _ ?_; constructor))
  | intro _
  | exact rfl
  | (refine @id.{0} _ ?_; constructor)
  | apply Dk.any (id:=1) 7 [] [] [[],[0],[],[0,1,2],[],[0,1,2,3,4],[]] (by kernel_rfl)
  | apply PU
  | apply Br
  | exact ()
theorem Wl {rc:aG→aG→(List Int)→(List aJ)→Option ((List aJ))} (ih:∀ {x0:aG} {aU bA aP aL:Value} {x1:aG} {bI bS bD aY:Value} {x2:(List Int)} {dU:Value} {x3:(List aJ)} {gC:Value},Ct Tryz.prog 167 true (rc x0 x1 x2 x3) [.agg #[.int .i64 (x0.aA),aU,bA,aP,aL],.agg #[.int .i64 (x1.aA),bI,bS,bD,aY],dU,gC] [rI aU x0.aF,rI bA x0.To,rI aP x0.aH,rJ aL x0.aC,rI bI x1.aF,rI bS x1.To,rI bD x1.aH,rJ aY x1.aC,rI dU x2,.own (aI 34 tj) gC x3] (fun y (v:Value)=>[v]) (fun y v=>[.own (aI 34 tj) v y])) {x0:aG} {aU bA aP aL:Value} {x1:aG} {bI bS bD aY:Value} {x2:(List Int)} {dU:Value} {x3:(List aJ)} {gC:Value}:Ct Tryz.prog 167 true (lT rc x0 x1 x2 x3) [.agg #[.int .i64 (x0.aA),aU,bA,aP,aL],.agg #[.int .i64 (x1.aA),bI,bS,bD,aY],dU,gC] [rI aU x0.aF,rI bA x0.To,rI aP x0.aH,rJ aL x0.aC,rI bI x1.aF,rI bS x1.To,rI bD x1.aH,rJ aY x1.aC,rI dU x2,.own (aI 34 tj) gC x3] (fun y (v:Value)=>[v]) (fun y v=>[.own (aI 34 tj) v y]):=by
 refine ct (S:=Unit) (bo fun _ _=>rfl) Tryz.func167 rfl rfl ?_
 repeat' first
  | (apply Dk.fe; repeat' first | exact rfl | (refine @id.{0} _ ?_; constructor))
  | intro _
  | exact rfl
  | apply Dk.Yr (t:=116)
  | apply ih
  | apply Dk.apO (t:=116) (S:=tj) (aJ.mk (aG.mk _ _ _ _ _) (aG.mk _ _ _ _ _) _ _)
  | (refine @id.{0} _ ?_; constructor)
  | apply Dk.loop 0 (V:=Value) (fun (s:(List Int)×Int) v=>[.own (aI 2 (aK .i64)) v s.1]) (fun s v=>[(9,v),(10,.int .i64 (s.2))]) _ [(2,_),(3,_),(4,_),(5,_)]
  | apply Dk.iH 2 (V:=Unit) (A:=Value) _ (fun a (s:Int×(List Int)) v=>[.own (aI 2 (aK .i64)) a s.2]) (fun a s v=>[(9,a),(11,.int .i64 (s.1))]) () [(2,_),(3,_),(4,_),(5,_)]
  | apply Dk.loop 4 (V:=Value) (fun (s:(List aJ)×Int) v=>[.own (aI 34 tj) v s.1]) (fun s v=>[(3,v),(13,.int .i64 (s.2))]) _ [(2,_),(4,_),(5,_),(12,_)]
  | apply Dk.loop 6 (V:=Value) (fun (s:(List aJ)×Int) v=>[.own (aI 34 tj) v s.1]) (fun s v=>[(3,v),(14,.int .i64 (s.2))]) _ [(2,_),(4,_),(5,_)]
  | apply Dk.any (id:=12) 14 [] [] [[],[],[1],[],[1,2,3],[1,2,3,4],[],[6],[],[],[8,9],[8,9,10],[6,7,8,9,10,11],[6,7,8,9,10,11,12]] (by kernel_rfl)
  | apply Dk.any (id:=22) 8 [] [[],[],[],[],[],[],[3],[]] [[],[],[],[2],[],[4],[2,3,4,5],[]] (by kernel_rfl)
  | apply Dk.Xe (id:=17) [(0,8)] 8 rfl (by kernel_rfl)
  | apply acL
  | apply acN
  | apply Nh
  | apply Br
  | exact ()
theorem Wm (n:Nat):∀ {x0:aG} {aU bA aP aL:Value} {x1:aG} {bI bS bD aY:Value} {x2:(List Int)} {dU:Value} {x3:(List aJ)} {gC:Value},Ct Tryz.prog 167 true (iJ n x0 x1 x2 x3) [.agg #[.int .i64 (x0.aA),aU,bA,aP,aL],.agg #[.int .i64 (x1.aA),bI,bS,bD,aY],dU,gC] [rI aU x0.aF,rI bA x0.To,rI aP x0.aH,rJ aL x0.aC,rI bI x1.aF,rI bS x1.To,rI bD x1.aH,rJ aY x1.aC,rI dU x2,.own (aI 34 tj) gC x3] (fun y (v:Value)=>[v]) (fun y v=>[.own (aI 34 tj) v y]):=by
 induction n with
 | zero=>intros; rw [vu]; exact ⟨(bo fun _ _=>rfl),fun _ _ _ _ _ _ _ y hy=>nomatch (show none=some y from hy)⟩
 | succ n ih=>exact Wl ih
theorem Wn {x0:aG} {aU bA aP aL:Value} {x1:aG} {bI bS bD aY:Value} {x2:(List Int)} {dU:Value} {x3:(List aJ)} {gC:Value}:Ct Tryz.prog 167 true (iJ 64 x0 x1 x2 x3) [.agg #[.int .i64 (x0.aA),aU,bA,aP,aL],.agg #[.int .i64 (x1.aA),bI,bS,bD,aY],dU,gC] [rI aU x0.aF,rI bA x0.To,rI aP x0.aH,rJ aL x0.aC,rI bI x1.aF,rI bS x1.To,rI bD x1.aH,rJ aY x1.aC,rI dU x2,.own (aI 34 tj) gC x3] (fun y (v:Value)=>[v]) (fun y v=>[.own (aI 34 tj) v y]):=by
 exact Wm 64
theorem adl {x0:aG} {aU bA aP aL:Value} {x1:aG} {bI bS bD aY:Value} {x2:Int}:Ct Tryz.prog 151 true (jW x0 x1 x2) [.agg #[.int .i64 (x0.aA),aU,bA,aP,aL],.agg #[.int .i64 (x1.aA),bI,bS,bD,aY],.int .i64 (x2)] [rI aU x0.aF,rI bA x0.To,rI aP x0.aH,rJ aL x0.aC,rI bI x1.aF,rI bS x1.To,rI bD x1.aH,rJ aY x1.aC] (fun y (v:Value×Value×Value×Value×Value×Value×Value×Value×Value×Value)=>[.agg #[.int .i64 y.aD.aA,v.1,v.2.1,v.2.2.1,v.2.2.2.1,.int .i64 y.aB.aA,v.2.2.2.2.1,v.2.2.2.2.2.1,v.2.2.2.2.2.2.1,v.2.2.2.2.2.2.2.1,v.2.2.2.2.2.2.2.2.1,v.2.2.2.2.2.2.2.2.2]]) (fun y v=>[.own (aI 2 (aK .i64)) v.1 y.aD.aF,.own (aI 2 (aK .i64)) v.2.1 y.aD.To,.own (aI 2 (aK .i64)) v.2.2.1 y.aD.aH,.own (aI 22 (aI 2 (aK .i64))) v.2.2.2.1 y.aD.aC,.own (aI 2 (aK .i64)) v.2.2.2.2.1 y.aB.aF,.own (aI 2 (aK .i64)) v.2.2.2.2.2.1 y.aB.To,.own (aI 2 (aK .i64)) v.2.2.2.2.2.2.1 y.aB.aH,.own (aI 22 (aI 2 (aK .i64))) v.2.2.2.2.2.2.2.1 y.aB.aC,.own (aI 2 (aK .i64)) v.2.2.2.2.2.2.2.2.1 y.aA,.own (aI 2 (aK .i64)) v.2.2.2.2.2.2.2.2.2 y.ab]):=by
 refine ct (S:=Unit) (bo fun _ _=>rfl) Tryz.func151 rfl rfl ?_
 repeat' first
  | (apply Dk.fe; repeat' first | exact rfl | (refine @id.{0} _ ?_; constructor))
  | intro _
  | exact rfl
  | (refine @id.{0} _ ?_; constructor)
  | apply Dk.loop 0 (V:=Value) (fun (s:(List Int)×Int) v=>[.own (aI 2 (aK .i64)) v s.1]) (fun s v=>[(7,v),(9,.int .i64 (s.2))]) _ [(2,_),(3,_),(4,_),(6,_),(8,_)]
  | apply Dk.loop 2 (V:=Value) (fun (s:(List Int)×Int) v=>[.own (aI 2 (aK .i64)) v s.1]) (fun s v=>[(8,v),(10,.int .i64 (s.2))]) _ [(2,_),(3,_),(4,_),(6,_),(7,_)]
  | apply Nh
  | exact ()
theorem YJ {x0:aG} {aU bA aP aL:Value}:Ct Tryz.prog 56 true (iR x0) [.agg #[.int .i64 (x0.aA),aU,bA,aP,aL]] [rI aU x0.aF,rI bA x0.To,rI aP x0.aH,rJ aL x0.aC] (fun y (v:Value×Value×Value×Value×Value×Value×Value×Value×Value×Value)=>[.agg #[.int .i64 y.aD.aA,v.1,v.2.1,v.2.2.1,v.2.2.2.1,.int .i64 y.aB.aA,v.2.2.2.2.1,v.2.2.2.2.2.1,v.2.2.2.2.2.2.1,v.2.2.2.2.2.2.2.1,v.2.2.2.2.2.2.2.2.1,v.2.2.2.2.2.2.2.2.2]]) (fun y v=>[.own (aI 2 (aK .i64)) v.1 y.aD.aF,.own (aI 2 (aK .i64)) v.2.1 y.aD.To,.own (aI 2 (aK .i64)) v.2.2.1 y.aD.aH,.own (aI 22 (aI 2 (aK .i64))) v.2.2.2.1 y.aD.aC,.own (aI 2 (aK .i64)) v.2.2.2.2.1 y.aB.aF,.own (aI 2 (aK .i64)) v.2.2.2.2.2.1 y.aB.To,.own (aI 2 (aK .i64)) v.2.2.2.2.2.2.1 y.aB.aH,.own (aI 22 (aI 2 (aK .i64))) v.2.2.2.2.2.2.2.1 y.aB.aC,.own (aI 2 (aK .i64)) v.2.2.2.2.2.2.2.2.1 y.aA,.own (aI 2 (aK .i64)) v.2.2.2.2.2.2.2.2.2 y.ab]):=by
 refine ct (S:=Unit) (bo fun _ _=>rfl) Tryz.func56 rfl rfl ?_
 repeat' first
  | (apply Dk.fe; repeat' first | exact rfl | (refine @id.{0} _ ?_; constructor))
  | intro _
  | exact rfl
  | (refine @id.{0} _ ?_; constructor)
  | apply Dk.loop 0 (V:=Value) (fun (s:(List Int)×Int) v=>[.own (aI 2 (aK .i64)) v s.1]) (fun s v=>[(3,v),(5,.int .i64 (s.2))]) _ [(1,_),(2,_),(4,_)]
  | apply Dk.loop 2 (V:=Value) (fun (s:(List Int)×Int) v=>[.own (aI 2 (aK .i64)) v s.1]) (fun s v=>[(4,v),(6,.int .i64 (s.2))]) _ [(1,_),(2,_),(3,_)]
  | apply Nh
  | exact ()
theorem adm {x0:aM} {eH:Nat} {cI:Value} {x1:aG} {bI bS bD aY:Value}:Ct Tryz.prog 154 false (pJ x0 x1) [.pointer (some (⟨eH,0,none⟩)),.agg #[.int .i64 (x1.aA),bI,bS,bD,aY]] [.row eH [cI,.int .i64 (x0.At),.int .u64 (x0.aw)] 162,.rd false (bG (aK .u8)) cI x0.Code,rI bI x1.aF,rI bS x1.To,rI bD x1.aH,rJ aY x1.aC] (fun y (v:Value×Value×Value×Value)=>[.agg #[.int .i64 y.1.aA,v.1,v.2.1,v.2.2.1,v.2.2.2]]) (fun y v=>[rI v.1 y.1.aF,rI v.2.1 y.1.To,rI v.2.2.1 y.1.aH,rJ v.2.2.2 y.1.aC,.row eH [cI,.int .i64 y.2.At,.int .u64 y.2.aw] 162]):=by
 refine ct (S:=Unit) Gi Tryz.func154 rfl rfl ?_
 repeat' first
  | (apply Dk.fe; repeat' first | exact rfl | (refine @id.{0} _ ?_; constructor))
  | intro _
  | exact rfl
  | (refine Dk.te (t:=58) rfl ?_ ?_)
  | apply Dk.slT (t:=22)
  | apply Dk.stN
  | (refine @id.{0} _ ?_; constructor)
  | apply Dk.ym (id:=13) [Dk.aq.row _ _ 162] 6 [] [[],[],[],[],[],[8]] [[],[0],[],[],[3],[2,3,4]] (by kernel_rfl)
  | apply Dk.ym (id:=18) [Dk.aq.row _ _ 162] 13 [] [[],[],[],[],[],[],[],[15],[],[],[],[7],[]] [[],[0],[],[0,1,2],[0,1,2,3],[],[],[5,6],[],[],[9],[5,6,7,8,9,10],[5,6,8,9,10,11]] (by kernel_rfl)
  | apply Dk.ym (id:=21) [Dk.aq.row _ _ 162] 8 [] [[],[],[],[],[],[],[],[10]] [[],[0],[],[],[],[4],[4,5],[3,4,5,6]] (by kernel_rfl)
  | apply Dk.Xc (id:=6) 9 (e:=22) (e2:=2) (T:=(aK .i64)) (by kernel_rfl)
  | apply PU
  | apply Cn
  | apply ac2
  | exact ()
theorem adn {x0:aG} {aU bA aP aL:Value} {x1:Int} {x2:Int}:Ct Tryz.prog 232 true (oH x0 x1 x2) [.agg #[.int .i64 (x0.aA),aU,bA,aP,aL],.int .i64 (x1),.int .i64 (x2)] [rI aU x0.aF,rI bA x0.To,rI aP x0.aH,rJ aL x0.aC] (fun y (_:Unit)=>[.int .i64 y]) (fun y _=>[]):=by
 refine ct (S:=Unit) (bo fun _ _=>rfl) Tryz.func232 rfl rfl ?_
 repeat' first
  | (apply Dk.fe; repeat' first | exact rfl | (refine @id.{0} _ ?_; constructor))
  | intro _
  | exact rfl
  | (refine @id.{0} _ ?_; constructor)
  | apply Dk.loop 0 (V:=Unit) (fun (s:Int) v=>[]) (fun s v=>[(8,.int .i64 (s))]) () [(3,_),(7,_)]
  | apply Dk.quiet (id:=5) (by kernel_rfl)
  | apply Bt
  | apply PN
  | exact ()
theorem ado {x0:aJ} {aS aV aQ aN aT aW aR aO aZ bB:Value} {x1:Int}:Ct Tryz.prog 197 true (pO x0 x1) [.agg #[.int .i64 (x0.aD.aA),aS,aV,aQ,aN,.int .i64 (x0.aB.aA),aT,aW,aR,aO,aZ,bB],.int .i64 (x1)] [rI aS x0.aD.aF,rI aV x0.aD.To,rI aQ x0.aD.aH,rJ aN x0.aD.aC,rI aT x0.aB.aF,rI aW x0.aB.To,rI aR x0.aB.aH,rJ aO x0.aB.aC,rI aZ x0.aA,rI bB x0.ab] (fun y (_:Unit)=>[.int .i64 y.1,.int .i64 y.2]) (fun y _=>[]):=by
 refine ct (S:=Unit) (bo fun _ _=>rfl) Tryz.func197 rfl rfl ?_
 repeat' first
  | (apply Dk.fe; repeat' first | exact rfl | (refine @id.{0} _ ?_; constructor))
  | intro _
  | exact rfl
  | (refine @id.{0} _ ?_; constructor)
  | apply Dk.loop 0 (V:=Unit) (fun (s:Int) v=>[]) (fun s v=>[(6,.int .i64 (s))]) () [(1,_),(2,_)]
  | apply Dk.quiet (id:=4) (by kernel_rfl)
  | apply adn
  | exact ()
theorem Wo {x0:aJ} {aS aV aQ aN aT aW aR aO aZ bB:Value}:Ct Tryz.prog 129 true (mE x0) [.agg #[.int .i64 (x0.aD.aA),aS,aV,aQ,aN,.int .i64 (x0.aB.aA),aT,aW,aR,aO,aZ,bB]] [rI aS x0.aD.aF,rI aV x0.aD.To,rI aQ x0.aD.aH,rJ aN x0.aD.aC,rI aT x0.aB.aF,rI aW x0.aB.To,rI aR x0.aB.aH,rJ aO x0.aB.aC,rI aZ x0.aA,rI bB x0.ab] (fun y (v:Value×Value×Value×Value×Value×Value×Value×Value×Value×Value×Value)=>[.agg #[.int .i64 y.1.aD.aA,v.1,v.2.1,v.2.2.1,v.2.2.2.1,.int .i64 y.1.aB.aA,v.2.2.2.2.1,v.2.2.2.2.2.1,v.2.2.2.2.2.2.1,v.2.2.2.2.2.2.2.1,v.2.2.2.2.2.2.2.2.1,v.2.2.2.2.2.2.2.2.2.1],v.2.2.2.2.2.2.2.2.2.2]) (fun y v=>[.own (aI 2 (aK .i64)) v.1 y.1.aD.aF,.own (aI 2 (aK .i64)) v.2.1 y.1.aD.To,.own (aI 2 (aK .i64)) v.2.2.1 y.1.aD.aH,.own (aI 22 (aI 2 (aK .i64))) v.2.2.2.1 y.1.aD.aC,.own (aI 2 (aK .i64)) v.2.2.2.2.1 y.1.aB.aF,.own (aI 2 (aK .i64)) v.2.2.2.2.2.1 y.1.aB.To,.own (aI 2 (aK .i64)) v.2.2.2.2.2.2.1 y.1.aB.aH,.own (aI 22 (aI 2 (aK .i64))) v.2.2.2.2.2.2.2.1 y.1.aB.aC,.own (aI 2 (aK .i64)) v.2.2.2.2.2.2.2.2.1 y.1.aA,.own (aI 2 (aK .i64)) v.2.2.2.2.2.2.2.2.2.1 y.1.ab,.own (aI 2 (aK .i64)) v.2.2.2.2.2.2.2.2.2.2 y.2]):=by
 refine ct (S:=Unit) (bo fun _ _=>rfl) Tryz.func129 rfl rfl ?_
 repeat' first
  | (apply Dk.fe; repeat' first | exact rfl | (refine @id.{0} _ ?_; constructor))
  | intro _
  | exact rfl
  | (refine @id.{0} _ ?_; constructor)
  | apply Dk.loop 0 (V:=Value×Value) (fun (s:(List Int)×(List Int)×Int) v=>[.own (aI 2 (aK .i64)) v.1 s.1,.own (aI 2 (aK .i64)) v.2 s.2.1]) (fun s v=>[(5,v.1),(6,v.2),(8,.int .i64 (s.2.2))]) (_,_) [(1,_),(2,_),(4,_),(7,_)]
  | apply Dk.loop 2 (V:=Value) (fun (s:(List Int)×Int) v=>[.own (aI 2 (aK .i64)) v s.1]) (fun s v=>[(7,v),(11,.int .i64 (s.2))]) _ [(1,_),(2,_),(4,_),(5,_),(6,_)]
  | apply Dk.quiet (id:=12) (by kernel_rfl)
  | apply Dk.quiet (id:=13) (by kernel_rfl)
  | apply Dk.any (id:=14) 13 [] [] [[],[],[],[],[2,3],[2,3,4],[],[],[6,7],[6,7,8],[],[1,2,3,4,5,6,7,8,9,10],[1,2,3,4,5,6,7,8,9,10,11]] (by kernel_rfl)
  | apply ado
  | apply PM
  | apply PN
  | apply acR
  | apply Nh
  | exact ()
end Go.Proofs.YtbhhmalgcnhniaaGreat
