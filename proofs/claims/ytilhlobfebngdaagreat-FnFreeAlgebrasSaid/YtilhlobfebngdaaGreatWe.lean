/- Walks by the calculus D. No condition beside those that each theorem names. -/
import Derived.Test.YtilhlobfebngdaaGreatDp
import Derived.Test.YtilhlobfebngdaaGreatDi
import Derived.Test.YtilhlobfebngdaaGreatMo
import Derived.Test.YtilhlobfebngdaaGreatDs
import Derived.Test.YtilhlobfebngdaaGreatWa
import Derived.Test.YtilhlobfebngdaaGreatWc
namespace Go.Proofs.YtilhlobfebngdaaGreat
open Go Go.Li Go.Dk
set_option linter.unusedVariables false
set_option maxHeartbeats 16000000
set_option maxRecDepth 100000
theorem Sg {x0:aI} {aV bE aP aO:Value}:Ct Tryz.prog 122 true (lL x0) [.agg #[.int .i64 (x0.aA),aV,bE,aP,aO]] [rI aV x0.aG,rI bE x0.To,rI aP x0.aJ,rJ aO x0.aE] (fun y (v:Value×Value×Value×Value)=>[.agg #[.int .i64 y.aA,v.1,v.2.1,v.2.2.1,v.2.2.2]]) (fun y v=>[.own (aL 2 (aN .i64)) v.1 y.aG,.own (aL 2 (aN .i64)) v.2.1 y.To,.own (aL 2 (aN .i64)) v.2.2.1 y.aJ,.own (aL 24 (aL 2 (aN .i64))) v.2.2.2 y.aE]):=by
 refine ct (S:=Unit) (b9 fun _ _=>rfl) Tryz.func122 rfl rfl ?_
 repeat' first
  | (apply Dk.fe; repeat' first | exact rfl | (refine @id.{0} _ ?_; constructor))
  | intro _
  | exact rfl
  | (refine @id.{0} _ ?_; constructor)
  | apply Dk.any (id:=1) 14 [] [] [[],[0],[],[2],[2,3],[],[5],[2,3,4,5,6],[],[8],[2,3,4,5,6,7,8,9],[],[11],[2,3,4,5,6,7,8,9,10,11,12]] (by kernel_rfl)
  | apply wW
  | apply Yy
  | exact ()
theorem YK {x0:aI} {aV bE aP aO:Value} {x1:aI} {bY cH bJ bD:Value}:Ct Tryz.prog 110 true (jY x0 x1) [.agg #[.int .i64 (x0.aA),aV,bE,aP,aO],.agg #[.int .i64 (x1.aA),bY,cH,bJ,bD]] [rI aV x0.aG,rI bE x0.To,rI aP x0.aJ,rJ aO x0.aE,rI bY x1.aG,rI cH x1.To,rI bJ x1.aJ,rJ bD x1.aE] (fun y (v:Value×Value×Value×Value)=>[.agg #[.int .i64 y.aA,v.1,v.2.1,v.2.2.1,v.2.2.2]]) (fun y v=>[.own (aL 2 (aN .i64)) v.1 y.aG,.own (aL 2 (aN .i64)) v.2.1 y.To,.own (aL 2 (aN .i64)) v.2.2.1 y.aJ,.own (aL 24 (aL 2 (aN .i64))) v.2.2.2 y.aE]):=by
 refine ct (S:=Unit) (b9 fun _ _=>rfl) Tryz.func110 rfl rfl ?_
 repeat' first
  | (apply Dk.fe; repeat' first | exact rfl | (refine @id.{0} _ ?_; constructor))
  | intro _
  | exact rfl
  | apply Dk.apR (d:=69)
  | apply Dk.ixH (d:=70)
  | apply Dk.stR (e:=24) (t:=24)
  | (refine @id.{0} _ ?_; constructor)
  | apply Dk.jg 0 (V:=Value) (A:=Nat×Value×Value×Value) (_,_,_,_) (fun a (s:Int×(List Int)) v=>Dk.pc (fun a0=>Dk.pc (fun a1=>Dk.pc (fun a2 a3=>[.row a0 [.int .i64 (ao (x0.aA+x1.aA)),a1,a2,v,a3] 27,.own (aL 2 (aN .i64)) v s.2]))) a) (fun a s v=>Dk.pc (fun a0=>Dk.pc (fun a1=>Dk.pc (fun a2 a3=>[(7,.pointer (some ⟨a0,0,none⟩)),(8,.int .i64 (s.1))]))) a) _ [(3,_),(4,_),(5,_),(6,_)]
  | apply Dk.jg 2 (V:=Unit) (A:=Value) _ (fun a (s:Int×(List (List Int))) v=>[.own (aL 24 (aL 2 (aN .i64))) a s.2]) (fun a s v=>[(9,.int .i64 (s.1))]) () [(3,_),(4,_),(5,_),(6,_),(7,_)]
  | apply Dk.jg 4 (V:=Unit) (A:=Value) _ (fun a (s:Int×(List (List Int))) v=>[.own (aL 24 (aL 2 (aN .i64))) a s.2]) (fun a s v=>[(10,.int .i64 (s.1))]) () [(3,_),(4,_),(5,_),(6,_),(7,_),(9,_)]
  | apply Dk.jg 6 (V:=Value×Value×Value) (A:=Nat×Value) (_,_) (fun a (s:Int×(List Int)×(List Int)×(List (List Int))) v=>Dk.pc (fun a0 a1=>[.row a0 [.int .i64 (ao (x0.aA+x1.aA)),v.1,v.2.1,a1,v.2.2] 27,.own (aL 2 (aN .i64)) v.1 s.2.1,.own (aL 2 (aN .i64)) v.2.1 s.2.2.1,.own (aL 24 (aL 2 (aN .i64))) v.2.2 s.2.2.2]) a) (fun a s v=>Dk.pc (fun a0 a1=>[(7,.pointer (some ⟨a0,0,none⟩)),(11,.int .i64 (s.1))]) a) (_,_,_) [(3,_),(4,_),(5,_),(6,_)]
  | apply Dk.loop 8 (V:=Value) (fun (s:(List Int)×Int) v=>[.own (aL 2 (aN .i64)) v s.1]) (fun s v=>[(12,v),(13,.int .i64 (s.2))]) _ [(3,_),(4,_),(5,_),(6,_),(7,_),(11,_)]
  | apply Dk.loop 10 (V:=Value) (fun (s:(List Int)×Int) v=>[.own (aL 2 (aN .i64)) v s.1]) (fun s v=>[(12,v),(14,.int .i64 (s.2))]) _ [(3,_),(4,_),(5,_),(6,_),(7,_),(11,_)]
  | apply Dk.quiet (id:=1) (by kernel_rfl)
  | apply Dk.any (id:=7) 10 [] [] [[],[0],[],[2],[],[2,3,4],[2,3,4,5],[],[2,3,4,5,6,7],[2,3,4,5,6,7,8]] (by kernel_rfl)
  | apply Dk.wK (id:=14) [Dk.aX.own (aL 24 (aL 2 (aN .i64))) _ _] 10 [] [[],[],[],[],[],[],[],[],[],[12]] [[],[0],[],[],[3],[],[3,4,5],[3,4,5,6],[],[3,4,5,6,7,8]] (by kernel_rfl)
  | apply Dk.any (id:=18) 10 [] [] [[],[0],[],[2],[],[2,3,4],[2,3,4,5],[],[2,3,4,5,6,7],[2,3,4,5,6,7,8]] (by kernel_rfl)
  | apply Dk.any (id:=19) 10 [] [] [[],[0],[],[2],[],[2,3,4],[2,3,4,5],[],[2,3,4,5,6,7],[2,3,4,5,6,7,8]] (by kernel_rfl)
  | apply Sg
  | exact ()
theorem afN {x0:aI} {aV bE aP aO:Value} {x1:aI} {bY cH bJ bD:Value}:Ct Tryz.prog 138 true (jF x0 x1) [.agg #[.int .i64 (x0.aA),aV,bE,aP,aO],.agg #[.int .i64 (x1.aA),bY,cH,bJ,bD]] [rI aV x0.aG,rI bE x0.To,rI aP x0.aJ,rJ aO x0.aE,rI bY x1.aG,rI cH x1.To,rI bJ x1.aJ,rJ bD x1.aE] (fun y (v:Value×Value×Value×Value)=>match v with | (q0,q1,q2,q3)=>[.agg #[.int .i64 y.aA,q0,q1,q2,q3]]) (fun y v=>match v with | (q0,q1,q2,q3)=>[.own (aL 2 (aN .i64)) q0 y.aG,.own (aL 2 (aN .i64)) q1 y.To,.own (aL 2 (aN .i64)) q2 y.aJ,.own (aL 24 (aL 2 (aN .i64))) q3 y.aE]):=by
 refine ct (S:=Unit) (b9 fun _ _=>rfl) Tryz.func138 rfl rfl ?_
 repeat' first
  | (apply Dk.fe; repeat' first | exact rfl | (refine @id.{0} _ ?_; constructor))
  | intro _
  | exact rfl
  | (refine Dk.uW (t:=60) rfl ?_ ?_)
  | (refine @id.{0} _ ?_; constructor)
  | apply Dk.jg 0 (V:=Value×Value) (A:=Nat×Value×Value×Value) (_,_,_,_) (fun a (s:Int×(List Int)×(List Int)) v=>Dk.pc (fun a0=>Dk.pc (fun a1=>Dk.pc (fun a2 a3=>[.row a0 [a1,v.1,v.2,a2,a3] 27,.own (aL 2 (aN .i64)) v.1 s.2.1,.own (aL 2 (aN .i64)) v.2 s.2.2]))) a) (fun a s v=>Dk.pc (fun a0=>Dk.pc (fun a1=>Dk.pc (fun a2 a3=>[(5,.pointer (some ⟨a0,0,none⟩)),(7,.int .i64 (s.1))]))) a) (_,_) [(2,_),(3,_),(4,_),(6,_)]
  | apply Dk.jg 2 (V:=Value×Value) (A:=Nat×Value×Value×Value) (_,_,_,_) (fun a (s:Int×(List Int)×(List Int)) v=>Dk.pc (fun a0=>Dk.pc (fun a1=>Dk.pc (fun a2 a3=>[.row a0 [a1,v.1,v.2,a2,a3] 27,.own (aL 2 (aN .i64)) v.1 s.2.1,.own (aL 2 (aN .i64)) v.2 s.2.2]))) a) (fun a s v=>Dk.pc (fun a0=>Dk.pc (fun a1=>Dk.pc (fun a2 a3=>[(5,.pointer (some ⟨a0,0,none⟩)),(8,.int .i64 (s.1))]))) a) (_,_) [(2,_),(3,_),(4,_),(6,_),(7,_)]
  | apply Dk.loop 4 (V:=Value) (fun (s:(List (List Int))×Int) v=>[.own (aL 24 (aL 2 (aN .i64))) v s.1]) (fun s v=>[(9,v),(10,.int .i64 (s.2))]) _ [(2,_),(3,_),(4,_),(5,_),(6,_)]
  | apply Dk.loop 6 (V:=Value) (fun (s:(List Int)×Int) v=>[.own (aL 2 (aN .i64)) v s.1]) (fun s v=>[(11,v),(12,.int .i64 (s.2))]) _ [(2,_),(3,_),(4,_),(5,_),(6,_),(9,_),(10,_)]
  | apply Dk.quiet (id:=20) (by kernel_rfl)
  | apply Dk.quiet (id:=21) (by kernel_rfl)
  | apply YK
  | exact ()
theorem Hv {x0:aI} {aV bE aP aO:Value} {x1:aI} {bY cH bJ bD:Value} {x2:(List Int)} {eA:Value} {x3:(List Int)} {iI:Value}:Ct Tryz.prog 90 true (gE x0 x1 x2 x3) [.agg #[.int .i64 (x0.aA),aV,bE,aP,aO],.agg #[.int .i64 (x1.aA),bY,cH,bJ,bD],eA,iI] [rI aV x0.aG,rI bE x0.To,rI aP x0.aJ,rJ aO x0.aE,rI bY x1.aG,rI cH x1.To,rI bJ x1.aJ,rJ bD x1.aE,rI eA x2,rI iI x3] (fun y (v:Value×Value×Value×Value×Value×Value×Value×Value×Value×Value)=>[.agg #[.int .i64 y.aB.aA,v.1,v.2.1,v.2.2.1,v.2.2.2.1,.int .i64 y.aH.aA,v.2.2.2.2.1,v.2.2.2.2.2.1,v.2.2.2.2.2.2.1,v.2.2.2.2.2.2.2.1,v.2.2.2.2.2.2.2.2.1,v.2.2.2.2.2.2.2.2.2]]) (fun y v=>[.own (aL 2 (aN .i64)) v.1 y.aB.aG,.own (aL 2 (aN .i64)) v.2.1 y.aB.To,.own (aL 2 (aN .i64)) v.2.2.1 y.aB.aJ,.own (aL 24 (aL 2 (aN .i64))) v.2.2.2.1 y.aB.aE,.own (aL 2 (aN .i64)) v.2.2.2.2.1 y.aH.aG,.own (aL 2 (aN .i64)) v.2.2.2.2.2.1 y.aH.To,.own (aL 2 (aN .i64)) v.2.2.2.2.2.2.1 y.aH.aJ,.own (aL 24 (aL 2 (aN .i64))) v.2.2.2.2.2.2.2.1 y.aH.aE,.own (aL 2 (aN .i64)) v.2.2.2.2.2.2.2.2.1 y.aA,.own (aL 2 (aN .i64)) v.2.2.2.2.2.2.2.2.2 y.ab]):=by
 refine ct (S:=Unit) (b9 fun _ _=>rfl) Tryz.func90 rfl rfl ?_
 repeat' first
  | (apply Dk.fe; repeat' first | exact rfl | (refine @id.{0} _ ?_; constructor))
  | intro _
  | exact rfl
  | (refine @id.{0} _ ?_; constructor)
  | apply Dk.any (id:=1) 7 [] [] [[],[0],[],[0,1,2],[],[0,1,2,3,4],[]] (by kernel_rfl)
  | apply Sg
  | apply wW
  | exact ()
theorem YL {rc:aI→aI→(List Int)→(List aQ)→Option ((List aQ))} (ih:∀ {x0:aI} {aV bE aP aO:Value} {x1:aI} {bY cH bJ bD:Value} {x2:(List Int)} {eA:Value} {x3:(List aQ)} {iI:Value},Ct Tryz.prog 139 true (rc x0 x1 x2 x3) [.agg #[.int .i64 (x0.aA),aV,bE,aP,aO],.agg #[.int .i64 (x1.aA),bY,cH,bJ,bD],eA,iI] [rI aV x0.aG,rI bE x0.To,rI aP x0.aJ,rJ aO x0.aE,rI bY x1.aG,rI cH x1.To,rI bJ x1.aJ,rJ bD x1.aE,rI eA x2,.own (aL 29 uo) iI x3] (fun y (v:Value)=>[v]) (fun y v=>[.own (aL 29 uo) v y])) {x0:aI} {aV bE aP aO:Value} {x1:aI} {bY cH bJ bD:Value} {x2:(List Int)} {eA:Value} {x3:(List aQ)} {iI:Value}:Ct Tryz.prog 139 true (mD rc x0 x1 x2 x3) [.agg #[.int .i64 (x0.aA),aV,bE,aP,aO],.agg #[.int .i64 (x1.aA),bY,cH,bJ,bD],eA,iI] [rI aV x0.aG,rI bE x0.To,rI aP x0.aJ,rJ aO x0.aE,rI bY x1.aG,rI cH x1.To,rI bJ x1.aJ,rJ bD x1.aE,rI eA x2,.own (aL 29 uo) iI x3] (fun y (v:Value)=>[v]) (fun y v=>[.own (aL 29 uo) v y]):=by
 refine ct (S:=Unit) (b9 fun _ _=>rfl) Tryz.func139 rfl rfl ?_
 repeat' first
  | (apply Dk.fe; repeat' first | exact rfl | (refine @id.{0} _ ?_; constructor))
  | intro _
  | exact rfl
  | apply Dk.S5 (t:=146)
  | apply ih
  | apply Dk.apO (t:=146) (S:=uo) (aQ.mk (aI.mk _ _ _ _ _) (aI.mk _ _ _ _ _) _ _)
  | (refine @id.{0} _ ?_; constructor)
  | apply Dk.loop 0 (V:=Value) (fun (s:(List Int)×Int) v=>[.own (aL 2 (aN .i64)) v s.1]) (fun s v=>[(9,v),(10,.int .i64 (s.2))]) _ [(2,_),(3,_),(4,_),(5,_)]
  | apply Dk.jg 2 (V:=Unit) (A:=Value) _ (fun a (s:Int×(List Int)) v=>[.own (aL 2 (aN .i64)) a s.2]) (fun a s v=>[(9,a),(11,.int .i64 (s.1))]) () [(2,_),(3,_),(4,_),(5,_)]
  | apply Dk.loop 4 (V:=Value) (fun (s:(List aQ)×Int) v=>[.own (aL 29 uo) v s.1]) (fun s v=>[(3,v),(13,.int .i64 (s.2))]) _ [(2,_),(4,_),(5,_),(12,_)]
  | apply Dk.loop 6 (V:=Value) (fun (s:(List aQ)×Int) v=>[.own (aL 29 uo) v s.1]) (fun s v=>[(3,v),(14,.int .i64 (s.2))]) _ [(2,_),(4,_),(5,_)]
  | apply Dk.any (id:=12) 14 [] [] [[],[],[1],[],[1,2,3],[1,2,3,4],[],[6],[],[],[8,9],[8,9,10],[6,7,8,9,10,11],[6,7,8,9,10,11,12]] (by kernel_rfl)
  | apply Dk.any (id:=22) 8 [] [[],[],[],[],[],[],[3],[]] [[],[],[],[2],[],[4],[2,3,4,5],[]] (by kernel_rfl)
  | apply Dk.S8 (id:=17) [(0,8)] 8 rfl (by kernel_rfl)
  | apply afl
  | apply afn
  | apply Hv
  | apply wW
  | exact ()
theorem YM (n:Nat):∀ {x0:aI} {aV bE aP aO:Value} {x1:aI} {bY cH bJ bD:Value} {x2:(List Int)} {eA:Value} {x3:(List aQ)} {iI:Value},Ct Tryz.prog 139 true (jA n x0 x1 x2 x3) [.agg #[.int .i64 (x0.aA),aV,bE,aP,aO],.agg #[.int .i64 (x1.aA),bY,cH,bJ,bD],eA,iI] [rI aV x0.aG,rI bE x0.To,rI aP x0.aJ,rJ aO x0.aE,rI bY x1.aG,rI cH x1.To,rI bJ x1.aJ,rJ bD x1.aE,rI eA x2,.own (aL 29 uo) iI x3] (fun y (v:Value)=>[v]) (fun y v=>[.own (aL 29 uo) v y]):=by
 induction n with
 | zero=>intros; rw [u2]; exact ⟨(b9 fun _ _=>rfl),fun _ _ _ _ _ _ _ y hy=>nomatch (show none=some y from hy)⟩
 | succ n ih=>exact YL ih
theorem YN {x0:aI} {aV bE aP aO:Value} {x1:aI} {bY cH bJ bD:Value} {x2:(List Int)} {eA:Value} {x3:(List aQ)} {iI:Value}:Ct Tryz.prog 139 true (jA 64 x0 x1 x2 x3) [.agg #[.int .i64 (x0.aA),aV,bE,aP,aO],.agg #[.int .i64 (x1.aA),bY,cH,bJ,bD],eA,iI] [rI aV x0.aG,rI bE x0.To,rI aP x0.aJ,rJ aO x0.aE,rI bY x1.aG,rI cH x1.To,rI bJ x1.aJ,rJ bD x1.aE,rI eA x2,.own (aL 29 uo) iI x3] (fun y (v:Value)=>[v]) (fun y v=>[.own (aL 29 uo) v y]):=by
 exact YM 64
theorem Pt {x0:aI} {aV bE aP aO:Value}:Ct Tryz.prog 62 true (eK x0) [.agg #[.int .i64 (x0.aA),aV,bE,aP,aO]] [rI aV x0.aG,rI bE x0.To,rI aP x0.aJ,rJ aO x0.aE] (fun y (v:Value×Value×Value×Value×Value×Value×Value×Value×Value×Value)=>[.agg #[.int .i64 y.aB.aA,v.1,v.2.1,v.2.2.1,v.2.2.2.1,.int .i64 y.aH.aA,v.2.2.2.2.1,v.2.2.2.2.2.1,v.2.2.2.2.2.2.1,v.2.2.2.2.2.2.2.1,v.2.2.2.2.2.2.2.2.1,v.2.2.2.2.2.2.2.2.2]]) (fun y v=>[.own (aL 2 (aN .i64)) v.1 y.aB.aG,.own (aL 2 (aN .i64)) v.2.1 y.aB.To,.own (aL 2 (aN .i64)) v.2.2.1 y.aB.aJ,.own (aL 24 (aL 2 (aN .i64))) v.2.2.2.1 y.aB.aE,.own (aL 2 (aN .i64)) v.2.2.2.2.1 y.aH.aG,.own (aL 2 (aN .i64)) v.2.2.2.2.2.1 y.aH.To,.own (aL 2 (aN .i64)) v.2.2.2.2.2.2.1 y.aH.aJ,.own (aL 24 (aL 2 (aN .i64))) v.2.2.2.2.2.2.2.1 y.aH.aE,.own (aL 2 (aN .i64)) v.2.2.2.2.2.2.2.2.1 y.aA,.own (aL 2 (aN .i64)) v.2.2.2.2.2.2.2.2.2 y.ab]):=by
 refine ct (S:=Unit) (b9 fun _ _=>rfl) Tryz.func62 rfl rfl ?_
 repeat' first
  | (apply Dk.fe; repeat' first | exact rfl | (refine @id.{0} _ ?_; constructor))
  | intro _
  | exact rfl
  | (refine @id.{0} _ ?_; constructor)
  | apply Dk.loop 0 (V:=Value) (fun (s:(List Int)×Int) v=>[.own (aL 2 (aN .i64)) v s.1]) (fun s v=>[(3,v),(5,.int .i64 (s.2))]) _ [(1,_),(2,_),(4,_)]
  | apply Dk.loop 2 (V:=Value) (fun (s:(List Int)×Int) v=>[.own (aL 2 (aN .i64)) v s.1]) (fun s v=>[(4,v),(6,.int .i64 (s.2))]) _ [(1,_),(2,_),(3,_)]
  | apply Hv
  | exact ()
theorem c91 {x0:aQ} {bK bQ aZ aW bL bR bA aY bU bZ:Value} {x1:aQ} {cV dE cI cE cW dF cJ cF dP dT:Value}:Ct Tryz.prog 91 true (jG x0 x1) [.agg #[.int .i64 (x0.aB.aA),bK,bQ,aZ,aW,.int .i64 (x0.aH.aA),bL,bR,bA,aY,bU,bZ],.agg #[.int .i64 (x1.aB.aA),cV,dE,cI,cE,.int .i64 (x1.aH.aA),cW,dF,cJ,cF,dP,dT]] [rI bK x0.aB.aG,rI bQ x0.aB.To,rI aZ x0.aB.aJ,rJ aW x0.aB.aE,rI bL x0.aH.aG,rI bR x0.aH.To,rI bA x0.aH.aJ,rJ aY x0.aH.aE,rI bU x0.aA,rI bZ x0.ab,rI cV x1.aB.aG,rI dE x1.aB.To,rI cI x1.aB.aJ,rJ cE x1.aB.aE,rI cW x1.aH.aG,rI dF x1.aH.To,rI cJ x1.aH.aJ,rJ cF x1.aH.aE,rI dP x1.aA,rI dT x1.ab] (fun y (v:Value×Value×Value×Value×Value×Value×Value×Value×Value×Value)=>[.agg #[.int .i64 y.aB.aA,v.1,v.2.1,v.2.2.1,v.2.2.2.1,.int .i64 y.aH.aA,v.2.2.2.2.1,v.2.2.2.2.2.1,v.2.2.2.2.2.2.1,v.2.2.2.2.2.2.2.1,v.2.2.2.2.2.2.2.2.1,v.2.2.2.2.2.2.2.2.2]]) (fun y v=>[.own (aL 2 (aN .i64)) v.1 y.aB.aG,.own (aL 2 (aN .i64)) v.2.1 y.aB.To,.own (aL 2 (aN .i64)) v.2.2.1 y.aB.aJ,.own (aL 24 (aL 2 (aN .i64))) v.2.2.2.1 y.aB.aE,.own (aL 2 (aN .i64)) v.2.2.2.2.1 y.aH.aG,.own (aL 2 (aN .i64)) v.2.2.2.2.2.1 y.aH.To,.own (aL 2 (aN .i64)) v.2.2.2.2.2.2.1 y.aH.aJ,.own (aL 24 (aL 2 (aN .i64))) v.2.2.2.2.2.2.2.1 y.aH.aE,.own (aL 2 (aN .i64)) v.2.2.2.2.2.2.2.2.1 y.aA,.own (aL 2 (aN .i64)) v.2.2.2.2.2.2.2.2.2 y.ab]):=by
 refine ct (S:=Unit) (b9 fun _ _=>rfl) Tryz.func91 rfl rfl ?_
 repeat' first
  | (apply Dk.fe; repeat' first | exact rfl | (refine @id.{0} _ ?_; constructor))
  | intro _
  | exact rfl
  | (refine @id.{0} _ ?_; constructor)
  | apply Dk.any (id:=1) 14 [] [] [[],[0],[],[2],[],[4],[],[6],[4,5,6,7],[],[9],[],[11],[4,5,6,7,8,9,10,11,12]] (by kernel_rfl)
  | apply afy
  | apply Hv
  | exact ()
theorem YO {x0:aQ} {bK bQ aZ aW bL bR bA aY bU bZ:Value}:Ct Tryz.prog 115 true (lN x0) [.agg #[.int .i64 (x0.aB.aA),bK,bQ,aZ,aW,.int .i64 (x0.aH.aA),bL,bR,bA,aY,bU,bZ]] [rI bK x0.aB.aG,rI bQ x0.aB.To,rI aZ x0.aB.aJ,rJ aW x0.aB.aE,rI bL x0.aH.aG,rI bR x0.aH.To,rI bA x0.aH.aJ,rJ aY x0.aH.aE,rI bU x0.aA,rI bZ x0.ab] (fun y (v:Value×Value×Value×Value×Value×Value×Value×Value×Value×Value)=>[.agg #[.int .i64 y.aB.aA,v.1,v.2.1,v.2.2.1,v.2.2.2.1,.int .i64 y.aH.aA,v.2.2.2.2.1,v.2.2.2.2.2.1,v.2.2.2.2.2.2.1,v.2.2.2.2.2.2.2.1,v.2.2.2.2.2.2.2.2.1,v.2.2.2.2.2.2.2.2.2]]) (fun y v=>[.own (aL 2 (aN .i64)) v.1 y.aB.aG,.own (aL 2 (aN .i64)) v.2.1 y.aB.To,.own (aL 2 (aN .i64)) v.2.2.1 y.aB.aJ,.own (aL 24 (aL 2 (aN .i64))) v.2.2.2.1 y.aB.aE,.own (aL 2 (aN .i64)) v.2.2.2.2.1 y.aH.aG,.own (aL 2 (aN .i64)) v.2.2.2.2.2.1 y.aH.To,.own (aL 2 (aN .i64)) v.2.2.2.2.2.2.1 y.aH.aJ,.own (aL 24 (aL 2 (aN .i64))) v.2.2.2.2.2.2.2.1 y.aH.aE,.own (aL 2 (aN .i64)) v.2.2.2.2.2.2.2.2.1 y.aA,.own (aL 2 (aN .i64)) v.2.2.2.2.2.2.2.2.2 y.ab]):=by
 refine ct (S:=Unit) (b9 fun _ _=>rfl) Tryz.func115 rfl rfl ?_
 repeat' first
  | (apply Dk.fe; repeat' first | exact rfl | (refine @id.{0} _ ?_; constructor))
  | intro _
  | exact rfl
  | (refine @id.{0} _ ?_; constructor)
  | apply Hv
  | exact ()
theorem afO {x0:aI} {aV bE aP aO:Value} {x1:aI} {bY cH bJ bD:Value} {x2:Int}:Ct Tryz.prog 121 true (kP x0 x1 x2) [.agg #[.int .i64 (x0.aA),aV,bE,aP,aO],.agg #[.int .i64 (x1.aA),bY,cH,bJ,bD],.int .i64 (x2)] [rI aV x0.aG,rI bE x0.To,rI aP x0.aJ,rJ aO x0.aE,rI bY x1.aG,rI cH x1.To,rI bJ x1.aJ,rJ bD x1.aE] (fun y (v:Value×Value×Value×Value×Value×Value×Value×Value×Value×Value)=>[.agg #[.int .i64 y.aB.aA,v.1,v.2.1,v.2.2.1,v.2.2.2.1,.int .i64 y.aH.aA,v.2.2.2.2.1,v.2.2.2.2.2.1,v.2.2.2.2.2.2.1,v.2.2.2.2.2.2.2.1,v.2.2.2.2.2.2.2.2.1,v.2.2.2.2.2.2.2.2.2]]) (fun y v=>[.own (aL 2 (aN .i64)) v.1 y.aB.aG,.own (aL 2 (aN .i64)) v.2.1 y.aB.To,.own (aL 2 (aN .i64)) v.2.2.1 y.aB.aJ,.own (aL 24 (aL 2 (aN .i64))) v.2.2.2.1 y.aB.aE,.own (aL 2 (aN .i64)) v.2.2.2.2.1 y.aH.aG,.own (aL 2 (aN .i64)) v.2.2.2.2.2.1 y.aH.To,.own (aL 2 (aN .i64)) v.2.2.2.2.2.2.1 y.aH.aJ,.own (aL 24 (aL 2 (aN .i64))) v.2.2.2.2.2.2.2.1 y.aH.aE,.own (aL 2 (aN .i64)) v.2.2.2.2.2.2.2.2.1 y.aA,.own (aL 2 (aN .i64)) v.2.2.2.2.2.2.2.2.2 y.ab]):=by
 refine ct (S:=Unit) (b9 fun _ _=>rfl) Tryz.func121 rfl rfl ?_
 repeat' first
  | (apply Dk.fe; repeat' first | exact rfl | (refine @id.{0} _ ?_; constructor))
  | intro _
  | exact rfl
  | (refine @id.{0} _ ?_; constructor)
  | apply Dk.loop 0 (V:=Value) (fun (s:(List Int)×Int) v=>[.own (aL 2 (aN .i64)) v s.1]) (fun s v=>[(7,v),(9,.int .i64 (s.2))]) _ [(2,_),(3,_),(4,_),(6,_),(8,_)]
  | apply Dk.loop 2 (V:=Value) (fun (s:(List Int)×Int) v=>[.own (aL 2 (aN .i64)) v s.1]) (fun s v=>[(8,v),(10,.int .i64 (s.2))]) _ [(2,_),(3,_),(4,_),(6,_),(7,_)]
  | apply Hv
  | exact ()
theorem YP {x0:aQ} {bK bQ aZ aW bL bR bA aY bU bZ:Value}:Ct Tryz.prog 119 true (mE x0) [.agg #[.int .i64 (x0.aB.aA),bK,bQ,aZ,aW,.int .i64 (x0.aH.aA),bL,bR,bA,aY,bU,bZ]] [rI bK x0.aB.aG,rI bQ x0.aB.To,rI aZ x0.aB.aJ,rJ aW x0.aB.aE,rI bL x0.aH.aG,rI bR x0.aH.To,rI bA x0.aH.aJ,rJ aY x0.aH.aE,rI bU x0.aA,rI bZ x0.ab] (fun y (v:Value×Value×Value×Value×Value×Value×Value×Value×Value×Value)=>[.agg #[.int .i64 y.aB.aA,v.1,v.2.1,v.2.2.1,v.2.2.2.1,.int .i64 y.aH.aA,v.2.2.2.2.1,v.2.2.2.2.2.1,v.2.2.2.2.2.2.1,v.2.2.2.2.2.2.2.1,v.2.2.2.2.2.2.2.2.1,v.2.2.2.2.2.2.2.2.2]]) (fun y v=>[.own (aL 2 (aN .i64)) v.1 y.aB.aG,.own (aL 2 (aN .i64)) v.2.1 y.aB.To,.own (aL 2 (aN .i64)) v.2.2.1 y.aB.aJ,.own (aL 24 (aL 2 (aN .i64))) v.2.2.2.1 y.aB.aE,.own (aL 2 (aN .i64)) v.2.2.2.2.1 y.aH.aG,.own (aL 2 (aN .i64)) v.2.2.2.2.2.1 y.aH.To,.own (aL 2 (aN .i64)) v.2.2.2.2.2.2.1 y.aH.aJ,.own (aL 24 (aL 2 (aN .i64))) v.2.2.2.2.2.2.2.1 y.aH.aE,.own (aL 2 (aN .i64)) v.2.2.2.2.2.2.2.2.1 y.aA,.own (aL 2 (aN .i64)) v.2.2.2.2.2.2.2.2.2 y.ab]):=by
 refine ct (S:=Unit) (b9 fun _ _=>rfl) Tryz.func119 rfl rfl ?_
 repeat' first
  | (apply Dk.fe; repeat' first | exact rfl | (refine @id.{0} _ ?_; constructor))
  | intro _
  | exact rfl
  | (refine @id.{0} _ ?_; constructor)
  | apply Dk.any (id:=1) 10 [] [] [[],[0],[0,1],[],[3],[0,1,2,3,4],[],[6],[],[8]] (by kernel_rfl)
  | apply Yz
  | apply Hv
  | exact ()
theorem c85 {x0:aK} {dG:Nat} {cC:Value} {x1:aI} {bY cH bJ bD:Value}:Ct Tryz.prog 85 false (qU x0 x1) [.pointer (some (⟨dG,0,none⟩)),.agg #[.int .i64 (x1.aA),bY,cH,bJ,bD]] [.row dG [cC,.int .i64 (x0.At),.int .u64 (x0.av)] 91,.rd false (bH (aN .u8)) cC x0.Code,rI bY x1.aG,rI cH x1.To,rI bJ x1.aJ,rJ bD x1.aE] (fun y (v:Value×Value×Value×Value)=>[.agg #[.int .i64 y.1.aA,v.1,v.2.1,v.2.2.1,v.2.2.2]]) (fun y v=>[rI v.1 y.1.aG,rI v.2.1 y.1.To,rI v.2.2.1 y.1.aJ,rJ v.2.2.2 y.1.aE,.row dG [cC,.int .i64 y.2.At,.int .u64 y.2.av] 91]):=by
 refine ct (S:=Unit) B6 Tryz.func85 rfl rfl ?_
 repeat' first
  | (apply Dk.fe; repeat' first | exact rfl | (refine @id.{0} _ ?_; constructor))
  | intro _
  | exact rfl
  | (refine Dk.uW (t:=58) rfl ?_ ?_)
  | apply Dk.slT (t:=24)
  | apply Dk.stN
  | (refine @id.{0} _ ?_; constructor)
  | apply Dk.wK (id:=13) [Dk.aX.row _ _ 91] 6 [] [[],[],[],[],[],[8]] [[],[0],[],[],[3],[2,3,4]] (by kernel_rfl)
  | apply Dk.wK (id:=18) [Dk.aX.row _ _ 91] 13 [] [[],[],[],[],[],[],[],[15],[],[],[],[7],[]] [[],[0],[],[0,1,2],[0,1,2,3],[],[],[5,6],[],[],[9],[5,6,7,8,9,10],[5,6,8,9,10,11]] (by kernel_rfl)
  | apply Dk.wK (id:=21) [Dk.aX.row _ _ 91] 8 [] [[],[],[],[],[],[],[],[10]] [[],[0],[],[],[],[4],[4,5],[3,4,5,6]] (by kernel_rfl)
  | apply Dk.Zz (id:=6) 9 (e:=24) (e2:=2) (T:=(aN .i64)) (by kernel_rfl)
  | apply Sg
  | apply zu
  | apply c58
  | exact ()
end Go.Proofs.YtilhlobfebngdaaGreat
