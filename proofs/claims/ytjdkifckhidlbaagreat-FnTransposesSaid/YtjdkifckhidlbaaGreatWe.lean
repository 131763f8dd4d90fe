/- Walks by the calculus D. No condition beside those that each theorem names. -/
import Derived.Test.YtjdkifckhidlbaaGreatDp
import Derived.Test.YtjdkifckhidlbaaGreatDi
import Derived.Test.YtjdkifckhidlbaaGreatMo
import Derived.Test.YtjdkifckhidlbaaGreatDs
import Derived.Test.YtjdkifckhidlbaaGreatWa
import Derived.Test.YtjdkifckhidlbaaGreatWb
import Derived.Test.YtjdkifckhidlbaaGreatWc
namespace Go.Proofs.YtjdkifckhidlbaaGreat
open Go Go.Li Go.Dk
set_option linter.unusedVariables false
set_option maxHeartbeats 16000000
set_option maxRecDepth 100000
theorem NR {x0:aI} {aQ bF aO aM:Value}:Ct Tryz.prog 182 true (jP x0) [.agg #[.int .i64 (x0.aA),aQ,bF,aO,aM]] [rI aQ x0.aG,rI bF x0.To,rI aO x0.aJ,rJ aM x0.aB] (fun y (v:Value×Value×Value×Value)=>[.agg #[.int .i64 y.aA,v.1,v.2.1,v.2.2.1,v.2.2.2]]) (fun y v=>[.own (aL 2 (aN .i64)) v.1 y.aG,.own (aL 2 (aN .i64)) v.2.1 y.To,.own (aL 2 (aN .i64)) v.2.2.1 y.aJ,.own (aL 24 (aL 2 (aN .i64))) v.2.2.2 y.aB]):=by
 refine ct (S:=Unit) (bw fun _ _=>rfl) Tryz.func182 rfl rfl ?_
 repeat' first
  | (apply Dk.fe; repeat' first | exact rfl | (refine @id.{0} _ ?_; constructor))
  | intro _
  | exact rfl
  | (refine @id.{0} _ ?_; constructor)
  | apply Dk.any (id:=1) 14 [] [] [[],[0],[],[2],[2,3],[],[5],[2,3,4,5,6],[],[8],[2,3,4,5,6,7,8,9],[],[11],[2,3,4,5,6,7,8,9,10,11,12]] (by kernel_rfl)
  | apply xw
  | apply T1
  | exact ()
theorem WZ {x0:aI} {aQ bF aO aM:Value} {x1:aI} {cE cL bJ bC:Value}:Ct Tryz.prog 99 true (iL x0 x1) [.agg #[.int .i64 (x0.aA),aQ,bF,aO,aM],.agg #[.int .i64 (x1.aA),cE,cL,bJ,bC]] [rI aQ x0.aG,rI bF x0.To,rI aO x0.aJ,rJ aM x0.aB,rI cE x1.aG,rI cL x1.To,rI bJ x1.aJ,rJ bC x1.aB] (fun y (v:Value×Value×Value×Value)=>[.agg #[.int .i64 y.aA,v.1,v.2.1,v.2.2.1,v.2.2.2]]) (fun y v=>[.own (aL 2 (aN .i64)) v.1 y.aG,.own (aL 2 (aN .i64)) v.2.1 y.To,.own (aL 2 (aN .i64)) v.2.2.1 y.aJ,.own (aL 24 (aL 2 (aN .i64))) v.2.2.2 y.aB]):=by
 refine ct (S:=Unit) (bw fun _ _=>rfl) Tryz.func99 rfl rfl ?_
 repeat' first
  | (apply Dk.fe; repeat' first | exact rfl | (refine @id.{0} _ ?_; constructor))
  | intro _
  | exact rfl
  | apply Dk.Wu (d:=69)
  | apply Dk.ixH (d:=70)
  | apply Dk.stR (e:=24) (t:=24)
  | (refine @id.{0} _ ?_; constructor)
  | apply Dk.js 0 (V:=Value) (A:=Nat×Value×Value×Value) (_,_,_,_) (fun a (s:Int×(List Int)) v=>Dk.pc (fun a0=>Dk.pc (fun a1=>Dk.pc (fun a2 a3=>[.row a0 [.int .i64 (an (x0.aA+x1.aA)),a1,a2,v,a3] 27,.own (aL 2 (aN .i64)) v s.2]))) a) (fun a s v=>Dk.pc (fun a0=>Dk.pc (fun a1=>Dk.pc (fun a2 a3=>[(7,.pointer (some ⟨a0,0,none⟩)),(8,.int .i64 (s.1))]))) a) _ [(3,_),(4,_),(5,_),(6,_)]
  | apply Dk.js 2 (V:=Unit) (A:=Value) _ (fun a (s:Int×(List (List Int))) v=>[.own (aL 24 (aL 2 (aN .i64))) a s.2]) (fun a s v=>[(9,.int .i64 (s.1))]) () [(3,_),(4,_),(5,_),(6,_),(7,_)]
  | apply Dk.js 4 (V:=Unit) (A:=Value) _ (fun a (s:Int×(List (List Int))) v=>[.own (aL 24 (aL 2 (aN .i64))) a s.2]) (fun a s v=>[(10,.int .i64 (s.1))]) () [(3,_),(4,_),(5,_),(6,_),(7,_),(9,_)]
  | apply Dk.js 6 (V:=Value×Value×Value) (A:=Nat×Value) (_,_) (fun a (s:Int×(List Int)×(List Int)×(List (List Int))) v=>Dk.pc (fun a0 a1=>[.row a0 [.int .i64 (an (x0.aA+x1.aA)),v.1,v.2.1,a1,v.2.2] 27,.own (aL 2 (aN .i64)) v.1 s.2.1,.own (aL 2 (aN .i64)) v.2.1 s.2.2.1,.own (aL 24 (aL 2 (aN .i64))) v.2.2 s.2.2.2]) a) (fun a s v=>Dk.pc (fun a0 a1=>[(7,.pointer (some ⟨a0,0,none⟩)),(11,.int .i64 (s.1))]) a) (_,_,_) [(3,_),(4,_),(5,_),(6,_)]
  | apply Dk.loop 8 (V:=Value) (fun (s:(List Int)×Int) v=>[.own (aL 2 (aN .i64)) v s.1]) (fun s v=>[(12,v),(13,.int .i64 (s.2))]) _ [(3,_),(4,_),(5,_),(6,_),(7,_),(11,_)]
  | apply Dk.loop 10 (V:=Value) (fun (s:(List Int)×Int) v=>[.own (aL 2 (aN .i64)) v s.1]) (fun s v=>[(12,v),(14,.int .i64 (s.2))]) _ [(3,_),(4,_),(5,_),(6,_),(7,_),(11,_)]
  | apply Dk.quiet (id:=1) (by kernel_rfl)
  | apply Dk.any (id:=7) 10 [] [] [[],[0],[],[2],[],[2,3,4],[2,3,4,5],[],[2,3,4,5,6,7],[2,3,4,5,6,7,8]] (by kernel_rfl)
  | apply Dk.vj (id:=14) [Dk.aw.own (aL 24 (aL 2 (aN .i64))) _ _] 10 [] [[],[],[],[],[],[],[],[],[],[12]] [[],[0],[],[],[3],[],[3,4,5],[3,4,5,6],[],[3,4,5,6,7,8]] (by kernel_rfl)
  | apply Dk.any (id:=18) 10 [] [] [[],[0],[],[2],[],[2,3,4],[2,3,4,5],[],[2,3,4,5,6,7],[2,3,4,5,6,7,8]] (by kernel_rfl)
  | apply Dk.any (id:=19) 10 [] [] [[],[0],[],[2],[],[2,3,4],[2,3,4,5],[],[2,3,4,5,6,7],[2,3,4,5,6,7,8]] (by kernel_rfl)
  | apply NR
  | exact ()
theorem abl {x0:aI} {aQ bF aO aM:Value} {x1:aI} {cE cL bJ bC:Value}:Ct Tryz.prog 272 true (gX x0 x1) [.agg #[.int .i64 (x0.aA),aQ,bF,aO,aM],.agg #[.int .i64 (x1.aA),cE,cL,bJ,bC]] [rI aQ x0.aG,rI bF x0.To,rI aO x0.aJ,rJ aM x0.aB,rI cE x1.aG,rI cL x1.To,rI bJ x1.aJ,rJ bC x1.aB] (fun y (v:Value×Value×Value×Value)=>match v with | (q0,q1,q2,q3)=>[.agg #[.int .i64 y.aA,q0,q1,q2,q3]]) (fun y v=>match v with | (q0,q1,q2,q3)=>[.own (aL 2 (aN .i64)) q0 y.aG,.own (aL 2 (aN .i64)) q1 y.To,.own (aL 2 (aN .i64)) q2 y.aJ,.own (aL 24 (aL 2 (aN .i64))) q3 y.aB]):=by
 refine ct (S:=Unit) (bw fun _ _=>rfl) Tryz.func272 rfl rfl ?_
 repeat' first
  | (apply Dk.fe; repeat' first | exact rfl | (refine @id.{0} _ ?_; constructor))
  | intro _
  | exact rfl
  | (refine Dk.sZ (t:=60) rfl ?_ ?_)
  | (refine @id.{0} _ ?_; constructor)
  | apply Dk.js 0 (V:=Value×Value) (A:=Nat×Value×Value×Value) (_,_,_,_) (fun a (s:Int×(List Int)×(List Int)) v=>Dk.pc (fun a0=>Dk.pc (fun a1=>Dk.pc (fun a2 a3=>[.row a0 [a1,v.1,v.2,a2,a3] 27,.own (aL 2 (aN .i64)) v.1 s.2.1,.own (aL 2 (aN .i64)) v.2 s.2.2]))) a) (fun a s v=>Dk.pc (fun a0=>Dk.pc (fun a1=>Dk.pc (fun a2 a3=>[(5,.pointer (some ⟨a0,0,none⟩)),(7,.int .i64 (s.1))]))) a) (_,_) [(2,_),(3,_),(4,_),(6,_)]
  | apply Dk.js 2 (V:=Value×Value) (A:=Nat×Value×Value×Value) (_,_,_,_) (fun a (s:Int×(List Int)×(List Int)) v=>Dk.pc (fun a0=>Dk.pc (fun a1=>Dk.pc (fun a2 a3=>[.row a0 [a1,v.1,v.2,a2,a3] 27,.own (aL 2 (aN .i64)) v.1 s.2.1,.own (aL 2 (aN .i64)) v.2 s.2.2]))) a) (fun a s v=>Dk.pc (fun a0=>Dk.pc (fun a1=>Dk.pc (fun a2 a3=>[(5,.pointer (some ⟨a0,0,none⟩)),(8,.int .i64 (s.1))]))) a) (_,_) [(2,_),(3,_),(4,_),(6,_),(7,_)]
  | apply Dk.loop 4 (V:=Value) (fun (s:(List (List Int))×Int) v=>[.own (aL 24 (aL 2 (aN .i64))) v s.1]) (fun s v=>[(9,v),(10,.int .i64 (s.2))]) _ [(2,_),(3,_),(4,_),(5,_),(6,_)]
  | apply Dk.loop 6 (V:=Value) (fun (s:(List Int)×Int) v=>[.own (aL 2 (aN .i64)) v s.1]) (fun s v=>[(11,v),(12,.int .i64 (s.2))]) _ [(2,_),(3,_),(4,_),(5,_),(6,_),(9,_),(10,_)]
  | apply Dk.quiet (id:=20) (by kernel_rfl)
  | apply Dk.quiet (id:=21) (by kernel_rfl)
  | apply WZ
  | exact ()
theorem DU {x0:aI} {aQ bF aO aM:Value} {x1:aI} {cE cL bJ bC:Value} {x2:(List Int)} {dS:Value} {x3:(List Int)} {gF:Value}:Ct Tryz.prog 87 true (fD x0 x1 x2 x3) [.agg #[.int .i64 (x0.aA),aQ,bF,aO,aM],.agg #[.int .i64 (x1.aA),cE,cL,bJ,bC],dS,gF] [rI aQ x0.aG,rI bF x0.To,rI aO x0.aJ,rJ aM x0.aB,rI cE x1.aG,rI cL x1.To,rI bJ x1.aJ,rJ bC x1.aB,rI dS x2,rI gF x3] (fun y (v:Value×Value×Value×Value×Value×Value×Value×Value×Value×Value)=>[.agg #[.int .i64 y.aE.aA,v.1,v.2.1,v.2.2.1,v.2.2.2.1,.int .i64 y.aH.aA,v.2.2.2.2.1,v.2.2.2.2.2.1,v.2.2.2.2.2.2.1,v.2.2.2.2.2.2.2.1,v.2.2.2.2.2.2.2.2.1,v.2.2.2.2.2.2.2.2.2]]) (fun y v=>[.own (aL 2 (aN .i64)) v.1 y.aE.aG,.own (aL 2 (aN .i64)) v.2.1 y.aE.To,.own (aL 2 (aN .i64)) v.2.2.1 y.aE.aJ,.own (aL 24 (aL 2 (aN .i64))) v.2.2.2.1 y.aE.aB,.own (aL 2 (aN .i64)) v.2.2.2.2.1 y.aH.aG,.own (aL 2 (aN .i64)) v.2.2.2.2.2.1 y.aH.To,.own (aL 2 (aN .i64)) v.2.2.2.2.2.2.1 y.aH.aJ,.own (aL 24 (aL 2 (aN .i64))) v.2.2.2.2.2.2.2.1 y.aH.aB,.own (aL 2 (aN .i64)) v.2.2.2.2.2.2.2.2.1 y.aA,.own (aL 2 (aN .i64)) v.2.2.2.2.2.2.2.2.2 y.ae]):=by
 refine ct (S:=Unit) (bw fun _ _=>rfl) Tryz.func87 rfl rfl ?_
 repeat' first
  | (apply Dk.fe; repeat' first | exact rfl | (refine @id.{0} _ ?_; constructor))
  | intro _
  | exact rfl
  | (refine @id.{0} _ ?_; constructor)
  | apply Dk.any (id:=1) 7 [] [] [[],[0],[],[0,1,2],[],[0,1,2,3,4],[]] (by kernel_rfl)
  | apply NR
  | apply xw
  | exact ()
theorem Ui {rc:aI→aI→(List Int)→(List aP)→Option ((List aP))} (ih:∀ {x0:aI} {aQ bF aO aM:Value} {x1:aI} {cE cL bJ bC:Value} {x2:(List Int)} {dS:Value} {x3:(List aP)} {gF:Value},Ct Tryz.prog 189 true (rc x0 x1 x2 x3) [.agg #[.int .i64 (x0.aA),aQ,bF,aO,aM],.agg #[.int .i64 (x1.aA),cE,cL,bJ,bC],dS,gF] [rI aQ x0.aG,rI bF x0.To,rI aO x0.aJ,rJ aM x0.aB,rI cE x1.aG,rI cL x1.To,rI bJ x1.aJ,rJ bC x1.aB,rI dS x2,.own (aL 29 sK) gF x3] (fun y (v:Value)=>[v]) (fun y v=>[.own (aL 29 sK) v y])) {x0:aI} {aQ bF aO aM:Value} {x1:aI} {cE cL bJ bC:Value} {x2:(List Int)} {dS:Value} {x3:(List aP)} {gF:Value}:Ct Tryz.prog 189 true (kC rc x0 x1 x2 x3) [.agg #[.int .i64 (x0.aA),aQ,bF,aO,aM],.agg #[.int .i64 (x1.aA),cE,cL,bJ,bC],dS,gF] [rI aQ x0.aG,rI bF x0.To,rI aO x0.aJ,rJ aM x0.aB,rI cE x1.aG,rI cL x1.To,rI bJ x1.aJ,rJ bC x1.aB,rI dS x2,.own (aL 29 sK) gF x3] (fun y (v:Value)=>[v]) (fun y v=>[.own (aL 29 sK) v y]):=by
 refine ct (S:=Unit) (bw fun _ _=>rfl) Tryz.func189 rfl rfl ?_
 repeat' first
  | (apply Dk.fe; repeat' first | exact rfl | (refine @id.{0} _ ?_; constructor))
  | intro _
  | exact rfl
  | apply Dk.Wx (t:=81)
  | apply ih
  | apply Dk.apO (t:=81) (S:=sK) (aP.mk (aI.mk _ _ _ _ _) (aI.mk _ _ _ _ _) _ _)
  | (refine @id.{0} _ ?_; constructor)
  | apply Dk.loop 0 (V:=Value) (fun (s:(List Int)×Int) v=>[.own (aL 2 (aN .i64)) v s.1]) (fun s v=>[(9,v),(10,.int .i64 (s.2))]) _ [(2,_),(3,_),(4,_),(5,_)]
  | apply Dk.js 2 (V:=Unit) (A:=Value) _ (fun a (s:Int×(List Int)) v=>[.own (aL 2 (aN .i64)) a s.2]) (fun a s v=>[(9,a),(11,.int .i64 (s.1))]) () [(2,_),(3,_),(4,_),(5,_)]
  | apply Dk.loop 4 (V:=Value) (fun (s:(List aP)×Int) v=>[.own (aL 29 sK) v s.1]) (fun s v=>[(3,v),(13,.int .i64 (s.2))]) _ [(2,_),(4,_),(5,_),(12,_)]
  | apply Dk.loop 6 (V:=Value) (fun (s:(List aP)×Int) v=>[.own (aL 29 sK) v s.1]) (fun s v=>[(3,v),(14,.int .i64 (s.2))]) _ [(2,_),(4,_),(5,_)]
  | apply Dk.any (id:=12) 14 [] [] [[],[],[1],[],[1,2,3],[1,2,3,4],[],[6],[],[],[8,9],[8,9,10],[6,7,8,9,10,11],[6,7,8,9,10,11,12]] (by kernel_rfl)
  | apply Dk.any (id:=22) 8 [] [[],[],[],[],[],[],[3],[]] [[],[],[],[2],[],[4],[2,3,4,5],[]] (by kernel_rfl)
  | apply Dk.U3 (id:=17) [(0,8)] 8 rfl (by kernel_rfl)
  | apply aaU
  | apply aaW
  | apply DU
  | apply xw
  | exact ()
theorem Uj (n:Nat):∀ {x0:aI} {aQ bF aO aM:Value} {x1:aI} {cE cL bJ bC:Value} {x2:(List Int)} {dS:Value} {x3:(List aP)} {gF:Value},Ct Tryz.prog 189 true (gR n x0 x1 x2 x3) [.agg #[.int .i64 (x0.aA),aQ,bF,aO,aM],.agg #[.int .i64 (x1.aA),cE,cL,bJ,bC],dS,gF] [rI aQ x0.aG,rI bF x0.To,rI aO x0.aJ,rJ aM x0.aB,rI cE x1.aG,rI cL x1.To,rI bJ x1.aJ,rJ bC x1.aB,rI dS x2,.own (aL 29 sK) gF x3] (fun y (v:Value)=>[v]) (fun y v=>[.own (aL 29 sK) v y]):=by
 induction n with
 | zero=>intros; rw [uz]; exact ⟨(bw fun _ _=>rfl),fun _ _ _ _ _ _ _ y hy=>nomatch (show none=some y from hy)⟩
 | succ n ih=>exact Ui ih
theorem abm {x0:aI} {aQ bF aO aM:Value} {x1:aI} {cE cL bJ bC:Value} {x2:(List Int)} {dS:Value} {x3:(List aP)} {gF:Value}:Ct Tryz.prog 189 true (gR 64 x0 x1 x2 x3) [.agg #[.int .i64 (x0.aA),aQ,bF,aO,aM],.agg #[.int .i64 (x1.aA),cE,cL,bJ,bC],dS,gF] [rI aQ x0.aG,rI bF x0.To,rI aO x0.aJ,rJ aM x0.aB,rI cE x1.aG,rI cL x1.To,rI bJ x1.aJ,rJ bC x1.aB,rI dS x2,.own (aL 29 sK) gF x3] (fun y (v:Value)=>[v]) (fun y v=>[.own (aL 29 sK) v y]):=by
 exact Uj 64
theorem abn {x0:aI} {aQ bF aO aM:Value} {x1:aI} {cE cL bJ bC:Value} {x2:Int}:Ct Tryz.prog 172 true (iX x0 x1 x2) [.agg #[.int .i64 (x0.aA),aQ,bF,aO,aM],.agg #[.int .i64 (x1.aA),cE,cL,bJ,bC],.int .i64 (x2)] [rI aQ x0.aG,rI bF x0.To,rI aO x0.aJ,rJ aM x0.aB,rI cE x1.aG,rI cL x1.To,rI bJ x1.aJ,rJ bC x1.aB] (fun y (v:Value×Value×Value×Value×Value×Value×Value×Value×Value×Value)=>[.agg #[.int .i64 y.aE.aA,v.1,v.2.1,v.2.2.1,v.2.2.2.1,.int .i64 y.aH.aA,v.2.2.2.2.1,v.2.2.2.2.2.1,v.2.2.2.2.2.2.1,v.2.2.2.2.2.2.2.1,v.2.2.2.2.2.2.2.2.1,v.2.2.2.2.2.2.2.2.2]]) (fun y v=>[.own (aL 2 (aN .i64)) v.1 y.aE.aG,.own (aL 2 (aN .i64)) v.2.1 y.aE.To,.own (aL 2 (aN .i64)) v.2.2.1 y.aE.aJ,.own (aL 24 (aL 2 (aN .i64))) v.2.2.2.1 y.aE.aB,.own (aL 2 (aN .i64)) v.2.2.2.2.1 y.aH.aG,.own (aL 2 (aN .i64)) v.2.2.2.2.2.1 y.aH.To,.own (aL 2 (aN .i64)) v.2.2.2.2.2.2.1 y.aH.aJ,.own (aL 24 (aL 2 (aN .i64))) v.2.2.2.2.2.2.2.1 y.aH.aB,.own (aL 2 (aN .i64)) v.2.2.2.2.2.2.2.2.1 y.aA,.own (aL 2 (aN .i64)) v.2.2.2.2.2.2.2.2.2 y.ae]):=by
 refine ct (S:=Unit) (bw fun _ _=>rfl) Tryz.func172 rfl rfl ?_
 repeat' first
  | (apply Dk.fe; repeat' first | exact rfl | (refine @id.{0} _ ?_; constructor))
  | intro _
  | exact rfl
  | (refine @id.{0} _ ?_; constructor)
  | apply Dk.loop 0 (V:=Value) (fun (s:(List Int)×Int) v=>[.own (aL 2 (aN .i64)) v s.1]) (fun s v=>[(7,v),(9,.int .i64 (s.2))]) _ [(2,_),(3,_),(4,_),(6,_),(8,_)]
  | apply Dk.loop 2 (V:=Value) (fun (s:(List Int)×Int) v=>[.own (aL 2 (aN .i64)) v s.1]) (fun s v=>[(8,v),(10,.int .i64 (s.2))]) _ [(2,_),(3,_),(4,_),(6,_),(7,_)]
  | apply DU
  | exact ()
theorem O6 {x0:aI} {aQ bF aO aM:Value}:Ct Tryz.prog 97 true (dX x0) [.agg #[.int .i64 (x0.aA),aQ,bF,aO,aM]] [rI aQ x0.aG,rI bF x0.To,rI aO x0.aJ,rJ aM x0.aB] (fun y (v:Value×Value×Value×Value×Value×Value×Value×Value×Value×Value)=>[.agg #[.int .i64 y.aE.aA,v.1,v.2.1,v.2.2.1,v.2.2.2.1,.int .i64 y.aH.aA,v.2.2.2.2.1,v.2.2.2.2.2.1,v.2.2.2.2.2.2.1,v.2.2.2.2.2.2.2.1,v.2.2.2.2.2.2.2.2.1,v.2.2.2.2.2.2.2.2.2]]) (fun y v=>[.own (aL 2 (aN .i64)) v.1 y.aE.aG,.own (aL 2 (aN .i64)) v.2.1 y.aE.To,.own (aL 2 (aN .i64)) v.2.2.1 y.aE.aJ,.own (aL 24 (aL 2 (aN .i64))) v.2.2.2.1 y.aE.aB,.own (aL 2 (aN .i64)) v.2.2.2.2.1 y.aH.aG,.own (aL 2 (aN .i64)) v.2.2.2.2.2.1 y.aH.To,.own (aL 2 (aN .i64)) v.2.2.2.2.2.2.1 y.aH.aJ,.own (aL 24 (aL 2 (aN .i64))) v.2.2.2.2.2.2.2.1 y.aH.aB,.own (aL 2 (aN .i64)) v.2.2.2.2.2.2.2.2.1 y.aA,.own (aL 2 (aN .i64)) v.2.2.2.2.2.2.2.2.2 y.ae]):=by
 refine ct (S:=Unit) (bw fun _ _=>rfl) Tryz.func97 rfl rfl ?_
 repeat' first
  | (apply Dk.fe; repeat' first | exact rfl | (refine @id.{0} _ ?_; constructor))
  | intro _
  | exact rfl
  | (refine @id.{0} _ ?_; constructor)
  | apply Dk.loop 0 (V:=Value) (fun (s:(List Int)×Int) v=>[.own (aL 2 (aN .i64)) v s.1]) (fun s v=>[(3,v),(5,.int .i64 (s.2))]) _ [(1,_),(2,_),(4,_)]
  | apply Dk.loop 2 (V:=Value) (fun (s:(List Int)×Int) v=>[.own (aL 2 (aN .i64)) v s.1]) (fun s v=>[(4,v),(6,.int .i64 (s.2))]) _ [(1,_),(2,_),(3,_)]
  | apply DU
  | exact ()
theorem abo {x0:aP} {bU bZ bD aY bV cA bE aZ cG cJ:Value}:Ct Tryz.prog 217 true (pB x0) [.agg #[.int .i64 (x0.aE.aA),bU,bZ,bD,aY,.int .i64 (x0.aH.aA),bV,cA,bE,aZ,cG,cJ]] [rI bU x0.aE.aG,rI bZ x0.aE.To,rI bD x0.aE.aJ,rJ aY x0.aE.aB,rI bV x0.aH.aG,rI cA x0.aH.To,rI bE x0.aH.aJ,rJ aZ x0.aH.aB,rI cG x0.aA,rI cJ x0.ae] (fun y (v:Value×Value×Value×Value×Value×Value×Value×Value×Value×Value)=>[.agg #[.int .i64 y.aE.aA,v.1,v.2.1,v.2.2.1,v.2.2.2.1,.int .i64 y.aH.aA,v.2.2.2.2.1,v.2.2.2.2.2.1,v.2.2.2.2.2.2.1,v.2.2.2.2.2.2.2.1,v.2.2.2.2.2.2.2.2.1,v.2.2.2.2.2.2.2.2.2]]) (fun y v=>[.own (aL 2 (aN .i64)) v.1 y.aE.aG,.own (aL 2 (aN .i64)) v.2.1 y.aE.To,.own (aL 2 (aN .i64)) v.2.2.1 y.aE.aJ,.own (aL 24 (aL 2 (aN .i64))) v.2.2.2.1 y.aE.aB,.own (aL 2 (aN .i64)) v.2.2.2.2.1 y.aH.aG,.own (aL 2 (aN .i64)) v.2.2.2.2.2.1 y.aH.To,.own (aL 2 (aN .i64)) v.2.2.2.2.2.2.1 y.aH.aJ,.own (aL 24 (aL 2 (aN .i64))) v.2.2.2.2.2.2.2.1 y.aH.aB,.own (aL 2 (aN .i64)) v.2.2.2.2.2.2.2.2.1 y.aA,.own (aL 2 (aN .i64)) v.2.2.2.2.2.2.2.2.2 y.ae]):=by
 refine ct (S:=Unit) (bw fun _ _=>rfl) Tryz.func217 rfl rfl ?_
 repeat' first
  | (apply Dk.fe; repeat' first | exact rfl | (refine @id.{0} _ ?_; constructor))
  | intro _
  | exact rfl
  | (refine @id.{0} _ ?_; constructor)
  | apply DU
  | exact ()
theorem Uk {x0:aP} {bU bZ bD aY bV cA bE aZ cG cJ:Value}:Ct Tryz.prog 218 true (kD x0) [.agg #[.int .i64 (x0.aE.aA),bU,bZ,bD,aY,.int .i64 (x0.aH.aA),bV,cA,bE,aZ,cG,cJ]] [rI bU x0.aE.aG,rI bZ x0.aE.To,rI bD x0.aE.aJ,rJ aY x0.aE.aB,rI bV x0.aH.aG,rI cA x0.aH.To,rI bE x0.aH.aJ,rJ aZ x0.aH.aB,rI cG x0.aA,rI cJ x0.ae] (fun y (v:Value×Value×Value×Value×Value×Value×Value×Value×Value×Value)=>[.agg #[.int .i64 y.aE.aA,v.1,v.2.1,v.2.2.1,v.2.2.2.1,.int .i64 y.aH.aA,v.2.2.2.2.1,v.2.2.2.2.2.1,v.2.2.2.2.2.2.1,v.2.2.2.2.2.2.2.1,v.2.2.2.2.2.2.2.2.1,v.2.2.2.2.2.2.2.2.2]]) (fun y v=>[.own (aL 2 (aN .i64)) v.1 y.aE.aG,.own (aL 2 (aN .i64)) v.2.1 y.aE.To,.own (aL 2 (aN .i64)) v.2.2.1 y.aE.aJ,.own (aL 24 (aL 2 (aN .i64))) v.2.2.2.1 y.aE.aB,.own (aL 2 (aN .i64)) v.2.2.2.2.1 y.aH.aG,.own (aL 2 (aN .i64)) v.2.2.2.2.2.1 y.aH.To,.own (aL 2 (aN .i64)) v.2.2.2.2.2.2.1 y.aH.aJ,.own (aL 24 (aL 2 (aN .i64))) v.2.2.2.2.2.2.2.1 y.aH.aB,.own (aL 2 (aN .i64)) v.2.2.2.2.2.2.2.2.1 y.aA,.own (aL 2 (aN .i64)) v.2.2.2.2.2.2.2.2.2 y.ae]):=by
 refine ct (S:=Unit) (bw fun _ _=>rfl) Tryz.func218 rfl rfl ?_
 repeat' first
  | (apply Dk.fe; repeat' first | exact rfl | (refine @id.{0} _ ?_; constructor))
  | intro _
  | exact rfl
  | (refine @id.{0} _ ?_; constructor)
  | apply Dk.any (id:=1) 10 [] [] [[],[0],[0,1],[],[3],[0,1,2,3,4],[],[6],[],[8]] (by kernel_rfl)
  | apply T3
  | apply DU
  | exact ()
theorem abp {x0:aK} {dN:Nat} {cK:Value} {x1:aI} {cE cL bJ bC:Value}:Ct Tryz.prog 175 false (nX x0 x1) [.pointer (some (⟨dN,0,none⟩)),.agg #[.int .i64 (x1.aA),cE,cL,bJ,bC]] [.row dN [cK,.int .i64 (x0.At),.int .u64 (x0.aq)] 193,.rd false (bT (aN .u8)) cK x0.Code,rI cE x1.aG,rI cL x1.To,rI bJ x1.aJ,rJ bC x1.aB] (fun y (v:Value×Value×Value×Value)=>[.agg #[.int .i64 y.1.aA,v.1,v.2.1,v.2.2.1,v.2.2.2]]) (fun y v=>[rI v.1 y.1.aG,rI v.2.1 y.1.To,rI v.2.2.1 y.1.aJ,rJ v.2.2.2 y.1.aB,.row dN [cK,.int .i64 y.2.At,.int .u64 y.2.aq] 193]):=by
 refine ct (S:=Unit) EE Tryz.func175 rfl rfl ?_
 repeat' first
  | (apply Dk.fe; repeat' first | exact rfl | (refine @id.{0} _ ?_; constructor))
  | intro _
  | exact rfl
  | (refine Dk.sZ (t:=58) rfl ?_ ?_)
  | apply Dk.slT (t:=24)
  | apply Dk.stN
  | (refine @id.{0} _ ?_; constructor)
  | apply Dk.vj (id:=13) [Dk.aw.row _ _ 193] 6 [] [[],[],[],[],[],[8]] [[],[0],[],[],[3],[2,3,4]] (by kernel_rfl)
  | apply Dk.vj (id:=18) [Dk.aw.row _ _ 193] 13 [] [[],[],[],[],[],[],[],[15],[],[],[],[7],[]] [[],[0],[],[0,1,2],[0,1,2,3],[],[],[5,6],[],[],[9],[5,6,7,8,9,10],[5,6,8,9,10,11]] (by kernel_rfl)
  | apply Dk.vj (id:=21) [Dk.aw.row _ _ 193] 8 [] [[],[],[],[],[],[],[],[10]] [[],[0],[],[],[],[4],[4,5],[3,4,5,6]] (by kernel_rfl)
  | apply Dk.U1 (id:=6) 9 (e:=24) (e2:=2) (T:=(aN .i64)) (by kernel_rfl)
  | apply NR
  | apply xZ
  | apply Uc
  | exact ()
theorem abq {x0:aP} {bU bZ bD aY bV cA bE aZ cG cJ:Value} {x1:aP} {cU dA cP cM cV dB cQ cN dH dP:Value}:Ct Tryz.prog 141 true (jZ x0 x1) [.agg #[.int .i64 (x0.aE.aA),bU,bZ,bD,aY,.int .i64 (x0.aH.aA),bV,cA,bE,aZ,cG,cJ],.agg #[.int .i64 (x1.aE.aA),cU,dA,cP,cM,.int .i64 (x1.aH.aA),cV,dB,cQ,cN,dH,dP]] [rI bU x0.aE.aG,rI bZ x0.aE.To,rI bD x0.aE.aJ,rJ aY x0.aE.aB,rI bV x0.aH.aG,rI cA x0.aH.To,rI bE x0.aH.aJ,rJ aZ x0.aH.aB,rI cG x0.aA,rI cJ x0.ae,rI cU x1.aE.aG,rI dA x1.aE.To,rI cP x1.aE.aJ,rJ cM x1.aE.aB,rI cV x1.aH.aG,rI dB x1.aH.To,rI cQ x1.aH.aJ,rJ cN x1.aH.aB,rI dH x1.aA,rI dP x1.ae] (fun y (v:Value×Value×Value×Value×Value×Value×Value×Value×Value×Value)=>[.agg #[.int .i64 y.aE.aA,v.1,v.2.1,v.2.2.1,v.2.2.2.1,.int .i64 y.aH.aA,v.2.2.2.2.1,v.2.2.2.2.2.1,v.2.2.2.2.2.2.1,v.2.2.2.2.2.2.2.1,v.2.2.2.2.2.2.2.2.1,v.2.2.2.2.2.2.2.2.2]]) (fun y v=>[.own (aL 2 (aN .i64)) v.1 y.aE.aG,.own (aL 2 (aN .i64)) v.2.1 y.aE.To,.own (aL 2 (aN .i64)) v.2.2.1 y.aE.aJ,.own (aL 24 (aL 2 (aN .i64))) v.2.2.2.1 y.aE.aB,.own (aL 2 (aN .i64)) v.2.2.2.2.1 y.aH.aG,.own (aL 2 (aN .i64)) v.2.2.2.2.2.1 y.aH.To,.own (aL 2 (aN .i64)) v.2.2.2.2.2.2.1 y.aH.aJ,.own (aL 24 (aL 2 (aN .i64))) v.2.2.2.2.2.2.2.1 y.aH.aB,.own (aL 2 (aN .i64)) v.2.2.2.2.2.2.2.2.1 y.aA,.own (aL 2 (aN .i64)) v.2.2.2.2.2.2.2.2.2 y.ae]):=by
 refine ct (S:=Unit) (bw fun _ _=>rfl) Tryz.func141 rfl rfl ?_
 repeat' first
  | (apply Dk.fe; repeat' first | exact rfl | (refine @id.{0} _ ?_; constructor))
  | intro _
  | exact rfl
  | (refine @id.{0} _ ?_; constructor)
  | apply Dk.any (id:=1) 14 [] [] [[],[0],[],[2],[],[4],[],[6],[4,5,6,7],[],[9],[],[11],[4,5,6,7,8,9,10,11,12]] (by kernel_rfl)
  | apply aa2
  | apply DU
  | exact ()
end Go.Proofs.YtjdkifckhidlbaaGreat
