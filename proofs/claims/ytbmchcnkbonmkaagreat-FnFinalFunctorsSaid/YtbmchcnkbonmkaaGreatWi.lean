/- Walks by the calculus D. No condition beside those that each theorem names. -/
import Derived.Test.YtbmchcnkbonmkaaGreatDi
import Derived.Test.YtbmchcnkbonmkaaGreatMo
import Derived.Test.YtbmchcnkbonmkaaGreatDp
import Derived.Test.YtbmchcnkbonmkaaGreatDs
import Derived.Test.YtbmchcnkbonmkaaGreatWa
import Derived.Test.YtbmchcnkbonmkaaGreatWb
import Derived.Test.YtbmchcnkbonmkaaGreatWc
import Derived.Test.YtbmchcnkbonmkaaGreatWd
import Derived.Test.YtbmchcnkbonmkaaGreatWe
import Derived.Test.YtbmchcnkbonmkaaGreatWf
import Derived.Test.YtbmchcnkbonmkaaGreatWg
import Derived.Test.YtbmchcnkbonmkaaGreatWh
namespace Go.Proofs.YtbmchcnkbonmkaaGreat
open Go Go.Li Go.Dk
set_option linter.unusedVariables false
set_option maxHeartbeats 16000000
set_option maxRecDepth 100000
theorem afw {x0:aG} {aU aZ aN aK:Value} {x1:aG} {bK bY bE bB:Value}:Ct Tryz.prog 108 true (gK x0 x1) [.agg #[.int .i64 (x0.aA),aU,aZ,aN,aK],.agg #[.int .i64 (x1.aA),bK,bY,bE,bB]] [rI aU x0.aC,rI aZ x0.To,rI aN x0.aH,rJ aK x0.aB,rI bK x1.aC,rI bY x1.To,rI bE x1.aH,rJ bB x1.aB] (fun y (v:Value×Value×Value×Value)=>match v with | (q0,q1,q2,q3)=>[.agg #[.int .i64 y.aA,q0,q1,q2,q3]]) (fun y v=>match v with | (q0,q1,q2,q3)=>[.own (aI 2 (aL .i64)) q0 y.aC,.own (aI 2 (aL .i64)) q1 y.To,.own (aI 2 (aL .i64)) q2 y.aH,.own (aI 24 (aI 2 (aL .i64))) q3 y.aB]):=by
 refine ct (S:=Unit) (bw fun _ _=>rfl) Tryz.func108 rfl rfl ?_
 repeat' first
  | (apply Dk.fe; repeat' first | exact rfl | (refine @id.{0} _ ?_; constructor))
  | intro _
  | exact rfl
  | (refine Dk.uH (t:=60) rfl ?_ ?_)
  | (refine @id.{0} _ ?_; constructor)
  | apply Dk.je 0 (V:=Value×Value) (A:=Nat×Value×Value×Value) (_,_,_,_) (fun a (s:Int×(List Int)×(List Int)) v=>Dk.pc (fun a0=>Dk.pc (fun a1=>Dk.pc (fun a2 a3=>[.row a0 [a1,v.1,v.2,a2,a3] 27,.own (aI 2 (aL .i64)) v.1 s.2.1,.own (aI 2 (aL .i64)) v.2 s.2.2]))) a) (fun a s v=>Dk.pc (fun a0=>Dk.pc (fun a1=>Dk.pc (fun a2 a3=>[(5,.pointer (some ⟨a0,0,none⟩)),(7,.int .i64 (s.1))]))) a) (_,_) [(2,_),(3,_),(4,_),(6,_)]
  | apply Dk.je 2 (V:=Value×Value) (A:=Nat×Value×Value×Value) (_,_,_,_) (fun a (s:Int×(List Int)×(List Int)) v=>Dk.pc (fun a0=>Dk.pc (fun a1=>Dk.pc (fun a2 a3=>[.row a0 [a1,v.1,v.2,a2,a3] 27,.own (aI 2 (aL .i64)) v.1 s.2.1,.own (aI 2 (aL .i64)) v.2 s.2.2]))) a) (fun a s v=>Dk.pc (fun a0=>Dk.pc (fun a1=>Dk.pc (fun a2 a3=>[(5,.pointer (some ⟨a0,0,none⟩)),(8,.int .i64 (s.1))]))) a) (_,_) [(2,_),(3,_),(4,_),(6,_),(7,_)]
  | apply Dk.loop 4 (V:=Value) (fun (s:(List (List Int))×Int) v=>[.own (aI 24 (aI 2 (aL .i64))) v s.1]) (fun s v=>[(9,v),(10,.int .i64 (s.2))]) _ [(2,_),(3,_),(4,_),(5,_),(6,_)]
  | apply Dk.loop 6 (V:=Value) (fun (s:(List Int)×Int) v=>[.own (aI 2 (aL .i64)) v s.1]) (fun s v=>[(11,v),(12,.int .i64 (s.2))]) _ [(2,_),(3,_),(4,_),(5,_),(6,_),(9,_),(10,_)]
  | apply Dk.quiet (id:=20) (by kernel_rfl)
  | apply Dk.quiet (id:=21) (by kernel_rfl)
  | apply c72
  | exact ()
theorem c71 {x0:aM} {cX:Nat} {cB:Value}:Ct Tryz.prog 71 true (gD x0) [.pointer (some (⟨cX,0,none⟩))] [.row cX [cB,.int .i64 (x0.At),.int .u64 (x0.bb)] 68,.rd false (bG (aL .u8)) cB x0.Code] (fun y (v:Value×Value×Value×Value)=>[.agg #[.int .i64 y.1.aA,v.1,v.2.1,v.2.2.1,v.2.2.2]]) (fun y v=>[.own (aI 2 (aL .i64)) v.1 y.1.aC,.own (aI 2 (aL .i64)) v.2.1 y.1.To,.own (aI 2 (aL .i64)) v.2.2.1 y.1.aH,.own (aI 24 (aI 2 (aL .i64))) v.2.2.2 y.1.aB,.row cX [cB,.int .i64 y.2.At,.int .u64 y.2.bb] 68]):=by
 refine ct (S:=Unit) (bw fun _ _=>rfl) Tryz.func71 rfl rfl ?_
 repeat' first
  | (apply Dk.fe; repeat' first | exact rfl | (refine @id.{0} _ ?_; constructor))
  | intro _
  | exact rfl
  | (refine Dk.uH (t:=59) rfl ?_ ?_)
  | (refine @id.{0} _ ?_; constructor)
  | apply Dk.loop 1 (V:=Value) (fun (s:(List (List Int))×Int) v=>[.own (aI 24 (aI 2 (aL .i64))) v s.1]) (fun s v=>[(4,v),(5,.int .i64 (s.2))]) _ [(2,_),(3,_)]
  | apply Dk.loop 3 (V:=Value) (fun (s:(List Int)×Int) v=>[.own (aI 2 (aL .i64)) v s.1]) (fun s v=>[(6,v),(7,.int .i64 (s.2))]) _ [(2,_),(3,_),(4,_),(5,_)]
  | apply Dk.loop 5 (V:=Value×Value) (fun (s:(List Int)×(List Int)×Int×Int×Int) v=>[.row cX [cB,.int .i64 (s.2.2.2.1),.int .u64 (s.2.2.2.2)] 68,.own (aI 2 (aL .i64)) v.1 s.1,.own (aI 2 (aL .i64)) v.2 s.2.1]) (fun s v=>[(9,v.1),(10,v.2),(11,.int .i64 (s.2.2.1))]) (_,_) [(0,_),(2,_),(8,_)]
  | apply Hb
  | apply afd
  | apply YR
  | apply afv
  | apply afe
  | apply afr
  | apply ae9
  | apply afw
  | apply c63
  | exact ()
theorem c34 {x0:aM} {cX:Nat} {cB:Value} {x1:Int} {x2:Int}:Ct Tryz.prog 34 true (mA x0 x1 x2) [.pointer (some (⟨cX,0,none⟩)),.int .i64 (x1),.int .i64 (x2)] [.row cX [cB,.int .i64 (x0.At),.int .u64 (x0.bb)] 68,.rd false (bG (aL .u8)) cB x0.Code] (fun y (v:Value×Value×Value×Value)=>[.agg #[.int .i64 y.1.aA,v.1,v.2.1,v.2.2.1,v.2.2.2]]) (fun y v=>[.own (aI 2 (aL .i64)) v.1 y.1.aC,.own (aI 2 (aL .i64)) v.2.1 y.1.To,.own (aI 2 (aL .i64)) v.2.2.1 y.1.aH,.own (aI 24 (aI 2 (aL .i64))) v.2.2.2 y.1.aB,.row cX [cB,.int .i64 y.2.At,.int .u64 y.2.bb] 68]):=by
 refine ct (S:=Unit) (bw fun _ _=>rfl) Tryz.func34 rfl rfl ?_
 repeat' first
  | (apply Dk.fe; repeat' first | exact rfl | (refine @id.{0} _ ?_; constructor))
  | intro _
  | exact rfl
  | (refine @id.{0} _ ?_; constructor)
  | apply Dk.loop 0 (V:=Unit) (fun (s:Int×Int×Int) v=>[.row cX [cB,.int .i64 (s.2.1),.int .u64 (s.2.2)] 68]) (fun s v=>[(7,.int .i64 (s.1))]) () [(0,_),(1,_),(2,_),(6,_)]
  | apply Dk.zW (id:=6) [Dk.av.row _ _ 68] 3 [] [[],[],[5]] [[],[],[1]] (by kernel_rfl)
  | apply Dk.zW (id:=8) [Dk.av.row _ _ 68] 3 [] [[],[],[5]] [[],[],[1]] (by kernel_rfl)
  | apply c71
  | apply Hb
  | apply c72
  | apply c73
  | apply c74
  | apply YR
  | exact ()
theorem Y0 {rc:aG→aG→(List Int)→(List aJ)→Option ((List aJ))} (ih:∀ {x0:aG} {aU aZ aN aK:Value} {x1:aG} {bK bY bE bB:Value} {x2:(List Int)} {dC:Value} {x3:(List aJ)} {fN:Value},Ct Tryz.prog 102 true (rc x0 x1 x2 x3) [.agg #[.int .i64 (x0.aA),aU,aZ,aN,aK],.agg #[.int .i64 (x1.aA),bK,bY,bE,bB],dC,fN] [rI aU x0.aC,rI aZ x0.To,rI aN x0.aH,rJ aK x0.aB,rI bK x1.aC,rI bY x1.To,rI bE x1.aH,rJ bB x1.aB,rI dC x2,.own (aI 29 uQ) fN x3] (fun y (v:Value)=>[v]) (fun y v=>[.own (aI 29 uQ) v y])) {x0:aG} {aU aZ aN aK:Value} {x1:aG} {bK bY bE bB:Value} {x2:(List Int)} {dC:Value} {x3:(List aJ)} {fN:Value}:Ct Tryz.prog 102 true (kV rc x0 x1 x2 x3) [.agg #[.int .i64 (x0.aA),aU,aZ,aN,aK],.agg #[.int .i64 (x1.aA),bK,bY,bE,bB],dC,fN] [rI aU x0.aC,rI aZ x0.To,rI aN x0.aH,rJ aK x0.aB,rI bK x1.aC,rI bY x1.To,rI bE x1.aH,rJ bB x1.aB,rI dC x2,.own (aI 29 uQ) fN x3] (fun y (v:Value)=>[v]) (fun y v=>[.own (aI 29 uQ) v y]):=by
 refine ct (S:=Unit) (bw fun _ _=>rfl) Tryz.func102 rfl rfl ?_
 repeat' first
  | (apply Dk.fe; repeat' first | exact rfl | (refine @id.{0} _ ?_; constructor))
  | intro _
  | exact rfl
  | apply Dk.WY (t:=107)
  | apply ih
  | apply Dk.WZ (t:=107) (S:=uQ) (aJ.mk (aG.mk _ _ _ _ _) (aG.mk _ _ _ _ _) _ _)
  | (refine @id.{0} _ ?_; constructor)
  | apply Dk.loop 0 (V:=Value) (fun (s:(List Int)×Int) v=>[.own (aI 2 (aL .i64)) v s.1]) (fun s v=>[(9,v),(10,.int .i64 (s.2))]) _ [(2,_),(3,_),(4,_),(5,_)]
  | apply Dk.je 2 (V:=Unit) (A:=Value) _ (fun a (s:Int×(List Int)) v=>[.own (aI 2 (aL .i64)) a s.2]) (fun a s v=>[(9,a),(11,.int .i64 (s.1))]) () [(2,_),(3,_),(4,_),(5,_)]
  | apply Dk.loop 4 (V:=Value) (fun (s:(List aJ)×Int) v=>[.own (aI 29 uQ) v s.1]) (fun s v=>[(3,v),(13,.int .i64 (s.2))]) _ [(2,_),(4,_),(5,_),(12,_)]
  | apply Dk.loop 6 (V:=Value) (fun (s:(List aJ)×Int) v=>[.own (aI 29 uQ) v s.1]) (fun s v=>[(3,v),(14,.int .i64 (s.2))]) _ [(2,_),(4,_),(5,_)]
  | apply Dk.any (id:=12) 14 [] [] [[],[],[1],[],[2,1,3],[4,2,1,3],[],[6],[],[],[8,9],[10,8,9],[7,6,11,10,8,9],[12,7,6,11,10,8,9]] (by kernel_rfl)
  | apply Dk.any (id:=22) 8 [] [[],[],[],[],[],[],[3],[]] [[],[],[],[2],[],[4],[3,2,5,4,3,2],[]] (by kernel_rfl)
  | apply Dk.Hq (id:=17) [(0,8)] 8 rfl (by kernel_rfl)
  | apply ae4
  | apply ae6
  | apply TE
  | apply DE
  | exact ()
theorem Y1 (n:Nat):∀ {x0:aG} {aU aZ aN aK:Value} {x1:aG} {bK bY bE bB:Value} {x2:(List Int)} {dC:Value} {x3:(List aJ)} {fN:Value},Ct Tryz.prog 102 true (gG n x0 x1 x2 x3) [.agg #[.int .i64 (x0.aA),aU,aZ,aN,aK],.agg #[.int .i64 (x1.aA),bK,bY,bE,bB],dC,fN] [rI aU x0.aC,rI aZ x0.To,rI aN x0.aH,rJ aK x0.aB,rI bK x1.aC,rI bY x1.To,rI bE x1.aH,rJ bB x1.aB,rI dC x2,.own (aI 29 uQ) fN x3] (fun y (v:Value)=>[v]) (fun y v=>[.own (aI 29 uQ) v y]):=by
 induction n with
 | zero=>intros; rw [tI]; exact ⟨(bw fun _ _=>rfl),fun _ _ _ _ _ _ _ y hy=>nomatch (show none=some y from hy)⟩
 | succ n ih=>exact Y0 ih
theorem afx {x0:aG} {aU aZ aN aK:Value} {x1:aG} {bK bY bE bB:Value} {x2:(List Int)} {dC:Value} {x3:(List aJ)} {fN:Value}:Ct Tryz.prog 102 true (gG 64 x0 x1 x2 x3) [.agg #[.int .i64 (x0.aA),aU,aZ,aN,aK],.agg #[.int .i64 (x1.aA),bK,bY,bE,bB],dC,fN] [rI aU x0.aC,rI aZ x0.To,rI aN x0.aH,rJ aK x0.aB,rI bK x1.aC,rI bY x1.To,rI bE x1.aH,rJ bB x1.aB,rI dC x2,.own (aI 29 uQ) fN x3] (fun y (v:Value)=>[v]) (fun y v=>[.own (aI 29 uQ) v y]):=by
 exact Y1 64
theorem c68 {x0:aG} {aU aZ aN aK:Value} {x1:aG} {bK bY bE bB:Value}:Ct Tryz.prog 68 true (nQ x0 x1) [.agg #[.int .i64 (x0.aA),aU,aZ,aN,aK],.agg #[.int .i64 (x1.aA),bK,bY,bE,bB]] [rI aU x0.aC,rI aZ x0.To,rI aN x0.aH,rJ aK x0.aB,rI bK x1.aC,rI bY x1.To,rI bE x1.aH,rJ bB x1.aB] (fun y (v:Value)=>[v]) (fun y v=>[.own (aI 29 uQ) v y]):=by
 refine ct (S:=Unit) (bw fun _ _=>rfl) Tryz.func68 rfl rfl ?_
 repeat' first
  | (apply Dk.fe; repeat' first | exact rfl | (refine @id.{0} _ ?_; constructor))
  | intro _
  | exact rfl
  | apply Dk.S3 (t:=107) uQ
  | (refine @id.{0} _ ?_; constructor)
  | apply afx
  | exact ()
theorem Y2 {x0:aG} {aU aZ aN aK:Value} {x1:aG} {bK bY bE bB:Value} {x2:Int}:Ct Tryz.prog 69 true (dF x0 x1 x2) [.agg #[.int .i64 (x0.aA),aU,aZ,aN,aK],.agg #[.int .i64 (x1.aA),bK,bY,bE,bB],.int .i64 (x2)] [rI aU x0.aC,rI aZ x0.To,rI aN x0.aH,rJ aK x0.aB,rI bK x1.aC,rI bY x1.To,rI bE x1.aH,rJ bB x1.aB] (fun y (v:Value×Value×Value×Value×Value×Value×Value×Value×Value×Value)=>[.agg #[.int .i64 y.aE.aA,v.1,v.2.1,v.2.2.1,v.2.2.2.1,.int .i64 y.aF.aA,v.2.2.2.2.1,v.2.2.2.2.2.1,v.2.2.2.2.2.2.1,v.2.2.2.2.2.2.2.1,v.2.2.2.2.2.2.2.2.1,v.2.2.2.2.2.2.2.2.2]]) (fun y v=>[.own (aI 2 (aL .i64)) v.1 y.aE.aC,.own (aI 2 (aL .i64)) v.2.1 y.aE.To,.own (aI 2 (aL .i64)) v.2.2.1 y.aE.aH,.own (aI 24 (aI 2 (aL .i64))) v.2.2.2.1 y.aE.aB,.own (aI 2 (aL .i64)) v.2.2.2.2.1 y.aF.aC,.own (aI 2 (aL .i64)) v.2.2.2.2.2.1 y.aF.To,.own (aI 2 (aL .i64)) v.2.2.2.2.2.2.1 y.aF.aH,.own (aI 24 (aI 2 (aL .i64))) v.2.2.2.2.2.2.2.1 y.aF.aB,.own (aI 2 (aL .i64)) v.2.2.2.2.2.2.2.2.1 y.aA,.own (aI 2 (aL .i64)) v.2.2.2.2.2.2.2.2.2 y.ah]):=by
 refine ct (S:=Unit) (bw fun _ _=>rfl) Tryz.func69 rfl rfl ?_
 repeat' first
  | (apply Dk.fe; repeat' first | exact rfl | (refine @id.{0} _ ?_; constructor))
  | intro _
  | exact rfl
  | (refine @id.{0} _ ?_; constructor)
  | apply Dk.loop 0 (V:=Value) (fun (s:(List Int)×Int) v=>[.own (aI 2 (aL .i64)) v s.1]) (fun s v=>[(7,v),(9,.int .i64 (s.2))]) _ [(2,_),(3,_),(4,_),(6,_),(8,_)]
  | apply Dk.loop 2 (V:=Value) (fun (s:(List Int)×Int) v=>[.own (aI 2 (aL .i64)) v s.1]) (fun s v=>[(8,v),(10,.int .i64 (s.2))]) _ [(2,_),(3,_),(4,_),(6,_),(7,_)]
  | apply TE
  | exact ()
theorem c70 {x0:aG} {aU aZ aN aK:Value}:Ct Tryz.prog 70 true (jD x0) [.agg #[.int .i64 (x0.aA),aU,aZ,aN,aK]] [rI aU x0.aC,rI aZ x0.To,rI aN x0.aH,rJ aK x0.aB] (fun y (v:Value×Value×Value×Value×Value×Value×Value×Value×Value×Value)=>[.agg #[.int .i64 y.aE.aA,v.1,v.2.1,v.2.2.1,v.2.2.2.1,.int .i64 y.aF.aA,v.2.2.2.2.1,v.2.2.2.2.2.1,v.2.2.2.2.2.2.1,v.2.2.2.2.2.2.2.1,v.2.2.2.2.2.2.2.2.1,v.2.2.2.2.2.2.2.2.2]]) (fun y v=>[.own (aI 2 (aL .i64)) v.1 y.aE.aC,.own (aI 2 (aL .i64)) v.2.1 y.aE.To,.own (aI 2 (aL .i64)) v.2.2.1 y.aE.aH,.own (aI 24 (aI 2 (aL .i64))) v.2.2.2.1 y.aE.aB,.own (aI 2 (aL .i64)) v.2.2.2.2.1 y.aF.aC,.own (aI 2 (aL .i64)) v.2.2.2.2.2.1 y.aF.To,.own (aI 2 (aL .i64)) v.2.2.2.2.2.2.1 y.aF.aH,.own (aI 24 (aI 2 (aL .i64))) v.2.2.2.2.2.2.2.1 y.aF.aB,.own (aI 2 (aL .i64)) v.2.2.2.2.2.2.2.2.1 y.aA,.own (aI 2 (aL .i64)) v.2.2.2.2.2.2.2.2.2 y.ah]):=by
 refine ct (S:=Unit) (bw fun _ _=>rfl) Tryz.func70 rfl rfl ?_
 repeat' first
  | (apply Dk.fe; repeat' first | exact rfl | (refine @id.{0} _ ?_; constructor))
  | intro _
  | exact rfl
  | (refine @id.{0} _ ?_; constructor)
  | apply Dk.loop 0 (V:=Value) (fun (s:(List Int)×Int) v=>[.own (aI 2 (aL .i64)) v s.1]) (fun s v=>[(3,v),(5,.int .i64 (s.2))]) _ [(1,_),(2,_),(4,_)]
  | apply Dk.loop 2 (V:=Value) (fun (s:(List Int)×Int) v=>[.own (aI 2 (aL .i64)) v s.1]) (fun s v=>[(4,v),(6,.int .i64 (s.2))]) _ [(1,_),(2,_),(3,_)]
  | apply TE
  | exact ()
theorem c33 {x0:aM} {cX:Nat} {cB:Value} {x1:aG} {bK bY bE bB:Value} {x2:Int} {x3:Int}:Ct Tryz.prog 33 true (pC x0 x1 x2 x3) [.pointer (some (⟨cX,0,none⟩)),.agg #[.int .i64 (x1.aA),bK,bY,bE,bB],.int .i64 (x2),.int .i64 (x3)] [.row cX [cB,.int .i64 (x0.At),.int .u64 (x0.bb)] 68,.rd false (bG (aL .u8)) cB x0.Code,rI bK x1.aC,rI bY x1.To,rI bE x1.aH,rJ bB x1.aB] (fun y (v:Value×Value×Value×Value×Value×Value×Value×Value×Value×Value)=>[.agg #[.int .i64 y.1.aE.aA,v.1,v.2.1,v.2.2.1,v.2.2.2.1,.int .i64 y.1.aF.aA,v.2.2.2.2.1,v.2.2.2.2.2.1,v.2.2.2.2.2.2.1,v.2.2.2.2.2.2.2.1,v.2.2.2.2.2.2.2.2.1,v.2.2.2.2.2.2.2.2.2]]) (fun y v=>[.own (aI 2 (aL .i64)) v.1 y.1.aE.aC,.own (aI 2 (aL .i64)) v.2.1 y.1.aE.To,.own (aI 2 (aL .i64)) v.2.2.1 y.1.aE.aH,.own (aI 24 (aI 2 (aL .i64))) v.2.2.2.1 y.1.aE.aB,.own (aI 2 (aL .i64)) v.2.2.2.2.1 y.1.aF.aC,.own (aI 2 (aL .i64)) v.2.2.2.2.2.1 y.1.aF.To,.own (aI 2 (aL .i64)) v.2.2.2.2.2.2.1 y.1.aF.aH,.own (aI 24 (aI 2 (aL .i64))) v.2.2.2.2.2.2.2.1 y.1.aF.aB,.own (aI 2 (aL .i64)) v.2.2.2.2.2.2.2.2.1 y.1.aA,.own (aI 2 (aL .i64)) v.2.2.2.2.2.2.2.2.2 y.1.ah,.row cX [cB,.int .i64 y.2.At,.int .u64 y.2.bb] 68]):=by
 refine ct (S:=Unit) (bw fun _ _=>rfl) Tryz.func33 rfl rfl ?_
 repeat' first
  | (apply Dk.fe; repeat' first | exact rfl | (refine @id.{0} _ ?_; constructor))
  | intro _
  | exact rfl
  | apply Dk.WY (t:=107)
  | apply Dk.ixO (t:=107)
  | apply Dk.lsS (n:=12)
  | apply Dk.WO (n:=12)
  | apply Dk.WQ (n:=12)
  | (apply Dk.WX (t:=38); exact rfl)
  | (refine @id.{0} _ ?_; constructor)
  | apply Dk.zW (id:=7) [Dk.av.row _ _ 68] 6 [] [[],[],[],[],[],[8]] [[],[],[],[],[3],[2,4,3]] (by kernel_rfl)
  | apply c34
  | apply c67
  | apply c68
  | apply Hb
  | apply Y2
  | apply c70
  | exact ()
theorem c21 {x0:aJ} {aS aV aQ aO aT aW aR aP bA bC:Value}:Ct Tryz.prog 21 true (pI x0) [.agg #[.int .i64 (x0.aE.aA),aS,aV,aQ,aO,.int .i64 (x0.aF.aA),aT,aW,aR,aP,bA,bC]] [rI aS x0.aE.aC,rI aV x0.aE.To,rI aQ x0.aE.aH,rJ aO x0.aE.aB,rI aT x0.aF.aC,rI aW x0.aF.To,rI aR x0.aF.aH,rJ aP x0.aF.aB,rI bA x0.aA,rI bC x0.ah] (fun y (_:Unit)=>[.bool y]) (fun y _=>[]):=by
 refine ct (S:=Unit) (bw fun _ _=>rfl) Tryz.func21 rfl rfl ?_
 repeat' first
  | (apply Dk.fe; repeat' first | exact rfl | (refine @id.{0} _ ?_; constructor))
  | intro _
  | exact rfl
  | (refine Dk.uH (t:=136) rfl ?_ ?_)
  | (refine @id.{0} _ ?_; constructor)
  | apply Dk.loop 0 (V:=Unit) (fun (s:Int) v=>[]) (fun s v=>[(5,.int .i64 (s))]) () [(1,_),(3,_),(4,_)]
  | apply Dk.loop 2 (V:=Unit) (fun (s:Int) v=>[]) (fun s v=>[(6,.int .i64 (s))]) () [(1,_),(3,_),(4,_)]
  | apply Dk.loop 4 (V:=Unit) (fun (s:Int) v=>[]) (fun s v=>[(7,.int .i64 (s))]) () [(1,_),(3,_),(4,_)]
  | apply Dk.loop 6 (V:=Unit) (fun (s:Int) v=>[]) (fun s v=>[(8,.int .i64 (s))]) () [(1,_),(3,_),(4,_),(7,_)]
  | apply Dk.quiet (id:=9) (by kernel_rfl)
  | apply Dk.quiet (id:=14) (by kernel_rfl)
  | apply Dk.quiet (id:=22) (by kernel_rfl)
  | apply Dk.any (id:=1) 7 [] [[],[],[],[],[],[],[4]] [[],[0],[],[2],[],[],[4,1,0,0,1,0,4,5]] (by kernel_rfl)
  | apply c45
  | apply YU
  | exact ()
theorem c47 {x0:aG} {aU aZ aN aK:Value} {x1:Int}:Ct Tryz.prog 47 true (nW x0 x1) [.agg #[.int .i64 (x0.aA),aU,aZ,aN,aK],.int .i64 (x1)] [rI aU x0.aC,rI aZ x0.To,rI aN x0.aH,rJ aK x0.aB] (fun y (v:Value×Value×Value×Value×Value×Value×Value×Value×Value×Value)=>[.agg #[.int .i64 y.aE.aA,v.1,v.2.1,v.2.2.1,v.2.2.2.1,.int .i64 y.aF.aA,v.2.2.2.2.1,v.2.2.2.2.2.1,v.2.2.2.2.2.2.1,v.2.2.2.2.2.2.2.1,v.2.2.2.2.2.2.2.2.1,v.2.2.2.2.2.2.2.2.2]]) (fun y v=>[.own (aI 2 (aL .i64)) v.1 y.aE.aC,.own (aI 2 (aL .i64)) v.2.1 y.aE.To,.own (aI 2 (aL .i64)) v.2.2.1 y.aE.aH,.own (aI 24 (aI 2 (aL .i64))) v.2.2.2.1 y.aE.aB,.own (aI 2 (aL .i64)) v.2.2.2.2.1 y.aF.aC,.own (aI 2 (aL .i64)) v.2.2.2.2.2.1 y.aF.To,.own (aI 2 (aL .i64)) v.2.2.2.2.2.2.1 y.aF.aH,.own (aI 24 (aI 2 (aL .i64))) v.2.2.2.2.2.2.2.1 y.aF.aB,.own (aI 2 (aL .i64)) v.2.2.2.2.2.2.2.2.1 y.aA,.own (aI 2 (aL .i64)) v.2.2.2.2.2.2.2.2.2 y.ah]):=by
 refine ct (S:=Unit) (bw fun _ _=>rfl) Tryz.func47 rfl rfl ?_
 repeat' first
  | (apply Dk.fe; repeat' first | exact rfl | (refine @id.{0} _ ?_; constructor))
  | intro _
  | exact rfl
  | (refine @id.{0} _ ?_; constructor)
  | apply Dk.any (id:=1) 3 [] [] [[],[],[]] (by kernel_rfl)
  | apply c83
  | apply Y2
  | exact ()
theorem c22 {x0:aJ} {aS aV aQ aO aT aW aR aP bA bC:Value}:Ct Tryz.prog 22 true (nY x0) [.agg #[.int .i64 (x0.aE.aA),aS,aV,aQ,aO,.int .i64 (x0.aF.aA),aT,aW,aR,aP,bA,bC]] [rI aS x0.aE.aC,rI aV x0.aE.To,rI aQ x0.aE.aH,rJ aO x0.aE.aB,rI aT x0.aF.aC,rI aW x0.aF.To,rI aR x0.aF.aH,rJ aP x0.aF.aB,rI bA x0.aA,rI bC x0.ah] (fun y (_:Unit)=>[.bool y]) (fun y _=>[]):=by
 refine ct (S:=Unit) (bw fun _ _=>rfl) Tryz.func22 rfl rfl ?_
 repeat' first
  | (apply Dk.fe; repeat' first | exact rfl | (refine @id.{0} _ ?_; constructor))
  | intro _
  | exact rfl
  | apply Dk.wu (d:=49)
  | (refine @id.{0} _ ?_; constructor)
  | apply Dk.loop 0 (V:=Unit) (fun (s:Int) v=>[]) (fun s v=>[(3,.int .i64 (s))]) () [(1,_)]
  | apply Dk.loop 2 (V:=Value) (fun (s:(List (List Int))×Int) v=>[.own (aI 24 (aI 2 (aL .i64))) v s.1]) (fun s v=>[(7,v),(8,.int .i64 (s.2))]) _ [(1,_),(3,_),(5,_),(6,_)]
  | apply Dk.loop 4 (V:=Unit) (fun (s:Int) v=>[]) (fun s v=>[(10,.int .i64 (s))]) () [(1,_),(3,_),(5,_),(9,_)]
  | apply Dk.Hq (id:=11) [(0,13)] 13 rfl (by kernel_rfl)
  | apply c47
  | apply c48
  | apply c49
  | apply c50
  | exact ()
theorem c7 {x0:aJ} {aS aV aQ aO aT aW aR aP bA bC:Value}:Ct Tryz.prog 7 true (kO x0) [.agg #[.int .i64 (x0.aE.aA),aS,aV,aQ,aO,.int .i64 (x0.aF.aA),aT,aW,aR,aP,bA,bC]] [rI aS x0.aE.aC,rI aV x0.aE.To,rI aQ x0.aE.aH,rJ aO x0.aE.aB,rI aT x0.aF.aC,rI aW x0.aF.To,rI aR x0.aF.aH,rJ aP x0.aF.aB,rI bA x0.aA,rI bC x0.ah] (fun y (_:Unit)=>[.bool y.1,.int .i64 y.2]) (fun y _=>[]):=by
 refine ct (S:=Unit) (bw fun _ _=>rfl) Tryz.func7 rfl rfl ?_
 repeat' first
  | (apply Dk.fe; repeat' first | exact rfl | (refine @id.{0} _ ?_; constructor))
  | intro _
  | exact rfl
  | (refine @id.{0} _ ?_; constructor)
  | apply c21
  | apply c22
  | exact ()
theorem afy {x0:aJ} {aS aV aQ aO aT aW aR aP bA bC:Value} {x1:aJ} {dG dR cY cQ dH dS cZ cR eP fD:Value} {x2:Bool} {x3:Int}:Ct Tryz.prog 114 false (mG x0 x1 x2 x3) [.agg #[.int .i64 (x0.aE.aA),aS,aV,aQ,aO,.int .i64 (x0.aF.aA),aT,aW,aR,aP,bA,bC],.agg #[.int .i64 (x1.aE.aA),dG,dR,cY,cQ,.int .i64 (x1.aF.aA),dH,dS,cZ,cR,eP,fD],.bool (x2),.int .i64 (x3)] [rI aS x0.aE.aC,rI aV x0.aE.To,rI aQ x0.aE.aH,rJ aO x0.aE.aB,rI aT x0.aF.aC,rI aW x0.aF.To,rI aR x0.aF.aH,rJ aP x0.aF.aB,rI bA x0.aA,rI bC x0.ah,rI dG x1.aE.aC,rI dR x1.aE.To,rI cY x1.aE.aH,rJ cQ x1.aE.aB,rI dH x1.aF.aC,rI dS x1.aF.To,rI cZ x1.aF.aH,rJ cR x1.aF.aB,rI eP x1.aA,rI fD x1.ah] (fun y (v:Value)=>[v]) (fun y v=>[rJ v y]):=by
 refine ct (S:=Unit) yi Tryz.func114 rfl rfl ?_
 repeat' first
  | (apply Dk.fe; repeat' first | exact rfl | (refine @id.{0} _ ?_; constructor))
  | intro _
  | exact rfl
  | apply Dk.wu (d:=40)
  | (refine Dk.uH (t:=61) rfl ?_ ?_)
  | (refine @id.{0} _ ?_; constructor)
  | apply Dk.loop 0 (V:=Value) (fun (s:(List (List Int))×Int) v=>[.own (aI 24 (aI 2 (aL .i64))) v s.1]) (fun s v=>[(10,v),(11,.int .i64 (s.2))]) _ [(2,_),(3,_),(4,_),(5,_),(9,_)]
  | apply Dk.loop 2 (V:=Value) (fun (s:(List Int)×Int) v=>[.own (aI 2 (aL .i64)) v s.1]) (fun s v=>[(13,v),(14,.int .i64 (s.2))]) _ [(2,_),(3,_),(4,_),(5,_),(12,_)]
  | apply Dk.loop 4 (V:=Value) (fun (s:(List Int)×Int) v=>[.own (aI 2 (aL .i64)) v s.1]) (fun s v=>[(15,v),(16,.int .i64 (s.2))]) _ [(2,_),(3,_),(4,_),(5,_),(12,_),(13,_),(14,_)]
  | apply Dk.Hq (id:=6) [(0,11)] 11 rfl (by kernel_rfl)
  | apply c50
  | apply afq
  | exact ()
theorem c94 {x0:aJ} {aS aV aQ aO aT aW aR aP bA bC:Value}:Ct Tryz.prog 94 false (lK x0) [.agg #[.int .i64 (x0.aE.aA),aS,aV,aQ,aO,.int .i64 (x0.aF.aA),aT,aW,aR,aP,bA,bC]] [rI aS x0.aE.aC,rI aV x0.aE.To,rI aQ x0.aE.aH,rJ aO x0.aE.aB,rI aT x0.aF.aC,rI aW x0.aF.To,rI aR x0.aF.aH,rJ aP x0.aF.aB,rI bA x0.aA,rI bC x0.ah] (fun y (v:Value)=>[v]) (fun y v=>[.rd false (bG (my uR)) v y]):=by
 refine ct (S:=Unit) yi Tryz.func94 rfl rfl ?_
 repeat' first
  | (apply Dk.fe; repeat' first | exact rfl | (refine @id.{0} _ ?_; constructor))
  | intro _
  | exact rfl
  | apply Dk.WM (t:=93) (S:=uR)
  | apply Dk.WN (t:=93) (x:=.tmp 14)
  | apply Dk.VQ.VR (t:=93) (x:=.tmp 27)
  | apply Dk.WR (t:=93) (bD.mk _ _)
  | (refine @id.{0} _ ?_; constructor)
  | apply Dk.xJ 0 (V:=Value) (W:=List (List Value)) (fun (s:List bD×Int) v u=>[.own (aI 38 (jg 2)) v u,.rd false (uC uR) (.bool true) (u,s.1)]) (fun s v u=>[(3,v),(4,.int .i64 s.2)]) _ _ [(1,_)]
  | apply Dk.xJ 2 (V:=Value) (W:=List (List Value)) (fun (s:List bD×Int) v u=>[.own (aI 38 (jg 2)) v u,.rd false (uC uR) (.bool true) (u,s.1)]) (fun s v u=>[(3,v),(6,.int .i64 s.2)]) _ _ [(1,_),(4,_),(5,_)]
  | apply Dk.any (id:=5) 10 [] [] [[],[0],[],[2],[],[1,0,3,2,4],[],[],[7],[8,7]] (by kernel_rfl)
  | apply Y2
  | apply afy
  | exact ()
theorem c60 {x0:aJ} {aS aV aQ aO aT aW aR aP bA bC:Value}:Ct Tryz.prog 60 false (pO x0) [.agg #[.int .i64 (x0.aE.aA),aS,aV,aQ,aO,.int .i64 (x0.aF.aA),aT,aW,aR,aP,bA,bC]] [rI aS x0.aE.aC,rI aV x0.aE.To,rI aQ x0.aE.aH,rJ aO x0.aE.aB,rI aT x0.aF.aC,rI aW x0.aF.To,rI aR x0.aF.aH,rJ aP x0.aF.aB,rI bA x0.aA,rI bC x0.ah] (fun y (v:Value)=>[v,.int .i64 y.2]) (fun y v=>[.rd false (bG (my uR)) v y.1]):=by
 refine ct (S:=Unit) yi Tryz.func60 rfl rfl ?_
 repeat' first
  | (apply Dk.fe; repeat' first | exact rfl | (refine @id.{0} _ ?_; constructor))
  | intro _
  | exact rfl
  | (refine @id.{0} _ ?_; constructor)
  | apply c94
  | exact ()
theorem c29 {x0:aJ} {aS aV aQ aO aT aW aR aP bA bC:Value}:Ct Tryz.prog 29 false (lL x0) [.agg #[.int .i64 (x0.aE.aA),aS,aV,aQ,aO,.int .i64 (x0.aF.aA),aT,aW,aR,aP,bA,bC]] [rI aS x0.aE.aC,rI aV x0.aE.To,rI aQ x0.aE.aH,rJ aO x0.aE.aB,rI aT x0.aF.aC,rI aW x0.aF.To,rI aR x0.aF.aH,rJ aP x0.aF.aB,rI bA x0.aA,rI bC x0.ah] (fun y (v:Value)=>[.agg #[.int .i64 y.1.da,v],.int .i64 y.2]) (fun y v=>[rI v y.1.ay]):=by
 refine ct (S:=Unit) yi Tryz.func29 rfl rfl ?_
 repeat' first
  | (apply Dk.fe; repeat' first | exact rfl | (refine @id.{0} _ ?_; constructor))
  | intro _
  | exact rfl
  | (refine @id.{0} _ ?_; constructor)
  | apply Dk.loop 0 (V:=Unit) (fun (s:Int) v=>[]) (fun s v=>[(6,.int .i64 (s))]) () [(1,_),(2,_),(4,_)]
  | apply Dk.quiet (id:=7) (by kernel_rfl)
  | apply c60
  | apply c61
  | exact ()
end Go.Proofs.YtbmchcnkbonmkaaGreat
