/- Walks by the calculus D. No condition beside those that each theorem names. -/
import Derived.Test.YtbmchcnkbonmkaaGreatDi
import Derived.Test.YtbmchcnkbonmkaaGreatMo
import Derived.Test.YtbmchcnkbonmkaaGreatDp
import Derived.Test.YtbmchcnkbonmkaaGreatDs
import Derived.Test.YtbmchcnkbonmkaaGreatWa
import Derived.Test.YtbmchcnkbonmkaaGreatWb
import Derived.Test.YtbmchcnkbonmkaaGreatWc
namespace Go.Proofs.YtbmchcnkbonmkaaGreat
open Go Go.Li Go.Dk
set_option linter.unusedVariables false
set_option maxHeartbeats 16000000
set_option maxRecDepth 100000
theorem afr {x0:(List (List Int))} {cA:Value}:Ct Tryz.prog 105 true (iM x0) [cA] [rJ cA x0] (fun y (v:Value×Value×Value×Value)=>[.agg #[.int .i64 y.aA,v.1,v.2.1,v.2.2.1,v.2.2.2]]) (fun y v=>[.own (aI 2 (aL .i64)) v.1 y.aC,.own (aI 2 (aL .i64)) v.2.1 y.To,.own (aI 2 (aL .i64)) v.2.2.1 y.aH,.own (aI 24 (aI 2 (aL .i64))) v.2.2.2 y.aB]):=by
 refine ct (S:=Unit) (bw fun _ _=>rfl) Tryz.func105 rfl rfl ?_
 repeat' first
  | (apply Dk.fe; repeat' first | exact rfl | (refine @id.{0} _ ?_; constructor))
  | intro _
  | exact rfl
  | (refine @id.{0} _ ?_; constructor)
  | apply Dk.any (id:=2) 7 [] [] [[],[0,0],[],[2,2],[],[],[5]] (by kernel_rfl)
  | apply YN
  | exact ()
theorem YX {x0:aG} {aU aZ aN aK:Value}:Ct Tryz.prog 76 true (jZ x0) [.agg #[.int .i64 (x0.aA),aU,aZ,aN,aK]] [rI aU x0.aC,rI aZ x0.To,rI aN x0.aH,rJ aK x0.aB] (fun y (v:Value×Value×Value×Value)=>[.agg #[.int .i64 y.aA,v.1,v.2.1,v.2.2.1,v.2.2.2]]) (fun y v=>[.own (aI 2 (aL .i64)) v.1 y.aC,.own (aI 2 (aL .i64)) v.2.1 y.To,.own (aI 2 (aL .i64)) v.2.2.1 y.aH,.own (aI 24 (aI 2 (aL .i64))) v.2.2.2 y.aB]):=by
 refine ct (S:=Unit) (bw fun _ _=>rfl) Tryz.func76 rfl rfl ?_
 repeat' first
  | (apply Dk.fe; repeat' first | exact rfl | (refine @id.{0} _ ?_; constructor))
  | intro _
  | exact rfl
  | (refine @id.{0} _ ?_; constructor)
  | apply Dk.any (id:=1) 14 [] [] [[],[0],[],[2],[3,2],[],[5],[6,5,4,3,2],[],[8],[9,8,7,6,5,4,3,2],[],[11],[12,11,10,9,8,7,6,5,4,3,2]] (by kernel_rfl)
  | apply DE
  | apply YN
  | exact ()
theorem c72 {x0:aG} {aU aZ aN aK:Value} {x1:aG} {bK bY bE bB:Value}:Ct Tryz.prog 72 true (iI x0 x1) [.agg #[.int .i64 (x0.aA),aU,aZ,aN,aK],.agg #[.int .i64 (x1.aA),bK,bY,bE,bB]] [rI aU x0.aC,rI aZ x0.To,rI aN x0.aH,rJ aK x0.aB,rI bK x1.aC,rI bY x1.To,rI bE x1.aH,rJ bB x1.aB] (fun y (v:Value×Value×Value×Value)=>[.agg #[.int .i64 y.aA,v.1,v.2.1,v.2.2.1,v.2.2.2]]) (fun y v=>[.own (aI 2 (aL .i64)) v.1 y.aC,.own (aI 2 (aL .i64)) v.2.1 y.To,.own (aI 2 (aL .i64)) v.2.2.1 y.aH,.own (aI 24 (aI 2 (aL .i64))) v.2.2.2 y.aB]):=by
 refine ct (S:=Unit) (bw fun _ _=>rfl) Tryz.func72 rfl rfl ?_
 repeat' first
  | (apply Dk.fe; repeat' first | exact rfl | (refine @id.{0} _ ?_; constructor))
  | intro _
  | exact rfl
  | apply Dk.apR (d:=69)
  | apply Dk.ixH (d:=70)
  | apply Dk.stR (e:=24) (t:=24)
  | (refine @id.{0} _ ?_; constructor)
  | apply Dk.je 0 (V:=Value) (A:=Nat×Value×Value×Value) (_,_,_,_) (fun a (s:Int×(List Int)) v=>Dk.pc (fun a0=>Dk.pc (fun a1=>Dk.pc (fun a2 a3=>[.row a0 [.int .i64 (aj (x0.aA+x1.aA)),a1,a2,v,a3] 27,.own (aI 2 (aL .i64)) v s.2]))) a) (fun a s v=>Dk.pc (fun a0=>Dk.pc (fun a1=>Dk.pc (fun a2 a3=>[(7,.pointer (some ⟨a0,0,none⟩)),(8,.int .i64 (s.1))]))) a) _ [(3,_),(4,_),(5,_),(6,_)]
  | apply Dk.je 2 (V:=Unit) (A:=Value) _ (fun a (s:Int×(List (List Int))) v=>[.own (aI 24 (aI 2 (aL .i64))) a s.2]) (fun a s v=>[(9,.int .i64 (s.1))]) () [(3,_),(4,_),(5,_),(6,_),(7,_)]
  | apply Dk.je 4 (V:=Unit) (A:=Value) _ (fun a (s:Int×(List (List Int))) v=>[.own (aI 24 (aI 2 (aL .i64))) a s.2]) (fun a s v=>[(10,.int .i64 (s.1))]) () [(3,_),(4,_),(5,_),(6,_),(7,_),(9,_)]
  | apply Dk.je 6 (V:=Value×Value×Value) (A:=Nat×Value) (_,_) (fun a (s:Int×(List Int)×(List Int)×(List (List Int))) v=>Dk.pc (fun a0 a1=>[.row a0 [.int .i64 (aj (x0.aA+x1.aA)),v.1,v.2.1,a1,v.2.2] 27,.own (aI 2 (aL .i64)) v.1 s.2.1,.own (aI 2 (aL .i64)) v.2.1 s.2.2.1,.own (aI 24 (aI 2 (aL .i64))) v.2.2 s.2.2.2]) a) (fun a s v=>Dk.pc (fun a0 a1=>[(7,.pointer (some ⟨a0,0,none⟩)),(11,.int .i64 (s.1))]) a) (_,_,_) [(3,_),(4,_),(5,_),(6,_)]
  | apply Dk.loop 8 (V:=Value) (fun (s:(List Int)×Int) v=>[.own (aI 2 (aL .i64)) v s.1]) (fun s v=>[(12,v),(13,.int .i64 (s.2))]) _ [(3,_),(4,_),(5,_),(6,_),(7,_),(11,_)]
  | apply Dk.loop 10 (V:=Value) (fun (s:(List Int)×Int) v=>[.own (aI 2 (aL .i64)) v s.1]) (fun s v=>[(12,v),(14,.int .i64 (s.2))]) _ [(3,_),(4,_),(5,_),(6,_),(7,_),(11,_)]
  | apply Dk.quiet (id:=1) (by kernel_rfl)
  | apply Dk.any (id:=7) 10 [] [] [[],[0],[],[2],[],[3,2,4],[5,3,2,4],[],[6,5,3,2,4,7],[8,6,5,3,2,4,7]] (by kernel_rfl)
  | apply Dk.zW (id:=14) [Dk.av.own (aI 24 (aI 2 (aL .i64))) _ _] 10 [] [[],[],[],[],[],[],[],[],[],[12]] [[],[0],[],[],[3],[],[4,3,5],[6,4,3,5],[],[7,6,4,3,5,8]] (by kernel_rfl)
  | apply Dk.any (id:=18) 10 [] [] [[],[0],[],[2],[],[3,2,4],[5,3,2,4],[],[6,5,3,2,4,7],[8,6,5,3,2,4,7]] (by kernel_rfl)
  | apply Dk.any (id:=19) 10 [] [] [[],[0],[],[2],[],[3,2,4],[5,3,2,4],[],[6,5,3,2,4,7],[8,6,5,3,2,4,7]] (by kernel_rfl)
  | apply YX
  | exact ()
theorem TE {x0:aG} {aU aZ aN aK:Value} {x1:aG} {bK bY bE bB:Value} {x2:(List Int)} {dC:Value} {x3:(List Int)} {fN:Value}:Ct Tryz.prog 62 true (jC x0 x1 x2 x3) [.agg #[.int .i64 (x0.aA),aU,aZ,aN,aK],.agg #[.int .i64 (x1.aA),bK,bY,bE,bB],dC,fN] [rI aU x0.aC,rI aZ x0.To,rI aN x0.aH,rJ aK x0.aB,rI bK x1.aC,rI bY x1.To,rI bE x1.aH,rJ bB x1.aB,rI dC x2,rI fN x3] (fun y (v:Value×Value×Value×Value×Value×Value×Value×Value×Value×Value)=>[.agg #[.int .i64 y.aE.aA,v.1,v.2.1,v.2.2.1,v.2.2.2.1,.int .i64 y.aF.aA,v.2.2.2.2.1,v.2.2.2.2.2.1,v.2.2.2.2.2.2.1,v.2.2.2.2.2.2.2.1,v.2.2.2.2.2.2.2.2.1,v.2.2.2.2.2.2.2.2.2]]) (fun y v=>[.own (aI 2 (aL .i64)) v.1 y.aE.aC,.own (aI 2 (aL .i64)) v.2.1 y.aE.To,.own (aI 2 (aL .i64)) v.2.2.1 y.aE.aH,.own (aI 24 (aI 2 (aL .i64))) v.2.2.2.1 y.aE.aB,.own (aI 2 (aL .i64)) v.2.2.2.2.1 y.aF.aC,.own (aI 2 (aL .i64)) v.2.2.2.2.2.1 y.aF.To,.own (aI 2 (aL .i64)) v.2.2.2.2.2.2.1 y.aF.aH,.own (aI 24 (aI 2 (aL .i64))) v.2.2.2.2.2.2.2.1 y.aF.aB,.own (aI 2 (aL .i64)) v.2.2.2.2.2.2.2.2.1 y.aA,.own (aI 2 (aL .i64)) v.2.2.2.2.2.2.2.2.2 y.ah]):=by
 refine ct (S:=Unit) (bw fun _ _=>rfl) Tryz.func62 rfl rfl ?_
 repeat' first
  | (apply Dk.fe; repeat' first | exact rfl | (refine @id.{0} _ ?_; constructor))
  | intro _
  | exact rfl
  | (refine @id.{0} _ ?_; constructor)
  | apply Dk.any (id:=1) 7 [] [] [[],[0],[],[2,1,0],[],[4,3,2,1,0],[]] (by kernel_rfl)
  | apply YX
  | apply DE
  | exact ()
theorem c36 {x0:aM} {cX:Nat} {cB:Value} {x1:aG} {bK bY bE bB:Value}:Ct Tryz.prog 36 false (pE x0 x1) [.pointer (some (⟨cX,0,none⟩)),.agg #[.int .i64 (x1.aA),bK,bY,bE,bB]] [.row cX [cB,.int .i64 (x0.At),.int .u64 (x0.bb)] 68,.rd false (bG (aL .u8)) cB x0.Code,rI bK x1.aC,rI bY x1.To,rI bE x1.aH,rJ bB x1.aB] (fun y (v:Value×Value×Value×Value)=>[.agg #[.int .i64 y.1.aA,v.1,v.2.1,v.2.2.1,v.2.2.2]]) (fun y v=>[rI v.1 y.1.aC,rI v.2.1 y.1.To,rI v.2.2.1 y.1.aH,rJ v.2.2.2 y.1.aB,.row cX [cB,.int .i64 y.2.At,.int .u64 y.2.bb] 68]):=by
 refine ct (S:=Unit) yi Tryz.func36 rfl rfl ?_
 repeat' first
  | (apply Dk.fe; repeat' first | exact rfl | (refine @id.{0} _ ?_; constructor))
  | intro _
  | exact rfl
  | (refine Dk.uH (t:=58) rfl ?_ ?_)
  | apply Dk.slT (t:=24)
  | apply Dk.stN
  | (refine @id.{0} _ ?_; constructor)
  | apply Dk.zW (id:=13) [Dk.av.row _ _ 68] 6 [] [[],[],[],[],[],[8]] [[],[0],[],[],[3],[2,4,3]] (by kernel_rfl)
  | apply Dk.zW (id:=18) [Dk.av.row _ _ 68] 13 [] [[],[],[],[],[],[],[],[15],[],[],[],[7],[]] [[],[0],[],[1,0,2],[3,1,0,2],[],[],[5,6],[],[],[9],[8,10,9,7,5,6],[11,8,10,9,5,6]] (by kernel_rfl)
  | apply Dk.zW (id:=21) [Dk.av.row _ _ 68] 8 [] [[],[],[],[],[],[],[],[10]] [[],[0],[],[],[],[4],[5,4],[3,6,5,4]] (by kernel_rfl)
  | apply Dk.ZD (id:=6) 9 (e:=24) (e2:=2) (T:=(aL .i64)) (by kernel_rfl)
  | apply YX
  | apply Hb
  | apply c77
  | exact ()
theorem c91 {x0:aG} {cS:Addr} {aU aZ aN aK:Value}:Ct Tryz.prog 91 true (gQ x0) [.pointer (some (cS))] [.aw cS [.int .i64 (x0.aA),aU,aZ,aN,aK],rI aU x0.aC,rI aZ x0.To,rI aN x0.aH,rJ aK x0.aB] (fun y (v:Value×Value×Value×Value)=>[.agg #[.int .i64 y.aA,v.1,v.2.1,v.2.2.1,v.2.2.2]]) (fun y v=>[.own (aI 2 (aL .i64)) v.1 y.aC,.own (aI 2 (aL .i64)) v.2.1 y.To,.own (aI 2 (aL .i64)) v.2.2.1 y.aH,.own (aI 24 (aI 2 (aL .i64))) v.2.2.2 y.aB]):=by
 refine ct (S:=Unit) (bw fun _ _=>rfl) Tryz.func91 rfl rfl ?_
 repeat' first
  | (apply Dk.fe; repeat' first | exact rfl | (refine @id.{0} _ ?_; constructor))
  | intro _
  | exact rfl
  | (refine @id.{0} _ ?_; constructor)
  | apply Dk.any (id:=1) 24 [] [] [[],[0],[1,0],[2,1,0],[],[4],[5,4],[6,5,4],[7,6,5,4],[],[9],[10,9],[11,10,9],[12,11,10,9,8,7,6,5,4],[],[14],[15,14],[16,15,14],[17,16,15,14,13,12,11,10,9,8,7,6,5,4],[],[19],[20,19],[21,20,19],[22,21,20,19,18,17,16,15,14,13,12,11,10,9,8,7,6,5,4]] (by kernel_rfl)
  | apply Px
  | apply afb
  | exact ()
theorem c54 {x0:aG} {cS:Addr} {aU aZ aN aK:Value} {x1:aG} {sQ:Addr} {bK bY bE bB:Value} {x2:(List Int)} {dC:Value} {x3:(List Int)} {fN:Value}:Ct Tryz.prog 54 true (mE x0 x1 x2 x3) [.pointer (some (cS)),.pointer (some (sQ)),dC,fN] [.aw sQ [.int .i64 (x1.aA),bK,bY,bE,bB],.aw cS [.int .i64 (x0.aA),aU,aZ,aN,aK],rI aU x0.aC,rI aZ x0.To,rI aN x0.aH,rJ aK x0.aB,rI bK x1.aC,rI bY x1.To,rI bE x1.aH,rJ bB x1.aB,rI dC x2,rI fN x3] (fun y (v:Value×Value×Value×Value×Value×Value×Value×Value×Value×Value)=>[.agg #[.int .i64 y.aE.aA,v.1,v.2.1,v.2.2.1,v.2.2.2.1,.int .i64 y.aF.aA,v.2.2.2.2.1,v.2.2.2.2.2.1,v.2.2.2.2.2.2.1,v.2.2.2.2.2.2.2.1,v.2.2.2.2.2.2.2.2.1,v.2.2.2.2.2.2.2.2.2]]) (fun y v=>[.own (aI 2 (aL .i64)) v.1 y.aE.aC,.own (aI 2 (aL .i64)) v.2.1 y.aE.To,.own (aI 2 (aL .i64)) v.2.2.1 y.aE.aH,.own (aI 24 (aI 2 (aL .i64))) v.2.2.2.1 y.aE.aB,.own (aI 2 (aL .i64)) v.2.2.2.2.1 y.aF.aC,.own (aI 2 (aL .i64)) v.2.2.2.2.2.1 y.aF.To,.own (aI 2 (aL .i64)) v.2.2.2.2.2.2.1 y.aF.aH,.own (aI 24 (aI 2 (aL .i64))) v.2.2.2.2.2.2.2.1 y.aF.aB,.own (aI 2 (aL .i64)) v.2.2.2.2.2.2.2.2.1 y.aA,.own (aI 2 (aL .i64)) v.2.2.2.2.2.2.2.2.2 y.ah]):=by
 refine ct (S:=Unit) (bw fun _ _=>rfl) Tryz.func54 rfl rfl ?_
 repeat' first
  | (apply Dk.fe; repeat' first | exact rfl | (refine @id.{0} _ ?_; constructor))
  | intro _
  | exact rfl
  | (refine @id.{0} _ ?_; constructor)
  | apply c91
  | apply Px
  | exact ()
theorem c61 {x0:aJ} {aS aV aQ aO aT aW aR aP bA bC:Value} {x1:(List bD)} {dD:Value} {x2:bD} {kS:Value}:Ct Tryz.prog 61 true (kG x0 x1 x2) [.agg #[.int .i64 (x0.aE.aA),aS,aV,aQ,aO,.int .i64 (x0.aF.aA),aT,aW,aR,aP,bA,bC],dD,.agg #[.int .i64 (x2.da),kS]] [rI aS x0.aE.aC,rI aV x0.aE.To,rI aQ x0.aE.aH,rJ aO x0.aE.aB,rI aT x0.aF.aC,rI aW x0.aF.To,rI aR x0.aF.aH,rJ aP x0.aF.aB,rI bA x0.aA,rI bC x0.ah,.rd false (bG (my uR)) dD x1,rI kS x2.ay] (fun y (_:Unit)=>[.bool y]) (fun y _=>[]):=by
 refine ct (S:=Unit) (bw fun _ _=>rfl) Tryz.func61 rfl rfl ?_
 repeat' first
  | (apply Dk.fe; repeat' first | exact rfl | (refine @id.{0} _ ?_; constructor))
  | intro _
  | exact rfl
  | (refine @id.{0} _ ?_; constructor)
  | apply Dk.loop 0 (V:=Unit) (fun (s:Int) v=>[]) (fun s v=>[(7,.int .i64 (s))]) () [(1,_),(3,_),(5,_)]
  | apply Dk.any (id:=4) 6 [] [] [[],[],[],[1,2],[3,1,2],[]] (by kernel_rfl)
  | apply c95
  | exact ()
end Go.Proofs.YtbmchcnkbonmkaaGreat
