/- Walks by the calculus D. No condition beside those that each theorem names. -/
import Derived.Test.YtilhlobfebngdaaGreatDp
import Derived.Test.YtilhlobfebngdaaGreatDi
import Derived.Test.YtilhlobfebngdaaGreatMo
import Derived.Test.YtilhlobfebngdaaGreatDs
import Derived.Test.YtilhlobfebngdaaGreatWa
import Derived.Test.YtilhlobfebngdaaGreatWe
import Derived.Test.YtilhlobfebngdaaGreatWh
namespace Go.Proofs.YtilhlobfebngdaaGreat
open Go Go.Li Go.Dk
set_option linter.unusedVariables false
set_option maxHeartbeats 16000000
set_option maxRecDepth 100000
theorem af8 {x0:aQ} {bK bQ aZ aW bL bR bA aY bU bZ:Value}:Ct Tryz.prog 118 true (jP x0) [.agg #[.int .i64 (x0.aB.aA),bK,bQ,aZ,aW,.int .i64 (x0.aH.aA),bL,bR,bA,aY,bU,bZ]] [rI bK x0.aB.aG,rI bQ x0.aB.To,rI aZ x0.aB.aJ,rJ aW x0.aB.aE,rI bL x0.aH.aG,rI bR x0.aH.To,rI bA x0.aH.aJ,rJ aY x0.aH.aE,rI bU x0.aA,rI bZ x0.ab] (fun y (v:Value×Value×Value×Value×Value×Value×Value×Value×Value×Value×Value×Value×Value×Value×Value×Value×Value×Value×Value×Value×Value×Value)=>[.agg #[.int .i64 y.1.Left.aB.aA,v.1,v.2.1,v.2.2.1,v.2.2.2.1,.int .i64 y.1.Left.aH.aA,v.2.2.2.2.1,v.2.2.2.2.2.1,v.2.2.2.2.2.2.1,v.2.2.2.2.2.2.2.1,v.2.2.2.2.2.2.2.2.1,v.2.2.2.2.2.2.2.2.2.1,.int .i64 y.1.bu.aB.aA,v.2.2.2.2.2.2.2.2.2.2.1,v.2.2.2.2.2.2.2.2.2.2.2.1,v.2.2.2.2.2.2.2.2.2.2.2.2.1,v.2.2.2.2.2.2.2.2.2.2.2.2.2.1,.int .i64 y.1.bu.aH.aA,v.2.2.2.2.2.2.2.2.2.2.2.2.2.2.1,v.2.2.2.2.2.2.2.2.2.2.2.2.2.2.2.1,v.2.2.2.2.2.2.2.2.2.2.2.2.2.2.2.2.1,v.2.2.2.2.2.2.2.2.2.2.2.2.2.2.2.2.2.1,v.2.2.2.2.2.2.2.2.2.2.2.2.2.2.2.2.2.2.1,v.2.2.2.2.2.2.2.2.2.2.2.2.2.2.2.2.2.2.2.1,v.2.2.2.2.2.2.2.2.2.2.2.2.2.2.2.2.2.2.2.2.1,v.2.2.2.2.2.2.2.2.2.2.2.2.2.2.2.2.2.2.2.2.2],.bool y.2]) (fun y v=>[.own (aL 2 (aN .i64)) v.1 y.1.Left.aB.aG,.own (aL 2 (aN .i64)) v.2.1 y.1.Left.aB.To,.own (aL 2 (aN .i64)) v.2.2.1 y.1.Left.aB.aJ,.own (aL 24 (aL 2 (aN .i64))) v.2.2.2.1 y.1.Left.aB.aE,.own (aL 2 (aN .i64)) v.2.2.2.2.1 y.1.Left.aH.aG,.own (aL 2 (aN .i64)) v.2.2.2.2.2.1 y.1.Left.aH.To,.own (aL 2 (aN .i64)) v.2.2.2.2.2.2.1 y.1.Left.aH.aJ,.own (aL 24 (aL 2 (aN .i64))) v.2.2.2.2.2.2.2.1 y.1.Left.aH.aE,.own (aL 2 (aN .i64)) v.2.2.2.2.2.2.2.2.1 y.1.Left.aA,.own (aL 2 (aN .i64)) v.2.2.2.2.2.2.2.2.2.1 y.1.Left.ab,.own (aL 2 (aN .i64)) v.2.2.2.2.2.2.2.2.2.2.1 y.1.bu.aB.aG,.own (aL 2 (aN .i64)) v.2.2.2.2.2.2.2.2.2.2.2.1 y.1.bu.aB.To,.own (aL 2 (aN .i64)) v.2.2.2.2.2.2.2.2.2.2.2.2.1 y.1.bu.aB.aJ,.own (aL 24 (aL 2 (aN .i64))) v.2.2.2.2.2.2.2.2.2.2.2.2.2.1 y.1.bu.aB.aE,.own (aL 2 (aN .i64)) v.2.2.2.2.2.2.2.2.2.2.2.2.2.2.1 y.1.bu.aH.aG,.own (aL 2 (aN .i64)) v.2.2.2.2.2.2.2.2.2.2.2.2.2.2.2.1 y.1.bu.aH.To,.own (aL 2 (aN .i64)) v.2.2.2.2.2.2.2.2.2.2.2.2.2.2.2.2.1 y.1.bu.aH.aJ,.own (aL 24 (aL 2 (aN .i64))) v.2.2.2.2.2.2.2.2.2.2.2.2.2.2.2.2.2.1 y.1.bu.aH.aE,.own (aL 2 (aN .i64)) v.2.2.2.2.2.2.2.2.2.2.2.2.2.2.2.2.2.2.1 y.1.bu.aA,.own (aL 2 (aN .i64)) v.2.2.2.2.2.2.2.2.2.2.2.2.2.2.2.2.2.2.2.1 y.1.bu.ab,.own (aL 2 (aN .i64)) v.2.2.2.2.2.2.2.2.2.2.2.2.2.2.2.2.2.2.2.2.1 y.1.Unit,.own (aL 2 (aN .i64)) v.2.2.2.2.2.2.2.2.2.2.2.2.2.2.2.2.2.2.2.2.2 y.1.l9]):=by
 refine ct (S:=Unit) (b9 fun _ _=>rfl) Tryz.func118 rfl rfl ?_
 repeat' first
  | (apply Dk.fe; repeat' first | exact rfl | (refine @id.{0} _ ?_; constructor))
  | intro _
  | exact rfl
  | (refine @id.{0} _ ?_; constructor)
  | apply Dk.loop 0 (V:=Value×Value) (fun (s:(List Int)×(List Int)×Int) v=>[.own (aL 2 (aN .i64)) v.1 s.1,.own (aL 2 (aN .i64)) v.2 s.2.1]) (fun s v=>[(6,v.1),(7,v.2),(10,.int .i64 (s.2.2))]) (_,_) [(1,_),(2,_),(4,_),(5,_),(8,_),(9,_)]
  | apply Dk.loop 2 (V:=Value) (fun (s:(List Int)×Int) v=>[.own (aL 2 (aN .i64)) v s.1]) (fun s v=>[(8,v),(14,.int .i64 (s.2))]) _ [(1,_),(2,_),(4,_),(5,_),(6,_),(7,_),(9,_)]
  | apply Dk.loop 4 (V:=Value) (fun (s:(List Int)×Int) v=>[.own (aL 2 (aN .i64)) v s.1]) (fun s v=>[(9,v),(17,.int .i64 (s.2))]) _ [(1,_),(2,_),(4,_),(5,_),(6,_),(7,_),(8,_)]
  | apply Dk.quiet (id:=14) (by kernel_rfl)
  | apply Dk.any (id:=1) 7 [] [[],[],[],[],[],[],[4]] [[],[0],[],[2],[],[],[0,1,4,5]] (by kernel_rfl)
  | apply Dk.any (id:=15) 21 [0] [] [[],[],[],[],[2,3],[2,3,4],[],[],[6,7],[6,7,8],[],[],[10,11],[10,11,12],[],[],[],[15,16],[15,16,17],[],[14,15,16,17,18,19]] (by kernel_rfl)
  | apply Dk.any (id:=20) 16 [0] [] [[],[],[],[],[],[3,4],[3,4,5],[],[],[7,8],[7,8,9],[],[11],[],[11,12,13],[11,12,13,14]] (by kernel_rfl)
  | apply Dk.any (id:=21) 9 [] [] [[],[0],[],[],[],[],[0,1,2,3,4,5],[],[]] (by kernel_rfl)
  | apply af1
  | apply Hu
  | apply YD
  | apply YO
  | apply Hv
  | exact ()
theorem c83 {x0:cU} {gW iN fV fL gX iO fW fM jR kW gU iJ fR fG gV iK fS fH jJ jS cB oZ:Value}:Ct Tryz.prog 83 true (lE x0) [.agg #[.int .i64 (x0.Left.aB.aA),gW,iN,fV,fL,.int .i64 (x0.Left.aH.aA),gX,iO,fW,fM,jR,kW,.int .i64 (x0.bu.aB.aA),gU,iJ,fR,fG,.int .i64 (x0.bu.aH.aA),gV,iK,fS,fH,jJ,jS,cB,oZ]] [rI gW x0.Left.aB.aG,rI iN x0.Left.aB.To,rI fV x0.Left.aB.aJ,rJ fL x0.Left.aB.aE,rI gX x0.Left.aH.aG,rI iO x0.Left.aH.To,rI fW x0.Left.aH.aJ,rJ fM x0.Left.aH.aE,rI jR x0.Left.aA,rI kW x0.Left.ab,rI gU x0.bu.aB.aG,rI iJ x0.bu.aB.To,rI fR x0.bu.aB.aJ,rJ fG x0.bu.aB.aE,rI gV x0.bu.aH.aG,rI iK x0.bu.aH.To,rI fS x0.bu.aH.aJ,rJ fH x0.bu.aH.aE,rI jJ x0.bu.aA,rI jS x0.bu.ab,rI cB x0.Unit,rI oZ x0.l9] (fun y (v:Value×Value×Value×Value×Value×Value×Value×Value×Value×Value×Value×Value×Value×Value×Value×Value×Value×Value×Value×Value×Value×Value)=>[.agg #[.int .i64 y.Left.aB.aA,v.1,v.2.1,v.2.2.1,v.2.2.2.1,.int .i64 y.Left.aH.aA,v.2.2.2.2.1,v.2.2.2.2.2.1,v.2.2.2.2.2.2.1,v.2.2.2.2.2.2.2.1,v.2.2.2.2.2.2.2.2.1,v.2.2.2.2.2.2.2.2.2.1,.int .i64 y.bu.aB.aA,v.2.2.2.2.2.2.2.2.2.2.1,v.2.2.2.2.2.2.2.2.2.2.2.1,v.2.2.2.2.2.2.2.2.2.2.2.2.1,v.2.2.2.2.2.2.2.2.2.2.2.2.2.1,.int .i64 y.bu.aH.aA,v.2.2.2.2.2.2.2.2.2.2.2.2.2.2.1,v.2.2.2.2.2.2.2.2.2.2.2.2.2.2.2.1,v.2.2.2.2.2.2.2.2.2.2.2.2.2.2.2.2.1,v.2.2.2.2.2.2.2.2.2.2.2.2.2.2.2.2.2.1,v.2.2.2.2.2.2.2.2.2.2.2.2.2.2.2.2.2.2.1,v.2.2.2.2.2.2.2.2.2.2.2.2.2.2.2.2.2.2.2.1,v.2.2.2.2.2.2.2.2.2.2.2.2.2.2.2.2.2.2.2.2.1,v.2.2.2.2.2.2.2.2.2.2.2.2.2.2.2.2.2.2.2.2.2]]) (fun y v=>[.own (aL 2 (aN .i64)) v.1 y.Left.aB.aG,.own (aL 2 (aN .i64)) v.2.1 y.Left.aB.To,.own (aL 2 (aN .i64)) v.2.2.1 y.Left.aB.aJ,.own (aL 24 (aL 2 (aN .i64))) v.2.2.2.1 y.Left.aB.aE,.own (aL 2 (aN .i64)) v.2.2.2.2.1 y.Left.aH.aG,.own (aL 2 (aN .i64)) v.2.2.2.2.2.1 y.Left.aH.To,.own (aL 2 (aN .i64)) v.2.2.2.2.2.2.1 y.Left.aH.aJ,.own (aL 24 (aL 2 (aN .i64))) v.2.2.2.2.2.2.2.1 y.Left.aH.aE,.own (aL 2 (aN .i64)) v.2.2.2.2.2.2.2.2.1 y.Left.aA,.own (aL 2 (aN .i64)) v.2.2.2.2.2.2.2.2.2.1 y.Left.ab,.own (aL 2 (aN .i64)) v.2.2.2.2.2.2.2.2.2.2.1 y.bu.aB.aG,.own (aL 2 (aN .i64)) v.2.2.2.2.2.2.2.2.2.2.2.1 y.bu.aB.To,.own (aL 2 (aN .i64)) v.2.2.2.2.2.2.2.2.2.2.2.2.1 y.bu.aB.aJ,.own (aL 24 (aL 2 (aN .i64))) v.2.2.2.2.2.2.2.2.2.2.2.2.2.1 y.bu.aB.aE,.own (aL 2 (aN .i64)) v.2.2.2.2.2.2.2.2.2.2.2.2.2.2.1 y.bu.aH.aG,.own (aL 2 (aN .i64)) v.2.2.2.2.2.2.2.2.2.2.2.2.2.2.2.1 y.bu.aH.To,.own (aL 2 (aN .i64)) v.2.2.2.2.2.2.2.2.2.2.2.2.2.2.2.2.1 y.bu.aH.aJ,.own (aL 24 (aL 2 (aN .i64))) v.2.2.2.2.2.2.2.2.2.2.2.2.2.2.2.2.2.1 y.bu.aH.aE,.own (aL 2 (aN .i64)) v.2.2.2.2.2.2.2.2.2.2.2.2.2.2.2.2.2.2.1 y.bu.aA,.own (aL 2 (aN .i64)) v.2.2.2.2.2.2.2.2.2.2.2.2.2.2.2.2.2.2.2.1 y.bu.ab,.own (aL 2 (aN .i64)) v.2.2.2.2.2.2.2.2.2.2.2.2.2.2.2.2.2.2.2.2.1 y.Unit,.own (aL 2 (aN .i64)) v.2.2.2.2.2.2.2.2.2.2.2.2.2.2.2.2.2.2.2.2.2 y.l9]):=by
 refine ct (S:=Unit) (b9 fun _ _=>rfl) Tryz.func83 rfl rfl ?_
 repeat' first
  | (apply Dk.fe; repeat' first | exact rfl | (refine @id.{0} _ ?_; constructor))
  | intro _
  | exact rfl
  | (refine @id.{0} _ ?_; constructor)
  | apply Dk.any (id:=1) 11 [] [] [[],[0],[0,1],[],[3],[0,1,2,3,4],[],[6],[0,1,2,3,4,5,6,7],[],[9]] (by kernel_rfl)
  | apply YP
  | apply wW
  | exact ()
end Go.Proofs.YtilhlobfebngdaaGreat
