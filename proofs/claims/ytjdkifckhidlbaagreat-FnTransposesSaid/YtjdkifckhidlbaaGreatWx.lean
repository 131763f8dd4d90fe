/- Walks by the calculus D. No condition beside those that each theorem names. -/
import Derived.Test.YtjdkifckhidlbaaGreatDp
import Derived.Test.YtjdkifckhidlbaaGreatDi
import Derived.Test.YtjdkifckhidlbaaGreatMo
import Derived.Test.YtjdkifckhidlbaaGreatDs
import Derived.Test.YtjdkifckhidlbaaGreatWa
import Derived.Test.YtjdkifckhidlbaaGreatWe
import Derived.Test.YtjdkifckhidlbaaGreatWg
namespace Go.Proofs.YtjdkifckhidlbaaGreat
open Go Go.Li Go.Dk
set_option linter.unusedVariables false
set_option maxHeartbeats 16000000
set_option maxRecDepth 100000
theorem abT {x0:aP} {bU bZ bD aY bV cA bE aZ cG cJ:Value}:Ct Tryz.prog 136 true (iC x0) [.agg #[.int .i64 (x0.aE.aA),bU,bZ,bD,aY,.int .i64 (x0.aH.aA),bV,cA,bE,aZ,cG,cJ]] [rI bU x0.aE.aG,rI bZ x0.aE.To,rI bD x0.aE.aJ,rJ aY x0.aE.aB,rI bV x0.aH.aG,rI cA x0.aH.To,rI bE x0.aH.aJ,rJ aZ x0.aH.aB,rI cG x0.aA,rI cJ x0.ae] (fun y (v:Value×Value×Value×Value×Value×Value×Value×Value×Value×Value×Value×Value×Value×Value×Value×Value×Value×Value×Value×Value×Value×Value)=>[.agg #[.int .i64 y.1.Left.aE.aA,v.1,v.2.1,v.2.2.1,v.2.2.2.1,.int .i64 y.1.Left.aH.aA,v.2.2.2.2.1,v.2.2.2.2.2.1,v.2.2.2.2.2.2.1,v.2.2.2.2.2.2.2.1,v.2.2.2.2.2.2.2.2.1,v.2.2.2.2.2.2.2.2.2.1,.int .i64 y.1.ab.aE.aA,v.2.2.2.2.2.2.2.2.2.2.1,v.2.2.2.2.2.2.2.2.2.2.2.1,v.2.2.2.2.2.2.2.2.2.2.2.2.1,v.2.2.2.2.2.2.2.2.2.2.2.2.2.1,.int .i64 y.1.ab.aH.aA,v.2.2.2.2.2.2.2.2.2.2.2.2.2.2.1,v.2.2.2.2.2.2.2.2.2.2.2.2.2.2.2.1,v.2.2.2.2.2.2.2.2.2.2.2.2.2.2.2.2.1,v.2.2.2.2.2.2.2.2.2.2.2.2.2.2.2.2.2.1,v.2.2.2.2.2.2.2.2.2.2.2.2.2.2.2.2.2.2.1,v.2.2.2.2.2.2.2.2.2.2.2.2.2.2.2.2.2.2.2.1,v.2.2.2.2.2.2.2.2.2.2.2.2.2.2.2.2.2.2.2.2.1,v.2.2.2.2.2.2.2.2.2.2.2.2.2.2.2.2.2.2.2.2.2],.bool y.2]) (fun y v=>[.own (aL 2 (aN .i64)) v.1 y.1.Left.aE.aG,.own (aL 2 (aN .i64)) v.2.1 y.1.Left.aE.To,.own (aL 2 (aN .i64)) v.2.2.1 y.1.Left.aE.aJ,.own (aL 24 (aL 2 (aN .i64))) v.2.2.2.1 y.1.Left.aE.aB,.own (aL 2 (aN .i64)) v.2.2.2.2.1 y.1.Left.aH.aG,.own (aL 2 (aN .i64)) v.2.2.2.2.2.1 y.1.Left.aH.To,.own (aL 2 (aN .i64)) v.2.2.2.2.2.2.1 y.1.Left.aH.aJ,.own (aL 24 (aL 2 (aN .i64))) v.2.2.2.2.2.2.2.1 y.1.Left.aH.aB,.own (aL 2 (aN .i64)) v.2.2.2.2.2.2.2.2.1 y.1.Left.aA,.own (aL 2 (aN .i64)) v.2.2.2.2.2.2.2.2.2.1 y.1.Left.ae,.own (aL 2 (aN .i64)) v.2.2.2.2.2.2.2.2.2.2.1 y.1.ab.aE.aG,.own (aL 2 (aN .i64)) v.2.2.2.2.2.2.2.2.2.2.2.1 y.1.ab.aE.To,.own (aL 2 (aN .i64)) v.2.2.2.2.2.2.2.2.2.2.2.2.1 y.1.ab.aE.aJ,.own (aL 24 (aL 2 (aN .i64))) v.2.2.2.2.2.2.2.2.2.2.2.2.2.1 y.1.ab.aE.aB,.own (aL 2 (aN .i64)) v.2.2.2.2.2.2.2.2.2.2.2.2.2.2.1 y.1.ab.aH.aG,.own (aL 2 (aN .i64)) v.2.2.2.2.2.2.2.2.2.2.2.2.2.2.2.1 y.1.ab.aH.To,.own (aL 2 (aN .i64)) v.2.2.2.2.2.2.2.2.2.2.2.2.2.2.2.2.1 y.1.ab.aH.aJ,.own (aL 24 (aL 2 (aN .i64))) v.2.2.2.2.2.2.2.2.2.2.2.2.2.2.2.2.2.1 y.1.ab.aH.aB,.own (aL 2 (aN .i64)) v.2.2.2.2.2.2.2.2.2.2.2.2.2.2.2.2.2.2.1 y.1.ab.aA,.own (aL 2 (aN .i64)) v.2.2.2.2.2.2.2.2.2.2.2.2.2.2.2.2.2.2.2.1 y.1.ab.ae,.own (aL 2 (aN .i64)) v.2.2.2.2.2.2.2.2.2.2.2.2.2.2.2.2.2.2.2.2.1 y.1.Unit,.own (aL 2 (aN .i64)) v.2.2.2.2.2.2.2.2.2.2.2.2.2.2.2.2.2.2.2.2.2 y.1.br]):=by
 refine ct (S:=Unit) (bw fun _ _=>rfl) Tryz.func136 rfl rfl ?_
 repeat' first
  | (apply Dk.fe; repeat' first | exact rfl | (refine @id.{0} _ ?_; constructor))
  | intro _
  | exact rfl
  | (refine @id.{0} _ ?_; constructor)
  | apply Dk.loop 0 (V:=Value×Value) (fun (s:(List Int)×(List Int)×Int) v=>[.own (aL 2 (aN .i64)) v.1 s.1,.own (aL 2 (aN .i64)) v.2 s.2.1]) (fun s v=>[(6,v.1),(7,v.2),(10,.int .i64 (s.2.2))]) (_,_) [(1,_),(2,_),(4,_),(5,_),(8,_),(9,_)]
  | apply Dk.loop 2 (V:=Value) (fun (s:(List Int)×Int) v=>[.own (aL 2 (aN .i64)) v s.1]) (fun s v=>[(8,v),(14,.int .i64 (s.2))]) _ [(1,_),(2,_),(4,_),(5,_),(6,_),(7,_),(9,_)]
  | apply Dk.loop 4 (V:=Value) (fun (s:(List Int)×Int) v=>[.own (aL 2 (aN .i64)) v s.1]) (fun s v=>[(9,v),(17,.int .i64 (s.2))]) _ [(1,_),(2,_),(4,_),(5,_),(6,_),(7,_),(8,_)]
  | apply Dk.quiet (id:=14) (by kernel_rfl)
  | apply Dk.any (id:=1) 7 [] [[],[],[],[],[],[],[4]] [[],[0],[],[2],[],[],[0,1,4,5]] (by kernel_rfl)
  | apply Dk.any (id:=15) 21 [0] [] [[],[],[],[],[2,3],[2,3,4],[],[],[6,7],[6,7,8],[],[],[10,11],[10,11,12],[],[],[],[15,16],[15,16,17],[],[14,15,16,17,18,19]] (by kernel_rfl)
  | apply Dk.any (id:=20) 16 [0] [] [[],[],[],[],[],[3,4],[3,4,5],[],[],[7,8],[7,8,9],[],[11],[],[11,12,13],[11,12,13,14]] (by kernel_rfl)
  | apply Dk.any (id:=21) 9 [] [] [[],[0],[],[],[],[],[0,1,2,3,4,5],[],[]] (by kernel_rfl)
  | apply abw
  | apply C1
  | apply T6
  | apply abo
  | apply DU
  | exact ()
theorem abU {x0:bN} {bK bR bA aT bL bS bB aU bX cB bG bP aV aR bH bQ aW aS bW bY cS cO:Value}:Ct Tryz.prog 137 true (nU x0) [.agg #[.int .i64 (x0.Left.aE.aA),bK,bR,bA,aT,.int .i64 (x0.Left.aH.aA),bL,bS,bB,aU,bX,cB,.int .i64 (x0.ab.aE.aA),bG,bP,aV,aR,.int .i64 (x0.ab.aH.aA),bH,bQ,aW,aS,bW,bY,cS,cO]] [rI bK x0.Left.aE.aG,rI bR x0.Left.aE.To,rI bA x0.Left.aE.aJ,rJ aT x0.Left.aE.aB,rI bL x0.Left.aH.aG,rI bS x0.Left.aH.To,rI bB x0.Left.aH.aJ,rJ aU x0.Left.aH.aB,rI bX x0.Left.aA,rI cB x0.Left.ae,rI bG x0.ab.aE.aG,rI bP x0.ab.aE.To,rI aV x0.ab.aE.aJ,rJ aR x0.ab.aE.aB,rI bH x0.ab.aH.aG,rI bQ x0.ab.aH.To,rI aW x0.ab.aH.aJ,rJ aS x0.ab.aH.aB,rI bW x0.ab.aA,rI bY x0.ab.ae,rI cS x0.Unit,rI cO x0.br] (fun y (v:Value×Value×Value×Value×Value×Value×Value×Value×Value×Value×Value×Value×Value×Value×Value×Value×Value×Value×Value×Value×Value×Value)=>[.agg #[.int .i64 y.Left.aE.aA,v.1,v.2.1,v.2.2.1,v.2.2.2.1,.int .i64 y.Left.aH.aA,v.2.2.2.2.1,v.2.2.2.2.2.1,v.2.2.2.2.2.2.1,v.2.2.2.2.2.2.2.1,v.2.2.2.2.2.2.2.2.1,v.2.2.2.2.2.2.2.2.2.1,.int .i64 y.ab.aE.aA,v.2.2.2.2.2.2.2.2.2.2.1,v.2.2.2.2.2.2.2.2.2.2.2.1,v.2.2.2.2.2.2.2.2.2.2.2.2.1,v.2.2.2.2.2.2.2.2.2.2.2.2.2.1,.int .i64 y.ab.aH.aA,v.2.2.2.2.2.2.2.2.2.2.2.2.2.2.1,v.2.2.2.2.2.2.2.2.2.2.2.2.2.2.2.1,v.2.2.2.2.2.2.2.2.2.2.2.2.2.2.2.2.1,v.2.2.2.2.2.2.2.2.2.2.2.2.2.2.2.2.2.1,v.2.2.2.2.2.2.2.2.2.2.2.2.2.2.2.2.2.2.1,v.2.2.2.2.2.2.2.2.2.2.2.2.2.2.2.2.2.2.2.1,v.2.2.2.2.2.2.2.2.2.2.2.2.2.2.2.2.2.2.2.2.1,v.2.2.2.2.2.2.2.2.2.2.2.2.2.2.2.2.2.2.2.2.2]]) (fun y v=>[.own (aL 2 (aN .i64)) v.1 y.Left.aE.aG,.own (aL 2 (aN .i64)) v.2.1 y.Left.aE.To,.own (aL 2 (aN .i64)) v.2.2.1 y.Left.aE.aJ,.own (aL 24 (aL 2 (aN .i64))) v.2.2.2.1 y.Left.aE.aB,.own (aL 2 (aN .i64)) v.2.2.2.2.1 y.Left.aH.aG,.own (aL 2 (aN .i64)) v.2.2.2.2.2.1 y.Left.aH.To,.own (aL 2 (aN .i64)) v.2.2.2.2.2.2.1 y.Left.aH.aJ,.own (aL 24 (aL 2 (aN .i64))) v.2.2.2.2.2.2.2.1 y.Left.aH.aB,.own (aL 2 (aN .i64)) v.2.2.2.2.2.2.2.2.1 y.Left.aA,.own (aL 2 (aN .i64)) v.2.2.2.2.2.2.2.2.2.1 y.Left.ae,.own (aL 2 (aN .i64)) v.2.2.2.2.2.2.2.2.2.2.1 y.ab.aE.aG,.own (aL 2 (aN .i64)) v.2.2.2.2.2.2.2.2.2.2.2.1 y.ab.aE.To,.own (aL 2 (aN .i64)) v.2.2.2.2.2.2.2.2.2.2.2.2.1 y.ab.aE.aJ,.own (aL 24 (aL 2 (aN .i64))) v.2.2.2.2.2.2.2.2.2.2.2.2.2.1 y.ab.aE.aB,.own (aL 2 (aN .i64)) v.2.2.2.2.2.2.2.2.2.2.2.2.2.2.1 y.ab.aH.aG,.own (aL 2 (aN .i64)) v.2.2.2.2.2.2.2.2.2.2.2.2.2.2.2.1 y.ab.aH.To,.own (aL 2 (aN .i64)) v.2.2.2.2.2.2.2.2.2.2.2.2.2.2.2.2.1 y.ab.aH.aJ,.own (aL 24 (aL 2 (aN .i64))) v.2.2.2.2.2.2.2.2.2.2.2.2.2.2.2.2.2.1 y.ab.aH.aB,.own (aL 2 (aN .i64)) v.2.2.2.2.2.2.2.2.2.2.2.2.2.2.2.2.2.2.1 y.ab.aA,.own (aL 2 (aN .i64)) v.2.2.2.2.2.2.2.2.2.2.2.2.2.2.2.2.2.2.2.1 y.ab.ae,.own (aL 2 (aN .i64)) v.2.2.2.2.2.2.2.2.2.2.2.2.2.2.2.2.2.2.2.2.1 y.Unit,.own (aL 2 (aN .i64)) v.2.2.2.2.2.2.2.2.2.2.2.2.2.2.2.2.2.2.2.2.2 y.br]):=by
 refine ct (S:=Unit) (bw fun _ _=>rfl) Tryz.func137 rfl rfl ?_
 repeat' first
  | (apply Dk.fe; repeat' first | exact rfl | (refine @id.{0} _ ?_; constructor))
  | intro _
  | exact rfl
  | (refine @id.{0} _ ?_; constructor)
  | apply Dk.any (id:=1) 11 [] [] [[],[0],[0,1],[],[3],[0,1,2,3,4],[],[6],[0,1,2,3,4,5,6,7],[],[9]] (by kernel_rfl)
  | apply Uk
  | apply xw
  | exact ()
end Go.Proofs.YtjdkifckhidlbaaGreat
