/- Walks by the calculus D. No condition beside those that each theorem names. -/
import Derived.Test.YtcnehblmgfbfoaaGreatDp
import Derived.Test.YtcnehblmgfbfoaaGreatDi
import Derived.Test.YtcnehblmgfbfoaaGreatMo
import Derived.Test.YtcnehblmgfbfoaaGreatDs
import Derived.Test.YtcnehblmgfbfoaaGreatWa
import Derived.Test.YtcnehblmgfbfoaaGreatWb
import Derived.Test.YtcnehblmgfbfoaaGreatWc
import Derived.Test.YtcnehblmgfbfoaaGreatWd
import Derived.Test.YtcnehblmgfbfoaaGreatWe
import Derived.Test.YtcnehblmgfbfoaaGreatWf
import Derived.Test.YtcnehblmgfbfoaaGreatWg
import Derived.Test.YtcnehblmgfbfoaaGreatWj
import Derived.Test.YtcnehblmgfbfoaaGreatWk
import Derived.Test.YtcnehblmgfbfoaaGreatWl
import Derived.Test.YtcnehblmgfbfoaaGreatWy
import Derived.Test.YtcnehblmgfbfoaaGreatWz
namespace Go.Proofs.YtcnehblmgfbfoaaGreat
open Go Go.Li Go.Dk
set_option linter.unusedVariables false
set_option maxHeartbeats 16000000
set_option maxRecDepth 100000
theorem c49 {x0:(List Int)} {cO:Value}:Ct Tryz.prog 49 false (gS x0) [cO] [.rd false (aV (aN .u8)) cO x0] (fun y (v:Value×Value×Value×Value×Value×Value×Value×Value×Value×Value×Value×Value×Value)=>[.agg #[.int .i64 y.aF.aC.aD,v.1,v.2.1,v.2.2.1,v.2.2.2.1,v.2.2.2.2.1,v.2.2.2.2.2.1,.int .i64 y.aM.aC.aD,v.2.2.2.2.2.2.1,v.2.2.2.2.2.2.2.1,v.2.2.2.2.2.2.2.2.1,v.2.2.2.2.2.2.2.2.2.1,v.2.2.2.2.2.2.2.2.2.2.1,v.2.2.2.2.2.2.2.2.2.2.2.1,v.2.2.2.2.2.2.2.2.2.2.2.2]]) (fun y v=>[rI v.1 y.aF.aC.aG,rI v.2.1 y.aF.aC.To,rI v.2.2.1 y.aF.aC.aI,rJ v.2.2.2.1 y.aF.aC.aB,rI v.2.2.2.2.1 y.aF.aP,rJ v.2.2.2.2.2.1 y.aF.aO,rI v.2.2.2.2.2.2.1 y.aM.aC.aG,rI v.2.2.2.2.2.2.2.1 y.aM.aC.To,rI v.2.2.2.2.2.2.2.2.1 y.aM.aC.aI,rJ v.2.2.2.2.2.2.2.2.2.1 y.aM.aC.aB,rI v.2.2.2.2.2.2.2.2.2.2.1 y.aM.aP,rJ v.2.2.2.2.2.2.2.2.2.2.2.1 y.aM.aO,rJ v.2.2.2.2.2.2.2.2.2.2.2.2 y.cD]):=by
 refine ct (S:=Unit) zR Tryz.func49 rfl rfl ?_
 repeat' first
  | (apply Dk.fe; repeat' first | exact rfl | (refine @id.{0} _ ?_; constructor))
  | intro _
  | exact rfl
  | (refine @id.{0} _ ?_; constructor)
  | apply c79
  | apply agC
  | exact ()
theorem ZA {x0:aK} {cU:Addr} {aW bC aU aS bP bD:Value}:Ct Tryz.prog 112 true (eM x0) [.pointer (some (cU))] [.au cU [.int .i64 (x0.aC.aD),aW,bC,aU,aS,bP,bD],rI aW x0.aC.aG,rI bC x0.aC.To,rI aU x0.aC.aI,rJ aS x0.aC.aB,rI bP x0.aP,rJ bD x0.aO] (fun y (_:Unit)=>[.bool y]) (fun y _=>[]):=by
 refine ct (S:=Unit) (bx fun _ _=>rfl) Tryz.func112 rfl rfl ?_
 repeat' first
  | (apply Dk.fe; repeat' first | exact rfl | (refine @id.{0} _ ?_; constructor))
  | intro _
  | exact rfl
  | (refine @id.{0} _ ?_; constructor)
  | apply agv
  | apply afT
  | exact ()
theorem agD {x0:(List aK)} {cO:Value}:Ct Tryz.prog 271 true (jG x0) [cO] [.rd false (aV (wU QR)) cO x0] (fun y (_:Unit)=>[.bool y]) (fun y _=>[]):=by
 refine ct (S:=Unit) (bx fun _ _=>rfl) Tryz.func271 rfl rfl ?_
 repeat' first
  | (apply Dk.fe; repeat' first | exact rfl | (refine @id.{0} _ ?_; constructor))
  | intro _
  | exact rfl
  | (refine @id.{0} _ ?_; constructor)
  | apply Dk.loop 0 (V:=Unit) (fun (s:Int) v=>[]) (fun s v=>[(7,.int .i64 (s))]) () [(5,_),(6,_)]
  | apply ZA
  | exact ()
theorem agE {x0:bX} {cU:Addr} {bV cB bG bE cM cE bW cC bH bF cN cF dN:Value}:Ct Tryz.prog 212 true (jI x0) [.pointer (some (cU))] [.au cU [.int .i64 (x0.aF.aC.aD),bV,cB,bG,bE,cM,cE,.int .i64 (x0.aM.aC.aD),bW,cC,bH,bF,cN,cF,dN],rI bV x0.aF.aC.aG,rI cB x0.aF.aC.To,rI bG x0.aF.aC.aI,rJ bE x0.aF.aC.aB,rI cM x0.aF.aP,rJ cE x0.aF.aO,rI bW x0.aM.aC.aG,rI cC x0.aM.aC.To,rI bH x0.aM.aC.aI,rJ bF x0.aM.aC.aB,rI cN x0.aM.aP,rJ cF x0.aM.aO,rJ dN x0.cD] (fun y (_:Unit)=>[.bool y]) (fun y _=>[]):=by
 refine ct (S:=Unit) (bx fun _ _=>rfl) Tryz.func212 rfl rfl ?_
 repeat' first
  | (apply Dk.fe; repeat' first | exact rfl | (refine @id.{0} _ ?_; constructor))
  | intro _
  | exact rfl
  | (refine @id.{0} _ ?_; constructor)
  | apply Dk.Wj (id:=1) 7 [] [[],[0],[0,1],[],[3],[3,4],[0,1,2,3,4,5]] (by kernel_rfl)
  | apply agD
  | apply c85
  | apply agB
  | exact ()
theorem ZB {x0:bX} {cU:Addr} {bV cB bG bE cM cE bW cC bH bF cN cF dN:Value}:Ct Tryz.prog 128 true (fU x0) [.pointer (some (cU))] [.au cU [.int .i64 (x0.aF.aC.aD),bV,cB,bG,bE,cM,cE,.int .i64 (x0.aM.aC.aD),bW,cC,bH,bF,cN,cF,dN],rI bV x0.aF.aC.aG,rI cB x0.aF.aC.To,rI bG x0.aF.aC.aI,rJ bE x0.aF.aC.aB,rI cM x0.aF.aP,rJ cE x0.aF.aO,rI bW x0.aM.aC.aG,rI cC x0.aM.aC.To,rI bH x0.aM.aC.aI,rJ bF x0.aM.aC.aB,rI cN x0.aM.aP,rJ cF x0.aM.aO,rJ dN x0.cD] (fun y (_:Unit)=>[.bool y]) (fun y _=>[]):=by
 refine ct (S:=Unit) (bx fun _ _=>rfl) Tryz.func128 rfl rfl ?_
 repeat' first
  | (apply Dk.fe; repeat' first | exact rfl | (refine @id.{0} _ ?_; constructor))
  | intro _
  | exact rfl
  | (refine @id.{0} _ ?_; constructor)
  | apply agE
  | apply afQ
  | exact ()
theorem c50 {x0:bX} {sf st si sc ss sa tf tt ti tc ts ta vp:Value}:Ct Tryz.prog 50 true (jL x0) [.agg #[.int .i64 x0.aF.aC.aD,sf,st,si,sc,ss,sa,.int .i64 x0.aM.aC.aD,tf,tt,ti,tc,ts,ta,vp]] [rI sf x0.aF.aC.aG,rI st x0.aF.aC.To,rI si x0.aF.aC.aI,rJ sc x0.aF.aC.aB,rI ss x0.aF.aP,rJ sa x0.aF.aO,rI tf x0.aM.aC.aG,rI tt x0.aM.aC.To,rI ti x0.aM.aC.aI,rJ tc x0.aM.aC.aB,rI ts x0.aM.aP,rJ ta x0.aM.aO,rJ vp x0.cD] (fun y (v:Value×Value×Value×Value×Value×Value×Value×Value×Value×Value)=>[.agg #[.int .i64 y.1.aF.aD,v.1,v.2.1,v.2.2.1,v.2.2.2.1,.int .i64 y.1.aM.aD,v.2.2.2.2.1,v.2.2.2.2.2.1,v.2.2.2.2.2.2.1,v.2.2.2.2.2.2.2.1,v.2.2.2.2.2.2.2.2.1,v.2.2.2.2.2.2.2.2.2],.int .i64 y.2]) (fun y v=>[.own (aJ 2 (aN .i64)) v.1 y.1.aF.aG,.own (aJ 2 (aN .i64)) v.2.1 y.1.aF.To,.own (aJ 2 (aN .i64)) v.2.2.1 y.1.aF.aI,.own (aJ 22 (aJ 2 (aN .i64))) v.2.2.2.1 y.1.aF.aB,.own (aJ 2 (aN .i64)) v.2.2.2.2.1 y.1.aM.aG,.own (aJ 2 (aN .i64)) v.2.2.2.2.2.1 y.1.aM.To,.own (aJ 2 (aN .i64)) v.2.2.2.2.2.2.1 y.1.aM.aI,.own (aJ 22 (aJ 2 (aN .i64))) v.2.2.2.2.2.2.2.1 y.1.aM.aB,.own (aJ 2 (aN .i64)) v.2.2.2.2.2.2.2.2.1 y.1.aD,.own (aJ 2 (aN .i64)) v.2.2.2.2.2.2.2.2.2 y.1.bc]):=by
 refine ct (S:=Unit) (bx fun _ _=>rfl) Tryz.func50 rfl rfl ?_
 repeat' first
  | (apply Dk.fe; repeat' first | exact rfl | apply Dk.qd.lit | apply Dk.o5.lit | (refine @id.{0} _ ?_; constructor))
  | (intro (v:Nat×Value×Value×Value×Value×Value×Value×Value×Value); obtain ⟨v0,v1,v2,v3,v4,v5,v6,v7,v8⟩:=v; try dsimp only)
  | (intro (a:aH×List (List Int)×List (List Int)×List (ByteArray×Int)×List (ByteArray×Int)) (z:Bool); obtain ⟨a1,a2,a3,a4,a5⟩:=a; apply Dk.D.Vf; dsimp only)
  | (intro (z:Bool); apply Dk.D.Vf; dsimp only)
  | intro _
  | exact rfl
  | apply Dk.Ww (t:=144)
  | (apply Dk.QO (e:=84); · (repeat (first | exact Dk.bz.row | apply Dk.bz.there)))
  | apply Dk.o5.lit
  | apply Dk.qd.lit
  | (refine @id.{0} _ ?_; constructor)
  | apply Dk.loop 0 (V:=Value) (fun (s:List Int×Int) v=>[.own (aJ 2 (aN .i64)) v s.1]) (fun s v=>[(8,v),(41,.int .i64 s.2)]) _ [(1,_),(2,_),(4,_),(6,_),(9,_),(39,_),(40,_)]
  | apply Dk.loop 2 (V:=Value) (fun (s:List Int×Int) v=>[.own (aJ 2 (aN .i64)) v s.1]) (fun s v=>[(9,v),(77,.int .i64 s.2)]) _ [(1,_),(2,_),(4,_),(6,_),(8,_),(75,_),(76,_)]
  | apply Dk.any (id:=11) 23 [0] [] [[],[],[1],[1,2],[1,2,3],[],[5],[5,6],[],[8],[],[10],[10,11],[8,9,10,11,12],[8,9,10,11,12,13],[],[15],[15,16],[8,9,10,11,12,13,14,15,16,17],[8,9,10,11,12,13,14,15,16,17,18],[5,6,7,8,9,10,11,12,13,14,15,16,17,18,19],[5,6,7,8,9,10,11,12,13,14,15,16,17,18,19,20],[5,6,7,8,9,10,11,12,13,14,15,16,17,18,19,20,21]] (by kernel_rfl)
  | apply Dk.any (id:=16) 23 [0] [] [[],[],[1],[1,2],[1,2,3],[],[],[6],[6,7],[5,6,7,8],[5,6,7,8,9],[],[],[12],[12,13],[11,12,13,14],[11,12,13,14,15],[],[17],[17,18],[5,6,7,8,9,10,11,12,13,14,15,16,17,18,19],[5,6,7,8,9,10,11,12,13,14,15,16,17,18,19,20],[5,6,7,8,9,10,11,12,13,14,15,16,17,18,19,20,21]] (by kernel_rfl)
  | (apply Dk.Mo (id:=18) (k:=11) (e:=33) [0,1,2,3,4,5,6,7,8,9,10,11]; exact rfl; kernel_rfl; · (repeat (first | exact Dk.bz.row | apply Dk.bz.there)))
  | ((with_reducible apply Dk.FK.done (k:=0)); kernel_rfl)
  | ((with_reducible apply Dk.FK.at 18 10 0); exact rfl)
  | ((with_reducible apply Dk.FK.at 18 9 1); exact rfl)
  | ((with_reducible apply Dk.FK.at 18 8 2); exact rfl)
  | ((with_reducible apply Dk.FK.at 18 7 3); exact rfl)
  | ((with_reducible apply Dk.FK.at 18 6 4); exact rfl)
  | ((with_reducible apply Dk.FK.at 18 5 5); exact rfl)
  | ((with_reducible apply Dk.FK.at 18 4 6); exact rfl)
  | ((with_reducible apply Dk.FK.at 18 3 7); exact rfl)
  | ((with_reducible apply Dk.FK.at 18 2 8); exact rfl)
  | ((with_reducible apply Dk.FK.at 18 1 9); exact rfl)
  | ((with_reducible apply Dk.FK.at 18 0 10); exact rfl)
  | ((with_reducible apply Dk.FJ.lb); exact rfl; kernel_rfl; exact rfl; exact rfl; exact rfl)
  | ((with_reducible apply Dk.FJ.lc); exact rfl; kernel_rfl; exact rfl)
  | ((with_reducible apply Dk.FJ.ls); exact rfl; kernel_rfl; exact rfl)
  | ((with_reducible apply Dk.FJ.cm); exact rfl; kernel_rfl; exact rfl)
  | ((with_reducible apply Dk.FJ.st); exact rfl; kernel_rfl; exact rfl; exact rfl)
  | ((with_reducible apply Dk.FJ.q); exact rfl; kernel_rfl)
  | apply ZB
  | apply Zz
  | apply Nl
  | apply Zw
  | exact ()
theorem agF {x0:bX} {bV cB bG bE cM cE bW cC bH bF cN cF dN:Value}:Ct Tryz.prog 130 true (nF x0) [.agg #[.int .i64 (x0.aF.aC.aD),bV,cB,bG,bE,cM,cE,.int .i64 (x0.aM.aC.aD),bW,cC,bH,bF,cN,cF,dN]] [rI bV x0.aF.aC.aG,rI cB x0.aF.aC.To,rI bG x0.aF.aC.aI,rJ bE x0.aF.aC.aB,rI cM x0.aF.aP,rJ cE x0.aF.aO,rI bW x0.aM.aC.aG,rI cC x0.aM.aC.To,rI bH x0.aM.aC.aI,rJ bF x0.aM.aC.aB,rI cN x0.aM.aP,rJ cF x0.aM.aO,rJ dN x0.cD] (fun y (_:Unit)=>[.bool y]) (fun y _=>[]):=by
 refine ct (S:=Unit) (bx fun _ _=>rfl) Tryz.func130 rfl rfl ?_
 repeat' first
  | (apply Dk.fe; repeat' first | exact rfl | (refine @id.{0} _ ?_; constructor))
  | intro _
  | exact rfl
  | (refine @id.{0} _ ?_; constructor)
  | apply ZC
  | apply agc
  | apply afV
  | exact ()
theorem c51 {x0:bX} {bV cB bG bE cM cE bW cC bH bF cN cF dN:Value}:Ct Tryz.prog 51 true (jM x0) [.agg #[.int .i64 (x0.aF.aC.aD),bV,cB,bG,bE,cM,cE,.int .i64 (x0.aM.aC.aD),bW,cC,bH,bF,cN,cF,dN]] [rI bV x0.aF.aC.aG,rI cB x0.aF.aC.To,rI bG x0.aF.aC.aI,rJ bE x0.aF.aC.aB,rI cM x0.aF.aP,rJ cE x0.aF.aO,rI bW x0.aM.aC.aG,rI cC x0.aM.aC.To,rI bH x0.aM.aC.aI,rJ bF x0.aM.aC.aB,rI cN x0.aM.aP,rJ cF x0.aM.aO,rJ dN x0.cD] (fun y (v:Value×Value×Value×Value×Value×Value×Value×Value×Value×Value)=>[.agg #[.int .i64 y.1.aF.aD,v.1,v.2.1,v.2.2.1,v.2.2.2.1,.int .i64 y.1.aM.aD,v.2.2.2.2.1,v.2.2.2.2.2.1,v.2.2.2.2.2.2.1,v.2.2.2.2.2.2.2.1,v.2.2.2.2.2.2.2.2.1,v.2.2.2.2.2.2.2.2.2],.int .i64 y.2]) (fun y v=>[.own (aJ 2 (aN .i64)) v.1 y.1.aF.aG,.own (aJ 2 (aN .i64)) v.2.1 y.1.aF.To,.own (aJ 2 (aN .i64)) v.2.2.1 y.1.aF.aI,.own (aJ 22 (aJ 2 (aN .i64))) v.2.2.2.1 y.1.aF.aB,.own (aJ 2 (aN .i64)) v.2.2.2.2.1 y.1.aM.aG,.own (aJ 2 (aN .i64)) v.2.2.2.2.2.1 y.1.aM.To,.own (aJ 2 (aN .i64)) v.2.2.2.2.2.2.1 y.1.aM.aI,.own (aJ 22 (aJ 2 (aN .i64))) v.2.2.2.2.2.2.2.1 y.1.aM.aB,.own (aJ 2 (aN .i64)) v.2.2.2.2.2.2.2.2.1 y.1.aD,.own (aJ 2 (aN .i64)) v.2.2.2.2.2.2.2.2.2 y.1.bc]):=by
 refine ct (S:=Unit) (bx fun _ _=>rfl) Tryz.func51 rfl rfl ?_
 repeat' first
  | (apply Dk.fe; repeat' first | exact rfl | (refine @id.{0} _ ?_; constructor))
  | intro _
  | exact rfl
  | (refine @id.{0} _ ?_; constructor)
  | apply Dk.loop 0 (V:=Value) (fun (s:(List Int)×Int) v=>[.own (aJ 2 (aN .i64)) v s.1]) (fun s v=>[(8,v),(10,.int .i64 (s.2))]) _ [(1,_),(2,_),(4,_),(6,_),(9,_)]
  | apply Dk.loop 2 (V:=Value) (fun (s:(List Int)×Int) v=>[.own (aJ 2 (aN .i64)) v s.1]) (fun s v=>[(9,v),(13,.int .i64 (s.2))]) _ [(2,_),(4,_),(6,_),(8,_)]
  | apply Dk.quiet (id:=11) (by kernel_rfl)
  | apply Dk.any (id:=12) 15 [] [] [[],[],[1],[],[],[4],[],[4,5,6],[4,5,6,7],[],[4,5,6,7,8,9],[4,5,6,7,8,9,10],[3,4,5,6,7,8,9,10,11],[1,2,3,4,5,6,7,8,9,10,11,12],[1,2,3,4,5,6,7,8,9,10,11,12,13]] (by kernel_rfl)
  | apply Dk.any (id:=16) 33 [] [] [[],[],[1],[],[],[4],[],[4,5,6],[4,5,6,7],[4,5,6,7,8],[4,5,6,7,8,9],[3,4,5,6,7,8,9,10],[3,4,5,6,7,8,9,10,11],[],[],[14],[],[14,15,16],[14,15,16,17],[14,15,16,17,18],[14,15,16,17,18,19],[13,14,15,16,17,18,19,20],[13,14,15,16,17,18,19,20,21],[],[23],[],[23,24,25],[23,24,25,26],[23,24,25,26,27],[23,24,25,26,27,28],[3,4,5,6,7,8,9,10,11,12,13,14,15,16,17,18,19,20,21,22,23,24,25,26,27,28,29],[1,2,3,4,5,6,7,8,9,10,11,12,13,14,15,16,17,18,19,20,21,22,23,24,25,26,27,28,29,30],[1,2,3,4,5,6,7,8,9,10,11,12,13,14,15,16,17,18,19,20,21,22,23,24,25,26,27,28,29,30,31]] (by kernel_rfl)
  | apply agF
  | apply af1
  | apply Sr
  | apply c59
  | exact ()
theorem c38 {x0:aK} {ff ft fi fc fs fa:Value}:Ct Tryz.prog 38 true (fC x0) [.agg #[.int .i64 x0.aC.aD,ff,ft,fi,fc,fs,fa]] [rI ff x0.aC.aG,rI ft x0.aC.To,rI fi x0.aC.aI,rJ fc x0.aC.aB,rI fs x0.aP,rJ fa x0.aO] (fun y (v:Value×Value×Value×Value×Value×Value×Value×Value×Value×Value)=>[.agg #[.int .i64 y.1.aF.aD,v.1,v.2.1,v.2.2.1,v.2.2.2.1,.int .i64 y.1.aM.aD,v.2.2.2.2.1,v.2.2.2.2.2.1,v.2.2.2.2.2.2.1,v.2.2.2.2.2.2.2.1,v.2.2.2.2.2.2.2.2.1,v.2.2.2.2.2.2.2.2.2],.int .i64 y.2]) (fun y v=>[.own (aJ 2 (aN .i64)) v.1 y.1.aF.aG,.own (aJ 2 (aN .i64)) v.2.1 y.1.aF.To,.own (aJ 2 (aN .i64)) v.2.2.1 y.1.aF.aI,.own (aJ 22 (aJ 2 (aN .i64))) v.2.2.2.1 y.1.aF.aB,.own (aJ 2 (aN .i64)) v.2.2.2.2.1 y.1.aM.aG,.own (aJ 2 (aN .i64)) v.2.2.2.2.2.1 y.1.aM.To,.own (aJ 2 (aN .i64)) v.2.2.2.2.2.2.1 y.1.aM.aI,.own (aJ 22 (aJ 2 (aN .i64))) v.2.2.2.2.2.2.2.1 y.1.aM.aB,.own (aJ 2 (aN .i64)) v.2.2.2.2.2.2.2.2.1 y.1.aD,.own (aJ 2 (aN .i64)) v.2.2.2.2.2.2.2.2.2 y.1.bc]):=by
 refine ct (S:=Unit) (bx fun _ _=>rfl) Tryz.func38 rfl rfl ?_
 repeat' first
  | (apply Dk.fe; repeat' first | exact rfl | apply Dk.qd.lit | apply Dk.o5.lit | (refine @id.{0} _ ?_; constructor))
  | intro _
  | exact rfl
  | (apply Dk.QO (e:=65); · (repeat (first | exact Dk.bz.row | apply Dk.bz.there)))
  | apply Dk.o5.lit
  | apply Dk.qd.lit
  | (refine @id.{0} _ ?_; constructor)
  | (apply Dk.Mo (id:=6) (k:=17) (e:=33) [0,1,2,3,4,5,6,7,8,9,10,11]; exact rfl; kernel_rfl; · (repeat (first | exact Dk.bz.row | apply Dk.bz.there)))
  | ((with_reducible apply Dk.FK.done (k:=0)); kernel_rfl)
  | ((with_reducible apply Dk.FK.at 6 16 0); exact rfl)
  | ((with_reducible apply Dk.FK.at 6 15 1); exact rfl)
  | ((with_reducible apply Dk.FK.at 6 14 2); exact rfl)
  | ((with_reducible apply Dk.FK.at 6 13 3); exact rfl)
  | ((with_reducible apply Dk.FK.at 6 12 4); exact rfl)
  | ((with_reducible apply Dk.FK.at 6 11 5); exact rfl)
  | ((with_reducible apply Dk.FK.at 6 10 6); exact rfl)
  | ((with_reducible apply Dk.FK.at 6 9 9); exact rfl)
  | ((with_reducible apply Dk.FK.at 6 8 10); exact rfl)
  | ((with_reducible apply Dk.FK.at 6 7 11); exact rfl)
  | ((with_reducible apply Dk.FK.at 6 6 7); exact rfl)
  | ((with_reducible apply Dk.FK.at 6 5 12); exact rfl)
  | ((with_reducible apply Dk.FK.at 6 4 8); exact rfl)
  | ((with_reducible apply Dk.FK.at 6 3 13); exact rfl)
  | ((with_reducible apply Dk.FK.at 6 2 14); exact rfl)
  | ((with_reducible apply Dk.FK.at 6 1 15); exact rfl)
  | ((with_reducible apply Dk.FK.at 6 0 16); exact rfl)
  | ((with_reducible apply Dk.FJ.lb); exact rfl; kernel_rfl; exact rfl; exact rfl; exact rfl)
  | ((with_reducible apply Dk.FJ.lc); exact rfl; kernel_rfl; exact rfl)
  | ((with_reducible apply Dk.FJ.ls); exact rfl; kernel_rfl; exact rfl)
  | ((with_reducible apply Dk.FJ.cm); exact rfl; kernel_rfl; exact rfl)
  | ((with_reducible apply Dk.FJ.st); exact rfl; kernel_rfl; exact rfl; exact rfl)
  | ((with_reducible apply Dk.FJ.q); exact rfl; kernel_rfl)
  | apply ZA
  | apply Zz
  | apply Y5
  | apply Zw
  | exact ()
theorem ZD {x0:aY} {cU:Addr} {cJ cS bR bK cK cT bS bL cZ dD:Value}:Ct Tryz.prog 109 true (fM x0) [.pointer (some (cU))] [.au cU [.int .i64 (x0.aF.aD),cJ,cS,bR,bK,.int .i64 (x0.aM.aD),cK,cT,bS,bL,cZ,dD],rI cJ x0.aF.aG,rI cS x0.aF.To,rI bR x0.aF.aI,rJ bK x0.aF.aB,rI cK x0.aM.aG,rI cT x0.aM.To,rI bS x0.aM.aI,rJ bL x0.aM.aB,rI cZ x0.aD,rI dD x0.bc] (fun y (_:Unit)=>[.bool y]) (fun y _=>[]):=by
 refine ct (S:=Unit) (bx fun _ _=>rfl) Tryz.func109 rfl rfl ?_
 repeat' first
  | (apply Dk.fe; repeat' first | exact rfl | (refine @id.{0} _ ?_; constructor))
  | intro _
  | exact rfl
  | (refine @id.{0} _ ?_; constructor)
  | apply Dk.Wj (id:=1) 7 [] [[],[0],[0,1],[],[3],[3,4],[0,1,2,3,4,5]] (by kernel_rfl)
  | apply agw
  | apply af6
  | exact ()
theorem c84 {x0:(List aY)} {cO:Value}:Ct Tryz.prog 84 true (lB x0) [cO] [.rd false (aV (wU QQ)) cO x0] (fun y (_:Unit)=>[.bool y]) (fun y _=>[]):=by
 refine ct (S:=Unit) (bx fun _ _=>rfl) Tryz.func84 rfl rfl ?_
 repeat' first
  | (apply Dk.fe; repeat' first | exact rfl | (refine @id.{0} _ ?_; constructor))
  | intro _
  | exact rfl
  | (refine @id.{0} _ ?_; constructor)
  | apply Dk.loop 0 (V:=Unit) (fun (s:Int) v=>[]) (fun s v=>[(7,.int .i64 (s))]) () [(5,_),(6,_)]
  | apply ZD
  | exact ()
theorem c29 {x0:aY} {cJ cS bR bK cK cT bS bL cZ dD:Value} {x1:aY} {eV fV eD dX eW fW eF dY hY iN:Value}:Ct Tryz.prog 29 true (jW x0 x1) [.agg #[.int .i64 (x0.aF.aD),cJ,cS,bR,bK,.int .i64 (x0.aM.aD),cK,cT,bS,bL,cZ,dD],.agg #[.int .i64 (x1.aF.aD),eV,fV,eD,dX,.int .i64 (x1.aM.aD),eW,fW,eF,dY,hY,iN]] [rI cJ x0.aF.aG,rI cS x0.aF.To,rI bR x0.aF.aI,rJ bK x0.aF.aB,rI cK x0.aM.aG,rI cT x0.aM.To,rI bS x0.aM.aI,rJ bL x0.aM.aB,rI cZ x0.aD,rI dD x0.bc,rI eV x1.aF.aG,rI fV x1.aF.To,rI eD x1.aF.aI,rJ dX x1.aF.aB,rI eW x1.aM.aG,rI fW x1.aM.To,rI eF x1.aM.aI,rJ dY x1.aM.aB,rI hY x1.aD,rI iN x1.bc] (fun y (v:Value×Value×Value×Value×Value×Value×Value×Value×Value×Value)=>[.agg #[.int .i64 y.1.aF.aD,v.1,v.2.1,v.2.2.1,v.2.2.2.1,.int .i64 y.1.aM.aD,v.2.2.2.2.1,v.2.2.2.2.2.1,v.2.2.2.2.2.2.1,v.2.2.2.2.2.2.2.1,v.2.2.2.2.2.2.2.2.1,v.2.2.2.2.2.2.2.2.2],.int .i64 y.2]) (fun y v=>[.own (aJ 2 (aN .i64)) v.1 y.1.aF.aG,.own (aJ 2 (aN .i64)) v.2.1 y.1.aF.To,.own (aJ 2 (aN .i64)) v.2.2.1 y.1.aF.aI,.own (aJ 22 (aJ 2 (aN .i64))) v.2.2.2.1 y.1.aF.aB,.own (aJ 2 (aN .i64)) v.2.2.2.2.1 y.1.aM.aG,.own (aJ 2 (aN .i64)) v.2.2.2.2.2.1 y.1.aM.To,.own (aJ 2 (aN .i64)) v.2.2.2.2.2.2.1 y.1.aM.aI,.own (aJ 22 (aJ 2 (aN .i64))) v.2.2.2.2.2.2.2.1 y.1.aM.aB,.own (aJ 2 (aN .i64)) v.2.2.2.2.2.2.2.2.1 y.1.aD,.own (aJ 2 (aN .i64)) v.2.2.2.2.2.2.2.2.2 y.1.bc]):=by
 refine ct (S:=Unit) (bx fun _ _=>rfl) Tryz.func29 rfl rfl ?_
 repeat' first
  | (apply Dk.fe; repeat' first | exact rfl | (refine @id.{0} _ ?_; constructor))
  | intro _
  | exact rfl
  | (refine @id.{0} _ ?_; constructor)
  | apply c84
  | apply c85
  | apply c99
  | exact ()
theorem PQ {x0:aY} {cU:Addr} {cJ cS bR bK cK cT bS bL cZ dD:Value}:Ct Tryz.prog 117 true (rB x0 (fun a0=>dV a0)) [.pointer (some (cU)),.func (.func 118) #[] #[]] [.au cU [.int .i64 (x0.aF.aD),cJ,cS,bR,bK,.int .i64 (x0.aM.aD),cK,cT,bS,bL,cZ,dD],rI cJ x0.aF.aG,rI cS x0.aF.To,rI bR x0.aF.aI,rJ bK x0.aF.aB,rI cK x0.aM.aG,rI cT x0.aM.To,rI bS x0.aM.aI,rJ bL x0.aM.aB,rI cZ x0.aD,rI dD x0.bc] (fun y (_:Unit)=>[.bool y.1,.int .i64 y.2]) (fun y _=>[]):=by
 refine ct (S:=Unit) (bx fun _ _=>rfl) Tryz.func117 rfl rfl ?_
 repeat' first
  | (apply Dk.fe; repeat' first | exact rfl | (refine @id.{0} _ ?_; constructor))
  | intro _
  | exact rfl
  | (refine @id.{0} _ ?_; constructor)
  | apply ZD
  | apply age
  | exact ()
theorem c41 {x0:aY} {cJ cS bR bK cK cT bS bL cZ dD:Value}:Ct Tryz.prog 41 true (fO x0) [.agg #[.int .i64 (x0.aF.aD),cJ,cS,bR,bK,.int .i64 (x0.aM.aD),cK,cT,bS,bL,cZ,dD]] [rI cJ x0.aF.aG,rI cS x0.aF.To,rI bR x0.aF.aI,rJ bK x0.aF.aB,rI cK x0.aM.aG,rI cT x0.aM.To,rI bS x0.aM.aI,rJ bL x0.aM.aB,rI cZ x0.aD,rI dD x0.bc] (fun y (_:Unit)=>[.bool y.1,.int .i64 y.2]) (fun y _=>[]):=by
 refine ct (S:=Unit) (bx fun _ _=>rfl) Tryz.func41 rfl rfl ?_
 repeat' first
  | (apply Dk.fe; repeat' first | exact rfl | (refine @id.{0} _ ?_; constructor))
  | intro _
  | exact rfl
  | (refine @id.{0} _ ?_; constructor)
  | apply PQ
  | exact ()
theorem c52 {x0:bX} {bV cB bG bE cM cE bW cC bH bF cN cF dN:Value}:Ct Tryz.prog 52 true (jE x0) [.agg #[.int .i64 (x0.aF.aC.aD),bV,cB,bG,bE,cM,cE,.int .i64 (x0.aM.aC.aD),bW,cC,bH,bF,cN,cF,dN]] [rI bV x0.aF.aC.aG,rI cB x0.aF.aC.To,rI bG x0.aF.aC.aI,rJ bE x0.aF.aC.aB,rI cM x0.aF.aP,rJ cE x0.aF.aO,rI bW x0.aM.aC.aG,rI cC x0.aM.aC.To,rI bH x0.aM.aC.aI,rJ bF x0.aM.aC.aB,rI cN x0.aM.aP,rJ cF x0.aM.aO,rJ dN x0.cD] (fun y (_:Unit)=>[.bool y.1,.int .i64 y.2]) (fun y _=>[]):=by
 refine ct (S:=Unit) (bx fun _ _=>rfl) Tryz.func52 rfl rfl ?_
 repeat' first
  | (apply Dk.fe; repeat' first | exact rfl | (refine @id.{0} _ ?_; constructor))
  | intro _
  | exact rfl
  | (refine @id.{0} _ ?_; constructor)
  | apply ZB
  | apply af8
  | exact ()
theorem c7 {x0:(List Int)} {cO:Value}:Ct Tryz.prog 7 true (iA x0) [cO] [.rd false (aV (aN .u8)) cO x0] (fun y (_:Unit)=>[.bool y]) (fun y _=>[]):=by
 refine ct (S:=Unit) (bx fun _ _=>rfl) Tryz.func7 rfl rfl ?_
 repeat' first
  | (apply Dk.fe; repeat' first | exact rfl | (refine @id.{0} _ ?_; constructor))
  | intro _
  | exact rfl
  | (refine @id.{0} _ ?_; constructor)
  | apply Dk.loop 0 (V:=Unit) (fun (s:Bool×Int) v=>[]) (fun s v=>[(18,.bool (s.1)),(19,.int .i64 (s.2))]) () [(4,_),(8,_),(9,_),(11,_),(12,_),(13,_),(14,_),(15,_),(16,_),(17,_)]
  | apply Dk.loop 2 (V:=Unit) (fun (s:Bool×Int) v=>[]) (fun s v=>[(18,.bool (s.1)),(20,.int .i64 (s.2))]) () [(4,_),(8,_),(9,_),(11,_),(12,_),(13,_),(14,_),(15,_),(16,_),(17,_),(19,_)]
  | apply Dk.quiet (id:=22) (by kernel_rfl)
  | apply c22
  | apply c49
  | apply c50
  | apply c51
  | apply c40
  | apply c38
  | apply c29
  | apply c41
  | apply c52
  | exact ()
theorem qM {w:World} {x0:(List Int)} {cO:Value} {agG:List Nat} (agH:(aV (aN .u8)).rep w.heap [cO] x0 agG) {y:(Bool)} (hm:iA x0=some y):Calls Tryz.prog 7 #[cO] w (fun e w'=>e = .returned (.bool y)∧ak [] w w'):=
 Ul c7 (.fact (Um agH) (.nil)) hm
end Go.Proofs.YtcnehblmgfbfoaaGreat
