/- Walks by the calculus D. No condition beside those that each theorem names. -/
import Derived.Test.YtcnehblmgfbfoaaGreatDp
import Derived.Test.YtcnehblmgfbfoaaGreatDi
import Derived.Test.YtcnehblmgfbfoaaGreatMo
import Derived.Test.YtcnehblmgfbfoaaGreatDs
import Derived.Test.YtcnehblmgfbfoaaGreatWa
import Derived.Test.YtcnehblmgfbfoaaGreatWb
import Derived.Test.YtcnehblmgfbfoaaGreatWd
import Derived.Test.YtcnehblmgfbfoaaGreatWe
import Derived.Test.YtcnehblmgfbfoaaGreatWf
import Derived.Test.YtcnehblmgfbfoaaGreatWg
import Derived.Test.YtcnehblmgfbfoaaGreatWh
namespace Go.Proofs.YtcnehblmgfbfoaaGreat
open Go Go.Li Go.Dk
set_option linter.unusedVariables false
set_option maxHeartbeats 16000000
set_option maxRecDepth 100000
theorem Zx {x0:aH} {bA bJ aT aR:Value} {x1:aH} {dC dQ cL bY:Value}:Ct Tryz.prog 105 true (mZ x0 x1) [.agg #[.int .i64 (x0.aD),bA,bJ,aT,aR],.agg #[.int .i64 (x1.aD),dC,dQ,cL,bY]] [rI bA x0.aG,rI bJ x0.To,rI aT x0.aI,rJ aR x0.aB,rI dC x1.aG,rI dQ x1.To,rI cL x1.aI,rJ bY x1.aB] (fun y (v:Value×Value×Value×Value)=>[.agg #[.int .i64 y.aD,v.1,v.2.1,v.2.2.1,v.2.2.2]]) (fun y v=>[.own (aJ 2 (aN .i64)) v.1 y.aG,.own (aJ 2 (aN .i64)) v.2.1 y.To,.own (aJ 2 (aN .i64)) v.2.2.1 y.aI,.own (aJ 22 (aJ 2 (aN .i64))) v.2.2.2 y.aB]):=by
 refine ct (S:=Unit) (bx fun _ _=>rfl) Tryz.func105 rfl rfl ?_
 repeat' first
  | (apply Dk.fe; repeat' first | exact rfl | (refine @id.{0} _ ?_; constructor))
  | intro _
  | exact rfl
  | apply Dk.KJ (d:=69)
  | apply Dk.Wt (d:=70)
  | apply Dk.Wu (e:=22) (t:=22)
  | (refine @id.{0} _ ?_; constructor)
  | apply Dk.de 0 (V:=Value) (A:=Nat×Value×Value×Value) (_,_,_,_) (fun a (s:Int×(List Int)) v=>Dk.pc (fun a0=>Dk.pc (fun a1=>Dk.pc (fun a2 a3=>[.row a0 [.int .i64 (ai (x0.aD+x1.aD)),a1,a2,v,a3] 31,.own (aJ 2 (aN .i64)) v s.2]))) a) (fun a s v=>Dk.pc (fun a0=>Dk.pc (fun a1=>Dk.pc (fun a2 a3=>[(7,.pointer (some ⟨a0,0,none⟩)),(8,.int .i64 (s.1))]))) a) _ [(3,_),(4,_),(5,_),(6,_)]
  | apply Dk.de 2 (V:=Unit) (A:=Value) _ (fun a (s:Int×(List (List Int))) v=>[.own (aJ 22 (aJ 2 (aN .i64))) a s.2]) (fun a s v=>[(9,.int .i64 (s.1))]) () [(3,_),(4,_),(5,_),(6,_),(7,_)]
  | apply Dk.de 4 (V:=Unit) (A:=Value) _ (fun a (s:Int×(List (List Int))) v=>[.own (aJ 22 (aJ 2 (aN .i64))) a s.2]) (fun a s v=>[(10,.int .i64 (s.1))]) () [(3,_),(4,_),(5,_),(6,_),(7,_),(9,_)]
  | apply Dk.de 6 (V:=Value×Value×Value) (A:=Nat×Value) (_,_) (fun a (s:Int×(List Int)×(List Int)×(List (List Int))) v=>Dk.pc (fun a0 a1=>[.row a0 [.int .i64 (ai (x0.aD+x1.aD)),v.1,v.2.1,a1,v.2.2] 31,.own (aJ 2 (aN .i64)) v.1 s.2.1,.own (aJ 2 (aN .i64)) v.2.1 s.2.2.1,.own (aJ 22 (aJ 2 (aN .i64))) v.2.2 s.2.2.2]) a) (fun a s v=>Dk.pc (fun a0 a1=>[(7,.pointer (some ⟨a0,0,none⟩)),(11,.int .i64 (s.1))]) a) (_,_,_) [(3,_),(4,_),(5,_),(6,_)]
  | apply Dk.loop 8 (V:=Value) (fun (s:(List Int)×Int) v=>[.own (aJ 2 (aN .i64)) v s.1]) (fun s v=>[(12,v),(13,.int .i64 (s.2))]) _ [(3,_),(4,_),(5,_),(6,_),(7,_),(11,_)]
  | apply Dk.loop 10 (V:=Value) (fun (s:(List Int)×Int) v=>[.own (aJ 2 (aN .i64)) v s.1]) (fun s v=>[(12,v),(14,.int .i64 (s.2))]) _ [(3,_),(4,_),(5,_),(6,_),(7,_),(11,_)]
  | apply Dk.quiet (id:=1) (by kernel_rfl)
  | apply Dk.any (id:=7) 10 [] [] [[],[0],[],[2],[],[2,3,4],[2,3,4,5],[],[2,3,4,5,6,7],[2,3,4,5,6,7,8]] (by kernel_rfl)
  | apply Dk.ru (id:=14) [Dk.aq.own (aJ 22 (aJ 2 (aN .i64))) _ _] 10 [] [[],[],[],[],[],[],[],[],[],[12]] [[],[0],[],[],[3],[],[3,4,5],[3,4,5,6],[],[3,4,5,6,7,8]] (by kernel_rfl)
  | apply Dk.any (id:=18) 10 [] [] [[],[0],[],[2],[],[2,3,4],[2,3,4,5],[],[2,3,4,5,6,7],[2,3,4,5,6,7,8]] (by kernel_rfl)
  | apply Dk.any (id:=19) 10 [] [] [[],[0],[],[2],[],[2,3,4],[2,3,4,5],[],[2,3,4,5,6,7],[2,3,4,5,6,7,8]] (by kernel_rfl)
  | apply Ep
  | exact ()
theorem agz {x0:aH} {bA bJ aT aR:Value} {x1:aH} {dC dQ cL bY:Value}:Ct Tryz.prog 253 true (lV x0 x1) [.agg #[.int .i64 (x0.aD),bA,bJ,aT,aR],.agg #[.int .i64 (x1.aD),dC,dQ,cL,bY]] [rI bA x0.aG,rI bJ x0.To,rI aT x0.aI,rJ aR x0.aB,rI dC x1.aG,rI dQ x1.To,rI cL x1.aI,rJ bY x1.aB] (fun y (v:Value×Value×Value×Value)=>match v with | (q0,q1,q2,q3)=>[.agg #[.int .i64 y.aD,q0,q1,q2,q3]]) (fun y v=>match v with | (q0,q1,q2,q3)=>[.own (aJ 2 (aN .i64)) q0 y.aG,.own (aJ 2 (aN .i64)) q1 y.To,.own (aJ 2 (aN .i64)) q2 y.aI,.own (aJ 22 (aJ 2 (aN .i64))) q3 y.aB]):=by
 refine ct (S:=Unit) (bx fun _ _=>rfl) Tryz.func253 rfl rfl ?_
 repeat' first
  | (apply Dk.fe; repeat' first | exact rfl | (refine @id.{0} _ ?_; constructor))
  | intro _
  | exact rfl
  | (refine Dk.tV (t:=60) rfl ?_ ?_)
  | (refine @id.{0} _ ?_; constructor)
  | apply Dk.de 0 (V:=Value×Value) (A:=Nat×Value×Value×Value) (_,_,_,_) (fun a (s:Int×(List Int)×(List Int)) v=>Dk.pc (fun a0=>Dk.pc (fun a1=>Dk.pc (fun a2 a3=>[.row a0 [a1,v.1,v.2,a2,a3] 31,.own (aJ 2 (aN .i64)) v.1 s.2.1,.own (aJ 2 (aN .i64)) v.2 s.2.2]))) a) (fun a s v=>Dk.pc (fun a0=>Dk.pc (fun a1=>Dk.pc (fun a2 a3=>[(5,.pointer (some ⟨a0,0,none⟩)),(7,.int .i64 (s.1))]))) a) (_,_) [(2,_),(3,_),(4,_),(6,_)]
  | apply Dk.de 2 (V:=Value×Value) (A:=Nat×Value×Value×Value) (_,_,_,_) (fun a (s:Int×(List Int)×(List Int)) v=>Dk.pc (fun a0=>Dk.pc (fun a1=>Dk.pc (fun a2 a3=>[.row a0 [a1,v.1,v.2,a2,a3] 31,.own (aJ 2 (aN .i64)) v.1 s.2.1,.own (aJ 2 (aN .i64)) v.2 s.2.2]))) a) (fun a s v=>Dk.pc (fun a0=>Dk.pc (fun a1=>Dk.pc (fun a2 a3=>[(5,.pointer (some ⟨a0,0,none⟩)),(8,.int .i64 (s.1))]))) a) (_,_) [(2,_),(3,_),(4,_),(6,_),(7,_)]
  | apply Dk.loop 4 (V:=Value) (fun (s:(List (List Int))×Int) v=>[.own (aJ 22 (aJ 2 (aN .i64))) v s.1]) (fun s v=>[(9,v),(10,.int .i64 (s.2))]) _ [(2,_),(3,_),(4,_),(5,_),(6,_)]
  | apply Dk.loop 6 (V:=Value) (fun (s:(List Int)×Int) v=>[.own (aJ 2 (aN .i64)) v s.1]) (fun s v=>[(11,v),(12,.int .i64 (s.2))]) _ [(2,_),(3,_),(4,_),(5,_),(6,_),(9,_),(10,_)]
  | apply Dk.quiet (id:=20) (by kernel_rfl)
  | apply Dk.quiet (id:=21) (by kernel_rfl)
  | apply Zx
  | exact ()
theorem Zy {x0:aH} {bA bJ aT aR:Value}:Ct Tryz.prog 100 true (oF x0) [.agg #[.int .i64 (x0.aD),bA,bJ,aT,aR]] [rI bA x0.aG,rI bJ x0.To,rI aT x0.aI,rJ aR x0.aB] (fun y (_:Unit)=>[.bool y]) (fun y _=>[]):=by
 refine ct (S:=Unit) (bx fun _ _=>rfl) Tryz.func100 rfl rfl ?_
 repeat' first
  | (apply Dk.fe; repeat' first | exact rfl | (refine @id.{0} _ ?_; constructor))
  | intro _
  | exact rfl
  | (refine @id.{0} _ ?_; constructor)
  | apply afY
  | apply afH
  | exact ()
theorem agA {x0:aK} {aW bC aU aS bP bD:Value}:Ct Tryz.prog 194 true (nD x0) [.agg #[.int .i64 (x0.aC.aD),aW,bC,aU,aS,bP,bD]] [rI aW x0.aC.aG,rI bC x0.aC.To,rI aU x0.aC.aI,rJ aS x0.aC.aB,rI bP x0.aP,rJ bD x0.aO] (fun y (_:Unit)=>[.bool y]) (fun y _=>[]):=by
 refine ct (S:=Unit) (bx fun _ _=>rfl) Tryz.func194 rfl rfl ?_
 repeat' first
  | (apply Dk.fe; repeat' first | exact rfl | (refine @id.{0} _ ?_; constructor))
  | intro _
  | exact rfl
  | (refine @id.{0} _ ?_; constructor)
  | apply Dk.loop 0 (V:=Unit) (fun (s:Int) v=>[]) (fun s v=>[(3,.int .i64 (s))]) () [(1,_)]
  | apply Dk.loop 2 (V:=Unit) (fun (s:Int) v=>[]) (fun s v=>[(4,.int .i64 (s))]) () [(1,_)]
  | apply Dk.quiet (id:=11) (by kernel_rfl)
  | apply Zy
  | apply Y1
  | apply Nn
  | exact ()
theorem agB {x0:bX} {cU:Addr} {bV cB bG bE cM cE bW cC bH bF cN cF dN:Value}:Ct Tryz.prog 272 true (kU x0) [.pointer (some (cU))] [.au cU [.int .i64 (x0.aF.aC.aD),bV,cB,bG,bE,cM,cE,.int .i64 (x0.aM.aC.aD),bW,cC,bH,bF,cN,cF,dN],rI bV x0.aF.aC.aG,rI cB x0.aF.aC.To,rI bG x0.aF.aC.aI,rJ bE x0.aF.aC.aB,rI cM x0.aF.aP,rJ cE x0.aF.aO,rI bW x0.aM.aC.aG,rI cC x0.aM.aC.To,rI bH x0.aM.aC.aI,rJ bF x0.aM.aC.aB,rI cN x0.aM.aP,rJ cF x0.aM.aO,rJ dN x0.cD] (fun y (_:Unit)=>[.bool y]) (fun y _=>[]):=by
 refine ct (S:=Unit) (bx fun _ _=>rfl) Tryz.func272 rfl rfl ?_
 repeat' first
  | (apply Dk.fe; repeat' first | exact rfl | (refine @id.{0} _ ?_; constructor))
  | intro _
  | exact rfl
  | (refine @id.{0} _ ?_; constructor)
  | apply Dk.loop 0 (V:=Unit) (fun (s:Int) v=>[]) (fun s v=>[(22,.int .i64 (s))]) () [(0,_),(20,_),(21,_)]
  | apply Dk.quiet (id:=1) (by kernel_rfl)
  | apply Dk.quiet (id:=6) (by kernel_rfl)
  | apply Zb
  | exact ()
theorem Zz {x0:aK} {p:Addr} {ff ft fi fc fs fa:Value}:Ct Tryz.prog 113 false (dL x0) [.pointer (some p)] [.au p [.int .i64 x0.aC.aD,ff,ft,fi,fc,fs,fa],rI ff x0.aC.aG,rI ft x0.aC.To,rI fi x0.aC.aI,rJ fc x0.aC.aB,rI fs x0.aP,rJ fa x0.aO] (fun y (v:Nat×Value×Value×Value×Value×Value×Value×Value×Value)=>[(match y.1 with | none=>Value.pointer none | some _=>.pointer (some ⟨v.1,0,none⟩)),.bool y.2]) (fun y v=>match y.1 with | none=>[] | some m=>[.au ⟨v.1,0,none⟩ [.int .i64 m.1.aD,v.2.1,v.2.2.1,v.2.2.2.1,v.2.2.2.2.1,v.2.2.2.2.2.1,v.2.2.2.2.2.2.1,v.2.2.2.2.2.2.2.1,v.2.2.2.2.2.2.2.2],rI v.2.1 m.1.aG,rI v.2.2.1 m.1.To,rI v.2.2.2.1 m.1.aI,rJ v.2.2.2.2.1 m.1.aB,rJ v.2.2.2.2.2.1 m.2.1,rJ v.2.2.2.2.2.2.1 m.2.2.1,.rd false (sG Value.string (Value.int .i64)) v.2.2.2.2.2.2.2.1 m.2.2.2.1,.rd false (sG Value.string (Value.int .i64)) v.2.2.2.2.2.2.2.2 m.2.2.2.2]):=by
 refine ct (S:=Unit) zR Tryz.func113 rfl rfl ?_
 repeat' first
  | (apply Dk.fe; repeat' first | exact rfl | (refine @id.{0} _ ?_; constructor))
  | intro _
  | exact rfl
  | apply Dk.Ww (t:=144)
  | apply Dk.AD.VC (t:=22)
  | apply Dk.AD.VD (t:=23)
  | (apply Dk.Ti (T:=(sG Value.string (Value.int .i64))) 174; · (repeat (first | exact Dk.bz.own (by repeat constructor) | apply Dk.bz.there)))
  | (apply Dk.Ti (T:=(sG Value.string (Value.int .i64))) 176; · (repeat (first | exact Dk.bz.own (by repeat constructor) | apply Dk.bz.there)))
  | apply Dk.rgs
  | (apply Dk.QO (c:=.ret) (e:=146); · (repeat (first | exact Dk.bz.row | apply Dk.bz.there)))
  | (refine @id.{0} _ ?_; constructor)
  | apply Dk.de 0 (V:=Value) (A:=Nat×Value) (_,_) (fun a (s:List (List Int)×Int) v=>Dk.pc (fun a0 a1=>[.row a0 [.int .i64 0,.slice none 0 0,.slice none 0 0,.slice none 0 0,.slice none 0 0,a1,v,.map none,.map none] 146,.own (aJ 22 (aJ 2 (aN .i64))) v s.1]) a) (fun a s v=>[(29,.int .i64 s.2)]) _ [(0,_),(4,_),(5,_),(27,_),(28,_)]
  | apply Dk.de 2 (V:=Value) (A:=Nat×Value) (_,_) (fun a (s:List (List Int)×Int) v=>Dk.pc (fun a0 a1=>[.row a0 [.int .i64 0,.slice none 0 0,.slice none 0 0,.slice none 0 0,.slice none 0 0,a1,v,.map none,.map none] 146,.own (aJ 22 (aJ 2 (aN .i64))) v s.1]) a) (fun a s v=>[(39,.int .i64 s.2)]) _ [(0,_),(4,_),(5,_),(6,_),(7,_),(27,_),(28,_),(29,_),(37,_),(38,_)]
  | apply Dk.de 4 (V:=Value) (A:=Nat×Value) (_,_) (fun a (s:List (List Int)×Int) v=>Dk.pc (fun a0 a1=>[.row a0 [.int .i64 0,.slice none 0 0,.slice none 0 0,.slice none 0 0,.slice none 0 0,a1,v,.map none,.map none] 146,.own (aJ 22 (aJ 2 (aN .i64))) v s.1]) a) (fun a s v=>[(53,.int .i64 s.2)]) _ [(0,_),(4,_),(5,_),(6,_),(7,_),(8,_),(9,_),(27,_),(28,_),(29,_),(37,_),(38,_),(39,_),(51,_),(52,_)]
  | apply Dk.de 6 (V:=Value) (A:=Nat×Value×Value×Value×Value×Value×Value×Value×Value) (_,_,_,_,_,_,_,_,_) (fun a (s:List Int×Int) v=>Dk.pc (fun a0=>Dk.pc (fun a1=>Dk.pc (fun a2=>Dk.pc (fun a3=>Dk.pc (fun a4=>Dk.pc (fun a5=>Dk.pc (fun a6=>Dk.pc (fun a7 a8=>[.row a0 [a1,a2,a3,v,a4,a5,a6,a7,a8] 146,.own (aJ 2 (aN .i64)) v s.1])))))))) a) (fun a s v=>[(135,.int .i64 s.2)]) _ [(0,_),(4,_),(5,_),(133,_),(134,_)]
  | apply Dk.any (id:=11) 10 [] [] [[],[],[1],[1,2],[],[4],[4,5],[0,1,2,3,4,5,6],[0,1,2,3,4,5,6,7],[]] (by kernel_rfl)
  | apply Dk.any (id:=14) 15 [] [] [[],[0],[0,1],[0,1,2],[],[0,1,2,3,4],[0,1,2,3,4,5],[],[7],[7,8],[0,1,2,3,4,5,6,7,8,9],[0,1,2,3,4,5,6,7,8,9,10],[],[12],[12,13]] (by kernel_rfl)
  | apply Dk.ru (id:=15) [Dk.aq.own (aJ 22 (aJ 2 (aN .i64))) _ _] 11 [] [[],[],[],[],[],[],[],[],[],[],[14,8]] [[],[],[1],[1,2],[1,2,3],[],[],[],[5,6,7],[5,6,7,8],[1,2,3,4,5,6,7,8,9]] (by kernel_rfl)
  | (apply Dk.Mo (id:=21) (k:=18) (e:=146) [7,8]; exact rfl; kernel_rfl; · (repeat (first | exact Dk.bz.row | apply Dk.bz.there)))
  | ((with_reducible apply Dk.FK.done (k:=0)); kernel_rfl)
  | ((with_reducible apply Dk.FK.at 21 17 0); exact rfl)
  | ((with_reducible apply Dk.FK.at 21 16 1); exact rfl)
  | ((with_reducible apply Dk.FK.at 21 15 2); exact rfl)
  | ((with_reducible apply Dk.FK.at 21 14 7); exact rfl)
  | ((with_reducible apply Dk.FK.at 21 13 3); exact rfl)
  | ((with_reducible apply Dk.FK.at 21 12 4); exact rfl)
  | ((with_reducible apply Dk.FK.at 21 11 8); exact rfl)
  | ((with_reducible apply Dk.FK.at 21 10 9); exact rfl)
  | ((with_reducible apply Dk.FK.at 21 9 5); exact rfl)
  | ((with_reducible apply Dk.FK.at 21 8 10); exact rfl)
  | ((with_reducible apply Dk.FK.at 21 7 6); exact rfl)
  | ((with_reducible apply Dk.FK.at 21 6 11); exact rfl)
  | ((with_reducible apply Dk.FK.at 21 5 12); exact rfl)
  | ((with_reducible apply Dk.FK.at 21 4 13); exact rfl)
  | ((with_reducible apply Dk.FK.at 21 3 14); exact rfl)
  | ((with_reducible apply Dk.FK.at 21 2 15); exact rfl)
  | ((with_reducible apply Dk.FK.at 21 1 16); exact rfl)
  | ((with_reducible apply Dk.FK.at 21 0 17); exact rfl)
  | ((with_reducible apply Dk.FJ.lb); exact rfl; kernel_rfl; exact rfl; exact rfl; exact rfl)
  | ((with_reducible apply Dk.FJ.lc); exact rfl; kernel_rfl; exact rfl)
  | ((with_reducible apply Dk.FJ.ls); exact rfl; kernel_rfl; exact rfl)
  | ((with_reducible apply Dk.FJ.cm); exact rfl; kernel_rfl; exact rfl)
  | ((with_reducible apply Dk.FJ.st); exact rfl; kernel_rfl; exact rfl; exact rfl)
  | ((with_reducible apply Dk.FJ.q); exact rfl; kernel_rfl)
  | (apply Dk.Mo (id:=22) (k:=20) (e:=146) [0,1,2,3,4]; exact rfl; kernel_rfl; · (repeat (first | exact Dk.bz.row | apply Dk.bz.there)))
  | ((with_reducible apply Dk.FK.done (k:=0)); kernel_rfl)
  | ((with_reducible apply Dk.FK.at 22 19 0); exact rfl)
  | ((with_reducible apply Dk.FK.at 22 18 1); exact rfl)
  | ((with_reducible apply Dk.FK.at 22 17 6); exact rfl)
  | ((with_reducible apply Dk.FK.at 22 16 11); exact rfl)
  | ((with_reducible apply Dk.FK.at 22 15 2); exact rfl)
  | ((with_reducible apply Dk.FK.at 22 14 3); exact rfl)
  | ((with_reducible apply Dk.FK.at 22 13 4); exact rfl)
  | ((with_reducible apply Dk.FK.at 22 12 5); exact rfl)
  | ((with_reducible apply Dk.FK.at 22 11 7); exact rfl)
  | ((with_reducible apply Dk.FK.at 22 10 8); exact rfl)
  | ((with_reducible apply Dk.FK.at 22 9 9); exact rfl)
  | ((with_reducible apply Dk.FK.at 22 8 12); exact rfl)
  | ((with_reducible apply Dk.FK.at 22 7 13); exact rfl)
  | ((with_reducible apply Dk.FK.at 22 6 14); exact rfl)
  | ((with_reducible apply Dk.FK.at 22 5 10); exact rfl)
  | ((with_reducible apply Dk.FK.at 22 4 15); exact rfl)
  | ((with_reducible apply Dk.FK.at 22 3 16); exact rfl)
  | ((with_reducible apply Dk.FK.at 22 2 17); exact rfl)
  | ((with_reducible apply Dk.FK.at 22 1 18); exact rfl)
  | ((with_reducible apply Dk.FK.at 22 0 19); exact rfl)
  | ((with_reducible apply Dk.FJ.lb); exact rfl; kernel_rfl; exact rfl; exact rfl; exact rfl)
  | ((with_reducible apply Dk.FJ.lc); exact rfl; kernel_rfl; exact rfl)
  | ((with_reducible apply Dk.FJ.ls); exact rfl; kernel_rfl; exact rfl)
  | ((with_reducible apply Dk.FJ.cm); exact rfl; kernel_rfl; exact rfl)
  | ((with_reducible apply Dk.FJ.st); exact rfl; kernel_rfl; exact rfl; exact rfl)
  | ((with_reducible apply Dk.FJ.q); exact rfl; kernel_rfl)
  | apply Dk.ru (id:=26) [Dk.aq.own (aJ 2 (aN .i64)) _ _] 27 [] [[],[],[],[],[],[],[],[],[],[],[],[],[],[],[],[],[],[],[],[],[],[],[],[],[],[],[31]] [[],[],[1],[1,2],[1,2,3],[1,2,3,4],[],[6],[6,7],[6,7,8],[],[],[],[12],[12,13],[12,13,14],[],[16],[16,17],[12,13,14,15,16,17,18],[12,13,14,15,16,17,18,19],[10,11,12,13,14,15,16,17,18,19,20],[10,11,12,13,14,15,16,17,18,19,20,21],[10,11,12,13,14,15,16,17,18,19,20,21,22],[6,7,8,9,10,11,12,13,14,15,16,17,18,19,20,21,22,23],[6,7,8,9,10,11,12,13,14,15,16,17,18,19,20,21,22,23,24],[1,2,3,4,5,6,7,8,9,10,11,12,13,14,15,16,17,18,19,20,21,22,23,24,25]] (by kernel_rfl)
  | apply afU
  | apply afE
  | apply afK
  | apply agl
  | apply Y5
  | apply Nl
  | apply PO
  | exact ()
 all_goals try first | exact Value.nilFunc | exact (0:Nat)
end Go.Proofs.YtcnehblmgfbfoaaGreat
