/- Walks by the calculus D. No condition beside those that each theorem names. -/
import Derived.Test.YtjdkifckhidlbaaGreatDp
import Derived.Test.YtjdkifckhidlbaaGreatDi
import Derived.Test.YtjdkifckhidlbaaGreatMo
import Derived.Test.YtjdkifckhidlbaaGreatDs
import Derived.Test.YtjdkifckhidlbaaGreatWa
import Derived.Test.YtjdkifckhidlbaaGreatWb
import Derived.Test.YtjdkifckhidlbaaGreatWd
namespace Go.Proofs.YtjdkifckhidlbaaGreat
open Go Go.Li Go.Dk
set_option linter.unusedVariables false
set_option maxHeartbeats 16000000
set_option maxRecDepth 100000
theorem abB {x0:Int} {x1:(List Int)} {eQ:Value} {x2:(List Int)} {dS:Value}:Ct Tryz.prog 303 false (kQ x0 x1 x2) [.int .i64 (x0),eQ,dS] [rI eQ x1,rI dS x2] (fun y (v:Value)=>[v]) (fun y v=>[.rd false (bT (rG uC)) v y]):=by
 refine ct (S:=Unit) EE Tryz.func303 rfl rfl ?_
 repeat' first
  | (apply Dk.fe; repeat' first | exact rfl | (refine @id.{0} _ ?_; constructor))
  | intro _
  | exact rfl
  | (refine (id (α:=@Eq (List Value) _ _) ?_); dsimp only; try exact rfl)
  | apply Dk.lgS (t:=283) (S:=uC)
  | apply Dk.lnS (t:=283)
  | apply Dk.ixS (t:=283)
  | apply Dk.apS (t:=283) (cC.mk _ _ _)
  | apply Dk.RB (n:=3)
  | apply Dk.RC (n:=3)
  | apply Dk.Wr (n:=3)
  | apply Dk.stS (n:=3) (S:=uC) _
  | apply Dk.AD.QK
  | apply Dk.AD.V4 (n:=3)
  | apply Dk.AD.QM (n:=3)
  | (refine @id.{0} _ ?_; constructor)
  | apply Dk.BY 0 (V:=Value) (W:=List (List Value)) (fun (s:(List cC)×Int) v u=>[.own (aL 286 (ja 3)) v u,.rd false (uM uC) (.bool true) (u,s.1)]) (fun s v u=>[(7,v),(8,.int .i64 (s.2))]) _ _ [(0,_),(1,_),(2,_)]
  | apply Dk.BY 2 (V:=Value) (W:=List (List Value)) (fun (s:(List cC)×Int) v u=>[.own (aL 286 (ja 3)) v u,.rd false (uM uC) (.bool true) (u,s.1)]) (fun s v u=>[(7,v),(9,.int .i64 (s.2))]) _ _ [(0,_),(1,_),(2,_)]
  | apply Dk.BY 4 (V:=Value) (W:=List (List Value)) (fun (s:(List cC)×Int) v u=>[.own (aL 286 (ja 3)) v u,.rd false (uM uC) (.bool true) (u,s.1)]) (fun s v u=>[(7,v),(10,.int .i64 (s.2))]) _ _ [(0,_),(1,_),(2,_),(9,_)]
  | apply Dk.BY 6 (V:=Value) (W:=List (List Value)) (fun (s:(List cC)×Int) v u=>[.own (aL 286 (ja 3)) v u,.rd false (uM uC) (.bool true) (u,s.1)]) (fun s v u=>[(7,v),(11,.int .i64 (s.2))]) _ _ []
  | apply Dk.BY 8 (V:=Value) (W:=List (List Value)) (fun (s:(List cC)×Int) v u=>[.own (aL 286 (ja 3)) v u,.rd false (uM uC) (.bool true) (u,s.1)]) (fun s v u=>[(7,v),(12,.int .i64 (s.2))]) _ _ [(11,_)]
  | apply Dk.quiet (id:=12) (by kernel_rfl)
  | apply Dk.quiet (id:=18) (by kernel_rfl)
  | apply Dk.any (id:=13) 19 [0] [[],[],[],[],[],[],[],[],[],[],[],[],[],[],[],[],[],[],[15]] [[],[],[],[1,2],[1,2,3],[1,2,3,4],[],[],[6,7],[6,7,8],[],[],[10,11],[10,11,12],[10,11,12,13],[10,11,12,13,14],[],[16],[10,11,12,13,14,15,16,17]] (by kernel_rfl)
  | apply xw
  | apply aa1
  | exact ()
theorem abC {x0:Int} {x1:(List Int)} {eQ:Value} {x2:(List Int)} {dS:Value}:Ct Tryz.prog 267 true (fF x0 x1 x2) [.int .i64 (x0),eQ,dS] [rI eQ x1,rI dS x2] (fun y (v:Value×Value×Value×Value)=>[.agg #[.int .i64 y.aA,v.1,v.2.1,v.2.2.1,v.2.2.2]]) (fun y v=>[.own (aL 2 (aN .i64)) v.1 y.aG,.own (aL 2 (aN .i64)) v.2.1 y.To,.own (aL 2 (aN .i64)) v.2.2.1 y.aJ,.own (aL 24 (aL 2 (aN .i64))) v.2.2.2 y.aB]):=by
 refine ct (S:=Unit) (bw fun _ _=>rfl) Tryz.func267 rfl rfl ?_
 repeat' first
  | (apply Dk.fe; repeat' first | exact rfl | (refine @id.{0} _ ?_; constructor))
  | intro _
  | exact rfl
  | (refine Dk.sZ (t:=83) rfl ?_ ?_)
  | apply Dk.AD.Wu (d:=108)
  | (refine Dk.sZ (t:=112) rfl ?_ ?_)
  | (refine @id.{0} _ ?_; constructor)
  | apply Dk.js 0 (V:=Value×Value) (A:=Nat×Value×Value) (_,_,_) (fun a (s:Int×(List Int)×(List Int)×(List Int)) v=>Dk.pc (fun a0=>Dk.pc (fun a1 a2=>[.row a0 [.int .i64 (x0),v.1,v.2,a1,a2] 27,.own (aL 2 (aN .i64)) a1 s.2.2.2,.own (aL 2 (aN .i64)) v.1 s.2.1,.own (aL 2 (aN .i64)) v.2 s.2.2.1])) a) (fun a s v=>Dk.pc (fun a0=>Dk.pc (fun a1 a2=>[(8,.pointer (some ⟨a0,0,none⟩)),(9,.int .i64 (s.1))])) a) (_,_) [(6,_),(7,_)]
  | apply Dk.js 2 (V:=Value) (A:=Nat×Value×Value×Value) (_,_,_,_) (fun a (s:Int×(List (List Int))) v=>Dk.pc (fun a0=>Dk.pc (fun a1=>Dk.pc (fun a2 a3=>[.row a0 [.int .i64 (x0),a1,a2,a3,v] 27,.own (aL 24 (aL 2 (aN .i64))) v s.2]))) a) (fun a s v=>Dk.pc (fun a0=>Dk.pc (fun a1=>Dk.pc (fun a2 a3=>[(8,.pointer (some ⟨a0,0,none⟩)),(10,.int .i64 (s.1))]))) a) _ [(6,_),(7,_)]
  | apply Dk.loop 4 (V:=Value) (fun (s:(List Int)×Int) v=>[.own (aL 2 (aN .i64)) v s.1]) (fun s v=>[(11,v),(12,.int .i64 (s.2))]) _ [(6,_),(7,_),(8,_),(10,_)]
  | apply Dk.loop 6 (V:=Unit) (fun (s:Int×Int) v=>[]) (fun s v=>[(13,.int .i64 (s.1)),(15,.int .i64 (s.2))]) () [(6,_),(7,_),(8,_),(10,_),(11,_),(12,_),(14,_)]
  | apply Dk.quiet (id:=20) (by kernel_rfl)
  | apply Dk.quiet (id:=25) (by kernel_rfl)
  | apply Dk.any (id:=6) 8 [] [] [[],[0],[],[],[2,3],[2,3,4],[2,3,4,5],[2,3,4,5,6]] (by kernel_rfl)
  | apply Dk.any (id:=7) 8 [] [] [[],[0],[],[],[2,3],[2,3,4],[2,3,4,5],[2,3,4,5,6]] (by kernel_rfl)
  | apply Dk.any (id:=9) 8 [] [] [[],[0],[],[],[2,3],[2,3,4],[2,3,4,5],[]] (by kernel_rfl)
  | apply Dk.any (id:=21) 11 [] [] [[],[],[0,1],[0,1,2],[0,1,2,3],[0,1,2,3,4],[],[],[6,7],[6,7,8],[6,7,8,9]] (by kernel_rfl)
  | apply abB
  | apply Uf
  | apply xw
  | apply Jl
  | exact ()
theorem abD {x0:(List (List Int))} {cY:Value}:Ct Tryz.prog 268 true (iQ x0) [cY] [rJ cY x0] (fun y (v:Value×Value×Value×Value)=>[.agg #[.int .i64 y.aA,v.1,v.2.1,v.2.2.1,v.2.2.2]]) (fun y v=>[.own (aL 2 (aN .i64)) v.1 y.aG,.own (aL 2 (aN .i64)) v.2.1 y.To,.own (aL 2 (aN .i64)) v.2.2.1 y.aJ,.own (aL 24 (aL 2 (aN .i64))) v.2.2.2 y.aB]):=by
 refine ct (S:=Unit) (bw fun _ _=>rfl) Tryz.func268 rfl rfl ?_
 repeat' first
  | (apply Dk.fe; repeat' first | exact rfl | (refine @id.{0} _ ?_; constructor))
  | intro _
  | exact rfl
  | (refine @id.{0} _ ?_; constructor)
  | apply Dk.any (id:=2) 7 [] [] [[],[0],[],[2],[],[],[5]] (by kernel_rfl)
  | apply T1
  | exact ()
theorem abE {x0:aI} {cW:Addr} {aQ bF aO aM:Value}:Ct Tryz.prog 201 true (hY x0) [.pointer (some (cW))] [.bd cW [.int .i64 (x0.aA),aQ,bF,aO,aM],rI aQ x0.aG,rI bF x0.To,rI aO x0.aJ,rJ aM x0.aB] (fun y (_:Unit)=>[.bool y]) (fun y _=>[]):=by
 refine ct (S:=Unit) (bw fun _ _=>rfl) Tryz.func201 rfl rfl ?_
 repeat' first
  | (apply Dk.fe; repeat' first | exact rfl | (refine @id.{0} _ ?_; constructor))
  | intro _
  | exact rfl
  | (refine @id.{0} _ ?_; constructor)
  | apply Dk.loop 0 (V:=Unit) (fun (s:Int) v=>[]) (fun s v=>[(88,.int .i64 (s))]) () [(0,_),(3,_),(86,_),(87,_)]
  | apply Dk.loop 2 (V:=Unit) (fun (s:Int) v=>[]) (fun s v=>[(106,.int .i64 (s))]) () [(0,_),(3,_),(104,_),(105,_)]
  | apply Dk.loop 4 (V:=Unit) (fun (s:Int) v=>[]) (fun s v=>[(117,.int .i64 (s))]) () [(0,_),(3,_),(6,_),(104,_),(105,_),(106,_),(115,_),(116,_)]
  | apply Dk.quiet (id:=2) (by kernel_rfl)
  | apply Dk.quiet (id:=4) (by kernel_rfl)
  | apply Dk.quiet (id:=20) (by kernel_rfl)
  | apply Dk.quiet (id:=23) (by kernel_rfl)
  | apply Gy
  | apply Gz
  | apply Jj
  | apply Jk
  | exact ()
theorem Um {x0:aI} {cW:Addr} {aQ bF aO aM:Value}:Ct Tryz.prog 119 true (fE x0) [.pointer (some (cW))] [.bd cW [.int .i64 (x0.aA),aQ,bF,aO,aM],rI aQ x0.aG,rI bF x0.To,rI aO x0.aJ,rJ aM x0.aB] (fun y (_:Unit)=>[.bool y]) (fun y _=>[]):=by
 refine ct (S:=Unit) (bw fun _ _=>rfl) Tryz.func119 rfl rfl ?_
 repeat' first
  | (apply Dk.fe; repeat' first | exact rfl | (refine @id.{0} _ ?_; constructor))
  | intro _
  | exact rfl
  | (refine @id.{0} _ ?_; constructor)
  | apply abE
  | apply aa3
  | exact ()
theorem abF {x0:(List aI)} {cY:Value}:Ct Tryz.prog 184 true (jJ x0) [cY] [.rd false (bT (ve Mo)) cY x0] (fun y (_:Unit)=>[.bool y]) (fun y _=>[]):=by
 refine ct (S:=Unit) (bw fun _ _=>rfl) Tryz.func184 rfl rfl ?_
 repeat' first
  | (apply Dk.fe; repeat' first | exact rfl | (refine @id.{0} _ ?_; constructor))
  | intro _
  | exact rfl
  | (refine @id.{0} _ ?_; constructor)
  | apply Dk.loop 0 (V:=Unit) (fun (s:Int) v=>[]) (fun s v=>[(7,.int .i64 (s))]) () [(5,_),(6,_)]
  | apply Um
  | exact ()
theorem abG {x0:aP} {cW:Addr} {bU bZ bD aY bV cA bE aZ cG cJ:Value}:Ct Tryz.prog 195 true (jS x0) [.pointer (some (cW))] [.bd cW [.int .i64 (x0.aE.aA),bU,bZ,bD,aY,.int .i64 (x0.aH.aA),bV,cA,bE,aZ,cG,cJ],rI bU x0.aE.aG,rI bZ x0.aE.To,rI bD x0.aE.aJ,rJ aY x0.aE.aB,rI bV x0.aH.aG,rI cA x0.aH.To,rI bE x0.aH.aJ,rJ aZ x0.aH.aB,rI cG x0.aA,rI cJ x0.ae] (fun y (_:Unit)=>[.bool y]) (fun y _=>[]):=by
 refine ct (S:=Unit) (bw fun _ _=>rfl) Tryz.func195 rfl rfl ?_
 repeat' first
  | (apply Dk.fe; repeat' first | exact rfl | (refine @id.{0} _ ?_; constructor))
  | intro _
  | exact rfl
  | (refine @id.{0} _ ?_; constructor)
  | apply Dk.loop 0 (V:=Unit) (fun (s:Int) v=>[]) (fun s v=>[(66,.int .i64 (s))]) () [(0,_),(3,_),(4,_),(64,_),(65,_)]
  | apply Dk.loop 2 (V:=Unit) (fun (s:Int) v=>[]) (fun s v=>[(121,.int .i64 (s))]) () [(0,_),(3,_),(4,_),(119,_),(120,_)]
  | apply Dk.loop 4 (V:=Unit) (fun (s:Int) v=>[]) (fun s v=>[(153,.int .i64 (s))]) () [(0,_),(4,_),(151,_),(152,_)]
  | apply Dk.loop 6 (V:=Unit) (fun (s:Int) v=>[]) (fun s v=>[(160,.int .i64 (s))]) () [(0,_),(4,_),(9,_),(151,_),(152,_),(153,_),(158,_),(159,_)]
  | apply Dk.quiet (id:=1) (by kernel_rfl)
  | apply Dk.quiet (id:=2) (by kernel_rfl)
  | apply Dk.quiet (id:=7) (by kernel_rfl)
  | apply Dk.quiet (id:=13) (by kernel_rfl)
  | apply Dk.quiet (id:=22) (by kernel_rfl)
  | apply Gy
  | apply Jj
  | apply C2
  | exact ()
theorem Ll {x0:bN} {cW:Addr} {bK bR bA aT bL bS bB aU bX cB bG bP aV aR bH bQ aW aS bW bY cS cO:Value} {x1:Int} {x2:Int} {x3:Int} {x4:aI} {qY:Addr} {pF pZ kP jO:Value} {x5:pD} {x6:Int} {dq:bN} {z8:Addr} {jv ks iu gx jw kv iv gy l8 mw jm j9 ik gn jo kh iq gp l5 l9 sB rC:Value}:Ct Tryz.prog 110 true (eD x0 x1 x2 x3 x4 x5 x6 (fun a0 a1=>eV dq a0 a1)) [.pointer (some (cW)),.int .i64 (x1),.int .i64 (x2),.int .i64 (x3),.pointer (some (qY)),.agg #[.int .i64 (x5.aG),.int .i64 (x5.To)],.int .i64 (x6),.func (.func 111) #[.pointer (some (z8))] #[]] [.bd qY [.int .i64 (x4.aA),pF,pZ,kP,jO],.bd cW [.int .i64 (x0.Left.aE.aA),bK,bR,bA,aT,.int .i64 (x0.Left.aH.aA),bL,bS,bB,aU,bX,cB,.int .i64 (x0.ab.aE.aA),bG,bP,aV,aR,.int .i64 (x0.ab.aH.aA),bH,bQ,aW,aS,bW,bY,cS,cO],rI bK x0.Left.aE.aG,rI bR x0.Left.aE.To,rI bA x0.Left.aE.aJ,rJ aT x0.Left.aE.aB,rI bL x0.Left.aH.aG,rI bS x0.Left.aH.To,rI bB x0.Left.aH.aJ,rJ aU x0.Left.aH.aB,rI bX x0.Left.aA,rI cB x0.Left.ae,rI bG x0.ab.aE.aG,rI bP x0.ab.aE.To,rI aV x0.ab.aE.aJ,rJ aR x0.ab.aE.aB,rI bH x0.ab.aH.aG,rI bQ x0.ab.aH.To,rI aW x0.ab.aH.aJ,rJ aS x0.ab.aH.aB,rI bW x0.ab.aA,rI bY x0.ab.ae,rI cS x0.Unit,rI cO x0.br,rI pF x4.aG,rI pZ x4.To,rI kP x4.aJ,rJ jO x4.aB,.bd z8 [.int .i64 (dq.Left.aE.aA),jv,ks,iu,gx,.int .i64 (dq.Left.aH.aA),jw,kv,iv,gy,l8,mw,.int .i64 (dq.ab.aE.aA),jm,j9,ik,gn,.int .i64 (dq.ab.aH.aA),jo,kh,iq,gp,l5,l9,sB,rC],rI jv dq.Left.aE.aG,rI ks dq.Left.aE.To,rI iu dq.Left.aE.aJ,rJ gx dq.Left.aE.aB,rI jw dq.Left.aH.aG,rI kv dq.Left.aH.To,rI iv dq.Left.aH.aJ,rJ gy dq.Left.aH.aB,rI l8 dq.Left.aA,rI mw dq.Left.ae,rI jm dq.ab.aE.aG,rI j9 dq.ab.aE.To,rI ik dq.ab.aE.aJ,rJ gn dq.ab.aE.aB,rI jo dq.ab.aH.aG,rI kh dq.ab.aH.To,rI iq dq.ab.aH.aJ,rJ gp dq.ab.aH.aB,rI l5 dq.ab.aA,rI l9 dq.ab.ae,rI sB dq.Unit,rI rC dq.br] (fun y (_:Unit)=>[.int .i64 y.1,.int .i64 y.2]) (fun y _=>[]):=by
 refine ct (S:=Unit) (bw fun _ _=>rfl) Tryz.func110 rfl rfl ?_
 repeat' first
  | (apply Dk.fe; repeat' first | exact rfl | (refine @id.{0} _ ?_; constructor))
  | intro _
  | exact rfl
  | (refine @id.{0} _ ?_; constructor)
  | apply Dk.quiet (id:=3) (by kernel_rfl)
  | apply Gy
  | apply Gz
  | apply Jk
  | apply T8
  | exact ()
theorem abH {x0:aI} {cW:Addr} {aQ bF aO aM:Value} {x1:(List Int)} {eQ:Value}:Ct Tryz.prog 115 true (oE x0 x1) [.pointer (some (cW)),eQ] [.bd cW [.int .i64 (x0.aA),aQ,bF,aO,aM],rI aQ x0.aG,rI bF x0.To,rI aO x0.aJ,rJ aM x0.aB,rI eQ x1] (fun y (_:Unit)=>[.int .i64 y]) (fun y _=>[]):=by
 refine ct (S:=Unit) (bw fun _ _=>rfl) Tryz.func115 rfl rfl ?_
 repeat' first
  | (apply Dk.fe; repeat' first | exact rfl | (refine @id.{0} _ ?_; constructor))
  | intro _
  | exact rfl
  | (refine @id.{0} _ ?_; constructor)
  | apply Um
  | apply Jj
  | exact ()
end Go.Proofs.YtjdkifckhidlbaaGreat
