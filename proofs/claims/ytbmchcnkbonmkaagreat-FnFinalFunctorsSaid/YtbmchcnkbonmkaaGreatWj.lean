/- Walks by the calculus D. No condition beside those that each theorem names. -/
import Derived.Test.YtbmchcnkbonmkaaGreatDi
import Derived.Test.YtbmchcnkbonmkaaGreatMo
import Derived.Test.YtbmchcnkbonmkaaGreatDp
import Derived.Test.YtbmchcnkbonmkaaGreatDs
import Derived.Test.YtbmchcnkbonmkaaGreatWc
import Derived.Test.YtbmchcnkbonmkaaGreatWe
import Derived.Test.YtbmchcnkbonmkaaGreatWf
import Derived.Test.YtbmchcnkbonmkaaGreatWg
import Derived.Test.YtbmchcnkbonmkaaGreatWh
namespace Go.Proofs.YtbmchcnkbonmkaaGreat
open Go Go.Li Go.Dk
set_option linter.unusedVariables false
set_option maxHeartbeats 16000000
set_option maxRecDepth 100000
theorem c51 {x0:(List aG)} {cA:Value}:Ct Tryz.prog 51 true (jR x0) [cA] [.rd false (bG (zQ Qu)) cA x0] (fun y (_:Unit)=>[.bool y]) (fun y _=>[]):=by
 refine ct (S:=Unit) (bw fun _ _=>rfl) Tryz.func51 rfl rfl ?_
 repeat' first
  | (apply Dk.fe; repeat' first | exact rfl | (refine @id.{0} _ ?_; constructor))
  | intro _
  | exact rfl
  | (refine @id.{0} _ ?_; constructor)
  | apply Dk.loop 0 (V:=Unit) (fun (s:Int) v=>[]) (fun s v=>[(7,.int .i64 (s))]) () [(5,_),(6,_)]
  | apply c25
  | exact ()
theorem Ly {x0:aJ} {cS:Addr} {aS aV aQ aO aT aW aR aP bA bC:Value}:Ct Tryz.prog 23 true (dA x0) [.pointer (some (cS))] [.aw cS [.int .i64 (x0.aE.aA),aS,aV,aQ,aO,.int .i64 (x0.aF.aA),aT,aW,aR,aP,bA,bC],rI aS x0.aE.aC,rI aV x0.aE.To,rI aQ x0.aE.aH,rJ aO x0.aE.aB,rI aT x0.aF.aC,rI aW x0.aF.To,rI aR x0.aF.aH,rJ aP x0.aF.aB,rI bA x0.aA,rI bC x0.ah] (fun y (_:Unit)=>[.bool y]) (fun y _=>[]):=by
 refine ct (S:=Unit) (bw fun _ _=>rfl) Tryz.func23 rfl rfl ?_
 repeat' first
  | (apply Dk.fe; repeat' first | exact rfl | (refine @id.{0} _ ?_; constructor))
  | intro _
  | exact rfl
  | (refine @id.{0} _ ?_; constructor)
  | apply Dk.acF (id:=1) 7 [] [[],[0],[1,0],[],[3],[4,3],[2,1,0,5,4,3]] (by kernel_rfl)
  | apply c51
  | apply c52
  | exact ()
theorem U8 {x0:aJ} {cS:Addr} {aS aV aQ aO aT aW aR aP bA bC:Value}:Ct Tryz.prog 19 true (qR x0 (fun a0=>eR a0)) [.pointer (some (cS)),.func (.func 20) #[] #[]] [.aw cS [.int .i64 (x0.aE.aA),aS,aV,aQ,aO,.int .i64 (x0.aF.aA),aT,aW,aR,aP,bA,bC],rI aS x0.aE.aC,rI aV x0.aE.To,rI aQ x0.aE.aH,rJ aO x0.aE.aB,rI aT x0.aF.aC,rI aW x0.aF.To,rI aR x0.aF.aH,rJ aP x0.aF.aB,rI bA x0.aA,rI bC x0.ah] (fun y (_:Unit)=>[.bool y.1,.int .i64 y.2]) (fun y _=>[]):=by
 refine ct (S:=Unit) (bw fun _ _=>rfl) Tryz.func19 rfl rfl ?_
 repeat' first
  | (apply Dk.fe; repeat' first | exact rfl | (refine @id.{0} _ ?_; constructor))
  | intro _
  | exact rfl
  | (refine @id.{0} _ ?_; constructor)
  | apply Ly
  | apply c20
  | exact ()
theorem c6 {x0:aJ} {aS aV aQ aO aT aW aR aP bA bC:Value}:Ct Tryz.prog 6 true (kN x0) [.agg #[.int .i64 (x0.aE.aA),aS,aV,aQ,aO,.int .i64 (x0.aF.aA),aT,aW,aR,aP,bA,bC]] [rI aS x0.aE.aC,rI aV x0.aE.To,rI aQ x0.aE.aH,rJ aO x0.aE.aB,rI aT x0.aF.aC,rI aW x0.aF.To,rI aR x0.aF.aH,rJ aP x0.aF.aB,rI bA x0.aA,rI bC x0.ah] (fun y (_:Unit)=>[.bool y.1,.int .i64 y.2]) (fun y _=>[]):=by
 refine ct (S:=Unit) (bw fun _ _=>rfl) Tryz.func6 rfl rfl ?_
 repeat' first
  | (apply Dk.fe; repeat' first | exact rfl | (refine @id.{0} _ ?_; constructor))
  | intro _
  | exact rfl
  | (refine @id.{0} _ ?_; constructor)
  | apply U8
  | exact ()
theorem c8 {x0:aJ} {aS aV aQ aO aT aW aR aP bA bC:Value}:Ct Tryz.prog 8 true (mT x0) [.agg #[.int .i64 (x0.aE.aA),aS,aV,aQ,aO,.int .i64 (x0.aF.aA),aT,aW,aR,aP,bA,bC]] [rI aS x0.aE.aC,rI aV x0.aE.To,rI aQ x0.aE.aH,rJ aO x0.aE.aB,rI aT x0.aF.aC,rI aW x0.aF.To,rI aR x0.aF.aH,rJ aP x0.aF.aB,rI bA x0.aA,rI bC x0.ah] (fun y (_:Unit)=>[.bool y]) (fun y _=>[]):=by
 refine ct (S:=Unit) (bw fun _ _=>rfl) Tryz.func8 rfl rfl ?_
 repeat' first
  | (apply Dk.fe; repeat' first | exact rfl | (refine @id.{0} _ ?_; constructor))
  | intro _
  | exact rfl
  | (refine @id.{0} _ ?_; constructor)
  | apply Ly
  | exact ()
theorem Y3 {x0:aJ} {cS:Addr} {aS aV aQ aO aT aW aR aP bA bC:Value}:Ct Tryz.prog 24 true (eE x0) [.pointer (some (cS))] [.aw cS [.int .i64 (x0.aE.aA),aS,aV,aQ,aO,.int .i64 (x0.aF.aA),aT,aW,aR,aP,bA,bC],rI aS x0.aE.aC,rI aV x0.aE.To,rI aQ x0.aE.aH,rJ aO x0.aE.aB,rI aT x0.aF.aC,rI aW x0.aF.To,rI aR x0.aF.aH,rJ aP x0.aF.aB,rI bA x0.aA,rI bC x0.ah] (fun y (v:Value×Value×Value×Value×Value×Value×Value×Value×Value×Value)=>[.agg #[.int .i64 y.aE.aA,v.1,v.2.1,v.2.2.1,v.2.2.2.1,.int .i64 y.aF.aA,v.2.2.2.2.1,v.2.2.2.2.2.1,v.2.2.2.2.2.2.1,v.2.2.2.2.2.2.2.1,v.2.2.2.2.2.2.2.2.1,v.2.2.2.2.2.2.2.2.2]]) (fun y v=>[.own (aI 2 (aL .i64)) v.1 y.aE.aC,.own (aI 2 (aL .i64)) v.2.1 y.aE.To,.own (aI 2 (aL .i64)) v.2.2.1 y.aE.aH,.own (aI 24 (aI 2 (aL .i64))) v.2.2.2.1 y.aE.aB,.own (aI 2 (aL .i64)) v.2.2.2.2.1 y.aF.aC,.own (aI 2 (aL .i64)) v.2.2.2.2.2.1 y.aF.To,.own (aI 2 (aL .i64)) v.2.2.2.2.2.2.1 y.aF.aH,.own (aI 24 (aI 2 (aL .i64))) v.2.2.2.2.2.2.2.1 y.aF.aB,.own (aI 2 (aL .i64)) v.2.2.2.2.2.2.2.2.1 y.aA,.own (aI 2 (aL .i64)) v.2.2.2.2.2.2.2.2.2 y.ah]):=by
 refine ct (S:=Unit) (bw fun _ _=>rfl) Tryz.func24 rfl rfl ?_
 repeat' first
  | (apply Dk.fe; repeat' first | exact rfl | (refine @id.{0} _ ?_; constructor))
  | intro _
  | exact rfl
  | (refine @id.{0} _ ?_; constructor)
  | apply Dk.any (id:=1) 10 [] [] [[],[0],[1,0],[2,1,0],[],[4],[5,4],[6,5,4,3,2,1,0],[],[]] (by kernel_rfl)
  | apply Dk.any (id:=2) 8 [] [] [[],[0],[1,0],[2,1,0],[],[4],[5,4],[6,5,4]] (by kernel_rfl)
  | apply c53
  | apply c54
  | exact ()
theorem c9 {x0:aJ} {aS aV aQ aO aT aW aR aP bA bC:Value}:Ct Tryz.prog 9 true (iC x0) [.agg #[.int .i64 (x0.aE.aA),aS,aV,aQ,aO,.int .i64 (x0.aF.aA),aT,aW,aR,aP,bA,bC]] [rI aS x0.aE.aC,rI aV x0.aE.To,rI aQ x0.aE.aH,rJ aO x0.aE.aB,rI aT x0.aF.aC,rI aW x0.aF.To,rI aR x0.aF.aH,rJ aP x0.aF.aB,rI bA x0.aA,rI bC x0.ah] (fun y (v:Value×Value×Value×Value×Value×Value×Value×Value×Value×Value)=>[.agg #[.int .i64 y.1.aE.aA,v.1,v.2.1,v.2.2.1,v.2.2.2.1,.int .i64 y.1.aF.aA,v.2.2.2.2.1,v.2.2.2.2.2.1,v.2.2.2.2.2.2.1,v.2.2.2.2.2.2.2.1,v.2.2.2.2.2.2.2.2.1,v.2.2.2.2.2.2.2.2.2],.int .i64 y.2]) (fun y v=>[.own (aI 2 (aL .i64)) v.1 y.1.aE.aC,.own (aI 2 (aL .i64)) v.2.1 y.1.aE.To,.own (aI 2 (aL .i64)) v.2.2.1 y.1.aE.aH,.own (aI 24 (aI 2 (aL .i64))) v.2.2.2.1 y.1.aE.aB,.own (aI 2 (aL .i64)) v.2.2.2.2.1 y.1.aF.aC,.own (aI 2 (aL .i64)) v.2.2.2.2.2.1 y.1.aF.To,.own (aI 2 (aL .i64)) v.2.2.2.2.2.2.1 y.1.aF.aH,.own (aI 24 (aI 2 (aL .i64))) v.2.2.2.2.2.2.2.1 y.1.aF.aB,.own (aI 2 (aL .i64)) v.2.2.2.2.2.2.2.2.1 y.1.aA,.own (aI 2 (aL .i64)) v.2.2.2.2.2.2.2.2.2 y.1.ah]):=by
 refine ct (S:=Unit) (bw fun _ _=>rfl) Tryz.func9 rfl rfl ?_
 repeat' first
  | (apply Dk.fe; repeat' first | exact rfl | (refine @id.{0} _ ?_; constructor))
  | intro _
  | exact rfl
  | (refine @id.{0} _ ?_; constructor)
  | apply Ly
  | apply Y3
  | exact ()
theorem W2 {x0:aJ} {aS aV aQ aO aT aW aR aP bA bC:Value}:Ct Tryz.prog 10 true (mU x0) [.agg #[.int .i64 (x0.aE.aA),aS,aV,aQ,aO,.int .i64 (x0.aF.aA),aT,aW,aR,aP,bA,bC]] [rI aS x0.aE.aC,rI aV x0.aE.To,rI aQ x0.aE.aH,rJ aO x0.aE.aB,rI aT x0.aF.aC,rI aW x0.aF.To,rI aR x0.aF.aH,rJ aP x0.aF.aB,rI bA x0.aA,rI bC x0.ah] (fun y (_:Unit)=>[.bool y.1,.int .i64 y.2]) (fun y _=>[]):=by
 refine ct (S:=Unit) (bw fun _ _=>rfl) Tryz.func10 rfl rfl ?_
 repeat' first
  | (apply Dk.fe; repeat' first | exact rfl | (refine @id.{0} _ ?_; constructor))
  | intro _
  | exact rfl
  | (refine @id.{0} _ ?_; constructor)
  | apply Ly
  | apply Y3
  | apply c20
  | exact ()
theorem c28 {x0:aJ} {p:Addr} {p9 qa qb qc qd qe qf qg uo ua:Value}:Ct Tryz.prog 28 true (iO x0) [.pointer (some p)] [.aw p [.int .i64 x0.aE.aA,p9,qa,qb,qc,.int .i64 x0.aF.aA,qd,qe,qf,qg,uo,ua],rI p9 x0.aE.aC,rI qa x0.aE.To,rI qb x0.aE.aH,rJ qc x0.aE.aB,rI qd x0.aF.aC,rI qe x0.aF.To,rI qf x0.aF.aH,rJ qg x0.aF.aB,rI uo x0.aA,rI ua x0.ah] (fun y (v:Nat×Value×Value×Value×Value×Value×Value×Value×Value×Value×Value)=>[.iface 97 (.agg #[.pointer (some ⟨v.1,0,none⟩)])]) (fun y v=>[.row v.1 [.int .i64 y.aE.aA,v.2.1,v.2.2.1,v.2.2.2.1,v.2.2.2.2.1,.int .i64 y.aF.aA,v.2.2.2.2.2.1,v.2.2.2.2.2.2.1,v.2.2.2.2.2.2.2.1,v.2.2.2.2.2.2.2.2.1,v.2.2.2.2.2.2.2.2.2.1,v.2.2.2.2.2.2.2.2.2.2] 29,.own (aI 2 (aL .i64)) v.2.1 y.aE.aC,.own (aI 2 (aL .i64)) v.2.2.1 y.aE.To,.own (aI 2 (aL .i64)) v.2.2.2.1 y.aE.aH,.own (aI 24 (aI 2 (aL .i64))) v.2.2.2.2.1 y.aE.aB,.own (aI 2 (aL .i64)) v.2.2.2.2.2.1 y.aF.aC,.own (aI 2 (aL .i64)) v.2.2.2.2.2.2.1 y.aF.To,.own (aI 2 (aL .i64)) v.2.2.2.2.2.2.2.1 y.aF.aH,.own (aI 24 (aI 2 (aL .i64))) v.2.2.2.2.2.2.2.2.1 y.aF.aB,.own (aI 2 (aL .i64)) v.2.2.2.2.2.2.2.2.2.1 y.aA,.own (aI 2 (aL .i64)) v.2.2.2.2.2.2.2.2.2.2 y.ah]):=by
 refine ct (S:=Unit) (bw fun _ _=>rfl) Tryz.func28 rfl rfl ?_
 repeat' first
  | (apply Dk.fe; repeat' first | exact rfl | (refine @id.{0} _ ?_; constructor))
  | intro _
  | exact rfl
  | (refine @id.{0} _ ?_; constructor)
  | apply Y3
  | exact ()
theorem ZY {x0:aJ} {p:Addr} {p9 qa qb qc qd qe qf qg uo ua:Value}:Ct Tryz.prog 65 false (gZ x0) [.pointer (some p)] [.aw p [.int .i64 x0.aE.aA,p9,qa,qb,qc,.int .i64 x0.aF.aA,qd,qe,qf,qg,uo,ua],rI p9 x0.aE.aC,rI qa x0.aE.To,rI qb x0.aE.aH,rJ qc x0.aE.aB,rI qd x0.aF.aC,rI qe x0.aF.To,rI qf x0.aF.aH,rJ qg x0.aF.aB,rI uo x0.aA,rI ua x0.ah] (fun y (v:Value)=>[v,.bool y.2]) (fun y v=>[.rd false (bG (my uR)) v y.1]):=by
 refine ct (S:=Unit) yi Tryz.func65 rfl rfl ?_
 repeat' first
  | (apply Dk.fe; repeat' first | exact rfl | (refine @id.{0} _ ?_; constructor))
  | intro _
  | exact rfl
  | apply Dk.S3 (t:=93) (S:=sd)
  | (refine @id.{0} _ ?_; constructor)
  | apply Dk.N8 0 (V:=Value) (W:=Nat) (A:=Nat) _ (fun a (s:Int×List bD) v b=>[.row a [v] 93,.own (aI 38 sd) v s.2,.row b [.int .i64 s.1] 2]) (fun a s v b=>[(4,.pointer (some ⟨a,0,none⟩)),(5,.pointer (some ⟨b,0,none⟩))]) _ _ [(0,_)]
  | apply Dk.quiet (id:=3) (by kernel_rfl)
  | apply c98
  | exact ()
theorem c65 {x0:aJ} {p:Addr} {p9 qa qb qc qd qe qf qg uo ua:Value}:Ct Tryz.prog 65 true (gZ x0) [.pointer (some p)] [.aw p [.int .i64 x0.aE.aA,p9,qa,qb,qc,.int .i64 x0.aF.aA,qd,qe,qf,qg,uo,ua],rI p9 x0.aE.aC,rI qa x0.aE.To,rI qb x0.aE.aH,rJ qc x0.aE.aB,rI qd x0.aF.aC,rI qe x0.aF.To,rI qf x0.aF.aH,rJ qg x0.aF.aB,rI uo x0.aA,rI ua x0.ah] (fun y (v:Value)=>[v,.bool y.2]) (fun y v=>[.own (aI 38 sd) v y.1]):=by
 refine ct (S:=Unit) (bw fun _ _=>rfl) Tryz.func65 rfl rfl ?_
 repeat' first
  | (apply Dk.fe; repeat' first | exact rfl | (refine @id.{0} _ ?_; constructor))
  | intro _
  | exact rfl
  | apply Dk.S3 (t:=93) (S:=sd)
  | (refine @id.{0} _ ?_; constructor)
  | apply Dk.N8 0 (V:=Value) (W:=Nat) (A:=Nat) _ (fun a (s:Int×List bD) v b=>[.row a [v] 93,.own (aI 38 sd) v s.2,.row b [.int .i64 s.1] 2]) (fun a s v b=>[(4,.pointer (some ⟨a,0,none⟩)),(5,.pointer (some ⟨b,0,none⟩))]) _ _ [(0,_)]
  | apply Dk.quiet (id:=3) (by kernel_rfl)
  | apply c98
  | exact ()
theorem c59 {x0:aJ} {cS:Addr} {aS aV aQ aO aT aW aR aP bA bC:Value} {x1:Int}:Ct Tryz.prog 59 false (qG x0 x1) [.pointer (some (cS)),.int .i64 (x1)] [.aw cS [.int .i64 (x0.aE.aA),aS,aV,aQ,aO,.int .i64 (x0.aF.aA),aT,aW,aR,aP,bA,bC],rI aS x0.aE.aC,rI aV x0.aE.To,rI aQ x0.aE.aH,rJ aO x0.aE.aB,rI aT x0.aF.aC,rI aW x0.aF.To,rI aR x0.aF.aH,rJ aP x0.aF.aB,rI bA x0.aA,rI bC x0.ah] (fun y (v:Value)=>[v,.bool y.2]) (fun y v=>[.rd false (bG (my uR)) v y.1]):=by
 refine ct (S:=Unit) yi Tryz.func59 rfl rfl ?_
 repeat' first
  | (apply Dk.fe; repeat' first | exact rfl | (refine @id.{0} _ ?_; constructor))
  | intro _
  | exact rfl
  | apply ZY
  | apply Dk.WM (t:=93) (S:=uR)
  | apply Dk.WN (t:=93) (x:=.tmp 25)
  | apply Dk.WR (t:=93) (bD.mk _ _)
  | (refine @id.{0} _ ?_; constructor)
  | apply Dk.xJ 0 (V:=Value) (W:=List (List Value)) (fun (s:List bD×Int) v u=>[.own (aI 38 (jg 2)) v u,.rd false (uC uR) (.bool true) (u,s.1)]) (fun s v u=>[(8,v),(21,.int .i64 s.2)]) _ _ [(0,_),(1,_),(6,_),(19,_),(20,_)]
  | apply c65
  | apply c66
  | exact ()
theorem c27 {x0:aJ} {cS:Addr} {aS aV aQ aO aT aW aR aP bA bC:Value}:Ct Tryz.prog 27 false (qT x0) [.pointer (some (cS))] [.aw cS [.int .i64 (x0.aE.aA),aS,aV,aQ,aO,.int .i64 (x0.aF.aA),aT,aW,aR,aP,bA,bC],rI aS x0.aE.aC,rI aV x0.aE.To,rI aQ x0.aE.aH,rJ aO x0.aE.aB,rI aT x0.aF.aC,rI aW x0.aF.To,rI aR x0.aF.aH,rJ aP x0.aF.aB,rI bA x0.aA,rI bC x0.ah] (fun y (v:Value)=>[.agg #[.int .i64 y.1.da,v],.int .i64 y.2]) (fun y v=>[rI v y.1.ay]):=by
 refine ct (S:=Unit) yi Tryz.func27 rfl rfl ?_
 repeat' first
  | (apply Dk.fe; repeat' first | exact rfl | (refine @id.{0} _ ?_; constructor))
  | intro _
  | exact rfl
  | (refine @id.{0} _ ?_; constructor)
  | apply c59
  | exact ()
theorem N2 {x0:aJ} {p9 qa qb qc qd qe qf qg uo ua:Value}:Ct Tryz.prog 12 false (mW x0) [.agg #[.int .i64 x0.aE.aA,p9,qa,qb,qc,.int .i64 x0.aF.aA,qd,qe,qf,qg,uo,ua]] [rI p9 x0.aE.aC,rI qa x0.aE.To,rI qb x0.aE.aH,rJ qc x0.aE.aB,rI qd x0.aF.aC,rI qe x0.aF.To,rI qf x0.aF.aH,rJ qg x0.aF.aB,rI uo x0.aA,rI ua x0.ah] (fun y (v:Value)=>[.agg #[.int .i64 y.1.da,v],.int .i64 y.2]) (fun y v=>[rI v y.1.ay]):=by
 refine ct (S:=Unit) yi Tryz.func12 rfl rfl ?_
 repeat' first
  | (apply Dk.fe; repeat' first | exact rfl | (refine @id.{0} _ ?_; constructor))
  | intro _
  | exact rfl
  | (apply Dk.acO (e:=29); · (repeat (first | exact Dk.dh.row | apply Dk.dh.there)))
  | (apply Dk.ZH (e:=29); · (repeat (first | exact Dk.dh.row | apply Dk.dh.there)))
  | (refine @id.{0} _ ?_; constructor)
  | apply Ly
  | apply c28
  | apply Sa
  | apply c27
  | exact Dk.Sz (by kernel_rfl)
  | exact ()
theorem c32 {x0:lD} {lN:Addr} {eC eS dM dI eD eU dN dJ fE fO:Value} {x1:bD} {gT:Value}:Ct Tryz.prog 32 true (iQ x0 x1) [.iface 97 (.agg #[.pointer (some (lN))]),.agg #[.int .i64 (x1.da),gT]] [.aw lN [.int .i64 (x0.eh.aE.aA),eC,eS,dM,dI,.int .i64 (x0.eh.aF.aA),eD,eU,dN,dJ,fE,fO],rI eC x0.eh.aE.aC,rI eS x0.eh.aE.To,rI dM x0.eh.aE.aH,rJ dI x0.eh.aE.aB,rI eD x0.eh.aF.aC,rI eU x0.eh.aF.To,rI dN x0.eh.aF.aH,rJ dJ x0.eh.aF.aB,rI fE x0.eh.aA,rI fO x0.eh.ah,rI gT x1.ay] (fun y (_:Unit)=>[.bool y.1,.int .i64 y.2]) (fun y _=>[]):=by
 refine ct (S:=Unit) (bw fun _ _=>rfl) Tryz.func32 rfl rfl ?_
 repeat' first
  | (apply Dk.fe; repeat' first | exact rfl | (refine @id.{0} _ ?_; constructor))
  | intro _
  | exact rfl
  | (refine @id.{0} _ ?_; constructor)
  | apply Dk.quiet (id:=7) (by kernel_rfl)
  | apply c64
  | apply c65
  | apply c66
  | apply Sa
  | exact Dk.Sz (by kernel_rfl)
  | exact ()
theorem c16 {x0:aJ} {x1:bD} {p9 qa qb qc qd qe qf qg uo ua w1:Value}:Ct Tryz.prog 16 true (iR x0 x1) [.agg #[.int .i64 x0.aE.aA,p9,qa,qb,qc,.int .i64 x0.aF.aA,qd,qe,qf,qg,uo,ua],.agg #[.int .i64 x1.da,w1]] [rI p9 x0.aE.aC,rI qa x0.aE.To,rI qb x0.aE.aH,rJ qc x0.aE.aB,rI qd x0.aF.aC,rI qe x0.aF.To,rI qf x0.aF.aH,rJ qg x0.aF.aB,rI uo x0.aA,rI ua x0.ah,rI w1 x1.ay] (fun y (_:Unit)=>[.bool y.1,.int .i64 y.2]) (fun y _=>[]):=by
 refine ct (S:=Unit) (bw fun _ _=>rfl) Tryz.func16 rfl rfl ?_
 repeat' first
  | (apply Dk.fe; repeat' first | exact rfl | (refine @id.{0} _ ?_; constructor))
  | intro _
  | exact rfl
  | (refine @id.{0} _ ?_; constructor)
  | apply Dk.any (id:=3) 5 [] [] [[],[],[0,1,0],[2,0,1,0],[2,0,1,0]] (by kernel_rfl)
  | apply Ly
  | apply c28
  | apply c32
  | exact ()
end Go.Proofs.YtbmchcnkbonmkaaGreat
