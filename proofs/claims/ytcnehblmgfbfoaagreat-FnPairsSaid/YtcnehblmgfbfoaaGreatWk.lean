/- Walks by the calculus D. No condition beside those that each theorem names. -/
import Derived.Test.YtcnehblmgfbfoaaGreatDp
import Derived.Test.YtcnehblmgfbfoaaGreatDi
import Derived.Test.YtcnehblmgfbfoaaGreatMo
import Derived.Test.YtcnehblmgfbfoaaGreatDs
import Derived.Test.YtcnehblmgfbfoaaGreatWa
import Derived.Test.YtcnehblmgfbfoaaGreatWd
import Derived.Test.YtcnehblmgfbfoaaGreatWe
import Derived.Test.YtcnehblmgfbfoaaGreatWh
namespace Go.Proofs.YtcnehblmgfbfoaaGreat
open Go Go.Li Go.Dk
set_option linter.unusedVariables false
set_option maxHeartbeats 16000000
set_option maxRecDepth 100000
theorem Um {rc:aD→aD→(List Int)→(List aN)→Option ((List aN))} (ih:∀ {x0:aD} {aO aR aK aJ:Value} {x1:aD} {aT bC aQ aP:Value} {x2:(List Int)} {cL:Value} {x3:(List aN)} {eG:Value},Ct Tryz.prog 177 true (rc x0 x1 x2 x3) [.agg #[.int .i64 (x0.aA),aO,aR,aK,aJ],.agg #[.int .i64 (x1.aA),aT,bC,aQ,aP],cL,eG] [rI aO x0.aB,rI aR x0.To,rI aK x0.aF,rJ aJ x0.aC,rI aT x1.aB,rI bC x1.To,rI aQ x1.aF,rJ aP x1.aC,rI cL x2,.own (aI 33 rh) eG x3] (fun y (v:Value)=>[v]) (fun y v=>[.own (aI 33 rh) v y])) {x0:aD} {aO aR aK aJ:Value} {x1:aD} {aT bC aQ aP:Value} {x2:(List Int)} {cL:Value} {x3:(List aN)} {eG:Value}:Ct Tryz.prog 177 true (iP rc x0 x1 x2 x3) [.agg #[.int .i64 (x0.aA),aO,aR,aK,aJ],.agg #[.int .i64 (x1.aA),aT,bC,aQ,aP],cL,eG] [rI aO x0.aB,rI aR x0.To,rI aK x0.aF,rJ aJ x0.aC,rI aT x1.aB,rI bC x1.To,rI aQ x1.aF,rJ aP x1.aC,rI cL x2,.own (aI 33 rh) eG x3] (fun y (v:Value)=>[v]) (fun y v=>[.own (aI 33 rh) v y]):=by
 refine ct (S:=Unit) (cf fun _ _=>rfl) Tryz.func177 rfl rfl ?_
 repeat' first
  | (apply Dk.fe; repeat' first | exact rfl | (refine @id.{0} _ ?_; constructor))
  | intro _
  | exact rfl
  | apply Dk.RZ (t:=72)
  | apply ih
  | apply Dk.apO (t:=72) (S:=rh) (aN.mk (aD.mk _ _ _ _ _) (aD.mk _ _ _ _ _) _ _)
  | (refine @id.{0} _ ?_; constructor)
  | apply Dk.loop 0 (V:=Value) (fun (s:(List Int)×Int) v=>[.own (aI 2 (aL .i64)) v s.1]) (fun s v=>[(9,v),(10,.int .i64 (s.2))]) _ [(2,_),(3,_),(4,_),(5,_)]
  | apply Dk.dg 2 (V:=Unit) (A:=Value) _ (fun a (s:Int×(List Int)) v=>[.own (aI 2 (aL .i64)) a s.2]) (fun a s v=>[(9,a),(11,.int .i64 (s.1))]) () [(2,_),(3,_),(4,_),(5,_)]
  | apply Dk.loop 4 (V:=Value) (fun (s:(List aN)×Int) v=>[.own (aI 33 rh) v s.1]) (fun s v=>[(3,v),(13,.int .i64 (s.2))]) _ [(2,_),(4,_),(5,_),(12,_)]
  | apply Dk.loop 6 (V:=Value) (fun (s:(List aN)×Int) v=>[.own (aI 33 rh) v s.1]) (fun s v=>[(3,v),(14,.int .i64 (s.2))]) _ [(2,_),(4,_),(5,_)]
  | apply Dk.any (id:=12) 14 [] [] [[],[],[1],[],[1,2,3],[1,2,3,4],[],[6],[],[],[8,9],[8,9,10],[6,7,8,9,10,11],[6,7,8,9,10,11,12]] (by kernel_rfl)
  | apply Dk.any (id:=22) 8 [] [[],[],[],[],[],[],[3],[]] [[],[],[],[2],[],[4],[2,3,4,5],[]] (by kernel_rfl)
  | apply Dk.U3 (id:=17) [(0,8)] 8 rfl (by kernel_rfl)
  | apply Z5
  | apply Z7
  | apply Lr
  | apply yz
  | exact ()
theorem Un (n:Nat):∀ {x0:aD} {aO aR aK aJ:Value} {x1:aD} {aT bC aQ aP:Value} {x2:(List Int)} {cL:Value} {x3:(List aN)} {eG:Value},Ct Tryz.prog 177 true (eY n x0 x1 x2 x3) [.agg #[.int .i64 (x0.aA),aO,aR,aK,aJ],.agg #[.int .i64 (x1.aA),aT,bC,aQ,aP],cL,eG] [rI aO x0.aB,rI aR x0.To,rI aK x0.aF,rJ aJ x0.aC,rI aT x1.aB,rI bC x1.To,rI aQ x1.aF,rJ aP x1.aC,rI cL x2,.own (aI 33 rh) eG x3] (fun y (v:Value)=>[v]) (fun y v=>[.own (aI 33 rh) v y]):=by
 induction n with
 | zero=>intros; rw [qf]; exact ⟨(cf fun _ _=>rfl),fun _ _ _ _ _ _ _ y hy=>nomatch (show none=some y from hy)⟩
 | succ n ih=>exact Um ih
theorem Uo {x0:aD} {aO aR aK aJ:Value} {x1:aD} {aT bC aQ aP:Value} {x2:(List Int)} {cL:Value} {x3:(List aN)} {eG:Value}:Ct Tryz.prog 177 true (eY 64 x0 x1 x2 x3) [.agg #[.int .i64 (x0.aA),aO,aR,aK,aJ],.agg #[.int .i64 (x1.aA),aT,bC,aQ,aP],cL,eG] [rI aO x0.aB,rI aR x0.To,rI aK x0.aF,rJ aJ x0.aC,rI aT x1.aB,rI bC x1.To,rI aQ x1.aF,rJ aP x1.aC,rI cL x2,.own (aI 33 rh) eG x3] (fun y (v:Value)=>[v]) (fun y v=>[.own (aI 33 rh) v y]):=by
 exact Un 64
theorem Up {x0:aD} {aO aR aK aJ:Value} {x1:aD} {aT bC aQ aP:Value}:Ct Tryz.prog 102 true (gX x0 x1) [.agg #[.int .i64 (x0.aA),aO,aR,aK,aJ],.agg #[.int .i64 (x1.aA),aT,bC,aQ,aP]] [rI aO x0.aB,rI aR x0.To,rI aK x0.aF,rJ aJ x0.aC,rI aT x1.aB,rI bC x1.To,rI aQ x1.aF,rJ aP x1.aC] (fun y (v:Value)=>[v]) (fun y v=>[.own (aI 33 rh) v y]):=by
 refine ct (S:=Unit) (cf fun _ _=>rfl) Tryz.func102 rfl rfl ?_
 repeat' first
  | (apply Dk.fe; repeat' first | exact rfl | (refine @id.{0} _ ?_; constructor))
  | intro _
  | exact rfl
  | apply Dk.We (t:=72) rh
  | (refine @id.{0} _ ?_; constructor)
  | apply Uo
  | exact ()
theorem afd {x0:aD} {aO aR aK aJ:Value} {x1:aD} {aT bC aQ aP:Value}:Ct Tryz.prog 102 false (gX x0 x1) [.agg #[.int .i64 (x0.aA),aO,aR,aK,aJ],.agg #[.int .i64 (x1.aA),aT,bC,aQ,aP]] [rI aO x0.aB,rI aR x0.To,rI aK x0.aF,rJ aJ x0.aC,rI aT x1.aB,rI bC x1.To,rI aQ x1.aF,rJ aP x1.aC] (fun y (v:Value)=>[v]) (fun y v=>[.rd false (bE (pU C3)) v y]):=by
 refine ct (S:=Unit) Hk Tryz.func102 rfl rfl ?_
 repeat' first
  | (apply Dk.fe; repeat' first | exact rfl | (refine @id.{0} _ ?_; constructor))
  | intro _
  | exact rfl
  | apply Dk.We (t:=72) rh
  | (refine @id.{0} _ ?_; constructor)
  | apply Uo
  | exact ()
theorem aaD {x0:aD} {aO aR aK aJ:Value} {x1:aD} {aT bC aQ aP:Value} {x2:Int}:Ct Tryz.prog 161 true (gE x0 x1 x2) [.agg #[.int .i64 (x0.aA),aO,aR,aK,aJ],.agg #[.int .i64 (x1.aA),aT,bC,aQ,aP],.int .i64 (x2)] [rI aO x0.aB,rI aR x0.To,rI aK x0.aF,rJ aJ x0.aC,rI aT x1.aB,rI bC x1.To,rI aQ x1.aF,rJ aP x1.aC] (fun y (v:Value×Value×Value×Value×Value×Value×Value×Value×Value×Value)=>[.agg #[.int .i64 y.aG.aA,v.1,v.2.1,v.2.2.1,v.2.2.2.1,.int .i64 y.aH.aA,v.2.2.2.2.1,v.2.2.2.2.2.1,v.2.2.2.2.2.2.1,v.2.2.2.2.2.2.2.1,v.2.2.2.2.2.2.2.2.1,v.2.2.2.2.2.2.2.2.2]]) (fun y v=>[.own (aI 2 (aL .i64)) v.1 y.aG.aB,.own (aI 2 (aL .i64)) v.2.1 y.aG.To,.own (aI 2 (aL .i64)) v.2.2.1 y.aG.aF,.own (aI 22 (aI 2 (aL .i64))) v.2.2.2.1 y.aG.aC,.own (aI 2 (aL .i64)) v.2.2.2.2.1 y.aH.aB,.own (aI 2 (aL .i64)) v.2.2.2.2.2.1 y.aH.To,.own (aI 2 (aL .i64)) v.2.2.2.2.2.2.1 y.aH.aF,.own (aI 22 (aI 2 (aL .i64))) v.2.2.2.2.2.2.2.1 y.aH.aC,.own (aI 2 (aL .i64)) v.2.2.2.2.2.2.2.2.1 y.aA,.own (aI 2 (aL .i64)) v.2.2.2.2.2.2.2.2.2 y.ae]):=by
 refine ct (S:=Unit) (cf fun _ _=>rfl) Tryz.func161 rfl rfl ?_
 repeat' first
  | (apply Dk.fe; repeat' first | exact rfl | (refine @id.{0} _ ?_; constructor))
  | intro _
  | exact rfl
  | (refine @id.{0} _ ?_; constructor)
  | apply Dk.loop 0 (V:=Value) (fun (s:(List Int)×Int) v=>[.own (aI 2 (aL .i64)) v s.1]) (fun s v=>[(7,v),(9,.int .i64 (s.2))]) _ [(2,_),(3,_),(4,_),(6,_),(8,_)]
  | apply Dk.loop 2 (V:=Value) (fun (s:(List Int)×Int) v=>[.own (aI 2 (aL .i64)) v s.1]) (fun s v=>[(8,v),(10,.int .i64 (s.2))]) _ [(2,_),(3,_),(4,_),(6,_),(7,_)]
  | apply Lr
  | exact ()
theorem c99 {x0:aN} {cG:Addr} {bF bK aY aU bG bL aZ aV bQ bS:Value} {x1:aN} {iM:Addr} {bT bY bN bH bU bZ bP bI cD cE:Value}:Ct Tryz.prog 99 true (iB x0 x1) [.pointer (some (cG)),.pointer (some (iM))] [.aw iM [.int .i64 (x1.aG.aA),bT,bY,bN,bH,.int .i64 (x1.aH.aA),bU,bZ,bP,bI,cD,cE],.aw cG [.int .i64 (x0.aG.aA),bF,bK,aY,aU,.int .i64 (x0.aH.aA),bG,bL,aZ,aV,bQ,bS],rI bF x0.aG.aB,rI bK x0.aG.To,rI aY x0.aG.aF,rJ aU x0.aG.aC,rI bG x0.aH.aB,rI bL x0.aH.To,rI aZ x0.aH.aF,rJ aV x0.aH.aC,rI bQ x0.aA,rI bS x0.ae,rI bT x1.aG.aB,rI bY x1.aG.To,rI bN x1.aG.aF,rJ bH x1.aG.aC,rI bU x1.aH.aB,rI bZ x1.aH.To,rI bP x1.aH.aF,rJ bI x1.aH.aC,rI cD x1.aA,rI cE x1.ae] (fun y (v:Value×Value×Value×Value×Value×Value×Value×Value×Value×Value)=>[.agg #[.int .i64 y.aG.aA,v.1,v.2.1,v.2.2.1,v.2.2.2.1,.int .i64 y.aH.aA,v.2.2.2.2.1,v.2.2.2.2.2.1,v.2.2.2.2.2.2.1,v.2.2.2.2.2.2.2.1,v.2.2.2.2.2.2.2.2.1,v.2.2.2.2.2.2.2.2.2]]) (fun y v=>[.own (aI 2 (aL .i64)) v.1 y.aG.aB,.own (aI 2 (aL .i64)) v.2.1 y.aG.To,.own (aI 2 (aL .i64)) v.2.2.1 y.aG.aF,.own (aI 22 (aI 2 (aL .i64))) v.2.2.2.1 y.aG.aC,.own (aI 2 (aL .i64)) v.2.2.2.2.1 y.aH.aB,.own (aI 2 (aL .i64)) v.2.2.2.2.2.1 y.aH.To,.own (aI 2 (aL .i64)) v.2.2.2.2.2.2.1 y.aH.aF,.own (aI 22 (aI 2 (aL .i64))) v.2.2.2.2.2.2.2.1 y.aH.aC,.own (aI 2 (aL .i64)) v.2.2.2.2.2.2.2.2.1 y.aA,.own (aI 2 (aL .i64)) v.2.2.2.2.2.2.2.2.2 y.ae]):=by
 refine ct (S:=Unit) (cf fun _ _=>rfl) Tryz.func99 rfl rfl ?_
 repeat' first
  | (apply Dk.fe; repeat' first | exact rfl | (refine @id.{0} _ ?_; constructor))
  | intro _
  | exact rfl
  | (refine @id.{0} _ ?_; constructor)
  | apply Dk.any (id:=1) 24 [] [] [[],[0],[0,1],[],[3],[3,4],[],[6],[6,7],[6,7,8],[],[10],[10,11],[10,11,12],[6,7,8,9,10,11,12,13],[],[15],[15,16],[15,16,17],[],[19],[19,20],[19,20,21],[6,7,8,9,10,11,12,13,14,15,16,17,18,19,20,21,22]] (by kernel_rfl)
  | apply aap
  | apply Ia
  | exact ()
end Go.Proofs.YtcnehblmgfbfoaaGreat
