/- Walks by the calculus D. No condition beside those that each theorem names. -/
import Derived.Test.YtilhlobfebngdaaGreatDp
import Derived.Test.YtilhlobfebngdaaGreatDi
import Derived.Test.YtilhlobfebngdaaGreatMo
import Derived.Test.YtilhlobfebngdaaGreatDs
import Derived.Test.YtilhlobfebngdaaGreatWa
import Derived.Test.YtilhlobfebngdaaGreatWb
import Derived.Test.YtilhlobfebngdaaGreatWc
import Derived.Test.YtilhlobfebngdaaGreatWd
import Derived.Test.YtilhlobfebngdaaGreatWe
import Derived.Test.YtilhlobfebngdaaGreatWf
import Derived.Test.YtilhlobfebngdaaGreatWg
import Derived.Test.YtilhlobfebngdaaGreatWh
import Derived.Test.YtilhlobfebngdaaGreatWu
import Derived.Test.YtilhlobfebngdaaGreatWz
namespace Go.Proofs.YtilhlobfebngdaaGreat
open Go Go.Li Go.Dk
set_option linter.unusedVariables false
set_option maxHeartbeats 16000000
set_option maxRecDepth 100000
theorem TO {x0:bV} {bB bF aT aR bC bG aU aS bN bP cB cD:Value}:Ct Tryz.prog 29 true (mH x0) [.agg #[.int .i64 (x0.On.aB.aA),bB,bF,aT,aR,.int .i64 (x0.On.aH.aA),bC,bG,aU,aS,bN,bP,cB,cD]] [rI bB x0.On.aB.aG,rI bF x0.On.aB.To,rI aT x0.On.aB.aJ,rJ aR x0.On.aB.aE,rI bC x0.On.aH.aG,rI bG x0.On.aH.To,rI aU x0.On.aH.aJ,rJ aS x0.On.aH.aE,rI bN x0.On.aA,rI bP x0.On.ab,rI cB x0.Unit,rI cD x0.bz] (fun y (_:Unit)=>[.bool y]) (fun y _=>[]):=by
 refine ct (S:=Unit) (b9 fun _ _=>rfl) Tryz.func29 rfl rfl ?_
 repeat' first
  | (apply Dk.fe; repeat' first | exact rfl | (refine @id.{0} _ ?_; constructor))
  | intro _
  | exact rfl
  | (refine @id.{0} _ ?_; constructor)
  | apply Dk.acf (id:=4) 8 25 [[],[],[],[],[],[],[],[],[],[],[],[],[],[],[],[],[]] [[],[0],[0,1],[],[],[4],[0,1,2,3,4,5],[0,1,2,3,4,5,6],[0,1,2,3,4,5,6,7],[0,1,2,3,4,5,6,7,8],[0,1,2,3,4,5,6,7,8,9],[0,1,2,3,4,5,6,7,8],[0,1,2,3,4,5,6,7,8],[0,1,2,3,4,5,6,7,8,12],[0,1,2,3,4,5,6,7,8,9,10,11,12,13],[0,1,2,3,4,5,6,7,8,9,10,11,12,13,14],[0,1,2,3,4,5,6,7,8,9,10,11,12,13,14,15]] (by kernel_rfl)
  | apply c59
  | apply c60
  | apply Pt
  | apply c61
  | apply c63
  | apply c64
  | exact ()
theorem c43 {x0:aK} {dG:Nat} {cC:Value} {x1:bV} {rN sY oJ nH rO sZ oL nI tM tP uR uS:Value}:Ct Tryz.prog 43 true (pF x0 x1) [.pointer (some (⟨dG,0,none⟩)),.agg #[.int .i64 (x1.On.aB.aA),rN,sY,oJ,nH,.int .i64 (x1.On.aH.aA),rO,sZ,oL,nI,tM,tP,uR,uS]] [.row dG [cC,.int .i64 (x0.At),.int .u64 (x0.av)] 91,.rd false (bH (aN .u8)) cC x0.Code,rI rN x1.On.aB.aG,rI sY x1.On.aB.To,rI oJ x1.On.aB.aJ,rJ nH x1.On.aB.aE,rI rO x1.On.aH.aG,rI sZ x1.On.aH.To,rI oL x1.On.aH.aJ,rJ nI x1.On.aH.aE,rI tM x1.On.aA,rI tP x1.On.ab,rI uR x1.Unit,rI uS x1.bz] (fun y (_:Unit)=>[.int .i64 y.1,.int .i64 y.2.1]) (fun y _=>[.row dG [cC,.int .i64 y.2.2.At,.int .u64 y.2.2.av] 91]):=by
 refine ct (S:=Unit) (b9 fun _ _=>rfl) Tryz.func43 rfl rfl ?_
 repeat' first
  | (apply Dk.fe; repeat' first | exact rfl | (refine @id.{0} _ ?_; constructor))
  | intro _
  | exact rfl
  | (apply Dk.Lp (t:=18); exact rfl)
  | (refine @id.{0} _ ?_; constructor)
  | apply Dk.quiet (id:=6) (by kernel_rfl)
  | apply Dk.wK (id:=7) [Dk.aX.row _ _ 91] 8 [] [[],[],[],[11],[],[],[],[]] [[],[],[1],[0,1,2],[],[],[5],[5,6]] (by kernel_rfl)
  | apply TO
  | apply zu
  | apply c76
  | apply YS
  | exact ()
theorem c16 {x0:(List Int)} {cX:Value}:Ct Tryz.prog 16 false (jC x0) [cX] [.rd false (bH (aN .u8)) cX x0] (fun y (v:Value×Value×Value×Value×Value×Value×Value×Value×Value×Value×Value×Value)=>[.agg #[.int .i64 y.1.On.aB.aA,v.1,v.2.1,v.2.2.1,v.2.2.2.1,.int .i64 y.1.On.aH.aA,v.2.2.2.2.1,v.2.2.2.2.2.1,v.2.2.2.2.2.2.1,v.2.2.2.2.2.2.2.1,v.2.2.2.2.2.2.2.2.1,v.2.2.2.2.2.2.2.2.2.1,v.2.2.2.2.2.2.2.2.2.2.1,v.2.2.2.2.2.2.2.2.2.2.2],.int .i64 y.2.1,.int .i64 y.2.2.1,.int .i64 y.2.2.2.1,.int .i64 y.2.2.2.2]) (fun y v=>[rI v.1 y.1.On.aB.aG,rI v.2.1 y.1.On.aB.To,rI v.2.2.1 y.1.On.aB.aJ,rJ v.2.2.2.1 y.1.On.aB.aE,rI v.2.2.2.2.1 y.1.On.aH.aG,rI v.2.2.2.2.2.1 y.1.On.aH.To,rI v.2.2.2.2.2.2.1 y.1.On.aH.aJ,rJ v.2.2.2.2.2.2.2.1 y.1.On.aH.aE,rI v.2.2.2.2.2.2.2.2.1 y.1.On.aA,rI v.2.2.2.2.2.2.2.2.2.1 y.1.On.ab,rI v.2.2.2.2.2.2.2.2.2.2.1 y.1.Unit,rI v.2.2.2.2.2.2.2.2.2.2.2 y.1.bz]):=by
 refine ct (S:=Unit) B6 Tryz.func16 rfl rfl ?_
 repeat' first
  | (apply Dk.fe; repeat' first | exact rfl | (refine @id.{0} _ ?_; constructor))
  | intro _
  | exact rfl
  | (apply Dk.Lp (t:=49); exact rfl)
  | (refine @id.{0} _ ?_; constructor)
  | apply Dk.loop 0 (V:=Value) (fun (s:(List Int)×Int) v=>[.own (aL 2 (aN .i64)) v s.1]) (fun s v=>[(14,v),(15,.int .i64 (s.2))]) _ [(2,_),(7,_),(8,_),(9,_),(10,_),(11,_)]
  | apply Dk.wK (id:=5) [Dk.aX.row _ _ 91] 8 [] [[],[],[],[11],[],[],[],[]] [[],[],[1],[0,1,2],[],[],[5],[5,6]] (by kernel_rfl)
  | apply c26
  | apply c27
  | apply c43
  | apply YS
  | apply TO
  | apply YF
  | apply zu
  | apply D9
  | exact ()
theorem c48 {x0:bV} {bB bF aT aR bC bG aU aS bN bP cB cD:Value} {x1:Int} {x2:Int}:Ct Tryz.prog 48 true (jI x0 x1 x2) [.agg #[.int .i64 (x0.On.aB.aA),bB,bF,aT,aR,.int .i64 (x0.On.aH.aA),bC,bG,aU,aS,bN,bP,cB,cD],.int .i64 (x1),.int .i64 (x2)] [rI bB x0.On.aB.aG,rI bF x0.On.aB.To,rI aT x0.On.aB.aJ,rJ aR x0.On.aB.aE,rI bC x0.On.aH.aG,rI bG x0.On.aH.To,rI aU x0.On.aH.aJ,rJ aS x0.On.aH.aE,rI bN x0.On.aA,rI bP x0.On.ab,rI cB x0.Unit,rI cD x0.bz] (fun y (_:Unit)=>[.int .i64 y]) (fun y _=>[]):=by
 refine ct (S:=Unit) (b9 fun _ _=>rfl) Tryz.func48 rfl rfl ?_
 repeat' first
  | (apply Dk.fe; repeat' first | exact rfl | (refine @id.{0} _ ?_; constructor))
  | intro _
  | exact rfl
  | (refine @id.{0} _ ?_; constructor)
  | apply TO
  | apply YF
  | apply c39
  | exact ()
theorem c18 {x0:bV} {bB bF aT aR bC bG aU aS bN bP cB cD:Value} {x1:Int} {x2:Int} {x3:Int} {x4:Int}:Ct Tryz.prog 18 true (gI x0 x1 x2 x3 x4) [.agg #[.int .i64 (x0.On.aB.aA),bB,bF,aT,aR,.int .i64 (x0.On.aH.aA),bC,bG,aU,aS,bN,bP,cB,cD],.int .i64 (x1),.int .i64 (x2),.int .i64 (x3),.int .i64 (x4)] [rI bB x0.On.aB.aG,rI bF x0.On.aB.To,rI aT x0.On.aB.aJ,rJ aR x0.On.aB.aE,rI bC x0.On.aH.aG,rI bG x0.On.aH.To,rI aU x0.On.aH.aJ,rJ aS x0.On.aH.aE,rI bN x0.On.aA,rI bP x0.On.ab,rI cB x0.Unit,rI cD x0.bz] (fun y (_:Unit)=>[.int .i64 y.1,.int .i64 y.2]) (fun y _=>[]):=by
 refine ct (S:=Unit) (b9 fun _ _=>rfl) Tryz.func18 rfl rfl ?_
 repeat' first
  | (apply Dk.fe; repeat' first | exact rfl | (refine @id.{0} _ ?_; constructor))
  | intro _
  | exact rfl
  | (refine @id.{0} _ ?_; constructor)
  | apply Dk.quiet (id:=9) (by kernel_rfl)
  | apply c48
  | apply YE
  | apply Hu
  | exact ()
theorem c20 {x0:bV} {bB bF aT aR bC bG aU aS bN bP cB cD:Value} {x1:Int}:Ct Tryz.prog 20 true (mP x0 x1) [.agg #[.int .i64 (x0.On.aB.aA),bB,bF,aT,aR,.int .i64 (x0.On.aH.aA),bC,bG,aU,aS,bN,bP,cB,cD],.int .i64 (x1)] [rI bB x0.On.aB.aG,rI bF x0.On.aB.To,rI aT x0.On.aB.aJ,rJ aR x0.On.aB.aE,rI bC x0.On.aH.aG,rI bG x0.On.aH.To,rI aU x0.On.aH.aJ,rJ aS x0.On.aH.aE,rI bN x0.On.aA,rI bP x0.On.ab,rI cB x0.Unit,rI cD x0.bz] (fun y (_:Unit)=>[.int .i64 y.1,.int .i64 y.2.1,.int .i64 y.2.2]) (fun y _=>[]):=by
 refine ct (S:=Unit) (b9 fun _ _=>rfl) Tryz.func20 rfl rfl ?_
 repeat' first
  | (apply Dk.fe; repeat' first | exact rfl | (refine @id.{0} _ ?_; constructor))
  | intro _
  | exact rfl
  | (refine @id.{0} _ ?_; constructor)
  | apply Dk.quiet (id:=5) (by kernel_rfl)
  | apply TO
  | apply YF
  | exact ()
theorem c23 {x0:bV} {bB bF aT aR bC bG aU aS bN bP cB cD:Value} {x1:Int} {x2:Int} {x3:Int} {x4:Int}:Ct Tryz.prog 23 true (mR x0 x1 x2 x3 x4) [.agg #[.int .i64 (x0.On.aB.aA),bB,bF,aT,aR,.int .i64 (x0.On.aH.aA),bC,bG,aU,aS,bN,bP,cB,cD],.int .i64 (x1),.int .i64 (x2),.int .i64 (x3),.int .i64 (x4)] [rI bB x0.On.aB.aG,rI bF x0.On.aB.To,rI aT x0.On.aB.aJ,rJ aR x0.On.aB.aE,rI bC x0.On.aH.aG,rI bG x0.On.aH.To,rI aU x0.On.aH.aJ,rJ aS x0.On.aH.aE,rI bN x0.On.aA,rI bP x0.On.ab,rI cB x0.Unit,rI cD x0.bz] (fun y (v:Value)=>[v,.int .i64 y.2]) (fun y v=>[.own (aL 2 (aN .i64)) v y.1]):=by
 refine ct (S:=Unit) (b9 fun _ _=>rfl) Tryz.func23 rfl rfl ?_
 repeat' first
  | (apply Dk.fe; repeat' first | exact rfl | (refine @id.{0} _ ?_; constructor))
  | intro _
  | exact rfl
  | (refine @id.{0} _ ?_; constructor)
  | apply c48
  | apply YE
  | apply c53
  | exact ()
end Go.Proofs.YtilhlobfebngdaaGreat
