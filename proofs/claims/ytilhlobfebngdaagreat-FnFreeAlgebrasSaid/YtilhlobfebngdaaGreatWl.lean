/- Walks by the calculus D. No condition beside those that each theorem names. -/
import Derived.Test.YtilhlobfebngdaaGreatDp
import Derived.Test.YtilhlobfebngdaaGreatDi
import Derived.Test.YtilhlobfebngdaaGreatMo
import Derived.Test.YtilhlobfebngdaaGreatDs
import Derived.Test.YtilhlobfebngdaaGreatWb
import Derived.Test.YtilhlobfebngdaaGreatWc
import Derived.Test.YtilhlobfebngdaaGreatWi
import Derived.Test.YtilhlobfebngdaaGreatWj
import Derived.Test.YtilhlobfebngdaaGreatWk
namespace Go.Proofs.YtilhlobfebngdaaGreat
open Go Go.Li Go.Dk
set_option linter.unusedVariables false
set_option maxHeartbeats 16000000
set_option maxRecDepth 100000
theorem c17 {x0:bV} {bB bF aT aR bC bG aU aS bN bP cB cD:Value} {x1:Int} {x2:Int} {x3:Int} {x4:Int}:Ct Tryz.prog 17 true (gH x0 x1 x2 x3 x4) [.agg #[.int .i64 (x0.On.aB.aA),bB,bF,aT,aR,.int .i64 (x0.On.aH.aA),bC,bG,aU,aS,bN,bP,cB,cD],.int .i64 (x1),.int .i64 (x2),.int .i64 (x3),.int .i64 (x4)] [rI bB x0.On.aB.aG,rI bF x0.On.aB.To,rI aT x0.On.aB.aJ,rJ aR x0.On.aB.aE,rI bC x0.On.aH.aG,rI bG x0.On.aH.To,rI aU x0.On.aH.aJ,rJ aS x0.On.aH.aE,rI bN x0.On.aA,rI bP x0.On.ab,rI cB x0.Unit,rI cD x0.bz] (fun y (_:Unit)=>[.int .i64 y.1,.int .i64 y.2]) (fun y _=>[]):=by
 refine ct (S:=Unit) (b9 fun _ _=>rfl) Tryz.func17 rfl rfl ?_
 repeat' first
  | (apply Dk.fe; repeat' first | exact rfl | (refine @id.{0} _ ?_; constructor))
  | intro _
  | exact rfl
  | (refine @id.{0} _ ?_; constructor)
  | apply TP
  | apply YH
  | apply TL
  | apply TM
  | apply Kg
  | exact ()
theorem c19 {x0:bV} {bB bF aT aR bC bG aU aS bN bP cB cD:Value} {x1:Int}:Ct Tryz.prog 19 true (mO x0 x1) [.agg #[.int .i64 (x0.On.aB.aA),bB,bF,aT,aR,.int .i64 (x0.On.aH.aA),bC,bG,aU,aS,bN,bP,cB,cD],.int .i64 (x1)] [rI bB x0.On.aB.aG,rI bF x0.On.aB.To,rI aT x0.On.aB.aJ,rJ aR x0.On.aB.aE,rI bC x0.On.aH.aG,rI bG x0.On.aH.To,rI aU x0.On.aH.aJ,rJ aS x0.On.aH.aE,rI bN x0.On.aA,rI bP x0.On.ab,rI cB x0.Unit,rI cD x0.bz] (fun y (_:Unit)=>[.int .i64 y.1,.int .i64 y.2.1,.int .i64 y.2.2]) (fun y _=>[]):=by
 refine ct (S:=Unit) (b9 fun _ _=>rfl) Tryz.func19 rfl rfl ?_
 repeat' first
  | (apply Dk.fe; repeat' first | exact rfl | (refine @id.{0} _ ?_; constructor))
  | intro _
  | exact rfl
  | (refine @id.{0} _ ?_; constructor)
  | apply Dk.quiet (id:=5) (by kernel_rfl)
  | apply TP
  | apply c51
  | exact ()
theorem c21 {x0:bV} {bB bF aT aR bC bG aU aS bN bP cB cD:Value} {x1:Int} {x2:Int}:Ct Tryz.prog 21 true (oI x0 x1 x2) [.agg #[.int .i64 (x0.On.aB.aA),bB,bF,aT,aR,.int .i64 (x0.On.aH.aA),bC,bG,aU,aS,bN,bP,cB,cD],.int .i64 (x1),.int .i64 (x2)] [rI bB x0.On.aB.aG,rI bF x0.On.aB.To,rI aT x0.On.aB.aJ,rJ aR x0.On.aB.aE,rI bC x0.On.aH.aG,rI bG x0.On.aH.To,rI aU x0.On.aH.aJ,rJ aS x0.On.aH.aE,rI bN x0.On.aA,rI bP x0.On.ab,rI cB x0.Unit,rI cD x0.bz] (fun y (_:Unit)=>[.bool y.1,.int .i64 y.2]) (fun y _=>[]):=by
 refine ct (S:=Unit) (b9 fun _ _=>rfl) Tryz.func21 rfl rfl ?_
 repeat' first
  | (apply Dk.fe; repeat' first | exact rfl | (refine @id.{0} _ ?_; constructor))
  | intro _
  | exact rfl
  | (refine @id.{0} _ ?_; constructor)
  | apply TP
  | apply YH
  | exact ()
theorem c22 {x0:bV} {bB bF aT aR bC bG aU aS bN bP cB cD:Value} {x1:Int} {x2:Int} {x3:Int} {x4:Int}:Ct Tryz.prog 22 true (mQ x0 x1 x2 x3 x4) [.agg #[.int .i64 (x0.On.aB.aA),bB,bF,aT,aR,.int .i64 (x0.On.aH.aA),bC,bG,aU,aS,bN,bP,cB,cD],.int .i64 (x1),.int .i64 (x2),.int .i64 (x3),.int .i64 (x4)] [rI bB x0.On.aB.aG,rI bF x0.On.aB.To,rI aT x0.On.aB.aJ,rJ aR x0.On.aB.aE,rI bC x0.On.aH.aG,rI bG x0.On.aH.To,rI aU x0.On.aH.aJ,rJ aS x0.On.aH.aE,rI bN x0.On.aA,rI bP x0.On.ab,rI cB x0.Unit,rI cD x0.bz] (fun y (v:Value)=>[v,.int .i64 y.2]) (fun y v=>[.own (aL 2 (aN .i64)) v y.1]):=by
 refine ct (S:=Unit) (b9 fun _ _=>rfl) Tryz.func22 rfl rfl ?_
 repeat' first
  | (apply Dk.fe; repeat' first | exact rfl | (refine @id.{0} _ ?_; constructor))
  | intro _
  | exact rfl
  | (refine @id.{0} _ ?_; constructor)
  | apply TP
  | apply YH
  | apply c52
  | exact ()
theorem c4 {x0:(List Int)} {cX:Value}:Ct Tryz.prog 4 true (lA x0) [cX] [.rd false (bH (aN .u8)) cX x0] (fun y (_:Unit)=>[.bool y]) (fun y _=>[]):=by
 refine ct (S:=Unit) (b9 fun _ _=>rfl) Tryz.func4 rfl rfl ?_
 repeat' first
  | (apply Dk.fe; repeat' first | exact rfl | (refine @id.{0} _ ?_; constructor))
  | intro _
  | exact rfl
  | (refine @id.{0} _ ?_; constructor)
  | apply Dk.quiet (id:=18) (by kernel_rfl)
  | apply c5
  | apply c16
  | apply c17
  | apply c18
  | apply c19
  | apply c20
  | apply c21
  | apply c22
  | apply c23
  | apply c24
  | apply c15
  | apply c25
  | exact ()
theorem tC {w:World} {x0:(List Int)} {cX:Value} {af5:List Nat} (af6:(bH (aN .u8)).rep w.heap [cX] x0 af5) {y:(Bool)} (hm:lA x0=some y):Calls Tryz.prog 4 #[cX] w (fun e w'=>e = .returned (.bool y)∧ay [] w w'):=
 Uo c4 (.fact (Up af6) (.nil)) hm
end Go.Proofs.YtilhlobfebngdaaGreat
