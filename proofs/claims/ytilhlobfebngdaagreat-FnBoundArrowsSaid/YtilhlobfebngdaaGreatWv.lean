/- Walks by the calculus D. No condition beside those that each theorem names. -/
import Derived.Test.YtilhlobfebngdaaGreatDp
import Derived.Test.YtilhlobfebngdaaGreatDi
import Derived.Test.YtilhlobfebngdaaGreatMo
import Derived.Test.YtilhlobfebngdaaGreatDs
import Derived.Test.YtilhlobfebngdaaGreatWa
import Derived.Test.YtilhlobfebngdaaGreatWc
import Derived.Test.YtilhlobfebngdaaGreatWe
import Derived.Test.YtilhlobfebngdaaGreatWw
import Derived.Test.YtilhlobfebngdaaGreatWx
import Derived.Test.YtilhlobfebngdaaGreatWz
namespace Go.Proofs.YtilhlobfebngdaaGreat
open Go Go.Li Go.Dk
set_option linter.unusedVariables false
set_option maxHeartbeats 16000000
set_option maxRecDepth 100000
theorem c82 {x0:cV} {iG jB fY fN iI jC fZ fO kI lM gZ iY fS fF hY iZ fT fG jY kK cG pV:Value}:Ct Tryz.prog 82 true (kO x0) [.agg #[.int .i64 (x0.Left.aB.aA),iG,jB,fY,fN,.int .i64 (x0.Left.aG.aA),iI,jC,fZ,fO,kI,lM,.int .i64 (x0.bw.aB.aA),gZ,iY,fS,fF,.int .i64 (x0.bw.aG.aA),hY,iZ,fT,fG,jY,kK,cG,pV]] [rI iG x0.Left.aB.aE,rI jB x0.Left.aB.To,rI fY x0.Left.aB.aH,rJ fN x0.Left.aB.aC,rI iI x0.Left.aG.aE,rI jC x0.Left.aG.To,rI fZ x0.Left.aG.aH,rJ fO x0.Left.aG.aC,rI kI x0.Left.aA,rI lM x0.Left.ab,rI gZ x0.bw.aB.aE,rI iY x0.bw.aB.To,rI fS x0.bw.aB.aH,rJ fF x0.bw.aB.aC,rI hY x0.bw.aG.aE,rI iZ x0.bw.aG.To,rI fT x0.bw.aG.aH,rJ fG x0.bw.aG.aC,rI jY x0.bw.aA,rI kK x0.bw.ab,rI cG x0.Unit,rI pV x0.pr] (fun y (v:Value×Value×Value×Value×Value×Value×Value×Value×Value×Value×Value×Value)=>[.agg #[.int .i64 y.On.aB.aA,v.1,v.2.1,v.2.2.1,v.2.2.2.1,.int .i64 y.On.aG.aA,v.2.2.2.2.1,v.2.2.2.2.2.1,v.2.2.2.2.2.2.1,v.2.2.2.2.2.2.2.1,v.2.2.2.2.2.2.2.2.1,v.2.2.2.2.2.2.2.2.2.1,v.2.2.2.2.2.2.2.2.2.2.1,v.2.2.2.2.2.2.2.2.2.2.2]]) (fun y v=>[.own (aI 2 (aL .i64)) v.1 y.On.aB.aE,.own (aI 2 (aL .i64)) v.2.1 y.On.aB.To,.own (aI 2 (aL .i64)) v.2.2.1 y.On.aB.aH,.own (aI 24 (aI 2 (aL .i64))) v.2.2.2.1 y.On.aB.aC,.own (aI 2 (aL .i64)) v.2.2.2.2.1 y.On.aG.aE,.own (aI 2 (aL .i64)) v.2.2.2.2.2.1 y.On.aG.To,.own (aI 2 (aL .i64)) v.2.2.2.2.2.2.1 y.On.aG.aH,.own (aI 24 (aI 2 (aL .i64))) v.2.2.2.2.2.2.2.1 y.On.aG.aC,.own (aI 2 (aL .i64)) v.2.2.2.2.2.2.2.2.1 y.On.aA,.own (aI 2 (aL .i64)) v.2.2.2.2.2.2.2.2.2.1 y.On.ab,.own (aI 2 (aL .i64)) v.2.2.2.2.2.2.2.2.2.2.1 y.Unit,.own (aI 2 (aL .i64)) v.2.2.2.2.2.2.2.2.2.2.2 y.cn]):=by
 refine ct (S:=Unit) (bu fun _ _=>rfl) Tryz.func82 rfl rfl ?_
 repeat' first
  | (apply Dk.fe; repeat' first | exact rfl | (refine @id.{0} _ ?_; constructor))
  | intro _
  | exact rfl
  | (refine @id.{0} _ ?_; constructor)
  | apply Dk.loop 0 (V:=Value) (fun (s:(List Int)×Int) v=>[.own (aI 2 (aL .i64)) v s.1]) (fun s v=>[(3,v),(4,.int .i64 (s.2))]) _ [(1,_),(2,_)]
  | apply Dk.any (id:=5) 17 [] [] [[],[],[1],[1,2],[],[4],[],[6],[6,7],[],[6,7,8,9],[6,7,8,9,10],[4,5,6,7,8,9,10,11],[4,5,6,7,8,9,10,11,12],[1,2,3,4,5,6,7,8,9,10,11,12,13],[1,2,3,4,5,6,7,8,9,10,11,12,13,14],[1,2,3,4,5,6,7,8,9,10,11,12,13,14,15]] (by kernel_rfl)
  | apply Dk.any (id:=6) 9 [] [] [[],[0],[],[2],[0,1,2,3],[],[5],[0,1,2,3,4,5,6],[]] (by kernel_rfl)
  | apply c91
  | apply xV
  | exact ()
theorem c56 {x0:aJ} {dG:Nat} {cB:Value}:Ct Tryz.prog 56 true (rP x0) [.pointer (some (⟨dG,0,none⟩))] [.row dG [cB,.int .i64 (x0.At),.int .u64 (x0.an)] 91,.rd false (bE (aL .u8)) cB x0.Code] (fun y (v:Value×Value×Value×Value×Value×Value×Value×Value×Value×Value×Value×Value)=>[.agg #[.int .i64 y.1.On.aB.aA,v.1,v.2.1,v.2.2.1,v.2.2.2.1,.int .i64 y.1.On.aG.aA,v.2.2.2.2.1,v.2.2.2.2.2.1,v.2.2.2.2.2.2.1,v.2.2.2.2.2.2.2.1,v.2.2.2.2.2.2.2.2.1,v.2.2.2.2.2.2.2.2.2.1,v.2.2.2.2.2.2.2.2.2.2.1,v.2.2.2.2.2.2.2.2.2.2.2]]) (fun y v=>[.own (aI 2 (aL .i64)) v.1 y.1.On.aB.aE,.own (aI 2 (aL .i64)) v.2.1 y.1.On.aB.To,.own (aI 2 (aL .i64)) v.2.2.1 y.1.On.aB.aH,.own (aI 24 (aI 2 (aL .i64))) v.2.2.2.1 y.1.On.aB.aC,.own (aI 2 (aL .i64)) v.2.2.2.2.1 y.1.On.aG.aE,.own (aI 2 (aL .i64)) v.2.2.2.2.2.1 y.1.On.aG.To,.own (aI 2 (aL .i64)) v.2.2.2.2.2.2.1 y.1.On.aG.aH,.own (aI 24 (aI 2 (aL .i64))) v.2.2.2.2.2.2.2.1 y.1.On.aG.aC,.own (aI 2 (aL .i64)) v.2.2.2.2.2.2.2.2.1 y.1.On.aA,.own (aI 2 (aL .i64)) v.2.2.2.2.2.2.2.2.2.1 y.1.On.ab,.own (aI 2 (aL .i64)) v.2.2.2.2.2.2.2.2.2.2.1 y.1.Unit,.own (aI 2 (aL .i64)) v.2.2.2.2.2.2.2.2.2.2.2 y.1.cn,.row dG [cB,.int .i64 y.2.At,.int .u64 y.2.an] 91]):=by
 refine ct (S:=Unit) (bu fun _ _=>rfl) Tryz.func56 rfl rfl ?_
 repeat' first
  | (apply Dk.fe; repeat' first | exact rfl | (refine @id.{0} _ ?_; constructor))
  | intro _
  | exact rfl
  | apply Dk.Vd (t:=116)
  | apply Dk.ixO (t:=116)
  | apply Dk.YK (n:=14)
  | apply Dk.Va (n:=14)
  | apply Dk.Sy (n:=14)
  | (refine @id.{0} _ ?_; constructor)
  | apply Bo
  | apply V6
  | apply c80
  | apply c81
  | apply c83
  | apply c82
  | exact ()
theorem c57 {x0:aJ} {dG:Nat} {cB:Value}:Ct Tryz.prog 57 false (rR x0) [.pointer (some (⟨dG,0,none⟩))] [.row dG [cB,.int .i64 (x0.At),.int .u64 (x0.an)] 91,.rd false (bE (aL .u8)) cB x0.Code] (fun y (v:Value×Value×Value×Value×Value×Value×Value×Value×Value×Value)=>[.agg #[.int .i64 y.1.aB.aA,v.1,v.2.1,v.2.2.1,v.2.2.2.1,.int .i64 y.1.aG.aA,v.2.2.2.2.1,v.2.2.2.2.2.1,v.2.2.2.2.2.2.1,v.2.2.2.2.2.2.2.1,v.2.2.2.2.2.2.2.2.1,v.2.2.2.2.2.2.2.2.2]]) (fun y v=>[rI v.1 y.1.aB.aE,rI v.2.1 y.1.aB.To,rI v.2.2.1 y.1.aB.aH,rJ v.2.2.2.1 y.1.aB.aC,rI v.2.2.2.2.1 y.1.aG.aE,rI v.2.2.2.2.2.1 y.1.aG.To,rI v.2.2.2.2.2.2.1 y.1.aG.aH,rJ v.2.2.2.2.2.2.2.1 y.1.aG.aC,rI v.2.2.2.2.2.2.2.2.1 y.1.aA,rI v.2.2.2.2.2.2.2.2.2 y.1.ab,.row dG [cB,.int .i64 y.2.At,.int .u64 y.2.an] 91]):=by
 refine ct (S:=Unit) C4 Tryz.func57 rfl rfl ?_
 repeat' first
  | (apply Dk.fe; repeat' first | exact rfl | (refine @id.{0} _ ?_; constructor))
  | (intro (v:Value×Value×Value×Value×Value×Value×Value×Value×Value×Value); obtain ⟨_,_,_,_,_,_,_,_,_,_⟩:=v; dsimp only)
  | intro _
  | exact rfl
  | (refine @id.{0} _ ?_; constructor)
  | apply Dk.xJ (id:=8) [Dk.av.row _ _ 91] 12 [] [[],[],[],[],[14],[],[],[],[],[],[],[4]] [[],[0],[],[],[2,3],[],[],[6],[6,7],[6,7,8],[6,7,8,9],[2,3,4,5,6,7,8,9,10]] (by kernel_rfl)
  | apply V6
  | apply c84
  | apply Bo
  | apply c85
  | exact ()
end Go.Proofs.YtilhlobfebngdaaGreat
