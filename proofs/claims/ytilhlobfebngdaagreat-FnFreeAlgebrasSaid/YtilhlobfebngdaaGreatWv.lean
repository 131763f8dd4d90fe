/- Walks by the calculus D. No condition beside those that each theorem names. -/
import Derived.Test.YtilhlobfebngdaaGreatDp
import Derived.Test.YtilhlobfebngdaaGreatDi
import Derived.Test.YtilhlobfebngdaaGreatMo
import Derived.Test.YtilhlobfebngdaaGreatDs
import Derived.Test.YtilhlobfebngdaaGreatWa
import Derived.Test.YtilhlobfebngdaaGreatWc
import Derived.Test.YtilhlobfebngdaaGreatWe
import Derived.Test.YtilhlobfebngdaaGreatWw
import Derived.Test.YtilhlobfebngdaaGreatWx
import Derived.Test.YtilhlobfebngdaaGreatWz
namespace Go.Proofs.YtilhlobfebngdaaGreat
open Go Go.Li Go.Dk
set_option linter.unusedVariables false
set_option maxHeartbeats 16000000
set_option maxRecDepth 100000
theorem c82 {x0:cU} {gW iN fV fL gX iO fW fM jR kW gU iJ fR fG gV iK fS fH jJ jS cB oZ:Value}:Ct Tryz.prog 82 true (jV x0) [.agg #[.int .i64 (x0.Left.aB.aA),gW,iN,fV,fL,.int .i64 (x0.Left.aH.aA),gX,iO,fW,fM,jR,kW,.int .i64 (x0.bu.aB.aA),gU,iJ,fR,fG,.int .i64 (x0.bu.aH.aA),gV,iK,fS,fH,jJ,jS,cB,oZ]] [rI gW x0.Left.aB.aG,rI iN x0.Left.aB.To,rI fV x0.Left.aB.aJ,rJ fL x0.Left.aB.aE,rI gX x0.Left.aH.aG,rI iO x0.Left.aH.To,rI fW x0.Left.aH.aJ,rJ fM x0.Left.aH.aE,rI jR x0.Left.aA,rI kW x0.Left.ab,rI gU x0.bu.aB.aG,rI iJ x0.bu.aB.To,rI fR x0.bu.aB.aJ,rJ fG x0.bu.aB.aE,rI gV x0.bu.aH.aG,rI iK x0.bu.aH.To,rI fS x0.bu.aH.aJ,rJ fH x0.bu.aH.aE,rI jJ x0.bu.aA,rI jS x0.bu.ab,rI cB x0.Unit,rI oZ x0.l9] (fun y (v:Value×Value×Value×Value×Value×Value×Value×Value×Value×Value×Value×Value)=>[.agg #[.int .i64 y.On.aB.aA,v.1,v.2.1,v.2.2.1,v.2.2.2.1,.int .i64 y.On.aH.aA,v.2.2.2.2.1,v.2.2.2.2.2.1,v.2.2.2.2.2.2.1,v.2.2.2.2.2.2.2.1,v.2.2.2.2.2.2.2.2.1,v.2.2.2.2.2.2.2.2.2.1,v.2.2.2.2.2.2.2.2.2.2.1,v.2.2.2.2.2.2.2.2.2.2.2]]) (fun y v=>[.own (aL 2 (aN .i64)) v.1 y.On.aB.aG,.own (aL 2 (aN .i64)) v.2.1 y.On.aB.To,.own (aL 2 (aN .i64)) v.2.2.1 y.On.aB.aJ,.own (aL 24 (aL 2 (aN .i64))) v.2.2.2.1 y.On.aB.aE,.own (aL 2 (aN .i64)) v.2.2.2.2.1 y.On.aH.aG,.own (aL 2 (aN .i64)) v.2.2.2.2.2.1 y.On.aH.To,.own (aL 2 (aN .i64)) v.2.2.2.2.2.2.1 y.On.aH.aJ,.own (aL 24 (aL 2 (aN .i64))) v.2.2.2.2.2.2.2.1 y.On.aH.aE,.own (aL 2 (aN .i64)) v.2.2.2.2.2.2.2.2.1 y.On.aA,.own (aL 2 (aN .i64)) v.2.2.2.2.2.2.2.2.2.1 y.On.ab,.own (aL 2 (aN .i64)) v.2.2.2.2.2.2.2.2.2.2.1 y.Unit,.own (aL 2 (aN .i64)) v.2.2.2.2.2.2.2.2.2.2.2 y.bz]):=by
 refine ct (S:=Unit) (b9 fun _ _=>rfl) Tryz.func82 rfl rfl ?_
 repeat' first
  | (apply Dk.fe; repeat' first | exact rfl | (refine @id.{0} _ ?_; constructor))
  | intro _
  | exact rfl
  | (refine @id.{0} _ ?_; constructor)
  | apply Dk.loop 0 (V:=Value) (fun (s:(List Int)×Int) v=>[.own (aL 2 (aN .i64)) v s.1]) (fun s v=>[(3,v),(4,.int .i64 (s.2))]) _ [(1,_),(2,_)]
  | apply Dk.any (id:=5) 17 [] [] [[],[],[1],[1,2],[],[4],[],[6],[6,7],[],[6,7,8,9],[6,7,8,9,10],[4,5,6,7,8,9,10,11],[4,5,6,7,8,9,10,11,12],[1,2,3,4,5,6,7,8,9,10,11,12,13],[1,2,3,4,5,6,7,8,9,10,11,12,13,14],[1,2,3,4,5,6,7,8,9,10,11,12,13,14,15]] (by kernel_rfl)
  | apply Dk.any (id:=6) 9 [] [] [[],[0],[],[2],[0,1,2,3],[],[5],[0,1,2,3,4,5,6],[]] (by kernel_rfl)
  | apply c91
  | apply wW
  | exact ()
theorem c56 {x0:aK} {dG:Nat} {cC:Value}:Ct Tryz.prog 56 true (qT x0) [.pointer (some (⟨dG,0,none⟩))] [.row dG [cC,.int .i64 (x0.At),.int .u64 (x0.av)] 91,.rd false (bH (aN .u8)) cC x0.Code] (fun y (v:Value×Value×Value×Value×Value×Value×Value×Value×Value×Value×Value×Value)=>[.agg #[.int .i64 y.1.On.aB.aA,v.1,v.2.1,v.2.2.1,v.2.2.2.1,.int .i64 y.1.On.aH.aA,v.2.2.2.2.1,v.2.2.2.2.2.1,v.2.2.2.2.2.2.1,v.2.2.2.2.2.2.2.1,v.2.2.2.2.2.2.2.2.1,v.2.2.2.2.2.2.2.2.2.1,v.2.2.2.2.2.2.2.2.2.2.1,v.2.2.2.2.2.2.2.2.2.2.2]]) (fun y v=>[.own (aL 2 (aN .i64)) v.1 y.1.On.aB.aG,.own (aL 2 (aN .i64)) v.2.1 y.1.On.aB.To,.own (aL 2 (aN .i64)) v.2.2.1 y.1.On.aB.aJ,.own (aL 24 (aL 2 (aN .i64))) v.2.2.2.1 y.1.On.aB.aE,.own (aL 2 (aN .i64)) v.2.2.2.2.1 y.1.On.aH.aG,.own (aL 2 (aN .i64)) v.2.2.2.2.2.1 y.1.On.aH.To,.own (aL 2 (aN .i64)) v.2.2.2.2.2.2.1 y.1.On.aH.aJ,.own (aL 24 (aL 2 (aN .i64))) v.2.2.2.2.2.2.2.1 y.1.On.aH.aE,.own (aL 2 (aN .i64)) v.2.2.2.2.2.2.2.2.1 y.1.On.aA,.own (aL 2 (aN .i64)) v.2.2.2.2.2.2.2.2.2.1 y.1.On.ab,.own (aL 2 (aN .i64)) v.2.2.2.2.2.2.2.2.2.2.1 y.1.Unit,.own (aL 2 (aN .i64)) v.2.2.2.2.2.2.2.2.2.2.2 y.1.bz,.row dG [cC,.int .i64 y.2.At,.int .u64 y.2.av] 91]):=by
 refine ct (S:=Unit) (b9 fun _ _=>rfl) Tryz.func56 rfl rfl ?_
 repeat' first
  | (apply Dk.fe; repeat' first | exact rfl | (refine @id.{0} _ ?_; constructor))
  | intro _
  | exact rfl
  | apply Dk.S5 (t:=116)
  | apply Dk.ixO (t:=116)
  | apply Dk.Wv (n:=14)
  | apply Dk.SY (n:=14)
  | apply Dk.Qi (n:=14)
  | (refine @id.{0} _ ?_; constructor)
  | apply zu
  | apply TQ
  | apply c80
  | apply c81
  | apply c83
  | apply c82
  | exact ()
theorem c57 {x0:aK} {dG:Nat} {cC:Value}:Ct Tryz.prog 57 false (qV x0) [.pointer (some (⟨dG,0,none⟩))] [.row dG [cC,.int .i64 (x0.At),.int .u64 (x0.av)] 91,.rd false (bH (aN .u8)) cC x0.Code] (fun y (v:Value×Value×Value×Value×Value×Value×Value×Value×Value×Value)=>[.agg #[.int .i64 y.1.aB.aA,v.1,v.2.1,v.2.2.1,v.2.2.2.1,.int .i64 y.1.aH.aA,v.2.2.2.2.1,v.2.2.2.2.2.1,v.2.2.2.2.2.2.1,v.2.2.2.2.2.2.2.1,v.2.2.2.2.2.2.2.2.1,v.2.2.2.2.2.2.2.2.2]]) (fun y v=>[rI v.1 y.1.aB.aG,rI v.2.1 y.1.aB.To,rI v.2.2.1 y.1.aB.aJ,rJ v.2.2.2.1 y.1.aB.aE,rI v.2.2.2.2.1 y.1.aH.aG,rI v.2.2.2.2.2.1 y.1.aH.To,rI v.2.2.2.2.2.2.1 y.1.aH.aJ,rJ v.2.2.2.2.2.2.2.1 y.1.aH.aE,rI v.2.2.2.2.2.2.2.2.1 y.1.aA,rI v.2.2.2.2.2.2.2.2.2 y.1.ab,.row dG [cC,.int .i64 y.2.At,.int .u64 y.2.av] 91]):=by
 refine ct (S:=Unit) B6 Tryz.func57 rfl rfl ?_
 repeat' first
  | (apply Dk.fe; repeat' first | exact rfl | (refine @id.{0} _ ?_; constructor))
  | (intro (v:Value×Value×Value×Value×Value×Value×Value×Value×Value×Value); obtain ⟨_,_,_,_,_,_,_,_,_,_⟩:=v; dsimp only)
  | intro _
  | exact rfl
  | (refine @id.{0} _ ?_; constructor)
  | apply Dk.wK (id:=8) [Dk.aX.row _ _ 91] 12 [] [[],[],[],[],[14],[],[],[],[],[],[],[4]] [[],[0],[],[],[2,3],[],[],[6],[6,7],[6,7,8],[6,7,8,9],[2,3,4,5,6,7,8,9,10]] (by kernel_rfl)
  | apply TQ
  | apply c84
  | apply zu
  | apply c85
  | exact ()
end Go.Proofs.YtilhlobfebngdaaGreat
