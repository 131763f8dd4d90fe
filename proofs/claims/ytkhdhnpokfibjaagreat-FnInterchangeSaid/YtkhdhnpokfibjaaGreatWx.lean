/- Walks by the calculus D. No condition beside those that each theorem names. -/
import Derived.Test.YtkhdhnpokfibjaaGreatDi
import Derived.Test.YtkhdhnpokfibjaaGreatMo
import Derived.Test.YtkhdhnpokfibjaaGreatDp
import Derived.Test.YtkhdhnpokfibjaaGreatDs
import Derived.Test.YtkhdhnpokfibjaaGreatWa
import Derived.Test.YtkhdhnpokfibjaaGreatWc
import Derived.Test.YtkhdhnpokfibjaaGreatWd
import Derived.Test.YtkhdhnpokfibjaaGreatWf
import Derived.Test.YtkhdhnpokfibjaaGreatWi
import Derived.Test.YtkhdhnpokfibjaaGreatWy
import Derived.Test.YtkhdhnpokfibjaaGreatWz
namespace Go.Proofs.YtkhdhnpokfibjaaGreat
open Go Go.Li Go.Dk
set_option linter.unusedVariables false
set_option maxHeartbeats 16000000
set_option maxRecDepth 100000
theorem c7 {x0:(List Int)} {dZ:Value}:Ct Tryz.prog 7 false (fY x0) [dZ] [.rd false (aE (aC .u8)) dZ x0] (fun y (v:Value×Value×Value×Value×Value×Value×Value×Value×Value×Value×Value×Value×Value×Value×Value×Value×Value×Value×Value×Value×Value×Value×Value×Value×Value×Value×Value×Value×Value×Value×Value×Value×Value×Value×Value×Value×Value×Value×Value×Value×Value×Value)=>[.agg #[.int .i64 y.1.aA.aA.aD,v.1,v.2.1,v.2.2.1,v.2.2.2.1,.int .i64 y.1.aA.aB.aD,v.2.2.2.2.1,v.2.2.2.2.2.1,v.2.2.2.2.2.2.1,v.2.2.2.2.2.2.2.1,v.2.2.2.2.2.2.2.2.1,v.2.2.2.2.2.2.2.2.2.1,.int .i64 y.1.aB.aA.aD,v.2.2.2.2.2.2.2.2.2.2.1,v.2.2.2.2.2.2.2.2.2.2.2.1,v.2.2.2.2.2.2.2.2.2.2.2.2.1,v.2.2.2.2.2.2.2.2.2.2.2.2.2.1,.int .i64 y.1.aB.aB.aD,v.2.2.2.2.2.2.2.2.2.2.2.2.2.2.1,v.2.2.2.2.2.2.2.2.2.2.2.2.2.2.2.1,v.2.2.2.2.2.2.2.2.2.2.2.2.2.2.2.2.1,v.2.2.2.2.2.2.2.2.2.2.2.2.2.2.2.2.2.1,v.2.2.2.2.2.2.2.2.2.2.2.2.2.2.2.2.2.2.1,v.2.2.2.2.2.2.2.2.2.2.2.2.2.2.2.2.2.2.2.1,v.2.2.2.2.2.2.2.2.2.2.2.2.2.2.2.2.2.2.2.2.1],.agg #[.int .i64 y.2.aA.aA.aD,v.2.2.2.2.2.2.2.2.2.2.2.2.2.2.2.2.2.2.2.2.2.1,v.2.2.2.2.2.2.2.2.2.2.2.2.2.2.2.2.2.2.2.2.2.2.1,v.2.2.2.2.2.2.2.2.2.2.2.2.2.2.2.2.2.2.2.2.2.2.2.1,v.2.2.2.2.2.2.2.2.2.2.2.2.2.2.2.2.2.2.2.2.2.2.2.2.1,.int .i64 y.2.aA.aB.aD,v.2.2.2.2.2.2.2.2.2.2.2.2.2.2.2.2.2.2.2.2.2.2.2.2.2.1,v.2.2.2.2.2.2.2.2.2.2.2.2.2.2.2.2.2.2.2.2.2.2.2.2.2.2.1,v.2.2.2.2.2.2.2.2.2.2.2.2.2.2.2.2.2.2.2.2.2.2.2.2.2.2.2.1,v.2.2.2.2.2.2.2.2.2.2.2.2.2.2.2.2.2.2.2.2.2.2.2.2.2.2.2.2.1,v.2.2.2.2.2.2.2.2.2.2.2.2.2.2.2.2.2.2.2.2.2.2.2.2.2.2.2.2.2.1,v.2.2.2.2.2.2.2.2.2.2.2.2.2.2.2.2.2.2.2.2.2.2.2.2.2.2.2.2.2.2.1,.int .i64 y.2.aB.aA.aD,v.2.2.2.2.2.2.2.2.2.2.2.2.2.2.2.2.2.2.2.2.2.2.2.2.2.2.2.2.2.2.2.1,v.2.2.2.2.2.2.2.2.2.2.2.2.2.2.2.2.2.2.2.2.2.2.2.2.2.2.2.2.2.2.2.2.1,v.2.2.2.2.2.2.2.2.2.2.2.2.2.2.2.2.2.2.2.2.2.2.2.2.2.2.2.2.2.2.2.2.2.1,v.2.2.2.2.2.2.2.2.2.2.2.2.2.2.2.2.2.2.2.2.2.2.2.2.2.2.2.2.2.2.2.2.2.2.1,.int .i64 y.2.aB.aB.aD,v.2.2.2.2.2.2.2.2.2.2.2.2.2.2.2.2.2.2.2.2.2.2.2.2.2.2.2.2.2.2.2.2.2.2.2.1,v.2.2.2.2.2.2.2.2.2.2.2.2.2.2.2.2.2.2.2.2.2.2.2.2.2.2.2.2.2.2.2.2.2.2.2.2.1,v.2.2.2.2.2.2.2.2.2.2.2.2.2.2.2.2.2.2.2.2.2.2.2.2.2.2.2.2.2.2.2.2.2.2.2.2.2.1,v.2.2.2.2.2.2.2.2.2.2.2.2.2.2.2.2.2.2.2.2.2.2.2.2.2.2.2.2.2.2.2.2.2.2.2.2.2.2.1,v.2.2.2.2.2.2.2.2.2.2.2.2.2.2.2.2.2.2.2.2.2.2.2.2.2.2.2.2.2.2.2.2.2.2.2.2.2.2.2.1,v.2.2.2.2.2.2.2.2.2.2.2.2.2.2.2.2.2.2.2.2.2.2.2.2.2.2.2.2.2.2.2.2.2.2.2.2.2.2.2.2.1,v.2.2.2.2.2.2.2.2.2.2.2.2.2.2.2.2.2.2.2.2.2.2.2.2.2.2.2.2.2.2.2.2.2.2.2.2.2.2.2.2.2]]) (fun y v=>[.rd false (aE (aC .i64)) v.1 y.1.aA.aA.aG,.rd false (aE (aC .i64)) v.2.1 y.1.aA.aA.To,.rd false (aE (aC .i64)) v.2.2.1 y.1.aA.aA.aJ,.rd false (aE (aE (aC .i64))) v.2.2.2.1 y.1.aA.aA.aF,.rd false (aE (aC .i64)) v.2.2.2.2.1 y.1.aA.aB.aG,.rd false (aE (aC .i64)) v.2.2.2.2.2.1 y.1.aA.aB.To,.rd false (aE (aC .i64)) v.2.2.2.2.2.2.1 y.1.aA.aB.aJ,.rd false (aE (aE (aC .i64))) v.2.2.2.2.2.2.2.1 y.1.aA.aB.aF,.rd false (aE (aC .i64)) v.2.2.2.2.2.2.2.2.1 y.1.aA.aD,.rd false (aE (aC .i64)) v.2.2.2.2.2.2.2.2.2.1 y.1.aA.Arrows,.rd false (aE (aC .i64)) v.2.2.2.2.2.2.2.2.2.2.1 y.1.aB.aA.aG,.rd false (aE (aC .i64)) v.2.2.2.2.2.2.2.2.2.2.2.1 y.1.aB.aA.To,.rd false (aE (aC .i64)) v.2.2.2.2.2.2.2.2.2.2.2.2.1 y.1.aB.aA.aJ,.rd false (aE (aE (aC .i64))) v.2.2.2.2.2.2.2.2.2.2.2.2.2.1 y.1.aB.aA.aF,.rd false (aE (aC .i64)) v.2.2.2.2.2.2.2.2.2.2.2.2.2.2.1 y.1.aB.aB.aG,.rd false (aE (aC .i64)) v.2.2.2.2.2.2.2.2.2.2.2.2.2.2.2.1 y.1.aB.aB.To,.rd false (aE (aC .i64)) v.2.2.2.2.2.2.2.2.2.2.2.2.2.2.2.2.1 y.1.aB.aB.aJ,.rd false (aE (aE (aC .i64))) v.2.2.2.2.2.2.2.2.2.2.2.2.2.2.2.2.2.1 y.1.aB.aB.aF,.rd false (aE (aC .i64)) v.2.2.2.2.2.2.2.2.2.2.2.2.2.2.2.2.2.2.1 y.1.aB.aD,.rd false (aE (aC .i64)) v.2.2.2.2.2.2.2.2.2.2.2.2.2.2.2.2.2.2.2.1 y.1.aB.Arrows,.rd false (aE (aC .i64)) v.2.2.2.2.2.2.2.2.2.2.2.2.2.2.2.2.2.2.2.2.1 y.1.Components,.rd false (aE (aC .i64)) v.2.2.2.2.2.2.2.2.2.2.2.2.2.2.2.2.2.2.2.2.2.1 y.2.aA.aA.aG,.rd false (aE (aC .i64)) v.2.2.2.2.2.2.2.2.2.2.2.2.2.2.2.2.2.2.2.2.2.2.1 y.2.aA.aA.To,.rd false (aE (aC .i64)) v.2.2.2.2.2.2.2.2.2.2.2.2.2.2.2.2.2.2.2.2.2.2.2.1 y.2.aA.aA.aJ,.rd false (aE (aE (aC .i64))) v.2.2.2.2.2.2.2.2.2.2.2.2.2.2.2.2.2.2.2.2.2.2.2.2.1 y.2.aA.aA.aF,.rd false (aE (aC .i64)) v.2.2.2.2.2.2.2.2.2.2.2.2.2.2.2.2.2.2.2.2.2.2.2.2.2.1 y.2.aA.aB.aG,.rd false (aE (aC .i64)) v.2.2.2.2.2.2.2.2.2.2.2.2.2.2.2.2.2.2.2.2.2.2.2.2.2.2.1 y.2.aA.aB.To,.rd false (aE (aC .i64)) v.2.2.2.2.2.2.2.2.2.2.2.2.2.2.2.2.2.2.2.2.2.2.2.2.2.2.2.1 y.2.aA.aB.aJ,.rd false (aE (aE (aC .i64))) v.2.2.2.2.2.2.2.2.2.2.2.2.2.2.2.2.2.2.2.2.2.2.2.2.2.2.2.2.1 y.2.aA.aB.aF,.rd false (aE (aC .i64)) v.2.2.2.2.2.2.2.2.2.2.2.2.2.2.2.2.2.2.2.2.2.2.2.2.2.2.2.2.2.1 y.2.aA.aD,.rd false (aE (aC .i64)) v.2.2.2.2.2.2.2.2.2.2.2.2.2.2.2.2.2.2.2.2.2.2.2.2.2.2.2.2.2.2.1 y.2.aA.Arrows,.rd false (aE (aC .i64)) v.2.2.2.2.2.2.2.2.2.2.2.2.2.2.2.2.2.2.2.2.2.2.2.2.2.2.2.2.2.2.2.1 y.2.aB.aA.aG,.rd false (aE (aC .i64)) v.2.2.2.2.2.2.2.2.2.2.2.2.2.2.2.2.2.2.2.2.2.2.2.2.2.2.2.2.2.2.2.2.1 y.2.aB.aA.To,.rd false (aE (aC .i64)) v.2.2.2.2.2.2.2.2.2.2.2.2.2.2.2.2.2.2.2.2.2.2.2.2.2.2.2.2.2.2.2.2.2.1 y.2.aB.aA.aJ,.rd false (aE (aE (aC .i64))) v.2.2.2.2.2.2.2.2.2.2.2.2.2.2.2.2.2.2.2.2.2.2.2.2.2.2.2.2.2.2.2.2.2.2.1 y.2.aB.aA.aF,.rd false (aE (aC .i64)) v.2.2.2.2.2.2.2.2.2.2.2.2.2.2.2.2.2.2.2.2.2.2.2.2.2.2.2.2.2.2.2.2.2.2.2.1 y.2.aB.aB.aG,.rd false (aE (aC .i64)) v.2.2.2.2.2.2.2.2.2.2.2.2.2.2.2.2.2.2.2.2.2.2.2.2.2.2.2.2.2.2.2.2.2.2.2.2.1 y.2.aB.aB.To,.rd false (aE (aC .i64)) v.2.2.2.2.2.2.2.2.2.2.2.2.2.2.2.2.2.2.2.2.2.2.2.2.2.2.2.2.2.2.2.2.2.2.2.2.2.1 y.2.aB.aB.aJ,.rd false (aE (aE (aC .i64))) v.2.2.2.2.2.2.2.2.2.2.2.2.2.2.2.2.2.2.2.2.2.2.2.2.2.2.2.2.2.2.2.2.2.2.2.2.2.2.1 y.2.aB.aB.aF,.rd false (aE (aC .i64)) v.2.2.2.2.2.2.2.2.2.2.2.2.2.2.2.2.2.2.2.2.2.2.2.2.2.2.2.2.2.2.2.2.2.2.2.2.2.2.2.1 y.2.aB.aD,.rd false (aE (aC .i64)) v.2.2.2.2.2.2.2.2.2.2.2.2.2.2.2.2.2.2.2.2.2.2.2.2.2.2.2.2.2.2.2.2.2.2.2.2.2.2.2.2.1 y.2.aB.Arrows,.rd false (aE (aC .i64)) v.2.2.2.2.2.2.2.2.2.2.2.2.2.2.2.2.2.2.2.2.2.2.2.2.2.2.2.2.2.2.2.2.2.2.2.2.2.2.2.2.2 y.2.Components]):=by
 refine ct (S:=Unit) owf Tryz.func7 rfl rfl ?_
 repeat' first
  | ((first | show Dk.ER _ _ _ | show Dk.Ones _ _ | show Dk.EF _ _ _ | show Dk.EO _ _ _ | show Dk.EP _ _ | show Dk.SegD _ _ _ _ | show Dk.TakeD _ _ _ _ | show Dk.Kp _ _ _ _ | show Dk.MkV _ _ | show Dk.FndW _ _ _ _); repeat' first | exact rfl | (refine @id.{0} _ ?_; constructor))
  | (intro (v:Value×Value×Value×Value×Value×Value×Value×Value×Value×Value×Value×Value×Value×Value×Value×Value×Value×Value×Value×Value×Value); obtain ⟨_,_,_,_,_,_,_,_,_,_,_,_,_,_,_,_,_,_,_,_,_⟩:=v; dsimp only)
  | (intro (v:Value×Value×Value×Value×Value×Value×Value×Value×Value×Value); obtain ⟨_,_,_,_,_,_,_,_,_,_⟩:=v; dsimp only)
  | intro _
  | exact rfl
  | (apply Dk.rwU (t:=21); exact rfl)
  | apply Dk.AD.callR (f:=26)
  | apply Dk.AD.callHR (f:=26)
  | apply Dk.AD.callMR (f:=26)
  | apply Dk.lnO (t:=57)
  | apply Dk.ixO (t:=57)
  | apply Dk.lsS (n:=12)
  | apply Dk.laS (n:=12)
  | apply Dk.laS0 (n:=12)
  | (refine @id.{0} _ ?_; constructor)
  | apply Dk.anyH (id:=4) [Dk.Ent.row _ _ 87] 3 [] [[],[],[5]] [[],[],[1]] (by kernel_rfl)
  | apply Dk.anyH (id:=12) [Dk.Ent.row _ _ 87] 11 [] [[],[],[],[],[],[],[],[13],[],[],[]] [[],[],[],[],[],[],[5],[4,6,5],[3,7,4,6,5],[8,3,7,4,6,5],[1,2,9,8,3,7,4,6,5,7,4,6,5]] (by kernel_rfl)
  | apply Dk.any (id:=13) 6 [] [] [[],[],[],[],[3],[1,2,4,3,4,3]] (by kernel_rfl)
  | apply c25
  | apply c26
  | apply c27
  | apply c28
  | apply c29
  | apply c30
  | apply c31
  | apply c32
  | apply c33
  | apply c34
  | exact ()
end Go.Proofs.YtkhdhnpokfibjaaGreat
