/- Walks by the calculus D. No condition beside those that each theorem names. -/
import Derived.Test.YtkhdhnpokfibjaaGreatDi
import Derived.Test.YtkhdhnpokfibjaaGreatMo
import Derived.Test.YtkhdhnpokfibjaaGreatDp
import Derived.Test.YtkhdhnpokfibjaaGreatDs
import Derived.Test.YtkhdhnpokfibjaaGreatWa
import Derived.Test.YtkhdhnpokfibjaaGreatWc
import Derived.Test.YtkhdhnpokfibjaaGreatWd
import Derived.Test.YtkhdhnpokfibjaaGreatWf
import Derived.Test.YtkhdhnpokfibjaaGreatWg
import Derived.Test.YtkhdhnpokfibjaaGreatWz
namespace Go.Proofs.YtkhdhnpokfibjaaGreat
open Go Go.Li Go.Dk
set_option linter.unusedVariables false
set_option maxHeartbeats 16000000
set_option maxRecDepth 100000
theorem c26 {x0:aL} {eP:Nat} {dF:Value}:Ct Tryz.prog 26 false (jJ x0) [.pointer (some (⟨eP,0,none⟩))] [.row eP [dF,.int .i64 (x0.At),.int .u64 (x0.Hash)] 87,.rd false (aE (aC .u8)) dF x0.Code] (fun y (v:Value×Value×Value×Value×Value×Value×Value×Value×Value×Value×Value×Value×Value×Value×Value×Value×Value×Value×Value×Value×Value)=>[.agg #[.int .i64 y.1.aA.aA.aD,v.1,v.2.1,v.2.2.1,v.2.2.2.1,.int .i64 y.1.aA.aB.aD,v.2.2.2.2.1,v.2.2.2.2.2.1,v.2.2.2.2.2.2.1,v.2.2.2.2.2.2.2.1,v.2.2.2.2.2.2.2.2.1,v.2.2.2.2.2.2.2.2.2.1,.int .i64 y.1.aB.aA.aD,v.2.2.2.2.2.2.2.2.2.2.1,v.2.2.2.2.2.2.2.2.2.2.2.1,v.2.2.2.2.2.2.2.2.2.2.2.2.1,v.2.2.2.2.2.2.2.2.2.2.2.2.2.1,.int .i64 y.1.aB.aB.aD,v.2.2.2.2.2.2.2.2.2.2.2.2.2.2.1,v.2.2.2.2.2.2.2.2.2.2.2.2.2.2.2.1,v.2.2.2.2.2.2.2.2.2.2.2.2.2.2.2.2.1,v.2.2.2.2.2.2.2.2.2.2.2.2.2.2.2.2.2.1,v.2.2.2.2.2.2.2.2.2.2.2.2.2.2.2.2.2.2.1,v.2.2.2.2.2.2.2.2.2.2.2.2.2.2.2.2.2.2.2.1,v.2.2.2.2.2.2.2.2.2.2.2.2.2.2.2.2.2.2.2.2]]) (fun y v=>[.rd false (aE (aC .i64)) v.1 y.1.aA.aA.aG,.rd false (aE (aC .i64)) v.2.1 y.1.aA.aA.To,.rd false (aE (aC .i64)) v.2.2.1 y.1.aA.aA.aJ,.rd false (aE (aE (aC .i64))) v.2.2.2.1 y.1.aA.aA.aF,.rd false (aE (aC .i64)) v.2.2.2.2.1 y.1.aA.aB.aG,.rd false (aE (aC .i64)) v.2.2.2.2.2.1 y.1.aA.aB.To,.rd false (aE (aC .i64)) v.2.2.2.2.2.2.1 y.1.aA.aB.aJ,.rd false (aE (aE (aC .i64))) v.2.2.2.2.2.2.2.1 y.1.aA.aB.aF,.rd false (aE (aC .i64)) v.2.2.2.2.2.2.2.2.1 y.1.aA.aD,.rd false (aE (aC .i64)) v.2.2.2.2.2.2.2.2.2.1 y.1.aA.Arrows,.rd false (aE (aC .i64)) v.2.2.2.2.2.2.2.2.2.2.1 y.1.aB.aA.aG,.rd false (aE (aC .i64)) v.2.2.2.2.2.2.2.2.2.2.2.1 y.1.aB.aA.To,.rd false (aE (aC .i64)) v.2.2.2.2.2.2.2.2.2.2.2.2.1 y.1.aB.aA.aJ,.rd false (aE (aE (aC .i64))) v.2.2.2.2.2.2.2.2.2.2.2.2.2.1 y.1.aB.aA.aF,.rd false (aE (aC .i64)) v.2.2.2.2.2.2.2.2.2.2.2.2.2.2.1 y.1.aB.aB.aG,.rd false (aE (aC .i64)) v.2.2.2.2.2.2.2.2.2.2.2.2.2.2.2.1 y.1.aB.aB.To,.rd false (aE (aC .i64)) v.2.2.2.2.2.2.2.2.2.2.2.2.2.2.2.2.1 y.1.aB.aB.aJ,.rd false (aE (aE (aC .i64))) v.2.2.2.2.2.2.2.2.2.2.2.2.2.2.2.2.2.1 y.1.aB.aB.aF,.rd false (aE (aC .i64)) v.2.2.2.2.2.2.2.2.2.2.2.2.2.2.2.2.2.2.1 y.1.aB.aD,.rd false (aE (aC .i64)) v.2.2.2.2.2.2.2.2.2.2.2.2.2.2.2.2.2.2.2.1 y.1.aB.Arrows,.rd false (aE (aC .i64)) v.2.2.2.2.2.2.2.2.2.2.2.2.2.2.2.2.2.2.2.2 y.1.Components,.row eP [dF,.int .i64 y.2.At,.int .u64 y.2.Hash] 87]):=by
 refine ct (S:=Unit) owf Tryz.func26 rfl rfl ?_
 repeat' first
  | ((first | show Dk.ER _ _ _ | show Dk.Ones _ _ | show Dk.EF _ _ _ | show Dk.EO _ _ _ | show Dk.EP _ _ | show Dk.SegD _ _ _ _ | show Dk.TakeD _ _ _ _ | show Dk.Kp _ _ _ _ | show Dk.MkV _ _ | show Dk.FndW _ _ _ _); repeat' first | exact rfl | (refine @id.{0} _ ?_; constructor))
  | (intro (v:Value×Value×Value×Value×Value×Value×Value×Value×Value×Value×Value×Value×Value×Value×Value×Value×Value×Value×Value×Value×Value); obtain ⟨_,_,_,_,_,_,_,_,_,_,_,_,_,_,_,_,_,_,_,_,_⟩:=v; dsimp only)
  | (intro (v:Value×Value×Value×Value×Value×Value×Value×Value×Value×Value×Value×Value×Value×Value×Value×Value×Value×Value×Value×Value); obtain ⟨_,_,_,_,_,_,_,_,_,_,_,_,_,_,_,_,_,_,_,_⟩:=v; dsimp only)
  | (intro (v:Value×Value×Value×Value×Value×Value×Value×Value×Value×Value); obtain ⟨_,_,_,_,_,_,_,_,_,_⟩:=v; dsimp only)
  | intro _
  | exact rfl
  | (apply Dk.rwU (t:=59); exact rfl)
  | (refine @id.{0} _ ?_; constructor)
  | apply Dk.any (id:=8) 4 [] [] [[],[],[],[2]] (by kernel_rfl)
  | apply Dk.anyH (id:=11) [Dk.Ent.row _ _ 87] 13 [] [[],[],[],[],[],[],[15],[],[],[],[],[],[6]] [[],[0],[],[],[3],[4,3],[2,5,4,3],[],[],[8],[9,8],[10,9,8],[7,11,10,9,8,6,2,5,4,3]] (by kernel_rfl)
  | apply c49
  | apply c58
  | apply c59
  | apply c32
  | apply c28
  | apply c34
  | apply c33
  | apply c60
  | apply c61
  | exact ()
end Go.Proofs.YtkhdhnpokfibjaaGreat
