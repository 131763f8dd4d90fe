/- Walks by the calculus D. No condition beside those that each theorem names. -/
import Derived.Test.YtkhdhnpokfibjaaGreatDi
import Derived.Test.YtkhdhnpokfibjaaGreatMo
import Derived.Test.YtkhdhnpokfibjaaGreatDp
import Derived.Test.YtkhdhnpokfibjaaGreatDs
import Derived.Test.YtkhdhnpokfibjaaGreatWb
import Derived.Test.YtkhdhnpokfibjaaGreatWh
import Derived.Test.YtkhdhnpokfibjaaGreatWi
import Derived.Test.YtkhdhnpokfibjaaGreatWj
import Derived.Test.YtkhdhnpokfibjaaGreatWx
namespace Go.Proofs.YtkhdhnpokfibjaaGreat
open Go Go.Li Go.Dk
set_option linter.unusedVariables false
set_option maxHeartbeats 16000000
set_option maxRecDepth 100000
theorem c3 {x0:(List Int)} {dZ:Value}:Ct Tryz.prog 3 true (jX x0) [dZ] [.rd false (aE (aC .u8)) dZ x0] (fun y (_:Unit)=>[.bool y]) (fun y _=>[]):=by
 refine ct (S:=Unit) (owt fun _ _=>rfl) Tryz.func3 rfl rfl ?_
 repeat' first
  | ((first | show Dk.ER _ _ _ | show Dk.Ones _ _ | show Dk.EF _ _ _ | show Dk.EO _ _ _ | show Dk.EP _ _ | show Dk.SegD _ _ _ _ | show Dk.TakeD _ _ _ _ | show Dk.Kp _ _ _ _ | show Dk.MkV _ _ | show Dk.FndW _ _ _ _); repeat' first | exact rfl | (refine @id.{0} _ ?_; constructor))
  | (intro (v:Value×Value×Value×Value×Value×Value×Value×Value×Value×Value×Value×Value×Value×Value×Value×Value×Value×Value×Value×Value×Value×Value×Value×Value×Value×Value×Value×Value×Value×Value×Value×Value×Value×Value×Value×Value×Value×Value×Value×Value×Value×Value); obtain ⟨_,_,_,_,_,_,_,_,_,_,_,_,_,_,_,_,_,_,_,_,_,_,_,_,_,_,_,_,_,_,_,_,_,_,_,_,_,_,_,_,_,_⟩:=v; dsimp only)
  | (intro (v:Value×Value×Value×Value×Value×Value×Value×Value×Value×Value×Value×Value×Value×Value×Value×Value×Value×Value×Value×Value×Value); obtain ⟨_,_,_,_,_,_,_,_,_,_,_,_,_,_,_,_,_,_,_,_,_⟩:=v; dsimp only)
  | (apply Dk.cdS (t:=52) <;> first | exact rfl | as_aux_lemma=>(repeat' first | ((first | show Dk.ER _ _ _ | show Dk.Ones _ _ | show Dk.EF _ _ _ | show Dk.EO _ _ _ | show Dk.EP _ _ | show Dk.SegD _ _ _ _ | show Dk.TakeD _ _ _ _ | show Dk.Kp _ _ _ _ | show Dk.MkV _ _ | show Dk.FndW _ _ _ _); repeat' first | exact rfl | (refine @id.{0} _ ?_; constructor)) | (intro (v:Value×Value×Value×Value×Value×Value×Value×Value×Value×Value×Value×Value×Value×Value×Value×Value×Value×Value×Value×Value×Value×Value×Value×Value×Value×Value×Value×Value×Value×Value×Value×Value×Value×Value×Value×Value×Value×Value×Value×Value×Value×Value); obtain ⟨_,_,_,_,_,_,_,_,_,_,_,_,_,_,_,_,_,_,_,_,_,_,_,_,_,_,_,_,_,_,_,_,_,_,_,_,_,_,_,_,_,_⟩:=v; dsimp only) | (intro (v:Value×Value×Value×Value×Value×Value×Value×Value×Value×Value×Value×Value×Value×Value×Value×Value×Value×Value×Value×Value×Value); obtain ⟨_,_,_,_,_,_,_,_,_,_,_,_,_,_,_,_,_,_,_,_,_⟩:=v; dsimp only) | intro _ | exact rfl | (refine @id.{0} _ ?_; constructor) | apply c6 | apply c7 | apply c8 | apply c9 | apply c10 | apply c11 | apply c12 | apply c13 | apply c14 | exact ()))
  | intro _
  | exact rfl
  | (refine @id.{0} _ ?_; constructor)
  | apply c6
  | apply c7
  | apply c8
  | apply c9
  | apply c10
  | apply c11
  | apply c12
  | apply c13
  | apply c14
  | exact ()
theorem pX {w:World} {x0:(List Int)} {dZ:Value} {f_x0:List Nat} (h_x0:(aE (aC .u8)).rep w.heap [dZ] x0 f_x0) {y:(Bool)} (hm:jX x0=some y):Calls Tryz.prog 3 #[dZ] w (fun e w'=>e = .returned (.bool y)∧Chg [] w w'):=
 ct_read c3 (.fact (fact_rd h_x0) (.nil)) hm
end Go.Proofs.YtkhdhnpokfibjaaGreat
