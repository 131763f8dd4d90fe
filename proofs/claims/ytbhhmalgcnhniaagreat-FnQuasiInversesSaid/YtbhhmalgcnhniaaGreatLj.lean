/- Sorting lists of numbers by the library's own slices.SortFunc: the rows, wherever they lie, come out in their order. No condition beside those that the theorem names. -/
import Derived.Test.YtbhhmalgcnhniaaGreatLh
import Derived.Shelf.SlSortCmp.Whole1
namespace Go.Li
open Go Go.Proofs Go.Shelf Go.RowKit Go.Lib Go.Sort
def qu:List Int→List Int→Int
 | [],[]=>0
 | [],_ :: _=>-1
 | _ :: _,[]=>1
 | a :: al,b :: bl=>if a=b then qu al bl else if a < b then -1 else 1
def lexLt (x y:List Int):Bool:=decide (qu x y < 0)
def QD (x y:List Int):Bool:=!lexLt y x
theorem Ov:∀ x,qu x x=0:=by
 intro x
 induction x with
 | nil=>rfl
 | cons a al ih=>simp [qu,ih]
theorem Ow {x y:List Int} (h:qu x y=0):x=y:=by
 induction x generalizing y with
 | nil=>cases y <;> simp_all [qu]
 | cons a al ih=>
  cases y with
  | nil=>simp [qu] at h
  | cons b bl=>
   unfold qu at h
   split at h
   ·rename_i e; rw [e,ih h]
   ·split at h <;> simp at h
end Go.Li
