/- Sorting lists of numbers by the library's own slices.SortFunc: the rows, wherever they lie, come out in their order. No condition beside those that the theorem names. -/
import Derived.Test.YtcnehblmgfbfoaaGreatLh
import Derived.Shelf.SlSortCmp.Whole1
namespace Go.Li
open Go Go.Proofs Go.Shelf Go.RowKit Go.Lib Go.Sort
def pr:List Int→List Int→Int
 | [],[]=>0
 | [],_ :: _=>-1
 | _ :: _,[]=>1
 | a :: al,b :: bl=>if a=b then pr al bl else if a < b then -1 else 1
def lexLt (x y:List Int):Bool:=decide (pr x y < 0)
def NS (x y:List Int):Bool:=!lexLt y x
theorem LX:∀ x,pr x x=0:=by
 intro x
 induction x with
 | nil=>rfl
 | cons a al ih=>simp [pr,ih]
theorem LY {x y:List Int} (h:pr x y=0):x=y:=by
 induction x generalizing y with
 | nil=>cases y <;> simp_all [pr]
 | cons a al ih=>
  cases y with
  | nil=>simp [pr] at h
  | cons b bl=>
   unfold pr at h
   split at h
   ·rename_i e; rw [e,ih h]
   ·split at h <;> simp at h
end Go.Li
