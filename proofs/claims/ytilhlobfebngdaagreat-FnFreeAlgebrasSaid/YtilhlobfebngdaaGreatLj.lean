/- Sorting lists of numbers by the library's own slices.SortFunc: the rows, wherever they lie, come out in their order. No condition beside those that the theorem names. -/
import Derived.Test.YtilhlobfebngdaaGreatLh
import Derived.Shelf.SlSortCmp.Whole1
namespace Go.Li
open Go Go.Proofs Go.Shelf Go.RowKit Go.Lib Go.Sort
def qx:List Int→List Int→Int
 | [],[]=>0
 | [],_ :: _=>-1
 | _ :: _,[]=>1
 | a :: al,b :: bl=>if a=b then qx al bl else if a < b then -1 else 1
def lexLt (x y:List Int):Bool:=decide (qx x y < 0)
def Td (x y:List Int):Bool:=!lexLt y x
theorem QG:∀ x,qx x x=0:=by
 intro x
 induction x with
 | nil=>rfl
 | cons a al ih=>simp [qx,ih]
theorem QH {x y:List Int} (h:qx x y=0):x=y:=by
 induction x generalizing y with
 | nil=>cases y <;> simp_all [qx]
 | cons a al ih=>
  cases y with
  | nil=>simp [qx] at h
  | cons b bl=>
   unfold qx at h
   split at h
   ·rename_i e; rw [e,ih h]
   ·split at h <;> simp at h
end Go.Li
