/- Sorting lists of numbers by the library's own slices.SortFunc: the rows, wherever they lie, come out in their order. No condition beside those that the theorem names. -/
import Derived.Test.YtilhlobfebngdaaGreatLh
import Derived.Shelf.SlSortCmp.Whole1
namespace Go.Li
open Go Go.Proofs Go.Shelf Go.RowKit Go.Lib Go.Sort
def r9:List Int→List Int→Int
 | [],[]=>0
 | [],_ :: _=>-1
 | _ :: _,[]=>1
 | a :: al,b :: bl=>if a=b then r9 al bl else if a < b then -1 else 1
def lexLt (x y:List Int):Bool:=decide (r9 x y < 0)
def Vm (x y:List Int):Bool:=!lexLt y x
theorem SZ:∀ x,r9 x x=0:=by
 intro x
 induction x with
 | nil=>rfl
 | cons a al ih=>simp [r9,ih]
theorem S4 {x y:List Int} (h:r9 x y=0):x=y:=by
 induction x generalizing y with
 | nil=>cases y <;> simp_all [r9]
 | cons a al ih=>
  cases y with
  | nil=>simp [r9] at h
  | cons b bl=>
   unfold r9 at h
   split at h
   ·rename_i e; rw [e,ih h]
   ·split at h <;> simp at h
end Go.Li
