/- Sorting lists of numbers by the library's own slices.SortFunc: the rows, wherever they lie, come out in their order. No condition beside those that the theorem names. -/
import Derived.Test.YtjdkifckhidlbaaGreatLh
import Derived.Shelf.SlSortCmp.Whole1
namespace Go.Li
open Go Go.Proofs Go.Shelf Go.RowKit Go.Lib Go.Sort
def qp:List Int→List Int→Int
 | [],[]=>0
 | [],_ :: _=>-1
 | _ :: _,[]=>1
 | a :: al,b :: bl=>if a=b then qp al bl else if a < b then -1 else 1
def lexLt (x y:List Int):Bool:=decide (qp x y < 0)
def OA (x y:List Int):Bool:=!lexLt y x
theorem Mz:∀ x,qp x x=0:=by
 intro x
 induction x with
 | nil=>rfl
 | cons a al ih=>simp [qp,ih]
theorem MA {x y:List Int} (h:qp x y=0):x=y:=by
 induction x generalizing y with
 | nil=>cases y <;> simp_all [qp]
 | cons a al ih=>
  cases y with
  | nil=>simp [qp] at h
  | cons b bl=>
   unfold qp at h
   split at h
   ·rename_i e; rw [e,ih h]
   ·split at h <;> simp at h
end Go.Li
