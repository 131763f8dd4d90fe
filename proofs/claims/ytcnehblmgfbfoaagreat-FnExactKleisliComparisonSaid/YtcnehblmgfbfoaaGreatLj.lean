/- Sorting lists of numbers by the library's own slices.SortFunc: the rows, wherever they lie, come out in their order. No condition beside those that the theorem names. -/
import Derived.Test.YtcnehblmgfbfoaaGreatLh
import Derived.Shelf.SlSortCmp.Whole1
namespace Go.Li
open Go Go.Proofs Go.Shelf Go.RowKit Go.Lib Go.Sort
def pg:List Int→List Int→Int
 | [],[]=>0
 | [],_ :: _=>-1
 | _ :: _,[]=>1
 | a :: al,b :: bl=>if a=b then pg al bl else if a < b then -1 else 1
def lexLt (x y:List Int):Bool:=decide (pg x y < 0)
def Mp (x y:List Int):Bool:=!lexLt y x
theorem KL:∀ x,pg x x=0:=by
 intro x
 induction x with
 | nil=>rfl
 | cons a al ih=>simp [pg,ih]
theorem KM {x y:List Int} (h:pg x y=0):x=y:=by
 induction x generalizing y with
 | nil=>cases y <;> simp_all [pg]
 | cons a al ih=>
  cases y with
  | nil=>simp [pg] at h
  | cons b bl=>
   unfold pg at h
   split at h
   ·rename_i e; rw [e,ih h]
   ·split at h <;> simp at h
end Go.Li
