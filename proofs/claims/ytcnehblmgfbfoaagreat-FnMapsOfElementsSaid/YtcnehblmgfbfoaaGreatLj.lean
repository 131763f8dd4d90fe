/- Sorting lists of numbers by the library's own slices.SortFunc: the rows, wherever they lie, come out in their order. No condition beside those that the theorem names. -/
import Derived.Test.YtcnehblmgfbfoaaGreatLh
import Derived.Shelf.SlSortCmp.Whole1
namespace Go.Li
open Go Go.Proofs Go.Shelf Go.RowKit Go.Lib Go.Sort
def qy:List Int→List Int→Int
 | [],[]=>0
 | [],_ :: _=>-1
 | _ :: _,[]=>1
 | a :: al,b :: bl=>if a=b then qy al bl else if a < b then -1 else 1
def lexLt (x y:List Int):Bool:=decide (qy x y < 0)
def Ts (x y:List Int):Bool:=!lexLt y x
theorem Rj:∀ x,qy x x=0:=by
 intro x
 induction x with
 | nil=>rfl
 | cons a al ih=>simp [qy,ih]
theorem Rk {x y:List Int} (h:qy x y=0):x=y:=by
 induction x generalizing y with
 | nil=>cases y <;> simp_all [qy]
 | cons a al ih=>
  cases y with
  | nil=>simp [qy] at h
  | cons b bl=>
   unfold qy at h
   split at h
   ·rename_i e; rw [e,ih h]
   ·split at h <;> simp at h
end Go.Li
