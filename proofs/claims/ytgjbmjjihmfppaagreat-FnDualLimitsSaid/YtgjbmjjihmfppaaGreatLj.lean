/- Sorting lists of numbers by the library's own slices.SortFunc: the rows, wherever they lie, come out in their order. No condition beside those that the theorem names. -/
import Derived.Test.YtgjbmjjihmfppaaGreatLh
import Derived.Shelf.SlSortCmp.Whole1
namespace Go.Li
open Go Go.Proofs Go.Shelf Go.RowKit Go.Lib Go.Sort
def Gy:List Int→List Int→Int
 | [],[]=>0
 | [],_ :: _=>-1
 | _ :: _,[]=>1
 | a :: al,b :: bl=>if a=b then Gy al bl else if a < b then -1 else 1
def lexLt (x y:List Int):Bool:=decide (Gy x y < 0)
def Qt (x y:List Int):Bool:=!lexLt y x
end Go.Li
