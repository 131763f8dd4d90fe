/- Sorting lists of numbers by the library's own slices.SortFunc: the rows, wherever they lie, come out in their order. No condition beside those that the theorem names. -/
import Derived.Test.YtbhhmalgcnhniaaGreatLh
import Derived.Shelf.SlSortCmp.Whole1
namespace Go.Li
open Go Go.Proofs Go.Shelf Go.RowKit Go.Lib Go.Sort
def mw:List Int→List Int→Int
 | [],[]=>0
 | [],_ :: _=>-1
 | _ :: _,[]=>1
 | a :: al,b :: bl=>if a=b then mw al bl else if a < b then -1 else 1
def lexLt (x y:List Int):Bool:=decide (mw x y < 0)
def pw (x y:List Int):Bool:=!lexLt y x
theorem Oy:∀ x,mw x x=0:=by
 intro x
 induction x with
 | nil=>rfl
 | cons a al ih=>simp [mw,ih]
theorem Oz {x y:List Int} (h:mw x y=0):x=y:=by
 induction x generalizing y with
 | nil=>cases y <;> simp_all [mw]
 | cons a al ih=>
  cases y with
  | nil=>simp [mw] at h
  | cons b bl=>
   unfold mw at h
   split at h
   ·rename_i e; rw [e,ih h]
   ·split at h <;> simp at h
theorem OA (x y:List Int):mw y x = - mw x y:=by
 induction x generalizing y with
 | nil=>cases y <;> rfl
 | cons a al ih=>
  cases y with
  | nil=>rfl
  | cons b bl=>
   unfold mw
   by_cases e:a=b
   ·rw [if_pos e,if_pos e.symm]; exact ih bl
   ·rw [if_neg e,if_neg (fun h=>e h.symm)]
    by_cases l:a < b
    ·rw [if_pos l,if_neg (by omega)]; rfl
    ·rw [if_neg l,if_pos (by omega)]
theorem BD {x y z:List Int} (h1:lexLt x y=true) (h2:lexLt y z=true):lexLt x z=true:=by
 unfold lexLt at *
 simp only [decide_eq_true_eq] at *
 induction x generalizing y z with
 | nil=>
  cases z with
  | nil=>cases y <;> simp_all [mw]
  | cons c cs=>simp [mw]
 | cons a al ih=>
  cases y with
  | nil=>simp [mw] at h1
  | cons b bl=>
   cases z with
   | nil=>simp [mw] at h2
   | cons c cs=>
    simp only [mw] at h1 h2 ⊢
    by_cases e1:a=b <;> by_cases e2:b=c
    ·subst e1; subst e2; simp at h1 h2 ⊢; exact ih h1 h2
    ·subst e1; simp [e2] at h2 ⊢; exact h2
    ·subst e2; simp [e1] at h1 ⊢; exact h1
    ·simp [e1,e2] at h1 h2
     have l1:a < b:=by
      apply Classical.byContradiction
      intro h; rw [if_neg h] at h1; simp at h1
     have l2:b < c:=by
      apply Classical.byContradiction
      intro h; rw [if_neg h] at h2; simp at h2
     rw [if_neg (by omega),if_pos (by omega)]; decide
theorem Gv (x:List Int):lexLt x x=false:=by unfold lexLt; rw [Oy]; rfl
theorem BE {x y:List Int} (h1:lexLt x y=false) (h2:lexLt y x=false):x=y:=by
 unfold lexLt at *
 simp only [decide_eq_false_iff_not] at *
 rw [OA] at h2
 exact Oz (by omega)
theorem Gx {x y z:List Int} (h1:lexLt x y=false) (h2:lexLt y z=false):lexLt x z=false:=by
 cases h3:lexLt x z with
 | false=>rfl
 | true=>
  cases h4:lexLt y x with
  | true=>rw [BD h4 h3] at h2; cases h2
  | false=>rw [BE h1 h4] at h3; rw [h3] at h2; cases h2
theorem BF (x y z:List Int) (h1:pw x y=true) (h2:pw y z=true):pw x z=true:=by
 unfold pw at *; simp only [Bool.not_eq_true'] at *
 exact Gx h2 h1
theorem BG (x y:List Int):(pw x y || pw y x)=true:=by
 unfold pw
 cases h1:lexLt y x with
 | false=>rfl
 | true=>
  cases h2:lexLt x y with
  | false=>rfl
  | true=>have:=BD h1 h2; rw [Gv] at this; cases this
theorem JT {x y:List Int} (h1:pw x y=true) (h2:pw y x=true):x=y:=by
 unfold pw at *; simp only [Bool.not_eq_true'] at *
 exact BE h2 h1
end Go.Li
