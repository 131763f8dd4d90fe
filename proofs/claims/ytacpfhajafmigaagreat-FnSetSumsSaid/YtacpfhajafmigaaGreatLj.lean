/- Sorting lists of numbers by the library's own slices.SortFunc: the rows, wherever they lie, come out in their order. No condition beside those that the theorem names. -/
import Derived.Test.YtacpfhajafmigaaGreatLh
import Derived.Shelf.SlSortCmp.Whole1
namespace Go.Li
open Go Go.Proofs Go.Shelf Go.RowKit Go.Lib Go.Sort
def lexCmp:List Int→List Int→Int
 | [],[]=>0
 | [],_ :: _=>-1
 | _ :: _,[]=>1
 | a :: al,b :: bl=>if a=b then lexCmp al bl else if a < b then -1 else 1
def lexLt (x y:List Int):Bool:=decide (lexCmp x y < 0)
def lexLe (x y:List Int):Bool:=!lexLt y x
theorem lex_refl:∀ x,lexCmp x x=0:=by
 intro x
 induction x with
 | nil=>rfl
 | cons a al ih=>simp [lexCmp,ih]
theorem lex_zero {x y:List Int} (h:lexCmp x y=0):x=y:=by
 induction x generalizing y with
 | nil=>cases y <;> simp_all [lexCmp]
 | cons a al ih=>
  cases y with
  | nil=>simp [lexCmp] at h
  | cons b bl=>
   unfold lexCmp at h
   split at h
   ·rename_i e; rw [e,ih h]
   ·split at h <;> simp at h
theorem lex_anti (x y:List Int):lexCmp y x = - lexCmp x y:=by
 induction x generalizing y with
 | nil=>cases y <;> rfl
 | cons a al ih=>
  cases y with
  | nil=>rfl
  | cons b bl=>
   unfold lexCmp
   by_cases e:a=b
   ·rw [if_pos e,if_pos e.symm]; exact ih bl
   ·rw [if_neg e,if_neg (fun h=>e h.symm)]
    by_cases l:a < b
    ·rw [if_pos l,if_neg (by omega)]; rfl
    ·rw [if_neg l,if_pos (by omega)]
theorem lexLt_trans {x y z:List Int} (h1:lexLt x y=true) (h2:lexLt y z=true):lexLt x z=true:=by
 unfold lexLt at *
 simp only [decide_eq_true_eq] at *
 induction x generalizing y z with
 | nil=>
  cases z with
  | nil=>cases y <;> simp_all [lexCmp]
  | cons c cs=>simp [lexCmp]
 | cons a al ih=>
  cases y with
  | nil=>simp [lexCmp] at h1
  | cons b bl=>
   cases z with
   | nil=>simp [lexCmp] at h2
   | cons c cs=>
    simp only [lexCmp] at h1 h2 ⊢
    by_cases e1:a=b <;> by_cases e2:b=c
    ·subst e1; subst e2; simp at h1 h2 ⊢; exact ih h1 h2
    ·subst e1; simp [e2] at h2 ⊢; exact h2
    ·subst e2; simp [e1] at h1 ⊢; exact h1
    ·simp [e1,e2] at h1 h2
     have l1:a < b:=by
      apply Classical.byContradiction
      intro h; rw [if_neg h] at h1; simp at h1
     have l2:b < c:=by
      apply Classical.byContradiction
      intro h; rw [if_neg h] at h2; simp at h2
     rw [if_neg (by omega),if_pos (by omega)]; decide
theorem lexLt_irrefl (x:List Int):lexLt x x=false:=by unfold lexLt; rw [lex_refl]; rfl
theorem lexLt_total {x y:List Int} (h1:lexLt x y=false) (h2:lexLt y x=false):x=y:=by
 unfold lexLt at *
 simp only [decide_eq_false_iff_not] at *
 rw [lex_anti] at h2
 exact lex_zero (by omega)
theorem lexLt_ntrans {x y z:List Int} (h1:lexLt x y=false) (h2:lexLt y z=false):lexLt x z=false:=by
 cases h3:lexLt x z with
 | false=>rfl
 | true=>
  cases h4:lexLt y x with
  | true=>rw [lexLt_trans h4 h3] at h2; cases h2
  | false=>rw [lexLt_total h1 h4] at h3; rw [h3] at h2; cases h2
theorem lexLe_trans (x y z:List Int) (h1:lexLe x y=true) (h2:lexLe y z=true):lexLe x z=true:=by
 unfold lexLe at *; simp only [Bool.not_eq_true'] at *
 exact lexLt_ntrans h2 h1
theorem lexLe_total (x y:List Int):(lexLe x y || lexLe y x)=true:=by
 unfold lexLe
 cases h1:lexLt y x with
 | false=>rfl
 | true=>
  cases h2:lexLt x y with
  | false=>rfl
  | true=>have:=lexLt_trans h1 h2; rw [lexLt_irrefl] at this; cases this
theorem lexLe_anti {x y:List Int} (h1:lexLe x y=true) (h2:lexLe y x=true):x=y:=by
 unfold lexLe at *; simp only [Bool.not_eq_true'] at *
 exact lexLt_total h2 h1
end Go.Li
