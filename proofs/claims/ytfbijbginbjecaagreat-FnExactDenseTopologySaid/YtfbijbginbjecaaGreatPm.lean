/- The least and the greatest topology: the reference and the program give alike. No condition but the size of the category. -/
import Derived.Test.YtfbijbginbjecaaGreatPl
namespace Go.Proofs.YtfbijbginbjecaaGreat
open Go Go.Li
set_option linter.unusedSectionVars false

theorem sizeR_le {α:Type} {size:α→Nat} {xs:List α} {B:Nat} (h : ∀ x∈xs,size x≤B):sizeR size xs≤xs.length * B:=by
  unfold sizeR
  induction xs with
  | nil => simp
  | cons x xs ih =>
    have h1:=h x (by simp)
    have h2:=ih fun y hy=>h y (by simp [hy])
    rw [List.map_cons,List.sum_cons,List.length_cons,Nat.succ_mul]; omega
def topZ:MTopology:=MTopology.mk (MCategory.mk (0:Int) [] [] [] []) []
theorem topZ_small:TopSmall topZ∧topCells topZ≤4611686018427387000:=
  ⟨⟨⟨Nat.zero_le _,Nat.zero_le _,Nat.zero_le _,Nat.zero_le _,fun _ h=>nomatch h⟩,Nat.zero_le _,fun _ h=>nomatch h⟩,Nat.zero_le _⟩
section
variable {c : MCategory} (H : Cat c)
include H
theorem cov_small {ls:List (List (List Int))} {q:Int→List Int→Bool} (hc:catSize c≤1048576) (h:Lists c c.Objects.toNat ls) :
    TopSmall (MTopology.mk c (covP ls q))∧topCells (MTopology.mk c (covP ls q))≤4611686018427387000:=by
  have ho:=H.o0
  have ho8:=H.o8
  have hm:=H.m
  have hlen:=h.len
  have hl:(covP ls q).length=ls.length:=mapI_length _ _
  have hr : ∀ r∈covP ls q,r.length≤16∧∀ s∈r,s.length≤40:=fun r hr=>by
    obtain ⟨x,⟨h0,h1⟩,rfl⟩:=mapI_mem.1 hr
    have st:=Lists.sv H h (i:=x) h0 (by omega)
    refine ⟨Nat.le_trans (List.length_filter_le _ _) st.len,fun s hs=>?_⟩
    have:=(SvList.sv H st s (List.mem_filter.1 hs).1).len
    omega
  refine ⟨⟨catSmall_of hc,by show (covP ls q).length≤_; omega,fun r hx=>⟨by have:=(hr r hx).1; omega,fun s hs=>by have:=(hr r hx).2 s hs; omega⟩⟩,?_⟩
  have h3:s3 (covP ls q)≤(covP ls q).length * (16 * 40):=sizeR_le fun r hx=>Nat.le_trans (sizeR_le (B:=40) fun s hs=>by rw [s1_eq]; exact (hr r hx).2 s hs) (Nat.mul_le_mul_right _ (hr r hx).1)
  have h4:(covP ls q).length * (16 * 40)≤8 * (16 * 40):=Nat.mul_le_mul_right _ (by omega)
  show c.From.length + c.To.length + c.Identity.length + s2 c.Composites + s3 (covP ls q)≤_
  rw [s2_eq]
  unfold catSize at hc
  omega

theorem specCategoryNo {k:Nat} {ls:List (List (List Int))} (hs:CatSmall c) (hcat:catB c=true) (hk:k < c.Objects.toNat) (h:Lists c k ls) (hn:Found c k none) :
    spec_l27Category c=some (ML27Table.mk (MCategory.mk (0:Int) [] [] [] []) [] [] [],[],3):=by
  unfold spec_l27Category
  rw [specIs hs,some_bind',hcat,Bool.not_true,cond_false]
  unfold spec_l27Make
  rw [specListsNo H hk h hn,some_bind',Bool.not_false,cond_true]
  rfl
theorem chosenNo {k:Nat} {ls:List (List (List Int))} {cov:Int→List Int→Option Bool} (hs:CatSmall c) (hcat:catB c=true) (hk:k < c.Objects.toNat) (h:Lists c k ls) (hn:Found c k none) :
    impl_chosenTopology c cov=some (topZ,3):=by
  unfold impl_chosenTopology
  rw [implIs hs,some_bind',hcat,Bool.not_true,cond_false]
  unfold impl_coverageOf
  rw [implClassifierNo H hs hk h hn,some_bind']
  rfl
theorem chosenBad {c:MCategory} {cov:Int→List Int→Option Bool} (hs:CatSmall c) (hcat:catB c=false):impl_chosenTopology c cov=some (topZ,1):=by
  have _:=H
  unfold impl_chosenTopology
  rw [implIs hs,some_bind',hcat,Bool.not_false,cond_true]; rfl

theorem marksX_get {ls:List (List (List Int))} {q:Int→List Int→Bool} {i j:Nat} (hi:i < ls.length):(marksX ls q i j)[i]? = some (rowM (gl ls i) (q i) j):=by
  have _:=H
  unfold marksX
  rw [mapI_get _ hi]
  unfold rowX
  rw [if_neg (by omega),if_pos rfl]

end
end Go.Proofs.YtfbijbginbjecaaGreat
