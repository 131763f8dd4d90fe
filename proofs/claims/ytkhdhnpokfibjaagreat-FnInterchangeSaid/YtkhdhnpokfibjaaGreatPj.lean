/- All sieves at an object: the reference's search in depth and the program's search in breadth find the same list. No condition beside those that each theorem names. -/
import Derived.Test.YtkhdhnpokfibjaaGreatPh
import Derived.Test.YtkhdhnpokfibjaaGreatPa
namespace Go.Li
open Go
end Go.Li
namespace Go.Proofs.YtkhdhnpokfibjaaGreat
open Go Go.Li
set_option linter.unusedSectionVars false
structure Sv (c:aI) (x:Int) (s:List Int):Prop where
 form:s=(ns c.aG.length).filter (hasB s)
 src:∀ y∈s,gi c.aG y=x
 closed:∀ y∈s,∀ b:Int,0≤b→b < c.aG.length→gi c.To y=gi c.aG b→gk c.aF y b∈s
theorem Sv.arr {c:aI} {x:Int} {s:List Int} (h:Sv c x s):Arr c s:=fun a ha=>by
 rw [h.form] at ha; exact ns_mem.1 (List.mem_filter.1 ha).1
theorem Sv.len {c:aI} {x:Int} {s:List Int} (h:Sv c x s):s.length≤c.aG.length:=by
 rw [h.form]; exact Nat.le_trans (List.length_filter_le _ _) (by rw [fB]; exact Nat.le_refl _)
theorem Sv.nil (c:aI) (x:Int):Sv c x []:=⟨by rw [List.filter_eq_nil_iff.2]; intro a _; simp [hasB],fun _ h=>(nomatch h),fun _ h=>(nomatch h)⟩
theorem close_mem {c:aI} {A:List Int} {a:Int}:a∈closeS c A↔(0≤a∧a < c.aG.length)∧∃ y∈A,∃ b:Int,(0≤b∧b < c.aG.length)∧gi c.To y=gi c.aG b∧gk c.aF y b=a:=by
 unfold closeS clP
 rw [List.mem_filter,ns_mem]
 simp only [List.any_eq_true,Bool.and_eq_true,beq_iff_eq]
 constructor
 ·rintro ⟨h,y,hy,b,hb,e1,e2⟩; exact ⟨h,y,hy,b,ns_mem.1 hb,e1,e2⟩
 ·rintro ⟨h,y,hy,b,hb,e1,e2⟩; exact ⟨h,y,hy,b,ns_mem.2 hb,e1,e2⟩
theorem filter_form {n:Nat} {p:Int→Bool}:(ns n).filter p=(ns n).filter (hasB ((ns n).filter p)):=by
 apply List.filter_congr
 intro a ha
 rw [Bool.eq_iff_iff,hasB_iff,List.mem_filter]
 exact ⟨fun h=>⟨ha,h⟩,fun h=>h.2⟩
section
variable {c:aI} (H:Cat c) {x:Int}
include H
theorem close_sub {A:List Int} (hA:Arr c A):∀ y∈A,y∈closeS c A:=fun y hy=>by
 have h:=hA y hy
 have ht:=H.to h.1 h.2
 have hi:=H.id ht.1 ht.2
 exact close_mem.2 ⟨h,y,hy,_,hi,(H.idf _ ht.1 ht.2).symm,H.unitR y h.1 h.2⟩
theorem close_sv {A:List Int} (hA:Arr c A) (hs:∀ y∈A,gi c.aG y=x):Sv c x (closeS c A):=by
 refine ⟨filter_form,fun y hy=>?_,fun z hz b b0 b1 e=>?_⟩
 ·obtain ⟨_,z,hz,b,hb,e1,e2⟩:=close_mem.1 hy
  have h:=hA z hz
  rw [← e2,(H.cell z b h.1 h.2 hb.1 hb.2 e1).2.2.1]
  exact hs z hz
 ·obtain ⟨hz0,y,hy,a,ha,e1,e2⟩:=close_mem.1 hz
  have h:=hA y hy
  have c1:=H.cell y a h.1 h.2 ha.1 ha.2 e1
  have e3:gi c.To a=gi c.aG b:=by rw [← c1.2.2.2,e2]; exact e
  have c2:=H.cell a b ha.1 ha.2 b0 b1 e3
  have c3:=H.cell z b hz0.1 hz0.2 b0 b1 e
  refine close_mem.2 ⟨⟨c3.1,c3.2.1⟩,y,hy,gk c.aF a b,⟨c2.1,c2.2.1⟩,by rw [c2.2.2.1]; exact e1,?_⟩
  rw [← H.assoc y a b h.1 h.2 ha.1 ha.2 b0 b1 e1 e3,e2]
def stepS (c:aI) (s:List Int) (a:Int):List Int:=closeS c (s++[a])
theorem step_arr {s:List Int} {a:Int} (hs:Sv c x s) (ha:a∈outS c x):Arr c (s++[a])∧∀ y∈s++[a],gi c.aG y=x:=by
 have h:=outS_mem.1 ha
 refine ⟨fun y hy=>?_,fun y hy=>?_⟩
 ·rcases List.mem_append.1 hy with h' | h'
  ·exact hs.arr y h'
  ·rw [List.mem_singleton.1 h']; exact h.1
 ·rcases List.mem_append.1 hy with h' | h'
  ·exact hs.src y h'
  ·rw [List.mem_singleton.1 h']; exact h.2
theorem step_sv {s:List Int} {a:Int} (hs:Sv c x s) (ha:a∈outS c x):Sv c x (stepS c s a):=
 close_sv H (step_arr H hs ha).1 (step_arr H hs ha).2
theorem reach_sv {s:List Int} (h:Reaches (outS c x) (stepS c) [] s):Sv c x s:=by
 induction h with
 | base=>exact Sv.nil c x
 | step _ ha ih=>exact step_sv H ih ha
structure SvList (c:aI) (x:Int) (L:List (List Int)):Prop where
 mem:∀ s,s∈L↔Reaches (outS c x) (stepS c) [] s
 nodup:L.Nodup
 len:L.length≤16
theorem SvList.sv {L:List (List Int)} (h:SvList c x L):∀ s∈L,Sv c x s:=fun s hs=>reach_sv H ((h.mem s).1 hs)
inductive Found (c:aI) (x:Int):Option (List (List Int))→Prop
 | few (F:List (List Int)) (h:Finds (outS c x) (stepS c) [] F) (hl:F.length≤16):Found c x (some (F.mergeSort lexLe))
 | many (h:Many (outS c x) (stepS c) 16 []):Found c x none
end
end Go.Proofs.YtkhdhnpokfibjaaGreat
