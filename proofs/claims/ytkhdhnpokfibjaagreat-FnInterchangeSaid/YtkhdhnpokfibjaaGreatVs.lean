/- Natural maps composed by the program: composites of natural maps are natural; parts that leave all as it is. No condition beside those that each theorem names. -/
import Derived.Test.YtkhdhnpokfibjaaGreatRu
import Derived.Test.YtkhdhnpokfibjaaGreatVl
import Derived.Test.YtkhdhnpokfibjaaGreatVj
namespace Go.Proofs.YtkhdhnpokfibjaaGreat
open Go Go.Li
theorem likeI (x y:List Int) (hx:x.length≤1048576000):gF x y=some (x == y):=eqM_ok x y hx
theorem same2I (x y:List (List Int)) (hx:x.length≤1048576000) (hr:∀ z∈x,z.length≤1048576000):qB x y=some (x == y):=eqMM_ok x y hx hr
theorem same9C {c:aI} (h:CatSmall c):kX c c=some true:=by
 unfold kX
 have h1:=h.f
 have h2:=h.t
 have h3:=h.i
 have h4:=h.k
 rw [show (c.aD == c.aD)=true by simp,cond_true,likeI _ _ (by omega),aH,beq_self_eq_true,cond_true,likeI _ _ (by omega),aH,beq_self_eq_true,cond_true,likeI _ _ (by omega),aH,beq_self_eq_true,cond_true,same2I _ _ (by omega) (fun z hz=>by have:=h.r z hz; omega),aH,beq_self_eq_true]
 rfl
theorem thenS_at {a b:List Int} {e:Int} (h0:0≤e) (h1:e < a.length):gi (thenS a b) e=gi b (gi a e):=gi_mapI h0 h1
theorem thenS_mem {a b:List Int} {y n:Int} (hb:∀ x∈a,0≤x∧x < b.length) (hn:∀ z∈b,0≤z∧z < n) (hy:y∈thenS a b):0≤y∧y < n:=by
 obtain ⟨i,hi,rfl⟩:=mapI_mem.1 hy
 have h:=hb _ (gi_mem hi.1 hi.2)
 exact hn _ (gi_mem h.1 h.2)
section
end
theorem gi_ext {a b:List Int} (hl:a.length=b.length) (h:∀ x:Int,0≤x→x < b.length→gi a x=gi b x):a=b:=by
 refine List.ext_getElem hl fun i h1 h2=>?_
 have:=h i (by omega) (by omega)
 unfold gi at this
 rw [List.getD_eq_getElem?_getD,List.getD_eq_getElem?_getD,show ((i:Int)).toNat=i from rfl,List.getElem?_eq_getElem h1,List.getElem?_eq_getElem h2] at this
 exact this
end Go.Proofs.YtkhdhnpokfibjaaGreat
