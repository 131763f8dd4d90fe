/- Tables told by two numbers: loops in loops that fill a list, and what stands where. No condition beside those that each theorem names. -/
import Derived.Test.YtjfahghkjblgjaaGreatPk
namespace Go.Proofs.YtjfahghkjblgjaaGreat
open Go Go.Li
section
variable {S S1 R β:Type} {body:S1→Option (Out S1 R)} {k:Nat} {f:S1→Option (Out S R)} {s0':S1}
end
theorem gi_mapI {n:Nat} {g:Int→Int} {i:Int} (h0:0≤i) (h1:i < n):gi (mapI n g) i=g i:=by
 obtain ⟨k,rfl⟩ : ∃ k:Nat,i=k:=⟨i.toNat,by omega⟩
 have h:=mapI_get g (i:=k) (n:=n) (by omega)
 unfold gi
 rw [List.getD_eq_getElem?_getD,show ((k:Int)).toNat=k from rfl,h]; rfl
end Go.Proofs.YtjfahghkjblgjaaGreat
