/- Tables told by two numbers: loops in loops that fill a list, and what stands where. No condition beside those that each theorem names. -/
import Derived.Test.YtacpfhajafmigaaGreatPk
import Derived.Test.YtacpfhajafmigaaGreatPe
namespace Go.Proofs.YtacpfhajafmigaaGreat
open Go Go.Li
section
variable {S S1 R β:Type} {body:S1→Option (Out S1 R)} {k:Nat} {f:S1→Option (Out S R)} {s0':S1}
theorem app_loop (n:Nat) (g:Int→β) (acc0:List β) (pk:List β→Nat→S1) (e0:pk acc0 0=s0')
  (step:∀ i acc,i < n→acc.length=acc0.length+i→body (pk acc i)=some (.norm (pk (acc++[g i]) (i+1)))) (last:∀ acc,acc.length=acc0.length+n→body (pk acc n)=some (.exit k (pk acc n))) :
  lbind (blockM k (loopM body s0')) f=f (pk (acc0++mapI n g) n):=by
 refine (map_loop n g (fun acc i=>pk (acc0++acc) i) (by rw [List.append_nil]; exact e0) (fun i acc hi ha=>?_) fun acc ha=>?_)
 ·rw [step i _ hi (by rw [List.length_append,ha]),List.append_assoc]
 ·exact last _ (by rw [List.length_append,ha])
end
theorem gi_mapI {n:Nat} {g:Int→Int} {i:Int} (h0:0≤i) (h1:i < n):gi (mapI n g) i=g i:=by
 obtain ⟨k,rfl⟩ : ∃ k:Nat,i=k:=⟨i.toNat,by omega⟩
 have h:=mapI_get g (i:=k) (n:=n) (by omega)
 unfold gi
 rw [List.getD_eq_getElem?_getD,show ((k:Int)).toNat=k from rfl,h]; rfl
end Go.Proofs.YtacpfhajafmigaaGreat
namespace Go.Proofs.YtacpfhajafmigaaGreat
open Go Go.Li
theorem mapI_map {β γ:Type} (n:Nat) (g:Int→β) (h:β→γ):(mapI n g).map h=mapI n fun i=>h (g i):=by
 induction n with
 | zero=>rfl
 | succ n ih=>rw [mapI_succ,mapI_succ,List.map_append,ih]; rfl
structure Ty (c:aI):Prop where
 o0:0≤c.aH
 f:∀ x∈c.aG,0≤x∧x < c.aH
 tl:c.To.length=c.aG.length
 t:∀ x∈c.To,0≤x∧x < c.aH
 kl:c.aE.length=c.aG.length
 kr:∀ r∈c.aE,r.length=c.aG.length
 il:(c.aO.length:Int)=c.aH
 i:∀ x∈c.aO,0≤x∧x < c.aG.length
 idf:∀ x:Int,0≤x→x < c.aH→gi c.aG (gi c.aO x)=x
 idt:∀ x:Int,0≤x→x < c.aH→gi c.To (gi c.aO x)=x
 cell:∀ f g:Int,0≤f→f < c.aG.length→0≤g→g < c.aG.length→gi c.To f=gi c.aG g→(0≤gk c.aE f g∧gk c.aE f g < c.aG.length)∧gi c.aG (gk c.aE f g)=gi c.aG f∧gi c.To (gk c.aE f g)=gi c.To g
 none:∀ f g:Int,0≤f→f < c.aG.length→0≤g→g < c.aG.length→gi c.To f≠gi c.aG g→gk c.aE f g = -1
namespace Ty
variable {c:aI} (h:Ty c)
include h
theorem fr {f:Int} (h0:0≤f) (h1:f < c.aG.length):0≤gi c.aG f∧gi c.aG f < c.aH:=h.f _ (gi_mem h0 h1)
theorem to {f:Int} (h0:0≤f) (h1:f < c.aG.length):0≤gi c.To f∧gi c.To f < c.aH:=h.t _ (gi_mem h0 (by rw [h.tl]; exact h1))
theorem id {x:Int} (h0:0≤x) (h1:x < c.aH):0≤gi c.aO x∧gi c.aO x < c.aG.length:=h.i _ (gi_mem h0 (by rw [h.il]; exact h1))
theorem idxF {f:Int} (h0:0≤f) (h1:f < c.aG.length):idx c.aG f=some (gi c.aG f):=have _:=h; bS h0 h1
theorem idxT {f:Int} (h0:0≤f) (h1:f < c.aG.length):idx c.To f=some (gi c.To f):=bS h0 (by rw [h.tl]; exact h1)
theorem idxI {x:Int} (h0:0≤x) (h1:x < c.aH):idx c.aO x=some (gi c.aO x):=bS h0 (by rw [h.il]; exact h1)
theorem idxK {f:Int} (h0:0≤f) (h1:f < c.aG.length):idx c.aE f=some (gr c.aE f):=idx_gr h0 (by rw [h.kl]; exact h1)
theorem row {f:Int} (h0:0≤f) (h1:f < c.aG.length):(gr c.aE f).length=c.aG.length:=h.kr _ (gr_mem h0 (by rw [h.kl]; exact h1))
theorem idxC {f g:Int} (h0:0≤f) (h1:f < c.aG.length) (h2:0≤g) (h3:g < c.aG.length):idx (gr c.aE f) g=some (gk c.aE f g):=bS h2 (by rw [h.row h0 h1]; exact h3)
end Ty
end Go.Proofs.YtacpfhajafmigaaGreat
