/- Natural isomorphisms: the inverse of one, and the law, on plain data. No condition beside those that each theorem names. -/
import Derived.Test.YtbhhmalgcnhniaaGreatVy
namespace Go.Proofs.YtbhhmalgcnhniaaGreat
open Go Go.Li
set_option linter.unusedVariables false
set_option linter.unusedSectionVars false
set_option linter.unusedSimpArgs false
def CI (f:aJ) (c:List Int):Bool:=c.all (yu f.aB)
section
variable {f g:aJ} (T:HZ f g)
include T
end
section
variable {f g:aJ} {c:List Int} (hc:je ⟨f,g,c⟩ = true)
include hc
theorem PK:gG ⟨f,g,c⟩ = some (CI f c):=by
 have N:=yV hc
 have pl:(c.length:Int)=f.aD.aA:=N.pl
 have co:=N.f.c.o8
 dsimp only at co
 have FI:∀ i:Nat,i < c.length→fR ⟨f,g,c⟩ (i:Int)=bif !(yu f.aB (gi c i)) then some (.ret false) else some (.norm ((i+1:Nat):Int)):=by
  intro i hi
  have cp:0≤gi c i∧gi c i < f.aB.aF.length:=N.cp (x:=(i:Int)) (by omega) (show (i:Int) < f.aD.aA by omega)
  obtain ⟨y,h1,h2⟩:=PL N.f.d cp.1 cp.2
  dsimp only at h1 h2
  unfold fR
  dsimp only
  rw [ao (by omega),cond_true,bL (by omega) (by omega),aE,h1,aE,bF (by omega)]
  rcases h2 with ⟨h2,h3,_⟩ | ⟨h2,h3⟩
  ·rw [h2,ay (by omega)]; rfl
  ·rw [h2,ao (by omega)]; rfl
 unfold gG
 rw [nr (n:=c.length) (fun i=>!(yu f.aB (gi c i))) FI (by unfold fR; dsimp only; rw [ay (by omega),cond_false])]
 have:CI f c = !((ns c.length).any fun i=>!(yu f.aB (gi c i))):=by
  unfold CI
  rw [Bool.eq_iff_iff,Bool.not_eq_true',br,List.all_eq_true]
  refine ⟨fun h i i0 i1=>?_,fun h x hx=>?_⟩
  ·rw [h _ (eh i0 i1)]; rfl
  ·obtain ⟨i,hi,rfl⟩:=List.mem_iff_getElem.1 hx
   have:=h (i:Int) (by omega) (by omega)
   unfold gi at this
   rw [List.getD_eq_getElem?_getD,Int.toNat_natCast,List.getElem?_eq_getElem hi] at this
   simpa using this
 rw [this]
 cases (ns c.length).any fun i=>!(yu f.aB (gi c i)) <;> rfl
theorem KJ (fs:gq f) (gs:gq g):gH ⟨f,g,c⟩ = some (CI f c,0):=by
 have N:=yV hc
 have pl:(c.length:Int)=f.aD.aA:=N.pl
 have co:=N.f.c.o8
 dsimp only at co
 unfold gH
 rw [BU ⟨fs,gs,by show c.length≤_; omega⟩,aE,hc,Bool.not_true,cond_false,PK hc,aE]; rfl
end
section
variable {f g:aJ} {c:List Int} (hc:je ⟨f,g,c⟩ = true) (hi:CI f c=true)
include hc hi
end
end Go.Proofs.YtbhhmalgcnhniaaGreat
