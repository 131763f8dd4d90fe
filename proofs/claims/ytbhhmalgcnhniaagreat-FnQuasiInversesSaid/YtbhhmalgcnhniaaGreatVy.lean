/- Inverses; the reference's search in depth for a natural isomorphism finds the first one of the enumeration. No condition beside those that each theorem names. -/
import Derived.Test.YtbhhmalgcnhniaaGreatVw
import Derived.Test.YtbhhmalgcnhniaaGreatYn
namespace Go.Proofs.YtbhhmalgcnhniaaGreat
open Go Go.Li
set_option linter.unusedVariables false
set_option linter.unusedSectionVars false
set_option linter.unusedSimpArgs false
def uP (c:aG) (f g:Int):Bool:=gk c.aC f g == gi c.aH (gi c.aF f) && gk c.aC g f == gi c.aH (gi c.To f)
def yu (c:aG) (f:Int):Bool:=(ns c.aF.length).any fun g=>Ao c (gi c.To f) (gi c.aF f) g && uP c f g
section
variable {c:aG} (H:lr c) {f:Int} (f0:0≤f) (f1:f < c.aF.length)
include H f0 f1
theorem PL:∃ y,dZ c f=some y∧((yu c f=true∧(0≤y∧y < c.aF.length)∧Ao c (gi c.To f) (gi c.aF f) y=true∧uP c f y=true)∨(yu c f=false∧y = -1)):=by
 have hm:=H.m
 have hf:=H.fr f0 f1
 have ht:=H.to f0 f1
 unfold dZ
 rw [H.ic f0 f1,aE,H.ig f0 f1,aE,yt H,aE]
 generalize hL:(ns c.aF.length).filter (Ao c (gi c.To f) (gi c.aF f))=l
 have ES:∀ g∈l,(0≤g∧g < c.aF.length)∧Ao c (gi c.To f) (gi c.aF f) g=true:=fun g hg=>by
  rw [← hL] at hg
  obtain ⟨h1,h2⟩:=List.mem_filter.1 hg
  exact ⟨dh.1 h1,h2⟩
 have QU:l.length≤c.aF.length:=by rw [← hL]; exact Nat.le_trans (List.length_filter_le _ _) (by rw [cN]; exact Nat.le_refl _)
 have FI:∀ (i:Nat) g,l[i]? = some g→dF c f (gi c.aF f) (gi c.To f) l (i:Int)=bif uP c f g then some (.ret g) else some (.norm ((i+1:Nat):Int)):=by
  intro i g hg
  have hr:=(ES g (List.mem_of_getElem? hg)).1
  have hi:=bb hg
  unfold dF uP
  rw [ao (by omega),cond_true,bu,hg,aE,H.tosA.jv f0 f1 hr.1 hr.2,aE,H.kz hf.1 hf.2,aE,H.tosA.jv hr.1 hr.2 f0 f1,aE,H.kz ht.1 ht.2,aE,bF (by omega)]
  cases gk c.aC f g == gi c.aH (gi c.aF f) <;> rfl
 have V4:l.any (uP c f)=yu c f:=by rw [← hL,any_filter']; rfl
 rcases sz (s0:=(0:Int)) (k:=0) (f:=fun _=>some (Out.ret (S:=Unit) (-1:Int))) l (uP c f) (fun y:Int=>y∈l∧uP c f y=true) (fun i=>(i:Int)) rfl (e:=(l.length:Int)) (body:=dF c f (gi c.aF f) (gi c.To f) l)
  (fun i g hg hp=>by rw [FI i g hg,hp]; rfl) (fun i g hg hp=>⟨g,by rw [FI i g hg,hp]; rfl,List.mem_of_getElem? hg,hp⟩) (by unfold dF; rw [ay (by omega),cond_false]) with ⟨h1,y,h2,h3,h4⟩ | ⟨h1,h2⟩
 ·exact ⟨y,by rw [h2]; rfl,.inl ⟨by rw [← V4]; exact h1,(ES y h3).1,(ES y h3).2,h4⟩⟩
 ·exact ⟨-1,by rw [h2]; rfl,.inr ⟨by rw [← V4]; exact h1,rfl⟩⟩
end
section
variable {f g:aJ} (T:HZ f g)
include T
end
end Go.Proofs.YtbhhmalgcnhniaaGreat
namespace Go.Proofs.YtbhhmalgcnhniaaGreat
open Go Go.Li
set_option linter.unusedVariables false
set_option linter.unusedSectionVars false
set_option linter.unusedSimpArgs false
section
variable {f g:aJ} {c:List Int} (hc:je ⟨f,g,c⟩ = true)
include hc
end
section
variable {f g:aJ} (T:HZ f g)
include T
end
end Go.Proofs.YtbhhmalgcnhniaaGreat
