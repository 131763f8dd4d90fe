/- Composites of transformations: associative, identities are units; the reference's draw of two that fit. No condition beside those that each theorem names. -/
import Derived.Test.YtkcpiblgpnjanaaGreatYn
namespace Go.Proofs.YtkcpiblgpnjanaaGreat
open Go Go.Li
set_option linter.unusedVariables false
set_option linter.unusedSectionVars false
set_option linter.unusedSimpArgs false
section
variable {s t v:aV} (hs:kn s=true) (ht:kn t=true) (hv:kn v=true) (e:s.aE=t.aB) (e2:t.aE=v.aB)
include hs ht hv e e2
end
end Go.Proofs.YtkcpiblgpnjanaaGreat
namespace Go.Proofs.YtkcpiblgpnjanaaGreat
open Go Go.Li
set_option linter.unusedVariables false
set_option linter.unusedSectionVars false
set_option linter.unusedSimpArgs false
theorem JV {f:aL} (h:dv f):lO f f=some true:=by
 unfold lO
 have h1:=h.o
 have h2:=h.a
 rw [NB h.s,aH,cond_true,NB h.t,aH,cond_true,wO _ _ (by omega),aH,beq_self_eq_true,cond_true,wO _ _ (by omega),aH,beq_self_eq_true]
 rfl
theorem SP {m:aV} (h:tD m):mC m m=some true:=by
 unfold mC
 have h1:=h.p
 rw [JV h.s,aH,cond_true,JV h.t,aH,cond_true,wO _ _ (by omega),aH,beq_self_eq_true]
 rfl
theorem adD {s t:aV}:([s,t].all kn)=(kn s && kn t):=by simp
theorem NL {s t:aV} (ss:tD s) (ts:tD t) (hs:kn s=true) (ht:kn t=true) (e:s.aE=t.aB):hJ s t=some (WB s t,0):=by
 have N:=sZ hs
 obtain ⟨h1,h2,h3⟩:=S0 hs ht e
 unfold hJ
 rw [Ls _ (by simp) (fun c hc=>by rcases List.mem_cons.1 hc with rfl | hc; exact ss; rw [List.mem_singleton.1 hc]; exact ts),aH,adD,hs,ht,Bool.and_self,Bool.not_true,cond_false,Lq ss.t,aH,Qv.2 e,Bool.not_true,cond_false,
  Io N.f.d h1 ss.p h2 h3,aH,BO ss.s ts.t (by rw [C8]; exact ss.p),aH]; rfl
theorem SM {f:aL} (fs:dv f) (hf:ig f=true):gA f=some (WC f,0):=by
 unfold gA
 rw [BS fs,aH,hf,Bool.not_true,cond_false,P1 _ _ fs.o (Xa (tC hf)),aH,BO fs fs (by rw [yi]; exact fs.o),aH]; rfl
section
variable {s t:aV} (ss:tD s) (ts:tD t)
include ss ts
end
end Go.Proofs.YtkcpiblgpnjanaaGreat
