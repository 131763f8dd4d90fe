/- The law on monadic adjunctions, on plain data. No condition beside those that each theorem names. -/
import Derived.Test.YtcnehblmgfbfoaaGreatKj
set_option linter.unusedVariables false
set_option linter.unusedSectionVars false
set_option linter.unusedSimpArgs false
namespace Go.Proofs.YtcnehblmgfbfoaaGreat
open Go Go.Li
structure qY (f:aN):Prop where
 s:vY f.aA
 t:vY f.aF
 o:f.aE.length≤9223372036854775807
 a:f.ab.length≤9223372036854775807
structure qB (a:bI):Prop where
 l:qY a.Left
 r:qY a.ae
 u:a.Unit.length≤9223372036854775807
 k:a.aw.length≤9223372036854775807
def gx (f:aN):Nat:=fh f.aA+fh f.aF+f.aE.length+f.ab.length
def p5 (a:bI):Nat:=gx a.Left+gx a.ae+a.Unit.length+a.aw.length
theorem Jm {f:aN} {k:Int} (k0:0≤k) (k1:k≤1048576) (hl:qY f):lW f k=some (if (gx f:Int)≤k then k - gx f else -1):=by
 unfold lW
 obtain ⟨h1,h2,h3,h4⟩:=hl
 have ex:(gx f:Int)=fh f.aA+fh f.aF+f.aE.length+f.ab.length:=by unfold gx; omega
 rw [Jn (by omega) (by omega) h1,aB]
 by_cases c1:(fh f.aA:Int)≤k
 ·rw [if_pos c1,av (by omega),cond_false,Jn (by omega) (by omega) h2,aB]
  by_cases c2:(fh f.aF:Int)≤k - fh f.aA
  ·rw [if_pos c2,av (by omega),cond_false,B3 f.aE (by omega) (by omega) h3,aB]
   by_cases c3:(f.aE.length:Int)≤k - fh f.aA - fh f.aF
   ·rw [if_pos c3,av (by omega),cond_false,B3 f.ab (by omega) (by omega) h4,aB]
    by_cases c4:(f.ab.length:Int)≤k - fh f.aA - fh f.aF - f.aE.length
    ·rw [if_pos c4,av (by omega),cond_false,if_pos (by omega)]
     show some _=_
     congr 1
     omega
    ·rw [if_neg c4,ao (by omega),cond_true,if_neg (by omega)]; rfl
   ·rw [if_neg c3,ao (by omega),cond_true,if_neg (by omega)]; rfl
  ·rw [if_neg c2,ao (by omega),cond_true,if_neg (by omega)]; rfl
 ·rw [if_neg c1,ao (by omega),cond_true,if_neg (by omega)]; rfl
theorem T6 {a:bI} {k:Int} (k0:0≤k) (k1:k≤1048576) (hl:qB a):lO a k=some (if (p5 a:Int)≤k then k - p5 a else -1):=by
 unfold lO
 obtain ⟨h1,h2,h3,h4⟩:=hl
 have ex:(p5 a:Int)=gx a.Left+gx a.ae+a.Unit.length+a.aw.length:=by unfold p5; omega
 rw [Jm (by omega) (by omega) h1,aB]
 by_cases c1:(gx a.Left:Int)≤k
 ·rw [if_pos c1,av (by omega),cond_false,Jm (by omega) (by omega) h2,aB]
  by_cases c2:(gx a.ae:Int)≤k - gx a.Left
  ·rw [if_pos c2,av (by omega),cond_false,B3 a.Unit (by omega) (by omega) h3,aB]
   by_cases c3:(a.Unit.length:Int)≤k - gx a.Left - gx a.ae
   ·rw [if_pos c3,av (by omega),cond_false,B3 a.aw (by omega) (by omega) h4,aB]
    by_cases c4:(a.aw.length:Int)≤k - gx a.Left - gx a.ae - a.Unit.length
    ·rw [if_pos c4,av (by omega),cond_false,if_pos (by omega)]
     show some _=_
     congr 1
     omega
    ·rw [if_neg c4,ao (by omega),cond_true,if_neg (by omega)]; rfl
   ·rw [if_neg c3,ao (by omega),cond_true,if_neg (by omega)]; rfl
  ·rw [if_neg c2,ao (by omega),cond_true,if_neg (by omega)]; rfl
 ·rw [if_neg c1,ao (by omega),cond_true,if_neg (by omega)]; rfl
theorem xA {c:aJ} (h:fh c≤1048576):ew c:=by
 have hr:∀ y∈c.aG,y.length≤ny c.aG:=fun y hy=>by
  obtain ⟨i,hi,rfl⟩:=List.getElem_of_mem hy
  have:=zB (List.getElem?_eq_getElem hi)
  have:=vz c.aG (i+1)
  omega
 unfold fh at h
 exact ⟨by omega,by omega,by omega,by omega,fun y hy=>by have:=hr y hy; omega⟩
theorem xB {f:aN} (h:gx f≤1048576):fq f:=by
 unfold gx at h
 exact ⟨xA (by omega),xA (by omega),by omega,by omega⟩
theorem Cp {a:bI} (h:p5 a≤1048576):qn a:=by
 unfold p5 at h
 exact ⟨xB (by omega),xB (by omega),by omega,by omega⟩
theorem toxH {f:aN} (h:gx f≤1048576):lX f=some f:=by
 unfold gx at h
 unfold lX
 rw [togj (by omega),aB,togj (by omega),aB,toS _ (by omega),aB,toS _ (by omega),aB]; rfl
theorem toAdj {a:bI} (h:p5 a≤1048576):iD a=some a:=by
 unfold p5 at h
 unfold iD
 rw [toxH (by omega),aB,toxH (by omega),aB,toS _ (by omega),aB,toS _ (by omega),aB]; rfl
theorem An {f:aN} (h:fq f):lY f f=some true:=by
 have h3:=h.o
 have h4:=h.a
 unfold lY
 rw [Ao h.s,aB,Ao h.t,aB,D7 _ _ (by omega),aB,D7 _ _ (by omega),aB]
 simp only [beq_self_eq_true,Bool.not_true,cond_false]
 rfl
theorem HG {a:bI} (h:qn a):lP a a=some true:=by
 have h3:=h.u
 have h4:=h.k
 unfold lP
 rw [An h.l,aB,An h.r,aB,D7 _ _ (by omega),aB,D7 _ _ (by omega),aB]
 simp only [beq_self_eq_true,Bool.not_true,cond_false]
 rfl
theorem Fw {x0:bI} (hl:qB x0):jD x0=some true:=by
 unfold jD
 rw [T6 (by omega) (by omega) hl,aB]
 by_cases c:(p5 x0:Int)≤1048576
 ·have h:p5 x0≤1048576:=by omega
  have hs:=Cp h
  rw [if_pos c,av (by omega),cond_false,toAdj h,aB,Fu hs,aB,aB,Fv hs,aB]
  simp only [beq_self_eq_true,bne_self_eq_false,Bool.not_true,cond_false,aB,HG hs]
  rfl
 ·rw [if_neg c,ao (by omega),cond_true]; rfl
end Go.Proofs.YtcnehblmgfbfoaaGreat
