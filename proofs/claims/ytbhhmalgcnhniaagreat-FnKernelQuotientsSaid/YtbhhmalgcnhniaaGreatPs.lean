/- Whether a functor is an equivalence: both sides test alike, and what the test says. No condition beside those that each theorem names. -/
import Derived.Test.YtbhhmalgcnhniaaGreatTn
import Derived.Test.YtbhhmalgcnhniaaGreatVu
set_option linter.unusedVariables false
set_option linter.unusedSectionVars false
set_option linter.unusedSimpArgs false
namespace Go.Proofs.YtbhhmalgcnhniaaGreat
open Go Go.Li
set_option linter.unusedVariables false
set_option linter.unusedSectionVars false
set_option linter.unusedSimpArgs false
theorem IQ (c:aC) (x y:Int):(uU c x y).length≤c.aA.length:=Nat.le_trans (List.length_filter_le _ _) (by rw [bR]; exact Nat.le_refl _)
section
variable {c:aC} (T:T7 c)
include T
end
section
variable {c:aC} (H:l3 c)
include H
end
theorem MJ {a b:List Int} {x:Int} (h:x∈a):gi b x∈thenS a b:=by
 obtain ⟨j,j0,j1,rfl⟩:=rL h
 rw [← zf j0 j1]
 exact ib j0 (by rw [sQ]; exact j1)
def EZ (f:aO):Bool:=(ns f.aH.aD.toNat).any fun x=>(ns f.aH.aD.toNat).any fun y=>(uU f.aL (gi f.aD x) (gi f.aD y)).any fun b=>!(hasB (thenS (uU f.aH x y) f.an) b)
def wF (f:aO):Bool:=(ns f.aH.aA.length).any fun a=>(ns a.toNat).any fun b=>(gi f.an a == gi f.an b) && (gi f.aH.aA a == gi f.aH.aA b && gi f.aH.To a == gi f.aH.To b)
theorem Pp {S R:Type} {body:Int→Option (Out Int R)} {k:Nat} {f:Int→Option (Out S R)} (l:List Int) (p:Int→Bool) {y:R}
  (h:∀ (i:Nat) (g:Int),l[i]? = some g→body (i:Int)=bif p g then some (.ret y) else some (.norm ((i+1:Nat):Int))) (last:body (l.length:Int)=some (.exit k (l.length:Int))) :
  ae (ab k (aj body (0:Int))) f=bif l.any p then some (.ret y) else f (l.length:Int):=by
 refine (mf l p (fun i=>(i:Int)) rfl (e:=(l.length:Int)) (y:=y) (fun i g hg hp=>by rw [h i g hg,hp]; rfl) (fun i g hg hp=>by rw [h i g hg,hp]; rfl) last).trans ?_
 cases l.any p <;> rfl
section
variable {a b:aC} {f:aO} (T:T7 a) (U:T7 b) (F:FF a b f)
include T U F
end
section
variable {f:aO} (hf:ox f=true)
include hf
theorem RR (x y:Int):∀ a∈uU f.aH x y,0≤a∧a < f.an.length:=fun a ha=>by
 have F:=uV hf
 have:=(DW.1 ha).1
 have al:=F.al
 omega
theorem Pq:eM f=some (!(EZ f)):=by
 have F:=uV hf
 have C:=F.c
 have D:=F.d
 have o0:=C.o0
 have o8:=C.o8
 have cm:=C.m
 have dm:=D.m
 unfold eM EZ
 rw [ui (n:=f.aH.aD.toNat) (fun x=>(ns f.aH.aD.toNat).any fun y=>(uU f.aL (gi f.aD x) (gi f.aD y)).any fun b=>!(hasB (thenS (uU f.aH x y) f.an) b)) (y:=false) (fun i hi=>?_) (by unfold iQ; rw [br (by omega),cond_false])]
 ·cases (ns f.aH.aD.toNat).any _ <;> rfl
 ·unfold iQ
  rw [bm (by omega),cond_true,ui (n:=f.aH.aD.toNat) (fun y=>(uU f.aL (gi f.aD i) (gi f.aD y)).any fun b=>!(hasB (thenS (uU f.aH i y) f.an) b)) (y:=false) (fun j hj=>?_) (by unfold iP; rw [br (by omega),cond_false])]
  ·rw [bI (by omega)]
  ·have l1:=IQ f.aH (i:Int) (j:Int)
   have l2:=IQ f.aL (gi f.aD i) (gi f.aD j)
   unfold iP
   rw [bm (by omega),cond_true,Vx C,aE]
   show ((mU (uU f.aH i j) f.an)>>=_)=_
   rw [G9 _ _ (by omega) (RR hf _ _),aE,F.Ay (by omega) (by omega),aE,F.Ay (by omega) (by omega),aE,Vx D,aE]
   show ae (ab 4 (aj (fC (thenS (uU f.aH i j) f.an) (uU f.aL (gi f.aD i) (gi f.aD j))) (0:Int))) _=_
   rw [Pp (uU f.aL (gi f.aD i) (gi f.aD j)) (fun b=>!(hasB (thenS (uU f.aH i j) f.an) b)) (y:=false) (fun k b hb=>?_) (by unfold fC; rw [br (by omega),cond_false]),bI (by omega)]
   have hk:=db hb
   unfold fC
   rw [bm (by omega),cond_true,fj,hb,aE,RN _ _ (by rw [sQ]; omega),aE,bI (by omega)]
theorem MK:dA f=some (!(wF f)):=by
 have F:=uV hf
 have C:=F.c
 have cm:=C.m
 have al:=F.al
 unfold dA wF
 rw [ui (n:=f.aH.aA.length) (fun a=>(ns a.toNat).any fun b=>(gi f.an a == gi f.an b) && (gi f.aH.aA a == gi f.aH.aA b && gi f.aH.To a == gi f.aH.To b)) (y:=false) (fun a ha=>?_) (by unfold fU; rw [br (by omega),cond_false])]
 ·cases (ns f.aH.aA.length).any _ <;> rfl
 ·have hc:DN f.an (0:Int) (a:Int)=some (f.an.take a):=by
   unfold DN
   rw [bm (by omega),cond_true]; simp
  have hl:(f.an.take a).length=a:=by rw [List.length_take]; omega
  unfold fU
  rw [bm (by omega),cond_true,hc,aE,ui (n:=a) (fun b=>(gi f.an a == gi f.an b) && (gi f.aH.aA a == gi f.aH.aA b && gi f.aH.To a == gi f.aH.To b)) (y:=false) (fun b hb=>?_) (by unfold fT; rw [br (by omega),cond_false]),bI (by omega)]
  ·rfl
  ·unfold fT
   rw [bm (by omega),cond_true,F.tF (by omega) (by omega),aE,F.tF (by omega) (by omega),aE,Au C.tooM.toHead (by omega) (by omega),aE,Au C.tooM.toHead (by omega) (by omega),aE,bI (by omega)]
   cases gi f.an (a:Int) == gi f.an (b:Int) <;> rfl
end
end Go.Proofs.YtbhhmalgcnhniaaGreat
