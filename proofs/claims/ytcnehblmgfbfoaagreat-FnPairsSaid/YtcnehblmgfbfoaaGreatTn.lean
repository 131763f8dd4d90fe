/- Adjunctions: units and counits as natural transformations, the laws of triangles; transposing there and back; composites. No condition beside those that each theorem names. -/
import Derived.Test.YtcnehblmgfbfoaaGreatYk
import Derived.Test.YtcnehblmgfbfoaaGreatUr
import Derived.Test.YtcnehblmgfbfoaaGreatYn
import Derived.Test.YtcnehblmgfbfoaaGreatVw
set_option linter.unusedVariables false
set_option linter.unusedSectionVars false
set_option linter.unusedSimpArgs false
namespace Go.Proofs.YtcnehblmgfbfoaaGreat
open Go Go.Li
set_option linter.unusedVariables false
set_option linter.unusedSectionVars false
namespace Adj
end Adj
section
end
end Go.Proofs.YtcnehblmgfbfoaaGreat
namespace Go.Proofs.YtcnehblmgfbfoaaGreat
open Go Go.Li
set_option linter.unusedVariables false
set_option linter.unusedSectionVars false
def Gu (c:aD) (z x u:Int):Prop:=(0≤u∧u < c.aB.length)∧gi c.aB u=z∧gi c.To u=x
structure Uni (f:aN) (y x e:Int):Prop where
 x0:0≤x
 x1:x < f.aG.aA
 l:Gu f.aH (gi f.aA x) y e
 ex:∀ z h:Int,0≤z→z < f.aG.aA→Gu f.aH (gi f.aA z) y h→∃ u,Gu f.aG z x u∧gk f.aH.aC (gi f.ae u) e=h
 un:∀ z u v:Int,Gu f.aG z x u→Gu f.aG z x v→gk f.aH.aC (gi f.ae u) e=gk f.aH.aC (gi f.ae v) e→u=v
section
variable {f:aN} {xs es TN us:List Int} (hf:dh f=true) (r9:(xs.length:Int)=f.aH.aA) (BN:(es.length:Int)=f.aH.aA) (xi:TN.length=f.aH.aB.length) (hul:(us.length:Int)=f.aG.aA)
 (hU:∀ y:Int,0≤y→y < f.aH.aA→Uni f y (gi xs y) (gi es y))
 (hA:∀ g:Int,0≤g→g < f.aH.aB.length→Gu f.aG (gi xs (gi f.aH.aB g)) (gi xs (gi f.aH.To g)) (gi TN g)∧gk f.aH.aC (gi f.ae (gi TN g)) (gi es (gi f.aH.To g))=gk f.aH.aC (gi es (gi f.aH.aB g)) g)
 (hS:∀ x:Int,0≤x→x < f.aG.aA→Gu f.aG x (gi xs (gi f.aA x)) (gi us x)∧gk f.aH.aC (gi f.ae (gi us x)) (gi es (gi f.aA x))=gi f.aH.aF (gi f.aA x))
include hf r9 BN xi hul hU hA hS
end
end Go.Proofs.YtcnehblmgfbfoaaGreat
namespace Go.Proofs.YtcnehblmgfbfoaaGreat
open Go Go.Li
set_option linter.unusedVariables false
set_option linter.unusedSectionVars false
section
end
section
end
end Go.Proofs.YtcnehblmgfbfoaaGreat
namespace Go.Proofs.YtcnehblmgfbfoaaGreat
open Go Go.Li
set_option linter.unusedVariables false
set_option linter.unusedSectionVars false
set_option linter.unusedSimpArgs false
def WC (c:aD) (xs:List Int) (i j h:Int):Prop:=((0≤i∧i < xs.length)∧(0≤j∧j < xs.length))∧(0≤h∧h < c.aB.length)∧gi c.aB h=gi xs i∧gi c.To h=gi xs j
structure Fat (c:aD) (xs:List Int) (R:List (List Int)):Prop where
 n:xs.length≤65
 o:∀ x∈xs,0≤x∧x < c.aA
 l:R.length≤300000
 r:∀ r∈R,∃ i j h,r=[i,j,h]∧WC c xs i j h
 a:∀ i j h,WC c xs i j h→[i,j,h]∈R
namespace Fat
variable {c:aD} {xs:List Int} {R:List (List Int)} (F:Fat c xs R)
include F
theorem three:∀ r∈R,r.length=3:=fun r hr=>by obtain ⟨i,j,h,rfl,_⟩:=F.r r hr; rfl
end Fat
section
variable {x:List Int} (B:vx x) {s:aM} (S:Src x s) {c:aD} (T:T7 c)
include B S T
end
end Go.Proofs.YtcnehblmgfbfoaaGreat
namespace Go.Proofs.YtcnehblmgfbfoaaGreat
open Go Go.Li
set_option linter.unusedVariables false
set_option linter.unusedSectionVars false
set_option linter.unusedSimpArgs false
section
variable {c d:aD} {f:aN} (T:T7 c) (U:T7 d) (F:FF c d f)
include T U F
end
section
variable {x:List Int} (B:vx x)
include B
omit B in
end
end Go.Proofs.YtcnehblmgfbfoaaGreat
namespace Go.Proofs.YtcnehblmgfbfoaaGreat
open Go Go.Li
set_option linter.unusedVariables false
set_option linter.unusedSectionVars false
set_option linter.unusedSimpArgs false
section
end
end Go.Proofs.YtcnehblmgfbfoaaGreat
namespace Go.Proofs.YtcnehblmgfbfoaaGreat
open Go Go.Li
set_option linter.unusedVariables false
set_option linter.unusedSimpArgs false
set_option linter.unusedSectionVars false
theorem TO (l:List (List Int)) (hl:l.length≤1048576) (hr:∀ r∈l,r.length≤1048576):kA l l=some true:=by
 unfold kA
 rw [qM rfl,cond_false,yx (n:=l.length) (fun _=>false) (y:=false) (fun i bc=>?_) (by unfold kK; rw [ba (by omega),cond_false])]
 ·rw [show (ns l.length).any (fun _=>false)=false from jf.2 fun _ _ _=>rfl]; rfl
 ·unfold kK
  have hm:=hr _ (pq (l:=l) (j:=(i:Int)) (by omega) (by omega))
  rw [au (by omega),cond_true,qt (by omega) (by omega),aE,aE,wA _ _ (by omega),aE,pI rfl,bD (by omega)]; rfl
theorem Ll {c:aD} (h:dv c):eE c c=some true:=by
 have h1:=h.f
 have h2:=h.t
 have h3:=h.i
 unfold eE
 rw [pI rfl,cond_true,wA _ _ (by omega),aE,pI rfl,cond_true,wA _ _ (by omega),aE,pI rfl,cond_true,wA _ _ (by omega),aE,pI rfl,cond_true,TO _ h.k h.r]; rfl
theorem Ce {f:aN} (h:ew f):dB f f=some true:=by
 have h1:=h.o
 have h2:=h.a
 unfold dB
 rw [Ll h.s,aE,cond_true,Ll h.t,aE,cond_true,wA _ _ (by omega),aE,pI rfl,cond_true,wA _ _ (by omega),aE,pI rfl]; rfl
section
section
end
end
section
variable {x:List Int} (B:vx x)
include B
end
end Go.Proofs.YtcnehblmgfbfoaaGreat
namespace Go.Proofs.YtcnehblmgfbfoaaGreat
open Go Go.Li
set_option linter.unusedVariables false
set_option linter.unusedSectionVars false
set_option linter.unusedSimpArgs false
def ZY (l:List Int):Prop:=∀ y∈l,0≤y∧y < 256
structure ZZ (A:List (List Int)):Prop where
 n:A.length≤300000
 nd:A.Nodup
 l:∀ r∈A,r.length=3
 b:∀ r∈A,ZY r
section
variable {A:List (List Int)} (H:ZZ A)
include H
end
section
variable {A:List (List Int)} (hn:A.length≤300000) (h3:∀ r∈A,r.length=3) {k:Int} (k0:0≤k) (k3:k < 3)
include hn h3 k0 k3
end
def ya (c:aD) (G:Int→Int→Int) (f h:Int):Int:=bif gi c.To f == gi c.aB h then G f h else -1
def qx (c:aD) (G:Int→Int→Int):List (List Int):=bj c.aB.length fun f=>bj c.aB.length fun h=>ya c G f h
theorem set_set {α:Type} (l:List α) (i:Nat) (a b:α):(l.set i a).set i b=l.set i b:=by simp
theorem Az {α:Type} {l:List α} {i:Nat} (h:i < l.length) (a:α):idx (l.set i a) (i:Int)=some a:=by rw [bw,List.getElem?_set_self h]
theorem DD {c:aD} {g:Int→Int→Option Int} {G:Int→Int→Int} (hn:c.aB.length≤1000) (ht:c.To.length=c.aB.length)
  (hg:∀ f h:Int,0≤f→f < c.aB.length→0≤h→h < c.aB.length→gi c.To f=gi c.aB h→g f h=some (G f h)) :
  cQ c g=some (aD.mk c.aA c.aB c.To c.aF (qx c G)):=by
 have tl:(qx c G).length=c.aB.length:=aW _ _
 unfold cQ
 rw [show bB c=some (c.aB.length:Int) from rfl,aE,uK (by omega) (by omega),aE]
 refine (congrArg ED (jj (qx c G) (fun i=>((i:Int),(qx c G).take i++List.replicate ((qx c G).length - i) ([]:List Int))) (e:=((c.aB.length:Int),qx c G)) (by simp [tl]) ?_ ?_)).trans rfl
 ·intro i row bb
  have hi:=bg bb
  rw [tl] at hi
  have hr:row=bj c.aB.length fun h=>ya c G i h:=by
   have:=ja (fun f=>bj c.aB.length fun h=>ya c G f h) hi
   rw [show (qx c G)[i]? = _ from this] at bb
   exact (Option.some.inj bb).symm
  have rl:row.length=c.aB.length:=by rw [hr,aW]
  have fh:((qx c G).take i++List.replicate ((qx c G).length - i) ([]:List Int)).length=c.aB.length:=by simp [tl]; omega
  have sx:=rO (qx c G) ([]:List Int) bb
  have TP:=get_copy (qx c G) ([]:List Int) bb
  generalize (qx c G).take i++List.replicate ((qx c G).length - i) ([]:List Int)=o at fh sx TP
  show dM c g (c.aB.length:Int) c.aB.length (i:Int) o=_
  unfold dM
  rw [List.length_replicate,au (by omega),cond_true,uK (by omega) (by omega),aE,bw,TP,aE,Int.toNat_natCast,Az (by omega),aE]
  refine (jj row (fun j=>((j:Int),o.set i (row.take j++List.replicate (row.length - j) (0:Int)))) (e:=((c.aB.length:Int),o.set i row)) (by simp [rl]) ?_ ?_).trans ?_
  ·intro j v hv
   have hj:=bg hv
   rw [rl] at hj
   have kj:v=ya c G i j:=by
    have:=ja (fun h=>ya c G i h) hj
    rw [hr,show (bj c.aB.length fun h=>ya c G i h)[j]? = _ from this] at hv
    exact (Option.some.inj hv).symm
   have BN:(row.take j++List.replicate (row.length - j) (0:Int)).length=c.aB.length:=by simp; omega
   have Jw:=rO row (0:Int) hv
   have O9:=get_copy row (0:Int) hv
   generalize row.take j++List.replicate (row.length - j) (0:Int)=e at BN Jw O9
   show dL c g (i:Int) (List.replicate c.aB.length (0:Int)) (j:Int) (o.set i e)=_
   unfold dL
   rw [List.length_replicate,au (by omega),cond_true,Az (by omega),aE,bw,O9,aE,bV (by omega) (by omega),aE,bV (by omega) (by omega),aE,Int.toNat_natCast,Int.toNat_natCast,set_set,Az (by omega)]
   unfold ya at kj
   by_cases ec:gi c.To i=gi c.aB j
   ·rw [pI ec] at kj ⊢
    rw [cond_true,aE,hg i j (by omega) (by omega) (by omega) (by omega) ec,aE,Az (by omega),aE,set_set,set_set,bD (by omega)]
    rw [cond_true] at kj
    rw [← kj,Jw]
   ·rw [rM ec] at kj ⊢
    rw [cond_false] at kj
    rw [cond_false,bD (by omega),← kj,Jw]
  ·show dL c g _ _ _ _=_
   unfold dL
   rw [List.length_replicate,ba (by omega),cond_false]
   simp [List.take_of_length_le (Nat.le_of_eq rl),rl]
  ·dsimp only
   rw [sx,bD (by omega)]
 ·show dM c g _ _ _ _=_
  unfold dM
  rw [List.length_replicate,ba (by omega),cond_false]
  simp [List.take_of_length_le (Nat.le_of_eq tl),tl]
end Go.Proofs.YtcnehblmgfbfoaaGreat
