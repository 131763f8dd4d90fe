/- Adjunctions: units and counits as natural transformations, the laws of triangles; transposing there and back; composites. No condition beside those that each theorem names. -/
import Derived.Test.YtbhhmalgcnhniaaGreatYk
import Derived.Test.YtbhhmalgcnhniaaGreatUr
import Derived.Test.YtbhhmalgcnhniaaGreatYn
import Derived.Test.YtbhhmalgcnhniaaGreatVw
set_option linter.unusedVariables false
set_option linter.unusedSectionVars false
set_option linter.unusedSimpArgs false
namespace Go.Proofs.YtbhhmalgcnhniaaGreat
open Go Go.Li
set_option linter.unusedVariables false
set_option linter.unusedSectionVars false
set_option linter.unusedSimpArgs false
def idF (c:aC):aO:=aO.mk c c (ns c.aD.toNat) (ns c.aA.length)
namespace Adj
end Adj
section
end
end Go.Proofs.YtbhhmalgcnhniaaGreat
namespace Go.Proofs.YtbhhmalgcnhniaaGreat
open Go Go.Li
set_option linter.unusedVariables false
set_option linter.unusedSectionVars false
set_option linter.unusedSimpArgs false
def tP (c:aC) (z x u:Int):Prop:=(0≤u∧u < c.aA.length)∧gi c.aA u=z∧gi c.To u=x
structure Uni (f:aO) (y x e:Int):Prop where
 x0:0≤x
 x1:x < f.aH.aD
 l:tP f.aL (gi f.aD x) y e
 ex:∀ z h:Int,0≤z→z < f.aH.aD→tP f.aL (gi f.aD z) y h→∃ u,tP f.aH z x u∧gk f.aL.aB (gi f.an u) e=h
 un:∀ z u v:Int,tP f.aH z x u→tP f.aH z x v→gk f.aL.aB (gi f.an u) e=gk f.aL.aB (gi f.an v) e→u=v
section
variable {f:aO} {xs es Hi us:List Int} (hf:ox f=true) (tj:(xs.length:Int)=f.aL.aD) (Cz:(es.length:Int)=f.aL.aD) (vS:Hi.length=f.aL.aA.length) (hul:(us.length:Int)=f.aH.aD)
 (hU:∀ y:Int,0≤y→y < f.aL.aD→Uni f y (gi xs y) (gi es y))
 (hA:∀ g:Int,0≤g→g < f.aL.aA.length→tP f.aH (gi xs (gi f.aL.aA g)) (gi xs (gi f.aL.To g)) (gi Hi g)∧gk f.aL.aB (gi f.an (gi Hi g)) (gi es (gi f.aL.To g))=gk f.aL.aB (gi es (gi f.aL.aA g)) g)
 (hS:∀ x:Int,0≤x→x < f.aH.aD→tP f.aH x (gi xs (gi f.aD x)) (gi us x)∧gk f.aL.aB (gi f.an (gi us x)) (gi es (gi f.aD x))=gi f.aL.aF (gi f.aD x))
include hf tj Cz vS hul hU hA hS
end
structure Eqv (f:aO):Prop where
 fb:ox f=true
 full:∀ x y b:Int,0≤x→x < f.aH.aD→0≤y→y < f.aH.aD→tP f.aL (gi f.aD x) (gi f.aD y) b→∃ a,tP f.aH x y a∧gi f.an a=b
 aks:∀ x y a b:Int,tP f.aH x y a→tP f.aH x y b→gi f.an a=gi f.an b→a=b
 al7:∀ y:Int,0≤y→y < f.aL.aD→∃ x i j,(0≤x∧x < f.aH.aD)∧tP f.aL (gi f.aD x) y i∧tP f.aL y (gi f.aD x) j∧gk f.aL.aB i j=gi f.aL.aF (gi f.aD x)∧gk f.aL.aB j i=gi f.aL.aF y
end Go.Proofs.YtbhhmalgcnhniaaGreat
namespace Go.Proofs.YtbhhmalgcnhniaaGreat
open Go Go.Li
set_option linter.unusedVariables false
set_option linter.unusedSectionVars false
set_option linter.unusedSimpArgs false
theorem Pv (n:Nat):ns (n+1)=ns n++[(n:Int)]:=by simp [ns,List.range_succ]
theorem upto {R S:Type} {k:Nat} {n:Nat} (hn:n≤1048576) {body:List Int×Int→Option (Out (List Int×Int) R)} {f:List Int×Int→Option (Out S R)}
  (h:∀ i:Nat,i < n→body (ns i,(i:Int))=some (.norm (ns i++[(i:Int)],((i+1:Nat):Int)))) (last:body (ns n,(n:Int))=some (.exit k (ns n,(n:Int)))) :
  ae (ab k (aj body (([]:List Int),(0:Int)))) f=f (ns n,(n:Int)):=by
 refine ql (ns n) (fun i=>(ns i,(i:Int))) rfl (fun i x hx=>?_) (e:=(ns n,(n:Int))) ?_
 ·obtain ⟨rfl,hi⟩:=jc hx
  rw [h i hi,Pv]
 ·rw [bR]; exact last
theorem RX {c:aC} (C:l3 c):dK c=some (idF c):=by
 have o0:=C.o0
 have o8:=C.o8
 have m:=C.m
 have hs:=n5 C
 have a1:∀ i:Nat,i < c.aD.toNat→eA c (ns i) (i:Int)=some (.norm (ns i++[(i:Int)],((i+1:Nat):Int))):=fun i hi=>by
  unfold eA
  rw [bm (by omega),cond_true,bR,cD (by omega) (by omega),aE,bI (by omega)]
 have a2:eA c (ns c.aD.toNat) (c.aD.toNat:Int)=some (.exit 0 (ns c.aD.toNat,(c.aD.toNat:Int))):=by
  unfold eA
  rw [br (by omega),cond_false]
 have b1:∀ i:Nat,i < c.aA.length→eB c (ns i) (i:Int)=some (.norm (ns i++[(i:Int)],((i+1:Nat):Int))):=fun i hi=>by
  unfold eB
  rw [bm (by omega),cond_true,bR,cD (by omega) (by omega),aE,bI (by omega)]
 have b2:eB c (ns c.aA.length) (c.aA.length:Int)=some (.exit 2 (ns c.aA.length,(c.aA.length:Int))):=by
  unfold eB
  rw [br (by omega),cond_false]
 unfold dK
 rw [upto (n:=c.aD.toNat) (by omega) a1 a2]
 dsimp only
 rw [upto (n:=c.aA.length) (by omega) b1 b2]
 dsimp only
 rw [wG hs hs (by rw [bR]; omega) (by rw [bR]; omega),aE]; rfl
section
end
section
end
end Go.Proofs.YtbhhmalgcnhniaaGreat
namespace Go.Proofs.YtbhhmalgcnhniaaGreat
open Go Go.Li
set_option linter.unusedVariables false
set_option linter.unusedSectionVars false
set_option linter.unusedSimpArgs false
def YP (c:aC) (xs:List Int) (i j h:Int):Prop:=((0≤i∧i < xs.length)∧(0≤j∧j < xs.length))∧(0≤h∧h < c.aA.length)∧gi c.aA h=gi xs i∧gi c.To h=gi xs j
structure Fat (c:aC) (xs:List Int) (R:List (List Int)):Prop where
 n:xs.length≤65
 o:∀ x∈xs,0≤x∧x < c.aD
 l:R.length≤300000
 r:∀ r∈R,∃ i j h,r=[i,j,h]∧YP c xs i j h
 a:∀ i j h,YP c xs i j h→[i,j,h]∈R
namespace Fat
variable {c:aC} {xs:List Int} {R:List (List Int)} (F:Fat c xs R)
include F
theorem three:∀ r∈R,r.length=3:=fun r hr=>by obtain ⟨i,j,h,rfl,_⟩:=F.r r hr; rfl
end Fat
section
variable {x:List Int} (B:tO x) {s:aI} (S:Src x s) {c:aC} (T:T7 c)
include B S T
end
end Go.Proofs.YtbhhmalgcnhniaaGreat
namespace Go.Proofs.YtbhhmalgcnhniaaGreat
open Go Go.Li
set_option linter.unusedVariables false
set_option linter.unusedSectionVars false
set_option linter.unusedSimpArgs false
section
variable {c d:aC} {f:aO} (T:T7 c) (U:T7 d) (F:FF c d f)
include T U F
end
section
variable {x:List Int} (B:tO x)
include B
omit B in
end
end Go.Proofs.YtbhhmalgcnhniaaGreat
namespace Go.Proofs.YtbhhmalgcnhniaaGreat
open Go Go.Li
set_option linter.unusedVariables false
set_option linter.unusedSectionVars false
set_option linter.unusedSimpArgs false
theorem Pw (c:aC) (f:Int):lZ c f=some (decide (0≤f) && decide (f < c.aA.length)):=by
 unfold lZ
 by_cases h:f ≥ 0
 ·rw [bm h,cond_true,aE]; rfl
 ·rw [br h,cond_false,aE]; rfl
section
end
def uU (c:aC) (x y:Int):List Int:=(ns c.aA.length).filter (IW c x y)
theorem DW {c:aC} {x y h:Int}:h∈uU c x y↔tP c x y h:=by
 unfold uU IW tP
 rw [List.mem_filter,dy,Bool.and_eq_true,beq_iff_eq,beq_iff_eq]
end Go.Proofs.YtbhhmalgcnhniaaGreat
namespace Go.Proofs.YtbhhmalgcnhniaaGreat
open Go Go.Li
set_option linter.unusedVariables false
set_option linter.unusedSectionVars false
set_option linter.unusedSimpArgs false
theorem VR (l:List (List Int)) (hl:l.length≤1048576) (hr:∀ r∈l,r.length≤1048576):lE l l=some true:=by
 unfold lE
 rw [qR rfl,cond_false,ui (n:=l.length) (fun _=>false) (y:=false) (fun i av=>?_) (by unfold lL; rw [br (by omega),cond_false])]
 ·rw [show (ns l.length).any (fun _=>false)=false from gu.2 fun _ _ _=>rfl]; rfl
 ·unfold lL
  have hm:=hr _ (ic (l:=l) (j:=(i:Int)) (by omega) (by omega))
  rw [bm (by omega),cond_true,jf (by omega) (by omega),aE,aE,rb _ _ (by omega),aE,rG rfl,bI (by omega)]; rfl
theorem MS {c:aC} (h:fk c):eC c c=some true:=by
 have h1:=h.f
 have h2:=h.t
 have h3:=h.i
 unfold eC
 rw [rG rfl,cond_true,rb _ _ (by omega),aE,rG rfl,cond_true,rb _ _ (by omega),aE,rG rfl,cond_true,rb _ _ (by omega),aE,rG rfl,cond_true,VR _ h.k h.r]; rfl
theorem VS {f:aO} (h:pW f):iL f f=some true:=by
 have h1:=h.o
 have h2:=h.a
 unfold iL
 rw [MS h.s,aE,cond_true,MS h.t,aE,cond_true,rb _ _ (by omega),aE,rG rfl,cond_true,rb _ _ (by omega),aE,rG rfl]; rfl
section
section
end
end
section
variable {x:List Int} (B:tO x)
include B
end
end Go.Proofs.YtbhhmalgcnhniaaGreat
namespace Go.Proofs.YtbhhmalgcnhniaaGreat
open Go Go.Li
set_option linter.unusedVariables false
set_option linter.unusedSectionVars false
set_option linter.unusedSimpArgs false
structure acb (c:aC) (x y p q:Int):Prop where
 i:tP c x y p
 j:tP c y x q
 ij:gk c.aB p q=gi c.aF x
 ji:gk c.aB q p=gi c.aF y
section
variable {f:aO} {os VP Hi:List Int} {js:Int→Int} (E:Eqv f) (gv:(os.length:Int)=f.aL.aD) (qY:(VP.length:Int)=f.aL.aD) (vS:Hi.length=f.aL.aA.length)
 (hO:∀ y:Int,0≤y→y < f.aL.aD→0≤gi os y∧gi os y < f.aH.aD)
 (hI:∀ y:Int,0≤y→y < f.aL.aD→acb f.aL (gi f.aD (gi os y)) y (gi VP y) (js y))
 (hA:∀ h:Int,0≤h→h < f.aL.aA.length→tP f.aH (gi os (gi f.aL.aA h)) (gi os (gi f.aL.To h)) (gi Hi h)∧gi f.an (gi Hi h)=gk f.aL.aB (gk f.aL.aB (gi VP (gi f.aL.aA h)) h) (js (gi f.aL.To h)))
include E gv qY vS hO hI hA
end
end Go.Proofs.YtbhhmalgcnhniaaGreat
namespace Go.Proofs.YtbhhmalgcnhniaaGreat
open Go Go.Li
set_option linter.unusedVariables false
set_option linter.unusedSectionVars false
set_option linter.unusedSimpArgs false
def acd (l:List Int):Prop:=∀ y∈l,0≤y∧y < 256
structure ace (A:List (List Int)):Prop where
 n:A.length≤300000
 nd:A.Nodup
 l:∀ r∈A,r.length=3
 b:∀ r∈A,acd r
section
variable {A:List (List Int)} (H:ace A)
include H
end
section
variable {A:List (List Int)} (hn:A.length≤300000) (h3:∀ r∈A,r.length=3) {k:Int} (k0:0≤k) (k3:k < 3)
include hn h3 k0 k3
end
def sB (c:aC) (G:Int→Int→Int) (f h:Int):Int:=bif gi c.To f == gi c.aA h then G f h else -1
def p6 (c:aC) (G:Int→Int→Int):List (List Int):=dg c.aA.length fun f=>dg c.aA.length fun h=>sB c G f h
theorem set_set {α:Type} (l:List α) (i:Nat) (a b:α):(l.set i a).set i b=l.set i b:=by simp
theorem Bf {α:Type} {l:List α} {i:Nat} (h:i < l.length) (a:α):idx (l.set i a) (i:Int)=some a:=by rw [fj,List.getElem?_set_self h]
theorem MT {c:aC} {g:Int→Int→Option Int} {G:Int→Int→Int} (hn:c.aA.length≤1000) (ht:c.To.length=c.aA.length)
  (hg:∀ f h:Int,0≤f→f < c.aA.length→0≤h→h < c.aA.length→gi c.To f=gi c.aA h→g f h=some (G f h)) :
  iD c g=some (aC.mk c.aD c.aA c.To c.aF (p6 c G)):=by
 have tl:(p6 c G).length=c.aA.length:=bA _ _
 unfold iD
 rw [show bS c=some (c.aA.length:Int) from rfl,aE,ur (by omega) (by omega),aE]
 refine (congrArg Fz (ql (p6 c G) (fun i=>((i:Int),(p6 c G).take i++List.replicate ((p6 c G).length - i) ([]:List Int))) (e:=((c.aA.length:Int),p6 c G)) (by simp [tl]) ?_ ?_)).trans rfl
 ·intro i row bc
  have hi:=db bc
  rw [tl] at hi
  have hr:row=dg c.aA.length fun h=>sB c G i h:=by
   have:=nn (fun f=>dg c.aA.length fun h=>sB c G f h) hi
   rw [show (p6 c G)[i]? = _ from this] at bc
   exact (Option.some.inj bc).symm
  have rl:row.length=c.aA.length:=by rw [hr,bA]
  have gv:((p6 c G).take i++List.replicate ((p6 c G).length - i) ([]:List Int)).length=c.aA.length:=by simp [tl]; omega
  have s6:=yW (p6 c G) ([]:List Int) bc
  have Kx:=get_copy (p6 c G) ([]:List Int) bc
  generalize (p6 c G).take i++List.replicate ((p6 c G).length - i) ([]:List Int)=o at gv s6 Kx
  show dI c g (c.aA.length:Int) c.aA.length (i:Int) o=_
  unfold dI
  rw [List.length_replicate,bm (by omega),cond_true,ur (by omega) (by omega),aE,fj,Kx,aE,Int.toNat_natCast,Bf (by omega),aE]
  refine (ql row (fun j=>((j:Int),o.set i (row.take j++List.replicate (row.length - j) (0:Int)))) (e:=((c.aA.length:Int),o.set i row)) (by simp [rl]) ?_ ?_).trans ?_
  ·intro j v hv
   have hj:=db hv
   rw [rl] at hj
   have ks:v=sB c G i j:=by
    have:=nn (fun h=>sB c G i h) hj
    rw [hr,show (dg c.aA.length fun h=>sB c G i h)[j]? = _ from this] at hv
    exact (Option.some.inj hv).symm
   have Cz:(row.take j++List.replicate (row.length - j) (0:Int)).length=c.aA.length:=by simp; omega
   have Kz:=yW row (0:Int) hv
   have QN:=get_copy row (0:Int) hv
   generalize row.take j++List.replicate (row.length - j) (0:Int)=e at Cz Kz QN
   show dH c g (i:Int) (List.replicate c.aA.length (0:Int)) (j:Int) (o.set i e)=_
   unfold dH
   rw [List.length_replicate,bm (by omega),cond_true,Bf (by omega),aE,fj,QN,aE,aZ (by omega) (by omega),aE,aZ (by omega) (by omega),aE,Int.toNat_natCast,Int.toNat_natCast,set_set,Bf (by omega)]
   unfold sB at ks
   by_cases ec:gi c.To i=gi c.aA j
   ·rw [rG ec] at ks ⊢
    rw [cond_true,aE,hg i j (by omega) (by omega) (by omega) (by omega) ec,aE,Bf (by omega),aE,set_set,set_set,bI (by omega)]
    rw [cond_true] at ks
    rw [← ks,Kz]
   ·rw [wA ec] at ks ⊢
    rw [cond_false] at ks
    rw [cond_false,bI (by omega),← ks,Kz]
  ·show dH c g _ _ _ _=_
   unfold dH
   rw [List.length_replicate,br (by omega),cond_false]
   simp [List.take_of_length_le (Nat.le_of_eq rl),rl]
  ·dsimp only
   rw [s6,bI (by omega)]
 ·show dI c g _ _ _ _=_
  unfold dI
  rw [List.length_replicate,br (by omega),cond_false]
  simp [List.take_of_length_le (Nat.le_of_eq tl),tl]
end Go.Proofs.YtbhhmalgcnhniaaGreat
