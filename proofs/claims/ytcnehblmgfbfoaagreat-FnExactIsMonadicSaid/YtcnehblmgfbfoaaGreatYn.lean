/- Functors that are looked for in depth: the reference's search does not fail, and finds one where there is one. No condition beside those that each theorem names. -/
import Derived.Test.YtcnehblmgfbfoaaGreatYi
import Derived.Test.YtcnehblmgfbfoaaGreatYk
set_option linter.unusedVariables false
set_option linter.unusedSectionVars false
set_option linter.unusedSimpArgs false
namespace Go.Proofs.YtcnehblmgfbfoaaGreat
open Go Go.Li
set_option linter.unusedVariables false
set_option linter.unusedSectionVars false
def yA (r:List Int):Nat:=(r.filter fun v=>decide (v < 0)).length
theorem Ps {r:List Int} {d:Nat} {v:Int} (hv:0≤v):yA (r.set d v)≤yA r∧(d < r.length→gi r d < 0→yA (r.set d v) < yA r):=by
 unfold yA
 induction r generalizing d with
 | nil=>exact ⟨by simp,fun h=>by simp at h⟩
 | cons a r ih=>
  cases d with
  | zero=>
   have e0:(List.filter (fun v=>decide (v < 0)) (v :: r))=List.filter (fun v=>decide (v < 0)) r:=by rw [List.filter_cons,if_neg (by simp; omega)]
   rw [List.set_cons_zero,e0,List.filter_cons]
   refine ⟨by split <;> simp,fun _ h=>?_⟩
   have h:a < 0:=h
   rw [if_pos (by simpa using h)]; simp
  | succ d=>
   rw [List.set_cons_succ,List.filter_cons,List.filter_cons]
   obtain ⟨h1,h2⟩:=ih (d:=d)
   refine ⟨by split <;> (try simp only [List.length_cons]) <;> omega,fun hl hg=>?_⟩
   have hg:gi r d < 0:=by
    have e:gi (a :: r) ((d+1:Nat):Int)=gi r (d:Int):=rfl
    rwa [e] at hg
   have:=h2 (by simp at hl; omega) hg
   split <;> (try simp only [List.length_cons]) <;> omega
structure PA (c d:aJ) (xs ys:List Int):Prop where
 len:ys.length=c.aH.length
 ok:∀ a:Int,0≤a→a < c.aH.length→0≤gi ys a→gi ys a < d.aH.length∧gi d.aH (gi ys a)=gi xs (gi c.aH a)∧gi d.To (gi ys a)=gi xs (gi c.To a)
theorem PA.set {c d:aJ} {xs ys:List Int} (P:PA c d xs ys) {a v:Int} (a0:0≤a) (a1:a < c.aH.length) (h:0≤v→v < d.aH.length∧gi d.aH v=gi xs (gi c.aH a)∧gi d.To v=gi xs (gi c.To a)):PA c d xs (ys.set a.toNat v):=by
 have hl:=P.len
 refine ⟨by rw [List.length_set]; exact hl,fun b b0 b1=>?_⟩
 rw [yT a0 (by omega) b0]
 by_cases e:b=a
 ·rw [if_pos e,e]; exact h
 ·rw [if_neg e]; exact P.ok b b0 b1
def M3 (c d:aJ) (A:List Int):Prop:=∀ a b:Int,0≤a→a < c.aH.length→0≤b→b < c.aH.length→gi c.To a=gi c.aH b→gi A (gk c.aG a b)=gk d.aG (gi A a) (gi A b)
def M4 (c:aJ) (ys A:List Int):Prop:=∀ a:Int,0≤a→a < c.aH.length→0≤gi ys a→gi ys a=gi A a
structure FJ (c d:aJ) (xs Co ys:List Int):Prop where
 p:PA c d xs ys
 mono:∀ a:Int,0≤a→0≤gi Co a→gi ys a=gi Co a
 ext:∀ A,M3 c d A→M4 c Co A→M4 c ys A
 ng:yA ys≤yA Co
section
variable {c d:aJ} {xs Co ys:List Int} (T:Ty c) (U:Ty d)
include T U
theorem FJ.step (J:FJ c d xs Co ys) {a b:Int} (a0:0≤a) (a1:a < c.aH.length) (b0:0≤b) (b1:b < c.aH.length) (hh:0≤gk c.aG a b) (ha:0≤gi ys a) (hb:0≤gi ys b) :
  gk c.aG a b < c.aH.length∧gi ys a < d.aH.length∧gi ys b < d.aH.length∧
  ((0≤gi ys (gk c.aG a b)→gi ys (gk c.aG a b)=gk d.aG (gi ys a) (gi ys b))→FJ c d xs Co (ys.set (gk c.aG a b).toNat (gk d.aG (gi ys a) (gi ys b)))∧yA (ys.set (gk c.aG a b).toNat (gk d.aG (gi ys a) (gi ys b)))≤yA ys∧(gi ys (gk c.aG a b) < 0→yA (ys.set (gk c.aG a b).toNat (gk d.aG (gi ys a) (gi ys b))) < yA ys))∧
  (0≤gi ys (gk c.aG a b)→gi ys (gk c.aG a b)≠gk d.aG (gi ys a) (gi ys b)→∀ A,M3 c d A→¬ M4 c Co A):=by
 have e:gi c.To a=gi c.aH b:=Classical.byContradiction fun ne=>by
  have:=T.none a b a0 a1 b0 b1 ne
  omega
 have k:=T.cell a b a0 a1 b0 b1 e
 have pa:=J.p.ok a a0 a1 ha
 have pb:=J.p.ok b b0 b1 hb
 have m:=U.cell _ _ ha pa.1 hb pb.1 (by rw [pa.2.2,pb.2.1,e])
 have hl:=J.p.len
 refine ⟨k.1.2,pa.1,pb.1,fun hc=>?_,fun h0 mh A hA hE=>mh ?_⟩
 ·have hn:=Ps (r:=ys) (d:=(gk c.aG a b).toNat) m.1.1
  refine ⟨⟨J.p.set hh k.1.2 fun _=>⟨m.1.2,by rw [m.2.1,pa.2.1,k.2.1],by rw [m.2.2,pb.2.2,k.2.2]⟩,fun x x0 hx=>?_,fun A hA hE=>?_,by have:=J.ng; omega⟩,hn.1,fun Z9=>hn.2 (by omega) (by rw [show (((gk c.aG a b).toNat:Nat):Int)=gk c.aG a b by omega]; exact Z9)⟩
  ·have hm:=J.mono x x0 hx
   rw [yT hh (by omega) x0]
   by_cases ex:x=gk c.aG a b
   ·rw [if_pos ex]
    rw [← ex] at hc
    rw [← hc (by omega),hm]
   ·rw [if_neg ex]; exact hm
  ·have Fh:=J.ext A hA hE
   intro x x0 x1 hx
   rw [yT hh (by omega) x0] at hx ⊢
   by_cases ex:x=gk c.aG a b
   ·rw [if_pos ex,ex,hA a b a0 a1 b0 b1 e,← Fh a a0 a1 ha,← Fh b b0 b1 hb]
   ·rw [if_neg ex] at hx ⊢
    exact Fh x x0 x1 hx
 ·have Fh:=J.ext A hA hE
  rw [Fh _ hh k.1.2 h0,hA a b a0 a1 b0 b1 e,← Fh a a0 a1 ha,← Fh b b0 b1 hb]
end
structure FT (c d:aJ) (O A:List Int):Prop where
 ol:(O.length:Int)=c.aE
 oo:∀ y∈O,0≤y∧y < d.aE
 ar:∀ a:Int,0≤a→a < c.aH.length→(0≤gi A a∧gi A a < d.aH.length)∧gi d.aH (gi A a)=gi O (gi c.aH a)∧gi d.To (gi A a)=gi O (gi c.To a)
 un:∀ x:Int,0≤x→x < c.aE→gi A (gi c.aI x)=gi d.aI (gi O x)
 co:M3 c d A
def Full (c d:aJ) (xs q:List Int):Prop:=PA c d xs q∧∀ a:Int,0≤a→a < c.aH.length→0≤gi q a
section
variable {c d:aJ} {xs:List Int} (T:Ty c) (U:Ty d) (cm:c.aH.length≤1000) (dm:d.aH.length≤1000) (hob:(xs.length:Int)=c.aE) (I4:∀ y∈xs,0≤y∧y < d.aE)
include T U cm dm hob I4
end
end Go.Proofs.YtcnehblmgfbfoaaGreat
namespace Go.Proofs.YtcnehblmgfbfoaaGreat
open Go Go.Li
set_option linter.unusedVariables false
set_option linter.unusedSectionVars false
structure Fi (xs O:List Int):Prop where
 l:xs.length≤O.length
 g:∀ x:Int,0≤x→x < xs.length→gi O x=gi xs x
theorem Fi.app {xs O:List Int} (h:Fi xs O) (hl:xs.length < O.length):Fi (xs++[gi O xs.length]) O:=by
 refine ⟨by simp only [List.length_append,List.length_singleton]; omega,fun x x0 x1=>?_⟩
 simp only [List.length_append,List.length_singleton] at x1
 rw [S8 x0]
 by_cases e:x < xs.length
 ·rw [if_pos e]; exact h.g x x0 e
 ·rw [if_neg e,if_pos (by omega),show x=(xs.length:Int) by omega]
theorem Fi.all {xs O:List Int} (h:Fi xs O) (e:O.length=xs.length):O=xs:=S9 e h.g
structure T7 (c:aJ):Prop where
 t:Ty c
 m:c.aH.length≤63
 o:c.aE≤63
 s:ew c
structure FF (c d:aJ) (f:aN):Prop where
 s:f.aA=c
 t:f.aF=d
 ol:(f.aE.length:Int)=c.aE
 oo:∀ y∈f.aE,0≤y∧y < d.aE
 ar:Full c d f.aE f.ab
theorem FT.full {c d:aJ} {O A:List Int} (h:FT c d O A) (e:A.length=c.aH.length):Full c d O A:=⟨⟨e,fun a a0 a1 _=>⟨(h.ar a a0 a1).1.2,(h.ar a a0 a1).2⟩⟩,fun a a0 a1=>(h.ar a a0 a1).1.1⟩
section
variable {c d:aJ} (T:T7 c) (U:T7 d)
include T U
theorem FF.small {f:aN} (F:FF c d f):fq f:=⟨F.s ▸ T.s,F.t ▸ U.s,by have:=F.ol; have:=T.o; omega,by have:=F.ar.1.len; have:=T.m; omega⟩
omit U in
end
section
end
end Go.Proofs.YtcnehblmgfbfoaaGreat
namespace Go.Proofs.YtcnehblmgfbfoaaGreat
open Go Go.Li
set_option linter.unusedVariables false
set_option linter.unusedSectionVars false
structure PP (c d:aJ) (xs:List Int):Prop where
 len:(xs.length:Int)=c.aE
 ok:∀ y∈xs,y < d.aH.length
def M5 (d:aJ) (f g:aN) (j v:Int):Prop:=(0≤v∧v < d.aH.length)∧gi d.aH v=gi f.aE j∧gi d.To v=gi g.aE j
structure PQ (c d:aJ) (f g:aN) (k:Bool) (xs:List Int):Prop where
 len:(xs.length:Int)=c.aE
 ok:∀ j:Int,0≤j→j < xs.length→M5 d f g j (gi xs j)∨gi xs j = -1∨(gi xs j = -2∧k=true)
structure CQ (c d:aJ) (f g:aN) (k:Bool) (xs:List Int):Prop where
 len:(xs.length:Int)=c.aE
 ok:∀ j:Int,0≤j→j < xs.length→M5 d f g j (gi xs j)∨(gi xs j = -2∧k=true)
theorem PQ.pp {c d:aJ} {f g:aN} {k:Bool} {xs:List Int} (P:PQ c d f g k xs):PP c d xs:=⟨P.len,fun y hy=>by
 obtain ⟨j,j0,j1,rfl⟩:=Af hy
 rcases P.ok j j0 j1 with h | h | h
 ·exact h.1.2
 ·omega
 ·omega⟩
theorem PQ.set {c d:aJ} {f g:aN} {k:Bool} {xs:List Int} (P:PQ c d f g k xs) {r v:Int} (r0:0≤r) (r1:r < xs.length) (h:M5 d f g r v):PQ c d f g k (xs.set r.toNat v):=⟨by rw [List.length_set]; exact P.len,fun j j0 j1=>by
 rw [List.length_set] at j1
 rw [yT r0 r1 j0]
 by_cases e:j=r
 ·rw [if_pos e,e]; exact Or.inl h
 ·rw [if_neg e]; exact P.ok j j0 j1⟩
section
variable {c d:aJ} {f g:aN} (T:T7 c) (U:T7 d) (F:FF c d f) (G:FF c d g)
include T U F G
end
theorem SP {f:aN} (F:xH f):FF f.aA f.aF f:=⟨rfl,rfl,F.ol,F.oo,⟨F.al,fun a a0 a1 _=>⟨(F.ar a0 a1).2,F.fr a a0 a1,F.to a a0 a1⟩⟩,fun a a0 a1=>(F.ar a0 a1).1⟩
section
end
end Go.Proofs.YtcnehblmgfbfoaaGreat
