/- Functors that are looked for in depth: the reference's search does not fail, and finds one where there is one. No condition beside those that each theorem names. -/
import Derived.Test.YtcnehblmgfbfoaaGreatVc
import Derived.Test.YtcnehblmgfbfoaaGreatYk
set_option linter.unusedVariables false
set_option linter.unusedSectionVars false
set_option linter.unusedSimpArgs false
namespace Go.Proofs.YtcnehblmgfbfoaaGreat
open Go Go.Li
set_option linter.unusedVariables false
set_option linter.unusedSectionVars false
def xY (r:List Int):Nat:=(r.filter fun v=>decide (v < 0)).length
theorem N9 {r:List Int} {d:Nat} {v:Int} (hv:0≤v):xY (r.set d v)≤xY r∧(d < r.length→gi r d < 0→xY (r.set d v) < xY r):=by
 unfold xY
 induction r generalizing d with
 | nil=>exact ⟨by simp,fun h=>by simp at h⟩
 | cons a r ih=>
  cases d with
  | zero=>
   have e0:(List.filter (fun v=>decide (v < 0)) (v :: r))=List.filter (fun v=>decide (v < 0)) r:=by rw [List.filter_cons,if_neg (by simp; omega)]
   rw [List.set_cons_zero,e0,List.filter_cons]
   refine ⟨by split <;> simp,fun _ h=>?_⟩
   have h:a < 0:=h
   rw [if_pos (by simpa using h)]; simp
  | succ d=>
   rw [List.set_cons_succ,List.filter_cons,List.filter_cons]
   obtain ⟨h1,h2⟩:=ih (d:=d)
   refine ⟨by split <;> (try simp only [List.length_cons]) <;> omega,fun hl hg=>?_⟩
   have hg:gi r d < 0:=by
    have e:gi (a :: r) ((d+1:Nat):Int)=gi r (d:Int):=rfl
    rwa [e] at hg
   have:=h2 (by simp at hl; omega) hg
   split <;> (try simp only [List.length_cons]) <;> omega
structure PA (c d:aH) (xs ys:List Int):Prop where
 len:ys.length=c.aF.length
 ok:∀ a:Int,0≤a→a < c.aF.length→0≤gi ys a→gi ys a < d.aF.length∧gi d.aF (gi ys a)=gi xs (gi c.aF a)∧gi d.To (gi ys a)=gi xs (gi c.To a)
theorem PA.set {c d:aH} {xs ys:List Int} (P:PA c d xs ys) {a v:Int} (a0:0≤a) (a1:a < c.aF.length) (h:0≤v→v < d.aF.length∧gi d.aF v=gi xs (gi c.aF a)∧gi d.To v=gi xs (gi c.To a)):PA c d xs (ys.set a.toNat v):=by
 have hl:=P.len
 refine ⟨by rw [List.length_set]; exact hl,fun b b0 b1=>?_⟩
 rw [yn a0 (by omega) b0]
 by_cases e:b=a
 ·rw [if_pos e,e]; exact h
 ·rw [if_neg e]; exact P.ok b b0 b1
def Lz (c d:aH) (A:List Int):Prop:=∀ a b:Int,0≤a→a < c.aF.length→0≤b→b < c.aF.length→gi c.To a=gi c.aF b→gi A (gk c.aC a b)=gk d.aC (gi A a) (gi A b)
def LA (c:aH) (ys A:List Int):Prop:=∀ a:Int,0≤a→a < c.aF.length→0≤gi ys a→gi ys a=gi A a
structure FJ (c d:aH) (xs BN ys:List Int):Prop where
 p:PA c d xs ys
 mono:∀ a:Int,0≤a→0≤gi BN a→gi ys a=gi BN a
 ext:∀ A,Lz c d A→LA c BN A→LA c ys A
 ng:xY ys≤xY BN
section
variable {c d:aH} {xs BN ys:List Int} (T:Ty c) (U:Ty d)
include T U
theorem FJ.step (J:FJ c d xs BN ys) {a b:Int} (a0:0≤a) (a1:a < c.aF.length) (b0:0≤b) (b1:b < c.aF.length) (hh:0≤gk c.aC a b) (ha:0≤gi ys a) (hb:0≤gi ys b) :
  gk c.aC a b < c.aF.length∧gi ys a < d.aF.length∧gi ys b < d.aF.length∧
  ((0≤gi ys (gk c.aC a b)→gi ys (gk c.aC a b)=gk d.aC (gi ys a) (gi ys b))→FJ c d xs BN (ys.set (gk c.aC a b).toNat (gk d.aC (gi ys a) (gi ys b)))∧xY (ys.set (gk c.aC a b).toNat (gk d.aC (gi ys a) (gi ys b)))≤xY ys∧(gi ys (gk c.aC a b) < 0→xY (ys.set (gk c.aC a b).toNat (gk d.aC (gi ys a) (gi ys b))) < xY ys))∧
  (0≤gi ys (gk c.aC a b)→gi ys (gk c.aC a b)≠gk d.aC (gi ys a) (gi ys b)→∀ A,Lz c d A→¬ LA c BN A):=by
 have e:gi c.To a=gi c.aF b:=Classical.byContradiction fun ne=>by
  have:=T.none a b a0 a1 b0 b1 ne
  omega
 have k:=T.cell a b a0 a1 b0 b1 e
 have pa:=J.p.ok a a0 a1 ha
 have pb:=J.p.ok b b0 b1 hb
 have m:=U.cell _ _ ha pa.1 hb pb.1 (by rw [pa.2.2,pb.2.1,e])
 have hl:=J.p.len
 refine ⟨k.1.2,pa.1,pb.1,fun hc=>?_,fun h0 mz A hA hE=>mz ?_⟩
 ·have hn:=N9 (r:=ys) (d:=(gk c.aC a b).toNat) m.1.1
  refine ⟨⟨J.p.set hh k.1.2 fun _=>⟨m.1.2,by rw [m.2.1,pa.2.1,k.2.1],by rw [m.2.2,pb.2.2,k.2.2]⟩,fun x x0 hx=>?_,fun A hA hE=>?_,by have:=J.ng; omega⟩,hn.1,fun Ys=>hn.2 (by omega) (by rw [show (((gk c.aC a b).toNat:Nat):Int)=gk c.aC a b by omega]; exact Ys)⟩
  ·have hm:=J.mono x x0 hx
   rw [yn hh (by omega) x0]
   by_cases ex:x=gk c.aC a b
   ·rw [if_pos ex]
    rw [← ex] at hc
    rw [← hc (by omega),hm]
   ·rw [if_neg ex]; exact hm
  ·have Ed:=J.ext A hA hE
   intro x x0 x1 hx
   rw [yn hh (by omega) x0] at hx ⊢
   by_cases ex:x=gk c.aC a b
   ·rw [if_pos ex,ex,hA a b a0 a1 b0 b1 e,← Ed a a0 a1 ha,← Ed b b0 b1 hb]
   ·rw [if_neg ex] at hx ⊢
    exact Ed x x0 x1 hx
 ·have Ed:=J.ext A hA hE
  rw [Ed _ hh k.1.2 h0,hA a b a0 a1 b0 b1 e,← Ed a a0 a1 ha,← Ed b b0 b1 hb]
end
structure FT (c d:aH) (O A:List Int):Prop where
 ol:(O.length:Int)=c.aD
 oo:∀ y∈O,0≤y∧y < d.aD
 ar:∀ a:Int,0≤a→a < c.aF.length→(0≤gi A a∧gi A a < d.aF.length)∧gi d.aF (gi A a)=gi O (gi c.aF a)∧gi d.To (gi A a)=gi O (gi c.To a)
 un:∀ x:Int,0≤x→x < c.aD→gi A (gi c.aG x)=gi d.aG (gi O x)
 co:Lz c d A
def Full (c d:aH) (xs q:List Int):Prop:=PA c d xs q∧∀ a:Int,0≤a→a < c.aF.length→0≤gi q a
end Go.Proofs.YtcnehblmgfbfoaaGreat
namespace Go.Proofs.YtcnehblmgfbfoaaGreat
open Go Go.Li
set_option linter.unusedVariables false
set_option linter.unusedSectionVars false
structure Ee (xs O:List Int):Prop where
 l:xs.length≤O.length
 g:∀ x:Int,0≤x→x < xs.length→gi O x=gi xs x
theorem Ee.app {xs O:List Int} (h:Ee xs O) (hl:xs.length < O.length):Ee (xs++[gi O xs.length]) O:=by
 refine ⟨by simp only [List.length_append,List.length_singleton]; omega,fun x x0 x1=>?_⟩
 simp only [List.length_append,List.length_singleton] at x1
 rw [RI x0]
 by_cases e:x < xs.length
 ·rw [if_pos e]; exact h.g x x0 e
 ·rw [if_neg e,if_pos (by omega),show x=(xs.length:Int) by omega]
theorem Ee.all {xs O:List Int} (h:Ee xs O) (e:O.length=xs.length):O=xs:=RJ e h.g
structure T7 (c:aH):Prop where
 t:Ty c
 m:c.aF.length≤63
 o:c.aD≤63
 s:de c
structure FF (c d:aH) (f:aS):Prop where
 s:f.aB=c
 t:f.aE=d
 ol:(f.aD.length:Int)=c.aD
 oo:∀ y∈f.aD,0≤y∧y < d.aD
 ar:Full c d f.aD f.ab
theorem FT.full {c d:aH} {O A:List Int} (h:FT c d O A) (e:A.length=c.aF.length):Full c d O A:=⟨⟨e,fun a a0 a1 _=>⟨(h.ar a a0 a1).1.2,(h.ar a a0 a1).2⟩⟩,fun a a0 a1=>(h.ar a a0 a1).1.1⟩
section
variable {c d:aH} (T:T7 c) (U:T7 d)
include T U
theorem FF.small {f:aS} (F:FF c d f):fv f:=⟨F.s ▸ T.s,F.t ▸ U.s,by have:=F.ol; have:=T.o; omega,by have:=F.ar.1.len; have:=T.m; omega⟩
omit U in
end
end Go.Proofs.YtcnehblmgfbfoaaGreat
namespace Go.Proofs.YtcnehblmgfbfoaaGreat
open Go Go.Li
set_option linter.unusedVariables false
set_option linter.unusedSectionVars false
structure PP (c d:aH) (xs:List Int):Prop where
 len:(xs.length:Int)=c.aD
 ok:∀ y∈xs,y < d.aF.length
def LB (d:aH) (f g:aS) (j v:Int):Prop:=(0≤v∧v < d.aF.length)∧gi d.aF v=gi f.aD j∧gi d.To v=gi g.aD j
structure PQ (c d:aH) (f g:aS) (k:Bool) (xs:List Int):Prop where
 len:(xs.length:Int)=c.aD
 ok:∀ j:Int,0≤j→j < xs.length→LB d f g j (gi xs j)∨gi xs j = -1∨(gi xs j = -2∧k=true)
structure CQ (c d:aH) (f g:aS) (k:Bool) (xs:List Int):Prop where
 len:(xs.length:Int)=c.aD
 ok:∀ j:Int,0≤j→j < xs.length→LB d f g j (gi xs j)∨(gi xs j = -2∧k=true)
theorem PQ.pp {c d:aH} {f g:aS} {k:Bool} {xs:List Int} (P:PQ c d f g k xs):PP c d xs:=⟨P.len,fun y hy=>by
 obtain ⟨j,j0,j1,rfl⟩:=zD hy
 rcases P.ok j j0 j1 with h | h | h
 ·exact h.1.2
 ·omega
 ·omega⟩
theorem PQ.set {c d:aH} {f g:aS} {k:Bool} {xs:List Int} (P:PQ c d f g k xs) {r v:Int} (r0:0≤r) (r1:r < xs.length) (h:LB d f g r v):PQ c d f g k (xs.set r.toNat v):=⟨by rw [List.length_set]; exact P.len,fun j j0 j1=>by
 rw [List.length_set] at j1
 rw [yn r0 r1 j0]
 by_cases e:j=r
 ·rw [if_pos e,e]; exact Or.inl h
 ·rw [if_neg e]; exact P.ok j j0 j1⟩
end Go.Proofs.YtcnehblmgfbfoaaGreat
