/- All cones of a diagram are listed, and none twice; maps between cones and their images. No condition beside those that each theorem names. -/
import Derived.Test.YtbmchcnkbonmkaaGreatUy
import Derived.Test.YtbmchcnkbonmkaaGreatVj
import Derived.Test.YtbmchcnkbonmkaaGreatYa
import Derived.Test.YtbmchcnkbonmkaaGreatYy
import Derived.Test.YtbmchcnkbonmkaaGreatUw
namespace Go.Proofs.YtbmchcnkbonmkaaGreat
open Go Go.Li
set_option linter.unusedVariables false
set_option linter.unusedSectionVars false
set_option linter.unusedSimpArgs false
section
variable {d:aJ} (hb:fk d=true)
include hb
theorem Lk {p q:bD}:(kh d p q).Nodup:=by
 unfold kh
 rw [List.filter_filter]; exact vO
end
theorem Ll {l:List Int} (hn:l.Nodup):(l.length == 1)=true↔∃ u,u∈l∧∀ v∈l,v=u:=by
 rw [beq_iff_eq]
 constructor
 ·intro h
  match l,h with
  | [a],_=>exact ⟨a,by simp,fun v hv=>List.mem_singleton.1 hv⟩
 ·rintro ⟨u,hu,h⟩
  match l with
  | []=>cases hu
  | [a]=>rfl
  | a :: b :: m=>
   have h1:=h a (by simp)
   have h2:=h b (by simp)
   rw [List.nodup_cons] at hn
   exact absurd (by rw [h1,← h2]; simp) hn.1
theorem UG {d:aJ} (hb:fk d=true) {l:List bD} {p:bD}:jw d l p=true↔∀ q∈l,∃ u,u∈kh d q p∧∀ v∈kh d q p,v=u:=by
 unfold jw
 rw [List.all_eq_true]
 exact ⟨fun h q hq=>(Ll (Lk hb)).1 (h q hq),fun h q hq=>(Ll (Lk hb)).2 (h q hq)⟩
section
variable {d f:aJ} (hd:fk d=true) (hf:fk f=true) (e:d.aF=f.aE)
include hd hf e
end
end Go.Proofs.YtbmchcnkbonmkaaGreat
namespace Go.Proofs.YtbmchcnkbonmkaaGreat
open Go Go.Li
set_option linter.unusedVariables false
set_option linter.unusedSectionVars false
set_option linter.unusedSimpArgs false
structure Pt (f:aJ) (x:Int) (p:Int×Int):Prop where
 y0:0≤p.1
 y1:p.1 < f.aE.aA
 h:0≤p.2∧p.2 < f.aF.aC.length
 fr:gi f.aF.aC p.2=x
 to:gi f.aF.To p.2=gi f.aA p.1
inductive wY (f:aJ) (x:Int):Int×Int→Int×Int→Prop
 | refl {p:Int×Int}:wY f x p p
 | step {p:Int×Int} {a:Int} (hp:Pt f x p) (a0:0≤a) (a1:a < f.aE.aC.length) (e:gi f.aE.aC a=p.1):wY f x p (gi f.aE.To a,gk f.aF.aB p.2 (gi f.ah a))
 | symm {p q:Int×Int} (h:wY f x p q):wY f x q p
 | trans {p q r:Int×Int} (h:wY f x p q) (k:wY f x q r):wY f x p r
structure Ye (f:aJ):Prop where
 one:∀ x:Int,0≤x→x < f.aF.aA→∃ p,Pt f x p
 all:∀ x:Int,0≤x→x < f.aF.aA→∀ p q,Pt f x p→Pt f x q→wY f x p q
structure O4 (f:aJ) (r:bD):Prop where
 x0:0≤r.da
 x1:r.da < f.aF.aA
 l:(r.ay.length:Int)=f.aE.aA
 v:∀ j:Int,0≤j→j < f.aE.aA→(0≤gi r.ay j∧gi r.ay j < f.aF.aC.length)∧gi f.aF.aC (gi r.ay j)=gi f.aA j∧gi f.aF.To (gi r.ay j)=r.da
 s:∀ a:Int,0≤a→a < f.aE.aC.length→gk f.aF.aB (gi f.ah a) (gi r.ay (gi f.aE.To a))=gi r.ay (gi f.aE.aC a)
section
variable {f:aJ} (hf:fk f=true)
include hf
theorem MW {r:bD} (R:ox (pw f) r):O4 f r:=by
 have F:=dq hf
 have hv:∀ j:Int,0≤j→j < f.aE.aA→(0≤gi r.ay j∧gi r.ay j < f.aF.aC.length)∧gi f.aF.aC (gi r.ay j)=gi f.aA j∧gi f.aF.To (gi r.ay j)=r.da:=fun j j0 j1=>by
  have k:=R.v j j0 j1
  have k1:0≤gi r.ay j∧gi r.ay j < (f.aF.To.length:Int):=k.1
  rw [F.d.tl] at k1
  exact ⟨k1,k.2.2,k.2.1⟩
 refine ⟨R.x0,R.x1,R.l,hv,fun a a0 a1=>?_⟩
 have kt:=F.c.to a0 a1
 have kA:=F.ar a0 a1
 have lt:=(hv _ kt.1 kt.2).1
 have hs:gk (xD f.aF) (gi r.ay (gi f.aE.To a)) (gi f.ah a)=gi r.ay (gi f.aE.aC a):=R.s a a0 (by show a < (f.aE.To.length:Int); rw [F.c.tl]; exact a1)
 rwa [wZ lt.1 lt.2 kA.1 kA.2] at hs
theorem ZQ {r:bD} (R:O4 f r):ox (pw f) r:=by
 have F:=dq hf
 refine ⟨R.x0,R.x1,R.l,fun j j0 j1=>?_,fun a a0 a1=>?_⟩
 ·have k:=R.v j j0 j1
  refine ⟨?_,k.2.2,k.2.1⟩
  show 0≤gi r.ay j∧gi r.ay j < (f.aF.To.length:Int)
  rw [F.d.tl]
  exact k.1
 ·replace a1:a < (f.aE.To.length:Int):=a1
  rw [F.c.tl] at a1
  have kt:=F.c.to a0 a1
  have kA:=F.ar a0 a1
  have lt:=(R.v _ kt.1 kt.2).1
  show gk (xD f.aF) (gi r.ay (gi f.aE.To a)) (gi f.ah a)=gi r.ay (gi f.aE.aC a)
  rw [wZ lt.1 lt.2 kA.1 kA.2]
  exact R.s a a0 a1
theorem FY {p r:bD} (R:O4 f r) {u:Int}:u∈kh (pw f) p r↔((0≤u∧u < f.aF.aC.length)∧gi f.aF.aC u=r.da∧gi f.aF.To u=p.da)∧∀ j:Int,0≤j→j < r.ay.length→gk f.aF.aB (gi r.ay j) u=gi p.ay j:=by
 have F:=dq hf
 have rl:=R.l
 rw [Ju (vQ hf)]
 have hb:(0≤u∧u < ((pw f).aF.aC.length:Int))↔(0≤u∧u < (f.aF.aC.length:Int)):=by
  show (0≤u∧u < (f.aF.To.length:Int))↔_
  rw [F.d.tl]
 rw [hb]
 constructor
 ·rintro ⟨⟨h1,h2,h3⟩,h4⟩
  refine ⟨⟨h1,h3,h2⟩,fun j j0 j1=>?_⟩
  have k:=(R.v j j0 (by omega)).1
  have h5:gk (xD f.aF) u (gi r.ay j)=gi p.ay j:=h4 j j0 j1
  rwa [wZ h1.1 h1.2 k.1 k.2] at h5
 ·rintro ⟨⟨h1,h2,h3⟩,h4⟩
  refine ⟨⟨h1,h3,h2⟩,fun j j0 j1=>?_⟩
  have k:=(R.v j j0 (by omega)).1
  show gk (xD f.aF) u (gi r.ay j)=gi p.ay j
  rw [wZ h1.1 h1.2 k.1 k.2]
  exact h4 j j0 j1
theorem UF {r:bD} (R:O4 f r) {x:Int} {p q:Int×Int} (h:wY f x p q):gk f.aF.aB p.2 (gi r.ay p.1)=gk f.aF.aB q.2 (gi r.ay q.1):=by
 have F:=dq hf
 induction h with
 | refl=>rfl
 | symm _ ih=>exact ih.symm
 | trans _ _ HR Nu=>exact HR.trans Nu
 | @step p a hp a0 a1 e=>
  have kt:=F.c.to a0 a1
  have kA:=F.ar a0 a1
  have lt:=R.v (gi f.aE.To a) kt.1 kt.2
  have hs:=R.s a a0 a1
  show gk f.aF.aB p.2 (gi r.ay p.1)=gk f.aF.aB (gk f.aF.aB p.2 (gi f.ah a)) (gi r.ay (gi f.aE.To a))
  rw [← e,← hs,F.d.assoc p.2 (gi f.ah a) _ hp.h.1 hp.h.2 kA.1 kA.2 lt.1.1 lt.1.2 (by rw [hp.to,F.fr a a0 a1,e]) (by rw [F.to a a0 a1,lt.2.1])]
variable {g:aJ} (hg:fk g=true) (es:g.aE=f.aF) (et:g.aF=f.aF) (go:∀ y:Int,0≤y→y < f.aF.aA→gi g.aA y=y) (ga:∀ a:Int,0≤a→a < f.aF.aC.length→gi g.ah a=a)
include hg es et go ga
theorem Kd (hF:Ye f) {q:bD} (hq:q∈ef (pw g)) (hu:jw (pw g) (ef (pw g)) q=true):ox (pw f) (bD.mk q.da (thenS f.aA q.ay))∧jw (pw f) (ef (pw f)) (bD.mk q.da (thenS f.aA q.ay))=true:=by
 have F:=dq hf
 have C:=F.d
 have hog:=vQ hg
 have Q':=wA hog hq
 have Q:=MW hg Q'
 have ol:=F.ol
 have q0:0≤q.da:=Q.x0
 have q1:q.da < f.aF.aA:=by have:=Q.x1; rwa [et] at this
 have ql:(q.ay.length:Int)=f.aF.aA:=by have:=Q.l; rwa [es] at this
 have qv:∀ x:Int,0≤x→x < f.aF.aA→(0≤gi q.ay x∧gi q.ay x < f.aF.aC.length)∧gi f.aF.aC (gi q.ay x)=x∧gi f.aF.To (gi q.ay x)=q.da:=fun x x0 x1=>by
  have k:=Q.v x x0 (by rw [es]; exact x1)
  rw [et,go x x0 x1] at k
  exact k
 have qs:∀ a:Int,0≤a→a < f.aF.aC.length→gk f.aF.aB a (gi q.ay (gi f.aF.To a))=gi q.ay (gi f.aF.aC a):=fun a a0 a1=>by
  have k:=Q.s a a0 (by rw [es]; exact a1)
  rw [et,es,ga a a0 a1] at k
  exact k
 have v7:gi q.ay q.da=gi f.aF.aH q.da:=by
  have k:=qv _ q0 q1
  have hm:gi q.ay q.da∈kh (pw g) q q:=by
   rw [FY hg Q,et]
   refine ⟨⟨k.1,k.2.1,k.2.2⟩,fun j j0 j1=>?_⟩
   have kj:=qv j j0 (by omega)
   have:=qs _ kj.1.1 kj.1.2
   rwa [kj.2.2,kj.2.1] at this
  rw [Yf hog Q' hq hu] at hm
  have:=List.mem_singleton.1 hm
  rw [this]
  show gi g.aF.aH q.da=_
  rw [et]
 have Jv:∀ j:Int,0≤j→j < f.aE.aA→gi (thenS f.aA q.ay) j=gi q.ay (gi f.aA j):=fun j j0 j1=>Jx j0 (by omega)
 have P:O4 f (bD.mk q.da (thenS f.aA q.ay)):=by
  refine ⟨q0,q1,by show ((thenS f.aA q.ay).length:Int)=_; rw [w5]; exact ol,fun j j0 j1=>?_,fun a a0 a1=>?_⟩
  ·have ko:=F.ob (x:=j) j0 j1
   show (0≤gi (thenS f.aA q.ay) j∧gi (thenS f.aA q.ay) j < f.aF.aC.length)∧gi f.aF.aC (gi (thenS f.aA q.ay) j)=gi f.aA j∧gi f.aF.To (gi (thenS f.aA q.ay) j)=q.da
   rw [Jv j j0 j1]
   exact qv _ ko.1 ko.2
  ·have kf:=F.c.fr a0 a1
   have kt:=F.c.to a0 a1
   have kA:=F.ar a0 a1
   show gk f.aF.aB (gi f.ah a) (gi (thenS f.aA q.ay) (gi f.aE.To a))=gi (thenS f.aA q.ay) (gi f.aE.aC a)
   rw [Jv _ kf.1 kf.2,Jv _ kt.1 kt.2]
   have:=qs _ kA.1 kA.2
   rwa [F.fr a a0 a1,F.to a a0 a1] at this
 refine ⟨ZQ hf P,?_⟩
 rw [UG (vQ hf)]
 intro r hr
 have R:=MW hf (wA (vQ hf) hr)
 obtain ⟨p0,hp⟩:=hF.one q.da q0 q1
 have ly:=R.v _ hp.y0 hp.y1
 have ku:=C.cell p0.2 (gi r.ay p0.1) hp.h.1 hp.h.2 ly.1.1 ly.1.2 (by rw [hp.to,ly.2.1])
 refine ⟨gk f.aF.aB p0.2 (gi r.ay p0.1),(FY hf P).2 ⟨⟨⟨ku.1,ku.2.1⟩,by rw [ku.2.2.1,hp.fr],by rw [ku.2.2.2,ly.2.2]⟩,fun j j0 j1=>?_⟩,fun w hw=>?_⟩
 ·replace j1:j < ((thenS f.aA q.ay).length:Int):=j1
  rw [w5] at j1
  have j2:j < f.aE.aA:=by omega
  have ko:=F.ob (x:=j) j0 j2
  have kq:=qv _ ko.1 ko.2
  have lj:=R.v j j0 j2
  have ki:=C.id (x:=gi f.aA j) ko.1 ko.2
  show gk f.aF.aB (gi (thenS f.aA q.ay) j) (gk f.aF.aB p0.2 (gi r.ay p0.1))=gi r.ay j
  rw [Jv j j0 j2]
  have kc:=C.cell (gi q.ay (gi f.aA j)) p0.2 kq.1.1 kq.1.2 hp.h.1 hp.h.2 (by rw [kq.2.2,hp.fr])
  have z:=hF.all (gi f.aA j) ko.1 ko.2 (j,gi f.aF.aH (gi f.aA j)) (p0.1,gk f.aF.aB (gi q.ay (gi f.aA j)) p0.2) ⟨j0,j2,ki,C.uK _ ko.1 ko.2,C.vL _ ko.1 ko.2⟩ ⟨hp.y0,hp.y1,⟨kc.1,kc.2.1⟩,by rw [kc.2.2.1,kq.2.1],by rw [kc.2.2.2,hp.to]⟩
  have e1:=UF hf R z
  dsimp only at e1
  rw [← C.assoc _ _ _ kq.1.1 kq.1.2 hp.h.1 hp.h.2 ly.1.1 ly.1.2 (by rw [kq.2.2,hp.fr]) (by rw [hp.to,ly.2.1]),← e1]
  have:=C.vN _ lj.1.1 lj.1.2
  rwa [lj.2.1] at this
 ·obtain ⟨⟨w1,w2,w3⟩,w4⟩:=(FY hf P).1 hw
  replace w2:gi f.aF.aC w=q.da:=w2
  have kf:=F.ob (x:=p0.1) hp.y0 hp.y1
  have kq:=qv _ kf.1 kf.2
  have h4:=w4 p0.1 hp.y0 (by show p0.1 < ((thenS f.aA q.ay).length:Int); rw [w5]; have:=hp.y1; omega)
  replace h4:gk f.aF.aB (gi (thenS f.aA q.ay) p0.1) w=gi r.ay p0.1:=h4
  rw [Jv _ hp.y0 hp.y1] at h4
  have hn:=qs _ hp.h.1 hp.h.2
  rw [hp.to,hp.fr,v7] at hn
  have h5:=C.vN w w1.1 w1.2
  rw [w2,← hn,C.assoc _ _ _ hp.h.1 hp.h.2 kq.1.1 kq.1.2 w1.1 w1.2 (by rw [hp.to,kq.2.1]) (by rw [kq.2.2,w2]),h4] at h5
  exact h5.symm
end
end Go.Proofs.YtbmchcnkbonmkaaGreat
namespace Go.Proofs.YtbmchcnkbonmkaaGreat
open Go Go.Li
set_option linter.unusedVariables false
set_option linter.unusedSectionVars false
set_option linter.unusedSimpArgs false
theorem Ts {c:aG} (C:mc c):sU (sU c)=c:=by
 have kl:=C.kl
 have tl:=C.tl
 have hK:xD (sU c)=c.aB:=by
  have hn:(sU c).aC.length=c.aC.length:=tl
  unfold xD
  rw [hn]
  refine O5 (by rw [bL]; exact kl.symm) fun k k0 k1=>?_
  rw [kl] at k1
  rw [ui k0 k1]
  have hr:=C.row k k0 k1
  refine AE (by rw [bL]; exact hr.symm) fun g g0 g1=>?_
  rw [hr] at g1
  rw [qh g0 g1]
  exact wZ g0 g1 k0 k1
 show aG.mk c.aA c.aC c.To c.aH (xD (sU c))=c
 rw [hK]
theorem Yg {f:aJ} (hf:fk f=true):pw (pw f)=f:=by
 have F:=dq hf
 show aJ.mk (sU (sU f.aE)) (sU (sU f.aF)) f.aA f.ah=f
 rw [Ts F.c,Ts F.d]
end Go.Proofs.YtbmchcnkbonmkaaGreat
namespace Go.Proofs.YtbmchcnkbonmkaaGreat
open Go Go.Li
set_option linter.unusedVariables false
set_option linter.unusedSectionVars false
set_option linter.unusedSimpArgs false
theorem Jy {l:List Int} (hl:l.length≤1048576):Ok (gX l) fun q=>q.length=l.length∧∀ i j:Nat,i < l.length→j < l.length→q[i]? = q[j]?→l[i]? = l[j]?:=by
 unfold gX
 refine jb (ol (fun z:List Int×List Int×Int=>(0≤z.2.2∧z.2.2≤l.length)∧(z.1.length:Int)=z.2.2∧(z.2.1.length:Int)≤z.2.2∧∀ k:Nat,(k:Int) < z.2.2→∃ a:Int,0≤a∧z.1[k]? = some a∧∃ n,l[k]? = some n∧zH z.2.1 n a) (fun z=>(l.length - z.2.2).toNat) ⟨⟨by show (0:Int)≤0; omega,by show (0:Int)≤_; omega⟩,rfl,by show (0:Int)≤0; omega,fun k hk=>by have sZ:(k:Int) < 0:=hk; omega⟩ ?_)
 rintro ⟨out,seen,s⟩ ⟨⟨s0,s1⟩,ho,hn,hk⟩
 dsimp only at s0 s1 ho hn hk
 show Ok (gP l out seen s) _
 unfold gP
 refine od (fun h=>?_) fun h=>os ⟨rfl,os ⟨by omega,fun i j hi hj s8=>?_⟩⟩
 ·obtain ⟨i,rfl⟩ : ∃ i:Nat,s=i:=⟨s.toNat,by omega⟩
  have hg:l[i]? = some (gi l i):=by
   have:=bI s0 h
   rwa [bx] at this
  refine oe (bI s0 h) (ob (Jz (by omega)) fun y hy=>?_)
  have hw:=w1 s0 h (by omega)
  refine od (fun BA=>oe (bI s0 h) (ew (by omega) (by omega) (ew (by omega) (by omega) (os ⟨⟨⟨?_,?_⟩,?_,?_,fun k sZ=>?_⟩,?_⟩)))) fun VE=>ew (by omega) (by omega) (os ⟨⟨⟨?_,?_⟩,?_,?_,fun k sZ=>?_⟩,?_⟩)
  all_goals first | (dsimp only at sZ; rw [hw] at sZ) | skip
  all_goals dsimp only
  all_goals first | (rw [hw]; simp only [List.length_append,List.length_singleton]; omega) | (rw [hw]; omega) | skip
  ·rcases (by omega:k < i∨k=i) with h3 | rfl
   ·obtain ⟨a,a0,e,n,e2,hf⟩:=hk k (by omega)
    exact ⟨a,a0,by rw [List.getElem?_append_left (by omega)]; exact e,n,e2,hf.app a0⟩
   ·refine ⟨seen.length,by omega,?_,gi l k,hg,hy.new BA⟩
    rw [List.getElem?_append_right (by omega),show k - out.length=0 by omega]; rfl
  ·rcases (by omega:k < i∨k=i) with h3 | rfl
   ·obtain ⟨a,a0,e,n,e2,hf⟩:=hk k (by omega)
    exact ⟨a,a0,by rw [List.getElem?_append_left (by omega)]; exact e,n,e2,hf⟩
   ·refine ⟨y,by omega,?_,gi l k,hg,hy⟩
    rw [List.getElem?_append_right (by omega),show k - out.length=0 by omega]; rfl
 ·obtain ⟨a,a0,e,n,e2,hf⟩:=hk i (by omega)
  obtain ⟨b,b0,e',n',O6,uG⟩:=hk j (by omega)
  rw [e,e'] at s8
  obtain rfl:=Option.some.inj s8
  have h1:=(hf.pos a0).2
  have h2:=(uG.pos a0).2
  rw [h1] at h2
  rw [e2,O6,Option.some.inj h2]
def MX (c:Int→Int) (ps:List (List Int)):Prop:=∀ r∈ps,∀ a b t,r=a :: b :: t→c a=c b
theorem RQ {n:Int} {ps:List (List Int)} (n0:0≤n) (n1:n≤1048576) (hp:ps.length≤1048576000) (h:Prs n ps) :
  Ok (jJ n ps) fun q=>(q.length:Int)=n∧((∀ y∈q,y=0)↔∀ c,MX c ps→∀ i j:Int,0≤i→i < n→0≤j→j < n→c i=c j):=by
 unfold jJ
 refine jb (ol (fun z:List Int×Int=>(0≤z.2∧z.2≤n)∧(z.1.length:Int)=z.2∧∀ k:Nat,(k:Int) < z.2→z.1[k]? = some (k:Int)) (fun z=>(n - z.2).toNat) ⟨⟨by show (0:Int)≤0; omega,n0⟩,rfl,fun k hk=>by have sZ:(k:Int) < 0:=hk; omega⟩ ?_)
 rintro ⟨l,i⟩ ⟨⟨i0,i1⟩,hl,Yh⟩
 dsimp only at i0 i1 hl Yh
 show Ok (jT n l i) _
 unfold jT
 refine od (fun hi=>?_) fun hi=>os ⟨rfl,?_⟩
 ·have hw:=w1 i0 hi (by omega)
  refine ew (by omega) (by omega) (os ⟨⟨⟨?_,?_⟩,?_,fun k hk=>?_⟩,?_⟩)
  all_goals first | (dsimp only at hk; rw [hw] at hk) | skip
  all_goals dsimp only
  all_goals first | (rw [hw]; (try simp only [List.length_append,List.length_singleton]); omega) | skip
  rcases (by omega:(k:Int) < i∨(k:Int)=i) with h3 | h3
  ·rw [List.getElem?_append_left (by omega)]; exact Yh k h3
  ·rw [List.getElem?_append_right (by omega),show k - l.length=0 by omega,← h3]; rfl
 ·dsimp only
  obtain rfl:i=n:=by omega
  refine ol (fun z:Int×List Int=>(0≤z.1∧z.1≤ps.length)∧(z.2.length:Int)=i∧(∀ k:Nat,(k:Int) < z.1→∀ a b t,ps[k]? = some (a :: b :: t)→z.2[a.toNat]? = z.2[b.toNat]?)∧∀ c,MX c ps→∀ k:Nat,(k:Int) < i→∃ y,z.2[k]? = some y∧c y=c k) (fun z=>(ps.length - z.1).toNat) ⟨⟨by show (0:Int)≤0; omega,by show (0:Int)≤_; omega⟩,hl,fun k hk=>by have sZ:(k:Int) < 0:=hk; omega,fun c _ k hk=>⟨k,Yh k hk,rfl⟩⟩ ?_
  rintro ⟨s,ny⟩ ⟨⟨s0,s1⟩,Yi,hk,hinv⟩
  dsimp only at s0 s1 Yi hk hinv
  show Ok (jU ps s ny) _
  unfold jU
  refine od (fun hs=>?_) fun hs=>os ⟨rfl,?_⟩
  ·obtain ⟨m,rfl⟩ : ∃ m:Nat,s=m:=⟨s.toNat,by omega⟩
   have Yj:ps[m]? = some (gr ps m):=by
    have:=l8 s0 hs
    rwa [bx] at this
   obtain ⟨a,b,t,er,ha,hb⟩:=h _ (pj s0 hs)
   have e1:ny[a.toNat]? = some (gi ny a):=by rw [← yQ ha.1]; exact bI ha.1 (by omega)
   have e2:ny[b.toNat]? = some (gi ny b):=by rw [← yQ hb.1]; exact bI hb.1 (by omega)
   refine oe (l8 s0 hs) ?_
   rw [er]
   refine oe (x:=a) rfl (oe (bI ha.1 (by omega)) (oe (l8 s0 hs) ?_))
   rw [er]
   refine oe (x:=b) rfl (oe (bI hb.1 (by omega)) ?_)
   refine MY (by omega) (fun i o=>rfl) fun i'=>os ⟨⟨⟨?_,?_⟩,?_,fun k sZ a' b' t' e'=>?_,fun c hc k sZ=>?_⟩,?_⟩
   all_goals have hw:=w1 s0 hs (by omega)
   all_goals first | (dsimp only at sZ; rw [hw] at sZ) | skip
   all_goals dsimp only
   all_goals first | (rw [hw]; omega) | (rw [List.length_map]; exact Yi) | skip
   ·rw [List.getElem?_map,List.getElem?_map]
    rcases (by omega:k < m∨k=m) with h3 | rfl
    ·rw [hk k (by omega) a' b' t' e']
    ·rw [Yj,er] at e'
     obtain ⟨rfl,rfl,rfl⟩ : a=a'∧b=b'∧t=t':=by simpa using e'
     rw [e1,e2]
     simp [vR]
   ·obtain ⟨y,hy,hcy⟩:=hinv c hc k (by omega)
    obtain ⟨ya,hya,hca⟩:=hinv c hc a.toNat (by omega)
    obtain ⟨yb,Lh,hcb⟩:=hinv c hc b.toNat (by omega)
    rw [e1] at hya
    rw [e2] at Lh
    obtain rfl:=Option.some.inj hya
    obtain rfl:=Option.some.inj Lh
    have nu:c a=c b:=hc _ (pj s0 hs) a b t er
    rw [show ((a.toNat:Nat):Int)=a by omega] at hca
    rw [show ((b.toNat:Nat):Int)=b by omega] at hcb
    refine ⟨vR (gi ny a) (gi ny b) y,by rw [List.getElem?_map,hy]; rfl,?_⟩
    unfold vR
    by_cases Lh:y=gi ny b
    ·rw [if_pos Lh,hca,nu,← hcb,← Lh,hcy]
    ·rw [if_neg Lh,hcy]
  ·dsimp only
   refine ob (Ok.and (E2 (l:=ny) (by omega)) (Jy (by omega))) fun q hq=>os ⟨by omega,?_⟩
   obtain ⟨⟨q1,q2,q3,q4⟩,q5,q6⟩:=hq
   constructor
   ·intro hz c hc x y x0 x1 y0 y1
    obtain ⟨u,hu,Kk⟩:=hinv c hc x.toNat (by omega)
    obtain ⟨v,hv,hcv⟩:=hinv c hc y.toNat (by omega)
    have hx:q[x.toNat]? = some 0:=by rw [List.getElem?_eq_getElem (by omega)]; exact congrArg some (hz _ (List.getElem_mem _))
    have hy:q[y.toNat]? = some 0:=by rw [List.getElem?_eq_getElem (by omega)]; exact congrArg some (hz _ (List.getElem_mem _))
    have:=q6 x.toNat y.toNat (by omega) (by omega) (by rw [hx,hy])
    rw [hu,hv] at this
    obtain rfl:=Option.some.inj this
    rw [show ((x.toNat:Nat):Int)=x by omega] at Kk
    rw [show ((y.toNat:Nat):Int)=y by omega] at hcv
    rw [← Kk,hcv]
   ·intro hc y hy
    have hI:MX (fun x=>gi ny x) ps:=fun r hr a b t e=>by
     obtain ⟨k,nz⟩:=List.getElem?_of_mem hr
     have bc:=(List.getElem?_eq_some_iff.1 nz).1
     obtain ⟨a',b',t',e',ha,hb⟩:=h r hr
     rw [e] at e'
     obtain ⟨rfl,rfl,rfl⟩ : a=a'∧b=b'∧t=t':=by simpa using e'
     have h1:=hk k (by omega) a b t (by rw [nz,e])
     have e1:ny[a.toNat]? = some (gi ny a):=by rw [← yQ ha.1]; exact bI ha.1 (by omega)
     have e2:ny[b.toNat]? = some (gi ny b):=by rw [← yQ hb.1]; exact bI hb.1 (by omega)
     rw [e1,e2] at h1
     exact Option.some.inj h1
    have de:=hc _ hI
    obtain ⟨k,KL⟩:=List.getElem?_of_mem hy
    have bc:=(List.getElem?_eq_some_iff.1 KL).1
    have BP:=(q2 y hy).1
    have h0:(0:Int)∈q:=q4 y hy 0 (by omega) BP
    obtain ⟨j,hj⟩:=List.getElem?_of_mem h0
    have hjt:=(List.getElem?_eq_some_iff.1 hj).1
    have Yk:=de (k:Int) (j:Int) (by omega) (by omega) (by omega) (by omega)
    have ek:ny[k]? = some (gi ny k):=by have:=bI (l:=ny) (j:=(k:Int)) (by omega) (by omega); rwa [bx] at this
    have ej:ny[j]? = some (gi ny j):=by have:=bI (l:=ny) (j:=(j:Int)) (by omega) (by omega); rwa [bx] at this
    have:=q3 k j (by omega) (by rw [ek,ej]; exact congrArg some Yk)
    rw [KL,hj] at this
    exact Option.some.inj this
end Go.Proofs.YtbmchcnkbonmkaaGreat
namespace Go.Proofs.YtbmchcnkbonmkaaGreat
open Go Go.Li
set_option linter.unusedVariables false
set_option linter.unusedSectionVars false
set_option linter.unusedSimpArgs false
def vS (c:aG) (x y:Int):List Int:=(ns c.aC.length).filter (p8 c x y)
theorem uS {c:aG} {x y h:Int}:h∈vS c x y↔(0≤h∧h < c.aC.length)∧gi c.aC h=x∧gi c.To h=y:=by
 unfold vS p8
 rw [List.mem_filter,bp,Bool.and_eq_true,beq_iff_eq,beq_iff_eq]
theorem BB (c:aG) (x y:Int):(vS c x y).length≤c.aC.length:=by
 unfold vS
 exact Nat.le_trans (List.length_filter_le _ _) (by rw [bZ]; omega)
def CE (f:aJ) (x y:Int):List bF:=(vS f.aF x (gi f.aA y)).map fun h=>bF.mk y h
def tN (f:aJ) (x:Int) (n:Nat):List bF:=(ns n).flatMap fun y=>CE f x y
def bh (f:aJ) (x:Int):List bF:=tN f x f.aE.aA.toNat
theorem D4 (f:aJ) (x:Int) (n:Nat):tN f x (n+1)=tN f x n++CE f x (n:Int):=by
 unfold tN
 rw [AF,List.flatMap_append]
 simp
theorem xV {f:aJ} {x:Int} {p:bF}:p∈bh f x↔((0≤p.dw∧p.dw < f.aE.aA.toNat)∧p.Second∈vS f.aF x (gi f.aA p.dw)):=by
 unfold bh tN CE
 constructor
 ·intro h
  obtain ⟨y,hy,h⟩:=List.mem_flatMap.1 h
  obtain ⟨a,ha,rfl⟩:=List.mem_map.1 h
  exact ⟨bp.1 hy,ha⟩
 ·rintro ⟨h1,h2⟩
  exact List.mem_flatMap.2 ⟨p.dw,bp.2 h1,List.mem_map.2 ⟨p.Second,h2,rfl⟩⟩
section
variable {f:aJ} (hf:fk f=true)
include hf
theorem xW (x:Int):∀ n:Nat,(tN f x n).length≤n * 40:=by
 have m:=(dq hf).d.m
 intro n
 induction n with
 | zero=>exact Nat.le_refl _
 | succ n ih=>
  rw [D4,List.length_append]
  have:(CE f x (n:Int)).length≤40:=by
   unfold CE
   rw [List.length_map]
   exact Nat.le_trans (BB ..) m
  omega
theorem UH (x:Int) {S:Type} (k:List bF×Int→Option (Out S Bool)):ae (ab 2 (af (fun t=>dV f x t) (([]:List bF),(0:Int)))) k=k (bh f x,(f.aA.length:Int)):=by
 have F:=dq hf
 have C:=F.d
 have o0:=F.c.o0
 have o8:=F.c.o8
 have ol:=F.ol
 have m:=C.m
 have N:f.aE.aA.toNat=f.aA.length:=by omega
 refine jo f.aA (fun i=>(tN f x i,(i:Int))) rfl (fun i z hz=>?_) (e:=(bh f x,(f.aA.length:Int))) ?_
 ·have hi:=bd hz
  have Yl:gi f.aA (i:Int)=z:=by unfold gi; rw [List.getD_eq_getElem?_getD,Int.toNat_natCast,hz]; rfl
  have ZR:=xW hf x i
  show dV f x (tN f x i,(i:Int))=_
  unfold dV
  dsimp only
  rw [aq (by omega),cond_true,bx,hz,aD,RR C,aD,D4]
  unfold CE
  rw [Yl]
  show ae (ab 4 (af (fun t=>dU (vS f.aF x z) (i:Int) t) (tN f x i,(0:Int)))) _=_
  have CF:=BB f.aF x z
  generalize vS f.aF x z=l at CF ⊢
  refine (jo l (fun j=>(tN f x i++(l.take j).map (fun h=>bF.mk (i:Int) h),(j:Int))) (by simp) (fun j h hh=>?_) (e:=(tN f x i++l.map (fun h=>bF.mk (i:Int) h),(l.length:Int))) ?_).trans ?_
  ·have hj:=bd hh
   have ht:(tN f x i++(l.take j).map (fun h=>bF.mk (i:Int) h)).length≤400:=by rw [List.length_append,List.length_map,List.length_take]; omega
   show dU l (i:Int) (tN f x i++(l.take j).map (fun h=>bF.mk (i:Int) h),(j:Int))=_
   unfold dU
   dsimp only
   rw [aq (by omega),cond_true,bx,hh,aD,cN (by omega) (by omega),aD,bH (by omega),List.take_add_one,hh,List.map_append,List.append_assoc]; rfl
  ·show dU l (i:Int) (tN f x i++(l.take l.length).map (fun h=>bF.mk (i:Int) h),(l.length:Int))=_
   unfold dU
   dsimp only
   rw [ba (by omega),cond_false,List.take_length]
  ·dsimp only
   rw [bH (by omega)]
 ·show dV f x (tN f x f.aA.length,(f.aA.length:Int))=_
  unfold dV
  dsimp only
  rw [ba (by omega),cond_false,← N]; rfl
end
end Go.Proofs.YtbmchcnkbonmkaaGreat
namespace Go.Proofs.YtbmchcnkbonmkaaGreat
open Go Go.Li
set_option linter.unusedVariables false
set_option linter.unusedSectionVars false
set_option linter.unusedSimpArgs false
def dt (l:List bF) (i:Int):bF:=l.getD i.toNat (bF.mk 0 0)
theorem O7 {l:List bF} {i:Int} (h0:0≤i) (h1:i < l.length):idx l i=some (dt l i):=by
 rw [uJ h0 h1]; unfold dt; rw [List.getD_eq_getElem?_getD,List.getElem?_eq_getElem (by omega)]; rfl
theorem C4 {l:List bF} {i:Int} (h0:0≤i) (h1:i < l.length):dt l i∈l:=by
 unfold dt; rw [List.getD_eq_getElem?_getD,List.getElem?_eq_getElem (by omega)]; exact List.getElem_mem _
def BC (f:aJ) (l:List bF) (i j:Int):Prop:=∃ a:Int,(0≤a∧a < f.aE.aC.length)∧gi f.aE.aC a=(dt l i).dw∧dt l j=bF.mk (gi f.aE.To a) (gk f.aF.aB (dt l i).Second (gi f.ah a))
def CG (f:aJ) (x:Int):Prop:=bh f x≠[]∧∀ c:Int→Int,(∀ i j:Int,0≤i→i < (bh f x).length→0≤j→j < (bh f x).length→BC f (bh f x) i j→c i=c j)→∀ i j:Int,0≤i→i < (bh f x).length→0≤j→j < (bh f x).length→c i=c j
theorem O8 {l:List bF} {p:bF} (hl:l.length≤1048576) (hp:p∈l):Ok (dQ l p) fun y=>(0≤y∧y < l.length)∧dt l y=p:=by
 unfold dQ gn
 refine jb (ob (P:=fun y:Int=>(0≤y∧y < l.length)∧dt l y=p) (jb (ol (fun s:Int=>(0≤s∧s≤l.length)∧∀ k:Nat,(k:Int) < s→l[k]?≠some p) (fun s=>(l.length - s).toNat) ⟨⟨Int.le_refl _,by omega⟩,fun k hk=>by omega⟩ ?_)) fun y hy=>os hy)
 rintro s ⟨⟨s0,s1⟩,hs⟩
 show Ok (fw l p s) _
 unfold fw
 refine od (fun h=>?_) fun h=>?_
 ·refine oe (O7 s0 h) ?_
  have e0:((p.dw == (dt l s).dw) && (p.Second == (dt l s).Second))=true↔dt l s=p:=by
   rw [Bool.and_eq_true,beq_iff_eq,beq_iff_eq]
   generalize dt l s=q
   obtain ⟨a,b⟩:=p
   obtain ⟨a',b'⟩:=q
   exact ⟨fun ⟨h1,h2⟩=>by dsimp only at h1 h2; rw [h1,h2],fun h=>by cases h; exact ⟨rfl,rfl⟩⟩
  cases hb:((p.dw == (dt l s).dw) && (p.Second == (dt l s).Second)) with
  | true=>rw [cond_true]; exact os ⟨⟨s0,h⟩,e0.1 hb⟩
  | false=>
   rw [cond_false]
   have hw:=w1 s0 h (by omega)
   refine os ⟨⟨⟨?_,?_⟩,fun k hk=>?_⟩,?_⟩
   all_goals (try dsimp only)
   ·rw [hw]; omega
   ·rw [hw]; omega
   ·rw [hw] at hk
    rcases (by omega:(k:Int) < s∨(k:Int)=s) with h3 | h3
    ·exact hs k h3
    ·intro h4
     have:dt l s=p:=by unfold dt; rw [List.getD_eq_getElem?_getD,← h3,Int.toNat_natCast,h4]; rfl
     rw [e0.2 this] at hb; cases hb
   ·rw [hw]; omega
 ·obtain ⟨k,hk⟩:=List.getElem?_of_mem hp
  have bc:=(List.getElem?_eq_some_iff.1 hk).1
  exact absurd hk (hs k (by omega))
section
variable {f:aJ} (hf:fk f=true)
include hf
theorem Ym {x:Int} {i a:Int} (i0:0≤i) (i1:i < (bh f x).length) (a0:0≤a) (a1:a < f.aE.aC.length) (e:gi f.aE.aC a=(dt (bh f x) i).dw):bF.mk (gi f.aE.To a) (gk f.aF.aB (dt (bh f x) i).Second (gi f.ah a))∈bh f x:=by
 have F:=dq hf
 have o0:=F.c.o0
 obtain ⟨h1,h2⟩:=xV.1 (C4 i0 i1)
 obtain ⟨h3,h4,h5⟩:=uS.1 h2
 have kt:=F.c.to a0 a1
 have kA:=F.ar a0 a1
 have kc:=F.d.cell _ _ h3.1 h3.2 kA.1 kA.2 (by rw [h5,F.fr a a0 a1,e])
 refine xV.2 ⟨⟨kt.1,by show gi f.aE.To a < _; omega⟩,uS.2 ⟨⟨kc.1,kc.2.1⟩,by rw [kc.2.2.1,h4],?_⟩⟩
 show gi f.aF.To (gk f.aF.aB _ _)=gi f.aA (gi f.aE.To a)
 rw [kc.2.2.2,F.to a a0 a1]
theorem O9 {x:Int} {J0:List Int} (hJ0:Jp (bh f x).length [] J0) {R:Type} {k:List Int×Int→Option (Out Int R)} {Q:Out Int R→Prop} (hk:∀ J ps,Jp (bh f x).length ps J→(∀ p∈ps,BC f (bh f x) p.1 p.2∧(0≤p.1∧p.1 < ((bh f x).length:Int))∧0≤p.2∧p.2 < ((bh f x).length:Int))→(∀ i a:Int,0≤i→i < (bh f x).length→0≤a→a < f.aE.aC.length→gi f.aE.aC a=(dt (bh f x) i).dw→∃ j,(i,j)∈ps∧dt (bh f x) j=bF.mk (gi f.aE.To a) (gk f.aF.aB (dt (bh f x) i).Second (gi f.ah a)))→∀ i,Ok (k (J,i)) Q)
  {L6:List Int×Int→Option (Out (List Int×Int) R)} (h6:∀ s,L6 s=(bif decide (s.2 < ((bh f x).length:Int)) then ((idx (bh f x) (s.2))>>=fun Cz=>((fT f.aE (Cz.dw))>>=fun mb=>(ae (ab 8 (af (fun t=>(bif decide (t.2 < (mb.length:Int)) then ((idx mb (t.2))>>=fun ET=>((idx f.aE.To (ET))>>=fun Jf=>((idx f.ah (ET))>>=fun I3=>((cG f.aF (Cz.Second) (I3))>>=fun OF=>((dQ (bh f x) (bF.mk Jf OF))>>=fun XR=>((jF t.1 (s.2) (XR))>>=fun Ru=>(some (Out.norm (Ru.2,aj (t.2+(1:Int))))))))))) else (some (Out.exit 8 t)))) (s.1,(0:Int)))) (fun t=>(some (Out.norm (t.1,aj (s.2+(1:Int))))))))) else (some (Out.exit 6 s)))) :
  Ok (ae (ab 6 (af L6 (J0,(0:Int)))) k) Q:=by
 have F:=dq hf
 have C:=F.d
 have o0:=F.c.o0
 have o8:=F.c.o8
 have m:=F.c.m
 have hn:(bh f x).length≤1000:=by have:=xW hf x f.aE.aA.toNat; unfold bh; omega
 let G:Int→List Int→List (Int×Int)→List Int→Prop:=fun i l ps J=>Jp (bh f x).length ps J∧(∀ p∈ps,BC f (bh f x) p.1 p.2∧(0≤p.1∧p.1 < ((bh f x).length:Int))∧0≤p.2∧p.2 < ((bh f x).length:Int))∧∀ i' a:Int,0≤i'→(i' < i∨i'=i∧a∈l)→i' < (bh f x).length→0≤a→a < f.aE.aC.length→gi f.aE.aC a=(dt (bh f x) i').dw→∃ j,(i',j)∈ps∧dt (bh f x) j=bF.mk (gi f.aE.To a) (gk f.aF.aB (dt (bh f x) i').Second (gi f.ah a))
 refine ol (fun z:List Int×Int=>(0≤z.2∧z.2≤(bh f x).length)∧∃ ps,G z.2 [] ps z.1) (fun z=>((bh f x).length - z.2).toNat) ⟨⟨by show (0:Int)≤0; omega,by show (0:Int)≤_; omega⟩,[],hJ0,fun _ h=>absurd h List.not_mem_nil,fun i' a h0 h1=>h1.elim (fun h=>absurd (show i' < 0 from h) (by omega)) fun h=>absurd h.2 List.not_mem_nil⟩ ?_
 rintro ⟨J,i⟩ ⟨⟨i0,i1⟩,ps,g1,g2,g3⟩
 dsimp only at i0 i1 g1 g2 g3
 rw [h6]
 dsimp only
 refine od (fun hi=>?_) fun hi=>os ⟨rfl,?_⟩
 ·refine oe (O7 i0 hi) ?_
  have ho:=Uz (c:=f.aE) (by omega) (dt (bh f x) i).dw
  refine oe ho ?_
  have FN:∀ a,a∈sf f.aE (dt (bh f x) i).dw↔(0≤a∧a < f.aE.aC.length)∧gi f.aE.aC a=(dt (bh f x) i).dw:=fun a=>tW
  have hlen:=RI f.aE (dt (bh f x) i).dw
  generalize sf f.aE (dt (bh f x) i).dw=l at FN hlen ⊢
  refine ol (fun z:List Int×Int=>(0≤z.2∧z.2≤l.length)∧∃ ps,G i (l.take z.2.toNat) ps z.1) (fun z=>(l.length - z.2).toNat) ⟨⟨by show (0:Int)≤0; omega,by show (0:Int)≤_; omega⟩,ps,g1,g2,fun i' a h0 h1=>g3 i' a h0 (h1.elim .inl fun h=>absurd h.2 (by simp))⟩ ?_
  rintro ⟨K,t⟩ ⟨⟨t0,t1⟩,qs,k1,k2,k3⟩
  dsimp only at t0 t1 k1 k2 k3 ⊢
  refine od (fun ht=>?_) fun ht=>os ⟨rfl,os ⟨⟨⟨?_,?_⟩,qs,k1,k2,fun i' a h0 h1=>?_⟩,?_⟩⟩
  ·refine oe (bI t0 ht) ?_
   obtain ⟨ha,mw⟩:=(FN _).1 (fj t0 ht)
   generalize hga:gi l t=a at ha mw ⊢
   have E3:=Ym hf i0 hi ha.1 ha.2 mw
   obtain ⟨h1,h2⟩:=xV.1 (C4 i0 hi)
   obtain ⟨h3,h4,h5⟩:=uS.1 h2
   have kA:=F.ar ha.1 ha.2
   refine oe (F.c.jj ha.1 ha.2) (oe (F.uz ha.1 ha.2) (oe (C.q9 h3.1 h3.2 kA.1 kA.2) (ob (O8 (by omega) E3) fun j hj=>?_)))
   refine ob (UI (by omega) k1 (fun p hp=>(k2 p hp).2) i0 hi hj.1.1 hj.1.2) fun y hy=>os ⟨⟨⟨?_,?_⟩,qs++[(i,j)],hy,fun p hp=>?_,fun i' b h0 vE=>?_⟩,?_⟩
   all_goals have hw:=w1 t0 ht (by omega)
   all_goals (try dsimp only)
   ·rw [hw]; omega
   ·rw [hw]; omega
   ·rcases List.mem_append.1 hp with hp | hp
    ·exact k2 p hp
    ·rw [List.mem_singleton.1 hp]
     exact ⟨⟨a,ha,mw,hj.2⟩,⟨i0,hi⟩,hj.1⟩
   ·dsimp only at vE
    rw [hw,show (t+1).toNat=t.toNat+1 by omega,List.take_add_one] at vE
    intro sW b0 b1 hbf
    have bc:l[t.toNat]? = some a:=by rw [← hga]; unfold gi; rw [List.getD_eq_getElem?_getD,List.getElem?_eq_getElem (by omega)]; rfl
    rw [bc] at vE
    rcases vE with h | ⟨h,hm⟩
    ·obtain ⟨j',e1,e2⟩:=k3 i' b h0 (.inl h) sW b0 b1 hbf
     exact ⟨j',List.mem_append_left _ e1,e2⟩
    ·rcases List.mem_append.1 hm with hm | hm
     ·obtain ⟨j',e1,e2⟩:=k3 i' b h0 (.inr ⟨h,hm⟩) sW b0 b1 hbf
      exact ⟨j',List.mem_append_left _ e1,e2⟩
     ·have:b=a:=by simpa using hm
      subst this
      subst h
      exact ⟨j,List.mem_append_right _ (by simp),hj.2⟩
   ·rw [hw]; omega
  ·dsimp only; rw [w1 i0 hi (by omega)]; omega
  ·dsimp only; rw [w1 i0 hi (by omega)]; omega
  ·dsimp only at h1
   rw [w1 i0 hi (by omega)] at h1
   intro sW a0 a1 mw
   rcases h1 with h1 | h1
   ·rcases (by omega:i' < i∨i'=i) with h2 | rfl
    ·exact k3 i' a h0 (.inl h2) sW a0 a1 mw
    ·exact k3 i' a h0 (.inr ⟨rfl,by rw [List.take_of_length_le (by omega)]; exact (FN a).2 ⟨⟨a0,a1⟩,mw⟩⟩) sW a0 a1 mw
   ·exact absurd h1.2 List.not_mem_nil
  ·dsimp only; rw [w1 i0 hi (by omega)]; omega
 ·exact hk J ps g1 g2 (fun i' a h0 h1 a0 a1 mw=>g3 i' a h0 (.inl (by omega)) h1 a0 a1 mw) i
end
end Go.Proofs.YtbmchcnkbonmkaaGreat
namespace Go.Proofs.YtbmchcnkbonmkaaGreat
open Go Go.Li
set_option linter.unusedVariables false
set_option linter.unusedSectionVars false
set_option linter.unusedSimpArgs false
theorem Yn (n:Nat):Jp n [] (ns n):=by
 have hJ:Jw (ns n):=fun x x0 x1=>by
  rw [bZ] at x1
  rw [C5 x0 x1]; omega
 refine ⟨bZ n,hJ,fun p hp=>absurd hp List.not_mem_nil,fun c _ x x0 x1=>?_⟩
 rw [tF hJ x0 (by rw [bZ]; exact x1) (C5 x0 x1)]
theorem Yo (f:aJ) (x:Int):(bh f x).Nodup:=by
 unfold bh tN
 refine List.pairwise_flatMap.2 ⟨fun y _=>?_,?_⟩
 ·unfold CE vS
  refine List.pairwise_map.2 (List.Pairwise.imp ?_ (vO (n:=f.aF.aC.length)))
  intro a b nu e
  cases e
  exact nu rfl
 ·refine List.Pairwise.imp ?_ (show (ns f.aE.aA.toNat).Nodup by have:=vO (n:=f.aE.aA.toNat) (p:=fun _=>true); rwa [List.filter_eq_self.2 fun _ _=>rfl] at this)
  intro a b nu p hp q hq e
  obtain ⟨l,_,rfl⟩:=List.mem_map.1 hp
  obtain ⟨m,_,rfl⟩:=List.mem_map.1 hq
  cases e
  exact nu rfl
theorem UJ {l:List bF} (hn:l.Nodup) {i j:Int} (i0:0≤i) (i1:i < l.length) (j0:0≤j) (j1:j < l.length) (e:dt l i=dt l j):i=j:=by
 have hg:∀ x:Int,(h0:0≤x)→(h1:x < l.length)→dt l x=l[x.toNat]'(by omega):=fun x x0 x1=>by
  unfold dt
  rw [List.getD_eq_getElem?_getD,List.getElem?_eq_getElem (by omega)]; rfl
 rw [hg i i0 i1,hg j j0 j1] at e
 have:=(List.getElem_inj hn).1 e
 omega
section
variable {f:aJ} (hf:fk f=true)
include hf
theorem UK {x:Int} {J:List Int} {ps:List (Int×Int)} {k:Nat} (g:Jp (bh f x).length ps J) (hp:∀ p∈ps,BC f (bh f x) p.1 p.2∧(0≤p.1∧p.1 < ((bh f x).length:Int))∧0≤p.2∧p.2 < ((bh f x).length:Int))
  (ha:∀ i a:Int,0≤i→i < (bh f x).length→0≤a→a < f.aE.aC.length→gi f.aE.aC a=(dt (bh f x) i).dw→∃ j,(i,j)∈ps∧dt (bh f x) j=bF.mk (gi f.aE.To a) (gk f.aF.aB (dt (bh f x) i).Second (gi f.ah a)))
  (hd:DC (db J.length (rt J)) k):k=1↔CG f x:=by
 have hl:=g.len
 obtain ⟨r,r1,r2,r3⟩:=hd
 have hm:∀ y,y∈db J.length (rt J)↔∃ i:Int,(0≤i∧i < ((bh f x).length:Int))∧rt J i=y:=fun y=>by rw [o6,hl]
 constructor
 ·rintro rfl
  match r,r2 with
  | [v],_=>
   have hv:v∈db J.length (rt J):=(r3 v).1 (by simp)
   obtain ⟨i,hi,_⟩:=(hm v).1 hv
   refine ⟨fun e=>by rw [e] at hi; have:i < 0:=hi.2; omega,fun c hc i j i0 i1 j0 j1=>?_⟩
   have de:=g.all c fun p h=>by
    obtain ⟨h1,h2,h3⟩:=hp p h
    exact hc _ _ h2.1 h2.2 h3.1 h3.2 h1
   have e1:rt J i=v:=List.mem_singleton.1 ((r3 _).2 ((hm _).2 ⟨i,⟨i0,i1⟩,rfl⟩))
   have e2:rt J j=v:=List.mem_singleton.1 ((r3 _).2 ((hm _).2 ⟨j,⟨j0,j1⟩,rfl⟩))
   rw [← de i i0 i1,← de j j0 j1,e1,e2]
 ·rintro ⟨jx,hc⟩
  have hlen:0 < (bh f x).length:=List.length_pos_iff.2 jx
  have Df:=hc (rt J) fun i j i0 i1 j0 j1 ⟨a,a1,a2,a3⟩=>by
   obtain ⟨j',h1,h2⟩:=ha i a i0 i1 a1.1 a1.2 a2
   obtain ⟨_,_,h4⟩:=hp _ h1
   have:j'=j:=UJ (Yo f x) h4.1 h4.2 j0 j1 (by rw [h2,a3])
   subst this
   exact g.one _ h1
  have h0:rt J 0∈r:=(r3 _).2 ((hm _).2 ⟨0,⟨by omega,by omega⟩,rfl⟩)
  have de:∀ y∈r,y=rt J 0:=fun y hy=>by
   obtain ⟨i,hi,rfl⟩:=(hm y).1 ((r3 y).1 hy)
   exact Df i 0 hi.1 hi.2 (by omega) (by omega)
  match r,r1,h0,de,r2 with
  | [a],_,_,_,h=>exact h.symm
  | a :: b :: m,hn,_,de,_=>
   have h1:=de a (by simp)
   have h2:=de b (by simp)
   rw [List.nodup_cons] at hn
   exact absurd (by rw [h1,← h2]; simp) hn.1
theorem UL:Ok (eR f) fun b=>b=true↔∀ x:Int,0≤x→x < f.aF.aA→CG f x:=by
 have F:=dq hf
 have o0:=F.d.o0
 have o8:=F.d.o8
 have oc8:=F.c.o8
 unfold eR
 refine jb (ol (fun s:Int=>(0≤s∧s≤f.aF.aA)∧∀ x:Int,0≤x→x < s→CG f x) (fun s=>(f.aF.aA - s).toNat) ⟨⟨Int.le_refl _,o0⟩,fun x h0 h1=>by omega⟩ ?_)
 rintro s ⟨⟨s0,s1⟩,hs⟩
 unfold nB
 refine od (fun h=>?_) fun h=>os ⟨rfl,os ⟨fun _ x x0 x1=>hs x x0 (by omega),fun _=>rfl⟩⟩
 rw [UH hf s]
 dsimp only
 have hn:(bh f s).length≤1000:=by have:=xW hf s f.aE.aA.toNat; unfold bh; omega
 have hj:nU ((bh f s).length:Int)=some (ns (bh f s).length):=by
  unfold nU
  rw [z8 (by omega) (by omega),aD,Int.toNat_natCast]; rfl
 refine oe hj (O9 hf (Yn _) (fun J ps g hp ha i=>?_) fun t=>rfl)
 dsimp only
 have hl:=g.len
 refine ob (UM (by omega) g.jn) fun y hy=>?_
 obtain ⟨_,k,hk,hd⟩:=hy
 have DU:=UK hf g hp ha hd
 refine oe hk ?_
 by_cases Yp:k=1
 ·rw [xp (by omega),cond_false]
  have hw:=w1 s0 h (by omega)
  refine os ⟨⟨⟨?_,?_⟩,fun x x0 x1=>?_⟩,?_⟩
  all_goals (try dsimp only)
  ·rw [hw]; omega
  ·rw [hw]; omega
  ·rw [hw] at x1
   rcases (by omega:x < s∨x=s) with h3 | rfl
   ·exact hs x x0 h3
   ·exact DU.1 Yp
  ·rw [hw]; omega
 ·rw [show ((k:Int) != (1:Int))=true by rw [bne_iff_ne]; omega,cond_true]
  exact os ⟨fun h=>(by cases h),fun h2=>absurd (DU.2 (h2 s s0 h)) Yp⟩
theorem UN (h:∀ x:Int,0≤x→x < f.aF.aA→CG f x):Ye f:=by
 have F:=dq hf
 have o0:=F.c.o0
 have pt:∀ {x:Int} {p:bF},p∈bh f x→Pt f x (p.dw,p.Second):=fun {x p} hp=>by
  obtain ⟨h1,h2⟩:=xV.1 hp
  obtain ⟨h3,h4,h5⟩:=uS.1 h2
  exact ⟨h1.1,by show p.dw < _; omega,h3,h4,h5⟩
 have tp:∀ {x:Int} {p:Int×Int},Pt f x p→bF.mk p.1 p.2∈bh f x:=fun {x p} hp=>by
  have:=hp.y1
  exact xV.2 ⟨⟨hp.y0,by show p.1 < _; omega⟩,uS.2 ⟨hp.h,hp.fr,hp.to⟩⟩
 refine ⟨fun x x0 x1=>?_,fun x x0 x1 p q hp hq=>?_⟩
 ·obtain ⟨jx,_⟩:=h x x0 x1
  exact ⟨_,pt (List.head_mem jx)⟩
 ·obtain ⟨jx,hc⟩:=h x x0 x1
  obtain ⟨i,hi,ei⟩:=List.mem_iff_getElem.1 (tp hp)
  obtain ⟨j,hj,ej⟩:=List.mem_iff_getElem.1 (tp hq)
  replace hi:i < (bh f x).length:=hi
  replace hj:j < (bh f x).length:=hj
  have oa:∀ k:Nat,(hk:k < (bh f x).length)→dt (bh f x) (k:Int)=(bh f x)[k]:=fun k hk=>by
   unfold dt
   rw [List.getD_eq_getElem?_getD,Int.toNat_natCast,List.getElem?_eq_getElem hk]; rfl
  let pr:Int→Int×Int:=fun k=>((dt (bh f x) k).dw,(dt (bh f x) k).Second)
  have hpi:pr (i:Int)=p:=by show ((dt (bh f x) i).dw,(dt (bh f x) i).Second)=p; rw [oa i hi,ei]
  have hpj:pr (j:Int)=q:=by show ((dt (bh f x) j).dw,(dt (bh f x) j).Second)=q; rw [oa j hj,ej]
  have key:=hc (fun k=>@ite Int (wY f x p (pr k)) (Classical.propDecidable _) 1 0) (fun u v u0 u1 v0 v1 ⟨a,a1,a2,a3⟩=>by
   have hz:wY f x (pr u) (pr v):=by
    have:=wY.step (pt (C4 u0 u1)) a1.1 a1.2 a2
    have e:pr v=(gi f.aE.To a,gk f.aF.aB (dt (bh f x) u).Second (gi f.ah a)):=by show ((dt (bh f x) v).dw,(dt (bh f x) v).Second)=_; rw [a3]
    rw [e]; exact this
   have:wY f x p (pr u)↔wY f x p (pr v):=⟨fun h=>h.trans hz,fun h=>h.trans hz.symm⟩
   by_cases GO:wY f x p (pr u)
   ·simp only [if_pos GO,if_pos (this.1 GO)]
   ·simp only [if_neg GO,if_neg fun h=>GO (this.2 h)]) (i:Int) (j:Int) (by omega) (by omega) (by omega) (by omega)
  have h1:wY f x p (pr (i:Int)):=by rw [hpi]; exact .refl
  by_cases hzj:wY f x p (pr (j:Int))
  ·rwa [hpj] at hzj
  ·simp only [if_pos h1,if_neg hzj] at key
   exact absurd key (by decide)
end
end Go.Proofs.YtbmchcnkbonmkaaGreat
namespace Go.Proofs.YtbmchcnkbonmkaaGreat
open Go Go.Li
set_option linter.unusedVariables false
set_option linter.unusedSectionVars false
set_option linter.unusedSimpArgs false
def mH (x0:(List (List Int))) (cg:Int) (ee:(List Int)) (cf:Int) (j4:(List Int)) (nj:(List Int)):Option (Out ((List Int)×Int×(List Int)×(List Int)) (aG)):=
 (bif decide (cf < (x0.length:Int)) then ((fits 8 (ee.length+1))>>=fun n185=>((idx x0 (cg))>>=fun QK=>((idx QK (cf))>>=fun QM=>(bif (QM) == ((1:Int)) then ((fits 8 (j4.length+1))>>=fun n229=>((fits 8 (nj.length+1))>>=fun n265=>(some (Out.norm (ee++[(j4.length:Int)],aj (cf+(1:Int)),j4++[cg],nj++[cf]))))) else (some (Out.norm (ee++[(j4.length:Int)],aj (cf+(1:Int)),j4,nj))))))) else (some (Out.exit 2 (ee,cf,j4,nj))))
theorem rH:∀ a0 a1 a2 a3 a4 a5,ao (mH a0 a1 a2 a3 a4 a5) (iU a0 a1 a2 a3 a4 a5):=by
 intros; unfold mH iU
 repeat' first
  | with_reducible exact ao.refl _
  | refine ao.ak ?_
  | refine ao.ae ?_ (fun _=>?_)
  | refine ao.ab ?_
  | refine ao.loop (fun _=>?_)
  | refine ao.bind ?_ (fun _=>?_)
  | refine ao.cond ?_ ?_
  | split
def mI (x0:(List (List Int))) (bn:(List (List Int))) (cg:Int) (fq:(List Int)) (iq:(List Int)):Option (Out ((List (List Int))×Int×(List Int)×(List Int)) (aG)):=
 (bif decide (cg < (x0.length:Int)) then (ae (ab 2 (r6 (fun s=>mH x0 cg s.1 s.2.1 s.2.2.1 s.2.2.2) (([]:(List Int)),(0:Int),fq,iq))) (fun (ee,cf,j4,nj)=>((fits 24 (bn.length+1))>>=fun n306=>(some (Out.norm (bn++[ee],aj (cg+(1:Int)),j4,nj)))))) else (some (Out.exit 0 (bn,cg,fq,iq))))
theorem rK:∀ a0 a1 a2 a3 a4,ao (mI a0 a1 a2 a3 a4) (iV a0 a1 a2 a3 a4):=by
 intros; unfold mI iV
 repeat' first
  | with_reducible exact ao.refl _
  | exact rH _ _ _ _ _ _
  | refine ao.ak ?_
  | refine ao.ae ?_ (fun _=>?_)
  | refine ao.ab ?_
  | refine ao.loop (fun _=>?_)
  | refine ao.bind ?_ (fun _=>?_)
  | refine ao.cond ?_ ?_
  | split
def mJ (x0:(List (List Int))) (bn:(List (List Int))) (cj:Int) (qp:(List Int)):Option (Out (Int×(List Int)) (aG)):=
 (bif decide (cj < (x0.length:Int)) then ((idx bn (cj))>>=fun QN=>((idx QN (cj))>>=fun My=>((fits 8 (qp.length+1))>>=fun ac3=>(some (Out.norm (aj (cj+(1:Int)),qp++[My])))))) else (some (Out.exit 4 (cj,qp))))
theorem rL:∀ a0 a1 a2 a3,ao (mJ a0 a1 a2 a3) (iW a0 a1 a2 a3):=by
 intros; unfold mJ iW
 repeat' first
  | with_reducible exact ao.refl _
  | refine ao.ak ?_
  | refine ao.ae ?_ (fun _=>?_)
  | refine ao.ab ?_
  | refine ao.loop (fun _=>?_)
  | refine ao.bind ?_ (fun _=>?_)
  | refine ao.cond ?_ ?_
  | split
def mK (bn:(List (List Int))) (fq:(List Int)) (iq:(List Int)) (ec:Int) (l9:(List Int)) (ll:Int):Option (Out ((List Int)×Int) (aG)):=
 (bif decide (ll < (fq.length:Int)) then ((idx iq (ec))>>=fun QO=>((idx fq (ll))>>=fun QP=>(bif (QO) == (QP) then ((idx fq (ec))>>=fun QQ=>((idx bn (QQ))>>=fun QR=>((idx iq (ll))>>=fun QS=>((idx QR (QS))>>=fun QT=>((fits 8 (l9.length+1))>>=fun ac4=>(some (Out.norm (l9++[QT],aj (ll+(1:Int)))))))))) else ((fits 8 (l9.length+1))>>=fun ac5=>(some (Out.norm (l9++[(-1:Int)],aj (ll+(1:Int))))))))) else (some (Out.exit 8 (l9,ll))))
theorem rM:∀ a0 a1 a2 a3 a4 a5,ao (mK a0 a1 a2 a3 a4 a5) (iX a0 a1 a2 a3 a4 a5):=by
 intros; unfold mK iX
 repeat' first
  | with_reducible exact ao.refl _
  | refine ao.ak ?_
  | refine ao.ae ?_ (fun _=>?_)
  | refine ao.ab ?_
  | refine ao.loop (fun _=>?_)
  | refine ao.bind ?_ (fun _=>?_)
  | refine ao.cond ?_ ?_
  | split
def mL (bn:(List (List Int))) (fq:(List Int)) (iq:(List Int)) (ec:Int) (qt:(List (List Int))):Option (Out (Int×(List (List Int))) (aG)):=
 (bif decide (ec < (fq.length:Int)) then (ae (ab 8 (r6 (fun s=>mK bn fq iq ec s.1 s.2) (([]:(List Int)),(0:Int)))) (fun (l9,ll)=>((fits 24 (qt.length+1))>>=fun ac6=>(some (Out.norm (aj (ec+(1:Int)),qt++[l9])))))) else (some (Out.exit 6 (ec,qt))))
theorem rN:∀ a0 a1 a2 a3 a4,ao (mL a0 a1 a2 a3 a4) (iY a0 a1 a2 a3 a4):=by
 intros; unfold mL iY
 repeat' first
  | with_reducible exact ao.refl _
  | exact rM _ _ _ _ _ _
  | refine ao.ak ?_
  | refine ao.ae ?_ (fun _=>?_)
  | refine ao.ab ?_
  | refine ao.loop (fun _=>?_)
  | refine ao.bind ?_ (fun _=>?_)
  | refine ao.cond ?_ ?_
  | split
def rC (x0:(List (List Int))):Option (aG):=
 ak (S:=Unit) (ae (ab 0 (r6 (fun s=>mI x0 s.1 s.2.1 s.2.2.1 s.2.2.2) (([]:(List (List Int))),(0:Int),([]:(List Int)),([]:(List Int))))) (fun (bn,cg,fq,iq)=>(ae (ab 4 (r6 (fun s=>mJ x0 bn s.1 s.2) ((0:Int),([]:(List Int))))) (fun (cj,qp)=>(ae (ab 6 (r6 (fun s=>mL bn fq iq s.1 s.2) ((0:Int),([]:(List (List Int)))))) (fun (ec,qt)=>(some (Out.ret ((aG.mk ((x0.length:Int)) fq iq qp qt))))))))))
theorem sC:∀ a0,ao (rC a0) (dB a0):=by
 intros; unfold rC dB
 repeat' first
  | with_reducible exact ao.refl _
  | exact rK _ _ _ _ _
  | exact rL _ _ _ _
  | exact rN _ _ _ _ _
  | refine ao.ak ?_
  | refine ao.ae ?_ (fun _=>?_)
  | refine ao.ab ?_
  | refine ao.loop (fun _=>?_)
  | refine ao.bind ?_ (fun _=>?_)
  | refine ao.cond ?_ ?_
  | split
def FZ:aG:=aG.mk 1 [0] [0] [0] [[0]]
theorem UO:qE=some FZ:=by
 unfold qE
 rw [sC [[1]] FZ (by kernel_rfl),aD]; rfl
end Go.Proofs.YtbmchcnkbonmkaaGreat
namespace Go.Proofs.YtbmchcnkbonmkaaGreat
open Go Go.Li
set_option linter.unusedVariables false
set_option linter.unusedSectionVars false
set_option linter.unusedSimpArgs false
def tu (c:aG) (x:Int):aJ:=aJ.mk FZ c [x] [gi c.aH x]
theorem JB:ri FZ=true:=by kernel_rfl
def t3 (p:bF):List Int:=[0,p.dw,p.Second]
section
variable {f:aJ} (hf:fk f=true)
include hf
theorem UP {x:Int} (x0:0≤x) (x1:x < f.aF.aA):fk (tu f.aF x)=true:=by
 have F:=dq hf
 have C:=F.d
 have k:=C.id x0 x1
 have hI:gk f.aF.aB (gi f.aF.aH x) (gi f.aF.aH x)=gi f.aF.aH x:=by
  have:=C.vN _ k.1 k.2
  rwa [C.uK x x0 x1] at this
 refine E4 (f:=tu f.aF x) JB (w6 C) rfl rfl (fun y hy=>?_) (fun y hy=>?_) (fun a a0 a1=>?_) (fun a a0 a1=>?_) (fun y y0 y1=>?_) fun a b a0 a1 b0 b1 e=>?_
 ·rw [List.mem_singleton.1 hy]; exact ⟨x0,x1⟩
 ·rw [List.mem_singleton.1 hy]; exact k
 ·replace a1:a < 1:=a1
  obtain rfl:a=0:=by omega
  exact C.uK x x0 x1
 ·replace a1:a < 1:=a1
  obtain rfl:a=0:=by omega
  exact C.vL x x0 x1
 ·replace y1:y < 1:=y1
  obtain rfl:y=0:=by omega
  rfl
 ·replace a1:a < 1:=a1
  replace b1:b < 1:=b1
  obtain rfl:a=0:=by omega
  obtain rfl:b=0:=by omega
  exact hI.symm
theorem UQ {x:Int} (x0:0≤x) (x1:x < f.aF.aA):nW f.aF x=some (tu f.aF x):=by
 unfold nW
 rw [UO,aD]
 have:=Lj (d:=tu f.aF x) (UP hf x0 x1) (x:=x) x0 x1
 have e:dF FZ f.aF x=some (gw (tu f.aF x) x):=this
 rw [e,aD]; rfl
theorem UR {x:Int} (x0:0≤x) (x1:x < f.aF.aA):lV (tu f.aF x) f=some ((bh f x).map t3):=by
 have F:=dq hf
 have C:=F.d
 have o0:=F.c.o0
 have o8:=F.c.o8
 have ol:=F.ol
 have m:=C.m
 have N:f.aE.aA.toNat=f.aA.length:=by omega
 unfold lV
 have hb:gN (tu f.aF x) f [] 0=some (.norm ((bh f x).map t3,1)):=by
  unfold gN
  rw [aq (by show (0:Int) < 1; omega),cond_true]
  refine (jo f.aA (fun i=>((tN f x i).map t3,(i:Int))) rfl (fun i z hz=>?_) (e:=((bh f x).map t3,(f.aA.length:Int))) ?_).trans rfl
  ·have hi:=bd hz
   have Yl:gi f.aA (i:Int)=z:=by unfold gi; rw [List.getD_eq_getElem?_getD,Int.toNat_natCast,hz]; rfl
   have ZR:=xW hf x i
   show gM (tu f.aF x) f 0 ((tN f x i).map t3) (i:Int)=_
   unfold gM
   rw [aq (by omega),cond_true,show idx (tu f.aF x).aA (0:Int)=some x from rfl,aD,bx,hz,aD]
   have hh:dX (tu f.aF x).aF x z=some (vS f.aF x z):=E5 C x z
   rw [hh,aD,D4,List.map_append]
   unfold CE
   rw [Yl]
   have CF:=BB f.aF x z
   generalize vS f.aF x z=l at CF ⊢
   refine (jo l (fun j=>((tN f x i).map t3++(l.take j).map (fun h=>[0,(i:Int),h]),(j:Int))) (by simp) (fun j h hh=>?_) (e:=((tN f x i).map t3++l.map (fun h=>[0,(i:Int),h]),(l.length:Int))) ?_).trans ?_
   ·have hj:=bd hh
    have ht:((tN f x i).map t3++(l.take j).map (fun h=>[0,(i:Int),h])).length≤400:=by rw [List.length_append,List.length_map,List.length_map,List.length_take]; omega
    show gL 0 (i:Int) l ((tN f x i).map t3++(l.take j).map (fun h=>[0,(i:Int),h])) (j:Int)=_
    unfold gL
    rw [aq (by omega),cond_true,bx,hh,aD,cN (by omega) (by omega),aD,bH (by omega),List.take_add_one,hh,List.map_append,List.append_assoc]; rfl
   ·show gL 0 (i:Int) l ((tN f x i).map t3++(l.take l.length).map (fun h=>[0,(i:Int),h])) (l.length:Int)=_
    unfold gL
    rw [ba (by omega),cond_false,List.take_length]
   ·dsimp only
    rw [bH (by omega),List.map_map]; rfl
  ·show gM (tu f.aF x) f 0 ((tN f x f.aA.length).map t3) (f.aA.length:Int)=_
   unfold gM
   rw [ba (by omega),cond_false,← N]; rfl
 have hl:gN (tu f.aF x) f ((bh f x).map t3) 1=some (.exit 0 ((bh f x).map t3,1)):=by
  unfold gN
  rw [ba (by show ¬ (1:Int) < 1; omega),cond_false]
 refine (congrArg ak (jo [x] (fun i=>((match i with | 0=>[] | _=>(bh f x).map t3),(i:Int))) (e:=((bh f x).map t3,(1:Int))) rfl (fun i n hn=>?_) hl)).trans rfl
 obtain rfl:i=0:=by have:=bd hn; simp at this; exact this
 exact hb
end
end Go.Proofs.YtbmchcnkbonmkaaGreat
namespace Go.Proofs.YtbmchcnkbonmkaaGreat
open Go Go.Li
set_option linter.unusedVariables false
set_option linter.unusedSectionVars false
set_option linter.unusedSimpArgs false
def Pa (f:aJ) (l:List bF) (out:List (List Int)):Prop:=∀ r∈out,∃ i j t,r=i :: j :: t∧(0≤i∧i < (l.length:Int))∧(0≤j∧j < (l.length:Int))∧BC f l i j
theorem Pa.add {f:aJ} {l:List bF} {out:List (List Int)} (h:Pa f l out) {i j:Int} {t:List Int} (hi:0≤i∧i < (l.length:Int)) (hj:0≤j∧j < (l.length:Int)) (hg:BC f l i j):Pa f l (out++[i :: j :: t]):=fun r hr=>by
 rcases List.mem_append.1 hr with hr | hr
 ·exact h r hr
 ·exact ⟨i,j,t,List.mem_singleton.1 hr,hi,hj,hg⟩
section
variable {f:aJ} (hf:fk f=true)
include hf
theorem US {x:Int} (x0:0≤x) (x1:x < f.aF.aA):Ok (mS (tu f.aF x) f ((bh f x).map t3)) fun out=>out.length≤20000000∧Pa f (bh f x) out∧∀ i j:Int,0≤i→i < (bh f x).length→0≤j→j < (bh f x).length→BC f (bh f x) i j→∃ t,(i :: j :: t)∈out:=by
 have F:=dq hf
 have C:=F.d
 have o8:=F.c.o8
 have o0:=F.c.o0
 have m:=F.c.m
 have mC:=C.m
 have kx:=C.id x0 x1
 have hn:(bh f x).length≤400:=by have:=xW hf x f.aE.aA.toNat; unfold bh; omega
 have Dd:∀ i:Int,0≤i→i < ((bh f x).map t3).length→idx ((bh f x).map t3) i=some (t3 (dt (bh f x) i)):=fun i i0 i1=>by
  rw [List.length_map] at i1
  rw [uJ i0 (by rw [List.length_map]; exact i1),List.getElem_map]
  congr 2
  unfold dt
  rw [List.getD_eq_getElem?_getD,List.getElem?_eq_getElem (by omega)]; rfl
 have Tt:∀ i:Int,0≤i→i < (bh f x).length→(0≤(dt (bh f x) i).Second∧(dt (bh f x) i).Second < f.aF.aC.length)∧gi f.aF.aC (dt (bh f x) i).Second=x∧gi f.aF.To (dt (bh f x) i).Second=gi f.aA (dt (bh f x) i).dw:=fun i i0 i1=>uS.1 (xV.1 (C4 i0 i1)).2
 have yo:(((bh f x).map t3).length:Int)=(bh f x).length:=by rw [List.length_map]
 have ZS:mc FZ:=wX JB
 let D:List (List Int)→(Int→Int→Prop)→Prop:=fun out P=>Pa f (bh f x) out∧∀ i j:Int,0≤i→i < (bh f x).length→0≤j→j < (bh f x).length→P i j→BC f (bh f x) i j→∃ t,(i :: j :: t)∈out
 unfold mS
 refine jb (ol (fun z:List (List Int)×Int=>(0≤z.2∧z.2≤(bh f x).length)∧(z.1.length:Int)≤z.2 * 25600∧D z.1 (fun i _=>i < z.2)) (fun z=>((bh f x).length - z.2).toNat) ⟨⟨by show (0:Int)≤0; omega,by show (0:Int)≤_; omega⟩,by show (0:Int)≤0 * 25600; omega,fun _ h=>absurd h List.not_mem_nil,fun i j i0 _ _ _ h _=>absurd (show i < 0 from h) (by omega)⟩ ?_)
 rintro ⟨out,s⟩ ⟨⟨s0,s1⟩,hlen,hA,hC⟩
 dsimp only at s0 s1 hlen hA hC
 show Ok (nN (tu f.aF x) f ((bh f x).map t3) out s) _
 unfold nN
 refine od (fun h=>?_) fun h=>os ⟨rfl,os ⟨by omega,hA,fun i j i0 i1 j0 j1 hg=>hC i j i0 i1 j0 j1 (by omega) hg⟩⟩
 refine ol (fun z:List (List Int)×Int=>(0≤z.2∧z.2≤(bh f x).length)∧(z.1.length:Int)≤s * 25600+z.2 * 64∧D z.1 (fun i j=>i < s∨i=s∧j < z.2)) (fun z=>((bh f x).length - z.2).toNat) ⟨⟨by show (0:Int)≤0; omega,by show (0:Int)≤_; omega⟩,by dsimp only; omega,hA,fun i j i0 i1 j0 j1 h hg=>h.elim (fun h=>hC i j i0 i1 j0 j1 h hg) fun h=>absurd (show j < 0 from h.2) (by omega)⟩ ?_
 rintro ⟨out,t⟩ ⟨⟨t0,t1⟩,hlen,hA,hC⟩
 dsimp only at t0 t1 hlen hA hC
 show Ok (nM (tu f.aF x) f ((bh f x).map t3) s out t) _
 unfold nM
 refine od (fun h2=>?_) fun h2=>os ⟨rfl,os ⟨⟨⟨?_,?_⟩,?_,hA,fun i j i0 i1 j0 j1 hP hg=>?_⟩,?_⟩⟩
 ·refine oe (Dd s s0 (by omega)) (oe (Dd t t0 (by omega)) (oe (x:=0) rfl (oe (x:=0) rfl (oe (x:=[0]) ?_ (oe (x:=(dt (bh f x) s).dw) rfl (oe (x:=(dt (bh f x) t).dw) rfl (oe (x:=vS f.aE (dt (bh f x) s).dw (dt (bh f x) t).dw) (E5 F.c _ _) ?_)))))))
  ·exact (E5 ZS 0 0).trans (by rfl)
  have hs:=Tt s s0 (by omega)
  have ht:=Tt t t0 (by omega)
  have Yq:∀ v,v∈vS f.aE (dt (bh f x) s).dw (dt (bh f x) t).dw↔(0≤v∧v < f.aE.aC.length)∧gi f.aE.aC v=(dt (bh f x) s).dw∧gi f.aE.To v=(dt (bh f x) t).dw:=fun v=>uS
  have NQ:=BB f.aE (dt (bh f x) s).dw (dt (bh f x) t).dw
  generalize vS f.aE (dt (bh f x) s).dw (dt (bh f x) t).dw=vs at Yq NQ ⊢
  have inner:Ok (fQ (tu f.aF x) f s t (t3 (dt (bh f x) s)) (t3 (dt (bh f x) t)) [0] vs out 0) fun o=>∃ D5,o = .norm (D5,1)∧(D5.length:Int)≤s * 25600+(t+1) * 64∧D D5 (fun i j=>i < s∨i=s∧j < t+1):=by
   unfold fQ
   rw [aq (by show (0:Int) < 1; omega),cond_true]
   refine ol (fun z:List (List Int)×Int=>(0≤z.2∧z.2≤vs.length)∧(z.1.length:Int)≤s * 25600+t * 64+z.2∧D z.1 (fun i j=>i < s∨i=s∧j < t)∧∀ v∈vs.take z.2.toNat,(dt (bh f x) t).Second=gk f.aF.aB (dt (bh f x) s).Second (gi f.ah v)→∃ r,(s :: t :: r)∈z.1) (fun z=>(vs.length - z.2).toNat) ⟨⟨by show (0:Int)≤0; omega,by show (0:Int)≤_; omega⟩,by dsimp only; omega,⟨hA,hC⟩,fun v hv=>absurd hv (by simp)⟩ ?_
   rintro ⟨o2,u⟩ ⟨⟨u0,u1⟩,SZ,⟨Gz,uw⟩,vT⟩
   dsimp only at u0 u1 SZ Gz uw vT
   show Ok (nL (tu f.aF x) f s t (t3 (dt (bh f x) s)) (t3 (dt (bh f x) t)) [0] vs 0 o2 u) _
   unfold nL
   refine od (fun h3=>?_) fun h3=>os ⟨rfl,os ⟨o2,rfl,by omega,Gz,fun i j i0 i1 j0 j1 hP hg=>?_⟩⟩
   ·have GZ:=(Yq _).1 (fj u0 h3)
    have E3:=fj u0 h3
    have hgu:vs[u.toNat]? = some (gi vs u):=by unfold gi; rw [List.getD_eq_getElem?_getD,List.getElem?_eq_getElem (by omega)]; rfl
    refine oe (x:=0) rfl (oe (x:=gi f.aF.aH x) rfl (oe (x:=(dt (bh f x) t).Second) rfl (oe (x:=gk f.aF.aB (gi f.aF.aH x) (dt (bh f x) t).Second) (JC C kx.1 kx.2 ht.1.1 ht.1.2) (oe (x:=(dt (bh f x) s).Second) rfl (oe (bI u0 h3) ?_)))))
    generalize hw9:gi vs u=v at GZ E3 hgu ⊢
    have kA:=F.ar GZ.1.1 GZ.1.2
    refine oe (F.uz GZ.1.1 GZ.1.2) (oe (x:=gk f.aF.aB (dt (bh f x) s).Second (gi f.ah v)) (JC C hs.1.1 hs.1.2 kA.1 kA.2) ?_)
    have hu1:=C.vN _ ht.1.1 ht.1.2
    rw [ht.2.1] at hu1
    rw [hu1]
    have hw:=w1 u0 h3 (by omega)
    have tk:vs.take (aj (u+1)).toNat=vs.take u.toNat++[v]:=by rw [hw,show (u+1).toNat=u.toNat+1 by omega,List.take_add_one,hgu]; rfl
    by_cases hE:(dt (bh f x) t).Second=gk f.aF.aB (dt (bh f x) s).Second (gi f.ah v)
    ·rw [yS hE,cond_true]
     refine oe (x:=0) rfl (oe (x:=v) (by rw [bI u0 h3,hw9]) (ew (by omega) (by omega) (os ⟨⟨⟨?_,?_⟩,?_,⟨?_,?_⟩,?_⟩,?_⟩)))
     all_goals (try dsimp only)
     ·rw [hw]; omega
     ·rw [hw]; omega
     ·rw [hw,List.length_append,List.length_singleton]; omega
     ·refine Gz.add ⟨s0,by omega⟩ ⟨t0,by omega⟩ ⟨v,GZ.1,GZ.2.1,?_⟩
      rw [GZ.2.2,← hE]
     ·exact fun i j i0 i1 j0 j1 hP hg=>(uw i j i0 i1 j0 j1 hP hg).imp fun r hr=>List.mem_append_left _ hr
     ·intro v' ma sR
      exact ⟨_,List.mem_append_right _ (List.mem_singleton.2 rfl)⟩
     ·rw [hw]; omega
    ·rw [tV hE,cond_false]
     refine os ⟨⟨⟨?_,?_⟩,?_,⟨Gz,uw⟩,?_⟩,?_⟩
     all_goals (try dsimp only)
     ·rw [hw]; omega
     ·rw [hw]; omega
     ·rw [hw]; omega
     ·intro v' ma sR
      rw [tk] at ma
      rcases List.mem_append.1 ma with ma | ma
      ·exact vT v' ma sR
      ·rw [List.mem_singleton.1 ma] at sR; exact absurd sR hE
     ·rw [hw]; omega
   ·rcases hP with hP | ⟨rfl,hP⟩
    ·exact uw i j i0 i1 j0 j1 (.inl hP) hg
    ·rcases (by omega:j < t∨j=t) with h4 | rfl
     ·exact uw i j i0 i1 j0 j1 (.inr ⟨rfl,h4⟩) hg
     ·obtain ⟨v,v1,v2,v3⟩:=hg
      refine vT v ?_ (by rw [v3])
      rw [List.take_of_length_le (by omega)]
      exact (Yq v).2 ⟨v1,v2,by rw [v3]⟩
  have last:∀ o:List (List Int),fQ (tu f.aF x) f s t (t3 (dt (bh f x) s)) (t3 (dt (bh f x) t)) [0] vs o 1=some (.exit 4 (o,1)):=fun o=>by
   unfold fQ
   rw [ba (by show ¬ (1:Int) < 1; omega),cond_false]
  obtain ⟨o,ho,D5,rfl,B4,hD'⟩:=inner
  have e:=fun (k:List (List Int)×Int→Option (Out (List (List Int)×Int) (List (List Int))))=>jo (k:=4) (f:=k) (body:=fun z:List (List Int)×Int=>fQ (tu f.aF x) f s t (t3 (dt (bh f x) s)) (t3 (dt (bh f x) t)) [0] vs z.1 z.2) (s0:=(out,(0:Int))) (e:=(D5,(1:Int))) [x] (fun i=>((match i with | 0=>out | _=>D5),(i:Int))) rfl (fun i n hn=>by
   obtain rfl:i=0:=by have:=bd hn; simp at this; exact this
   exact ho) (last D5)
  rw [e]
  have hw:=w1 t0 (show t < ((bh f x).length:Int) by omega) (by omega)
  refine os ⟨⟨⟨?_,?_⟩,?_,?_⟩,?_⟩
  all_goals (try dsimp only)
  ·rw [hw]; omega
  ·rw [hw]; omega
  ·rw [hw]; exact B4
  ·rw [hw]; exact hD'
  ·rw [hw]; omega
 all_goals (try dsimp only)
 ·rw [w1 s0 (show s < ((bh f x).length:Int) by omega) (by omega)]; omega
 ·rw [w1 s0 (show s < ((bh f x).length:Int) by omega) (by omega)]; omega
 ·rw [w1 s0 (show s < ((bh f x).length:Int) by omega) (by omega)]; omega
 ·refine hC i j i0 i1 j0 j1 ?_ hg
  have hP':i < aj (s+1):=hP
  rw [w1 s0 (show s < ((bh f x).length:Int) by omega) (by omega)] at hP'
  omega
 ·rw [w1 s0 (show s < ((bh f x).length:Int) by omega) (by omega)]; omega
end
end Go.Proofs.YtbmchcnkbonmkaaGreat
namespace Go.Proofs.YtbmchcnkbonmkaaGreat
open Go Go.Li
set_option linter.unusedVariables false
set_option linter.unusedSectionVars false
set_option linter.unusedSimpArgs false
def E6 (r:List Int):List Int:=[gi r 0,gi r 1]
section
variable {f:aJ} (hf:fk f=true)
include hf
theorem UT:Ok (nY f) fun b=>b=true↔∀ x:Int,0≤x→x < f.aF.aA→CG f x:=by
 have F:=dq hf
 have o0:=F.d.o0
 have o8:=F.d.o8
 have oc8:=F.c.o8
 unfold nY
 refine jb (ol (fun s:Int=>(0≤s∧s≤f.aF.aA)∧∀ x:Int,0≤x→x < s→CG f x) (fun s=>(f.aF.aA - s).toNat) ⟨⟨Int.le_refl _,o0⟩,fun x h0 h1=>by omega⟩ ?_)
 rintro s ⟨⟨s0,s1⟩,hs⟩
 unfold qX
 refine od (fun h=>?_) fun h=>os ⟨rfl,os ⟨fun _ x x0 x1=>hs x x0 (by omega),fun _=>rfl⟩⟩
 have hn:(bh f s).length≤1000:=by have:=xW hf s f.aE.aA.toNat; unfold bh; omega
 refine oe (UQ hf s0 h) (oe (UR hf s0 h) (ob (US hf s0 h) fun out ho=>?_))
 obtain ⟨hlen,hA,hC⟩:=ho
 have hL1:∀ (k:List (List Int)×Int→Option (Out Int Bool)),ae (ab 2 (af (fun t=>gI out t.1 t.2) (([]:List (List Int)),(0:Int)))) k=k (out.map E6,(out.length:Int)):=fun k=>by
  refine jo out (fun i=>((out.take i).map E6,(i:Int))) rfl (fun i r hr=>?_) (e:=(out.map E6,(out.length:Int))) ?_
  ·have hi:=bd hr
   obtain ⟨a,b,t,rfl,_⟩:=hA r (List.mem_of_getElem? hr)
   have ht:((out.take i).map E6).length≤20000000:=by rw [List.length_map,List.length_take]; omega
   show gI out ((out.take i).map E6) (i:Int)=_
   unfold gI
   rw [aq (by omega),cond_true,bx,hr,aD,show idx (a :: b :: t) (0:Int)=some a from rfl,aD,aD,show idx (a :: b :: t) (1:Int)=some b from rfl,aD,cN (by omega) (by omega),aD,bH (by omega),List.take_add_one,hr,List.map_append]; rfl
  ·show gI out ((out.take out.length).map E6) (out.length:Int)=_
   unfold gI
   rw [ba (by omega),cond_false,List.take_length]
 rw [hL1]
 dsimp only
 have hP:Prs ((bh f s).length:Int) (out.map E6):=fun r hr=>by
  obtain ⟨r',gx,rfl⟩:=List.mem_map.1 hr
  obtain ⟨a,b,t,rfl,h1,h2,_⟩:=hA r' gx
  exact ⟨a,b,[],rfl,h1,h2⟩
 have yo:(((bh f s).map t3).length:Int)=(bh f s).length:=by rw [List.length_map]
 rw [yo]
 refine ob (RQ (by omega) (by omega) (by rw [List.length_map]; omega) hP) fun q hq=>?_
 obtain ⟨hql,DU⟩:=hq
 have hinv:∀ c:Int→Int,MX c (out.map E6)↔∀ i j:Int,0≤i→i < (bh f s).length→0≤j→j < (bh f s).length→BC f (bh f s) i j→c i=c j:=fun c=>by
  constructor
  ·intro hc i j i0 i1 j0 j1 hg
   obtain ⟨t,ht⟩:=hC i j i0 i1 j0 j1 hg
   exact hc (E6 (i :: j :: t)) (List.mem_map.2 ⟨_,ht,rfl⟩) i j [] rfl
  ·intro hc r hr a b t e
   obtain ⟨r',gx,rfl⟩:=List.mem_map.1 hr
   obtain ⟨a',b',t',rfl,h1,h2,h3⟩:=hA r' gx
   have e':[a',b']=a :: b :: t:=e
   injection e' with e1 e2
   injection e2 with e2 _
   subst e1; subst e2
   exact hc _ _ h1.1 h1.2 h2.1 h2.2 h3
 have hF:CG f s↔bh f s≠[]∧∀ y∈q,y=0:=by
  unfold CG
  rw [DU]
  exact and_congr Iff.rfl (forall_congr' fun c=>by rw [hinv c])
 have NP:∀ (k:Int→Option (Out Int Bool)),ae (ab 4 (af (jK q) ((0:Int)))) k=if q.any (fun y=>y != 0) then some (.ret false) else k (q.length:Int):=fun k=>by
  refine l4 q (fun y=>y != 0) (fun i=>(i:Int)) rfl (fun i y hy hn=>?_) (fun i y hy hn=>?_) ?_
  ·have hi:=bd hy
   unfold jK
   rw [aq (by omega),cond_true,bx,hy,aD,hn,cond_false,bH (by omega)]
  ·have hi:=bd hy
   unfold jK
   rw [aq (by omega),cond_true,bx,hy,aD,hn,cond_true]
  ·unfold jK
   rw [ba (by omega),cond_false]
 rw [NP]
 cases xr:q.any (fun y=>y != 0) with
 | true=>
  rw [if_pos rfl]
  obtain ⟨y,hy,jx⟩:=List.any_eq_true.1 xr
  refine os ⟨fun h2=>(by cases h2),fun h2=>?_⟩
  have:=(hF.1 (h2 s s0 h)).2 y hy
  rw [this] at jx; simp at jx
 | false=>
  rw [if_neg (by decide)]
  have hz:∀ y∈q,y=0:=fun y hy=>by have:=List.any_eq_false.1 xr y hy; simpa using this
  by_cases he:bh f s=[]
  ·rw [he,show ((([]:List bF).length:Int) == (0:Int))=true from rfl,cond_true]
   exact os ⟨fun h2=>(by cases h2),fun h2=>absurd he (hF.1 (h2 s s0 h)).1⟩
  ·have hp:0 < (bh f s).length:=List.length_pos_iff.2 he
   rw [tV (by omega),cond_false]
   have hw:=w1 s0 h (by omega)
   refine os ⟨⟨⟨?_,?_⟩,fun x x0 x1=>?_⟩,?_⟩
   all_goals (try dsimp only)
   ·rw [hw]; omega
   ·rw [hw]; omega
   ·rw [hw] at x1
    rcases (by omega:x < s∨x=s) with h3 | rfl
    ·exact hs x x0 h3
    ·exact hF.2 ⟨he,hz⟩
   ·rw [hw]; omega
end
theorem Pb (a b:List Int) (ha:a.length≤1048576) (h:∀ x∈a,0≤x∧x < b.length):pQ a b=some (thenS a b):=by
 unfold pQ
 refine (congrArg ak (jo a (fun i=>((a.take i).map (gi b),(i:Int))) rfl (fun i x hx=>?_) (e:=(a.map (gi b),(a.length:Int))) ?_)).trans ?_
 ·have hi:=bd hx
  have hb:=h x (List.mem_of_getElem? hx)
  have ht:((a.take i).map (gi b)).length≤1048576:=by rw [List.length_map,List.length_take]; omega
  show lM a b ((a.take i).map (gi b)) (i:Int)=_
  unfold lM
  rw [aq (by omega),cond_true,bx,hx,aD,ba (by omega),cond_false,aD,ba (by omega),aD,cond_false,aD,bI hb.1 hb.2,aD,cN (by omega) (by omega),aD,bH (by omega),List.take_add_one,hx,List.map_append]; rfl
 ·show lM a b ((a.take a.length).map (gi b)) (a.length:Int)=_
  unfold lM
  rw [ba (by omega),cond_false,List.take_length]
 ·show some (a.map (gi b))=_
  congr 1
  refine AE (by rw [List.length_map,w5]) fun x x0 x1=>?_
  rw [w5] at x1
  rw [Jx x0 x1]
  have e:∀ (l:List Int),x < l.length→gi (l.map (gi b)) x=gi b (gi l x):=fun l hl=>by
   unfold gi
   rw [List.getD_eq_getElem?_getD,List.getElem?_map,List.getD_eq_getElem?_getD (l:=l),List.getElem?_eq_getElem (by omega)]; rfl
  exact e a x1
def E7 (c:aG):aJ:=aJ.mk c c (ns c.aA.toNat) (ns c.aC.length)
theorem UU {c:aG} (C:mc c):iD c=some (E7 c,0):=by
 have o0:=C.o0
 have o8:=C.o8
 have m:=C.m
 have hs:=w7 C
 unfold iD
 rw [Jn hs,w6 C,aD]
 simp only [Bool.not_true,cond_false]
 have:nZ c=some (E7 c):=by
  unfold nZ
  rw [z8 o0 (by omega),aD,show cH c=some (c.aC.length:Int) from rfl,aD,z8 (by omega) (by omega),aD,Int.toNat_natCast,DD hs hs (by rw [bZ]; omega) (by rw [bZ]; omega),aD]; rfl
 rw [this,aD]; rfl
theorem UW {c:aG} (C:mc c):fk (E7 c)=true:=by
 have o0:=C.o0
 have hO:∀ y:Int,0≤y→y < c.aA→gi (ns c.aA.toNat) y=y:=fun y y0 y1=>C5 y0 (by omega)
 have hA:∀ a:Int,0≤a→a < c.aC.length→gi (ns c.aC.length) a=a:=fun a a0 a1=>C5 a0 a1
 refine E4 (f:=E7 c) (w6 C) (w6 C) (by show ((ns c.aA.toNat).length:Int)=c.aA; rw [bZ]; omega) (bZ _) (fun y hy=>?_) (fun y hy=>bp.1 hy) (fun a a0 a1=>?_) (fun a a0 a1=>?_) (fun y y0 y1=>?_) fun a b a0 a1 b0 b1 e=>?_
 ·have:=bp.1 hy
  show 0≤y∧y < c.aA
  omega
 ·have k:=C.fr a0 a1
  show gi c.aC (gi (ns c.aC.length) a)=gi (ns c.aA.toNat) (gi c.aC a)
  rw [hA a a0 a1,hO _ k.1 k.2]
 ·have k:=C.to a0 a1
  show gi c.To (gi (ns c.aC.length) a)=gi (ns c.aA.toNat) (gi c.To a)
  rw [hA a a0 a1,hO _ k.1 k.2]
 ·have k:=C.id (x:=y) y0 y1
  show gi (ns c.aC.length) (gi c.aH y)=gi c.aH (gi (ns c.aA.toNat) y)
  rw [hA _ k.1 k.2,hO y y0 y1]
 ·have k:=C.cell a b a0 a1 b0 b1 e
  show gi (ns c.aC.length) (gk c.aB a b)=gk c.aB (gi (ns c.aC.length) a) (gi (ns c.aC.length) b)
  rw [hA _ k.1 k.2.1,hA a a0 a1,hA b b0 b1]
theorem UX {x:List Int} (B:AH x):Ok (kW x) tB:=by
 unfold kW
 refine jb (ob (Yr B) fun y hy=>?_)
 obtain ⟨s,rfl,S⟩:=hy
 show Ok (mB (aM.mk x s.At s.bb)>>=_) _
 exact ob (UY B S.on') fun f hf=>os hf.1
theorem O2 {x0:List Int} (hl:x0.length≤maxLen∧∀ y∈x0,0≤y∧y < 256):iG x0=some true:=by
 unfold iG
 have FG:sA x0=some (decide ((x0.length:Int) > 4096)):=rfl
 rw [FG,aD]
 by_cases hb:(x0.length:Int) > 4096
 ·rw [aq hb,cond_true]; rfl
 rw [ba hb,cond_false]
 obtain ⟨f,e,fs⟩:=UX (x:=x0) ⟨by omega,hl.2⟩
 rw [e,aD]
 cases hf:fk f with
 | false=>
  have hI:kN f=some (false,1):=by
   unfold kN qR
   rw [tb fs,aD,hf]; rfl
  have hS:kO f=some (false,1):=by
   unfold kO
   rw [CH fs,aD,hf]; rfl
  rw [hI,aD,hS,aD]
  show ak (S:=Unit) (mT f>>=fun RB=>some (Out.ret (!(RB))))=some true
  unfold mT
  rw [tb fs,hf]; rfl
 | true=>
  have F:=dq hf
  obtain ⟨b,vE,s6⟩:=UL hf
  obtain ⟨c,BZ,hc2⟩:=UT hf
  have hbc:b=c:=by rw [Bool.eq_iff_iff,s6,hc2]
  subst hbc
  have hI:kN f=some (b,0):=by
   unfold kN qR
   rw [tb fs,aD,hf]
   simp only [Bool.not_true,cond_false]
   rw [vE,aD]; rfl
  have hS:kO f=some (b,0):=by
   unfold kO
   rw [CH fs,aD,hf]
   simp only [Bool.not_true,cond_false]
   rw [BZ,aD]; rfl
  rw [hI,aD,hS,aD]
  dsimp only
  rw [xp rfl,cond_false,show (b == b)=true by simp]
  simp only [Bool.not_true,aD,cond_false]
  have h1:iC f=some (pw f,0):=by
   unfold iC
   rw [tb fs,aD,hf]
   simp only [Bool.not_true,cond_false]
   rw [C6 hf,aD]; rfl
  have ho:=vQ hf
  have h2:mU (pw f)=some (b,0):=by
   unfold mU
   rw [tb (zI (dq ho)),aD,ho]
   simp only [Bool.not_true,cond_false]
   rw [C6 ho,aD,Yg hf,vE,aD]; rfl
  rw [h1,aD]
  dsimp only
  rw [h2,aD]
  dsimp only
  rw [show ((0:Int) != 0)=false from rfl,cond_false,cond_false,show (b == b)=true by simp]
  simp only [Bool.not_true,aD,cond_false]
  cases VS:b with
  | false=>rfl
  | true=>
   have aeZ:=UN hf (s6.1 VS)
   have hg:=UW F.d
   have gs:=zI (dq hg)
   simp only [Bool.not_true,cond_false]
   rw [UU F.d,aD]
   dsimp only
   rw [Pc gs,aD,Pd gs,aD,hg,cond_true,xp rfl,cond_false,xp rfl,cond_false,ZT (MZ (vQ hg))]
   simp only [aD,Bool.not_true,cond_false]
   cases hz:(uA (pw (E7 f.aF))).2 != (0:Int) with
   | true=>rfl
   | false=>
    have IH:uA (pw (E7 f.aF))=((uA (pw (E7 f.aF))).1,0):=by
     have:(uA (pw (E7 f.aF))).2=0:=by simpa using hz
     rw [← this]
    obtain ⟨hlen,hp,hu⟩:=RS IH
    generalize hq:(uA (pw (E7 f.aF))).1=q at hp hu ⊢
    have Q:=MW hg (wA (vQ hg) hp)
    have o0:=F.d.o0
    obtain ⟨P,hu2⟩:=Kd hf hg rfl rfl (fun y y0 y1=>C5 y0 (by omega)) (fun a a0 a1=>C5 a0 a1) aeZ hp hu
    have ql:(q.ay.length:Int)=f.aF.aA:=Q.l
    have h5:pQ f.aA q.ay=some (thenS f.aA q.ay):=Pb _ _ fs.o fun x hx=>by have:=F.oo x hx; omega
    rw [cond_false,h5,aD]
    have hco:iO f=some (pw f):=by
     unfold iO
     rw [C6 hf,aD]; rfl
    by_cases hl4:(ef (pw f)).length≤400
    ·have h6:iR f (bD.mk q.da (thenS f.aA q.ay))=some (true,0):=by
      unfold iR
      rw [tb fs,aD,hf]
      simp only [Bool.not_true,cond_false]
      rw [hco,aD,RU ho hl4 P,aD,hu2]; rfl
     rw [h6]; rfl
    ·have h6:iR f (bD.mk q.da (thenS f.aA q.ay))=some (false,3):=by
      unfold iR
      rw [tb fs,aD,hf]
      simp only [Bool.not_true,cond_false]
      rw [hco,aD]
      have:iQ (lD.mk (pw f)) (bD.mk q.da (thenS f.aA q.ay))=some (false,3):=by
       unfold iQ
       rw [G0 ho (l:=[bD.mk q.da (thenS f.aA q.ay)]) (fun r hr=>by rw [List.mem_singleton.1 hr]; exact P) (by simp),aD,xp rfl,cond_false,show dE=some () from rfl,aD,CI ho,aD,ba hl4,cond_false]
       rfl
      rw [this,aD]; rfl
     rw [h6]; rfl
end Go.Proofs.YtbmchcnkbonmkaaGreat
