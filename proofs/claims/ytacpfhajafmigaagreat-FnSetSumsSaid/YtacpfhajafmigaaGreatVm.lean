/- Set functors that are drawn: elements glued together. No condition beside those that each theorem names. -/
import Derived.Test.YtacpfhajafmigaaGreatVl
import Derived.Test.YtacpfhajafmigaaGreatRu
namespace Go.Proofs.YtacpfhajafmigaaGreat
open Go Go.Li
def sumN (n:Nat) (f:Nat→Nat):Nat:=((List.range n).map f).sum
theorem sumN_succ (n:Nat) (f:Nat→Nat):sumN (n+1) f=sumN n f+f n:=by
 unfold sumN
 rw [List.range_succ,List.map_append,List.sum_append]
 simp
theorem sumN_le {n:Nat} {f g:Nat→Nat} (h:∀ i,i < n→f i≤g i):sumN n f≤sumN n g:=by
 induction n with
 | zero=>exact Nat.le_refl _
 | succ n ih=>
  rw [sumN_succ,sumN_succ]
  have:=ih fun i hi=>h i (by omega)
  have:=h n (by omega)
  omega
theorem sumN_lt {n:Nat} {f g:Nat→Nat} (h:∀ i,i < n→f i≤g i) {k:Nat} (hk:k < n) (hlt:f k < g k):sumN n f < sumN n g:=by
 induction n with
 | zero=>omega
 | succ n ih=>
  rw [sumN_succ,sumN_succ]
  have h1:=h n (by omega)
  by_cases e:k=n
  ·subst e
   have:=sumN_le (n:=k) (f:=f) (g:=g) fun i hi=>h i (by omega)
   omega
  ·have:=ih (fun i hi=>h i (by omega)) (by omega)
   omega
def neqN (p:List Int):Nat:=sumN p.length fun i:Nat=>sumN p.length fun j:Nat=>if p[i]? = p[j]? then 0 else 1
theorem neq_lt {p q:List Int} (hl:q.length=p.length) (hc:∀ i j:Nat,i < p.length→p[i]? = p[j]?→q[i]? = q[j]?) {u v:Nat} (hu:u < p.length) (hv:v < p.length) (hp:p[u]?≠p[v]?) (hq:q[u]? = q[v]?):neqN q < neqN p:=by
 have one:∀ i:Nat,i < p.length→∀ j:Nat,(if q[i]? = q[j]? then 0 else 1)≤(if p[i]? = p[j]? then (0:Nat) else 1):=by
  intro i hi j
  by_cases e:p[i]? = p[j]?
  ·rw [if_pos (hc i j hi e)]; omega
  ·rw [if_neg e]; split <;> omega
 unfold neqN
 rw [hl]
 refine sumN_lt (fun i hi=>sumN_le fun j _=>one i hi j) hu (sumN_lt (fun j _=>one u hu j) hv ?_)
 rw [if_pos hq,if_neg hp]; omega
def mes (cl:List (List Int)):Nat:=sumN cl.length fun x=>neqN (gr cl x)
theorem gr_set {cl:List (List Int)} {y:Nat} {q:List Int} (x:Nat):gr (cl.set y q) x=if y=x∧y < cl.length then q else gr cl x:=by
 unfold gr
 rw [List.getD_eq_getElem?_getD,List.getD_eq_getElem?_getD,show ((x:Int)).toNat=x from rfl,List.getElem?_set]
 by_cases h:y=x
 ·subst h
  by_cases h2:y < cl.length
  ·simp [h2]
  ·simp [h2]
 ·simp [h]
theorem mes_lt {cl:List (List Int)} {y:Nat} {q:List Int} (hy:y < cl.length) (h:neqN q < neqN (gr cl y)):mes (cl.set y q) < mes cl:=by
 unfold mes
 rw [List.length_set]
 refine sumN_lt (fun x _=>?_) hy ?_
 ·rw [gr_set]
  split
  ·rename_i hh
   rw [← hh.1]; omega
  ·exact Nat.le_refl _
 ·rw [gr_set,if_pos ⟨rfl,hy⟩]; exact h
structure Sh (f:aF):Prop where
 cat:Cat f.aA
 small:CatSmall f.aA
 sl:(f.aM.length:Int)=f.aA.aH
 s:∀ x:Int,0≤x→x < f.aA.aH→0≤gi f.aM x∧gi f.aM x≤200
 al:f.aN.length=f.aA.aG.length
 act:∀ a:Int,0≤a→a < f.aA.aG.length→((gr f.aN a).length:Int)=gi f.aM (gi f.aA.aG a)∧∀ y∈gr f.aN a,0≤y∧y < gi f.aM (gi f.aA.To a)
theorem mem_gr {l:List (List Int)} {y:List Int} (h:y∈l):∃ i:Int,0≤i∧i < l.length∧gr l i=y:=by
 obtain ⟨k,hk⟩:=List.getElem?_of_mem h
 have hl:=(List.getElem?_eq_some_iff.1 hk).1
 refine ⟨k,by omega,by omega,?_⟩
 unfold gr
 rw [List.getD_eq_getElem?_getD,show ((k:Int)).toNat=k from rfl,hk]; rfl
theorem Sh.sm {f:aF} (h:Sh f):SFSmall f:=by
 have o8:=h.cat.o8
 have m:=h.cat.m
 refine ⟨h.small,by have:=h.sl; omega,by have:=h.al; omega,fun y hy=>?_⟩
 obtain ⟨a,a0,a1,rfl⟩:=mem_gr hy
 have hf:=h.cat.fr a0 (by have:=h.al; omega)
 have:=(h.act a a0 (by have:=h.al; omega)).1
 have:=h.s _ hf.1 hf.2
 omega
theorem gi_setI {l:List Int} {q:Int} {i j:Int} (i0:0≤i) (i1:i < l.length) (j0:0≤j):gi (l.set i.toNat q) j=if j=i then q else gi l j:=by
 unfold gi
 rw [List.getD_eq_getElem?_getD,List.getD_eq_getElem?_getD,List.getElem?_set]
 by_cases h:j=i
 ·subst h; rw [if_pos rfl,if_pos rfl,if_pos (by omega)]; rfl
 ·rw [if_neg (by omega),if_neg h]
theorem mem_gi {l:List Int} {y:Int} (h:y∈l):∃ i:Int,0≤i∧i < l.length∧gi l i=y:=by
 obtain ⟨k,hk⟩:=List.getElem?_of_mem h
 have hl:=(List.getElem?_eq_some_iff.1 hk).1
 refine ⟨k,by omega,by omega,?_⟩
 unfold gi
 rw [List.getD_eq_getElem?_getD,show ((k:Int)).toNat=k from rfl,hk]; rfl
structure Cl (f:aF) (cl:List (List Int)):Prop where
 len:cl.length=f.aM.length
 row:∀ x:Int,0≤x→x < f.aA.aH→((gr cl x).length:Int)=gi f.aM x∧∀ y∈gr cl x,0≤y∧y < gi f.aM x
 rg:∀ x:Int,0≤x→x < f.aA.aH→Rg (gr cl x)
theorem Cl.set {f:aF} {cl:List (List Int)} (h:Cl f cl) {y:Int} (y0:0≤y) {q:List Int} (hq:(q.length:Int)=gi f.aM y∧∀ z∈q,0≤z∧z < gi f.aM y) (hrg:Rg q):Cl f (cl.set y.toNat q):=by
 refine ⟨by rw [List.length_set]; exact h.len,fun x x0 x1=>?_,fun x x0 x1=>?_⟩
 ·obtain ⟨n,rfl⟩ : ∃ n:Nat,x=n:=⟨x.toNat,by omega⟩
  rw [gr_set]
  split
  ·rename_i hh
   have:y=(n:Int):=by omega
   rw [← this]; exact hq
  ·exact h.row n x0 x1
 ·obtain ⟨n,rfl⟩ : ∃ n:Nat,x=n:=⟨x.toNat,by omega⟩
  rw [gr_set]
  split
  ·exact hrg
  ·exact h.rg n x0 x1
def OneF (f:aF):Prop:=∀ x e:Int,0≤x→x < f.aA.aH→0≤e→e < gi f.aM x→gi (gr f.aN (gi f.aA.aO x)) e=e
theorem gi_at {l:List Int} {j:Int} (h0:0≤j) (h1:j < l.length):l[j.toNat]? = some (gi l j):=by rw [← idx_of h0]; exact bS h0 h1
section
variable {f:aF} (H:Sh f)
include H
theorem glueFirst {ps:List (List (List Int))} (hp:(ps.length:Int)=f.aA.aH) (hps:∀ x:Int,0≤x→x < f.aA.aH→Prs (gi f.aM x) (gl ps x)∧(gl ps x).length≤1000) {k:Nat} {S R:Type} {body:List (List Int)×Int→Option (Out (List (List Int)×Int) R)} {g:List (List Int)×Int→Option (Out S R)} {Q:Out S R→Prop}
  (hb:∀ cl i,body (cl,i)=(bif decide (i < (f.aM.length:Int)) then ((idx f.aM i)>>=fun e36=>((idx ps i)>>=fun e38=>((gM e36 e38)>>=fun y45=>((fits 24 (cl.length+1))>>=fun _=>(some (Out.norm (cl++[y45],w64 (i+(1:Int))))))))) else (some (Out.exit k (cl,i)))))
  (h:∀ cl i,Cl f cl→Ok (g (cl,i)) Q):Ok (lbind (blockM k (loopM body (([]:List (List Int)),(0:Int)))) g) Q:=by
 have o8:=H.cat.o8
 have sl:=H.sl
 refine ol (fun z:List (List Int)×Int=>(0≤z.2∧z.2≤f.aM.length)∧(z.1.length:Int)=z.2∧∀ x:Nat,(x:Int) < z.2→(((gr z.1 x).length:Int)=gi f.aM x∧∀ y∈gr z.1 x,0≤y∧y < gi f.aM x)∧Rg (gr z.1 x)) (fun z=>(f.aM.length - z.2).toNat) ⟨⟨by show (0:Int)≤0; omega,by show (0:Int)≤_; omega⟩,rfl,fun x hx=>by have:(x:Int) < 0:=hx; omega⟩ ?_
 rintro ⟨cl,i⟩ ⟨⟨i0,i1⟩,hl,hr⟩
 dsimp only at i0 i1 hl hr
 rw [hb]
 refine od (fun hi=>?_) fun hi=>os ⟨rfl,h cl i ⟨by omega,fun x x0 x1=>?_,fun x x0 x1=>?_⟩⟩
 ·have hs:=H.s i i0 (by omega)
  have hP:=hps i i0 (by omega)
  refine oe (bS i0 hi) (oe (idx_gl i0 (by omega)) (ob (join_ok hs.1 (by omega) (by omega) hP.1) fun q hq=>oft (by omega) (by omega) (os ⟨⟨⟨?_,?_⟩,?_,fun x hx=>?_⟩,?_⟩)))
  all_goals have hw:=w1 i0 hi (by omega)
  all_goals first | (dsimp only at hx; rw [hw] at hx) | skip
  all_goals dsimp only
  all_goals first | (rw [hw]; simp only [List.length_append,List.length_singleton]; omega) | (rw [hw]; omega) | skip
  by_cases e:(x:Int) < i
  ·have:gr (cl++[q]) x=gr cl x:=by
    unfold gr
    rw [List.getD_eq_getElem?_getD,List.getD_eq_getElem?_getD,List.getElem?_append_left (by show x < _; omega)]
   rw [this]; exact hr x e
  ·have ex:(x:Int)=i:=by omega
   have:gr (cl++[q]) x=q:=by
    unfold gr
    rw [List.getD_eq_getElem?_getD,List.getElem?_append_right (by show _≤x; omega),show ((x:Int)).toNat - cl.length=0 by show x - _=0; omega]; rfl
   rw [this,ex]; exact ⟨⟨hq.1,hq.2.1⟩,hq.2.2.2⟩
 ·obtain ⟨n,rfl⟩ : ∃ n:Nat,x=n:=⟨x.toNat,by omega⟩
  exact (hr n (by omega)).1
 ·obtain ⟨n,rfl⟩ : ∃ n:Nat,x=n:=⟨x.toNat,by omega⟩
  exact (hr n (by omega)).2
theorem glueOk {ps:List (List (List Int))} (hp:(ps.length:Int)=f.aA.aH) (hps:∀ x:Int,0≤x→x < f.aA.aH→Prs (gi f.aM x) (gl ps x)∧(gl ps x).length≤1000):Ok (nQ f ps) fun g=>Sh g∧g.aA=f.aA∧(OneF f→OneF g):=by
 have o0:=H.cat.o0
 have o8:=H.cat.o8
 have m:=H.cat.m
 have sl:=H.sl
 have al:=H.al
 unfold nQ
 refine orr (glueFirst H hp hps (fun cl i=>rfl) fun cl i hcl=>?_)
 dsimp only
 refine ol (fun z:Bool×List (List Int)=>Cl f z.2) (fun z=>2 * mes z.2+(bif z.1 then 1 else 0)) hcl ?_
 rintro ⟨more,cl⟩ hcl
 dsimp only at hcl
 show Ok (nL f more cl) _
 unfold nL
 refine oc (fun em=>?_) fun _=>os ⟨rfl,?_⟩
 ·subst em
  refine ol (fun z:Bool×Int×List (List Int)=>(0≤z.2.1∧z.2.1≤f.aN.length)∧Cl f z.2.2∧mes z.2.2≤mes cl∧(z.1=true→mes z.2.2 < mes cl)) (fun z=>(f.aN.length - z.2.1).toNat) ⟨⟨by show (0:Int)≤0; omega,by show (0:Int)≤_; omega⟩,hcl,Nat.le_refl _,fun h=>nomatch h⟩ ?_
  rintro ⟨b2,a,c2⟩ ⟨⟨a0,a1⟩,h2,l2,t2⟩
  dsimp only at a0 a1 h2 l2 t2
  show Ok (nK f b2 a c2) _
  unfold nK
  refine od (fun ha=>?_) fun ha=>os ⟨rfl,os ⟨h2,?_⟩⟩
  ·have hfr:=H.cat.fr a0 (by omega)
   have hto:=H.cat.to a0 (by omega)
   have hA:=H.act a a0 (by omega)
   refine oe (H.cat.idxF a0 (by omega)) (oe (H.cat.idxT a0 (by omega)) ?_)
   have hsx:=H.s _ hfr.1 hfr.2
   have hsy:=H.s _ hto.1 hto.2
   refine ol (fun z:Bool×Int×List (List Int)=>(0≤z.2.1∧z.2.1≤gi f.aM (gi f.aA.aG a))∧Cl f z.2.2∧mes z.2.2≤mes cl∧(z.1=true→mes z.2.2 < mes cl)) (fun z=>(gi f.aM (gi f.aA.aG a) - z.2.1).toNat) ⟨⟨by show (0:Int)≤0; omega,hsx.1⟩,h2,l2,t2⟩ ?_
   rintro ⟨b3,d,c3⟩ ⟨⟨d0,d1⟩,h3,l3,t3⟩
   dsimp only at d0 d1 h3 l3 t3
   show Ok (nJ f a (gi f.aA.aG a) (gi f.aA.To a) b3 d c3) _
   unfold nJ
   have hcx:=h3.row _ hfr.1 hfr.2
   have hcl3:=h3.len
   refine oe (idx_gr hfr.1 (by omega)) (od (fun hd=>?_) fun hd=>os ⟨rfl,os ⟨⟨⟨?_,?_⟩,h3,l3,t3⟩,?_⟩⟩)
   ·refine ol (fun z:Bool×Int×List (List Int)=>(0≤z.2.1∧z.2.1≤d)∧Cl f z.2.2∧mes z.2.2≤mes cl∧(z.1=true→mes z.2.2 < mes cl)) (fun z=>(d - z.2.1).toNat) ⟨⟨by show (0:Int)≤0; omega,d0⟩,h3,l3,t3⟩ ?_
    rintro ⟨b4,e,c4⟩ ⟨⟨e0,e1⟩,h4,l4,t4⟩
    dsimp only at e0 e1 h4 l4 t4
    show Ok (nI f a (gi f.aA.aG a) (gi f.aA.To a) d b4 e c4) _
    unfold nI
    have hx4:=h4.row _ hfr.1 hfr.2
    have hy4:=h4.row _ hto.1 hto.2
    have hl4:=h4.len
    refine od (fun he=>?_) fun he=>os ⟨rfl,os ⟨⟨⟨?_,?_⟩,h4,l4,t4⟩,?_⟩⟩
    ·have hu:=hA.2 _ (gi_mem (l:=gr f.aN a) (j:=d) d0 (by omega))
     have hv:=hA.2 _ (gi_mem (l:=gr f.aN a) (j:=e) e0 (by omega))
     have hw:=w1 e0 he (by omega)
     refine oe (idx_gr a0 ha) (oe (bS d0 (by omega)) (oe (idx_gr a0 ha) (oe (bS e0 (by omega)) ?_)))
     refine ob (P:=fun g=>g=true→gi (gr c4 (gi f.aA.To a)) (gi (gr f.aN a) d)≠gi (gr c4 (gi f.aA.To a)) (gi (gr f.aN a) e)) (oe (idx_gr hfr.1 (by omega)) (oe (bS d0 (by omega)) (oe (idx_gr hfr.1 (by omega)) (oe (bS e0 (by omega)) (oc (fun _=>oe (idx_gr hto.1 (by omega)) (oe (bS hu.1 (by omega)) (oe (idx_gr hto.1 (by omega)) (oe (bS hv.1 (by omega)) (os fun h=>by simpa using h))))) fun _=>os fun h=>nomatch h))))) fun g hg=>oc (fun eg=>?_) fun _=>os ⟨⟨⟨?_,?_⟩,h4,l4,t4⟩,?_⟩
     ·refine oe (bS hto.1 (by omega)) (oe (idx_gr hto.1 (by omega)) ?_)
      refine glue_ok (p:=gr c4 (gi f.aA.To a)) (by omega) (by omega) (by omega) (by omega) fun q hq hqb hqc hqe hqr=>?_
      have hlt:mes (c4.set (gi f.aA.To a).toNat q) < mes c4:=by
       refine mes_lt (by omega) ?_
       rw [show (((gi f.aA.To a).toNat:Nat):Int)=gi f.aA.To a by omega]
       refine neq_lt hq hqc (u:=(gi (gr f.aN a) d).toNat) (v:=(gi (gr f.aN a) e).toNat) (by omega) (by omega) ?_ hqe
       rw [gi_at hu.1 (by omega),gi_at hv.1 (by omega)]
       exact fun h=>hg eg (Option.some.inj h)
      refine oe (idx_gr hto.1 (by omega)) (os ⟨⟨⟨?_,?_⟩,h4.set hto.1 ⟨by omega,hqb⟩ hqr,?_,?_⟩,?_⟩)
      all_goals dsimp only
      all_goals first | (rw [hw]; omega) | omega | (intro _; omega)
     all_goals dsimp only
     all_goals (rw [hw]; omega)
    all_goals have hw:=w1 d0 hd (by omega)
    all_goals dsimp only
    all_goals (rw [hw]; omega)
   all_goals have hw:=w1 a0 ha (by omega)
   all_goals dsimp only
   all_goals (rw [hw]; omega)
  ·dsimp only
   cases b2 with
   | true=>have:=t2 rfl; simp only [cond_true]; omega
   | false=>simp only [cond_true,cond_false]; omega
 ·dsimp only
  refine ob (P:=fun y=>y=f.aA) ⟨_,specOwnC H.small,rfl⟩ fun y hy=>?_
  subst hy
  have hcll:=hcl.len
  refine ol (fun z:Int×List Int=>(0≤z.1∧z.1≤cl.length)∧(z.2.length:Int)=z.1∧∀ x:Nat,(x:Int) < z.1→(0≤gi z.2 x∧gi z.2 x≤200)∧(∀ y∈gr cl x,y < gi z.2 x)∧((gr cl x).length=0→gi z.2 x=0)∧(0 < gi z.2 x→gi z.2 x - 1∈gr cl x)) (fun z=>(cl.length - z.1).toNat) ⟨⟨by show (0:Int)≤0; omega,by show (0:Int)≤_; omega⟩,rfl,fun x hx=>by have:(x:Int) < 0:=hx; omega⟩ ?_
  rintro ⟨x,sz⟩ ⟨⟨x0,x1⟩,hsz,hr⟩
  dsimp only at x0 x1 hsz hr
  show Ok (nN cl x sz) _
  unfold nN
  refine od (fun hx=>?_) fun hx=>os ⟨rfl,?_⟩
  ·have hrow:=hcl.row x x0 (by omega)
   have hs:=H.s x x0 (by omega)
   refine ol (fun z:Int×Int=>(0≤z.2∧z.2≤(gr cl x).length)∧(0≤z.1∧z.1≤200)∧(∀ e:Nat,(e:Int) < z.2→gi (gr cl x) e < z.1)∧(z.2=0→z.1=0)∧(0 < z.1→z.1 - 1∈gr cl x)) (fun z=>((gr cl x).length - z.2).toNat) ⟨⟨by show (0:Int)≤0; omega,by show (0:Int)≤_; omega⟩,⟨by show (0:Int)≤0; omega,by show (0:Int)≤200; omega⟩,fun e he=>by have:(e:Int) < 0:=he; omega,fun _=>rfl,fun h=>absurd h (by show ¬ (0:Int) < 0; omega)⟩ ?_
   rintro ⟨n,e⟩ ⟨⟨e0,e1⟩,⟨n0,n1⟩,hn,hz,hz2⟩
   dsimp only at e0 e1 n0 n1 hn hz hz2
   show Ok (nM cl x n e) _
   unfold nM
   refine oe (idx_gr x0 hx) (od (fun he=>?_) fun he=>os ⟨rfl,?_⟩)
   ·have hw:=w1 e0 he (by omega)
    have hv:=hrow.2 _ (gi_mem e0 he)
    have hw2:w64 (gi (gr cl x) e+1)=gi (gr cl x) e+1:=dJ (by omega) (by omega)
    refine oe (idx_gr x0 hx) (oe (bS e0 he) (os ?_))
    rw [hw2,hw]
    refine ⟨⟨⟨?_,?_⟩,⟨?_,?_⟩,fun k hk=>?_,fun h=>?_,?_⟩,?_⟩
    all_goals dsimp only
    ·omega
    ·omega
    ·split <;> omega
    ·split <;> omega
    ·dsimp only at hk
     by_cases ek:(k:Int) < e
     ·have:=hn k ek; split <;> omega
     ·rw [show (k:Int)=e by omega]; split <;> omega
    ·dsimp only at h; omega
    ·split
     ·intro _; rw [show gi (gr cl x) e+1 - 1=gi (gr cl x) e by omega]; exact gi_mem e0 he
     ·exact hz2
    ·omega
   ·dsimp only
    have hw:=w1 x0 hx (by omega)
    refine oft (by omega) (by omega) (os ⟨⟨⟨?_,?_⟩,?_,fun k hk=>?_⟩,?_⟩)
    all_goals first | (dsimp only at hk; rw [hw] at hk) | skip
    all_goals dsimp only
    all_goals first | (rw [hw]; simp only [List.length_append,List.length_singleton]; omega) | (rw [hw]; omega) | skip
    by_cases ek:(k:Int) < x
    ·have:gi (sz++[n]) k=gi sz k:=by
      unfold gi
      rw [List.getD_eq_getElem?_getD,List.getD_eq_getElem?_getD,List.getElem?_append_left (by show k < _; omega)]
     rw [this]; exact hr k ek
    ·have ex:(k:Int)=x:=by omega
     have:gi (sz++[n]) k=n:=by
      unfold gi
      rw [List.getD_eq_getElem?_getD,List.getElem?_append_right (by show _≤k; omega),show ((k:Int)).toNat - sz.length=0 by show k - _=0; omega]; rfl
     rw [this,ex]
     refine ⟨⟨n0,n1⟩,fun y hy=>?_,fun h=>hz (by omega),hz2⟩
     obtain ⟨i,hi⟩:=List.getElem?_of_mem hy
     have hil:=(List.getElem?_eq_some_iff.1 hi).1
     have:=hn i (by omega)
     rwa [show gi (gr cl x) i=y by unfold gi; rw [List.getD_eq_getElem?_getD,show ((i:Int)).toNat=i from rfl,hi]; rfl] at this
  ·dsimp only
   have hS:∀ x:Int,0≤x→x < f.aA.aH→(0≤gi sz x∧gi sz x≤200)∧(∀ y∈gr cl x,y < gi sz x)∧((gr cl x).length=0→gi sz x=0)∧(0 < gi sz x→gi sz x - 1∈gr cl x):=by
    intro y y0 y1
    obtain ⟨n,rfl⟩ : ∃ n:Nat,y=n:=⟨y.toNat,by omega⟩
    exact hr n (by omega)
   refine ol (fun z:Int×List (List Int)=>(0≤z.1∧z.1≤f.aN.length)∧(z.2.length:Int)=z.1∧∀ a:Nat,(a:Int) < z.1→((gr z.2 a).length:Int)=gi sz (gi f.aA.aG a)∧(∀ y∈gr z.2 a,0≤y∧y < gi sz (gi f.aA.To a))∧(OneF f→∀ x:Int,0≤x→x < f.aA.aH→(a:Int)=gi f.aA.aO x→∀ c:Int,0≤c→c < gi sz x→gi (gr z.2 a) c=c)) (fun z=>(f.aN.length - z.1).toNat) ⟨⟨by show (0:Int)≤0; omega,by show (0:Int)≤_; omega⟩,rfl,fun x hx=>by have:(x:Int) < 0:=hx; omega⟩ ?_
   rintro ⟨a,acts⟩ ⟨⟨a0,a1⟩,hl,hra⟩
   dsimp only at a0 a1 hl hra
   show Ok (nP f cl sz a acts) _
   unfold nP
   refine od (fun ha=>?_) fun ha=>os ⟨rfl,os ⟨⟨H.cat,H.small,by dsimp only; omega,fun x x0 x1=>(hS x x0 x1).1,by dsimp only; omega,fun a' a0' a1'=>?_⟩,rfl,fun h1 x c x0 x1 c0 c1=>?_⟩⟩
   ·have hfr:=H.cat.fr a0 (by omega)
    have hto:=H.cat.to a0 (by omega)
    have hA:=H.act a a0 (by omega)
    have hsx:=H.s _ hfr.1 hfr.2
    have hSx:=hS _ hfr.1 hfr.2
    have hSy:=hS _ hto.1 hto.2
    have hcx:=hcl.row _ hfr.1 hfr.2
    have hcy:=hcl.row _ hto.1 hto.2
    refine oe (H.cat.idxF a0 (by omega)) (oe (H.cat.idxT a0 (by omega)) (oe (bS hfr.1 (by omega)) (omk hSx.1.1 (by omega) (by omega) ?_)))
    have room:0 < gi sz (gi f.aA.aG a)→0 < gi sz (gi f.aA.To a):=by
     intro h
     have h1 : ¬ (gr cl (gi f.aA.aG a)).length=0:=fun h2=>by have:=hSx.2.2.1 h2; omega
     have h2:=hA.2 _ (gi_mem (l:=gr f.aN a) (j:=0) (by omega) (by omega))
     have h3:=gi_mem (l:=gr cl (gi f.aA.To a)) (j:=0) (by omega) (by omega)
     have:=hSy.2.1 _ h3
     have:=(hcy.2 _ h3).1
     omega
    refine ol (fun z:Int×List Int=>(0≤z.1∧z.1≤(gr cl (gi f.aA.aG a)).length)∧(z.2.length:Int)=gi sz (gi f.aA.aG a)∧(∀ y∈z.2,0≤y∧y < gi sz (gi f.aA.To a))∧(OneF f→∀ x:Int,0≤x→x < f.aA.aH→a=gi f.aA.aO x→∀ c:Int,0≤c→c < z.1→gi z.2 (gi (gr cl x) c)=gi (gr cl x) c)) (fun z=>((gr cl (gi f.aA.aG a)).length - z.1).toNat) ⟨⟨by show (0:Int)≤0; omega,by show (0:Int)≤_; omega⟩,by dsimp only; rw [List.length_replicate]; omega,fun y hy=>?_,fun _ x _ _ _ c h0 h1=>by dsimp only at h1; omega⟩ ?_
    ·obtain ⟨h1,rfl⟩:=List.mem_replicate.1 hy
     have:=room (by omega)
     omega
    ·rintro ⟨e,l⟩ ⟨⟨e0,e1⟩,hll,hly,hone⟩
     dsimp only at e0 e1 hll hly hone
     show Ok (nO f cl a (gi f.aA.aG a) (gi f.aA.To a) e l) _
     unfold nO
     refine oe (idx_gr hfr.1 (by omega)) (od (fun he=>?_) fun he=>os ⟨rfl,?_⟩)
     ·have hw:=w1 e0 he (by omega)
      have hu:=hA.2 _ (gi_mem (l:=gr f.aN a) (j:=e) e0 (by omega))
      have hk:=hcx.2 _ (gi_mem (l:=gr cl (gi f.aA.aG a)) e0 he)
      have hk2:=hSx.2.1 _ (gi_mem (l:=gr cl (gi f.aA.aG a)) e0 he)
      have hq:=gi_mem (l:=gr cl (gi f.aA.To a)) (j:=gi (gr f.aN a) e) hu.1 (by omega)
      refine oe (idx_gr hfr.1 (by omega)) (oe (bS e0 he) (oe (idx_gr hto.1 (by omega)) (oe (idx_gr a0 ha) (oe (bS e0 (by omega)) (oe (bS hu.1 (by omega)) (oe (bS hk.1 (by omega)) (os ⟨⟨⟨?_,?_⟩,?_,set_all hly ⟨(hcy.2 _ hq).1,hSy.2.1 _ hq⟩,fun h1 x x0 x1 ea c c0 c1=>?_⟩,?_⟩)))))))
      all_goals first | (dsimp only at c1; rw [hw] at c1) | skip
      all_goals dsimp only
      all_goals first | (rw [List.length_set]; exact hll) | (rw [hw]; omega) | skip
      have ef:gi f.aA.aG a=x:=by rw [ea]; exact H.cat.idf x x0 x1
      have et:gi f.aA.To a=x:=by rw [ea]; exact H.cat.idt x x0 x1
      have eo:=h1 x e x0 x1 e0 (by rw [ef] at he hcx; omega)
      rw [← ea] at eo
      rw [eo,ef,et]
      rw [ef] at hk hcx he hll hk2
      have hv:=hcx.2 _ (gi_mem (l:=gr cl x) (j:=c) c0 (by omega))
      rw [gi_setI hk.1 (by omega) hv.1]
      split
      ·rename_i e3; exact e3.symm
      ·rename_i e3
       refine hone h1 x x0 x1 ea c c0 ?_
       rcases (by omega:c < e∨c=e) with e4 | e4
       ·exact e4
       ·rw [e4] at e3; exact absurd rfl e3
     ·dsimp only
      have hw:=w1 a0 ha (by omega)
      refine oft (by omega) (by omega) (os ⟨⟨⟨?_,?_⟩,?_,fun k hk=>?_⟩,?_⟩)
      all_goals first | (dsimp only at hk; rw [hw] at hk) | skip
      all_goals dsimp only
      all_goals first | (rw [hw]; simp only [List.length_append,List.length_singleton]; omega) | (rw [hw]; omega) | skip
      by_cases ek:(k:Int) < a
      ·have:gr (acts++[l]) k=gr acts k:=by
        unfold gr
        rw [List.getD_eq_getElem?_getD,List.getD_eq_getElem?_getD,List.getElem?_append_left (by show k < _; omega)]
       rw [this]; exact hra k ek
      ·have ex:(k:Int)=a:=by omega
       have:gr (acts++[l]) k=l:=by
        unfold gr
        rw [List.getD_eq_getElem?_getD,List.getElem?_append_right (by show _≤k; omega),show ((k:Int)).toNat - acts.length=0 by show k - _=0; omega]; rfl
       rw [this]
       refine ⟨by rw [ex]; exact hll,by rw [ex]; exact hly,fun h1 x x0 x1 ea c c0 c1=>?_⟩
       rw [ex] at ea
       have ef:gi f.aA.aG a=x:=by rw [ea]; exact H.cat.idf x x0 x1
       obtain ⟨i,i0,i1,ei⟩:=mem_gi (hcl.rg x x0 x1 _ ((hS x x0 x1).2.2.2 (by omega)) c c0 (by omega))
       rw [ef] at he
       have:=hone h1 x x0 x1 ea i i0 (by omega)
       rwa [ei] at this
   ·obtain ⟨n,rfl⟩ : ∃ n:Nat,a'=n:=⟨a'.toNat,by omega⟩
    have:=hra n (by dsimp only at a1'; omega)
    exact ⟨this.1,this.2.1⟩
   ·dsimp only at x1 c1 ⊢
    have hid:=H.cat.id x0 x1
    have:=(hra (gi f.aA.aO x).toNat (by omega)).2.2 h1 x x0 x1 (by omega) c c0 c1
    rwa [show (((gi f.aA.aO x).toNat:Nat):Int)=gi f.aA.aO x by omega] at this
end
end Go.Proofs.YtacpfhajafmigaaGreat
