/- Set functors that are drawn: free ones, constant ones. No condition beside those that each theorem names. -/
import Derived.Test.YtacpfhajafmigaaGreatVm
import Derived.Test.YtacpfhajafmigaaGreatRa
import Derived.Test.YtacpfhajafmigaaGreatVg
namespace Go.Proofs.YtacpfhajafmigaaGreat
open Go Go.Li
theorem gi_app {l:List Int} {q:Int} {j:Int} (h0:0≤j):gi (l++[q]) j=if j < l.length then gi l j else if j=l.length then q else 0:=by
 obtain ⟨n,rfl⟩ : ∃ n:Nat,j=n:=⟨j.toNat,by omega⟩
 unfold gi
 rw [List.getD_eq_getElem?_getD,List.getD_eq_getElem?_getD,show ((n:Int)).toNat=n from rfl]
 by_cases h:n < l.length
 ·rw [List.getElem?_append_left h,if_pos (by omega)]
 ·rw [List.getElem?_append_right (by omega),if_neg (by omega)]
  by_cases e:n=l.length
  ·subst e; rw [if_pos rfl,Nat.sub_self]; rfl
  ·rw [if_neg (by omega),List.getElem?_eq_none (by simp; omega)]; rfl
theorem gr_app {l:List (List Int)} {q:List Int} {j:Int} (h0:0≤j):gr (l++[q]) j=if j < l.length then gr l j else if j=l.length then q else []:=by
 obtain ⟨n,rfl⟩ : ∃ n:Nat,j=n:=⟨j.toNat,by omega⟩
 unfold gr
 rw [List.getD_eq_getElem?_getD,List.getD_eq_getElem?_getD,show ((n:Int)).toNat=n from rfl]
 by_cases h:n < l.length
 ·rw [List.getElem?_append_left h,if_pos (by omega)]
 ·rw [List.getElem?_append_right (by omega),if_neg (by omega)]
  by_cases e:n=l.length
  ·subst e; rw [if_pos rfl,Nat.sub_self]; rfl
  ·rw [if_neg (by omega),List.getElem?_eq_none (by simp; omega)]; rfl
theorem gl_set {α:Type} {l:List (List α)} {q:List α} {i j:Int} (i0:0≤i) (i1:i < l.length) (j0:0≤j):gl (l.set i.toNat q) j=if j=i then q else gl l j:=by
 unfold gl
 rw [List.getD_eq_getElem?_getD,List.getD_eq_getElem?_getD,List.getElem?_set]
 by_cases h:j=i
 ·subst h; rw [if_pos rfl,if_pos rfl,if_pos (by omega)]; rfl
 ·rw [if_neg (by omega),if_neg h]
theorem gl_rep {α:Type} {n:Nat} {x:Int}:gl (List.replicate n ([]:List α)) x=[]:=by
 unfold gl
 rw [List.getD_eq_getElem?_getD,List.getElem?_replicate]
 split <;> rfl
structure FI (c:aI) (zs:List Int) (K H:Int) (ls:List (List (List Int))):Prop where
 len:(ls.length:Int)=c.aH
 mem:∀ x:Int,0≤x→x < c.aH→∀ r∈gl ls x,∃ k h:Int,r=[k,h]∧(0≤k∧k < zs.length)∧(0≤h∧h < c.aG.length)∧(gi c.aG h=gi zs k∧gi c.To h=x)∧(k < K∨k=K∧h < H)
 nd:∀ x:Int,0≤x→x < c.aH→(gl ls x).Nodup
 has:∀ k h:Int,0≤k→k < zs.length→0≤h→h < c.aG.length→(k < K∨k=K∧h < H)→gi c.aG h=gi zs k→[k,h]∈gl ls (gi c.To h)
 cnt:∀ x:Int,0≤x→x < c.aH→((gl ls x).length:Int)≤40 * K+H
theorem freeOk {c:aI} (C:Cat c) (hs:CatSmall c) {zs:List Int} (ho:zs.length≤3):Ok (nF c zs) fun f=>Sh f∧f.aA=c∧OneF f:=by
 have o0:=C.o0
 have o8:=C.o8
 have m:=C.m
 unfold nF
 refine orr (omk o0 (by omega) (by omega) (ol (fun z:Int×List (List (List Int))=>(0≤z.1∧z.1≤zs.length)∧FI c zs z.1 0 z.2) (fun z=>(zs.length - z.1).toNat) ⟨⟨by show (0:Int)≤0; omega,by show (0:Int)≤_; omega⟩,by rw [List.length_replicate]; omega,fun x _ _ r hr=>?_,fun x _ _=>?_,fun k h k0 _ _ _ hk=>by dsimp only at hk; omega,fun x _ _=>?_⟩ ?_))
 ·rw [gl_rep] at hr; cases hr
 ·rw [gl_rep]; exact List.nodup_nil
 ·rw [gl_rep]; show ((0:Nat):Int)≤_; dsimp only; omega
 rintro ⟨k,ls⟩ ⟨⟨k0,k1⟩,hF⟩
 dsimp only at k0 k1 hF
 show Ok (nB c zs k ls) _
 unfold nB
 refine od (fun hk=>?_) fun hk=>os ⟨rfl,?_⟩
 ·refine ol (fun z:Int×List (List (List Int))=>(0≤z.1∧z.1≤c.aG.length)∧FI c zs k z.1 z.2) (fun z=>(c.aG.length - z.1).toNat) ⟨⟨by show (0:Int)≤0; omega,by show (0:Int)≤_; omega⟩,hF⟩ ?_
  rintro ⟨h,ls⟩ ⟨⟨h0,h1⟩,hF⟩
  dsimp only at h0 h1 hF
  show Ok (nA c zs k h ls) _
  unfold nA
  have hlen:=hF.len
  refine od (fun hh=>?_) fun hh=>os ⟨rfl,os ⟨⟨⟨?_,?_⟩,hF.len,fun x x0 x1 r hr=>?_,hF.nd,fun k' h' a b d e f g=>?_,fun x x0 x1=>?_⟩,?_⟩⟩
  ·have hw:=w1 h0 hh (by omega)
   have ht:=C.to h0 hh
   have hc:=hF.cnt _ ht.1 ht.2
   refine oe (C.idxF h0 hh) (oe (bS k0 hk) (oc (fun e=>oe (C.idxT h0 hh) (oe (idx_gl ht.1 (by omega)) (oft (by omega) (by omega) (oe (idx_gl ht.1 (by omega)) (os ⟨⟨⟨?_,?_⟩,?_,fun x x0 x1 r hr=>?_,fun x x0 x1=>?_,fun k' h' a b d e' f g=>?_,fun x x0 x1=>?_⟩,?_⟩))))) fun e=>os ⟨⟨⟨?_,?_⟩,hF.len,fun x x0 x1 r hr=>?_,hF.nd,fun k' h' a b d e' f g=>?_,fun x x0 x1=>?_⟩,?_⟩))
   all_goals try dsimp only
   ·rw [hw]; omega
   ·rw [hw]; omega
   ·rw [List.length_set]; exact hF.len
   ·rw [gl_set ht.1 (by omega) x0] at hr
    have e2:gi c.aG h=gi zs k:=by simpa using e
    rw [hw]
    split at hr
    ·rename_i ex
     rcases List.mem_append.1 hr with hr | hr
     ·obtain ⟨k',h',q1,q2,q3,q4,q5⟩:=hF.mem x x0 x1 r (by rw [ex]; exact hr)
      exact ⟨k',h',q1,q2,q3,q4,by omega⟩
     ·rw [List.mem_singleton.1 hr]
      exact ⟨k,h,rfl,⟨k0,hk⟩,⟨h0,hh⟩,⟨e2,ex.symm⟩,by omega⟩
    ·obtain ⟨k',h',q1,q2,q3,q4,q5⟩:=hF.mem x x0 x1 r hr
     exact ⟨k',h',q1,q2,q3,q4,by omega⟩
   ·rw [gl_set ht.1 (by omega) x0]
    split
    ·refine List.nodup_append.2 ⟨hF.nd _ ht.1 ht.2,by simp,fun r hr r' hr'=>?_⟩
     rw [List.mem_singleton.1 hr']
     obtain ⟨k',h',q1,q2,q3,q4,q5⟩:=hF.mem _ ht.1 ht.2 r hr
     rw [q1]
     intro e5
     simp only [List.cons.injEq] at e5
     omega
    ·exact hF.nd x x0 x1
   ·rw [hw] at f
    have ht':=C.to d e'
    rw [gl_set ht.1 (by omega) ht'.1]
    by_cases en:k'=k∧h'=h
    ·rw [en.1,en.2,if_pos rfl]; simp
    ·have:=hF.has k' h' a b d e' (by omega) g
     split
     ·rename_i ex; rw [← ex]; exact List.mem_append_left _ this
     ·exact this
   ·rw [hw,gl_set ht.1 (by omega) x0]
    have:=hF.cnt x x0 x1
    split
    ·rename_i ex; rw [ex] at this; rw [List.length_append,List.length_singleton]; omega
    ·omega
   ·rw [hw]; omega
   ·rw [hw]; omega
   ·rw [hw]; omega
   ·obtain ⟨k',h',q1,q2,q3,q4,q5⟩:=hF.mem x x0 x1 r hr
    rw [hw]
    exact ⟨k',h',q1,q2,q3,q4,by omega⟩
   ·rw [hw] at f
    refine hF.has k' h' a b d e' ?_ g
    by_cases en:k'=k∧h'=h
    ·rw [en.1,en.2] at g; rw [g] at e; simp at e
    ·omega
   ·rw [hw]; have:=hF.cnt x x0 x1; omega
   ·rw [hw]; omega
  all_goals have hw:=w1 k0 hk (by omega)
  all_goals try dsimp only
  ·rw [hw]; omega
  ·rw [hw]; omega
  ·obtain ⟨k',h',q1,q2,q3,q4,q5⟩:=hF.mem x x0 x1 r hr
   rw [hw]
   exact ⟨k',h',q1,q2,q3,q4,by omega⟩
  ·rw [hw] at f; exact hF.has k' h' a b d e (by omega) g
  ·rw [hw]; have:=hF.cnt x x0 x1; omega
  ·rw [hw]; omega
 ·dsimp only
  refine ob (P:=fun y=>c=y) ⟨_,specOwnC hs,rfl⟩ fun y hy=>?_
  subst hy
  have hlen:=hF.len
  have hek:k=zs.length:=by omega
  refine ol (fun z:Int×List Int=>(0≤z.1∧z.1≤ls.length)∧(z.2.length:Int)=z.1∧∀ x:Int,0≤x→x < z.1→gi z.2 x=(gl ls x).length) (fun z=>(ls.length - z.1).toNat) ⟨⟨by show (0:Int)≤0; omega,by show (0:Int)≤_; omega⟩,rfl,fun x a b=>by dsimp only at b; omega⟩ ?_
  rintro ⟨x,sz⟩ ⟨⟨x0,x1⟩,hsz,hr⟩
  dsimp only at x0 x1 hsz hr
  show Ok (nC ls x sz) _
  unfold nC
  refine od (fun hx=>?_) fun hx=>os ⟨rfl,?_⟩
  ·have hw:=w1 x0 hx (by omega)
   refine oe (idx_gl x0 hx) (oft (by omega) (by omega) (os ⟨⟨⟨?_,?_⟩,?_,fun z z0 z1=>?_⟩,?_⟩))
   all_goals first | (dsimp only at z1; rw [hw] at z1) | skip
   all_goals try dsimp only
   all_goals first | (rw [hw]; simp only [List.length_append,List.length_singleton]; omega) | (rw [hw]; omega) | skip
   rw [gi_app z0]
   by_cases e:z < x
   ·rw [if_pos (by omega)]; exact hr z z0 e
   ·rw [if_neg (by omega),if_pos (by omega),show z=x by omega]
  ·dsimp only
   have hS:∀ y:Int,0≤y→y < c.aH→gi sz y=(gl ls y).length:=fun y y0 y1=>hr y y0 (by omega)
   refine ol (fun z:Int×List (List Int)=>(0≤z.1∧z.1≤c.aG.length)∧(z.2.length:Int)=z.1∧∀ a:Int,0≤a→a < z.1→(gr z.2 a).length=(gl ls (gi c.aG a)).length∧(∀ y∈gr z.2 a,0≤y∧y < (gl ls (gi c.To a)).length)∧∀ e:Int,0≤e→e < (gl ls (gi c.aG a)).length→gi (gr z.2 a) e=placeS (gl ls (gi c.To a)) [gi (gr (gl ls (gi c.aG a)) e) 0,gk c.aE (gi (gr (gl ls (gi c.aG a)) e) 1) a]) (fun z=>(c.aG.length - z.1).toNat) ⟨⟨by show (0:Int)≤0; omega,by show (0:Int)≤_; omega⟩,rfl,fun x a b=>by dsimp only at b; omega⟩ ?_
   rintro ⟨a,acts⟩ ⟨⟨a0,a1⟩,hal,hra⟩
   dsimp only at a0 a1 hal hra
   show Ok (nE c ls a acts) _
   unfold nE
   refine od (fun ha=>?_) fun ha=>os ⟨rfl,os ⟨⟨C,hs,by dsimp only; omega,fun y y0 y1=>?_,by dsimp only; omega,fun a' a0' a1'=>?_⟩,rfl,fun x e x0 x1 e0 e1=>?_⟩⟩
   ·have hf:=C.fr a0 ha
    have ht:=C.to a0 ha
    have hcf:=hF.cnt _ hf.1 hf.2
    have hct:=hF.cnt _ ht.1 ht.2
    refine oe (C.idxF a0 ha) (oe (idx_gl hf.1 (by omega)) (oe (C.idxT a0 ha) (oe (idx_gl ht.1 (by omega)) ?_)))
    refine ol (fun z:List Int×Int=>(0≤z.2∧z.2≤(gl ls (gi c.aG a)).length)∧(z.1.length:Int)=z.2∧(∀ y∈z.1,0≤y∧y < (gl ls (gi c.To a)).length)∧∀ e:Int,0≤e→e < z.2→gi z.1 e=placeS (gl ls (gi c.To a)) [gi (gr (gl ls (gi c.aG a)) e) 0,gk c.aE (gi (gr (gl ls (gi c.aG a)) e) 1) a]) (fun z=>((gl ls (gi c.aG a)).length - z.2).toNat) ⟨⟨by show (0:Int)≤0; omega,by show (0:Int)≤_; omega⟩,rfl,nil_all,fun e h0 h1=>by dsimp only at h1; omega⟩ ?_
    rintro ⟨act,e⟩ ⟨⟨e0,e1⟩,hact,hya,hxa⟩
    dsimp only at e0 e1 hact hya hxa
    show Ok (nD c a (gl ls (gi c.aG a)) (gl ls (gi c.To a)) act e) _
    unfold nD
    refine od (fun he=>?_) fun he=>os ⟨rfl,?_⟩
    ·obtain ⟨k',h',er,hk',hh',⟨ef,et⟩,_⟩:=hF.mem _ hf.1 hf.2 _ (gr_mem e0 he)
     have hcell:=C.cell h' a hh'.1 hh'.2 a0 ha et
     have hmem:[k',gk c.aE h' a]∈gl ls (gi c.To a):=by
      have:=hF.has k' (gk c.aE h' a) hk'.1 hk'.2 hcell.1 hcell.2.1 (by omega) (by rw [hcell.2.2.1]; exact ef)
      rwa [hcell.2.2.2] at this
     obtain ⟨j,ej,hj⟩:=place_some hmem
     have hjl:=getElem?_lt hj
     have hw:=w1 e0 he (by omega)
     refine oe (idx_gr e0 he) ?_
     rw [er]
     refine oe (x:=k') rfl (oe (idx_gr e0 he) ?_)
     rw [er]
     refine oe (x:=h') rfl (oe (C.thenS hh'.1 hh'.2 a0 ha) (oe (specPlace _ _ (by omega) fun y hy=>?_) (oft (by omega) (by omega) (os ⟨⟨⟨?_,?_⟩,?_,app_all hya ?_,fun z z0 z1=>?_⟩,?_⟩))))
     ·obtain ⟨_,_,er',_⟩:=hF.mem _ ht.1 ht.2 y hy
      rw [er']; simp
     all_goals first | (dsimp only at z1; rw [hw] at z1) | skip
     all_goals try dsimp only
     all_goals first | (rw [hw]; simp only [List.length_append,List.length_singleton]; omega) | (rw [hw]; omega) | skip
     ·rw [ej]; omega
     ·rw [gi_app z0]
      by_cases e4:z < act.length
      ·rw [if_pos e4]; exact hxa z z0 (by omega)
      ·rw [if_neg e4,if_pos (by omega),show z=e by omega,er]; rfl
    ·dsimp only
     have hw:=w1 a0 ha (by omega)
     refine oft (by omega) (by omega) (os ⟨⟨⟨?_,?_⟩,?_,fun z z0 z1=>?_⟩,?_⟩)
     all_goals first | (dsimp only at z1; rw [hw] at z1) | skip
     all_goals try dsimp only
     all_goals first | (rw [hw]; simp only [List.length_append,List.length_singleton]; omega) | (rw [hw]; omega) | skip
     rw [gr_app z0]
     by_cases e:z < a
     ·rw [if_pos (by omega)]; exact hra z z0 e
     ·rw [if_neg (by omega),if_pos (by omega),show z=a by omega]
      refine ⟨by omega,hya,fun z' z0' z1'=>hxa z' z0' (by omega)⟩
   ·dsimp only at y1 ⊢
    have:=hF.cnt y y0 y1
    rw [hS y y0 y1]; omega
   ·dsimp only at a1' ⊢
    have hf:=C.fr a0' a1'
    have ht:=C.to a0' a1'
    have:=hra a' a0' (by omega)
    rw [hS _ hf.1 hf.2,hS _ ht.1 ht.2]
    exact ⟨by rw [this.1],this.2.1⟩
   ·dsimp only at x1 e1 ⊢
    have hid:=C.id x0 x1
    rw [hS x x0 x1] at e1
    have:=(hra _ hid.1 (by omega)).2.2 e e0 (by rw [C.idf x x0 x1]; exact e1)
    rw [C.idf x x0 x1,C.idt x x0 x1] at this
    rw [this]
    obtain ⟨k',h',er,hk',hh',⟨ef,et⟩,_⟩:=hF.mem x x0 x1 _ (gr_mem e0 e1)
    rw [er]
    have hu:=C.unitR h' hh'.1 hh'.2
    rw [et] at hu
    show placeS (gl ls x) [k',gk c.aE h' (gi c.aO x)]=e
    rw [hu,← er]
    have hg:(gl ls x)[e.toNat]? = some (gr (gl ls x) e):=by
     have:=idx_gr e0 e1
     rwa [idx_of e0] at this
    have:=place_at (hF.nd x x0 x1) hg
    omega
theorem constOk {c:aI} (C:Cat c) (hs:CatSmall c) {n:Int} (n0:0≤n) (n1:n≤200):Ok (jD c n) fun f=>Sh f∧f.aA=c∧OneF f:=by
 have o0:=C.o0
 have o8:=C.o8
 have m:=C.m
 unfold jD
 refine orr (ob (P:=fun y=>c=y) ⟨_,specOwnC hs,rfl⟩ fun y hy=>?_)
 subst hy
 refine ol (fun z:Int×List Int=>(0≤z.1∧z.1≤c.aH)∧(z.2.length:Int)=z.1∧∀ y∈z.2,y=n) (fun z=>(c.aH - z.1).toNat) ⟨⟨by show (0:Int)≤0; omega,o0⟩,rfl,nil_all⟩ ?_
 rintro ⟨x,sz⟩ ⟨⟨x0,x1⟩,hsz,hr⟩
 dsimp only at x0 x1 hsz hr
 show Ok (jZ c n x sz) _
 unfold jZ
 refine od (fun hx=>?_) fun hx=>os ⟨rfl,?_⟩
 ·have hw:=w1 x0 hx (by omega)
  refine oft (by omega) (by omega) (os ⟨⟨⟨?_,?_⟩,?_,app_all hr rfl⟩,?_⟩)
  all_goals try dsimp only
  all_goals first | (rw [hw]; simp only [List.length_append,List.length_singleton]; omega) | (rw [hw]; omega)
 ·dsimp only
  refine ol (fun z:Int×List (List Int)=>(0≤z.1∧z.1≤c.aG.length)∧(z.2.length:Int)=z.1∧∀ r∈z.2,(r.length:Int)=n∧(∀ y∈r,0≤y∧y < n)∧∀ e:Int,0≤e→e < n→gi r e=e) (fun z=>(c.aG.length - z.1).toNat) ⟨⟨by show (0:Int)≤0; omega,by show (0:Int)≤_; omega⟩,rfl,nil_all⟩ ?_
  rintro ⟨a,acts⟩ ⟨⟨a0,a1⟩,hal,hra⟩
  dsimp only at a0 a1 hal hra
  show Ok (kB c n a acts) _
  unfold kB
  refine od (fun ha=>?_) fun ha=>os ⟨rfl,os ⟨⟨C,hs,by dsimp only; omega,fun y y0 y1=>?_,by dsimp only; omega,fun a' a0' a1'=>?_⟩,rfl,fun x e x0 x1 e0 e1=>?_⟩⟩
  ·refine ol (fun z:List Int×Int=>(0≤z.2∧z.2≤n)∧(z.1.length:Int)=z.2∧(∀ y∈z.1,0≤y∧y < n)∧∀ e:Int,0≤e→e < z.2→gi z.1 e=e) (fun z=>(n - z.2).toNat) ⟨⟨by show (0:Int)≤0; omega,n0⟩,rfl,nil_all,fun e h0 h1=>by dsimp only at h1; omega⟩ ?_
   rintro ⟨r,e⟩ ⟨⟨e0,e1⟩,hrl,hry,hre⟩
   dsimp only at e0 e1 hrl hry hre
   show Ok (kA n r e) _
   unfold kA
   refine od (fun he=>?_) fun he=>os ⟨rfl,?_⟩
   ·have hw:=w1 e0 he (by omega)
    refine oft (by omega) (by omega) (os ⟨⟨⟨?_,?_⟩,?_,app_all hry ⟨e0,he⟩,fun z z0 z1=>?_⟩,?_⟩)
    all_goals first | (dsimp only at z1; rw [hw] at z1) | skip
    all_goals try dsimp only
    all_goals first | (rw [hw]; simp only [List.length_append,List.length_singleton]; omega) | (rw [hw]; omega) | skip
    rw [gi_app z0]
    by_cases e':z < r.length
    ·rw [if_pos e']; exact hre z z0 (by omega)
    ·rw [if_neg e',if_pos (by omega)]; omega
   ·dsimp only
    have hw:=w1 a0 ha (by omega)
    refine oft (by omega) (by omega) (os ⟨⟨⟨?_,?_⟩,?_,app_all hra ⟨by omega,hry,fun z z0 z1=>hre z z0 (by omega)⟩⟩,?_⟩)
    all_goals try dsimp only
    all_goals first | (rw [hw]; simp only [List.length_append,List.length_singleton]; omega) | (rw [hw]; omega)
  ·dsimp only at y1 ⊢
   rw [hr _ (gi_mem (l:=sz) y0 (by omega))]; omega
  ·dsimp only at a1' ⊢
   have hf:=C.fr a0' a1'
   have ht:=C.to a0' a1'
   have:=hra _ (gr_mem (l:=acts) a0' (by omega))
   rw [hr _ (gi_mem (l:=sz) hf.1 (by omega)),hr _ (gi_mem (l:=sz) ht.1 (by omega))]
   exact ⟨this.1,this.2.1⟩
  ·dsimp only at x1 e1 ⊢
   have hid:=C.id x0 x1
   rw [hr _ (gi_mem (l:=sz) x0 (by omega))] at e1
   exact (hra _ (gr_mem (l:=acts) hid.1 (by omega))).2.2 e e0 e1
end Go.Proofs.YtacpfhajafmigaaGreat
