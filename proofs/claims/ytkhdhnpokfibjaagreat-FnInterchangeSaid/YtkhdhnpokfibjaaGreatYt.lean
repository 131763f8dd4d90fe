/- Categories that are drawn have tables of the right form: posets, monoids, opposites. No condition beside those that each theorem names. -/
import Derived.Test.YtkhdhnpokfibjaaGreatVl
import Derived.Test.YtkhdhnpokfibjaaGreatVj
import Derived.Test.YtkhdhnpokfibjaaGreatVc
set_option linter.unusedVariables false
set_option linter.unusedSimpArgs false
namespace Go.Proofs.YtkhdhnpokfibjaaGreat
open Go Go.Li
theorem posetTy {x:List (List Int)} {n:Nat} (hn:n≤4) (h:Sq n x) (re:∀ i:Int,0≤i→i < n→gi (gr x i) i=1)
  (tr:∀ i j k:Int,0≤i→i < n→0≤j→j < n→0≤k→k < n→gi (gr x i) j=1→gi (gr x j) k=1→gi (gr x i) k=1):Ok (fG x) fun c=>OkC n (4 * n) c∧Ty c:=by
 have hx:=h.len
 have rl:∀ i:Int,0≤i→i < n→(gr x i).length=n:=fun i i0 i1=>h.row _ (gr_mem i0 (by omega))
 unfold fG
 refine orr (ol (fun z:List (List Int)×Int×List Int×List Int=>(0≤z.2.1∧z.2.1≤n)∧((z.1.length:Int)=z.2.1∧∀ y∈z.1,y.length=n)∧(z.2.2.2.length=z.2.2.1.length∧(z.2.2.1.length:Int)≤4 * z.2.1)∧((∀ y∈z.2.2.1,0≤y∧y < n)∧∀ y∈z.2.2.2,0≤y∧y < n)∧(∀ k:Int,0≤k→k < z.2.2.1.length→gi (gr x (gi z.2.2.1 k)) (gi z.2.2.2 k)=1)∧∀ i j:Int,0≤i→i < z.2.1→0≤j→j < n→gi (gr x i) j=1→(0≤gi (gr z.1 i) j∧gi (gr z.1 i) j < z.2.2.1.length)∧gi z.2.2.1 (gi (gr z.1 i) j)=i∧gi z.2.2.2 (gi (gr z.1 i) j)=j) (fun z=>(n - z.2.1).toNat)
  ⟨⟨by show (0:Int)≤0; omega,by show (0:Int)≤_; omega⟩,⟨rfl,nil_all⟩,⟨rfl,by show (0:Int)≤4 * 0; omega⟩,⟨nil_all,nil_all⟩,fun k k0 k1=>by dsimp only [List.length_nil] at k1; omega,fun i j i0 i1=>by dsimp only at i1; omega⟩ ?_)
 rintro ⟨num,i,f,t⟩ ⟨⟨i0,i1⟩,⟨hl,hr⟩,⟨ht,hf⟩,⟨hF,hT⟩,hA,hN⟩
 dsimp only at i0 i1 hl hr ht hf hF hT hA hN
 show Ok (nE x num i f t) _
 unfold nE
 rw [hx]
 refine od (fun hi=>?_) fun hi=>os ⟨rfl,?_⟩
 ·refine ol (fun z:List Int×Int×List Int×List Int=>(0≤z.2.1∧z.2.1≤n)∧(z.1.length:Int)=z.2.1∧(z.2.2.2.length=z.2.2.1.length∧(z.2.2.1.length:Int)≤4 * i+z.2.1)∧((∀ y∈z.2.2.1,0≤y∧y < n)∧∀ y∈z.2.2.2,0≤y∧y < n)∧(∀ k:Int,0≤k→k < z.2.2.1.length→gi (gr x (gi z.2.2.1 k)) (gi z.2.2.2 k)=1)∧(∀ i' j:Int,0≤i'→i' < i→0≤j→j < n→gi (gr x i') j=1→(0≤gi (gr num i') j∧gi (gr num i') j < z.2.2.1.length)∧gi z.2.2.1 (gi (gr num i') j)=i'∧gi z.2.2.2 (gi (gr num i') j)=j)∧∀ j:Int,0≤j→j < z.2.1→gi (gr x i) j=1→(0≤gi z.1 j∧gi z.1 j < z.2.2.1.length)∧gi z.2.2.1 (gi z.1 j)=i∧gi z.2.2.2 (gi z.1 j)=j) (fun z=>(n - z.2.1).toNat)
   ⟨⟨by show (0:Int)≤0; omega,by show (0:Int)≤_; omega⟩,rfl,⟨ht,by show (f.length:Int)≤4 * i+0; omega⟩,⟨hF,hT⟩,hA,hN,fun j j0 j1=>by dsimp only at j1; omega⟩ ?_
  rintro ⟨row,j,f,t⟩ ⟨⟨j0,j1⟩,hl',⟨ht,hf⟩,⟨hF,hT⟩,hA,hN,hR⟩
  dsimp only at j0 j1 hl' ht hf hF hT hA hN hR
  show Ok (nD x i row j f t) _
  unfold nD
  rw [hx]
  refine od (fun hj=>?_) fun hj=>os ⟨rfl,?_⟩
  ·have hw:=w1 j0 hj (by omega)
   have hrl:=rl i i0 hi
   refine oft (by omega) (by omega) (oe (idx_gr i0 (by omega)) (oe (cU j0 (by omega)) (oc (fun e1=>oft (by omega) (by omega) (oft (by omega) (by omega) (os ⟨⟨⟨?_,?_⟩,?_,⟨?_,?_⟩,⟨app_all hF ⟨i0,hi⟩,app_all hT ⟨j0,hj⟩⟩,fun k k0 k1=>?_,fun i' j' a b c d e=>?_,fun j' a b e=>?_⟩,?_⟩))) fun e1=>os ⟨⟨⟨?_,?_⟩,?_,⟨ht,?_⟩,⟨hF,hT⟩,hA,hN,fun j' a b e=>?_⟩,?_⟩)))
   all_goals first | (dsimp only at b; rw [hw] at b) | skip
   all_goals try dsimp only
   all_goals first | (rw [hw]; simp only [List.length_append,List.length_singleton]; omega) | (rw [hw]; omega) | (simp only [List.length_append,List.length_singleton]; omega) | skip
   ·dsimp only at k1
    simp only [List.length_append,List.length_singleton] at k1
    rw [gi_app k0,gi_app k0,ht]
    by_cases e:k < f.length
    ·rw [if_pos e,if_pos e]; exact hA k k0 e
    ·rw [if_neg e,if_pos (by omega),if_neg e,if_pos (by omega)]
     simpa using e1
   ·obtain ⟨h1,h2,h3⟩:=hN i' j' a b c d e
    refine ⟨⟨h1.1,by rw [List.length_append]; omega⟩,?_,?_⟩
    ·rw [gi_app h1.1,if_pos h1.2]; exact h2
    ·rw [gi_app h1.1,if_pos (by omega)]; exact h3
   ·rw [gi_app a]
    by_cases e4:j' < j
    ·rw [if_pos (by omega)]
     obtain ⟨h1,h2,h3⟩:=hR j' a e4 e
     refine ⟨⟨h1.1,by rw [List.length_append]; omega⟩,?_,?_⟩
     ·rw [gi_app h1.1,if_pos h1.2]; exact h2
     ·rw [gi_app h1.1,if_pos (by omega)]; exact h3
    ·rw [if_neg (by omega),if_pos (by omega)]
     refine ⟨⟨by omega,by rw [List.length_append,List.length_singleton]; omega⟩,?_,?_⟩
     ·rw [gi_app (by omega),if_neg (by omega),if_pos rfl]
     ·rw [gi_app (by omega),if_neg (by omega),if_pos (by omega)]; omega
   ·rw [gi_app a]
    by_cases e4:j' < j
    ·rw [if_pos (by omega)]; exact hR j' a e4 e
    ·rw [show j'=j by omega] at e
     rw [e] at e1
     simp at e1
  ·have hw:=w1 i0 hi (by omega)
   refine oft (by omega) (by omega) (os ⟨⟨⟨?_,?_⟩,⟨?_,app_all hr (by omega)⟩,⟨ht,?_⟩,⟨hF,hT⟩,hA,fun i' j' a b c d e=>?_⟩,?_⟩)
   all_goals first | (dsimp only at b; rw [hw] at b) | skip
   all_goals try dsimp only
   all_goals first | (rw [hw]; simp only [List.length_append,List.length_singleton]; omega) | (rw [hw]; omega) | skip
   rw [gr_app a]
   by_cases e4:i' < i
   ·rw [if_pos (by omega)]; exact hN i' j' a e4 c d e
   ·rw [if_neg (by omega),if_pos (by omega)]
    rw [show i'=i by omega] at e
    rw [show i'=i by omega]
    exact hR j' c (by omega) e
 ·refine ol (fun z:Int×List Int=>(0≤z.1∧z.1≤n)∧(z.2.length:Int)=z.1∧∀ a:Int,0≤a→a < z.1→gi z.2 a=gi (gr num a) a) (fun z=>(n - z.1).toNat) ⟨⟨by show (0:Int)≤0; omega,by show (0:Int)≤_; omega⟩,rfl,fun a a0 a1=>by dsimp only at a1; omega⟩ ?_
  rintro ⟨a,id⟩ ⟨⟨a0,a1⟩,hid,hI⟩
  dsimp only at a0 a1 hid hI
  show Ok (nF x num a id) _
  unfold nF
  rw [hx]
  have nl:∀ i:Int,0≤i→i < n→(gr num i).length=n:=fun i i0 i1=>hr _ (gr_mem i0 (by omega))
  refine od (fun ha=>?_) fun ha=>os ⟨rfl,?_⟩
  ·have hw:=w1 a0 ha (by omega)
   have:=nl a a0 ha
   refine oe (idx_gr a0 (by omega)) (oe (cU a0 (by omega)) (oft (by omega) (by omega) (os ⟨⟨⟨?_,?_⟩,?_,fun b b0 b1=>?_⟩,?_⟩)))
   all_goals first | (dsimp only at b1; rw [hw] at b1) | skip
   all_goals try dsimp only
   all_goals first | (rw [hw]; simp only [List.length_append,List.length_singleton]; omega) | (rw [hw]; omega) | skip
   rw [gi_app b0]
   by_cases e4:b < a
   ·rw [if_pos (by omega)]; exact hI b b0 e4
   ·rw [if_neg (by omega),if_pos (by omega),show b=a by omega]
  ·refine ol (fun z:Int×List (List Int)=>(0≤z.1∧z.1≤f.length)∧(z.2.length:Int)=z.1∧(∀ y∈z.2,y.length=f.length)∧∀ b d:Int,0≤b→b < z.1→0≤d→d < f.length→gi (gr z.2 b) d=if gi t b=gi f d then gi (gr num (gi f b)) (gi t d) else -1) (fun z=>(f.length - z.1).toNat) ⟨⟨by show (0:Int)≤0; omega,by show (0:Int)≤_; omega⟩,rfl,nil_all,fun b d b0 b1=>by dsimp only at b1; omega⟩ ?_
   rintro ⟨b,k⟩ ⟨⟨b0,b1⟩,hk,hkr,hK⟩
   dsimp only at b0 b1 hk hkr hK
   show Ok (nH num f t b k) _
   unfold nH
   refine od (fun hb=>?_) fun hb=>os ⟨rfl,os ?_⟩
   ·refine ol (fun z:List Int×Int=>(0≤z.2∧z.2≤f.length)∧(z.1.length:Int)=z.2∧∀ d:Int,0≤d→d < z.2→gi z.1 d=if gi t b=gi f d then gi (gr num (gi f b)) (gi t d) else -1) (fun z=>(f.length - z.2).toNat) ⟨⟨by show (0:Int)≤0; omega,by show (0:Int)≤_; omega⟩,rfl,fun d d0 d1=>by dsimp only at d1; omega⟩ ?_
    rintro ⟨row,d⟩ ⟨⟨d0,d1⟩,hrow,hD⟩
    dsimp only at d0 d1 hrow hD
    show Ok (nG num f t b row d) _
    unfold nG
    refine od (fun hd=>?_) fun hd=>os ⟨rfl,?_⟩
    ·have hw:=w1 d0 hd (by omega)
     have hfb:=hF _ (gi_mem b0 hb)
     have htd:=hT _ (gi_mem (l:=t) d0 (by omega))
     have:=nl _ hfb.1 hfb.2
     have put:∀ v:Int,v=(if gi t b=gi f d then gi (gr num (gi f b)) (gi t d) else -1)→Ok (fits 8 (row.length+1)>>=fun _=>some (Out.norm (row++[v],w64 (d+1)):Out (List Int×Int) aI)) (Stp 8 (fun z:List Int×Int=>(0≤z.2∧z.2≤f.length)∧(z.1.length:Int)=z.2∧∀ d:Int,0≤d→d < z.2→gi z.1 d=if gi t b=gi f d then gi (gr num (gi f b)) (gi t d) else -1) (fun z=>(f.length - z.2).toNat) ((f.length:Int) - d).toNat (fun s=>Ok ((fun (s:List Int×Int)=>fits 24 (k.length+1)>>=fun _=>some (Out.norm (w64 (b+1),k++[s.1]):Out (Int×List (List Int)) aI)) s) (Stp 6 (fun z:Int×List (List Int)=>(0≤z.1∧z.1≤f.length)∧(z.2.length:Int)=z.1∧(∀ y∈z.2,y.length=f.length)∧∀ b d:Int,0≤b→b < z.1→0≤d→d < f.length→gi (gr z.2 b) d=if gi t b=gi f d then gi (gr num (gi f b)) (gi t d) else -1) (fun z=>(f.length - z.1).toNat) ((f.length:Int) - b).toNat (fun s=>Ok ((fun (s:Int×List (List Int))=>some (Out.ret (aI.mk (n:Int) f t id s.2):Out Unit aI)) s) (Rt fun c=>OkC n (4 * n) c∧Ty c)) fun r=>Rt (S:=Unit) (fun c=>OkC n (4 * n) c∧Ty c) (.ret r))) fun r=>Stp 6 (fun z:Int×List (List Int)=>(0≤z.1∧z.1≤f.length)∧(z.2.length:Int)=z.1∧(∀ y∈z.2,y.length=f.length)∧∀ b d:Int,0≤b→b < z.1→0≤d→d < f.length→gi (gr z.2 b) d=if gi t b=gi f d then gi (gr num (gi f b)) (gi t d) else -1) (fun z=>(f.length - z.1).toNat) ((f.length:Int) - b).toNat (fun s=>Ok ((fun (s:Int×List (List Int))=>some (Out.ret (aI.mk (n:Int) f t id s.2):Out Unit aI)) s) (Rt fun c=>OkC n (4 * n) c∧Ty c)) (fun r=>Rt (S:=Unit) (fun c=>OkC n (4 * n) c∧Ty c) (.ret r)) (.ret r)):=by
      intro v hv
      refine oft (by omega) (by omega) (os ⟨⟨⟨?_,?_⟩,?_,fun d' d0' d1'=>?_⟩,?_⟩)
      all_goals first | (dsimp only at d1'; rw [hw] at d1') | skip
      all_goals try dsimp only
      all_goals first | (rw [hw]; simp only [List.length_append,List.length_singleton]; omega) | (rw [hw]; omega) | skip
      rw [gi_app d0']
      by_cases e4:d' < d
      ·rw [if_pos (by omega)]; exact hD d' d0' e4
      ·rw [if_neg (by omega),if_pos (by omega),show d'=d by omega]; exact hv
     refine oe (cU (l:=t) b0 (by omega)) (oe (cU d0 hd) (oc (fun e1=>?_) fun e1=>?_))
     ·refine oe (cU b0 hb) (oe (idx_gr hfb.1 (by omega)) (oe (cU (l:=t) d0 (by omega)) (oe (cU htd.1 (by omega)) (put _ ?_))))
      rw [if_pos (by simpa using e1)]
     ·refine put _ ?_
      rw [if_neg (by simpa using e1)]
    ·have hw:=w1 b0 hb (by omega)
     refine oft (by omega) (by omega) (os ⟨⟨⟨?_,?_⟩,?_,app_all hkr (by omega),fun b' d' a b'1 c d1'=>?_⟩,?_⟩)
     all_goals first | (dsimp only at b'1; rw [hw] at b'1) | skip
     all_goals try dsimp only
     all_goals first | (rw [hw]; simp only [List.length_append,List.length_singleton]; omega) | (rw [hw]; omega) | skip
     rw [gr_app a]
     by_cases e4:b' < b
     ·rw [if_pos (by omega)]; exact hK b' d' a e4 c d1'
     ·rw [if_neg (by omega),if_pos (by omega),show b'=b by omega]
      exact hD d' c (by omega)
   ·have hdiag:∀ a:Int,0≤a→a < n→(0≤gi id a∧gi id a < f.length)∧gi f (gi id a)=a∧gi t (gi id a)=a:=fun a a0 a1=>by
     rw [hI a a0 (by omega)]
     exact hN a a a0 (by omega) a0 a1 (re a a0 a1)
    refine ⟨⟨by dsimp only; omega,by dsimp only; omega,by dsimp only; omega,ht,by dsimp only; omega,by dsimp only; omega,hkr⟩,⟨by dsimp only; omega,fun y hy=>by dsimp only at hy ⊢; exact hF y hy,ht,fun y hy=>by dsimp only at hy ⊢; exact hT y hy,by dsimp only; omega,hkr,by dsimp only; omega,fun y hy=>?_,fun a a0 a1=>(hdiag a a0 (by dsimp only at a1; omega)).2.1,fun a a0 a1=>(hdiag a a0 (by dsimp only at a1; omega)).2.2,fun p q p0 p1 q0 q1 e=>?_,fun p q p0 p1 q0 q1 e=>?_,fun a a0 a1=>?_⟩⟩
    ·dsimp only at hy ⊢
     obtain ⟨a,a0,a1,rfl⟩:=mem_gi hy
     exact (hdiag a a0 (by omega)).1
    ·dsimp only at p1 q1 e ⊢
     have hv:gk k p q=gi (gr num (gi f p)) (gi t q):=by
      show gi (gr k p) q=_
      rw [hK p q p0 (by omega) q0 q1,if_pos e]
     have a1:=hA p p0 p1
     have a2:=hA q q0 q1
     rw [e] at a1
     have b1:=hF _ (gi_mem p0 p1)
     have b2:=hF _ (gi_mem q0 q1)
     have b3:=hT _ (gi_mem (l:=t) q0 (by omega))
     have:=hN _ _ b1.1 (by omega) b3.1 b3.2 (tr _ _ _ b1.1 b1.2 b2.1 b2.2 b3.1 b3.2 a1 a2)
     rw [hv]
     exact ⟨this.1,this.2.1,this.2.2⟩
    ·dsimp only at p1 q1 e ⊢
     show gi (gr k p) q=_
     rw [hK p q p0 (by omega) q0 q1,if_neg e]
    ·dsimp only at a1 ⊢
     have d:=hdiag a a0 (by omega)
     show gi (gr k (gi id a)) (gi id a)=gi id a
     rw [hK _ _ d.1.1 (by omega) d.1.1 d.1.2,if_pos (by rw [d.2.1,d.2.2]),d.2.1,d.2.2,hI a a0 (by omega)]
end Go.Proofs.YtkhdhnpokfibjaaGreat
namespace Go.Proofs.YtkhdhnpokfibjaaGreat
open Go Go.Li
def tyB (c:aI):Bool:=
 decide (0≤c.aD) && (inS c.aD c.aG && ((c.To.length == c.aG.length) && (inS c.aD c.To && ((c.aF.length == c.aG.length) && ((c.aF.all fun r=>r.length == c.aG.length) && (((c.aJ.length:Int) == c.aD) && (inS c.aG.length c.aJ &&
 (((ns c.aD.toNat).all fun x=>(gi c.aG (gi c.aJ x) == x) && ((gi c.To (gi c.aJ x) == x) && (gk c.aF (gi c.aJ x) (gi c.aJ x) == gi c.aJ x))) &&
 (ns c.aG.length).all fun f=>(ns c.aG.length).all fun g=>if gi c.To f=gi c.aG g then (decide (0≤gk c.aF f g) && (decide (gk c.aF f g < c.aG.length) && ((gi c.aG (gk c.aF f g) == gi c.aG f) && (gi c.To (gk c.aF f g) == gi c.To g)))) else gk c.aF f g == -1))))))))
theorem ty_of {c:aI} (h:tyB c=true):Ty c:=by
 unfold tyB at h
 simp only [Bool.and_eq_true,decide_eq_true_eq,inS_iff,beq_iff_eq,List.all_eq_true] at h
 obtain ⟨h1,h2,h3,h4,h5,h6,h7,h8,h9,h10⟩:=h
 refine ⟨h1,h2,h3,h4,h5,h6,h7,h8,fun x x0 x1=>(h9 x (ns_mem.2 ⟨x0,by omega⟩)).1,fun x x0 x1=>(h9 x (ns_mem.2 ⟨x0,by omega⟩)).2.1,fun f g f0 f1 g0 g1 e=>?_,fun f g f0 f1 g0 g1 e=>?_,fun x x0 x1=>(h9 x (ns_mem.2 ⟨x0,by omega⟩)).2.2⟩
 ·have:=h10 f (ns_mem.2 ⟨f0,f1⟩) g (ns_mem.2 ⟨g0,g1⟩)
  rw [if_pos e] at this
  simp only [Bool.and_eq_true,decide_eq_true_eq,beq_iff_eq] at this
  exact ⟨⟨this.1,this.2.1⟩,this.2.2.1,this.2.2.2⟩
 ·have:=h10 f (ns_mem.2 ⟨f0,f1⟩) g (ns_mem.2 ⟨g0,g1⟩)
  rw [if_neg e] at this
  simpa using this
theorem splitTy:Ok mV fun c=>OkC 2 5 c∧Ty c:=by
 unfold mV
 exact orr (os ⟨⟨by decide,by decide,by decide,rfl,rfl,rfl,by decide⟩,ty_of rfl⟩)
theorem ofMonoidTy {l:List (List Int)} {n:Nat} (n0:1≤n) (h1:n≤4) (h:Sq n l) (hb:∀ r∈l,∀ y∈r,0≤y∧y < n) (h0:gk l 0 0=0):Ok (iZ l) fun c=>OkC 1 4 c∧Ty c:=by
 have hl:=h.len
 unfold iZ
 refine orr (omk (by omega) (by omega) (by omega) (omk (by omega) (by omega) (by omega) (oe (specOwn2 l (by omega) fun y hy=>by have:=h.row y hy; omega) (os ?_))))
 have e:((l.length:Int)).toNat=n:=by omega
 have z:∀ i:Int,gi (List.replicate n (0:Int)) i=0:=fun i=>by
  unfold gi
  rw [List.getD_eq_getElem?_getD,List.getElem?_replicate]
  split <;> rfl
 rw [e]
 refine ⟨⟨by show (0:Int)≤1; omega,by show (1:Int)≤_; omega,?_,?_,rfl,?_,fun y hy=>?_⟩,⟨by show (0:Int)≤1; omega,fun y hy=>?_,?_,fun y hy=>?_,?_,fun y hy=>?_,rfl,fun y hy=>?_,fun y y0 y1=>?_,fun y y0 y1=>?_,fun f g f0 f1 g0 g1 _=>?_,fun f g f0 f1 g0 g1 ne=>?_,fun y y0 y1=>?_⟩⟩
 ·show (List.replicate _ _).length≤4; rw [List.length_replicate]; omega
 ·show (List.replicate _ _).length=(List.replicate _ _).length; rw [List.length_replicate]
 ·show l.length=(List.replicate _ _).length; rw [List.length_replicate]; omega
 ·show _=(List.replicate _ _).length; rw [List.length_replicate,h.row y hy]
 ·rw [(List.mem_replicate.1 hy).2]; exact ⟨Int.le_refl _,by show (0:Int) < 1; omega⟩
 ·show (List.replicate _ _).length=(List.replicate _ _).length; rw [List.length_replicate]
 ·rw [(List.mem_replicate.1 hy).2]; exact ⟨Int.le_refl _,by show (0:Int) < 1; omega⟩
 ·show l.length=(List.replicate _ _).length; rw [List.length_replicate]; omega
 ·show _=(List.replicate _ _).length; rw [List.length_replicate,h.row y hy]
 ·have hy:y=0:=List.mem_singleton.1 hy
  rw [hy]; exact ⟨Int.le_refl _,by show (0:Int) < ((List.replicate _ _).length:Nat); rw [List.length_replicate]; omega⟩
 ·have y1:y < 1:=y1
  show gi (List.replicate n 0) _=y; rw [z]; omega
 ·have y1:y < 1:=y1
  show gi (List.replicate n 0) _=y; rw [z]; omega
 ·dsimp only at f1 g1 ⊢
  rw [List.length_replicate] at f1 g1 ⊢
  have hr:=gr_mem (l:=l) f0 (by omega)
  have:=hb _ hr _ (gi_mem (l:=gr l f) g0 (by rw [h.row _ hr]; omega))
  exact ⟨this,by rw [z,z],by rw [z,z]⟩
 ·dsimp only at ne
  rw [z,z] at ne
  exact absurd rfl ne
 ·have y1:y < 1:=y1
  have hy:y=0:=by omega
  subst hy
  exact h0
theorem monoidTy {x:List Int} (B:Byt x) {s:aL} (S:Src x s):Ok (iY s) fun y=>(∃ n,1≤n∧n≤4∧Sq n y.1∧(∀ r∈y.1,∀ z∈r,0≤z∧z < n)∧gk y.1 0 0=0)∧Src x y.2:=by
 unfold iY
 refine orr (ob (nextOk B S _) fun y hy=>?_)
 have T:Src x (aL.mk s.Code y.2.At y.2.Hash):=S.on hy.2
 refine oc (fun _=>os ⟨⟨1,by decide,by decide,⟨rfl,by simp⟩,by dsimp only; decide,rfl⟩,T⟩) fun _=>oc (fun _=>os ⟨⟨2,by decide,by decide,⟨rfl,by simp⟩,by dsimp only; decide,rfl⟩,T⟩) fun _=>oc (fun _=>os ⟨⟨2,by decide,by decide,⟨rfl,by simp⟩,by dsimp only; decide,rfl⟩,T⟩) fun _=>
  oc (fun _=>os ⟨⟨3,by decide,by decide,⟨rfl,by simp⟩,by dsimp only; decide,rfl⟩,T⟩) fun _=>oc (fun _=>os ⟨⟨3,by decide,by decide,⟨rfl,by simp⟩,by dsimp only; decide,rfl⟩,T⟩) fun _=>oc (fun _=>os ⟨⟨3,by decide,by decide,⟨rfl,by simp⟩,by dsimp only; decide,rfl⟩,T⟩) fun _=>
  oc (fun _=>os ⟨⟨4,by decide,by decide,⟨rfl,by simp⟩,by dsimp only; decide,rfl⟩,T⟩) fun _=>os ⟨⟨3,by decide,by decide,⟨rfl,by simp⟩,by dsimp only; decide,rfl⟩,T⟩
theorem opTy {c:aI} {a b:Nat} (C:OkC a b c) (T:Ty c) (ha:a≤100000) (hb:b≤100000):Ok (pR c) fun e=>OkC a b e∧Ty e:=by
 obtain ⟨c0,c1,c2,c3,c4,c5,c6⟩:=C
 unfold pR
 refine orr (oe (specOwn0 _ (by omega)) (oe (specOwn0 _ (by omega)) (oe (specOwn0 _ (by omega)) ?_)))
 refine ol (fun z:Int×List (List Int)=>(0≤z.1∧z.1≤c.aG.length)∧(z.2.length:Int)=z.1∧(∀ y∈z.2,y.length=c.aG.length)∧∀ f g:Int,0≤f→f < z.1→0≤g→g < c.aG.length→gi (gr z.2 f) g=gk c.aF g f) (fun z=>(c.aG.length - z.1).toNat) ⟨⟨by show (0:Int)≤0; omega,by show (0:Int)≤_; omega⟩,rfl,nil_all,fun f g f0 f1=>by dsimp only at f1; omega⟩ ?_
 rintro ⟨i,k⟩ ⟨⟨i0,i1⟩,hk,hkr,hK⟩
 dsimp only at i0 i1 hk hkr hK
 show Ok (pH c i k) _
 unfold pH
 refine od (fun hi=>?_) fun hi=>os ⟨rfl,os ⟨⟨c0,c1,?_,?_,c4,?_,fun y hy=>?_⟩,⟨c0,fun y hy=>T.t y hy,c3.symm,fun y hy=>T.f y hy,?_,fun y hy=>?_,c4,fun y hy=>?_,fun y y0 y1=>T.idt y y0 y1,fun y y0 y1=>T.idf y y0 y1,fun f g f0 f1 g0 g1 e=>?_,fun f g f0 f1 g0 g1 e=>?_,fun y y0 y1=>?_⟩⟩⟩
 ·refine ol (fun z:List Int×Int=>(0≤z.2∧z.2≤c.aG.length)∧(z.1.length:Int)=z.2∧∀ g:Int,0≤g→g < z.2→gi z.1 g=gk c.aF g i) (fun z=>(c.aG.length - z.2).toNat) ⟨⟨by show (0:Int)≤0; omega,by show (0:Int)≤_; omega⟩,rfl,fun f f0 f1=>by dsimp only at f1; omega⟩ ?_
  rintro ⟨row,j⟩ ⟨⟨j0,j1⟩,hrow,hR⟩
  dsimp only at j0 j1 hrow hR
  show Ok (pG c i row j) _
  unfold pG
  refine od (fun hj=>?_) fun hj=>os ⟨rfl,?_⟩
  ·have hw:=w1 j0 hj (by omega)
   refine oe (T.idxK j0 hj) (oe (T.idxC j0 hj i0 hi) (oft (by omega) (by omega) (os ⟨⟨⟨?_,?_⟩,?_,fun g g0 g1=>?_⟩,?_⟩)))
   all_goals first | (dsimp only at g1; rw [hw] at g1) | skip
   all_goals try dsimp only
   all_goals first | (rw [hw]; simp only [List.length_append,List.length_singleton]; omega) | (rw [hw]; omega) | skip
   rw [gi_app g0]
   by_cases e4:g < j
   ·rw [if_pos (by omega)]; exact hR g g0 e4
   ·rw [if_neg (by omega),if_pos (by omega),show g=j by omega]
  ·have hw:=w1 i0 hi (by omega)
   refine oft (by omega) (by omega) (os ⟨⟨⟨?_,?_⟩,?_,app_all hkr (by omega),fun f g f0 f1 g0 g1=>?_⟩,?_⟩)
   all_goals first | (dsimp only at f1; rw [hw] at f1) | skip
   all_goals try dsimp only
   all_goals first | (rw [hw]; simp only [List.length_append,List.length_singleton]; omega) | (rw [hw]; omega) | skip
   rw [gr_app f0]
   by_cases e4:f < i
   ·rw [if_pos (by omega)]; exact hK f g f0 e4 g0 g1
   ·rw [if_neg (by omega),if_pos (by omega),show f=i by omega]; exact hR g g0 (by omega)
 ·dsimp only; omega
 ·dsimp only; omega
 ·dsimp only; omega
 ·have:=hkr y hy; dsimp only; omega
 ·dsimp only; omega
 ·have:=hkr y hy; dsimp only; omega
 ·have:=T.i y hy; dsimp only; omega
 ·dsimp only at f1 g1 e ⊢
  rw [show gk k f g=gk c.aF g f from hK f g f0 (by omega) g0 (by omega)]
  have:=T.cell g f g0 (by omega) f0 (by omega) e.symm
  exact ⟨by omega,this.2.2,this.2.1⟩
 ·dsimp only at f1 g1 e ⊢
  rw [show gk k f g=gk c.aF g f from hK f g f0 (by omega) g0 (by omega)]
  exact T.none g f g0 (by omega) f0 (by omega) fun h=>e h.symm
 ·have kx:=T.id (x:=y) y0 y1
  show gk k (gi c.aJ y) (gi c.aJ y)=gi c.aJ y
  rw [show gk k (gi c.aJ y) (gi c.aJ y)=gk c.aF (gi c.aJ y) (gi c.aJ y) from hK _ _ kx.1 (by omega) kx.1 kx.2]
  exact T.uu y y0 y1
theorem gr_tab2 {n m:Nat} {g:Int→Int→List Int} {a b:Int} (a0:0≤a) (a1:a < n) (b0:0≤b) (b1:b < m):gr (tab2 n m g) (a * m+b)=g a b:=by
 obtain ⟨i,rfl⟩ : ∃ k:Nat,a=k:=⟨a.toNat,by omega⟩
 obtain ⟨j,rfl⟩ : ∃ k:Nat,b=k:=⟨b.toNat,by omega⟩
 have h:=tab2_get g (a:=i) (b:=j) (n:=n) (m:=m) (by omega) (by omega)
 unfold gr
 rw [List.getD_eq_getElem?_getD,show ((i:Int) * (m:Int)+(j:Int)).toNat=i * m+j by
  rw [← Int.natCast_mul,← Int.natCast_add]; rfl,h]; rfl
theorem split2I {n m:Nat} {k:Int} (k0:0≤k) (h:k < (n * m:Nat)):∃ a b:Int,(0≤a∧a < n)∧(0≤b∧b < m)∧k=a * m+b:=by
 obtain ⟨a,b,ha,hb,e⟩:=split2 (n:=n) (m:=m) (k:=k.toNat) (by omega)
 refine ⟨a,b,⟨by omega,by omega⟩,⟨by omega,by omega⟩,?_⟩
 have:(k.toNat:Int)=((a * m+b:Nat):Int):=by rw [e]
 rw [show ((k.toNat:Nat):Int)=k by omega] at this
 rw [this,Int.natCast_add,Int.natCast_mul]
theorem pair_inj {m:Int} {a b c d:Int} (b0:0≤b) (b1:b < m) (d0:0≤d) (d1:d < m) (h:a * m+b=c * m+d):a=c∧b=d:=by
 have hm:0 < m:=by omega
 have h1:(a * m+b) / m=a:=by
  rw [Int.add_comm,Int.add_mul_ediv_right _ _ (by omega),Int.ediv_eq_zero_of_lt b0 b1,Int.zero_add]
 have h2:(c * m+d) / m=c:=by
  rw [Int.add_comm,Int.add_mul_ediv_right _ _ (by omega),Int.ediv_eq_zero_of_lt d0 d1,Int.zero_add]
 have e:a=c:=by rw [← h1,h,h2]
 subst e
 exact ⟨rfl,by omega⟩
theorem pair_lt {n m a b:Int} (a0:0≤a) (a1:a < n) (b0:0≤b) (b1:b < m):0≤a * m+b∧a * m+b < n * m:=by
 have h1:0≤a * m:=Int.mul_nonneg a0 (by omega)
 have h2:(a+1) * m≤n * m:=Int.mul_le_mul_of_nonneg_right (by omega) (by omega)
 rw [Int.add_mul,Int.one_mul] at h2
 omega
theorem prodTy {c d:aI} (C:Ty c) (D:Ty d):Ty (prodC c d):=by
 have c0:=C.o0
 have d0:=D.o0
 have hcl:((c.aD.toNat * d.aD.toNat:Nat):Int)=c.aD * d.aD:=by
  rw [Int.natCast_mul,Int.toNat_of_nonneg c0,Int.toNat_of_nonneg d0]
 have ht:((d.aD.toNat:Nat):Int)=d.aD:=Int.toNat_of_nonneg d0
 have lf:(prodC c d).aG.length=c.aG.length * d.aG.length:=tab2_length _ _ _
 have lI:((c.aG.length * d.aG.length:Nat):Int)=(c.aG.length:Int) * (d.aG.length:Int):=Int.natCast_mul _ _
 have F:∀ {a b:Int},0≤a→a < c.aG.length→0≤b→b < d.aG.length→gi (prodC c d).aG (a * d.aG.length+b)=gi c.aG a * d.aD+gi d.aG b:=fun a0 a1 b0 b1=>gi_tab2 a0 a1 b0 b1
 have T:∀ {a b:Int},0≤a→a < c.aG.length→0≤b→b < d.aG.length→gi (prodC c d).To (a * d.aG.length+b)=gi c.To a * d.aD+gi d.To b:=fun a0 a1 b0 b1=>gi_tab2 a0 a1 b0 b1
 have I:∀ {a b:Int},0≤a→a < c.aD→0≤b→b < d.aD→gi (prodC c d).aJ (a * d.aD+b)=gi c.aJ a * d.aG.length+gi d.aJ b:=fun a0 a1 b0 b1=>by
  have:=gi_tab2 (n:=c.aD.toNat) (m:=d.aD.toNat) (g:=fun x y=>gi c.aJ x * d.aG.length+gi d.aJ y) a0 (by omega) b0 (by omega)
  rwa [ht] at this
 have K:∀ {a b f g:Int},0≤a→a < c.aG.length→0≤b→b < d.aG.length→0≤f→f < c.aG.length→0≤g→g < d.aG.length→gk (prodC c d).aF (a * d.aG.length+b) (f * d.aG.length+g)=prodCell c d a b f g:=fun a0 a1 b0 b1 f0 f1 g0 g1=>by
  show gi (gr _ _) _=_
  rw [show gr (prodC c d).aF _=_ from gr_tab2 a0 a1 b0 b1,gi_tab2 f0 f1 g0 g1]
 refine ⟨Int.mul_nonneg c0 d0,fun y hy=>?_,?_,fun y hy=>?_,?_,fun r hr=>?_,?_,fun y hy=>?_,fun y y0 y1=>?_,fun y y0 y1=>?_,fun p q p0 p1 q0 q1 e=>?_,fun p q p0 p1 q0 q1 e=>?_,fun y y0 y1=>?_⟩
 ·obtain ⟨a,b,ha,hb,rfl⟩:=tab2_mem.1 hy
  have h1:=C.fr ha.1 ha.2
  have h2:=D.fr hb.1 hb.2
  exact pair_lt h1.1 h1.2 h2.1 h2.2
 ·exact (tab2_length _ _ _).trans (tab2_length _ _ _).symm
 ·obtain ⟨a,b,ha,hb,rfl⟩:=tab2_mem.1 hy
  have h1:=C.to ha.1 ha.2
  have h2:=D.to hb.1 hb.2
  exact pair_lt h1.1 h1.2 h2.1 h2.2
 ·exact (tab2_length _ _ _).trans (tab2_length _ _ _).symm
 ·obtain ⟨a,b,ha,hb,rfl⟩:=tab2_mem.1 hr
  exact (tab2_length _ _ _).trans (tab2_length _ _ _).symm
 ·rw [show (prodC c d).aJ.length=_ from tab2_length _ _ _,hcl]; rfl
 ·obtain ⟨a,b,ha,hb,rfl⟩:=tab2_mem.1 hy
  have h1:=C.id ha.1 (by omega)
  have h2:=D.id hb.1 (by omega)
  rw [lf,lI]
  exact pair_lt h1.1 h1.2 h2.1 h2.2
 ·have y1:y < c.aD * d.aD:=y1
  obtain ⟨a,b,ha,hb,rfl⟩:=split2I (n:=c.aD.toNat) (m:=d.aD.toNat) y0 (by omega)
  rw [ht] at hb ⊢
  have h1:=C.id ha.1 (by omega)
  have h2:=D.id hb.1 (by omega)
  rw [I ha.1 (by omega) hb.1 hb.2,F h1.1 h1.2 h2.1 h2.2,C.idf a ha.1 (by omega),D.idf b hb.1 hb.2]
 ·have y1:y < c.aD * d.aD:=y1
  obtain ⟨a,b,ha,hb,rfl⟩:=split2I (n:=c.aD.toNat) (m:=d.aD.toNat) y0 (by omega)
  rw [ht] at hb ⊢
  have h1:=C.id ha.1 (by omega)
  have h2:=D.id hb.1 (by omega)
  rw [I ha.1 (by omega) hb.1 hb.2,T h1.1 h1.2 h2.1 h2.2,C.idt a ha.1 (by omega),D.idt b hb.1 hb.2]
 ·rw [lf] at p1 q1
  obtain ⟨a,b,ha,hb,rfl⟩:=split2I p0 p1
  obtain ⟨f,g,hf,hg,rfl⟩:=split2I q0 q1
  rw [T ha.1 ha.2 hb.1 hb.2,F hf.1 hf.2 hg.1 hg.2] at e
  have t1:=D.to hb.1 hb.2
  have t2:=D.fr hg.1 hg.2
  obtain ⟨e1,e2⟩:=pair_inj t1.1 t1.2 t2.1 t2.2 e
  have h1:=C.cell a f ha.1 ha.2 hf.1 hf.2 e1
  have h2:=D.cell b g hb.1 hb.2 hg.1 hg.2 e2
  rw [K ha.1 ha.2 hb.1 hb.2 hf.1 hf.2 hg.1 hg.2]
  unfold prodCell
  rw [if_pos ⟨h1.1.1,h2.1.1⟩,F h1.1.1 h1.1.2 h2.1.1 h2.1.2,T h1.1.1 h1.1.2 h2.1.1 h2.1.2,F ha.1 ha.2 hb.1 hb.2,T hf.1 hf.2 hg.1 hg.2,h1.2.1,h1.2.2,h2.2.1,h2.2.2,lf,lI]
  exact ⟨pair_lt h1.1.1 h1.1.2 h2.1.1 h2.1.2,rfl,rfl⟩
 ·rw [lf] at p1 q1
  obtain ⟨a,b,ha,hb,rfl⟩:=split2I p0 p1
  obtain ⟨f,g,hf,hg,rfl⟩:=split2I q0 q1
  rw [T ha.1 ha.2 hb.1 hb.2,F hf.1 hf.2 hg.1 hg.2] at e
  rw [K ha.1 ha.2 hb.1 hb.2 hf.1 hf.2 hg.1 hg.2]
  unfold prodCell
  refine if_neg fun hh=>e ?_
  have k1:gi c.To a=gi c.aG f:=Classical.byContradiction fun ne=>by
   have:=C.none a f ha.1 ha.2 hf.1 hf.2 ne
   have:=hh.1
   omega
  have k2:gi d.To b=gi d.aG g:=Classical.byContradiction fun ne=>by
   have:=D.none b g hb.1 hb.2 hg.1 hg.2 ne
   have:=hh.2
   omega
  rw [k1,k2]
 ·have y1:y < c.aD * d.aD:=y1
  obtain ⟨a,b,ha,hb,rfl⟩:=split2I (n:=c.aD.toNat) (m:=d.aD.toNat) y0 (by omega)
  rw [ht] at hb ⊢
  have h1:=C.id ha.1 (by omega)
  have h2:=D.id hb.1 (by omega)
  rw [I ha.1 (by omega) hb.1 hb.2,K h1.1 h1.2 h2.1 h2.2 h1.1 h1.2 h2.1 h2.2]
  unfold prodCell
  rw [C.uu a ha.1 (by omega),D.uu b hb.1 hb.2,if_pos ⟨h1.1,h2.1⟩]
end Go.Proofs.YtkhdhnpokfibjaaGreat
namespace Go.Proofs.YtkhdhnpokfibjaaGreat
open Go Go.Li
theorem gi_cat {l r:List Int} {j:Int} (h0:0≤j):gi (l++r) j=if j < l.length then gi l j else gi r (j - l.length):=by
 obtain ⟨n,rfl⟩ : ∃ n:Nat,j=n:=⟨j.toNat,by omega⟩
 unfold gi
 rw [List.getD_eq_getElem?_getD,List.getD_eq_getElem?_getD,List.getD_eq_getElem?_getD,show ((n:Int)).toNat=n from rfl]
 by_cases h:n < l.length
 ·rw [List.getElem?_append_left h,if_pos (by omega)]
 ·rw [List.getElem?_append_right (by omega),if_neg (by omega),show ((n:Int) - (l.length:Int)).toNat=n - l.length by omega]
theorem gr_cat {l r:List (List Int)} {j:Int} (h0:0≤j):gr (l++r) j=if j < l.length then gr l j else gr r (j - l.length):=by
 obtain ⟨n,rfl⟩ : ∃ n:Nat,j=n:=⟨j.toNat,by omega⟩
 unfold gr
 rw [List.getD_eq_getElem?_getD,List.getD_eq_getElem?_getD,List.getD_eq_getElem?_getD,show ((n:Int)).toNat=n from rfl]
 by_cases h:n < l.length
 ·rw [List.getElem?_append_left h,if_pos (by omega)]
 ·rw [List.getElem?_append_right (by omega),if_neg (by omega),show ((n:Int) - (l.length:Int)).toNat=n - l.length by omega]
theorem gr_mapI {n:Nat} {g:Int→List Int} {i:Int} (h0:0≤i) (h1:i < n):gr (mapI n g) i=g i:=by
 obtain ⟨k,rfl⟩ : ∃ k:Nat,i=k:=⟨i.toNat,by omega⟩
 have h:=mapI_get g (i:=k) (n:=n) (by omega)
 unfold gr
 rw [List.getD_eq_getElem?_getD,show ((k:Int)).toNat=k from rfl,h]; rfl
theorem gi_rep {n:Nat} {v i:Int} (h0:0≤i) (h1:i < n):gi (List.replicate n v) i=v:=by
 have _:=h0
 unfold gi
 rw [List.getD_eq_getElem?_getD,List.getElem?_replicate,if_pos (by omega)]; rfl
def upK (m h:Int):Int:=if 0≤h then h+m else h
def sumC (c d:aI):aI:=
 ⟨c.aD+d.aD,c.aG++mapI d.aG.length (fun f=>gi d.aG f+c.aD),c.To++mapI d.aG.length (fun f=>gi d.To f+c.aD),c.aJ++mapI d.aD.toNat (fun y=>gi d.aJ y+c.aG.length),
  (mapI c.aG.length fun f=>gr c.aF f++List.replicate d.aG.length (-1))++mapI d.aG.length fun f=>List.replicate c.aG.length (-1)++mapI d.aG.length fun g=>upK c.aG.length (gk d.aF f g)⟩
theorem mapI_rows (l:List (List Int)):mapI l.length (fun f=>gr l f)=l:=by
 refine List.ext_getElem? fun i=>?_
 by_cases h:i < l.length
 ·rw [mapI_get _ h,List.getElem?_eq_getElem h]
  unfold gr
  rw [List.getD_eq_getElem?_getD,show ((i:Int)).toNat=i from rfl,List.getElem?_eq_getElem h]; rfl
 ·rw [List.getElem?_eq_none (by rw [dP]; omega),List.getElem?_eq_none (by omega)]
theorem mapI_const (n:Nat) (v:Int):mapI n (fun _=>v)=List.replicate n v:=by
 induction n with
 | zero=>rfl
 | succ n ih=>rw [mapI_succ,ih,List.replicate_succ']
theorem mapI_set {n:Nat} {g:Int→List Int} {i:Nat} (h:i < n) (v:List Int) (hv:∀ k:Nat,k < i→True):(mapI n g).set i v=mapI n fun k=>if k=(i:Int) then v else g k:=by
 have _:=hv
 refine List.ext_getElem? fun k=>?_
 rw [List.getElem?_set]
 by_cases e:i=k
 ·subst e
  rw [if_pos rfl,if_pos (by rw [dP]; exact h),mapI_get _ h,if_pos rfl]
 ·rw [if_neg e]
  by_cases hk:k < n
  ·rw [mapI_get _ hk,mapI_get _ hk,if_neg (by omega)]
  ·rw [List.getElem?_eq_none (by rw [dP]; omega),List.getElem?_eq_none (by rw [dP]; omega)]
theorem specSum {c d:aI} {a b a' b':Nat} (C:OkC a b c) (D:OkC a' b' d) (T:Ty c) (U:Ty d) (ha:a+a'≤100000) (hb:b+b'≤100000):iS c d=some (sumC c d):=by
 obtain ⟨c0,c1,c2,c3,c4,c5,c6⟩:=C
 obtain ⟨d0,d1,d2,d3,d4,d5,d6⟩:=D
 have hs:CatSmall c:=⟨by omega,by omega,by omega,by omega,fun y hy=>by have:=c6 y hy; omega⟩
 obtain ⟨nd,hnd⟩ : ∃ n:Nat,d.aD=n:=⟨d.aD.toNat,by omega⟩
 unfold iS
 rw [specOwnC hs,aH]
 refine (congrArg retM (app_loop nd (fun y=>gi d.aJ y+c.aG.length) c.aJ (fun acc i=>((i:Int),acc)) rfl ?_ ?_)).trans ?_
 ·intro i acc hi hl
  show gU c d i acc=_
  unfold gU
  have h:=U.id (x:=(i:Int)) (by omega) (by omega)
  rw [decT (by omega:(i:Int) < d.aD),cond_true,U.idxI (by omega) (by omega),aH,fA (by omega) (by omega),aH,cP (by omega),eX (by omega) (by omega)]
 ·intro acc _
  show gU c d _ acc=_
  unfold gU
  rw [decF (by omega),cond_false]
 dsimp only
 have rows:∀ i:Nat,(mapI c.aG.length fun f=>if f < (i:Int) then gr c.aF f++List.replicate d.aG.length (-1) else gr c.aF f).length=c.aG.length:=fun i=>dP _ _
 refine (congrArg retM (for_all (ns c.aG.length) (fun i=>((i:Int),mapI c.aG.length fun f=>if f < (i:Int) then gr c.aF f++List.replicate d.aG.length (-1) else gr c.aF f)) ?_ (fun i x hx=>?_) (e:=((c.aG.length:Int),mapI c.aG.length fun f=>gr c.aF f++List.replicate d.aG.length (-1))) ?_)).trans ?_
 ·show ((0:Int),_)=((0:Int),c.aF)
  congr 1
  refine (mapI_congr fun i hi=>?_).trans ((congrArg (fun n=>mapI n fun f=>gr c.aF f) c5.symm).trans (mapI_rows c.aF))
  rw [if_neg (by omega)]
 ·obtain ⟨rfl,hi⟩:=ns_get hx
  show gW d (i:Int) _=_
  unfold gW
  rw [rows,decT (by omega:(i:Int) < (c.aG.length:Int)),cond_true]
  have hrow:(gr c.aF i).length=c.aG.length:=c6 _ (gr_mem (by omega) (by omega))
  refine (for_all (ns d.aG.length) (fun j=>((j:Int),(mapI c.aG.length fun f=>if f < (i:Int) then gr c.aF f++List.replicate d.aG.length (-1) else if f=(i:Int) then gr c.aF f++List.replicate j (-1) else gr c.aF f))) ?_ (fun j y hy=>?_) (e:=((d.aG.length:Int),mapI c.aG.length fun f=>if f < (i:Int) then gr c.aF f++List.replicate d.aG.length (-1) else if f=(i:Int) then gr c.aF f++List.replicate d.aG.length (-1) else gr c.aF f)) ?_).trans ?_
  ·show ((0:Int),_)=((0:Int),_)
   congr 1
   refine mapI_congr fun k hk=>?_
   split
   ·rfl
   ·split
    ·rw [List.replicate_zero,List.append_nil]
    ·rfl
  ·obtain ⟨rfl,hj⟩:=ns_get hy
   have hg:idx (mapI c.aG.length fun f=>if f < (i:Int) then gr c.aF f++List.replicate d.aG.length (-1) else if f=(i:Int) then gr c.aF f++List.replicate j (-1) else gr c.aF f) (i:Int)=some (gr c.aF i++List.replicate j (-1)):=by
    rw [idx_nat,mapI_get _ hi,if_neg (by omega),if_pos rfl]
   show gV d i (j:Int) _=_
   unfold gV
   rw [decT (by omega:(j:Int) < (d.aG.length:Int)),cond_true,hg,aH,fA (by rw [List.length_append,List.length_replicate]; omega) (by rw [List.length_append,List.length_replicate]; omega),aH,aH,cP (by omega),Int.toNat_natCast,mapI_set hi _ (fun _ _=>trivial)]
   refine congrArg (fun l:List (List Int)=>(some (Out.norm (((j+1:Nat):Int),l)):Option (Out (Int×List (List Int)) aI))) (mapI_congr fun k hk=>?_)
   by_cases e:(k:Int)=i
   ·rw [if_pos e,if_neg (by omega),if_pos e,List.append_assoc,← List.replicate_succ',e]
   ·rw [if_neg e]
    split
    ·rfl
    ·simp only [if_neg e]
  ·rw [fB]
   show gV d i _ _=_
   unfold gV
   rw [decF (by omega),cond_false]
  ·dsimp only
   rw [cP (by omega)]
   refine congrArg (fun l:List (List Int)=>(some (Out.norm (((i+1:Nat):Int),l)):Option (Out (Int×List (List Int)) aI))) (mapI_congr fun k hk=>?_)
   by_cases e:(k:Int) < i
   ·rw [if_pos e,if_pos (by omega)]
   ·rw [if_neg e]
    by_cases e2:(k:Int)=i
    ·rw [if_pos e2,if_pos (by omega)]
    ·rw [if_neg e2,if_neg (by omega)]
 ·rw [fB]
  show gW d _ _=_
  unfold gW
  rw [rows,decF (by omega),cond_false]
  refine congrArg (fun l:List (List Int)=>(some (Out.exit 2 ((c.aG.length:Int),l)):Option (Out (Int×List (List Int)) aI))) (mapI_congr fun k hk=>?_)
  rw [if_pos (by omega)]
 dsimp only
 refine (congrArg retM (for_all (ns d.aG.length) (fun i=>((i:Int),c.aG++mapI i (fun f=>gi d.aG f+c.aD),c.To++mapI i (fun f=>gi d.To f+c.aD),(mapI c.aG.length fun f=>gr c.aF f++List.replicate d.aG.length (-1))++mapI i fun f=>List.replicate c.aG.length (-1)++mapI d.aG.length fun g=>upK c.aG.length (gk d.aF f g))) ?_ (fun i x hx=>?_) (e:=((d.aG.length:Int),(sumC c d).aG,(sumC c d).To,(sumC c d).aF)) ?_)).trans ?_
 ·show ((0:Int),c.aG++[],c.To++[],_++[])=_
  rw [List.append_nil,List.append_nil,List.append_nil]
 ·obtain ⟨rfl,hi⟩:=ns_get hx
  have hf:=U.fr (f:=(i:Int)) (by omega) (by omega)
  have ht:=U.to (f:=(i:Int)) (by omega) (by omega)
  show gZ c d (i:Int) _ _ _=_
  unfold gZ
  rw [decT (by omega:(i:Int) < (d.aG.length:Int)),cond_true,U.idxF (by omega) (by omega),aH,fA (by rw [List.length_append,dP]; omega) (by rw [List.length_append,dP]; omega),aH,U.idxT (by omega) (by omega),aH,fA (by rw [List.length_append,dP]; omega) (by rw [List.length_append,dP]; omega),aH]
  refine (app_loop c.aG.length (fun _=>(-1:Int)) [] (fun acc j=>(acc,(j:Int))) rfl ?_ ?_).trans ?_
  ·intro j acc hj hl
   simp only [List.length_nil,Nat.zero_add] at hl
   show gX c acc (j:Int)=_
   unfold gX
   rw [decT (by omega:(j:Int) < (c.aG.length:Int)),cond_true,fA (by omega) (by omega),aH,cP (by omega)]
  ·intro acc _
   show gX c acc _=_
   unfold gX
   rw [decF (by omega),cond_false]
  dsimp only
  rw [List.nil_append,mapI_const]
  refine (app_loop d.aG.length (fun g=>upK c.aG.length (gk d.aF i g)) (List.replicate c.aG.length (-1)) (fun acc j=>(acc,(j:Int))) rfl ?_ ?_).trans ?_
  ·intro j acc hj hl
   rw [List.length_replicate] at hl
   have hc:=U.comp_lt (f:=(i:Int)) (g:=(j:Int)) (by omega) (by omega) (by omega) (by omega)
   show gY c d (i:Int) acc (j:Int)=_
   unfold gY
   rw [decT (by omega:(j:Int) < (d.aG.length:Int)),cond_true,U.idxK (by omega) (by omega),aH,U.idxC (by omega) (by omega) (by omega) (by omega),aH]
   unfold upK
   by_cases e:0≤gk d.aF i j
   ·rw [decT (show gk d.aF i j ≥ 0 from e),cond_true,fA (by omega) (by omega),aH,cP (by omega),eX (by omega) (by omega),if_pos e]
   ·rw [decF (show ¬ gk d.aF i j ≥ 0 from e),cond_false,fA (by omega) (by omega),aH,cP (by omega),if_neg e]
  ·intro acc _
   show gY c d (i:Int) acc _=_
   unfold gY
   rw [decF (by omega),cond_false]
  ·dsimp only
   rw [fA (by rw [List.length_append,dP,dP]; omega) (by rw [List.length_append,dP,dP]; omega),aH,cP (by omega),eX (by omega) (by omega),eX (by omega) (by omega),mapI_succ,mapI_succ,mapI_succ,List.append_assoc,List.append_assoc,List.append_assoc]
 ·rw [fB]
  show gZ c d _ _ _ _=_
  unfold gZ
  rw [decF (by omega),cond_false]; rfl
 ·show some _=_
  rw [eX (by omega) (by omega)]
  unfold sumC
  rw [hnd]; rfl
section
variable {c d:aI} (T:Ty c) (U:Ty d)
include T U
theorem sum_len:(sumC c d).aG.length=c.aG.length+d.aG.length:=by
 have _:=T
 have _:=U
 show (_++_:List Int).length=_; rw [List.length_append,dP]
theorem sum_F1 {f:Int} (f0:0≤f) (f1:f < c.aG.length):gi (sumC c d).aG f=gi c.aG f:=by
 have _:=T
 have _:=U
 show gi (_++_) f=_; rw [gi_cat f0,if_pos f1]
theorem sum_F2 {f:Int} (f0:0≤f) (f1:f < d.aG.length):gi (sumC c d).aG (c.aG.length+f)=gi d.aG f+c.aD:=by
 have _:=T
 have _:=U
 show gi (_++_) _=_; rw [gi_cat (by omega),if_neg (by omega),show (c.aG.length:Int)+f - c.aG.length=f by omega,gi_mapI f0 f1]
theorem sum_T1 {f:Int} (f0:0≤f) (f1:f < c.aG.length):gi (sumC c d).To f=gi c.To f:=by
 have _:=U
 show gi (_++_) f=_; rw [gi_cat f0,if_pos (by rw [T.tl]; exact f1)]
theorem sum_T2 {f:Int} (f0:0≤f) (f1:f < d.aG.length):gi (sumC c d).To (c.aG.length+f)=gi d.To f+c.aD:=by
 have _:=U
 show gi (_++_) _=_; rw [gi_cat (by omega),if_neg (by rw [T.tl]; omega),show (c.aG.length:Int)+f - c.To.length=f by rw [T.tl]; omega,gi_mapI f0 f1]
theorem sum_K11 {f g:Int} (f0:0≤f) (f1:f < c.aG.length) (g0:0≤g) (g1:g < c.aG.length):gk (sumC c d).aF f g=gk c.aF f g:=by
 have _:=U
 show gi (gr (_++_) f) g=_
 rw [gr_cat f0,if_pos (by rw [dP]; exact f1),gr_mapI f0 f1,gi_cat g0,if_pos (by rw [T.row f0 f1]; exact g1)]; rfl
theorem sum_K12 {f g:Int} (f0:0≤f) (f1:f < c.aG.length) (g0:0≤g) (g1:g < d.aG.length):gk (sumC c d).aF f (c.aG.length+g) = -1:=by
 have _:=U
 show gi (gr (_++_) f) _=_
 rw [gr_cat f0,if_pos (by rw [dP]; exact f1),gr_mapI f0 f1,gi_cat (by omega),if_neg (by rw [T.row f0 f1]; omega),T.row f0 f1,gi_rep (by omega) (by omega)]
theorem sum_K21 {f g:Int} (f0:0≤f) (f1:f < d.aG.length) (g0:0≤g) (g1:g < c.aG.length):gk (sumC c d).aF (c.aG.length+f) g = -1:=by
 have _:=T
 have _:=U
 show gi (gr (_++_) _) g=_
 rw [gr_cat (by omega),if_neg (by rw [dP]; omega),dP,show (c.aG.length:Int)+f - c.aG.length=f by omega,gr_mapI f0 f1,gi_cat g0,if_pos (by rw [List.length_replicate]; exact g1),gi_rep g0 g1]
theorem sum_K22 {f g:Int} (f0:0≤f) (f1:f < d.aG.length) (g0:0≤g) (g1:g < d.aG.length):gk (sumC c d).aF (c.aG.length+f) (c.aG.length+g)=upK c.aG.length (gk d.aF f g):=by
 have _:=T
 have _:=U
 show gi (gr (_++_) _) _=_
 rw [gr_cat (by omega),if_neg (by rw [dP]; omega),dP,show (c.aG.length:Int)+f - c.aG.length=f by omega,gr_mapI f0 f1,gi_cat (by omega),if_neg (by rw [List.length_replicate]; omega),List.length_replicate,show (c.aG.length:Int)+g - c.aG.length=g by omega,gi_mapI g0 g1]
theorem sum_or {f:Int} (f0:0≤f) (f1:f < (sumC c d).aG.length):f < c.aG.length∨∃ g:Int,f=c.aG.length+g∧0≤g∧g < d.aG.length:=by
 rw [sum_len T U] at f1
 by_cases h:f < c.aG.length
 ·exact .inl h
 ·exact .inr ⟨f - c.aG.length,by omega,by omega,by omega⟩
theorem sumTy:Ty (sumC c d):=by
 have c0:=T.o0
 have d0:=U.o0
 have ho:(sumC c d).aD=c.aD+d.aD:=rfl
 have hl:=sum_len T U
 have til:=T.il
 have ttl:=T.tl
 have tkl:=T.kl
 have tnat:((d.aD.toNat:Nat):Int)=d.aD:=Int.toNat_of_nonneg d0
 refine ⟨by omega,fun y hy=>?_,?_,fun y hy=>?_,?_,fun r hr=>?_,?_,fun y hy=>?_,fun y y0 y1=>?_,fun y y0 y1=>?_,fun p q p0 p1 q0 q1 e=>?_,fun p q p0 p1 q0 q1 e=>?_,fun y y0 y1=>?_⟩
 ·rcases List.mem_append.1 hy with hy | hy
  ·have:=T.f y hy; omega
  ·obtain ⟨i,hi,rfl⟩:=mapI_mem.1 hy
   have:=U.fr hi.1 hi.2; omega
 ·rw [hl]; show (_++_:List Int).length=_; rw [List.length_append,dP,ttl]
 ·rcases List.mem_append.1 hy with hy | hy
  ·have:=T.t y hy; omega
  ·obtain ⟨i,hi,rfl⟩:=mapI_mem.1 hy
   have:=U.to hi.1 hi.2; omega
 ·rw [hl]; show (_++_:List (List Int)).length=_; rw [List.length_append,dP,dP]
 ·rw [hl]
  rcases List.mem_append.1 hr with hr | hr
  ·obtain ⟨i,hi,rfl⟩:=mapI_mem.1 hr
   rw [List.length_append,List.length_replicate,T.row hi.1 hi.2]
  ·obtain ⟨i,hi,rfl⟩:=mapI_mem.1 hr
   rw [List.length_append,List.length_replicate,dP]
 ·show ((_++_:List Int).length:Int)=_; rw [List.length_append,dP]; omega
 ·rw [hl]
  rcases List.mem_append.1 hy with hy | hy
  ·have:=T.i y hy; omega
  ·obtain ⟨i,hi,rfl⟩:=mapI_mem.1 hy
   have:=U.id hi.1 (by omega); omega
 ·show gi (sumC c d).aG (gi (_++_) y)=y
  rw [gi_cat y0,til]
  by_cases h:y < c.aD
  ·rw [if_pos h]
   have:=T.id y0 h
   rw [sum_F1 T U this.1 this.2,T.idf y y0 h]
  ·rw [if_neg h,gi_mapI (by omega) (by omega),Int.add_comm (gi d.aJ _)]
   have:=U.id (x:=y - c.aD) (by omega) (by omega)
   rw [sum_F2 T U this.1 this.2,U.idf _ (by omega) (by omega)]; omega
 ·show gi (sumC c d).To (gi (_++_) y)=y
  rw [gi_cat y0,til]
  by_cases h:y < c.aD
  ·rw [if_pos h]
   have:=T.id y0 h
   rw [sum_T1 T U this.1 this.2,T.idt y y0 h]
  ·rw [if_neg h,gi_mapI (by omega) (by omega),Int.add_comm (gi d.aJ _)]
   have:=U.id (x:=y - c.aD) (by omega) (by omega)
   rw [sum_T2 T U this.1 this.2,U.idt _ (by omega) (by omega)]; omega
 ·rcases sum_or T U p0 p1 with hp | ⟨p,rfl,p0',hp⟩
  ·rcases sum_or T U q0 q1 with hq | ⟨q,rfl,q0',hq⟩
   ·rw [sum_T1 T U p0 hp,sum_F1 T U q0 hq] at e
    have:=T.cell p q p0 hp q0 hq e
    rw [sum_K11 T U p0 hp q0 hq,sum_F1 T U this.1.1 this.1.2,sum_T1 T U this.1.1 this.1.2,sum_F1 T U p0 hp,sum_T1 T U q0 hq,hl]
    exact ⟨⟨this.1.1,by omega⟩,this.2.1,this.2.2⟩
   ·rw [sum_T1 T U p0 hp,sum_F2 T U q0' hq] at e
    have:=T.to p0 hp
    have:=U.fr q0' hq
    omega
  ·rcases sum_or T U q0 q1 with hq | ⟨q,rfl,q0',hq⟩
   ·rw [sum_T2 T U p0' hp,sum_F1 T U q0 hq] at e
    have:=U.to p0' hp
    have:=T.fr q0 hq
    omega
   ·rw [sum_T2 T U p0' hp,sum_F2 T U q0' hq] at e
    have:=U.cell p q p0' hp q0' hq (by omega)
    rw [sum_K22 T U p0' hp q0' hq]
    unfold upK
    rw [if_pos this.1.1,Int.add_comm (gk d.aF p q),sum_F2 T U this.1.1 this.1.2,sum_T2 T U this.1.1 this.1.2,sum_F2 T U p0' hp,sum_T2 T U q0' hq,hl,this.2.1,this.2.2]
    exact ⟨⟨by omega,by omega⟩,rfl,rfl⟩
 ·rcases sum_or T U p0 p1 with hp | ⟨p,rfl,p0',hp⟩
  ·rcases sum_or T U q0 q1 with hq | ⟨q,rfl,q0',hq⟩
   ·rw [sum_T1 T U p0 hp,sum_F1 T U q0 hq] at e
    rw [sum_K11 T U p0 hp q0 hq]
    exact T.none p q p0 hp q0 hq e
   ·exact sum_K12 T U p0 hp q0' hq
  ·rcases sum_or T U q0 q1 with hq | ⟨q,rfl,q0',hq⟩
   ·exact sum_K21 T U p0' hp q0 hq
   ·rw [sum_T2 T U p0' hp,sum_F2 T U q0' hq] at e
    rw [sum_K22 T U p0' hp q0' hq,U.none p q p0' hp q0' hq (fun h=>e (by rw [h]))]; rfl
 ·show gk (sumC c d).aF (gi (_++_) y) (gi (_++_) y)=gi (_++_) y
  rw [gi_cat y0,til]
  by_cases h:y < c.aD
  ·rw [if_pos h]
   have:=T.id y0 h
   rw [sum_K11 T U this.1 this.2 this.1 this.2,T.uu y y0 h]
  ·rw [if_neg h,gi_mapI (by omega) (by omega),Int.add_comm (gi d.aJ _)]
   have:=U.id (x:=y - c.aD) (by omega) (by omega)
   rw [sum_K22 T U this.1 this.2 this.1 this.2,U.uu _ (by omega) (by omega)]
   unfold upK
   rw [if_pos this.1]; omega
end
end Go.Proofs.YtkhdhnpokfibjaaGreat
