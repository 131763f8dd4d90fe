/- Categories that are drawn have tables of the right form: posets, monoids, opposites. No condition beside those that each theorem names. -/
import Derived.Test.YtilhlobfebngdaaGreatVj
import Derived.Test.YtilhlobfebngdaaGreatVc
set_option linter.unusedVariables false
set_option linter.unusedSimpArgs false
namespace Go.Proofs.YtilhlobfebngdaaGreat
open Go Go.Li
theorem yt {x:List (List Int)} {n:Nat} (hn:n≤4) (h:Sq n x) (re:∀ i:Int,0≤i→i < n→gi (gr x i) i=1)
  (tr:∀ i j k:Int,0≤i→i < n→0≤j→j < n→0≤k→k < n→gi (gr x i) j=1→gi (gr x j) k=1→gi (gr x i) k=1):Ok (fE x) fun c=>j3 n (4 * n) c∧Ty c:=by
 have hx:=h.len
 have rl:∀ i:Int,0≤i→i < n→(gr x i).length=n:=fun i i0 i1=>h.row _ (kq i0 (by omega))
 unfold fE
 refine gj (ol (fun z:List (List Int)×Int×List Int×List Int=>(0≤z.2.1∧z.2.1≤n)∧((z.1.length:Int)=z.2.1∧∀ y∈z.1,y.length=n)∧(z.2.2.2.length=z.2.2.1.length∧(z.2.2.1.length:Int)≤4 * z.2.1)∧((∀ y∈z.2.2.1,0≤y∧y < n)∧∀ y∈z.2.2.2,0≤y∧y < n)∧(∀ k:Int,0≤k→k < z.2.2.1.length→gi (gr x (gi z.2.2.1 k)) (gi z.2.2.2 k)=1)∧∀ i j:Int,0≤i→i < z.2.1→0≤j→j < n→gi (gr x i) j=1→(0≤gi (gr z.1 i) j∧gi (gr z.1 i) j < z.2.2.1.length)∧gi z.2.2.1 (gi (gr z.1 i) j)=i∧gi z.2.2.2 (gi (gr z.1 i) j)=j) (fun z=>(n - z.2.1).toNat)
  ⟨⟨by show (0:Int)≤0; omega,by show (0:Int)≤_; omega⟩,⟨rfl,du⟩,⟨rfl,by show (0:Int)≤4 * 0; omega⟩,⟨du,du⟩,fun k k0 k1=>by dsimp only [List.length_nil] at k1; omega,fun i j i0 i1=>by dsimp only at i1; omega⟩ ?_)
 rintro ⟨num,i,f,t⟩ ⟨⟨i0,i1⟩,⟨hl,hr⟩,⟨ht,hf⟩,⟨hF,hT⟩,hA,hN⟩
 dsimp only at i0 i1 hl hr ht hf hF hT hA hN
 show Ok (pK x num i f t) _
 unfold pK
 rw [hx]
 refine od (fun hi=>?_) fun hi=>os ⟨rfl,?_⟩
 ·refine ol (fun z:List Int×Int×List Int×List Int=>(0≤z.2.1∧z.2.1≤n)∧(z.1.length:Int)=z.2.1∧(z.2.2.2.length=z.2.2.1.length∧(z.2.2.1.length:Int)≤4 * i+z.2.1)∧((∀ y∈z.2.2.1,0≤y∧y < n)∧∀ y∈z.2.2.2,0≤y∧y < n)∧(∀ k:Int,0≤k→k < z.2.2.1.length→gi (gr x (gi z.2.2.1 k)) (gi z.2.2.2 k)=1)∧(∀ i' j:Int,0≤i'→i' < i→0≤j→j < n→gi (gr x i') j=1→(0≤gi (gr num i') j∧gi (gr num i') j < z.2.2.1.length)∧gi z.2.2.1 (gi (gr num i') j)=i'∧gi z.2.2.2 (gi (gr num i') j)=j)∧∀ j:Int,0≤j→j < z.2.1→gi (gr x i) j=1→(0≤gi z.1 j∧gi z.1 j < z.2.2.1.length)∧gi z.2.2.1 (gi z.1 j)=i∧gi z.2.2.2 (gi z.1 j)=j) (fun z=>(n - z.2.1).toNat)
   ⟨⟨by show (0:Int)≤0; omega,by show (0:Int)≤_; omega⟩,rfl,⟨ht,by show (f.length:Int)≤4 * i+0; omega⟩,⟨hF,hT⟩,hA,hN,fun j j0 j1=>by dsimp only at j1; omega⟩ ?_
  rintro ⟨row,j,f,t⟩ ⟨⟨j0,j1⟩,EL,⟨ht,hf⟩,⟨hF,hT⟩,hA,hN,hR⟩
  dsimp only at j0 j1 EL ht hf hF hT hA hN hR
  show Ok (pJ x i row j f t) _
  unfold pJ
  rw [hx]
  refine od (fun hj=>?_) fun hj=>os ⟨rfl,?_⟩
  ·have hw:=w1 j0 hj (by omega)
   have HW:=rl i i0 hi
   refine dp (by omega) (by omega) (oe (jz i0 (by omega)) (oe (bS j0 (by omega)) (oc (fun e1=>dp (by omega) (by omega) (dp (by omega) (by omega) (os ⟨⟨⟨?_,?_⟩,?_,⟨?_,?_⟩,⟨dw hF ⟨i0,hi⟩,dw hT ⟨j0,hj⟩⟩,fun k k0 k1=>?_,fun i' j' a b c d e=>?_,fun j' a b e=>?_⟩,?_⟩))) fun e1=>os ⟨⟨⟨?_,?_⟩,?_,⟨ht,?_⟩,⟨hF,hT⟩,hA,hN,fun j' a b e=>?_⟩,?_⟩)))
   all_goals first | (dsimp only at b; rw [hw] at b) | skip
   all_goals try dsimp only
   all_goals first | (rw [hw]; simp only [List.length_append,List.length_singleton]; omega) | (rw [hw]; omega) | (simp only [List.length_append,List.length_singleton]; omega) | skip
   ·dsimp only at k1
    simp only [List.length_append,List.length_singleton] at k1
    rw [ks k0,ks k0,ht]
    by_cases e:k < f.length
    ·rw [if_pos e,if_pos e]; exact hA k k0 e
    ·rw [if_neg e,if_pos (by omega),if_neg e,if_pos (by omega)]
     simpa using e1
   ·obtain ⟨h1,h2,h3⟩:=hN i' j' a b c d e
    refine ⟨⟨h1.1,by rw [List.length_append]; omega⟩,?_,?_⟩
    ·rw [ks h1.1,if_pos h1.2]; exact h2
    ·rw [ks h1.1,if_pos (by omega)]; exact h3
   ·rw [ks a]
    by_cases e4:j' < j
    ·rw [if_pos (by omega)]
     obtain ⟨h1,h2,h3⟩:=hR j' a e4 e
     refine ⟨⟨h1.1,by rw [List.length_append]; omega⟩,?_,?_⟩
     ·rw [ks h1.1,if_pos h1.2]; exact h2
     ·rw [ks h1.1,if_pos (by omega)]; exact h3
    ·rw [if_neg (by omega),if_pos (by omega)]
     refine ⟨⟨by omega,by rw [List.length_append,List.length_singleton]; omega⟩,?_,?_⟩
     ·rw [ks (by omega),if_neg (by omega),if_pos rfl]
     ·rw [ks (by omega),if_neg (by omega),if_pos (by omega)]; omega
   ·rw [ks a]
    by_cases e4:j' < j
    ·rw [if_pos (by omega)]; exact hR j' a e4 e
    ·rw [show j'=j by omega] at e
     rw [e] at e1
     simp at e1
  ·have hw:=w1 i0 hi (by omega)
   refine dp (by omega) (by omega) (os ⟨⟨⟨?_,?_⟩,⟨?_,dw hr (by omega)⟩,⟨ht,?_⟩,⟨hF,hT⟩,hA,fun i' j' a b c d e=>?_⟩,?_⟩)
   all_goals first | (dsimp only at b; rw [hw] at b) | skip
   all_goals try dsimp only
   all_goals first | (rw [hw]; simp only [List.length_append,List.length_singleton]; omega) | (rw [hw]; omega) | skip
   rw [FN a]
   by_cases e4:i' < i
   ·rw [if_pos (by omega)]; exact hN i' j' a e4 c d e
   ·rw [if_neg (by omega),if_pos (by omega)]
    rw [show i'=i by omega] at e
    rw [show i'=i by omega]
    exact hR j' c (by omega) e
 ·refine ol (fun z:Int×List Int=>(0≤z.1∧z.1≤n)∧(z.2.length:Int)=z.1∧∀ a:Int,0≤a→a < z.1→gi z.2 a=gi (gr num a) a) (fun z=>(n - z.1).toNat) ⟨⟨by show (0:Int)≤0; omega,by show (0:Int)≤_; omega⟩,rfl,fun a a0 a1=>by dsimp only at a1; omega⟩ ?_
  rintro ⟨a,id⟩ ⟨⟨a0,a1⟩,uY,hI⟩
  dsimp only at a0 a1 uY hI
  show Ok (pL x num a id) _
  unfold pL
  rw [hx]
  have nl:∀ i:Int,0≤i→i < n→(gr num i).length=n:=fun i i0 i1=>hr _ (kq i0 (by omega))
  refine od (fun ha=>?_) fun ha=>os ⟨rfl,?_⟩
  ·have hw:=w1 a0 ha (by omega)
   have:=nl a a0 ha
   refine oe (jz a0 (by omega)) (oe (bS a0 (by omega)) (dp (by omega) (by omega) (os ⟨⟨⟨?_,?_⟩,?_,fun b b0 b1=>?_⟩,?_⟩)))
   all_goals first | (dsimp only at b1; rw [hw] at b1) | skip
   all_goals try dsimp only
   all_goals first | (rw [hw]; simp only [List.length_append,List.length_singleton]; omega) | (rw [hw]; omega) | skip
   rw [ks b0]
   by_cases e4:b < a
   ·rw [if_pos (by omega)]; exact hI b b0 e4
   ·rw [if_neg (by omega),if_pos (by omega),show b=a by omega]
  ·refine ol (fun z:Int×List (List Int)=>(0≤z.1∧z.1≤f.length)∧(z.2.length:Int)=z.1∧(∀ y∈z.2,y.length=f.length)∧∀ b d:Int,0≤b→b < z.1→0≤d→d < f.length→gi (gr z.2 b) d=if gi t b=gi f d then gi (gr num (gi f b)) (gi t d) else -1) (fun z=>(f.length - z.1).toNat) ⟨⟨by show (0:Int)≤0; omega,by show (0:Int)≤_; omega⟩,rfl,du,fun b d b0 b1=>by dsimp only at b1; omega⟩ ?_
   rintro ⟨b,k⟩ ⟨⟨b0,b1⟩,hk,n8,hK⟩
   dsimp only at b0 b1 hk n8 hK
   show Ok (pN num f t b k) _
   unfold pN
   refine od (fun hb=>?_) fun hb=>os ⟨rfl,os ?_⟩
   ·refine ol (fun z:List Int×Int=>(0≤z.2∧z.2≤f.length)∧(z.1.length:Int)=z.2∧∀ d:Int,0≤d→d < z.2→gi z.1 d=if gi t b=gi f d then gi (gr num (gi f b)) (gi t d) else -1) (fun z=>(f.length - z.2).toNat) ⟨⟨by show (0:Int)≤0; omega,by show (0:Int)≤_; omega⟩,rfl,fun d d0 d1=>by dsimp only at d1; omega⟩ ?_
    rintro ⟨row,d⟩ ⟨⟨d0,d1⟩,bj,hD⟩
    dsimp only at d0 d1 bj hD
    show Ok (pM num f t b row d) _
    unfold pM
    refine od (fun hd=>?_) fun hd=>os ⟨rfl,?_⟩
    ·have hw:=w1 d0 hd (by omega)
     have Lh:=hF _ (cy b0 hb)
     have htd:=hT _ (cy (l:=t) d0 (by omega))
     have:=nl _ Lh.1 Lh.2
     have put:∀ v:Int,v=(if gi t b=gi f d then gi (gr num (gi f b)) (gi t d) else -1)→Ok (fits 8 (row.length+1)>>=fun _=>some (Out.norm (row++[v],ao (d+1)):Out (List Int×Int) aI)) (Hj 8 (fun z:List Int×Int=>(0≤z.2∧z.2≤f.length)∧(z.1.length:Int)=z.2∧∀ d:Int,0≤d→d < z.2→gi z.1 d=if gi t b=gi f d then gi (gr num (gi f b)) (gi t d) else -1) (fun z=>(f.length - z.2).toNat) ((f.length:Int) - d).toNat (fun s=>Ok ((fun (s:List Int×Int)=>fits 24 (k.length+1)>>=fun _=>some (Out.norm (ao (b+1),k++[s.1]):Out (Int×List (List Int)) aI)) s) (Hj 6 (fun z:Int×List (List Int)=>(0≤z.1∧z.1≤f.length)∧(z.2.length:Int)=z.1∧(∀ y∈z.2,y.length=f.length)∧∀ b d:Int,0≤b→b < z.1→0≤d→d < f.length→gi (gr z.2 b) d=if gi t b=gi f d then gi (gr num (gi f b)) (gi t d) else -1) (fun z=>(f.length - z.1).toNat) ((f.length:Int) - b).toNat (fun s=>Ok ((fun (s:Int×List (List Int))=>some (Out.ret (aI.mk (n:Int) f t id s.2):Out Unit aI)) s) (Rt fun c=>j3 n (4 * n) c∧Ty c)) fun r=>Rt (S:=Unit) (fun c=>j3 n (4 * n) c∧Ty c) (.ret r))) fun r=>Hj 6 (fun z:Int×List (List Int)=>(0≤z.1∧z.1≤f.length)∧(z.2.length:Int)=z.1∧(∀ y∈z.2,y.length=f.length)∧∀ b d:Int,0≤b→b < z.1→0≤d→d < f.length→gi (gr z.2 b) d=if gi t b=gi f d then gi (gr num (gi f b)) (gi t d) else -1) (fun z=>(f.length - z.1).toNat) ((f.length:Int) - b).toNat (fun s=>Ok ((fun (s:Int×List (List Int))=>some (Out.ret (aI.mk (n:Int) f t id s.2):Out Unit aI)) s) (Rt fun c=>j3 n (4 * n) c∧Ty c)) (fun r=>Rt (S:=Unit) (fun c=>j3 n (4 * n) c∧Ty c) (.ret r)) (.ret r)):=by
      intro v hv
      refine dp (by omega) (by omega) (os ⟨⟨⟨?_,?_⟩,?_,fun d' d0' TW=>?_⟩,?_⟩)
      all_goals first | (dsimp only at TW; rw [hw] at TW) | skip
      all_goals try dsimp only
      all_goals first | (rw [hw]; simp only [List.length_append,List.length_singleton]; omega) | (rw [hw]; omega) | skip
      rw [ks d0']
      by_cases e4:d' < d
      ·rw [if_pos (by omega)]; exact hD d' d0' e4
      ·rw [if_neg (by omega),if_pos (by omega),show d'=d by omega]; exact hv
     refine oe (bS (l:=t) b0 (by omega)) (oe (bS d0 hd) (oc (fun e1=>?_) fun e1=>?_))
     ·refine oe (bS b0 hb) (oe (jz Lh.1 (by omega)) (oe (bS (l:=t) d0 (by omega)) (oe (bS htd.1 (by omega)) (put _ ?_))))
      rw [if_pos (by simpa using e1)]
     ·refine put _ ?_
      rw [if_neg (by simpa using e1)]
    ·have hw:=w1 b0 hb (by omega)
     refine dp (by omega) (by omega) (os ⟨⟨⟨?_,?_⟩,?_,dw n8 (by omega),fun b' d' a b'1 c TW=>?_⟩,?_⟩)
     all_goals first | (dsimp only at b'1; rw [hw] at b'1) | skip
     all_goals try dsimp only
     all_goals first | (rw [hw]; simp only [List.length_append,List.length_singleton]; omega) | (rw [hw]; omega) | skip
     rw [FN a]
     by_cases e4:b' < b
     ·rw [if_pos (by omega)]; exact hK b' d' a e4 c TW
     ·rw [if_neg (by omega),if_pos (by omega),show b'=b by omega]
      exact hD d' c (by omega)
   ·have HP:∀ a:Int,0≤a→a < n→(0≤gi id a∧gi id a < f.length)∧gi f (gi id a)=a∧gi t (gi id a)=a:=fun a a0 a1=>by
     rw [hI a a0 (by omega)]
     exact hN a a a0 (by omega) a0 a1 (re a a0 a1)
    refine ⟨⟨by dsimp only; omega,by dsimp only; omega,by dsimp only; omega,ht,by dsimp only; omega,by dsimp only; omega,n8⟩,⟨by dsimp only; omega,fun y hy=>by dsimp only at hy ⊢; exact hF y hy,ht,fun y hy=>by dsimp only at hy ⊢; exact hT y hy,by dsimp only; omega,n8,by dsimp only; omega,fun y hy=>?_,fun a a0 a1=>(HP a a0 (by dsimp only at a1; omega)).2.1,fun a a0 a1=>(HP a a0 (by dsimp only at a1; omega)).2.2,fun p q p0 p1 q0 q1 e=>?_,fun p q p0 p1 q0 q1 e=>?_,fun a a0 a1=>?_⟩⟩
    ·dsimp only at hy ⊢
     obtain ⟨a,a0,a1,rfl⟩:=mb hy
     exact (HP a a0 (by omega)).1
    ·dsimp only at p1 q1 e ⊢
     have hv:gk k p q=gi (gr num (gi f p)) (gi t q):=by
      show gi (gr k p) q=_
      rw [hK p q p0 (by omega) q0 q1,if_pos e]
     have a1:=hA p p0 p1
     have a2:=hA q q0 q1
     rw [e] at a1
     have b1:=hF _ (cy p0 p1)
     have b2:=hF _ (cy q0 q1)
     have b3:=hT _ (cy (l:=t) q0 (by omega))
     have:=hN _ _ b1.1 (by omega) b3.1 b3.2 (tr _ _ _ b1.1 b1.2 b2.1 b2.2 b3.1 b3.2 a1 a2)
     rw [hv]
     exact ⟨this.1,this.2.1,this.2.2⟩
    ·dsimp only at p1 q1 e ⊢
     show gi (gr k p) q=_
     rw [hK p q p0 (by omega) q0 q1,if_neg e]
    ·dsimp only at a1 ⊢
     have d:=HP a a0 (by omega)
     show gi (gr k (gi id a)) (gi id a)=gi id a
     rw [hK _ _ d.1.1 (by omega) d.1.1 d.1.2,if_pos (by rw [d.2.1,d.2.2]),d.2.1,d.2.2,hI a a0 (by omega)]
end Go.Proofs.YtilhlobfebngdaaGreat
set_option linter.unusedVariables false
set_option linter.unusedSimpArgs false
namespace Go.Proofs.YtilhlobfebngdaaGreat
open Go Go.Li
def Y2 (c:aI):Bool:=
 decide (0≤c.aA) && (kj c.aA c.aG && ((c.To.length == c.aG.length) && (kj c.aA c.To && ((c.aE.length == c.aG.length) && ((c.aE.all fun r=>r.length == c.aG.length) && (((c.aJ.length:Int) == c.aA) && (kj c.aG.length c.aJ &&
 (((ns c.aA.toNat).all fun x=>(gi c.aG (gi c.aJ x) == x) && ((gi c.To (gi c.aJ x) == x) && (gk c.aE (gi c.aJ x) (gi c.aJ x) == gi c.aJ x))) &&
 (ns c.aG.length).all fun f=>(ns c.aG.length).all fun g=>if gi c.To f=gi c.aG g then (decide (0≤gk c.aE f g) && (decide (gk c.aE f g < c.aG.length) && ((gi c.aG (gk c.aE f g) == gi c.aG f) && (gi c.To (gk c.aE f g) == gi c.To g)))) else gk c.aE f g == -1))))))))
theorem TX {c:aI} (h:Y2 c=true):Ty c:=by
 unfold Y2 at h
 simp only [Bool.and_eq_true,decide_eq_true_eq,ou,beq_iff_eq,List.all_eq_true] at h
 obtain ⟨h1,h2,h3,h4,h5,h6,h7,h8,h9,h10⟩:=h
 refine ⟨h1,h2,h3,h4,h5,h6,h7,h8,fun x x0 x1=>(h9 x (fj.2 ⟨x0,by omega⟩)).1,fun x x0 x1=>(h9 x (fj.2 ⟨x0,by omega⟩)).2.1,fun f g f0 f1 g0 g1 e=>?_,fun f g f0 f1 g0 g1 e=>?_,fun x x0 x1=>(h9 x (fj.2 ⟨x0,by omega⟩)).2.2⟩
 ·have:=h10 f (fj.2 ⟨f0,f1⟩) g (fj.2 ⟨g0,g1⟩)
  rw [if_pos e] at this
  simp only [Bool.and_eq_true,decide_eq_true_eq,beq_iff_eq] at this
  exact ⟨⟨this.1,this.2.1⟩,this.2.2.1,this.2.2.2⟩
 ·have:=h10 f (fj.2 ⟨f0,f1⟩) g (fj.2 ⟨g0,g1⟩)
  rw [if_neg e] at this
  simpa using this
theorem UU:Ok pA fun c=>j3 2 5 c∧Ty c:=by
 unfold pA
 exact gj (os ⟨⟨by decide,by decide,by decide,rfl,rfl,rfl,by decide⟩,TX rfl⟩)
theorem BZ {l:List (List Int)} {n:Nat} (n0:1≤n) (h1:n≤4) (h:Sq n l) (hb:∀ r∈l,∀ y∈r,0≤y∧y < n) (h0:gk l 0 0=0):Ok (kE l) fun c=>j3 1 4 c∧Ty c:=by
 have hl:=h.len
 unfold kE
 refine gj (TE (by omega) (by omega) (by omega) (TE (by omega) (by omega) (by omega) (oe (JY l (by omega) fun y hy=>by have:=h.row y hy; omega) (os ?_))))
 have e:((l.length:Int)).toNat=n:=by omega
 have z:∀ i:Int,gi (List.replicate n (0:Int)) i=0:=fun i=>by
  unfold gi
  rw [List.getD_eq_getElem?_getD,List.getElem?_replicate]
  split <;> rfl
 rw [e]
 refine ⟨⟨by show (0:Int)≤1; omega,by show (1:Int)≤_; omega,?_,?_,rfl,?_,fun y hy=>?_⟩,⟨by show (0:Int)≤1; omega,fun y hy=>?_,?_,fun y hy=>?_,?_,fun y hy=>?_,rfl,fun y hy=>?_,fun y y0 y1=>?_,fun y y0 y1=>?_,fun f g f0 f1 g0 g1 _=>?_,fun f g f0 f1 g0 g1 ne=>?_,fun y y0 y1=>?_⟩⟩
 ·show (List.replicate _ _).length≤4; rw [List.length_replicate]; omega
 ·show (List.replicate _ _).length=(List.replicate _ _).length; rw [List.length_replicate]
 ·show l.length=(List.replicate _ _).length; rw [List.length_replicate]; omega
 ·show _=(List.replicate _ _).length; rw [List.length_replicate,h.row y hy]
 ·rw [(List.mem_replicate.1 hy).2]; exact ⟨Int.le_refl _,by show (0:Int) < 1; omega⟩
 ·show (List.replicate _ _).length=(List.replicate _ _).length; rw [List.length_replicate]
 ·rw [(List.mem_replicate.1 hy).2]; exact ⟨Int.le_refl _,by show (0:Int) < 1; omega⟩
 ·show l.length=(List.replicate _ _).length; rw [List.length_replicate]; omega
 ·show _=(List.replicate _ _).length; rw [List.length_replicate,h.row y hy]
 ·have hy:y=0:=List.mem_singleton.1 hy
  rw [hy]; exact ⟨Int.le_refl _,by show (0:Int) < ((List.replicate _ _).length:Nat); rw [List.length_replicate]; omega⟩
 ·have y1:y < 1:=y1
  show gi (List.replicate n 0) _=y; rw [z]; omega
 ·have y1:y < 1:=y1
  show gi (List.replicate n 0) _=y; rw [z]; omega
 ·dsimp only at f1 g1 ⊢
  rw [List.length_replicate] at f1 g1 ⊢
  have hr:=kq (l:=l) f0 (by omega)
  have:=hb _ hr _ (cy (l:=gr l f) g0 (by rw [h.row _ hr]; omega))
  exact ⟨this,by rw [z,z],by rw [z,z]⟩
 ·dsimp only at ne
  rw [z,z] at ne
  exact absurd rfl ne
 ·have y1:y < 1:=y1
  have hy:y=0:=by omega
  subst hy
  exact h0
theorem EB {x:List Int} (B:xU x) {s:aK} (S:Src x s):Ok (kD s) fun y=>(∃ n,1≤n∧n≤4∧Sq n y.1∧(∀ r∈y.1,∀ z∈r,0≤z∧z < n)∧gk y.1 0 0=0)∧Src x y.2:=by
 unfold kD
 refine gj (ob (dn B S _) fun y hy=>?_)
 have T:Src x (aK.mk s.Code y.2.At y.2.av):=S.on hy.2
 refine oc (fun _=>os ⟨⟨1,by decide,by decide,⟨rfl,by simp⟩,by dsimp only; decide,rfl⟩,T⟩) fun _=>oc (fun _=>os ⟨⟨2,by decide,by decide,⟨rfl,by simp⟩,by dsimp only; decide,rfl⟩,T⟩) fun _=>oc (fun _=>os ⟨⟨2,by decide,by decide,⟨rfl,by simp⟩,by dsimp only; decide,rfl⟩,T⟩) fun _=>
  oc (fun _=>os ⟨⟨3,by decide,by decide,⟨rfl,by simp⟩,by dsimp only; decide,rfl⟩,T⟩) fun _=>oc (fun _=>os ⟨⟨3,by decide,by decide,⟨rfl,by simp⟩,by dsimp only; decide,rfl⟩,T⟩) fun _=>oc (fun _=>os ⟨⟨3,by decide,by decide,⟨rfl,by simp⟩,by dsimp only; decide,rfl⟩,T⟩) fun _=>
  oc (fun _=>os ⟨⟨4,by decide,by decide,⟨rfl,by simp⟩,by dsimp only; decide,rfl⟩,T⟩) fun _=>os ⟨⟨3,by decide,by decide,⟨rfl,by simp⟩,by dsimp only; decide,rfl⟩,T⟩
theorem X4 {c:aI} {a b:Nat} (C:j3 a b c) (T:Ty c) (ha:a≤100000) (hb:b≤100000):Ok (jT c) fun e=>j3 a b e∧Ty e:=by
 obtain ⟨c0,c1,c2,c3,c4,c5,c6⟩:=C
 unfold jT
 refine gj (oe (fc _ (by omega)) (oe (fc _ (by omega)) (oe (fc _ (by omega)) ?_)))
 refine ol (fun z:Int×List (List Int)=>(0≤z.1∧z.1≤c.aG.length)∧(z.2.length:Int)=z.1∧(∀ y∈z.2,y.length=c.aG.length)∧∀ f g:Int,0≤f→f < z.1→0≤g→g < c.aG.length→gi (gr z.2 f) g=gk c.aE g f) (fun z=>(c.aG.length - z.1).toNat) ⟨⟨by show (0:Int)≤0; omega,by show (0:Int)≤_; omega⟩,rfl,du,fun f g f0 f1=>by dsimp only at f1; omega⟩ ?_
 rintro ⟨i,k⟩ ⟨⟨i0,i1⟩,hk,n8,hK⟩
 dsimp only at i0 i1 hk n8 hK
 show Ok (mT c i k) _
 unfold mT
 refine od (fun hi=>?_) fun hi=>os ⟨rfl,os ⟨⟨c0,c1,?_,?_,c4,?_,fun y hy=>?_⟩,⟨c0,fun y hy=>T.t y hy,c3.symm,fun y hy=>T.f y hy,?_,fun y hy=>?_,c4,fun y hy=>?_,fun y y0 y1=>T.xS y y0 y1,fun y y0 y1=>T.xu y y0 y1,fun f g f0 f1 g0 g1 e=>?_,fun f g f0 f1 g0 g1 e=>?_,fun y y0 y1=>?_⟩⟩⟩
 ·refine ol (fun z:List Int×Int=>(0≤z.2∧z.2≤c.aG.length)∧(z.1.length:Int)=z.2∧∀ g:Int,0≤g→g < z.2→gi z.1 g=gk c.aE g i) (fun z=>(c.aG.length - z.2).toNat) ⟨⟨by show (0:Int)≤0; omega,by show (0:Int)≤_; omega⟩,rfl,fun f f0 f1=>by dsimp only at f1; omega⟩ ?_
  rintro ⟨row,j⟩ ⟨⟨j0,j1⟩,bj,hR⟩
  dsimp only at j0 j1 bj hR
  show Ok (mS c i row j) _
  unfold mS
  refine od (fun hj=>?_) fun hj=>os ⟨rfl,?_⟩
  ·have hw:=w1 j0 hj (by omega)
   refine oe (T.me j0 hj) (oe (T.lv j0 hj i0 hi) (dp (by omega) (by omega) (os ⟨⟨⟨?_,?_⟩,?_,fun g g0 g1=>?_⟩,?_⟩)))
   all_goals first | (dsimp only at g1; rw [hw] at g1) | skip
   all_goals try dsimp only
   all_goals first | (rw [hw]; simp only [List.length_append,List.length_singleton]; omega) | (rw [hw]; omega) | skip
   rw [ks g0]
   by_cases e4:g < j
   ·rw [if_pos (by omega)]; exact hR g g0 e4
   ·rw [if_neg (by omega),if_pos (by omega),show g=j by omega]
  ·have hw:=w1 i0 hi (by omega)
   refine dp (by omega) (by omega) (os ⟨⟨⟨?_,?_⟩,?_,dw n8 (by omega),fun f g f0 f1 g0 g1=>?_⟩,?_⟩)
   all_goals first | (dsimp only at f1; rw [hw] at f1) | skip
   all_goals try dsimp only
   all_goals first | (rw [hw]; simp only [List.length_append,List.length_singleton]; omega) | (rw [hw]; omega) | skip
   rw [FN f0]
   by_cases e4:f < i
   ·rw [if_pos (by omega)]; exact hK f g f0 e4 g0 g1
   ·rw [if_neg (by omega),if_pos (by omega),show f=i by omega]; exact hR g g0 (by omega)
 ·dsimp only; omega
 ·dsimp only; omega
 ·dsimp only; omega
 ·have:=n8 y hy; dsimp only; omega
 ·dsimp only; omega
 ·have:=n8 y hy; dsimp only; omega
 ·have:=T.i y hy; dsimp only; omega
 ·dsimp only at f1 g1 e ⊢
  rw [show gk k f g=gk c.aE g f from hK f g f0 (by omega) g0 (by omega)]
  have:=T.cell g f g0 (by omega) f0 (by omega) e.symm
  exact ⟨by omega,this.2.2,this.2.1⟩
 ·dsimp only at f1 g1 e ⊢
  rw [show gk k f g=gk c.aE g f from hK f g f0 (by omega) g0 (by omega)]
  exact T.none g f g0 (by omega) f0 (by omega) fun h=>e h.symm
 ·have kx:=T.id (x:=y) y0 y1
  show gk k (gi c.aJ y) (gi c.aJ y)=gi c.aJ y
  rw [show gk k (gi c.aJ y) (gi c.aJ y)=gk c.aE (gi c.aJ y) (gi c.aJ y) from hK _ _ kx.1 (by omega) kx.1 kx.2]
  exact T.uu y y0 y1
theorem U1 {n m:Nat} {g:Int→Int→List Int} {a b:Int} (a0:0≤a) (a1:a < n) (b0:0≤b) (b1:b < m):gr (mw n m g) (a * m+b)=g a b:=by
 obtain ⟨i,rfl⟩ : ∃ k:Nat,a=k:=⟨a.toNat,by omega⟩
 obtain ⟨j,rfl⟩ : ∃ k:Nat,b=k:=⟨b.toNat,by omega⟩
 have h:=Kd g (a:=i) (b:=j) (n:=n) (m:=m) (by omega) (by omega)
 unfold gr
 rw [List.getD_eq_getElem?_getD,show ((i:Int) * (m:Int)+(j:Int)).toNat=i * m+j by
  rw [← Int.natCast_mul,← Int.natCast_add]; rfl,h]; rfl
theorem vx {n m:Nat} {k:Int} (k0:0≤k) (h:k < (n * m:Nat)):∃ a b:Int,(0≤a∧a < n)∧(0≤b∧b < m)∧k=a * m+b:=by
 obtain ⟨a,b,ha,hb,e⟩:=Yt (n:=n) (m:=m) (k:=k.toNat) (by omega)
 refine ⟨a,b,⟨by omega,by omega⟩,⟨by omega,by omega⟩,?_⟩
 have:(k.toNat:Int)=((a * m+b:Nat):Int):=by rw [e]
 rw [show ((k.toNat:Nat):Int)=k by omega] at this
 rw [this,Int.natCast_add,Int.natCast_mul]
theorem Sp {m:Int} {a b c d:Int} (b0:0≤b) (b1:b < m) (d0:0≤d) (d1:d < m) (h:a * m+b=c * m+d):a=c∧b=d:=by
 have hm:0 < m:=by omega
 have h1:(a * m+b) / m=a:=by
  rw [Int.add_comm,Int.add_mul_ediv_right _ _ (by omega),Int.ediv_eq_zero_of_lt b0 b1,Int.zero_add]
 have h2:(c * m+d) / m=c:=by
  rw [Int.add_comm,Int.add_mul_ediv_right _ _ (by omega),Int.ediv_eq_zero_of_lt d0 d1,Int.zero_add]
 have e:a=c:=by rw [← h1,h,h2]
 subst e
 exact ⟨rfl,by omega⟩
theorem uf {n m a b:Int} (a0:0≤a) (a1:a < n) (b0:0≤b) (b1:b < m):0≤a * m+b∧a * m+b < n * m:=by
 have h1:0≤a * m:=Int.mul_nonneg a0 (by omega)
 have h2:(a+1) * m≤n * m:=Int.mul_le_mul_of_nonneg_right (by omega) (by omega)
 rw [Int.add_mul,Int.one_mul] at h2
 omega
theorem YV {c d:aI} (C:Ty c) (D:Ty d):Ty (w7 c d):=by
 have c0:=C.o0
 have d0:=D.o0
 have DR:((c.aA.toNat * d.aA.toNat:Nat):Int)=c.aA * d.aA:=by
  rw [Int.natCast_mul,Int.toNat_of_nonneg c0,Int.toNat_of_nonneg d0]
 have ht:((d.aA.toNat:Nat):Int)=d.aA:=Int.toNat_of_nonneg d0
 have lf:(w7 c d).aG.length=c.aG.length * d.aG.length:=gy _ _ _
 have lI:((c.aG.length * d.aG.length:Nat):Int)=(c.aG.length:Int) * (d.aG.length:Int):=Int.natCast_mul _ _
 have F:∀ {a b:Int},0≤a→a < c.aG.length→0≤b→b < d.aG.length→gi (w7 c d).aG (a * d.aG.length+b)=gi c.aG a * d.aA+gi d.aG b:=fun a0 a1 b0 b1=>yr a0 a1 b0 b1
 have T:∀ {a b:Int},0≤a→a < c.aG.length→0≤b→b < d.aG.length→gi (w7 c d).To (a * d.aG.length+b)=gi c.To a * d.aA+gi d.To b:=fun a0 a1 b0 b1=>yr a0 a1 b0 b1
 have I:∀ {a b:Int},0≤a→a < c.aA→0≤b→b < d.aA→gi (w7 c d).aJ (a * d.aA+b)=gi c.aJ a * d.aG.length+gi d.aJ b:=fun a0 a1 b0 b1=>by
  have:=yr (n:=c.aA.toNat) (m:=d.aA.toNat) (g:=fun x y=>gi c.aJ x * d.aG.length+gi d.aJ y) a0 (by omega) b0 (by omega)
  rwa [ht] at this
 have K:∀ {a b f g:Int},0≤a→a < c.aG.length→0≤b→b < d.aG.length→0≤f→f < c.aG.length→0≤g→g < d.aG.length→gk (w7 c d).aE (a * d.aG.length+b) (f * d.aG.length+g)=nt c d a b f g:=fun a0 a1 b0 b1 f0 f1 g0 g1=>by
  show gi (gr _ _) _=_
  rw [show gr (w7 c d).aE _=_ from U1 a0 a1 b0 b1,yr f0 f1 g0 g1]
 refine ⟨Int.mul_nonneg c0 d0,fun y hy=>?_,?_,fun y hy=>?_,?_,fun r hr=>?_,?_,fun y hy=>?_,fun y y0 y1=>?_,fun y y0 y1=>?_,fun p q p0 p1 q0 q1 e=>?_,fun p q p0 p1 q0 q1 e=>?_,fun y y0 y1=>?_⟩
 ·obtain ⟨a,b,ha,hb,rfl⟩:=BW.1 hy
  have h1:=C.fr ha.1 ha.2
  have h2:=D.fr hb.1 hb.2
  exact uf h1.1 h1.2 h2.1 h2.2
 ·exact (gy _ _ _).trans (gy _ _ _).symm
 ·obtain ⟨a,b,ha,hb,rfl⟩:=BW.1 hy
  have h1:=C.to ha.1 ha.2
  have h2:=D.to hb.1 hb.2
  exact uf h1.1 h1.2 h2.1 h2.2
 ·exact (gy _ _ _).trans (gy _ _ _).symm
 ·obtain ⟨a,b,ha,hb,rfl⟩:=BW.1 hr
  exact (gy _ _ _).trans (gy _ _ _).symm
 ·rw [show (w7 c d).aJ.length=_ from gy _ _ _,DR]; rfl
 ·obtain ⟨a,b,ha,hb,rfl⟩:=BW.1 hy
  have h1:=C.id ha.1 (by omega)
  have h2:=D.id hb.1 (by omega)
  rw [lf,lI]
  exact uf h1.1 h1.2 h2.1 h2.2
 ·have y1:y < c.aA * d.aA:=y1
  obtain ⟨a,b,ha,hb,rfl⟩:=vx (n:=c.aA.toNat) (m:=d.aA.toNat) y0 (by omega)
  rw [ht] at hb ⊢
  have h1:=C.id ha.1 (by omega)
  have h2:=D.id hb.1 (by omega)
  rw [I ha.1 (by omega) hb.1 hb.2,F h1.1 h1.2 h2.1 h2.2,C.xu a ha.1 (by omega),D.xu b hb.1 hb.2]
 ·have y1:y < c.aA * d.aA:=y1
  obtain ⟨a,b,ha,hb,rfl⟩:=vx (n:=c.aA.toNat) (m:=d.aA.toNat) y0 (by omega)
  rw [ht] at hb ⊢
  have h1:=C.id ha.1 (by omega)
  have h2:=D.id hb.1 (by omega)
  rw [I ha.1 (by omega) hb.1 hb.2,T h1.1 h1.2 h2.1 h2.2,C.xS a ha.1 (by omega),D.xS b hb.1 hb.2]
 ·rw [lf] at p1 q1
  obtain ⟨a,b,ha,hb,rfl⟩:=vx p0 p1
  obtain ⟨f,g,hf,hg,rfl⟩:=vx q0 q1
  rw [T ha.1 ha.2 hb.1 hb.2,F hf.1 hf.2 hg.1 hg.2] at e
  have t1:=D.to hb.1 hb.2
  have t2:=D.fr hg.1 hg.2
  obtain ⟨e1,e2⟩:=Sp t1.1 t1.2 t2.1 t2.2 e
  have h1:=C.cell a f ha.1 ha.2 hf.1 hf.2 e1
  have h2:=D.cell b g hb.1 hb.2 hg.1 hg.2 e2
  rw [K ha.1 ha.2 hb.1 hb.2 hf.1 hf.2 hg.1 hg.2]
  unfold nt
  rw [if_pos ⟨h1.1.1,h2.1.1⟩,F h1.1.1 h1.1.2 h2.1.1 h2.1.2,T h1.1.1 h1.1.2 h2.1.1 h2.1.2,F ha.1 ha.2 hb.1 hb.2,T hf.1 hf.2 hg.1 hg.2,h1.2.1,h1.2.2,h2.2.1,h2.2.2,lf,lI]
  exact ⟨uf h1.1.1 h1.1.2 h2.1.1 h2.1.2,rfl,rfl⟩
 ·rw [lf] at p1 q1
  obtain ⟨a,b,ha,hb,rfl⟩:=vx p0 p1
  obtain ⟨f,g,hf,hg,rfl⟩:=vx q0 q1
  rw [T ha.1 ha.2 hb.1 hb.2,F hf.1 hf.2 hg.1 hg.2] at e
  rw [K ha.1 ha.2 hb.1 hb.2 hf.1 hf.2 hg.1 hg.2]
  unfold nt
  refine if_neg fun hh=>e ?_
  have k1:gi c.To a=gi c.aG f:=Classical.byContradiction fun ne=>by
   have:=C.none a f ha.1 ha.2 hf.1 hf.2 ne
   have:=hh.1
   omega
  have k2:gi d.To b=gi d.aG g:=Classical.byContradiction fun ne=>by
   have:=D.none b g hb.1 hb.2 hg.1 hg.2 ne
   have:=hh.2
   omega
  rw [k1,k2]
 ·have y1:y < c.aA * d.aA:=y1
  obtain ⟨a,b,ha,hb,rfl⟩:=vx (n:=c.aA.toNat) (m:=d.aA.toNat) y0 (by omega)
  rw [ht] at hb ⊢
  have h1:=C.id ha.1 (by omega)
  have h2:=D.id hb.1 (by omega)
  rw [I ha.1 (by omega) hb.1 hb.2,K h1.1 h1.2 h2.1 h2.2 h1.1 h1.2 h2.1 h2.2]
  unfold nt
  rw [C.uu a ha.1 (by omega),D.uu b hb.1 hb.2,if_pos ⟨h1.1,h2.1⟩]
end Go.Proofs.YtilhlobfebngdaaGreat
set_option linter.unusedVariables false
set_option linter.unusedSimpArgs false
namespace Go.Proofs.YtilhlobfebngdaaGreat
open Go Go.Li
theorem pd {l r:List Int} {j:Int} (h0:0≤j):gi (l++r) j=if j < l.length then gi l j else gi r (j - l.length):=by
 obtain ⟨n,rfl⟩ : ∃ n:Nat,j=n:=⟨j.toNat,by omega⟩
 unfold gi
 rw [List.getD_eq_getElem?_getD,List.getD_eq_getElem?_getD,List.getD_eq_getElem?_getD,show ((n:Int)).toNat=n from rfl]
 by_cases h:n < l.length
 ·rw [List.getElem?_append_left h,if_pos (by omega)]
 ·rw [List.getElem?_append_right (by omega),if_neg (by omega),show ((n:Int) - (l.length:Int)).toNat=n - l.length by omega]
theorem C8 {l r:List (List Int)} {j:Int} (h0:0≤j):gr (l++r) j=if j < l.length then gr l j else gr r (j - l.length):=by
 obtain ⟨n,rfl⟩ : ∃ n:Nat,j=n:=⟨j.toNat,by omega⟩
 unfold gr
 rw [List.getD_eq_getElem?_getD,List.getD_eq_getElem?_getD,List.getD_eq_getElem?_getD,show ((n:Int)).toNat=n from rfl]
 by_cases h:n < l.length
 ·rw [List.getElem?_append_left h,if_pos (by omega)]
 ·rw [List.getElem?_append_right (by omega),if_neg (by omega),show ((n:Int) - (l.length:Int)).toNat=n - l.length by omega]
theorem AW {n:Nat} {g:Int→List Int} {i:Int} (h0:0≤i) (h1:i < n):gr (ec n g) i=g i:=by
 obtain ⟨k,rfl⟩ : ∃ k:Nat,i=k:=⟨i.toNat,by omega⟩
 have h:=qg g (i:=k) (n:=n) (by omega)
 unfold gr
 rw [List.getD_eq_getElem?_getD,show ((k:Int)).toNat=k from rfl,h]; rfl
theorem PB {n:Nat} {v i:Int} (h0:0≤i) (h1:i < n):gi (List.replicate n v) i=v:=by
 have _:=h0
 unfold gi
 rw [List.getD_eq_getElem?_getD,List.getElem?_replicate,if_pos (by omega)]; rfl
def Kt (m h:Int):Int:=if 0≤h then h+m else h
def dc (c d:aI):aI:=
 ⟨c.aA+d.aA,c.aG++ec d.aG.length (fun f=>gi d.aG f+c.aA),c.To++ec d.aG.length (fun f=>gi d.To f+c.aA),c.aJ++ec d.aA.toNat (fun y=>gi d.aJ y+c.aG.length),
  (ec c.aG.length fun f=>gr c.aE f++List.replicate d.aG.length (-1))++ec d.aG.length fun f=>List.replicate c.aG.length (-1)++ec d.aG.length fun g=>Kt c.aG.length (gk d.aE f g)⟩
theorem PC (l:List (List Int)):ec l.length (fun f=>gr l f)=l:=by
 refine List.ext_getElem? fun i=>?_
 by_cases h:i < l.length
 ·rw [qg _ h,List.getElem?_eq_getElem h]
  unfold gr
  rw [List.getD_eq_getElem?_getD,show ((i:Int)).toNat=i from rfl,List.getElem?_eq_getElem h]; rfl
 ·rw [List.getElem?_eq_none (by rw [cS]; omega),List.getElem?_eq_none (by omega)]
theorem Nw (n:Nat) (v:Int):ec n (fun _=>v)=List.replicate n v:=by
 induction n with
 | zero=>rfl
 | succ n ih=>rw [ot,ih,List.replicate_succ']
theorem Sr {n:Nat} {g:Int→List Int} {i:Nat} (h:i < n) (v:List Int) (hv:∀ k:Nat,k < i→True):(ec n g).set i v=ec n fun k=>if k=(i:Int) then v else g k:=by
 have _:=hv
 refine List.ext_getElem? fun k=>?_
 rw [List.getElem?_set]
 by_cases e:i=k
 ·subst e
  rw [if_pos rfl,if_pos (by rw [cS]; exact h),qg _ h,if_pos rfl]
 ·rw [if_neg e]
  by_cases hk:k < n
  ·rw [qg _ hk,qg _ hk,if_neg (by omega)]
  ·rw [List.getElem?_eq_none (by rw [cS]; omega),List.getElem?_eq_none (by rw [cS]; omega)]
theorem LW {c d:aI} {a b a' b':Nat} (C:j3 a b c) (D:j3 a' b' d) (T:Ty c) (U:Ty d) (ha:a+a'≤100000) (hb:b+b'≤100000):jY c d=some (dc c d):=by
 obtain ⟨c0,c1,c2,c3,c4,c5,c6⟩:=C
 obtain ⟨d0,d1,d2,d3,d4,d5,d6⟩:=D
 have hs:gq c:=⟨by omega,by omega,by omega,by omega,fun y hy=>by have:=c6 y hy; omega⟩
 obtain ⟨nd,dx⟩ : ∃ n:Nat,d.aA=n:=⟨d.aA.toNat,by omega⟩
 unfold jY
 rw [zn hs,aF]
 refine (congrArg aq (ve nd (fun y=>gi d.aJ y+c.aG.length) c.aJ (fun acc i=>((i:Int),acc)) rfl ?_ ?_)).trans ?_
 ·intro i acc hi hl
  show iQ c d i acc=_
  unfold iQ
  have h:=U.id (x:=(i:Int)) (by omega) (by omega)
  rw [bb (by omega:(i:Int) < d.aA),cond_true,U.nh (by omega) (by omega),aF,eB (by omega) (by omega),aF,cA (by omega),eI (by omega) (by omega)]
 ·intro acc _
  show iQ c d _ acc=_
  unfold iQ
  rw [br (by omega),cond_false]
 dsimp only
 have rows:∀ i:Nat,(ec c.aG.length fun f=>if f < (i:Int) then gr c.aE f++List.replicate d.aG.length (-1) else gr c.aE f).length=c.aG.length:=fun i=>cS _ _
 refine (congrArg aq (ud (ns c.aG.length) (fun i=>((i:Int),ec c.aG.length fun f=>if f < (i:Int) then gr c.aE f++List.replicate d.aG.length (-1) else gr c.aE f)) ?_ (fun i x hx=>?_) (e:=((c.aG.length:Int),ec c.aG.length fun f=>gr c.aE f++List.replicate d.aG.length (-1))) ?_)).trans ?_
 ·show ((0:Int),_)=((0:Int),c.aE)
  congr 1
  refine (v8 fun i hi=>?_).trans ((congrArg (fun n=>ec n fun f=>gr c.aE f) c5.symm).trans (PC c.aE))
  rw [if_neg (by omega)]
 ·obtain ⟨rfl,hi⟩:=gh hx
  show iS d (i:Int) _=_
  unfold iS
  rw [rows,bb (by omega:(i:Int) < (c.aG.length:Int)),cond_true]
  have bj:(gr c.aE i).length=c.aG.length:=c6 _ (kq (by omega) (by omega))
  refine (ud (ns d.aG.length) (fun j=>((j:Int),(ec c.aG.length fun f=>if f < (i:Int) then gr c.aE f++List.replicate d.aG.length (-1) else if f=(i:Int) then gr c.aE f++List.replicate j (-1) else gr c.aE f))) ?_ (fun j y hy=>?_) (e:=((d.aG.length:Int),ec c.aG.length fun f=>if f < (i:Int) then gr c.aE f++List.replicate d.aG.length (-1) else if f=(i:Int) then gr c.aE f++List.replicate d.aG.length (-1) else gr c.aE f)) ?_).trans ?_
  ·show ((0:Int),_)=((0:Int),_)
   congr 1
   refine v8 fun k hk=>?_
   split
   ·rfl
   ·split
    ·rw [List.replicate_zero,List.append_nil]
    ·rfl
  ·obtain ⟨rfl,hj⟩:=gh hy
   have hg:idx (ec c.aG.length fun f=>if f < (i:Int) then gr c.aE f++List.replicate d.aG.length (-1) else if f=(i:Int) then gr c.aE f++List.replicate j (-1) else gr c.aE f) (i:Int)=some (gr c.aE i++List.replicate j (-1)):=by
    rw [cw,qg _ hi,if_neg (by omega),if_pos rfl]
   show iR d i (j:Int) _=_
   unfold iR
   rw [bb (by omega:(j:Int) < (d.aG.length:Int)),cond_true,hg,aF,eB (by rw [List.length_append,List.length_replicate]; omega) (by rw [List.length_append,List.length_replicate]; omega),aF,aF,cA (by omega),Int.toNat_natCast,Sr hi _ (fun _ _=>trivial)]
   refine congrArg (fun l:List (List Int)=>(some (Out.norm (((j+1:Nat):Int),l)):Option (Out (Int×List (List Int)) aI))) (v8 fun k hk=>?_)
   by_cases e:(k:Int)=i
   ·rw [if_pos e,if_neg (by omega),if_pos e,List.append_assoc,← List.replicate_succ',e]
   ·rw [if_neg e]
    split
    ·rfl
    ·simp only [if_neg e]
  ·rw [cT]
   show iR d i _ _=_
   unfold iR
   rw [br (by omega),cond_false]
  ·dsimp only
   rw [cA (by omega)]
   refine congrArg (fun l:List (List Int)=>(some (Out.norm (((i+1:Nat):Int),l)):Option (Out (Int×List (List Int)) aI))) (v8 fun k hk=>?_)
   by_cases e:(k:Int) < i
   ·rw [if_pos e,if_pos (by omega)]
   ·rw [if_neg e]
    by_cases e2:(k:Int)=i
    ·rw [if_pos e2,if_pos (by omega)]
    ·rw [if_neg e2,if_neg (by omega)]
 ·rw [cT]
  show iS d _ _=_
  unfold iS
  rw [rows,br (by omega),cond_false]
  refine congrArg (fun l:List (List Int)=>(some (Out.exit 2 ((c.aG.length:Int),l)):Option (Out (Int×List (List Int)) aI))) (v8 fun k hk=>?_)
  rw [if_pos (by omega)]
 dsimp only
 refine (congrArg aq (ud (ns d.aG.length) (fun i=>((i:Int),c.aG++ec i (fun f=>gi d.aG f+c.aA),c.To++ec i (fun f=>gi d.To f+c.aA),(ec c.aG.length fun f=>gr c.aE f++List.replicate d.aG.length (-1))++ec i fun f=>List.replicate c.aG.length (-1)++ec d.aG.length fun g=>Kt c.aG.length (gk d.aE f g))) ?_ (fun i x hx=>?_) (e:=((d.aG.length:Int),(dc c d).aG,(dc c d).To,(dc c d).aE)) ?_)).trans ?_
 ·show ((0:Int),c.aG++[],c.To++[],_++[])=_
  rw [List.append_nil,List.append_nil,List.append_nil]
 ·obtain ⟨rfl,hi⟩:=gh hx
  have hf:=U.fr (f:=(i:Int)) (by omega) (by omega)
  have ht:=U.to (f:=(i:Int)) (by omega) (by omega)
  show iW c d (i:Int) _ _ _=_
  unfold iW
  rw [bb (by omega:(i:Int) < (d.aG.length:Int)),cond_true,U.iq (by omega) (by omega),aF,eB (by rw [List.length_append,cS]; omega) (by rw [List.length_append,cS]; omega),aF,U.jf (by omega) (by omega),aF,eB (by rw [List.length_append,cS]; omega) (by rw [List.length_append,cS]; omega),aF]
  refine (ve c.aG.length (fun _=>(-1:Int)) [] (fun acc j=>(acc,(j:Int))) rfl ?_ ?_).trans ?_
  ·intro j acc hj hl
   simp only [List.length_nil,Nat.zero_add] at hl
   show iU c acc (j:Int)=_
   unfold iU
   rw [bb (by omega:(j:Int) < (c.aG.length:Int)),cond_true,eB (by omega) (by omega),aF,cA (by omega)]
  ·intro acc _
   show iU c acc _=_
   unfold iU
   rw [br (by omega),cond_false]
  dsimp only
  rw [List.nil_append,Nw]
  refine (ve d.aG.length (fun g=>Kt c.aG.length (gk d.aE i g)) (List.replicate c.aG.length (-1)) (fun acc j=>(acc,(j:Int))) rfl ?_ ?_).trans ?_
  ·intro j acc hj hl
   rw [List.length_replicate] at hl
   have hc:=U.DF (f:=(i:Int)) (g:=(j:Int)) (by omega) (by omega) (by omega) (by omega)
   show iV c d (i:Int) acc (j:Int)=_
   unfold iV
   rw [bb (by omega:(j:Int) < (d.aG.length:Int)),cond_true,U.me (by omega) (by omega),aF,U.lv (by omega) (by omega) (by omega) (by omega),aF]
   unfold Kt
   by_cases e:0≤gk d.aE i j
   ·rw [bb (show gk d.aE i j ≥ 0 from e),cond_true,eB (by omega) (by omega),aF,cA (by omega),eI (by omega) (by omega),if_pos e]
   ·rw [br (show ¬ gk d.aE i j ≥ 0 from e),cond_false,eB (by omega) (by omega),aF,cA (by omega),if_neg e]
  ·intro acc _
   show iV c d (i:Int) acc _=_
   unfold iV
   rw [br (by omega),cond_false]
  ·dsimp only
   rw [eB (by rw [List.length_append,cS,cS]; omega) (by rw [List.length_append,cS,cS]; omega),aF,cA (by omega),eI (by omega) (by omega),eI (by omega) (by omega),ot,ot,ot,List.append_assoc,List.append_assoc,List.append_assoc]
 ·rw [cT]
  show iW c d _ _ _ _=_
  unfold iW
  rw [br (by omega),cond_false]; rfl
 ·show some _=_
  rw [eI (by omega) (by omega)]
  unfold dc
  rw [dx]; rfl
section
variable {c d:aI} (T:Ty c) (U:Ty d)
include T U
theorem GB:(dc c d).aG.length=c.aG.length+d.aG.length:=by
 have _:=T
 have _:=U
 show (_++_:List Int).length=_; rw [List.length_append,cS]
theorem xB {f:Int} (f0:0≤f) (f1:f < c.aG.length):gi (dc c d).aG f=gi c.aG f:=by
 have _:=T
 have _:=U
 show gi (_++_) f=_; rw [pd f0,if_pos f1]
theorem AX {f:Int} (f0:0≤f) (f1:f < d.aG.length):gi (dc c d).aG (c.aG.length+f)=gi d.aG f+c.aA:=by
 have _:=T
 have _:=U
 show gi (_++_) _=_; rw [pd (by omega),if_neg (by omega),show (c.aG.length:Int)+f - c.aG.length=f by omega,ue f0 f1]
theorem AY {f:Int} (f0:0≤f) (f1:f < c.aG.length):gi (dc c d).To f=gi c.To f:=by
 have _:=U
 show gi (_++_) f=_; rw [pd f0,if_pos (by rw [T.tl]; exact f1)]
theorem xC {f:Int} (f0:0≤f) (f1:f < d.aG.length):gi (dc c d).To (c.aG.length+f)=gi d.To f+c.aA:=by
 have _:=U
 show gi (_++_) _=_; rw [pd (by omega),if_neg (by rw [T.tl]; omega),show (c.aG.length:Int)+f - c.To.length=f by rw [T.tl]; omega,ue f0 f1]
theorem GC {f g:Int} (f0:0≤f) (f1:f < c.aG.length) (g0:0≤g) (g1:g < c.aG.length):gk (dc c d).aE f g=gk c.aE f g:=by
 have _:=U
 show gi (gr (_++_) f) g=_
 rw [C8 f0,if_pos (by rw [cS]; exact f1),AW f0 f1,pd g0,if_pos (by rw [T.row f0 f1]; exact g1)]; rfl
theorem U2 {f g:Int} (f0:0≤f) (f1:f < c.aG.length) (g0:0≤g) (g1:g < d.aG.length):gk (dc c d).aE f (c.aG.length+g) = -1:=by
 have _:=U
 show gi (gr (_++_) f) _=_
 rw [C8 f0,if_pos (by rw [cS]; exact f1),AW f0 f1,pd (by omega),if_neg (by rw [T.row f0 f1]; omega),T.row f0 f1,PB (by omega) (by omega)]
theorem U3 {f g:Int} (f0:0≤f) (f1:f < d.aG.length) (g0:0≤g) (g1:g < c.aG.length):gk (dc c d).aE (c.aG.length+f) g = -1:=by
 have _:=T
 have _:=U
 show gi (gr (_++_) _) g=_
 rw [C8 (by omega),if_neg (by rw [cS]; omega),cS,show (c.aG.length:Int)+f - c.aG.length=f by omega,AW f0 f1,pd g0,if_pos (by rw [List.length_replicate]; exact g1),PB g0 g1]
theorem GD {f g:Int} (f0:0≤f) (f1:f < d.aG.length) (g0:0≤g) (g1:g < d.aG.length):gk (dc c d).aE (c.aG.length+f) (c.aG.length+g)=Kt c.aG.length (gk d.aE f g):=by
 have _:=T
 have _:=U
 show gi (gr (_++_) _) _=_
 rw [C8 (by omega),if_neg (by rw [cS]; omega),cS,show (c.aG.length:Int)+f - c.aG.length=f by omega,AW f0 f1,pd (by omega),if_neg (by rw [List.length_replicate]; omega),List.length_replicate,show (c.aG.length:Int)+g - c.aG.length=g by omega,ue g0 g1]
theorem xD {f:Int} (f0:0≤f) (f1:f < (dc c d).aG.length):f < c.aG.length∨∃ g:Int,f=c.aG.length+g∧0≤g∧g < d.aG.length:=by
 rw [GB T U] at f1
 by_cases h:f < c.aG.length
 ·exact .inl h
 ·exact .inr ⟨f - c.aG.length,by omega,by omega,by omega⟩
theorem DG:Ty (dc c d):=by
 have c0:=T.o0
 have d0:=U.o0
 have ho:(dc c d).aA=c.aA+d.aA:=rfl
 have hl:=GB T U
 have TC:=T.il
 have ttl:=T.tl
 have tkl:=T.kl
 have aqy:((d.aA.toNat:Nat):Int)=d.aA:=Int.toNat_of_nonneg d0
 refine ⟨by omega,fun y hy=>?_,?_,fun y hy=>?_,?_,fun r hr=>?_,?_,fun y hy=>?_,fun y y0 y1=>?_,fun y y0 y1=>?_,fun p q p0 p1 q0 q1 e=>?_,fun p q p0 p1 q0 q1 e=>?_,fun y y0 y1=>?_⟩
 ·rcases List.mem_append.1 hy with hy | hy
  ·have:=T.f y hy; omega
  ·obtain ⟨i,hi,rfl⟩:=o9.1 hy
   have:=U.fr hi.1 hi.2; omega
 ·rw [hl]; show (_++_:List Int).length=_; rw [List.length_append,cS,ttl]
 ·rcases List.mem_append.1 hy with hy | hy
  ·have:=T.t y hy; omega
  ·obtain ⟨i,hi,rfl⟩:=o9.1 hy
   have:=U.to hi.1 hi.2; omega
 ·rw [hl]; show (_++_:List (List Int)).length=_; rw [List.length_append,cS,cS]
 ·rw [hl]
  rcases List.mem_append.1 hr with hr | hr
  ·obtain ⟨i,hi,rfl⟩:=o9.1 hr
   rw [List.length_append,List.length_replicate,T.row hi.1 hi.2]
  ·obtain ⟨i,hi,rfl⟩:=o9.1 hr
   rw [List.length_append,List.length_replicate,cS]
 ·show ((_++_:List Int).length:Int)=_; rw [List.length_append,cS]; omega
 ·rw [hl]
  rcases List.mem_append.1 hy with hy | hy
  ·have:=T.i y hy; omega
  ·obtain ⟨i,hi,rfl⟩:=o9.1 hy
   have:=U.id hi.1 (by omega); omega
 ·show gi (dc c d).aG (gi (_++_) y)=y
  rw [pd y0,TC]
  by_cases h:y < c.aA
  ·rw [if_pos h]
   have:=T.id y0 h
   rw [xB T U this.1 this.2,T.xu y y0 h]
  ·rw [if_neg h,ue (by omega) (by omega),Int.add_comm (gi d.aJ _)]
   have:=U.id (x:=y - c.aA) (by omega) (by omega)
   rw [AX T U this.1 this.2,U.xu _ (by omega) (by omega)]; omega
 ·show gi (dc c d).To (gi (_++_) y)=y
  rw [pd y0,TC]
  by_cases h:y < c.aA
  ·rw [if_pos h]
   have:=T.id y0 h
   rw [AY T U this.1 this.2,T.xS y y0 h]
  ·rw [if_neg h,ue (by omega) (by omega),Int.add_comm (gi d.aJ _)]
   have:=U.id (x:=y - c.aA) (by omega) (by omega)
   rw [xC T U this.1 this.2,U.xS _ (by omega) (by omega)]; omega
 ·rcases xD T U p0 p1 with hp | ⟨p,rfl,De,hp⟩
  ·rcases xD T U q0 q1 with hq | ⟨q,rfl,AZ,hq⟩
   ·rw [AY T U p0 hp,xB T U q0 hq] at e
    have:=T.cell p q p0 hp q0 hq e
    rw [GC T U p0 hp q0 hq,xB T U this.1.1 this.1.2,AY T U this.1.1 this.1.2,xB T U p0 hp,AY T U q0 hq,hl]
    exact ⟨⟨this.1.1,by omega⟩,this.2.1,this.2.2⟩
   ·rw [AY T U p0 hp,AX T U AZ hq] at e
    have:=T.to p0 hp
    have:=U.fr AZ hq
    omega
  ·rcases xD T U q0 q1 with hq | ⟨q,rfl,AZ,hq⟩
   ·rw [xC T U De hp,xB T U q0 hq] at e
    have:=U.to De hp
    have:=T.fr q0 hq
    omega
   ·rw [xC T U De hp,AX T U AZ hq] at e
    have:=U.cell p q De hp AZ hq (by omega)
    rw [GD T U De hp AZ hq]
    unfold Kt
    rw [if_pos this.1.1,Int.add_comm (gk d.aE p q),AX T U this.1.1 this.1.2,xC T U this.1.1 this.1.2,AX T U De hp,xC T U AZ hq,hl,this.2.1,this.2.2]
    exact ⟨⟨by omega,by omega⟩,rfl,rfl⟩
 ·rcases xD T U p0 p1 with hp | ⟨p,rfl,De,hp⟩
  ·rcases xD T U q0 q1 with hq | ⟨q,rfl,AZ,hq⟩
   ·rw [AY T U p0 hp,xB T U q0 hq] at e
    rw [GC T U p0 hp q0 hq]
    exact T.none p q p0 hp q0 hq e
   ·exact U2 T U p0 hp AZ hq
  ·rcases xD T U q0 q1 with hq | ⟨q,rfl,AZ,hq⟩
   ·exact U3 T U De hp q0 hq
   ·rw [xC T U De hp,AX T U AZ hq] at e
    rw [GD T U De hp AZ hq,U.none p q De hp AZ hq (fun h=>e (by rw [h]))]; rfl
 ·show gk (dc c d).aE (gi (_++_) y) (gi (_++_) y)=gi (_++_) y
  rw [pd y0,TC]
  by_cases h:y < c.aA
  ·rw [if_pos h]
   have:=T.id y0 h
   rw [GC T U this.1 this.2 this.1 this.2,T.uu y y0 h]
  ·rw [if_neg h,ue (by omega) (by omega),Int.add_comm (gi d.aJ _)]
   have:=U.id (x:=y - c.aA) (by omega) (by omega)
   rw [GD T U this.1 this.2 this.1 this.2,U.uu _ (by omega) (by omega)]
   unfold Kt
   rw [if_pos this.1]; omega
end
end Go.Proofs.YtilhlobfebngdaaGreat
