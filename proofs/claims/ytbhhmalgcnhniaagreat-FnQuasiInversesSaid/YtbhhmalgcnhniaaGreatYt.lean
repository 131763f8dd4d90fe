/- Categories that are drawn have tables of the right form: posets, monoids, opposites. No condition beside those that each theorem names. -/
import Derived.Test.YtbhhmalgcnhniaaGreatVj
import Derived.Test.YtbhhmalgcnhniaaGreatVc
set_option linter.unusedVariables false
set_option linter.unusedSimpArgs false
namespace Go.Proofs.YtbhhmalgcnhniaaGreat
open Go Go.Li
theorem wP {x:List (List Int)} {n:Nat} (hn:n≤4) (h:Sq n x) (re:∀ i:Int,0≤i→i < n→gi (gr x i) i=1)
  (tr:∀ i j k:Int,0≤i→i < n→0≤j→j < n→0≤k→k < n→gi (gr x i) j=1→gi (gr x j) k=1→gi (gr x i) k=1):Ok (eN x) fun c=>jg n (4 * n) c∧Ty c:=by
 have hx:=h.len
 have rl:∀ i:Int,0≤i→i < n→(gr x i).length=n:=fun i i0 i1=>h.row _ (kv i0 (by omega))
 unfold eN
 refine lj (ol (fun z:List (List Int)×Int×List Int×List Int=>(0≤z.2.1∧z.2.1≤n)∧((z.1.length:Int)=z.2.1∧∀ y∈z.1,y.length=n)∧(z.2.2.2.length=z.2.2.1.length∧(z.2.2.1.length:Int)≤4 * z.2.1)∧((∀ y∈z.2.2.1,0≤y∧y < n)∧∀ y∈z.2.2.2,0≤y∧y < n)∧(∀ k:Int,0≤k→k < z.2.2.1.length→gi (gr x (gi z.2.2.1 k)) (gi z.2.2.2 k)=1)∧∀ i j:Int,0≤i→i < z.2.1→0≤j→j < n→gi (gr x i) j=1→(0≤gi (gr z.1 i) j∧gi (gr z.1 i) j < z.2.2.1.length)∧gi z.2.2.1 (gi (gr z.1 i) j)=i∧gi z.2.2.2 (gi (gr z.1 i) j)=j) (fun z=>(n - z.2.1).toNat)
  ⟨⟨by show (0:Int)≤0; omega,by show (0:Int)≤_; omega⟩,⟨rfl,jw⟩,⟨rfl,by show (0:Int)≤4 * 0; omega⟩,⟨jw,jw⟩,fun k k0 k1=>by dsimp only [List.length_nil] at k1; omega,fun i j i0 i1=>by dsimp only at i1; omega⟩ ?_)
 rintro ⟨num,i,f,t⟩ ⟨⟨i0,i1⟩,⟨hl,hr⟩,⟨ht,hf⟩,⟨hF,hT⟩,hA,hN⟩
 dsimp only at i0 i1 hl hr ht hf hF hT hA hN
 show Ok (oN x num i f t) _
 unfold oN
 rw [hx]
 refine od (fun hi=>?_) fun hi=>os ⟨rfl,?_⟩
 ·refine ol (fun z:List Int×Int×List Int×List Int=>(0≤z.2.1∧z.2.1≤n)∧(z.1.length:Int)=z.2.1∧(z.2.2.2.length=z.2.2.1.length∧(z.2.2.1.length:Int)≤4 * i+z.2.1)∧((∀ y∈z.2.2.1,0≤y∧y < n)∧∀ y∈z.2.2.2,0≤y∧y < n)∧(∀ k:Int,0≤k→k < z.2.2.1.length→gi (gr x (gi z.2.2.1 k)) (gi z.2.2.2 k)=1)∧(∀ i' j:Int,0≤i'→i' < i→0≤j→j < n→gi (gr x i') j=1→(0≤gi (gr num i') j∧gi (gr num i') j < z.2.2.1.length)∧gi z.2.2.1 (gi (gr num i') j)=i'∧gi z.2.2.2 (gi (gr num i') j)=j)∧∀ j:Int,0≤j→j < z.2.1→gi (gr x i) j=1→(0≤gi z.1 j∧gi z.1 j < z.2.2.1.length)∧gi z.2.2.1 (gi z.1 j)=i∧gi z.2.2.2 (gi z.1 j)=j) (fun z=>(n - z.2.1).toNat)
   ⟨⟨by show (0:Int)≤0; omega,by show (0:Int)≤_; omega⟩,rfl,⟨ht,by show (f.length:Int)≤4 * i+0; omega⟩,⟨hF,hT⟩,hA,hN,fun j j0 j1=>by dsimp only at j1; omega⟩ ?_
  rintro ⟨row,j,f,t⟩ ⟨⟨j0,j1⟩,CV,⟨ht,hf⟩,⟨hF,hT⟩,hA,hN,hR⟩
  dsimp only at j0 j1 CV ht hf hF hT hA hN hR
  show Ok (oM x i row j f t) _
  unfold oM
  rw [hx]
  refine od (fun hj=>?_) fun hj=>os ⟨rfl,?_⟩
  ·have hw:=w1 j0 hj (by omega)
   have II:=rl i i0 hi
   refine fj (by omega) (by omega) (oe (j6 i0 (by omega)) (oe (bL j0 (by omega)) (oc (fun e1=>fj (by omega) (by omega) (fj (by omega) (by omega) (os ⟨⟨⟨?_,?_⟩,?_,⟨?_,?_⟩,⟨ib hF ⟨i0,hi⟩,ib hT ⟨j0,hj⟩⟩,fun k k0 k1=>?_,fun i' j' a b c d e=>?_,fun j' a b e=>?_⟩,?_⟩))) fun e1=>os ⟨⟨⟨?_,?_⟩,?_,⟨ht,?_⟩,⟨hF,hT⟩,hA,hN,fun j' a b e=>?_⟩,?_⟩)))
   all_goals first | (dsimp only at b; rw [hw] at b) | skip
   all_goals try dsimp only
   all_goals first | (rw [hw]; simp only [List.length_append,List.length_singleton]; omega) | (rw [hw]; omega) | (simp only [List.length_append,List.length_singleton]; omega) | skip
   ·dsimp only at k1
    simp only [List.length_append,List.length_singleton] at k1
    rw [ll k0,ll k0,ht]
    by_cases e:k < f.length
    ·rw [if_pos e,if_pos e]; exact hA k k0 e
    ·rw [if_neg e,if_pos (by omega),if_neg e,if_pos (by omega)]
     simpa using e1
   ·obtain ⟨h1,h2,h3⟩:=hN i' j' a b c d e
    refine ⟨⟨h1.1,by rw [List.length_append]; omega⟩,?_,?_⟩
    ·rw [ll h1.1,if_pos h1.2]; exact h2
    ·rw [ll h1.1,if_pos (by omega)]; exact h3
   ·rw [ll a]
    by_cases e4:j' < j
    ·rw [if_pos (by omega)]
     obtain ⟨h1,h2,h3⟩:=hR j' a e4 e
     refine ⟨⟨h1.1,by rw [List.length_append]; omega⟩,?_,?_⟩
     ·rw [ll h1.1,if_pos h1.2]; exact h2
     ·rw [ll h1.1,if_pos (by omega)]; exact h3
    ·rw [if_neg (by omega),if_pos (by omega)]
     refine ⟨⟨by omega,by rw [List.length_append,List.length_singleton]; omega⟩,?_,?_⟩
     ·rw [ll (by omega),if_neg (by omega),if_pos rfl]
     ·rw [ll (by omega),if_neg (by omega),if_pos (by omega)]; omega
   ·rw [ll a]
    by_cases e4:j' < j
    ·rw [if_pos (by omega)]; exact hR j' a e4 e
    ·rw [show j'=j by omega] at e
     rw [e] at e1
     simp at e1
  ·have hw:=w1 i0 hi (by omega)
   refine fj (by omega) (by omega) (os ⟨⟨⟨?_,?_⟩,⟨?_,ib hr (by omega)⟩,⟨ht,?_⟩,⟨hF,hT⟩,hA,fun i' j' a b c d e=>?_⟩,?_⟩)
   all_goals first | (dsimp only at b; rw [hw] at b) | skip
   all_goals try dsimp only
   all_goals first | (rw [hw]; simp only [List.length_append,List.length_singleton]; omega) | (rw [hw]; omega) | skip
   rw [DW a]
   by_cases e4:i' < i
   ·rw [if_pos (by omega)]; exact hN i' j' a e4 c d e
   ·rw [if_neg (by omega),if_pos (by omega)]
    rw [show i'=i by omega] at e
    rw [show i'=i by omega]
    exact hR j' c (by omega) e
 ·refine ol (fun z:Int×List Int=>(0≤z.1∧z.1≤n)∧(z.2.length:Int)=z.1∧∀ a:Int,0≤a→a < z.1→gi z.2 a=gi (gr num a) a) (fun z=>(n - z.1).toNat) ⟨⟨by show (0:Int)≤0; omega,by show (0:Int)≤_; omega⟩,rfl,fun a a0 a1=>by dsimp only at a1; omega⟩ ?_
  rintro ⟨a,id⟩ ⟨⟨a0,a1⟩,tC,hI⟩
  dsimp only at a0 a1 tC hI
  show Ok (oO x num a id) _
  unfold oO
  rw [hx]
  have nl:∀ i:Int,0≤i→i < n→(gr num i).length=n:=fun i i0 i1=>hr _ (kv i0 (by omega))
  refine od (fun ha=>?_) fun ha=>os ⟨rfl,?_⟩
  ·have hw:=w1 a0 ha (by omega)
   have:=nl a a0 ha
   refine oe (j6 a0 (by omega)) (oe (bL a0 (by omega)) (fj (by omega) (by omega) (os ⟨⟨⟨?_,?_⟩,?_,fun b b0 b1=>?_⟩,?_⟩)))
   all_goals first | (dsimp only at b1; rw [hw] at b1) | skip
   all_goals try dsimp only
   all_goals first | (rw [hw]; simp only [List.length_append,List.length_singleton]; omega) | (rw [hw]; omega) | skip
   rw [ll b0]
   by_cases e4:b < a
   ·rw [if_pos (by omega)]; exact hI b b0 e4
   ·rw [if_neg (by omega),if_pos (by omega),show b=a by omega]
  ·refine ol (fun z:Int×List (List Int)=>(0≤z.1∧z.1≤f.length)∧(z.2.length:Int)=z.1∧(∀ y∈z.2,y.length=f.length)∧∀ b d:Int,0≤b→b < z.1→0≤d→d < f.length→gi (gr z.2 b) d=if gi t b=gi f d then gi (gr num (gi f b)) (gi t d) else -1) (fun z=>(f.length - z.1).toNat) ⟨⟨by show (0:Int)≤0; omega,by show (0:Int)≤_; omega⟩,rfl,jw,fun b d b0 b1=>by dsimp only at b1; omega⟩ ?_
   rintro ⟨b,k⟩ ⟨⟨b0,b1⟩,hk,nu,hK⟩
   dsimp only at b0 b1 hk nu hK
   show Ok (oQ num f t b k) _
   unfold oQ
   refine od (fun hb=>?_) fun hb=>os ⟨rfl,os ?_⟩
   ·refine ol (fun z:List Int×Int=>(0≤z.2∧z.2≤f.length)∧(z.1.length:Int)=z.2∧∀ d:Int,0≤d→d < z.2→gi z.1 d=if gi t b=gi f d then gi (gr num (gi f b)) (gi t d) else -1) (fun z=>(f.length - z.2).toNat) ⟨⟨by show (0:Int)≤0; omega,by show (0:Int)≤_; omega⟩,rfl,fun d d0 d1=>by dsimp only at d1; omega⟩ ?_
    rintro ⟨row,d⟩ ⟨⟨d0,d1⟩,bj,hD⟩
    dsimp only at d0 d1 bj hD
    show Ok (oP num f t b row d) _
    unfold oP
    refine od (fun hd=>?_) fun hd=>os ⟨rfl,?_⟩
    ·have hw:=w1 d0 hd (by omega)
     have IY:=hF _ (eh b0 hb)
     have htd:=hT _ (eh (l:=t) d0 (by omega))
     have:=nl _ IY.1 IY.2
     have put:∀ v:Int,v=(if gi t b=gi f d then gi (gr num (gi f b)) (gi t d) else -1)→Ok (fits 8 (row.length+1)>>=fun _=>some (Out.norm (row++[v],aj (d+1)):Out (List Int×Int) aG)) (HT 8 (fun z:List Int×Int=>(0≤z.2∧z.2≤f.length)∧(z.1.length:Int)=z.2∧∀ d:Int,0≤d→d < z.2→gi z.1 d=if gi t b=gi f d then gi (gr num (gi f b)) (gi t d) else -1) (fun z=>(f.length - z.2).toNat) ((f.length:Int) - d).toNat (fun s=>Ok ((fun (s:List Int×Int)=>fits 24 (k.length+1)>>=fun _=>some (Out.norm (aj (b+1),k++[s.1]):Out (Int×List (List Int)) aG)) s) (HT 6 (fun z:Int×List (List Int)=>(0≤z.1∧z.1≤f.length)∧(z.2.length:Int)=z.1∧(∀ y∈z.2,y.length=f.length)∧∀ b d:Int,0≤b→b < z.1→0≤d→d < f.length→gi (gr z.2 b) d=if gi t b=gi f d then gi (gr num (gi f b)) (gi t d) else -1) (fun z=>(f.length - z.1).toNat) ((f.length:Int) - b).toNat (fun s=>Ok ((fun (s:Int×List (List Int))=>some (Out.ret (aG.mk (n:Int) f t id s.2):Out Unit aG)) s) (Rt fun c=>jg n (4 * n) c∧Ty c)) fun r=>Rt (S:=Unit) (fun c=>jg n (4 * n) c∧Ty c) (.ret r))) fun r=>HT 6 (fun z:Int×List (List Int)=>(0≤z.1∧z.1≤f.length)∧(z.2.length:Int)=z.1∧(∀ y∈z.2,y.length=f.length)∧∀ b d:Int,0≤b→b < z.1→0≤d→d < f.length→gi (gr z.2 b) d=if gi t b=gi f d then gi (gr num (gi f b)) (gi t d) else -1) (fun z=>(f.length - z.1).toNat) ((f.length:Int) - b).toNat (fun s=>Ok ((fun (s:Int×List (List Int))=>some (Out.ret (aG.mk (n:Int) f t id s.2):Out Unit aG)) s) (Rt fun c=>jg n (4 * n) c∧Ty c)) (fun r=>Rt (S:=Unit) (fun c=>jg n (4 * n) c∧Ty c) (.ret r)) (.ret r)):=by
      intro v hv
      refine fj (by omega) (by omega) (os ⟨⟨⟨?_,?_⟩,?_,fun d' YV Rc=>?_⟩,?_⟩)
      all_goals first | (dsimp only at Rc; rw [hw] at Rc) | skip
      all_goals try dsimp only
      all_goals first | (rw [hw]; simp only [List.length_append,List.length_singleton]; omega) | (rw [hw]; omega) | skip
      rw [ll YV]
      by_cases e4:d' < d
      ·rw [if_pos (by omega)]; exact hD d' YV e4
      ·rw [if_neg (by omega),if_pos (by omega),show d'=d by omega]; exact hv
     refine oe (bL (l:=t) b0 (by omega)) (oe (bL d0 hd) (oc (fun e1=>?_) fun e1=>?_))
     ·refine oe (bL b0 hb) (oe (j6 IY.1 (by omega)) (oe (bL (l:=t) d0 (by omega)) (oe (bL htd.1 (by omega)) (put _ ?_))))
      rw [if_pos (by simpa using e1)]
     ·refine put _ ?_
      rw [if_neg (by simpa using e1)]
    ·have hw:=w1 b0 hb (by omega)
     refine fj (by omega) (by omega) (os ⟨⟨⟨?_,?_⟩,?_,ib nu (by omega),fun b' d' a YW c Rc=>?_⟩,?_⟩)
     all_goals first | (dsimp only at YW; rw [hw] at YW) | skip
     all_goals try dsimp only
     all_goals first | (rw [hw]; simp only [List.length_append,List.length_singleton]; omega) | (rw [hw]; omega) | skip
     rw [DW a]
     by_cases e4:b' < b
     ·rw [if_pos (by omega)]; exact hK b' d' a e4 c Rc
     ·rw [if_neg (by omega),if_pos (by omega),show b'=b by omega]
      exact hD d' c (by omega)
   ·have FK:∀ a:Int,0≤a→a < n→(0≤gi id a∧gi id a < f.length)∧gi f (gi id a)=a∧gi t (gi id a)=a:=fun a a0 a1=>by
     rw [hI a a0 (by omega)]
     exact hN a a a0 (by omega) a0 a1 (re a a0 a1)
    refine ⟨⟨by dsimp only; omega,by dsimp only; omega,by dsimp only; omega,ht,by dsimp only; omega,by dsimp only; omega,nu⟩,⟨by dsimp only; omega,fun y hy=>by dsimp only at hy ⊢; exact hF y hy,ht,fun y hy=>by dsimp only at hy ⊢; exact hT y hy,by dsimp only; omega,nu,by dsimp only; omega,fun y hy=>?_,fun a a0 a1=>(FK a a0 (by dsimp only at a1; omega)).2.1,fun a a0 a1=>(FK a a0 (by dsimp only at a1; omega)).2.2,fun p q p0 p1 q0 q1 e=>?_,fun p q p0 p1 q0 q1 e=>?_,fun a a0 a1=>?_⟩⟩
    ·dsimp only at hy ⊢
     obtain ⟨a,a0,a1,rfl⟩:=j7 hy
     exact (FK a a0 (by omega)).1
    ·dsimp only at p1 q1 e ⊢
     have hv:gk k p q=gi (gr num (gi f p)) (gi t q):=by
      show gi (gr k p) q=_
      rw [hK p q p0 (by omega) q0 q1,if_pos e]
     have a1:=hA p p0 p1
     have a2:=hA q q0 q1
     rw [e] at a1
     have b1:=hF _ (eh p0 p1)
     have b2:=hF _ (eh q0 q1)
     have b3:=hT _ (eh (l:=t) q0 (by omega))
     have:=hN _ _ b1.1 (by omega) b3.1 b3.2 (tr _ _ _ b1.1 b1.2 b2.1 b2.2 b3.1 b3.2 a1 a2)
     rw [hv]
     exact ⟨this.1,this.2.1,this.2.2⟩
    ·dsimp only at p1 q1 e ⊢
     show gi (gr k p) q=_
     rw [hK p q p0 (by omega) q0 q1,if_neg e]
    ·dsimp only at a1 ⊢
     have d:=FK a a0 (by omega)
     show gi (gr k (gi id a)) (gi id a)=gi id a
     rw [hK _ _ d.1.1 (by omega) d.1.1 d.1.2,if_pos (by rw [d.2.1,d.2.2]),d.2.1,d.2.2,hI a a0 (by omega)]
end Go.Proofs.YtbhhmalgcnhniaaGreat
set_option linter.unusedVariables false
set_option linter.unusedSimpArgs false
namespace Go.Proofs.YtbhhmalgcnhniaaGreat
open Go Go.Li
def WC (c:aG):Bool:=
 decide (0≤c.aA) && (ot c.aA c.aF && ((c.To.length == c.aF.length) && (ot c.aA c.To && ((c.aC.length == c.aF.length) && ((c.aC.all fun r=>r.length == c.aF.length) && (((c.aH.length:Int) == c.aA) && (ot c.aF.length c.aH &&
 (((ns c.aA.toNat).all fun x=>(gi c.aF (gi c.aH x) == x) && ((gi c.To (gi c.aH x) == x) && (gk c.aC (gi c.aH x) (gi c.aH x) == gi c.aH x))) &&
 (ns c.aF.length).all fun f=>(ns c.aF.length).all fun g=>if gi c.To f=gi c.aF g then (decide (0≤gk c.aC f g) && (decide (gk c.aC f g < c.aF.length) && ((gi c.aF (gk c.aC f g) == gi c.aF f) && (gi c.To (gk c.aC f g) == gi c.To g)))) else gk c.aC f g == -1))))))))
theorem Re {c:aG} (h:WC c=true):Ty c:=by
 unfold WC at h
 simp only [Bool.and_eq_true,decide_eq_true_eq,pd,beq_iff_eq,List.all_eq_true] at h
 obtain ⟨h1,h2,h3,h4,h5,h6,h7,h8,h9,YX⟩:=h
 refine ⟨h1,h2,h3,h4,h5,h6,h7,h8,fun x x0 x1=>(h9 x (dh.2 ⟨x0,by omega⟩)).1,fun x x0 x1=>(h9 x (dh.2 ⟨x0,by omega⟩)).2.1,fun f g f0 f1 g0 g1 e=>?_,fun f g f0 f1 g0 g1 e=>?_,fun x x0 x1=>(h9 x (dh.2 ⟨x0,by omega⟩)).2.2⟩
 ·have:=YX f (dh.2 ⟨f0,f1⟩) g (dh.2 ⟨g0,g1⟩)
  rw [if_pos e] at this
  simp only [Bool.and_eq_true,decide_eq_true_eq,beq_iff_eq] at this
  exact ⟨⟨this.1,this.2.1⟩,this.2.2.1,this.2.2.2⟩
 ·have:=YX f (dh.2 ⟨f0,f1⟩) g (dh.2 ⟨g0,g1⟩)
  rw [if_neg e] at this
  simpa using this
theorem Sk:Ok oD fun c=>jg 2 5 c∧Ty c:=by
 unfold oD
 exact lj (os ⟨⟨by decide,by decide,by decide,rfl,rfl,rfl,by decide⟩,Re rfl⟩)
theorem z7 {l:List (List Int)} {n:Nat} (n0:1≤n) (h1:n≤4) (h:Sq n l) (hb:∀ r∈l,∀ y∈r,0≤y∧y < n) (h0:gk l 0 0=0):Ok (jQ l) fun c=>jg 1 4 c∧Ty c:=by
 have hl:=h.len
 unfold jQ
 refine lj (Q0 (by omega) (by omega) (by omega) (Q0 (by omega) (by omega) (by omega) (oe (HD l (by omega) fun y hy=>by have:=h.row y hy; omega) (os ?_))))
 have e:((l.length:Int)).toNat=n:=by omega
 have z:∀ i:Int,gi (List.replicate n (0:Int)) i=0:=fun i=>by
  unfold gi
  rw [List.getD_eq_getElem?_getD,List.getElem?_replicate]
  split <;> rfl
 rw [e]
 refine ⟨⟨by show (0:Int)≤1; omega,by show (1:Int)≤_; omega,?_,?_,rfl,?_,fun y hy=>?_⟩,⟨by show (0:Int)≤1; omega,fun y hy=>?_,?_,fun y hy=>?_,?_,fun y hy=>?_,rfl,fun y hy=>?_,fun y y0 y1=>?_,fun y y0 y1=>?_,fun f g f0 f1 g0 g1 _=>?_,fun f g f0 f1 g0 g1 ne=>?_,fun y y0 y1=>?_⟩⟩
 ·show (List.replicate _ _).length≤4; rw [List.length_replicate]; omega
 ·show (List.replicate _ _).length=(List.replicate _ _).length; rw [List.length_replicate]
 ·show l.length=(List.replicate _ _).length; rw [List.length_replicate]; omega
 ·show _=(List.replicate _ _).length; rw [List.length_replicate,h.row y hy]
 ·rw [(List.mem_replicate.1 hy).2]; exact ⟨Int.le_refl _,by show (0:Int) < 1; omega⟩
 ·show (List.replicate _ _).length=(List.replicate _ _).length; rw [List.length_replicate]
 ·rw [(List.mem_replicate.1 hy).2]; exact ⟨Int.le_refl _,by show (0:Int) < 1; omega⟩
 ·show l.length=(List.replicate _ _).length; rw [List.length_replicate]; omega
 ·show _=(List.replicate _ _).length; rw [List.length_replicate,h.row y hy]
 ·have hy:y=0:=List.mem_singleton.1 hy
  rw [hy]; exact ⟨Int.le_refl _,by show (0:Int) < ((List.replicate _ _).length:Nat); rw [List.length_replicate]; omega⟩
 ·have y1:y < 1:=y1
  show gi (List.replicate n 0) _=y; rw [z]; omega
 ·have y1:y < 1:=y1
  show gi (List.replicate n 0) _=y; rw [z]; omega
 ·dsimp only at f1 g1 ⊢
  rw [List.length_replicate] at f1 g1 ⊢
  have hr:=kv (l:=l) f0 (by omega)
  have:=hb _ hr _ (eh (l:=gr l f) g0 (by rw [h.row _ hr]; omega))
  exact ⟨this,by rw [z,z],by rw [z,z]⟩
 ·dsimp only at ne
  rw [z,z] at ne
  exact absurd rfl ne
 ·have y1:y < 1:=y1
  have hy:y=0:=by omega
  subst hy
  exact h0
theorem CN {x:List Int} (B:xB x) {s:aM} (S:Src x s):Ok (jP s) fun y=>(∃ n,1≤n∧n≤4∧Sq n y.1∧(∀ r∈y.1,∀ z∈r,0≤z∧z < n)∧gk y.1 0 0=0)∧Src x y.2:=by
 unfold jP
 refine lj (ob (ei B S _) fun y hy=>?_)
 have T:Src x (aM.mk s.Code y.2.At y.2.aw):=S.on hy.2
 refine oc (fun _=>os ⟨⟨1,by decide,by decide,⟨rfl,by simp⟩,by dsimp only; decide,rfl⟩,T⟩) fun _=>oc (fun _=>os ⟨⟨2,by decide,by decide,⟨rfl,by simp⟩,by dsimp only; decide,rfl⟩,T⟩) fun _=>oc (fun _=>os ⟨⟨2,by decide,by decide,⟨rfl,by simp⟩,by dsimp only; decide,rfl⟩,T⟩) fun _=>
  oc (fun _=>os ⟨⟨3,by decide,by decide,⟨rfl,by simp⟩,by dsimp only; decide,rfl⟩,T⟩) fun _=>oc (fun _=>os ⟨⟨3,by decide,by decide,⟨rfl,by simp⟩,by dsimp only; decide,rfl⟩,T⟩) fun _=>oc (fun _=>os ⟨⟨3,by decide,by decide,⟨rfl,by simp⟩,by dsimp only; decide,rfl⟩,T⟩) fun _=>
  oc (fun _=>os ⟨⟨4,by decide,by decide,⟨rfl,by simp⟩,by dsimp only; decide,rfl⟩,T⟩) fun _=>os ⟨⟨3,by decide,by decide,⟨rfl,by simp⟩,by dsimp only; decide,rfl⟩,T⟩
theorem adQ {c:aG} {a b:Nat} (C:jg a b c) (T:Ty c) (ha:a≤100000) (hb:b≤100000):Ok (rN c) fun e=>jg a b e∧Ty e:=by
 obtain ⟨c0,c1,c2,c3,c4,c5,c6⟩:=C
 unfold rN
 refine lj (oe (j3 _ (by omega)) (oe (j3 _ (by omega)) (oe (j3 _ (by omega)) ?_)))
 refine ol (fun z:Int×List (List Int)=>(0≤z.1∧z.1≤c.aF.length)∧(z.2.length:Int)=z.1∧(∀ y∈z.2,y.length=c.aF.length)∧∀ f g:Int,0≤f→f < z.1→0≤g→g < c.aF.length→gi (gr z.2 f) g=gk c.aC g f) (fun z=>(c.aF.length - z.1).toNat) ⟨⟨by show (0:Int)≤0; omega,by show (0:Int)≤_; omega⟩,rfl,jw,fun f g f0 f1=>by dsimp only at f1; omega⟩ ?_
 rintro ⟨i,k⟩ ⟨⟨i0,i1⟩,hk,nu,hK⟩
 dsimp only at i0 i1 hk nu hK
 show Ok (rC c i k) _
 unfold rC
 refine od (fun hi=>?_) fun hi=>os ⟨rfl,os ⟨⟨c0,c1,?_,?_,c4,?_,fun y hy=>?_⟩,⟨c0,fun y hy=>T.t y hy,c3.symm,fun y hy=>T.f y hy,?_,fun y hy=>?_,c4,fun y hy=>?_,fun y y0 y1=>T.wu y y0 y1,fun y y0 y1=>T.u4 y y0 y1,fun f g f0 f1 g0 g1 e=>?_,fun f g f0 f1 g0 g1 e=>?_,fun y y0 y1=>?_⟩⟩⟩
 ·refine ol (fun z:List Int×Int=>(0≤z.2∧z.2≤c.aF.length)∧(z.1.length:Int)=z.2∧∀ g:Int,0≤g→g < z.2→gi z.1 g=gk c.aC g i) (fun z=>(c.aF.length - z.2).toNat) ⟨⟨by show (0:Int)≤0; omega,by show (0:Int)≤_; omega⟩,rfl,fun f f0 f1=>by dsimp only at f1; omega⟩ ?_
  rintro ⟨row,j⟩ ⟨⟨j0,j1⟩,bj,hR⟩
  dsimp only at j0 j1 bj hR
  show Ok (rB c i row j) _
  unfold rB
  refine od (fun hj=>?_) fun hj=>os ⟨rfl,?_⟩
  ·have hw:=w1 j0 hj (by omega)
   refine oe (T.nq j0 hj) (oe (T.me j0 hj i0 hi) (fj (by omega) (by omega) (os ⟨⟨⟨?_,?_⟩,?_,fun g g0 g1=>?_⟩,?_⟩)))
   all_goals first | (dsimp only at g1; rw [hw] at g1) | skip
   all_goals try dsimp only
   all_goals first | (rw [hw]; simp only [List.length_append,List.length_singleton]; omega) | (rw [hw]; omega) | skip
   rw [ll g0]
   by_cases e4:g < j
   ·rw [if_pos (by omega)]; exact hR g g0 e4
   ·rw [if_neg (by omega),if_pos (by omega),show g=j by omega]
  ·have hw:=w1 i0 hi (by omega)
   refine fj (by omega) (by omega) (os ⟨⟨⟨?_,?_⟩,?_,ib nu (by omega),fun f g f0 f1 g0 g1=>?_⟩,?_⟩)
   all_goals first | (dsimp only at f1; rw [hw] at f1) | skip
   all_goals try dsimp only
   all_goals first | (rw [hw]; simp only [List.length_append,List.length_singleton]; omega) | (rw [hw]; omega) | skip
   rw [DW f0]
   by_cases e4:f < i
   ·rw [if_pos (by omega)]; exact hK f g f0 e4 g0 g1
   ·rw [if_neg (by omega),if_pos (by omega),show f=i by omega]; exact hR g g0 (by omega)
 ·dsimp only; omega
 ·dsimp only; omega
 ·dsimp only; omega
 ·have:=nu y hy; dsimp only; omega
 ·dsimp only; omega
 ·have:=nu y hy; dsimp only; omega
 ·have:=T.i y hy; dsimp only; omega
 ·dsimp only at f1 g1 e ⊢
  rw [show gk k f g=gk c.aC g f from hK f g f0 (by omega) g0 (by omega)]
  have:=T.cell g f g0 (by omega) f0 (by omega) e.symm
  exact ⟨by omega,this.2.2,this.2.1⟩
 ·dsimp only at f1 g1 e ⊢
  rw [show gk k f g=gk c.aC g f from hK f g f0 (by omega) g0 (by omega)]
  exact T.none g f g0 (by omega) f0 (by omega) fun h=>e h.symm
 ·have kx:=T.id (x:=y) y0 y1
  show gk k (gi c.aH y) (gi c.aH y)=gi c.aH y
  rw [show gk k (gi c.aH y) (gi c.aH y)=gk c.aC (gi c.aH y) (gi c.aH y) from hK _ _ kx.1 (by omega) kx.1 kx.2]
  exact T.uu y y0 y1
theorem Sr {n m:Nat} {g:Int→Int→List Int} {a b:Int} (a0:0≤a) (a1:a < n) (b0:0≤b) (b1:b < m):gr (l6 n m g) (a * m+b)=g a b:=by
 obtain ⟨i,rfl⟩ : ∃ k:Nat,a=k:=⟨a.toNat,by omega⟩
 obtain ⟨j,rfl⟩ : ∃ k:Nat,b=k:=⟨b.toNat,by omega⟩
 have h:=HX g (a:=i) (b:=j) (n:=n) (m:=m) (by omega) (by omega)
 unfold gr
 rw [List.getD_eq_getElem?_getD,show ((i:Int) * (m:Int)+(j:Int)).toNat=i * m+j by
  rw [← Int.natCast_mul,← Int.natCast_add]; rfl,h]; rfl
theorem uf {n m:Nat} {k:Int} (k0:0≤k) (h:k < (n * m:Nat)):∃ a b:Int,(0≤a∧a < n)∧(0≤b∧b < m)∧k=a * m+b:=by
 obtain ⟨a,b,ha,hb,e⟩:=V1 (n:=n) (m:=m) (k:=k.toNat) (by omega)
 refine ⟨a,b,⟨by omega,by omega⟩,⟨by omega,by omega⟩,?_⟩
 have:(k.toNat:Int)=((a * m+b:Nat):Int):=by rw [e]
 rw [show ((k.toNat:Nat):Int)=k by omega] at this
 rw [this,Int.natCast_add,Int.natCast_mul]
theorem P4 {m:Int} {a b c d:Int} (b0:0≤b) (b1:b < m) (d0:0≤d) (d1:d < m) (h:a * m+b=c * m+d):a=c∧b=d:=by
 have hm:0 < m:=by omega
 have h1:(a * m+b) / m=a:=by
  rw [Int.add_comm,Int.add_mul_ediv_right _ _ (by omega),Int.ediv_eq_zero_of_lt b0 b1,Int.zero_add]
 have h2:(c * m+d) / m=c:=by
  rw [Int.add_comm,Int.add_mul_ediv_right _ _ (by omega),Int.ediv_eq_zero_of_lt d0 d1,Int.zero_add]
 have e:a=c:=by rw [← h1,h,h2]
 subst e
 exact ⟨rfl,by omega⟩
theorem ta {n m a b:Int} (a0:0≤a) (a1:a < n) (b0:0≤b) (b1:b < m):0≤a * m+b∧a * m+b < n * m:=by
 have h1:0≤a * m:=Int.mul_nonneg a0 (by omega)
 have h2:(a+1) * m≤n * m:=Int.mul_le_mul_of_nonneg_right (by omega) (by omega)
 rw [Int.add_mul,Int.one_mul] at h2
 omega
theorem Wx {c d:aG} (C:Ty c) (D:Ty d):Ty (vB c d):=by
 have c0:=C.o0
 have d0:=D.o0
 have Cb:((c.aA.toNat * d.aA.toNat:Nat):Int)=c.aA * d.aA:=by
  rw [Int.natCast_mul,Int.toNat_of_nonneg c0,Int.toNat_of_nonneg d0]
 have ht:((d.aA.toNat:Nat):Int)=d.aA:=Int.toNat_of_nonneg d0
 have lf:(vB c d).aF.length=c.aF.length * d.aF.length:=gn _ _ _
 have lI:((c.aF.length * d.aF.length:Nat):Int)=(c.aF.length:Int) * (d.aF.length:Int):=Int.natCast_mul _ _
 have F:∀ {a b:Int},0≤a→a < c.aF.length→0≤b→b < d.aF.length→gi (vB c d).aF (a * d.aF.length+b)=gi c.aF a * d.aA+gi d.aF b:=fun a0 a1 b0 b1=>wO a0 a1 b0 b1
 have T:∀ {a b:Int},0≤a→a < c.aF.length→0≤b→b < d.aF.length→gi (vB c d).To (a * d.aF.length+b)=gi c.To a * d.aA+gi d.To b:=fun a0 a1 b0 b1=>wO a0 a1 b0 b1
 have I:∀ {a b:Int},0≤a→a < c.aA→0≤b→b < d.aA→gi (vB c d).aH (a * d.aA+b)=gi c.aH a * d.aF.length+gi d.aH b:=fun a0 a1 b0 b1=>by
  have:=wO (n:=c.aA.toNat) (m:=d.aA.toNat) (g:=fun x y=>gi c.aH x * d.aF.length+gi d.aH y) a0 (by omega) b0 (by omega)
  rwa [ht] at this
 have K:∀ {a b f g:Int},0≤a→a < c.aF.length→0≤b→b < d.aF.length→0≤f→f < c.aF.length→0≤g→g < d.aF.length→gk (vB c d).aC (a * d.aF.length+b) (f * d.aF.length+g)=mz c d a b f g:=fun a0 a1 b0 b1 f0 f1 g0 g1=>by
  show gi (gr _ _) _=_
  rw [show gr (vB c d).aC _=_ from Sr a0 a1 b0 b1,wO f0 f1 g0 g1]
 refine ⟨Int.mul_nonneg c0 d0,fun y hy=>?_,?_,fun y hy=>?_,?_,fun r hr=>?_,?_,fun y hy=>?_,fun y y0 y1=>?_,fun y y0 y1=>?_,fun p q p0 p1 q0 q1 e=>?_,fun p q p0 p1 q0 q1 e=>?_,fun y y0 y1=>?_⟩
 ·obtain ⟨a,b,ha,hb,rfl⟩:=zY.1 hy
  have h1:=C.fr ha.1 ha.2
  have h2:=D.fr hb.1 hb.2
  exact ta h1.1 h1.2 h2.1 h2.2
 ·exact (gn _ _ _).trans (gn _ _ _).symm
 ·obtain ⟨a,b,ha,hb,rfl⟩:=zY.1 hy
  have h1:=C.to ha.1 ha.2
  have h2:=D.to hb.1 hb.2
  exact ta h1.1 h1.2 h2.1 h2.2
 ·exact (gn _ _ _).trans (gn _ _ _).symm
 ·obtain ⟨a,b,ha,hb,rfl⟩:=zY.1 hr
  exact (gn _ _ _).trans (gn _ _ _).symm
 ·rw [show (vB c d).aH.length=_ from gn _ _ _,Cb]; rfl
 ·obtain ⟨a,b,ha,hb,rfl⟩:=zY.1 hy
  have h1:=C.id ha.1 (by omega)
  have h2:=D.id hb.1 (by omega)
  rw [lf,lI]
  exact ta h1.1 h1.2 h2.1 h2.2
 ·have y1:y < c.aA * d.aA:=y1
  obtain ⟨a,b,ha,hb,rfl⟩:=uf (n:=c.aA.toNat) (m:=d.aA.toNat) y0 (by omega)
  rw [ht] at hb ⊢
  have h1:=C.id ha.1 (by omega)
  have h2:=D.id hb.1 (by omega)
  rw [I ha.1 (by omega) hb.1 hb.2,F h1.1 h1.2 h2.1 h2.2,C.u4 a ha.1 (by omega),D.u4 b hb.1 hb.2]
 ·have y1:y < c.aA * d.aA:=y1
  obtain ⟨a,b,ha,hb,rfl⟩:=uf (n:=c.aA.toNat) (m:=d.aA.toNat) y0 (by omega)
  rw [ht] at hb ⊢
  have h1:=C.id ha.1 (by omega)
  have h2:=D.id hb.1 (by omega)
  rw [I ha.1 (by omega) hb.1 hb.2,T h1.1 h1.2 h2.1 h2.2,C.wu a ha.1 (by omega),D.wu b hb.1 hb.2]
 ·rw [lf] at p1 q1
  obtain ⟨a,b,ha,hb,rfl⟩:=uf p0 p1
  obtain ⟨f,g,hf,hg,rfl⟩:=uf q0 q1
  rw [T ha.1 ha.2 hb.1 hb.2,F hf.1 hf.2 hg.1 hg.2] at e
  have t1:=D.to hb.1 hb.2
  have t2:=D.fr hg.1 hg.2
  obtain ⟨e1,e2⟩:=P4 t1.1 t1.2 t2.1 t2.2 e
  have h1:=C.cell a f ha.1 ha.2 hf.1 hf.2 e1
  have h2:=D.cell b g hb.1 hb.2 hg.1 hg.2 e2
  rw [K ha.1 ha.2 hb.1 hb.2 hf.1 hf.2 hg.1 hg.2]
  unfold mz
  rw [if_pos ⟨h1.1.1,h2.1.1⟩,F h1.1.1 h1.1.2 h2.1.1 h2.1.2,T h1.1.1 h1.1.2 h2.1.1 h2.1.2,F ha.1 ha.2 hb.1 hb.2,T hf.1 hf.2 hg.1 hg.2,h1.2.1,h1.2.2,h2.2.1,h2.2.2,lf,lI]
  exact ⟨ta h1.1.1 h1.1.2 h2.1.1 h2.1.2,rfl,rfl⟩
 ·rw [lf] at p1 q1
  obtain ⟨a,b,ha,hb,rfl⟩:=uf p0 p1
  obtain ⟨f,g,hf,hg,rfl⟩:=uf q0 q1
  rw [T ha.1 ha.2 hb.1 hb.2,F hf.1 hf.2 hg.1 hg.2] at e
  rw [K ha.1 ha.2 hb.1 hb.2 hf.1 hf.2 hg.1 hg.2]
  unfold mz
  refine if_neg fun hh=>e ?_
  have k1:gi c.To a=gi c.aF f:=Classical.byContradiction fun ne=>by
   have:=C.none a f ha.1 ha.2 hf.1 hf.2 ne
   have:=hh.1
   omega
  have k2:gi d.To b=gi d.aF g:=Classical.byContradiction fun ne=>by
   have:=D.none b g hb.1 hb.2 hg.1 hg.2 ne
   have:=hh.2
   omega
  rw [k1,k2]
 ·have y1:y < c.aA * d.aA:=y1
  obtain ⟨a,b,ha,hb,rfl⟩:=uf (n:=c.aA.toNat) (m:=d.aA.toNat) y0 (by omega)
  rw [ht] at hb ⊢
  have h1:=C.id ha.1 (by omega)
  have h2:=D.id hb.1 (by omega)
  rw [I ha.1 (by omega) hb.1 hb.2,K h1.1 h1.2 h2.1 h2.2 h1.1 h1.2 h2.1 h2.2]
  unfold mz
  rw [C.uu a ha.1 (by omega),D.uu b hb.1 hb.2,if_pos ⟨h1.1,h2.1⟩]
end Go.Proofs.YtbhhmalgcnhniaaGreat
set_option linter.unusedVariables false
set_option linter.unusedSimpArgs false
namespace Go.Proofs.YtbhhmalgcnhniaaGreat
open Go Go.Li
theorem ox {l r:List Int} {j:Int} (h0:0≤j):gi (l++r) j=if j < l.length then gi l j else gi r (j - l.length):=by
 obtain ⟨n,rfl⟩ : ∃ n:Nat,j=n:=⟨j.toNat,by omega⟩
 unfold gi
 rw [List.getD_eq_getElem?_getD,List.getD_eq_getElem?_getD,List.getD_eq_getElem?_getD,show ((n:Int)).toNat=n from rfl]
 by_cases h:n < l.length
 ·rw [List.getElem?_append_left h,if_pos (by omega)]
 ·rw [List.getElem?_append_right (by omega),if_neg (by omega),show ((n:Int) - (l.length:Int)).toNat=n - l.length by omega]
theorem Bo {l r:List (List Int)} {j:Int} (h0:0≤j):gr (l++r) j=if j < l.length then gr l j else gr r (j - l.length):=by
 obtain ⟨n,rfl⟩ : ∃ n:Nat,j=n:=⟨j.toNat,by omega⟩
 unfold gr
 rw [List.getD_eq_getElem?_getD,List.getD_eq_getElem?_getD,List.getD_eq_getElem?_getD,show ((n:Int)).toNat=n from rfl]
 by_cases h:n < l.length
 ·rw [List.getElem?_append_left h,if_pos (by omega)]
 ·rw [List.getElem?_append_right (by omega),if_neg (by omega),show ((n:Int) - (l.length:Int)).toNat=n - l.length by omega]
theorem yZ {n:Nat} {g:Int→List Int} {i:Int} (h0:0≤i) (h1:i < n):gr (bz n g) i=g i:=by
 obtain ⟨k,rfl⟩ : ∃ k:Nat,i=k:=⟨i.toNat,by omega⟩
 have h:=p9 g (i:=k) (n:=n) (by omega)
 unfold gr
 rw [List.getD_eq_getElem?_getD,show ((k:Int)).toNat=k from rfl,h]; rfl
theorem Nr {n:Nat} {v i:Int} (h0:0≤i) (h1:i < n):gi (List.replicate n v) i=v:=by
 have _:=h0
 unfold gi
 rw [List.getD_eq_getElem?_getD,List.getElem?_replicate,if_pos (by omega)]; rfl
def Ih (m h:Int):Int:=if 0≤h then h+m else h
def cq (c d:aG):aG:=
 ⟨c.aA+d.aA,c.aF++bz d.aF.length (fun f=>gi d.aF f+c.aA),c.To++bz d.aF.length (fun f=>gi d.To f+c.aA),c.aH++bz d.aA.toNat (fun y=>gi d.aH y+c.aF.length),
  (bz c.aF.length fun f=>gr c.aC f++List.replicate d.aF.length (-1))++bz d.aF.length fun f=>List.replicate c.aF.length (-1)++bz d.aF.length fun g=>Ih c.aF.length (gk d.aC f g)⟩
theorem Ns (l:List (List Int)):bz l.length (fun f=>gr l f)=l:=by
 refine List.ext_getElem? fun i=>?_
 by_cases h:i < l.length
 ·rw [p9 _ h,List.getElem?_eq_getElem h]
  unfold gr
  rw [List.getD_eq_getElem?_getD,show ((i:Int)).toNat=i from rfl,List.getElem?_eq_getElem h]; rfl
 ·rw [List.getElem?_eq_none (by rw [bJ]; omega),List.getElem?_eq_none (by omega)]
theorem KY (n:Nat) (v:Int):bz n (fun _=>v)=List.replicate n v:=by
 induction n with
 | zero=>rfl
 | succ n ih=>rw [gv,ih,List.replicate_succ']
theorem P5 {n:Nat} {g:Int→List Int} {i:Nat} (h:i < n) (v:List Int) (hv:∀ k:Nat,k < i→True):(bz n g).set i v=bz n fun k=>if k=(i:Int) then v else g k:=by
 have _:=hv
 refine List.ext_getElem? fun k=>?_
 rw [List.getElem?_set]
 by_cases e:i=k
 ·subst e
  rw [if_pos rfl,if_pos (by rw [bJ]; exact h),p9 _ h,if_pos rfl]
 ·rw [if_neg e]
  by_cases hk:k < n
  ·rw [p9 _ hk,p9 _ hk,if_neg (by omega)]
  ·rw [List.getElem?_eq_none (by rw [bJ]; omega),List.getElem?_eq_none (by rw [bJ]; omega)]
theorem Jp {c d:aG} {a b a' b':Nat} (C:jg a b c) (D:jg a' b' d) (T:Ty c) (U:Ty d) (ha:a+a'≤100000) (hb:b+b'≤100000):jL c d=some (cq c d):=by
 obtain ⟨c0,c1,c2,c3,c4,c5,c6⟩:=C
 obtain ⟨d0,d1,d2,d3,d4,d5,d6⟩:=D
 have hs:fg c:=⟨by omega,by omega,by omega,by omega,fun y hy=>by have:=c6 y hy; omega⟩
 obtain ⟨nd,dt⟩ : ∃ n:Nat,d.aA=n:=⟨d.aA.toNat,by omega⟩
 unfold jL
 rw [xx hs,aE]
 refine (congrArg ak (tP nd (fun y=>gi d.aH y+c.aF.length) c.aH (fun acc i=>((i:Int),acc)) rfl ?_ ?_)).trans ?_
 ·intro i acc hi hl
  show hY c d i acc=_
  unfold hY
  have h:=U.id (x:=(i:Int)) (by omega) (by omega)
  rw [ao (by omega:(i:Int) < d.aA),cond_true,U.kz (by omega) (by omega),aE,cY (by omega) (by omega),aE,bF (by omega),dM (by omega) (by omega)]
 ·intro acc _
  show hY c d _ acc=_
  unfold hY
  rw [ay (by omega),cond_false]
 dsimp only
 have rows:∀ i:Nat,(bz c.aF.length fun f=>if f < (i:Int) then gr c.aC f++List.replicate d.aF.length (-1) else gr c.aC f).length=c.aF.length:=fun i=>bJ _ _
 refine (congrArg ak (j5 (ns c.aF.length) (fun i=>((i:Int),bz c.aF.length fun f=>if f < (i:Int) then gr c.aC f++List.replicate d.aF.length (-1) else gr c.aC f)) ?_ (fun i x hx=>?_) (e:=((c.aF.length:Int),bz c.aF.length fun f=>gr c.aC f++List.replicate d.aF.length (-1))) ?_)).trans ?_
 ·show ((0:Int),_)=((0:Int),c.aC)
  congr 1
  refine (uO fun i hi=>?_).trans ((congrArg (fun n=>bz n fun f=>gr c.aC f) c5.symm).trans (Ns c.aC))
  rw [if_neg (by omega)]
 ·obtain ⟨rfl,hi⟩:=dg hx
  show iB d (i:Int) _=_
  unfold iB
  rw [rows,ao (by omega:(i:Int) < (c.aF.length:Int)),cond_true]
  have bj:(gr c.aC i).length=c.aF.length:=c6 _ (kv (by omega) (by omega))
  refine (j5 (ns d.aF.length) (fun j=>((j:Int),(bz c.aF.length fun f=>if f < (i:Int) then gr c.aC f++List.replicate d.aF.length (-1) else if f=(i:Int) then gr c.aC f++List.replicate j (-1) else gr c.aC f))) ?_ (fun j y hy=>?_) (e:=((d.aF.length:Int),bz c.aF.length fun f=>if f < (i:Int) then gr c.aC f++List.replicate d.aF.length (-1) else if f=(i:Int) then gr c.aC f++List.replicate d.aF.length (-1) else gr c.aC f)) ?_).trans ?_
  ·show ((0:Int),_)=((0:Int),_)
   congr 1
   refine uO fun k hk=>?_
   split
   ·rfl
   ·split
    ·rw [List.replicate_zero,List.append_nil]
    ·rfl
  ·obtain ⟨rfl,hj⟩:=dg hy
   have hg:idx (bz c.aF.length fun f=>if f < (i:Int) then gr c.aC f++List.replicate d.aF.length (-1) else if f=(i:Int) then gr c.aC f++List.replicate j (-1) else gr c.aC f) (i:Int)=some (gr c.aC i++List.replicate j (-1)):=by
    rw [bu,p9 _ hi,if_neg (by omega),if_pos rfl]
   show iA d i (j:Int) _=_
   unfold iA
   rw [ao (by omega:(j:Int) < (d.aF.length:Int)),cond_true,hg,aE,cY (by rw [List.length_append,List.length_replicate]; omega) (by rw [List.length_append,List.length_replicate]; omega),aE,aE,bF (by omega),Int.toNat_natCast,P5 hi _ (fun _ _=>trivial)]
   refine congrArg (fun l:List (List Int)=>(some (Out.norm (((j+1:Nat):Int),l)):Option (Out (Int×List (List Int)) aG))) (uO fun k hk=>?_)
   by_cases e:(k:Int)=i
   ·rw [if_pos e,if_neg (by omega),if_pos e,List.append_assoc,← List.replicate_succ',e]
   ·rw [if_neg e]
    split
    ·rfl
    ·simp only [if_neg e]
  ·rw [cN]
   show iA d i _ _=_
   unfold iA
   rw [ay (by omega),cond_false]
  ·dsimp only
   rw [bF (by omega)]
   refine congrArg (fun l:List (List Int)=>(some (Out.norm (((i+1:Nat):Int),l)):Option (Out (Int×List (List Int)) aG))) (uO fun k hk=>?_)
   by_cases e:(k:Int) < i
   ·rw [if_pos e,if_pos (by omega)]
   ·rw [if_neg e]
    by_cases e2:(k:Int)=i
    ·rw [if_pos e2,if_pos (by omega)]
    ·rw [if_neg e2,if_neg (by omega)]
 ·rw [cN]
  show iB d _ _=_
  unfold iB
  rw [rows,ay (by omega),cond_false]
  refine congrArg (fun l:List (List Int)=>(some (Out.exit 2 ((c.aF.length:Int),l)):Option (Out (Int×List (List Int)) aG))) (uO fun k hk=>?_)
  rw [if_pos (by omega)]
 dsimp only
 refine (congrArg ak (j5 (ns d.aF.length) (fun i=>((i:Int),c.aF++bz i (fun f=>gi d.aF f+c.aA),c.To++bz i (fun f=>gi d.To f+c.aA),(bz c.aF.length fun f=>gr c.aC f++List.replicate d.aF.length (-1))++bz i fun f=>List.replicate c.aF.length (-1)++bz d.aF.length fun g=>Ih c.aF.length (gk d.aC f g))) ?_ (fun i x hx=>?_) (e:=((d.aF.length:Int),(cq c d).aF,(cq c d).To,(cq c d).aC)) ?_)).trans ?_
 ·show ((0:Int),c.aF++[],c.To++[],_++[])=_
  rw [List.append_nil,List.append_nil,List.append_nil]
 ·obtain ⟨rfl,hi⟩:=dg hx
  have hf:=U.fr (f:=(i:Int)) (by omega) (by omega)
  have ht:=U.to (f:=(i:Int)) (by omega) (by omega)
  show iE c d (i:Int) _ _ _=_
  unfold iE
  rw [ao (by omega:(i:Int) < (d.aF.length:Int)),cond_true,U.ic (by omega) (by omega),aE,cY (by rw [List.length_append,bJ]; omega) (by rw [List.length_append,bJ]; omega),aE,U.ig (by omega) (by omega),aE,cY (by rw [List.length_append,bJ]; omega) (by rw [List.length_append,bJ]; omega),aE]
  refine (tP c.aF.length (fun _=>(-1:Int)) [] (fun acc j=>(acc,(j:Int))) rfl ?_ ?_).trans ?_
  ·intro j acc hj hl
   simp only [List.length_nil,Nat.zero_add] at hl
   show iC c acc (j:Int)=_
   unfold iC
   rw [ao (by omega:(j:Int) < (c.aF.length:Int)),cond_true,cY (by omega) (by omega),aE,bF (by omega)]
  ·intro acc _
   show iC c acc _=_
   unfold iC
   rw [ay (by omega),cond_false]
  dsimp only
  rw [List.nil_append,KY]
  refine (tP d.aF.length (fun g=>Ih c.aF.length (gk d.aC i g)) (List.replicate c.aF.length (-1)) (fun acc j=>(acc,(j:Int))) rfl ?_ ?_).trans ?_
  ·intro j acc hj hl
   rw [List.length_replicate] at hl
   have hc:=U.BT (f:=(i:Int)) (g:=(j:Int)) (by omega) (by omega) (by omega) (by omega)
   show iD c d (i:Int) acc (j:Int)=_
   unfold iD
   rw [ao (by omega:(j:Int) < (d.aF.length:Int)),cond_true,U.nq (by omega) (by omega),aE,U.me (by omega) (by omega) (by omega) (by omega),aE]
   unfold Ih
   by_cases e:0≤gk d.aC i j
   ·rw [ao (show gk d.aC i j ≥ 0 from e),cond_true,cY (by omega) (by omega),aE,bF (by omega),dM (by omega) (by omega),if_pos e]
   ·rw [ay (show ¬ gk d.aC i j ≥ 0 from e),cond_false,cY (by omega) (by omega),aE,bF (by omega),if_neg e]
  ·intro acc _
   show iD c d (i:Int) acc _=_
   unfold iD
   rw [ay (by omega),cond_false]
  ·dsimp only
   rw [cY (by rw [List.length_append,bJ,bJ]; omega) (by rw [List.length_append,bJ,bJ]; omega),aE,bF (by omega),dM (by omega) (by omega),dM (by omega) (by omega),gv,gv,gv,List.append_assoc,List.append_assoc,List.append_assoc]
 ·rw [cN]
  show iE c d _ _ _ _=_
  unfold iE
  rw [ay (by omega),cond_false]; rfl
 ·show some _=_
  rw [dM (by omega) (by omega)]
  unfold cq
  rw [dt]; rfl
section
variable {c d:aG} (T:Ty c) (U:Ty d)
include T U
theorem Ey:(cq c d).aF.length=c.aF.length+d.aF.length:=by
 have _:=T
 have _:=U
 show (_++_:List Int).length=_; rw [List.length_append,bJ]
theorem vY {f:Int} (f0:0≤f) (f1:f < c.aF.length):gi (cq c d).aF f=gi c.aF f:=by
 have _:=T
 have _:=U
 show gi (_++_) f=_; rw [ox f0,if_pos f1]
theorem za {f:Int} (f0:0≤f) (f1:f < d.aF.length):gi (cq c d).aF (c.aF.length+f)=gi d.aF f+c.aA:=by
 have _:=T
 have _:=U
 show gi (_++_) _=_; rw [ox (by omega),if_neg (by omega),show (c.aF.length:Int)+f - c.aF.length=f by omega,lq f0 f1]
theorem zb {f:Int} (f0:0≤f) (f1:f < c.aF.length):gi (cq c d).To f=gi c.To f:=by
 have _:=U
 show gi (_++_) f=_; rw [ox f0,if_pos (by rw [T.tl]; exact f1)]
theorem vZ {f:Int} (f0:0≤f) (f1:f < d.aF.length):gi (cq c d).To (c.aF.length+f)=gi d.To f+c.aA:=by
 have _:=U
 show gi (_++_) _=_; rw [ox (by omega),if_neg (by rw [T.tl]; omega),show (c.aF.length:Int)+f - c.To.length=f by rw [T.tl]; omega,lq f0 f1]
theorem Ez {f g:Int} (f0:0≤f) (f1:f < c.aF.length) (g0:0≤g) (g1:g < c.aF.length):gk (cq c d).aC f g=gk c.aC f g:=by
 have _:=U
 show gi (gr (_++_) f) g=_
 rw [Bo f0,if_pos (by rw [bJ]; exact f1),yZ f0 f1,ox g0,if_pos (by rw [T.row f0 f1]; exact g1)]; rfl
theorem Ss {f g:Int} (f0:0≤f) (f1:f < c.aF.length) (g0:0≤g) (g1:g < d.aF.length):gk (cq c d).aC f (c.aF.length+g) = -1:=by
 have _:=U
 show gi (gr (_++_) f) _=_
 rw [Bo f0,if_pos (by rw [bJ]; exact f1),yZ f0 f1,ox (by omega),if_neg (by rw [T.row f0 f1]; omega),T.row f0 f1,Nr (by omega) (by omega)]
theorem Su {f g:Int} (f0:0≤f) (f1:f < d.aF.length) (g0:0≤g) (g1:g < c.aF.length):gk (cq c d).aC (c.aF.length+f) g = -1:=by
 have _:=T
 have _:=U
 show gi (gr (_++_) _) g=_
 rw [Bo (by omega),if_neg (by rw [bJ]; omega),bJ,show (c.aF.length:Int)+f - c.aF.length=f by omega,yZ f0 f1,ox g0,if_pos (by rw [List.length_replicate]; exact g1),Nr g0 g1]
theorem EA {f g:Int} (f0:0≤f) (f1:f < d.aF.length) (g0:0≤g) (g1:g < d.aF.length):gk (cq c d).aC (c.aF.length+f) (c.aF.length+g)=Ih c.aF.length (gk d.aC f g):=by
 have _:=T
 have _:=U
 show gi (gr (_++_) _) _=_
 rw [Bo (by omega),if_neg (by rw [bJ]; omega),bJ,show (c.aF.length:Int)+f - c.aF.length=f by omega,yZ f0 f1,ox (by omega),if_neg (by rw [List.length_replicate]; omega),List.length_replicate,show (c.aF.length:Int)+g - c.aF.length=g by omega,lq g0 g1]
theorem v7 {f:Int} (f0:0≤f) (f1:f < (cq c d).aF.length):f < c.aF.length∨∃ g:Int,f=c.aF.length+g∧0≤g∧g < d.aF.length:=by
 rw [Ey T U] at f1
 by_cases h:f < c.aF.length
 ·exact .inl h
 ·exact .inr ⟨f - c.aF.length,by omega,by omega,by omega⟩
theorem BV:Ty (cq c d):=by
 have c0:=T.o0
 have d0:=U.o0
 have ho:(cq c d).aA=c.aA+d.aA:=rfl
 have hl:=Ey T U
 have WD:=T.il
 have ttl:=T.tl
 have tkl:=T.kl
 have ane:((d.aA.toNat:Nat):Int)=d.aA:=Int.toNat_of_nonneg d0
 refine ⟨by omega,fun y hy=>?_,?_,fun y hy=>?_,?_,fun r hr=>?_,?_,fun y hy=>?_,fun y y0 y1=>?_,fun y y0 y1=>?_,fun p q p0 p1 q0 q1 e=>?_,fun p q p0 p1 q0 q1 e=>?_,fun y y0 y1=>?_⟩
 ·rcases List.mem_append.1 hy with hy | hy
  ·have:=T.f y hy; omega
  ·obtain ⟨i,hi,rfl⟩:=ov.1 hy
   have:=U.fr hi.1 hi.2; omega
 ·rw [hl]; show (_++_:List Int).length=_; rw [List.length_append,bJ,ttl]
 ·rcases List.mem_append.1 hy with hy | hy
  ·have:=T.t y hy; omega
  ·obtain ⟨i,hi,rfl⟩:=ov.1 hy
   have:=U.to hi.1 hi.2; omega
 ·rw [hl]; show (_++_:List (List Int)).length=_; rw [List.length_append,bJ,bJ]
 ·rw [hl]
  rcases List.mem_append.1 hr with hr | hr
  ·obtain ⟨i,hi,rfl⟩:=ov.1 hr
   rw [List.length_append,List.length_replicate,T.row hi.1 hi.2]
  ·obtain ⟨i,hi,rfl⟩:=ov.1 hr
   rw [List.length_append,List.length_replicate,bJ]
 ·show ((_++_:List Int).length:Int)=_; rw [List.length_append,bJ]; omega
 ·rw [hl]
  rcases List.mem_append.1 hy with hy | hy
  ·have:=T.i y hy; omega
  ·obtain ⟨i,hi,rfl⟩:=ov.1 hy
   have:=U.id hi.1 (by omega); omega
 ·show gi (cq c d).aF (gi (_++_) y)=y
  rw [ox y0,WD]
  by_cases h:y < c.aA
  ·rw [if_pos h]
   have:=T.id y0 h
   rw [vY T U this.1 this.2,T.u4 y y0 h]
  ·rw [if_neg h,lq (by omega) (by omega),Int.add_comm (gi d.aH _)]
   have:=U.id (x:=y - c.aA) (by omega) (by omega)
   rw [za T U this.1 this.2,U.u4 _ (by omega) (by omega)]; omega
 ·show gi (cq c d).To (gi (_++_) y)=y
  rw [ox y0,WD]
  by_cases h:y < c.aA
  ·rw [if_pos h]
   have:=T.id y0 h
   rw [zb T U this.1 this.2,T.wu y y0 h]
  ·rw [if_neg h,lq (by omega) (by omega),Int.add_comm (gi d.aH _)]
   have:=U.id (x:=y - c.aA) (by omega) (by omega)
   rw [vZ T U this.1 this.2,U.wu _ (by omega) (by omega)]; omega
 ·rcases v7 T U p0 p1 with hp | ⟨p,rfl,By,hp⟩
  ·rcases v7 T U q0 q1 with hq | ⟨q,rfl,zd,hq⟩
   ·rw [zb T U p0 hp,vY T U q0 hq] at e
    have:=T.cell p q p0 hp q0 hq e
    rw [Ez T U p0 hp q0 hq,vY T U this.1.1 this.1.2,zb T U this.1.1 this.1.2,vY T U p0 hp,zb T U q0 hq,hl]
    exact ⟨⟨this.1.1,by omega⟩,this.2.1,this.2.2⟩
   ·rw [zb T U p0 hp,za T U zd hq] at e
    have:=T.to p0 hp
    have:=U.fr zd hq
    omega
  ·rcases v7 T U q0 q1 with hq | ⟨q,rfl,zd,hq⟩
   ·rw [vZ T U By hp,vY T U q0 hq] at e
    have:=U.to By hp
    have:=T.fr q0 hq
    omega
   ·rw [vZ T U By hp,za T U zd hq] at e
    have:=U.cell p q By hp zd hq (by omega)
    rw [EA T U By hp zd hq]
    unfold Ih
    rw [if_pos this.1.1,Int.add_comm (gk d.aC p q),za T U this.1.1 this.1.2,vZ T U this.1.1 this.1.2,za T U By hp,vZ T U zd hq,hl,this.2.1,this.2.2]
    exact ⟨⟨by omega,by omega⟩,rfl,rfl⟩
 ·rcases v7 T U p0 p1 with hp | ⟨p,rfl,By,hp⟩
  ·rcases v7 T U q0 q1 with hq | ⟨q,rfl,zd,hq⟩
   ·rw [zb T U p0 hp,vY T U q0 hq] at e
    rw [Ez T U p0 hp q0 hq]
    exact T.none p q p0 hp q0 hq e
   ·exact Ss T U p0 hp zd hq
  ·rcases v7 T U q0 q1 with hq | ⟨q,rfl,zd,hq⟩
   ·exact Su T U By hp q0 hq
   ·rw [vZ T U By hp,za T U zd hq] at e
    rw [EA T U By hp zd hq,U.none p q By hp zd hq (fun h=>e (by rw [h]))]; rfl
 ·show gk (cq c d).aC (gi (_++_) y) (gi (_++_) y)=gi (_++_) y
  rw [ox y0,WD]
  by_cases h:y < c.aA
  ·rw [if_pos h]
   have:=T.id y0 h
   rw [Ez T U this.1 this.2 this.1 this.2,T.uu y y0 h]
  ·rw [if_neg h,lq (by omega) (by omega),Int.add_comm (gi d.aH _)]
   have:=U.id (x:=y - c.aA) (by omega) (by omega)
   rw [EA T U this.1 this.2 this.1 this.2,U.uu _ (by omega) (by omega)]
   unfold Ih
   rw [if_pos this.1]; omega
end
end Go.Proofs.YtbhhmalgcnhniaaGreat
