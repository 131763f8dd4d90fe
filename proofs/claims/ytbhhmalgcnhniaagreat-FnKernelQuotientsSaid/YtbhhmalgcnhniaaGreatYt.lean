/- Categories that are drawn have tables of the right form: posets, monoids, opposites. No condition beside those that each theorem names. -/
import Derived.Test.YtbhhmalgcnhniaaGreatVj
import Derived.Test.YtbhhmalgcnhniaaGreatVc
set_option linter.unusedVariables false
set_option linter.unusedSectionVars false
set_option linter.unusedSimpArgs false
namespace Go.Proofs.YtbhhmalgcnhniaaGreat
open Go Go.Li
set_option linter.unusedVariables false
set_option linter.unusedSectionVars false
set_option linter.unusedSimpArgs false
theorem vC {x:List (List Int)} {n:Nat} (hn:n≤4) (h:Sq n x) (re:∀ i:Int,0≤i→i < n→gi (gr x i) i=1)
  (tr:∀ i j k:Int,0≤i→i < n→0≤j→j < n→0≤k→k < n→gi (gr x i) j=1→gi (gr x j) k=1→gi (gr x i) k=1):Ok (bX x) fun c=>iu n (4 * n) c∧Ty c:=by
 have hx:=h.len
 have rl:∀ i:Int,0≤i→i < n→(gr x i).length=n:=fun i i0 i1=>h.row _ (ic i0 (by omega))
 unfold bX
 refine ew (ol (fun z:List (List Int)×Int×List Int×List Int=>(0≤z.2.1∧z.2.1≤n)∧((z.1.length:Int)=z.2.1∧∀ y∈z.1,y.length=n)∧(z.2.2.2.length=z.2.2.1.length∧(z.2.2.1.length:Int)≤4 * z.2.1)∧((∀ y∈z.2.2.1,0≤y∧y < n)∧∀ y∈z.2.2.2,0≤y∧y < n)∧(∀ k:Int,0≤k→k < z.2.2.1.length→gi (gr x (gi z.2.2.1 k)) (gi z.2.2.2 k)=1)∧∀ i j:Int,0≤i→i < z.2.1→0≤j→j < n→gi (gr x i) j=1→(0≤gi (gr z.1 i) j∧gi (gr z.1 i) j < z.2.2.1.length)∧gi z.2.2.1 (gi (gr z.1 i) j)=i∧gi z.2.2.2 (gi (gr z.1 i) j)=j) (fun z=>(n - z.2.1).toNat)
  ⟨⟨by show (0:Int)≤0; omega,by show (0:Int)≤_; omega⟩,⟨rfl,iz⟩,⟨rfl,by show (0:Int)≤4 * 0; omega⟩,⟨iz,iz⟩,fun k k0 k1=>by dsimp only [List.length_nil] at k1; omega,fun i j i0 i1=>by dsimp only at i1; omega⟩ ?_)
 rintro ⟨num,i,f,t⟩ ⟨⟨i0,i1⟩,⟨hl,hr⟩,⟨ht,hf⟩,⟨hF,hT⟩,hA,hN⟩
 dsimp only at i0 i1 hl hr ht hf hF hT hA hN
 show Ok (gJ x num i f t) _
 unfold gJ
 rw [hx]
 refine od (fun hi=>?_) fun hi=>os ⟨rfl,?_⟩
 ·refine ol (fun z:List Int×Int×List Int×List Int=>(0≤z.2.1∧z.2.1≤n)∧(z.1.length:Int)=z.2.1∧(z.2.2.2.length=z.2.2.1.length∧(z.2.2.1.length:Int)≤4 * i+z.2.1)∧((∀ y∈z.2.2.1,0≤y∧y < n)∧∀ y∈z.2.2.2,0≤y∧y < n)∧(∀ k:Int,0≤k→k < z.2.2.1.length→gi (gr x (gi z.2.2.1 k)) (gi z.2.2.2 k)=1)∧(∀ i' j:Int,0≤i'→i' < i→0≤j→j < n→gi (gr x i') j=1→(0≤gi (gr num i') j∧gi (gr num i') j < z.2.2.1.length)∧gi z.2.2.1 (gi (gr num i') j)=i'∧gi z.2.2.2 (gi (gr num i') j)=j)∧∀ j:Int,0≤j→j < z.2.1→gi (gr x i) j=1→(0≤gi z.1 j∧gi z.1 j < z.2.2.1.length)∧gi z.2.2.1 (gi z.1 j)=i∧gi z.2.2.2 (gi z.1 j)=j) (fun z=>(n - z.2.1).toNat)
   ⟨⟨by show (0:Int)≤0; omega,by show (0:Int)≤_; omega⟩,rfl,⟨ht,by show (f.length:Int)≤4 * i+0; omega⟩,⟨hF,hT⟩,hA,hN,fun j j0 j1=>by dsimp only at j1; omega⟩ ?_
  rintro ⟨row,j,f,t⟩ ⟨⟨j0,j1⟩,xB,⟨ht,hf⟩,⟨hF,hT⟩,hA,hN,hR⟩
  dsimp only at j0 j1 xB ht hf hF hT hA hN hR
  show Ok (gI x i row j f t) _
  unfold gI
  rw [hx]
  refine od (fun hj=>?_) fun hj=>os ⟨rfl,?_⟩
  ·have hw:=w1 j0 hj (by omega)
   have KV:=rl i i0 hi
   refine de (by omega) (by omega) (oe (jf i0 (by omega)) (oe (aZ j0 (by omega)) (oc (fun e1=>de (by omega) (by omega) (de (by omega) (by omega) (os ⟨⟨⟨?_,?_⟩,?_,⟨?_,?_⟩,⟨ik hF ⟨i0,hi⟩,ik hT ⟨j0,hj⟩⟩,fun k k0 k1=>?_,fun i' j' a b c d e=>?_,fun j' a b e=>?_⟩,?_⟩))) fun e1=>os ⟨⟨⟨?_,?_⟩,?_,⟨ht,?_⟩,⟨hF,hT⟩,hA,hN,fun j' a b e=>?_⟩,?_⟩)))
   all_goals first | (dsimp only at b; rw [hw] at b) | skip
   all_goals try dsimp only
   all_goals first | (rw [hw]; simp only [List.length_append,List.length_singleton]; omega) | (rw [hw]; omega) | (simp only [List.length_append,List.length_singleton]; omega) | skip
   ·dsimp only at k1
    simp only [List.length_append,List.length_singleton] at k1
    rw [nt k0,nt k0,ht]
    by_cases e:k < f.length
    ·rw [if_pos e,if_pos e]; exact hA k k0 e
    ·rw [if_neg e,if_pos (by omega),if_neg e,if_pos (by omega)]
     simpa using e1
   ·obtain ⟨h1,h2,h3⟩:=hN i' j' a b c d e
    refine ⟨⟨h1.1,by rw [List.length_append]; omega⟩,?_,?_⟩
    ·rw [nt h1.1,if_pos h1.2]; exact h2
    ·rw [nt h1.1,if_pos (by omega)]; exact h3
   ·rw [nt a]
    by_cases e4:j' < j
    ·rw [if_pos (by omega)]
     obtain ⟨h1,h2,h3⟩:=hR j' a e4 e
     refine ⟨⟨h1.1,by rw [List.length_append]; omega⟩,?_,?_⟩
     ·rw [nt h1.1,if_pos h1.2]; exact h2
     ·rw [nt h1.1,if_pos (by omega)]; exact h3
    ·rw [if_neg (by omega),if_pos (by omega)]
     refine ⟨⟨by omega,by rw [List.length_append,List.length_singleton]; omega⟩,?_,?_⟩
     ·rw [nt (by omega),if_neg (by omega),if_pos rfl]
     ·rw [nt (by omega),if_neg (by omega),if_pos (by omega)]; omega
   ·rw [nt a]
    by_cases e4:j' < j
    ·rw [if_pos (by omega)]; exact hR j' a e4 e
    ·rw [show j'=j by omega] at e
     rw [e] at e1
     simp at e1
  ·have hw:=w1 i0 hi (by omega)
   refine de (by omega) (by omega) (os ⟨⟨⟨?_,?_⟩,⟨?_,ik hr (by omega)⟩,⟨ht,?_⟩,⟨hF,hT⟩,hA,fun i' j' a b c d e=>?_⟩,?_⟩)
   all_goals first | (dsimp only at b; rw [hw] at b) | skip
   all_goals try dsimp only
   all_goals first | (rw [hw]; simp only [List.length_append,List.length_singleton]; omega) | (rw [hw]; omega) | skip
   rw [Ds a]
   by_cases e4:i' < i
   ·rw [if_pos (by omega)]; exact hN i' j' a e4 c d e
   ·rw [if_neg (by omega),if_pos (by omega)]
    rw [show i'=i by omega] at e
    rw [show i'=i by omega]
    exact hR j' c (by omega) e
 ·refine ol (fun z:Int×List Int=>(0≤z.1∧z.1≤n)∧(z.2.length:Int)=z.1∧∀ a:Int,0≤a→a < z.1→gi z.2 a=gi (gr num a) a) (fun z=>(n - z.1).toNat) ⟨⟨by show (0:Int)≤0; omega,by show (0:Int)≤_; omega⟩,rfl,fun a a0 a1=>by dsimp only at a1; omega⟩ ?_
  rintro ⟨a,id⟩ ⟨⟨a0,a1⟩,tL,hI⟩
  dsimp only at a0 a1 tL hI
  show Ok (gK x num a id) _
  unfold gK
  rw [hx]
  have nl:∀ i:Int,0≤i→i < n→(gr num i).length=n:=fun i i0 i1=>hr _ (ic i0 (by omega))
  refine od (fun ha=>?_) fun ha=>os ⟨rfl,?_⟩
  ·have hw:=w1 a0 ha (by omega)
   have:=nl a a0 ha
   refine oe (jf a0 (by omega)) (oe (aZ a0 (by omega)) (de (by omega) (by omega) (os ⟨⟨⟨?_,?_⟩,?_,fun b b0 b1=>?_⟩,?_⟩)))
   all_goals first | (dsimp only at b1; rw [hw] at b1) | skip
   all_goals try dsimp only
   all_goals first | (rw [hw]; simp only [List.length_append,List.length_singleton]; omega) | (rw [hw]; omega) | skip
   rw [nt b0]
   by_cases e4:b < a
   ·rw [if_pos (by omega)]; exact hI b b0 e4
   ·rw [if_neg (by omega),if_pos (by omega),show b=a by omega]
  ·refine ol (fun z:Int×List (List Int)=>(0≤z.1∧z.1≤f.length)∧(z.2.length:Int)=z.1∧(∀ y∈z.2,y.length=f.length)∧∀ b d:Int,0≤b→b < z.1→0≤d→d < f.length→gi (gr z.2 b) d=if gi t b=gi f d then gi (gr num (gi f b)) (gi t d) else -1) (fun z=>(f.length - z.1).toNat) ⟨⟨by show (0:Int)≤0; omega,by show (0:Int)≤_; omega⟩,rfl,iz,fun b d b0 b1=>by dsimp only at b1; omega⟩ ?_
   rintro ⟨b,k⟩ ⟨⟨b0,b1⟩,hk,lh,hK⟩
   dsimp only at b0 b1 hk lh hK
   show Ok (gM num f t b k) _
   unfold gM
   refine od (fun hb=>?_) fun hb=>os ⟨rfl,os ?_⟩
   ·refine ol (fun z:List Int×Int=>(0≤z.2∧z.2≤f.length)∧(z.1.length:Int)=z.2∧∀ d:Int,0≤d→d < z.2→gi z.1 d=if gi t b=gi f d then gi (gr num (gi f b)) (gi t d) else -1) (fun z=>(f.length - z.2).toNat) ⟨⟨by show (0:Int)≤0; omega,by show (0:Int)≤_; omega⟩,rfl,fun d d0 d1=>by dsimp only at d1; omega⟩ ?_
    rintro ⟨row,d⟩ ⟨⟨d0,d1⟩,bc,hD⟩
    dsimp only at d0 d1 bc hD
    show Ok (gL num f t b row d) _
    unfold gL
    refine od (fun hd=>?_) fun hd=>os ⟨rfl,?_⟩
    ·have hw:=w1 d0 hd (by omega)
     have Is:=hF _ (ib b0 hb)
     have htd:=hT _ (ib (l:=t) d0 (by omega))
     have:=nl _ Is.1 Is.2
     have put:∀ v:Int,v=(if gi t b=gi f d then gi (gr num (gi f b)) (gi t d) else -1)→Ok (fits 8 (row.length+1)>>=fun _=>some (Out.norm (row++[v],ak (d+1)):Out (List Int×Int) aC)) (EC 8 (fun z:List Int×Int=>(0≤z.2∧z.2≤f.length)∧(z.1.length:Int)=z.2∧∀ d:Int,0≤d→d < z.2→gi z.1 d=if gi t b=gi f d then gi (gr num (gi f b)) (gi t d) else -1) (fun z=>(f.length - z.2).toNat) ((f.length:Int) - d).toNat (fun s=>Ok ((fun (s:List Int×Int)=>fits 24 (k.length+1)>>=fun _=>some (Out.norm (ak (b+1),k++[s.1]):Out (Int×List (List Int)) aC)) s) (EC 6 (fun z:Int×List (List Int)=>(0≤z.1∧z.1≤f.length)∧(z.2.length:Int)=z.1∧(∀ y∈z.2,y.length=f.length)∧∀ b d:Int,0≤b→b < z.1→0≤d→d < f.length→gi (gr z.2 b) d=if gi t b=gi f d then gi (gr num (gi f b)) (gi t d) else -1) (fun z=>(f.length - z.1).toNat) ((f.length:Int) - b).toNat (fun s=>Ok ((fun (s:Int×List (List Int))=>some (Out.ret (aC.mk (n:Int) f t id s.2):Out Unit aC)) s) (Rt fun c=>iu n (4 * n) c∧Ty c)) fun r=>Rt (S:=Unit) (fun c=>iu n (4 * n) c∧Ty c) (.ret r))) fun r=>EC 6 (fun z:Int×List (List Int)=>(0≤z.1∧z.1≤f.length)∧(z.2.length:Int)=z.1∧(∀ y∈z.2,y.length=f.length)∧∀ b d:Int,0≤b→b < z.1→0≤d→d < f.length→gi (gr z.2 b) d=if gi t b=gi f d then gi (gr num (gi f b)) (gi t d) else -1) (fun z=>(f.length - z.1).toNat) ((f.length:Int) - b).toNat (fun s=>Ok ((fun (s:Int×List (List Int))=>some (Out.ret (aC.mk (n:Int) f t id s.2):Out Unit aC)) s) (Rt fun c=>iu n (4 * n) c∧Ty c)) (fun r=>Rt (S:=Unit) (fun c=>iu n (4 * n) c∧Ty c) (.ret r)) (.ret r)):=by
      intro v hv
      refine de (by omega) (by omega) (os ⟨⟨⟨?_,?_⟩,?_,fun d' Y3 Q1=>?_⟩,?_⟩)
      all_goals first | (dsimp only at Q1; rw [hw] at Q1) | skip
      all_goals try dsimp only
      all_goals first | (rw [hw]; simp only [List.length_append,List.length_singleton]; omega) | (rw [hw]; omega) | skip
      rw [nt Y3]
      by_cases e4:d' < d
      ·rw [if_pos (by omega)]; exact hD d' Y3 e4
      ·rw [if_neg (by omega),if_pos (by omega),show d'=d by omega]; exact hv
     refine oe (aZ (l:=t) b0 (by omega)) (oe (aZ d0 hd) (oc (fun e1=>?_) fun e1=>?_))
     ·refine oe (aZ b0 hb) (oe (jf Is.1 (by omega)) (oe (aZ (l:=t) d0 (by omega)) (oe (aZ htd.1 (by omega)) (put _ ?_))))
      rw [if_pos (by simpa using e1)]
     ·refine put _ ?_
      rw [if_neg (by simpa using e1)]
    ·have hw:=w1 b0 hb (by omega)
     refine de (by omega) (by omega) (os ⟨⟨⟨?_,?_⟩,?_,ik lh (by omega),fun b' d' a Y4 c Q1=>?_⟩,?_⟩)
     all_goals first | (dsimp only at Y4; rw [hw] at Y4) | skip
     all_goals try dsimp only
     all_goals first | (rw [hw]; simp only [List.length_append,List.length_singleton]; omega) | (rw [hw]; omega) | skip
     rw [Ds a]
     by_cases e4:b' < b
     ·rw [if_pos (by omega)]; exact hK b' d' a e4 c Q1
     ·rw [if_neg (by omega),if_pos (by omega),show b'=b by omega]
      exact hD d' c (by omega)
   ·have E2:∀ a:Int,0≤a→a < n→(0≤gi id a∧gi id a < f.length)∧gi f (gi id a)=a∧gi t (gi id a)=a:=fun a a0 a1=>by
     rw [hI a a0 (by omega)]
     exact hN a a a0 (by omega) a0 a1 (re a a0 a1)
    refine ⟨⟨by dsimp only; omega,by dsimp only; omega,by dsimp only; omega,ht,by dsimp only; omega,by dsimp only; omega,lh⟩,⟨by dsimp only; omega,fun y hy=>by dsimp only at hy ⊢; exact hF y hy,ht,fun y hy=>by dsimp only at hy ⊢; exact hT y hy,by dsimp only; omega,lh,by dsimp only; omega,fun y hy=>?_,fun a a0 a1=>(E2 a a0 (by dsimp only at a1; omega)).2.1,fun a a0 a1=>(E2 a a0 (by dsimp only at a1; omega)).2.2,fun p q p0 p1 q0 q1 e=>?_,fun p q p0 p1 q0 q1 e=>?_,fun a a0 a1=>?_⟩⟩
    ·dsimp only at hy ⊢
     obtain ⟨a,a0,a1,rfl⟩:=rL hy
     exact (E2 a a0 (by omega)).1
    ·dsimp only at p1 q1 e ⊢
     have hv:gk k p q=gi (gr num (gi f p)) (gi t q):=by
      show gi (gr k p) q=_
      rw [hK p q p0 (by omega) q0 q1,if_pos e]
     have a1:=hA p p0 p1
     have a2:=hA q q0 q1
     rw [e] at a1
     have b1:=hF _ (ib p0 p1)
     have b2:=hF _ (ib q0 q1)
     have b3:=hT _ (ib (l:=t) q0 (by omega))
     have:=hN _ _ b1.1 (by omega) b3.1 b3.2 (tr _ _ _ b1.1 b1.2 b2.1 b2.2 b3.1 b3.2 a1 a2)
     rw [hv]
     exact ⟨this.1,this.2.1,this.2.2⟩
    ·dsimp only at p1 q1 e ⊢
     show gi (gr k p) q=_
     rw [hK p q p0 (by omega) q0 q1,if_neg e]
    ·dsimp only at a1 ⊢
     have d:=E2 a a0 (by omega)
     show gi (gr k (gi id a)) (gi id a)=gi id a
     rw [hK _ _ d.1.1 (by omega) d.1.1 d.1.2,if_pos (by rw [d.2.1,d.2.2]),d.2.1,d.2.2,hI a a0 (by omega)]
end Go.Proofs.YtbhhmalgcnhniaaGreat
namespace Go.Proofs.YtbhhmalgcnhniaaGreat
open Go Go.Li
set_option linter.unusedVariables false
set_option linter.unusedSectionVars false
set_option linter.unusedSimpArgs false
def WM (c:aC):Bool:=
 decide (0≤c.aD) && (lj c.aD c.aA && ((c.To.length == c.aA.length) && (lj c.aD c.To && ((c.aB.length == c.aA.length) && ((c.aB.all fun r=>r.length == c.aA.length) && (((c.aF.length:Int) == c.aD) && (lj c.aA.length c.aF &&
 (((ns c.aD.toNat).all fun x=>(gi c.aA (gi c.aF x) == x) && ((gi c.To (gi c.aF x) == x) && (gk c.aB (gi c.aF x) (gi c.aF x) == gi c.aF x))) &&
 (ns c.aA.length).all fun f=>(ns c.aA.length).all fun g=>if gi c.To f=gi c.aA g then (decide (0≤gk c.aB f g) && (decide (gk c.aB f g < c.aA.length) && ((gi c.aA (gk c.aB f g) == gi c.aA f) && (gi c.To (gk c.aB f g) == gi c.To g)))) else gk c.aB f g == -1))))))))
theorem Q2 {c:aC} (h:WM c=true):Ty c:=by
 unfold WM at h
 simp only [Bool.and_eq_true,decide_eq_true_eq,ni,beq_iff_eq,List.all_eq_true] at h
 obtain ⟨h1,h2,h3,h4,h5,h6,h7,h8,h9,Y5⟩:=h
 refine ⟨h1,h2,h3,h4,h5,h6,h7,h8,fun x x0 x1=>(h9 x (dy.2 ⟨x0,by omega⟩)).1,fun x x0 x1=>(h9 x (dy.2 ⟨x0,by omega⟩)).2.1,fun f g f0 f1 g0 g1 e=>?_,fun f g f0 f1 g0 g1 e=>?_,fun x x0 x1=>(h9 x (dy.2 ⟨x0,by omega⟩)).2.2⟩
 ·have:=Y5 f (dy.2 ⟨f0,f1⟩) g (dy.2 ⟨g0,g1⟩)
  rw [if_pos e] at this
  simp only [Bool.and_eq_true,decide_eq_true_eq,beq_iff_eq] at this
  exact ⟨⟨this.1,this.2.1⟩,this.2.2.1,this.2.2.2⟩
 ·have:=Y5 f (dy.2 ⟨f0,f1⟩) g (dy.2 ⟨g0,g1⟩)
  rw [if_neg e] at this
  simpa using this
theorem R3:Ok iF fun c=>iu 2 5 c∧Ty c:=by
 unfold iF
 exact ew (os ⟨⟨by decide,by decide,by decide,rfl,rfl,rfl,by decide⟩,Q2 rfl⟩)
theorem zo {l:List (List Int)} {n:Nat} (n0:1≤n) (h1:n≤4) (h:Sq n l) (hb:∀ r∈l,∀ y∈r,0≤y∧y < n) (h0:gk l 0 0=0):Ok (dP l) fun c=>iu 1 4 c∧Ty c:=by
 have hl:=h.len
 unfold dP
 refine ew (Hl (by omega) (by omega) (by omega) (Hl (by omega) (by omega) (by omega) (oe (ze l (by omega) fun y hy=>by have:=h.row y hy; omega) (os ?_))))
 have e:((l.length:Int)).toNat=n:=by omega
 have z:∀ i:Int,gi (List.replicate n (0:Int)) i=0:=fun i=>by
  unfold gi
  rw [List.getD_eq_getElem?_getD,List.getElem?_replicate]
  split <;> rfl
 rw [e]
 refine ⟨⟨by show (0:Int)≤1; omega,by show (1:Int)≤_; omega,?_,?_,rfl,?_,fun y hy=>?_⟩,⟨by show (0:Int)≤1; omega,fun y hy=>?_,?_,fun y hy=>?_,?_,fun y hy=>?_,rfl,fun y hy=>?_,fun y y0 y1=>?_,fun y y0 y1=>?_,fun f g f0 f1 g0 g1 _=>?_,fun f g f0 f1 g0 g1 ne=>?_,fun y y0 y1=>?_⟩⟩
 ·show (List.replicate _ _).length≤4; rw [List.length_replicate]; omega
 ·show (List.replicate _ _).length=(List.replicate _ _).length; rw [List.length_replicate]
 ·show l.length=(List.replicate _ _).length; rw [List.length_replicate]; omega
 ·show _=(List.replicate _ _).length; rw [List.length_replicate,h.row y hy]
 ·rw [(List.mem_replicate.1 hy).2]; exact ⟨Int.le_refl _,by show (0:Int) < 1; omega⟩
 ·show (List.replicate _ _).length=(List.replicate _ _).length; rw [List.length_replicate]
 ·rw [(List.mem_replicate.1 hy).2]; exact ⟨Int.le_refl _,by show (0:Int) < 1; omega⟩
 ·show l.length=(List.replicate _ _).length; rw [List.length_replicate]; omega
 ·show _=(List.replicate _ _).length; rw [List.length_replicate,h.row y hy]
 ·have hy:y=0:=List.mem_singleton.1 hy
  rw [hy]; exact ⟨Int.le_refl _,by show (0:Int) < ((List.replicate _ _).length:Nat); rw [List.length_replicate]; omega⟩
 ·have y1:y < 1:=y1
  show gi (List.replicate n 0) _=y; rw [z]; omega
 ·have y1:y < 1:=y1
  show gi (List.replicate n 0) _=y; rw [z]; omega
 ·dsimp only at f1 g1 ⊢
  rw [List.length_replicate] at f1 g1 ⊢
  have hr:=ic (l:=l) f0 (by omega)
  have:=hb _ hr _ (ib (l:=gr l f) g0 (by rw [h.row _ hr]; omega))
  exact ⟨this,by rw [z,z],by rw [z,z]⟩
 ·dsimp only at ne
  rw [z,z] at ne
  exact absurd rfl ne
 ·have y1:y < 1:=y1
  have hy:y=0:=by omega
  subst hy
  exact h0
theorem Cn {x:List Int} (B:tO x) {s:aI} (S:Src x s):Ok (dN s) fun y=>(∃ n,1≤n∧n≤4∧Sq n y.1∧(∀ r∈y.1,∀ z∈r,0≤z∧z < n)∧gk y.1 0 0=0)∧Src x y.2:=by
 unfold dN
 refine ew (ob (b9 B S _) fun y hy=>?_)
 have T:Src x (aI.mk s.Code y.2.At y.2.au):=S.on hy.2
 refine oc (fun _=>os ⟨⟨1,by decide,by decide,⟨rfl,by simp⟩,by dsimp only; decide,rfl⟩,T⟩) fun _=>oc (fun _=>os ⟨⟨2,by decide,by decide,⟨rfl,by simp⟩,by dsimp only; decide,rfl⟩,T⟩) fun _=>oc (fun _=>os ⟨⟨2,by decide,by decide,⟨rfl,by simp⟩,by dsimp only; decide,rfl⟩,T⟩) fun _=>
  oc (fun _=>os ⟨⟨3,by decide,by decide,⟨rfl,by simp⟩,by dsimp only; decide,rfl⟩,T⟩) fun _=>oc (fun _=>os ⟨⟨3,by decide,by decide,⟨rfl,by simp⟩,by dsimp only; decide,rfl⟩,T⟩) fun _=>oc (fun _=>os ⟨⟨3,by decide,by decide,⟨rfl,by simp⟩,by dsimp only; decide,rfl⟩,T⟩) fun _=>
  oc (fun _=>os ⟨⟨4,by decide,by decide,⟨rfl,by simp⟩,by dsimp only; decide,rfl⟩,T⟩) fun _=>os ⟨⟨3,by decide,by decide,⟨rfl,by simp⟩,by dsimp only; decide,rfl⟩,T⟩
theorem adg {c:aC} {a b:Nat} (C:iu a b c) (T:Ty c) (ha:a≤100000) (hb:b≤100000):Ok (kZ c) fun e=>iu a b e∧Ty e:=by
 obtain ⟨c0,c1,c2,c3,c4,c5,c6⟩:=C
 unfold kZ
 refine ew (oe (jq _ (by omega)) (oe (jq _ (by omega)) (oe (jq _ (by omega)) ?_)))
 refine ol (fun z:Int×List (List Int)=>(0≤z.1∧z.1≤c.aA.length)∧(z.2.length:Int)=z.1∧(∀ y∈z.2,y.length=c.aA.length)∧∀ f g:Int,0≤f→f < z.1→0≤g→g < c.aA.length→gi (gr z.2 f) g=gk c.aB g f) (fun z=>(c.aA.length - z.1).toNat) ⟨⟨by show (0:Int)≤0; omega,by show (0:Int)≤_; omega⟩,rfl,iz,fun f g f0 f1=>by dsimp only at f1; omega⟩ ?_
 rintro ⟨i,k⟩ ⟨⟨i0,i1⟩,hk,lh,hK⟩
 dsimp only at i0 i1 hk lh hK
 show Ok (jO c i k) _
 unfold jO
 refine od (fun hi=>?_) fun hi=>os ⟨rfl,os ⟨⟨c0,c1,?_,?_,c4,?_,fun y hy=>?_⟩,⟨c0,fun y hy=>T.t y hy,c3.symm,fun y hy=>T.f y hy,?_,fun y hy=>?_,c4,fun y hy=>?_,fun y y0 y1=>T.rH y y0 y1,fun y y0 y1=>T.tM y y0 y1,fun f g f0 f1 g0 g1 e=>?_,fun f g f0 f1 g0 g1 e=>?_,fun y y0 y1=>?_⟩⟩⟩
 ·refine ol (fun z:List Int×Int=>(0≤z.2∧z.2≤c.aA.length)∧(z.1.length:Int)=z.2∧∀ g:Int,0≤g→g < z.2→gi z.1 g=gk c.aB g i) (fun z=>(c.aA.length - z.2).toNat) ⟨⟨by show (0:Int)≤0; omega,by show (0:Int)≤_; omega⟩,rfl,fun f f0 f1=>by dsimp only at f1; omega⟩ ?_
  rintro ⟨row,j⟩ ⟨⟨j0,j1⟩,bc,hR⟩
  dsimp only at j0 j1 bc hR
  show Ok (jN c i row j) _
  unfold jN
  refine od (fun hj=>?_) fun hj=>os ⟨rfl,?_⟩
  ·have hw:=w1 j0 hj (by omega)
   refine oe (T.nm j0 hj) (oe (T.mg j0 hj i0 hi) (de (by omega) (by omega) (os ⟨⟨⟨?_,?_⟩,?_,fun g g0 g1=>?_⟩,?_⟩)))
   all_goals first | (dsimp only at g1; rw [hw] at g1) | skip
   all_goals try dsimp only
   all_goals first | (rw [hw]; simp only [List.length_append,List.length_singleton]; omega) | (rw [hw]; omega) | skip
   rw [nt g0]
   by_cases e4:g < j
   ·rw [if_pos (by omega)]; exact hR g g0 e4
   ·rw [if_neg (by omega),if_pos (by omega),show g=j by omega]
  ·have hw:=w1 i0 hi (by omega)
   refine de (by omega) (by omega) (os ⟨⟨⟨?_,?_⟩,?_,ik lh (by omega),fun f g f0 f1 g0 g1=>?_⟩,?_⟩)
   all_goals first | (dsimp only at f1; rw [hw] at f1) | skip
   all_goals try dsimp only
   all_goals first | (rw [hw]; simp only [List.length_append,List.length_singleton]; omega) | (rw [hw]; omega) | skip
   rw [Ds f0]
   by_cases e4:f < i
   ·rw [if_pos (by omega)]; exact hK f g f0 e4 g0 g1
   ·rw [if_neg (by omega),if_pos (by omega),show f=i by omega]; exact hR g g0 (by omega)
 ·dsimp only; omega
 ·dsimp only; omega
 ·dsimp only; omega
 ·have:=lh y hy; dsimp only; omega
 ·dsimp only; omega
 ·have:=lh y hy; dsimp only; omega
 ·have:=T.i y hy; dsimp only; omega
 ·dsimp only at f1 g1 e ⊢
  rw [show gk k f g=gk c.aB g f from hK f g f0 (by omega) g0 (by omega)]
  have:=T.cell g f g0 (by omega) f0 (by omega) e.symm
  exact ⟨by omega,this.2.2,this.2.1⟩
 ·dsimp only at f1 g1 e ⊢
  rw [show gk k f g=gk c.aB g f from hK f g f0 (by omega) g0 (by omega)]
  exact T.none g f g0 (by omega) f0 (by omega) fun h=>e h.symm
 ·have kx:=T.id (x:=y) y0 y1
  show gk k (gi c.aF y) (gi c.aF y)=gi c.aF y
  rw [show gk k (gi c.aF y) (gi c.aF y)=gk c.aB (gi c.aF y) (gi c.aF y) from hK _ _ kx.1 (by omega) kx.1 kx.2]
  exact T.uu y y0 y1
theorem R8 {n m:Nat} {g:Int→Int→List Int} {a b:Int} (a0:0≤a) (a1:a < n) (b0:0≤b) (b1:b < m):gr (mh n m g) (a * m+b)=g a b:=by
 obtain ⟨i,rfl⟩ : ∃ k:Nat,a=k:=⟨a.toNat,by omega⟩
 obtain ⟨j,rfl⟩ : ∃ k:Nat,b=k:=⟨b.toNat,by omega⟩
 have h:=Ho g (a:=i) (b:=j) (n:=n) (m:=m) (by omega) (by omega)
 unfold gr
 rw [List.getD_eq_getElem?_getD,show ((i:Int) * (m:Int)+(j:Int)).toNat=i * m+j by
  rw [← Int.natCast_mul,← Int.natCast_add]; rfl,h]; rfl
theorem sW {n m:Nat} {k:Int} (k0:0≤k) (h:k < (n * m:Nat)):∃ a b:Int,(0≤a∧a < n)∧(0≤b∧b < m)∧k=a * m+b:=by
 obtain ⟨a,b,ha,hb,e⟩:=Wh (n:=n) (m:=m) (k:=k.toNat) (by omega)
 refine ⟨a,b,⟨by omega,by omega⟩,⟨by omega,by omega⟩,?_⟩
 have:(k.toNat:Int)=((a * m+b:Nat):Int):=by rw [e]
 rw [show ((k.toNat:Nat):Int)=k by omega] at this
 rw [this,Int.natCast_add,Int.natCast_mul]
theorem PV {m:Int} {a b c d:Int} (b0:0≤b) (b1:b < m) (d0:0≤d) (d1:d < m) (h:a * m+b=c * m+d):a=c∧b=d:=by
 have hm:0 < m:=by omega
 have h1:(a * m+b) / m=a:=by
  rw [Int.add_comm,Int.add_mul_ediv_right _ _ (by omega),Int.ediv_eq_zero_of_lt b0 b1,Int.zero_add]
 have h2:(c * m+d) / m=c:=by
  rw [Int.add_comm,Int.add_mul_ediv_right _ _ (by omega),Int.ediv_eq_zero_of_lt d0 d1,Int.zero_add]
 have e:a=c:=by rw [← h1,h,h2]
 subst e
 exact ⟨rfl,by omega⟩
theorem rT {n m a b:Int} (a0:0≤a) (a1:a < n) (b0:0≤b) (b1:b < m):0≤a * m+b∧a * m+b < n * m:=by
 have h1:0≤a * m:=Int.mul_nonneg a0 (by omega)
 have h2:(a+1) * m≤n * m:=Int.mul_le_mul_of_nonneg_right (by omega) (by omega)
 rw [Int.add_mul,Int.one_mul] at h2
 omega
theorem WI {c d:aC} (C:Ty c) (D:Ty d):Ty (uy c d):=by
 have c0:=C.o0
 have d0:=D.o0
 have vQ:((c.aD.toNat * d.aD.toNat:Nat):Int)=c.aD * d.aD:=by
  rw [Int.natCast_mul,Int.toNat_of_nonneg c0,Int.toNat_of_nonneg d0]
 have ht:((d.aD.toNat:Nat):Int)=d.aD:=Int.toNat_of_nonneg d0
 have lf:(uy c d).aA.length=c.aA.length * d.aA.length:=iy _ _ _
 have lI:((c.aA.length * d.aA.length:Nat):Int)=(c.aA.length:Int) * (d.aA.length:Int):=Int.natCast_mul _ _
 have F:∀ {a b:Int},0≤a→a < c.aA.length→0≤b→b < d.aA.length→gi (uy c d).aA (a * d.aA.length+b)=gi c.aA a * d.aD+gi d.aA b:=fun a0 a1 b0 b1=>vB a0 a1 b0 b1
 have T:∀ {a b:Int},0≤a→a < c.aA.length→0≤b→b < d.aA.length→gi (uy c d).To (a * d.aA.length+b)=gi c.To a * d.aD+gi d.To b:=fun a0 a1 b0 b1=>vB a0 a1 b0 b1
 have I:∀ {a b:Int},0≤a→a < c.aD→0≤b→b < d.aD→gi (uy c d).aF (a * d.aD+b)=gi c.aF a * d.aA.length+gi d.aF b:=fun a0 a1 b0 b1=>by
  have:=vB (n:=c.aD.toNat) (m:=d.aD.toNat) (g:=fun x y=>gi c.aF x * d.aA.length+gi d.aF y) a0 (by omega) b0 (by omega)
  rwa [ht] at this
 have K:∀ {a b f g:Int},0≤a→a < c.aA.length→0≤b→b < d.aA.length→0≤f→f < c.aA.length→0≤g→g < d.aA.length→gk (uy c d).aB (a * d.aA.length+b) (f * d.aA.length+g)=np c d a b f g:=fun a0 a1 b0 b1 f0 f1 g0 g1=>by
  show gi (gr _ _) _=_
  rw [show gr (uy c d).aB _=_ from R8 a0 a1 b0 b1,vB f0 f1 g0 g1]
 refine ⟨Int.mul_nonneg c0 d0,fun y hy=>?_,?_,fun y hy=>?_,?_,fun r hr=>?_,?_,fun y hy=>?_,fun y y0 y1=>?_,fun y y0 y1=>?_,fun p q p0 p1 q0 q1 e=>?_,fun p q p0 p1 q0 q1 e=>?_,fun y y0 y1=>?_⟩
 ·obtain ⟨a,b,ha,hb,rfl⟩:=zm.1 hy
  have h1:=C.fr ha.1 ha.2
  have h2:=D.fr hb.1 hb.2
  exact rT h1.1 h1.2 h2.1 h2.2
 ·exact (iy _ _ _).trans (iy _ _ _).symm
 ·obtain ⟨a,b,ha,hb,rfl⟩:=zm.1 hy
  have h1:=C.to ha.1 ha.2
  have h2:=D.to hb.1 hb.2
  exact rT h1.1 h1.2 h2.1 h2.2
 ·exact (iy _ _ _).trans (iy _ _ _).symm
 ·obtain ⟨a,b,ha,hb,rfl⟩:=zm.1 hr
  exact (iy _ _ _).trans (iy _ _ _).symm
 ·rw [show (uy c d).aF.length=_ from iy _ _ _,vQ]; rfl
 ·obtain ⟨a,b,ha,hb,rfl⟩:=zm.1 hy
  have h1:=C.id ha.1 (by omega)
  have h2:=D.id hb.1 (by omega)
  rw [lf,lI]
  exact rT h1.1 h1.2 h2.1 h2.2
 ·have y1:y < c.aD * d.aD:=y1
  obtain ⟨a,b,ha,hb,rfl⟩:=sW (n:=c.aD.toNat) (m:=d.aD.toNat) y0 (by omega)
  rw [ht] at hb ⊢
  have h1:=C.id ha.1 (by omega)
  have h2:=D.id hb.1 (by omega)
  rw [I ha.1 (by omega) hb.1 hb.2,F h1.1 h1.2 h2.1 h2.2,C.tM a ha.1 (by omega),D.tM b hb.1 hb.2]
 ·have y1:y < c.aD * d.aD:=y1
  obtain ⟨a,b,ha,hb,rfl⟩:=sW (n:=c.aD.toNat) (m:=d.aD.toNat) y0 (by omega)
  rw [ht] at hb ⊢
  have h1:=C.id ha.1 (by omega)
  have h2:=D.id hb.1 (by omega)
  rw [I ha.1 (by omega) hb.1 hb.2,T h1.1 h1.2 h2.1 h2.2,C.rH a ha.1 (by omega),D.rH b hb.1 hb.2]
 ·rw [lf] at p1 q1
  obtain ⟨a,b,ha,hb,rfl⟩:=sW p0 p1
  obtain ⟨f,g,hf,hg,rfl⟩:=sW q0 q1
  rw [T ha.1 ha.2 hb.1 hb.2,F hf.1 hf.2 hg.1 hg.2] at e
  have t1:=D.to hb.1 hb.2
  have t2:=D.fr hg.1 hg.2
  obtain ⟨e1,e2⟩:=PV t1.1 t1.2 t2.1 t2.2 e
  have h1:=C.cell a f ha.1 ha.2 hf.1 hf.2 e1
  have h2:=D.cell b g hb.1 hb.2 hg.1 hg.2 e2
  rw [K ha.1 ha.2 hb.1 hb.2 hf.1 hf.2 hg.1 hg.2]
  unfold np
  rw [if_pos ⟨h1.1.1,h2.1.1⟩,F h1.1.1 h1.1.2 h2.1.1 h2.1.2,T h1.1.1 h1.1.2 h2.1.1 h2.1.2,F ha.1 ha.2 hb.1 hb.2,T hf.1 hf.2 hg.1 hg.2,h1.2.1,h1.2.2,h2.2.1,h2.2.2,lf,lI]
  exact ⟨rT h1.1.1 h1.1.2 h2.1.1 h2.1.2,rfl,rfl⟩
 ·rw [lf] at p1 q1
  obtain ⟨a,b,ha,hb,rfl⟩:=sW p0 p1
  obtain ⟨f,g,hf,hg,rfl⟩:=sW q0 q1
  rw [T ha.1 ha.2 hb.1 hb.2,F hf.1 hf.2 hg.1 hg.2] at e
  rw [K ha.1 ha.2 hb.1 hb.2 hf.1 hf.2 hg.1 hg.2]
  unfold np
  refine if_neg fun hh=>e ?_
  have k1:gi c.To a=gi c.aA f:=Classical.byContradiction fun ne=>by
   have:=C.none a f ha.1 ha.2 hf.1 hf.2 ne
   have:=hh.1
   omega
  have k2:gi d.To b=gi d.aA g:=Classical.byContradiction fun ne=>by
   have:=D.none b g hb.1 hb.2 hg.1 hg.2 ne
   have:=hh.2
   omega
  rw [k1,k2]
 ·have y1:y < c.aD * d.aD:=y1
  obtain ⟨a,b,ha,hb,rfl⟩:=sW (n:=c.aD.toNat) (m:=d.aD.toNat) y0 (by omega)
  rw [ht] at hb ⊢
  have h1:=C.id ha.1 (by omega)
  have h2:=D.id hb.1 (by omega)
  rw [I ha.1 (by omega) hb.1 hb.2,K h1.1 h1.2 h2.1 h2.2 h1.1 h1.2 h2.1 h2.2]
  unfold np
  rw [C.uu a ha.1 (by omega),D.uu b hb.1 hb.2,if_pos ⟨h1.1,h2.1⟩]
end Go.Proofs.YtbhhmalgcnhniaaGreat
namespace Go.Proofs.YtbhhmalgcnhniaaGreat
open Go Go.Li
set_option linter.unusedVariables false
set_option linter.unusedSectionVars false
set_option linter.unusedSimpArgs false
theorem oK {l r:List Int} {j:Int} (h0:0≤j):gi (l++r) j=if j < l.length then gi l j else gi r (j - l.length):=by
 obtain ⟨n,rfl⟩ : ∃ n:Nat,j=n:=⟨j.toNat,by omega⟩
 unfold gi
 rw [List.getD_eq_getElem?_getD,List.getD_eq_getElem?_getD,List.getD_eq_getElem?_getD,show ((n:Int)).toNat=n from rfl]
 by_cases h:n < l.length
 ·rw [List.getElem?_append_left h,if_pos (by omega)]
 ·rw [List.getElem?_append_right (by omega),if_neg (by omega),show ((n:Int) - (l.length:Int)).toNat=n - l.length by omega]
theorem Dy {l r:List (List Int)} {j:Int} (h0:0≤j):gr (l++r) j=if j < l.length then gr l j else gr r (j - l.length):=by
 obtain ⟨n,rfl⟩ : ∃ n:Nat,j=n:=⟨j.toNat,by omega⟩
 unfold gr
 rw [List.getD_eq_getElem?_getD,List.getD_eq_getElem?_getD,List.getD_eq_getElem?_getD,show ((n:Int)).toNat=n from rfl]
 by_cases h:n < l.length
 ·rw [List.getElem?_append_left h,if_pos (by omega)]
 ·rw [List.getElem?_append_right (by omega),if_neg (by omega),show ((n:Int) - (l.length:Int)).toNat=n - l.length by omega]
theorem vz {n:Nat} {g:Int→List Int} {i:Int} (h0:0≤i) (h1:i < n):gr (dg n g) i=g i:=by
 obtain ⟨k,rfl⟩ : ∃ k:Nat,i=k:=⟨i.toNat,by omega⟩
 have h:=nn g (i:=k) (n:=n) (by omega)
 unfold gr
 rw [List.getD_eq_getElem?_getD,show ((k:Int)).toNat=k from rfl,h]; rfl
theorem Nv {n:Nat} {v i:Int} (h0:0≤i) (h1:i < n):gi (List.replicate n v) i=v:=by
 have _:=h0
 unfold gi
 rw [List.getD_eq_getElem?_getD,List.getElem?_replicate,if_pos (by omega)]; rfl
def HB (m h:Int):Int:=if 0≤h then h+m else h
def da (c d:aC):aC:=
 ⟨c.aD+d.aD,c.aA++dg d.aA.length (fun f=>gi d.aA f+c.aD),c.To++dg d.aA.length (fun f=>gi d.To f+c.aD),c.aF++dg d.aD.toNat (fun y=>gi d.aF y+c.aA.length),
  (dg c.aA.length fun f=>gr c.aB f++List.replicate d.aA.length (-1))++dg d.aA.length fun f=>List.replicate c.aA.length (-1)++dg d.aA.length fun g=>HB c.aA.length (gk d.aB f g)⟩
theorem Nx (l:List (List Int)):dg l.length (fun f=>gr l f)=l:=by
 refine List.ext_getElem? fun i=>?_
 by_cases h:i < l.length
 ·rw [nn _ h,List.getElem?_eq_getElem h]
  unfold gr
  rw [List.getD_eq_getElem?_getD,show ((i:Int)).toNat=i from rfl,List.getElem?_eq_getElem h]; rfl
 ·rw [List.getElem?_eq_none (by rw [bA]; omega),List.getElem?_eq_none (by omega)]
theorem KO (n:Nat) (v:Int):dg n (fun _=>v)=List.replicate n v:=by
 induction n with
 | zero=>rfl
 | succ n ih=>rw [qw,ih,List.replicate_succ']
theorem PW {n:Nat} {g:Int→List Int} {i:Nat} (h:i < n) (v:List Int) (hv:∀ k:Nat,k < i→True):(dg n g).set i v=dg n fun k=>if k=(i:Int) then v else g k:=by
 have _:=hv
 refine List.ext_getElem? fun k=>?_
 rw [List.getElem?_set]
 by_cases e:i=k
 ·subst e
  rw [if_pos rfl,if_pos (by rw [bA]; exact h),nn _ h,if_pos rfl]
 ·rw [if_neg e]
  by_cases hk:k < n
  ·rw [nn _ hk,nn _ hk,if_neg (by omega)]
  ·rw [List.getElem?_eq_none (by rw [bA]; omega),List.getElem?_eq_none (by rw [bA]; omega)]
theorem I9 {c d:aC} {a b a' b':Nat} (C:iu a b c) (D:iu a' b' d) (T:Ty c) (U:Ty d) (ha:a+a'≤100000) (hb:b+b'≤100000):gE c d=some (da c d):=by
 obtain ⟨c0,c1,c2,c3,c4,c5,c6⟩:=C
 obtain ⟨d0,d1,d2,d3,d4,d5,d6⟩:=D
 have hs:fk c:=⟨by omega,by omega,by omega,by omega,fun y hy=>by have:=c6 y hy; omega⟩
 obtain ⟨nd,dw⟩ : ∃ n:Nat,d.aD=n:=⟨d.aD.toNat,by omega⟩
 unfold gE
 rw [wE hs,aE]
 refine (congrArg aq (sC nd (fun y=>gi d.aF y+c.aA.length) c.aF (fun acc i=>((i:Int),acc)) rfl ?_ ?_)).trans ?_
 ·intro i acc hi hl
  show eP c d i acc=_
  unfold eP
  have h:=U.id (x:=(i:Int)) (by omega) (by omega)
  rw [bm (by omega:(i:Int) < d.aD),cond_true,U.p4 (by omega) (by omega),aE,cD (by omega) (by omega),aE,bI (by omega),bT (by omega) (by omega)]
 ·intro acc _
  show eP c d _ acc=_
  unfold eP
  rw [br (by omega),cond_false]
 dsimp only
 have rows:∀ i:Nat,(dg c.aA.length fun f=>if f < (i:Int) then gr c.aB f++List.replicate d.aA.length (-1) else gr c.aB f).length=c.aA.length:=fun i=>bA _ _
 refine (congrArg aq (ql (ns c.aA.length) (fun i=>((i:Int),dg c.aA.length fun f=>if f < (i:Int) then gr c.aB f++List.replicate d.aA.length (-1) else gr c.aB f)) ?_ (fun i x hx=>?_) (e:=((c.aA.length:Int),dg c.aA.length fun f=>gr c.aB f++List.replicate d.aA.length (-1))) ?_)).trans ?_
 ·show ((0:Int),_)=((0:Int),c.aB)
  congr 1
  refine (tE fun i hi=>?_).trans ((congrArg (fun n=>dg n fun f=>gr c.aB f) c5.symm).trans (Nx c.aB))
  rw [if_neg (by omega)]
 ·obtain ⟨rfl,hi⟩:=jc hx
  show eR d (i:Int) _=_
  unfold eR
  rw [rows,bm (by omega:(i:Int) < (c.aA.length:Int)),cond_true]
  have bc:(gr c.aB i).length=c.aA.length:=c6 _ (ic (by omega) (by omega))
  refine (ql (ns d.aA.length) (fun j=>((j:Int),(dg c.aA.length fun f=>if f < (i:Int) then gr c.aB f++List.replicate d.aA.length (-1) else if f=(i:Int) then gr c.aB f++List.replicate j (-1) else gr c.aB f))) ?_ (fun j y hy=>?_) (e:=((d.aA.length:Int),dg c.aA.length fun f=>if f < (i:Int) then gr c.aB f++List.replicate d.aA.length (-1) else if f=(i:Int) then gr c.aB f++List.replicate d.aA.length (-1) else gr c.aB f)) ?_).trans ?_
  ·show ((0:Int),_)=((0:Int),_)
   congr 1
   refine tE fun k hk=>?_
   split
   ·rfl
   ·split
    ·rw [List.replicate_zero,List.append_nil]
    ·rfl
  ·obtain ⟨rfl,hj⟩:=jc hy
   have hg:idx (dg c.aA.length fun f=>if f < (i:Int) then gr c.aB f++List.replicate d.aA.length (-1) else if f=(i:Int) then gr c.aB f++List.replicate j (-1) else gr c.aB f) (i:Int)=some (gr c.aB i++List.replicate j (-1)):=by
    rw [fj,nn _ hi,if_neg (by omega),if_pos rfl]
   show eQ d i (j:Int) _=_
   unfold eQ
   rw [bm (by omega:(j:Int) < (d.aA.length:Int)),cond_true,hg,aE,cD (by rw [List.length_append,List.length_replicate]; omega) (by rw [List.length_append,List.length_replicate]; omega),aE,aE,bI (by omega),Int.toNat_natCast,PW hi _ (fun _ _=>trivial)]
   refine congrArg (fun l:List (List Int)=>(some (Out.norm (((j+1:Nat):Int),l)):Option (Out (Int×List (List Int)) aC))) (tE fun k hk=>?_)
   by_cases e:(k:Int)=i
   ·rw [if_pos e,if_neg (by omega),if_pos e,List.append_assoc,← List.replicate_succ',e]
   ·rw [if_neg e]
    split
    ·rfl
    ·simp only [if_neg e]
  ·rw [bR]
   show eQ d i _ _=_
   unfold eQ
   rw [br (by omega),cond_false]
  ·dsimp only
   rw [bI (by omega)]
   refine congrArg (fun l:List (List Int)=>(some (Out.norm (((i+1:Nat):Int),l)):Option (Out (Int×List (List Int)) aC))) (tE fun k hk=>?_)
   by_cases e:(k:Int) < i
   ·rw [if_pos e,if_pos (by omega)]
   ·rw [if_neg e]
    by_cases e2:(k:Int)=i
    ·rw [if_pos e2,if_pos (by omega)]
    ·rw [if_neg e2,if_neg (by omega)]
 ·rw [bR]
  show eR d _ _=_
  unfold eR
  rw [rows,br (by omega),cond_false]
  refine congrArg (fun l:List (List Int)=>(some (Out.exit 2 ((c.aA.length:Int),l)):Option (Out (Int×List (List Int)) aC))) (tE fun k hk=>?_)
  rw [if_pos (by omega)]
 dsimp only
 refine (congrArg aq (ql (ns d.aA.length) (fun i=>((i:Int),c.aA++dg i (fun f=>gi d.aA f+c.aD),c.To++dg i (fun f=>gi d.To f+c.aD),(dg c.aA.length fun f=>gr c.aB f++List.replicate d.aA.length (-1))++dg i fun f=>List.replicate c.aA.length (-1)++dg d.aA.length fun g=>HB c.aA.length (gk d.aB f g))) ?_ (fun i x hx=>?_) (e:=((d.aA.length:Int),(da c d).aA,(da c d).To,(da c d).aB)) ?_)).trans ?_
 ·show ((0:Int),c.aA++[],c.To++[],_++[])=_
  rw [List.append_nil,List.append_nil,List.append_nil]
 ·obtain ⟨rfl,hi⟩:=jc hx
  have hf:=U.fr (f:=(i:Int)) (by omega) (by omega)
  have ht:=U.to (f:=(i:Int)) (by omega) (by omega)
  show eV c d (i:Int) _ _ _=_
  unfold eV
  rw [bm (by omega:(i:Int) < (d.aA.length:Int)),cond_true,U.iH (by omega) (by omega),aE,cD (by rw [List.length_append,bA]; omega) (by rw [List.length_append,bA]; omega),aE,U.jd (by omega) (by omega),aE,cD (by rw [List.length_append,bA]; omega) (by rw [List.length_append,bA]; omega),aE]
  refine (sC c.aA.length (fun _=>(-1:Int)) [] (fun acc j=>(acc,(j:Int))) rfl ?_ ?_).trans ?_
  ·intro j acc hj hl
   simp only [List.length_nil,Nat.zero_add] at hl
   show eS c acc (j:Int)=_
   unfold eS
   rw [bm (by omega:(j:Int) < (c.aA.length:Int)),cond_true,cD (by omega) (by omega),aE,bI (by omega)]
  ·intro acc _
   show eS c acc _=_
   unfold eS
   rw [br (by omega),cond_false]
  dsimp only
  rw [List.nil_append,KO]
  refine (sC d.aA.length (fun g=>HB c.aA.length (gk d.aB i g)) (List.replicate c.aA.length (-1)) (fun acc j=>(acc,(j:Int))) rfl ?_ ?_).trans ?_
  ·intro j acc hj hl
   rw [List.length_replicate] at hl
   have hc:=U.Bj (f:=(i:Int)) (g:=(j:Int)) (by omega) (by omega) (by omega) (by omega)
   show eU c d (i:Int) acc (j:Int)=_
   unfold eU
   rw [bm (by omega:(j:Int) < (d.aA.length:Int)),cond_true,U.nm (by omega) (by omega),aE,U.mg (by omega) (by omega) (by omega) (by omega),aE]
   unfold HB
   by_cases e:0≤gk d.aB i j
   ·rw [bm (show gk d.aB i j ≥ 0 from e),cond_true,cD (by omega) (by omega),aE,bI (by omega),bT (by omega) (by omega),if_pos e]
   ·rw [br (show ¬ gk d.aB i j ≥ 0 from e),cond_false,cD (by omega) (by omega),aE,bI (by omega),if_neg e]
  ·intro acc _
   show eU c d (i:Int) acc _=_
   unfold eU
   rw [br (by omega),cond_false]
  ·dsimp only
   rw [cD (by rw [List.length_append,bA,bA]; omega) (by rw [List.length_append,bA,bA]; omega),aE,bI (by omega),bT (by omega) (by omega),bT (by omega) (by omega),qw,qw,qw,List.append_assoc,List.append_assoc,List.append_assoc]
 ·rw [bR]
  show eV c d _ _ _ _=_
  unfold eV
  rw [br (by omega),cond_false]; rfl
 ·show some _=_
  rw [bT (by omega) (by omega)]
  unfold da
  rw [dw]; rfl
section
variable {c d:aC} (T:Ty c) (U:Ty d)
include T U
theorem D2:(da c d).aA.length=c.aA.length+d.aA.length:=by
 have _:=T
 have _:=U
 show (_++_:List Int).length=_; rw [List.length_append,bA]
theorem uZ {f:Int} (f0:0≤f) (f1:f < c.aA.length):gi (da c d).aA f=gi c.aA f:=by
 have _:=T
 have _:=U
 show gi (_++_) f=_; rw [oK f0,if_pos f1]
theorem yd {f:Int} (f0:0≤f) (f1:f < d.aA.length):gi (da c d).aA (c.aA.length+f)=gi d.aA f+c.aD:=by
 have _:=T
 have _:=U
 show gi (_++_) _=_; rw [oK (by omega),if_neg (by omega),show (c.aA.length:Int)+f - c.aA.length=f by omega,gp f0 f1]
theorem yg {f:Int} (f0:0≤f) (f1:f < c.aA.length):gi (da c d).To f=gi c.To f:=by
 have _:=U
 show gi (_++_) f=_; rw [oK f0,if_pos (by rw [T.tl]; exact f1)]
theorem u2 {f:Int} (f0:0≤f) (f1:f < d.aA.length):gi (da c d).To (c.aA.length+f)=gi d.To f+c.aD:=by
 have _:=U
 show gi (_++_) _=_; rw [oK (by omega),if_neg (by rw [T.tl]; omega),show (c.aA.length:Int)+f - c.To.length=f by rw [T.tl]; omega,gp f0 f1]
theorem D3 {f g:Int} (f0:0≤f) (f1:f < c.aA.length) (g0:0≤g) (g1:g < c.aA.length):gk (da c d).aB f g=gk c.aB f g:=by
 have _:=U
 show gi (gr (_++_) f) g=_
 rw [Dy f0,if_pos (by rw [bA]; exact f1),vz f0 f1,oK g0,if_pos (by rw [T.row f0 f1]; exact g1)]; rfl
theorem R9 {f g:Int} (f0:0≤f) (f1:f < c.aA.length) (g0:0≤g) (g1:g < d.aA.length):gk (da c d).aB f (c.aA.length+g) = -1:=by
 have _:=U
 show gi (gr (_++_) f) _=_
 rw [Dy f0,if_pos (by rw [bA]; exact f1),vz f0 f1,oK (by omega),if_neg (by rw [T.row f0 f1]; omega),T.row f0 f1,Nv (by omega) (by omega)]
theorem Sa {f g:Int} (f0:0≤f) (f1:f < d.aA.length) (g0:0≤g) (g1:g < c.aA.length):gk (da c d).aB (c.aA.length+f) g = -1:=by
 have _:=T
 have _:=U
 show gi (gr (_++_) _) g=_
 rw [Dy (by omega),if_neg (by rw [bA]; omega),bA,show (c.aA.length:Int)+f - c.aA.length=f by omega,vz f0 f1,oK g0,if_pos (by rw [List.length_replicate]; exact g1),Nv g0 g1]
theorem D4 {f g:Int} (f0:0≤f) (f1:f < d.aA.length) (g0:0≤g) (g1:g < d.aA.length):gk (da c d).aB (c.aA.length+f) (c.aA.length+g)=HB c.aA.length (gk d.aB f g):=by
 have _:=T
 have _:=U
 show gi (gr (_++_) _) _=_
 rw [Dy (by omega),if_neg (by rw [bA]; omega),bA,show (c.aA.length:Int)+f - c.aA.length=f by omega,vz f0 f1,oK (by omega),if_neg (by rw [List.length_replicate]; omega),List.length_replicate,show (c.aA.length:Int)+g - c.aA.length=g by omega,gp g0 g1]
theorem u3 {f:Int} (f0:0≤f) (f1:f < (da c d).aA.length):f < c.aA.length∨∃ g:Int,f=c.aA.length+g∧0≤g∧g < d.aA.length:=by
 rw [D2 T U] at f1
 by_cases h:f < c.aA.length
 ·exact .inl h
 ·exact .inr ⟨f - c.aA.length,by omega,by omega,by omega⟩
theorem Bo:Ty (da c d):=by
 have c0:=T.o0
 have d0:=U.o0
 have ho:(da c d).aD=c.aD+d.aD:=rfl
 have hl:=D2 T U
 have WN:=T.il
 have ttl:=T.tl
 have tkl:=T.kl
 have amb:((d.aD.toNat:Nat):Int)=d.aD:=Int.toNat_of_nonneg d0
 refine ⟨by omega,fun y hy=>?_,?_,fun y hy=>?_,?_,fun r hr=>?_,?_,fun y hy=>?_,fun y y0 y1=>?_,fun y y0 y1=>?_,fun p q p0 p1 q0 q1 e=>?_,fun p q p0 p1 q0 q1 e=>?_,fun y y0 y1=>?_⟩
 ·rcases List.mem_append.1 hy with hy | hy
  ·have:=T.f y hy; omega
  ·obtain ⟨i,hi,rfl⟩:=p5.1 hy
   have:=U.fr hi.1 hi.2; omega
 ·rw [hl]; show (_++_:List Int).length=_; rw [List.length_append,bA,ttl]
 ·rcases List.mem_append.1 hy with hy | hy
  ·have:=T.t y hy; omega
  ·obtain ⟨i,hi,rfl⟩:=p5.1 hy
   have:=U.to hi.1 hi.2; omega
 ·rw [hl]; show (_++_:List (List Int)).length=_; rw [List.length_append,bA,bA]
 ·rw [hl]
  rcases List.mem_append.1 hr with hr | hr
  ·obtain ⟨i,hi,rfl⟩:=p5.1 hr
   rw [List.length_append,List.length_replicate,T.row hi.1 hi.2]
  ·obtain ⟨i,hi,rfl⟩:=p5.1 hr
   rw [List.length_append,List.length_replicate,bA]
 ·show ((_++_:List Int).length:Int)=_; rw [List.length_append,bA]; omega
 ·rw [hl]
  rcases List.mem_append.1 hy with hy | hy
  ·have:=T.i y hy; omega
  ·obtain ⟨i,hi,rfl⟩:=p5.1 hy
   have:=U.id hi.1 (by omega); omega
 ·show gi (da c d).aA (gi (_++_) y)=y
  rw [oK y0,WN]
  by_cases h:y < c.aD
  ·rw [if_pos h]
   have:=T.id y0 h
   rw [uZ T U this.1 this.2,T.tM y y0 h]
  ·rw [if_neg h,gp (by omega) (by omega),Int.add_comm (gi d.aF _)]
   have:=U.id (x:=y - c.aD) (by omega) (by omega)
   rw [yd T U this.1 this.2,U.tM _ (by omega) (by omega)]; omega
 ·show gi (da c d).To (gi (_++_) y)=y
  rw [oK y0,WN]
  by_cases h:y < c.aD
  ·rw [if_pos h]
   have:=T.id y0 h
   rw [yg T U this.1 this.2,T.rH y y0 h]
  ·rw [if_neg h,gp (by omega) (by omega),Int.add_comm (gi d.aF _)]
   have:=U.id (x:=y - c.aD) (by omega) (by omega)
   rw [u2 T U this.1 this.2,U.rH _ (by omega) (by omega)]; omega
 ·rcases u3 T U p0 p1 with hp | ⟨p,rfl,AP,hp⟩
  ·rcases u3 T U q0 q1 with hq | ⟨q,rfl,yh,hq⟩
   ·rw [yg T U p0 hp,uZ T U q0 hq] at e
    have:=T.cell p q p0 hp q0 hq e
    rw [D3 T U p0 hp q0 hq,uZ T U this.1.1 this.1.2,yg T U this.1.1 this.1.2,uZ T U p0 hp,yg T U q0 hq,hl]
    exact ⟨⟨this.1.1,by omega⟩,this.2.1,this.2.2⟩
   ·rw [yg T U p0 hp,yd T U yh hq] at e
    have:=T.to p0 hp
    have:=U.fr yh hq
    omega
  ·rcases u3 T U q0 q1 with hq | ⟨q,rfl,yh,hq⟩
   ·rw [u2 T U AP hp,uZ T U q0 hq] at e
    have:=U.to AP hp
    have:=T.fr q0 hq
    omega
   ·rw [u2 T U AP hp,yd T U yh hq] at e
    have:=U.cell p q AP hp yh hq (by omega)
    rw [D4 T U AP hp yh hq]
    unfold HB
    rw [if_pos this.1.1,Int.add_comm (gk d.aB p q),yd T U this.1.1 this.1.2,u2 T U this.1.1 this.1.2,yd T U AP hp,u2 T U yh hq,hl,this.2.1,this.2.2]
    exact ⟨⟨by omega,by omega⟩,rfl,rfl⟩
 ·rcases u3 T U p0 p1 with hp | ⟨p,rfl,AP,hp⟩
  ·rcases u3 T U q0 q1 with hq | ⟨q,rfl,yh,hq⟩
   ·rw [yg T U p0 hp,uZ T U q0 hq] at e
    rw [D3 T U p0 hp q0 hq]
    exact T.none p q p0 hp q0 hq e
   ·exact R9 T U p0 hp yh hq
  ·rcases u3 T U q0 q1 with hq | ⟨q,rfl,yh,hq⟩
   ·exact Sa T U AP hp q0 hq
   ·rw [u2 T U AP hp,yd T U yh hq] at e
    rw [D4 T U AP hp yh hq,U.none p q AP hp yh hq (fun h=>e (by rw [h]))]; rfl
 ·show gk (da c d).aB (gi (_++_) y) (gi (_++_) y)=gi (_++_) y
  rw [oK y0,WN]
  by_cases h:y < c.aD
  ·rw [if_pos h]
   have:=T.id y0 h
   rw [D3 T U this.1 this.2 this.1 this.2,T.uu y y0 h]
  ·rw [if_neg h,gp (by omega) (by omega),Int.add_comm (gi d.aF _)]
   have:=U.id (x:=y - c.aD) (by omega) (by omega)
   rw [D4 T U this.1 this.2 this.1 this.2,U.uu _ (by omega) (by omega)]
   unfold HB
   rw [if_pos this.1]; omega
end
end Go.Proofs.YtbhhmalgcnhniaaGreat
