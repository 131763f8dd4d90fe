/- Categories that are drawn have tables of the right form: posets, monoids, opposites. No condition beside those that each theorem names. -/
import Derived.Test.YtcnehblmgfbfoaaGreatVj
import Derived.Test.YtcnehblmgfbfoaaGreatVc
set_option linter.unusedVariables false
set_option linter.unusedSectionVars false
set_option linter.unusedSimpArgs false
set_option linter.unusedVariables false
set_option linter.unusedSimpArgs false
namespace Go.Proofs.YtcnehblmgfbfoaaGreat
open Go Go.Li
theorem u3 {x:List (List Int)} {n:Nat} (hn:n≤4) (h:Sq n x) (re:∀ i:Int,0≤i→i < n→gi (gr x i) i=1)
  (tr:∀ i j k:Int,0≤i→i < n→0≤j→j < n→0≤k→k < n→gi (gr x i) j=1→gi (gr x j) k=1→gi (gr x i) k=1):Ok (cN x) fun c=>jb n (4 * n) c∧Ty c:=by
 have hx:=h.len
 have rl:∀ i:Int,0≤i→i < n→(gr x i).length=n:=fun i i0 i1=>h.row _ (pq i0 (by omega))
 unfold cN
 refine km (ol (fun z:List (List Int)×Int×List Int×List Int=>(0≤z.2.1∧z.2.1≤n)∧((z.1.length:Int)=z.2.1∧∀ y∈z.1,y.length=n)∧(z.2.2.2.length=z.2.2.1.length∧(z.2.2.1.length:Int)≤4 * z.2.1)∧((∀ y∈z.2.2.1,0≤y∧y < n)∧∀ y∈z.2.2.2,0≤y∧y < n)∧(∀ k:Int,0≤k→k < z.2.2.1.length→gi (gr x (gi z.2.2.1 k)) (gi z.2.2.2 k)=1)∧∀ i j:Int,0≤i→i < z.2.1→0≤j→j < n→gi (gr x i) j=1→(0≤gi (gr z.1 i) j∧gi (gr z.1 i) j < z.2.2.1.length)∧gi z.2.2.1 (gi (gr z.1 i) j)=i∧gi z.2.2.2 (gi (gr z.1 i) j)=j) (fun z=>(n - z.2.1).toNat)
  ⟨⟨by show (0:Int)≤0; omega,by show (0:Int)≤_; omega⟩,⟨rfl,jv⟩,⟨rfl,by show (0:Int)≤4 * 0; omega⟩,⟨jv,jv⟩,fun k k0 k1=>by dsimp only [List.length_nil] at k1; omega,fun i j i0 i1=>by dsimp only at i1; omega⟩ ?_)
 rintro ⟨num,i,f,t⟩ ⟨⟨i0,i1⟩,⟨hl,hr⟩,⟨ht,hf⟩,⟨hF,hT⟩,hA,hN⟩
 dsimp only at i0 i1 hl hr ht hf hF hT hA hN
 show Ok (kX x num i f t) _
 unfold kX
 rw [hx]
 refine od (fun hi=>?_) fun hi=>os ⟨rfl,?_⟩
 ·refine ol (fun z:List Int×Int×List Int×List Int=>(0≤z.2.1∧z.2.1≤n)∧(z.1.length:Int)=z.2.1∧(z.2.2.2.length=z.2.2.1.length∧(z.2.2.1.length:Int)≤4 * i+z.2.1)∧((∀ y∈z.2.2.1,0≤y∧y < n)∧∀ y∈z.2.2.2,0≤y∧y < n)∧(∀ k:Int,0≤k→k < z.2.2.1.length→gi (gr x (gi z.2.2.1 k)) (gi z.2.2.2 k)=1)∧(∀ i' j:Int,0≤i'→i' < i→0≤j→j < n→gi (gr x i') j=1→(0≤gi (gr num i') j∧gi (gr num i') j < z.2.2.1.length)∧gi z.2.2.1 (gi (gr num i') j)=i'∧gi z.2.2.2 (gi (gr num i') j)=j)∧∀ j:Int,0≤j→j < z.2.1→gi (gr x i) j=1→(0≤gi z.1 j∧gi z.1 j < z.2.2.1.length)∧gi z.2.2.1 (gi z.1 j)=i∧gi z.2.2.2 (gi z.1 j)=j) (fun z=>(n - z.2.1).toNat)
   ⟨⟨by show (0:Int)≤0; omega,by show (0:Int)≤_; omega⟩,rfl,⟨ht,by show (f.length:Int)≤4 * i+0; omega⟩,⟨hF,hT⟩,hA,hN,fun j j0 j1=>by dsimp only at j1; omega⟩ ?_
  rintro ⟨row,j,f,t⟩ ⟨⟨j0,j1⟩,BL,⟨ht,hf⟩,⟨hF,hT⟩,hA,hN,hR⟩
  dsimp only at j0 j1 BL ht hf hF hT hA hN hR
  show Ok (kW x i row j f t) _
  unfold kW
  rw [hx]
  refine od (fun hj=>?_) fun hj=>os ⟨rfl,?_⟩
  ·have hw:=w1 j0 hj (by omega)
   have Oc:=rl i i0 hi
   refine fw (by omega) (by omega) (oe (qt i0 (by omega)) (oe (bV j0 (by omega)) (oc (fun e1=>fw (by omega) (by omega) (fw (by omega) (by omega) (os ⟨⟨⟨?_,?_⟩,?_,⟨?_,?_⟩,⟨jw hF ⟨i0,hi⟩,jw hT ⟨j0,hj⟩⟩,fun k k0 k1=>?_,fun i' j' a b c d e=>?_,fun j' a b e=>?_⟩,?_⟩))) fun e1=>os ⟨⟨⟨?_,?_⟩,?_,⟨ht,?_⟩,⟨hF,hT⟩,hA,hN,fun j' a b e=>?_⟩,?_⟩)))
   all_goals first | (dsimp only at b; rw [hw] at b) | skip
   all_goals try dsimp only
   all_goals first | (rw [hw]; simp only [List.length_append,List.length_singleton]; omega) | (rw [hw]; omega) | (simp only [List.length_append,List.length_singleton]; omega) | skip
   ·dsimp only at k1
    simp only [List.length_append,List.length_singleton] at k1
    rw [mm k0,mm k0,ht]
    by_cases e:k < f.length
    ·rw [if_pos e,if_pos e]; exact hA k k0 e
    ·rw [if_neg e,if_pos (by omega),if_neg e,if_pos (by omega)]
     simpa using e1
   ·obtain ⟨h1,h2,h3⟩:=hN i' j' a b c d e
    refine ⟨⟨h1.1,by rw [List.length_append]; omega⟩,?_,?_⟩
    ·rw [mm h1.1,if_pos h1.2]; exact h2
    ·rw [mm h1.1,if_pos (by omega)]; exact h3
   ·rw [mm a]
    by_cases e4:j' < j
    ·rw [if_pos (by omega)]
     obtain ⟨h1,h2,h3⟩:=hR j' a e4 e
     refine ⟨⟨h1.1,by rw [List.length_append]; omega⟩,?_,?_⟩
     ·rw [mm h1.1,if_pos h1.2]; exact h2
     ·rw [mm h1.1,if_pos (by omega)]; exact h3
    ·rw [if_neg (by omega),if_pos (by omega)]
     refine ⟨⟨by omega,by rw [List.length_append,List.length_singleton]; omega⟩,?_,?_⟩
     ·rw [mm (by omega),if_neg (by omega),if_pos rfl]
     ·rw [mm (by omega),if_neg (by omega),if_pos (by omega)]; omega
   ·rw [mm a]
    by_cases e4:j' < j
    ·rw [if_pos (by omega)]; exact hR j' a e4 e
    ·rw [show j'=j by omega] at e
     rw [e] at e1
     simp at e1
  ·have hw:=w1 i0 hi (by omega)
   refine fw (by omega) (by omega) (os ⟨⟨⟨?_,?_⟩,⟨?_,jw hr (by omega)⟩,⟨ht,?_⟩,⟨hF,hT⟩,hA,fun i' j' a b c d e=>?_⟩,?_⟩)
   all_goals first | (dsimp only at b; rw [hw] at b) | skip
   all_goals try dsimp only
   all_goals first | (rw [hw]; simp only [List.length_append,List.length_singleton]; omega) | (rw [hw]; omega) | skip
   rw [CJ a]
   by_cases e4:i' < i
   ·rw [if_pos (by omega)]; exact hN i' j' a e4 c d e
   ·rw [if_neg (by omega),if_pos (by omega)]
    rw [show i'=i by omega] at e
    rw [show i'=i by omega]
    exact hR j' c (by omega) e
 ·refine ol (fun z:Int×List Int=>(0≤z.1∧z.1≤n)∧(z.2.length:Int)=z.1∧∀ a:Int,0≤a→a < z.1→gi z.2 a=gi (gr num a) a) (fun z=>(n - z.1).toNat) ⟨⟨by show (0:Int)≤0; omega,by show (0:Int)≤_; omega⟩,rfl,fun a a0 a1=>by dsimp only at a1; omega⟩ ?_
  rintro ⟨a,id⟩ ⟨⟨a0,a1⟩,uz,hI⟩
  dsimp only at a0 a1 uz hI
  show Ok (kY x num a id) _
  unfold kY
  rw [hx]
  have nl:∀ i:Int,0≤i→i < n→(gr num i).length=n:=fun i i0 i1=>hr _ (pq i0 (by omega))
  refine od (fun ha=>?_) fun ha=>os ⟨rfl,?_⟩
  ·have hw:=w1 a0 ha (by omega)
   have:=nl a a0 ha
   refine oe (qt a0 (by omega)) (oe (bV a0 (by omega)) (fw (by omega) (by omega) (os ⟨⟨⟨?_,?_⟩,?_,fun b b0 b1=>?_⟩,?_⟩)))
   all_goals first | (dsimp only at b1; rw [hw] at b1) | skip
   all_goals try dsimp only
   all_goals first | (rw [hw]; simp only [List.length_append,List.length_singleton]; omega) | (rw [hw]; omega) | skip
   rw [mm b0]
   by_cases e4:b < a
   ·rw [if_pos (by omega)]; exact hI b b0 e4
   ·rw [if_neg (by omega),if_pos (by omega),show b=a by omega]
  ·refine ol (fun z:Int×List (List Int)=>(0≤z.1∧z.1≤f.length)∧(z.2.length:Int)=z.1∧(∀ y∈z.2,y.length=f.length)∧∀ b d:Int,0≤b→b < z.1→0≤d→d < f.length→gi (gr z.2 b) d=if gi t b=gi f d then gi (gr num (gi f b)) (gi t d) else -1) (fun z=>(f.length - z.1).toNat) ⟨⟨by show (0:Int)≤0; omega,by show (0:Int)≤_; omega⟩,rfl,jv,fun b d b0 b1=>by dsimp only at b1; omega⟩ ?_
   rintro ⟨b,k⟩ ⟨⟨b0,b1⟩,hk,nb,hK⟩
   dsimp only at b0 b1 hk nb hK
   show Ok (lA num f t b k) _
   unfold lA
   refine od (fun hb=>?_) fun hb=>os ⟨rfl,os ?_⟩
   ·refine ol (fun z:List Int×Int=>(0≤z.2∧z.2≤f.length)∧(z.1.length:Int)=z.2∧∀ d:Int,0≤d→d < z.2→gi z.1 d=if gi t b=gi f d then gi (gr num (gi f b)) (gi t d) else -1) (fun z=>(f.length - z.2).toNat) ⟨⟨by show (0:Int)≤0; omega,by show (0:Int)≤_; omega⟩,rfl,fun d d0 d1=>by dsimp only at d1; omega⟩ ?_
    rintro ⟨row,d⟩ ⟨⟨d0,d1⟩,bb,hD⟩
    dsimp only at d0 d1 bb hD
    show Ok (kZ num f t b row d) _
    unfold kZ
    refine od (fun hd=>?_) fun hd=>os ⟨rfl,?_⟩
    ·have hw:=w1 d0 hd (by omega)
     have Ho:=hF _ (gw b0 hb)
     have htd:=hT _ (gw (l:=t) d0 (by omega))
     have:=nl _ Ho.1 Ho.2
     have put:∀ v:Int,v=(if gi t b=gi f d then gi (gr num (gi f b)) (gi t d) else -1)→Ok (fits 8 (row.length+1)>>=fun _=>some (Out.norm (row++[v],ai (d+1)):Out (List Int×Int) aD)) (HY 8 (fun z:List Int×Int=>(0≤z.2∧z.2≤f.length)∧(z.1.length:Int)=z.2∧∀ d:Int,0≤d→d < z.2→gi z.1 d=if gi t b=gi f d then gi (gr num (gi f b)) (gi t d) else -1) (fun z=>(f.length - z.2).toNat) ((f.length:Int) - d).toNat (fun s=>Ok ((fun (s:List Int×Int)=>fits 24 (k.length+1)>>=fun _=>some (Out.norm (ai (b+1),k++[s.1]):Out (Int×List (List Int)) aD)) s) (HY 6 (fun z:Int×List (List Int)=>(0≤z.1∧z.1≤f.length)∧(z.2.length:Int)=z.1∧(∀ y∈z.2,y.length=f.length)∧∀ b d:Int,0≤b→b < z.1→0≤d→d < f.length→gi (gr z.2 b) d=if gi t b=gi f d then gi (gr num (gi f b)) (gi t d) else -1) (fun z=>(f.length - z.1).toNat) ((f.length:Int) - b).toNat (fun s=>Ok ((fun (s:Int×List (List Int))=>some (Out.ret (aD.mk (n:Int) f t id s.2):Out Unit aD)) s) (Rt fun c=>jb n (4 * n) c∧Ty c)) fun r=>Rt (S:=Unit) (fun c=>jb n (4 * n) c∧Ty c) (.ret r))) fun r=>HY 6 (fun z:Int×List (List Int)=>(0≤z.1∧z.1≤f.length)∧(z.2.length:Int)=z.1∧(∀ y∈z.2,y.length=f.length)∧∀ b d:Int,0≤b→b < z.1→0≤d→d < f.length→gi (gr z.2 b) d=if gi t b=gi f d then gi (gr num (gi f b)) (gi t d) else -1) (fun z=>(f.length - z.1).toNat) ((f.length:Int) - b).toNat (fun s=>Ok ((fun (s:Int×List (List Int))=>some (Out.ret (aD.mk (n:Int) f t id s.2):Out Unit aD)) s) (Rt fun c=>jb n (4 * n) c∧Ty c)) (fun r=>Rt (S:=Unit) (fun c=>jb n (4 * n) c∧Ty c) (.ret r)) (.ret r)):=by
      intro v hv
      refine fw (by omega) (by omega) (os ⟨⟨⟨?_,?_⟩,?_,fun d' WM Pm=>?_⟩,?_⟩)
      all_goals first | (dsimp only at Pm; rw [hw] at Pm) | skip
      all_goals try dsimp only
      all_goals first | (rw [hw]; simp only [List.length_append,List.length_singleton]; omega) | (rw [hw]; omega) | skip
      rw [mm WM]
      by_cases e4:d' < d
      ·rw [if_pos (by omega)]; exact hD d' WM e4
      ·rw [if_neg (by omega),if_pos (by omega),show d'=d by omega]; exact hv
     refine oe (bV (l:=t) b0 (by omega)) (oe (bV d0 hd) (oc (fun e1=>?_) fun e1=>?_))
     ·refine oe (bV b0 hb) (oe (qt Ho.1 (by omega)) (oe (bV (l:=t) d0 (by omega)) (oe (bV htd.1 (by omega)) (put _ ?_))))
      rw [if_pos (by simpa using e1)]
     ·refine put _ ?_
      rw [if_neg (by simpa using e1)]
    ·have hw:=w1 b0 hb (by omega)
     refine fw (by omega) (by omega) (os ⟨⟨⟨?_,?_⟩,?_,jw nb (by omega),fun b' d' a WN c Pm=>?_⟩,?_⟩)
     all_goals first | (dsimp only at WN; rw [hw] at WN) | skip
     all_goals try dsimp only
     all_goals first | (rw [hw]; simp only [List.length_append,List.length_singleton]; omega) | (rw [hw]; omega) | skip
     rw [CJ a]
     by_cases e4:b' < b
     ·rw [if_pos (by omega)]; exact hK b' d' a e4 c Pm
     ·rw [if_neg (by omega),if_pos (by omega),show b'=b by omega]
      exact hD d' c (by omega)
   ·have Ee:∀ a:Int,0≤a→a < n→(0≤gi id a∧gi id a < f.length)∧gi f (gi id a)=a∧gi t (gi id a)=a:=fun a a0 a1=>by
     rw [hI a a0 (by omega)]
     exact hN a a a0 (by omega) a0 a1 (re a a0 a1)
    refine ⟨⟨by dsimp only; omega,by dsimp only; omega,by dsimp only; omega,ht,by dsimp only; omega,by dsimp only; omega,nb⟩,⟨by dsimp only; omega,fun y hy=>by dsimp only at hy ⊢; exact hF y hy,ht,fun y hy=>by dsimp only at hy ⊢; exact hT y hy,by dsimp only; omega,nb,by dsimp only; omega,fun y hy=>?_,fun a a0 a1=>(Ee a a0 (by dsimp only at a1; omega)).2.1,fun a a0 a1=>(Ee a a0 (by dsimp only at a1; omega)).2.2,fun p q p0 p1 q0 q1 e=>?_,fun p q p0 p1 q0 q1 e=>?_,fun a a0 a1=>?_⟩⟩
    ·dsimp only at hy ⊢
     obtain ⟨a,a0,a1,rfl⟩:=xD hy
     exact (Ee a a0 (by omega)).1
    ·dsimp only at p1 q1 e ⊢
     have hv:gk k p q=gi (gr num (gi f p)) (gi t q):=by
      show gi (gr k p) q=_
      rw [hK p q p0 (by omega) q0 q1,if_pos e]
     have a1:=hA p p0 p1
     have a2:=hA q q0 q1
     rw [e] at a1
     have b1:=hF _ (gw p0 p1)
     have b2:=hF _ (gw q0 q1)
     have b3:=hT _ (gw (l:=t) q0 (by omega))
     have:=hN _ _ b1.1 (by omega) b3.1 b3.2 (tr _ _ _ b1.1 b1.2 b2.1 b2.2 b3.1 b3.2 a1 a2)
     rw [hv]
     exact ⟨this.1,this.2.1,this.2.2⟩
    ·dsimp only at p1 q1 e ⊢
     show gi (gr k p) q=_
     rw [hK p q p0 (by omega) q0 q1,if_neg e]
    ·dsimp only at a1 ⊢
     have d:=Ee a a0 (by omega)
     show gi (gr k (gi id a)) (gi id a)=gi id a
     rw [hK _ _ d.1.1 (by omega) d.1.1 d.1.2,if_pos (by rw [d.2.1,d.2.2]),d.2.1,d.2.2,hI a a0 (by omega)]
end Go.Proofs.YtcnehblmgfbfoaaGreat
set_option linter.unusedVariables false
set_option linter.unusedSimpArgs false
namespace Go.Proofs.YtcnehblmgfbfoaaGreat
open Go Go.Li
def Uu (c:aD):Bool:=
 decide (0≤c.aA) && (oq c.aA c.aB && ((c.To.length == c.aB.length) && (oq c.aA c.To && ((c.aC.length == c.aB.length) && ((c.aC.all fun r=>r.length == c.aB.length) && (((c.aF.length:Int) == c.aA) && (oq c.aB.length c.aF &&
 (((ns c.aA.toNat).all fun x=>(gi c.aB (gi c.aF x) == x) && ((gi c.To (gi c.aF x) == x) && (gk c.aC (gi c.aF x) (gi c.aF x) == gi c.aF x))) &&
 (ns c.aB.length).all fun f=>(ns c.aB.length).all fun g=>if gi c.To f=gi c.aB g then (decide (0≤gk c.aC f g) && (decide (gk c.aC f g < c.aB.length) && ((gi c.aB (gk c.aC f g) == gi c.aB f) && (gi c.To (gk c.aC f g) == gi c.To g)))) else gk c.aC f g == -1))))))))
theorem Pn {c:aD} (h:Uu c=true):Ty c:=by
 unfold Uu at h
 simp only [Bool.and_eq_true,decide_eq_true_eq,qX,beq_iff_eq,List.all_eq_true] at h
 obtain ⟨h1,h2,h3,h4,h5,h6,h7,h8,h9,WO⟩:=h
 refine ⟨h1,h2,h3,h4,h5,h6,h7,h8,fun x x0 x1=>(h9 x (ez.2 ⟨x0,by omega⟩)).1,fun x x0 x1=>(h9 x (ez.2 ⟨x0,by omega⟩)).2.1,fun f g f0 f1 g0 g1 e=>?_,fun f g f0 f1 g0 g1 e=>?_,fun x x0 x1=>(h9 x (ez.2 ⟨x0,by omega⟩)).2.2⟩
 ·have:=WO f (ez.2 ⟨f0,f1⟩) g (ez.2 ⟨g0,g1⟩)
  rw [if_pos e] at this
  simp only [Bool.and_eq_true,decide_eq_true_eq,beq_iff_eq] at this
  exact ⟨⟨this.1,this.2.1⟩,this.2.2.1,this.2.2.2⟩
 ·have:=WO f (ez.2 ⟨f0,f1⟩) g (ez.2 ⟨g0,g1⟩)
  rw [if_neg e] at this
  simpa using this
theorem Qk:Ok kR fun c=>jb 2 5 c∧Ty c:=by
 unfold kR
 exact km (os ⟨⟨by decide,by decide,by decide,rfl,rfl,rfl,by decide⟩,Pn rfl⟩)
theorem yE {l:List (List Int)} {n:Nat} (n0:1≤n) (h1:n≤4) (h:Sq n l) (hb:∀ r∈l,∀ y∈r,0≤y∧y < n) (h0:gk l 0 0=0):Ok (fY l) fun c=>jb 1 4 c∧Ty c:=by
 have hl:=h.len
 unfold fY
 refine km (Pa (by omega) (by omega) (by omega) (Pa (by omega) (by omega) (by omega) (oe (Gq l (by omega) fun y hy=>by have:=h.row y hy; omega) (os ?_))))
 have e:((l.length:Int)).toNat=n:=by omega
 have z:∀ i:Int,gi (List.replicate n (0:Int)) i=0:=fun i=>by
  unfold gi
  rw [List.getD_eq_getElem?_getD,List.getElem?_replicate]
  split <;> rfl
 rw [e]
 refine ⟨⟨by show (0:Int)≤1; omega,by show (1:Int)≤_; omega,?_,?_,rfl,?_,fun y hy=>?_⟩,⟨by show (0:Int)≤1; omega,fun y hy=>?_,?_,fun y hy=>?_,?_,fun y hy=>?_,rfl,fun y hy=>?_,fun y y0 y1=>?_,fun y y0 y1=>?_,fun f g f0 f1 g0 g1 _=>?_,fun f g f0 f1 g0 g1 ne=>?_,fun y y0 y1=>?_⟩⟩
 ·show (List.replicate _ _).length≤4; rw [List.length_replicate]; omega
 ·show (List.replicate _ _).length=(List.replicate _ _).length; rw [List.length_replicate]
 ·show l.length=(List.replicate _ _).length; rw [List.length_replicate]; omega
 ·show _=(List.replicate _ _).length; rw [List.length_replicate,h.row y hy]
 ·rw [(List.mem_replicate.1 hy).2]; exact ⟨Int.le_refl _,by show (0:Int) < 1; omega⟩
 ·show (List.replicate _ _).length=(List.replicate _ _).length; rw [List.length_replicate]
 ·rw [(List.mem_replicate.1 hy).2]; exact ⟨Int.le_refl _,by show (0:Int) < 1; omega⟩
 ·show l.length=(List.replicate _ _).length; rw [List.length_replicate]; omega
 ·show _=(List.replicate _ _).length; rw [List.length_replicate,h.row y hy]
 ·have hy:y=0:=List.mem_singleton.1 hy
  rw [hy]; exact ⟨Int.le_refl _,by show (0:Int) < ((List.replicate _ _).length:Nat); rw [List.length_replicate]; omega⟩
 ·have y1:y < 1:=y1
  show gi (List.replicate n 0) _=y; rw [z]; omega
 ·have y1:y < 1:=y1
  show gi (List.replicate n 0) _=y; rw [z]; omega
 ·dsimp only at f1 g1 ⊢
  rw [List.length_replicate] at f1 g1 ⊢
  have hr:=pq (l:=l) f0 (by omega)
  have:=hb _ hr _ (gw (l:=gr l f) g0 (by rw [h.row _ hr]; omega))
  exact ⟨this,by rw [z,z],by rw [z,z]⟩
 ·dsimp only at ne
  rw [z,z] at ne
  exact absurd rfl ne
 ·have y1:y < 1:=y1
  have hy:y=0:=by omega
  subst hy
  exact h0
theorem BB {x:List Int} (B:vx x) {s:aM} (S:Src x s):Ok (fX s) fun y=>(∃ n,1≤n∧n≤4∧Sq n y.1∧(∀ r∈y.1,∀ z∈r,0≤z∧z < n)∧gk y.1 0 0=0)∧Src x y.2:=by
 unfold fX
 refine km (ob (dw B S _) fun y hy=>?_)
 have T:Src x (aM.mk s.Code y.2.At y.2.av):=S.on hy.2
 refine oc (fun _=>os ⟨⟨1,by decide,by decide,⟨rfl,by simp⟩,by dsimp only; decide,rfl⟩,T⟩) fun _=>oc (fun _=>os ⟨⟨2,by decide,by decide,⟨rfl,by simp⟩,by dsimp only; decide,rfl⟩,T⟩) fun _=>oc (fun _=>os ⟨⟨2,by decide,by decide,⟨rfl,by simp⟩,by dsimp only; decide,rfl⟩,T⟩) fun _=>
  oc (fun _=>os ⟨⟨3,by decide,by decide,⟨rfl,by simp⟩,by dsimp only; decide,rfl⟩,T⟩) fun _=>oc (fun _=>os ⟨⟨3,by decide,by decide,⟨rfl,by simp⟩,by dsimp only; decide,rfl⟩,T⟩) fun _=>oc (fun _=>os ⟨⟨3,by decide,by decide,⟨rfl,by simp⟩,by dsimp only; decide,rfl⟩,T⟩) fun _=>
  oc (fun _=>os ⟨⟨4,by decide,by decide,⟨rfl,by simp⟩,by dsimp only; decide,rfl⟩,T⟩) fun _=>os ⟨⟨3,by decide,by decide,⟨rfl,by simp⟩,by dsimp only; decide,rfl⟩,T⟩
theorem aaK {c:aD} {a b:Nat} (C:jb a b c) (T:Ty c) (ha:a≤100000) (hb:b≤100000):Ok (nA c) fun e=>jb a b e∧Ty e:=by
 obtain ⟨c0,c1,c2,c3,c4,c5,c6⟩:=C
 unfold nA
 refine km (oe (jc _ (by omega)) (oe (jc _ (by omega)) (oe (jc _ (by omega)) ?_)))
 refine ol (fun z:Int×List (List Int)=>(0≤z.1∧z.1≤c.aB.length)∧(z.2.length:Int)=z.1∧(∀ y∈z.2,y.length=c.aB.length)∧∀ f g:Int,0≤f→f < z.1→0≤g→g < c.aB.length→gi (gr z.2 f) g=gk c.aC g f) (fun z=>(c.aB.length - z.1).toNat) ⟨⟨by show (0:Int)≤0; omega,by show (0:Int)≤_; omega⟩,rfl,jv,fun f g f0 f1=>by dsimp only at f1; omega⟩ ?_
 rintro ⟨i,k⟩ ⟨⟨i0,i1⟩,hk,nb,hK⟩
 dsimp only at i0 i1 hk nb hK
 show Ok (mR c i k) _
 unfold mR
 refine od (fun hi=>?_) fun hi=>os ⟨rfl,os ⟨⟨c0,c1,?_,?_,c4,?_,fun y hy=>?_⟩,⟨c0,fun y hy=>T.t y hy,c3.symm,fun y hy=>T.f y hy,?_,fun y hy=>?_,c4,fun y hy=>?_,fun y y0 y1=>T.rz y y0 y1,fun y y0 y1=>T.qK y y0 y1,fun f g f0 f1 g0 g1 e=>?_,fun f g f0 f1 g0 g1 e=>?_,fun y y0 y1=>?_⟩⟩⟩
 ·refine ol (fun z:List Int×Int=>(0≤z.2∧z.2≤c.aB.length)∧(z.1.length:Int)=z.2∧∀ g:Int,0≤g→g < z.2→gi z.1 g=gk c.aC g i) (fun z=>(c.aB.length - z.2).toNat) ⟨⟨by show (0:Int)≤0; omega,by show (0:Int)≤_; omega⟩,rfl,fun f f0 f1=>by dsimp only at f1; omega⟩ ?_
  rintro ⟨row,j⟩ ⟨⟨j0,j1⟩,bb,hR⟩
  dsimp only at j0 j1 bb hR
  show Ok (mQ c i row j) _
  unfold mQ
  refine od (fun hj=>?_) fun hj=>os ⟨rfl,?_⟩
  ·have hw:=w1 j0 hj (by omega)
   refine oe (T.mx j0 hj) (oe (T.l8 j0 hj i0 hi) (fw (by omega) (by omega) (os ⟨⟨⟨?_,?_⟩,?_,fun g g0 g1=>?_⟩,?_⟩)))
   all_goals first | (dsimp only at g1; rw [hw] at g1) | skip
   all_goals try dsimp only
   all_goals first | (rw [hw]; simp only [List.length_append,List.length_singleton]; omega) | (rw [hw]; omega) | skip
   rw [mm g0]
   by_cases e4:g < j
   ·rw [if_pos (by omega)]; exact hR g g0 e4
   ·rw [if_neg (by omega),if_pos (by omega),show g=j by omega]
  ·have hw:=w1 i0 hi (by omega)
   refine fw (by omega) (by omega) (os ⟨⟨⟨?_,?_⟩,?_,jw nb (by omega),fun f g f0 f1 g0 g1=>?_⟩,?_⟩)
   all_goals first | (dsimp only at f1; rw [hw] at f1) | skip
   all_goals try dsimp only
   all_goals first | (rw [hw]; simp only [List.length_append,List.length_singleton]; omega) | (rw [hw]; omega) | skip
   rw [CJ f0]
   by_cases e4:f < i
   ·rw [if_pos (by omega)]; exact hK f g f0 e4 g0 g1
   ·rw [if_neg (by omega),if_pos (by omega),show f=i by omega]; exact hR g g0 (by omega)
 ·dsimp only; omega
 ·dsimp only; omega
 ·dsimp only; omega
 ·have:=nb y hy; dsimp only; omega
 ·dsimp only; omega
 ·have:=nb y hy; dsimp only; omega
 ·have:=T.i y hy; dsimp only; omega
 ·dsimp only at f1 g1 e ⊢
  rw [show gk k f g=gk c.aC g f from hK f g f0 (by omega) g0 (by omega)]
  have:=T.cell g f g0 (by omega) f0 (by omega) e.symm
  exact ⟨by omega,this.2.2,this.2.1⟩
 ·dsimp only at f1 g1 e ⊢
  rw [show gk k f g=gk c.aC g f from hK f g f0 (by omega) g0 (by omega)]
  exact T.none g f g0 (by omega) f0 (by omega) fun h=>e h.symm
 ·have kx:=T.id (x:=y) y0 y1
  show gk k (gi c.aF y) (gi c.aF y)=gi c.aF y
  rw [show gk k (gi c.aF y) (gi c.aF y)=gk c.aC (gi c.aF y) (gi c.aF y) from hK _ _ kx.1 (by omega) kx.1 kx.2]
  exact T.uu y y0 y1
theorem Hz {n m:Nat} {g:Int→Int→List Int} {a b:Int} (a0:0≤a) (a1:a < n) (b0:0≤b) (b1:b < m):gr (iy n m g) (a * m+b)=g a b:=by
 obtain ⟨i,rfl⟩ : ∃ k:Nat,a=k:=⟨a.toNat,by omega⟩
 obtain ⟨j,rfl⟩ : ∃ k:Nat,b=k:=⟨b.toNat,by omega⟩
 have h:=Gv g (a:=i) (b:=j) (n:=n) (m:=m) (by omega) (by omega)
 unfold gr
 rw [List.getD_eq_getElem?_getD,show ((i:Int) * (m:Int)+(j:Int)).toNat=i * m+j by
  rw [← Int.natCast_mul,← Int.natCast_add]; rfl,h]; rfl
theorem o3 {n m:Nat} {k:Int} (k0:0≤k) (h:k < (n * m:Nat)):∃ a b:Int,(0≤a∧a < n)∧(0≤b∧b < m)∧k=a * m+b:=by
 obtain ⟨a,b,ha,hb,e⟩:=TY (n:=n) (m:=m) (k:=k.toNat) (by omega)
 refine ⟨a,b,⟨by omega,by omega⟩,⟨by omega,by omega⟩,?_⟩
 have:(k.toNat:Int)=((a * m+b:Nat):Int):=by rw [e]
 rw [show ((k.toNat:Nat):Int)=k by omega] at this
 rw [this,Int.natCast_add,Int.natCast_mul]
theorem rL {m:Int} {a b c d:Int} (b0:0≤b) (b1:b < m) (d0:0≤d) (d1:d < m) (h:a * m+b=c * m+d):a=c∧b=d:=by
 have hm:0 < m:=by omega
 have h1:(a * m+b) / m=a:=by
  rw [Int.add_comm,Int.add_mul_ediv_right _ _ (by omega),Int.ediv_eq_zero_of_lt b0 b1,Int.zero_add]
 have h2:(c * m+d) / m=c:=by
  rw [Int.add_comm,Int.add_mul_ediv_right _ _ (by omega),Int.ediv_eq_zero_of_lt d0 d1,Int.zero_add]
 have e:a=c:=by rw [← h1,h,h2]
 subst e
 exact ⟨rfl,by omega⟩
theorem gx {n m a b:Int} (a0:0≤a) (a1:a < n) (b0:0≤b) (b1:b < m):0≤a * m+b∧a * m+b < n * m:=by
 have h1:0≤a * m:=Int.mul_nonneg a0 (by omega)
 have h2:(a+1) * m≤n * m:=Int.mul_le_mul_of_nonneg_right (by omega) (by omega)
 rw [Int.add_mul,Int.one_mul] at h2
 omega
theorem Fu {c d:aD} (C:Ty c) (D:Ty d):Ty (bn c d):=by
 have c0:=C.o0
 have d0:=D.o0
 have zn:((c.aA.toNat * d.aA.toNat:Nat):Int)=c.aA * d.aA:=by
  rw [Int.natCast_mul,Int.toNat_of_nonneg c0,Int.toNat_of_nonneg d0]
 have ht:((d.aA.toNat:Nat):Int)=d.aA:=Int.toNat_of_nonneg d0
 have lf:(bn c d).aB.length=c.aB.length * d.aB.length:=dk _ _ _
 have lI:((c.aB.length * d.aB.length:Nat):Int)=(c.aB.length:Int) * (d.aB.length:Int):=Int.natCast_mul _ _
 have F:∀ {a b:Int},0≤a→a < c.aB.length→0≤b→b < d.aB.length→gi (bn c d).aB (a * d.aB.length+b)=gi c.aB a * d.aA+gi d.aB b:=fun a0 a1 b0 b1=>oK a0 a1 b0 b1
 have T:∀ {a b:Int},0≤a→a < c.aB.length→0≤b→b < d.aB.length→gi (bn c d).To (a * d.aB.length+b)=gi c.To a * d.aA+gi d.To b:=fun a0 a1 b0 b1=>oK a0 a1 b0 b1
 have I:∀ {a b:Int},0≤a→a < c.aA→0≤b→b < d.aA→gi (bn c d).aF (a * d.aA+b)=gi c.aF a * d.aB.length+gi d.aF b:=fun a0 a1 b0 b1=>by
  have:=oK (n:=c.aA.toNat) (m:=d.aA.toNat) (g:=fun x y=>gi c.aF x * d.aB.length+gi d.aF y) a0 (by omega) b0 (by omega)
  rwa [ht] at this
 have K:∀ {a b f g:Int},0≤a→a < c.aB.length→0≤b→b < d.aB.length→0≤f→f < c.aB.length→0≤g→g < d.aB.length→gk (bn c d).aC (a * d.aB.length+b) (f * d.aB.length+g)=kp c d a b f g:=fun a0 a1 b0 b1 f0 f1 g0 g1=>by
  show gi (gr _ _) _=_
  rw [show gr (bn c d).aC _=_ from Hz a0 a1 b0 b1,oK f0 f1 g0 g1]
 refine ⟨Int.mul_nonneg c0 d0,fun y hy=>?_,?_,fun y hy=>?_,?_,fun r hr=>?_,?_,fun y hy=>?_,fun y y0 y1=>?_,fun y y0 y1=>?_,fun p q p0 p1 q0 q1 e=>?_,fun p q p0 p1 q0 q1 e=>?_,fun y y0 y1=>?_⟩
 ·obtain ⟨a,b,ha,hb,rfl⟩:=yy.1 hy
  have h1:=C.fr ha.1 ha.2
  have h2:=D.fr hb.1 hb.2
  exact gx h1.1 h1.2 h2.1 h2.2
 ·exact (dk _ _ _).trans (dk _ _ _).symm
 ·obtain ⟨a,b,ha,hb,rfl⟩:=yy.1 hy
  have h1:=C.to ha.1 ha.2
  have h2:=D.to hb.1 hb.2
  exact gx h1.1 h1.2 h2.1 h2.2
 ·exact (dk _ _ _).trans (dk _ _ _).symm
 ·obtain ⟨a,b,ha,hb,rfl⟩:=yy.1 hr
  exact (dk _ _ _).trans (dk _ _ _).symm
 ·rw [show (bn c d).aF.length=_ from dk _ _ _,zn]; rfl
 ·obtain ⟨a,b,ha,hb,rfl⟩:=yy.1 hy
  have h1:=C.id ha.1 (by omega)
  have h2:=D.id hb.1 (by omega)
  rw [lf,lI]
  exact gx h1.1 h1.2 h2.1 h2.2
 ·have y1:y < c.aA * d.aA:=y1
  obtain ⟨a,b,ha,hb,rfl⟩:=o3 (n:=c.aA.toNat) (m:=d.aA.toNat) y0 (by omega)
  rw [ht] at hb ⊢
  have h1:=C.id ha.1 (by omega)
  have h2:=D.id hb.1 (by omega)
  rw [I ha.1 (by omega) hb.1 hb.2,F h1.1 h1.2 h2.1 h2.2,C.qK a ha.1 (by omega),D.qK b hb.1 hb.2]
 ·have y1:y < c.aA * d.aA:=y1
  obtain ⟨a,b,ha,hb,rfl⟩:=o3 (n:=c.aA.toNat) (m:=d.aA.toNat) y0 (by omega)
  rw [ht] at hb ⊢
  have h1:=C.id ha.1 (by omega)
  have h2:=D.id hb.1 (by omega)
  rw [I ha.1 (by omega) hb.1 hb.2,T h1.1 h1.2 h2.1 h2.2,C.rz a ha.1 (by omega),D.rz b hb.1 hb.2]
 ·rw [lf] at p1 q1
  obtain ⟨a,b,ha,hb,rfl⟩:=o3 p0 p1
  obtain ⟨f,g,hf,hg,rfl⟩:=o3 q0 q1
  rw [T ha.1 ha.2 hb.1 hb.2,F hf.1 hf.2 hg.1 hg.2] at e
  have t1:=D.to hb.1 hb.2
  have t2:=D.fr hg.1 hg.2
  obtain ⟨e1,e2⟩:=rL t1.1 t1.2 t2.1 t2.2 e
  have h1:=C.cell a f ha.1 ha.2 hf.1 hf.2 e1
  have h2:=D.cell b g hb.1 hb.2 hg.1 hg.2 e2
  rw [K ha.1 ha.2 hb.1 hb.2 hf.1 hf.2 hg.1 hg.2]
  unfold kp
  rw [if_pos ⟨h1.1.1,h2.1.1⟩,F h1.1.1 h1.1.2 h2.1.1 h2.1.2,T h1.1.1 h1.1.2 h2.1.1 h2.1.2,F ha.1 ha.2 hb.1 hb.2,T hf.1 hf.2 hg.1 hg.2,h1.2.1,h1.2.2,h2.2.1,h2.2.2,lf,lI]
  exact ⟨gx h1.1.1 h1.1.2 h2.1.1 h2.1.2,rfl,rfl⟩
 ·rw [lf] at p1 q1
  obtain ⟨a,b,ha,hb,rfl⟩:=o3 p0 p1
  obtain ⟨f,g,hf,hg,rfl⟩:=o3 q0 q1
  rw [T ha.1 ha.2 hb.1 hb.2,F hf.1 hf.2 hg.1 hg.2] at e
  rw [K ha.1 ha.2 hb.1 hb.2 hf.1 hf.2 hg.1 hg.2]
  unfold kp
  refine if_neg fun hh=>e ?_
  have k1:gi c.To a=gi c.aB f:=Classical.byContradiction fun ne=>by
   have:=C.none a f ha.1 ha.2 hf.1 hf.2 ne
   have:=hh.1
   omega
  have k2:gi d.To b=gi d.aB g:=Classical.byContradiction fun ne=>by
   have:=D.none b g hb.1 hb.2 hg.1 hg.2 ne
   have:=hh.2
   omega
  rw [k1,k2]
 ·have y1:y < c.aA * d.aA:=y1
  obtain ⟨a,b,ha,hb,rfl⟩:=o3 (n:=c.aA.toNat) (m:=d.aA.toNat) y0 (by omega)
  rw [ht] at hb ⊢
  have h1:=C.id ha.1 (by omega)
  have h2:=D.id hb.1 (by omega)
  rw [I ha.1 (by omega) hb.1 hb.2,K h1.1 h1.2 h2.1 h2.2 h1.1 h1.2 h2.1 h2.2]
  unfold kp
  rw [C.uu a ha.1 (by omega),D.uu b hb.1 hb.2,if_pos ⟨h1.1,h2.1⟩]
end Go.Proofs.YtcnehblmgfbfoaaGreat
set_option linter.unusedVariables false
set_option linter.unusedSimpArgs false
namespace Go.Proofs.YtcnehblmgfbfoaaGreat
open Go Go.Li
theorem iT {l r:List Int} {j:Int} (h0:0≤j):gi (l++r) j=if j < l.length then gi l j else gi r (j - l.length):=by
 obtain ⟨n,rfl⟩ : ∃ n:Nat,j=n:=⟨j.toNat,by omega⟩
 unfold gi
 rw [List.getD_eq_getElem?_getD,List.getD_eq_getElem?_getD,List.getD_eq_getElem?_getD,show ((n:Int)).toNat=n from rfl]
 by_cases h:n < l.length
 ·rw [List.getElem?_append_left h,if_pos (by omega)]
 ·rw [List.getElem?_append_right (by omega),if_neg (by omega),show ((n:Int) - (l.length:Int)).toNat=n - l.length by omega]
theorem CM {l r:List (List Int)} {j:Int} (h0:0≤j):gr (l++r) j=if j < l.length then gr l j else gr r (j - l.length):=by
 obtain ⟨n,rfl⟩ : ∃ n:Nat,j=n:=⟨j.toNat,by omega⟩
 unfold gr
 rw [List.getD_eq_getElem?_getD,List.getD_eq_getElem?_getD,List.getD_eq_getElem?_getD,show ((n:Int)).toNat=n from rfl]
 by_cases h:n < l.length
 ·rw [List.getElem?_append_left h,if_pos (by omega)]
 ·rw [List.getElem?_append_right (by omega),if_neg (by omega),show ((n:Int) - (l.length:Int)).toNat=n - l.length by omega]
theorem uV {n:Nat} {g:Int→List Int} {i:Int} (h0:0≤i) (h1:i < n):gr (bj n g) i=g i:=by
 obtain ⟨k,rfl⟩ : ∃ k:Nat,i=k:=⟨i.toNat,by omega⟩
 have h:=ja g (i:=k) (n:=n) (by omega)
 unfold gr
 rw [List.getD_eq_getElem?_getD,show ((k:Int)).toNat=k from rfl,h]; rfl
theorem LA {n:Nat} {v i:Int} (h0:0≤i) (h1:i < n):gi (List.replicate n v) i=v:=by
 have _:=h0
 unfold gi
 rw [List.getD_eq_getElem?_getD,List.getElem?_replicate,if_pos (by omega)]; rfl
def DE (m h:Int):Int:=if 0≤h then h+m else h
def ay (c d:aD):aD:=
 ⟨c.aA+d.aA,c.aB++bj d.aB.length (fun f=>gi d.aB f+c.aA),c.To++bj d.aB.length (fun f=>gi d.To f+c.aA),c.aF++bj d.aA.toNat (fun y=>gi d.aF y+c.aB.length),
  (bj c.aB.length fun f=>gr c.aC f++List.replicate d.aB.length (-1))++bj d.aB.length fun f=>List.replicate c.aB.length (-1)++bj d.aB.length fun g=>DE c.aB.length (gk d.aC f g)⟩
theorem DG (l:List (List Int)):bj l.length (fun f=>gr l f)=l:=by
 refine List.ext_getElem? fun i=>?_
 by_cases h:i < l.length
 ·rw [ja _ h,List.getElem?_eq_getElem h]
  unfold gr
  rw [List.getD_eq_getElem?_getD,show ((i:Int)).toNat=i from rfl,List.getElem?_eq_getElem h]; rfl
 ·rw [List.getElem?_eq_none (by rw [aW]; omega),List.getElem?_eq_none (by omega)]
theorem JC (n:Nat) (v:Int):bj n (fun _=>v)=List.replicate n v:=by
 induction n with
 | zero=>rfl
 | succ n ih=>rw [ib,ih,List.replicate_succ']
theorem N3 {n:Nat} {g:Int→List Int} {i:Nat} (h:i < n) (v:List Int) (hv:∀ k:Nat,k < i→True):(bj n g).set i v=bj n fun k=>if k=(i:Int) then v else g k:=by
 have _:=hv
 refine List.ext_getElem? fun k=>?_
 rw [List.getElem?_set]
 by_cases e:i=k
 ·subst e
  rw [if_pos rfl,if_pos (by rw [aW]; exact h),ja _ h,if_pos rfl]
 ·rw [if_neg e]
  by_cases hk:k < n
  ·rw [ja _ hk,ja _ hk,if_neg (by omega)]
  ·rw [List.getElem?_eq_none (by rw [aW]; omega),List.getElem?_eq_none (by rw [aW]; omega)]
theorem C5 {c d:aD} {a b a' b':Nat} (C:jb a b c) (D:jb a' b' d) (T:Ty c) (U:Ty d) (ha:a+a'≤100000) (hb:b+b'≤100000):fB c d=some (ay c d):=by
 obtain ⟨c0,c1,c2,c3,c4,c5,c6⟩:=C
 obtain ⟨d0,d1,d2,d3,d4,d5,d6⟩:=D
 have hs:dv c:=⟨by omega,by omega,by omega,by omega,fun y hy=>by have:=c6 y hy; omega⟩
 obtain ⟨nd,cq⟩ : ∃ n:Nat,d.aA=n:=⟨d.aA.toNat,by omega⟩
 unfold fB
 rw [vY hs,aE]
 refine (congrArg an (np nd (fun y=>gi d.aF y+c.aB.length) c.aF (fun acc i=>((i:Int),acc)) rfl ?_ ?_)).trans ?_
 ·intro i acc hi hl
  show eP c d i acc=_
  unfold eP
  have h:=U.id (x:=(i:Int)) (by omega) (by omega)
  rw [au (by omega:(i:Int) < d.aA),cond_true,U.l6 (by omega) (by omega),aE,cB (by omega) (by omega),aE,bD (by omega),bX (by omega) (by omega)]
 ·intro acc _
  show eP c d _ acc=_
  unfold eP
  rw [ba (by omega),cond_false]
 dsimp only
 have rows:∀ i:Nat,(bj c.aB.length fun f=>if f < (i:Int) then gr c.aC f++List.replicate d.aB.length (-1) else gr c.aC f).length=c.aB.length:=fun i=>aW _ _
 refine (congrArg an (jj (ns c.aB.length) (fun i=>((i:Int),bj c.aB.length fun f=>if f < (i:Int) then gr c.aC f++List.replicate d.aB.length (-1) else gr c.aC f)) ?_ (fun i x hx=>?_) (e:=((c.aB.length:Int),bj c.aB.length fun f=>gr c.aC f++List.replicate d.aB.length (-1))) ?_)).trans ?_
 ·show ((0:Int),_)=((0:Int),c.aC)
  congr 1
  refine (sW fun i hi=>?_).trans ((congrArg (fun n=>bj n fun f=>gr c.aC f) c5.symm).trans (DG c.aC))
  rw [if_neg (by omega)]
 ·obtain ⟨rfl,hi⟩:=fl hx
  show eR d (i:Int) _=_
  unfold eR
  rw [rows,au (by omega:(i:Int) < (c.aB.length:Int)),cond_true]
  have bb:(gr c.aC i).length=c.aB.length:=c6 _ (pq (by omega) (by omega))
  refine (jj (ns d.aB.length) (fun j=>((j:Int),(bj c.aB.length fun f=>if f < (i:Int) then gr c.aC f++List.replicate d.aB.length (-1) else if f=(i:Int) then gr c.aC f++List.replicate j (-1) else gr c.aC f))) ?_ (fun j y hy=>?_) (e:=((d.aB.length:Int),bj c.aB.length fun f=>if f < (i:Int) then gr c.aC f++List.replicate d.aB.length (-1) else if f=(i:Int) then gr c.aC f++List.replicate d.aB.length (-1) else gr c.aC f)) ?_).trans ?_
  ·show ((0:Int),_)=((0:Int),_)
   congr 1
   refine sW fun k hk=>?_
   split
   ·rfl
   ·split
    ·rw [List.replicate_zero,List.append_nil]
    ·rfl
  ·obtain ⟨rfl,hj⟩:=fl hy
   have hg:idx (bj c.aB.length fun f=>if f < (i:Int) then gr c.aC f++List.replicate d.aB.length (-1) else if f=(i:Int) then gr c.aC f++List.replicate j (-1) else gr c.aC f) (i:Int)=some (gr c.aC i++List.replicate j (-1)):=by
    rw [bw,ja _ hi,if_neg (by omega),if_pos rfl]
   show eQ d i (j:Int) _=_
   unfold eQ
   rw [au (by omega:(j:Int) < (d.aB.length:Int)),cond_true,hg,aE,cB (by rw [List.length_append,List.length_replicate]; omega) (by rw [List.length_append,List.length_replicate]; omega),aE,aE,bD (by omega),Int.toNat_natCast,N3 hi _ (fun _ _=>trivial)]
   refine congrArg (fun l:List (List Int)=>(some (Out.norm (((j+1:Nat):Int),l)):Option (Out (Int×List (List Int)) aD))) (sW fun k hk=>?_)
   by_cases e:(k:Int)=i
   ·rw [if_pos e,if_neg (by omega),if_pos e,List.append_assoc,← List.replicate_succ',e]
   ·rw [if_neg e]
    split
    ·rfl
    ·simp only [if_neg e]
  ·rw [cA]
   show eQ d i _ _=_
   unfold eQ
   rw [ba (by omega),cond_false]
  ·dsimp only
   rw [bD (by omega)]
   refine congrArg (fun l:List (List Int)=>(some (Out.norm (((i+1:Nat):Int),l)):Option (Out (Int×List (List Int)) aD))) (sW fun k hk=>?_)
   by_cases e:(k:Int) < i
   ·rw [if_pos e,if_pos (by omega)]
   ·rw [if_neg e]
    by_cases e2:(k:Int)=i
    ·rw [if_pos e2,if_pos (by omega)]
    ·rw [if_neg e2,if_neg (by omega)]
 ·rw [cA]
  show eR d _ _=_
  unfold eR
  rw [rows,ba (by omega),cond_false]
  refine congrArg (fun l:List (List Int)=>(some (Out.exit 2 ((c.aB.length:Int),l)):Option (Out (Int×List (List Int)) aD))) (sW fun k hk=>?_)
  rw [if_pos (by omega)]
 dsimp only
 refine (congrArg an (jj (ns d.aB.length) (fun i=>((i:Int),c.aB++bj i (fun f=>gi d.aB f+c.aA),c.To++bj i (fun f=>gi d.To f+c.aA),(bj c.aB.length fun f=>gr c.aC f++List.replicate d.aB.length (-1))++bj i fun f=>List.replicate c.aB.length (-1)++bj d.aB.length fun g=>DE c.aB.length (gk d.aC f g))) ?_ (fun i x hx=>?_) (e:=((d.aB.length:Int),(ay c d).aB,(ay c d).To,(ay c d).aC)) ?_)).trans ?_
 ·show ((0:Int),c.aB++[],c.To++[],_++[])=_
  rw [List.append_nil,List.append_nil,List.append_nil]
 ·obtain ⟨rfl,hi⟩:=fl hx
  have hf:=U.fr (f:=(i:Int)) (by omega) (by omega)
  have ht:=U.to (f:=(i:Int)) (by omega) (by omega)
  show eV c d (i:Int) _ _ _=_
  unfold eV
  rw [au (by omega:(i:Int) < (d.aB.length:Int)),cond_true,U.j5 (by omega) (by omega),aE,cB (by rw [List.length_append,aW]; omega) (by rw [List.length_append,aW]; omega),aE,U.ke (by omega) (by omega),aE,cB (by rw [List.length_append,aW]; omega) (by rw [List.length_append,aW]; omega),aE]
  refine (np c.aB.length (fun _=>(-1:Int)) [] (fun acc j=>(acc,(j:Int))) rfl ?_ ?_).trans ?_
  ·intro j acc hj hl
   simp only [List.length_nil,Nat.zero_add] at hl
   show eS c acc (j:Int)=_
   unfold eS
   rw [au (by omega:(j:Int) < (c.aB.length:Int)),cond_true,cB (by omega) (by omega),aE,bD (by omega)]
  ·intro acc _
   show eS c acc _=_
   unfold eS
   rw [ba (by omega),cond_false]
  dsimp only
  rw [List.nil_append,JC]
  refine (np d.aB.length (fun g=>DE c.aB.length (gk d.aC i g)) (List.replicate c.aB.length (-1)) (fun acc j=>(acc,(j:Int))) rfl ?_ ?_).trans ?_
  ·intro j acc hj hl
   rw [List.length_replicate] at hl
   have hc:=U.uX (f:=(i:Int)) (g:=(j:Int)) (by omega) (by omega) (by omega) (by omega)
   show eU c d (i:Int) acc (j:Int)=_
   unfold eU
   rw [au (by omega:(j:Int) < (d.aB.length:Int)),cond_true,U.mx (by omega) (by omega),aE,U.l8 (by omega) (by omega) (by omega) (by omega),aE]
   unfold DE
   by_cases e:0≤gk d.aC i j
   ·rw [au (show gk d.aC i j ≥ 0 from e),cond_true,cB (by omega) (by omega),aE,bD (by omega),bX (by omega) (by omega),if_pos e]
   ·rw [ba (show ¬ gk d.aC i j ≥ 0 from e),cond_false,cB (by omega) (by omega),aE,bD (by omega),if_neg e]
  ·intro acc _
   show eU c d (i:Int) acc _=_
   unfold eU
   rw [ba (by omega),cond_false]
  ·dsimp only
   rw [cB (by rw [List.length_append,aW,aW]; omega) (by rw [List.length_append,aW,aW]; omega),aE,bD (by omega),bX (by omega) (by omega),bX (by omega) (by omega),ib,ib,ib,List.append_assoc,List.append_assoc,List.append_assoc]
 ·rw [cA]
  show eV c d _ _ _ _=_
  unfold eV
  rw [ba (by omega),cond_false]; rfl
 ·show some _=_
  rw [bX (by omega) (by omega)]
  unfold ay
  rw [cq]; rfl
section
variable {c d:aD} (T:Ty c) (U:Ty d)
include T U
theorem nj:(ay c d).aB.length=c.aB.length+d.aB.length:=by
 have _:=T
 have _:=U
 show (_++_:List Int).length=_; rw [List.length_append,aW]
theorem nr {f:Int} (f0:0≤f) (f1:f < c.aB.length):gi (ay c d).aB f=gi c.aB f:=by
 have _:=T
 have _:=U
 show gi (_++_) f=_; rw [iT f0,if_pos f1]
theorem rA {f:Int} (f0:0≤f) (f1:f < d.aB.length):gi (ay c d).aB (c.aB.length+f)=gi d.aB f+c.aA:=by
 have _:=T
 have _:=U
 show gi (_++_) _=_; rw [iT (by omega),if_neg (by omega),show (c.aB.length:Int)+f - c.aB.length=f by omega,ei f0 f1]
theorem p7 {f:Int} (f0:0≤f) (f1:f < c.aB.length):gi (ay c d).To f=gi c.To f:=by
 have _:=U
 show gi (_++_) f=_; rw [iT f0,if_pos (by rw [T.tl]; exact f1)]
theorem qo {f:Int} (f0:0≤f) (f1:f < d.aB.length):gi (ay c d).To (c.aB.length+f)=gi d.To f+c.aA:=by
 have _:=U
 show gi (_++_) _=_; rw [iT (by omega),if_neg (by rw [T.tl]; omega),show (c.aB.length:Int)+f - c.To.length=f by rw [T.tl]; omega,ei f0 f1]
theorem mc {f g:Int} (f0:0≤f) (f1:f < c.aB.length) (g0:0≤g) (g1:g < c.aB.length):gk (ay c d).aC f g=gk c.aC f g:=by
 have _:=U
 show gi (gr (_++_) f) g=_
 rw [CM f0,if_pos (by rw [aW]; exact f1),uV f0 f1,iT g0,if_pos (by rw [T.row f0 f1]; exact g1)]; rfl
theorem Qo {f g:Int} (f0:0≤f) (f1:f < c.aB.length) (g0:0≤g) (g1:g < d.aB.length):gk (ay c d).aC f (c.aB.length+g) = -1:=by
 have _:=U
 show gi (gr (_++_) f) _=_
 rw [CM f0,if_pos (by rw [aW]; exact f1),uV f0 f1,iT (by omega),if_neg (by rw [T.row f0 f1]; omega),T.row f0 f1,LA (by omega) (by omega)]
theorem Qp {f g:Int} (f0:0≤f) (f1:f < d.aB.length) (g0:0≤g) (g1:g < c.aB.length):gk (ay c d).aC (c.aB.length+f) g = -1:=by
 have _:=T
 have _:=U
 show gi (gr (_++_) _) g=_
 rw [CM (by omega),if_neg (by rw [aW]; omega),aW,show (c.aB.length:Int)+f - c.aB.length=f by omega,uV f0 f1,iT g0,if_pos (by rw [List.length_replicate]; exact g1),LA g0 g1]
theorem Af {f g:Int} (f0:0≤f) (f1:f < d.aB.length) (g0:0≤g) (g1:g < d.aB.length):gk (ay c d).aC (c.aB.length+f) (c.aB.length+g)=DE c.aB.length (gk d.aC f g):=by
 have _:=T
 have _:=U
 show gi (gr (_++_) _) _=_
 rw [CM (by omega),if_neg (by rw [aW]; omega),aW,show (c.aB.length:Int)+f - c.aB.length=f by omega,uV f0 f1,iT (by omega),if_neg (by rw [List.length_replicate]; omega),List.length_replicate,show (c.aB.length:Int)+g - c.aB.length=g by omega,ei g0 g1]
theorem nq {f:Int} (f0:0≤f) (f1:f < (ay c d).aB.length):f < c.aB.length∨∃ g:Int,f=c.aB.length+g∧0≤g∧g < d.aB.length:=by
 rw [nj T U] at f1
 by_cases h:f < c.aB.length
 ·exact .inl h
 ·exact .inr ⟨f - c.aB.length,by omega,by omega,by omega⟩
theorem sM:Ty (ay c d):=by
 have c0:=T.o0
 have d0:=U.o0
 have ho:(ay c d).aA=c.aA+d.aA:=rfl
 have hl:=nj T U
 have Uv:=T.il
 have ttl:=T.tl
 have tkl:=T.kl
 have aiU:((d.aA.toNat:Nat):Int)=d.aA:=Int.toNat_of_nonneg d0
 refine ⟨by omega,fun y hy=>?_,?_,fun y hy=>?_,?_,fun r hr=>?_,?_,fun y hy=>?_,fun y y0 y1=>?_,fun y y0 y1=>?_,fun p q p0 p1 q0 q1 e=>?_,fun p q p0 p1 q0 q1 e=>?_,fun y y0 y1=>?_⟩
 ·rcases List.mem_append.1 hy with hy | hy
  ·have:=T.f y hy; omega
  ·obtain ⟨i,hi,rfl⟩:=ij.1 hy
   have:=U.fr hi.1 hi.2; omega
 ·rw [hl]; show (_++_:List Int).length=_; rw [List.length_append,aW,ttl]
 ·rcases List.mem_append.1 hy with hy | hy
  ·have:=T.t y hy; omega
  ·obtain ⟨i,hi,rfl⟩:=ij.1 hy
   have:=U.to hi.1 hi.2; omega
 ·rw [hl]; show (_++_:List (List Int)).length=_; rw [List.length_append,aW,aW]
 ·rw [hl]
  rcases List.mem_append.1 hr with hr | hr
  ·obtain ⟨i,hi,rfl⟩:=ij.1 hr
   rw [List.length_append,List.length_replicate,T.row hi.1 hi.2]
  ·obtain ⟨i,hi,rfl⟩:=ij.1 hr
   rw [List.length_append,List.length_replicate,aW]
 ·show ((_++_:List Int).length:Int)=_; rw [List.length_append,aW]; omega
 ·rw [hl]
  rcases List.mem_append.1 hy with hy | hy
  ·have:=T.i y hy; omega
  ·obtain ⟨i,hi,rfl⟩:=ij.1 hy
   have:=U.id hi.1 (by omega); omega
 ·show gi (ay c d).aB (gi (_++_) y)=y
  rw [iT y0,Uv]
  by_cases h:y < c.aA
  ·rw [if_pos h]
   have:=T.id y0 h
   rw [nr T U this.1 this.2,T.qK y y0 h]
  ·rw [if_neg h,ei (by omega) (by omega),Int.add_comm (gi d.aF _)]
   have:=U.id (x:=y - c.aA) (by omega) (by omega)
   rw [rA T U this.1 this.2,U.qK _ (by omega) (by omega)]; omega
 ·show gi (ay c d).To (gi (_++_) y)=y
  rw [iT y0,Uv]
  by_cases h:y < c.aA
  ·rw [if_pos h]
   have:=T.id y0 h
   rw [p7 T U this.1 this.2,T.rz y y0 h]
  ·rw [if_neg h,ei (by omega) (by omega),Int.add_comm (gi d.aF _)]
   have:=U.id (x:=y - c.aA) (by omega) (by omega)
   rw [qo T U this.1 this.2,U.rz _ (by omega) (by omega)]; omega
 ·rcases nq T U p0 p1 with hp | ⟨p,rfl,zW,hp⟩
  ·rcases nq T U q0 q1 with hq | ⟨q,rfl,xF,hq⟩
   ·rw [p7 T U p0 hp,nr T U q0 hq] at e
    have:=T.cell p q p0 hp q0 hq e
    rw [mc T U p0 hp q0 hq,nr T U this.1.1 this.1.2,p7 T U this.1.1 this.1.2,nr T U p0 hp,p7 T U q0 hq,hl]
    exact ⟨⟨this.1.1,by omega⟩,this.2.1,this.2.2⟩
   ·rw [p7 T U p0 hp,rA T U xF hq] at e
    have:=T.to p0 hp
    have:=U.fr xF hq
    omega
  ·rcases nq T U q0 q1 with hq | ⟨q,rfl,xF,hq⟩
   ·rw [qo T U zW hp,nr T U q0 hq] at e
    have:=U.to zW hp
    have:=T.fr q0 hq
    omega
   ·rw [qo T U zW hp,rA T U xF hq] at e
    have:=U.cell p q zW hp xF hq (by omega)
    rw [Af T U zW hp xF hq]
    unfold DE
    rw [if_pos this.1.1,Int.add_comm (gk d.aC p q),rA T U this.1.1 this.1.2,qo T U this.1.1 this.1.2,rA T U zW hp,qo T U xF hq,hl,this.2.1,this.2.2]
    exact ⟨⟨by omega,by omega⟩,rfl,rfl⟩
 ·rcases nq T U p0 p1 with hp | ⟨p,rfl,zW,hp⟩
  ·rcases nq T U q0 q1 with hq | ⟨q,rfl,xF,hq⟩
   ·rw [p7 T U p0 hp,nr T U q0 hq] at e
    rw [mc T U p0 hp q0 hq]
    exact T.none p q p0 hp q0 hq e
   ·exact Qo T U p0 hp xF hq
  ·rcases nq T U q0 q1 with hq | ⟨q,rfl,xF,hq⟩
   ·exact Qp T U zW hp q0 hq
   ·rw [qo T U zW hp,rA T U xF hq] at e
    rw [Af T U zW hp xF hq,U.none p q zW hp xF hq (fun h=>e (by rw [h]))]; rfl
 ·show gk (ay c d).aC (gi (_++_) y) (gi (_++_) y)=gi (_++_) y
  rw [iT y0,Uv]
  by_cases h:y < c.aA
  ·rw [if_pos h]
   have:=T.id y0 h
   rw [mc T U this.1 this.2 this.1 this.2,T.uu y y0 h]
  ·rw [if_neg h,ei (by omega) (by omega),Int.add_comm (gi d.aF _)]
   have:=U.id (x:=y - c.aA) (by omega) (by omega)
   rw [Af T U this.1 this.2 this.1 this.2,U.uu _ (by omega) (by omega)]
   unfold DE
   rw [if_pos this.1]; omega
end
end Go.Proofs.YtcnehblmgfbfoaaGreat
