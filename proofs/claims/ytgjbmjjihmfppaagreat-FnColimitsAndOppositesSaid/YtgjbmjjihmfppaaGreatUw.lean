/- The first limit, cones and colimits: program and reference. No condition beside those that each theorem names. -/
import Derived.Test.YtgjbmjjihmfppaaGreatUs
import Derived.Test.YtgjbmjjihmfppaaGreatYn
namespace Go.Proofs.YtgjbmjjihmfppaaGreat
open Go Go.Li
set_option linter.unusedVariables false
set_option linter.unusedSectionVars false
set_option linter.unusedSimpArgs false
section
variable {d:aI} (hb:bx d=true)
include hb
theorem Jz:mR d=some (bif decide ((ao d).length≤400) then (ao d,0) else ([],3)):=by
 unfold mR
 rw [OX hb,aF]
 by_cases h:(ao d).length≤400
 ·rw [List.take_of_length_le (by omega),aX (by omega),av h]; rfl
 ·rw [av (by rw [List.length_take]; omega),aX h]; rfl
end
theorem O0 {c:aG} (C:nm c):lS c=some (vB c):=by
 have c1:=C.m
 have c2:=C.tl
 have c3:=C.il
 have c4:=C.o8
 have ht:gH (aG.mk c.aA c.To c.aD c.aH []) (fun a0 a1=>eQ a0 a1 c)=some (vB c):=by
  suffices h:Ok (gH (aG.mk c.aA c.To c.aD c.aH []) (fun a0 a1=>eQ a0 a1 c)) fun e=>e=vB c by
   obtain ⟨y,h1,h2⟩:=h
   rw [h1,h2]
  unfold gH
  rw [show dW (aG.mk c.aA c.To c.aD c.aH [])=some (c.aD.length:Int) from by show some (c.To.length:Int)=_; rw [c2],aF,CO (by omega) (by omega),aF]
  have bg:∀ f:Int,0≤f→f < c.aD.length→(dt c.aD.length fun g=>gk c.aB g f).length=c.aD.length:=fun f _ _=>cD _ _
  obtain ⟨y,h1,h2⟩ : Ok (ah (ae 0 (ai (fun s=>fI (aG.mk c.aA c.To c.aD c.aH []) (fun a0 a1=>eQ a0 a1 c) (c.aD.length:Int) c.aD.length s.1 s.2) ((0:Int),List.replicate c.aD.length ([]:List Int)))) (fun (s:Int×List (List Int))=>(some (Out.norm (aG.mk c.aA c.To c.aD c.aH s.2)):Option (Out aG aG)))) (fun o=>o=Out.norm (vB c)):=by
   refine ol (fun z:Int×List (List Int)=>(0≤z.1∧z.1≤c.aD.length)∧z.2.length=c.aD.length∧∀ f:Int,0≤f→f < z.1→gr z.2 f=dt c.aD.length fun g=>gk c.aB g f) (fun z=>(c.aD.length - z.1).toNat) ⟨⟨by show (0:Int)≤0; omega,by show (0:Int)≤_; omega⟩,List.length_replicate,fun f f0 f1=>by dsimp only at f1; omega⟩ ?_
   rintro ⟨f,K⟩ ⟨⟨f0,f1⟩,hK,hR⟩
   dsimp only at f0 f1 hK hR
   show Ok (fI _ _ _ _ f K) _
   unfold fI
   rw [List.length_replicate]
   refine od (fun hf=>?_) fun hf=>os ⟨rfl,os ?_⟩
   ·rw [CO (by omega) (by omega),aF]
    generalize hn:List.replicate c.aD.length (0:Int)=e0
    have N1:e0.length=c.aD.length:=by rw [← hn,List.length_replicate]
    have Ih:∀ (K:List (List Int)) (v:List Int),K.length=c.aD.length→gr (K.set f.toNat v) f=v:=fun K v hK=>by
     have:=JB (cl:=K) (y:=f.toNat) (q:=v) f.toNat
     rw [show ((f.toNat:Nat):Int)=f by omega] at this
     rw [this,if_pos ⟨rfl,by omega⟩]
    have nn:∀ (K:List (List Int)) (v:List Int) (g:Int),0≤g→g≠f→gr (K.set f.toNat v) g=gr K g:=fun K v g g0 nq=>by
     have:=JB (cl:=K) (y:=f.toNat) (q:=v) g.toNat
     rw [show ((g.toNat:Nat):Int)=g by omega] at this
     rw [this,if_neg (by omega)]
    refine oe (ny f0 (by omega)) (oe (ny f0 (by rw [List.length_set]; omega)) ?_)
    rw [Ih K e0 hK]
    refine ol (fun z:Int×List (List Int)=>(0≤z.1∧z.1≤c.aD.length)∧(z.2.length=c.aD.length∧(gr z.2 f).length=c.aD.length)∧(∀ g:Int,0≤g→g < f→gr z.2 g=dt c.aD.length fun h=>gk c.aB h g)∧∀ g:Int,0≤g→g < z.1→gi (gr z.2 f) g=gk c.aB g f) (fun z=>(c.aD.length - z.1).toNat)
     ⟨⟨by show (0:Int)≤0; omega,by show (0:Int)≤_; omega⟩,⟨by show (K.set _ _).length=_; rw [List.length_set]; exact hK,by show (gr (K.set _ _) f).length=_; rw [Ih K e0 hK]; exact N1⟩,fun g g0 g1=>by show gr (K.set _ _) g=_; rw [nn K e0 g g0 (by omega)]; exact hR g g0 g1,fun g g0 g1=>by dsimp only at g1; omega⟩ ?_
    rintro ⟨g,M⟩ ⟨⟨g0,g1⟩,⟨hM,S4⟩,XU,XV⟩
    dsimp only at g0 g1 hM S4 XU XV
    show Ok (kI _ _ f e0 g M) _
    unfold kI
    rw [N1]
    refine od (fun hg=>?_) fun hg=>os ⟨rfl,?_⟩
    ·have iT:idx (aG.mk c.aA c.To c.aD c.aH []).To f=some (gi c.aD f):=C.js f0 hf
     have iF:idx (aG.mk c.aA c.To c.aD c.aH []).aD g=some (gi c.To g):=C.j3 g0 hg
     refine oe (ny f0 (by omega)) (oe (cH g0 (by omega)) (oe iT (oe iF ?_)))
     have fin:∀ v:Int,v=gk c.aB g f→∀ R:List Int,R.length=c.aD.length→(∀ h:Int,0≤h→h < c.aD.length→gi R h=if h=g then v else gi (gr M f) h)→∀ M':List (List Int),M'.length=c.aD.length→gr M' f=R→(∀ h:Int,0≤h→h < f→gr M' h=gr M h)→
       (((0:Int)≤aj (g+1)∧aj (g+1)≤c.aD.length)∧(M'.length=c.aD.length∧(gr M' f).length=c.aD.length)∧(∀ h:Int,0≤h→h < f→gr M' h=dt c.aD.length fun k=>gk c.aB k h)∧∀ h:Int,0≤h→h < aj (g+1)→gi (gr M' f) h=gk c.aB h f)∧(c.aD.length - aj (g+1)).toNat < (c.aD.length - g).toNat:=by
      intro v hv R hRl hRg M' hM' XW aer
      rw [w1 g0 hg (by omega)]
      refine ⟨⟨⟨by omega,by omega⟩,⟨hM',by rw [XW]; exact hRl⟩,fun h h0 h1=>(aer h h0 h1).trans (XU h h0 h1),fun h h0 h1=>?_⟩,by omega⟩
      rw [XW,hRg h h0 (by omega)]
      by_cases e:h=g
      ·rw [if_pos e,e,hv]
      ·rw [if_neg e]; exact XV h h0 (by omega)
     refine oc (fun e=>?_) fun e=>os (fin (-1) ?_ ((gr M f).set g.toNat (-1)) (by rw [List.length_set]; exact S4) (fun h h0 h1=>mw g0 (by omega) h0) _ (by rw [List.length_set]; exact hM) (Ih M _ hM) fun h h0 h1=>nn M _ h h0 (by omega))
     ·have e':gi c.To g=gi c.aD f:=(beq_iff_eq.1 e).symm
      have k:=C.cell g f g0 hg f0 hf e'
      refine oe (ny f0 (by rw [List.length_set]; omega)) ?_
      have Kz:eQ f g c=some (gk c.aB g f):=by
       unfold eQ
       rw [C.r8 g0 hg f0 hf,aF]; rfl
      refine oe Kz ?_
      rw [Ih M _ hM]
      refine oe (cH g0 (by rw [List.length_set]; omega)) (os (fin (gk c.aB g f) rfl (((gr M f).set g.toNat (-1)).set g.toNat (gk c.aB g f)) (by rw [List.length_set,List.length_set]; exact S4) (fun h h0 h1=>?_) _ (by rw [List.length_set,List.length_set]; exact hM) (Ih _ _ (by rw [List.length_set]; exact hM)) fun h h0 h1=>?_))
      ·rw [mw g0 (by rw [List.length_set]; omega) h0,mw g0 (by omega) h0]
       by_cases e:h=g
       ·rw [if_pos e,if_pos e]
       ·rw [if_neg e,if_neg e,if_neg e]
      ·rw [nn _ _ h h0 (by omega),nn M _ h h0 (by omega)]
     ·exact (C.none g f g0 hg f0 hf fun h=>by rw [h] at e; simp at e).symm
    ·obtain rfl:g=c.aD.length:=by omega
     refine os ⟨⟨⟨?_,?_⟩,hM,fun h h0 h1=>?_⟩,?_⟩
     all_goals (try dsimp only at h1 ⊢)
     all_goals (try rw [w1 f0 hf (by omega)])
     ·omega
     ·omega
     ·rw [w1 f0 hf (by omega)] at h1
      by_cases e:h=f
      ·subst e
       exact Jy (by rw [S4,cD]) fun k k0 k1=>by
        rw [cD] at k1
        rw [XV k k0 k1,tb k0 k1]
      ·exact XU h h0 (by omega)
     ·show ((c.aD.length:Int) - (f+1)).toNat < ((c.aD.length:Int) - f).toNat; omega
   ·obtain rfl:f=c.aD.length:=by omega
    have:K=EU c:=XX (by rw [hK]; unfold EU; rw [cD]) fun k k0 k1=>by
     unfold EU at k1 ⊢
     rw [cD] at k1
     rw [hR k k0 k1,uU k0 k1]
    rw [this]; rfl
  refine ⟨vB c,?_,rfl⟩
  have h3:ah (ae 0 (ai (fun s=>fI (aG.mk c.aA c.To c.aD c.aH []) (fun a0 a1=>eQ a0 a1 c) (c.aD.length:Int) c.aD.length s.1 s.2) ((0:Int),List.replicate c.aD.length ([]:List Int)))) (fun (s:Int×List (List Int))=>(some (Out.norm (aG.mk c.aA c.To c.aD c.aH s.2)):Option (Out aG aG)))=some (Out.norm (vB c)):=by rw [h1,h2]
  exact (congrArg (E8 (R:=aG)) (by exact h3)).trans rfl
 unfold lS
 rw [Aj c.To (by omega),aF,Aj c.aD (by omega),aF,Aj c.aH (by omega),aF,ht,aF]
 rfl
theorem Ag {f:aI} (h:bx f=true):eR f=some (ed f):=by
 have F:=dh h
 have hs:=si F
 unfold eR
 rw [O0 F.c,aF,O0 F.d,aF,Dm (Bc F.c) (Bc F.d) hs.o hs.a]; rfl
end Go.Proofs.YtgjbmjjihmfppaaGreat
namespace Go.Proofs.YtgjbmjjihmfppaaGreat
open Go Go.Li
set_option linter.unusedVariables false
set_option linter.unusedSectionVars false
set_option linter.unusedSimpArgs false
theorem CV {x:List (List Int)} {n:Nat} (hn:n≤4) (h:Sq n x) (c:((ns n).all fun i=>(gi (gr x i) i == 1) && (ns n).all fun j=>(ns n).all fun k=>!((gi (gr x i) j == 1) && (gi (gr x j) k == 1)) || (gi (gr x i) k == 1))=true):Ok (dI x) fun c=>jx n (4 * n) c∧Ty c:=by
 rw [List.all_eq_true] at c
 refine wg hn h (fun i i0 i1=>?_) (fun i j k i0 i1 j0 j1 k0 k1 h1 h2=>?_)
 ·have:=c i (ca.2 ⟨i0,i1⟩)
  rw [Bool.and_eq_true,beq_iff_eq] at this
  exact this.1
 ·have:=c i (ca.2 ⟨i0,i1⟩)
  rw [Bool.and_eq_true,List.all_eq_true] at this
  have:=this.2 j (ca.2 ⟨j0,j1⟩)
  rw [List.all_eq_true] at this
  have:=this k (ca.2 ⟨k0,k1⟩)
  rw [h1,h2] at this
  simpa using this
theorem vC {a b:Nat} {c:aG} (h:jx a b c∧Ty c) (ha:a≤63) (hb:b≤63):T7 c:=⟨h.2,by have:=h.1.m; omega,by have:=h.1.o; omega,h.1.small (by omega) (by omega)⟩
theorem XH:Ok nN T7:=by
 unfold nN
 exact jo (ob EN fun c hc=>os (vC hc (by omega) (by omega)))
section
variable {x:List Int} (B:Ah x) {s:aK} (S:Src x s)
include B S
theorem Uc:Ok (nT s) fun y=>T7 y.1∧Src x y.2:=by
 unfold nT
 refine jo (ob (ew B S _) fun y hy=>?_)
 have T:Src x (aK.mk s.Code y.2.At y.2.aq):=S.on hy.2
 have hd:∀ (k:Nat) (u v:Int),[(0:Int),0][k]? = some u→[(1:Int),1][k]? = some v→0≤u∧u < v∧v < 2:=fun k u v hu hv=>by
  rcases k with _ | _ | k <;> simp at hu hv <;> omega
 have p3:Ok (dI [[(1:Int),1,1],[0,1,0],[0,0,1]]) fun c=>jx 3 (4 * 3) c∧Ty c:=CV (n:=3) (by omega) ⟨rfl,by simp⟩ (by decide)
 refine oc (fun _=>ob (CV (n:=0) (by omega) ⟨rfl,by simp⟩ (by decide)) fun c hc=>os ⟨vC hc (by omega) (by omega),T⟩) fun _=>oc (fun _=>ob XH fun c hc=>os ⟨hc,T⟩) fun _=>
  oc (fun _=>ob (CV (n:=2) (by omega) ⟨rfl,by simp⟩ (by decide)) fun c hc=>os ⟨vC hc (by omega) (by omega),T⟩) fun _=>
  oc (fun _=>ob (Ok.and (CW (n:=2) (f:=[0,0]) (t:=[1,1]) ⟨rfl,by decide,hd⟩ (by omega) (by omega)) (CX (n:=2) (.inl rfl) rfl (by decide) hd)) fun c hc=>os ⟨vC hc (by omega) (by omega),T⟩) fun _=>
  oc (fun _=>ob p3 fun c hc=>ob (XI hc.1 hc.2 (by omega) (by omega)) fun e he=>os ⟨vC he (by omega) (by omega),T⟩) fun _=>
  oc (fun _=>ob p3 fun c hc=>os ⟨vC hc (by omega) (by omega),T⟩) fun _=>
  oc (fun _=>ob (A9 B T) fun m hm=>?_) fun _=>
  oc (fun _=>ob (CV (n:=2) (by omega) ⟨rfl,by simp⟩ (by decide)) fun c hc=>os ⟨vC hc (by omega) (by omega),T⟩) fun _=>ob (ES B T 3 5) fun c hc=>os ⟨CY hc.1 (by omega) (by omega),S.on hc.2⟩
 obtain ⟨⟨n,n0,n1,hq,hr,h0⟩,S2⟩:=hm
 exact ob (xO n0 n1 hq hr h0) fun c hc=>os ⟨vC hc (by omega) (by omega),S.on S2⟩
theorem Jp:Ok (kV s) fun y=>T7 y.1∧Src x y.2:=by
 unfold kV
 refine jo (ob (ew B S _) fun y hy=>?_)
 have T:Src x (aK.mk s.Code y.2.At y.2.aq):=S.on hy.2
 exact oc (fun _=>ob (CV (n:=4) (by omega) ⟨rfl,by simp⟩ (by decide)) fun c hc=>os ⟨vC hc (by omega) (by omega),T⟩) fun _=>
  oc (fun _=>ob (CV (n:=3) (by omega) ⟨rfl,by simp⟩ (by decide)) fun c hc=>os ⟨vC hc (by omega) (by omega),T⟩) fun _=>
  oc (fun _=>ob KX fun c hc=>os ⟨vC hc (by omega) (by omega),T⟩) fun _=>ob (ES B T 4 12) fun c hc=>os ⟨CY hc.1 (by omega) (by omega),S.on hc.2⟩
theorem OL:Ok (mA s) fun y=>dj y.1∧Src x y.2:=by
 unfold mA
 refine jo (ol (fun z:Int×Int×Int=>(0≤z.1∧z.1≤8)∧Src x (aK.mk s.Code z.2.1 z.2.2)) (fun z=>(8 - z.1).toNat) ⟨⟨by show (0:Int)≤0; omega,by show (0:Int)≤8; omega⟩,S⟩ ?_)
 rintro ⟨i,a,h⟩ ⟨⟨i0,i1⟩,T⟩
 dsimp only at i0 i1 T
 show Ok (mJ s i a h) _
 unfold mJ
 refine od (fun hi=>ob (Uc B T) fun y hy=>ob (Jp B (S.on hy.2)) fun z hz=>ob (FD hy.1 hz.1) fun b _=>?_) fun hi=>os ⟨rfl,?_⟩
 ·have S2:Src x (aK.mk s.Code z.2.At z.2.aq):=S.on hz.2
  have nx:∀ t:aK,Src x t→(0≤aj (i+1)∧aj (i+1)≤8)∧(8 - aj (i+1)).toNat < (8 - i).toNat:=fun t _=>by rw [dV (by omega) (by omega)]; omega
  refine oc (fun _=>ob (Ha hy.1 hz.1) fun l hl=>od (fun hp=>ob (ew B S2 _) fun u hu=>oi hu.1.1 (hu.1.2 (by omega)) fun g hg=>os ⟨(hl.2.1 g hg).small hy.1 hz.1,S.on hu.2⟩) fun _=>os ⟨⟨(nx _ S2).1,S2⟩,(nx _ S2).2⟩) fun _=>os ⟨⟨(nx _ S2).1,S2⟩,(nx _ S2).2⟩
 ·exact ob XH fun c hc=>ob (Ai hc) fun f hf=>os ⟨hf.1.small hc hc,T⟩
theorem Zu:Ok (pF s) fun y=>dj y.1∧Src x y.2:=by
 unfold pF
 refine jo (ob (ew B S _) fun y hy=>oc (fun _=>ob (FG B (S.on hy.2)) fun f hf=>os ⟨hf.1,S.on hf.2⟩) fun _=>ob (OL B (S.on hy.2)) fun f hf=>os ⟨hf.1,S.on hf.2⟩)
end
end Go.Proofs.YtgjbmjjihmfppaaGreat
