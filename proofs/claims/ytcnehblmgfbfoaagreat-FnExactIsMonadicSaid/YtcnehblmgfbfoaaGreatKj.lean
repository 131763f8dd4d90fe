/- The comparison functor of an adjunction, by both sides; whether an adjunction is monadic. No condition beside those that each theorem names. -/
import Derived.Test.YtcnehblmgfbfoaaGreatKg
set_option linter.unusedVariables false
set_option linter.unusedSectionVars false
set_option linter.unusedSimpArgs false
namespace Go.Proofs.YtcnehblmgfbfoaaGreat
open Go Go.Li
def HE:aN:=aN.mk (aJ.mk (0:Int) [] [] [] []) (aJ.mk (0:Int) [] [] [] []) [] []
noncomputable def Bf (a:bI):aN×Int:=bif tk a then (bif mj (ba a) then (lh a,0) else (HE,3)) else (HE,1)
section
variable {a:bI} (hs:qn a) (A:Adj a)
include hs A
theorem D4:Ak (ba a):=⟨qX hs.l hs.r,hs.u,by
 show (cf _ _).length≤_
 have:=A.aC.o8
 rw [cX]; omega⟩
theorem D5:gR a.Left a.ae=some (mb a.Left a.ae)∧fY a.Left a.ae=some (mb a.Left a.ae):=
 ⟨u9 (bw A.fb).toFHead (bw A.gb).toFHead A.e2 hs.l hs.r,yg (bw A.fb).toFHead (bw A.gb).toFHead A.e2 hs.l hs.r⟩
omit hs in
theorem Jh {x:Int} (x0:0≤x) (x1:x < a.Left.aA.aE):idx a.Left.aE x=some (gi a.Left.aE x)∧idx a.aw (gi a.Left.aE x)=some (gi a.aw (gi a.Left.aE x))∧idx a.ae.ab (gi a.aw (gi a.Left.aE x))=some (gi a.ae.ab (gi a.aw (gi a.Left.aE x))):=by
 have F:=bw A.fb
 have G:=bw A.gb
 have l:=A.DX x0 x1
 have hk:=jK A l.1 l.2
 have kl:(a.aw.length:Int)=a.Left.aF.aE:=by
  have:=(kq A.kb).pl
  rw [A.e2]
  exact this
 exact ⟨F.qo x0 x1,dE l.1 (by omega),G.lj hk.1.1 (by rw [← A.e2]; exact hk.1.2)⟩
omit hs in
theorem Ji {y:Int} (y0:0≤y) (y1:y < a.Left.aF.aE):idx a.ae.aE y=some (gi a.ae.aE y)∧idx a.aw y=some (gi a.aw y)∧idx a.ae.ab (gi a.aw y)=some (gi a.ae.ab (gi a.aw y)):=by
 have G:=bw A.gb
 have hk:=jK A y0 y1
 have kl:(a.aw.length:Int)=a.Left.aF.aE:=by
  have:=(kq A.kb).pl
  rw [A.e2]
  exact this
 exact ⟨G.qo y0 (by rw [← A.e2]; exact y1),dE y0 (by omega),G.lj hk.1.1 (by rw [← A.e2]; exact hk.1.2)⟩
theorem Rp:pG a=some (ba a):=by
 have o0:=A.aC.o0
 have o8:=A.aC.o8
 have ul:(a.Unit.length:Int)=a.Left.aA.aE:=(kq A.ub).pl
 unfold pG
 refine (congrArg an (cw (ns a.Left.aA.aE.toNat) (fun i=>(cf i fun x=>gi a.ae.ab (gi a.aw (gi a.Left.aE x)),(i:Int))) rfl (e:=((ba a).cb,(a.Left.aA.aE.toNat:Int))) ?_ ?_)).trans ?_
 ·intro i x hx
  obtain ⟨rfl,hi⟩:=cj hx
  have ml:=cX i fun x=>gi a.ae.ab (gi a.aw (gi a.Left.aE x))
  obtain ⟨i1,i2,i3⟩:=Jh A (x:=(i:Int)) (by omega) (by omega)
  rw [jq]
  show mU a (cf i _) (i:Int)=_
  generalize (cf i fun x=>gi a.ae.ab (gi a.aw (gi a.Left.aE x)))=acc at ml
  unfold mU
  rw [ao (by omega),cond_true,i1,aB,i2,aB,i3,aB,eB (by omega) (by omega),aB,bR (by omega)]
 ·show mU a _ _=_
  unfold mU
  rw [cJ,av (by omega),cond_false]; rfl
 ·dsimp only
  rw [(D5 hs A).1,aB,qp _ hs.u,aB]; rfl
theorem Rq:oF a=some (ba a):=by
 have o0:=A.aC.o0
 have o8:=A.aC.o8
 have ol:=(bw A.fb).ol
 unfold oF
 rw [(D5 hs A).2,aB]
 refine (congrArg an (cw (ns a.Left.aA.aE.toNat) (fun i=>(cf i fun x=>gi a.ae.ab (gi a.aw (gi a.Left.aE x)),(i:Int))) rfl (e:=((ba a).cb,(a.Left.aA.aE.toNat:Int))) ?_ ?_)).trans ?_
 ·intro i x hx
  obtain ⟨rfl,hi⟩:=cj hx
  have ml:=cX i fun x=>gi a.ae.ab (gi a.aw (gi a.Left.aE x))
  obtain ⟨i1,i2,i3⟩:=Jh A (x:=(i:Int)) (by omega) (by omega)
  rw [jq]
  show kU a (cf i _) (i:Int)=_
  generalize (cf i fun x=>gi a.ae.ab (gi a.aw (gi a.Left.aE x)))=acc at ml
  unfold kU
  rw [ao (by omega),cond_true,i1,aB,i2,aB,i3,aB,eB (by omega) (by omega),aB,bR (by omega)]
 ·show kU a _ _=_
  unfold kU
  rw [cJ,av (by omega),cond_false]; rfl
 ·dsimp only
  have ms:=D4 hs A
  unfold pN
  rw [Jj (qX hs.l hs.r),aB,Al _ hs.u,aB,Al _ ms.j,aB]; rfl
theorem LH:oG (ba a)=some (bif mj (ba a) then (l6 (ba a),(gL (ba a)).map ux,gW (ba a),0) else (aJ.mk (0:Int) [] [] [] [],[],[],3)):=by
 have M:=vW A
 have lc:(wU (gW (ba a)) 0).length=(gW (ba a)).length:=cX _ _
 unfold oG
 rw [Jk (D4 hs A),aB,Rm A,Bool.not_true,cond_false,HC M,aB]
 cases hf:mj (ba a) with
 | true=>
  dsimp only [cond_true]
  have:iS (l6 (ba a))=some true:=by rw [← hf]; exact wV M lc
  rw [this,aB,Bool.not_true,cond_false]; rfl
 | false=>
  dsimp only [cond_false]
  have:iS (n9 (ba a))=some false:=by rw [← hf]; exact wV M lc
  rw [this,aB,Bool.not_false,cond_true]; rfl
theorem LJ {g:Int} (g0:0≤g) (g1:g < a.Left.aF.aH.length):ch a.Left.aF (gi a.Left.aF.aH g) (gi a.Left.aF.To g) g:=⟨⟨g0,g1⟩,rfl,rfl⟩
theorem Am {y:Int} (y0:0≤y) (y1:y < a.Left.aF.aE):idx (cf a.Left.aF.aE.toNat (iH a)) y=some (iH a y):=by
 rw [dE y0 (by rw [cX]; omega),qA y0 (by omega)]
theorem D6:ew a.Left.aF∧(lh a).aE.length≤1048576∧(lh a).ab.length≤1048576:=by
 have o8:=A.aD.o8
 have m:=A.aD.m
 refine ⟨hs.l.t,?_,?_⟩
 ·show (cf _ _).length≤_; rw [cX]; omega
 ·show (cf _ _).length≤_; rw [cX]; omega
theorem OY (hB:tk a=true):jB a=some (Bf a):=by
 have M:=vW A
 have D:=A.aD
 have o0:=D.o0
 have o8:=D.o8
 have dm:=D.m
 have H:=gZ M
 have G:=bw A.gb
 unfold jB Bf
 rw [B1 hs,aB,hB,Bool.not_true,cond_false,Rp hs A,aB,LH hs A,aB]
 cases hf:mj (ba a) with
 | false=>rfl
 | true=>
  dsimp only [cond_true]
  rw [show ((0:Int) != 0)=false from rfl,cond_false]
  refine (congrArg an (cw (ns a.Left.aF.aE.toNat) (fun i=>(cf i (iH a),(i:Int))) rfl (e:=((lh a).aE,(a.Left.aF.aE.toNat:Int))) ?_ ?_)).trans ?_
  ·intro i x hx
   obtain ⟨rfl,hi⟩:=cj hx
   have ml:=cX i (iH a)
   obtain ⟨i1,i2,i3⟩:=Ji A (y:=(i:Int)) (by omega) (by omega)
   have ix:=(vX A (y:=(i:Int)) (by omega) (by omega)).2.1
   rw [jq]
   show iU a _ (cf i _) (i:Int)=_
   generalize cf i (iH a)=acc at ml
   unfold iU
   dsimp only
   rw [ao (by omega),cond_true,i1,aB,i2,aB,i3,aB,ix,aB,eB (by omega) (by omega),aB,bR (by omega)]
  ·show iU a _ _ _=_
   unfold iU
   rw [cJ,av (by omega),cond_false]; rfl
  ·dsimp only
   refine (congrArg an (cw (ns a.Left.aF.aH.length) (fun i=>(cf i fun g=>jd (gW (ba a)) [iH a (gi a.Left.aF.aH g),iH a (gi a.Left.aF.To g),gi a.ae.ab g],(i:Int))) rfl (e:=((lh a).ab,(a.Left.aF.aH.length:Int))) ?_ ?_)).trans ?_
   ·intro i x hx
    obtain ⟨rfl,hi⟩:=cj hx
    have ml:=cX i fun g=>jd (gW (ba a)) [iH a (gi a.Left.aF.aH g),iH a (gi a.Left.aF.To g),gi a.ae.ab g]
    have f0:=D.fr (f:=(i:Int)) (by omega) (by omega)
    have t0:=D.to (f:=(i:Int)) (by omega) (by omega)
    have e1:idx (lh a).aE (gi a.Left.aF.aH (i:Int))=some (iH a (gi a.Left.aF.aH (i:Int))):=Am hs A f0.1 f0.2
    have e2:idx (lh a).aE (gi a.Left.aF.To (i:Int))=some (iH a (gi a.Left.aF.To (i:Int))):=Am hs A t0.1 t0.2
    rw [jq]
    show iV a _ _ (cf i _) (i:Int)=_
    generalize (cf i fun g=>jd (gW (ba a)) [iH a (gi a.Left.aF.aH g),iH a (gi a.Left.aF.To g),gi a.ae.ab g])=acc at ml
    unfold iV
    dsimp only
    rw [ao (by omega),cond_true,D.fx (by omega) (by omega),aB,e1,aB,D.gw (by omega) (by omega),aB,e2,aB,G.lj (by omega) (by rw [← A.e2]; omega),aB,(vT _ H.n H.l).1,aB,eB (by omega) (by omega),aB,bR (by omega)]
   ·show iV a _ _ _ _=_
    unfold iV
    rw [cJ,av (by omega),cond_false]; rfl
   ·dsimp only
    obtain ⟨c1,c2,c3⟩:=D6 hs A
    rw [zA c1 (rB (zy M hf)) c2 c3,aB]; rfl
theorem OZ (hB:tk a=true):jC a=some (Bf a):=by
 have M:=vW A
 have D:=A.aD
 have o0:=D.o0
 have o8:=D.o8
 have dm:=D.m
 have H:=gZ M
 have G:=bw A.gb
 unfold jC Bf
 rw [B2 hs,aB,hB,Bool.not_true,cond_false,Rq hs A,aB,LF M,aB]
 cases hf:mj (ba a) with
 | false=>rfl
 | true=>
  dsimp only [cond_true]
  rw [Bool.not_true,cond_false]
  have key:mK (vV (gW (ba a))) (gL (ba a)) (l6 (ba a)) a.ae.aA (fun a0=>iB a0 a) (fun a0=>iC a0 a)=some (lh a):=by
   rw [← A.e2]
   unfold mK
   refine (congrArg an (cw (ns a.Left.aF.aE.toNat) (fun i=>(cf i (iH a),(i:Int))) rfl (e:=((lh a).aE,(a.Left.aF.aE.toNat:Int))) ?_ ?_)).trans ?_
   ·intro i x hx
    obtain ⟨rfl,hi⟩:=cj hx
    have ml:=cX i (iH a)
    obtain ⟨i1,i2,i3⟩:=Ji A (y:=(i:Int)) (by omega) (by omega)
    have ix:=(vX A (y:=(i:Int)) (by omega) (by omega)).2.2
    rw [jq]
    show kK _ _ _ (cf i _,(i:Int))=_
    generalize cf i (iH a)=acc at ml
    have e1:iB (i:Int) a=some (some ⟨gi a.ae.aE (i:Int),gi a.ae.ab (gi a.aw (i:Int))⟩):=by
     unfold iB
     rw [i1,aB,i2,aB,i3,aB]; rfl
    unfold kK
    dsimp only
    rw [ao (by omega),cond_true,e1,aB]
    dsimp only
    rw [ix,aB,eB (by omega) (by omega),aB,bR (by omega)]
   ·unfold kK
    dsimp only
    rw [cJ,av (by omega),cond_false]; rfl
   ·dsimp only
    refine (congrArg an (cw (ns a.Left.aF.aH.length) (fun i=>(cf i fun g=>jd (gW (ba a)) [iH a (gi a.Left.aF.aH g),iH a (gi a.Left.aF.To g),gi a.ae.ab g],(i:Int))) rfl (e:=((lh a).ab,(a.Left.aF.aH.length:Int))) ?_ ?_)).trans ?_
    ·intro i x hx
     obtain ⟨rfl,hi⟩:=cj hx
     have ml:=cX i fun g=>jd (gW (ba a)) [iH a (gi a.Left.aF.aH g),iH a (gi a.Left.aF.To g),gi a.ae.ab g]
     have f0:=D.fr (f:=(i:Int)) (by omega) (by omega)
     have t0:=D.to (f:=(i:Int)) (by omega) (by omega)
     have e1:idx (lh a).aE (gi a.Left.aF.aH (i:Int))=some (iH a (gi a.Left.aF.aH (i:Int))):=Am hs A f0.1 f0.2
     have e2:idx (lh a).aE (gi a.Left.aF.To (i:Int))=some (iH a (gi a.Left.aF.To (i:Int))):=Am hs A t0.1 t0.2
     have e3:iC (i:Int) a=some (gi a.ae.ab (i:Int)):=by
      unfold iC
      rw [G.lj (by omega) (by rw [← A.e2]; omega),aB]; rfl
     have e4:=zx M (sA A (LJ hs A (g:=(i:Int)) (by omega) (by omega)))
     rw [jq]
     show kL _ _ _ _ (cf i _,(i:Int))=_
     generalize (cf i fun g=>jd (gW (ba a)) [iH a (gi a.Left.aF.aH g),iH a (gi a.Left.aF.To g),gi a.ae.ab g])=acc at ml
     unfold kL
     dsimp only
     rw [ao (by omega),cond_true,D.fx (by omega) (by omega),aB,e1,aB,D.gw (by omega) (by omega),aB,e2,aB,e3,aB,e4,aB,eB (by omega) (by omega),aB,bR (by omega)]
    ·unfold kL
     dsimp only
     rw [cJ,av (by omega),cond_false]; rfl
    ·dsimp only
     obtain ⟨c1,c2,c3⟩:=D6 hs A
     rw [sJ c1 (rB (zy M hf)) c2 c3,aB]; rfl
  rw [key,aB]; rfl
end
noncomputable def HF (a:bI):Bool×Int:=bif tk a then (bif mj (ba a) then (GJ (lh a),0) else (false,3)) else (false,1)
theorem Fu {a:bI} (hs:qn a):nK a=some (HF a):=by
 unfold nK HF
 cases h:tk a with
 | false=>
  have:jB a=some (HE,1):=by
   unfold jB
   rw [B1 hs,aB,h]; rfl
  rw [this]; rfl
 | true=>
  have A:=Jl h
  rw [OY hs A h,aB]
  unfold Bf
  rw [h,cond_true,cond_true]
  cases hf:mj (ba a) with
  | false=>rfl
  | true=>
   dsimp only [cond_true]
   rw [show ((0:Int) != 0)=false from rfl,cond_false,Rs (GH A hf),aB]; rfl
theorem Fv {a:bI} (hs:qn a):nL a=some (HF a):=by
 unfold nL HF
 cases h:tk a with
 | false=>
  have:jC a=some (HE,1):=by
   unfold jC
   rw [B2 hs,aB,h]; rfl
  rw [this]; rfl
 | true=>
  have A:=Jl h
  rw [OZ hs A h,aB]
  unfold Bf
  rw [h,cond_true,cond_true]
  cases hf:mj (ba a) with
  | false=>rfl
  | true=>
   dsimp only [cond_true]
   rw [show ((0:Int) != 0)=false from rfl,cond_false,Ru (GH A hf),aB]; rfl
end Go.Proofs.YtcnehblmgfbfoaaGreat
