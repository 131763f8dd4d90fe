/- The category of elements, reckoned by both sides. No condition beside those that each theorem names. -/
import Derived.Test.YtcnehblmgfbfoaaGreatKn
set_option linter.unusedVariables false
set_option linter.unusedSectionVars false
set_option linter.unusedSimpArgs false
namespace Go.Proofs.YtcnehblmgfbfoaaGreat
open Go Go.Li
theorem G4 {α:Type} {l:List α} {k:Nat} {a:α} (p:α→Bool) (h:l[k]? = some a):(l.take (k+1)).filter p=(l.take k).filter p++if p a then [a] else []:=by
 rw [p8 h,List.filter_append]
 cases hp:p a <;> simp [hp]
section
variable {f:aK} (F:SF f)
include F
theorem Ox:eX f=some (pE f):=by
 have hs:=F.sl
 have h8:=F.cat.o8
 unfold eX
 refine (congrArg ao (du (ns f.aP.length) (fun i=>((ns i).flatMap (wA f),(i:Int))) rfl (e:=(pE f,(f.aP.length:Int))) ?_ ?_)).trans rfl
 ·intro i x hx
  obtain ⟨rfl,hi⟩:=c8 hx
  have pl:=E5 F (n:=i) (by omega)
  have s:=F.s i (by omega) (by omega)
  rw [sS]
  generalize (ns i).flatMap (wA f)=acc at pl
  show dZ f acc (i:Int)=_
  unfold dZ
  rw [aw (by omega),cond_true,bQ (by omega) (by omega),aA]
  refine (du (ns (gi f.aP i).toNat) (fun k=>(acc++cj k (fun e=>[(i:Int),e]),(k:Int))) (by simp [cj,ns]) (e:=(acc++wA f i,((gi f.aP i).toNat:Int))) ?_ ?_).trans ?_
  ·intro k y hy
   obtain ⟨rfl,hk⟩:=c8 hy
   have ml:=bI k (fun e=>[(i:Int),e])
   rw [km,← List.append_assoc]
   show eA (i:Int) (gi f.aP i) (acc++cj k _) (k:Int)=_
   generalize cj k (fun e=>[(i:Int),e])=y2 at ml
   have hb:(acc++y2).length≤1000:=by rw [List.length_append]; omega
   unfold eA
   rw [aw (by omega),cond_true,dR (by omega) (by omega),aA,bB (by omega)]
  ·show eA (i:Int) (gi f.aP i) _ _=_
   unfold eA
   rw [cH,aX (by omega),cond_false]; rfl
  ·dsimp only
   rw [bB (by omega)]
 ·show dZ f _ _=_
  unfold dZ
  rw [cH,aX (by omega),cond_false]; rfl
theorem Oy:fY f=some ((pE f).length:Int):=by
 have hs:=F.sl
 have h8:=F.cat.o8
 unfold fY
 refine (congrArg ao (du (ns f.aP.length) (fun i=>((((ns i).flatMap (wA f)).length:Int),(i:Int))) rfl (e:=(((pE f).length:Int),(f.aP.length:Int))) ?_ ?_)).trans rfl
 ·intro i x hx
  obtain ⟨rfl,hi⟩:=c8 hx
  have pl:=E5 F (n:=i) (by omega)
  have s:=F.s i (by omega) (by omega)
  have el:(wA f i).length=(gi f.aP i).toNat:=bI _ _
  rw [sS,List.length_append,el]
  generalize ((ns i).flatMap (wA f)).length=acc at pl
  show eO f (acc:Int) (i:Int)=_
  unfold eO
  rw [aw (by omega),cond_true,bQ (by omega) (by omega),aA,bB (by omega),dT (by omega) (by omega),show (acc:Int)+gi f.aP i=((acc+(gi f.aP i).toNat:Nat):Int) by omega]
 ·show eO f _ _=_
  unfold eO
  rw [cH,aX (by omega),cond_false]; rfl
theorem IX {i j a:Int} (i0:0≤i) (i1:i < (pE f).length) (h:tW f.aC (xE f i) (xE f j) a):idx f.aO a=some (gr f.aO a)∧idx (gr f.aO a) (eE f i)=some (gi (gr f.aO a) (eE f i)):=by
 have k:=qt F i0 i1
 exact ⟨F.qi h.1.1 h.1.2,F.at_ h.1.1 h.1.2 k.2.1.1 (by rw [h.2.1]; exact k.2.1.2)⟩
theorem WO {S ρ:Type} {g:List (List Int)×Int→Option (Out S ρ)} :
  ag (ae 0 (af (fun s:List (List Int)×Int=>(eH f (pE f) s:Option (Out (List (List Int)×Int) ρ))) (([]:List (List Int)),(0:Int)))) g=g (aE f,((pE f).length:Int)):=by
 have hn:=zX F
 refine du (ns (pE f).length) (fun i=>((ns i).flatMap (BL f),(i:Int))) rfl (e:=(aE f,((pE f).length:Int))) ?_ ?_
 ·intro i x hx
  obtain ⟨rfl,hi⟩:=c8 hx
  have kl:=IU F i
  unfold eH
  dsimp only
  rw [aw (by omega),cond_true,wB F (by omega) (by omega),aA]
  generalize Ci:(ns i).flatMap (BL f)=acc at kl
  refine (du (ns (pE f).length) (fun j=>(acc++(ns j).flatMap (sQ f i),(j:Int))) (by simp [ns]) (e:=(acc++BL f i,((pE f).length:Int))) ?_ ?_).trans ?_
  ·intro j y hy
   obtain ⟨rfl,hj⟩:=c8 hy
   have xl:=IT F j i
   unfold eY
   dsimp only
   rw [aw (by omega),cond_true,wB F (by omega) (by omega),aA,show idx [xE f i,eE f i] (0:Int)=some (xE f i) from rfl,aA,show idx [xE f j,eE f j] (0:Int)=some (xE f j) from rfl,aA,show iJ f.aC (xE f i) (xE f j)=some (zW f.aC (xE f i) (xE f j)) from acC F.cat _ _,aA]
   generalize QW:(ns j).flatMap (sQ f i)=y2 at xl
   have hl:=Gp F.cat (xE f i) (xE f j)
   have hm:∀ a∈zW f.aC (xE f i) (xE f j),tW f.aC (xE f i) (xE f j) a:=fun a ha=>Gq.1 ha
   have et:sQ f i j=((zW f.aC (xE f i) (xE f j)).filter fun a=>gi (gr f.aO a) (eE f i) == eE f j).map fun a=>[(i:Int),(j:Int),a]:=rfl
   generalize zW f.aC (xE f i) (xE f j)=H at hl hm et
   refine (du H (fun k=>((acc++y2)++((H.take k).filter fun a=>gi (gr f.aO a) (eE f i) == eE f j).map fun a=>[(i:Int),(j:Int),a],(k:Int))) (by simp) (e:=((acc++y2)++sQ f i j,(H.length:Int))) ?_ ?_).trans ?_
   ·intro k a ha
    have hk:=bf ha
    have L:=hm a (List.mem_of_getElem? ha)
    have A:=IX F (i:=(i:Int)) (j:=(j:Int)) (by omega) (by omega) L
    rw [G4 _ ha,List.map_append,← List.append_assoc]
    have hb:((acc++y2)++((H.take k).filter fun a=>gi (gr f.aO a) (eE f i) == eE f j).map fun a=>[(i:Int),(j:Int),a]).length≤1000000:=by
     have:=List.length_filter_le (fun a=>gi (gr f.aO a) (eE f i) == eE f j) (H.take k)
     rw [List.length_take] at this
     simp only [List.length_append,List.length_map]; omega
    generalize ((acc++y2)++((H.take k).filter fun a=>gi (gr f.aO a) (eE f i) == eE f j).map fun a=>[(i:Int),(j:Int),a])=WQ at hb
    unfold eZ
    dsimp only
    rw [aw (by omega),cond_true,bn,ha,aA,A.1,aA,show idx [xE f i,eE f i] (1:Int)=some (eE f i) from rfl,aA,A.2,aA,show idx [xE f j,eE f j] (1:Int)=some (eE f j) from rfl,aA]
    by_cases e:gi (gr f.aO a) (eE f i)=eE f j
    ·rw [sk e,cond_true,dR (by omega) (by omega),aA,bB (by omega)]; rfl
    ·rw [rz e,cond_false,bB (by omega)]; simp
   ·unfold eZ
    dsimp only
    rw [aX (by omega),cond_false,List.take_length,et]
   ·dsimp only
    rw [bB (by omega),sS,QW,List.append_assoc]
  ·unfold eY
   dsimp only
   rw [cH,aX (by omega),cond_false]; rfl
  ·dsimp only
   rw [bB (by omega),sS,Ci]
 ·unfold eH
  dsimp only
  rw [cH,aX (by omega),cond_false]; rfl
theorem WR (h8:(pE f).length≤8) {i j:Int} (i0:0≤i) (i1:i < (aE f).length) (j0:0≤j) (j1:j < (aE f).length) (e:gi (gr (aE f) i) 1=gi (gr (aE f) j) 0):dO i j (aE f) (y4 (aE f)) f.aC=some (gE f i j):=by
 have H:=D5 F h8
 have C:=F.cat
 obtain ⟨a,b,c,u,v,hu,hv,e1,e2⟩:=IV F i0 i1 j0 j1 e
 unfold dO
 rw [cb i0 i1,aA,cb j0 j1,aA]
 unfold gE
 rw [e1,e2]
 show ao (S:=Unit) (dJ f.aC u v>>=fun Oz=>kK [[a,c,Oz]]>>=_)=some (bd (aE f) [a,c,gk f.aC.aB u v])
 rw [C.sy hu.2.1.1.1 hu.2.1.1.2 hv.2.1.1.1 hv.2.1.1.2,aA,x5 (by simp),aA,E8 H ((r9 F).2 ⟨a,c,_,C1 F hu hv,rfl⟩)]; rfl
theorem za:dL f=some (bif j8 f then (some (ew f,pE f,aE f,y4 (pE f),y4 (aE f)),true) else (none,false)):=by
 have C:=F.cat
 have ln:=zX F
 unfold dL
 rw [Oy F,aA]
 by_cases h8:((pE f).length:Int)≤8
 ·have H:=D5 F (by omega)
  have hn:=H.n
  rw [aX (by omega),cond_false,Ox F,aA,WO F]
  dsimp only
  by_cases OA:((aE f).length:Int)≤40
  ·have hf:j8 f=true:=by unfold j8; rw [aw h8,aw OA]; rfl
   have h3:∀ r∈aE f,r.length=3:=fun r hr=>by obtain ⟨_,_,_,_,rfl⟩:=(r9 F).1 hr; rfl
   rw [aX (by omega),cond_false,KY (WE F),aA,KY H,aA,AN H.n (by omega) (fun r hr=>by rw [h3 r hr]; decide),aA,AN H.n (by omega) (fun r hr=>by rw [h3 r hr]; decide),aA,hf,cond_true]
   refine (congrArg ao (du (ns (pE f).length) (fun i=>(cj i fun i=>bd (aE f) [i,i,gi f.aC.aI (xE f i)],(i:Int))) rfl (e:=(Tj f,((pE f).length:Int))) ?_ ?_)).trans ?_
   ·intro i x hx
    obtain ⟨rfl,hi⟩:=c8 hx
    have A:=qt F (i:=(i:Int)) (by omega) (by omega)
    have ml:=bI i fun i=>bd (aE f) [i,i,gi f.aC.aI (xE f i)]
    rw [km]
    show dU f (y4 (aE f)) (pE f) (cj i _,(i:Int))=_
    generalize (cj i fun i=>bd (aE f) [i,i,gi f.aC.aI (xE f i)])=acc at ml
    unfold dU
    dsimp only
    rw [aw (by omega),cond_true,wB F (by omega) (by omega),aA,show idx [xE f i,eE f i] (0:Int)=some (xE f i) from rfl,aA,C.um A.1.1 A.1.2,aA,x5 (by simp),aA,E8 H ((r9 F).2 ⟨_,_,_,C0 F (by omega) (by omega),rfl⟩),dR (by omega) (by omega),aA,bB (by omega)]
   ·show dU f (y4 (aE f)) (pE f) (_,_)=_
    unfold dU
    dsimp only
    rw [cH,aX (by omega),cond_false]; rfl
   ·dsimp only
    have hl:(sw f).aG.length=(aE f).length:=bI _ _
    have ht:(sw f).To.length=(aE f).length:=bI _ _
    have:=OB (c:=sw f) (g:=fun a0 a1=>dO a0 a1 (aE f) (y4 (aE f)) f.aC) (G:=gE f) (by omega) (by omega) fun f' h f0 f1 h0 h1 e=>by
     rw [hl] at f1 h1
     rw [show gi (sw f).To f'=gi (gr (aE f) f') 1 from tY f0 f1,show gi (sw f).aG h=gi (gr (aE f) h) 0 from tY h0 h1] at e
     exact WR F (by omega) f0 f1 h0 h1 e
    unfold sw at this
    rw [this,aA]; rfl
  ·have hf:j8 f=false:=by unfold j8; rw [aX OA,Bool.and_false]
   rw [aw (by omega),cond_true,hf]; rfl
 ·have hf:j8 f=false:=by unfold j8; rw [aX h8,Bool.false_and]
  rw [aw (by omega),cond_true,hf]; rfl
def aag:dF:=dF.mk (aH.mk ((0:Int)) [] [] [] []) [] []
theorem WS {S:Type} {g:Int×List (List Int)→Option (Out S (dF×Bool))} :
  ag (ae 0 (af (fun s:Int×List (List Int)=>fD f s.1 s.2) ((0:Int),([]:List (List Int))))) g=g ((f.aP.length:Int),pE f):=by
 have hs:=F.sl
 have h8:=F.cat.o8
 refine du (ns f.aP.length) (fun i=>((i:Int),(ns i).flatMap (wA f))) rfl (e:=((f.aP.length:Int),pE f)) ?_ ?_
 ·intro i x hx
  obtain ⟨rfl,hi⟩:=c8 hx
  have pl:=E5 F (n:=i) (by omega)
  have s:=F.s i (by omega) (by omega)
  rw [sS]
  generalize (ns i).flatMap (wA f)=acc at pl
  show fD f (i:Int) acc=_
  unfold fD
  rw [aw (by omega),cond_true]
  refine (du (ns (gi f.aP i).toNat) (fun k=>((k:Int),acc++cj k (fun e=>[(i:Int),e]))) (by simp [cj,ns]) (e:=(((gi f.aP i).toNat:Int),acc++wA f i)) ?_ ?_).trans ?_
  ·intro k y hy
   obtain ⟨rfl,hk⟩:=c8 hy
   have ml:=bI k (fun e=>[(i:Int),e])
   rw [km,← List.append_assoc]
   show gL f (i:Int) (k:Int) (acc++cj k _)=_
   generalize cj k (fun e=>[(i:Int),e])=y2 at ml
   have hb:(acc++y2).length≤1000:=by rw [List.length_append]; omega
   unfold gL
   rw [bQ (by omega) (by omega),aA,aw (by omega),cond_true,dR (by omega) (by omega),aA,bB (by omega)]
  ·show gL f (i:Int) _ _=_
   unfold gL
   rw [cH,bQ (by omega) (by omega),aA,aX (by omega),cond_false]; rfl
  ·dsimp only
   rw [bB (by omega)]
 ·show fD f _ _=_
  unfold fD
  rw [cH,aX (by omega),cond_false]; rfl
theorem WT {S:Type} {g:Int×List (List Int)→Option (Out S (dF×Bool))} :
  ag (ae 4 (af (fun s:Int×List (List Int)=>fE f (pE f) s.1 s.2) ((0:Int),([]:List (List Int))))) g=g (((pE f).length:Int),aE f):=by
 have hn:=zX F
 refine du (ns (pE f).length) (fun i=>((i:Int),(ns i).flatMap (BL f))) rfl (e:=(((pE f).length:Int),aE f)) ?_ ?_
 ·intro i x hx
  obtain ⟨rfl,hi⟩:=c8 hx
  have kl:=IU F i
  show fE f (pE f) (i:Int) _=_
  unfold fE
  rw [aw (by omega),cond_true]
  generalize Ci:(ns i).flatMap (BL f)=acc at kl
  refine (du (ns (pE f).length) (fun j=>((j:Int),acc++(ns j).flatMap (sQ f i))) (by simp [ns]) (e:=(((pE f).length:Int),acc++BL f i)) ?_ ?_).trans ?_
  ·intro j y hy
   obtain ⟨rfl,hj⟩:=c8 hy
   have xl:=IT F j i
   show gM f (pE f) (i:Int) (j:Int) _=_
   unfold gM
   rw [aw (by omega),cond_true,wB F (by omega) (by omega),aA,wB F (by omega) (by omega),aA,show idx [xE f i,eE f i] (0:Int)=some (xE f i) from rfl,aA,show idx [xE f j,eE f j] (0:Int)=some (xE f j) from rfl,aA,aaf F.cat,aA]
   generalize QW:(ns j).flatMap (sQ f i)=y2 at xl
   have hl:=Gp F.cat (xE f i) (xE f j)
   have hm:∀ a∈zW f.aC (xE f i) (xE f j),tW f.aC (xE f i) (xE f j) a:=fun a ha=>Gq.1 ha
   have et:sQ f i j=((zW f.aC (xE f i) (xE f j)).filter fun a=>gi (gr f.aO a) (eE f i) == eE f j).map fun a=>[(i:Int),(j:Int),a]:=rfl
   generalize zW f.aC (xE f i) (xE f j)=H at hl hm et
   refine (du H (fun k=>((k:Int),(acc++y2)++((H.take k).filter fun a=>gi (gr f.aO a) (eE f i) == eE f j).map fun a=>[(i:Int),(j:Int),a])) (by simp) (e:=((H.length:Int),(acc++y2)++sQ f i j)) ?_ ?_).trans ?_
   ·intro k a ha
    have hk:=bf ha
    have L:=hm a (List.mem_of_getElem? ha)
    have A:=IX F (i:=(i:Int)) (j:=(j:Int)) (by omega) (by omega) L
    rw [G4 _ ha,List.map_append,← List.append_assoc]
    have hb:((acc++y2)++((H.take k).filter fun a=>gi (gr f.aO a) (eE f i) == eE f j).map fun a=>[(i:Int),(j:Int),a]).length≤1000000:=by
     have:=List.length_filter_le (fun a=>gi (gr f.aO a) (eE f i) == eE f j) (H.take k)
     rw [List.length_take] at this
     simp only [List.length_append,List.length_map]; omega
    generalize ((acc++y2)++((H.take k).filter fun a=>gi (gr f.aO a) (eE f i) == eE f j).map fun a=>[(i:Int),(j:Int),a])=WQ at hb
    show gN f (i:Int) (j:Int) [xE f i,eE f i] [xE f j,eE f j] H (k:Int) WQ=_
    unfold gN
    rw [aw (by omega),cond_true,bn,ha,aA,A.1,aA,show idx [xE f i,eE f i] (1:Int)=some (eE f i) from rfl,aA,A.2,aA,show idx [xE f j,eE f j] (1:Int)=some (eE f j) from rfl,aA]
    by_cases e:gi (gr f.aO a) (eE f i)=eE f j
    ·rw [sk e,cond_true,aA,dR (by omega) (by omega),aA,bB (by omega)]; rfl
    ·rw [rz e,cond_false,bB (by omega)]; simp
   ·show gN f (i:Int) (j:Int) _ _ H _ _=_
    unfold gN
    rw [aX (by omega),cond_false,List.take_length,et]
   ·dsimp only
    rw [bB (by omega),sS,QW,List.append_assoc]
  ·show gM f (pE f) (i:Int) _ _=_
   unfold gM
   rw [cH,aX (by omega),cond_false]; rfl
  ·dsimp only
   rw [bB (by omega),sS,Ci]
 ·show fE f (pE f) _ _=_
  unfold fE
  rw [cH,aX (by omega),cond_false]; rfl
theorem QY (h8:(pE f).length≤8) {i:Int} (i0:0≤i) (i1:i < (aE f).length) {S:Type} {g:List Int×Int→Option (Out S (dF×Bool))} :
  ag (ae 14 (af (fun s:List Int×Int=>fF f (aE f) (gr (aE f) i) s.1 s.2) (([]:List Int),(0:Int)))) g=g (cj (aE f).length (sR (sw f) (gE f) i),((aE f).length:Int)):=by
 have H:=D5 F h8
 have hn:=H.n
 have C:=F.cat
 have h3:∀ r∈aE f,r.length=3:=fun r hr=>by obtain ⟨_,_,_,_,rfl⟩:=(r9 F).1 hr; rfl
 refine du (ns (aE f).length) (fun j=>(cj j (sR (sw f) (gE f) i),(j:Int))) rfl (e:=(cj (aE f).length (sR (sw f) (gE f) i),((aE f).length:Int))) ?_ ?_
 ·intro j x hx
  obtain ⟨rfl,hj⟩:=c8 hx
  have ri:=h3 _ (j6 i0 i1)
  have rj:=h3 _ (j6 (l:=aE f) (j:=(j:Int)) (by omega) (by omega))
  have ml:=bI j (sR (sw f) (gE f) i)
  rw [km,WI F i0 i1 (by omega) (by omega)]
  show fF f (aE f) (gr (aE f) i) (cj j _) (j:Int)=_
  generalize Ci:cj j (sR (sw f) (gE f) i)=acc at ml
  unfold fF
  rw [aw (by omega),cond_true,cb (by omega) (by omega),aA,bQ (by omega) (by omega),aA,bQ (l:=gr (aE f) (j:Int)) (by omega) (by omega),aA]
  by_cases e:gi (gr (aE f) i) 1=gi (gr (aE f) j) 0
  ·rw [sk e,cond_true,cond_true,bQ (l:=gr (aE f) i) (by omega) (by omega),aA,bQ (l:=gr (aE f) (j:Int)) (by omega) (by omega),aA,bQ (l:=gr (aE f) i) (by omega) (by omega),aA,bQ (l:=gr (aE f) (j:Int)) (by omega) (by omega),aA]
   obtain ⟨a,b,c,u,v,hu,hv,e1,e2⟩:=IV F i0 i1 (by omega) (by omega) e
   have hb:kB f.aC (gi (gr (aE f) i) 2) (gi (gr (aE f) (j:Int)) 2)=some (gk f.aC.aB (gi (gr (aE f) i) 2) (gi (gr (aE f) (j:Int)) 2)):=by
    rw [e1,e2]
    exact C.thenS hu.2.1.1.1 hu.2.1.1.2 hv.2.1.1.1 hv.2.1.1.2
   rw [hb,aA,wC _ _ (by omega) (fun y hy=>by rw [h3 y hy]; decide),aA,dR (by omega) (by omega),aA,bB (by omega)]; rfl
  ·rw [rz e,cond_false,cond_false,dR (by omega) (by omega),aA,bB (by omega)]
 ·show fF f (aE f) (gr (aE f) i) _ _=_
  unfold fF
  rw [cH,aX (by omega),cond_false]
theorem OC:iQ f=some (bif j8 f then (dF.mk (ew f) (pE f) (aE f),true) else (aag,false)):=by
 have C:=F.cat
 have ln:=zX F
 unfold iQ
 rw [WS F]
 dsimp only
 by_cases h8:((pE f).length:Int)≤8
 ·have H:=D5 F (by omega)
  have hn:=H.n
  have h3:∀ r∈aE f,r.length=3:=fun r hr=>by obtain ⟨_,_,_,_,rfl⟩:=(r9 F).1 hr; rfl
  rw [aX (by omega),cond_false,WT F]
  dsimp only
  by_cases OA:((aE f).length:Int)≤40
  ·have hf:j8 f=true:=by unfold j8; rw [aw h8,aw OA]; rfl
   rw [aX (by omega),cond_false,hf,cond_true]
   refine (congrArg ao (du (ns (pE f).length) (fun i=>((i:Int),cj i fun i=>bd (aE f) [i,i,gi f.aC.aI (xE f i)])) rfl (e:=(((pE f).length:Int),Tj f)) ?_ ?_)).trans ?_
   ·intro i x hx
    obtain ⟨rfl,hi⟩:=c8 hx
    have A:=qt F (i:=(i:Int)) (by omega) (by omega)
    have ml:=bI i fun i=>bd (aE f) [i,i,gi f.aC.aI (xE f i)]
    rw [km]
    show gO f (pE f) (aE f) (i:Int) (cj i _)=_
    generalize (cj i fun i=>bd (aE f) [i,i,gi f.aC.aI (xE f i)])=acc at ml
    unfold gO
    rw [aw (by omega),cond_true,wB F (by omega) (by omega),aA,show idx [xE f i,eE f i] (0:Int)=some (xE f i) from rfl,aA,C.um A.1.1 A.1.2,aA,wC _ _ (by omega) (fun y hy=>by rw [h3 y hy]; decide),aA,dR (by omega) (by omega),aA,bB (by omega)]
   ·show gO f (pE f) (aE f) _ _=_
    unfold gO
    rw [cH,aX (by omega),cond_false]; rfl
   ·dsimp only
    have hl:(sw f).aG.length=(aE f).length:=bI _ _
    refine (congrArg ao (du (ns (aE f).length) (fun i=>((i:Int),cj i (fun v=>gi (gr (aE f) v) 0),cj i (fun v=>gi (gr (aE f) v) 1),cj i fun v=>cj (aE f).length (sR (sw f) (gE f) v))) rfl (e:=(((aE f).length:Int),ij (aE f) 0,ij (aE f) 1,qh (sw f) (gE f))) ?_ ?_)).trans rfl
    ·intro i x hx
     obtain ⟨rfl,hi⟩:=c8 hx
     have ri:=h3 _ (j6 (l:=aE f) (j:=(i:Int)) (by omega) (by omega))
     have m1:=bI i (fun v=>gi (gr (aE f) v) 0)
     have m2:=bI i (fun v=>gi (gr (aE f) v) 1)
     have m3:=bI i fun v=>cj (aE f).length (sR (sw f) (gE f) v)
     rw [km,km,km]
     show gP f (aE f) (i:Int) (cj i _) (cj i _) (cj i _)=_
     generalize (cj i (fun v=>gi (gr (aE f) v) 0))=ac1 at m1
     generalize (cj i (fun v=>gi (gr (aE f) v) 1))=y2 at m2
     generalize (cj i fun v=>cj (aE f).length (sR (sw f) (gE f) v))=WQ at m3
     unfold gP
     rw [aw (by omega),cond_true,cb (by omega) (by omega),aA,bQ (by omega) (by omega),aA,dR (by omega) (by omega),aA,bQ (by omega) (by omega),aA,dR (by omega) (by omega),aA,QY F (by omega) (by omega) (by omega)]
     dsimp only
     rw [dR (by omega) (by omega),aA,bB (by omega)]
    ·show gP f (aE f) _ _ _ _=_
     unfold gP
     rw [cH,aX (by omega),cond_false]
     unfold qh
     rw [hl]; rfl
  ·have hf:j8 f=false:=by unfold j8; rw [aX OA,Bool.and_false]
   rw [aw (by omega),cond_true,hf]; rfl
 ·have hf:j8 f=false:=by unfold j8; rw [aX h8,Bool.false_and]
  rw [aw (by omega),cond_true,hf]; rfl
end
end Go.Proofs.YtcnehblmgfbfoaaGreat
