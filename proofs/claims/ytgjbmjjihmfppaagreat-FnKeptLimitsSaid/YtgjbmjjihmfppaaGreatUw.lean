/- The first limit, cones and colimits: program and reference. No condition beside those that each theorem names. -/
import Derived.Test.YtgjbmjjihmfppaaGreatUs
import Derived.Test.YtgjbmjjihmfppaaGreatYn
namespace Go.Proofs.YtgjbmjjihmfppaaGreat
open Go Go.Li
set_option linter.unusedVariables false
set_option linter.unusedSectionVars false
set_option linter.unusedSimpArgs false
def zC:bE:=bE.mk 0 []
def Iw (d:aM):bE×Int:=bif decide ((cb d).length≤400) then (match (cb d).find? (e7 d (cb d)) with | some p=>(p,0) | none=>(zC,4)) else (zC,3)
section
variable {d:aM} (hb:ei d=true)
include hb
theorem Jb:qD d 1=some (bif decide ((cb d).length≤400) then (((cb d).find? (e7 d (cb d))).toList,true) else ([],false)):=by
 unfold qD
 rw [yC hb,aG]
 by_cases h:(cb d).length≤400
 ·rw [av h]
  simp only [cond_true,Bool.not_true,cond_false]
  have hC:∀ q∈cb d,mq d q:=fun q hq=>uj hb hq
  generalize hl:cb d=l at h hC ⊢
  refine (congrArg ak (n7 l (fun i=>(((l.take i).find? (e7 d l)).toList,(i:Int))) rfl (fun i p hp=>?_) (e:=((l.find? (e7 d l)).toList,(l.length:Int))) ?_)).trans rfl
  ·have hi:=bm hp
   show kJ d 1 l (((l.take i).find? (e7 d l)).toList,(i:Int))=_
   unfold kJ
   dsimp only
   rw [av (by omega),cond_true,bu,hp,aG,Cn hb hC (by omega) (hC p (List.mem_of_getElem? hp)),bN (by omega)]
   have e1:(l.take (i+1)).find? (e7 d l)=((l.take i).find? (e7 d l)).or (if e7 d l p then some p else none):=by
    rw [List.take_add_one,hp,List.find?_append]
    congr 1
    show List.find? (e7 d l) [p]=_
    rw [List.find?_cons]
    cases e7 d l p <;> rfl
   rw [e1]
   cases (l.take i).find? (e7 d l) with
   | some q=>rfl
   | none=>
    cases e7 d l p with
    | false=>rfl
    | true=>
     show (fits 32 (0+1)>>=fun _=>_)=_
     rw [dF (by omega) (by omega)]; rfl
  ·show kJ d 1 l (((l.take l.length).find? (e7 d l)).toList,(l.length:Int))=_
   unfold kJ
   dsimp only
   rw [bd (by omega),cond_false,List.take_length]
 ·rw [bd h]; rfl
theorem NC:qS d=some (Iw d):=by
 unfold qS Iw
 rw [Jb hb,aG]
 by_cases h:(cb d).length≤400
 ·rw [av h]
  simp only [cond_true]
  cases (cb d).find? (e7 d (cb d)) <;> rfl
 ·rw [bd h]; rfl
theorem IH:lZ d=some (bif decide ((cb d).length≤400) then (cb d,0) else ([],3)):=by
 unfold lZ
 rw [NS hb,aG]
 by_cases h:(cb d).length≤400
 ·rw [List.take_of_length_le (by omega),bd (by omega),av h]; rfl
 ·rw [av (by rw [List.length_take]; omega),bd h]; rfl
theorem Ea {p:bE} (P:mq d p):nC d p=some true:=by
 have D:=fc hb
 have o8:=D.d.o8
 have c8:=D.c.o8
 have dm:=D.d.m
 have cm:=D.c.m
 have al:=D.al
 have ol:=D.ol
 have tl:=D.d.tl
 obtain ⟨x0,x1,pl,hv,hs⟩:=P
 have Wx:eX p.fv 0 (aj (d.aH.aA - 1))=some true:=by
  unfold eX
  rw [dK (by omega) (by omega),av (show (0:Int)≤p.fv from x0)]
  first | (rw [av (show p.fv≤d.aH.aA - 1 by omega)]; rfl) | (simp; omega)
 have hw:fA p.bw (d.aH.aF.length:Int)=some true:=by
  unfold fA
  refine (congrArg ak (n7 p.bw (fun i=>(i:Int)) rfl (fun i a ha=>?_) (e:=(p.bw.length:Int)) ?_)).trans rfl
  ·have hi:=bm ha
   have k:=hv (i:Int) (by omega) (by omega)
   unfold iK
   rw [av (by omega),cond_true,cB (by omega) (by omega),aG,bN (by omega)]
   have:eX (gi p.bw i) 0 (aj ((d.aH.aF.length:Int) - 1))=some true:=by
    unfold eX
    rw [dK (by omega) (by omega),av (show (0:Int)≤gi p.bw i from k.1.1)]
    first | (rw [av (show gi p.bw i≤(d.aH.aF.length:Int) - 1 by omega)]; rfl) | (simp; omega)
   rw [this]; rfl
  ·unfold iK
   rw [bd (by omega),cond_false]
 unfold nC
 rw [Wx,aG]
 simp only [Bool.not_true,cond_false]
 rw [show ((p.bw.length:Int) != (d.aA.length:Int))=false by rw [bne_eq_false_iff_eq]; omega,cond_false]
 rw [show dI d.aH=some (d.aH.aF.length:Int) from rfl,aG,hw,aG]
 simp only [Bool.not_true,aG,cond_false]
 have h0:∀ {β:Type} (f:Int→Option (Out Unit Bool)),ag (ae 0 (ai (mN d p) (0:Int))) f=f (p.bw.length:Int):=fun {β} f=>
  n7 p.bw (fun i=>(i:Int)) rfl (fun i a ha=>by
   have hi:=bm ha
   have k:=hv (i:Int) (by omega) (by omega)
   unfold mN
   rw [av (by omega),cond_true,cB (by omega) (by omega),aG]
   have he:eE d.aH (gi p.bw i)=some (sH.mk p.fv (gi d.aA i)):=by
    unfold eE
    rw [D.d.ja k.1.1 k.1.2,aG,D.d.je k.1.1 k.1.2,aG,k.2.1,k.2.2]; rfl
   rw [he,aG,D.wz (by omega) (by omega),aG,bN (by omega)]
   simp) (e:=(p.bw.length:Int)) (by unfold mN; rw [bd (by omega),cond_false])
 have h1:∀ {β:Type} (f:Int→Option (Out Unit Bool)),ag (ae 2 (ai (mO d p) (0:Int))) f=f (d.ab.length:Int):=fun {β} f=>
  n7 d.ab (fun i=>(i:Int)) rfl (fun i a ha=>by
   have hi:=bm ha
   have a1:(i:Int) < d.aE.aF.length:=by omega
   have kf:=D.c.fr (f:=(i:Int)) (by omega) a1
   have kt:=D.c.to (f:=(i:Int)) (by omega) a1
   have ka:=D.ar (a:=(i:Int)) (by omega) a1
   have kF:=hv _ kf.1 kf.2
   unfold mO
   rw [av (by omega),cond_true,D.uY (by omega) a1,aG,D.c.ja (by omega) a1,aG,cB (l:=p.bw) kf.1 (by omega),aG,D.d.rf kF.1.1 kF.1.2 ka.1 ka.2,aG,D.c.je (by omega) a1,aG,cB (l:=p.bw) kt.1 (by omega),aG,hs _ (by omega) a1,bN (by omega)]
   simp) (e:=(d.ab.length:Int)) (by unfold mO; rw [bd (by omega),cond_false])
 rw [h0 (β:=Unit),h1 (β:=Unit)]
 rfl
end
end Go.Proofs.YtgjbmjjihmfppaaGreat
namespace Go.Proofs.YtgjbmjjihmfppaaGreat
open Go Go.Li
set_option linter.unusedVariables false
set_option linter.unusedSectionVars false
set_option linter.unusedSimpArgs false
theorem J4 {d:aM} (hs:ik d):pM d=some (bif ei d then Iw d else (zC,1)):=by
 unfold pM
 rw [yB hs,aG]
 cases hb:ei d with
 | false=>rfl
 | true=>
  simp only [Bool.not_true,cond_false]
  rw [NC hb,aG]
  rfl
theorem Ci {x:List (List Int)} {n:Nat} (hn:n≤4) (h:Sq n x) (c:((ns n).all fun i=>(gi (gr x i) i == 1) && (ns n).all fun j=>(ns n).all fun k=>!((gi (gr x i) j == 1) && (gi (gr x j) k == 1)) || (gi (gr x i) k == 1))=true):Ok (dB x) fun c=>jj n (4 * n) c∧Ty c:=by
 rw [List.all_eq_true] at c
 refine vx hn h (fun i i0 i1=>?_) (fun i j k i0 i1 j0 j1 k0 k1 h1 h2=>?_)
 ·have:=c i (bz.2 ⟨i0,i1⟩)
  rw [Bool.and_eq_true,beq_iff_eq] at this
  exact this.1
 ·have:=c i (bz.2 ⟨i0,i1⟩)
  rw [Bool.and_eq_true,List.all_eq_true] at this
  have:=this.2 j (bz.2 ⟨j0,j1⟩)
  rw [List.all_eq_true] at this
  have:=this k (bz.2 ⟨k0,k1⟩)
  rw [h1,h2] at this
  simpa using this
theorem uX {a b:Nat} {c:aI} (h:jj a b c∧Ty c) (ha:a≤63) (hb:b≤63):T7 c:=⟨h.2,by have:=h.1.m; omega,by have:=h.1.o; omega,h.1.small (by omega) (by omega)⟩
theorem We:Ok nB T7:=by
 unfold nB
 exact jk (ob D8 fun c hc=>os (uX hc (by omega) (by omega)))
section
variable {x:List Int} (B:zw x) {s:aK} (S:Src x s)
include B S
theorem SS:Ok (nG s) fun y=>T7 y.1∧Src x y.2:=by
 unfold nG
 refine jk (ob (ed B S _) fun y hy=>?_)
 have T:Src x (aK.mk s.Code y.2.At y.2.ao):=S.on hy.2
 have hd:∀ (k:Nat) (u v:Int),[(0:Int),0][k]? = some u→[(1:Int),1][k]? = some v→0≤u∧u < v∧v < 2:=fun k u v hu hv=>by
  rcases k with _ | _ | k <;> simp at hu hv <;> omega
 have p3:Ok (dB [[(1:Int),1,1],[0,1,0],[0,0,1]]) fun c=>jj 3 (4 * 3) c∧Ty c:=Ci (n:=3) (by omega) ⟨rfl,by simp⟩ (by decide)
 refine oc (fun _=>ob (Ci (n:=0) (by omega) ⟨rfl,by simp⟩ (by decide)) fun c hc=>os ⟨uX hc (by omega) (by omega),T⟩) fun _=>oc (fun _=>ob We fun c hc=>os ⟨hc,T⟩) fun _=>
  oc (fun _=>ob (Ci (n:=2) (by omega) ⟨rfl,by simp⟩ (by decide)) fun c hc=>os ⟨uX hc (by omega) (by omega),T⟩) fun _=>
  oc (fun _=>ob (Ok.and (Cj (n:=2) (f:=[0,0]) (t:=[1,1]) ⟨rfl,by decide,hd⟩ (by omega) (by omega)) (Ck (n:=2) (.inl rfl) rfl (by decide) hd)) fun c hc=>os ⟨uX hc (by omega) (by omega),T⟩) fun _=>
  oc (fun _=>ob p3 fun c hc=>ob (Wh hc.1 hc.2 (by omega) (by omega)) fun e he=>os ⟨uX he (by omega) (by omega),T⟩) fun _=>
  oc (fun _=>ob p3 fun c hc=>os ⟨uX hc (by omega) (by omega),T⟩) fun _=>
  oc (fun _=>ob (Aq B T) fun m hm=>?_) fun _=>
  oc (fun _=>ob (Ci (n:=2) (by omega) ⟨rfl,by simp⟩ (by decide)) fun c hc=>os ⟨uX hc (by omega) (by omega),T⟩) fun _=>ob (D9 B T 3 5) fun c hc=>os ⟨Cm hc.1 (by omega) (by omega),S.on hc.2⟩
 obtain ⟨⟨n,n0,n1,hq,hr,h0⟩,S2⟩:=hm
 exact ob (wY n0 n1 hq hr h0) fun c hc=>os ⟨uX hc (by omega) (by omega),S.on S2⟩
theorem Iy:Ok (kB s) fun y=>T7 y.1∧Src x y.2:=by
 unfold kB
 refine jk (ob (ed B S _) fun y hy=>?_)
 have T:Src x (aK.mk s.Code y.2.At y.2.ao):=S.on hy.2
 exact oc (fun _=>ob (Ci (n:=4) (by omega) ⟨rfl,by simp⟩ (by decide)) fun c hc=>os ⟨uX hc (by omega) (by omega),T⟩) fun _=>
  oc (fun _=>ob (Ci (n:=3) (by omega) ⟨rfl,by simp⟩ (by decide)) fun c hc=>os ⟨uX hc (by omega) (by omega),T⟩) fun _=>
  oc (fun _=>ob J5 fun c hc=>os ⟨uX hc (by omega) (by omega),T⟩) fun _=>ob (D9 B T 4 12) fun c hc=>os ⟨Cm hc.1 (by omega) (by omega),S.on hc.2⟩
theorem ND:Ok (lG s) fun y=>ik y.1∧Src x y.2:=by
 unfold lG
 refine jk (ol (fun z:Int×Int×Int=>(0≤z.1∧z.1≤8)∧Src x (aK.mk s.Code z.2.1 z.2.2)) (fun z=>(8 - z.1).toNat) ⟨⟨by show (0:Int)≤0; omega,by show (0:Int)≤8; omega⟩,S⟩ ?_)
 rintro ⟨i,a,h⟩ ⟨⟨i0,i1⟩,T⟩
 dsimp only at i0 i1 T
 show Ok (lQ s i a h) _
 unfold lQ
 refine od (fun hi=>ob (SS B T) fun y hy=>ob (Iy B (S.on hy.2)) fun z hz=>ob (EJ hy.1 hz.1) fun b _=>?_) fun hi=>os ⟨rfl,?_⟩
 ·have S2:Src x (aK.mk s.Code z.2.At z.2.ao):=S.on hz.2
  have nx:∀ t:aK,Src x t→(0≤aj (i+1)∧aj (i+1)≤8)∧(8 - aj (i+1)).toNat < (8 - i).toNat:=fun t _=>by rw [dK (by omega) (by omega)]; omega
  refine oc (fun _=>ob (Gl hy.1 hz.1) fun l hl=>od (fun hp=>ob (ed B S2 _) fun u hu=>oi hu.1.1 (hu.1.2 (by omega)) fun g hg=>os ⟨(hl.2.1 g hg).small hy.1 hz.1,S.on hu.2⟩) fun _=>os ⟨⟨(nx _ S2).1,S2⟩,(nx _ S2).2⟩) fun _=>os ⟨⟨(nx _ S2).1,S2⟩,(nx _ S2).2⟩
 ·exact ob We fun c hc=>ob (zy hc) fun f hf=>os ⟨hf.1.small hc hc,T⟩
theorem Ya:Ok (oV s) fun y=>ik y.1∧Src x y.2:=by
 unfold oV
 refine jk (ob (ed B S _) fun y hy=>oc (fun _=>ob (EK B (S.on hy.2)) fun f hf=>os ⟨hf.1,S.on hf.2⟩) fun _=>ob (ND B (S.on hy.2)) fun f hf=>os ⟨hf.1,S.on hf.2⟩)
end
end Go.Proofs.YtgjbmjjihmfppaaGreat
