/- The first limit, cones and colimits: program and reference. No condition beside those that each theorem names. -/
import Derived.Test.YtgjbmjjihmfppaaGreatUs
import Derived.Test.YtgjbmjjihmfppaaGreatYn
namespace Go.Proofs.YtgjbmjjihmfppaaGreat
open Go Go.Li
set_option linter.unusedVariables false
set_option linter.unusedSectionVars false
set_option linter.unusedSimpArgs false
def zC:aZ:=aZ.mk 0 []
def JH (d:aI):aZ×Int:=bif decide ((ak d).length≤400) then (match (ak d).find? (cf d (ak d)) with | some p=>(p,0) | none=>(zC,4)) else (zC,3)
section
variable {d:aI} (hb:cw d=true)
include hb
theorem Kr:qI d 1=some (bif decide ((ak d).length≤400) then (((ak d).find? (cf d (ak d))).toList,true) else ([],false)):=by
 unfold qI
 rw [xr hb,aF]
 by_cases h:(ak d).length≤400
 ·rw [av h]
  simp only [cond_true,Bool.not_true,cond_false]
  have hC:∀ q∈ak d,ei d q:=fun q hq=>lj hb hq
  generalize hl:ak d=l at h hC ⊢
  refine (congrArg ao (l6 l (fun i=>(((l.take i).find? (cf d l)).toList,(i:Int))) rfl (fun i p hp=>?_) (e:=((l.find? (cf d l)).toList,(l.length:Int))) ?_)).trans rfl
  ·have hi:=bg hp
   show kW d 1 l (((l.take i).find? (cf d l)).toList,(i:Int))=_
   unfold kW
   dsimp only
   rw [av (by omega),cond_true,bp,hp,aF,vl hb hC (by omega) (hC p (List.mem_of_getElem? hp)),bQ (by omega)]
   have e1:(l.take (i+1)).find? (cf d l)=((l.take i).find? (cf d l)).or (if cf d l p then some p else none):=by
    rw [List.take_add_one,hp,List.find?_append]
    congr 1
    show List.find? (cf d l) [p]=_
    rw [List.find?_cons]
    cases cf d l p <;> rfl
   rw [e1]
   cases (l.take i).find? (cf d l) with
   | some q=>rfl
   | none=>
    cases cf d l p with
    | false=>rfl
    | true=>
     show (fits 32 (0+1)>>=fun _=>_)=_
     rw [dH (by omega) (by omega)]; rfl
  ·show kW d 1 l (((l.take l.length).find? (cf d l)).toList,(l.length:Int))=_
   unfold kW
   dsimp only
   rw [bc (by omega),cond_false,List.take_length]
 ·rw [bc h]; rfl
theorem Pc:qX d=some (JH d):=by
 unfold qX JH
 rw [Kr hb,aF]
 by_cases h:(ak d).length≤400
 ·rw [av h]
  simp only [cond_true]
  cases (ak d).find? (cf d (ak d)) <;> rfl
 ·rw [bc h]; rfl
theorem wN:mL d=some (bif decide ((ak d).length≤400) then (ak d,0) else ([],3)):=by
 unfold mL
 rw [Pn hb,aF]
 by_cases h:(ak d).length≤400
 ·rw [List.take_of_length_le (by omega),bc (by omega),av h]; rfl
 ·rw [av (by rw [List.length_take]; omega),bc h]; rfl
end
end Go.Proofs.YtgjbmjjihmfppaaGreat
namespace Go.Proofs.YtgjbmjjihmfppaaGreat
open Go Go.Li
set_option linter.unusedVariables false
set_option linter.unusedSectionVars false
set_option linter.unusedSimpArgs false
theorem UQ {d:aI} (hs:fg d):pP d=some (bif cw d then JH d else (zC,1)):=by
 unfold pP
 rw [zM hs,aF]
 cases hb:cw d with
 | false=>rfl
 | true=>
  simp only [Bool.not_true,cond_false]
  rw [Pc hb,aF]
  rfl
theorem Dj {x:List (List Int)} {n:Nat} (hn:n≤4) (h:Sq n x) (c:((ns n).all fun i=>(gi (gr x i) i == 1) && (ns n).all fun j=>(ns n).all fun k=>!((gi (gr x i) j == 1) && (gi (gr x j) k == 1)) || (gi (gr x i) k == 1))=true):Ok (dL x) fun c=>ju n (4 * n) c∧Ty c:=by
 rw [List.all_eq_true] at c
 refine wO hn h (fun i i0 i1=>?_) (fun i j k i0 i1 j0 j1 k0 k1 h1 h2=>?_)
 ·have:=c i (bw.2 ⟨i0,i1⟩)
  rw [Bool.and_eq_true,beq_iff_eq] at this
  exact this.1
 ·have:=c i (bw.2 ⟨i0,i1⟩)
  rw [Bool.and_eq_true,List.all_eq_true] at this
  have:=this.2 j (bw.2 ⟨j0,j1⟩)
  rw [List.all_eq_true] at this
  have:=this k (bw.2 ⟨k0,k1⟩)
  rw [h1,h2] at this
  simpa using this
theorem vX {a b:Nat} {c:aG} (h:ju a b c∧Ty c) (ha:a≤63) (hb:b≤63):T7 c:=⟨h.2,by have:=h.1.m; omega,by have:=h.1.o; omega,h.1.small (by omega) (by omega)⟩
theorem Yj:Ok nI T7:=by
 unfold nI
 exact jy (ob Fj fun c hc=>os (vX hc (by omega) (by omega)))
section
variable {x:List Int} (B:AI x) {s:aK} (S:Src x s)
include B S
theorem UR:Ok (nN s) fun y=>T7 y.1∧Src x y.2:=by
 unfold nN
 refine jy (ob (fh B S _) fun y hy=>?_)
 have T:Src x (aK.mk s.Code y.2.At y.2.au):=S.on hy.2
 have hd:∀ (k:Nat) (u v:Int),[(0:Int),0][k]? = some u→[(1:Int),1][k]? = some v→0≤u∧u < v∧v < 2:=fun k u v hu hv=>by
  rcases k with _ | _ | k <;> simp at hu hv <;> omega
 have p3:Ok (dL [[(1:Int),1,1],[0,1,0],[0,0,1]]) fun c=>ju 3 (4 * 3) c∧Ty c:=Dj (n:=3) (by omega) ⟨rfl,by simp⟩ (by decide)
 refine oc (fun _=>ob (Dj (n:=0) (by omega) ⟨rfl,by simp⟩ (by decide)) fun c hc=>os ⟨vX hc (by omega) (by omega),T⟩) fun _=>oc (fun _=>ob Yj fun c hc=>os ⟨hc,T⟩) fun _=>
  oc (fun _=>ob (Dj (n:=2) (by omega) ⟨rfl,by simp⟩ (by decide)) fun c hc=>os ⟨vX hc (by omega) (by omega),T⟩) fun _=>
  oc (fun _=>ob (Ok.and (Dl (n:=2) (f:=[0,0]) (t:=[1,1]) ⟨rfl,by decide,hd⟩ (by omega) (by omega)) (Dm (n:=2) (.inl rfl) rfl (by decide) hd)) fun c hc=>os ⟨vX hc (by omega) (by omega),T⟩) fun _=>
  oc (fun _=>ob p3 fun c hc=>ob (Yk hc.1 hc.2 (by omega) (by omega)) fun e he=>os ⟨vX he (by omega) (by omega),T⟩) fun _=>
  oc (fun _=>ob p3 fun c hc=>os ⟨vX hc (by omega) (by omega),T⟩) fun _=>
  oc (fun _=>ob (BF B T) fun m hm=>?_) fun _=>
  oc (fun _=>ob (Dj (n:=2) (by omega) ⟨rfl,by simp⟩ (by decide)) fun c hc=>os ⟨vX hc (by omega) (by omega),T⟩) fun _=>ob (Fk B T 3 5) fun c hc=>os ⟨Dn hc.1 (by omega) (by omega),S.on hc.2⟩
 obtain ⟨⟨n,n0,n1,hq,hr,h0⟩,S2⟩:=hm
 exact ob (yf n0 n1 hq hr h0) fun c hc=>os ⟨vX hc (by omega) (by omega),S.on S2⟩
theorem JI:Ok (kK s) fun y=>T7 y.1∧Src x y.2:=by
 unfold kK
 refine jy (ob (fh B S _) fun y hy=>?_)
 have T:Src x (aK.mk s.Code y.2.At y.2.au):=S.on hy.2
 exact oc (fun _=>ob (Dj (n:=4) (by omega) ⟨rfl,by simp⟩ (by decide)) fun c hc=>os ⟨vX hc (by omega) (by omega),T⟩) fun _=>
  oc (fun _=>ob (Dj (n:=3) (by omega) ⟨rfl,by simp⟩ (by decide)) fun c hc=>os ⟨vX hc (by omega) (by omega),T⟩) fun _=>
  oc (fun _=>ob Lo fun c hc=>os ⟨vX hc (by omega) (by omega),T⟩) fun _=>ob (Fk B T 4 12) fun c hc=>os ⟨Dn hc.1 (by omega) (by omega),S.on hc.2⟩
theorem Pd:Ok (lT s) fun y=>fg y.1∧Src x y.2:=by
 unfold lT
 refine jy (ol (fun z:Int×Int×Int=>(0≤z.1∧z.1≤8)∧Src x (aK.mk s.Code z.2.1 z.2.2)) (fun z=>(8 - z.1).toNat) ⟨⟨by show (0:Int)≤0; omega,by show (0:Int)≤8; omega⟩,S⟩ ?_)
 rintro ⟨i,a,h⟩ ⟨⟨i0,i1⟩,T⟩
 dsimp only at i0 i1 T
 show Ok (mB s i a h) _
 unfold mB
 refine od (fun hi=>ob (UR B T) fun y hy=>ob (JI B (S.on hy.2)) fun z hz=>ob (Gc hy.1 hz.1) fun b _=>?_) fun hi=>os ⟨rfl,?_⟩
 ·have S2:Src x (aK.mk s.Code z.2.At z.2.au):=S.on hz.2
  have nx:∀ t:aK,Src x t→(0≤an (i+1)∧an (i+1)≤8)∧(8 - an (i+1)).toNat < (8 - i).toNat:=fun t _=>by rw [dW (by omega) (by omega)]; omega
  refine oc (fun _=>ob (Ht hy.1 hz.1) fun l hl=>od (fun hp=>ob (fh B S2 _) fun u hu=>oi hu.1.1 (hu.1.2 (by omega)) fun g hg=>os ⟨(hl.2.1 g hg).small hy.1 hz.1,S.on hu.2⟩) fun _=>os ⟨⟨(nx _ S2).1,S2⟩,(nx _ S2).2⟩) fun _=>os ⟨⟨(nx _ S2).1,S2⟩,(nx _ S2).2⟩
 ·exact ob Yj fun c hc=>ob (AJ hc) fun f hf=>os ⟨hf.1.small hc hc,T⟩
theorem Z7:Ok (oZ s) fun y=>fg y.1∧Src x y.2:=by
 unfold oZ
 refine jy (ob (fh B S _) fun y hy=>oc (fun _=>ob (Ge B (S.on hy.2)) fun f hf=>os ⟨hf.1,S.on hf.2⟩) fun _=>ob (Pd B (S.on hy.2)) fun f hf=>os ⟨hf.1,S.on hf.2⟩)
end
end Go.Proofs.YtgjbmjjihmfppaaGreat
