/- Set functors and natural maps between them: copies, equality, marks. No condition beside those that each theorem names. -/
import Derived.Test.YtacpfhajafmigaaGreatPk
import Derived.Test.YtacpfhajafmigaaGreatRa
namespace Go.Proofs.YtacpfhajafmigaaGreat
open Go Go.Li
theorem implClones {p:List (List Int)} (hk:p.length≤1048576) (hr:∀ y∈p,y.length≤1048576):eT p=some p:=by
 have h1:∀ l:List Int,l.length≤1048576→eM l=some l:=fun l hl=>specOwn0 l hl
 unfold eT
 rw [mk_ok (by omega) (by omega),aD]
 refine (congrArg retM (map_loop p.length (gr p) (fun acc i=>(acc,(i:Int))) rfl ?_ ?_)).trans ?_
 ·intro i acc hi ha
  show eH p acc i=_
  unfold eH
  rw [decT (by omega),cond_true,idx_gr (by omega) (by omega),aD,h1 _ (hr _ (gr_mem (by omega) (by omega))),aD,dR (by omega) (by omega),aD,bW (by omega)]
 ·intro acc ha
  show eH p acc _=_
  unfold eH
  rw [decF (by omega),cond_false]
 ·show some (mapI p.length (gr p))=_
  have:=mapI_gl p (fun x=>x)
  rw [List.map_id'] at this
  exact congrArg some this
structure SFSmall (f:aF):Prop where
 c:CatSmall f.aA
 s:f.aM.length≤1048576
 k:f.aN.length≤1048576
 r:∀ y∈f.aN,y.length≤1048576
theorem specOwnF {f:aF} (h:SFSmall f):jU f=some f:=by
 unfold jU
 rw [specOwnC h.c,aD,specOwn0 _ h.s,aD,specOwn2 _ h.k h.r,aD]; rfl
structure SMSmall (m:aZ):Prop where
 s:SFSmall m.aK
 t:SFSmall m.aQ
 k:m.bN.length≤1048576
 r:∀ y∈m.bN,y.length≤1048576
section
variable {c:aI} (H:Cat c)
include H
theorem implCopyF {f:aF} (h:SFSmall f):fA f=some f:=by
 unfold fA
 have e2:eT f.aN=some f.aN:=implClones h.k h.r
 rw [implCopy h.c,aD,implClone H _ h.s,aD,e2,aD]; rfl
theorem implSetMap {f g:aF} {p:List (List Int)} (hf:SFSmall f) (hg:SFSmall g) (hk:p.length≤1048576) (hr:∀ y∈p,y.length≤1048576):jW f g p=some (aZ.mk f g p):=by
 unfold jW
 have e2:eT p=some p:=implClones hk hr
 rw [implCopyF H hf,aD,implCopyF H hg,aD,e2,aD]; rfl
end
theorem specSetMap {f g:aF} {p:List (List Int)} (hf:SFSmall f) (hg:SFSmall g) (hk:p.length≤1048576) (hr:∀ y∈p,y.length≤1048576):eI f g p=some (aZ.mk f g p):=by
 unfold eI
 rw [specOwnF hf,aD,specOwnF hg,aD,specOwn2 _ hk hr,aD]; rfl
end Go.Proofs.YtacpfhajafmigaaGreat
namespace Go.Proofs.YtacpfhajafmigaaGreat
open Go Go.Li
def sameB (c d:aI):Bool:=c.aH == d.aH && (c.aG == d.aG && (c.To == d.To && (c.aO == d.aO && c.aE == d.aE)))
theorem sameB_eq {c d:aI}:sameB c d=true↔c=d:=by
 unfold sameB
 simp only [Bool.and_eq_true,beq_iff_eq]
 constructor
 ·rintro ⟨h1,h2,h3,h4,h5⟩
  cases c; cases d
  dsimp only at h1 h2 h3 h4 h5
  rw [h1,h2,h3,h4,h5]
 ·rintro rfl; exact ⟨rfl,rfl,rfl,rfl,rfl⟩
theorem specSameCat {c d:aI} (h:CatSmall c):kV c d=some (sameB c d):=by
 obtain ⟨h1,h2,h3,h4,h5⟩:=h
 have e5:jR c.aE d.aE=some (c.aE == d.aE):=eqMM_ok _ _ (by omega) (fun z hz=>by have:=h5 z hz; omega)
 unfold kV sameB
 cases c.aH == d.aH with
 | false=>rfl
 | true=>
  rw [cond_true,specSame _ _ (by omega),aD]
  cases c.aG == d.aG with
  | false=>rfl
  | true=>
   rw [cond_true,specSame _ _ (by omega),aD]
   cases c.To == d.To with
   | false=>rfl
   | true=>
    rw [cond_true,specSame _ _ (by omega),aD]
    cases c.aO == d.aO with
    | false=>rfl
    | true=>rw [cond_true,e5]; rfl
theorem zip_same:∀ {x y:List (List Int)},x.length=y.length→(x == y) = !((x.zip y).any fun z=>!(z.1 == z.2)):=by
 intro x
 induction x with
 | nil=>intro y h; cases y with
  | nil=>rfl
  | cons b y=>simp at h
 | cons a x ih=>
  intro y h
  cases y with
  | nil=>simp at h
  | cons b y=>
   have h':x.length=y.length:=by simpa using h
   rw [List.zip_cons_cons,List.any_cons,Bool.not_or,Bool.not_not,← ih h']; rfl
theorem implSameCat {c d:aI} (h:CatSmall c):fE c d=some (sameB c d):=by
 obtain ⟨h1,h2,h3,h4,h5⟩:=h
 unfold fE sameB
 cases e1:c.aH == d.aH with
 | false=>rw [show (c.aH != d.aH)=true by unfold bne; rw [e1]; rfl]; rfl
 | true=>
  rw [show (c.aH != d.aH)=false by unfold bne; rw [e1]; rfl,cond_false,implSame _ _ (by omega),aD]
  cases c.aG == d.aG with
  | false=>rfl
  | true=>
   rw [Bool.not_true,cond_false,implSame _ _ (by omega),aD]
   cases c.To == d.To with
   | false=>rfl
   | true=>
    rw [Bool.not_true,cond_false,implSame _ _ (by omega),aD]
    cases c.aO == d.aO with
    | false=>rfl
    | true=>
     rw [Bool.not_true,cond_false,aD]
     simp only [Bool.true_and]
     by_cases hl:c.aE.length=d.aE.length
     ·rw [bneF (by omega),cond_false,zip_same hl]
      refine (congrArg retM (for_anyb (c.aE.zip d.aE) (fun z=>!(z.1 == z.2)) (fun i=>(i:Int)) rfl ?_ ?_ (e:=((c.aE.zip d.aE).length:Int)) (y:=false) ?_)).trans ?_
      ·intro i z hz hp
       obtain ⟨z1,z2⟩:=z
       obtain ⟨g1,g2⟩:=List.getElem?_zip_eq_some.1 hz
       have hi:=getElem?_lt g1
       have:=h5 _ (List.mem_of_getElem? g1)
       unfold gD
       rw [decT (by omega),cond_true,idx_nat,g1,aD,idx_nat,g2,aD,implSame _ _ (by omega),aD]
       rw [show (!(z1 == z2))=false from hp,cond_false,bW (by omega)]
      ·intro i z hz hp
       obtain ⟨z1,z2⟩:=z
       obtain ⟨g1,g2⟩:=List.getElem?_zip_eq_some.1 hz
       have hi:=getElem?_lt g1
       have:=h5 _ (List.mem_of_getElem? g1)
       unfold gD
       rw [decT (by omega),cond_true,idx_nat,g1,aD,idx_nat,g2,aD,implSame _ _ (by omega),aD]
       rw [show (!(z1 == z2))=true from hp,cond_true]
      ·unfold gD
       rw [List.length_zip,← hl,Nat.min_self,decF (by omega),cond_false]
      ·cases (c.aE.zip d.aE).any fun z=>!(z.1 == z.2) <;> rfl
     ·rw [bneT (by omega)]
      have:(c.aE == d.aE)=false:=beqF fun h=>hl (by rw [h])
      rw [this]; rfl
end Go.Proofs.YtacpfhajafmigaaGreat
namespace Go.Proofs.YtacpfhajafmigaaGreat
open Go Go.Li
theorem forb {S R:Type} {body:Int→Option (Out Int R)} {k:Nat} {f:Int→Option (Out S R)} {n:Nat} (p:Int→Bool) {y:R}
  (h:∀ i:Nat,i < n→body (i:Int)=bif p i then some (.ret y) else some (.norm ((i+1:Nat):Int))) (last:body (n:Int)=some (.exit k (n:Int))) :
  lbind (blockM k (loopM body (0:Int))) f=bif (ns n).any p then some (.ret y) else f n:=by
 refine (for_anyb (ns n) p (fun i=>(i:Int)) rfl ?_ ?_ (e:=(n:Int)) (y:=y) ?_).trans ?_
 ·intro i x hx hp; obtain ⟨rfl,hi⟩:=ns_get hx; rw [h i hi,hp]; rfl
 ·intro i x hx hp; obtain ⟨rfl,hi⟩:=ns_get hx; rw [h i hi,hp]; rfl
 ·rw [dD]; exact last
 ·cases (ns n).any p <;> rfl
theorem forg {S R:Type} {body:Int→Option (Out Int R)} {k:Nat} {f:Int→Option (Out S R)} {n:Nat} (p:Int→Bool) (G:R→Prop)
  (h:∀ i:Nat,i < n→(p i=false∧body (i:Int)=some (.norm ((i+1:Nat):Int)))∨(p i=true∧∃ y,body (i:Int)=some (.ret y)∧G y)) (last:body (n:Int)=some (.exit k (n:Int))) :
  ((ns n).any p=false∧lbind (blockM k (loopM body (0:Int))) f=f n)∨((ns n).any p=true∧∃ y,lbind (blockM k (loopM body (0:Int))) f=some (.ret y)∧G y):=by
 refine (for_anyg (ns n) p G (fun i=>(i:Int)) rfl ?_ ?_ (e:=(n:Int)) (by rw [dD]; exact last)).elim (fun h=>.inr h) (fun h=>.inl h)
 ·intro i x hx hp
  obtain ⟨rfl,hi⟩:=ns_get hx
  rcases h i hi with ⟨_,h⟩ | ⟨h,_⟩
  ·exact h
  ·rw [hp] at h; cases h
 ·intro i x hx hp
  obtain ⟨rfl,hi⟩:=ns_get hx
  rcases h i hi with ⟨h,_⟩ | ⟨_,h⟩
  ·rw [hp] at h; cases h
  ·exact h
theorem cond_some {α:Type} {b:Bool} {x y:α}:(bif b then some x else some y)=some (bif b then x else y):=by cases b <;> rfl
theorem cond_or {a b:Bool}:(bif a then true else b)=(a || b):=by cases a <;> rfl
theorem cond_and {a b:Bool}:(bif a then b else false)=(a && b):=by cases a <;> rfl
theorem ns_any_false {n:Nat} {p:Int→Bool}:(ns n).any p=false↔∀ i:Int,0≤i→i < n→p i=false:=by
 rw [List.any_eq_false]
 exact ⟨fun h i h0 h1=>by simpa using h i (ns_mem.2 ⟨h0,h1⟩),fun h i hi=>by simp [h i (ns_mem.1 hi).1 (ns_mem.1 hi).2]⟩
def mapB (l:List Int) (m n:Int):Bool:=((l.length:Int) == m) && inS n l
theorem mapB_iff {l:List Int} {m n:Int}:mapB l m n=true↔(l.length:Int)=m∧∀ y∈l,0≤y∧y < n:=by
 unfold mapB; rw [Bool.and_eq_true,beq_iff_eq,inS_iff]
theorem implMapOf (l:List Int) (m n:Int) (hl:l.length≤1048576000) (hn:0≤n) (hn2:n≤1048576000):kY l m n=some (mapB l m n):=by
 unfold kY mapB
 rw [within l n hl hn hn2,aD,cond_some,cond_and]; rfl
theorem specMapOf (l:List Int) (m n:Int) (hl:l.length≤1048576000):(bif (l.length:Int) != m then some true else (gF n l>>=fun y=>some (!y)))=some (!mapB l m n):=by
 rw [specMap n l hl,aD,cond_some,cond_or]
 unfold mapB bne
 cases (l.length:Int) == m <;> simp
def sfHead (f:aF):Bool:=catB f.aA && (((f.aM.length:Int) == f.aA.aH) && (inS 17 f.aM && (f.aN.length == f.aA.aG.length)))
def actB (f:aF) (a:Int):Bool:=mapB (gr f.aN a) (gi f.aM (gi f.aA.aG a)) (gi f.aM (gi f.aA.To a))
def sfShapeB (f:aF):Bool:=sfHead f && (ns f.aA.aG.length).all (actB f)
structure SFHead (f:aF):Prop where
 cat:Cat f.aA
 sl:(f.aM.length:Int)=f.aA.aH
 s:∀ x:Int,0≤x→x < f.aA.aH→0≤gi f.aM x∧gi f.aM x≤16
 al:f.aN.length=f.aA.aG.length
theorem sfHead_of {f:aF} (h:sfHead f=true):SFHead f:=by
 unfold sfHead at h
 simp only [Bool.and_eq_true,beq_iff_eq,inS_iff] at h
 obtain ⟨h1,h2,h3,h4⟩:=h
 refine ⟨cat_of h1,h2,fun x h0 h1=>?_,h4⟩
 have:=h3 _ (gi_mem h0 (by omega))
 omega
namespace SFHead
variable {f:aF} (H:SFHead f)
include H
theorem idxS {x:Int} (h0:0≤x) (h1:x < f.aA.aH):idx f.aM x=some (gi f.aM x):=bS h0 (by rw [H.sl]; exact h1)
theorem idxA {a:Int} (h0:0≤a) (h1:a < f.aA.aG.length):idx f.aN a=some (gr f.aN a):=idx_gr h0 (by rw [H.al]; exact h1)
theorem memA {a:Int} (h0:0≤a) (h1:a < f.aA.aG.length):gr f.aN a∈f.aN:=gr_mem h0 (by rw [H.al]; exact h1)
end SFHead
structure SFShape (f:aF):Prop extends SFHead f where
 act:∀ a:Int,0≤a→a < f.aA.aG.length→((gr f.aN a).length:Int)=gi f.aM (gi f.aA.aG a)∧∀ y∈gr f.aN a,0≤y∧y < gi f.aM (gi f.aA.To a)
theorem sfShape_of {f:aF} (h:sfShapeB f=true):SFShape f:=by
 unfold sfShapeB at h
 simp only [Bool.and_eq_true,List.all_eq_true] at h
 obtain ⟨h1,h2⟩:=h
 exact ⟨sfHead_of h1,fun a h0 h1=>mapB_iff.1 (h2 a (ns_mem.2 ⟨h0,h1⟩))⟩
theorem specShapeF {f:aF} (hs:SFSmall f):lT f=some (sfShapeB f):=by
 have h2:=hs.s
 have h3:=hs.k
 unfold lT sfShapeB sfHead
 rw [specIs hs.c,aD]
 cases hc:catB f.aA with
 | false=>rfl
 | true=>
  rw [Bool.not_true,cond_false,cond_some,aD,cond_or]
  have H:=cat_of hc
  have ho:=H.o8
  have hm:=H.m
  cases e1:((f.aM.length:Int) == f.aA.aH) with
  | false=>rw [show ((f.aM.length:Int) != f.aA.aH)=true by unfold bne; rw [e1]; rfl]; rfl
  | true=>
   rw [show ((f.aM.length:Int) != f.aA.aH)=false by unfold bne; rw [e1]; rfl,Bool.false_or]
   have e1':(f.aM.length:Int)=f.aA.aH:=by simpa using e1
   by_cases e2:f.aN.length=f.aA.aG.length
   ·rw [bneF (by omega),cond_false,beqT e2]
    have hsz:∀ i:Nat,i < f.aM.length→jE f (i:Int)=bif !(decide (0≤gi f.aM i) && decide (gi f.aM i≤16)) then some (.ret false) else some (.norm ((i+1:Nat):Int)):=by
     intro i hi
     unfold jE
     rw [decT (by omega),cond_true,bS (by omega) (by omega),aD,specIn,aD,bW (by omega)]
    rw [forb (fun i=>!(decide (0≤gi f.aM i) && decide (gi f.aM i≤16))) hsz (by unfold jE; rw [decF (by omega),cond_false])]
    have e3:((ns f.aM.length).any fun i=>!(decide (0≤gi f.aM i) && decide (gi f.aM i≤16))) = !inS 17 f.aM:=by
     rw [any_not]
     congr 1
     rw [Bool.eq_iff_iff,inS_iff,List.all_eq_true]
     constructor
     ·intro h y hy
      obtain ⟨i,hi,rfl⟩:=List.getElem_of_mem hy
      have:=h (i:Int) (ns_mem.2 ⟨by omega,by omega⟩)
      simp only [Bool.and_eq_true,decide_eq_true_eq] at this
      have e:gi f.aM (i:Int)=f.aM[i]:=by
       have:=bS (l:=f.aM) (j:=(i:Int)) (by omega) (by omega)
       rw [idx_nat,List.getElem?_eq_getElem hi] at this
       exact (Option.some.inj this).symm
      rw [← e]; omega
     ·intro h i hi
      obtain ⟨a,b⟩:=ns_mem.1 hi
      have:=h _ (gi_mem a (by omega))
      simp only [Bool.and_eq_true,decide_eq_true_eq]; omega
    rw [e3]
    cases e4:inS 17 f.aM with
    | false=>rfl
    | true=>
     have SH:SFHead f:=sfHead_of (by unfold sfHead; rw [hc,e1,e4,beqT e2]; rfl)
     rw [Bool.not_true,cond_false]
     have hac:∀ i:Nat,i < f.aN.length→jF f (i:Int)=bif !(actB f i) then some (.ret false) else some (.norm ((i+1:Nat):Int)):=by
      intro i hi
      have hr:=hs.r _ (SH.memA (a:=(i:Int)) (by omega) (by omega))
      have hf:=H.fr (f:=(i:Int)) (by omega) (by omega)
      have ht:=H.to (f:=(i:Int)) (by omega) (by omega)
      unfold jF
      rw [decT (by omega),cond_true,SH.idxA (by omega) (by omega),aD,H.idxF (by omega) (by omega),aD,SH.idxS hf.1 hf.2,aD,H.idxT (by omega) (by omega),aD,SH.idxS ht.1 ht.2,aD,aD,specMapOf _ _ _ (by omega),aD,bW (by omega)]
      rfl
     rw [forb (fun i=>!(actB f i)) hac (by unfold jF; rw [decF (by omega),cond_false]),any_not,e2]
     cases (ns f.aA.aG.length).all (actB f) <;> rfl
   ·rw [bneT (by omega),cond_true,beqF e2]
    simp only [Bool.and_false,Bool.false_and]
    rfl
theorem implShapeF {f:aF} (hs:SFSmall f):fI f=some (sfShapeB f):=by
 have h2:=hs.s
 have h3:=hs.k
 unfold fI sfShapeB sfHead eA
 rw [implIs hs.c,aD]
 cases hc:catB f.aA with
 | false=>rfl
 | true=>
  rw [Bool.not_true,cond_false]
  have H:=cat_of hc
  have ho:=H.o8
  have hm:=H.m
  cases e1:((f.aM.length:Int) == f.aA.aH) with
  | false=>rw [show ((f.aM.length:Int) != f.aA.aH)=true by unfold bne; rw [e1]; rfl]; rfl
  | true=>
   rw [show ((f.aM.length:Int) != f.aA.aH)=false by unfold bne; rw [e1]; rfl,cond_false,within _ _ (by omega) (by omega) (by omega),aD]
   have e1':(f.aM.length:Int)=f.aA.aH:=by simpa using e1
   cases e4:inS 17 f.aM with
   | false=>rfl
   | true=>
    rw [Bool.not_true,cond_false]
    by_cases e2:f.aN.length=f.aA.aG.length
    ·rw [beqT e2]
     have SH:SFHead f:=sfHead_of (by unfold sfHead; rw [hc,e1,e4,beqT e2]; rfl)
     have hac:∀ i:Nat,i < f.aN.length→eL f (i:Int)=bif !(actB f i) then some (.ret false) else some (.norm ((i+1:Nat):Int)):=by
      intro i hi
      have hr:=hs.r _ (SH.memA (a:=(i:Int)) (by omega) (by omega))
      have hf:=H.fr (f:=(i:Int)) (by omega) (by omega)
      have ht:=H.to (f:=(i:Int)) (by omega) (by omega)
      have st:=SH.s _ ht.1 ht.2
      unfold eL
      rw [decT (by omega),cond_true,SH.idxA (by omega) (by omega),aD,H.idxF (by omega) (by omega),aD,SH.idxS hf.1 hf.2,aD,H.idxT (by omega) (by omega),aD,SH.idxS ht.1 ht.2,aD,implMapOf _ _ _ (by omega) (by omega) (by omega),aD,bW (by omega)]
      rfl
     show retM (bif ((f.aN.length:Int) != (f.aA.aG.length:Int)) then _ else _)=_
     rw [bneF (by omega),cond_false]
     rw [forb (fun i=>!(actB f i)) hac (by unfold eL; rw [decF (by omega),cond_false]),any_not,e2]
     cases (ns f.aA.aG.length).all (actB f) <;> rfl
    ·rw [beqF e2]
     show retM (bif ((f.aN.length:Int) != (f.aA.aG.length:Int)) then _ else _)=_
     rw [bneT (by omega),cond_true]
     simp only [Bool.and_false,Bool.false_and]
     rfl
end Go.Proofs.YtacpfhajafmigaaGreat
namespace Go.Proofs.YtacpfhajafmigaaGreat
open Go Go.Li
def idBad (f:aF) (x:Int):Bool:=(ns (gi f.aM x).toNat).any fun e=>gi (gr f.aN (gi f.aA.aO x)) e != e
def cmpBad (f:aF) (a b:Int):Bool:=(gi f.aA.To a == gi f.aA.aG b) && (ns (gi f.aM (gi f.aA.aG a)).toNat).any fun e=>gi (gr f.aN (gk f.aA.aE a b)) e != gi (gr f.aN b) (gi (gr f.aN a) e)
def sfLawB (f:aF):Bool:=!((ns f.aA.aH.toNat).any (idBad f)) && !((ns f.aA.aG.length).any fun a=>(ns f.aA.aG.length).any (cmpBad f a))
namespace SFShape
variable {f:aF} (H:SFShape f)
include H
theorem row {a:Int} (h0:0≤a) (h1:a < f.aA.aG.length):(gr f.aN a).length=(gi f.aM (gi f.aA.aG a)).toNat:=by
 have:=(H.act a h0 h1).1
 have hf:=H.cat.fr h0 h1
 have:=H.s _ hf.1 hf.2
 omega
theorem at_ {a e:Int} (h0:0≤a) (h1:a < f.aA.aG.length) (e0:0≤e) (e1:e < gi f.aM (gi f.aA.aG a)):idx (gr f.aN a) e=some (gi (gr f.aN a) e):=bS e0 (by rw [(H.act a h0 h1).1]; exact e1)
theorem img {a e:Int} (h0:0≤a) (h1:a < f.aA.aG.length) (e0:0≤e) (e1:e < gi f.aM (gi f.aA.aG a)):0≤gi (gr f.aN a) e∧gi (gr f.aN a) e < gi f.aM (gi f.aA.To a):=
 (H.act a h0 h1).2 _ (gi_mem e0 (by rw [(H.act a h0 h1).1]; exact e1))
end SFShape
theorem faultF {f:aF} {k1 k2 k3 k4 k5:Nat} {A0:Int→Option (Out Int (Int×Int×Int×Int))} {A1:Int→Int→Option (Out Int (Int×Int×Int×Int))} {B0:Int→Option (Out Int (Int×Int×Int×Int))} {B1:Int→Int→Option (Out Int (Int×Int×Int×Int))} {B2:Int→Int→Int→Option (Out Int (Int×Int×Int×Int))} {n m:Nat} {z:Int×Int×Int×Int} (hz:z.1=0) (hn:n=f.aA.aH.toNat) (hm:m=f.aA.aG.length)
  (a1:∀ x e:Nat,x < n→e < (gi f.aM x).toNat→∃ y:Int×Int×Int×Int,y.1≠0∧A1 x e=bif gi (gr f.aN (gi f.aA.aO x)) e != (e:Int) then some (.ret y) else some (.norm ((e+1:Nat):Int)))
  (a2:∀ x:Nat,x < n→A1 x ((gi f.aM x).toNat:Int)=some (.exit k2 ((gi f.aM x).toNat:Int)))
  (a0:∀ x:Nat,x < n→A0 x=lbind (blockM k2 (loopM (A1 x) (0:Int))) fun _=>some (.norm ((x+1:Nat):Int)))
  (a3:A0 n=some (.exit k1 (n:Int)))
  (b2:∀ a b e:Nat,a < m→b < m→gi f.aA.To a=gi f.aA.aG b→e < (gi f.aM (gi f.aA.aG a)).toNat→∃ y:Int×Int×Int×Int,y.1≠0∧B2 a b e=bif gi (gr f.aN (gk f.aA.aE a b)) e != gi (gr f.aN b) (gi (gr f.aN a) e) then some (.ret y) else some (.norm ((e+1:Nat):Int)))
  (b3:∀ a b:Nat,a < m→b < m→B2 a b ((gi f.aM (gi f.aA.aG a)).toNat:Int)=some (.exit k5 ((gi f.aM (gi f.aA.aG a)).toNat:Int)))
  (b1:∀ a b:Nat,a < m→b < m→B1 a b=bif gi f.aA.To a == gi f.aA.aG b then lbind (blockM k5 (loopM (B2 a b) (0:Int))) (fun _=>some (.norm ((b+1:Nat):Int))) else some (.norm ((b+1:Nat):Int)))
  (b4:∀ a:Nat,a < m→B1 a m=some (.exit k4 (m:Int)))
  (b0:∀ a:Nat,a < m→B0 a=lbind (blockM k4 (loopM (B1 a) (0:Int))) fun _=>some (.norm ((a+1:Nat):Int)))
  (b5:B0 m=some (.exit k3 (m:Int))) :
  ∃ y,retM (S:=Unit) (lbind (blockM k1 (loopM A0 (0:Int))) fun _=>lbind (blockM k3 (loopM B0 (0:Int))) fun _=>some (.ret z))=some y∧(y.1 == 0)=sfLawB f:=by
 have hA:∀ x:Nat,x < n→(idBad f x=false∧A0 x=some (.norm ((x+1:Nat):Int)))∨(idBad f x=true∧∃ y,A0 x=some (.ret y)∧y.1≠0):=by
  intro x hx
  rw [a0 x hx]
  refine forg (n:=(gi f.aM x).toNat) (fun e=>gi (gr f.aN (gi f.aA.aO x)) e != e) (fun y:Int×Int×Int×Int=>y.1≠0) ?_ (a2 x hx)
  intro e he
  obtain ⟨y,hy,h⟩:=a1 x e hx he
  rw [h]
  cases gi (gr f.aN (gi f.aA.aO x)) e != (e:Int) with
  | true=>exact .inr ⟨rfl,y,rfl,hy⟩
  | false=>exact .inl ⟨rfl,rfl⟩
 have hB1:∀ a b:Nat,a < m→b < m→(cmpBad f a b=false∧B1 a b=some (.norm ((b+1:Nat):Int)))∨(cmpBad f a b=true∧∃ y,B1 a b=some (.ret y)∧y.1≠0):=by
  intro a b ha hb
  rw [b1 a b ha hb]
  unfold cmpBad
  cases hc:gi f.aA.To a == gi f.aA.aG b with
  | false=>exact .inl ⟨rfl,rfl⟩
  | true=>
   rw [Bool.true_and,cond_true]
   refine forg (n:=(gi f.aM (gi f.aA.aG a)).toNat) (fun e=>gi (gr f.aN (gk f.aA.aE a b)) e != gi (gr f.aN b) (gi (gr f.aN a) e)) (fun y:Int×Int×Int×Int=>y.1≠0) ?_ (b3 a b ha hb)
   intro e he
   obtain ⟨y,hy,h⟩:=b2 a b e ha hb (by simpa using hc) he
   rw [h]
   cases gi (gr f.aN (gk f.aA.aE a b)) e != gi (gr f.aN b) (gi (gr f.aN a) e) with
   | true=>exact .inr ⟨rfl,y,rfl,hy⟩
   | false=>exact .inl ⟨rfl,rfl⟩
 have hB:∀ a:Nat,a < m→((ns m).any (cmpBad f a)=false∧B0 a=some (.norm ((a+1:Nat):Int)))∨((ns m).any (cmpBad f a)=true∧∃ y,B0 a=some (.ret y)∧y.1≠0):=by
  intro a ha
  rw [b0 a ha]
  exact forg (n:=m) (cmpBad f a) (fun y:Int×Int×Int×Int=>y.1≠0) (fun b hb=>hB1 a b ha hb) (b4 a ha)
 unfold sfLawB
 rw [← hn,← hm]
 rcases forg (S:=Unit) (f:=fun _=>lbind (blockM k3 (loopM B0 (0:Int))) fun _=>some (.ret z)) (n:=n) (idBad f) (fun y:Int×Int×Int×Int=>y.1≠0) hA a3 with ⟨h1,h2⟩ | ⟨h1,y,h2,h3⟩
 ·rw [h1,h2]
  rcases forg (S:=Unit) (f:=fun _=>some (.ret z)) (n:=m) (fun a=>(ns m).any (cmpBad f a)) (fun y:Int×Int×Int×Int=>y.1≠0) hB b5 with ⟨g1,g2⟩ | ⟨g1,y,g2,g3⟩
  ·rw [g1,g2]
   exact ⟨z,rfl,by rw [hz]; rfl⟩
  ·rw [g1,g2]
   exact ⟨y,rfl,by simpa using g3⟩
 ·rw [h1,h2]
  exact ⟨y,rfl,by simpa using h3⟩
theorem specFaultF {f:aF} (H:SFShape f):∃ y,lU f=some y∧(y.1 == 0)=sfLawB f:=by
 have hm:=H.cat.m
 have o0:=H.cat.o0
 have o8:=H.cat.o8
 have hl:=H.sl
 have hA:=H.al
 unfold lU
 refine faultF (k2:=2) (k4:=6) (k5:=8) (A1:=jG f) (B1:=jI f) (B2:=jH f) (n:=f.aA.aH.toNat) (m:=f.aA.aG.length) rfl rfl rfl ?_ ?_ ?_ ?_ ?_ ?_ ?_ ?_ ?_ ?_
 ·intro x e hx he
  have hi:=H.cat.id (x:=(x:Int)) (by omega) (by omega)
  have hs:=H.s (x:Int) (by omega) (by omega)
  have hf:=H.cat.idf (x:Int) (by omega) (by omega)
  refine ⟨(1,x,e,0),(by decide:(1:Int)≠0),?_⟩
  unfold jG
  rw [H.idxS (by omega) (by omega),aD,decT (by omega),cond_true,H.cat.idxI (by omega) (by omega),aD,H.idxA hi.1 hi.2,aD,H.at_ hi.1 hi.2 (by omega) (by rw [hf]; omega),aD,bW (by omega)]
 ·intro x hx
  have hs:=H.s (x:Int) (by omega) (by omega)
  unfold jG
  rw [H.idxS (by omega) (by omega),aD,decF (by omega),cond_false]
 ·intro x hx
  unfold mJ
  rw [decT (by omega),cond_true,bW (by omega)]
 ·unfold mJ
  rw [decF (by omega),cond_false]
 ·intro a b e ha hb hab he
  have hf:=H.cat.fr (f:=(a:Int)) (by omega) (by omega)
  have hs:=H.s _ hf.1 hf.2
  have hc:=H.cat.cell (a:Int) (b:Int) (by omega) (by omega) (by omega) (by omega) hab
  have hi:=H.img (a:=(a:Int)) (e:=(e:Int)) (by omega) (by omega) (by omega) (by omega)
  refine ⟨(2,a,b,e),(by decide:(2:Int)≠0),?_⟩
  unfold jH
  rw [H.cat.idxF (by omega) (by omega),aD,H.idxS hf.1 hf.2,aD,decT (by omega),cond_true,H.cat.idxK (by omega) (by omega),aD,H.cat.idxC (by omega) (by omega) (by omega) (by omega),aD,
   H.idxA hc.1 hc.2.1,aD,H.at_ hc.1 hc.2.1 (by omega) (by rw [hc.2.2.1]; omega),aD,H.idxA (by omega) (by omega),aD,H.idxA (by omega) (by omega),aD,H.at_ (by omega) (by omega) (by omega) (by omega),aD,
   H.at_ (by omega) (by omega) hi.1 (by rw [← hab]; exact hi.2),aD,bW (by omega)]
 ·intro a b ha hb
  have hf:=H.cat.fr (f:=(a:Int)) (by omega) (by omega)
  have hs:=H.s _ hf.1 hf.2
  unfold jH
  rw [H.cat.idxF (by omega) (by omega),aD,H.idxS hf.1 hf.2,aD,decF (by omega),cond_false]
 ·intro a b ha hb
  unfold jI
  rw [decT (by omega),cond_true,H.cat.idxT (by omega) (by omega),aD,H.cat.idxF (by omega) (by omega),aD,bW (by omega)]
  unfold bne
  cases gi f.aA.To a == gi f.aA.aG b <;> rfl
 ·intro a ha
  unfold jI
  rw [decF (by omega),cond_false]
 ·intro a ha
  unfold mK
  rw [decT (by omega),cond_true,bW (by omega)]
 ·unfold mK
  rw [decF (by omega),cond_false]
theorem implFaultF {f:aF} (H:SFShape f):∃ y,fW f=some y∧(y.1 == 0)=sfLawB f:=by
 have hm:=H.cat.m
 have o0:=H.cat.o0
 have o8:=H.cat.o8
 have hl:=H.sl
 have hA:=H.al
 have il:=H.cat.il
 have kl:=H.cat.kl
 unfold fW
 refine faultF (k2:=2) (k4:=6) (k5:=8) (A1:=fun x=>dU x (gr f.aN (gi f.aA.aO x))) (B1:=fun a=>dW f a (gr f.aA.aE a)) (B2:=fun a b=>dV f a b (gk f.aA.aE a b) (gr f.aN a)) (n:=f.aA.aH.toNat) (m:=f.aA.aG.length) rfl rfl rfl ?_ ?_ ?_ ?_ ?_ ?_ ?_ ?_ ?_ ?_
 ·intro x e hx he
  have hi:=H.cat.id (x:=(x:Int)) (by omega) (by omega)
  have hs:=H.s (x:Int) (by omega) (by omega)
  have hf:=H.cat.idf (x:Int) (by omega) (by omega)
  have hr:=H.row hi.1 hi.2
  rw [hf] at hr
  refine ⟨(1,x,e,0),(by decide:(1:Int)≠0),?_⟩
  show dU x (gr f.aN (gi f.aA.aO x)) e=_
  unfold dU
  rw [decT (by omega),cond_true,H.at_ hi.1 hi.2 (by omega) (by rw [hf]; omega),aD,bW (by omega)]
 ·intro x hx
  have hi:=H.cat.id (x:=(x:Int)) (by omega) (by omega)
  have hf:=H.cat.idf (x:Int) (by omega) (by omega)
  have hr:=H.row hi.1 hi.2
  rw [hf] at hr
  show dU x (gr f.aN (gi f.aA.aO x)) _=_
  unfold dU
  rw [decF (by omega),cond_false]
 ·intro x hx
  have hi:=H.cat.id (x:=(x:Int)) (by omega) (by omega)
  unfold gP
  rw [decT (by omega),cond_true,H.cat.idxI (by omega) (by omega),aD,H.idxA hi.1 hi.2,aD,bW (by omega)]
 ·unfold gP
  rw [decF (by omega),cond_false]
 ·intro a b e ha hb hab he
  have hf:=H.cat.fr (f:=(a:Int)) (by omega) (by omega)
  have hs:=H.s _ hf.1 hf.2
  have hc:=H.cat.cell (a:Int) (b:Int) (by omega) (by omega) (by omega) (by omega) hab
  have hi:=H.img (a:=(a:Int)) (e:=(e:Int)) (by omega) (by omega) (by omega) (by omega)
  have hr:=H.row (a:=(a:Int)) (by omega) (by omega)
  refine ⟨(2,a,b,e),(by decide:(2:Int)≠0),?_⟩
  show dV f a b (gk f.aA.aE a b) (gr f.aN a) e=_
  unfold dV
  rw [decT (by omega),cond_true,H.at_ (by omega) (by omega) (by omega) (by omega),aD,H.idxA hc.1 hc.2.1,aD,H.at_ hc.1 hc.2.1 (by omega) (by rw [hc.2.2.1]; omega),aD,H.idxA (by omega) (by omega),aD,
   H.at_ (by omega) (by omega) hi.1 (by rw [← hab]; exact hi.2),aD,bW (by omega)]
 ·intro a b ha hb
  have hr:=H.row (a:=(a:Int)) (by omega) (by omega)
  show dV f a b (gk f.aA.aE a b) (gr f.aN a) _=_
  unfold dV
  rw [decF (by omega),cond_false]
 ·intro a b ha hb
  have hrow:=H.cat.row (a:Int) (by omega) (by omega)
  show dW f a (gr f.aA.aE a) b=_
  unfold dW
  rw [decT (by omega),cond_true,H.cat.idxC (by omega) (by omega) (by omega) (by omega),aD,bW (by omega)]
  by_cases he:gi f.aA.To a=gi f.aA.aG b
  ·have hc:=H.cat.cell (a:Int) (b:Int) (by omega) (by omega) (by omega) (by omega) he
   rw [decF (by omega),cond_false,H.idxA (by omega) (by omega),aD,beqT he,cond_true]
  ·have hc:=H.cat.none (a:Int) (b:Int) (by omega) (by omega) (by omega) (by omega) he
   rw [decT (by omega),cond_true,beqF he,cond_false]
 ·intro a ha
  have hrow:=H.cat.row (a:Int) (by omega) (by omega)
  show dW f a (gr f.aA.aE a) _=_
  unfold dW
  rw [decF (by omega),cond_false]
 ·intro a ha
  unfold gQ
  rw [decT (by omega),cond_true,H.cat.idxK (by omega) (by omega),aD,bW (by omega)]
 ·unfold gQ
  rw [decF (by omega),cond_false]
def sfB (f:aF):Bool:=sfShapeB f && sfLawB f
structure SF (f:aF):Prop extends SFShape f where
 one:∀ x e:Int,0≤x→x < f.aA.aH→0≤e→e < gi f.aM x→gi (gr f.aN (gi f.aA.aO x)) e=e
 comp:∀ a b e:Int,0≤a→a < f.aA.aG.length→0≤b→b < f.aA.aG.length→gi f.aA.To a=gi f.aA.aG b→0≤e→e < gi f.aM (gi f.aA.aG a)→gi (gr f.aN (gk f.aA.aE a b)) e=gi (gr f.aN b) (gi (gr f.aN a) e)
theorem sf_of {f:aF} (h:sfB f=true):SF f:=by
 unfold sfB at h
 rw [Bool.and_eq_true] at h
 obtain ⟨h1,h2⟩:=h
 have S:=sfShape_of h1
 have o8:=S.cat.o8
 unfold sfLawB at h2
 rw [Bool.and_eq_true,Bool.not_eq_true',Bool.not_eq_true',ns_any_false,ns_any_false] at h2
 refine ⟨S,fun x e x0 x1 e0 e1=>?_,fun a b e a0 a1 b0 b1 hab e0 e1=>?_⟩
 ·have:=h2.1 x x0 (by omega)
  unfold idBad at this
  rw [ns_any_false] at this
  have:=this e e0 (by omega)
  simpa using this
 ·have:=h2.2 a a0 a1
  rw [ns_any_false] at this
  have:=this b b0 b1
  unfold cmpBad at this
  rw [beqT hab,Bool.true_and,ns_any_false] at this
  have:=this e e0 (by omega)
  simpa using this
theorem specIsF {f:aF} (hs:SFSmall f):nX f=some (sfB f):=by
 unfold nX
 rw [specShapeF hs,aD]
 unfold sfB
 cases h:sfShapeB f with
 | false=>rfl
 | true=>
  obtain ⟨y,h1,h2⟩:=specFaultF (sfShape_of h)
  rw [Bool.not_true,cond_false,h1,aD,h2]; rfl
theorem implIsF {f:aF} (hs:SFSmall f):dX f=some (sfB f):=by
 unfold dX
 rw [implShapeF hs,aD]
 unfold sfB
 cases h:sfShapeB f with
 | false=>rfl
 | true=>
  obtain ⟨y,h1,h2⟩:=implFaultF (sfShape_of h)
  rw [Bool.not_true,cond_false,h1,aD,h2]; rfl
theorem implAreF (l:List aF) (hl:l.length≤1048576) (hs:∀ f∈l,SFSmall f):fK l=some (l.all sfB):=by
 unfold fK
 refine (congrArg retM (for_anyb l (fun f=>!sfB f) (fun i=>(i:Int)) rfl ?_ ?_ (e:=(l.length:Int)) (y:=false) ?_)).trans ?_
 ·intro i x hx hp
  have hi:=getElem?_lt hx
  unfold fR
  rw [decT (by omega),cond_true,idx_nat,hx,aD,implIsF (hs x (List.mem_of_getElem? hx)),aD,show (!sfB x)=false from hp,cond_false,bW (by omega)]
 ·intro i x hx hp
  have hi:=getElem?_lt hx
  unfold fR
  rw [decT (by omega),cond_true,idx_nat,hx,aD,implIsF (hs x (List.mem_of_getElem? hx)),aD,show (!sfB x)=true from hp,cond_true]
 ·unfold fR
  rw [decF (by omega),cond_false]
 ·rw [any_not]
  cases l.all sfB <;> rfl
def sameFB (f g:aF):Bool:=sameB f.aA g.aA && (f.aM == g.aM && f.aN == g.aN)
theorem sameFB_eq {f g:aF}:sameFB f g=true↔f=g:=by
 unfold sameFB
 simp only [Bool.and_eq_true,beq_iff_eq,sameB_eq]
 constructor
 ·rintro ⟨h1,h2,h3⟩
  cases f; cases g
  dsimp only at h1 h2 h3
  rw [h1,h2,h3]
 ·rintro rfl; exact ⟨rfl,rfl,rfl⟩
theorem specSameF {f g:aF} (h:SFSmall f):iU f g=some (sameFB f g):=by
 have h2:=h.s
 have h3:=h.k
 have e5:jR f.aN g.aN=some (f.aN == g.aN):=eqMM_ok _ _ (by omega) (fun z hz=>by have:=h.r z hz; omega)
 unfold iU sameFB
 rw [specSameCat h.c,aD,specSame _ _ (by omega),aD,e5,aD,cond_some,cond_and,cond_some,cond_and]; rfl
theorem implSameF {f g:aF} (h:SFSmall f):jT f g=some (sameFB f g):=by
 have h2:=h.s
 have h3:=h.k
 unfold jT sameFB
 rw [implSameCat h.c,aD,implSame _ _ (by omega),aD,cond_some,cond_or,cond_some,cond_or,aD]
 cases sameB f.aA g.aA with
 | false=>rfl
 | true=>
  cases f.aM == g.aM with
  | false=>rfl
  | true=>
   simp only [Bool.not_true,Bool.false_or,Bool.true_and]
   by_cases hl:f.aN.length=g.aN.length
   ·rw [bneF (by omega),cond_false,zip_same hl]
    refine (congrArg retM (for_anyb (f.aN.zip g.aN) (fun z=>!(z.1 == z.2)) (fun i=>(i:Int)) rfl ?_ ?_ (e:=((f.aN.zip g.aN).length:Int)) (y:=false) ?_)).trans ?_
    ·intro i z hz hp
     obtain ⟨z1,z2⟩:=z
     obtain ⟨g1,g2⟩:=List.getElem?_zip_eq_some.1 hz
     have hi:=getElem?_lt g1
     have:=h.r _ (List.mem_of_getElem? g1)
     unfold jN
     rw [decT (by omega),cond_true,idx_nat,g1,aD,idx_nat,g2,aD,implSame _ _ (by omega),aD,show (!(z1 == z2))=false from hp,cond_false,bW (by omega)]
    ·intro i z hz hp
     obtain ⟨z1,z2⟩:=z
     obtain ⟨g1,g2⟩:=List.getElem?_zip_eq_some.1 hz
     have hi:=getElem?_lt g1
     have:=h.r _ (List.mem_of_getElem? g1)
     unfold jN
     rw [decT (by omega),cond_true,idx_nat,g1,aD,idx_nat,g2,aD,implSame _ _ (by omega),aD,show (!(z1 == z2))=true from hp,cond_true]
    ·unfold jN
     rw [List.length_zip,decF (by omega),cond_false]
    ·cases (f.aN.zip g.aN).any fun z=>!(z.1 == z.2) <;> rfl
   ·rw [bneT (by omega),cond_true,beq_len hl]; rfl
end Go.Proofs.YtacpfhajafmigaaGreat
namespace Go.Proofs.YtacpfhajafmigaaGreat
open Go Go.Li
def fitB (m:aZ) (x:Int):Bool:=mapB (gr m.bN x) (gi m.aK.aM x) (gi m.aQ.aM x)
def fitsB (m:aZ):Bool:=(m.bN.length == m.aK.aM.length) && (ns m.bN.length).all (fitB m)
def natBad (m:aZ) (a:Int):Bool:=(ns (gi m.aK.aM (gi m.aK.aA.aG a)).toNat).any fun e=>gi (gr m.bN (gi m.aK.aA.To a)) (gi (gr m.aK.aN a) e) != gi (gr m.aQ.aN a) (gi (gr m.bN (gi m.aK.aA.aG a)) e)
def smShapeB (m:aZ):Bool:=sfB m.aK && (sfB m.aQ && (sameB m.aK.aA m.aQ.aA && fitsB m))
def smB (m:aZ):Bool:=smShapeB m && !((ns m.aK.aA.aG.length).any (natBad m))
structure SMShape (m:aZ):Prop where
 src:SF m.aK
 tgt:SF m.aQ
 same:m.aQ.aA=m.aK.aA
 pl:(m.bN.length:Int)=m.aK.aA.aH
 part:∀ x:Int,0≤x→x < m.aK.aA.aH→((gr m.bN x).length:Int)=gi m.aK.aM x∧∀ y∈gr m.bN x,0≤y∧y < gi m.aQ.aM x
theorem smShape_of {m:aZ} (h:smShapeB m=true):SMShape m:=by
 unfold smShapeB fitsB at h
 simp only [Bool.and_eq_true,List.all_eq_true,beq_iff_eq,sameB_eq] at h
 obtain ⟨h1,h2,h3,h4,h5⟩:=h
 have S:=sf_of h1
 have hl:=S.sl
 exact ⟨S,sf_of h2,h3.symm,by omega,fun x h0 h1=>mapB_iff.1 (h5 x (ns_mem.2 ⟨h0,by omega⟩))⟩
namespace SMShape
variable {m:aZ} (H:SMShape m)
include H
theorem idxP {x:Int} (h0:0≤x) (h1:x < m.aK.aA.aH):idx m.bN x=some (gr m.bN x):=idx_gr h0 (by rw [H.pl]; exact h1)
theorem at_ {x e:Int} (h0:0≤x) (h1:x < m.aK.aA.aH) (e0:0≤e) (e1:e < gi m.aK.aM x):idx (gr m.bN x) e=some (gi (gr m.bN x) e):=bS e0 (by rw [(H.part x h0 h1).1]; exact e1)
theorem img {x e:Int} (h0:0≤x) (h1:x < m.aK.aA.aH) (e0:0≤e) (e1:e < gi m.aK.aM x):0≤gi (gr m.bN x) e∧gi (gr m.bN x) e < gi m.aQ.aM x:=
 (H.part x h0 h1).2 _ (gi_mem e0 (by rw [(H.part x h0 h1).1]; exact e1))
end SMShape
theorem specFits {m:aZ} (hs:SMSmall m) (S:SF m.aK) (T:SF m.aQ) (he:m.aQ.aA=m.aK.aA):jS m.aK m.aQ m.bN=some (fitsB m):=by
 have hk:=hs.k
 have hl:=S.sl
 have ho:=S.cat.o8
 unfold jS fitsB
 by_cases h:m.bN.length=m.aK.aM.length
 ·rw [bneF (by omega),cond_false,beqT h,Bool.true_and]
  have hx:∀ i:Nat,i < m.bN.length→jK m.aK m.aQ m.bN (i:Int)=bif !(fitB m i) then some (.ret false) else some (.norm ((i+1:Nat):Int)):=by
   intro i hi
   have hr:=hs.r _ (gr_mem (l:=m.bN) (j:=(i:Int)) (by omega) (by omega))
   unfold jK
   rw [decT (by omega),cond_true,idx_gr (by omega) (by omega),aD,S.idxS (by omega) (by omega),aD,T.idxS (by omega) (by rw [he]; omega),aD,aD,specMapOf _ _ _ (by omega),aD,bW (by omega)]
   rfl
  rw [forb (fun i=>!(fitB m i)) hx (by unfold jK; rw [decF (by omega),cond_false]),any_not]
  cases (ns m.bN.length).all (fitB m) <;> rfl
 ·rw [bneT (by omega),cond_true,beqF h]; rfl
theorem implFits {m:aZ} (hs:SMSmall m) (S:SF m.aK) (T:SF m.aQ) (he:m.aQ.aA=m.aK.aA):jM m=some (fitsB m):=by
 have hk:=hs.k
 have hl:=S.sl
 have ho:=S.cat.o8
 unfold jM fitsB
 by_cases h:m.bN.length=m.aK.aM.length
 ·rw [bneF (by omega),cond_false,beqT h,Bool.true_and]
  have hx:∀ i:Nat,i < m.bN.length→gU m (i:Int)=bif !(fitB m i) then some (.ret false) else some (.norm ((i+1:Nat):Int)):=by
   intro i hi
   have hr:=hs.r _ (gr_mem (l:=m.bN) (j:=(i:Int)) (by omega) (by omega))
   have st:=T.s (i:Int) (by omega) (by rw [he]; omega)
   unfold gU
   rw [decT (by omega),cond_true,idx_gr (by omega) (by omega),aD,S.idxS (by omega) (by omega),aD,T.idxS (by omega) (by rw [he]; omega),aD,implMapOf _ _ _ (by omega) (by omega) (by omega),aD,bW (by omega)]
   rfl
  rw [forb (fun i=>!(fitB m i)) hx (by unfold gU; rw [decF (by omega),cond_false]),any_not]
  cases (ns m.bN.length).all (fitB m) <;> rfl
 ·rw [bneT (by omega),cond_true,beqF h]; rfl
theorem specBetween {f g:aF} (hf:SFSmall f) (hg:SFSmall g):fU f g=some (sfB f && (sfB g && sameB f.aA g.aA)):=by
 unfold fU
 rw [specIsF hf,aD,specIsF hg,aD,specSameCat hf.c,aD,cond_some,cond_and,cond_some,cond_and]; rfl
theorem specShapeM {m:aZ} (hs:SMSmall m):(fU m.aK m.aQ>>=fun y=>(bif !y then some true else (jS m.aK m.aQ m.bN>>=fun z=>some (!z))))=some (!smShapeB m):=by
 rw [specBetween hs.s hs.t,aD]
 unfold smShapeB
 cases h1:sfB m.aK with
 | false=>rfl
 | true=>
  cases h2:sfB m.aQ with
  | false=>rfl
  | true=>
   cases h3:sameB m.aK.aA m.aQ.aA with
   | false=>rfl
   | true=>
    rw [specFits hs (sf_of h1) (sf_of h2) (sameB_eq.1 h3).symm]
    simp only [Bool.true_and,Bool.not_true,cond_false,aD]
theorem implShapeM {m:aZ} (hs:SMSmall m):gV m=some (smShapeB m):=by
 unfold gV smShapeB
 rw [implAreF _ (by simp) (by intro f hf; simp at hf; rcases hf with rfl | rfl; exact hs.s; exact hs.t),aD]
 simp only [List.all_cons,List.all_nil,Bool.and_true]
 cases h1:sfB m.aK with
 | false=>rfl
 | true=>
  cases h2:sfB m.aQ with
  | false=>rfl
  | true=>
   simp only [Bool.true_and,cond_true]
   rw [implSameCat hs.s.c,aD]
   cases h3:sameB m.aK.aA m.aQ.aA with
   | false=>rfl
   | true=>
    rw [implFits hs (sf_of h1) (sf_of h2) (sameB_eq.1 h3).symm]; rfl
theorem natF {m:aZ} {k1 k2 n:Nat} {A0:Int→Option (Out Int (Int×Int))} {A1:Int→Int→Option (Out Int (Int×Int))} {z:Int×Int} (hz:z.1 < 0) (hn:n=m.aK.aA.aG.length)
  (a1:∀ a e:Nat,a < n→e < (gi m.aK.aM (gi m.aK.aA.aG a)).toNat→A1 a e=bif gi (gr m.bN (gi m.aK.aA.To a)) (gi (gr m.aK.aN a) e) != gi (gr m.aQ.aN a) (gi (gr m.bN (gi m.aK.aA.aG a)) e) then some (.ret ((a:Int),(e:Int))) else some (.norm ((e+1:Nat):Int)))
  (a2:∀ a:Nat,a < n→A1 a ((gi m.aK.aM (gi m.aK.aA.aG a)).toNat:Int)=some (.exit k2 ((gi m.aK.aM (gi m.aK.aA.aG a)).toNat:Int)))
  (a0:∀ a:Nat,a < n→A0 a=lbind (blockM k2 (loopM (A1 a) (0:Int))) fun _=>some (.norm ((a+1:Nat):Int)))
  (a3:A0 n=some (.exit k1 (n:Int))) :
  ∃ y,retM (S:=Unit) (lbind (blockM k1 (loopM A0 (0:Int))) fun _=>some (.ret z))=some y∧decide (y.1 < 0) = !((ns m.aK.aA.aG.length).any (natBad m)):=by
 have hA:∀ a:Nat,a < n→(natBad m a=false∧A0 a=some (.norm ((a+1:Nat):Int)))∨(natBad m a=true∧∃ y,A0 a=some (.ret y)∧0≤y.1):=by
  intro a ha
  rw [a0 a ha]
  refine forg (n:=(gi m.aK.aM (gi m.aK.aA.aG a)).toNat) (fun e=>gi (gr m.bN (gi m.aK.aA.To a)) (gi (gr m.aK.aN a) e) != gi (gr m.aQ.aN a) (gi (gr m.bN (gi m.aK.aA.aG a)) e)) (fun y:Int×Int=>0≤y.1) ?_ (a2 a ha)
  intro e he
  rw [a1 a e ha he]
  cases gi (gr m.bN (gi m.aK.aA.To a)) (gi (gr m.aK.aN a) e) != gi (gr m.aQ.aN a) (gi (gr m.bN (gi m.aK.aA.aG a)) e) with
  | true=>exact .inr ⟨rfl,_,rfl,by show (0:Int)≤(a:Int); omega⟩
  | false=>exact .inl ⟨rfl,rfl⟩
 rw [← hn]
 rcases forg (S:=Unit) (f:=fun _=>some (.ret z)) (n:=n) (natBad m) (fun y:Int×Int=>0≤y.1) hA a3 with ⟨h1,h2⟩ | ⟨h1,y,h2,h3⟩
 ·rw [h1,h2]
  exact ⟨z,rfl,decT hz⟩
 ·rw [h1,h2]
  exact ⟨y,rfl,decF (by omega)⟩
theorem specNat {m:aZ} (H:SMShape m):∃ y,iP m.aK m.aQ m.bN=some y∧decide (y.1 < 0) = !((ns m.aK.aA.aG.length).any (natBad m)):=by
 have hA:=H.src.al
 have hm:=H.src.cat.m
 have hT:=congrArg (fun c:aI=>c.aG.length) H.same
 unfold iP
 refine natF (k2:=2) (n:=m.aK.aA.aG.length) (A1:=fun a=>eG m.aK m.aQ m.bN a (gi m.aK.aA.aG a) (gi m.aK.aA.To a)) (by decide) rfl ?_ ?_ ?_ ?_
 ·intro a e ha he
  have hf:=H.src.cat.fr (f:=(a:Int)) (by omega) (by omega)
  have ht:=H.src.cat.to (f:=(a:Int)) (by omega) (by omega)
  have hs:=H.src.s _ hf.1 hf.2
  have hi:=H.src.img (a:=(a:Int)) (e:=(e:Int)) (by omega) (by omega) (by omega) (by omega)
  have hp:=H.img (x:=gi m.aK.aA.aG a) (e:=(e:Int)) hf.1 hf.2 (by omega) (by omega)
  have hTa:(a:Int) < m.aQ.aA.aG.length:=by omega
  have hTf:gi m.aQ.aA.aG a=gi m.aK.aA.aG a:=by rw [H.same]
  show eG m.aK m.aQ m.bN a (gi m.aK.aA.aG a) (gi m.aK.aA.To a) e=_
  unfold eG
  rw [H.src.idxS hf.1 hf.2,aD,decT (by omega),cond_true,H.idxP ht.1 ht.2,aD,H.src.idxA (by omega) (by omega),aD,H.src.at_ (by omega) (by omega) (by omega) (by omega),aD,H.at_ ht.1 ht.2 hi.1 hi.2,aD,
   H.tgt.idxA (by omega) hTa,aD,H.idxP hf.1 hf.2,aD,H.at_ hf.1 hf.2 (by omega) (by omega),aD,H.tgt.at_ (by omega) hTa hp.1 (by rw [hTf]; exact hp.2),aD,bW (by omega)]
 ·intro a ha
  have hf:=H.src.cat.fr (f:=(a:Int)) (by omega) (by omega)
  have hs:=H.src.s _ hf.1 hf.2
  show eG m.aK m.aQ m.bN a (gi m.aK.aA.aG a) (gi m.aK.aA.To a) _=_
  unfold eG
  rw [H.src.idxS hf.1 hf.2,aD,decF (by omega),cond_false]
 ·intro a ha
  unfold jL
  rw [decT (by omega),cond_true,H.src.cat.idxF (by omega) (by omega),aD,H.src.cat.idxT (by omega) (by omega),aD,bW (by omega)]
 ·unfold jL
  rw [decF (by omega),cond_false]
theorem implNat {m:aZ} (H:SMShape m):∃ y,fX m=some y∧decide (y.1 < 0) = !((ns m.aK.aA.aG.length).any (natBad m)):=by
 have hA:=H.src.al
 have hm:=H.src.cat.m
 have hT:=congrArg (fun c:aI=>c.aG.length) H.same
 unfold fX
 refine natF (k2:=2) (n:=m.aK.aA.aG.length) (A1:=fun a=>dY m a (gr m.aK.aN a)) (by decide) rfl ?_ ?_ ?_ ?_
 ·intro a e ha he
  have hf:=H.src.cat.fr (f:=(a:Int)) (by omega) (by omega)
  have ht:=H.src.cat.to (f:=(a:Int)) (by omega) (by omega)
  have hs:=H.src.s _ hf.1 hf.2
  have hi:=H.src.img (a:=(a:Int)) (e:=(e:Int)) (by omega) (by omega) (by omega) (by omega)
  have hp:=H.img (x:=gi m.aK.aA.aG a) (e:=(e:Int)) hf.1 hf.2 (by omega) (by omega)
  have hr:=H.src.row (a:=(a:Int)) (by omega) (by omega)
  have hTa:(a:Int) < m.aQ.aA.aG.length:=by omega
  have hTf:gi m.aQ.aA.aG a=gi m.aK.aA.aG a:=by rw [H.same]
  show dY m a (gr m.aK.aN a) e=_
  unfold dY
  rw [decT (by omega),cond_true,H.src.at_ (by omega) (by omega) (by omega) (by omega),aD,H.src.cat.idxT (by omega) (by omega),aD,H.idxP ht.1 ht.2,aD,H.at_ ht.1 ht.2 hi.1 hi.2,aD,
   H.tgt.idxA (by omega) hTa,aD,H.src.cat.idxF (by omega) (by omega),aD,H.idxP hf.1 hf.2,aD,H.at_ hf.1 hf.2 (by omega) (by omega),aD,H.tgt.at_ (by omega) hTa hp.1 (by rw [hTf]; exact hp.2),aD,bW (by omega)]
 ·intro a ha
  have hr:=H.src.row (a:=(a:Int)) (by omega) (by omega)
  show dY m a (gr m.aK.aN a) _=_
  unfold dY
  rw [decF (by omega),cond_false]
 ·intro a ha
  unfold gR
  rw [decT (by omega),cond_true,H.src.idxA (by omega) (by omega),aD,bW (by omega)]
 ·unfold gR
  rw [decF (by omega),cond_false]
structure SM (m:aZ):Prop extends SMShape m where
 nat:∀ a e:Int,0≤a→a < m.aK.aA.aG.length→0≤e→e < gi m.aK.aM (gi m.aK.aA.aG a)→gi (gr m.bN (gi m.aK.aA.To a)) (gi (gr m.aK.aN a) e)=gi (gr m.aQ.aN a) (gi (gr m.bN (gi m.aK.aA.aG a)) e)
theorem sm_of {m:aZ} (h:smB m=true):SM m:=by
 unfold smB at h
 rw [Bool.and_eq_true,Bool.not_eq_true',ns_any_false] at h
 refine ⟨smShape_of h.1,fun a e a0 a1 e0 e1=>?_⟩
 have:=h.2 a a0 a1
 unfold natBad at this
 rw [ns_any_false] at this
 have:=this e e0 (by omega)
 simpa using this
theorem specIsM {m:aZ} (hs:SMSmall m):gY m=some (smB m):=by
 unfold gY
 rw [specShapeM hs,aD]
 unfold smB
 cases h:smShapeB m with
 | false=>rfl
 | true=>
  obtain ⟨y,h1,h2⟩:=specNat (smShape_of h)
  rw [Bool.not_true,cond_false,h1,aD,h2]; rfl
theorem implIsM {m:aZ} (hs:SMSmall m):fY m=some (smB m):=by
 unfold fY
 rw [implShapeM hs,aD]
 unfold smB
 cases h:smShapeB m with
 | false=>rfl
 | true=>
  obtain ⟨y,h1,h2⟩:=implNat (smShape_of h)
  rw [Bool.not_true,cond_false,h1,aD,h2]; rfl
def thenS (a b:List Int):List Int:=mapI a.length fun i=>gi b (gi a i)
theorem implThen (a b:List Int) (ha:a.length≤1048576) (hb:∀ x∈a,0≤x∧x < b.length):pQ a b=some (thenS a b):=by
 unfold pQ
 rw [mk_ok (by omega) (by omega),aD]
 have hl:(thenS a b).length=a.length:=cQ _ _
 refine (congrArg retM (for_all (ns a.length) (fun i=>((i:Int),(thenS a b).take i++List.replicate (a.length - i) (0:Int))) (by simp) ?_ (e:=((a.length:Int),thenS a b)) ?_)).trans rfl
 ·intro i x hx
  obtain ⟨rfl,hi⟩:=ns_get hx
  have hg:(thenS a b)[i]? = some (gi b (gi a i)):=mapI_get _ hi
  have hm:=hb _ (gi_mem (l:=a) (j:=(i:Int)) (by omega) (by omega))
  have hc:=set_copy (thenS a b) (0:Int) hg
  have hgc:=get_copy (thenS a b) (0:Int) hg
  rw [hl] at hc hgc
  show lC a b (i:Int) _=_
  unfold lC
  rw [decT (by omega),cond_true,bS (by omega) (by omega),aD,bS hm.1 hm.2,aD,idx_nat,hgc,aD,bW (by omega),Int.toNat_natCast,hc]
 ·rw [dD]
  show lC a b _ _=_
  unfold lC
  rw [decF (by omega),cond_false,Nat.sub_self,List.take_of_length_le (by omega)]
  simp
end Go.Proofs.YtacpfhajafmigaaGreat
