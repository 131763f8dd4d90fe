/- Set functors and natural maps between them: copies, equality, marks. No condition beside those that each theorem names. -/
import Derived.Test.YtjfahghkjblgjaaGreatPk
import Derived.Test.YtjfahghkjblgjaaGreatRa
namespace Go.Proofs.YtjfahghkjblgjaaGreat
open Go Go.Li
theorem implClones {p:List (List Int)} (hk:p.length≤1048576) (hr:∀ y∈p,y.length≤1048576):impl_clones p=some p:=by
 have h1:∀ l:List Int,l.length≤1048576→impl_clone l=some l:=fun l hl=>specOwn0 l hl
 unfold impl_clones
 rw [mk_ok (by omega) (by omega),some_bind']
 refine (congrArg retM (map_loop p.length (gr p) (fun acc i=>(acc,(i:Int))) rfl ?_ ?_)).trans ?_
 ·intro i acc hi ha
  show impl_clones_L0 p acc i=_
  unfold impl_clones_L0
  rw [decT (by omega),cond_true,idx_gr (by omega) (by omega),some_bind',h1 _ (hr _ (gr_mem (by omega) (by omega))),some_bind',fits_ok (by omega) (by omega),some_bind',w64_nat (by omega)]
 ·intro acc ha
  show impl_clones_L0 p acc _=_
  unfold impl_clones_L0
  rw [decF (by omega),cond_false]
 ·show some (mapI p.length (gr p))=_
  have:=mapI_gl p (fun x=>x)
  rw [List.map_id'] at this
  exact congrArg some this
structure SFSmall (f:MSetFunctor):Prop where
 c:CatSmall f.Shape
 s:f.Sizes.length≤1048576
 k:f.Actions.length≤1048576
 r:∀ y∈f.Actions,y.length≤1048576
theorem specOwnF {f:MSetFunctor} (h:SFSmall f):spec_l19Own f=some f:=by
 unfold spec_l19Own
 rw [specOwnC h.c,some_bind',specOwn0 _ h.s,some_bind',specOwn2 _ h.k h.r,some_bind']; rfl
structure SMSmall (m:MSetMap):Prop where
 s:SFSmall m.Source
 t:SFSmall m.Target
 k:m.Parts.length≤1048576
 r:∀ y∈m.Parts,y.length≤1048576
section
variable {c:MCategory} (H:Cat c)
include H
theorem implCopyF {f:MSetFunctor} (h:SFSmall f):impl_SetFunctor_copy f=some f:=by
 unfold impl_SetFunctor_copy
 have e2:impl_clones f.Actions=some f.Actions:=implClones h.k h.r
 rw [implCopy h.c,some_bind',implClone H _ h.s,some_bind',e2,some_bind']; rfl
theorem implSetMap {f g:MSetFunctor} {p:List (List Int)} (hf:SFSmall f) (hg:SFSmall g) (hk:p.length≤1048576) (hr:∀ y∈p,y.length≤1048576):impl_setMap f g p=some (MSetMap.mk f g p):=by
 unfold impl_setMap
 have e2:impl_clones p=some p:=implClones hk hr
 rw [implCopyF H hf,some_bind',implCopyF H hg,some_bind',e2,some_bind']; rfl
end
theorem specSetMap {f g:MSetFunctor} {p:List (List Int)} (hf:SFSmall f) (hg:SFSmall g) (hk:p.length≤1048576) (hr:∀ y∈p,y.length≤1048576):spec_l19Make f g p=some (MSetMap.mk f g p):=by
 unfold spec_l19Make
 rw [specOwnF hf,some_bind',specOwnF hg,some_bind',specOwn2 _ hk hr,some_bind']; rfl
end Go.Proofs.YtjfahghkjblgjaaGreat
namespace Go.Proofs.YtjfahghkjblgjaaGreat
open Go Go.Li
def sameB (c d:MCategory):Bool:=c.Objects == d.Objects && (c.From == d.From && (c.To == d.To && (c.Identity == d.Identity && c.Composites == d.Composites)))
theorem sameB_eq {c d:MCategory}:sameB c d=true↔c=d:=by
 unfold sameB
 simp only [Bool.and_eq_true,beq_iff_eq]
 constructor
 ·rintro ⟨h1,h2,h3,h4,h5⟩
  cases c; cases d
  dsimp only at h1 h2 h3 h4 h5
  rw [h1,h2,h3,h4,h5]
 ·rintro rfl; exact ⟨rfl,rfl,rfl,rfl,rfl⟩
theorem specSameCat {c d:MCategory} (h:CatSmall c):spec_l02Same c d=some (sameB c d):=by
 obtain ⟨h1,h2,h3,h4,h5⟩:=h
 have e5:spec_l01Same2 c.Composites d.Composites=some (c.Composites == d.Composites):=eqMM_ok _ _ (by omega) (fun z hz=>by have:=h5 z hz; omega)
 unfold spec_l02Same sameB
 cases c.Objects == d.Objects with
 | false=>rfl
 | true=>
  rw [cond_true,specSame _ _ (by omega),some_bind']
  cases c.From == d.From with
  | false=>rfl
  | true=>
   rw [cond_true,specSame _ _ (by omega),some_bind']
   cases c.To == d.To with
   | false=>rfl
   | true=>
    rw [cond_true,specSame _ _ (by omega),some_bind']
    cases c.Identity == d.Identity with
    | false=>rfl
    | true=>rw [cond_true,e5]; rfl
theorem zip_same:∀ {x y:List (List Int)},x.length=y.length→(x == y) = !((x.zip y).any fun z=>!(z.1 == z.2)):=by
 intro x
 induction x with
 | nil=>intro y h; cases y with
  | nil=>rfl
  | cons b y=>simp at h
 | cons a x ih=>
  intro y h
  cases y with
  | nil=>simp at h
  | cons b y=>
   have h':x.length=y.length:=by simpa using h
   rw [List.zip_cons_cons,List.any_cons,Bool.not_or,Bool.not_not,← ih h']; rfl
theorem implSameCat {c d:MCategory} (h:CatSmall c):impl_sameCategory c d=some (sameB c d):=by
 obtain ⟨h1,h2,h3,h4,h5⟩:=h
 unfold impl_sameCategory sameB
 cases e1:c.Objects == d.Objects with
 | false=>rw [show (c.Objects != d.Objects)=true by unfold bne; rw [e1]; rfl]; rfl
 | true=>
  rw [show (c.Objects != d.Objects)=false by unfold bne; rw [e1]; rfl,cond_false,implSame _ _ (by omega),some_bind']
  cases c.From == d.From with
  | false=>rfl
  | true=>
   rw [Bool.not_true,cond_false,implSame _ _ (by omega),some_bind']
   cases c.To == d.To with
   | false=>rfl
   | true=>
    rw [Bool.not_true,cond_false,implSame _ _ (by omega),some_bind']
    cases c.Identity == d.Identity with
    | false=>rfl
    | true=>
     rw [Bool.not_true,cond_false,some_bind']
     simp only [Bool.true_and]
     by_cases hl:c.Composites.length=d.Composites.length
     ·rw [bneF (by omega),cond_false,zip_same hl]
      refine (congrArg retM (for_anyb (c.Composites.zip d.Composites) (fun z=>!(z.1 == z.2)) (fun i=>(i:Int)) rfl ?_ ?_ (e:=((c.Composites.zip d.Composites).length:Int)) (y:=false) ?_)).trans ?_
      ·intro i z hz hp
       obtain ⟨z1,z2⟩:=z
       obtain ⟨g1,g2⟩:=List.getElem?_zip_eq_some.1 hz
       have hi:=getElem?_lt g1
       have:=h5 _ (List.mem_of_getElem? g1)
       unfold impl_sameCategory_L0
       rw [decT (by omega),cond_true,idx_nat,g1,some_bind',idx_nat,g2,some_bind',implSame _ _ (by omega),some_bind']
       rw [show (!(z1 == z2))=false from hp,cond_false,w64_nat (by omega)]
      ·intro i z hz hp
       obtain ⟨z1,z2⟩:=z
       obtain ⟨g1,g2⟩:=List.getElem?_zip_eq_some.1 hz
       have hi:=getElem?_lt g1
       have:=h5 _ (List.mem_of_getElem? g1)
       unfold impl_sameCategory_L0
       rw [decT (by omega),cond_true,idx_nat,g1,some_bind',idx_nat,g2,some_bind',implSame _ _ (by omega),some_bind']
       rw [show (!(z1 == z2))=true from hp,cond_true]
      ·unfold impl_sameCategory_L0
       rw [List.length_zip,← hl,Nat.min_self,decF (by omega),cond_false]
      ·cases (c.Composites.zip d.Composites).any fun z=>!(z.1 == z.2) <;> rfl
     ·rw [bneT (by omega)]
      have:(c.Composites == d.Composites)=false:=beqF fun h=>hl (by rw [h])
      rw [this]; rfl
end Go.Proofs.YtjfahghkjblgjaaGreat
namespace Go.Proofs.YtjfahghkjblgjaaGreat
open Go Go.Li
theorem forb {S R:Type} {body:Int→Option (Out Int R)} {k:Nat} {f:Int→Option (Out S R)} {n:Nat} (p:Int→Bool) {y:R}
  (h:∀ i:Nat,i < n→body (i:Int)=bif p i then some (.ret y) else some (.norm ((i+1:Nat):Int))) (last:body (n:Int)=some (.exit k (n:Int))) :
  lbind (blockM k (loopM body (0:Int))) f=bif (ns n).any p then some (.ret y) else f n:=by
 refine (for_anyb (ns n) p (fun i=>(i:Int)) rfl ?_ ?_ (e:=(n:Int)) (y:=y) ?_).trans ?_
 ·intro i x hx hp; obtain ⟨rfl,hi⟩:=ns_get hx; rw [h i hi,hp]; rfl
 ·intro i x hx hp; obtain ⟨rfl,hi⟩:=ns_get hx; rw [h i hi,hp]; rfl
 ·rw [ns_length]; exact last
 ·cases (ns n).any p <;> rfl
theorem forg {S R:Type} {body:Int→Option (Out Int R)} {k:Nat} {f:Int→Option (Out S R)} {n:Nat} (p:Int→Bool) (G:R→Prop)
  (h:∀ i:Nat,i < n→(p i=false∧body (i:Int)=some (.norm ((i+1:Nat):Int)))∨(p i=true∧∃ y,body (i:Int)=some (.ret y)∧G y)) (last:body (n:Int)=some (.exit k (n:Int))) :
  ((ns n).any p=false∧lbind (blockM k (loopM body (0:Int))) f=f n)∨((ns n).any p=true∧∃ y,lbind (blockM k (loopM body (0:Int))) f=some (.ret y)∧G y):=by
 refine (for_anyg (ns n) p G (fun i=>(i:Int)) rfl ?_ ?_ (e:=(n:Int)) (by rw [ns_length]; exact last)).elim (fun h=>.inr h) (fun h=>.inl h)
 ·intro i x hx hp
  obtain ⟨rfl,hi⟩:=ns_get hx
  rcases h i hi with ⟨_,h⟩ | ⟨h,_⟩
  ·exact h
  ·rw [hp] at h; cases h
 ·intro i x hx hp
  obtain ⟨rfl,hi⟩:=ns_get hx
  rcases h i hi with ⟨h,_⟩ | ⟨_,h⟩
  ·rw [hp] at h; cases h
  ·exact h
theorem cond_some {α:Type} {b:Bool} {x y:α}:(bif b then some x else some y)=some (bif b then x else y):=by cases b <;> rfl
theorem cond_or {a b:Bool}:(bif a then true else b)=(a || b):=by cases a <;> rfl
theorem cond_and {a b:Bool}:(bif a then b else false)=(a && b):=by cases a <;> rfl
theorem ns_any_false {n:Nat} {p:Int→Bool}:(ns n).any p=false↔∀ i:Int,0≤i→i < n→p i=false:=by
 rw [List.any_eq_false]
 exact ⟨fun h i h0 h1=>by simpa using h i (ns_mem.2 ⟨h0,h1⟩),fun h i hi=>by simp [h i (ns_mem.1 hi).1 (ns_mem.1 hi).2]⟩
def mapB (l:List Int) (m n:Int):Bool:=((l.length:Int) == m) && inS n l
theorem mapB_iff {l:List Int} {m n:Int}:mapB l m n=true↔(l.length:Int)=m∧∀ y∈l,0≤y∧y < n:=by
 unfold mapB; rw [Bool.and_eq_true,beq_iff_eq,inS_iff]
theorem implMapOf (l:List Int) (m n:Int) (hl:l.length≤1048576000) (hn:0≤n) (hn2:n≤1048576000):impl_isMapOf l m n=some (mapB l m n):=by
 unfold impl_isMapOf mapB
 rw [within l n hl hn hn2,some_bind',cond_some,cond_and]; rfl
theorem specMapOf (l:List Int) (m n:Int) (hl:l.length≤1048576000):(bif (l.length:Int) != m then some true else (spec_l01Map n l>>=fun y=>some (!y)))=some (!mapB l m n):=by
 rw [specMap n l hl,some_bind',cond_some,cond_or]
 unfold mapB bne
 cases (l.length:Int) == m <;> simp
def sfHead (f:MSetFunctor):Bool:=catB f.Shape && (((f.Sizes.length:Int) == f.Shape.Objects) && (inS 17 f.Sizes && (f.Actions.length == f.Shape.From.length)))
def actB (f:MSetFunctor) (a:Int):Bool:=mapB (gr f.Actions a) (gi f.Sizes (gi f.Shape.From a)) (gi f.Sizes (gi f.Shape.To a))
def sfShapeB (f:MSetFunctor):Bool:=sfHead f && (ns f.Shape.From.length).all (actB f)
structure SFHead (f:MSetFunctor):Prop where
 cat:Cat f.Shape
 sl:(f.Sizes.length:Int)=f.Shape.Objects
 s:∀ x:Int,0≤x→x < f.Shape.Objects→0≤gi f.Sizes x∧gi f.Sizes x≤16
 al:f.Actions.length=f.Shape.From.length
theorem sfHead_of {f:MSetFunctor} (h:sfHead f=true):SFHead f:=by
 unfold sfHead at h
 simp only [Bool.and_eq_true,beq_iff_eq,inS_iff] at h
 obtain ⟨h1,h2,h3,h4⟩:=h
 refine ⟨cat_of h1,h2,fun x h0 h1=>?_,h4⟩
 have:=h3 _ (gi_mem h0 (by omega))
 omega
namespace SFHead
variable {f:MSetFunctor} (H:SFHead f)
include H
theorem idxS {x:Int} (h0:0≤x) (h1:x < f.Shape.Objects):idx f.Sizes x=some (gi f.Sizes x):=idx_gi h0 (by rw [H.sl]; exact h1)
theorem idxA {a:Int} (h0:0≤a) (h1:a < f.Shape.From.length):idx f.Actions a=some (gr f.Actions a):=idx_gr h0 (by rw [H.al]; exact h1)
theorem memA {a:Int} (h0:0≤a) (h1:a < f.Shape.From.length):gr f.Actions a∈f.Actions:=gr_mem h0 (by rw [H.al]; exact h1)
end SFHead
structure SFShape (f:MSetFunctor):Prop extends SFHead f where
 act:∀ a:Int,0≤a→a < f.Shape.From.length→((gr f.Actions a).length:Int)=gi f.Sizes (gi f.Shape.From a)∧∀ y∈gr f.Actions a,0≤y∧y < gi f.Sizes (gi f.Shape.To a)
theorem sfShape_of {f:MSetFunctor} (h:sfShapeB f=true):SFShape f:=by
 unfold sfShapeB at h
 simp only [Bool.and_eq_true,List.all_eq_true] at h
 obtain ⟨h1,h2⟩:=h
 exact ⟨sfHead_of h1,fun a h0 h1=>mapB_iff.1 (h2 a (ns_mem.2 ⟨h0,h1⟩))⟩
theorem specShapeF {f:MSetFunctor} (hs:SFSmall f):spec_l19Shape f=some (sfShapeB f):=by
 have h2:=hs.s
 have h3:=hs.k
 unfold spec_l19Shape sfShapeB sfHead
 rw [specIs hs.c,some_bind']
 cases hc:catB f.Shape with
 | false=>rfl
 | true=>
  rw [Bool.not_true,cond_false,cond_some,some_bind',cond_or]
  have H:=cat_of hc
  have ho:=H.o8
  have hm:=H.m
  cases e1:((f.Sizes.length:Int) == f.Shape.Objects) with
  | false=>rw [show ((f.Sizes.length:Int) != f.Shape.Objects)=true by unfold bne; rw [e1]; rfl]; rfl
  | true=>
   rw [show ((f.Sizes.length:Int) != f.Shape.Objects)=false by unfold bne; rw [e1]; rfl,Bool.false_or]
   have e1':(f.Sizes.length:Int)=f.Shape.Objects:=by simpa using e1
   by_cases e2:f.Actions.length=f.Shape.From.length
   ·rw [bneF (by omega),cond_false,beqT e2]
    have hsz:∀ i:Nat,i < f.Sizes.length→spec_l19Shape_L0 f (i:Int)=bif !(decide (0≤gi f.Sizes i) && decide (gi f.Sizes i≤16)) then some (.ret false) else some (.norm ((i+1:Nat):Int)):=by
     intro i hi
     unfold spec_l19Shape_L0
     rw [decT (by omega),cond_true,idx_gi (by omega) (by omega),some_bind',specIn,some_bind',w64_nat (by omega)]
    rw [forb (fun i=>!(decide (0≤gi f.Sizes i) && decide (gi f.Sizes i≤16))) hsz (by unfold spec_l19Shape_L0; rw [decF (by omega),cond_false])]
    have e3:((ns f.Sizes.length).any fun i=>!(decide (0≤gi f.Sizes i) && decide (gi f.Sizes i≤16))) = !inS 17 f.Sizes:=by
     rw [any_not]
     congr 1
     rw [Bool.eq_iff_iff,inS_iff,List.all_eq_true]
     constructor
     ·intro h y hy
      obtain ⟨i,hi,rfl⟩:=List.getElem_of_mem hy
      have:=h (i:Int) (ns_mem.2 ⟨by omega,by omega⟩)
      simp only [Bool.and_eq_true,decide_eq_true_eq] at this
      have e:gi f.Sizes (i:Int)=f.Sizes[i]:=by
       have:=idx_gi (l:=f.Sizes) (j:=(i:Int)) (by omega) (by omega)
       rw [idx_nat,List.getElem?_eq_getElem hi] at this
       exact (Option.some.inj this).symm
      rw [← e]; omega
     ·intro h i hi
      obtain ⟨a,b⟩:=ns_mem.1 hi
      have:=h _ (gi_mem a (by omega))
      simp only [Bool.and_eq_true,decide_eq_true_eq]; omega
    rw [e3]
    cases e4:inS 17 f.Sizes with
    | false=>rfl
    | true=>
     have SH:SFHead f:=sfHead_of (by unfold sfHead; rw [hc,e1,e4,beqT e2]; rfl)
     rw [Bool.not_true,cond_false]
     have hac:∀ i:Nat,i < f.Actions.length→spec_l19Shape_L1 f (i:Int)=bif !(actB f i) then some (.ret false) else some (.norm ((i+1:Nat):Int)):=by
      intro i hi
      have hr:=hs.r _ (SH.memA (a:=(i:Int)) (by omega) (by omega))
      have hf:=H.fr (f:=(i:Int)) (by omega) (by omega)
      have ht:=H.to (f:=(i:Int)) (by omega) (by omega)
      unfold spec_l19Shape_L1
      rw [decT (by omega),cond_true,SH.idxA (by omega) (by omega),some_bind',H.idxF (by omega) (by omega),some_bind',SH.idxS hf.1 hf.2,some_bind',H.idxT (by omega) (by omega),some_bind',SH.idxS ht.1 ht.2,some_bind',some_bind',specMapOf _ _ _ (by omega),some_bind',w64_nat (by omega)]
      rfl
     rw [forb (fun i=>!(actB f i)) hac (by unfold spec_l19Shape_L1; rw [decF (by omega),cond_false]),any_not,e2]
     cases (ns f.Shape.From.length).all (actB f) <;> rfl
   ·rw [bneT (by omega),cond_true,beqF e2]
    simp only [Bool.and_false,Bool.false_and]
    rfl
theorem implShapeF {f:MSetFunctor} (hs:SFSmall f):impl_SetFunctor_isShape f=some (sfShapeB f):=by
 have h2:=hs.s
 have h3:=hs.k
 unfold impl_SetFunctor_isShape sfShapeB sfHead impl_Category_arrows
 rw [implIs hs.c,some_bind']
 cases hc:catB f.Shape with
 | false=>rfl
 | true=>
  rw [Bool.not_true,cond_false]
  have H:=cat_of hc
  have ho:=H.o8
  have hm:=H.m
  cases e1:((f.Sizes.length:Int) == f.Shape.Objects) with
  | false=>rw [show ((f.Sizes.length:Int) != f.Shape.Objects)=true by unfold bne; rw [e1]; rfl]; rfl
  | true=>
   rw [show ((f.Sizes.length:Int) != f.Shape.Objects)=false by unfold bne; rw [e1]; rfl,cond_false,within _ _ (by omega) (by omega) (by omega),some_bind']
   have e1':(f.Sizes.length:Int)=f.Shape.Objects:=by simpa using e1
   cases e4:inS 17 f.Sizes with
   | false=>rfl
   | true=>
    rw [Bool.not_true,cond_false]
    by_cases e2:f.Actions.length=f.Shape.From.length
    ·rw [beqT e2]
     have SH:SFHead f:=sfHead_of (by unfold sfHead; rw [hc,e1,e4,beqT e2]; rfl)
     have hac:∀ i:Nat,i < f.Actions.length→impl_SetFunctor_isShape_L0 f (i:Int)=bif !(actB f i) then some (.ret false) else some (.norm ((i+1:Nat):Int)):=by
      intro i hi
      have hr:=hs.r _ (SH.memA (a:=(i:Int)) (by omega) (by omega))
      have hf:=H.fr (f:=(i:Int)) (by omega) (by omega)
      have ht:=H.to (f:=(i:Int)) (by omega) (by omega)
      have st:=SH.s _ ht.1 ht.2
      unfold impl_SetFunctor_isShape_L0
      rw [decT (by omega),cond_true,SH.idxA (by omega) (by omega),some_bind',H.idxF (by omega) (by omega),some_bind',SH.idxS hf.1 hf.2,some_bind',H.idxT (by omega) (by omega),some_bind',SH.idxS ht.1 ht.2,some_bind',implMapOf _ _ _ (by omega) (by omega) (by omega),some_bind',w64_nat (by omega)]
      rfl
     show retM (bif ((f.Actions.length:Int) != (f.Shape.From.length:Int)) then _ else _)=_
     rw [bneF (by omega),cond_false]
     rw [forb (fun i=>!(actB f i)) hac (by unfold impl_SetFunctor_isShape_L0; rw [decF (by omega),cond_false]),any_not,e2]
     cases (ns f.Shape.From.length).all (actB f) <;> rfl
    ·rw [beqF e2]
     show retM (bif ((f.Actions.length:Int) != (f.Shape.From.length:Int)) then _ else _)=_
     rw [bneT (by omega),cond_true]
     simp only [Bool.and_false,Bool.false_and]
     rfl
end Go.Proofs.YtjfahghkjblgjaaGreat
namespace Go.Proofs.YtjfahghkjblgjaaGreat
open Go Go.Li
def idBad (f:MSetFunctor) (x:Int):Bool:=(ns (gi f.Sizes x).toNat).any fun e=>gi (gr f.Actions (gi f.Shape.Identity x)) e != e
def cmpBad (f:MSetFunctor) (a b:Int):Bool:=(gi f.Shape.To a == gi f.Shape.From b) && (ns (gi f.Sizes (gi f.Shape.From a)).toNat).any fun e=>gi (gr f.Actions (gk f.Shape.Composites a b)) e != gi (gr f.Actions b) (gi (gr f.Actions a) e)
def sfLawB (f:MSetFunctor):Bool:=!((ns f.Shape.Objects.toNat).any (idBad f)) && !((ns f.Shape.From.length).any fun a=>(ns f.Shape.From.length).any (cmpBad f a))
namespace SFShape
variable {f:MSetFunctor} (H:SFShape f)
include H
theorem row {a:Int} (h0:0≤a) (h1:a < f.Shape.From.length):(gr f.Actions a).length=(gi f.Sizes (gi f.Shape.From a)).toNat:=by
 have:=(H.act a h0 h1).1
 have hf:=H.cat.fr h0 h1
 have:=H.s _ hf.1 hf.2
 omega
theorem at_ {a e:Int} (h0:0≤a) (h1:a < f.Shape.From.length) (e0:0≤e) (e1:e < gi f.Sizes (gi f.Shape.From a)):idx (gr f.Actions a) e=some (gi (gr f.Actions a) e):=idx_gi e0 (by rw [(H.act a h0 h1).1]; exact e1)
theorem img {a e:Int} (h0:0≤a) (h1:a < f.Shape.From.length) (e0:0≤e) (e1:e < gi f.Sizes (gi f.Shape.From a)):0≤gi (gr f.Actions a) e∧gi (gr f.Actions a) e < gi f.Sizes (gi f.Shape.To a):=
 (H.act a h0 h1).2 _ (gi_mem e0 (by rw [(H.act a h0 h1).1]; exact e1))
end SFShape
theorem faultF {f:MSetFunctor} {k1 k2 k3 k4 k5:Nat} {A0:Int→Option (Out Int (Int×Int×Int×Int))} {A1:Int→Int→Option (Out Int (Int×Int×Int×Int))} {B0:Int→Option (Out Int (Int×Int×Int×Int))} {B1:Int→Int→Option (Out Int (Int×Int×Int×Int))} {B2:Int→Int→Int→Option (Out Int (Int×Int×Int×Int))} {n m:Nat} {z:Int×Int×Int×Int} (hz:z.1=0) (hn:n=f.Shape.Objects.toNat) (hm:m=f.Shape.From.length)
  (a1:∀ x e:Nat,x < n→e < (gi f.Sizes x).toNat→∃ y:Int×Int×Int×Int,y.1≠0∧A1 x e=bif gi (gr f.Actions (gi f.Shape.Identity x)) e != (e:Int) then some (.ret y) else some (.norm ((e+1:Nat):Int)))
  (a2:∀ x:Nat,x < n→A1 x ((gi f.Sizes x).toNat:Int)=some (.exit k2 ((gi f.Sizes x).toNat:Int)))
  (a0:∀ x:Nat,x < n→A0 x=lbind (blockM k2 (loopM (A1 x) (0:Int))) fun _=>some (.norm ((x+1:Nat):Int)))
  (a3:A0 n=some (.exit k1 (n:Int)))
  (b2:∀ a b e:Nat,a < m→b < m→gi f.Shape.To a=gi f.Shape.From b→e < (gi f.Sizes (gi f.Shape.From a)).toNat→∃ y:Int×Int×Int×Int,y.1≠0∧B2 a b e=bif gi (gr f.Actions (gk f.Shape.Composites a b)) e != gi (gr f.Actions b) (gi (gr f.Actions a) e) then some (.ret y) else some (.norm ((e+1:Nat):Int)))
  (b3:∀ a b:Nat,a < m→b < m→B2 a b ((gi f.Sizes (gi f.Shape.From a)).toNat:Int)=some (.exit k5 ((gi f.Sizes (gi f.Shape.From a)).toNat:Int)))
  (b1:∀ a b:Nat,a < m→b < m→B1 a b=bif gi f.Shape.To a == gi f.Shape.From b then lbind (blockM k5 (loopM (B2 a b) (0:Int))) (fun _=>some (.norm ((b+1:Nat):Int))) else some (.norm ((b+1:Nat):Int)))
  (b4:∀ a:Nat,a < m→B1 a m=some (.exit k4 (m:Int)))
  (b0:∀ a:Nat,a < m→B0 a=lbind (blockM k4 (loopM (B1 a) (0:Int))) fun _=>some (.norm ((a+1:Nat):Int)))
  (b5:B0 m=some (.exit k3 (m:Int))) :
  ∃ y,retM (S:=Unit) (lbind (blockM k1 (loopM A0 (0:Int))) fun _=>lbind (blockM k3 (loopM B0 (0:Int))) fun _=>some (.ret z))=some y∧(y.1 == 0)=sfLawB f:=by
 have hA:∀ x:Nat,x < n→(idBad f x=false∧A0 x=some (.norm ((x+1:Nat):Int)))∨(idBad f x=true∧∃ y,A0 x=some (.ret y)∧y.1≠0):=by
  intro x hx
  rw [a0 x hx]
  refine forg (n:=(gi f.Sizes x).toNat) (fun e=>gi (gr f.Actions (gi f.Shape.Identity x)) e != e) (fun y:Int×Int×Int×Int=>y.1≠0) ?_ (a2 x hx)
  intro e he
  obtain ⟨y,hy,h⟩:=a1 x e hx he
  rw [h]
  cases gi (gr f.Actions (gi f.Shape.Identity x)) e != (e:Int) with
  | true=>exact .inr ⟨rfl,y,rfl,hy⟩
  | false=>exact .inl ⟨rfl,rfl⟩
 have hB1:∀ a b:Nat,a < m→b < m→(cmpBad f a b=false∧B1 a b=some (.norm ((b+1:Nat):Int)))∨(cmpBad f a b=true∧∃ y,B1 a b=some (.ret y)∧y.1≠0):=by
  intro a b ha hb
  rw [b1 a b ha hb]
  unfold cmpBad
  cases hc:gi f.Shape.To a == gi f.Shape.From b with
  | false=>exact .inl ⟨rfl,rfl⟩
  | true=>
   rw [Bool.true_and,cond_true]
   refine forg (n:=(gi f.Sizes (gi f.Shape.From a)).toNat) (fun e=>gi (gr f.Actions (gk f.Shape.Composites a b)) e != gi (gr f.Actions b) (gi (gr f.Actions a) e)) (fun y:Int×Int×Int×Int=>y.1≠0) ?_ (b3 a b ha hb)
   intro e he
   obtain ⟨y,hy,h⟩:=b2 a b e ha hb (by simpa using hc) he
   rw [h]
   cases gi (gr f.Actions (gk f.Shape.Composites a b)) e != gi (gr f.Actions b) (gi (gr f.Actions a) e) with
   | true=>exact .inr ⟨rfl,y,rfl,hy⟩
   | false=>exact .inl ⟨rfl,rfl⟩
 have hB:∀ a:Nat,a < m→((ns m).any (cmpBad f a)=false∧B0 a=some (.norm ((a+1:Nat):Int)))∨((ns m).any (cmpBad f a)=true∧∃ y,B0 a=some (.ret y)∧y.1≠0):=by
  intro a ha
  rw [b0 a ha]
  exact forg (n:=m) (cmpBad f a) (fun y:Int×Int×Int×Int=>y.1≠0) (fun b hb=>hB1 a b ha hb) (b4 a ha)
 unfold sfLawB
 rw [← hn,← hm]
 rcases forg (S:=Unit) (f:=fun _=>lbind (blockM k3 (loopM B0 (0:Int))) fun _=>some (.ret z)) (n:=n) (idBad f) (fun y:Int×Int×Int×Int=>y.1≠0) hA a3 with ⟨h1,h2⟩ | ⟨h1,y,h2,h3⟩
 ·rw [h1,h2]
  rcases forg (S:=Unit) (f:=fun _=>some (.ret z)) (n:=m) (fun a=>(ns m).any (cmpBad f a)) (fun y:Int×Int×Int×Int=>y.1≠0) hB b5 with ⟨g1,g2⟩ | ⟨g1,y,g2,g3⟩
  ·rw [g1,g2]
   exact ⟨z,rfl,by rw [hz]; rfl⟩
  ·rw [g1,g2]
   exact ⟨y,rfl,by simpa using g3⟩
 ·rw [h1,h2]
  exact ⟨y,rfl,by simpa using h3⟩
theorem specFaultF {f:MSetFunctor} (H:SFShape f):∃ y,spec_l19Fault f=some y∧(y.1 == 0)=sfLawB f:=by
 have hm:=H.cat.m
 have o0:=H.cat.o0
 have o8:=H.cat.o8
 have hl:=H.sl
 have hA:=H.al
 unfold spec_l19Fault
 refine faultF (k2:=2) (k4:=6) (k5:=8) (A1:=spec_l19Fault_L1 f) (B1:=spec_l19Fault_L3 f) (B2:=spec_l19Fault_L4 f) (n:=f.Shape.Objects.toNat) (m:=f.Shape.From.length) rfl rfl rfl ?_ ?_ ?_ ?_ ?_ ?_ ?_ ?_ ?_ ?_
 ·intro x e hx he
  have hi:=H.cat.id (x:=(x:Int)) (by omega) (by omega)
  have hs:=H.s (x:Int) (by omega) (by omega)
  have hf:=H.cat.idf (x:Int) (by omega) (by omega)
  refine ⟨(1,x,e,0),(by decide:(1:Int)≠0),?_⟩
  unfold spec_l19Fault_L1
  rw [H.idxS (by omega) (by omega),some_bind',decT (by omega),cond_true,H.cat.idxI (by omega) (by omega),some_bind',H.idxA hi.1 hi.2,some_bind',H.at_ hi.1 hi.2 (by omega) (by rw [hf]; omega),some_bind',w64_nat (by omega)]
 ·intro x hx
  have hs:=H.s (x:Int) (by omega) (by omega)
  unfold spec_l19Fault_L1
  rw [H.idxS (by omega) (by omega),some_bind',decF (by omega),cond_false]
 ·intro x hx
  unfold spec_l19Fault_L0
  rw [decT (by omega),cond_true,w64_nat (by omega)]
 ·unfold spec_l19Fault_L0
  rw [decF (by omega),cond_false]
 ·intro a b e ha hb hab he
  have hf:=H.cat.fr (f:=(a:Int)) (by omega) (by omega)
  have hs:=H.s _ hf.1 hf.2
  have hc:=H.cat.cell (a:Int) (b:Int) (by omega) (by omega) (by omega) (by omega) hab
  have hi:=H.img (a:=(a:Int)) (e:=(e:Int)) (by omega) (by omega) (by omega) (by omega)
  refine ⟨(2,a,b,e),(by decide:(2:Int)≠0),?_⟩
  unfold spec_l19Fault_L4
  rw [H.cat.idxF (by omega) (by omega),some_bind',H.idxS hf.1 hf.2,some_bind',decT (by omega),cond_true,H.cat.idxK (by omega) (by omega),some_bind',H.cat.idxC (by omega) (by omega) (by omega) (by omega),some_bind',
   H.idxA hc.1 hc.2.1,some_bind',H.at_ hc.1 hc.2.1 (by omega) (by rw [hc.2.2.1]; omega),some_bind',H.idxA (by omega) (by omega),some_bind',H.idxA (by omega) (by omega),some_bind',H.at_ (by omega) (by omega) (by omega) (by omega),some_bind',
   H.at_ (by omega) (by omega) hi.1 (by rw [← hab]; exact hi.2),some_bind',w64_nat (by omega)]
 ·intro a b ha hb
  have hf:=H.cat.fr (f:=(a:Int)) (by omega) (by omega)
  have hs:=H.s _ hf.1 hf.2
  unfold spec_l19Fault_L4
  rw [H.cat.idxF (by omega) (by omega),some_bind',H.idxS hf.1 hf.2,some_bind',decF (by omega),cond_false]
 ·intro a b ha hb
  unfold spec_l19Fault_L3
  rw [decT (by omega),cond_true,H.cat.idxT (by omega) (by omega),some_bind',H.cat.idxF (by omega) (by omega),some_bind',w64_nat (by omega)]
  unfold bne
  cases gi f.Shape.To a == gi f.Shape.From b <;> rfl
 ·intro a ha
  unfold spec_l19Fault_L3
  rw [decF (by omega),cond_false]
 ·intro a ha
  unfold spec_l19Fault_L2
  rw [decT (by omega),cond_true,w64_nat (by omega)]
 ·unfold spec_l19Fault_L2
  rw [decF (by omega),cond_false]
theorem implFaultF {f:MSetFunctor} (H:SFShape f):∃ y,impl_SetFunctor_fault f=some y∧(y.1 == 0)=sfLawB f:=by
 have hm:=H.cat.m
 have o0:=H.cat.o0
 have o8:=H.cat.o8
 have hl:=H.sl
 have hA:=H.al
 have il:=H.cat.il
 have kl:=H.cat.kl
 unfold impl_SetFunctor_fault
 refine faultF (k2:=2) (k4:=6) (k5:=8) (A1:=fun x=>impl_SetFunctor_fault_L1 x (gr f.Actions (gi f.Shape.Identity x))) (B1:=fun a=>impl_SetFunctor_fault_L3 f a (gr f.Shape.Composites a)) (B2:=fun a b=>impl_SetFunctor_fault_L4 f a b (gk f.Shape.Composites a b) (gr f.Actions a)) (n:=f.Shape.Objects.toNat) (m:=f.Shape.From.length) rfl rfl rfl ?_ ?_ ?_ ?_ ?_ ?_ ?_ ?_ ?_ ?_
 ·intro x e hx he
  have hi:=H.cat.id (x:=(x:Int)) (by omega) (by omega)
  have hs:=H.s (x:Int) (by omega) (by omega)
  have hf:=H.cat.idf (x:Int) (by omega) (by omega)
  have hr:=H.row hi.1 hi.2
  rw [hf] at hr
  refine ⟨(1,x,e,0),(by decide:(1:Int)≠0),?_⟩
  show impl_SetFunctor_fault_L1 x (gr f.Actions (gi f.Shape.Identity x)) e=_
  unfold impl_SetFunctor_fault_L1
  rw [decT (by omega),cond_true,H.at_ hi.1 hi.2 (by omega) (by rw [hf]; omega),some_bind',w64_nat (by omega)]
 ·intro x hx
  have hi:=H.cat.id (x:=(x:Int)) (by omega) (by omega)
  have hf:=H.cat.idf (x:Int) (by omega) (by omega)
  have hr:=H.row hi.1 hi.2
  rw [hf] at hr
  show impl_SetFunctor_fault_L1 x (gr f.Actions (gi f.Shape.Identity x)) _=_
  unfold impl_SetFunctor_fault_L1
  rw [decF (by omega),cond_false]
 ·intro x hx
  have hi:=H.cat.id (x:=(x:Int)) (by omega) (by omega)
  unfold impl_SetFunctor_fault_L0
  rw [decT (by omega),cond_true,H.cat.idxI (by omega) (by omega),some_bind',H.idxA hi.1 hi.2,some_bind',w64_nat (by omega)]
 ·unfold impl_SetFunctor_fault_L0
  rw [decF (by omega),cond_false]
 ·intro a b e ha hb hab he
  have hf:=H.cat.fr (f:=(a:Int)) (by omega) (by omega)
  have hs:=H.s _ hf.1 hf.2
  have hc:=H.cat.cell (a:Int) (b:Int) (by omega) (by omega) (by omega) (by omega) hab
  have hi:=H.img (a:=(a:Int)) (e:=(e:Int)) (by omega) (by omega) (by omega) (by omega)
  have hr:=H.row (a:=(a:Int)) (by omega) (by omega)
  refine ⟨(2,a,b,e),(by decide:(2:Int)≠0),?_⟩
  show impl_SetFunctor_fault_L4 f a b (gk f.Shape.Composites a b) (gr f.Actions a) e=_
  unfold impl_SetFunctor_fault_L4
  rw [decT (by omega),cond_true,H.at_ (by omega) (by omega) (by omega) (by omega),some_bind',H.idxA hc.1 hc.2.1,some_bind',H.at_ hc.1 hc.2.1 (by omega) (by rw [hc.2.2.1]; omega),some_bind',H.idxA (by omega) (by omega),some_bind',
   H.at_ (by omega) (by omega) hi.1 (by rw [← hab]; exact hi.2),some_bind',w64_nat (by omega)]
 ·intro a b ha hb
  have hr:=H.row (a:=(a:Int)) (by omega) (by omega)
  show impl_SetFunctor_fault_L4 f a b (gk f.Shape.Composites a b) (gr f.Actions a) _=_
  unfold impl_SetFunctor_fault_L4
  rw [decF (by omega),cond_false]
 ·intro a b ha hb
  have hrow:=H.cat.row (a:Int) (by omega) (by omega)
  show impl_SetFunctor_fault_L3 f a (gr f.Shape.Composites a) b=_
  unfold impl_SetFunctor_fault_L3
  rw [decT (by omega),cond_true,H.cat.idxC (by omega) (by omega) (by omega) (by omega),some_bind',w64_nat (by omega)]
  by_cases he:gi f.Shape.To a=gi f.Shape.From b
  ·have hc:=H.cat.cell (a:Int) (b:Int) (by omega) (by omega) (by omega) (by omega) he
   rw [decF (by omega),cond_false,H.idxA (by omega) (by omega),some_bind',beqT he,cond_true]
  ·have hc:=H.cat.none (a:Int) (b:Int) (by omega) (by omega) (by omega) (by omega) he
   rw [decT (by omega),cond_true,beqF he,cond_false]
 ·intro a ha
  have hrow:=H.cat.row (a:Int) (by omega) (by omega)
  show impl_SetFunctor_fault_L3 f a (gr f.Shape.Composites a) _=_
  unfold impl_SetFunctor_fault_L3
  rw [decF (by omega),cond_false]
 ·intro a ha
  unfold impl_SetFunctor_fault_L2
  rw [decT (by omega),cond_true,H.cat.idxK (by omega) (by omega),some_bind',w64_nat (by omega)]
 ·unfold impl_SetFunctor_fault_L2
  rw [decF (by omega),cond_false]
def sfB (f:MSetFunctor):Bool:=sfShapeB f && sfLawB f
structure SF (f:MSetFunctor):Prop extends SFShape f where
 one:∀ x e:Int,0≤x→x < f.Shape.Objects→0≤e→e < gi f.Sizes x→gi (gr f.Actions (gi f.Shape.Identity x)) e=e
 comp:∀ a b e:Int,0≤a→a < f.Shape.From.length→0≤b→b < f.Shape.From.length→gi f.Shape.To a=gi f.Shape.From b→0≤e→e < gi f.Sizes (gi f.Shape.From a)→gi (gr f.Actions (gk f.Shape.Composites a b)) e=gi (gr f.Actions b) (gi (gr f.Actions a) e)
theorem sf_of {f:MSetFunctor} (h:sfB f=true):SF f:=by
 unfold sfB at h
 rw [Bool.and_eq_true] at h
 obtain ⟨h1,h2⟩:=h
 have S:=sfShape_of h1
 have o8:=S.cat.o8
 unfold sfLawB at h2
 rw [Bool.and_eq_true,Bool.not_eq_true',Bool.not_eq_true',ns_any_false,ns_any_false] at h2
 refine ⟨S,fun x e x0 x1 e0 e1=>?_,fun a b e a0 a1 b0 b1 hab e0 e1=>?_⟩
 ·have:=h2.1 x x0 (by omega)
  unfold idBad at this
  rw [ns_any_false] at this
  have:=this e e0 (by omega)
  simpa using this
 ·have:=h2.2 a a0 a1
  rw [ns_any_false] at this
  have:=this b b0 b1
  unfold cmpBad at this
  rw [beqT hab,Bool.true_and,ns_any_false] at this
  have:=this e e0 (by omega)
  simpa using this
theorem specIsF {f:MSetFunctor} (hs:SFSmall f):spec_l19Is f=some (sfB f):=by
 unfold spec_l19Is
 rw [specShapeF hs,some_bind']
 unfold sfB
 cases h:sfShapeB f with
 | false=>rfl
 | true=>
  obtain ⟨y,h1,h2⟩:=specFaultF (sfShape_of h)
  rw [Bool.not_true,cond_false,h1,some_bind',h2]; rfl
theorem implIsF {f:MSetFunctor} (hs:SFSmall f):impl_SetFunctor_isSetFunctor f=some (sfB f):=by
 unfold impl_SetFunctor_isSetFunctor
 rw [implShapeF hs,some_bind']
 unfold sfB
 cases h:sfShapeB f with
 | false=>rfl
 | true=>
  obtain ⟨y,h1,h2⟩:=implFaultF (sfShape_of h)
  rw [Bool.not_true,cond_false,h1,some_bind',h2]; rfl
theorem implAreF (l:List MSetFunctor) (hl:l.length≤1048576) (hs:∀ f∈l,SFSmall f):impl_areSetFunctors l=some (l.all sfB):=by
 unfold impl_areSetFunctors
 refine (congrArg retM (for_anyb l (fun f=>!sfB f) (fun i=>(i:Int)) rfl ?_ ?_ (e:=(l.length:Int)) (y:=false) ?_)).trans ?_
 ·intro i x hx hp
  have hi:=getElem?_lt hx
  unfold impl_areSetFunctors_L0
  rw [decT (by omega),cond_true,idx_nat,hx,some_bind',implIsF (hs x (List.mem_of_getElem? hx)),some_bind',show (!sfB x)=false from hp,cond_false,w64_nat (by omega)]
 ·intro i x hx hp
  have hi:=getElem?_lt hx
  unfold impl_areSetFunctors_L0
  rw [decT (by omega),cond_true,idx_nat,hx,some_bind',implIsF (hs x (List.mem_of_getElem? hx)),some_bind',show (!sfB x)=true from hp,cond_true]
 ·unfold impl_areSetFunctors_L0
  rw [decF (by omega),cond_false]
 ·rw [any_not]
  cases l.all sfB <;> rfl
def sameFB (f g:MSetFunctor):Bool:=sameB f.Shape g.Shape && (f.Sizes == g.Sizes && f.Actions == g.Actions)
theorem sameFB_eq {f g:MSetFunctor}:sameFB f g=true↔f=g:=by
 unfold sameFB
 simp only [Bool.and_eq_true,beq_iff_eq,sameB_eq]
 constructor
 ·rintro ⟨h1,h2,h3⟩
  cases f; cases g
  dsimp only at h1 h2 h3
  rw [h1,h2,h3]
 ·rintro rfl; exact ⟨rfl,rfl,rfl⟩
theorem specSameF {f g:MSetFunctor} (h:SFSmall f):spec_l19Same f g=some (sameFB f g):=by
 have h2:=h.s
 have h3:=h.k
 have e5:spec_l01Same2 f.Actions g.Actions=some (f.Actions == g.Actions):=eqMM_ok _ _ (by omega) (fun z hz=>by have:=h.r z hz; omega)
 unfold spec_l19Same sameFB
 rw [specSameCat h.c,some_bind',specSame _ _ (by omega),some_bind',e5,some_bind',cond_some,cond_and,cond_some,cond_and]; rfl
theorem implSameF {f g:MSetFunctor} (h:SFSmall f):impl_sameSets f g=some (sameFB f g):=by
 have h2:=h.s
 have h3:=h.k
 unfold impl_sameSets sameFB
 rw [implSameCat h.c,some_bind',implSame _ _ (by omega),some_bind',cond_some,cond_or,cond_some,cond_or,some_bind']
 cases sameB f.Shape g.Shape with
 | false=>rfl
 | true=>
  cases f.Sizes == g.Sizes with
  | false=>rfl
  | true=>
   simp only [Bool.not_true,Bool.false_or,Bool.true_and]
   by_cases hl:f.Actions.length=g.Actions.length
   ·rw [bneF (by omega),cond_false,zip_same hl]
    refine (congrArg retM (for_anyb (f.Actions.zip g.Actions) (fun z=>!(z.1 == z.2)) (fun i=>(i:Int)) rfl ?_ ?_ (e:=((f.Actions.zip g.Actions).length:Int)) (y:=false) ?_)).trans ?_
    ·intro i z hz hp
     obtain ⟨z1,z2⟩:=z
     obtain ⟨g1,g2⟩:=List.getElem?_zip_eq_some.1 hz
     have hi:=getElem?_lt g1
     have:=h.r _ (List.mem_of_getElem? g1)
     unfold impl_sameSets_L0
     rw [decT (by omega),cond_true,idx_nat,g1,some_bind',idx_nat,g2,some_bind',implSame _ _ (by omega),some_bind',show (!(z1 == z2))=false from hp,cond_false,w64_nat (by omega)]
    ·intro i z hz hp
     obtain ⟨z1,z2⟩:=z
     obtain ⟨g1,g2⟩:=List.getElem?_zip_eq_some.1 hz
     have hi:=getElem?_lt g1
     have:=h.r _ (List.mem_of_getElem? g1)
     unfold impl_sameSets_L0
     rw [decT (by omega),cond_true,idx_nat,g1,some_bind',idx_nat,g2,some_bind',implSame _ _ (by omega),some_bind',show (!(z1 == z2))=true from hp,cond_true]
    ·unfold impl_sameSets_L0
     rw [List.length_zip,decF (by omega),cond_false]
    ·cases (f.Actions.zip g.Actions).any fun z=>!(z.1 == z.2) <;> rfl
   ·rw [bneT (by omega),cond_true,beq_len hl]; rfl
end Go.Proofs.YtjfahghkjblgjaaGreat
namespace Go.Proofs.YtjfahghkjblgjaaGreat
open Go Go.Li
def fitB (m:MSetMap) (x:Int):Bool:=mapB (gr m.Parts x) (gi m.Source.Sizes x) (gi m.Target.Sizes x)
def fitsB (m:MSetMap):Bool:=(m.Parts.length == m.Source.Sizes.length) && (ns m.Parts.length).all (fitB m)
def natBad (m:MSetMap) (a:Int):Bool:=(ns (gi m.Source.Sizes (gi m.Source.Shape.From a)).toNat).any fun e=>gi (gr m.Parts (gi m.Source.Shape.To a)) (gi (gr m.Source.Actions a) e) != gi (gr m.Target.Actions a) (gi (gr m.Parts (gi m.Source.Shape.From a)) e)
def smShapeB (m:MSetMap):Bool:=sfB m.Source && (sfB m.Target && (sameB m.Source.Shape m.Target.Shape && fitsB m))
def smB (m:MSetMap):Bool:=smShapeB m && !((ns m.Source.Shape.From.length).any (natBad m))
structure SMShape (m:MSetMap):Prop where
 src:SF m.Source
 tgt:SF m.Target
 same:m.Target.Shape=m.Source.Shape
 pl:(m.Parts.length:Int)=m.Source.Shape.Objects
 part:∀ x:Int,0≤x→x < m.Source.Shape.Objects→((gr m.Parts x).length:Int)=gi m.Source.Sizes x∧∀ y∈gr m.Parts x,0≤y∧y < gi m.Target.Sizes x
theorem smShape_of {m:MSetMap} (h:smShapeB m=true):SMShape m:=by
 unfold smShapeB fitsB at h
 simp only [Bool.and_eq_true,List.all_eq_true,beq_iff_eq,sameB_eq] at h
 obtain ⟨h1,h2,h3,h4,h5⟩:=h
 have S:=sf_of h1
 have hl:=S.sl
 exact ⟨S,sf_of h2,h3.symm,by omega,fun x h0 h1=>mapB_iff.1 (h5 x (ns_mem.2 ⟨h0,by omega⟩))⟩
namespace SMShape
variable {m:MSetMap} (H:SMShape m)
include H
theorem idxP {x:Int} (h0:0≤x) (h1:x < m.Source.Shape.Objects):idx m.Parts x=some (gr m.Parts x):=idx_gr h0 (by rw [H.pl]; exact h1)
theorem at_ {x e:Int} (h0:0≤x) (h1:x < m.Source.Shape.Objects) (e0:0≤e) (e1:e < gi m.Source.Sizes x):idx (gr m.Parts x) e=some (gi (gr m.Parts x) e):=idx_gi e0 (by rw [(H.part x h0 h1).1]; exact e1)
theorem img {x e:Int} (h0:0≤x) (h1:x < m.Source.Shape.Objects) (e0:0≤e) (e1:e < gi m.Source.Sizes x):0≤gi (gr m.Parts x) e∧gi (gr m.Parts x) e < gi m.Target.Sizes x:=
 (H.part x h0 h1).2 _ (gi_mem e0 (by rw [(H.part x h0 h1).1]; exact e1))
end SMShape
theorem specFits {m:MSetMap} (hs:SMSmall m) (S:SF m.Source) (T:SF m.Target) (he:m.Target.Shape=m.Source.Shape):spec_l19Parts m.Source m.Target m.Parts=some (fitsB m):=by
 have hk:=hs.k
 have hl:=S.sl
 have ho:=S.cat.o8
 unfold spec_l19Parts fitsB
 by_cases h:m.Parts.length=m.Source.Sizes.length
 ·rw [bneF (by omega),cond_false,beqT h,Bool.true_and]
  have hx:∀ i:Nat,i < m.Parts.length→spec_l19Parts_L0 m.Source m.Target m.Parts (i:Int)=bif !(fitB m i) then some (.ret false) else some (.norm ((i+1:Nat):Int)):=by
   intro i hi
   have hr:=hs.r _ (gr_mem (l:=m.Parts) (j:=(i:Int)) (by omega) (by omega))
   unfold spec_l19Parts_L0
   rw [decT (by omega),cond_true,idx_gr (by omega) (by omega),some_bind',S.idxS (by omega) (by omega),some_bind',T.idxS (by omega) (by rw [he]; omega),some_bind',some_bind',specMapOf _ _ _ (by omega),some_bind',w64_nat (by omega)]
   rfl
  rw [forb (fun i=>!(fitB m i)) hx (by unfold spec_l19Parts_L0; rw [decF (by omega),cond_false]),any_not]
  cases (ns m.Parts.length).all (fitB m) <;> rfl
 ·rw [bneT (by omega),cond_true,beqF h]; rfl
theorem implFits {m:MSetMap} (hs:SMSmall m) (S:SF m.Source) (T:SF m.Target) (he:m.Target.Shape=m.Source.Shape):impl_SetMap_fits m=some (fitsB m):=by
 have hk:=hs.k
 have hl:=S.sl
 have ho:=S.cat.o8
 unfold impl_SetMap_fits fitsB
 by_cases h:m.Parts.length=m.Source.Sizes.length
 ·rw [bneF (by omega),cond_false,beqT h,Bool.true_and]
  have hx:∀ i:Nat,i < m.Parts.length→impl_SetMap_fits_L0 m (i:Int)=bif !(fitB m i) then some (.ret false) else some (.norm ((i+1:Nat):Int)):=by
   intro i hi
   have hr:=hs.r _ (gr_mem (l:=m.Parts) (j:=(i:Int)) (by omega) (by omega))
   have st:=T.s (i:Int) (by omega) (by rw [he]; omega)
   unfold impl_SetMap_fits_L0
   rw [decT (by omega),cond_true,idx_gr (by omega) (by omega),some_bind',S.idxS (by omega) (by omega),some_bind',T.idxS (by omega) (by rw [he]; omega),some_bind',implMapOf _ _ _ (by omega) (by omega) (by omega),some_bind',w64_nat (by omega)]
   rfl
  rw [forb (fun i=>!(fitB m i)) hx (by unfold impl_SetMap_fits_L0; rw [decF (by omega),cond_false]),any_not]
  cases (ns m.Parts.length).all (fitB m) <;> rfl
 ·rw [bneT (by omega),cond_true,beqF h]; rfl
theorem specBetween {f g:MSetFunctor} (hf:SFSmall f) (hg:SFSmall g):spec_l19Between f g=some (sfB f && (sfB g && sameB f.Shape g.Shape)):=by
 unfold spec_l19Between
 rw [specIsF hf,some_bind',specIsF hg,some_bind',specSameCat hf.c,some_bind',cond_some,cond_and,cond_some,cond_and]; rfl
theorem specShapeM {m:MSetMap} (hs:SMSmall m):(spec_l19Between m.Source m.Target>>=fun y=>(bif !y then some true else (spec_l19Parts m.Source m.Target m.Parts>>=fun z=>some (!z))))=some (!smShapeB m):=by
 rw [specBetween hs.s hs.t,some_bind']
 unfold smShapeB
 cases h1:sfB m.Source with
 | false=>rfl
 | true=>
  cases h2:sfB m.Target with
  | false=>rfl
  | true=>
   cases h3:sameB m.Source.Shape m.Target.Shape with
   | false=>rfl
   | true=>
    rw [specFits hs (sf_of h1) (sf_of h2) (sameB_eq.1 h3).symm]
    simp only [Bool.true_and,Bool.not_true,cond_false,some_bind']
theorem implShapeM {m:MSetMap} (hs:SMSmall m):impl_SetMap_isShape m=some (smShapeB m):=by
 unfold impl_SetMap_isShape smShapeB
 rw [implAreF _ (by simp) (by intro f hf; simp at hf; rcases hf with rfl | rfl; exact hs.s; exact hs.t),some_bind']
 simp only [List.all_cons,List.all_nil,Bool.and_true]
 cases h1:sfB m.Source with
 | false=>rfl
 | true=>
  cases h2:sfB m.Target with
  | false=>rfl
  | true=>
   simp only [Bool.true_and,cond_true]
   rw [implSameCat hs.s.c,some_bind']
   cases h3:sameB m.Source.Shape m.Target.Shape with
   | false=>rfl
   | true=>
    rw [implFits hs (sf_of h1) (sf_of h2) (sameB_eq.1 h3).symm]; rfl
theorem natF {m:MSetMap} {k1 k2 n:Nat} {A0:Int→Option (Out Int (Int×Int))} {A1:Int→Int→Option (Out Int (Int×Int))} {z:Int×Int} (hz:z.1 < 0) (hn:n=m.Source.Shape.From.length)
  (a1:∀ a e:Nat,a < n→e < (gi m.Source.Sizes (gi m.Source.Shape.From a)).toNat→A1 a e=bif gi (gr m.Parts (gi m.Source.Shape.To a)) (gi (gr m.Source.Actions a) e) != gi (gr m.Target.Actions a) (gi (gr m.Parts (gi m.Source.Shape.From a)) e) then some (.ret ((a:Int),(e:Int))) else some (.norm ((e+1:Nat):Int)))
  (a2:∀ a:Nat,a < n→A1 a ((gi m.Source.Sizes (gi m.Source.Shape.From a)).toNat:Int)=some (.exit k2 ((gi m.Source.Sizes (gi m.Source.Shape.From a)).toNat:Int)))
  (a0:∀ a:Nat,a < n→A0 a=lbind (blockM k2 (loopM (A1 a) (0:Int))) fun _=>some (.norm ((a+1:Nat):Int)))
  (a3:A0 n=some (.exit k1 (n:Int))) :
  ∃ y,retM (S:=Unit) (lbind (blockM k1 (loopM A0 (0:Int))) fun _=>some (.ret z))=some y∧decide (y.1 < 0) = !((ns m.Source.Shape.From.length).any (natBad m)):=by
 have hA:∀ a:Nat,a < n→(natBad m a=false∧A0 a=some (.norm ((a+1:Nat):Int)))∨(natBad m a=true∧∃ y,A0 a=some (.ret y)∧0≤y.1):=by
  intro a ha
  rw [a0 a ha]
  refine forg (n:=(gi m.Source.Sizes (gi m.Source.Shape.From a)).toNat) (fun e=>gi (gr m.Parts (gi m.Source.Shape.To a)) (gi (gr m.Source.Actions a) e) != gi (gr m.Target.Actions a) (gi (gr m.Parts (gi m.Source.Shape.From a)) e)) (fun y:Int×Int=>0≤y.1) ?_ (a2 a ha)
  intro e he
  rw [a1 a e ha he]
  cases gi (gr m.Parts (gi m.Source.Shape.To a)) (gi (gr m.Source.Actions a) e) != gi (gr m.Target.Actions a) (gi (gr m.Parts (gi m.Source.Shape.From a)) e) with
  | true=>exact .inr ⟨rfl,_,rfl,by show (0:Int)≤(a:Int); omega⟩
  | false=>exact .inl ⟨rfl,rfl⟩
 rw [← hn]
 rcases forg (S:=Unit) (f:=fun _=>some (.ret z)) (n:=n) (natBad m) (fun y:Int×Int=>0≤y.1) hA a3 with ⟨h1,h2⟩ | ⟨h1,y,h2,h3⟩
 ·rw [h1,h2]
  exact ⟨z,rfl,decT hz⟩
 ·rw [h1,h2]
  exact ⟨y,rfl,decF (by omega)⟩
theorem specNat {m:MSetMap} (H:SMShape m):∃ y,spec_l19Unnatural m.Source m.Target m.Parts=some y∧decide (y.1 < 0) = !((ns m.Source.Shape.From.length).any (natBad m)):=by
 have hA:=H.src.al
 have hm:=H.src.cat.m
 have hT:=congrArg (fun c:MCategory=>c.From.length) H.same
 unfold spec_l19Unnatural
 refine natF (k2:=2) (n:=m.Source.Shape.From.length) (A1:=fun a=>spec_l19Unnatural_L1 m.Source m.Target m.Parts a (gi m.Source.Shape.From a) (gi m.Source.Shape.To a)) (by decide) rfl ?_ ?_ ?_ ?_
 ·intro a e ha he
  have hf:=H.src.cat.fr (f:=(a:Int)) (by omega) (by omega)
  have ht:=H.src.cat.to (f:=(a:Int)) (by omega) (by omega)
  have hs:=H.src.s _ hf.1 hf.2
  have hi:=H.src.img (a:=(a:Int)) (e:=(e:Int)) (by omega) (by omega) (by omega) (by omega)
  have hp:=H.img (x:=gi m.Source.Shape.From a) (e:=(e:Int)) hf.1 hf.2 (by omega) (by omega)
  have hTa:(a:Int) < m.Target.Shape.From.length:=by omega
  have hTf:gi m.Target.Shape.From a=gi m.Source.Shape.From a:=by rw [H.same]
  show spec_l19Unnatural_L1 m.Source m.Target m.Parts a (gi m.Source.Shape.From a) (gi m.Source.Shape.To a) e=_
  unfold spec_l19Unnatural_L1
  rw [H.src.idxS hf.1 hf.2,some_bind',decT (by omega),cond_true,H.idxP ht.1 ht.2,some_bind',H.src.idxA (by omega) (by omega),some_bind',H.src.at_ (by omega) (by omega) (by omega) (by omega),some_bind',H.at_ ht.1 ht.2 hi.1 hi.2,some_bind',
   H.tgt.idxA (by omega) hTa,some_bind',H.idxP hf.1 hf.2,some_bind',H.at_ hf.1 hf.2 (by omega) (by omega),some_bind',H.tgt.at_ (by omega) hTa hp.1 (by rw [hTf]; exact hp.2),some_bind',w64_nat (by omega)]
 ·intro a ha
  have hf:=H.src.cat.fr (f:=(a:Int)) (by omega) (by omega)
  have hs:=H.src.s _ hf.1 hf.2
  show spec_l19Unnatural_L1 m.Source m.Target m.Parts a (gi m.Source.Shape.From a) (gi m.Source.Shape.To a) _=_
  unfold spec_l19Unnatural_L1
  rw [H.src.idxS hf.1 hf.2,some_bind',decF (by omega),cond_false]
 ·intro a ha
  unfold spec_l19Unnatural_L0
  rw [decT (by omega),cond_true,H.src.cat.idxF (by omega) (by omega),some_bind',H.src.cat.idxT (by omega) (by omega),some_bind',w64_nat (by omega)]
 ·unfold spec_l19Unnatural_L0
  rw [decF (by omega),cond_false]
theorem implNat {m:MSetMap} (H:SMShape m):∃ y,impl_SetMap_unnatural m=some y∧decide (y.1 < 0) = !((ns m.Source.Shape.From.length).any (natBad m)):=by
 have hA:=H.src.al
 have hm:=H.src.cat.m
 have hT:=congrArg (fun c:MCategory=>c.From.length) H.same
 unfold impl_SetMap_unnatural
 refine natF (k2:=2) (n:=m.Source.Shape.From.length) (A1:=fun a=>impl_SetMap_unnatural_L1 m a (gr m.Source.Actions a)) (by decide) rfl ?_ ?_ ?_ ?_
 ·intro a e ha he
  have hf:=H.src.cat.fr (f:=(a:Int)) (by omega) (by omega)
  have ht:=H.src.cat.to (f:=(a:Int)) (by omega) (by omega)
  have hs:=H.src.s _ hf.1 hf.2
  have hi:=H.src.img (a:=(a:Int)) (e:=(e:Int)) (by omega) (by omega) (by omega) (by omega)
  have hp:=H.img (x:=gi m.Source.Shape.From a) (e:=(e:Int)) hf.1 hf.2 (by omega) (by omega)
  have hr:=H.src.row (a:=(a:Int)) (by omega) (by omega)
  have hTa:(a:Int) < m.Target.Shape.From.length:=by omega
  have hTf:gi m.Target.Shape.From a=gi m.Source.Shape.From a:=by rw [H.same]
  show impl_SetMap_unnatural_L1 m a (gr m.Source.Actions a) e=_
  unfold impl_SetMap_unnatural_L1
  rw [decT (by omega),cond_true,H.src.at_ (by omega) (by omega) (by omega) (by omega),some_bind',H.src.cat.idxT (by omega) (by omega),some_bind',H.idxP ht.1 ht.2,some_bind',H.at_ ht.1 ht.2 hi.1 hi.2,some_bind',
   H.tgt.idxA (by omega) hTa,some_bind',H.src.cat.idxF (by omega) (by omega),some_bind',H.idxP hf.1 hf.2,some_bind',H.at_ hf.1 hf.2 (by omega) (by omega),some_bind',H.tgt.at_ (by omega) hTa hp.1 (by rw [hTf]; exact hp.2),some_bind',w64_nat (by omega)]
 ·intro a ha
  have hr:=H.src.row (a:=(a:Int)) (by omega) (by omega)
  show impl_SetMap_unnatural_L1 m a (gr m.Source.Actions a) _=_
  unfold impl_SetMap_unnatural_L1
  rw [decF (by omega),cond_false]
 ·intro a ha
  unfold impl_SetMap_unnatural_L0
  rw [decT (by omega),cond_true,H.src.idxA (by omega) (by omega),some_bind',w64_nat (by omega)]
 ·unfold impl_SetMap_unnatural_L0
  rw [decF (by omega),cond_false]
structure SM (m:MSetMap):Prop extends SMShape m where
 nat:∀ a e:Int,0≤a→a < m.Source.Shape.From.length→0≤e→e < gi m.Source.Sizes (gi m.Source.Shape.From a)→gi (gr m.Parts (gi m.Source.Shape.To a)) (gi (gr m.Source.Actions a) e)=gi (gr m.Target.Actions a) (gi (gr m.Parts (gi m.Source.Shape.From a)) e)
theorem sm_of {m:MSetMap} (h:smB m=true):SM m:=by
 unfold smB at h
 rw [Bool.and_eq_true,Bool.not_eq_true',ns_any_false] at h
 refine ⟨smShape_of h.1,fun a e a0 a1 e0 e1=>?_⟩
 have:=h.2 a a0 a1
 unfold natBad at this
 rw [ns_any_false] at this
 have:=this e e0 (by omega)
 simpa using this
theorem specIsM {m:MSetMap} (hs:SMSmall m):spec_l19IsMap m=some (smB m):=by
 unfold spec_l19IsMap
 rw [specShapeM hs,some_bind']
 unfold smB
 cases h:smShapeB m with
 | false=>rfl
 | true=>
  obtain ⟨y,h1,h2⟩:=specNat (smShape_of h)
  rw [Bool.not_true,cond_false,h1,some_bind',h2]; rfl
theorem implIsM {m:MSetMap} (hs:SMSmall m):impl_SetMap_isNatural m=some (smB m):=by
 unfold impl_SetMap_isNatural
 rw [implShapeM hs,some_bind']
 unfold smB
 cases h:smShapeB m with
 | false=>rfl
 | true=>
  obtain ⟨y,h1,h2⟩:=implNat (smShape_of h)
  rw [Bool.not_true,cond_false,h1,some_bind',h2]; rfl
def thenS (a b:List Int):List Int:=mapI a.length fun i=>gi b (gi a i)
theorem implThen (a b:List Int) (ha:a.length≤1048576) (hb:∀ x∈a,0≤x∧x < b.length):impl_then a b=some (thenS a b):=by
 unfold impl_then
 rw [mk_ok (by omega) (by omega),some_bind']
 have hl:(thenS a b).length=a.length:=mapI_length _ _
 refine (congrArg retM (for_all (ns a.length) (fun i=>((i:Int),(thenS a b).take i++List.replicate (a.length - i) (0:Int))) (by simp) ?_ (e:=((a.length:Int),thenS a b)) ?_)).trans rfl
 ·intro i x hx
  obtain ⟨rfl,hi⟩:=ns_get hx
  have hg:(thenS a b)[i]? = some (gi b (gi a i)):=mapI_get _ hi
  have hm:=hb _ (gi_mem (l:=a) (j:=(i:Int)) (by omega) (by omega))
  have hc:=set_copy (thenS a b) (0:Int) hg
  have hgc:=get_copy (thenS a b) (0:Int) hg
  rw [hl] at hc hgc
  show impl_then_L0 a b (i:Int) _=_
  unfold impl_then_L0
  rw [decT (by omega),cond_true,idx_gi (by omega) (by omega),some_bind',idx_gi hm.1 hm.2,some_bind',idx_nat,hgc,some_bind',w64_nat (by omega),Int.toNat_natCast,hc]
 ·rw [ns_length]
  show impl_then_L0 a b _ _=_
  unfold impl_then_L0
  rw [decF (by omega),cond_false,Nat.sub_self,List.take_of_length_le (by omega)]
  simp
end Go.Proofs.YtjfahghkjblgjaaGreat
