/- Set functors and natural maps between them: copies, equality, marks. No condition beside those that each theorem names. -/
import Derived.Test.YtkhdhnpokfibjaaGreatPk
import Derived.Test.YtkhdhnpokfibjaaGreatRa
namespace Go.Proofs.YtkhdhnpokfibjaaGreat
open Go Go.Li
section
variable {c:aI} (H:Cat c)
include H
end
end Go.Proofs.YtkhdhnpokfibjaaGreat
namespace Go.Proofs.YtkhdhnpokfibjaaGreat
open Go Go.Li
def sameB (c d:aI):Bool:=c.aD == d.aD && (c.aG == d.aG && (c.To == d.To && (c.aJ == d.aJ && c.aF == d.aF)))
theorem sameB_eq {c d:aI}:sameB c d=true↔c=d:=by
 unfold sameB
 simp only [Bool.and_eq_true,beq_iff_eq]
 constructor
 ·rintro ⟨h1,h2,h3,h4,h5⟩
  cases c; cases d
  dsimp only at h1 h2 h3 h4 h5
  rw [h1,h2,h3,h4,h5]
 ·rintro rfl; exact ⟨rfl,rfl,rfl,rfl,rfl⟩
theorem specSameCat {c d:aI} (h:CatSmall c):kH c d=some (sameB c d):=by
 obtain ⟨h1,h2,h3,h4,h5⟩:=h
 have e5:pM c.aF d.aF=some (c.aF == d.aF):=eqMM_ok _ _ (by omega) (fun z hz=>by have:=h5 z hz; omega)
 unfold kH sameB
 cases c.aD == d.aD with
 | false=>rfl
 | true=>
  rw [cond_true,specSame _ _ (by omega),aH]
  cases c.aG == d.aG with
  | false=>rfl
  | true=>
   rw [cond_true,specSame _ _ (by omega),aH]
   cases c.To == d.To with
   | false=>rfl
   | true=>
    rw [cond_true,specSame _ _ (by omega),aH]
    cases c.aJ == d.aJ with
    | false=>rfl
    | true=>rw [cond_true,e5]; rfl
theorem zip_same:∀ {x y:List (List Int)},x.length=y.length→(x == y) = !((x.zip y).any fun z=>!(z.1 == z.2)):=by
 intro x
 induction x with
 | nil=>intro y h; cases y with
  | nil=>rfl
  | cons b y=>simp at h
 | cons a x ih=>
  intro y h
  cases y with
  | nil=>simp at h
  | cons b y=>
   have h':x.length=y.length:=by simpa using h
   rw [List.zip_cons_cons,List.any_cons,Bool.not_or,Bool.not_not,← ih h']; rfl
theorem implSameCat {c d:aI} (h:CatSmall c):fC c d=some (sameB c d):=by
 obtain ⟨h1,h2,h3,h4,h5⟩:=h
 unfold fC sameB
 cases e1:c.aD == d.aD with
 | false=>rw [show (c.aD != d.aD)=true by unfold bne; rw [e1]; rfl]; rfl
 | true=>
  rw [show (c.aD != d.aD)=false by unfold bne; rw [e1]; rfl,cond_false,implSame _ _ (by omega),aH]
  cases c.aG == d.aG with
  | false=>rfl
  | true=>
   rw [Bool.not_true,cond_false,implSame _ _ (by omega),aH]
   cases c.To == d.To with
   | false=>rfl
   | true=>
    rw [Bool.not_true,cond_false,implSame _ _ (by omega),aH]
    cases c.aJ == d.aJ with
    | false=>rfl
    | true=>
     rw [Bool.not_true,cond_false,aH]
     simp only [Bool.true_and]
     by_cases hl:c.aF.length=d.aF.length
     ·rw [bneF (by omega),cond_false,zip_same hl]
      refine (congrArg retM (for_anyb (c.aF.zip d.aF) (fun z=>!(z.1 == z.2)) (fun i=>(i:Int)) rfl ?_ ?_ (e:=((c.aF.zip d.aF).length:Int)) (y:=false) ?_)).trans ?_
      ·intro i z hz hp
       obtain ⟨z1,z2⟩:=z
       obtain ⟨g1,g2⟩:=List.getElem?_zip_eq_some.1 hz
       have hi:=getElem?_lt g1
       have:=h5 _ (List.mem_of_getElem? g1)
       unfold iR
       rw [decT (by omega),cond_true,idx_nat,g1,aH,idx_nat,g2,aH,implSame _ _ (by omega),aH]
       rw [show (!(z1 == z2))=false from hp,cond_false,cP (by omega)]
      ·intro i z hz hp
       obtain ⟨z1,z2⟩:=z
       obtain ⟨g1,g2⟩:=List.getElem?_zip_eq_some.1 hz
       have hi:=getElem?_lt g1
       have:=h5 _ (List.mem_of_getElem? g1)
       unfold iR
       rw [decT (by omega),cond_true,idx_nat,g1,aH,idx_nat,g2,aH,implSame _ _ (by omega),aH]
       rw [show (!(z1 == z2))=true from hp,cond_true]
      ·unfold iR
       rw [List.length_zip,← hl,Nat.min_self,decF (by omega),cond_false]
      ·cases (c.aF.zip d.aF).any fun z=>!(z.1 == z.2) <;> rfl
     ·rw [bneT (by omega)]
      have:(c.aF == d.aF)=false:=beqF fun h=>hl (by rw [h])
      rw [this]; rfl
end Go.Proofs.YtkhdhnpokfibjaaGreat
namespace Go.Proofs.YtkhdhnpokfibjaaGreat
open Go Go.Li
theorem forb {S R:Type} {body:Int→Option (Out Int R)} {k:Nat} {f:Int→Option (Out S R)} {n:Nat} (p:Int→Bool) {y:R}
  (h:∀ i:Nat,i < n→body (i:Int)=bif p i then some (.ret y) else some (.norm ((i+1:Nat):Int))) (last:body (n:Int)=some (.exit k (n:Int))) :
  lbind (blockM k (loopM body (0:Int))) f=bif (ns n).any p then some (.ret y) else f n:=by
 refine (for_anyb (ns n) p (fun i=>(i:Int)) rfl ?_ ?_ (e:=(n:Int)) (y:=y) ?_).trans ?_
 ·intro i x hx hp; obtain ⟨rfl,hi⟩:=ns_get hx; rw [h i hi,hp]; rfl
 ·intro i x hx hp; obtain ⟨rfl,hi⟩:=ns_get hx; rw [h i hi,hp]; rfl
 ·rw [fB]; exact last
 ·cases (ns n).any p <;> rfl
theorem forg {S R:Type} {body:Int→Option (Out Int R)} {k:Nat} {f:Int→Option (Out S R)} {n:Nat} (p:Int→Bool) (G:R→Prop)
  (h:∀ i:Nat,i < n→(p i=false∧body (i:Int)=some (.norm ((i+1:Nat):Int)))∨(p i=true∧∃ y,body (i:Int)=some (.ret y)∧G y)) (last:body (n:Int)=some (.exit k (n:Int))) :
  ((ns n).any p=false∧lbind (blockM k (loopM body (0:Int))) f=f n)∨((ns n).any p=true∧∃ y,lbind (blockM k (loopM body (0:Int))) f=some (.ret y)∧G y):=by
 refine (for_anyg (ns n) p G (fun i=>(i:Int)) rfl ?_ ?_ (e:=(n:Int)) (by rw [fB]; exact last)).elim (fun h=>.inr h) (fun h=>.inl h)
 ·intro i x hx hp
  obtain ⟨rfl,hi⟩:=ns_get hx
  rcases h i hi with ⟨_,h⟩ | ⟨h,_⟩
  ·exact h
  ·rw [hp] at h; cases h
 ·intro i x hx hp
  obtain ⟨rfl,hi⟩:=ns_get hx
  rcases h i hi with ⟨h,_⟩ | ⟨_,h⟩
  ·rw [hp] at h; cases h
  ·exact h
theorem cond_some {α:Type} {b:Bool} {x y:α}:(bif b then some x else some y)=some (bif b then x else y):=by cases b <;> rfl
theorem cond_or {a b:Bool}:(bif a then true else b)=(a || b):=by cases a <;> rfl
theorem cond_and {a b:Bool}:(bif a then b else false)=(a && b):=by cases a <;> rfl
theorem ns_any_false {n:Nat} {p:Int→Bool}:(ns n).any p=false↔∀ i:Int,0≤i→i < n→p i=false:=by
 rw [List.any_eq_false]
 exact ⟨fun h i h0 h1=>by simpa using h i (ns_mem.2 ⟨h0,h1⟩),fun h i hi=>by simp [h i (ns_mem.1 hi).1 (ns_mem.1 hi).2]⟩
namespace SFHead
end SFHead
end Go.Proofs.YtkhdhnpokfibjaaGreat
namespace Go.Proofs.YtkhdhnpokfibjaaGreat
open Go Go.Li
namespace SFShape
end SFShape
end Go.Proofs.YtkhdhnpokfibjaaGreat
namespace Go.Proofs.YtkhdhnpokfibjaaGreat
open Go Go.Li
namespace SMShape
end SMShape
def thenS (a b:List Int):List Int:=mapI a.length fun i=>gi b (gi a i)
theorem implThen (a b:List Int) (ha:a.length≤1048576) (hb:∀ x∈a,0≤x∧x < b.length):iV a b=some (thenS a b):=by
 unfold iV
 rw [mk_ok (by omega) (by omega),aH]
 have hl:(thenS a b).length=a.length:=dP _ _
 refine (congrArg retM (for_all (ns a.length) (fun i=>((i:Int),(thenS a b).take i++List.replicate (a.length - i) (0:Int))) (by simp) ?_ (e:=((a.length:Int),thenS a b)) ?_)).trans rfl
 ·intro i x hx
  obtain ⟨rfl,hi⟩:=ns_get hx
  have hg:(thenS a b)[i]? = some (gi b (gi a i)):=mapI_get _ hi
  have hm:=hb _ (gi_mem (l:=a) (j:=(i:Int)) (by omega) (by omega))
  have hc:=set_copy (thenS a b) (0:Int) hg
  have hgc:=get_copy (thenS a b) (0:Int) hg
  rw [hl] at hc hgc
  show lW a b (i:Int) _=_
  unfold lW
  rw [decT (by omega),cond_true,cU (by omega) (by omega),aH,cU hm.1 hm.2,aH,idx_nat,hgc,aH,cP (by omega),Int.toNat_natCast,hc]
 ·rw [fB]
  show lW a b _ _=_
  unfold lW
  rw [decF (by omega),cond_false,Nat.sub_self,List.take_of_length_le (by omega)]
  simp
end Go.Proofs.YtkhdhnpokfibjaaGreat
