/- Natural maps composed: the program and the reference agree, composites of natural maps are natural, identities are units. No condition beside those that each theorem names. -/
import Derived.Test.YtjfahghkjblgjaaGreatRu
import Derived.Test.YtjfahghkjblgjaaGreatVm
import Derived.Test.YtjfahghkjblgjaaGreatVj
namespace Go.Proofs.YtjfahghkjblgjaaGreat
open Go Go.Li
theorem likeI (x y:List Int) (hx:x.length≤1048576000):laws_likeInts x y=some (x == y):=eqM_ok x y hx
theorem same2I (x y:List (List Int)) (hx:x.length≤1048576000) (hr:∀ z∈x,z.length≤1048576000):laws_same29 x y=some (x == y):=eqMM_ok x y hx hr
theorem same9C {c:MCategory} (h:CatSmall c):laws_sameCat9 c c=some true:=by
 unfold laws_sameCat9
 have h1:=h.f
 have h2:=h.t
 have h3:=h.i
 have h4:=h.k
 rw [show (c.Objects == c.Objects)=true by simp,cond_true,likeI _ _ (by omega),some_bind',beq_self_eq_true,cond_true,likeI _ _ (by omega),some_bind',beq_self_eq_true,cond_true,likeI _ _ (by omega),some_bind',beq_self_eq_true,cond_true,same2I _ _ (by omega) (fun z hz=>by have:=h.r z hz; omega),some_bind',beq_self_eq_true]
 rfl
theorem same9F {f:MSetFunctor} (h:SFSmall f):laws_sameSets9 f f=some true:=by
 unfold laws_sameSets9
 have h1:=h.s
 have h2:=h.k
 rw [same9C h.c,some_bind',cond_true,likeI _ _ (by omega),some_bind',beq_self_eq_true,cond_true,same2I _ _ (by omega) (fun z hz=>by have:=h.r z hz; omega),some_bind',beq_self_eq_true]
 rfl
theorem same9M {m:MSetMap} (h:SMSmall m):laws_sameMap9 m m=some true:=by
 unfold laws_sameMap9
 have h1:=h.k
 rw [same9F h.s,some_bind',cond_true,same9F h.t,some_bind',cond_true,same2I _ _ (by omega) (fun z hz=>by have:=h.r z hz; omega),some_bind',beq_self_eq_true]
 rfl
theorem specThen (a b:List Int) (ha:a.length≤1048576) (hb:∀ x∈a,0≤x∧x < b.length):spec_l01Then a b=some (thenS a b):=by
 unfold spec_l01Then
 refine (congrArg retM (map_loop a.length (fun i=>gi b (gi a i)) (fun acc i=>(acc,(i:Int))) rfl ?_ ?_)).trans rfl
 ·intro i acc hi hacc
  have hm:=hb _ (gi_mem (l:=a) (j:=(i:Int)) (by omega) (by omega))
  show spec_l01Then_L0 a b acc i=_
  unfold spec_l01Then_L0
  rw [decT (by omega),cond_true,idx_gi (by omega) (by omega),some_bind',idx_gi hm.1 hm.2,some_bind',fits_ok (by omega) (by omega),some_bind',w64_nat (by omega)]
 ·intro acc _
  show spec_l01Then_L0 a b acc _=_
  unfold spec_l01Then_L0
  rw [decF (by omega),cond_false]
def thenP (s t:List (List Int)):List (List Int):=mapI s.length fun x=>thenS (gr s x) (gr t x)
theorem thens {s t:List (List Int)} (hl:t.length=s.length) (h:s.length≤1048576) (hr:∀ x:Int,0≤x→x < s.length→(gr s x).length≤1048576∧∀ y∈gr s x,0≤y∧y < (gr t x).length):impl_thenParts s t=some (thenP s t)∧spec_l19Then s t=some (thenP s t):=by
 constructor
 ·unfold impl_thenParts
  refine (congrArg retM (map_loop s.length (fun x=>thenS (gr s x) (gr t x)) (fun acc i=>(acc,(i:Int))) rfl ?_ ?_)).trans rfl
  ·intro i acc hi hacc
   have hm:=hr i (by omega) (by omega)
   show impl_thenParts_L0 s t acc i=_
   unfold impl_thenParts_L0
   rw [decT (by omega),cond_true,idx_gr (by omega) (by omega),some_bind',idx_gr (by omega) (by omega),some_bind',implThen _ _ hm.1 hm.2,some_bind',fits_ok (by omega) (by omega),some_bind',w64_nat (by omega)]
  ·intro acc _
   show impl_thenParts_L0 s t acc _=_
   unfold impl_thenParts_L0
   rw [decF (by omega),cond_false]
 ·unfold spec_l19Then
  refine (congrArg retM (map_loop s.length (fun x=>thenS (gr s x) (gr t x)) (fun acc i=>(acc,(i:Int))) rfl ?_ ?_)).trans rfl
  ·intro i acc hi hacc
   have hm:=hr i (by omega) (by omega)
   show spec_l19Then_L0 s t acc i=_
   unfold spec_l19Then_L0
   rw [decT (by omega),cond_true,idx_gr (by omega) (by omega),some_bind',idx_gr (by omega) (by omega),some_bind',specThen _ _ hm.1 hm.2,some_bind',fits_ok (by omega) (by omega),some_bind',w64_nat (by omega)]
  ·intro acc _
   show spec_l19Then_L0 s t acc _=_
   unfold spec_l19Then_L0
   rw [decF (by omega),cond_false]
def zeroSM:MSetMap:=MSetMap.mk (MSetFunctor.mk (MCategory.mk 0 [] [] [] []) [] []) (MSetFunctor.mk (MCategory.mk 0 [] [] [] []) [] []) []
theorem zeroSM_small:SMSmall zeroSM:=⟨⟨⟨by simp [zeroSM],by simp [zeroSM],by simp [zeroSM],by simp [zeroSM],by simp [zeroSM]⟩,by simp [zeroSM],by simp [zeroSM],by simp [zeroSM]⟩,⟨⟨by simp [zeroSM],by simp [zeroSM],by simp [zeroSM],by simp [zeroSM],by simp [zeroSM]⟩,by simp [zeroSM],by simp [zeroSM],by simp [zeroSM]⟩,by simp [zeroSM],by simp [zeroSM]⟩
theorem implAreM {s t:MSetMap} (hs:SMSmall s) (ht:SMSmall t):impl_areSetMaps [s,t]=some (smB s && smB t):=by
 unfold impl_areSetMaps
 refine (congrArg retM (for_anyb [s,t] (fun f=>!smB f) (fun i=>(i:Int)) rfl ?_ ?_ (e:=(2:Int)) (y:=false) ?_)).trans ?_
 ·intro i x hx hp
  have hi:=getElem?_lt hx
  have hm:SMSmall x:=by rcases List.mem_cons.1 (List.mem_of_getElem? hx) with rfl | h; exact hs; rw [List.mem_singleton.1 h]; exact ht
  simp only [List.length_cons,List.length_nil] at hi
  unfold impl_areSetMaps_L0
  rw [decT (by simp only [List.length_cons,List.length_nil]; omega),cond_true,idx_nat,hx,some_bind',implIsM hm,some_bind',show (!smB x)=false from hp,cond_false,w64_nat (by omega)]
 ·intro i x hx hp
  have hi:=getElem?_lt hx
  have hm:SMSmall x:=by rcases List.mem_cons.1 (List.mem_of_getElem? hx) with rfl | h; exact hs; rw [List.mem_singleton.1 h]; exact ht
  simp only [List.length_cons,List.length_nil] at hi
  unfold impl_areSetMaps_L0
  rw [decT (by simp only [List.length_cons,List.length_nil]; omega),cond_true,idx_nat,hx,some_bind',implIsM hm,some_bind',show (!smB x)=true from hp,cond_true]
 ·unfold impl_areSetMaps_L0
  rw [decF (by simp only [List.length_cons,List.length_nil]; omega),cond_false]; rfl
 ·simp only [List.any_cons,List.any_nil,Bool.or_false]
  cases smB s <;> cases smB t <;> rfl
def thenR (s t:MSetMap):MSetMap×Int:=
 if smB s && smB t then (if sameFB s.Target t.Source then (MSetMap.mk s.Source t.Target (thenP s.Parts t.Parts),0) else (zeroSM,5)) else (zeroSM,1)
theorem SM.len {m:MSetMap} (M:SM m):m.Parts.length≤8:=by
 have:=M.pl
 have:=M.src.cat.o8
 omega
theorem thenP_row {s t:List (List Int)} {x:Int} (h0:0≤x) (h1:x < s.length):gr (thenP s t) x=thenS (gr s x) (gr t x):=by
 obtain ⟨n,rfl⟩ : ∃ n:Nat,x=n:=⟨x.toNat,by omega⟩
 unfold thenP
 have:=mapI_get (fun x=>thenS (gr s x) (gr t x)) (i:=n) (n:=s.length) (by omega)
 unfold gr at this ⊢
 rw [List.getD_eq_getElem?_getD,show ((n:Int)).toNat=n from rfl,this]; rfl
theorem thenS_at {a b:List Int} {e:Int} (h0:0≤e) (h1:e < a.length):gi (thenS a b) e=gi b (gi a e):=gi_mapI h0 h1
theorem thenS_mem {a b:List Int} {y n:Int} (hb:∀ x∈a,0≤x∧x < b.length) (hn:∀ z∈b,0≤z∧z < n) (hy:y∈thenS a b):0≤y∧y < n:=by
 obtain ⟨i,hi,rfl⟩:=mapI_mem.1 hy
 have h:=hb _ (gi_mem hi.1 hi.2)
 exact hn _ (gi_mem h.1 h.2)
section
variable {s t:MSetMap} (S:SM s) (T:SM t) (E:s.Target=t.Source)
include S T E
theorem then_fit:t.Parts.length=s.Parts.length∧s.Parts.length≤1048576∧∀ x:Int,0≤x→x < s.Parts.length→(gr s.Parts x).length≤1048576∧∀ y∈gr s.Parts x,0≤y∧y < (gr t.Parts x).length:=by
 have h1:=S.pl
 have h2:=T.pl
 have h3:=S.len
 have e:t.Source.Shape=s.Source.Shape:=by rw [← E]; exact S.same
 rw [e] at h2
 refine ⟨by omega,by omega,fun x x0 x1=>?_⟩
 have p:=S.part x x0 (by omega)
 have q:=T.part x x0 (by rw [e]; omega)
 have hs:=S.src.s x x0 (by omega)
 refine ⟨by omega,fun y hy=>?_⟩
 have:=p.2 y hy
 rw [E] at this
 omega
theorem then_small (hs:SMSmall s) (ht:SMSmall t):SMSmall (MSetMap.mk s.Source t.Target (thenP s.Parts t.Parts)):=by
 have h3:=S.len
 have _:=T
 have _:=E
 refine ⟨hs.s,ht.t,by dsimp only; unfold thenP; rw [mapI_length]; omega,fun y hy=>?_⟩
 obtain ⟨x,hx,rfl⟩:=mapI_mem.1 hy
 unfold thenS
 rw [mapI_length]
 exact hs.r _ (gr_mem hx.1 hx.2)
theorem then_nat (hs:sfB s.Source=true) (ht:sfB t.Target=true):smB (MSetMap.mk s.Source t.Target (thenP s.Parts t.Parts))=true:=by
 have F:=then_fit S T E
 have hsl:=S.src.sl
 have h1:=S.pl
 have e:t.Source.Shape=s.Source.Shape:=by rw [← E]; exact S.same
 have row:∀ x:Int,0≤x→x < s.Source.Shape.Objects→gr (thenP s.Parts t.Parts) x=thenS (gr s.Parts x) (gr t.Parts x):=fun x x0 x1=>thenP_row x0 (by omega)
 unfold smB smShapeB fitsB
 dsimp only
 rw [hs,ht,Bool.true_and,Bool.true_and,sameB_eq.2 (show s.Source.Shape=t.Target.Shape by rw [T.same,e]),Bool.true_and,Bool.and_eq_true,Bool.and_eq_true]
 refine ⟨⟨?_,?_⟩,?_⟩
 ·unfold thenP; rw [mapI_length,beq_iff_eq]; omega
 ·rw [List.all_eq_true]
  intro x hx
  obtain ⟨x0,x1⟩:=ns_mem.1 hx
  unfold thenP at x1
  rw [mapI_length] at x1
  unfold fitB
  dsimp only
  rw [row x x0 (by omega),mapB_iff]
  have p:=S.part x x0 (by omega)
  have q:=T.part x x0 (by rw [e]; omega)
  refine ⟨by unfold thenS; rw [mapI_length]; exact p.1,fun y hy=>thenS_mem (F.2.2 x x0 x1).2 q.2 hy⟩
 ·rw [Bool.not_eq_true',ns_any_false]
  intro a a0 a1
  unfold natBad
  dsimp only
  rw [ns_any_false]
  intro i i0 i1
  have hf:=S.src.cat.fr a0 a1
  have ht':=S.src.cat.to a0 a1
  have i1':i < gi s.Source.Sizes (gi s.Source.Shape.From a):=by omega
  have p:=S.part _ hf.1 hf.2
  have pt:=S.part _ ht'.1 ht'.2
  have im:=S.img hf.1 hf.2 i0 i1'
  have act:=S.src.img a0 a1 i0 i1'
  rw [row _ hf.1 hf.2,row _ ht'.1 ht'.2,thenS_at act.1 (by omega),thenS_at i0 (by omega),S.nat a i a0 a1 i0 i1']
  have im2:=im.2
  rw [E] at im2
  have:=T.nat a (gi (gr s.Parts (gi s.Source.Shape.From a)) i) a0 (by rw [e]; exact a1) im.1 (by rw [e]; exact im2)
  rw [e] at this
  rw [E,this]
  simp
end
theorem thenRs {s t:MSetMap} (hs:SMSmall s) (ht:SMSmall t):impl_ThenSetMaps s t=some (thenR s t)∧spec_ThenSetMaps s t=some (thenR s t)∧SMSmall (thenR s t).1:=by
 have hz:MSetMap.mk (MSetFunctor.mk (MCategory.mk ((0:Int)) ([]) ([]) ([]) ([])) ([]) ([])) (MSetFunctor.mk (MCategory.mk ((0:Int)) ([]) ([]) ([]) ([])) ([]) ([])) ([])=zeroSM:=rfl
 unfold impl_ThenSetMaps spec_ThenSetMaps thenR
 rw [implAreM hs ht,specIsM hs,some_bind',some_bind',specIsM ht]
 cases h1:smB s with
 | false=>exact ⟨rfl,rfl,zeroSM_small⟩
 | true=>
  cases h2:smB t with
  | false=>exact ⟨rfl,rfl,zeroSM_small⟩
  | true=>
   simp only [Bool.true_and,Bool.not_true,cond_false,some_bind']
   rw [implSameF hs.t,specSameF hs.t]
   cases h3:sameFB s.Target t.Source with
   | false=>exact ⟨rfl,rfl,zeroSM_small⟩
   | true=>
    have S:=sm_of h1
    have T:=sm_of h2
    have E:=sameFB_eq.1 h3
    have F:=then_fit S T E
    have hp:=then_small S T E hs ht
    obtain ⟨i1,i2⟩:=thens F.1 F.2.1 F.2.2
    simp only [some_bind',Bool.not_true,cond_false,if_true]
    rw [i1,some_bind',implSetMap S.src.cat hs.s ht.t hp.k hp.r,some_bind',i2,some_bind',specSetMap hs.s ht.t hp.k hp.r]
    exact ⟨rfl,rfl,hp⟩
def selfP (f:MSetFunctor):List (List Int):=mapI f.Sizes.length fun x=>ns (gi f.Sizes x).toNat
theorem implNumbers {n:Int} (n0:0≤n) (n1:n≤1048576):impl_numbers n=some (ns n.toNat):=by
 unfold impl_numbers
 obtain ⟨k,rfl⟩ : ∃ k:Nat,n=k:=⟨n.toNat,by omega⟩
 rw [mk_ok (by omega) (by omega),some_bind']
 have hl:(ns k).length=k:=ns_length k
 refine (congrArg retM (for_all (ns k) (fun i=>((i:Int),(ns k).take i++List.replicate (k - i) (0:Int))) (by simp) ?_ (e:=((k:Int),ns k)) ?_)).trans rfl
 ·intro i x hx
  have hx':=hx
  obtain ⟨rfl,hi⟩:=ns_get hx
  have hc:=set_copy (ns k) (0:Int) hx'
  have hgc:=get_copy (ns k) (0:Int) hx'
  rw [hl] at hc hgc
  show impl_numbers_L0 k (i:Int) _=_
  unfold impl_numbers_L0
  rw [decT (by rw [List.length_replicate]; omega),cond_true,idx_nat,hgc,some_bind',w64_nat (by omega),Int.toNat_natCast,hc]
 ·rw [hl]
  show impl_numbers_L0 k _ _=_
  unfold impl_numbers_L0
  rw [decF (by rw [List.length_replicate]; omega),cond_false,Nat.sub_self,List.take_of_length_le (by omega)]
  simp
theorem selfP_small {f:MSetFunctor} (F:SF f):(selfP f).length≤1048576∧∀ y∈selfP f,y.length≤1048576:=by
 have o8:=F.cat.o8
 have sl:=F.sl
 unfold selfP
 refine ⟨by rw [mapI_length]; omega,fun y hy=>?_⟩
 obtain ⟨x,hx,rfl⟩:=mapI_mem.1 hy
 rw [ns_length]
 have:=F.s x hx.1 (by omega)
 omega
theorem implIdentity {f:MSetFunctor} (hs:SFSmall f) (h:sfB f=true):impl_IdentitySetMap f=some (MSetMap.mk f f (selfP f),0):=by
 have F:=sf_of h
 have hp:=selfP_small F
 have o8:=F.cat.o8
 have sl:=F.sl
 unfold impl_IdentitySetMap
 rw [implIsF hs,some_bind',h,Bool.not_true,cond_false]
 refine (congrArg retM (map_loop f.Sizes.length (fun x=>ns (gi f.Sizes x).toNat) (fun acc i=>(acc,(i:Int))) rfl ?_ ?_)).trans ?_
 ·intro i acc hi hacc
  have hm:=F.s (i:Int) (by omega) (by omega)
  show impl_IdentitySetMap_L0 f acc i=_
  unfold impl_IdentitySetMap_L0
  rw [decT (by omega),cond_true,idx_gi (by omega) (by omega),some_bind',implNumbers hm.1 (by omega),some_bind',fits_ok (by omega) (by omega),some_bind',w64_nat (by omega)]
 ·intro acc _
  show impl_IdentitySetMap_L0 f acc _=_
  unfold impl_IdentitySetMap_L0
  rw [decF (by omega),cond_false]
 ·show retM (S:=Unit) (impl_setMap f f (selfP f)>>=_)=_
  rw [implSetMap F.cat hs hs hp.1 hp.2]; rfl
theorem specSelf {f:MSetFunctor} (F:Sh f):spec_l19Self f=some (selfP f):=by
 have o8:=F.cat.o8
 have sl:=F.sl
 unfold spec_l19Self
 refine (congrArg retM (map_loop f.Sizes.length (fun x=>ns (gi f.Sizes x).toNat) (fun acc i=>(acc,(i:Int))) rfl ?_ ?_)).trans rfl
 ·intro i acc hi hacc
  have hm:=F.s (i:Int) (by omega) (by omega)
  show spec_l19Self_L0 f acc i=_
  unfold spec_l19Self_L0
  rw [decT (by omega),cond_true]
  obtain ⟨n,hn⟩ : ∃ n:Nat,gi f.Sizes (i:Int)=n:=⟨(gi f.Sizes (i:Int)).toNat,by omega⟩
  have e:ns (gi f.Sizes (i:Int)).toNat=mapI n fun e=>e:=by rw [hn]; show ns n=(ns n).map _; rw [List.map_id']
  refine (map_loop n (fun e=>e) (fun acc i=>(acc,(i:Int))) rfl ?_ ?_).trans ?_
  ·intro j r hj hr
   show spec_l19Self_L1 f i r j=_
   unfold spec_l19Self_L1
   rw [idx_gi (by omega) (by omega),some_bind',hn,decT (by omega),cond_true,fits_ok (by omega) (by omega),some_bind',w64_nat (by omega)]
  ·intro r _
   show spec_l19Self_L1 f i r _=_
   unfold spec_l19Self_L1
   rw [idx_gi (by omega) (by omega),some_bind',hn,decF (by omega),cond_false]
  ·dsimp only
   rw [fits_ok (by omega) (by omega),some_bind',w64_nat (by omega),e]
 ·intro acc _
  show spec_l19Self_L0 f acc _=_
  unfold spec_l19Self_L0
  rw [decF (by omega),cond_false]
theorem selfP_row {f:MSetFunctor} {x:Int} (h0:0≤x) (h1:x < f.Sizes.length):gr (selfP f) x=ns (gi f.Sizes x).toNat:=by
 obtain ⟨n,rfl⟩ : ∃ n:Nat,x=n:=⟨x.toNat,by omega⟩
 unfold selfP
 have:=mapI_get (fun x=>ns (gi f.Sizes x).toNat) (i:=n) (n:=f.Sizes.length) (by omega)
 unfold gr
 rw [List.getD_eq_getElem?_getD,show ((n:Int)).toNat=n from rfl,this]; rfl
theorem gi_ns {n:Nat} {e:Int} (h0:0≤e) (h1:e < n):gi (ns n) e=e:=by
 have h:=gi_mapI (g:=fun e=>e) h0 h1
 rwa [show mapI n (fun e:Int=>e)=ns n from List.map_id' _] at h
theorem self_nat {f:MSetFunctor} (h:sfB f=true):smB (MSetMap.mk f f (selfP f))=true:=by
 have F:=sf_of h
 have sl:=F.sl
 unfold smB smShapeB fitsB
 dsimp only
 rw [h,Bool.true_and,Bool.true_and,sameB_eq.2 rfl,Bool.true_and,Bool.and_eq_true,Bool.and_eq_true]
 refine ⟨⟨?_,?_⟩,?_⟩
 ·unfold selfP; rw [mapI_length,beq_iff_eq]
 ·rw [List.all_eq_true]
  intro x hx
  obtain ⟨x0,x1⟩:=ns_mem.1 hx
  unfold selfP at x1
  rw [mapI_length] at x1
  have:=F.s x x0 (by omega)
  unfold fitB
  dsimp only
  rw [selfP_row x0 x1,mapB_iff]
  exact ⟨by rw [ns_length]; omega,fun y hy=>by have:=ns_mem.1 hy; omega⟩
 ·rw [Bool.not_eq_true',ns_any_false]
  intro a a0 a1
  unfold natBad
  dsimp only
  rw [ns_any_false]
  intro i i0 i1
  have hf:=F.cat.fr a0 a1
  have ht:=F.cat.to a0 a1
  have i1':i < gi f.Sizes (gi f.Shape.From a):=by omega
  have act:=F.img a0 a1 i0 i1'
  rw [selfP_row hf.1 (by omega),selfP_row ht.1 (by omega),gi_ns i0 (by omega),gi_ns act.1 (by omega)]
  simp
theorem gr_ext {a b:List (List Int)} (hl:a.length=b.length) (h:∀ x:Int,0≤x→x < b.length→gr a x=gr b x):a=b:=by
 refine List.ext_getElem hl fun i h1 h2=>?_
 have:=h i (by omega) (by omega)
 unfold gr at this
 rw [List.getD_eq_getElem?_getD,List.getD_eq_getElem?_getD,show ((i:Int)).toNat=i from rfl,List.getElem?_eq_getElem h1,List.getElem?_eq_getElem h2] at this
 exact this
theorem gi_ext {a b:List Int} (hl:a.length=b.length) (h:∀ x:Int,0≤x→x < b.length→gi a x=gi b x):a=b:=by
 refine List.ext_getElem hl fun i h1 h2=>?_
 have:=h i (by omega) (by omega)
 unfold gi at this
 rw [List.getD_eq_getElem?_getD,List.getD_eq_getElem?_getD,show ((i:Int)).toNat=i from rfl,List.getElem?_eq_getElem h1,List.getElem?_eq_getElem h2] at this
 exact this
theorem self_then {s:MSetMap} (S:SM s):thenP (selfP s.Source) s.Parts=s.Parts:=by
 have h1:=S.pl
 have sl:=S.src.sl
 have hl:(selfP s.Source).length=s.Source.Sizes.length:=mapI_length _ _
 refine gr_ext (by unfold thenP; rw [mapI_length]; omega) fun x x0 x1=>?_
 have p:=S.part x x0 (by omega)
 have hs:=S.src.s x x0 (by omega)
 rw [thenP_row x0 (by omega),selfP_row x0 (by omega)]
 refine gi_ext (by unfold thenS; rw [mapI_length,ns_length]; omega) fun e e0 e1=>?_
 rw [thenS_at e0 (by rw [ns_length]; omega),gi_ns e0 (by omega)]
theorem implAct {f:MSetFunctor} (hs:SFSmall f) (h:sfB f=true) {a e:Int} (a0:0≤a) (a1:a < f.Shape.From.length) (e0:0≤e) (e1:e < gi f.Sizes (gi f.Shape.From a)):impl_ActOnElement f a e=some (gi (gr f.Actions a) e,0):=by
 have F:=sf_of h
 have m:=F.cat.m
 have hr:=F.row a0 a1
 have hfr:=F.cat.fr a0 a1
 have hsz:=F.s _ hfr.1 hfr.2
 have ha:impl_Category_arrows f.Shape=some (f.Shape.From.length:Int):=rfl
 unfold impl_ActOnElement
 rw [implIsF hs,some_bind',h,Bool.not_true,cond_false,ha,some_bind',inRange,some_bind',w64_id (by omega) (by omega),decT (by omega),decT (by omega),Bool.and_self,Bool.not_true,cond_false,F.idxA a0 a1,some_bind',inRange,some_bind',w64_id (by omega) (by omega),decT (by omega),decT (by omega),Bool.and_self,Bool.not_true,some_bind',cond_false,some_bind',F.at_ a0 a1 e0 e1,some_bind']
 rfl
end Go.Proofs.YtjfahghkjblgjaaGreat
