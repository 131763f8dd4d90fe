/- Natural maps composed by the program: composites of natural maps are natural; parts that leave all as it is. No condition beside those that each theorem names. -/
import Derived.Test.YtacpfhajafmigaaGreatRu
import Derived.Test.YtacpfhajafmigaaGreatVm
import Derived.Test.YtacpfhajafmigaaGreatVj
namespace Go.Proofs.YtacpfhajafmigaaGreat
open Go Go.Li
theorem likeI (x y:List Int) (hx:x.length≤1048576000):gA x y=some (x == y):=eqM_ok x y hx
theorem same2I (x y:List (List Int)) (hx:x.length≤1048576000) (hr:∀ z∈x,z.length≤1048576000):lQ x y=some (x == y):=eqMM_ok x y hx hr
theorem same9C {c:aI} (h:CatSmall c):lV c c=some true:=by
 unfold lV
 have h1:=h.f
 have h2:=h.t
 have h3:=h.i
 have h4:=h.k
 rw [show (c.aH == c.aH)=true by simp,cond_true,likeI _ _ (by omega),aD,beq_self_eq_true,cond_true,likeI _ _ (by omega),aD,beq_self_eq_true,cond_true,likeI _ _ (by omega),aD,beq_self_eq_true,cond_true,same2I _ _ (by omega) (fun z hz=>by have:=h.r z hz; omega),aD,beq_self_eq_true]
 rfl
theorem same9F {f:aF} (h:SFSmall f):jA f f=some true:=by
 unfold jA
 have h1:=h.s
 have h2:=h.k
 rw [same9C h.c,aD,cond_true,likeI _ _ (by omega),aD,beq_self_eq_true,cond_true,same2I _ _ (by omega) (fun z hz=>by have:=h.r z hz; omega),aD,beq_self_eq_true]
 rfl
theorem same9M {m:aZ} (h:SMSmall m):gZ m m=some true:=by
 unfold gZ
 have h1:=h.k
 rw [same9F h.s,aD,cond_true,same9F h.t,aD,cond_true,same2I _ _ (by omega) (fun z hz=>by have:=h.r z hz; omega),aD,beq_self_eq_true]
 rfl
def thenP (s t:List (List Int)):List (List Int):=mapI s.length fun x=>thenS (gr s x) (gr t x)
theorem implThens {s t:List (List Int)} (hl:t.length=s.length) (h:s.length≤1048576) (hr:∀ x:Int,0≤x→x < s.length→(gr s x).length≤1048576∧∀ y∈gr s x,0≤y∧y < (gr t x).length):lJ s t=some (thenP s t):=by
 unfold lJ
 refine (congrArg retM (map_loop s.length (fun x=>thenS (gr s x) (gr t x)) (fun acc i=>(acc,(i:Int))) rfl ?_ ?_)).trans rfl
 ·intro i acc hi hacc
  have hm:=hr i (by omega) (by omega)
  show gC s t acc i=_
  unfold gC
  rw [decT (by omega),cond_true,idx_gr (by omega) (by omega),aD,idx_gr (by omega) (by omega),aD,implThen _ _ hm.1 hm.2,aD,dR (by omega) (by omega),aD,bW (by omega)]
 ·intro acc _
  show gC s t acc _=_
  unfold gC
  rw [decF (by omega),cond_false]
def zeroSM:aZ:=aZ.mk (aF.mk (aI.mk 0 [] [] [] []) [] []) (aF.mk (aI.mk 0 [] [] [] []) [] []) []
theorem zeroSM_small:SMSmall zeroSM:=⟨⟨⟨by simp [zeroSM],by simp [zeroSM],by simp [zeroSM],by simp [zeroSM],by simp [zeroSM]⟩,by simp [zeroSM],by simp [zeroSM],by simp [zeroSM]⟩,⟨⟨by simp [zeroSM],by simp [zeroSM],by simp [zeroSM],by simp [zeroSM],by simp [zeroSM]⟩,by simp [zeroSM],by simp [zeroSM],by simp [zeroSM]⟩,by simp [zeroSM],by simp [zeroSM]⟩
theorem implAreM {s t:aZ} (hs:SMSmall s) (ht:SMSmall t):iG [s,t]=some (smB s && smB t):=by
 unfold iG
 refine (congrArg retM (for_anyb [s,t] (fun f=>!smB f) (fun i=>(i:Int)) rfl ?_ ?_ (e:=(2:Int)) (y:=false) ?_)).trans ?_
 ·intro i x hx hp
  have hi:=getElem?_lt hx
  have hm:SMSmall x:=by rcases List.mem_cons.1 (List.mem_of_getElem? hx) with rfl | h; exact hs; rw [List.mem_singleton.1 h]; exact ht
  simp only [List.length_cons,List.length_nil] at hi
  unfold iF
  rw [decT (by simp only [List.length_cons,List.length_nil]; omega),cond_true,idx_nat,hx,aD,implIsM hm,aD,show (!smB x)=false from hp,cond_false,bW (by omega)]
 ·intro i x hx hp
  have hi:=getElem?_lt hx
  have hm:SMSmall x:=by rcases List.mem_cons.1 (List.mem_of_getElem? hx) with rfl | h; exact hs; rw [List.mem_singleton.1 h]; exact ht
  simp only [List.length_cons,List.length_nil] at hi
  unfold iF
  rw [decT (by simp only [List.length_cons,List.length_nil]; omega),cond_true,idx_nat,hx,aD,implIsM hm,aD,show (!smB x)=true from hp,cond_true]
 ·unfold iF
  rw [decF (by simp only [List.length_cons,List.length_nil]; omega),cond_false]; rfl
 ·simp only [List.any_cons,List.any_nil,Bool.or_false]
  cases smB s <;> cases smB t <;> rfl
def thenR (s t:aZ):aZ×Int:=
 if smB s && smB t then (if sameFB s.aQ t.aK then (aZ.mk s.aK t.aQ (thenP s.bN t.bN),0) else (zeroSM,5)) else (zeroSM,1)
theorem SM.len {m:aZ} (M:SM m):m.bN.length≤8:=by
 have:=M.pl
 have:=M.src.cat.o8
 omega
theorem thenP_row {s t:List (List Int)} {x:Int} (h0:0≤x) (h1:x < s.length):gr (thenP s t) x=thenS (gr s x) (gr t x):=by
 obtain ⟨n,rfl⟩ : ∃ n:Nat,x=n:=⟨x.toNat,by omega⟩
 unfold thenP
 have:=mapI_get (fun x=>thenS (gr s x) (gr t x)) (i:=n) (n:=s.length) (by omega)
 unfold gr at this ⊢
 rw [List.getD_eq_getElem?_getD,show ((n:Int)).toNat=n from rfl,this]; rfl
theorem thenS_at {a b:List Int} {e:Int} (h0:0≤e) (h1:e < a.length):gi (thenS a b) e=gi b (gi a e):=gi_mapI h0 h1
section
variable {s t:aZ} (S:SM s) (T:SM t) (E:s.aQ=t.aK)
include S T E
theorem then_fit:t.bN.length=s.bN.length∧s.bN.length≤1048576∧∀ x:Int,0≤x→x < s.bN.length→(gr s.bN x).length≤1048576∧∀ y∈gr s.bN x,0≤y∧y < (gr t.bN x).length:=by
 have h1:=S.pl
 have h2:=T.pl
 have h3:=S.len
 have e:t.aK.aA=s.aK.aA:=by rw [← E]; exact S.same
 rw [e] at h2
 refine ⟨by omega,by omega,fun x x0 x1=>?_⟩
 have p:=S.part x x0 (by omega)
 have q:=T.part x x0 (by rw [e]; omega)
 have hs:=S.src.s x x0 (by omega)
 refine ⟨by omega,fun y hy=>?_⟩
 have:=p.2 y hy
 rw [E] at this
 omega
theorem then_small (hs:SMSmall s) (ht:SMSmall t):SMSmall (aZ.mk s.aK t.aQ (thenP s.bN t.bN)):=by
 have h3:=S.len
 have _:=T
 have _:=E
 refine ⟨hs.s,ht.t,by dsimp only; unfold thenP; rw [cQ]; omega,fun y hy=>?_⟩
 obtain ⟨x,hx,rfl⟩:=mapI_mem.1 hy
 unfold thenS
 rw [cQ]
 exact hs.r _ (gr_mem hx.1 hx.2)
end
theorem implThenRs {s t:aZ} (hs:SMSmall s) (ht:SMSmall t):eO s t=some (thenR s t)∧SMSmall (thenR s t).1:=by
 have hz:aZ.mk (aF.mk (aI.mk ((0:Int)) ([]) ([]) ([]) ([])) ([]) ([])) (aF.mk (aI.mk ((0:Int)) ([]) ([]) ([]) ([])) ([]) ([])) ([])=zeroSM:=rfl
 unfold eO thenR
 rw [implAreM hs ht,aD]
 cases h1:smB s with
 | false=>exact ⟨rfl,zeroSM_small⟩
 | true=>
  cases h2:smB t with
  | false=>exact ⟨rfl,zeroSM_small⟩
  | true=>
   simp only [Bool.true_and,Bool.not_true,cond_false]
   rw [implSameF hs.t]
   cases h3:sameFB s.aQ t.aK with
   | false=>exact ⟨rfl,zeroSM_small⟩
   | true=>
    have S:=sm_of h1
    have T:=sm_of h2
    have E:=sameFB_eq.1 h3
    have F:=then_fit S T E
    have hp:=then_small S T E hs ht
    have i1:=implThens F.1 F.2.1 F.2.2
    simp only [aD,Bool.not_true,cond_false,if_true]
    rw [i1,aD,implSetMap S.src.cat hs.s ht.t hp.k hp.r,aD]
    exact ⟨rfl,hp⟩
def selfP (f:aF):List (List Int):=mapI f.aM.length fun x=>ns (gi f.aM x).toNat
theorem implNumbers {n:Int} (n0:0≤n) (n1:n≤1048576):iS n=some (ns n.toNat):=by
 unfold iS
 obtain ⟨k,rfl⟩ : ∃ k:Nat,n=k:=⟨n.toNat,by omega⟩
 rw [mk_ok (by omega) (by omega),aD]
 have hl:(ns k).length=k:=dD k
 refine (congrArg retM (for_all (ns k) (fun i=>((i:Int),(ns k).take i++List.replicate (k - i) (0:Int))) (by simp) ?_ (e:=((k:Int),ns k)) ?_)).trans rfl
 ·intro i x hx
  have hx':=hx
  obtain ⟨rfl,hi⟩:=ns_get hx
  have hc:=set_copy (ns k) (0:Int) hx'
  have hgc:=get_copy (ns k) (0:Int) hx'
  rw [hl] at hc hgc
  show iI k (i:Int) _=_
  unfold iI
  rw [decT (by rw [List.length_replicate]; omega),cond_true,idx_nat,hgc,aD,bW (by omega),Int.toNat_natCast,hc]
 ·rw [hl]
  show iI k _ _=_
  unfold iI
  rw [decF (by rw [List.length_replicate]; omega),cond_false,Nat.sub_self,List.take_of_length_le (by omega)]
  simp
theorem selfP_small {f:aF} (F:SF f):(selfP f).length≤1048576∧∀ y∈selfP f,y.length≤1048576:=by
 have o8:=F.cat.o8
 have sl:=F.sl
 unfold selfP
 refine ⟨by rw [cQ]; omega,fun y hy=>?_⟩
 obtain ⟨x,hx,rfl⟩:=mapI_mem.1 hy
 rw [dD]
 have:=F.s x hx.1 (by omega)
 omega
theorem specSelf {f:aF} (F:Sh f):gN f=some (selfP f):=by
 have o8:=F.cat.o8
 have sl:=F.sl
 unfold gN
 refine (congrArg retM (map_loop f.aM.length (fun x=>ns (gi f.aM x).toNat) (fun acc i=>(acc,(i:Int))) rfl ?_ ?_)).trans rfl
 ·intro i acc hi hacc
  have hm:=F.s (i:Int) (by omega) (by omega)
  show iD f acc i=_
  unfold iD
  rw [decT (by omega),cond_true]
  obtain ⟨n,hn⟩ : ∃ n:Nat,gi f.aM (i:Int)=n:=⟨(gi f.aM (i:Int)).toNat,by omega⟩
  have e:ns (gi f.aM (i:Int)).toNat=mapI n fun e=>e:=by rw [hn]; show ns n=(ns n).map _; rw [List.map_id']
  refine (map_loop n (fun e=>e) (fun acc i=>(acc,(i:Int))) rfl ?_ ?_).trans ?_
  ·intro j r hj hr
   show iC f i r j=_
   unfold iC
   rw [bS (by omega) (by omega),aD,hn,decT (by omega),cond_true,dR (by omega) (by omega),aD,bW (by omega)]
  ·intro r _
   show iC f i r _=_
   unfold iC
   rw [bS (by omega) (by omega),aD,hn,decF (by omega),cond_false]
  ·dsimp only
   rw [dR (by omega) (by omega),aD,bW (by omega),e]
 ·intro acc _
  show iD f acc _=_
  unfold iD
  rw [decF (by omega),cond_false]
theorem selfP_row {f:aF} {x:Int} (h0:0≤x) (h1:x < f.aM.length):gr (selfP f) x=ns (gi f.aM x).toNat:=by
 obtain ⟨n,rfl⟩ : ∃ n:Nat,x=n:=⟨x.toNat,by omega⟩
 unfold selfP
 have:=mapI_get (fun x=>ns (gi f.aM x).toNat) (i:=n) (n:=f.aM.length) (by omega)
 unfold gr
 rw [List.getD_eq_getElem?_getD,show ((n:Int)).toNat=n from rfl,this]; rfl
theorem gi_ns {n:Nat} {e:Int} (h0:0≤e) (h1:e < n):gi (ns n) e=e:=by
 have h:=gi_mapI (g:=fun e=>e) h0 h1
 rwa [show mapI n (fun e:Int=>e)=ns n from List.map_id' _] at h
theorem gr_ext {a b:List (List Int)} (hl:a.length=b.length) (h:∀ x:Int,0≤x→x < b.length→gr a x=gr b x):a=b:=by
 refine List.ext_getElem hl fun i h1 h2=>?_
 have:=h i (by omega) (by omega)
 unfold gr at this
 rw [List.getD_eq_getElem?_getD,List.getD_eq_getElem?_getD,show ((i:Int)).toNat=i from rfl,List.getElem?_eq_getElem h1,List.getElem?_eq_getElem h2] at this
 exact this
theorem gi_ext {a b:List Int} (hl:a.length=b.length) (h:∀ x:Int,0≤x→x < b.length→gi a x=gi b x):a=b:=by
 refine List.ext_getElem hl fun i h1 h2=>?_
 have:=h i (by omega) (by omega)
 unfold gi at this
 rw [List.getD_eq_getElem?_getD,List.getD_eq_getElem?_getD,show ((i:Int)).toNat=i from rfl,List.getElem?_eq_getElem h1,List.getElem?_eq_getElem h2] at this
 exact this
end Go.Proofs.YtacpfhajafmigaaGreat
