/- Sums of set functors: the program's and the reference's are one table. No condition beside those that each theorem names. -/
import Derived.Test.YtacpfhajafmigaaGreatVs
import Derived.Test.YtacpfhajafmigaaGreatVj
namespace Go.Proofs.YtacpfhajafmigaaGreat
open Go Go.Li
def shS (l:List Int) (k:Int):List Int:=mapI l.length fun i=>gi l i+k
theorem shS_len (l:List Int) (k:Int):(shS l k).length=l.length:=cQ _ _
theorem shS_at {l:List Int} {k e:Int} (h0:0≤e) (h1:e < l.length):gi (shS l k) e=gi l e+k:=gi_mapI h0 h1
theorem shS_mem {l:List Int} {k y n:Int} (hl:∀ z∈l,0≤z∧z < n) (hy:y∈shS l k):k≤y∧y < n+k:=by
 obtain ⟨i,hi,rfl⟩:=mapI_mem.1 hy
 have:=hl _ (gi_mem hi.1 hi.2)
 omega
theorem shS_ns (n:Nat) (k:Int):shS (ns n) k=mapI n fun e=>k+e:=by
 unfold shS
 rw [dD]
 exact mapI_congr fun i hi=>by rw [gi_ns (by omega) (by omega)]; omega
theorem implShifted {l:List Int} {k:Int} (hl:l.length≤1048576) (hb:∀ y∈l,0≤y∧y≤1048576) (k0:0≤k) (k1:k≤1048576):kZ l k=some (shS l k):=by
 unfold kZ
 refine (congrArg retM (map_loop l.length (fun i=>gi l i+k) (fun acc i=>(acc,(i:Int))) rfl ?_ ?_)).trans rfl
 ·intro i acc hi hacc
  have hm:=hb _ (gi_mem (l:=l) (j:=(i:Int)) (by omega) (by omega))
  show iJ l k acc i=_
  unfold iJ
  rw [decT (by omega),cond_true,bS (by omega) (by omega),aD,dR (by omega) (by omega),aD,dJ (by omega) (by omega),bW (by omega)]
 ·intro acc _
  show iJ l k acc _=_
  unfold iJ
  rw [decF (by omega),cond_false]
def sumS (f g:aF):List Int:=mapI f.aM.length fun x=>gi f.aM x+gi g.aM x
def sumA (f g:aF):List (List Int):=mapI f.aN.length fun a=>gr f.aN a++shS (gr g.aN a) (gi f.aM (gi f.aA.To a))
def sumF (f g:aF):aF:=aF.mk f.aA (sumS f g) (sumA f g)
def inrP (f g:aF):List (List Int):=mapI f.aM.length fun x=>shS (ns (gi g.aM x).toNat) (gi f.aM x)
section
variable {f g:aF} (hs:SFSmall f) (F:SF f) (G:SF g) (e:g.aA=f.aA)
include hs F G e
theorem implSumSets:lA f g=some (sumF f g,selfP f,inrP f g):=by
 have o8:=F.cat.o8
 have m40:=F.cat.m
 have sl:=F.sl
 have gl':=G.sl
 have al:=F.al
 have bl:=G.al
 rw [e] at gl' bl
 unfold lA
 rw [implCopy hs.c,aD]
 refine (congrArg retM (map_loop f.aM.length (fun x=>(ns (gi f.aM x).toNat,shS (ns (gi g.aM x).toNat) (gi f.aM x),gi f.aM x+gi g.aM x)) (fun acc i=>(acc.map (·.1),acc.map (·.2.1),(i:Int),acc.map (·.2.2))) rfl ?_ ?_)).trans ?_
 ·intro i acc hi hacc
  have h1:=F.s (i:Int) (by omega) (by omega)
  have h2:=G.s (i:Int) (by omega) (by rw [e]; omega)
  show iK f g (acc.map (·.1)) (acc.map (·.2.1)) i (acc.map (·.2.2))=_
  unfold iK
  rw [decT (by omega),cond_true,bS (by omega) (by omega),aD,bS (by omega) (by omega),aD,dR (by rw [List.length_map]; omega) (by rw [List.length_map]; omega),aD,implNumbers h1.1 (by omega),aD,
   dR (by rw [List.length_map]; omega) (by rw [List.length_map]; omega),aD,aD,implNumbers h2.1 (by omega),aD,implShifted (by rw [dD]; omega) (fun y hy=>by have:=ns_mem.1 hy; omega) h1.1 (by omega),aD,
   dR (by rw [List.length_map]; omega) (by rw [List.length_map]; omega),aD,bW (by omega),dJ (by omega) (by omega)]
  simp only [List.map_append,List.map_cons,List.map_nil]
 ·intro acc _
  show iK f g (acc.map (·.1)) (acc.map (·.2.1)) (f.aM.length:Int) (acc.map (·.2.2))=_
  unfold iK
  rw [decF (by omega),cond_false]
 ·dsimp only
  rw [mapI_map,mapI_map,mapI_map]
  refine (congrArg retM (map_loop f.aN.length (fun a=>gr f.aN a++shS (gr g.aN a) (gi f.aM (gi f.aA.To a))) (fun acc i=>((i:Int),acc)) rfl ?_ ?_)).trans rfl
  ·intro i acc hi hacc
   have h1:=F.act (i:Int) (by omega) (by omega)
   have h2:=G.act (i:Int) (by omega) (by rw [e]; omega)
   have ht:=F.cat.to (f:=(i:Int)) (by omega) (by omega)
   have hfr:=F.cat.fr (f:=(i:Int)) (by omega) (by omega)
   have hz:=F.s _ ht.1 ht.2
   have hz2:=G.s _ ht.1 (by rw [e]; exact ht.2)
   have hz3:=F.s _ hfr.1 hfr.2
   have hz4:=G.s _ hfr.1 (by rw [e]; exact hfr.2)
   rw [e] at h2
   show iL f g i acc=_
   unfold iL
   rw [decT (by omega),cond_true,idx_gr (by omega) (by omega),aD,implClone F.cat (gr f.aN i) (by omega),aD,idx_gr (by omega) (by omega),aD,F.cat.idxT (by omega) (by omega),aD,F.idxS ht.1 ht.2,aD,
    implShifted (l:=gr g.aN i) (k:=gi f.aM (gi f.aA.To i)) (by omega) (fun y hy=>by have:=h2.2 y hy; omega) hz.1 (by omega),aD,dR (by rw [shS_len]; omega) (by rw [shS_len]; omega),aD,dR (by omega) (by omega),aD,bW (by omega)]
  ·intro acc _
   show iL f g _ acc=_
   unfold iL
   rw [decF (by omega),cond_false]
theorem specSum21:pD f g=some (sumF f g,selfP f,inrP f g):=by
 have o8:=F.cat.o8
 have m40:=F.cat.m
 have sl:=F.sl
 have gl':=G.sl
 have al:=F.al
 have bl:=G.al
 rw [e] at gl' bl
 unfold pD
 rw [specOwnC hs.c,aD]
 refine (congrArg retM (map_loop f.aM.length (fun x=>(ns (gi f.aM x).toNat,shS (ns (gi g.aM x).toNat) (gi f.aM x),gi f.aM x+gi g.aM x)) (fun acc i=>(acc.map (·.1),acc.map (·.2.1),(i:Int),acc.map (·.2.2))) rfl ?_ ?_)).trans ?_
 ·intro i acc hi hacc
  have h1:=F.s (i:Int) (by omega) (by omega)
  have h2:=G.s (i:Int) (by omega) (by rw [e]; omega)
  show iX f g (acc.map (·.1)) (acc.map (·.2.1)) i (acc.map (·.2.2))=_
  unfold iX
  rw [decT (by omega),cond_true]
  obtain ⟨n,hn⟩ : ∃ n:Nat,gi f.aM (i:Int)=n:=⟨(gi f.aM (i:Int)).toNat,by omega⟩
  obtain ⟨m,hm⟩ : ∃ m:Nat,gi g.aM (i:Int)=m:=⟨(gi g.aM (i:Int)).toNat,by omega⟩
  have e1:ns (gi f.aM (i:Int)).toNat=mapI n fun e=>e:=by rw [hn]; show ns n=(ns n).map _; rw [List.map_id']
  have e2:shS (ns (gi g.aM (i:Int)).toNat) (gi f.aM i)=mapI m fun e=>gi f.aM i+e:=by rw [hm]; exact shS_ns m _
  refine (map_loop n (fun e=>e) (fun acc i=>(acc,(i:Int))) rfl ?_ ?_).trans ?_
  ·intro j r hj hr
   show iV f i r j=_
   unfold iV
   rw [bS (by omega) (by omega),aD,hn,decT (by omega),cond_true,dR (by omega) (by omega),aD,bW (by omega)]
  ·intro r _
   show iV f i r _=_
   unfold iV
   rw [bS (by omega) (by omega),aD,hn,decF (by omega),cond_false]
  ·dsimp only
   refine (map_loop m (fun e=>gi f.aM i+e) (fun acc i=>(acc,(i:Int))) rfl ?_ ?_).trans ?_
   ·intro j r hj hr
    show iW f g i r j=_
    unfold iW
    rw [bS (by omega) (by omega),aD,hm,decT (by omega),cond_true,bS (by omega) (by omega),aD,dR (by omega) (by omega),aD,dJ (by omega) (by omega),bW (by omega)]
   ·intro r _
    show iW f g i r _=_
    unfold iW
    rw [bS (by omega) (by omega),aD,hm,decF (by omega),cond_false]
   ·dsimp only
    rw [bS (by omega) (by omega),aD,bS (by omega) (by omega),aD,dR (by rw [List.length_map]; omega) (by rw [List.length_map]; omega),aD,dR (by rw [List.length_map]; omega) (by rw [List.length_map]; omega),aD,dR (by rw [List.length_map]; omega) (by rw [List.length_map]; omega),aD,bW (by omega),dJ (by omega) (by omega),e1,e2]
    simp only [List.map_append,List.map_cons,List.map_nil]
 ·intro acc _
  show iX f g (acc.map (·.1)) (acc.map (·.2.1)) (f.aM.length:Int) (acc.map (·.2.2))=_
  unfold iX
  rw [decF (by omega),cond_false]
 ·dsimp only
  rw [mapI_map,mapI_map,mapI_map]
  refine (congrArg retM (map_loop f.aN.length (fun a=>gr f.aN a++shS (gr g.aN a) (gi f.aM (gi f.aA.To a))) (fun acc i=>((i:Int),acc)) rfl ?_ ?_)).trans rfl
  ·intro i acc hi hacc
   have h1:=F.act (i:Int) (by omega) (by omega)
   have h2:=G.act (i:Int) (by omega) (by rw [e]; omega)
   have ht:=F.cat.to (f:=(i:Int)) (by omega) (by omega)
   have hfr:=F.cat.fr (f:=(i:Int)) (by omega) (by omega)
   have hz:=F.s _ ht.1 ht.2
   have hz2:=G.s _ ht.1 (by rw [e]; exact ht.2)
   have hz3:=F.s _ hfr.1 hfr.2
   have hz4:=G.s _ hfr.1 (by rw [e]; exact hfr.2)
   rw [e] at h2
   show iZ f g i acc=_
   unfold iZ
   rw [decT (by omega),cond_true,F.cat.idxT (by omega) (by omega),aD,idx_gr (by omega) (by omega),aD,specOwn0 _ (by omega),aD]
   refine (app_loop (gr g.aN i).length (fun e=>gi (gr g.aN i) e+gi f.aM (gi f.aA.To i)) (gr f.aN i) (fun acc i=>(acc,(i:Int))) rfl ?_ ?_).trans ?_
   ·intro j r hj hr
    have hm:=h2.2 _ (gi_mem (l:=gr g.aN i) (j:=(j:Int)) (by omega) (by omega))
    show iY f g i _ r j=_
    unfold iY
    rw [idx_gr (by omega) (by omega),aD,decT (by omega),cond_true,F.idxS ht.1 ht.2,aD,aD,bS (by omega) (by omega),aD,dR (by omega) (by omega),aD,dJ (by omega) (by omega),bW (by omega),Int.add_comm]
   ·intro r _
    show iY f g i _ r _=_
    unfold iY
    rw [idx_gr (by omega) (by omega),aD,decF (by omega),cond_false]
   ·dsimp only
    rw [dR (by omega) (by omega),aD,bW (by omega)]
    rfl
  ·intro acc _
   show iZ f g _ acc=_
   unfold iZ
   rw [decF (by omega),cond_false]
end
end Go.Proofs.YtacpfhajafmigaaGreat
namespace Go.Proofs.YtacpfhajafmigaaGreat
open Go Go.Li
theorem sfB_of {f:aF} (hc:catB f.aA=true) (sl:(f.aM.length:Int)=f.aA.aH) (hs:∀ x:Int,0≤x→x < f.aA.aH→0≤gi f.aM x∧gi f.aM x≤16) (al:f.aN.length=f.aA.aG.length)
  (act:∀ a:Int,0≤a→a < f.aA.aG.length→((gr f.aN a).length:Int)=gi f.aM (gi f.aA.aG a)∧∀ y∈gr f.aN a,0≤y∧y < gi f.aM (gi f.aA.To a))
  (one:∀ x e:Int,0≤x→x < f.aA.aH→0≤e→e < gi f.aM x→gi (gr f.aN (gi f.aA.aO x)) e=e)
  (comp:∀ a b e:Int,0≤a→a < f.aA.aG.length→0≤b→b < f.aA.aG.length→gi f.aA.To a=gi f.aA.aG b→0≤e→e < gi f.aM (gi f.aA.aG a)→gi (gr f.aN (gk f.aA.aE a b)) e=gi (gr f.aN b) (gi (gr f.aN a) e)):sfB f=true:=by
 have C:=cat_of hc
 unfold sfB sfShapeB sfHead sfLawB
 simp only [Bool.and_eq_true,Bool.not_eq_true',ns_any_false,List.all_eq_true,beq_iff_eq,inS_iff]
 refine ⟨⟨⟨hc,sl,fun y hy=>?_,al⟩,fun a ha=>?_⟩,fun x x0 x1=>?_,fun a a0 a1=>fun b b0 b1=>?_⟩
 ·obtain ⟨i,i0,i1,rfl⟩:=mem_gi hy
  have:=hs i i0 (by omega)
  omega
 ·obtain ⟨a0,a1⟩:=ns_mem.1 ha
  exact mapB_iff.2 (act a a0 a1)
 ·unfold idBad
  rw [ns_any_false]
  intro e e0 e1
  rw [one x e x0 (by omega) e0 (by omega)]
  simp
 ·unfold cmpBad
  cases hb:gi f.aA.To a == gi f.aA.aG b with
  | false=>rfl
  | true=>
   rw [Bool.true_and,ns_any_false]
   intro e e0 e1
   rw [comp a b e a0 a1 b0 b1 (by simpa using hb) e0 (by omega)]
   simp
theorem smB_of {m:aZ} (h1:sfB m.aK=true) (h2:sfB m.aQ=true) (e:m.aQ.aA=m.aK.aA) (pl:(m.bN.length:Int)=m.aK.aA.aH)
  (part:∀ x:Int,0≤x→x < m.aK.aA.aH→((gr m.bN x).length:Int)=gi m.aK.aM x∧∀ y∈gr m.bN x,0≤y∧y < gi m.aQ.aM x)
  (nat:∀ a e:Int,0≤a→a < m.aK.aA.aG.length→0≤e→e < gi m.aK.aM (gi m.aK.aA.aG a)→gi (gr m.bN (gi m.aK.aA.To a)) (gi (gr m.aK.aN a) e)=gi (gr m.aQ.aN a) (gi (gr m.bN (gi m.aK.aA.aG a)) e)):smB m=true:=by
 have S:=sf_of h1
 have sl:=S.sl
 unfold smB smShapeB fitsB
 rw [h1,h2,Bool.true_and,Bool.true_and,sameB_eq.2 e.symm,Bool.true_and,Bool.and_eq_true,Bool.and_eq_true]
 refine ⟨⟨by rw [beq_iff_eq]; omega,?_⟩,?_⟩
 ·rw [List.all_eq_true]
  intro x hx
  obtain ⟨x0,x1⟩:=ns_mem.1 hx
  exact mapB_iff.2 (part x x0 (by omega))
 ·rw [Bool.not_eq_true',ns_any_false]
  intro a a0 a1
  unfold natBad
  rw [ns_any_false]
  intro i i0 i1
  rw [nat a i a0 a1 i0 (by omega)]
  simp
theorem gi_appL {l m:List Int} {e:Int} (h0:0≤e) (h1:e < l.length):gi (l++m) e=gi l e:=by
 unfold gi
 rw [List.getD_eq_getElem?_getD,List.getD_eq_getElem?_getD,List.getElem?_append_left (by omega)]
theorem gi_appR {l m:List Int} {e:Int} (h0:0≤e):gi (l++m) (l.length+e)=gi m e:=by
 unfold gi
 rw [List.getD_eq_getElem?_getD,List.getD_eq_getElem?_getD,List.getElem?_append_right (by omega),show ((l.length:Int)+e).toNat - l.length=e.toNat by omega]
theorem gr_mapI {n:Nat} {g:Int→List Int} {i:Int} (h0:0≤i) (h1:i < n):gr (mapI n g) i=g i:=by
 obtain ⟨k,rfl⟩ : ∃ k:Nat,i=k:=⟨i.toNat,by omega⟩
 have:=mapI_get g (i:=k) (n:=n) (by omega)
 unfold gr
 rw [List.getD_eq_getElem?_getD,show ((k:Int)).toNat=k from rfl,this]; rfl
theorem app_mem {l m:List Int} {n:Int} (h1:∀ y∈l,0≤y∧y < n) (h2:∀ y∈m,0≤y∧y < n):∀ y∈l++m,0≤y∧y < n:=fun y hy=>(List.mem_append.1 hy).elim (h1 y) (h2 y)
theorem catB_sf {f:aF} (h:sfB f=true):catB f.aA=true:=by
 unfold sfB sfShapeB sfHead at h
 simp only [Bool.and_eq_true] at h
 exact h.1.1.1
section
variable {f g:aF} (fB:sfB f=true) (gB:sfB g=true) (e:g.aA=f.aA)
include fB gB e
theorem sumS_at {x:Int} (x0:0≤x) (x1:x < f.aA.aH):gi (sumS f g) x=gi f.aM x+gi g.aM x:=by
 have _:=gB
 have _:=e
 have:=(sf_of fB).sl
 exact gi_mapI x0 (by omega)
theorem sumA_at {a:Int} (a0:0≤a) (a1:a < f.aA.aG.length):gr (sumA f g) a=gr f.aN a++shS (gr g.aN a) (gi f.aM (gi f.aA.To a)):=by
 have _:=gB
 have _:=e
 have:=(sf_of fB).al
 exact gr_mapI a0 (by omega)
theorem sumA_L {a i:Int} (a0:0≤a) (a1:a < f.aA.aG.length) (i0:0≤i) (i1:i < gi f.aM (gi f.aA.aG a)):gi (gr (sumA f g) a) i=gi (gr f.aN a) i:=by
 have h1:=((sf_of fB).act a a0 a1).1
 rw [sumA_at fB gB e a0 a1,gi_appL i0 (by omega)]
theorem sumA_R {a i:Int} (a0:0≤a) (a1:a < f.aA.aG.length) (i0:0≤i) (i1:i < gi g.aM (gi f.aA.aG a)):gi (gr (sumA f g) a) (gi f.aM (gi f.aA.aG a)+i)=gi f.aM (gi f.aA.To a)+gi (gr g.aN a) i:=by
 have h1:=((sf_of fB).act a a0 a1).1
 have h2:=((sf_of gB).act a a0 (by rw [e]; exact a1)).1
 rw [e] at h2
 rw [sumA_at fB gB e a0 a1,← h1,gi_appR i0,shS_at i0 (by omega),Int.add_comm]
theorem inrP_at {x:Int} (x0:0≤x) (x1:x < f.aA.aH):gr (inrP f g) x=shS (ns (gi g.aM x).toNat) (gi f.aM x):=by
 have _:=gB
 have _:=e
 have:=(sf_of fB).sl
 exact gr_mapI x0 (by omega)
theorem inrP_gi {x i:Int} (x0:0≤x) (x1:x < f.aA.aH) (i0:0≤i) (i1:i < gi g.aM x):gi (gr (inrP f g) x) i=gi f.aM x+i:=by
 rw [inrP_at fB gB e x0 x1,shS_at i0 (by rw [dD]; omega),gi_ns i0 (by omega),Int.add_comm]
def fitS (f g:aF):Prop:=∀ x:Int,0≤x→x < f.aA.aH→gi f.aM x+gi g.aM x≤16
variable (hw:fitS f g)
include hw
theorem sum_sf:sfB (sumF f g)=true:=by
 have F:=sf_of fB
 have G:=sf_of gB
 have sl:=F.sl
 have al:=F.al
 have Fa:=F.act
 have Ga:=G.act
 have Gs:=G.s
 have Gi:=fun {a i:Int}=>@SFShape.img g G.toSFShape a i
 have Go:=G.one
 have Gc:=G.comp
 rw [e] at Ga Gs Go Gc
 simp only [e] at Gi
 have sA:=fun {x:Int}=>@sumS_at f g fB gB e x
 refine sfB_of (f:=sumF f g) (show catB f.aA=true from catB_sf fB) (by show ((sumS f g).length:Int)=_; unfold sumS; rw [cQ]; exact sl) ?_ (by show (sumA f g).length=_; unfold sumA; rw [cQ]; exact al) ?_ ?_ ?_
 ·intro x x0 x1
  have x1:x < f.aA.aH:=x1
  have h1:=F.s x x0 x1
  have h2:=Gs x x0 x1
  have h3:=hw x x0 x1
  show 0≤gi (sumS f g) x∧gi (sumS f g) x≤16
  rw [sA x0 x1]
  omega
 ·intro a a0 a1
  have a1:a < f.aA.aG.length:=a1
  have hf:=F.cat.fr a0 a1
  have ht:=F.cat.to a0 a1
  have h1:=Fa a a0 a1
  have h2:=Ga a a0 a1
  have z1:=F.s _ ht.1 ht.2
  have z2:=Gs _ ht.1 ht.2
  show ((gr (sumA f g) a).length:Int)=gi (sumS f g) (gi f.aA.aG a)∧∀ y∈gr (sumA f g) a,0≤y∧y < gi (sumS f g) (gi f.aA.To a)
  rw [sA hf.1 hf.2,sA ht.1 ht.2,sumA_at fB gB e a0 a1,List.length_append,shS_len]
  refine ⟨by omega,app_mem (fun y hy=>by have:=h1.2 y hy; omega) fun y hy=>by have:=shS_mem h2.2 hy; omega⟩
 ·intro x i x0 x1 i0 i1
  have x1:x < f.aA.aH:=x1
  have i1:i < gi (sumS f g) x:=i1
  rw [sA x0 x1] at i1
  have hid:=F.cat.id x0 x1
  have e1:=F.cat.idf x x0 x1
  have e2:=F.cat.idt x x0 x1
  show gi (gr (sumA f g) (gi f.aA.aO x)) i=i
  by_cases hi:i < gi f.aM x
  ·rw [sumA_L fB gB e hid.1 hid.2 i0 (by rw [e1]; exact hi)]
   exact F.one x i x0 x1 i0 hi
  ·obtain ⟨j,rfl⟩ : ∃ j,i=gi f.aM x+j:=⟨i - gi f.aM x,by omega⟩
   have:=sumA_R fB gB e (a:=gi f.aA.aO x) (i:=j) hid.1 hid.2 (by omega) (by rw [e1]; omega)
   rw [e1,e2,Go x j x0 x1 (by omega) (by omega)] at this
   exact this
 ·intro a b i a0 a1 b0 b1 hab i0 i1
  have a1:a < f.aA.aG.length:=a1
  have b1:b < f.aA.aG.length:=b1
  have hab:gi f.aA.To a=gi f.aA.aG b:=hab
  have hf:=F.cat.fr a0 a1
  have i1:i < gi (sumS f g) (gi f.aA.aG a):=i1
  rw [sA hf.1 hf.2] at i1
  obtain ⟨c0,c1,c2,c3⟩:=F.cat.cell a b a0 a1 b0 b1 hab
  show gi (gr (sumA f g) (gk f.aA.aE a b)) i=gi (gr (sumA f g) b) (gi (gr (sumA f g) a) i)
  by_cases hi:i < gi f.aM (gi f.aA.aG a)
  ·have im:=F.img a0 a1 i0 hi
   rw [sumA_L fB gB e c0 c1 i0 (by rw [c2]; exact hi),sumA_L fB gB e a0 a1 i0 hi,sumA_L fB gB e b0 b1 im.1 (by rw [← hab]; exact im.2)]
   exact F.comp a b i a0 a1 b0 b1 hab i0 hi
  ·obtain ⟨j,rfl⟩ : ∃ j,i=gi f.aM (gi f.aA.aG a)+j:=⟨i - gi f.aM (gi f.aA.aG a),by omega⟩
   have j0:0≤j:=by omega
   have j1:j < gi g.aM (gi f.aA.aG a):=by omega
   have im:=Gi a0 a1 j0 j1
   have k1:=sumA_R fB gB e (i:=j) c0 c1 j0 (by rw [c2]; exact j1)
   rw [c2,c3] at k1
   rw [k1,sumA_R fB gB e a0 a1 j0 j1,hab,sumA_R fB gB e b0 b1 im.1 (by rw [← hab]; exact im.2),Gc a b j a0 a1 b0 b1 hab j0 j1]
theorem inl_nat:smB (aZ.mk f (sumF f g) (selfP f))=true:=by
 have F:=sf_of fB
 have G:=sf_of gB
 have sl:=F.sl
 have Gs:=G.s
 rw [e] at Gs
 have sA:=fun {x:Int}=>@sumS_at f g fB gB e x
 refine smB_of fB (sum_sf fB gB e hw) rfl (by show ((selfP f).length:Int)=_; unfold selfP; rw [cQ]; exact sl) ?_ ?_
 ·intro x x0 x1
  have x1:x < f.aA.aH:=x1
  have h1:=F.s x x0 x1
  have h2:=Gs x x0 x1
  show ((gr (selfP f) x).length:Int)=gi f.aM x∧∀ y∈gr (selfP f) x,0≤y∧y < gi (sumS f g) x
  rw [selfP_row x0 (by omega),dD,sA x0 x1]
  exact ⟨by omega,fun y hy=>by have:=ns_mem.1 hy; omega⟩
 ·intro a i a0 a1 i0 i1
  have a1:a < f.aA.aG.length:=a1
  have i1:i < gi f.aM (gi f.aA.aG a):=i1
  have hf:=F.cat.fr a0 a1
  have ht:=F.cat.to a0 a1
  have im:=F.img a0 a1 i0 i1
  show gi (gr (selfP f) (gi f.aA.To a)) (gi (gr f.aN a) i)=gi (gr (sumA f g) a) (gi (gr (selfP f) (gi f.aA.aG a)) i)
  rw [selfP_row ht.1 (by omega),selfP_row hf.1 (by omega),gi_ns i0 (by omega),gi_ns im.1 (by omega),sumA_L fB gB e a0 a1 i0 i1]
theorem inr_nat:smB (aZ.mk g (sumF f g) (inrP f g))=true:=by
 have F:=sf_of fB
 have G:=sf_of gB
 have sl:=F.sl
 have Gs:=G.s
 have Gi:=fun {a i:Int}=>@SFShape.img g G.toSFShape a i
 rw [e] at Gs
 simp only [e] at Gi
 have sA:=fun {x:Int}=>@sumS_at f g fB gB e x
 refine smB_of gB (sum_sf fB gB e hw) e.symm (by show ((inrP f g).length:Int)=_; unfold inrP; rw [cQ,e]; exact sl) ?_ ?_
 ·intro x x0 x1
  have x1:x < g.aA.aH:=x1
  rw [e] at x1
  have h1:=F.s x x0 x1
  have h2:=Gs x x0 x1
  show ((gr (inrP f g) x).length:Int)=gi g.aM x∧∀ y∈gr (inrP f g) x,0≤y∧y < gi (sumS f g) x
  rw [inrP_at fB gB e x0 x1,shS_len,dD,sA x0 x1]
  refine ⟨by omega,fun y hy=>?_⟩
  have:=shS_mem (n:=gi g.aM x) (fun z hz=>by have:=ns_mem.1 hz; omega) hy
  omega
 ·intro a i a0 a1 i0 i1
  have a1:a < g.aA.aG.length:=a1
  rw [e] at a1
  have i1:i < gi g.aM (gi g.aA.aG a):=i1
  rw [e] at i1
  have hf:=F.cat.fr a0 a1
  have ht:=F.cat.to a0 a1
  have im:=Gi a0 a1 i0 i1
  show gi (gr (inrP f g) (gi g.aA.To a)) (gi (gr g.aN a) i)=gi (gr (sumA f g) a) (gi (gr (inrP f g) (gi g.aA.aG a)) i)
  rw [e,inrP_gi fB gB e ht.1 ht.2 im.1 im.2,inrP_gi fB gB e hf.1 hf.2 i0 i1,sumA_R fB gB e a0 a1 i0 i1]
end
theorem smB_src {m:aZ} (h:smB m=true):sfB m.aK=true:=by unfold smB smShapeB at h; simp only [Bool.and_eq_true] at h; exact h.1.1
def copP (s t:aZ):List (List Int):=mapI s.bN.length fun x=>gr s.bN x++gr t.bN x
section
variable {s t:aZ} (S:smB s=true) (T:smB t=true) (E:t.aQ=s.aQ)
include S T E
theorem cop_shape:t.aK.aA=s.aK.aA:=by
 have h1:=(sm_of S).same
 have h2:=(sm_of T).same
 rw [E] at h2
 exact h2.symm.trans h1
theorem cop_at {x:Int} (x0:0≤x) (x1:x < s.aK.aA.aH):gr (copP s t) x=gr s.bN x++gr t.bN x:=by
 have _:=T
 have _:=E
 have:=(sm_of S).pl
 exact gr_mapI x0 (by omega)
theorem cop_L {x i:Int} (x0:0≤x) (x1:x < s.aK.aA.aH) (i0:0≤i) (i1:i < gi s.aK.aM x):gi (gr (copP s t) x) i=gi (gr s.bN x) i:=by
 have:=((sm_of S).part x x0 x1).1
 rw [cop_at S T E x0 x1,gi_appL i0 (by omega)]
theorem cop_R {x i:Int} (x0:0≤x) (x1:x < s.aK.aA.aH) (i0:0≤i):gi (gr (copP s t) x) (gi s.aK.aM x+i)=gi (gr t.bN x) i:=by
 have:=((sm_of S).part x x0 x1).1
 rw [cop_at S T E x0 x1,← this,gi_appR i0]
theorem cop_nat (hw:fitS s.aK t.aK):smB (aZ.mk (sumF s.aK t.aK) s.aQ (copP s t))=true:=by
 have M:=sm_of S
 have N:=sm_of T
 have e:=cop_shape S T E
 have fB:sfB s.aK=true:=by unfold smB smShapeB at S; simp only [Bool.and_eq_true] at S; exact S.1.1
 have gB:sfB t.aK=true:=by unfold smB smShapeB at T; simp only [Bool.and_eq_true] at T; exact T.1.1
 have tB:sfB s.aQ=true:=by unfold smB smShapeB at S; simp only [Bool.and_eq_true] at S; exact S.1.2.1
 have sA:=fun {x:Int}=>@sumS_at s.aK t.aK fB gB e x
 have Np:=N.part
 have Nn:=N.nat
 have Gi:=fun {a i:Int}=>@SFShape.img t.aK N.src.toSFShape a i
 rw [e,E] at Np Nn
 simp only [e] at Gi
 refine smB_of (sum_sf fB gB e hw) tB M.same (by show ((copP s t).length:Int)=_; unfold copP; rw [cQ]; exact M.pl) ?_ ?_
 ·intro x x0 x1
  have x1:x < s.aK.aA.aH:=x1
  have h1:=M.part x x0 x1
  have h2:=Np x x0 x1
  show ((gr (copP s t) x).length:Int)=gi (sumS s.aK t.aK) x∧∀ y∈gr (copP s t) x,0≤y∧y < gi s.aQ.aM x
  rw [cop_at S T E x0 x1,sA x0 x1,List.length_append]
  exact ⟨by omega,app_mem h1.2 h2.2⟩
 ·intro a i a0 a1 i0 i1
  have a1:a < s.aK.aA.aG.length:=a1
  have hf:=M.src.cat.fr a0 a1
  have ht:=M.src.cat.to a0 a1
  have i1:i < gi (sumS s.aK t.aK) (gi s.aK.aA.aG a):=i1
  rw [sA hf.1 hf.2] at i1
  show gi (gr (copP s t) (gi s.aK.aA.To a)) (gi (gr (sumA s.aK t.aK) a) i)=gi (gr s.aQ.aN a) (gi (gr (copP s t) (gi s.aK.aA.aG a)) i)
  by_cases hi:i < gi s.aK.aM (gi s.aK.aA.aG a)
  ·have im:=M.src.img a0 a1 i0 hi
   rw [sumA_L fB gB e a0 a1 i0 hi,cop_L S T E ht.1 ht.2 im.1 im.2,cop_L S T E hf.1 hf.2 i0 hi]
   exact M.nat a i a0 a1 i0 hi
  ·obtain ⟨j,rfl⟩ : ∃ j,i=gi s.aK.aM (gi s.aK.aA.aG a)+j:=⟨i - gi s.aK.aM (gi s.aK.aA.aG a),by omega⟩
   have j0:0≤j:=by omega
   have j1:j < gi t.aK.aM (gi s.aK.aA.aG a):=by omega
   have im:=Gi a0 a1 j0 j1
   rw [sumA_R fB gB e a0 a1 j0 j1,cop_R S T E ht.1 ht.2 im.1,cop_R S T E hf.1 hf.2 j0]
   exact Nn a j a0 a1 j0 j1
theorem cop_l:thenP (selfP s.aK) (copP s t)=s.bN:=by
 have M:=sm_of S
 have h1:=M.pl
 have sl:=M.src.sl
 have hl:(selfP s.aK).length=s.aK.aM.length:=cQ _ _
 refine gr_ext (by unfold thenP; rw [cQ]; omega) fun x x0 x1=>?_
 have p:=M.part x x0 (by omega)
 have hs:=M.src.s x x0 (by omega)
 rw [thenP_row x0 (by omega),selfP_row x0 (by omega)]
 refine gi_ext (by unfold thenS; rw [cQ,dD]; omega) fun e e0 e1=>?_
 rw [thenS_at e0 (by rw [dD]; omega),gi_ns e0 (by omega),cop_L S T E x0 (by omega) e0 (by omega)]
theorem cop_r:thenP (inrP s.aK t.aK) (copP s t)=t.bN:=by
 have M:=sm_of S
 have N:=sm_of T
 have e:=cop_shape S T E
 have fB:sfB s.aK=true:=by unfold smB smShapeB at S; simp only [Bool.and_eq_true] at S; exact S.1.1
 have gB:sfB t.aK=true:=by unfold smB smShapeB at T; simp only [Bool.and_eq_true] at T; exact T.1.1
 have h1:=N.pl
 have sl:=M.src.sl
 have Ns:=N.src.s
 have Np:=N.part
 rw [e] at h1 Ns Np
 have hl:(inrP s.aK t.aK).length=s.aK.aM.length:=cQ _ _
 refine gr_ext (by unfold thenP; rw [cQ]; omega) fun x x0 x1=>?_
 have x2:x < s.aK.aA.aH:=by omega
 have p:=Np x x0 x2
 have hs:=Ns x x0 x2
 have lr:((gr (inrP s.aK t.aK) x).length:Int)=gi t.aK.aM x:=by rw [inrP_at fB gB e x0 x2,shS_len,dD]; omega
 rw [thenP_row x0 (by omega)]
 refine gi_ext (by unfold thenS; rw [cQ]; omega) fun i i0 i1=>?_
 rw [thenS_at i0 (by omega),inrP_gi fB gB e x0 x2 i0 (by omega),cop_R S T E x0 x2 i0]
end
end Go.Proofs.YtacpfhajafmigaaGreat
namespace Go.Proofs.YtacpfhajafmigaaGreat
open Go Go.Li
theorem implFitting {l:List Int} (hl:l.length≤1048576):lB l=some (inS 17 l):=by
 unfold lB
 rw [within l 17 (by omega) (by omega) (by omega)]; rfl
section
variable {f g:aF} (hs:SFSmall f) (ht:SFSmall g) (fB:sfB f=true) (gB:sfB g=true) (e:g.aA=f.aA)
include hs ht fB gB e
theorem fitB_iff:inS 17 (sumS f g)=true↔fitS f g:=by
 have F:=sf_of fB
 have G:=sf_of gB
 have sl:=F.sl
 have Gs:=G.s
 rw [e] at Gs
 have _:=hs
 have _:=ht
 rw [inS_iff]
 constructor
 ·intro h x x0 x1
  have:=h _ (gi_mem (l:=sumS f g) (j:=x) x0 (by unfold sumS; rw [cQ]; omega))
  rw [sumS_at fB gB e x0 x1] at this
  omega
 ·intro h y hy
  obtain ⟨x,hx,rfl⟩:=mapI_mem.1 hy
  have h1:=F.s x hx.1 (by omega)
  have h2:=Gs x hx.1 (by omega)
  have:=h x hx.1 (by omega)
  omega
theorem specMade:oE (sumF f g)=some (if inS 17 (sumS f g) then 0 else 3):=by
 have _:=hs
 have _:=ht
 have F:=sf_of fB
 have G:=sf_of gB
 have sl:=F.sl
 have o8:=F.cat.o8
 have Gs:=G.s
 rw [e] at Gs
 have hl:(sumS f g).length=f.aM.length:=cQ _ _
 have hpos:∀ y∈sumS f g,0≤y:=fun y hy=>by
  obtain ⟨x,hx,rfl⟩:=mapI_mem.1 hy
  have h1:=F.s x hx.1 (by omega)
  have h2:=Gs x hx.1 (by omega)
  omega
 have hb:(sumS f g).any (fun y=>decide (16 < y)) = !inS 17 (sumS f g):=by
  cases h:inS 17 (sumS f g) with
  | true=>
   rw [inS_iff] at h
   simp only [List.any_eq_false,decide_eq_true_eq,Bool.not_true]
   exact fun y hy=>by have:=h y hy; omega
  | false=>
   rw [Bool.not_false,List.any_eq_true]
   refine Classical.byContradiction fun hc=>?_
   have:inS 17 (sumS f g)=true:=inS_iff.2 fun y hy=>⟨hpos y hy,by
    have : ¬ (decide (16 < y)=true):=fun hh=>hc ⟨y,hy,hh⟩
    rw [decide_eq_true_eq] at this
    omega⟩
   rw [this] at h; cases h
 unfold oE
 refine (congrArg retM (for_anyb (sumS f g) (fun y=>decide (16 < y)) (fun i=>(i:Int)) rfl ?_ ?_ (e:=((sumS f g).length:Int)) (y:=3) ?_)).trans ?_
 ·intro i x hx hp
  have hi:=getElem?_lt hx
  show fC (sumF f g) i=_
  unfold fC
  rw [show (sumF f g).aM=sumS f g from rfl,decT (by omega),cond_true,idx_nat,hx,aD,show decide (x > 16)=false from hp,cond_false,bW (by omega)]
 ·intro i x hx hp
  have hi:=getElem?_lt hx
  show fC (sumF f g) i=_
  unfold fC
  rw [show (sumF f g).aM=sumS f g from rfl,decT (by omega),cond_true,idx_nat,hx,aD,show decide (x > 16)=true from hp,cond_true]
 ·show fC (sumF f g) _=_
  unfold fC
  rw [show (sumF f g).aM=sumS f g from rfl,decF (by omega),cond_false]
 ·rw [hb]
  cases inS 17 (sumS f g) <;> rfl
theorem sum_small:SFSmall (sumF f g):=by
 have F:=sf_of fB
 have G:=sf_of gB
 have sl:=F.sl
 have o8:=F.cat.o8
 have m:=F.cat.m
 have al:=F.al
 have Ga:=G.act
 have Gs:=G.s
 rw [e] at Ga Gs
 have _:=ht
 refine ⟨hs.c,by show (sumS f g).length≤_; unfold sumS; rw [cQ]; omega,by show (sumA f g).length≤_; unfold sumA; rw [cQ]; omega,fun y hy=>?_⟩
 obtain ⟨a,ha,rfl⟩:=mapI_mem.1 (show y∈sumA f g from hy)
 have hf:=F.cat.fr ha.1 (by omega)
 have h1:=F.act a ha.1 (by omega)
 have h2:=Ga a ha.1 (by omega)
 have z1:=F.s _ hf.1 hf.2
 have z2:=Gs _ hf.1 hf.2
 rw [List.length_append,shS_len]
 omega
theorem implSum (hw:fitS f g):oF f g=some (sumF f g,selfP f,inrP f g,0):=by
 have F:=sf_of fB
 have G:=sf_of gB
 have sl:=F.sl
 have o8:=F.cat.o8
 have hc:lW f g=some 0:=by
  unfold lW
  rw [implAreF [f,g] (by simp) (fun x hx=>by rcases List.mem_cons.1 hx with rfl | h; exact hs; rw [List.mem_singleton.1 h]; exact ht),aD]
  rw [show [f,g].all sfB=true by simp [fB,gB],Bool.not_true,cond_false,implSameCat hs.c,aD,sameB_eq.2 e.symm]
  rfl
 unfold oF
 rw [hc,aD,bneF rfl,cond_false,implSumSets hs F G e,aD]
 dsimp only
 rw [show (sumF f g).aM=sumS f g from rfl,implFitting (by unfold sumS; rw [cQ]; omega),aD,(fitB_iff hs ht fB gB e).2 hw]
 rfl
end
def copR (s t:aZ):aZ×Int:=
 if smB s && smB t then (if sameFB s.aQ t.aQ then (if inS 17 (sumS s.aK t.aK) then (aZ.mk (sumF s.aK t.aK) s.aQ (copP s t),0) else (zeroSM,3)) else (zeroSM,5)) else (zeroSM,1)
section
variable {s t:aZ} (hs:SMSmall s) (ht:SMSmall t)
include hs ht
theorem copSmall (S:smB s=true) (T:smB t=true) (E:t.aQ=s.aQ):SMSmall (aZ.mk (sumF s.aK t.aK) s.aQ (copP s t)):=by
 have M:=sm_of S
 have N:=sm_of T
 have e:=cop_shape S T E
 have pl:=M.pl
 have o8:=M.src.cat.o8
 have Np:=N.part
 have Ns:=N.src.s
 rw [e] at Np Ns
 refine ⟨sum_small hs.s ht.s (smB_src S) (smB_src T) e,hs.t,by show (copP s t).length≤_; unfold copP; rw [cQ]; omega,fun y hy=>?_⟩
 obtain ⟨x,hx,rfl⟩:=mapI_mem.1 (show y∈copP s t from hy)
 have h1:=M.part x hx.1 (by omega)
 have h2:=Np x hx.1 (by omega)
 have z1:=M.src.s x hx.1 (by omega)
 have z2:=Ns x hx.1 (by omega)
 rw [List.length_append]
 omega
theorem implCop:iM s t=some (copR s t):=by
 have hz:aZ.mk (aF.mk (aI.mk ((0:Int)) ([]) ([]) ([]) ([])) ([]) ([])) (aF.mk (aI.mk ((0:Int)) ([]) ([]) ([]) ([])) ([]) ([])) ([])=zeroSM:=rfl
 unfold iM copR
 rw [implAreM hs ht,aD]
 cases S:smB s with
 | false=>rfl
 | true=>
  cases T:smB t with
  | false=>rfl
  | true=>
   simp only [Bool.and_self,Bool.not_true,cond_false,if_true]
   rw [implSameF hs.t,aD]
   cases h3:sameFB s.aQ t.aQ with
   | false=>rfl
   | true=>
    have E:t.aQ=s.aQ:=(sameFB_eq.1 h3).symm
    have M:=sm_of S
    have N:=sm_of T
    have e:=cop_shape S T E
    have pl:=M.pl
    have o8:=M.src.cat.o8
    have sl:=M.src.sl
    have Np:=N.part
    have Ns:=N.src.s
    have npl:=N.pl
    rw [e] at Np Ns npl
    have hp:=copSmall hs ht S T E
    simp only [Bool.not_true,cond_false,if_true]
    rw [implSumSets hs.s M.src N.src e,aD]
    dsimp only
    rw [show (sumF s.aK t.aK).aM=sumS s.aK t.aK from rfl,implFitting (by unfold sumS; rw [cQ]; omega),aD]
    cases inS 17 (sumS s.aK t.aK) with
    | false=>rfl
    | true=>
     simp only [Bool.not_true,cond_false,if_true]
     refine (congrArg retM (map_loop s.bN.length (fun x=>gr s.bN x++gr t.bN x) (fun acc i=>(acc,(i:Int))) rfl ?_ ?_)).trans ?_
     ·intro i acc hi hacc
      have h1:=M.part i (by omega) (by omega)
      have h2:=Np i (by omega) (by omega)
      have z1:=M.src.s i (by omega) (by omega)
      have z2:=Ns i (by omega) (by omega)
      show eP s t acc i=_
      unfold eP
      rw [decT (by omega),cond_true,idx_gr (by omega) (by omega),aD,implClone M.src.cat _ (by omega),aD,idx_gr (by omega) (by omega),aD,dR (by omega) (by omega),aD,dR (by omega) (by omega),aD,bW (by omega)]
     ·intro acc _
      show eP s t acc _=_
      unfold eP
      rw [decF (by omega),cond_false]
     ·show retM (S:=Unit) (jW (sumF s.aK t.aK) s.aQ (copP s t)>>=_)=_
      rw [implSetMap M.src.cat hp.s hp.t hp.k hp.r]; rfl
theorem specCop:iN s t=some (copR s t):=by
 have hz:aZ.mk (aF.mk (aI.mk ((0:Int)) ([]) ([]) ([]) ([])) ([]) ([])) (aF.mk (aI.mk ((0:Int)) ([]) ([]) ([]) ([])) ([]) ([])) ([])=zeroSM:=rfl
 have hm:oD s t false true=some (if smB s && smB t then (if sameFB s.aQ t.aQ then 0 else 5) else 1):=by
  unfold oD
  rw [specIsM hs,aD,specIsM ht,specSameF hs.t]
  cases smB s <;> cases smB t <;> cases sameFB s.aQ t.aQ <;> rfl
 unfold iN copR
 rw [hm,aD]
 cases S:smB s with
 | false=>rfl
 | true=>
  cases T:smB t with
  | false=>rfl
  | true=>
   simp only [Bool.and_self,if_true]
   cases h3:sameFB s.aQ t.aQ with
   | false=>rfl
   | true=>
    have E:t.aQ=s.aQ:=(sameFB_eq.1 h3).symm
    have M:=sm_of S
    have N:=sm_of T
    have e:=cop_shape S T E
    have pl:=M.pl
    have o8:=M.src.cat.o8
    have sl:=M.src.sl
    have Np:=N.part
    have Ns:=N.src.s
    have npl:=N.pl
    rw [e] at Np Ns npl
    have hp:=copSmall hs ht S T E
    simp only [if_true]
    rw [bneF rfl,cond_false,specSum21 hs.s M.src N.src e,aD]
    dsimp only
    rw [specMade hs.s ht.s (smB_src S) (smB_src T) e,aD]
    cases inS 17 (sumS s.aK t.aK) with
    | false=>rfl
    | true=>
     simp only [if_true]
     rw [bneF rfl,cond_false]
     refine (congrArg retM (map_loop s.bN.length (fun x=>gr s.bN x++gr t.bN x) (fun acc i=>(acc,(i:Int))) rfl ?_ ?_)).trans ?_
     ·intro i acc hi hacc
      have h1:=M.part i (by omega) (by omega)
      have h2:=Np i (by omega) (by omega)
      have z1:=M.src.s i (by omega) (by omega)
      have z2:=Ns i (by omega) (by omega)
      show eQ s t acc i=_
      unfold eQ
      rw [decT (by omega),cond_true,idx_gr (by omega) (by omega),aD,specOwn0 _ (by omega),aD,idx_gr (by omega) (by omega),aD,dR (by omega) (by omega),aD,dR (by omega) (by omega),aD,bW (by omega)]
     ·intro acc _
      show eQ s t acc _=_
      unfold eQ
      rw [decF (by omega),cond_false]
     ·show retM (S:=Unit) (eI (sumF s.aK t.aK) s.aQ (copP s t)>>=_)=_
      rw [specSetMap hp.s hp.t hp.k hp.r]; rfl
end
end Go.Proofs.YtacpfhajafmigaaGreat
