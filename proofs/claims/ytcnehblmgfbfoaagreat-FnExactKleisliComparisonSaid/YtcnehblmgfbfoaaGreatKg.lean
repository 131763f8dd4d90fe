/- The algebras of a monad and the maps between them, listed by both sides. No condition beside those that each theorem names. -/
import Derived.Test.YtcnehblmgfbfoaaGreatTx
import Derived.Test.YtcnehblmgfbfoaaGreatRp
import Derived.Test.YtcnehblmgfbfoaaGreatKa
import Derived.Test.YtcnehblmgfbfoaaGreatTn
import Derived.Test.YtcnehblmgfbfoaaGreatPs
set_option linter.unusedVariables false
set_option linter.unusedSectionVars false
set_option linter.unusedSimpArgs false
namespace Go.Proofs.YtcnehblmgfbfoaaGreat
open Go Go.Li
def gA (m:bB) (x:Int):List bW:=((gh m.On.aB (oM m x) x).filter (ru m x)).map (bW.mk x)
def gL (m:bB):List bW:=(ns m.On.aB.aD.toNat).flatMap (gA m)
def tS (a:bW):List Int:=[a.X,a.H]
def bz (m:bB) (i:Int):bW:=(gL m).getD i.toNat ⟨0,0⟩
section
variable {m:bB} (M:Mon0 m)
include M
theorem C4 {a:bW}:a∈gL m↔uN m a.X a.H:=by
 have o0:=M.mc.o0
 unfold gL gA
 simp only [List.mem_flatMap,List.mem_map,List.mem_filter]
 constructor
 ·rintro ⟨x,hx,h,⟨hh,hb⟩,rfl⟩
  have x01:=cu.1 hx
  have L:=pq.1 hh
  exact (Fg x01.1 (by omega) L.1.1 L.1.2).1 hb
 ·intro A
  refine ⟨a.X,cu.2 ⟨A.x0,by have:=A.x1; omega⟩,a.H,⟨pq.2 A.l,(Fg A.x0 A.x1 A.l.1.1 A.l.1.2).2 A⟩,?_⟩
  obtain ⟨_,_⟩:=a
  rfl
theorem Ml:((gL m).map bW.H).Nodup:=by
 have e:(gL m).map bW.H=(ns m.On.aB.aD.toNat).flatMap fun x=>(gh m.On.aB (oM m x) x).filter (ru m x):=by
  unfold gL gA
  rw [List.map_flatMap]
  simp [Function.comp_def]
 rw [e]
 refine rv (sk _) (fun x _=>List.Pairwise.filter _ pN) fun x _ y _ z hz qz=>?_
 have h1:=pq.1 (List.mem_filter.1 hz).1
 have h2:=pq.1 (List.mem_filter.1 qz).1
 rw [← h1.2.2,← h2.2.2]
theorem sm:(gL m).length≤40:=by
 have cm:=M.mc.m
 have h:=PS (l:=ns m.On.aB.aF.length) (Ml M) fun y hy=>by
  obtain ⟨a,ha,rfl⟩:=List.mem_map.1 hy
  have A:=(C4 M).1 ha
  exact cu.2 A.l.1
 rw [List.length_map,bS] at h
 omega
theorem qP {i:Int} (i0:0≤i) (i1:i < (gL m).length):idx (gL m) i=some (bz m i):=by
 obtain ⟨n,rfl⟩ : ∃ n:Nat,i=n:=⟨i.toNat,by omega⟩
 rw [bh]
 unfold bz
 rw [Int.toNat_natCast,List.getD_eq_getElem?_getD,List.getElem?_eq_getElem (by omega)]; rfl
theorem Nq {i:Int} (i0:0≤i) (i1:i < (gL m).length):bz m i∈gL m:=by
 have h:=qP M i0 i1
 obtain ⟨n,rfl⟩ : ∃ n:Nat,i=n:=⟨i.toNat,by omega⟩
 rw [bh] at h
 exact List.mem_of_getElem? h
theorem pr {i:Int} (i0:0≤i) (i1:i < (gL m).length):uN m (bz m i).X (bz m i).H:=(C4 M).1 (Nq M i0 i1)
theorem zy {i:Int} (i0:0≤i) (i1:i < (gL m).length):idx ((gL m).map tS) i=some [(bz m i).X,(bz m i).H]:=by
 have h:=qP M i0 i1
 obtain ⟨n,rfl⟩ : ∃ n:Nat,i=n:=⟨i.toNat,by omega⟩
 rw [bh] at h ⊢
 rw [List.getElem?_map,h]; rfl
theorem PT {a:bW} (h:a∈gL m):∃ i:Int,(0≤i∧i < (gL m).length)∧bz m i=a:=by
 obtain ⟨n,hn⟩:=List.getElem?_of_mem h
 have hl:=bd hn
 refine ⟨n,⟨by omega,by omega⟩,?_⟩
 unfold bz
 rw [Int.toNat_natCast,List.getD_eq_getElem?_getD,hn]; rfl
theorem Fh {i j:Int} (i0:0≤i) (i1:i < (gL m).length) (j0:0≤j) (j1:j < (gL m).length) (h:bz m i=bz m j):i=j:=by
 have hk:=Ml M
 have e1:=qP M i0 i1
 have e2:=qP M j0 j1
 obtain ⟨n,rfl⟩ : ∃ n:Nat,i=n:=⟨i.toNat,by omega⟩
 obtain ⟨k,rfl⟩ : ∃ n:Nat,j=n:=⟨j.toNat,by omega⟩
 rw [bh] at e1 e2
 have k':=List.pairwise_iff_getElem.1 hk
 have g1:((gL m).map bW.H)[n]'(by rw [List.length_map]; omega)=(bz m n).H:=by
  rw [List.getElem_map]
  have:=List.getElem?_eq_getElem (l:=gL m) (i:=n) (by omega)
  rw [this] at e1
  rw [Option.some.inj e1]
 have g2:((gL m).map bW.H)[k]'(by rw [List.length_map]; omega)=(bz m k).H:=by
  rw [List.getElem_map]
  have:=List.getElem?_eq_getElem (l:=gL m) (i:=k) (by omega)
  rw [this] at e2
  rw [Option.some.inj e2]
 have lm:((gL m).map bW.H).length=(gL m).length:=List.length_map ..
 rcases Nat.lt_trichotomy n k with hl | hl | hl
 ·exact absurd (g1.trans (by rw [h]; exact g2.symm)) (k' _ _ _ _ hl)
 ·omega
 ·exact absurd (g2.trans (by rw [← h]; exact g1.symm)) (k' _ _ _ _ hl)
theorem PU (x:Int):(gA m x).length≤40:=by
 have cm:=M.mc.m
 unfold gA
 rw [List.length_map]
 exact Nat.le_trans (List.length_filter_le _ _) (Nat.le_trans (List.length_filter_le _ _) (by rw [bS]; exact cm))
theorem HU (n:Nat):((ns n).flatMap (gA m)).length≤n * 40:=by
 have:=tT (F:=gA m) (l:=ns n) (b:=40) fun x _=>PU M x
 rwa [bS] at this
theorem Km:nF m=some ((gL m).map tS):=by
 have C:=M.mc
 have o0:=C.o0
 have o8:=C.o8
 have cm:=C.m
 unfold nF
 refine (congrArg an (bu (ns m.On.aB.aD.toNat) (fun i=>(((ns i).flatMap (gA m)).map tS,(i:Int))) rfl (e:=((gL m).map tS,(m.On.aB.aD.toNat:Int))) ?_ ?_)).trans rfl
 ·intro i x hx
  obtain ⟨rfl,hi⟩:=ca hx
  have kl:=HU M i
  show jP m _ (i:Int)=_
  unfold jP
  rw [aq (by omega),cond_true,r7 M (by omega) (by omega),aA,Gv C,aA]
  dsimp only
  have hl:(gh m.On.aB (oM m i) i).length≤40:=Nat.le_trans (List.length_filter_le _ _) (by rw [bS]; exact cm)
  generalize px:(ns i).flatMap (gA m)=acc at kl
  refine (bu (gh m.On.aB (oM m i) i) (fun k=>((acc++(((gh m.On.aB (oM m i) i).take k).filter (ru m i)).map (bW.mk i)).map tS,(k:Int))) (by simp) (e:=((acc++gA m i).map tS,((gh m.On.aB (oM m i) i).length:Int))) ?_ ?_).trans ?_
  ·intro k h hh
   have hk:=bd hh
   have L:=pq.1 (List.mem_of_getElem? hh)
   have fl:(((gh m.On.aB (oM m i) i).take k).filter (ru m i)).length≤40:=Nat.le_trans (List.length_filter_le _ _) (by rw [List.length_take]; omega)
   show jQ m (i:Int) (gh m.On.aB (oM m i) i) _ (k:Int)=_
   unfold jQ
   rw [aq (by omega),cond_true,bh,hh,aA,Nr M (by omega) (by omega) L.1.1 L.1.2,aA,ee hh,List.filter_append]
   cases hb:ru m i h with
   | false=>rw [cond_false,bK (by omega)]; simp [hb]
   | true=>
    rw [cond_true,aA,cR (by simp; omega) (by simp; omega),aA,bK (by omega)]
    simp [hb,tS]
  ·show jQ m (i:Int) (gh m.On.aB (oM m i) i) _ _=_
   unfold jQ
   rw [au (by omega),cond_false,List.take_length]; rfl
  ·dsimp only
   rw [bK (by omega),ks,px]
 ·show jP m _ _=_
  unfold jP
  rw [bS,au (by omega),cond_false]; rfl
theorem Kn:fV m=some (gL m):=by
 have C:=M.mc
 have o0:=C.o0
 have o8:=C.o8
 have cm:=C.m
 unfold fV
 refine (congrArg an (bu (ns m.On.aB.aD.toNat) (fun i=>((ns i).flatMap (gA m),(i:Int))) rfl (e:=(gL m,(m.On.aB.aD.toNat:Int))) ?_ ?_)).trans rfl
 ·intro i x hx
  obtain ⟨rfl,hi⟩:=ca hx
  have kl:=HU M i
  have eo:cO m (i:Int)=some (oM m i):=by unfold cO; rw [r7 M (by omega) (by omega)]; rfl
  have eh:dQ m.On.aB (oM m i) (i:Int)=some (gh m.On.aB (oM m i) i):=Ko C _ _
  unfold gU
  dsimp only
  rw [aq (by omega),cond_true,eo,aA,eh,aA]
  have hl:(gh m.On.aB (oM m i) i).length≤40:=Nat.le_trans (List.length_filter_le _ _) (by rw [bS]; exact cm)
  generalize px:(ns i).flatMap (gA m)=acc at kl
  refine (bu (gh m.On.aB (oM m i) i) (fun k=>(acc++(((gh m.On.aB (oM m i) i).take k).filter (ru m i)).map (bW.mk i),(k:Int))) (by simp) (e:=(acc++gA m i,((gh m.On.aB (oM m i) i).length:Int))) ?_ ?_).trans ?_
  ·intro k h hh
   have hk:=bd hh
   have L:=pq.1 (List.mem_of_getElem? hh)
   have fl:(((gh m.On.aB (oM m i) i).take k).filter (ru m i)).length≤40:=Nat.le_trans (List.length_filter_le _ _) (by rw [List.length_take]; omega)
   unfold gV
   dsimp only
   rw [aq (by omega),cond_true,bh,hh,aA,Ns M (by omega) (by omega) L.1.1 L.1.2,aA,ee hh,List.filter_append]
   cases hb:ru m i h with
   | false=>rw [cond_false,bK (by omega)]; simp [hb]
   | true=>
    rw [cond_true,cR (by simp; omega) (by simp; omega),aA,bK (by omega)]
    simp [hb]
  ·unfold gV
   dsimp only
   rw [au (by omega),cond_false,List.take_length]; rfl
  ·dsimp only
   rw [bK (by omega),ks,px]
 ·unfold gU
  dsimp only
  rw [bS,au (by omega),cond_false]; rfl
theorem Kr {x h y k:Int} (A:uN m x h) (K:uN m y k):mL m [x,h] [y,k]=some (jl m x h y k):=by
 have C:=M.mc
 have cm:=C.m
 have ll:(gh m.On.aB x y).length≤m.On.aB.aF.length:=Nat.le_trans (List.length_filter_le _ _) (by rw [bS]; exact Nat.le_refl _)
 unfold mL jl
 show an (S:=Unit) (jF m.On.aB x y>>=_)=_
 rw [Gv C,aA]
 show an (S:=Unit) (aj (ah 0 (ai (fun s:List Int×Int=>gI m [x,h] [y,k] (gh m.On.aB x y) s.1 s.2) (([]:List Int),(0:Int)))) _)=_
 refine (congrArg an (uO (gh m.On.aB x y) (fun g=>kM m h g == kM m (aM m g) k) (fun acc i=>(acc,(i:Int))) rfl ?_ ?_)).trans rfl
 ·intro i g acc hg px
  have hi:=bd hg
  have L:=pq.1 (List.mem_of_getElem? hg)
  have tg:=M.qk L
  show gI m [x,h] [y,k] (gh m.On.aB x y) acc i=_
  unfold gI
  rw [aq (by omega),cond_true]
  simp only [show idx [x,h] (1:Int)=some h from rfl,show idx [y,k] (1:Int)=some k from rfl,bh,hg,aA,ku C A.l L,ry M L,ku C tg K.l,bK (show i < 9223372036854775807 by omega)]
  show (bif kM m h g == kM m (aM m g) k then _ else _)=_
  cases kM m h g == kM m (aM m g) k with
  | false=>rfl
  | true=>rw [cond_true,cR (by omega) (by omega),aA]; rfl
 ·intro acc
  show gI m [x,h] [y,k] (gh m.On.aB x y) acc _=_
  unfold gI
  rw [au (by omega),cond_false]
theorem Ks {x h y k:Int} (A:uN m x h) (K:uN m y k):eT m (bW.mk x h) (bW.mk y k)=some (jl m x h y k):=by
 have C:=M.mc
 have cm:=C.m
 have ll:(gh m.On.aB x y).length≤m.On.aB.aF.length:=Nat.le_trans (List.length_filter_le _ _) (by rw [bS]; exact Nat.le_refl _)
 have ar:∀ {x y u:Int},cj m.On.aB x y u→cX m u=some (aM m u):=fun h=>by unfold cX; rw [ry M h]; rfl
 unfold eT jl
 show an (S:=Unit) (dQ m.On.aB x y>>=_)=_
 rw [Ko C,aA]
 show an (S:=Unit) (aj (ah 0 (ai (fun s:List Int×Int=>dM m (bW.mk x h) (bW.mk y k) (gh m.On.aB x y) s.1 s.2) (([]:List Int),(0:Int)))) _)=_
 refine (congrArg an (uO (gh m.On.aB x y) (fun g=>kM m h g == kM m (aM m g) k) (fun acc i=>(acc,(i:Int))) rfl ?_ ?_)).trans rfl
 ·intro i g acc hg px
  have hi:=bd hg
  have L:=pq.1 (List.mem_of_getElem? hg)
  have tg:=M.qk L
  show dM m (bW.mk x h) (bW.mk y k) (gh m.On.aB x y) acc i=_
  unfold dM
  rw [aq (by omega),cond_true]
  simp only [bh,hg,aA,kv C A.l L,ar L,kv C tg K.l,bK (show i < 9223372036854775807 by omega)]
  show (bif kM m h g == kM m (aM m g) k then _ else _)=_
  cases kM m h g == kM m (aM m g) k with
  | false=>rfl
  | true=>rw [cond_true,cR (by omega) (by omega),aA]; rfl
 ·intro acc
  show dM m (bW.mk x h) (bW.mk y k) (gh m.On.aB x y) acc _=_
  unfold dM
  rw [au (by omega),cond_false]
theorem C5 {x h y k g:Int}:g∈jl m x h y k↔xA m x h y k g:=by
 have _:=M
 unfold jl xA
 rw [List.mem_filter,pq,beq_iff_eq]
theorem Nu {x h:Int} (A:uN m x h):xA m x h x h (gi m.On.aB.aG x):=by
 refine ⟨PV M.mc A.x0 A.x1,?_⟩
 have e:aM m (gi m.On.aB.aG x)=gi m.On.aB.aG (oM m x):=by
  have:=(ik M.fb).un x A.x0 A.x1
  rw [show m.On.aE=m.On.aB from M.e.symm] at this
  exact this
 show gk _ _ _=gk _ _ _
 rw [e,HW M.mc A.l,HX M.mc A.l]
theorem Nv {x h y k z t f g:Int} (A:uN m x h) (B:uN m y k) (D:uN m z t) (hf:xA m x h y k f) (hg:xA m y k z t g):xA m x h z t (kM m f g):=by
 refine ⟨M.zA hf.1 hg.1,?_⟩
 rw [M.Ue hf.1 hg.1,← M.C6 A.l hf.1 hg.1,hf.2,M.C6 (M.qk hf.1) B.l hg.1,hg.2,← M.C6 (M.qk hf.1) (M.qk hg.1) D.l]
end
end Go.Proofs.YtcnehblmgfbfoaaGreat
set_option linter.unusedVariables false
set_option linter.unusedSectionVars false
set_option linter.unusedSimpArgs false
namespace Go.Proofs.YtcnehblmgfbfoaaGreat
open Go Go.Li
def pW (m:bB) (i j:Int):List (List Int):=(jl m (bz m i).X (bz m i).H (bz m j).X (bz m j).H).map fun f=>[i,j,f]
def gX (m:bB) (i:Int):List (List Int):=(ns (gL m).length).flatMap (pW m i)
def gW (m:bB):List (List Int):=(ns (gL m).length).flatMap (gX m)
def qp (m:bB) (i j f:Int):Prop:=((0≤i∧i < (gL m).length)∧(0≤j∧j < (gL m).length))∧xA m (bz m i).X (bz m i).H (bz m j).X (bz m j).H f
noncomputable def HY (m:bB):List Int:=br (gL m).length fun i=>gx (gW m) [i,i,gi m.On.aB.aG (bz m i).X]
noncomputable def nu (m:bB):aH:=aH.mk ((gL m).length:Int) (nm (gW m) 0) (nm (gW m) 1) (HY m) []
noncomputable def gG (m:bB) (i j:Int):Int:=gx (gW m) [gi (gr (gW m) i) 0,gi (gr (gW m) j) 1,kM m (gi (gr (gW m) i) 2) (gi (gr (gW m) j) 2)]
noncomputable def nn (m:bB):aH:=aH.mk ((gL m).length:Int) (nm (gW m) 0) (nm (gW m) 1) (HY m) (jv (nu m) (gG m))
def mr (m:bB):Bool:=decide (((gL m).length:Int)≤8) && decide (((gW m).length:Int)≤40)
section
variable {m:bB} (M:Mon0 m)
include M
theorem xB {r:List Int}:r∈gW m↔∃ i j f:Int,qp m i j f∧r=[i,j,f]:=by
 unfold gW gX pW
 simp only [List.mem_flatMap,List.mem_map]
 constructor
 ·rintro ⟨i,hi,j,hj,f,hf,rfl⟩
  exact ⟨i,j,f,⟨⟨cu.1 hi,cu.1 hj⟩,(C5 M).1 hf⟩,rfl⟩
 ·rintro ⟨i,j,f,⟨⟨hi,hj⟩,hf⟩,rfl⟩
  exact ⟨i,cu.2 hi,j,cu.2 hj,f,(C5 M).2 hf,rfl⟩
theorem yT (i j:Int):(pW m i j).length≤40:=by
 have cm:=M.mc.m
 unfold pW jl
 rw [List.length_map]
 exact Nat.le_trans (List.length_filter_le _ _) (Nat.le_trans (List.length_filter_le _ _) (by rw [bS]; exact cm))
theorem C7 (n:Nat) (i:Int):((ns n).flatMap (pW m i)).length≤n * 40:=by
 have:=tT (F:=pW m i) (l:=ns n) (b:=40) fun j _=>yT M i j
 rwa [bS] at this
theorem C8 (n:Nat):((ns n).flatMap (gX m)).length≤n * 1600:=by
 have hn:=sm M
 have:=tT (F:=gX m) (l:=ns n) (b:=1600) fun i _=>Nat.le_trans (C7 M _ i) (by omega)
 rwa [bS] at this
theorem gZ:Kt (gW m):=by
 have hn:=sm M
 have cm:=M.mc.m
 have kl:=C8 M (gL m).length
 refine ⟨by unfold gW; omega,?_,fun r hr=>?_,fun r hr=>?_⟩
 ·unfold gW
  refine rv (sk _) (fun x _=>?_) fun x _ x' _ z hz qz=>?_
  ·unfold gX
   refine rv (sk _) (fun y _=>?_) fun y _ y' _ z hz qz=>?_
   ·unfold pW jl
    refine List.Pairwise.map _ (fun a b h=>?_) (List.Pairwise.filter _ (pN (n:=m.On.aB.aF.length) (p:=yA m.On.aB (bz m x).X (bz m y).X)))
    intro e
    injection e with _ e
    injection e with _ e
    injection e with e _
    exact h e
   ·unfold pW at hz qz
    obtain ⟨f,_,rfl⟩:=List.mem_map.1 hz
    obtain ⟨f',_,e⟩:=List.mem_map.1 qz
    injection e with _ e
    injection e with e _
    exact e.symm
  ·unfold gX pW at hz qz
   simp only [List.mem_flatMap,List.mem_map] at hz qz
   obtain ⟨y,_,f,_,rfl⟩:=hz
   obtain ⟨y',_,f',_,e⟩:=qz
   injection e with e _
   exact e.symm
 ·obtain ⟨x,y,f,_,rfl⟩:=(xB M).1 hr
  rfl
 ·obtain ⟨x,y,f,⟨⟨hx,hy⟩,hf⟩,rfl⟩:=(xB M).1 hr
  intro v hv
  have:=hf.1.1
  rcases List.mem_cons.1 hv with rfl | hv
  ·omega
  ·rcases List.mem_cons.1 hv with rfl | hv
   ·omega
   ·obtain rfl:=List.mem_singleton.1 hv
    omega
theorem Gw {v:Int} (v0:0≤v) (v1:v < (gW m).length):∃ i j f:Int,qp m i j f∧gr (gW m) v=[i,j,f]:=by
 obtain ⟨i,j,f,h,e⟩:=(xB M).1 (jr v0 v1)
 exact ⟨i,j,f,h,e⟩
theorem C9 {i j f:Int} (h:qp m i j f):(0≤gx (gW m) [i,j,f]∧gx (gW m) [i,j,f] < (gW m).length)∧gr (gW m) (gx (gW m) [i,j,f])=[i,j,f]:=
 (sn _ (gZ M).n (gZ M).l).2 ((xB M).2 ⟨i,j,f,h,rfl⟩)
theorem Fi {i:Int} (i0:0≤i) (i1:i < (gL m).length):qp m i i (gi m.On.aB.aG (bz m i).X):=⟨⟨⟨i0,i1⟩,i0,i1⟩,Nu M (pr M i0 i1)⟩
theorem Fj {i j k f g:Int} (hf:qp m i j f) (hg:qp m j k g):qp m i k (kM m f g):=
 ⟨⟨hf.1.1,hg.1.2⟩,Nv M (pr M hf.1.1.1 hf.1.1.2) (pr M hf.1.2.1 hf.1.2.2) (pr M hg.1.2.1 hg.1.2.2) hf.2 hg.2⟩
theorem PW {i j:Int} (i0:0≤i) (i1:i < (gW m).length) (j0:0≤j) (j1:j < (gW m).length):jw (nu m) (gG m) i j=bif gi (gr (gW m) i) 1 == gi (gr (gW m) j) 0 then gG m i j else -1:=by
 have _:=M
 unfold jw
 rw [show gi (nu m).To i=gi (gr (gW m) i) 1 from o7 i0 i1,show gi (nu m).aF j=gi (gr (gW m) j) 0 from o7 j0 j1]
theorem Da {v w:Int} (v0:0≤v) (v1:v < (gW m).length) (w0:0≤w) (w1:w < (gW m).length) (e:gi (gr (gW m) v) 1=gi (gr (gW m) w) 0) :
  ∃ i j k f g:Int,qp m i j f∧qp m j k g∧gr (gW m) v=[i,j,f]∧gr (gW m) w=[j,k,g]:=by
 obtain ⟨i,j,f,hf,e1⟩:=Gw M v0 v1
 obtain ⟨j',k,g,hg,e2⟩:=Gw M w0 w1
 rw [e1,e2] at e
 obtain rfl:j=j':=e
 exact ⟨i,j,k,f,g,hf,hg,e1,e2⟩
theorem PX {S:Type} {f:List (List Int)×Int→Option (Out S (aH×List (List Int)×List (List Int)))} :
  aj (ah 0 (ai (fun s:List (List Int)×Int=>fQ m ((gL m).map tS) s.1 s.2) (([]:List (List Int)),(0:Int)))) f=f (gW m,((gL m).length:Int)):=by
 have hn:=sm M
 have cm:=M.mc.m
 refine bu (ns (gL m).length) (fun i=>((ns i).flatMap (gX m),(i:Int))) rfl (e:=(gW m,((gL m).length:Int))) ?_ ?_
 ·intro i x hx
  obtain ⟨rfl,hi⟩:=ca hx
  have kl:=C8 M i
  have Ai:=pr M (i:=(i:Int)) (by omega) (by omega)
  show fQ m _ _ (i:Int)=_
  unfold fQ
  rw [List.length_map,aq (by omega),cond_true]
  dsimp only
  generalize px:(ns i).flatMap (gX m)=acc at kl
  refine (bu (ns (gL m).length) (fun j=>(acc++(ns j).flatMap (pW m i),(j:Int))) (by simp [ns]) (e:=(acc++gX m i,((gL m).length:Int))) ?_ ?_).trans ?_
  ·intro j y hy
   obtain ⟨rfl,hj⟩:=ca hy
   have xl:=C7 M j i
   have Aj:=pr M (i:=(j:Int)) (by omega) (by omega)
   show iA m _ (i:Int) _ (j:Int)=_
   unfold iA
   rw [List.length_map,aq (by omega),cond_true,zy M (by omega) (by omega),aA,zy M (by omega) (by omega),aA,Kr M Ai Aj,aA]
   dsimp only
   generalize yU:(ns j).flatMap (pW m i)=tU at xl
   have hl:(jl m (bz m i).X (bz m i).H (bz m j).X (bz m j).H).length≤40:=by have:=yT M (i:Int) (j:Int); unfold pW at this; rwa [List.length_map] at this
   refine (bu (jl m (bz m i).X (bz m i).H (bz m j).X (bz m j).H) (fun k=>((acc++tU)++((jl m (bz m i).X (bz m i).H (bz m j).X (bz m j).H).take k).map fun f=>[(i:Int),(j:Int),f],(k:Int))) (by simp) (e:=((acc++tU)++pW m i j,((jl m (bz m i).X (bz m i).H (bz m j).X (bz m j).H).length:Int))) ?_ ?_).trans ?_
   ·intro k f hf
    have hk:=bd hf
    show iB (i:Int) (j:Int) (jl m (bz m i).X (bz m i).H (bz m j).X (bz m j).H) _ (k:Int)=_
    unfold iB
    dsimp only
    have hb:((acc++tU)++((jl m (bz m i).X (bz m i).H (bz m j).X (bz m j).H).take k).map fun f=>[(i:Int),(j:Int),f]).length≤100000:=by simp; omega
    rw [aq (by omega),cond_true,bh,hf,aA,cR (by omega) (by omega),aA,bK (by omega),ee hf,List.map_append,← List.append_assoc]; rfl
   ·show iB (i:Int) (j:Int) (jl m (bz m i).X (bz m i).H (bz m j).X (bz m j).H) _ _=_
    unfold iB
    rw [au (by omega),cond_false,List.take_length]; rfl
   ·dsimp only
    rw [bK (by omega),ks,yU,List.append_assoc]
  ·show iA m _ (i:Int) _ _=_
   unfold iA
   rw [List.length_map,bS,au (by omega),cond_false]; rfl
  ·dsimp only
   rw [bK (by omega),ks,px]
 ·show fQ m _ _ _=_
  unfold fQ
  rw [List.length_map,bS,au (by omega),cond_false]; rfl
theorem PY {S ρ:Type} {f:List (List Int)×Int→Option (Out S ρ)} :
  aj (ah 0 (ai (fun s:List (List Int)×Int=>(fW m (gL m) s:Option (Out (List (List Int)×Int) ρ))) (([]:List (List Int)),(0:Int)))) f=f (gW m,((gL m).length:Int)):=by
 have hn:=sm M
 have cm:=M.mc.m
 refine bu (ns (gL m).length) (fun i=>((ns i).flatMap (gX m),(i:Int))) rfl (e:=(gW m,((gL m).length:Int))) ?_ ?_
 ·intro i x hx
  obtain ⟨rfl,hi⟩:=ca hx
  have kl:=C8 M i
  have Ai:=pr M (i:=(i:Int)) (by omega) (by omega)
  unfold fW
  dsimp only
  rw [aq (by omega),cond_true,qP M (by omega) (by omega),aA]
  generalize px:(ns i).flatMap (gX m)=acc at kl
  refine (bu (ns (gL m).length) (fun j=>(acc++(ns j).flatMap (pW m i),(j:Int))) (by simp [ns]) (e:=(acc++gX m i,((gL m).length:Int))) ?_ ?_).trans ?_
  ·intro j y hy
   obtain ⟨rfl,hj⟩:=ca hy
   have xl:=C7 M j i
   have Aj:=pr M (i:=(j:Int)) (by omega) (by omega)
   have em:eT m (bz m i) (bz m j)=some (jl m (bz m i).X (bz m i).H (bz m j).X (bz m j).H):=Ks M Ai Aj
   unfold jG
   dsimp only
   rw [aq (by omega),cond_true,qP M (by omega) (by omega),aA,em,aA]
   generalize yU:(ns j).flatMap (pW m i)=tU at xl
   have hl:(jl m (bz m i).X (bz m i).H (bz m j).X (bz m j).H).length≤40:=by have:=yT M (i:Int) (j:Int); unfold pW at this; rwa [List.length_map] at this
   refine (bu (jl m (bz m i).X (bz m i).H (bz m j).X (bz m j).H) (fun k=>((acc++tU)++((jl m (bz m i).X (bz m i).H (bz m j).X (bz m j).H).take k).map fun f=>[(i:Int),(j:Int),f],(k:Int))) (by simp) (e:=((acc++tU)++pW m i j,((jl m (bz m i).X (bz m i).H (bz m j).X (bz m j).H).length:Int))) ?_ ?_).trans ?_
   ·intro k f hf
    have hk:=bd hf
    unfold jH
    dsimp only
    have hb:((acc++tU)++((jl m (bz m i).X (bz m i).H (bz m j).X (bz m j).H).take k).map fun f=>[(i:Int),(j:Int),f]).length≤100000:=by simp; omega
    rw [aq (by omega),cond_true,bh,hf,aA,cR (by omega) (by omega),aA,bK (by omega),ee hf,List.map_append,← List.append_assoc]; rfl
   ·unfold jH
    dsimp only
    rw [au (by omega),cond_false,List.take_length]; rfl
   ·dsimp only
    rw [bK (by omega),ks,yU,List.append_assoc]
  ·unfold jG
   dsimp only
   rw [bS,au (by omega),cond_false]; rfl
  ·dsimp only
   rw [bK (by omega),ks,px]
 ·unfold fW
  dsimp only
  rw [bS,au (by omega),cond_false]; rfl
theorem wj {F T I:List Int} {K:List (List Int)} (hl:F.length=(gW m).length):dZ (aH.mk ((gL m).length:Int) F T I K)=some (mr m):=by
 have _:=M
 rw [Kl]
 unfold Kk mr
 rw [hl]
theorem Ku {i:Int} (i0:0≤i) (i1:i < (gW m).length) {S:Type} {f:List Int×Int→Option (Out S (aH×List (List Int)×List (List Int)))} :
  aj (ah 10 (ai (fun s:List Int×Int=>fR m (gW m) i s.1 s.2) (([]:List Int),(0:Int)))) f=f (br (gW m).length (jw (nu m) (gG m) i),((gW m).length:Int)):=by
 have H:=gZ M
 have hn:=H.n
 have C:=M.mc
 refine bu (ns (gW m).length) (fun j=>(br j (jw (nu m) (gG m) i),(j:Int))) rfl (e:=(br (gW m).length (jw (nu m) (gG m) i),((gW m).length:Int))) ?_ ?_
 ·intro j x hx
  obtain ⟨rfl,hj⟩:=ca hx
  have ri:=H.l _ (jr i0 i1)
  have rj:=H.l _ (jr (l:=gW m) (j:=(j:Int)) (by omega) (by omega))
  have ml:=bX j (jw (nu m) (gG m) i)
  rw [gn,PW M i0 i1 (by omega) (by omega)]
  show fR m (gW m) i (br j _) (j:Int)=_
  generalize px:br j (jw (nu m) (gG m) i)=acc at ml
  unfold fR
  rw [aq (by omega),cond_true,jt i0 i1,aA,cI (by omega) (by omega),aA,jt (by omega) (by omega),aA,cI (by omega) (by omega),aA]
  by_cases e:gi (gr (gW m) i) 1=gi (gr (gW m) j) 0
  ·rw [np e,cond_true,cond_true,aA,cI (by omega) (by omega),aA,aA,cI (l:=gr (gW m) (j:Int)) (by omega) (by omega),aA,aA,cI (by omega) (by omega),aA,aA,cI (l:=gr (gW m) (j:Int)) (by omega) (by omega),aA]
   obtain ⟨a,b,c,u,v,hu,hv,e1,e2⟩:=Da M i0 i1 (by omega) (by omega) e
   have hb:cJ m.On.aB (gi (gr (gW m) i) 2) (gi (gr (gW m) (j:Int)) 2)=some (kM m (gi (gr (gW m) i) 2) (gi (gr (gW m) (j:Int)) 2)):=by
    rw [e1,e2]
    exact ku C hu.2.1 hv.2.1
   rw [hb,aA,(sn _ H.n H.l).1,aA,cR (by omega) (by omega),aA,bK (by omega)]; rfl
  ·rw [kh e,cond_false,cond_false,cR (by omega) (by omega),aA,bK (by omega)]
 ·show fR m (gW m) i _ _=_
  unfold fR
  rw [bS,au (by omega),cond_false]
theorem Gx:mC m=some (bif mr m then nn m else nu m,(gL m).map tS,gW m):=by
 have C:=M.mc
 have H:=gZ M
 have hn:=H.n
 have ln:=sm M
 have Kv:(nm (gW m) 0).length=(gW m).length:=bX _ _
 unfold mC
 rw [Km M,aA,PX M]
 dsimp only
 rw [wk H.n H.l (by omega) (by omega),aA,wk H.n H.l (by omega) (by omega),aA,List.length_map]
 have l3:∀ {S:Type} {f:Int×List Int→Option (Out S (aH×List (List Int)×List (List Int)))},aj (ah 6 (ai (fun s:Int×List Int=>fS m ((gL m).map tS) (gW m) s.1 s.2) ((0:Int),([]:List Int)))) f=f (((gL m).length:Int),HY m):=by
  intro S f
  refine bu (ns (gL m).length) (fun i=>((i:Int),br i fun i=>gx (gW m) [i,i,gi m.On.aB.aG (bz m i).X])) rfl (e:=(((gL m).length:Int),HY m)) ?_ ?_
  ·intro i x hx
   obtain ⟨rfl,hi⟩:=ca hx
   have A:=pr M (i:=(i:Int)) (by omega) (by omega)
   have ml:=bX i fun i=>gx (gW m) [i,i,gi m.On.aB.aG (bz m i).X]
   rw [gn]
   show fS m _ (gW m) (i:Int) (br i _)=_
   generalize (br i fun i=>gx (gW m) [i,i,gi m.On.aB.aG (bz m i).X])=acc at ml
   unfold fS
   rw [List.length_map,aq (by omega),cond_true,zy M (by omega) (by omega),aA,show idx [(bz m i).X,(bz m i).H] (0:Int)=some (bz m i).X from rfl,aA,C.py A.x0 A.x1,aA,(sn _ H.n H.l).1,aA,cR (by omega) (by omega),aA,bK (by omega)]
  ·show fS m _ (gW m) _ _=_
   unfold fS
   rw [List.length_map,bS,au (by omega),cond_false]; rfl
 rw [l3]
 dsimp only
 cases hf:mr m with
 | true=>
  rw [cond_true]
  refine (congrArg an (bu (ns (gW m).length) (fun i=>((i:Int),br i fun f=>br (gW m).length (jw (nu m) (gG m) f))) rfl (e:=(((gW m).length:Int),jv (nu m) (gG m))) ?_ ?_)).trans rfl
  ·intro i x hx
   obtain ⟨rfl,hi⟩:=ca hx
   have ml:=bX i fun f=>br (gW m).length (jw (nu m) (gG m) f)
   rw [gn]
   show fA m _ (gW m) _ _ _ (i:Int) (br i _)=_
   generalize (br i fun f=>br (gW m).length (jw (nu m) (gG m) f))=acc at ml
   unfold fA
   rw [aq (by omega),cond_true,List.length_map,wj M Kv,aA,aA,hf,cond_true,Ku M (by omega) (by omega)]
   dsimp only
   rw [cR (by omega) (by omega),aA,bK (by omega)]
  ·show fA m _ (gW m) _ _ _ _ _=_
   unfold fA
   rw [bS,au (by omega),cond_false,aA,cond_false]
   unfold jv
   rw [show (nu m).aF.length=(gW m).length from Kv]
 | false=>
  rw [cond_false]
  refine (congrArg an (bu ([]:List Int) (fun i=>((i:Int),([]:List (List Int)))) rfl (e:=((0:Int),([]:List (List Int)))) ?_ ?_)).trans rfl
  ·intro i x hx; cases hx
  ·show fA m _ (gW m) _ _ _ (0:Int) []=_
   unfold fA
   by_cases hp:(0:Int) < (gW m).length
   ·rw [aq hp,cond_true,List.length_map,wj M Kv,aA,aA,hf,cond_false]
   ·rw [au hp,cond_false,aA,cond_false]
theorem yV {i j f:Int} (h:qp m i j f):dN (rL (gW m)) i j f=some (gx (gW m) [i,j,f]):=by
 unfold dN
 rw [wm (by simp),aA,Db (gZ M) ((xB M).2 ⟨i,j,f,h,rfl⟩)]; rfl
theorem PZ {i j:Int} (i0:0≤i) (i1:i < (gW m).length) (j0:0≤j) (j1:j < (gW m).length) (e:gi (gr (gW m) i) 1=gi (gr (gW m) j) 0):eG i j (gW m) (rL (gW m)) m.On.aB=some (gG m i j):=by
 have H:=gZ M
 have C:=M.mc
 obtain ⟨a,b,c,u,v,hu,hv,e1,e2⟩:=Da M i0 i1 j0 j1 e
 unfold eG
 rw [jt i0 i1,aA,jt j0 j1,aA]
 unfold gG
 rw [e1,e2]
 show an (S:=Unit) (bT m.On.aB u v>>=fun Dc=>dN (rL (gW m)) a c Dc>>=_)=some (gx (gW m) [a,c,kM m u v])
 have e3:dN (rL (gW m)) a c (gk m.On.aB.aC u v)=some (gx (gW m) [a,c,kM m u v]):=yV M (Fj M hu hv)
 rw [kv C hu.2.1 hv.2.1,aA,e3,aA]; rfl
theorem Kw:iL m=some (bif mr m then (some (nn m,gL m,gW m,rL (gW m)),true) else (none,false)):=by
 have C:=M.mc
 have H:=gZ M
 have hn:=H.n
 have ln:=sm M
 unfold iL
 rw [Kn M,aA]
 by_cases h8:((gL m).length:Int)≤8
 ·rw [au (by omega),cond_false,PY M]
  dsimp only
  by_cases rz:((gW m).length:Int)≤40
  ·have hf:mr m=true:=by unfold mr; rw [aq h8,aq rz]; rfl
   rw [au (by omega),cond_false,zB H,aA,wo H.n H.l (by omega) (by omega),aA,wo H.n H.l (by omega) (by omega),aA,hf,cond_true]
   refine (congrArg an (bu (ns (gL m).length) (fun i=>(br i fun i=>gx (gW m) [i,i,gi m.On.aB.aG (bz m i).X],(i:Int))) rfl (e:=(HY m,((gL m).length:Int))) ?_ ?_)).trans ?_
   ·intro i x hx
    obtain ⟨rfl,hi⟩:=ca hx
    have A:=pr M (i:=(i:Int)) (by omega) (by omega)
    have ml:=bX i fun i=>gx (gW m) [i,i,gi m.On.aB.aG (bz m i).X]
    rw [gn]
    show eU m (rL (gW m)) (gL m) (br i _,(i:Int))=_
    generalize (br i fun i=>gx (gW m) [i,i,gi m.On.aB.aG (bz m i).X])=acc at ml
    unfold eU
    dsimp only
    rw [aq (by omega),cond_true,qP M (by omega) (by omega),aA,C.py A.x0 A.x1,aA,yV M (Fi M (by omega) (by omega)),aA,cR (by omega) (by omega),aA,bK (by omega)]
   ·show eU m (rL (gW m)) (gL m) (_,_)=_
    unfold eU
    dsimp only
    rw [bS,au (by omega),cond_false]; rfl
   ·dsimp only
    have hl:(nu m).aF.length=(gW m).length:=bX _ _
    have ht:(nu m).To.length=(gW m).length:=bX _ _
    have:=Bo (c:=nu m) (g:=fun a0 a1=>eG a0 a1 (gW m) (rL (gW m)) m.On.aB) (G:=gG m) (by omega) (by omega) fun f h f0 f1 h0 h1 e=>by
     rw [hl] at f1 h1
     rw [show gi (nu m).To f=gi (gr (gW m) f) 1 from o7 f0 f1,show gi (nu m).aF h=gi (gr (gW m) h) 0 from o7 h0 h1] at e
     exact PZ M f0 f1 h0 h1 e
    unfold nu at this
    rw [this,aA]; rfl
  ·have hf:mr m=false:=by unfold mr; rw [au rz,Bool.and_false]
   rw [aq (by omega),cond_true,hf]; rfl
 ·have hf:mr m=false:=by unfold mr; rw [au h8,Bool.false_and]
  rw [aq (by omega),cond_true,hf]; rfl
end
end Go.Proofs.YtcnehblmgfbfoaaGreat
set_option linter.unusedVariables false
set_option linter.unusedSectionVars false
set_option linter.unusedSimpArgs false
namespace Go.Proofs.YtcnehblmgfbfoaaGreat
open Go Go.Li
theorem Kx {c:aH} {n k:Nat} {G:Int→Int→Int→Prop} {F:Int→Int→Int→Int} {I:Int→Int} {J:Int→Int→Int}
  (n8:n≤8) (Uf:k≤40) (ho:c.aD=(n:Int)) (hl:c.aF.length=k) (lT:c.To.length=k) (lI:c.aG.length=n) (lK:c.aC.length=k) (bo:∀ f:Int,0≤f→f < k→(gr c.aC f).length=k)
  (hi:∀ i:Int,0≤i→i < n→gi c.aG i=F i i (I i)) (P0:∀ i:Int,0≤i→i < n→G i i (I i))
  (gb:∀ i j f:Int,G i j f→(0≤i∧i < n)∧(0≤j∧j < n)) (qf:∀ i j f:Int,G i j f→cj c i j (F i j f)) (hr:∀ v:Int,0≤v→v < k→∃ i j f:Int,G i j f∧v=F i j f)
  (P1:∀ i j l f g:Int,G i j f→G j l g→G i l (J f g)) (Dd:∀ i j l f g:Int,G i j f→G j l g→gk c.aC (F i j f) (F j l g)=F i l (J f g)) (hn:∀ f g:Int,0≤f→f < k→0≤g→g < k→gi c.To f≠gi c.aF g→gk c.aC f g = -1)
  (uL:∀ i j f:Int,G i j f→J (I i) f=f) (uR:∀ i j f:Int,G i j f→J f (I j)=f) (hA:∀ i j l o f g h:Int,G i j f→G j l g→G l o h→J (J f g) h=J f (J g h)):gp c:=by
 have P2:∀ x:Int,0≤x→x < n→cj c x x (gi c.aG x):=fun x x0 x1=>by rw [hi x x0 x1]; exact qf _ _ _ (P0 x x0 x1)
 refine { o0:=by omega,o8:=by omega,m:=by omega,f:=fun x hx=>?_,tl:=by omega,t:=fun x hx=>?_,kl:=by omega,il:=by omega,i:=fun x hx=>?_,Fk:=fun x x0 x1=>(P2 x x0 (by omega)).2.1,HZ:=fun x x0 x1=>(P2 x x0 (by omega)).2.2,row:=fun f f0 f1=>?_,cell:=fun f g f0 f1 g0 g1 e=>?_,none:=fun f g f0 f1 g0 g1 e=>?_,BZ:=fun f f0 f1=>?_,zC:=fun f f0 f1=>?_,assoc:=fun p q r p0 p1 q0 q1 r0 r1 e1 e2=>?_ }
 ·obtain ⟨v,v0,v1,rfl⟩:=zD hx
  obtain ⟨i,j,f,h,rfl⟩:=hr v v0 (by omega)
  rw [(qf _ _ _ h).2.1,ho]; exact (gb _ _ _ h).1
 ·obtain ⟨v,v0,v1,rfl⟩:=zD hx
  obtain ⟨i,j,f,h,rfl⟩:=hr v v0 (by omega)
  rw [(qf _ _ _ h).2.2,ho]; exact (gb _ _ _ h).2
 ·obtain ⟨v,v0,v1,rfl⟩:=zD hx
  exact (P2 v v0 (by omega)).1
 ·rw [bo f f0 (by omega),hl]
 ·obtain ⟨i,j,u,h,rfl⟩:=hr f f0 (by omega)
  obtain ⟨j',l,v,h',rfl⟩:=hr g g0 (by omega)
  rw [(qf _ _ _ h).2.2,(qf _ _ _ h').2.1] at e
  subst e
  have:=qf _ _ _ (P1 _ _ _ _ _ h h')
  rw [Dd _ _ _ _ _ h h',(qf _ _ _ h).2.1,(qf _ _ _ h').2.2]
  exact ⟨this.1.1,this.1.2,this.2.1,this.2.2⟩
 ·exact hn f g f0 (by omega) g0 (by omega) e
 ·obtain ⟨i,j,u,h,rfl⟩:=hr f f0 (by omega)
  have b:=(gb _ _ _ h).1
  rw [(qf _ _ _ h).2.1,hi _ b.1 b.2,Dd _ _ _ _ _ (P0 _ b.1 b.2) h,uL _ _ _ h]
 ·obtain ⟨i,j,u,h,rfl⟩:=hr f f0 (by omega)
  have b:=(gb _ _ _ h).2
  rw [(qf _ _ _ h).2.2,hi _ b.1 b.2,Dd _ _ _ _ _ h (P0 _ b.1 b.2),uR _ _ _ h]
 ·obtain ⟨i,j,u,h,rfl⟩:=hr p p0 (by omega)
  obtain ⟨j',l,v,h',rfl⟩:=hr q q0 (by omega)
  obtain ⟨l',o,w,h2,rfl⟩:=hr r r0 (by omega)
  rw [(qf _ _ _ h).2.2,(qf _ _ _ h').2.1] at e1
  rw [(qf _ _ _ h').2.2,(qf _ _ _ h2).2.1] at e2
  subst e1 e2
  rw [Dd _ _ _ _ _ h h',Dd _ _ _ _ _ h' h2,Dd _ _ _ _ _ (P1 _ _ _ _ _ h h') h2,Dd _ _ _ _ _ h (P1 _ _ _ _ _ h' h2),hA _ _ _ _ _ _ _ h h' h2]
section
variable {m:bB} (M:Mon0 m)
include M
theorem H0:(nn m).aF.length=(gW m).length:=bX _ _
theorem P3 {v:Int} (v0:0≤v) (v1:v < (gW m).length):gi (nn m).aF v=gi (gr (gW m) v) 0:=o7 v0 v1
theorem P4 {v:Int} (v0:0≤v) (v1:v < (gW m).length):gi (nn m).To v=gi (gr (gW m) v) 1:=o7 v0 v1
theorem Vg {i:Int} (i0:0≤i) (i1:i < (gL m).length):gi (nn m).aG i=gx (gW m) [i,i,gi m.On.aB.aG (bz m i).X]:=tx i0 i1
theorem P5 {v w:Int} (v0:0≤v) (v1:v < (gW m).length) (w0:0≤w) (w1:w < (gW m).length):gk (nn m).aC v w=bif gi (gr (gW m) v) 1 == gi (gr (gW m) w) 0 then gG m v w else -1:=by
 have hl:(nu m).aF.length=(gW m).length:=bX _ _
 rw [← PW M v0 v1 w0 w1]
 show gi (gr (jv (nu m) (gG m)) v) w=_
 unfold jv
 rw [hl,Fm v0 v1,tx w0 w1]
theorem S4 {i j f:Int} (h:qp m i j f):cj (nn m) i j (gx (gW m) [i,j,f]):=by
 obtain ⟨⟨h0,h1⟩,e⟩:=C9 M h
 refine ⟨⟨h0,by rw [H0 M]; exact h1⟩,?_,?_⟩
 ·rw [P3 M h0 h1,e]; rfl
 ·rw [P4 M h0 h1,e]; rfl
theorem Nw {i j k f g:Int} (hf:qp m i j f) (hg:qp m j k g):gk (nn m).aC (gx (gW m) [i,j,f]) (gx (gW m) [j,k,g])=gx (gW m) [i,k,kM m f g]:=by
 obtain ⟨⟨h0,h1⟩,e⟩:=C9 M hf
 obtain ⟨⟨k0,k1⟩,e'⟩:=C9 M hg
 rw [P5 M h0 h1 k0 k1]
 unfold gG
 rw [e,e',show (gi [i,j,f] 1 == gi [j,k,g] 0)=true by show (j == j)=true; simp,cond_true]; rfl
theorem P6 {v:Int} (v0:0≤v) (v1:v < (gW m).length):∃ i j f:Int,qp m i j f∧v=gx (gW m) [i,j,f]:=by
 obtain ⟨i,j,f,h,e⟩:=Gw M v0 v1
 exact ⟨i,j,f,h,by rw [← e,P7 (gZ M) v0 v1]⟩
theorem yW (hf:mr m=true):gp (nn m):=by
 have hh:=hf
 unfold mr at hh
 simp only [Bool.and_eq_true,decide_eq_true_eq] at hh
 have n8:(gL m).length≤8:=by have:=hh.1; omega
 have Uf:(gW m).length≤40:=by have:=hh.2; omega
 have yB:(nu m).aF.length=(gW m).length:=bX _ _
 have eK:(nn m).aC=jv (nu m) (gG m):=by unfold nn; rfl
 have lK:(nn m).aC.length=(gW m).length:=by rw [eK]; unfold jv; rw [bX,yB]
 have bo:∀ f:Int,0≤f→f < (gW m).length→(gr (nn m).aC f).length=(gW m).length:=fun f f0 f1=>by
  rw [eK]
  unfold jv
  rw [yB,Fm f0 f1,bX]
 refine Kx (c:=nn m) (n:=(gL m).length) (k:=(gW m).length) (G:=qp m) (F:=fun i j f=>gx (gW m) [i,j,f]) (I:=fun i=>gi m.On.aB.aG (bz m i).X) (J:=kM m) n8 Uf rfl (H0 M) (bX _ _) (bX _ _) lK bo (fun i i0 i1=>Vg M i0 i1) (fun i i0 i1=>Fi M i0 i1) (fun i j f h=>h.1) (fun i j f h=>S4 M h) (fun v v0 v1=>P6 M v0 v1) (fun i j l f g h h'=>Fj M h h') (fun i j l f g h h'=>Nw M h h') (fun f g f0 f1 g0 g1 e=>?_) (fun i j f h=>HX M.mc h.2.1) (fun i j f h=>HW M.mc h.2.1) (fun i j l o f g h u v w=>M.C6 u.2.1 v.2.1 w.2.1)
 rw [P3 M g0 g1,P4 M f0 f1] at e
 rw [P5 M f0 f1 g0 g1,kh e,cond_false]
theorem Nx {i:Int} (i0:0≤i) (i1:i < (gL m).length):dD ((gL m).map tS) [(bz m i).X,(bz m i).H]=some i:=by
 have ln:=sm M
 have h:Ok (dD ((gL m).map tS) [(bz m i).X,(bz m i).H]) fun r=>r=i:=by
  unfold dD
  refine P8 (ol (fun s:Int=>0≤s∧s≤i) (fun s=>(i - s).toNat) ⟨by omega,by omega⟩ ?_)
  rintro s ⟨s0,s1⟩
  show Ok (kK _ _ s) _
  unfold kK
  rw [List.length_map,aq (by omega),cond_true,zy M s0 (by omega),aA,tV _ _ (by simp),aA]
  refine oc (fun e=>os ?_) fun e=>?_
  ·show s=i
   have e':=eq_of_beq e
   injection e' with e1 e'
   injection e' with e2 _
   refine Fh M s0 (by omega) i0 i1 ?_
   cases h1:bz m s; cases h2:bz m i
   rw [h1,h2] at e1 e2
   dsimp only at e1 e2
   rw [e1,e2]
  ·have mz:s≠i:=fun hs=>by subst hs; simp at e
   refine os ⟨⟨?_,?_⟩,?_⟩
   all_goals rw [lF (by omega) (by omega)]
   all_goals (try dsimp only)
   all_goals omega
 obtain ⟨r,hr,rfl⟩:=h
 exact hr
theorem Ny {i:Int} (i0:0≤i) (i1:i < (gL m).length):eN (gL m) (bz m i)=some i:=by
 have ln:=sm M
 have h:Ok (eN (gL m) (bz m i)) fun r=>r=i:=by
  unfold eN
  refine P8 (ol (fun s:Int=>0≤s∧s≤i) (fun s=>(i - s).toNat) ⟨by omega,by omega⟩ ?_)
  rintro s ⟨s0,s1⟩
  show Ok (iR _ _ s) _
  unfold iR
  rw [aq (by omega),cond_true,qP M s0 (by omega),aA]
  refine oc (fun e=>os ?_) fun e=>?_
  ·show s=i
   simp only [Bool.and_eq_true,beq_iff_eq] at e
   refine Fh M s0 (by omega) i0 i1 ?_
   cases h1:bz m s; cases h2:bz m i
   rw [h1,h2] at e
   dsimp only at e
   rw [e.1,e.2]
  ·have mz:s≠i:=fun hs=>by subst hs; simp at e
   refine os ⟨⟨?_,?_⟩,?_⟩
   all_goals rw [lF (by omega) (by omega)]
   all_goals (try dsimp only)
   all_goals omega
 obtain ⟨r,hr,rfl⟩:=h
 exact hr
end
end Go.Proofs.YtcnehblmgfbfoaaGreat
