/- The algebras of a monad and the maps between them, listed by both sides. No condition beside those that each theorem names. -/
import Derived.Test.YtcnehblmgfbfoaaGreatTx
import Derived.Test.YtcnehblmgfbfoaaGreatRp
import Derived.Test.YtcnehblmgfbfoaaGreatKa
import Derived.Test.YtcnehblmgfbfoaaGreatTn
import Derived.Test.YtcnehblmgfbfoaaGreatPs
set_option linter.unusedVariables false
set_option linter.unusedSectionVars false
set_option linter.unusedSimpArgs false
namespace Go.Proofs.YtcnehblmgfbfoaaGreat
open Go Go.Li
def gA (m:cK) (x:Int):List cQ:=((du m.On.aA (oM m x) x).filter (r7 m x)).map (cQ.mk x)
def gL (m:cK):List cQ:=(ns m.On.aA.aE.toNat).flatMap (gA m)
def ux (a:cQ):List Int:=[a.X,a.H]
def b9 (m:cK) (i:Int):cQ:=(gL m).getD i.toNat ⟨0,0⟩
section
variable {m:cK} (M:Mon0 m)
include M
theorem DK {a:cQ}:a∈gL m↔u7 m a.X a.H:=by
 have o0:=M.mc.o0
 unfold gL gA
 simp only [List.mem_flatMap,List.mem_map,List.mem_filter]
 constructor
 ·rintro ⟨x,hx,h,⟨hh,hb⟩,rfl⟩
  have x01:=dj.1 hx
  have L:=jj.1 hh
  exact (Gy x01.1 (by omega) L.1.1 L.1.2).1 hb
 ·intro A
  refine ⟨a.X,dj.2 ⟨A.x0,by have:=A.x1; omega⟩,a.H,⟨jj.2 A.l,(Gy A.x0 A.x1 A.l.1.1 A.l.1.2).2 A⟩,?_⟩
  obtain ⟨_,_⟩:=a
  rfl
theorem NJ:((gL m).map cQ.H).Nodup:=by
 have e:(gL m).map cQ.H=(ns m.On.aA.aE.toNat).flatMap fun x=>(du m.On.aA (oM m x) x).filter (r7 m x):=by
  unfold gL gA
  rw [List.map_flatMap]
  simp [Function.comp_def]
 rw [e]
 refine wT (yb _) (fun x _=>List.Pairwise.filter _ r8) fun x _ y _ z hz u6=>?_
 have h1:=jj.1 (List.mem_filter.1 hz).1
 have h2:=jj.1 (List.mem_filter.1 u6).1
 rw [← h1.2.2,← h2.2.2]
theorem sU:(gL m).length≤40:=by
 have cm:=M.mc.m
 have h:=Q0 (l:=ns m.On.aA.aH.length) (NJ M) fun y hy=>by
  obtain ⟨a,ha,rfl⟩:=List.mem_map.1 hy
  have A:=(DK M).1 ha
  exact dj.2 A.l.1
 rw [List.length_map,cJ] at h
 omega
theorem rz {i:Int} (i0:0≤i) (i1:i < (gL m).length):idx (gL m) i=some (b9 m i):=by
 obtain ⟨n,rfl⟩ : ∃ n:Nat,i=n:=⟨i.toNat,by omega⟩
 rw [bf]
 unfold b9
 rw [Int.toNat_natCast,List.getD_eq_getElem?_getD,List.getElem?_eq_getElem (by omega)]; rfl
theorem ON {i:Int} (i0:0≤i) (i1:i < (gL m).length):b9 m i∈gL m:=by
 have h:=rz M i0 i1
 obtain ⟨n,rfl⟩ : ∃ n:Nat,i=n:=⟨i.toNat,by omega⟩
 rw [bf] at h
 exact List.mem_of_getElem? h
theorem py {i:Int} (i0:0≤i) (i1:i < (gL m).length):u7 m (b9 m i).X (b9 m i).H:=(DK M).1 (ON M i0 i1)
theorem Aa {i:Int} (i0:0≤i) (i1:i < (gL m).length):idx ((gL m).map ux) i=some [(b9 m i).X,(b9 m i).H]:=by
 have h:=rz M i0 i1
 obtain ⟨n,rfl⟩ : ∃ n:Nat,i=n:=⟨i.toNat,by omega⟩
 rw [bf] at h ⊢
 rw [List.getElem?_map,h]; rfl
theorem Q1 {a:cQ} (h:a∈gL m):∃ i:Int,(0≤i∧i < (gL m).length)∧b9 m i=a:=by
 obtain ⟨n,hn⟩:=List.getElem?_of_mem h
 have hl:=bc hn
 refine ⟨n,⟨by omega,by omega⟩,?_⟩
 unfold b9
 rw [Int.toNat_natCast,List.getD_eq_getElem?_getD,hn]; rfl
theorem Gz {i j:Int} (i0:0≤i) (i1:i < (gL m).length) (j0:0≤j) (j1:j < (gL m).length) (h:b9 m i=b9 m j):i=j:=by
 have hk:=NJ M
 have e1:=rz M i0 i1
 have e2:=rz M j0 j1
 obtain ⟨n,rfl⟩ : ∃ n:Nat,i=n:=⟨i.toNat,by omega⟩
 obtain ⟨k,rfl⟩ : ∃ n:Nat,j=n:=⟨j.toNat,by omega⟩
 rw [bf] at e1 e2
 have k':=List.pairwise_iff_getElem.1 hk
 have g1:((gL m).map cQ.H)[n]'(by rw [List.length_map]; omega)=(b9 m n).H:=by
  rw [List.getElem_map]
  have:=List.getElem?_eq_getElem (l:=gL m) (i:=n) (by omega)
  rw [this] at e1
  rw [Option.some.inj e1]
 have g2:((gL m).map cQ.H)[k]'(by rw [List.length_map]; omega)=(b9 m k).H:=by
  rw [List.getElem_map]
  have:=List.getElem?_eq_getElem (l:=gL m) (i:=k) (by omega)
  rw [this] at e2
  rw [Option.some.inj e2]
 have lm:((gL m).map cQ.H).length=(gL m).length:=List.length_map ..
 rcases Nat.lt_trichotomy n k with hl | hl | hl
 ·exact absurd (g1.trans (by rw [h]; exact g2.symm)) (k' _ _ _ _ hl)
 ·omega
 ·exact absurd (g2.trans (by rw [← h]; exact g1.symm)) (k' _ _ _ _ hl)
theorem Q2 (x:Int):(gA m x).length≤40:=by
 have cm:=M.mc.m
 unfold gA
 rw [List.length_map]
 exact Nat.le_trans (List.length_filter_le _ _) (Nat.le_trans (List.length_filter_le _ _) (by rw [cJ]; exact cm))
theorem I7 (n:Nat):((ns n).flatMap (gA m)).length≤n * 40:=by
 have:=zv (F:=gA m) (l:=ns n) (b:=40) fun x _=>Q2 M x
 rwa [cJ] at this
theorem Lx:oU m=some ((gL m).map ux):=by
 have C:=M.mc
 have o0:=C.o0
 have o8:=C.o8
 have cm:=C.m
 unfold oU
 refine (congrArg an (cw (ns m.On.aA.aE.toNat) (fun i=>(((ns i).flatMap (gA m)).map ux,(i:Int))) rfl (e:=((gL m).map ux,(m.On.aA.aE.toNat:Int))) ?_ ?_)).trans rfl
 ·intro i x hx
  obtain ⟨rfl,hi⟩:=cj hx
  have kl:=I7 M i
  show lU m _ (i:Int)=_
  unfold lU
  rw [ao (by omega),cond_true,Ab M (by omega) (by omega),aB,NK C,aB]
  dsimp only
  have hl:(du m.On.aA (oM m i) i).length≤40:=Nat.le_trans (List.length_filter_le _ _) (by rw [cJ]; exact cm)
  generalize r9:(ns i).flatMap (gA m)=acc at kl
  refine (cw (du m.On.aA (oM m i) i) (fun k=>((acc++(((du m.On.aA (oM m i) i).take k).filter (r7 m i)).map (cQ.mk i)).map ux,(k:Int))) (by simp) (e:=((acc++gA m i).map ux,((du m.On.aA (oM m i) i).length:Int))) ?_ ?_).trans ?_
  ·intro k h hh
   have hk:=bc hh
   have L:=jj.1 (List.mem_of_getElem? hh)
   have fl:(((du m.On.aA (oM m i) i).take k).filter (r7 m i)).length≤40:=Nat.le_trans (List.length_filter_le _ _) (by rw [List.length_take]; omega)
   show lV m (i:Int) (du m.On.aA (oM m i) i) _ (k:Int)=_
   unfold lV
   rw [ao (by omega),cond_true,bf,hh,aB,OP M (by omega) (by omega) L.1.1 L.1.2,aB,jo hh,List.filter_append]
   cases hb:r7 m i h with
   | false=>rw [cond_false,bR (by omega)]; simp [hb]
   | true=>
    rw [cond_true,aB,eB (by simp; omega) (by simp; omega),aB,bR (by omega)]
    simp [hb,ux]
  ·show lV m (i:Int) (du m.On.aA (oM m i) i) _ _=_
   unfold lV
   rw [av (by omega),cond_false,List.take_length]; rfl
  ·dsimp only
   rw [bR (by omega),rA,r9]
 ·show lU m _ _=_
  unfold lU
  rw [cJ,av (by omega),cond_false]; rfl
theorem Ly:iM m=some (gL m):=by
 have C:=M.mc
 have o0:=C.o0
 have o8:=C.o8
 have cm:=C.m
 unfold iM
 refine (congrArg an (cw (ns m.On.aA.aE.toNat) (fun i=>((ns i).flatMap (gA m),(i:Int))) rfl (e:=(gL m,(m.On.aA.aE.toNat:Int))) ?_ ?_)).trans rfl
 ·intro i x hx
  obtain ⟨rfl,hi⟩:=cj hx
  have kl:=I7 M i
  have eo:iA m (i:Int)=some (oM m i):=by unfold iA; rw [Ab M (by omega) (by omega)]; rfl
  have eh:eI m.On.aA (oM m i) (i:Int)=some (du m.On.aA (oM m i) i):=Bb C _ _
  unfold jQ
  dsimp only
  rw [ao (by omega),cond_true,eo,aB,eh,aB]
  have hl:(du m.On.aA (oM m i) i).length≤40:=Nat.le_trans (List.length_filter_le _ _) (by rw [cJ]; exact cm)
  generalize r9:(ns i).flatMap (gA m)=acc at kl
  refine (cw (du m.On.aA (oM m i) i) (fun k=>(acc++(((du m.On.aA (oM m i) i).take k).filter (r7 m i)).map (cQ.mk i),(k:Int))) (by simp) (e:=(acc++gA m i,((du m.On.aA (oM m i) i).length:Int))) ?_ ?_).trans ?_
  ·intro k h hh
   have hk:=bc hh
   have L:=jj.1 (List.mem_of_getElem? hh)
   have fl:(((du m.On.aA (oM m i) i).take k).filter (r7 m i)).length≤40:=Nat.le_trans (List.length_filter_le _ _) (by rw [List.length_take]; omega)
   unfold jS
   dsimp only
   rw [ao (by omega),cond_true,bf,hh,aB,OQ M (by omega) (by omega) L.1.1 L.1.2,aB,jo hh,List.filter_append]
   cases hb:r7 m i h with
   | false=>rw [cond_false,bR (by omega)]; simp [hb]
   | true=>
    rw [cond_true,eB (by simp; omega) (by simp; omega),aB,bR (by omega)]
    simp [hb]
  ·unfold jS
   dsimp only
   rw [av (by omega),cond_false,List.take_length]; rfl
  ·dsimp only
   rw [bR (by omega),rA,r9]
 ·unfold jQ
  dsimp only
  rw [cJ,av (by omega),cond_false]; rfl
theorem Lz {x h y k:Int} (A:u7 m x h) (K:u7 m y k):oE m [x,h] [y,k]=some (ju m x h y k):=by
 have C:=M.mc
 have cm:=C.m
 have ll:(du m.On.aA x y).length≤m.On.aA.aH.length:=Nat.le_trans (List.length_filter_le _ _) (by rw [cJ]; exact Nat.le_refl _)
 unfold oE ju
 show an (S:=Unit) (fT m.On.aA x y>>=_)=_
 rw [NK C,aB]
 show an (S:=Unit) (aj (ag 0 (ai (fun s:List Int×Int=>jA m [x,h] [y,k] (du m.On.aA x y) s.1 s.2) (([]:List Int),(0:Int)))) _)=_
 refine (congrArg an (sW (du m.On.aA x y) (fun g=>kM m h g == kM m (aM m g) k) (fun acc i=>(acc,(i:Int))) rfl ?_ ?_)).trans rfl
 ·intro i g acc hg r9
  have hi:=bc hg
  have L:=jj.1 (List.mem_of_getElem? hg)
  have tg:=M.Ac L
  show jA m [x,h] [y,k] (du m.On.aA x y) acc i=_
  unfold jA
  rw [ao (by omega),cond_true]
  simp only [show idx [x,h] (1:Int)=some h from rfl,show idx [y,k] (1:Int)=some k from rfl,bf,hg,aB,pZ C A.l L,yJ M L,pZ C tg K.l,bR (show i < 9223372036854775807 by omega)]
  show (bif kM m h g == kM m (aM m g) k then _ else _)=_
  cases kM m h g == kM m (aM m g) k with
  | false=>rfl
  | true=>rw [cond_true,eB (by omega) (by omega),aB]; rfl
 ·intro acc
  show jA m [x,h] [y,k] (du m.On.aA x y) acc _=_
  unfold jA
  rw [av (by omega),cond_false]
theorem LA {x h y k:Int} (A:u7 m x h) (K:u7 m y k):gE m (cQ.mk x h) (cQ.mk y k)=some (ju m x h y k):=by
 have C:=M.mc
 have cm:=C.m
 have ll:(du m.On.aA x y).length≤m.On.aA.aH.length:=Nat.le_trans (List.length_filter_le _ _) (by rw [cJ]; exact Nat.le_refl _)
 have ar:∀ {x y u:Int},ch m.On.aA x y u→iI m u=some (aM m u):=fun h=>by unfold iI; rw [yJ M h]; rfl
 unfold gE ju
 show an (S:=Unit) (eI m.On.aA x y>>=_)=_
 rw [Bb C,aB]
 show an (S:=Unit) (aj (ag 0 (ai (fun s:List Int×Int=>eY m (cQ.mk x h) (cQ.mk y k) (du m.On.aA x y) s.1 s.2) (([]:List Int),(0:Int)))) _)=_
 refine (congrArg an (sW (du m.On.aA x y) (fun g=>kM m h g == kM m (aM m g) k) (fun acc i=>(acc,(i:Int))) rfl ?_ ?_)).trans rfl
 ·intro i g acc hg r9
  have hi:=bc hg
  have L:=jj.1 (List.mem_of_getElem? hg)
  have tg:=M.Ac L
  show eY m (cQ.mk x h) (cQ.mk y k) (du m.On.aA x y) acc i=_
  unfold eY
  rw [ao (by omega),cond_true]
  simp only [bf,hg,aB,tZ C A.l L,ar L,tZ C tg K.l,bR (show i < 9223372036854775807 by omega)]
  show (bif kM m h g == kM m (aM m g) k then _ else _)=_
  cases kM m h g == kM m (aM m g) k with
  | false=>rfl
  | true=>rw [cond_true,eB (by omega) (by omega),aB]; rfl
 ·intro acc
  show eY m (cQ.mk x h) (cQ.mk y k) (du m.On.aA x y) acc _=_
  unfold eY
  rw [av (by omega),cond_false]
theorem DL {x h y k g:Int}:g∈ju m x h y k↔yc m x h y k g:=by
 have _:=M
 unfold ju yc
 rw [List.mem_filter,jj,beq_iff_eq]
theorem OR {x h:Int} (A:u7 m x h):yc m x h x h (gi m.On.aA.aI x):=by
 refine ⟨I8 M.mc A.x0 A.x1,?_⟩
 have e:aM m (gi m.On.aA.aI x)=gi m.On.aA.aI (oM m x):=by
  have:=(bw M.fb).un x A.x0 A.x1
  rw [show m.On.aF=m.On.aA from M.e.symm] at this
  exact this
 show gk _ _ _=gk _ _ _
 rw [e,I9 M.mc A.l,Ja M.mc A.l]
theorem OS {x h y k z t f g:Int} (A:u7 m x h) (B:u7 m y k) (D:u7 m z t) (hf:yc m x h y k f) (hg:yc m y k z t g):yc m x h z t (kM m f g):=by
 refine ⟨M.NL hf.1 hg.1,?_⟩
 rw [M.mco hf.1 hg.1,← M.NM A.l hf.1 hg.1,hf.2,M.NM (M.Ac hf.1) B.l hg.1,hg.2,← M.NM (M.Ac hf.1) (M.Ac hg.1) D.l]
end
end Go.Proofs.YtcnehblmgfbfoaaGreat
set_option linter.unusedVariables false
set_option linter.unusedSectionVars false
set_option linter.unusedSimpArgs false
namespace Go.Proofs.YtcnehblmgfbfoaaGreat
open Go Go.Li
def ql (m:cK) (i j:Int):List (List Int):=(ju m (b9 m i).X (b9 m i).H (b9 m j).X (b9 m j).H).map fun f=>[i,j,f]
def gX (m:cK) (i:Int):List (List Int):=(ns (gL m).length).flatMap (ql m i)
def gW (m:cK):List (List Int):=(ns (gL m).length).flatMap (gX m)
def qR (m:cK) (i j f:Int):Prop:=((0≤i∧i < (gL m).length)∧(0≤j∧j < (gL m).length))∧yc m (b9 m i).X (b9 m i).H (b9 m j).X (b9 m j).H f
noncomputable def Jb (m:cK):List Int:=cf (gL m).length fun i=>jd (gW m) [i,i,gi m.On.aA.aI (b9 m i).X]
noncomputable def n9 (m:cK):aJ:=aJ.mk ((gL m).length:Int) (wU (gW m) 0) (wU (gW m) 1) (Jb m) []
noncomputable def gG (m:cK) (i j:Int):Int:=jd (gW m) [gi (gr (gW m) i) 0,gi (gr (gW m) j) 1,kM m (gi (gr (gW m) i) 2) (gi (gr (gW m) j) 2)]
noncomputable def l6 (m:cK):aJ:=aJ.mk ((gL m).length:Int) (wU (gW m) 0) (wU (gW m) 1) (Jb m) (nj (n9 m) (gG m))
def mj (m:cK):Bool:=decide (((gL m).length:Int)≤8) && decide (((gW m).length:Int)≤40)
section
variable {m:cK} (M:Mon0 m)
include M
theorem yd {r:List Int}:r∈gW m↔∃ i j f:Int,qR m i j f∧r=[i,j,f]:=by
 unfold gW gX ql
 simp only [List.mem_flatMap,List.mem_map]
 constructor
 ·rintro ⟨i,hi,j,hj,f,hf,rfl⟩
  exact ⟨i,j,f,⟨⟨dj.1 hi,dj.1 hj⟩,(DL M).1 hf⟩,rfl⟩
 ·rintro ⟨i,j,f,⟨⟨hi,hj⟩,hf⟩,rfl⟩
  exact ⟨i,dj.2 hi,j,dj.2 hj,f,(DL M).2 hf,rfl⟩
theorem zw (i j:Int):(ql m i j).length≤40:=by
 have cm:=M.mc.m
 unfold ql ju
 rw [List.length_map]
 exact Nat.le_trans (List.length_filter_le _ _) (Nat.le_trans (List.length_filter_le _ _) (by rw [cJ]; exact cm))
theorem DM (n:Nat) (i:Int):((ns n).flatMap (ql m i)).length≤n * 40:=by
 have:=zv (F:=ql m i) (l:=ns n) (b:=40) fun j _=>zw M i j
 rwa [cJ] at this
theorem DN (n:Nat):((ns n).flatMap (gX m)).length≤n * 1600:=by
 have hn:=sU M
 have:=zv (F:=gX m) (l:=ns n) (b:=1600) fun i _=>Nat.le_trans (DM M _ i) (by omega)
 rwa [cJ] at this
theorem gZ:Q3 (gW m):=by
 have hn:=sU M
 have cm:=M.mc.m
 have kl:=DN M (gL m).length
 refine ⟨by unfold gW; omega,?_,fun r hr=>?_,fun r hr=>?_⟩
 ·unfold gW
  refine wT (yb _) (fun x _=>?_) fun x _ x' _ z hz u6=>?_
  ·unfold gX
   refine wT (yb _) (fun y _=>?_) fun y _ y' _ z hz u6=>?_
   ·unfold ql ju
    refine List.Pairwise.map _ (fun a b h=>?_) (List.Pairwise.filter _ (r8 (n:=m.On.aA.aH.length) (p:=xz m.On.aA (b9 m x).X (b9 m y).X)))
    intro e
    injection e with _ e
    injection e with _ e
    injection e with e _
    exact h e
   ·unfold ql at hz u6
    obtain ⟨f,_,rfl⟩:=List.mem_map.1 hz
    obtain ⟨f',_,e⟩:=List.mem_map.1 u6
    injection e with _ e
    injection e with e _
    exact e.symm
  ·unfold gX ql at hz u6
   simp only [List.mem_flatMap,List.mem_map] at hz u6
   obtain ⟨y,_,f,_,rfl⟩:=hz
   obtain ⟨y',_,f',_,e⟩:=u6
   injection e with e _
   exact e.symm
 ·obtain ⟨x,y,f,_,rfl⟩:=(yd M).1 hr
  rfl
 ·obtain ⟨x,y,f,⟨⟨hx,hy⟩,hf⟩,rfl⟩:=(yd M).1 hr
  intro v hv
  have:=hf.1.1
  rcases List.mem_cons.1 hv with rfl | hv
  ·omega
  ·rcases List.mem_cons.1 hv with rfl | hv
   ·omega
   ·obtain rfl:=List.mem_singleton.1 hv
    omega
theorem HB {v:Int} (v0:0≤v) (v1:v < (gW m).length):∃ i j f:Int,qR m i j f∧gr (gW m) v=[i,j,f]:=by
 obtain ⟨i,j,f,h,e⟩:=(yd M).1 (nx v0 v1)
 exact ⟨i,j,f,h,e⟩
theorem DO {i j f:Int} (h:qR m i j f):(0≤jd (gW m) [i,j,f]∧jd (gW m) [i,j,f] < (gW m).length)∧gr (gW m) (jd (gW m) [i,j,f])=[i,j,f]:=
 (vT _ (gZ M).n (gZ M).l).2 ((yd M).2 ⟨i,j,f,h,rfl⟩)
theorem GA {i:Int} (i0:0≤i) (i1:i < (gL m).length):qR m i i (gi m.On.aA.aI (b9 m i).X):=⟨⟨⟨i0,i1⟩,i0,i1⟩,OR M (py M i0 i1)⟩
theorem GB {i j k f g:Int} (hf:qR m i j f) (hg:qR m j k g):qR m i k (kM m f g):=
 ⟨⟨hf.1.1,hg.1.2⟩,OS M (py M hf.1.1.1 hf.1.1.2) (py M hf.1.2.1 hf.1.2.2) (py M hg.1.2.1 hg.1.2.2) hf.2 hg.2⟩
theorem Q4 {i j:Int} (i0:0≤i) (i1:i < (gW m).length) (j0:0≤j) (j1:j < (gW m).length):qm (n9 m) (gG m) i j=bif gi (gr (gW m) i) 1 == gi (gr (gW m) j) 0 then gG m i j else -1:=by
 have _:=M
 unfold qm
 rw [show gi (n9 m).To i=gi (gr (gW m) i) 1 from vU i0 i1,show gi (n9 m).aH j=gi (gr (gW m) j) 0 from vU j0 j1]
theorem DP {v w:Int} (v0:0≤v) (v1:v < (gW m).length) (w0:0≤w) (w1:w < (gW m).length) (e:gi (gr (gW m) v) 1=gi (gr (gW m) w) 0) :
  ∃ i j k f g:Int,qR m i j f∧qR m j k g∧gr (gW m) v=[i,j,f]∧gr (gW m) w=[j,k,g]:=by
 obtain ⟨i,j,f,hf,e1⟩:=HB M v0 v1
 obtain ⟨j',k,g,hg,e2⟩:=HB M w0 w1
 rw [e1,e2] at e
 obtain rfl:j=j':=e
 exact ⟨i,j,k,f,g,hf,hg,e1,e2⟩
theorem Q5 {S:Type} {f:List (List Int)×Int→Option (Out S (aJ×List (List Int)×List (List Int)))} :
  aj (ag 0 (ai (fun s:List (List Int)×Int=>iJ m ((gL m).map ux) s.1 s.2) (([]:List (List Int)),(0:Int)))) f=f (gW m,((gL m).length:Int)):=by
 have hn:=sU M
 have cm:=M.mc.m
 refine cw (ns (gL m).length) (fun i=>((ns i).flatMap (gX m),(i:Int))) rfl (e:=(gW m,((gL m).length:Int))) ?_ ?_
 ·intro i x hx
  obtain ⟨rfl,hi⟩:=cj hx
  have kl:=DN M i
  have Ai:=py M (i:=(i:Int)) (by omega) (by omega)
  show iJ m _ _ (i:Int)=_
  unfold iJ
  rw [List.length_map,ao (by omega),cond_true]
  dsimp only
  generalize r9:(ns i).flatMap (gX m)=acc at kl
  refine (cw (ns (gL m).length) (fun j=>(acc++(ns j).flatMap (ql m i),(j:Int))) (by simp [ns]) (e:=(acc++gX m i,((gL m).length:Int))) ?_ ?_).trans ?_
  ·intro j y hy
   obtain ⟨rfl,hj⟩:=cj hy
   have xl:=DM M j i
   have Aj:=py M (i:=(j:Int)) (by omega) (by omega)
   show jZ m _ (i:Int) _ (j:Int)=_
   unfold jZ
   rw [List.length_map,ao (by omega),cond_true,Aa M (by omega) (by omega),aB,Aa M (by omega) (by omega),aB,Lz M Ai Aj,aB]
   dsimp only
   generalize LB:(ns j).flatMap (ql m i)=DQ at xl
   have hl:(ju m (b9 m i).X (b9 m i).H (b9 m j).X (b9 m j).H).length≤40:=by have:=zw M (i:Int) (j:Int); unfold ql at this; rwa [List.length_map] at this
   refine (cw (ju m (b9 m i).X (b9 m i).H (b9 m j).X (b9 m j).H) (fun k=>((acc++DQ)++((ju m (b9 m i).X (b9 m i).H (b9 m j).X (b9 m j).H).take k).map fun f=>[(i:Int),(j:Int),f],(k:Int))) (by simp) (e:=((acc++DQ)++ql m i j,((ju m (b9 m i).X (b9 m i).H (b9 m j).X (b9 m j).H).length:Int))) ?_ ?_).trans ?_
   ·intro k f hf
    have hk:=bc hf
    show kA (i:Int) (j:Int) (ju m (b9 m i).X (b9 m i).H (b9 m j).X (b9 m j).H) _ (k:Int)=_
    unfold kA
    dsimp only
    have hb:((acc++DQ)++((ju m (b9 m i).X (b9 m i).H (b9 m j).X (b9 m j).H).take k).map fun f=>[(i:Int),(j:Int),f]).length≤100000:=by simp; omega
    rw [ao (by omega),cond_true,bf,hf,aB,eB (by omega) (by omega),aB,bR (by omega),jo hf,List.map_append,← List.append_assoc]; rfl
   ·show kA (i:Int) (j:Int) (ju m (b9 m i).X (b9 m i).H (b9 m j).X (b9 m j).H) _ _=_
    unfold kA
    rw [av (by omega),cond_false,List.take_length]; rfl
   ·dsimp only
    rw [bR (by omega),rA,LB,List.append_assoc]
  ·show jZ m _ (i:Int) _ _=_
   unfold jZ
   rw [List.length_map,cJ,av (by omega),cond_false]; rfl
  ·dsimp only
   rw [bR (by omega),rA,r9]
 ·show iJ m _ _ _=_
  unfold iJ
  rw [List.length_map,cJ,av (by omega),cond_false]; rfl
theorem Q6 {S ρ:Type} {f:List (List Int)×Int→Option (Out S ρ)} :
  aj (ag 0 (ai (fun s:List (List Int)×Int=>(iN m (gL m) s:Option (Out (List (List Int)×Int) ρ))) (([]:List (List Int)),(0:Int)))) f=f (gW m,((gL m).length:Int)):=by
 have hn:=sU M
 have cm:=M.mc.m
 refine cw (ns (gL m).length) (fun i=>((ns i).flatMap (gX m),(i:Int))) rfl (e:=(gW m,((gL m).length:Int))) ?_ ?_
 ·intro i x hx
  obtain ⟨rfl,hi⟩:=cj hx
  have kl:=DN M i
  have Ai:=py M (i:=(i:Int)) (by omega) (by omega)
  unfold iN
  dsimp only
  rw [ao (by omega),cond_true,rz M (by omega) (by omega),aB]
  generalize r9:(ns i).flatMap (gX m)=acc at kl
  refine (cw (ns (gL m).length) (fun j=>(acc++(ns j).flatMap (ql m i),(j:Int))) (by simp [ns]) (e:=(acc++gX m i,((gL m).length:Int))) ?_ ?_).trans ?_
  ·intro j y hy
   obtain ⟨rfl,hj⟩:=cj hy
   have xl:=DM M j i
   have Aj:=py M (i:=(j:Int)) (by omega) (by omega)
   have em:gE m (b9 m i) (b9 m j)=some (ju m (b9 m i).X (b9 m i).H (b9 m j).X (b9 m j).H):=LA M Ai Aj
   unfold lH
   dsimp only
   rw [ao (by omega),cond_true,rz M (by omega) (by omega),aB,em,aB]
   generalize LB:(ns j).flatMap (ql m i)=DQ at xl
   have hl:(ju m (b9 m i).X (b9 m i).H (b9 m j).X (b9 m j).H).length≤40:=by have:=zw M (i:Int) (j:Int); unfold ql at this; rwa [List.length_map] at this
   refine (cw (ju m (b9 m i).X (b9 m i).H (b9 m j).X (b9 m j).H) (fun k=>((acc++DQ)++((ju m (b9 m i).X (b9 m i).H (b9 m j).X (b9 m j).H).take k).map fun f=>[(i:Int),(j:Int),f],(k:Int))) (by simp) (e:=((acc++DQ)++ql m i j,((ju m (b9 m i).X (b9 m i).H (b9 m j).X (b9 m j).H).length:Int))) ?_ ?_).trans ?_
   ·intro k f hf
    have hk:=bc hf
    unfold lJ
    dsimp only
    have hb:((acc++DQ)++((ju m (b9 m i).X (b9 m i).H (b9 m j).X (b9 m j).H).take k).map fun f=>[(i:Int),(j:Int),f]).length≤100000:=by simp; omega
    rw [ao (by omega),cond_true,bf,hf,aB,eB (by omega) (by omega),aB,bR (by omega),jo hf,List.map_append,← List.append_assoc]; rfl
   ·unfold lJ
    dsimp only
    rw [av (by omega),cond_false,List.take_length]; rfl
   ·dsimp only
    rw [bR (by omega),rA,LB,List.append_assoc]
  ·unfold lH
   dsimp only
   rw [cJ,av (by omega),cond_false]; rfl
  ·dsimp only
   rw [bR (by omega),rA,r9]
 ·unfold iN
  dsimp only
  rw [cJ,av (by omega),cond_false]; rfl
theorem wV {F T I:List Int} {K:List (List Int)} (hl:F.length=(gW m).length):iS (aJ.mk ((gL m).length:Int) F T I K)=some (mj m):=by
 have _:=M
 rw [Lw]
 unfold Lv mj
 rw [hl]
theorem LC {i:Int} (i0:0≤i) (i1:i < (gW m).length) {S:Type} {f:List Int×Int→Option (Out S (aJ×List (List Int)×List (List Int)))} :
  aj (ag 10 (ai (fun s:List Int×Int=>iK m (gW m) i s.1 s.2) (([]:List Int),(0:Int)))) f=f (cf (gW m).length (qm (n9 m) (gG m) i),((gW m).length:Int)):=by
 have H:=gZ M
 have hn:=H.n
 have C:=M.mc
 refine cw (ns (gW m).length) (fun j=>(cf j (qm (n9 m) (gG m) i),(j:Int))) rfl (e:=(cf (gW m).length (qm (n9 m) (gG m) i),((gW m).length:Int))) ?_ ?_
 ·intro j x hx
  obtain ⟨rfl,hj⟩:=cj hx
  have ri:=H.l _ (nx i0 i1)
  have rj:=H.l _ (nx (l:=gW m) (j:=(j:Int)) (by omega) (by omega))
  have ml:=cX j (qm (n9 m) (gG m) i)
  rw [jq,Q4 M i0 i1 (by omega) (by omega)]
  show iK m (gW m) i (cf j _) (j:Int)=_
  generalize r9:cf j (qm (n9 m) (gG m) i)=acc at ml
  unfold iK
  rw [ao (by omega),cond_true,po i0 i1,aB,dE (by omega) (by omega),aB,po (by omega) (by omega),aB,dE (by omega) (by omega),aB]
  by_cases e:gi (gr (gW m) i) 1=gi (gr (gW m) j) 0
  ·rw [o5 e,cond_true,cond_true,aB,dE (by omega) (by omega),aB,aB,dE (l:=gr (gW m) (j:Int)) (by omega) (by omega),aB,aB,dE (by omega) (by omega),aB,aB,dE (l:=gr (gW m) (j:Int)) (by omega) (by omega),aB]
   obtain ⟨a,b,c,u,v,hu,hv,e1,e2⟩:=DP M i0 i1 (by omega) (by omega) e
   have hb:dF m.On.aA (gi (gr (gW m) i) 2) (gi (gr (gW m) (j:Int)) 2)=some (kM m (gi (gr (gW m) i) 2) (gi (gr (gW m) (j:Int)) 2)):=by
    rw [e1,e2]
    exact pZ C hu.2.1 hv.2.1
   rw [hb,aB,(vT _ H.n H.l).1,aB,eB (by omega) (by omega),aB,bR (by omega)]; rfl
  ·rw [kz e,cond_false,cond_false,eB (by omega) (by omega),aB,bR (by omega)]
 ·show iK m (gW m) i _ _=_
  unfold iK
  rw [cJ,av (by omega),cond_false]
theorem HC:nW m=some (bif mj m then l6 m else n9 m,(gL m).map ux,gW m):=by
 have C:=M.mc
 have H:=gZ M
 have hn:=H.n
 have ln:=sU M
 have LD:(wU (gW m) 0).length=(gW m).length:=cX _ _
 unfold nW
 rw [Lx M,aB,Q5 M]
 dsimp only
 rw [DR H.n H.l (by omega) (by omega),aB,DR H.n H.l (by omega) (by omega),aB,List.length_map]
 have l3:∀ {S:Type} {f:Int×List Int→Option (Out S (aJ×List (List Int)×List (List Int)))},aj (ag 6 (ai (fun s:Int×List Int=>iL m ((gL m).map ux) (gW m) s.1 s.2) ((0:Int),([]:List Int)))) f=f (((gL m).length:Int),Jb m):=by
  intro S f
  refine cw (ns (gL m).length) (fun i=>((i:Int),cf i fun i=>jd (gW m) [i,i,gi m.On.aA.aI (b9 m i).X])) rfl (e:=(((gL m).length:Int),Jb m)) ?_ ?_
  ·intro i x hx
   obtain ⟨rfl,hi⟩:=cj hx
   have A:=py M (i:=(i:Int)) (by omega) (by omega)
   have ml:=cX i fun i=>jd (gW m) [i,i,gi m.On.aA.aI (b9 m i).X]
   rw [jq]
   show iL m _ (gW m) (i:Int) (cf i _)=_
   generalize (cf i fun i=>jd (gW m) [i,i,gi m.On.aA.aI (b9 m i).X])=acc at ml
   unfold iL
   rw [List.length_map,ao (by omega),cond_true,Aa M (by omega) (by omega),aB,show idx [(b9 m i).X,(b9 m i).H] (0:Int)=some (b9 m i).X from rfl,aB,C.lg A.x0 A.x1,aB,(vT _ H.n H.l).1,aB,eB (by omega) (by omega),aB,bR (by omega)]
  ·show iL m _ (gW m) _ _=_
   unfold iL
   rw [List.length_map,cJ,av (by omega),cond_false]; rfl
 rw [l3]
 dsimp only
 cases hf:mj m with
 | true=>
  rw [cond_true]
  refine (congrArg an (cw (ns (gW m).length) (fun i=>((i:Int),cf i fun f=>cf (gW m).length (qm (n9 m) (gG m) f))) rfl (e:=(((gW m).length:Int),nj (n9 m) (gG m))) ?_ ?_)).trans rfl
  ·intro i x hx
   obtain ⟨rfl,hi⟩:=cj hx
   have ml:=cX i fun f=>cf (gW m).length (qm (n9 m) (gG m) f)
   rw [jq]
   show gO m _ (gW m) _ _ _ (i:Int) (cf i _)=_
   generalize (cf i fun f=>cf (gW m).length (qm (n9 m) (gG m) f))=acc at ml
   unfold gO
   rw [ao (by omega),cond_true,List.length_map,wV M LD,aB,aB,hf,cond_true,LC M (by omega) (by omega)]
   dsimp only
   rw [eB (by omega) (by omega),aB,bR (by omega)]
  ·show gO m _ (gW m) _ _ _ _ _=_
   unfold gO
   rw [cJ,av (by omega),cond_false,aB,cond_false]
   unfold nj
   rw [show (n9 m).aH.length=(gW m).length from LD]
 | false=>
  rw [cond_false]
  refine (congrArg an (cw ([]:List Int) (fun i=>((i:Int),([]:List (List Int)))) rfl (e:=((0:Int),([]:List (List Int)))) ?_ ?_)).trans rfl
  ·intro i x hx; cases hx
  ·show gO m _ (gW m) _ _ _ (0:Int) []=_
   unfold gO
   by_cases hp:(0:Int) < (gW m).length
   ·rw [ao hp,cond_true,List.length_map,wV M LD,aB,aB,hf,cond_false]
   ·rw [av hp,cond_false,aB,cond_false]
theorem zx {i j f:Int} (h:qR m i j f):eZ (vV (gW m)) i j f=some (jd (gW m) [i,j,f]):=by
 unfold eZ
 rw [DS (by simp),aB,Q7 (gZ M) ((yd M).2 ⟨i,j,f,h,rfl⟩)]; rfl
theorem Q8 {i j:Int} (i0:0≤i) (i1:i < (gW m).length) (j0:0≤j) (j1:j < (gW m).length) (e:gi (gr (gW m) i) 1=gi (gr (gW m) j) 0):fP i j (gW m) (vV (gW m)) m.On.aA=some (gG m i j):=by
 have H:=gZ M
 have C:=M.mc
 obtain ⟨a,b,c,u,v,hu,hv,e1,e2⟩:=DP M i0 i1 j0 j1 e
 unfold fP
 rw [po i0 i1,aB,po j0 j1,aB]
 unfold gG
 rw [e1,e2]
 show an (S:=Unit) (cP m.On.aA u v>>=fun ye=>eZ (vV (gW m)) a c ye>>=_)=some (jd (gW m) [a,c,kM m u v])
 have e3:eZ (vV (gW m)) a c (gk m.On.aA.aG u v)=some (jd (gW m) [a,c,kM m u v]):=zx M (GB M hu hv)
 rw [tZ C hu.2.1 hv.2.1,aB,e3,aB]; rfl
theorem LF:kJ m=some (bif mj m then (some (l6 m,gL m,gW m,vV (gW m)),true) else (none,false)):=by
 have C:=M.mc
 have H:=gZ M
 have hn:=H.n
 have ln:=sU M
 unfold kJ
 rw [Ly M,aB]
 by_cases h8:((gL m).length:Int)≤8
 ·rw [av (by omega),cond_false,Q6 M]
  dsimp only
  by_cases VP:((gW m).length:Int)≤40
  ·have hf:mj m=true:=by unfold mj; rw [ao h8,ao VP]; rfl
   rw [av (by omega),cond_false,HD H,aB,DU H.n H.l (by omega) (by omega),aB,DU H.n H.l (by omega) (by omega),aB,hf,cond_true]
   refine (congrArg an (cw (ns (gL m).length) (fun i=>(cf i fun i=>jd (gW m) [i,i,gi m.On.aA.aI (b9 m i).X],(i:Int))) rfl (e:=(Jb m,((gL m).length:Int))) ?_ ?_)).trans ?_
   ·intro i x hx
    obtain ⟨rfl,hi⟩:=cj hx
    have A:=py M (i:=(i:Int)) (by omega) (by omega)
    have ml:=cX i fun i=>jd (gW m) [i,i,gi m.On.aA.aI (b9 m i).X]
    rw [jq]
    show gF m (vV (gW m)) (gL m) (cf i _,(i:Int))=_
    generalize (cf i fun i=>jd (gW m) [i,i,gi m.On.aA.aI (b9 m i).X])=acc at ml
    unfold gF
    dsimp only
    rw [ao (by omega),cond_true,rz M (by omega) (by omega),aB,C.lg A.x0 A.x1,aB,zx M (GA M (by omega) (by omega)),aB,eB (by omega) (by omega),aB,bR (by omega)]
   ·show gF m (vV (gW m)) (gL m) (_,_)=_
    unfold gF
    dsimp only
    rw [cJ,av (by omega),cond_false]; rfl
   ·dsimp only
    have hl:(n9 m).aH.length=(gW m).length:=cX _ _
    have ht:(n9 m).To.length=(gW m).length:=cX _ _
    have:=Jc (c:=n9 m) (g:=fun a0 a1=>fP a0 a1 (gW m) (vV (gW m)) m.On.aA) (G:=gG m) (by omega) (by omega) fun f h f0 f1 h0 h1 e=>by
     rw [hl] at f1 h1
     rw [show gi (n9 m).To f=gi (gr (gW m) f) 1 from vU f0 f1,show gi (n9 m).aH h=gi (gr (gW m) h) 0 from vU h0 h1] at e
     exact Q8 M f0 f1 h0 h1 e
    unfold n9 at this
    rw [this,aB]; rfl
  ·have hf:mj m=false:=by unfold mj; rw [av VP,Bool.and_false]
   rw [ao (by omega),cond_true,hf]; rfl
 ·have hf:mj m=false:=by unfold mj; rw [av h8,Bool.false_and]
  rw [ao (by omega),cond_true,hf]; rfl
end
end Go.Proofs.YtcnehblmgfbfoaaGreat
set_option linter.unusedVariables false
set_option linter.unusedSectionVars false
set_option linter.unusedSimpArgs false
namespace Go.Proofs.YtcnehblmgfbfoaaGreat
open Go Go.Li
theorem LG {c:aJ} {n k:Nat} {G:Int→Int→Int→Prop} {F:Int→Int→Int→Int} {I:Int→Int} {J:Int→Int→Int}
  (n8:n≤8) (VR:k≤40) (ho:c.aE=(n:Int)) (hl:c.aH.length=k) (lT:c.To.length=k) (lI:c.aI.length=n) (lK:c.aG.length=k) (br:∀ f:Int,0≤f→f < k→(gr c.aG f).length=k)
  (hi:∀ i:Int,0≤i→i < n→gi c.aI i=F i i (I i)) (Je:∀ i:Int,0≤i→i < n→G i i (I i))
  (gb:∀ i j f:Int,G i j f→(0≤i∧i < n)∧(0≤j∧j < n)) (qH:∀ i j f:Int,G i j f→ch c i j (F i j f)) (hr:∀ v:Int,0≤v→v < k→∃ i j f:Int,G i j f∧v=F i j f)
  (Q9:∀ i j l f g:Int,G i j f→G j l g→G i l (J f g)) (DV:∀ i j l f g:Int,G i j f→G j l g→gk c.aG (F i j f) (F j l g)=F i l (J f g)) (hn:∀ f g:Int,0≤f→f < k→0≤g→g < k→gi c.To f≠gi c.aH g→gk c.aG f g = -1)
  (uL:∀ i j f:Int,G i j f→J (I i) f=f) (uR:∀ i j f:Int,G i j f→J f (I j)=f) (hA:∀ i j l o f g h:Int,G i j f→G j l g→G l o h→J (J f g) h=J f (J g h)):gj c:=by
 have Ra:∀ x:Int,0≤x→x < n→ch c x x (gi c.aI x):=fun x x0 x1=>by rw [hi x x0 x1]; exact qH _ _ _ (Je x x0 x1)
 refine { o0:=by omega,o8:=by omega,m:=by omega,f:=fun x hx=>?_,tl:=by omega,t:=fun x hx=>?_,kl:=by omega,il:=by omega,i:=fun x hx=>?_,BZ:=fun x x0 x1=>(Ra x x0 (by omega)).2.1,GC:=fun x x0 x1=>(Ra x x0 (by omega)).2.2,row:=fun f f0 f1=>?_,cell:=fun f g f0 f1 g0 g1 e=>?_,none:=fun f g f0 f1 g0 g1 e=>?_,Ad:=fun f f0 f1=>?_,Ae:=fun f f0 f1=>?_,assoc:=fun p q r p0 p1 q0 q1 r0 r1 e1 e2=>?_ }
 ·obtain ⟨v,v0,v1,rfl⟩:=Af hx
  obtain ⟨i,j,f,h,rfl⟩:=hr v v0 (by omega)
  rw [(qH _ _ _ h).2.1,ho]; exact (gb _ _ _ h).1
 ·obtain ⟨v,v0,v1,rfl⟩:=Af hx
  obtain ⟨i,j,f,h,rfl⟩:=hr v v0 (by omega)
  rw [(qH _ _ _ h).2.2,ho]; exact (gb _ _ _ h).2
 ·obtain ⟨v,v0,v1,rfl⟩:=Af hx
  exact (Ra v v0 (by omega)).1
 ·rw [br f f0 (by omega),hl]
 ·obtain ⟨i,j,u,h,rfl⟩:=hr f f0 (by omega)
  obtain ⟨j',l,v,h',rfl⟩:=hr g g0 (by omega)
  rw [(qH _ _ _ h).2.2,(qH _ _ _ h').2.1] at e
  subst e
  have:=qH _ _ _ (Q9 _ _ _ _ _ h h')
  rw [DV _ _ _ _ _ h h',(qH _ _ _ h).2.1,(qH _ _ _ h').2.2]
  exact ⟨this.1.1,this.1.2,this.2.1,this.2.2⟩
 ·exact hn f g f0 (by omega) g0 (by omega) e
 ·obtain ⟨i,j,u,h,rfl⟩:=hr f f0 (by omega)
  have b:=(gb _ _ _ h).1
  rw [(qH _ _ _ h).2.1,hi _ b.1 b.2,DV _ _ _ _ _ (Je _ b.1 b.2) h,uL _ _ _ h]
 ·obtain ⟨i,j,u,h,rfl⟩:=hr f f0 (by omega)
  have b:=(gb _ _ _ h).2
  rw [(qH _ _ _ h).2.2,hi _ b.1 b.2,DV _ _ _ _ _ h (Je _ b.1 b.2),uR _ _ _ h]
 ·obtain ⟨i,j,u,h,rfl⟩:=hr p p0 (by omega)
  obtain ⟨j',l,v,h',rfl⟩:=hr q q0 (by omega)
  obtain ⟨l',o,w,h2,rfl⟩:=hr r r0 (by omega)
  rw [(qH _ _ _ h).2.2,(qH _ _ _ h').2.1] at e1
  rw [(qH _ _ _ h').2.2,(qH _ _ _ h2).2.1] at e2
  subst e1 e2
  rw [DV _ _ _ _ _ h h',DV _ _ _ _ _ h' h2,DV _ _ _ _ _ (Q9 _ _ _ _ _ h h') h2,DV _ _ _ _ _ h (Q9 _ _ _ _ _ h' h2),hA _ _ _ _ _ _ _ h h' h2]
section
variable {m:cK} (M:Mon0 m)
include M
theorem Jf:(l6 m).aH.length=(gW m).length:=cX _ _
theorem Rb {v:Int} (v0:0≤v) (v1:v < (gW m).length):gi (l6 m).aH v=gi (gr (gW m) v) 0:=vU v0 v1
theorem Rc {v:Int} (v0:0≤v) (v1:v < (gW m).length):gi (l6 m).To v=gi (gr (gW m) v) 1:=vU v0 v1
theorem Re {i:Int} (i0:0≤i) (i1:i < (gL m).length):gi (l6 m).aI i=jd (gW m) [i,i,gi m.On.aA.aI (b9 m i).X]:=qA i0 i1
theorem Rf {v w:Int} (v0:0≤v) (v1:v < (gW m).length) (w0:0≤w) (w1:w < (gW m).length):gk (l6 m).aG v w=bif gi (gr (gW m) v) 1 == gi (gr (gW m) w) 0 then gG m v w else -1:=by
 have hl:(n9 m).aH.length=(gW m).length:=cX _ _
 rw [← Q4 M v0 v1 w0 w1]
 show gi (gr (nj (n9 m) (gG m)) v) w=_
 unfold nj
 rw [hl,GD v0 v1,qA w0 w1]
theorem CD {i j f:Int} (h:qR m i j f):ch (l6 m) i j (jd (gW m) [i,j,f]):=by
 obtain ⟨⟨h0,h1⟩,e⟩:=DO M h
 refine ⟨⟨h0,by rw [Jf M]; exact h1⟩,?_,?_⟩
 ·rw [Rb M h0 h1,e]; rfl
 ·rw [Rc M h0 h1,e]; rfl
theorem GF {i j k f g:Int} (hf:qR m i j f) (hg:qR m j k g):gk (l6 m).aG (jd (gW m) [i,j,f]) (jd (gW m) [j,k,g])=jd (gW m) [i,k,kM m f g]:=by
 obtain ⟨⟨h0,h1⟩,e⟩:=DO M hf
 obtain ⟨⟨k0,k1⟩,e'⟩:=DO M hg
 rw [Rf M h0 h1 k0 k1]
 unfold gG
 rw [e,e',show (gi [i,j,f] 1 == gi [j,k,g] 0)=true by show (j == j)=true; simp,cond_true]; rfl
theorem Rh {v:Int} (v0:0≤v) (v1:v < (gW m).length):∃ i j f:Int,qR m i j f∧v=jd (gW m) [i,j,f]:=by
 obtain ⟨i,j,f,h,e⟩:=HB M v0 v1
 exact ⟨i,j,f,h,by rw [← e,Ri (gZ M) v0 v1]⟩
theorem zy (hf:mj m=true):gj (l6 m):=by
 have hh:=hf
 unfold mj at hh
 simp only [Bool.and_eq_true,decide_eq_true_eq] at hh
 have n8:(gL m).length≤8:=by have:=hh.1; omega
 have VR:(gW m).length≤40:=by have:=hh.2; omega
 have ze:(n9 m).aH.length=(gW m).length:=cX _ _
 have eK:(l6 m).aG=nj (n9 m) (gG m):=by unfold l6; rfl
 have lK:(l6 m).aG.length=(gW m).length:=by rw [eK]; unfold nj; rw [cX,ze]
 have br:∀ f:Int,0≤f→f < (gW m).length→(gr (l6 m).aG f).length=(gW m).length:=fun f f0 f1=>by
  rw [eK]
  unfold nj
  rw [ze,GD f0 f1,cX]
 refine LG (c:=l6 m) (n:=(gL m).length) (k:=(gW m).length) (G:=qR m) (F:=fun i j f=>jd (gW m) [i,j,f]) (I:=fun i=>gi m.On.aA.aI (b9 m i).X) (J:=kM m) n8 VR rfl (Jf M) (cX _ _) (cX _ _) lK br (fun i i0 i1=>Re M i0 i1) (fun i i0 i1=>GA M i0 i1) (fun i j f h=>h.1) (fun i j f h=>CD M h) (fun v v0 v1=>Rh M v0 v1) (fun i j l f g h h'=>GB M h h') (fun i j l f g h h'=>GF M h h') (fun f g f0 f1 g0 g1 e=>?_) (fun i j f h=>Ja M.mc h.2.1) (fun i j f h=>I9 M.mc h.2.1) (fun i j l o f g h u v w=>M.NM u.2.1 v.2.1 w.2.1)
 rw [Rb M g0 g1,Rc M f0 f1] at e
 rw [Rf M f0 f1 g0 g1,kz e,cond_false]
theorem OT {i:Int} (i0:0≤i) (i1:i < (gL m).length):eU ((gL m).map ux) [(b9 m i).X,(b9 m i).H]=some i:=by
 have ln:=sU M
 have h:Ok (eU ((gL m).map ux) [(b9 m i).X,(b9 m i).H]) fun r=>r=i:=by
  unfold eU
  refine Rj (ol (fun s:Int=>0≤s∧s≤i) (fun s=>(i - s).toNat) ⟨by omega,by omega⟩ ?_)
  rintro s ⟨s0,s1⟩
  show Ok (mY _ _ s) _
  unfold mY
  rw [List.length_map,ao (by omega),cond_true,Aa M s0 (by omega),aB,uy _ _ (by simp),aB]
  refine oc (fun e=>os ?_) fun e=>?_
  ·show s=i
   have e':=eq_of_beq e
   injection e' with e1 e'
   injection e' with e2 _
   refine Gz M s0 (by omega) i0 i1 ?_
   cases h1:b9 m s; cases h2:b9 m i
   rw [h1,h2] at e1 e2
   dsimp only at e1 e2
   rw [e1,e2]
  ·have mh:s≠i:=fun hs=>by subst hs; simp at e
   refine os ⟨⟨?_,?_⟩,?_⟩
   all_goals rw [oS (by omega) (by omega)]
   all_goals (try dsimp only)
   all_goals omega
 obtain ⟨r,hr,rfl⟩:=h
 exact hr
theorem OU {i:Int} (i0:0≤i) (i1:i < (gL m).length):fV (gL m) (b9 m i)=some i:=by
 have ln:=sU M
 have h:Ok (fV (gL m) (b9 m i)) fun r=>r=i:=by
  unfold fV
  refine Rj (ol (fun s:Int=>0≤s∧s≤i) (fun s=>(i - s).toNat) ⟨by omega,by omega⟩ ?_)
  rintro s ⟨s0,s1⟩
  show Ok (kR _ _ s) _
  unfold kR
  rw [ao (by omega),cond_true,rz M s0 (by omega),aB]
  refine oc (fun e=>os ?_) fun e=>?_
  ·show s=i
   simp only [Bool.and_eq_true,beq_iff_eq] at e
   refine Gz M s0 (by omega) i0 i1 ?_
   cases h1:b9 m s; cases h2:b9 m i
   rw [h1,h2] at e
   dsimp only at e
   rw [e.1,e.2]
  ·have mh:s≠i:=fun hs=>by subst hs; simp at e
   refine os ⟨⟨?_,?_⟩,?_⟩
   all_goals rw [oS (by omega) (by omega)]
   all_goals (try dsimp only)
   all_goals omega
 obtain ⟨r,hr,rfl⟩:=h
 exact hr
end
def ba (a:bI):cK:=cK.mk (mb a.Left a.ae) a.Unit (cf a.Left.aA.aE.toNat fun x=>gi a.ae.ab (gi a.aw (gi a.Left.aE x)))
section
variable {a:bI} (A:Adj a)
include A
theorem jL {x y u:Int} (h:ch a.Left.aA x y u):ch a.Left.aF (gi a.Left.aE x) (gi a.Left.aE y) (gi a.Left.ab u):=GG (bw A.fb) h
theorem jR {x y g:Int} (h:ch a.Left.aF x y g):ch a.Left.aA (gi a.ae.aE x) (gi a.ae.aE y) (gi a.ae.ab g):=by
 have:=A.ara h.1.1 h.1.2
 rw [h.2.1,h.2.2] at this
 exact this
theorem jK {y:Int} (y0:0≤y) (y1:y < a.Left.aF.aE):ch a.Left.aF (gi a.Left.aE (gi a.ae.aE y)) y (gi a.aw y):=A.ak y0 y1
theorem jU {x:Int} (x0:0≤x) (x1:x < a.Left.aA.aE):ch a.Left.aA x (gi a.ae.aE (gi a.Left.aE x)) (gi a.Unit x):=A.au x0 x1
theorem zf {x y z g k:Int} (h:ch a.Left.aF x y g) (h':ch a.Left.aF y z k):gi a.ae.ab (gk a.Left.aF.aG g k)=gk a.Left.aA.aG (gi a.ae.ab g) (gi a.ae.ab k):=A.arc h.1.1 h.1.2 h'.1.1 h'.1.2 (by rw [h.2.2,h'.2.1])
theorem NN {x y g:Int} (h:ch a.Left.aF x y g):gk a.Left.aF.aG (gi a.Left.ab (gi a.ae.ab g)) (gi a.aw y)=gk a.Left.aF.aG (gi a.aw x) g:=by
 have:=A.aks h.1.1 h.1.2
 rw [h.2.1,h.2.2] at this
 exact this
theorem VS {y:Int} (y0:0≤y) (y1:y < a.Left.aF.aE):gi a.ae.ab (gi a.Left.aF.aI y)=gi a.Left.aA.aI (gi a.ae.aE y):=by
 have:=(bw A.gb).un y y0 (by rw [← A.e2]; exact y1)
 rw [← A.e2,← A.e1] at this
 exact this
theorem Bc {x:Int} (x0:0≤x) (x1:x < a.Left.aA.aE):oM (ba a) x=gi a.ae.aE (gi a.Left.aE x):=ko x0 (by rw [(bw A.fb).ol]; exact x1)
theorem Bd {x y u:Int} (h:ch a.Left.aA x y u):aM (ba a) u=gi a.ae.ab (gi a.Left.ab u):=ko h.1.1 (by rw [(bw A.fb).al]; exact h.1.2)
theorem wW {x:Int} (x0:0≤x) (x1:x < a.Left.aA.aE):gi (ba a).cb x=gi a.ae.ab (gi a.aw (gi a.Left.aE x)):=qA x0 (by omega)
theorem DW:dk (ba a).On=true:=uz A.fb A.gb A.e2
theorem NO {x:Int} (x0:0≤x) (x1:x < a.Left.aA.aE):ch a.Left.aA (oM (ba a) (oM (ba a) x)) (oM (ba a) x) (gi (ba a).cb x):=by
 have l:=A.DX x0 x1
 have r:=A.Rk l.1 l.2
 rw [Bc A x0 x1,Bc A r.1 r.2,wW A x0 x1]
 exact jR A (jK A l.1 l.2)
theorem T5 {x y u:Int} (h:ch a.Left.aA x y u):gk a.Left.aA.aG (aM (ba a) (aM (ba a) u)) (gi (ba a).cb y)=gk a.Left.aA.aG (gi (ba a).cb x) (aM (ba a) u):=by
 have bx:=yf A.aC h
 have zg:=Ag A.aC h
 have lx:=A.DX bx.1 bx.2
 have ly:=A.DX zg.1 zg.2
 have hl:=jL A h
 have hr:=jR A hl
 rw [Bd A h,Bd A hr,wW A zg.1 zg.2,wW A bx.1 bx.2,← zf A (jL A hr) (jK A ly.1 ly.2),NN A hl,zf A (jK A lx.1 lx.2) hl]
theorem Jg:dx (B0 (ba a))=true:=by
 have fb:=DW A
 have F:=bw fb
 have o0:=A.aC.o0
 have es:(ba a).On.aA=a.Left.aA:=rfl
 have et:(ba a).On.aF=a.Left.aA:=A.e1.symm
 have jl:∀ x:Int,0≤x→x < a.Left.aA.aE→ch a.Left.aA (oM (ba a) (oM (ba a) x)) (oM (ba a) x) (gi (ba a).cb x):=fun x x0 x1=>NO A x0 x1
 refine Rl (t:=B0 (ba a)) (uz fb fb (et.trans es.symm)) fb rfl rfl ?_ (fun y hy=>?_) (fun x x0 x1=>?_) (fun x x0 x1=>?_) fun u u0 u1=>?_
 ·show ((cf _ _).length:Int)=a.Left.aA.aE; rw [cX]; omega
 ·show 0≤y∧y < ((ba a).On.aF.aH.length:Int)
  rw [et]
  obtain ⟨x,hx,rfl⟩:=uA.1 hy
  have:=jl x hx.1 (by omega)
  rw [wW A hx.1 (by omega)] at this
  exact this.1
 ·show gi (ba a).On.aF.aH (gi (ba a).cb x)=gi (thenS (ba a).On.aE (ba a).On.aE) x
  rw [et,(jl x x0 x1).2.1,ko x0 (by rw [F.ol]; exact x1)]; rfl
 ·show gi (ba a).On.aF.To (gi (ba a).cb x)=gi (ba a).On.aE x
  rw [et,(jl x x0 x1).2.2]; rfl
 ·have h:ch a.Left.aA (gi a.Left.aA.aH u) (gi a.Left.aA.To u) u:=⟨⟨u0,u1⟩,rfl,rfl⟩
  show gk (ba a).On.aF.aG (gi (thenS (ba a).On.ab (ba a).On.ab) u) (gi (ba a).cb (gi a.Left.aA.To u))=gk (ba a).On.aF.aG (gi (ba a).cb (gi a.Left.aA.aH u)) (gi (ba a).On.ab u)
  rw [et,ko u0 (by rw [F.al]; exact u1)]
  exact T5 A h
theorem vW:Mon0 (ba a):=⟨DW A,A.e1,A.ub,Jg A⟩
theorem Rm:DY (ba a)=true:=by
 have o0:=A.aC.o0
 have WW:DZ (ba a)=true:=by
  unfold DZ
  rw [Bool.not_eq_true',dn]
  intro x x0 x1
  have x1:x < a.Left.aA.aE:=by
   have:x < ((a.Left.aA.aE.toNat:Nat):Int):=x1
   omega
  have l:=A.DX x0 x1
  have r:=A.Rk l.1 l.2
  have lr:=A.DX r.1 r.2
  have hu:=jU A x0 x1
  have hk:=jK A l.1 l.2
  have e1:kM (ba a) (aM (ba a) (gi (ba a).Unit x)) (gi (ba a).cb x)=gi (ba a).On.aA.aI (oM (ba a) x):=by
   show gk a.Left.aA.aG (aM (ba a) (gi a.Unit x)) (gi (ba a).cb x)=gi a.Left.aA.aI (oM (ba a) x)
   rw [Bd A hu,wW A x0 x1,Bc A x0 x1,← zf A (jL A hu) hk,show gk a.Left.aF.aG (gi a.Left.ab (gi a.Unit x)) (gi a.aw (gi a.Left.aE x))=_ from A.t1 x x0 x1,VS A l.1 l.2]
  have e2:kM (ba a) (gi (ba a).Unit (oM (ba a) x)) (gi (ba a).cb x)=gi (ba a).On.aA.aI (oM (ba a) x):=by
   show gk a.Left.aA.aG (gi a.Unit (oM (ba a) x)) (gi (ba a).cb x)=gi a.Left.aA.aI (oM (ba a) x)
   rw [wW A x0 x1,Bc A x0 x1]
   exact A.t2 _ l.1 l.2
  have e3:kM (ba a) (aM (ba a) (gi (ba a).cb x)) (gi (ba a).cb x)=kM (ba a) (gi (ba a).cb (oM (ba a) x)) (gi (ba a).cb x):=by
   have hj:=NO A x0 x1
   have DB:=jR A hk
   show gk a.Left.aA.aG (aM (ba a) (gi (ba a).cb x)) (gi (ba a).cb x)=gk a.Left.aA.aG (gi (ba a).cb (oM (ba a) x)) (gi (ba a).cb x)
   rw [Bd A hj,Bc A x0 x1,wW A r.1 r.2,wW A x0 x1,← zf A (jL A DB) hk,NN A hk,zf A (jK A lr.1 lr.2) hk]
  unfold D0
  rw [sa e1,sa e2,sa e3]; rfl
 unfold DY
 rw [DW A,ib.2 (show (ba a).On.aA=(ba a).On.aF from A.e1),show dx (D1 (ba a))=true from A.ub,Jg A,WW]; rfl
theorem OV {y:Int} (y0:0≤y) (y1:y < a.Left.aF.aE):u7 (ba a) (gi a.ae.aE y) (gi a.ae.ab (gi a.aw y)):=by
 have r:=A.Rk y0 y1
 have lr:=A.DX r.1 r.2
 have hk:=jK A y0 y1
 have hr:=jR A hk
 refine ⟨r.1,r.2,?_,?_,?_⟩
 ·show ch a.Left.aA (oM (ba a) (gi a.ae.aE y)) _ _
  rw [Bc A r.1 r.2]; exact hr
 ·exact A.t2 y y0 y1
 ·show gk a.Left.aA.aG (aM (ba a) _) _=gk a.Left.aA.aG (gi (ba a).cb _) _
  rw [Bd A hr,wW A r.1 r.2,← zf A (jL A hr) hk,NN A hk,zf A (jK A lr.1 lr.2) hk]
theorem OX {x y g:Int} (h:ch a.Left.aF x y g):yc (ba a) (gi a.ae.aE x) (gi a.ae.ab (gi a.aw x)) (gi a.ae.aE y) (gi a.ae.ab (gi a.aw y)) (gi a.ae.ab g):=by
 have bx:=yf A.aD h
 have zg:=Ag A.aD h
 have hr:=jR A h
 refine ⟨hr,?_⟩
 show gk a.Left.aA.aG _ _=gk a.Left.aA.aG (aM (ba a) _) _
 rw [Bd A hr,← zf A (jK A bx.1 bx.2) h,← zf A (jL A hr) (jK A zg.1 zg.2),NN A h]
end
noncomputable def iH (a:bI) (y:Int):Int:=(eU ((gL (ba a)).map ux) [gi a.ae.aE y,gi a.ae.ab (gi a.aw y)]).getD (-1)
noncomputable def lh (a:bI):aN:=aN.mk a.Left.aF (l6 (ba a)) (cf a.Left.aF.aE.toNat (iH a)) (cf a.Left.aF.aH.length fun g=>jd (gW (ba a)) [iH a (gi a.Left.aF.aH g),iH a (gi a.Left.aF.To g),gi a.ae.ab g])
section
variable {a:bI} (A:Adj a)
include A
theorem vX {y:Int} (y0:0≤y) (y1:y < a.Left.aF.aE):((0≤iH a y∧iH a y < (gL (ba a)).length)∧b9 (ba a) (iH a y) = ⟨gi a.ae.aE y,gi a.ae.ab (gi a.aw y)⟩)∧eU ((gL (ba a)).map ux) [gi a.ae.aE y,gi a.ae.ab (gi a.aw y)]=some (iH a y)∧fV (gL (ba a)) ⟨gi a.ae.aE y,gi a.ae.ab (gi a.aw y)⟩ = some (iH a y):=by
 have M:=vW A
 obtain ⟨i,⟨i0,i1⟩,e⟩:=Q1 M ((DK M (a:=⟨gi a.ae.aE y,gi a.ae.ab (gi a.aw y)⟩)).2 (OV A y0 y1))
 have h1:=OT M i0 i1
 have h2:=OU M i0 i1
 rw [e] at h1 h2
 dsimp only at h1
 have hx:iH a y=i:=by unfold iH; rw [h1]; rfl
 rw [hx]
 exact ⟨⟨⟨i0,i1⟩,e⟩,h1,h2⟩
theorem sA {x y g:Int} (h:ch a.Left.aF x y g):qR (ba a) (iH a x) (iH a y) (gi a.ae.ab g):=by
 have bx:=yf A.aD h
 have zg:=Ag A.aD h
 have k1:=(vX A bx.1 bx.2).1
 have k2:=(vX A zg.1 zg.2).1
 refine ⟨⟨k1.1,k2.1⟩,?_⟩
 rw [k1.2,k2.2]
 exact OX A h
theorem GH (hf:mj (ba a)=true):dk (lh a)=true:=by
 have M:=vW A
 have D:=A.aD
 have o0:=D.o0
 have Ro:∀ y:Int,0≤y→y < a.Left.aF.aE→gi (lh a).aE y=iH a y:=fun y y0 y1=>qA y0 (by omega)
 have lf:∀ g:Int,0≤g→g < a.Left.aF.aH.length→ch a.Left.aF (gi a.Left.aF.aH g) (gi a.Left.aF.To g) g:=fun g g0 g1=>⟨⟨g0,g1⟩,rfl,rfl⟩
 have GI:∀ {x y g:Int},ch a.Left.aF x y g→gi (lh a).ab g=jd (gW (ba a)) [iH a x,iH a y,gi a.ae.ab g]:=fun {x y g} h=>by
  have:=qA (n:=a.Left.aF.aH.length) (g:=fun g=>jd (gW (ba a)) [iH a (gi a.Left.aF.aH g),iH a (gi a.Left.aF.To g),gi a.ae.ab g]) h.1.1 h.1.2
  rw [h.2.1,h.2.2] at this
  exact this
 refine D2 (f:=lh a) (Ah D) (Ah (zy M hf)) ?_ (cX _ _) (fun y hy=>?_) (fun y hy=>?_) (fun g g0 g1=>?_) (fun g g0 g1=>?_) (fun y y0 y1=>?_) fun f g f0 f1 g0 g1 e=>?_
 ·show ((cf _ _).length:Int)=a.Left.aF.aE; rw [cX]; omega
 ·obtain ⟨i,hi,rfl⟩:=uA.1 hy
  exact (vX A hi.1 (by omega)).1.1
 ·obtain ⟨g,hg,rfl⟩:=uA.1 hy
  exact (CD M (sA A (lf g hg.1 hg.2))).1
 ·have h:=lf g g0 g1
  have b:=yf D h
  rw [GI h]
  show gi (l6 (ba a)).aH _=gi (lh a).aE (gi a.Left.aF.aH g)
  rw [(CD M (sA A h)).2.1,Ro _ b.1 b.2]
 ·have h:=lf g g0 g1
  have b:=Ag D h
  rw [GI h]
  show gi (l6 (ba a)).To _=gi (lh a).aE (gi a.Left.aF.To g)
  rw [(CD M (sA A h)).2.2,Ro _ b.1 b.2]
 ·have h:=I8 D y0 y1
  have k:=(vX A y0 y1).1
  show gi (lh a).ab (gi a.Left.aF.aI y)=gi (l6 (ba a)).aI (gi (lh a).aE y)
  rw [GI h,Ro y y0 y1,Re M k.1.1 k.1.2,k.2,VS A y0 y1]; rfl
 ·have h:ch a.Left.aF (gi a.Left.aF.aH f) (gi a.Left.aF.To f) f:=lf f f0 f1
  have h':ch a.Left.aF (gi a.Left.aF.To f) (gi a.Left.aF.To g) g:=⟨⟨g0,g1⟩,e.symm,rfl⟩
  show gi (lh a).ab (gk a.Left.aF.aG f g)=gk (l6 (ba a)).aG (gi (lh a).ab f) (gi (lh a).ab g)
  rw [GI (D3 D h h'),GI h,GI h',GF M (sA A h) (sA A h'),zf A h h']; rfl
end
end Go.Proofs.YtcnehblmgfbfoaaGreat
