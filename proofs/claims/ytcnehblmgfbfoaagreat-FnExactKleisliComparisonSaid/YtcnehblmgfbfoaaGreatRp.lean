/- Monads, as both sides test them: one test. No condition beside those that each theorem names. -/
import Derived.Test.YtcnehblmgfbfoaaGreatTn
set_option linter.unusedVariables false
set_option linter.unusedSectionVars false
set_option linter.unusedSimpArgs false
namespace Go.Proofs.YtcnehblmgfbfoaaGreat
open Go Go.Li
set_option linter.unusedVariables false
set_option linter.unusedSectionVars false
set_option linter.unusedSimpArgs false
theorem Gv {c:aH} (H:gp c) (x y:Int):jF c x y=some ((ns c.aF.length).filter (yA c x y)):=by
 have hm:=H.m
 unfold jF
 refine (congrArg an (uO (ns c.aF.length) (yA c x y) (fun acc i=>(acc,(i:Int))) rfl ?_ ?_)).trans rfl
 ·intro i a acc ha px
  obtain ⟨rfl,hi⟩:=ca ha
  show jU c x y acc i=_
  unfold jU
  have e1:=H.jk (f:=(i:Int)) (by omega) (by omega)
  have e3:=H.jx (f:=(i:Int)) (by omega) (by omega)
  rw [aq (by omega),cond_true,cR (by omega) (by omega)]
  simp only [e1,e3,aA,bK (show i < 9223372036854775807 by omega)]
  unfold yA
  cases gi c.aF (i:Int) == x with
  | false=>rfl
  | true=>cases gi c.To (i:Int) == y <;> rfl
 ·intro acc
  show jU c x y acc _=_
  unfold jU
  rw [bS,au (by omega),cond_false]
theorem AJ {c:aH} (C:gp c) {x f:Int} (h:cj c x x f):jT c f=some (gi c.aG x == f):=by
 have k:=I4 C h
 unfold jT
 rw [C.jk h.1.1 h.1.2,aA,h.2.1,C.py k.1 k.2,aA]; rfl
theorem ku {c:aH} (C:gp c) {x y z u v:Int} (h:cj c x y u) (h':cj c y z v):cJ c u v=some (gk c.aC u v):=C.thenS h.1.1 h.1.2 h'.1.1 h'.1.2
theorem kv {c:aH} (C:gp c) {x y z u v:Int} (h:cj c x y u) (h':cj c y z v):bT c u v=some (gk c.aC u v):=C.nc h.1.1 h.1.2 h'.1.1 h'.1.2
section
variable {m:bB} (M:Mon0 m)
include M
theorem xS {x:Int} (x0:0≤x) (x1:x < m.On.aB.aD):idx m.Unit x=some (gi m.Unit x):=cI x0 (by have:=M.Ux; omega)
theorem sO {x:Int} (x0:0≤x) (x1:x < m.On.aB.aD):idx m.ba x=some (gi m.ba x):=cI x0 (by have:=M.mjL; omega)
theorem r7 {x:Int} (x0:0≤x) (x1:x < m.On.aB.aD):idx m.On.aD x=some (oM m x):=(ik M.fb).uk x0 x1
theorem ry {x y u:Int} (h:cj m.On.aB x y u):idx m.On.ab u=some (aM m u):=(ik M.fb).rG h.1.1 h.1.2
theorem K9:mV m.On m.Unit m.ba=some (AK m):=by
 have C:=M.mc
 have o0:=C.o0
 have o8:=C.o8
 unfold mV AK
 rw [rY (n:=m.On.aB.aD.toNat) (wN m) (y:=false) (fun i bj=>?_) (by unfold mU; rw [au (by omega),cond_false])]
 ·cases (ns m.On.aB.aD.toNat).any (wN m) <;> rfl
 ·have x0:(0:Int)≤(i:Int):=by omega
  have x1:(i:Int) < m.On.aB.aD:=by omega
  have hu:=M.DU x0 x1
  have hj:=M.uP x0 x1
  have ho:=M.Ry x0 x1
  have tu:=M.qk hu
  have tj:=M.qk hj
  have MD:=M.DU ho.1 ho.2
  have iT:=M.uP ho.1 ho.2
  have c1:cj m.On.aB (oM m i) (oM m i) (gk m.On.aB.aC (aM m (gi m.Unit i)) (gi m.ba i)):=M.zA tu hj
  have c2:cj m.On.aB (oM m i) (oM m i) (gk m.On.aB.aC (gi m.Unit (oM m i)) (gi m.ba i)):=M.zA MD hj
  unfold mU wN kM
  rw [aq x1,cond_true,r7 M x0 x1,aA,xS M x0 x1,aA,ry M hu,aA,sO M x0 x1,aA,ku C tu hj,aA,AJ C c1,aA,xS M ho.1 ho.2,aA,aA,ku C MD hj,aA,AJ C c2,aA,aA,ry M hj,aA,aA,ku C tj hj,aA,sO M ho.1 ho.2,aA,aA,ku C iT hj,aA,AL,AL,bK (by omega)]
  cases gk m.On.aB.aC (aM m (gi m.Unit i)) (gi m.ba i) != gi m.On.aB.aG (oM m i) <;> cases gk m.On.aB.aC (gi m.Unit (oM m i)) (gi m.ba i) != gi m.On.aB.aG (oM m i) <;> rfl
theorem Lb:iQ m=some (AK m):=by
 have C:=M.mc
 have o0:=C.o0
 have o8:=C.o8
 have ob:∀ {x:Int},0≤x→x < m.On.aB.aD→cO m x=some (oM m x):=fun x0 x1=>by unfold cO; rw [r7 M x0 x1]; rfl
 have ar:∀ {x y u:Int},cj m.On.aB x y u→cX m u=some (aM m u):=fun h=>by unfold cX; rw [ry M h]; rfl
 unfold iQ AK
 rw [rY (n:=m.On.aB.aD.toNat) (wN m) (y:=false) (fun i bj=>?_) (by unfold jJ; rw [au (by omega),cond_false])]
 ·cases (ns m.On.aB.aD.toNat).any (wN m) <;> rfl
 ·have x0:(0:Int)≤(i:Int):=by omega
  have x1:(i:Int) < m.On.aB.aD:=by omega
  have hu:=M.DU x0 x1
  have hj:=M.uP x0 x1
  have ho:=M.Ry x0 x1
  have tu:=M.qk hu
  have tj:=M.qk hj
  have MD:=M.DU ho.1 ho.2
  have iT:=M.uP ho.1 ho.2
  unfold jJ wN kM
  rw [aq x1,cond_true,ob x0 x1,aA,xS M x0 x1,aA,ar hu,aA,sO M x0 x1,aA,kv C tu hj,aA,C.py ho.1 ho.2,aA,xS M ho.1 ho.2,aA,aA,kv C MD hj,aA,aA,aA,ar hj,aA,aA,kv C tj hj,aA,sO M ho.1 ho.2,aA,aA,kv C iT hj,aA,bK (by omega)]
  cases gk m.On.aB.aC (aM m (gi m.Unit i)) (gi m.ba i) != gi m.On.aB.aG (oM m i) <;> cases gk m.On.aB.aC (gi m.Unit (oM m i)) (gi m.ba i) != gi m.On.aB.aG (oM m i) <;> rfl
end
section
variable {m:bB} (hs:mf m)
include hs
theorem BF (F:Aa m.On):xT (BG m):=⟨I5 F.c,hs.l,hs.u⟩
theorem BH (F:Aa m.On):xT (BI m):=⟨Ew hs.l hs.l,hs.l,hs.j⟩
theorem xE:mW m=some (oy m):=by
 unfold mW oy
 rw [I6 hs.l,aA]
 cases h1:ez m.On with
 | false=>rfl
 | true=>
  have F:=ik h1
  simp only [Bool.not_true,cond_false,Bool.true_and]
  rw [Ey hs.l.s,aA,aA]
  cases h3:oK m.On.aB m.On.aE with
  | false=>rfl
  | true=>
   have e:=qH.1 h3
   have g1:=NZ F.c
   have t1:=Lc h1 h1 e.symm
   have n1:eP (Ab m.On.aB) m.On m.Unit=some (iu (BG m)):=BJ (t:=BG m) (BF hs F) g1 h1 rfl e.symm
   have n2:eP (sb m.On m.On) m.On m.ba=some (iu (BI m)):=BJ (t:=BI m) (BH hs F) t1 h1 rfl rfl
   have tw:mE m.On=some (sb m.On m.On):=by
    unfold mE
    rw [I7 F.toFHead F.toFHead e.symm hs.l hs.l,aA]; rfl
   simp only [Bool.not_true,cond_false,Bool.true_and,N0 F.c,aA,n1]
   cases h4:iu (BG m) with
   | false=>rfl
   | true=>
    simp only [Bool.not_true,cond_false,Bool.true_and,tw,aA,n2]
    cases h5:iu (BI m) with
    | false=>rfl
    | true=>
     simp only [Bool.not_true,cond_false,Bool.true_and,K9 ⟨h1,e,h4,h5⟩,aA]
     rfl
theorem Bq:gF m=some (oy m):=by
 unfold gF oy
 rw [xU hs.l,aA]
 cases h1:ez m.On with
 | false=>rfl
 | true=>
  have F:=ik h1
  simp only [Bool.not_true,cond_false,Bool.true_and]
  rw [vk hs.l.s,aA,aA]
  cases h3:oK m.On.aB m.On.aE with
  | false=>rfl
  | true=>
   have e:=qH.1 h3
   have n1:jC [(bO.mk (Ab m.On.aB) m.On m.Unit),(bO.mk (sb m.On m.On) m.On m.ba)]=some ([BG m,BI m].all iu):=G4 _ (by simp) fun t ht=>by
    rcases List.mem_cons.1 ht with rfl | ht
    ·exact BF hs F
    ·obtain rfl:=List.mem_singleton.1 ht
     exact BH hs F
   simp only [Bool.not_true,cond_false,Bool.true_and,N1 F.c,I8 F.toFHead F.toFHead e.symm hs.l hs.l,n1,aA,List.all_cons,List.all_nil,Bool.and_true]
   cases h4:iu (BG m) with
   | false=>rfl
   | true=>
    cases h5:iu (BI m) with
    | false=>rfl
    | true=>
     simp only [Bool.and_self,cond_true,Bool.true_and,Lb ⟨h1,e,h4,h5⟩,aA]
     rfl
end
end Go.Proofs.YtcnehblmgfbfoaaGreat
namespace Go.Proofs.YtcnehblmgfbfoaaGreat
open Go Go.Li
set_option linter.unusedVariables false
set_option linter.unusedSectionVars false
set_option linter.unusedSimpArgs false
theorem tT {α β:Type} {F:α→List β} {b:Nat}:∀ {l:List α},(∀ x∈l,(F x).length≤b)→(l.flatMap F).length≤l.length * b:=by
 intro l
 induction l with
 | nil=>intro _; simp
 | cons a l ih=>
  intro h
  have h1:=h a (by simp)
  have h2:=ih fun x hx=>h x (by simp [hx])
  rw [List.flatMap_cons,List.length_append,List.length_cons,Nat.add_mul,Nat.one_mul]
  omega
theorem ks {β:Type} (n:Nat) (F:Int→List β):(ns (n+1)).flatMap F=(ns n).flatMap F++F n:=by
 rw [DV,List.flatMap_append]; simp
def aY (m:bB) (x y:Int):List (List Int):=(gh m.On.aB x (oM m y)).map fun f=>[x,y,f]
def aX (m:bB) (x:Int):List (List Int):=(ns m.On.aB.aD.toNat).flatMap (aY m x)
def aK (m:bB):List (List Int):=(ns m.On.aB.aD.toNat).flatMap (aX m)
theorem Ac {m:bB} {r:List Int}:r∈aK m↔∃ x y f:Int,((0≤x∧x < m.On.aB.aD.toNat)∧(0≤y∧y < m.On.aB.aD.toNat))∧cj m.On.aB x (oM m y) f∧r=[x,y,f]:=by
 unfold aK aX aY
 simp only [List.mem_flatMap,List.mem_map,cu,pq]
 constructor
 ·rintro ⟨x,hx,y,hy,f,hf,rfl⟩
  exact ⟨x,y,f,⟨hx,hy⟩,hf,rfl⟩
 ·rintro ⟨x,y,f,⟨hx,hy⟩,hf,rfl⟩
  exact ⟨x,hx,y,hy,f,hf,rfl⟩
theorem rv {α β:Type} {F:α→List β}:∀ {l:List α},l.Nodup→(∀ x∈l,(F x).Nodup)→(∀ x∈l,∀ y∈l,∀ z,z∈F x→z∈F y→x=y)→(l.flatMap F).Nodup:=by
 intro l
 induction l with
 | nil=>intro _ _ _; simp
 | cons a l ih=>
  intro hn h1 h2
  rw [List.nodup_cons] at hn
  rw [List.flatMap_cons,List.nodup_append]
  refine ⟨h1 a (by simp),ih hn.2 (fun x hx=>h1 x (by simp [hx])) fun x hx y hy=>h2 x (by simp [hx]) y (by simp [hy]),?_⟩
  intro z hz w hw e
  subst e
  obtain ⟨y,hy,hyz⟩:=List.mem_flatMap.1 hw
  have:=h2 a (by simp) y (by simp [hy]) z hz hyz
  rw [this] at hn
  exact hn.1 hy
theorem sk (n:Nat):(ns n).Nodup:=by
 have:=pN (n:=n) (p:=fun _=>true)
 rwa [List.filter_eq_self.2 fun _ _=>rfl] at this
section
variable {m:bB} (M:Mon0 m)
include M
theorem DW (x y:Int):(aY m x y).length≤40:=by
 have h:=M.mc.m
 unfold aY gh
 rw [List.length_map]
 exact Nat.le_trans (List.length_filter_le _ _) (by rw [bS]; exact h)
theorem DX (n:Nat) (x:Int):((ns n).flatMap (aY m x)).length≤n * 40:=by
 have:=tT (F:=aY m x) (l:=ns n) (b:=40) fun y _=>DW M x y
 rwa [bS] at this
theorem DY (n:Nat):((ns n).flatMap (aX m)).length≤n * 320:=by
 have h8:=M.mc.o8
 have:=tT (F:=aX m) (l:=ns n) (b:=320) fun x _=>Nat.le_trans (DX M _ x) (by omega)
 rwa [bS] at this
theorem vG:Kt (aK m):=by
 have C:=M.mc
 have o0:=C.o0
 have o8:=C.o8
 have cm:=C.m
 have kl:=DY M m.On.aB.aD.toNat
 refine ⟨by unfold aK; omega,?_,fun r hr=>?_,fun r hr=>?_⟩
 ·unfold aK
  refine rv (sk _) (fun x _=>?_) fun x _ x' _ z hz qz=>?_
  ·unfold aX
   refine rv (sk _) (fun y _=>?_) fun y _ y' _ z hz qz=>?_
   ·unfold aY
    refine List.Pairwise.map _ (fun a b h=>?_) (pN (n:=m.On.aB.aF.length) (p:=yA m.On.aB x (oM m y)))
    intro e
    injection e with _ e
    injection e with _ e
    injection e with e _
    exact h e
   ·unfold aY at hz qz
    obtain ⟨f,_,rfl⟩:=List.mem_map.1 hz
    obtain ⟨f',_,e⟩:=List.mem_map.1 qz
    injection e with _ e
    injection e with e _
    exact e.symm
  ·unfold aX aY at hz qz
   simp only [List.mem_flatMap,List.mem_map] at hz qz
   obtain ⟨y,_,f,_,rfl⟩:=hz
   obtain ⟨y',_,f',_,e⟩:=qz
   injection e with e _
   exact e.symm
 ·obtain ⟨x,y,f,_,_,rfl⟩:=Ac.1 hr
  rfl
 ·obtain ⟨x,y,f,⟨hx,hy⟩,hf,rfl⟩:=Ac.1 hr
  intro v hv
  have:=hf.1
  rcases List.mem_cons.1 hv with rfl | hv
  ·omega
  ·rcases List.mem_cons.1 hv with rfl | hv
   ·omega
   ·obtain rfl:=List.mem_singleton.1 hv
    omega
theorem Rz {S:Type} {f:List (List Int)×Int→Option (Out S (aH×List (List Int)))} :
  aj (ah 0 (ai (fun s:List (List Int)×Int=>fB m s.1 s.2) (([]:List (List Int)),(0:Int)))) f=f (aK m,(m.On.aB.aD.toNat:Int)):=by
 have C:=M.mc
 have o0:=C.o0
 have o8:=C.o8
 have cm:=C.m
 refine bu (ns m.On.aB.aD.toNat) (fun i=>((ns i).flatMap (aX m),(i:Int))) rfl (e:=(aK m,(m.On.aB.aD.toNat:Int))) ?_ ?_
 ·intro i x hx
  obtain ⟨rfl,hi⟩:=ca hx
  have kl:=DY M i
  show fB m _ (i:Int)=_
  unfold fB
  rw [aq (by omega),cond_true]
  dsimp only
  generalize px:(ns i).flatMap (aX m)=acc at kl
  refine (bu (ns m.On.aB.aD.toNat) (fun j=>(acc++(ns j).flatMap (aY m i),(j:Int))) (by simp [ns]) (e:=(acc++aX m i,(m.On.aB.aD.toNat:Int))) ?_ ?_).trans ?_
  ·intro j y hy
   obtain ⟨rfl,hj⟩:=ca hy
   have xl:=DX M j i
   show gD m (i:Int) _ (j:Int)=_
   unfold gD
   rw [aq (by omega),cond_true,r7 M (by omega) (by omega),aA,Gv C,aA]
   dsimp only
   generalize yU:(ns j).flatMap (aY m i)=tU at xl
   have hl:(gh m.On.aB i (oM m j)).length≤40:=by have:=DW M (i:Int) (j:Int); unfold aY at this; rwa [List.length_map] at this
   refine (bu (gh m.On.aB i (oM m j)) (fun k=>((acc++tU)++((gh m.On.aB i (oM m j)).take k).map fun f=>[(i:Int),(j:Int),f],(k:Int))) (by simp) (e:=((acc++tU)++aY m i j,((gh m.On.aB i (oM m j)).length:Int))) ?_ ?_).trans ?_
   ·intro k f hf
    have hk:=bd hf
    show gC (i:Int) (j:Int) (gh m.On.aB i (oM m j)) _ (k:Int)=_
    unfold gC
    dsimp only
    have hb:((acc++tU)++((gh m.On.aB i (oM m j)).take k).map fun f=>[(i:Int),(j:Int),f]).length≤10000:=by simp; omega
    rw [aq (by omega),cond_true,bh,hf,aA,cR (by omega) (by omega),aA,bK (by omega),ee hf,List.map_append,← List.append_assoc]; rfl
   ·show gC (i:Int) (j:Int) (gh m.On.aB i (oM m j)) _ _=_
    unfold gC
    rw [au (by omega),cond_false,List.take_length]; rfl
   ·dsimp only
    rw [bK (by omega),ks,yU,List.append_assoc]
  ·show gD m (i:Int) _ _=_
   unfold gD
   rw [bS,au (by omega),cond_false]; rfl
  ·dsimp only
   rw [bK (by omega),ks,px]
 ·show fB m _ _=_
  unfold fB
  rw [bS,au (by omega),cond_false]; rfl
theorem RA:fM m=some (aK m):=by
 have C:=M.mc
 have o0:=C.o0
 have o8:=C.o8
 have cm:=C.m
 unfold fM
 refine (congrArg an (bu (ns m.On.aB.aD.toNat) (fun i=>((ns i).flatMap (aX m),(i:Int))) rfl (e:=(aK m,(m.On.aB.aD.toNat:Int))) ?_ ?_)).trans rfl
 ·intro i x hx
  obtain ⟨rfl,hi⟩:=ca hx
  have kl:=DY M i
  show dU m _ (i:Int)=_
  unfold dU
  rw [aq (by omega),cond_true]
  dsimp only
  generalize px:(ns i).flatMap (aX m)=acc at kl
  refine (bu (ns m.On.aB.aD.toNat) (fun j=>(acc++(ns j).flatMap (aY m i),(j:Int))) (by simp [ns]) (e:=(acc++aX m i,(m.On.aB.aD.toNat:Int))) ?_ ?_).trans ?_
  ·intro j y hy
   obtain ⟨rfl,hj⟩:=ca hy
   have xl:=DX M j i
   have eo:cO m (j:Int)=some (oM m j):=by unfold cO; rw [r7 M (by omega) (by omega)]; rfl
   have eh:dQ m.On.aB (i:Int) (oM m j)=some (gh m.On.aB i (oM m j)):=Ko C _ _
   show dT m (i:Int) _ (j:Int)=_
   unfold dT
   rw [aq (by omega),cond_true,eo,aA,eh,aA]
   dsimp only
   generalize yU:(ns j).flatMap (aY m i)=tU at xl
   have hl:(gh m.On.aB i (oM m j)).length≤40:=by have:=DW M (i:Int) (j:Int); unfold aY at this; rwa [List.length_map] at this
   refine (bu (gh m.On.aB i (oM m j)) (fun k=>((acc++tU)++((gh m.On.aB i (oM m j)).take k).map fun f=>[(i:Int),(j:Int),f],(k:Int))) (by simp) (e:=((acc++tU)++aY m i j,((gh m.On.aB i (oM m j)).length:Int))) ?_ ?_).trans ?_
   ·intro k f hf
    have hk:=bd hf
    show dS (i:Int) (j:Int) (gh m.On.aB i (oM m j)) _ (k:Int)=_
    unfold dS
    dsimp only
    have hb:((acc++tU)++((gh m.On.aB i (oM m j)).take k).map fun f=>[(i:Int),(j:Int),f]).length≤10000:=by simp; omega
    rw [aq (by omega),cond_true,bh,hf,aA,cR (by omega) (by omega),aA,bK (by omega),ee hf,List.map_append,← List.append_assoc]; rfl
   ·show dS (i:Int) (j:Int) (gh m.On.aB i (oM m j)) _ _=_
    unfold dS
    rw [au (by omega),cond_false,List.take_length]; rfl
   ·dsimp only
    rw [bK (by omega),ks,yU,List.append_assoc]
  ·show dT m (i:Int) _ _=_
   unfold dT
   rw [bS,au (by omega),cond_false]; rfl
  ·dsimp only
   rw [bK (by omega),ks,px]
 ·show dU m _ _=_
  unfold dU
  rw [bS,au (by omega),cond_false]; rfl
end
end Go.Proofs.YtcnehblmgfbfoaaGreat
namespace Go.Proofs.YtcnehblmgfbfoaaGreat
open Go Go.Li
set_option linter.unusedVariables false
set_option linter.unusedSectionVars false
set_option linter.unusedSimpArgs false
def wO (m:bB) (z f g:Int):Int:=kM m (kM m f (aM m g)) (gi m.ba z)
noncomputable def z8 (m:bB):List Int:=br m.On.aB.aD.toNat fun x=>gx (aK m) [x,x,gi m.Unit x]
noncomputable def ph (m:bB):aH:=aH.mk m.On.aB.aD (nm (aK m) 0) (nm (aK m) 1) (z8 m) []
noncomputable def gK (m:bB) (i j:Int):Int:=gx (aK m) [gi (gr (aK m) i) 0,gi (gr (aK m) j) 1,wO m (gi (gr (aK m) j) 1) (gi (gr (aK m) i) 2) (gi (gr (aK m) j) 2)]
noncomputable def qq (m:bB):aH:=aH.mk m.On.aB.aD (nm (aK m) 0) (nm (aK m) 1) (z8 m) (jv (ph m) (gK m))
theorem l9 (A:List (List Int)) (k:Int):(nm A k).length=A.length:=bX _ _
theorem Xt {m:bB} {i j:Int} (i0:0≤i) (i1:i < (aK m).length) (j0:0≤j) (j1:j < (aK m).length):jw (ph m) (gK m) i j=bif gi (gr (aK m) i) 1 == gi (gr (aK m) j) 0 then gK m i j else -1:=by
 unfold jw
 rw [show gi (ph m).To i=gi (gr (aK m) i) 1 from o7 i0 i1,show gi (ph m).aF j=gi (gr (aK m) j) 0 from o7 j0 j1]
section
variable {m:bB} (M:Mon0 m)
include M
theorem N2 {x y z f g:Int} (hf:cj m.On.aB x (oM m y) f) (hg:cj m.On.aB y (oM m z) g) (z0:0≤z) (z1:z < m.On.aB.aD):cj m.On.aB x (oM m z) (wO m z f g):=
 M.zA (M.zA hf (M.qk hg)) (M.uP z0 z1)
theorem N3 {x y z f g:Int} (hf:cj m.On.aB x (oM m y) f) (hg:cj m.On.aB y (oM m z) g) (z0:0≤z) (z1:z < m.On.aB.aD):lA m z f g=some (wO m z f g):=by
 have C:=M.mc
 have c1:cj m.On.aB x (oM m (oM m z)) (gk m.On.aB.aC f (aM m g)):=M.zA hf (M.qk hg)
 unfold lA
 rw [ry M hg,aA,ku C hf (M.qk hg),aA,sO M z0 z1,aA,ku C c1 (M.uP z0 z1),aA]; rfl
theorem N4 {x y z f g:Int} (hf:cj m.On.aB x (oM m y) f) (hg:cj m.On.aB y (oM m z) g) (z0:0≤z) (z1:z < m.On.aB.aD):fP z f g m.On.aB m=some (wO m z f g):=by
 have C:=M.mc
 have c1:cj m.On.aB x (oM m (oM m z)) (gk m.On.aB.aC f (aM m g)):=M.zA hf (M.qk hg)
 unfold fP
 rw [ry M hg,aA,kv C hf (M.qk hg),aA,sO M z0 z1,aA,kv C c1 (M.uP z0 z1),aA]; rfl
theorem mem_row {x y f:Int} (x0:0≤x) (x1:x < m.On.aB.aD) (y0:0≤y) (y1:y < m.On.aB.aD) (hf:cj m.On.aB x (oM m y) f):[x,y,f]∈aK m:=by
 have o0:=M.mc.o0
 exact Ac.2 ⟨x,y,f,⟨⟨x0,by omega⟩,y0,by omega⟩,hf,rfl⟩
theorem zH {i:Int} (i0:0≤i) (i1:i < (aK m).length):∃ x y f:Int,((0≤x∧x < m.On.aB.aD)∧(0≤y∧y < m.On.aB.aD))∧cj m.On.aB x (oM m y) f∧gr (aK m) i=[x,y,f]:=by
 have o0:=M.mc.o0
 obtain ⟨x,y,f,⟨hx,hy⟩,hf,e⟩:=Ac.1 (jr i0 i1)
 exact ⟨x,y,f,⟨⟨hx.1,by omega⟩,hy.1,by omega⟩,hf,e⟩
theorem FN {i j:Int} (i0:0≤i) (i1:i < (aK m).length) (j0:0≤j) (j1:j < (aK m).length) (e:gi (gr (aK m) i) 1=gi (gr (aK m) j) 0) :
  ∃ x y z f g:Int,(0≤x∧x < m.On.aB.aD)∧(0≤z∧z < m.On.aB.aD)∧cj m.On.aB x (oM m y) f∧cj m.On.aB y (oM m z) g∧gr (aK m) i=[x,y,f]∧gr (aK m) j=[y,z,g]:=by
 obtain ⟨x,y,f,⟨hx,hy⟩,hf,e1⟩:=zH M i0 i1
 obtain ⟨y',z,g,⟨T0,hz⟩,hg,e2⟩:=zH M j0 j1
 rw [e1,e2] at e
 obtain rfl:y=y':=e
 exact ⟨x,y,z,f,g,hx,hz,hf,hg,e1,e2⟩
theorem u1 {F T I:List Int} {K:List (List Int)}:dZ (aH.mk m.On.aB.aD F T I K)=some (decide ((F.length:Int)≤40)):=by
 have o8:=M.mc.o8
 unfold dZ
 dsimp only
 rw [aq o8,cond_true,aA]; rfl
theorem N5 {i:Int} (i0:0≤i) (i1:i < (aK m).length) {S:Type} {f:List Int×Int→Option (Out S (aH×List (List Int)))} :
  aj (ah 10 (ai (fun s:List Int×Int=>fD m (aK m) i s.1 s.2) (([]:List Int),(0:Int)))) f=f (br (aK m).length (jw (ph m) (gK m) i),((aK m).length:Int)):=by
 have H:=vG M
 have hn:=H.n
 refine bu (ns (aK m).length) (fun j=>(br j (jw (ph m) (gK m) i),(j:Int))) rfl (e:=(br (aK m).length (jw (ph m) (gK m) i),((aK m).length:Int))) ?_ ?_
 ·intro j x hx
  obtain ⟨rfl,hj⟩:=ca hx
  have ri:=H.l _ (jr i0 i1)
  have rj:=H.l _ (jr (l:=aK m) (j:=(j:Int)) (by omega) (by omega))
  have ml:=bX j (jw (ph m) (gK m) i)
  rw [gn,Xt i0 i1 (by omega) (by omega)]
  show fD m (aK m) i (br j _) (j:Int)=_
  generalize px:br j (jw (ph m) (gK m) i)=acc at ml
  unfold fD
  rw [aq (by omega),cond_true,jt i0 i1,aA,jt (by omega) (by omega),aA,cI (by omega) (by omega),aA,cI (by omega) (by omega),aA]
  by_cases e:gi (gr (aK m) i) 1=gi (gr (aK m) j) 0
  ·rw [np e,cond_true,cond_true,cI (by omega) (by omega),aA,cI (l:=gr (aK m) (j:Int)) (by omega) (by omega),aA,aA,cI (by omega) (by omega),aA,cI (l:=gr (aK m) (j:Int)) (by omega) (by omega),aA]
   obtain ⟨x,y,z,u,v,hx,hz,hu,hv,e1,e2⟩:=FN M i0 i1 (by omega) (by omega) e
   have hb:lA m (gi (gr (aK m) (j:Int)) 1) (gi (gr (aK m) i) 2) (gi (gr (aK m) (j:Int)) 2)=some (wO m (gi (gr (aK m) (j:Int)) 1) (gi (gr (aK m) i) 2) (gi (gr (aK m) (j:Int)) 2)):=by
    rw [e1,e2]
    exact N3 M hu hv hz.1 hz.2
   rw [hb,aA,(sn _ H.n H.l).1,aA,cR (by omega) (by omega),aA,bK (by omega)]; rfl
  ·rw [kh e,cond_false,cond_false,cR (by omega) (by omega),aA,bK (by omega)]
 ·show fD m (aK m) i _ _=_
  unfold fD
  rw [bS,au (by omega),cond_false]
theorem Rm:kO m=some (bif decide (((aK m).length:Int)≤40) then qq m else ph m,aK m):=by
 have C:=M.mc
 have o0:=C.o0
 have o8:=C.o8
 have H:=vG M
 have hn:=H.n
 unfold kO
 rw [Rz M]
 dsimp only
 rw [wk H.n H.l (by omega) (by omega),aA,wk H.n H.l (by omega) (by omega),aA]
 have l3:∀ {S:Type} {f:Int×List Int→Option (Out S (aH×List (List Int)))},aj (ah 6 (ai (fun s:Int×List Int=>fC m (aK m) s.1 s.2) ((0:Int),([]:List Int)))) f=f ((m.On.aB.aD.toNat:Int),z8 m):=by
  intro S f
  refine bu (ns m.On.aB.aD.toNat) (fun i=>((i:Int),br i fun x=>gx (aK m) [x,x,gi m.Unit x])) rfl (e:=((m.On.aB.aD.toNat:Int),z8 m)) ?_ ?_
  ·intro i x hx
   obtain ⟨rfl,hi⟩:=ca hx
   have ml:=bX i fun x=>gx (aK m) [x,x,gi m.Unit x]
   rw [gn]
   show fC m (aK m) (i:Int) (br i _)=_
   generalize (br i fun x=>gx (aK m) [x,x,gi m.Unit x])=acc at ml
   unfold fC
   rw [aq (by omega),cond_true,xS M (by omega) (by omega),aA,(sn _ H.n H.l).1,aA,cR (by omega) (by omega),aA,bK (by omega)]
  ·show fC m (aK m) _ _=_
   unfold fC
   rw [bS,au (by omega),cond_false]; rfl
 rw [l3]
 dsimp only
 by_cases rz:((aK m).length:Int)≤40
 ·rw [aq rz,cond_true]
  refine (congrArg an (bu (ns (aK m).length) (fun i=>((i:Int),br i fun f=>br (aK m).length (jw (ph m) (gK m) f))) rfl (e:=(((aK m).length:Int),jv (ph m) (gK m))) ?_ ?_)).trans rfl
  ·intro i x hx
   obtain ⟨rfl,hi⟩:=ca hx
   have ml:=bX i fun f=>br (aK m).length (jw (ph m) (gK m) f)
   rw [gn]
   show eJ m (aK m) _ _ _ (i:Int) (br i _)=_
   generalize (br i fun f=>br (aK m).length (jw (ph m) (gK m) f))=acc at ml
   unfold eJ
   rw [aq (by omega),cond_true,u1 M,aA,aA,l9,aq rz,cond_true,N5 M (by omega) (by omega)]
   dsimp only
   rw [cR (by omega) (by omega),aA,bK (by omega)]
  ·show eJ m (aK m) _ _ _ _ _=_
   unfold eJ
   rw [bS,au (by omega),cond_false,aA,cond_false]
   unfold jv
   rw [show (ph m).aF.length=(aK m).length from l9 _ _]
 ·rw [au rz,cond_false]
  refine (congrArg an (bu ([]:List Int) (fun i=>((i:Int),([]:List (List Int)))) rfl (e:=((0:Int),([]:List (List Int)))) ?_ ?_)).trans rfl
  ·intro i x hx; cases hx
  ·show eJ m (aK m) _ _ _ (0:Int) []=_
   unfold eJ
   rw [aq (by omega),cond_true,u1 M,aA,aA,l9,au rz,cond_false]
theorem RB {i j:Int} (i0:0≤i) (i1:i < (aK m).length) (j0:0≤j) (j1:j < (aK m).length) (e:gi (gr (aK m) i) 1=gi (gr (aK m) j) 0):eO i j (aK m) (rL (aK m)) m=some (gK m i j):=by
 have H:=vG M
 have ri:=H.l _ (jr i0 i1)
 have rj:=H.l _ (jr j0 j1)
 unfold eO
 rw [jt i0 i1,aA,jt j0 j1,aA,cI (by omega) (by omega),aA,cI (l:=gr (aK m) j) (by omega) (by omega),aA,aA,cI (by omega) (by omega),aA,cI (l:=gr (aK m) j) (by omega) (by omega),aA]
 obtain ⟨x,y,z,u,v,hx,hz,hu,hv,e1,e2⟩:=FN M i0 i1 j0 j1 e
 have hb:fP (gi (gr (aK m) j) 1) (gi (gr (aK m) i) 2) (gi (gr (aK m) j) 2) m.On.aB m=some (wO m (gi (gr (aK m) j) 1) (gi (gr (aK m) i) 2) (gi (gr (aK m) j) 2)):=by
  rw [e1,e2]
  exact N4 M hu hv hz.1 hz.2
 have hm:[gi (gr (aK m) i) 0,gi (gr (aK m) j) 1,wO m (gi (gr (aK m) j) 1) (gi (gr (aK m) i) 2) (gi (gr (aK m) j) 2)]∈aK m:=by
  rw [e1,e2]
  exact mem_row M hx.1 hx.2 hz.1 hz.2 (N2 M hu hv hz.1 hz.2)
 rw [hb,aA,wm (by simp),aA,Db H hm]; rfl
theorem Rl:jD m=some (bif decide (((aK m).length:Int)≤40) then (qq m,aK m,true) else (aH.mk 0 [] [] [] [],[],false)):=by
 have C:=M.mc
 have o0:=C.o0
 have o8:=C.o8
 have H:=vG M
 have hn:=H.n
 have ul:=M.Ux
 unfold jD
 rw [RA M,aA]
 by_cases rz:((aK m).length:Int)≤40
 ·rw [au (by omega),cond_false,zB H,aA,show lX=some () from rfl,aA,wo H.n H.l (by omega) (by omega),aA,wo H.n H.l (by omega) (by omega),aA,aq rz,cond_true]
  refine (congrArg an (bu (ns m.On.aB.aD.toNat) (fun i=>(br i fun x=>gx (aK m) [x,x,gi m.Unit x],(i:Int))) rfl (e:=(z8 m,(m.On.aB.aD.toNat:Int))) ?_ ?_)).trans ?_
  ·intro i x hx
   obtain ⟨rfl,hi⟩:=ca hx
   have hu:=M.DU (x:=(i:Int)) (by omega) (by omega)
   have ml:=bX i fun x=>gx (aK m) [x,x,gi m.Unit x]
   rw [gn]
   show fE m (rL (aK m)) (br i _,(i:Int))=_
   generalize (br i fun x=>gx (aK m) [x,x,gi m.Unit x])=acc at ml
   unfold fE
   dsimp only
   rw [aq (by omega),cond_true,xS M (by omega) (by omega),aA,wm (by simp),aA,Db H (mem_row M (by omega) (by omega) (by omega) (by omega) hu),cR (by omega) (by omega),aA,bK (by omega)]
  ·show fE m (rL (aK m)) (_,_)=_
   unfold fE
   dsimp only
   rw [bS,au (by omega),cond_false]; rfl
  ·dsimp only
   have hl:(ph m).aF.length=(aK m).length:=l9 _ _
   have ht:(ph m).To.length=(aK m).length:=l9 _ _
   have:=Bo (c:=ph m) (g:=fun a0 a1=>eO a0 a1 (aK m) (rL (aK m)) m) (G:=gK m) (by omega) (by omega) fun f h f0 f1 h0 h1 e=>by
    rw [hl] at f1 h1
    rw [show gi (ph m).To f=gi (gr (aK m) f) 1 from o7 f0 f1,show gi (ph m).aF h=gi (gr (aK m) h) 0 from o7 h0 h1] at e
    exact RB M f0 f1 h0 h1 e
   unfold ph at this
   rw [this,aA]; rfl
 ·rw [aq (by omega),cond_true,au rz,cond_false]; rfl
end
end Go.Proofs.YtcnehblmgfbfoaaGreat
namespace Go.Proofs.YtcnehblmgfbfoaaGreat
open Go Go.Li
set_option linter.unusedVariables false
set_option linter.unusedSectionVars false
set_option linter.unusedSimpArgs false
def Mz:aH:=aH.mk 0 [] [] [] []
section
variable {m:bB} (hs:mf m)
include hs
theorem H8:kJ m=some (bif oy m then (bif decide (((aK m).length:Int)≤40) then (qq m,aK m,0) else (Mz,[],3)) else (Mz,[],1)):=by
 unfold kJ
 rw [Bq hs,aA]
 cases hM:oy m with
 | false=>rfl
 | true=>
  simp only [Bool.not_true,cond_false,cond_true]
  rw [Rl (xF hM).toMon0,aA]
  cases decide (((aK m).length:Int)≤40) <;> rfl
theorem Qa:mX m=some (bif oy m then (bif decide (((aK m).length:Int)≤40) then (qq m,aK m,0) else (Mz,[],3)) else (Mz,[],1)):=by
 unfold mX
 rw [xE hs,aA]
 cases hM:oy m with
 | false=>rfl
 | true=>
  have M:=(xF hM).toMon0
  simp only [Bool.not_true,cond_false,cond_true]
  rw [Rm M,aA]
  by_cases h:((aK m).length:Int)≤40
  ·rw [aq h,cond_true,cond_true]
   dsimp only
   rw [show qq m=aH.mk m.On.aB.aD (nm (aK m) 0) (nm (aK m) 1) (z8 m) (jv (ph m) (gK m)) from rfl,u1 M,aA,l9,aq h]; rfl
  ·rw [au h,cond_false,cond_false]
   dsimp only
   rw [show ph m=aH.mk m.On.aB.aD (nm (aK m) 0) (nm (aK m) 1) (z8 m) [] from rfl,u1 M,aA,l9,au h]; rfl
theorem wu (M:Mon0 m) (h:((aK m).length:Int)≤40):de (qq m):=by
 have o8:=M.mc.o8
 have hl:(ph m).aF.length=(aK m).length:=l9 _ _
 refine ⟨?_,?_,?_,?_,fun r hr=>?_⟩
 ·show (nm (aK m) 0).length≤_; rw [l9]; omega
 ·show (nm (aK m) 1).length≤_; rw [l9]; omega
 ·show (z8 m).length≤_; unfold z8; rw [bX]; omega
 ·show (jv (ph m) (gK m)).length≤_; unfold jv; rw [bX]; omega
 ·obtain ⟨i,_,rfl⟩:=ze.1 hr
  rw [bX]; omega
end
section
variable {m:bB} (M:Mon m)
include M
end
end Go.Proofs.YtcnehblmgfbfoaaGreat
