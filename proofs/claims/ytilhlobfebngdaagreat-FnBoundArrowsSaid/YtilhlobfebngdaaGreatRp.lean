/- Monads, as both sides test them: one test. No condition beside those that each theorem names. -/
import Derived.Test.YtilhlobfebngdaaGreatTn
namespace Go.Proofs.YtilhlobfebngdaaGreat
open Go Go.Li
set_option linter.unusedVariables false
set_option linter.unusedSectionVars false
set_option linter.unusedSimpArgs false
theorem Jg {c:aF} (H:l5 c) (x y:Int):eY c x y=some ((ns c.aE.length).filter (G9 c x y)):=by
 have hm:=H.m
 unfold eY
 refine (congrArg ak (IJ (ns c.aE.length) (G9 c x y) (fun acc i=>(acc,(i:Int))) rfl ?_ ?_)).trans rfl
 ·intro i a acc ha FN
  obtain ⟨rfl,hi⟩:=dy ha
  show jL c x y acc i=_
  unfold jL
  have e1:=H.jc (f:=(i:Int)) (by omega) (by omega)
  have e3:=H.jm (f:=(i:Int)) (by omega) (by omega)
  rw [au (by omega),cond_true,dL (by omega) (by omega)]
  simp only [e1,e3,aD,bR (show i < 9223372036854775807 by omega)]
  unfold G9
  cases gi c.aE (i:Int) == x with
  | false=>rfl
  | true=>cases gi c.To (i:Int) == y <;> rfl
 ·intro acc
  show jL c x y acc _=_
  unfold jL
  rw [cN,ay (by omega),cond_false]
theorem Nu {c:aF} (C:l5 c) {x f:Int} (h:fh c x x f):gS c f=some (gi c.aH x == f):=by
 have k:=Lv C h
 unfold gS
 rw [C.jc h.1.1 h.1.2,aD,h.2.1,C.ou k.1 k.2,aD]; rfl
theorem zl {c:aF} (C:l5 c) {x y z u v:Int} (h:fh c x y u) (h':fh c y z v):eK c u v=some (gk c.aC u v):=C.thenS h.1.1 h.1.2 h'.1.1 h'.1.2
theorem zm {c:aF} (C:l5 c) {x y z u v:Int} (h:fh c x y u) (h':fh c y z v):cT c u v=some (gk c.aC u v):=C.rv h.1.1 h.1.2 h'.1.1 h'.1.2
section
variable {m:bT} (M:Mon0 m)
include M
theorem Eg {x:Int} (x0:0≤x) (x1:x < m.On.aB.aA):idx m.Unit x=some (gi m.Unit x):=bQ x0 (by have:=M.muL; omega)
theorem HT {x:Int} (x0:0≤x) (x1:x < m.On.aB.aA):idx m.cn x=some (gi m.cn x):=bQ x0 (by have:=M.mjL; omega)
theorem ve {x:Int} (x0:0≤x) (x1:x < m.On.aB.aA):idx m.On.aA x=some (oM m x):=(mx M.fb).Au x0 x1
theorem Ha {x y u:Int} (h:fh m.On.aB x y u):idx m.On.ab u=some (aM m u):=(mx M.fb).xc h.1.1 h.1.2
theorem Uc:lD m.On m.Unit m.cn=some (HU m):=by
 have C:=M.mc
 have o0:=C.o0
 have o8:=C.o8
 unfold lD HU
 rw [xd (n:=m.On.aB.aA.toNat) (CO m) (y:=false) (fun i bn=>?_) (by unfold nU; rw [ay (by omega),cond_false])]
 ·cases (ns m.On.aB.aA.toNat).any (CO m) <;> rfl
 ·have x0:(0:Int)≤(i:Int):=by omega
  have x1:(i:Int) < m.On.aB.aA:=by omega
  have hu:=M.Ee x0 x1
  have hj:=M.G5 x0 x1
  have ho:=M.VC x0 x1
  have tu:=M.Fg hu
  have tj:=M.Fg hj
  have IK:=M.Ee ho.1 ho.2
  have lz:=M.G5 ho.1 ho.2
  have c1:fh m.On.aB (oM m i) (oM m i) (gk m.On.aB.aC (aM m (gi m.Unit i)) (gi m.cn i)):=M.Nv tu hj
  have c2:fh m.On.aB (oM m i) (oM m i) (gk m.On.aB.aC (gi m.Unit (oM m i)) (gi m.cn i)):=M.Nv IK hj
  unfold nU CO kM
  rw [au x1,cond_true,ve M x0 x1,aD,Eg M x0 x1,aD,Ha M hu,aD,HT M x0 x1,aD,zl C tu hj,aD,Nu C c1,aD,Eg M ho.1 ho.2,aD,aD,zl C IK hj,aD,Nu C c2,aD,aD,Ha M hj,aD,aD,zl C tj hj,aD,HT M ho.1 ho.2,aD,aD,zl C lz hj,aD,Nw,Nw,bR (by omega)]
  cases gk m.On.aB.aC (aM m (gi m.Unit i)) (gi m.cn i) != gi m.On.aB.aH (oM m i) <;> cases gk m.On.aB.aC (gi m.Unit (oM m i)) (gi m.cn i) != gi m.On.aB.aH (oM m i) <;> rfl
theorem Ud:lQ m=some (HU m):=by
 have C:=M.mc
 have o0:=C.o0
 have o8:=C.o8
 have ob:∀ {x:Int},0≤x→x < m.On.aB.aA→dP m x=some (oM m x):=fun x0 x1=>by unfold dP; rw [ve M x0 x1]; rfl
 have ar:∀ {x y u:Int},fh m.On.aB x y u→lJ m u=some (aM m u):=fun h=>by unfold lJ; rw [Ha M h]; rfl
 unfold lQ HU
 rw [xd (n:=m.On.aB.aA.toNat) (CO m) (y:=false) (fun i bn=>?_) (by unfold mI; rw [ay (by omega),cond_false])]
 ·cases (ns m.On.aB.aA.toNat).any (CO m) <;> rfl
 ·have x0:(0:Int)≤(i:Int):=by omega
  have x1:(i:Int) < m.On.aB.aA:=by omega
  have hu:=M.Ee x0 x1
  have hj:=M.G5 x0 x1
  have ho:=M.VC x0 x1
  have tu:=M.Fg hu
  have tj:=M.Fg hj
  have IK:=M.Ee ho.1 ho.2
  have lz:=M.G5 ho.1 ho.2
  unfold mI CO kM
  rw [au x1,cond_true,ob x0 x1,aD,Eg M x0 x1,aD,ar hu,aD,HT M x0 x1,aD,zm C tu hj,aD,C.ou ho.1 ho.2,aD,Eg M ho.1 ho.2,aD,aD,zm C IK hj,aD,aD,aD,ar hj,aD,aD,zm C tj hj,aD,HT M ho.1 ho.2,aD,aD,zm C lz hj,aD,bR (by omega)]
  cases gk m.On.aB.aC (aM m (gi m.Unit i)) (gi m.cn i) != gi m.On.aB.aH (oM m i) <;> cases gk m.On.aB.aC (gi m.Unit (oM m i)) (gi m.cn i) != gi m.On.aB.aH (oM m i) <;> rfl
end
section
variable {m:bT} (hs:Ed m)
include hs
theorem IL (F:IN m.On):Ei (IP m):=⟨Q1 F.c,hs.l,hs.u⟩
theorem IQ (F:IN m.On):Ei (IS m):=⟨Mq hs.l hs.l,hs.l,hs.j⟩
theorem A9:pC m=some (xT m):=by
 unfold pC xT
 rw [Q2 hs.l,aD]
 cases h1:jo m.On with
 | false=>rfl
 | true=>
  have F:=mx h1
  simp only [Bool.not_true,cond_false,Bool.true_and]
  rw [Mr hs.l.s,aD,aD]
  cases h3:s8 m.On.aB m.On.aG with
  | false=>rfl
  | true=>
   have e:=wa.1 h3
   have g1:=W6 F.c
   have t1:=Ue h1 h1 e.symm
   have n1:gP (B3 m.On.aB) m.On m.Unit=some (mr (IP m)):=IT (t:=IP m) (IL hs F) g1 h1 rfl e.symm
   have n2:gP (s9 m.On m.On) m.On m.cn=some (mr (IS m)):=IT (t:=IS m) (IQ hs F) t1 h1 rfl rfl
   have tw:kE m.On=some (s9 m.On m.On):=by
    unfold kE
    rw [Q3 F.toFHead F.toFHead e.symm hs.l hs.l,aD]; rfl
   simp only [Bool.not_true,cond_false,Bool.true_and,W7 F.c,aD,n1]
   cases h4:mr (IP m) with
   | false=>rfl
   | true=>
    simp only [Bool.not_true,cond_false,Bool.true_and,tw,aD,n2]
    cases h5:mr (IS m) with
    | false=>rfl
    | true=>
     simp only [Bool.not_true,cond_false,Bool.true_and,Uc ⟨h1,e,h4,h5⟩,aD]
     rfl
theorem A8:jV m=some (xT m):=by
 unfold jV xT
 rw [Ej hs.l,aD]
 cases h1:jo m.On with
 | false=>rfl
 | true=>
  have F:=mx h1
  simp only [Bool.not_true,cond_false,Bool.true_and]
  rw [BG hs.l.s,aD,aD]
  cases h3:s8 m.On.aB m.On.aG with
  | false=>rfl
  | true=>
   have e:=wa.1 h3
   have n1:lZ [(bU.mk (B3 m.On.aB) m.On m.Unit),(bU.mk (s9 m.On m.On) m.On m.cn)]=some ([IP m,IS m].all mr):=O5 _ (by simp) fun t ht=>by
    rcases List.mem_cons.1 ht with rfl | ht
    ·exact IL hs F
    ·obtain rfl:=List.mem_singleton.1 ht
     exact IQ hs F
   simp only [Bool.not_true,cond_false,Bool.true_and,W8 F.c,Q4 F.toFHead F.toFHead e.symm hs.l hs.l,n1,aD,List.all_cons,List.all_nil,Bool.and_true]
   cases h4:mr (IP m) with
   | false=>rfl
   | true=>
    cases h5:mr (IS m) with
    | false=>rfl
    | true=>
     simp only [Bool.and_self,cond_true,Bool.true_and,Ud ⟨h1,e,h4,h5⟩,aD]
     rfl
end
def xp (m:bT) (x:Int):Bool:=decide (0≤x) && decide (x < m.On.aB.aA)
def xq (m:bT) (h:Int):Bool:=decide (0≤h) && decide (h < m.On.aB.aE.length)
theorem EN {m:bT} {x:Int}:xp m x=true↔0≤x∧x < m.On.aB.aA:=by unfold xp; simp
theorem ES {m:bT} {x:Int}:xq m x=true↔0≤x∧x < m.On.aB.aE.length:=by unfold xq; simp
end Go.Proofs.YtilhlobfebngdaaGreat
namespace Go.Proofs.YtilhlobfebngdaaGreat
open Go Go.Li
set_option linter.unusedVariables false
set_option linter.unusedSectionVars false
set_option linter.unusedSimpArgs false
theorem Lx {α β:Type} {F:α→List β} {b:Nat}:∀ {l:List α},(∀ x∈l,(F x).length≤b)→(l.flatMap F).length≤l.length * b:=by
 intro l
 induction l with
 | nil=>intro _; simp
 | cons a l ih=>
  intro h
  have h1:=h a (by simp)
  have h2:=ih fun x hx=>h x (by simp [hx])
  rw [List.flatMap_cons,List.length_append,List.length_cons,Nat.add_mul,Nat.one_mul]
  omega
theorem Bc {β:Type} (n:Nat) (F:Int→List β):(ns (n+1)).flatMap F=(ns n).flatMap F++F n:=by
 rw [Ly,List.flatMap_append]; simp
def aY (m:bT) (x y:Int):List (List Int):=(rn m.On.aB x (oM m y)).map fun f=>[x,y,f]
def aX (m:bT) (x:Int):List (List Int):=(ns m.On.aB.aA.toNat).flatMap (aY m x)
def aK (m:bT):List (List Int):=(ns m.On.aB.aA.toNat).flatMap (aX m)
theorem Hb {m:bT} {r:List Int}:r∈aK m↔∃ x y f:Int,((0≤x∧x < m.On.aB.aA.toNat)∧(0≤y∧y < m.On.aB.aA.toNat))∧fh m.On.aB x (oM m y) f∧r=[x,y,f]:=by
 unfold aK aX aY
 simp only [List.mem_flatMap,List.mem_map,fg,HS]
 constructor
 ·rintro ⟨x,hx,y,hy,f,hf,rfl⟩
  exact ⟨x,y,f,⟨hx,hy⟩,hf,rfl⟩
 ·rintro ⟨x,y,f,⟨hx,hy⟩,hf,rfl⟩
  exact ⟨x,hx,y,hy,f,hf,rfl⟩
theorem Hc {α β:Type} {F:α→List β}:∀ {l:List α},l.Nodup→(∀ x∈l,(F x).Nodup)→(∀ x∈l,∀ y∈l,∀ z,z∈F x→z∈F y→x=y)→(l.flatMap F).Nodup:=by
 intro l
 induction l with
 | nil=>intro _ _ _; simp
 | cons a l ih=>
  intro hn h1 h2
  rw [List.nodup_cons] at hn
  rw [List.flatMap_cons,List.nodup_append]
  refine ⟨h1 a (by simp),ih hn.2 (fun x hx=>h1 x (by simp [hx])) fun x hx y hy=>h2 x (by simp [hx]) y (by simp [hy]),?_⟩
  intro z hz w hw e
  subst e
  obtain ⟨y,hy,hyz⟩:=List.mem_flatMap.1 hw
  have:=h2 a (by simp) y (by simp [hy]) z hz hyz
  rw [this] at hn
  exact hn.1 hy
theorem IU (n:Nat):(ns n).Nodup:=by
 have:=A6 (n:=n) (p:=fun _=>true)
 rwa [List.filter_eq_self.2 fun _ _=>rfl] at this
section
variable {m:bT} (M:Mon0 m)
include M
theorem Lz (x y:Int):(aY m x y).length≤40:=by
 have h:=M.mc.m
 unfold aY rn
 rw [List.length_map]
 exact Nat.le_trans (List.length_filter_le _ _) (by rw [cN]; exact h)
theorem LA (n:Nat) (x:Int):((ns n).flatMap (aY m x)).length≤n * 40:=by
 have:=Lx (F:=aY m x) (l:=ns n) (b:=40) fun y _=>Lz M x y
 rwa [cN] at this
theorem LB (n:Nat):((ns n).flatMap (aX m)).length≤n * 320:=by
 have h8:=M.mc.o8
 have:=Lx (F:=aX m) (l:=ns n) (b:=320) fun x _=>Nat.le_trans (LA M _ x) (by omega)
 rwa [cN] at this
theorem CN:aar (aK m):=by
 have C:=M.mc
 have o0:=C.o0
 have o8:=C.o8
 have cm:=C.m
 have kl:=LB M m.On.aB.aA.toNat
 refine ⟨by unfold aK; omega,?_,fun r hr=>?_,fun r hr=>?_⟩
 ·unfold aK
  refine Hc (IU _) (fun x _=>?_) fun x _ x' _ z hz Da=>?_
  ·unfold aX
   refine Hc (IU _) (fun y _=>?_) fun y _ y' _ z hz Da=>?_
   ·unfold aY
    refine List.Pairwise.map _ (fun a b h=>?_) (A6 (n:=m.On.aB.aE.length) (p:=G9 m.On.aB x (oM m y)))
    intro e
    injection e with _ e
    injection e with _ e
    injection e with e _
    exact h e
   ·unfold aY at hz Da
    obtain ⟨f,_,rfl⟩:=List.mem_map.1 hz
    obtain ⟨f',_,e⟩:=List.mem_map.1 Da
    injection e with _ e
    injection e with e _
    exact e.symm
  ·unfold aX aY at hz Da
   simp only [List.mem_flatMap,List.mem_map] at hz Da
   obtain ⟨y,_,f,_,rfl⟩:=hz
   obtain ⟨y',_,f',_,e⟩:=Da
   injection e with e _
   exact e.symm
 ·obtain ⟨x,y,f,_,_,rfl⟩:=Hb.1 hr
  rfl
 ·obtain ⟨x,y,f,⟨hx,hy⟩,hf,rfl⟩:=Hb.1 hr
  intro v hv
  have:=hf.1
  rcases List.mem_cons.1 hv with rfl | hv
  ·omega
  ·rcases List.mem_cons.1 hv with rfl | hv
   ·omega
   ·obtain rfl:=List.mem_singleton.1 hv
    omega
theorem aas {S:Type} {f:List (List Int)×Int→Option (Out S (aF×List (List Int)))} :
  af (ae 0 (ah (fun s:List (List Int)×Int=>iC m s.1 s.2) (([]:List (List Int)),(0:Int)))) f=f (aK m,(m.On.aB.aA.toNat:Int)):=by
 have C:=M.mc
 have o0:=C.o0
 have o8:=C.o8
 have cm:=C.m
 refine gu (ns m.On.aB.aA.toNat) (fun i=>((ns i).flatMap (aX m),(i:Int))) rfl (e:=(aK m,(m.On.aB.aA.toNat:Int))) ?_ ?_
 ·intro i x hx
  obtain ⟨rfl,hi⟩:=dy hx
  have kl:=LB M i
  show iC m _ (i:Int)=_
  unfold iC
  rw [au (by omega),cond_true]
  dsimp only
  generalize FN:(ns i).flatMap (aX m)=acc at kl
  refine (gu (ns m.On.aB.aA.toNat) (fun j=>(acc++(ns j).flatMap (aY m i),(j:Int))) (by simp [ns]) (e:=(acc++aX m i,(m.On.aB.aA.toNat:Int))) ?_ ?_).trans ?_
  ·intro j y hy
   obtain ⟨rfl,hj⟩:=dy hy
   have xl:=LA M j i
   show jX m (i:Int) _ (j:Int)=_
   unfold jX
   rw [au (by omega),cond_true,ve M (by omega) (by omega),aD,Jg C,aD]
   dsimp only
   generalize Uf:(ns j).flatMap (aY m i)=LC at xl
   have hl:(rn m.On.aB i (oM m j)).length≤40:=by have:=Lz M (i:Int) (j:Int); unfold aY at this; rwa [List.length_map] at this
   refine (gu (rn m.On.aB i (oM m j)) (fun k=>((acc++LC)++((rn m.On.aB i (oM m j)).take k).map fun f=>[(i:Int),(j:Int),f],(k:Int))) (by simp) (e:=((acc++LC)++aY m i j,((rn m.On.aB i (oM m j)).length:Int))) ?_ ?_).trans ?_
   ·intro k f hf
    have hk:=cc hf
    show jW (i:Int) (j:Int) (rn m.On.aB i (oM m j)) _ (k:Int)=_
    unfold jW
    dsimp only
    have hb:((acc++LC)++((rn m.On.aB i (oM m j)).take k).map fun f=>[(i:Int),(j:Int),f]).length≤10000:=by simp; omega
    rw [au (by omega),cond_true,ch,hf,aD,dL (by omega) (by omega),aD,bR (by omega),tk hf,List.map_append,← List.append_assoc]; rfl
   ·show jW (i:Int) (j:Int) (rn m.On.aB i (oM m j)) _ _=_
    unfold jW
    rw [ay (by omega),cond_false,List.take_length]; rfl
   ·dsimp only
    rw [bR (by omega),Bc,Uf,List.append_assoc]
  ·show jX m (i:Int) _ _=_
   unfold jX
   rw [cN,ay (by omega),cond_false]; rfl
  ·dsimp only
   rw [bR (by omega),Bc,FN]
 ·show iC m _ _=_
  unfold iC
  rw [cN,ay (by omega),cond_false]; rfl
theorem aat:iW m=some (aK m):=by
 have C:=M.mc
 have o0:=C.o0
 have o8:=C.o8
 have cm:=C.m
 unfold iW
 refine (congrArg ak (gu (ns m.On.aB.aA.toNat) (fun i=>((ns i).flatMap (aX m),(i:Int))) rfl (e:=(aK m,(m.On.aB.aA.toNat:Int))) ?_ ?_)).trans rfl
 ·intro i x hx
  obtain ⟨rfl,hi⟩:=dy hx
  have kl:=LB M i
  show fK m _ (i:Int)=_
  unfold fK
  rw [au (by omega),cond_true]
  dsimp only
  generalize FN:(ns i).flatMap (aX m)=acc at kl
  refine (gu (ns m.On.aB.aA.toNat) (fun j=>(acc++(ns j).flatMap (aY m i),(j:Int))) (by simp [ns]) (e:=(acc++aX m i,(m.On.aB.aA.toNat:Int))) ?_ ?_).trans ?_
  ·intro j y hy
   obtain ⟨rfl,hj⟩:=dy hy
   have xl:=LA M j i
   have eo:dP m (j:Int)=some (oM m j):=by unfold dP; rw [ve M (by omega) (by omega)]; rfl
   have eh:kH m.On.aB (i:Int) (oM m j)=some (rn m.On.aB i (oM m j)):=aiD C _ _
   show fJ m (i:Int) _ (j:Int)=_
   unfold fJ
   rw [au (by omega),cond_true,eo,aD,eh,aD]
   dsimp only
   generalize Uf:(ns j).flatMap (aY m i)=LC at xl
   have hl:(rn m.On.aB i (oM m j)).length≤40:=by have:=Lz M (i:Int) (j:Int); unfold aY at this; rwa [List.length_map] at this
   refine (gu (rn m.On.aB i (oM m j)) (fun k=>((acc++LC)++((rn m.On.aB i (oM m j)).take k).map fun f=>[(i:Int),(j:Int),f],(k:Int))) (by simp) (e:=((acc++LC)++aY m i j,((rn m.On.aB i (oM m j)).length:Int))) ?_ ?_).trans ?_
   ·intro k f hf
    have hk:=cc hf
    show fI (i:Int) (j:Int) (rn m.On.aB i (oM m j)) _ (k:Int)=_
    unfold fI
    dsimp only
    have hb:((acc++LC)++((rn m.On.aB i (oM m j)).take k).map fun f=>[(i:Int),(j:Int),f]).length≤10000:=by simp; omega
    rw [au (by omega),cond_true,ch,hf,aD,dL (by omega) (by omega),aD,bR (by omega),tk hf,List.map_append,← List.append_assoc]; rfl
   ·show fI (i:Int) (j:Int) (rn m.On.aB i (oM m j)) _ _=_
    unfold fI
    rw [ay (by omega),cond_false,List.take_length]; rfl
   ·dsimp only
    rw [bR (by omega),Bc,Uf,List.append_assoc]
  ·show fJ m (i:Int) _ _=_
   unfold fJ
   rw [cN,ay (by omega),cond_false]; rfl
  ·dsimp only
   rw [bR (by omega),Bc,FN]
 ·show fK m _ _=_
  unfold fK
  rw [cN,ay (by omega),cond_false]; rfl
end
end Go.Proofs.YtilhlobfebngdaaGreat
namespace Go.Proofs.YtilhlobfebngdaaGreat
open Go Go.Li
set_option linter.unusedVariables false
set_option linter.unusedSectionVars false
set_option linter.unusedSimpArgs false
def sn (m:bT) (z f g:Int):Int:=kM m (kM m f (aM m g)) (gi m.cn z)
noncomputable def G4 (m:bT):List Int:=cg m.On.aB.aA.toNat fun x=>kh (aK m) [x,x,gi m.Unit x]
noncomputable def rm (m:bT):aF:=aF.mk m.On.aB.aA (w9 (aK m) 0) (w9 (aK m) 1) (G4 m) []
noncomputable def gK (m:bT) (i j:Int):Int:=kh (aK m) [gi (gr (aK m) i) 0,gi (gr (aK m) j) 1,sn m (gi (gr (aK m) j) 1) (gi (gr (aK m) i) 2) (gi (gr (aK m) j) 2)]
noncomputable def BF (m:bT):aF:=aF.mk m.On.aB.aA (w9 (aK m) 0) (w9 (aK m) 1) (G4 m) (p3 (rm m) (gK m))
theorem sb (A:List (List Int)) (k:Int):(w9 A k).length=A.length:=cE _ _
theorem aak {m:bT} {i j:Int} (i0:0≤i) (i1:i < (aK m).length) (j0:0≤j) (j1:j < (aK m).length):ua (rm m) (gK m) i j=bif gi (gr (aK m) i) 1 == gi (gr (aK m) j) 0 then gK m i j else -1:=by
 unfold ua
 rw [show gi (rm m).To i=gi (gr (aK m) i) 1 from He i0 i1,show gi (rm m).aE j=gi (gr (aK m) j) 0 from He j0 j1]
section
variable {m:bT} (M:Mon0 m)
include M
theorem Ns {x y z f g:Int} (hf:fh m.On.aB x (oM m y) f) (hg:fh m.On.aB y (oM m z) g) (z0:0≤z) (z1:z < m.On.aB.aA):fh m.On.aB x (oM m z) (sn m z f g):=
 M.Nv (M.Nv hf (M.Fg hg)) (M.G5 z0 z1)
theorem Nr {x y z f g:Int} (hf:fh m.On.aB x (oM m y) f) (hg:fh m.On.aB y (oM m z) g) (z0:0≤z) (z1:z < m.On.aB.aA):lK m z f g=some (sn m z f g):=by
 have C:=M.mc
 have c1:fh m.On.aB x (oM m (oM m z)) (gk m.On.aB.aC f (aM m g)):=M.Nv hf (M.Fg hg)
 unfold lK
 rw [Ha M hg,aD,zl C hf (M.Fg hg),aD,HT M z0 z1,aD,zl C c1 (M.G5 z0 z1),aD]; rfl
theorem HR {x y z f g:Int} (hf:fh m.On.aB x (oM m y) f) (hg:fh m.On.aB y (oM m z) g) (z0:0≤z) (z1:z < m.On.aB.aA):fW z f g m.On.aB m=some (sn m z f g):=by
 have C:=M.mc
 have c1:fh m.On.aB x (oM m (oM m z)) (gk m.On.aB.aC f (aM m g)):=M.Nv hf (M.Fg hg)
 unfold fW
 rw [Ha M hg,aD,zm C hf (M.Fg hg),aD,HT M z0 z1,aD,zm C c1 (M.G5 z0 z1),aD]; rfl
theorem mem_row {x y f:Int} (x0:0≤x) (x1:x < m.On.aB.aA) (y0:0≤y) (y1:y < m.On.aB.aA) (hf:fh m.On.aB x (oM m y) f):[x,y,f]∈aK m:=by
 have o0:=M.mc.o0
 exact Hb.2 ⟨x,y,f,⟨⟨x0,by omega⟩,y0,by omega⟩,hf,rfl⟩
theorem Q6 {i:Int} (i0:0≤i) (i1:i < (aK m).length):∃ x y f:Int,((0≤x∧x < m.On.aB.aA)∧(0≤y∧y < m.On.aB.aA))∧fh m.On.aB x (oM m y) f∧gr (aK m) i=[x,y,f]:=by
 have o0:=M.mc.o0
 obtain ⟨x,y,f,⟨hx,hy⟩,hf,e⟩:=Hb.1 (fy i0 i1)
 exact ⟨x,y,f,⟨⟨hx.1,by omega⟩,hy.1,by omega⟩,hf,e⟩
theorem Nx {i j:Int} (i0:0≤i) (i1:i < (aK m).length) (j0:0≤j) (j1:j < (aK m).length) (e:gi (gr (aK m) i) 1=gi (gr (aK m) j) 0) :
  ∃ x y z f g:Int,(0≤x∧x < m.On.aB.aA)∧(0≤z∧z < m.On.aB.aA)∧fh m.On.aB x (oM m y) f∧fh m.On.aB y (oM m z) g∧gr (aK m) i=[x,y,f]∧gr (aK m) j=[y,z,g]:=by
 obtain ⟨x,y,f,⟨hx,hy⟩,hf,e1⟩:=Q6 M i0 i1
 obtain ⟨y',z,g,⟨vn,hz⟩,hg,e2⟩:=Q6 M j0 j1
 rw [e1,e2] at e
 obtain rfl:y=y':=e
 exact ⟨x,y,z,f,g,hx,hz,hf,hg,e1,e2⟩
theorem Bb {F T I:List Int} {K:List (List Int)}:dT (aF.mk m.On.aB.aA F T I K)=some (decide ((F.length:Int)≤40)):=by
 have o8:=M.mc.o8
 unfold dT
 dsimp only
 rw [au o8,cond_true,aD]; rfl
theorem W9 {i:Int} (i0:0≤i) (i1:i < (aK m).length) {S:Type} {f:List Int×Int→Option (Out S (aF×List (List Int)))} :
  af (ae 10 (ah (fun s:List Int×Int=>iE m (aK m) i s.1 s.2) (([]:List Int),(0:Int)))) f=f (cg (aK m).length (ua (rm m) (gK m) i),((aK m).length:Int)):=by
 have H:=CN M
 have hn:=H.n
 refine gu (ns (aK m).length) (fun j=>(cg j (ua (rm m) (gK m) i),(j:Int))) rfl (e:=(cg (aK m).length (ua (rm m) (gK m) i),((aK m).length:Int))) ?_ ?_
 ·intro j x hx
  obtain ⟨rfl,hj⟩:=dy hx
  have ri:=H.l _ (fy i0 i1)
  have rj:=H.l _ (fy (l:=aK m) (j:=(j:Int)) (by omega) (by omega))
  have ml:=cE j (ua (rm m) (gK m) i)
  rw [j6,aak i0 i1 (by omega) (by omega)]
  show iE m (aK m) i (cg j _) (j:Int)=_
  generalize FN:cg j (ua (rm m) (gK m) i)=acc at ml
  unfold iE
  rw [au (by omega),cond_true,fx i0 i1,aD,fx (by omega) (by omega),aD,bQ (by omega) (by omega),aD,bQ (by omega) (by omega),aD]
  by_cases e:gi (gr (aK m) i) 1=gi (gr (aK m) j) 0
  ·rw [n5 e,cond_true,cond_true,bQ (by omega) (by omega),aD,bQ (l:=gr (aK m) (j:Int)) (by omega) (by omega),aD,aD,bQ (by omega) (by omega),aD,bQ (l:=gr (aK m) (j:Int)) (by omega) (by omega),aD]
   obtain ⟨x,y,z,u,v,hx,hz,hu,hv,e1,e2⟩:=Nx M i0 i1 (by omega) (by omega) e
   have hb:lK m (gi (gr (aK m) (j:Int)) 1) (gi (gr (aK m) i) 2) (gi (gr (aK m) (j:Int)) 2)=some (sn m (gi (gr (aK m) (j:Int)) 1) (gi (gr (aK m) i) 2) (gi (gr (aK m) (j:Int)) 2)):=by
    rw [e1,e2]
    exact Nr M hu hv hz.1 hz.2
   rw [hb,aD,(xa _ H.n H.l).1,aD,dL (by omega) (by omega),aD,bR (by omega)]; rfl
  ·rw [sa e,cond_false,cond_false,dL (by omega) (by omega),aD,bR (by omega)]
 ·show iE m (aK m) i _ _=_
  unfold iE
  rw [cN,ay (by omega),cond_false]
theorem aag:nX m=some (bif decide (((aK m).length:Int)≤40) then BF m else rm m,aK m):=by
 have C:=M.mc
 have o0:=C.o0
 have o8:=C.o8
 have H:=CN M
 have hn:=H.n
 unfold nX
 rw [aas M]
 dsimp only
 rw [LF H.n H.l (by omega) (by omega),aD,LF H.n H.l (by omega) (by omega),aD]
 have l3:∀ {S:Type} {f:Int×List Int→Option (Out S (aF×List (List Int)))},af (ae 6 (ah (fun s:Int×List Int=>iD m (aK m) s.1 s.2) ((0:Int),([]:List Int)))) f=f ((m.On.aB.aA.toNat:Int),G4 m):=by
  intro S f
  refine gu (ns m.On.aB.aA.toNat) (fun i=>((i:Int),cg i fun x=>kh (aK m) [x,x,gi m.Unit x])) rfl (e:=((m.On.aB.aA.toNat:Int),G4 m)) ?_ ?_
  ·intro i x hx
   obtain ⟨rfl,hi⟩:=dy hx
   have ml:=cE i fun x=>kh (aK m) [x,x,gi m.Unit x]
   rw [j6]
   show iD m (aK m) (i:Int) (cg i _)=_
   generalize (cg i fun x=>kh (aK m) [x,x,gi m.Unit x])=acc at ml
   unfold iD
   rw [au (by omega),cond_true,Eg M (by omega) (by omega),aD,(xa _ H.n H.l).1,aD,dL (by omega) (by omega),aD,bR (by omega)]
  ·show iD m (aK m) _ _=_
   unfold iD
   rw [cN,ay (by omega),cond_false]; rfl
 rw [l3]
 dsimp only
 by_cases Eh:((aK m).length:Int)≤40
 ·rw [au Eh,cond_true]
  refine (congrArg ak (gu (ns (aK m).length) (fun i=>((i:Int),cg i fun f=>cg (aK m).length (ua (rm m) (gK m) f))) rfl (e:=(((aK m).length:Int),p3 (rm m) (gK m))) ?_ ?_)).trans rfl
  ·intro i x hx
   obtain ⟨rfl,hi⟩:=dy hx
   have ml:=cE i fun f=>cg (aK m).length (ua (rm m) (gK m) f)
   rw [j6]
   show gI m (aK m) _ _ _ (i:Int) (cg i _)=_
   generalize (cg i fun f=>cg (aK m).length (ua (rm m) (gK m) f))=acc at ml
   unfold gI
   rw [au (by omega),cond_true,Bb M,aD,aD,sb,au Eh,cond_true,W9 M (by omega) (by omega)]
   dsimp only
   rw [dL (by omega) (by omega),aD,bR (by omega)]
  ·show gI m (aK m) _ _ _ _ _=_
   unfold gI
   rw [cN,ay (by omega),cond_false,aD,cond_false]
   unfold p3
   rw [show (rm m).aE.length=(aK m).length from sb _ _]
 ·rw [ay Eh,cond_false]
  refine (congrArg ak (gu ([]:List Int) (fun i=>((i:Int),([]:List (List Int)))) rfl (e:=((0:Int),([]:List (List Int)))) ?_ ?_)).trans rfl
  ·intro i x hx; cases hx
  ·show gI m (aK m) _ _ _ (0:Int) []=_
   unfold gI
   rw [au (by omega),cond_true,Bb M,aD,aD,sb,ay Eh,cond_false]
theorem aau {i j:Int} (i0:0≤i) (i1:i < (aK m).length) (j0:0≤j) (j1:j < (aK m).length) (e:gi (gr (aK m) i) 1=gi (gr (aK m) j) 0):gL i j (aK m) (IV (aK m)) m=some (gK m i j):=by
 have H:=CN M
 have ri:=H.l _ (fy i0 i1)
 have rj:=H.l _ (fy j0 j1)
 unfold gL
 rw [fx i0 i1,aD,fx j0 j1,aD,bQ (by omega) (by omega),aD,bQ (l:=gr (aK m) j) (by omega) (by omega),aD,aD,bQ (by omega) (by omega),aD,bQ (l:=gr (aK m) j) (by omega) (by omega),aD]
 obtain ⟨x,y,z,u,v,hx,hz,hu,hv,e1,e2⟩:=Nx M i0 i1 j0 j1 e
 have hb:fW (gi (gr (aK m) j) 1) (gi (gr (aK m) i) 2) (gi (gr (aK m) j) 2) m.On.aB m=some (sn m (gi (gr (aK m) j) 1) (gi (gr (aK m) i) 2) (gi (gr (aK m) j) 2)):=by
  rw [e1,e2]
  exact HR M hu hv hz.1 hz.2
 have hm:[gi (gr (aK m) i) 0,gi (gr (aK m) j) 1,sn m (gi (gr (aK m) j) 1) (gi (gr (aK m) i) 2) (gi (gr (aK m) j) 2)]∈aK m:=by
  rw [e1,e2]
  exact mem_row M hx.1 hx.2 hz.1 hz.2 (Ns M hu hv hz.1 hz.2)
 rw [hb,aD,FQ (by simp),aD,Q7 H hm]; rfl
theorem aae:mA m=some (bif decide (((aK m).length:Int)≤40) then (BF m,aK m,true) else (aF.mk 0 [] [] [] [],[],false)):=by
 have C:=M.mc
 have o0:=C.o0
 have o8:=C.o8
 have H:=CN M
 have hn:=H.n
 have ul:=M.muL
 unfold mA
 rw [aat M,aD]
 by_cases Eh:((aK m).length:Int)≤40
 ·rw [ay (by omega),cond_false,O6 H,aD,show fV=some () from rfl,aD,LG H.n H.l (by omega) (by omega),aD,LG H.n H.l (by omega) (by omega),aD,au Eh,cond_true]
  refine (congrArg ak (gu (ns m.On.aB.aA.toNat) (fun i=>(cg i fun x=>kh (aK m) [x,x,gi m.Unit x],(i:Int))) rfl (e:=(G4 m,(m.On.aB.aA.toNat:Int))) ?_ ?_)).trans ?_
  ·intro i x hx
   obtain ⟨rfl,hi⟩:=dy hx
   have hu:=M.Ee (x:=(i:Int)) (by omega) (by omega)
   have ml:=cE i fun x=>kh (aK m) [x,x,gi m.Unit x]
   rw [j6]
   show iB m (IV (aK m)) (cg i _,(i:Int))=_
   generalize (cg i fun x=>kh (aK m) [x,x,gi m.Unit x])=acc at ml
   unfold iB
   dsimp only
   rw [au (by omega),cond_true,Eg M (by omega) (by omega),aD,FQ (by simp),aD,Q7 H (mem_row M (by omega) (by omega) (by omega) (by omega) hu),dL (by omega) (by omega),aD,bR (by omega)]
  ·show iB m (IV (aK m)) (_,_)=_
   unfold iB
   dsimp only
   rw [cN,ay (by omega),cond_false]; rfl
  ·dsimp only
   have hl:(rm m).aE.length=(aK m).length:=sb _ _
   have ht:(rm m).To.length=(aK m).length:=sb _ _
   have:=Q8 (c:=rm m) (g:=fun a0 a1=>gL a0 a1 (aK m) (IV (aK m)) m) (G:=gK m) (by omega) (by omega) fun f h f0 f1 h0 h1 e=>by
    rw [hl] at f1 h1
    rw [show gi (rm m).To f=gi (gr (aK m) f) 1 from He f0 f1,show gi (rm m).aE h=gi (gr (aK m) h) 0 from He h0 h1] at e
    exact aau M f0 f1 h0 h1 e
   unfold rm at this
   rw [this,aD]; rfl
 ·rw [au (by omega),cond_true,ay Eh,cond_false]; rfl
end
end Go.Proofs.YtilhlobfebngdaaGreat
namespace Go.Proofs.YtilhlobfebngdaaGreat
open Go Go.Li
set_option linter.unusedVariables false
set_option linter.unusedSectionVars false
set_option linter.unusedSimpArgs false
def Ec:aF:=aF.mk 0 [] [] [] []
section
variable {m:bT} (hs:Ed m)
include hs
theorem aad:lL m=some (bif xT m then (bif decide (((aK m).length:Int)≤40) then (BF m,aK m,0) else (Ec,[],3)) else (Ec,[],1)):=by
 unfold lL
 rw [A8 hs,aD]
 cases hM:xT m with
 | false=>rfl
 | true=>
  simp only [Bool.not_true,cond_false,cond_true]
  rw [aae (B2 hM).toMon0,aD]
  cases decide (((aK m).length:Int)≤40) <;> rfl
theorem aaf:oU m=some (bif xT m then (bif decide (((aK m).length:Int)≤40) then (BF m,aK m,0) else (Ec,[],3)) else (Ec,[],1)):=by
 unfold oU
 rw [A9 hs,aD]
 cases hM:xT m with
 | false=>rfl
 | true=>
  have M:=(B2 hM).toMon0
  simp only [Bool.not_true,cond_false,cond_true]
  rw [aag M,aD]
  by_cases h:((aK m).length:Int)≤40
  ·rw [au h,cond_true,cond_true]
   dsimp only
   rw [show BF m=aF.mk m.On.aB.aA (w9 (aK m) 0) (w9 (aK m) 1) (G4 m) (p3 (rm m) (gK m)) from rfl,Bb M,aD,sb,au h]; rfl
  ·rw [ay h,cond_false,cond_false]
   dsimp only
   rw [show rm m=aF.mk m.On.aB.aA (w9 (aK m) 0) (w9 (aK m) 1) (G4 m) [] from rfl,Bb M,aD,sb,ay h]; rfl
theorem O3 (M:Mon0 m) (h:((aK m).length:Int)≤40):gh (BF m):=by
 have o8:=M.mc.o8
 have hl:(rm m).aE.length=(aK m).length:=sb _ _
 refine ⟨?_,?_,?_,?_,fun r hr=>?_⟩
 ·show (w9 (aK m) 0).length≤_; rw [sb]; omega
 ·show (w9 (aK m) 1).length≤_; rw [sb]; omega
 ·show (G4 m).length≤_; unfold G4; rw [cE]; omega
 ·show (p3 (rm m) (gK m)).length≤_; unfold p3; rw [cE]; omega
 ·obtain ⟨i,_,rfl⟩:=nj.1 hr
  rw [cE]; omega
theorem Lt {y z f g:Int} (hM:xT m=true) (y0:0≤y) (y1:y < m.On.aB.aA) (z0:0≤z) (z1:z < m.On.aB.aA) {x:Int} (hf:fh m.On.aB x (oM m y) f) (hg:fh m.On.aB y (oM m z) g):fH m y z f g=some (sn m z f g,0):=by
 have M:=(B2 hM).toMon0
 have C:=M.mc
 have cm:=C.m
 have o8:=C.o8
 have o0:=C.o0
 have i1:np m.On.aB.aA [y,z]=(xp m y && (xp m z && true)):=rfl
 have i2:np m.On.aB.aE.length [f,g]=(xq m f && (xq m g && true)):=rfl
 unfold fH dP
 rw [A8 hs,aD,hM]
 simp only [Bool.not_true,cond_false]
 rw [within _ _ (by simp) o0 (by omega),aD,i1,EN.2 ⟨y0,y1⟩,EN.2 ⟨z0,z1⟩,show cY m.On.aB=some (m.On.aB.aE.length:Int) from rfl,aD,within _ _ (by simp) (by omega) (by omega),aD,i2,ES.2 hf.1,ES.2 hg.1]
 simp only [Bool.and_self,Bool.not_true,cond_false]
 rw [C.jm hf.1.1 hf.1.2,aD,ve M y0 y1,aD,hf.2.2,D9 C.touG.toHead hg.1.1 hg.1.2,ve M z0 z1]
 show ak (S:=Unit) (((bif oM m y != oM m y then _ else _):Option Bool)>>=_)=_
 rw [mq rfl,cond_false,aD,hg.2.1,hg.2.2]
 show ak (S:=Unit) (some (!(y == y && oM m z == oM m z))>>=_)=_
 rw [n5 rfl,n5 rfl,aD]
 show ak (S:=Unit) (fV>>=_)=_
 rw [show fV=some () from rfl,aD,HR M hf hg z0 z1]; rfl
theorem acB (y z f g:Int):∃ r,fH m y z f g=some r∧kD m y z f g=some r∧(r.2=0→xT m=true∧(0≤y∧y < m.On.aB.aA)∧(0≤z∧z < m.On.aB.aA)∧fh m.On.aB (gi m.On.aB.aE f) (oM m y) f∧fh m.On.aB y (oM m z) g∧r.1=sn m z f g):=by
 cases hM:xT m with
 | false=>
  refine ⟨(0,1),?_,?_,fun h=>(by cases h)⟩
  ·unfold fH
   rw [A8 hs,aD,hM]; rfl
  ·unfold kD
   rw [A9 hs,aD,hM]; rfl
 | true=>
  have M:=(B2 hM).toMon0
  have C:=M.mc
  have cm:=C.m
  have o8:=C.o8
  have o0:=C.o0
  have i1:np m.On.aB.aA [y,z]=(xp m y && (xp m z && true)):=rfl
  have i2:np m.On.aB.aE.length [f,g]=(xq m f && (xq m g && true)):=rfl
  have e1:fH m y z f g=ak (S:=Unit) (bif !((xp m y && xp m z) && (xq m f && xq m g)) then some (.ret (0,2)) else (((idx m.On.aB.To f>>=fun Qz=>dP m y>>=fun ZY=>bif Qz != ZY then some true else eQ m.On.aB g>>=fun DQ=>dP m z>>=fun DR=>some (!(DQ.aE == y && DQ.To == DR))):Option Bool)>>=fun ZZ=>bif ZZ then some (.ret (0,5)) else fV>>=fun _=>fW z f g m.On.aB m>>=fun Qv=>some (.ret (Qv,0)))):=by
   unfold fH
   rw [A8 hs,aD,hM]
   simp only [Bool.not_true,cond_false]
   rw [within _ _ (by simp) o0 (by omega),aD,i1,show cY m.On.aB=some (m.On.aB.aE.length:Int) from rfl,aD,within _ _ (by simp) (by omega) (by omega),aD,i2]
   cases xp m y <;> cases xp m z <;> cases xq m f <;> cases xq m g <;> rfl
  have e2:kD m y z f g=ak (S:=Unit) (bif !((xp m y && xp m z) && (xq m f && xq m g)) then some (.ret (0,2)) else (((idx m.On.aB.To f>>=fun GQ=>idx m.On.aA y>>=fun QI=>bif GQ != QI then some true else idx m.On.aB.aE g>>=fun DZ=>bif DZ != y then some true else idx m.On.aB.To g>>=fun DW=>idx m.On.aA z>>=fun GC=>some (DW != GC)):Option Bool)>>=fun Z0=>bif Z0 then some (.ret (0,5)) else lK m z f g>>=fun Z1=>some (.ret (Z1,0)))):=by
   unfold kD
   rw [A9 hs,aD,hM]
   simp only [Bool.not_true,cond_false]
   rw [CM,aD,CM,Lu,Lu]
   show ak (S:=Unit) (((bif !(xp m y) then some true else (some (xp m z)>>=fun QF=>bif !QF then some true else (some (xq m f)>>=fun yR=>bif !yR then some true else (some (xq m g)>>=fun K8=>some !K8)))):Option Bool)>>=_)=_
   cases xp m y <;> cases xp m z <;> cases xq m f <;> cases xq m g <;> rfl
  rw [e1,e2]
  cases zK:(xp m y && xp m z) && (xq m f && xq m g) with
  | false=>exact ⟨(0,2),rfl,rfl,fun h=>(by cases h)⟩
  | true=>
   simp only [Bool.and_eq_true] at zK
   obtain ⟨⟨hy,hz⟩,hf,hg⟩:=zK
   have QU:=EN.1 hy
   have bz:=EN.1 hz
   have bf:=ES.1 hf
   have bg:=ES.1 hg
   have eoy:dP m y=some (oM m y):=by unfold dP; rw [ve M QU.1 QU.2]; rfl
   have eoz:dP m z=some (oM m z):=by unfold dP; rw [ve M bz.1 bz.2]; rfl
   simp only [Bool.not_true,cond_false,C.jm bf.1 bf.2,aD,ve M QU.1 QU.2,eoy,eoz,D9 C.touG.toHead bg.1 bg.2,C.jc bg.1 bg.2,C.jm bg.1 bg.2,ve M bz.1 bz.2]
   by_cases e1:gi m.On.aB.To f=oM m y
   ·by_cases e2:gi m.On.aB.aE g=y
    ·by_cases e3:gi m.On.aB.To g=oM m z
     ·have L1:fh m.On.aB (gi m.On.aB.aE f) (oM m y) f:=⟨bf,rfl,e1⟩
      have L2:fh m.On.aB y (oM m z) g:=⟨bg,e2,e3⟩
      refine ⟨(sn m z f g,0),?_,?_,fun _=>⟨trivial,QU,bz,L1,L2,rfl⟩⟩
      ·simp only [mq e1,n5 e2,n5 e3,cond_false,Bool.and_self,Bool.not_true,aD,show fV=some () from rfl,HR M L1 L2 bz.1 bz.2]; rfl
      ·simp only [mq e1,mq e2,mq e3,cond_false,aD,Nr M L1 L2 bz.1 bz.2]; rfl
     ·refine ⟨(0,5),?_,?_,fun h=>(by cases h)⟩
      ·simp only [mq e1,n5 e2,sa e3,cond_false,Bool.and_false,Bool.not_false,aD,cond_true]; rfl
      ·simp only [mq e1,mq e2,qd e3,cond_false,aD,cond_true]; rfl
    ·refine ⟨(0,5),?_,?_,fun h=>(by cases h)⟩
     ·simp only [mq e1,sa e2,cond_false,Bool.false_and,Bool.not_false,aD,cond_true]; rfl
     ·simp only [mq e1,qd e2,cond_false,aD,cond_true]; rfl
   ·refine ⟨(0,5),?_,?_,fun h=>(by cases h)⟩
    ·simp only [qd e1,aD,cond_true]; rfl
    ·simp only [qd e1,aD,cond_true]; rfl
end
section
variable {m:bT} (M:Mon m)
include M
theorem W2 {x y f:Int} (y0:0≤y) (y1:y < m.On.aB.aA) (hf:fh m.On.aB x (oM m y) f):sn m y (gi m.Unit x) f=f:=by
 have hx:=Lv M.mc hf
 have u:=M.Ee hx.1 hx.2
 have o:=M.VC y0 y1
 have uy:=M.Ee o.1 o.2
 have j:=M.G5 y0 y1
 unfold sn
 rw [← M.muN hf,M.mas hf uy j,M.l2 y y0 y1]
 exact QV M.mc hf
theorem W3 {x y f:Int} (y0:0≤y) (y1:y < m.On.aB.aA) (hf:fh m.On.aB x (oM m y) f):sn m y f (gi m.Unit y)=f:=by
 have u:=M.Ee y0 y1
 have j:=M.G5 y0 y1
 unfold sn
 rw [M.mas hf (M.Fg u) j,M.l1 y y0 y1]
 exact QV M.mc hf
end
section
variable {x:List Int} (B:yT x)
include B
theorem T9:Ok (lN x) fun y=>Ed y.1:=by
 have hlen:=B.len
 unfold lN
 refine ie (ob (aah B) fun y hy=>?_)
 obtain ⟨s,rfl,S⟩:=hy
 show Ok (oJ (aJ.mk x s.At s.an)>>=_) _
 refine ob (aai B S.G6) fun a ha=>ob (G7 B ha.2.G6 _) fun ny hny=>ob (G7 B hny.G6 _) fun nz hnz=>ob (G7 B hnz.G6 _) fun nf PK=>ob (G7 B PK.G6 _) fun ng hng=>oe (A9 ha.1) (oc (fun hM=>oe (CM _ _) (oc (fun hO=>oe (CM _ _) (oc (fun P7=>ob (dk B hng.G6 _) fun w hw=>od (fun _=>?_) fun _=>os ha.1) fun _=>os ha.1)) fun _=>os ha.1)) fun _=>os ha.1)
 have M:=B2 hM
 have C:=M.toMon0.mc
 have o0:=C.o0
 have o8:=C.o8
 have cm:=C.m
 rw [Bool.and_eq_true] at hO P7
 have y0:=of_decide_eq_true hO.1
 have y1:=of_decide_eq_true hO.2
 have z0:=of_decide_eq_true P7.1
 have z1:=of_decide_eq_true P7.2
 have oy:=M.toMon0.VC y0 y1
 refine ol (fun w:List Int×Int=>(0≤w.2∧w.2≤a.1.On.aB.aA)∧(w.1.length:Int)≤w.2 * 1000∧(oM a.1 ny.1 < w.2→0 < w.1.length)) (fun w=>(a.1.On.aB.aA - w.2).toNat) ⟨⟨by show (0:Int)≤0; omega,by show (0:Int)≤_; omega⟩,by show ((0:Nat):Int)≤0 * 1000; omega,fun h=>by dsimp only at h; omega⟩ ?_
 rintro ⟨l,i⟩ ⟨⟨i0,i1⟩,hl,hn⟩
 dsimp only at i0 i1 hl hn
 show Ok (mG a ny l i) _
 unfold mG
 refine od (fun hi=>oe (ve M.toMon0 y0 y1) (oe (Jg C _ _) ?_)) fun hi=>os ⟨rfl,?_⟩
 ·have ll:(rn a.1.On.aB i (oM a.1 ny.1)).length≤a.1.On.aB.aE.length:=Nat.le_trans (List.length_filter_le _ _) (by rw [cN]; exact Nat.le_refl _)
  show Ok (fits 8 (l.length+(rn a.1.On.aB i (oM a.1 ny.1)).length)>>=fun _=>some (Out.norm (l++rn a.1.On.aB i (oM a.1 ny.1),aj (i+1)))) _
  refine dt (by omega) (by omega) (os ⟨⟨⟨?_,?_⟩,?_,fun h=>?_⟩,?_⟩)
  ·dsimp only; rw [w1 i0 hi (by omega)]; omega
  ·dsimp only; rw [w1 i0 hi (by omega)]; omega
  ·dsimp only; rw [w1 i0 hi (by omega),List.length_append]; omega
  ·dsimp only at h ⊢
   rw [w1 i0 hi (by omega)] at h
   rw [List.length_append]
   by_cases e:oM a.1 ny.1=i
   ·have:gi a.1.On.aB.aH (oM a.1 ny.1)∈rn a.1.On.aB i (oM a.1 ny.1):=by
     rw [← e]
     exact HS.2 (aaj C oy.1 oy.2)
    have:=List.length_pos_of_mem this
    omega
   ·have:=hn (by omega)
    omega
  ·dsimp only; rw [w1 i0 hi (by omega)]; omega
 ·have h0:=hn (by omega)
  refine ob (dk B hw.2.G6 _) fun v hv=>oi hv.1.1 (hv.1.2 (by omega)) fun f hf=>oe (ve M.toMon0 z0 z1) (oe (Jg C _ _) (oc (fun e=>?_) fun e=>?_))
  ·refine oe (ve M.toMon0 y0 y1) (oe (Jg C _ _) ?_)
   have hp:gi a.1.Unit ny.1∈rn a.1.On.aB ny.1 (oM a.1 ny.1):=HS.2 (M.toMon0.Ee y0 y1)
   have:=List.length_pos_of_mem hp
   exact ob (dk B hv.2.G6 _) fun u hu=>oi hu.1.1 (hu.1.2 (show (1:Int)≤((rn a.1.On.aB ny.1 (oM a.1 ny.1)).length:Int) by omega)) fun g hg=>os ha.1
  ·have:((rn a.1.On.aB ny.1 (oM a.1 nz.1)).length:Int)≠0:=fun h=>by
    exact absurd (n5 h) (by rw [show (((rn a.1.On.aB ny.1 (oM a.1 nz.1)).length:Int) == 0)=false from e]; simp)
   exact ob (dk B hv.2.G6 _) fun u hu=>oi hu.1.1 (hu.1.2 (show (1:Int)≤((rn a.1.On.aB ny.1 (oM a.1 nz.1)).length:Int) by omega)) fun g hg=>os ha.1
end
def As (i n:Int):Int:=if i < n then i else -1
theorem Ef {i:Int} {n:Nat} (i0:0≤i):As i ((n+1:Nat):Int)=bif decide ((n:Int)=i) then (n:Int) else As i n:=by
 unfold As
 by_cases h:(n:Int)=i
 ·rw [au h,if_pos (by omega),cond_true,h]
 ·rw [ay h,cond_false]
  by_cases h2:i < (n:Int)
  ·rw [if_pos h2,if_pos (by omega)]
  ·rw [if_neg h2,if_neg (by omega)]
theorem QW {x0:List Int} (hl:x0.length≤maxLen∧∀ y∈x0,0≤y∧y < 256):mB x0=some true:=by
 unfold mB
 have HB:uX x0=some (decide ((x0.length:Int) > 4096)):=rfl
 rw [HB,aD]
 by_cases hb:(x0.length:Int) > 4096
 ·rw [au hb,cond_true]; rfl
 rw [ay hb,cond_false]
 have BY:yT x0:=⟨by omega,hl.2⟩
 obtain ⟨q,e,hs⟩:=T9 BY
 rw [e,aD]
 obtain ⟨m,y,z,f,g⟩:=q
 dsimp only at hs ⊢
 obtain ⟨r,h1,h2,h3⟩:=acB hs y z f g
 rw [h1,aD,h2,aD,mq rfl,cond_false,mq rfl,aD,cond_false]
 by_cases h0:r.2=0
 ·obtain ⟨hM,hy,hz,L1,L2,er⟩:=h3 h0
  have M:=B2 hM
  have M0:=M.toMon0
  have C:=M0.mc
  have hx:=Lv C L1
  have ux:=M0.Ee hx.1 hx.2
  have uy:=M0.Ee hy.1 hy.2
  rw [mq h0,cond_false,C.jc L1.1.1 L1.1.2,aD,aD,Eg M0 hx.1 hx.2,aD,Lt hs hM hx.1 hx.2 hy.1 hy.2 ux L1,aD,Eg M0 hy.1 hy.2,aD,Lt hs hM hy.1 hy.2 hy.1 hy.2 L1 uy,aD,W2 M hy.1 hy.2 L1,W3 M hy.1 hy.2 L1]
  dsimp only
  rw [mq (rfl:(0:Int)=0),mq (rfl:f=f),cond_false,cond_false,cond_false,aD,cond_false]
  unfold nG oT nH oV
  rw [aad hs,aaf hs,hM]
  simp only [cond_true,aD]
  by_cases Eh:((aK m).length:Int)≤40
  ·have H:=CN M0
   rw [au Eh]
   simp only [cond_true]
   show ak (S:=Unit) ((bif (0:Int) != 0 then some true else bif (0:Int) != 0 then some true else (gM (BF m) (BF m)>>=fun Lf=>bif !Lf then some true else jP (aK m) (aK m)>>=fun Cw=>some !Cw))>>=fun Lh=>bif Lh then some (.ret false) else bif (0:Int) != 0 then some (.ret true) else _)=_
   rw [mq rfl,cond_false,cond_false,QY (O3 hs M0 Eh),aD]
   rw [show (!true)=false from rfl,cond_false,Lw _ (by omega) (fun r hr=>by have:=H.l r hr; omega),aD,show (!true)=false from rfl,aD,cond_false,cond_false]
   have m1:=mem_row M0 hx.1 hx.2 hy.1 hy.2 L1
   have m2:=mem_row M0 hy.1 hy.2 hz.1 hz.2 L2
   have L3:=Ns M0 L1 L2 hz.1 hz.2
   have m3:=mem_row M0 hx.1 hx.2 hz.1 hz.2 L3
   obtain ⟨⟨a0,a1⟩,ea⟩:=(xa _ H.n H.l).2 m1
   obtain ⟨⟨b0,b1⟩,eb⟩:=(xa _ H.n H.l).2 m2
   obtain ⟨⟨c0,c1⟩,ec⟩:=(xa _ H.n H.l).2 m3
   have lk:∀ (n:Nat) (r:List Int) (p:Int),n < (aK m).length→r.length=3→0≤p→p < (aK m).length→gr (aK m) p=r→eR (gr (aK m) n) r=some (decide ((n:Int)=p)):=fun n r p hn hr p0 p1 ep=>by
    have h3:=H.l _ (fy (l:=aK m) (j:=(n:Int)) (by omega) (by omega))
    rw [G8 _ _ (by omega)]
    by_cases e:(n:Int)=p
    ·rw [au e,e,n5 ep]
    ·rw [ay e,sa fun h=>e (QZ H.nd (by omega) (by omega) p0 p1 (h.trans ep.symm))]
   refine (congrArg ak (gu (ns (aK m).length) (fun n=>(As (kh (aK m) [gi m.On.aB.aE f,y,f]) n,As (kh (aK m) [y,z,g]) n,As (kh (aK m) [gi m.On.aB.aE f,z,sn m z f g]) n,(n:Int))) (e:=(kh (aK m) [gi m.On.aB.aE f,y,f],kh (aK m) [y,z,g],kh (aK m) [gi m.On.aB.aE f,z,sn m z f g],((aK m).length:Int))) ?_ ?_ ?_)).trans ?_
   ·unfold As
    rw [if_neg (by omega),if_neg (by omega),if_neg (by omega)]; rfl
   ·intro n v hv
    obtain ⟨rfl,hn⟩:=dy hv
    rw [Ef a0,Ef b0,Ef c0]
    show iF (m,y,z,f,g) r (aK m,0) _ _ _ (n:Int)=_
    generalize As (kh (aK m) [gi m.On.aB.aE f,y,f]) n=s1
    generalize As (kh (aK m) [y,z,g]) n=s2
    generalize As (kh (aK m) [gi m.On.aB.aE f,z,sn m z f g]) n=s3
    unfold iF
    dsimp only
    rw [au (by omega),cond_true,er]
    simp only [fx (l:=aK m) (j:=(n:Int)) (by omega) (by omega),aD,C.jc L1.1.1 L1.1.2,lk n _ _ hn (by rfl) a0 a1 ea,lk n _ _ hn (by rfl) b0 b1 eb,lk n _ _ hn (by rfl) c0 c1 ec,bR (show n < 9223372036854775807 by omega)]
    cases decide ((n:Int)=kh (aK m) [gi m.On.aB.aE f,y,f]) <;> cases decide ((n:Int)=kh (aK m) [y,z,g]) <;> cases decide ((n:Int)=kh (aK m) [gi m.On.aB.aE f,z,sn m z f g]) <;> rfl
   ·unfold As
    rw [cN,if_pos a1,if_pos b1,if_pos c1]
    show iF (m,y,z,f,g) r (aK m,0) _ _ _ _=_
    unfold iF
    dsimp only
    rw [ay (by omega),cond_false]
   ·dsimp only
    rw [au (show kh (aK m) [gi m.On.aB.aE f,y,f] ≥ 0 from a0),au (show kh (aK m) [y,z,g] ≥ 0 from b0),au (show kh (aK m) [gi m.On.aB.aE f,z,sn m z f g] ≥ 0 from c0),cond_true,cond_true,cond_true]
    have BL:(rm m).aE.length=(aK m).length:=sb _ _
    have tl:(BF m).aC.length=(aK m).length:=by show (p3 _ _).length=_; unfold p3; rw [cE,BL]
    have rw_:gr (BF m).aC (kh (aK m) [gi m.On.aB.aE f,y,f])=cg (aK m).length fun h=>ua (rm m) (gK m) (kh (aK m) [gi m.On.aB.aE f,y,f]) h:=by
     show gr (p3 (rm m) (gK m)) _=_
     unfold p3
     rw [BL,zk a0 a1]
    rw [fx a0 (by omega),aD,rw_,bQ b0 (by rw [cE]; exact b1),aD,aD,sc b0 b1,aak a0 a1 b0 b1]
    unfold gK
    rw [ea,eb]
    show ak (S:=Unit) (some (.ret ((bif y == y then kh (aK m) [gi m.On.aB.aE f,z,sn m z f g] else -1) == kh (aK m) [gi m.On.aB.aE f,z,sn m z f g])))=_
    rw [n5 rfl,cond_true,n5 rfl]; rfl
  ·rw [ay Eh]
   simp only [cond_false]
   show ak (S:=Unit) ((bif (3:Int) != 3 then some true else bif (3:Int) != 3 then some true else (gM Ec Ec>>=fun Lf=>bif !Lf then some true else jP [] []>>=fun Cw=>some !Cw))>>=fun Lh=>bif Lh then some (.ret false) else bif (3:Int) != 0 then some (.ret true) else _)=_
   rw [mq rfl,cond_false,cond_false,QY ⟨by simp [Ec],by simp [Ec],by simp [Ec],by simp [Ec],by simp [Ec]⟩,aD,show (!true)=false from rfl,cond_false,Lw _ (by simp) (by simp),aD]; rfl
 ·rw [qd h0,cond_true]; rfl
end Go.Proofs.YtilhlobfebngdaaGreat
