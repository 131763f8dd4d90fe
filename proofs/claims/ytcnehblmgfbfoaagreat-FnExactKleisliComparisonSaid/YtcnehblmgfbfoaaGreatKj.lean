/- The comparison functor of an adjunction, by both sides; whether an adjunction is monadic. No condition beside those that each theorem names. -/
import Derived.Test.YtcnehblmgfbfoaaGreatKg
import Derived.Test.YtcnehblmgfbfoaaGreatRp
set_option linter.unusedVariables false
set_option linter.unusedSectionVars false
set_option linter.unusedSimpArgs false
namespace Go.Proofs.YtcnehblmgfbfoaaGreat
open Go Go.Li
end Go.Proofs.YtcnehblmgfbfoaaGreat
set_option linter.unusedVariables false
set_option linter.unusedSectionVars false
set_option linter.unusedSimpArgs false
namespace Go.Proofs.YtcnehblmgfbfoaaGreat
open Go Go.Li
structure r8 (f:aS):Prop where
 s:vF f.aB
 t:vF f.aE
 o:f.aD.length≤9223372036854775807
 a:f.ab.length≤9223372036854775807
def kz (f:aS):Nat:=eg f.aB+eg f.aE+f.aD.length+f.ab.length
theorem P9 {f:aS} {k:Int} (k0:0≤k) (k1:k≤1048576) (hl:r8 f):lG f k=some (if (kz f:Int)≤k then k - kz f else -1):=by
 unfold lG
 obtain ⟨h1,h2,h3,h4⟩:=hl
 have ex:(kz f:Int)=eg f.aB+eg f.aE+f.aD.length+f.ab.length:=by unfold kz; omega
 rw [H4 (by omega) (by omega) h1,aA]
 by_cases c1:(eg f.aB:Int)≤k
 ·rw [if_pos c1,au (by omega),cond_false,H4 (by omega) (by omega) h2,aA]
  by_cases c2:(eg f.aE:Int)≤k - eg f.aB
  ·rw [if_pos c2,au (by omega),cond_false,Bp f.aD (by omega) (by omega) h3,aA]
   by_cases c3:(f.aD.length:Int)≤k - eg f.aB - eg f.aE
   ·rw [if_pos c3,au (by omega),cond_false,Bp f.ab (by omega) (by omega) h4,aA]
    by_cases c4:(f.ab.length:Int)≤k - eg f.aB - eg f.aE - f.aD.length
    ·rw [if_pos c4,au (by omega),cond_false,if_pos (by omega)]
     show some _=_
     congr 1
     omega
    ·rw [if_neg c4,aq (by omega),cond_true,if_neg (by omega)]; rfl
   ·rw [if_neg c3,aq (by omega),cond_true,if_neg (by omega)]; rfl
  ·rw [if_neg c2,aq (by omega),cond_true,if_neg (by omega)]; rfl
 ·rw [if_neg c1,aq (by omega),cond_true,if_neg (by omega)]; rfl
theorem w4 {c:aH} (h:eg c≤1048576):de c:=by
 have hr:∀ y∈c.aC,y.length≤j9 c.aC:=fun y hy=>by
  obtain ⟨i,hi,rfl⟩:=List.getElem_of_mem hy
  have:=yX (List.getElem?_eq_getElem hi)
  have:=vh c.aC (i+1)
  omega
 unfold eg at h
 exact ⟨by omega,by omega,by omega,by omega,fun y hy=>by have:=hr y hy; omega⟩
theorem BO {f:aS} (h:kz f≤1048576):fv f:=by
 unfold kz at h
 exact ⟨w4 (by omega),w4 (by omega),by omega,by omega⟩
theorem toAa {f:aS} (h:kz f≤1048576):lH f=some f:=by
 unfold kz at h
 unfold lH
 rw [togp (by omega),aA,togp (by omega),aA,toS _ (by omega),aA,toS _ (by omega),aA]; rfl
theorem wq {f:aS} (h:fv f):fT f f=some true:=by
 have h3:=h.o
 have h4:=h.a
 unfold fT
 rw [zE h.s,aA,zE h.t,aA,De _ _ (by omega),aA,De _ _ (by omega),aA]
 simp only [beq_self_eq_true,Bool.not_true,cond_false]
 rfl
end Go.Proofs.YtcnehblmgfbfoaaGreat
set_option linter.unusedVariables false
set_option linter.unusedSectionVars false
set_option linter.unusedSimpArgs false
namespace Go.Proofs.YtcnehblmgfbfoaaGreat
open Go Go.Li
noncomputable def nv (m:bB) (x:Int):Int:=(dD ((gL m).map tS) [oM m x,gi m.ba x]).getD (-1)
noncomputable def xC (m:bB) (i:Int):Int:=gx (gW m) [nv m (gi (gr (aK m) i) 0),nv m (gi (gr (aK m) i) 1),kM m (aM m (gi (gr (aK m) i) 2)) (gi m.ba (gi (gr (aK m) i) 1))]
noncomputable def xD (m:bB):aS:=aS.mk (qq m) (nn m) (br m.On.aB.aD.toNat (nv m)) (br (aK m).length (xC m))
noncomputable def Kz:aS:=aS.mk (aH.mk (0:Int) [] [] [] []) (aH.mk (0:Int) [] [] [] []) [] []
noncomputable def yC (m:bB):aS×Int:=bif oy m then (bif decide (((aK m).length:Int)≤40) && mr m then (xD m,0) else (Kz,3)) else (Kz,1)
section
variable {m:bB} (M:Mon m)
include M
theorem zF {x:Int} (x0:0≤x) (x1:x < m.On.aB.aD):((0≤nv m x∧nv m x < (gL m).length)∧bz m (nv m x) = ⟨oM m x,gi m.ba x⟩)∧dD ((gL m).map tS) [oM m x,gi m.ba x]=some (nv m x)∧eN (gL m) ⟨oM m x,gi m.ba x⟩ = some (nv m x):=by
 have M0:=M.toMon0
 obtain ⟨i,⟨i0,i1⟩,e⟩:=PT M0 ((C4 M0 (a:=⟨oM m x,gi m.ba x⟩)).2 (Df M x0 x1))
 have h1:=Nx M0 i0 i1
 have h2:=Ny M0 i0 i1
 rw [e] at h1 h2
 dsimp only at h1
 have hx:nv m x=i:=by unfold nv; rw [h1]; rfl
 rw [hx]
 exact ⟨⟨⟨i0,i1⟩,e⟩,h1,h2⟩
theorem H5 {x y f:Int} (x0:0≤x) (x1:x < m.On.aB.aD) (y0:0≤y) (y1:y < m.On.aB.aD) (h:cj m.On.aB x (oM m y) f):qp m (nv m x) (nv m y) (kM m (aM m f) (gi m.ba y)):=by
 have k1:=(zF M x0 x1).1
 have k2:=(zF M y0 y1).1
 refine ⟨⟨k1.1,k2.1⟩,?_⟩
 rw [k1.2,k2.2]
 exact Nz M (Df M y0 y1) h
theorem zG {x:Int} (x0:0≤x) (x1:x < m.On.aB.aD):idx (xD m).aD x=some (nv m x):=by
 show idx (br _ _) x=_
 rw [cI x0 (by rw [bX]; omega),tx x0 (by omega)]
theorem H6 (hs:mf m) (hM:oy m=true):jR m=some (bif mr m then (nn m,(gL m).map tS,gW m,0) else (aH.mk (0:Int) [] [] [] [],[],[],3)):=by
 have M0:=M.toMon0
 have lc:(nm (gW m) 0).length=(gW m).length:=bX _ _
 unfold jR
 rw [xE hs,aA,hM,Bool.not_true,cond_false,Gx M0,aA]
 cases hf:mr m with
 | true=>
  dsimp only [cond_true]
  have:dZ (nn m)=some true:=by rw [← hf]; exact wj M0 lc
  rw [this,aA,Bool.not_true,cond_false]; rfl
 | false=>
  dsimp only [cond_false]
  have:dZ (nu m)=some false:=by rw [← hf]; exact wj M0 lc
  rw [this,aA,Bool.not_false,cond_true]; rfl
theorem KA (hs:mf m) (hM:oy m=true):eC m=some (yC m):=by
 have M0:=M.toMon0
 have C:=M.mc
 have o0:=C.o0
 have o8:=C.o8
 have H:=gZ M0
 have HK:=vG M0
 unfold eC yC
 rw [H6 M hs hM,aA,hM,cond_true]
 cases hf:mr m with
 | false=>rw [Bool.and_false]; rfl
 | true=>
  dsimp only [cond_true]
  rw [show ((0:Int) != 0)=false from rfl,cond_false,Qa hs,aA,hM,cond_true,Bool.and_true]
  by_cases Ug:40 < ((aK m).length:Int)
  ·rw [au (by omega)]; rfl
  have rz:((aK m).length:Int)≤40:=by omega
  rw [aq rz]
  dsimp only [cond_true]
  rw [show ((0:Int) != 0)=false from rfl,cond_false]
  refine (congrArg an (bu (ns m.On.aB.aD.toNat) (fun i=>(br i (nv m),(i:Int))) rfl (e:=((xD m).aD,(m.On.aB.aD.toNat:Int))) ?_ ?_)).trans ?_
  ·intro i x hx
   obtain ⟨rfl,hi⟩:=ca hx
   have ml:=bX i (nv m)
   have ix:=(zF M (x:=(i:Int)) (by omega) (by omega)).2.1
   rw [gn]
   show eD m _ (br i _) (i:Int)=_
   generalize br i (nv m)=acc at ml
   unfold eD
   dsimp only
   rw [aq (by omega),cond_true,r7 M0 (by omega) (by omega),aA,sO M0 (by omega) (by omega),aA,ix,aA,cR (by omega) (by omega),aA,bK (by omega)]
  ·show eD m _ _ _=_
   unfold eD
   rw [bS,au (by omega),cond_false]; rfl
  ·dsimp only
   refine (congrArg an (bu (ns (aK m).length) (fun i=>(br i (xC m),(i:Int))) rfl (e:=((xD m).ab,((aK m).length:Int))) ?_ ?_)).trans ?_
   ·intro i x hx
    obtain ⟨rfl,hi⟩:=ca hx
    have ml:=bX i (xC m)
    obtain ⟨x,y,f,⟨⟨x0,x1⟩,y0,y1⟩,h,e⟩:=zH M0 (i:=(i:Int)) (by omega) (by omega)
    have hj:=M.uP y0 y1
    have e4:xC m (i:Int)=gx (gW m) [nv m x,nv m y,kM m (aM m f) (gi m.ba y)]:=by unfold xC; rw [e]; rfl
    rw [gn,e4]
    show eE m _ _ _ (br i _) (i:Int)=_
    generalize br i (xC m)=acc at ml
    unfold eE
    dsimp only
    rw [aq (by omega),cond_true,jt (by omega) (by omega),aA,e]
    simp only [show idx [x,y,f] (2:Int)=some f from rfl,show idx [x,y,f] (1:Int)=some y from rfl,show idx [x,y,f] (0:Int)=some x from rfl,aA]
    have e5:cJ m.On.aB (aM m f) (gi m.ba y)=some (kM m (aM m f) (gi m.ba y)):=ku C (M.qk h) hj
    rw [ry M0 h,aA,sO M0 y0 y1,aA,e5,aA,zG M x0 x1,aA,zG M y0 y1,aA,(sn _ H.n H.l).1,aA,cR (by omega) (by omega),aA,bK (by omega)]
   ·show eE m _ _ _ _ _=_
    unfold eE
    dsimp only
    rw [bS,au (by omega),cond_false]; rfl
   ·dsimp only
    have l1:(xD m).aD.length≤1048576:=by show (br _ _).length≤_; rw [bX]; omega
    have l2:(xD m).ab.length≤1048576:=by show (br _ _).length≤_; rw [bX]; omega
    rw [yY (wu hs M0 rz) (pX (yW M0 hf)) l1 l2,aA]; rfl
theorem H7 (hs:mf m) (hM:oy m=true):jL m=some (bif mr m then (some (nn m,gL m,gW m,rL (gW m)),0) else (none,3)):=by
 unfold jL
 rw [Bq hs,aA,hM,Bool.not_true,cond_false,Kw M.toMon0,aA]
 cases mr m <;> rfl
theorem KB (hs:mf m) (hM:oy m=true):dL m=some (yC m):=by
 have M0:=M.toMon0
 have C:=M.mc
 have o0:=C.o0
 have o8:=C.o8
 have H:=gZ M0
 have HK:=vG M0
 unfold dL yC
 rw [H8 hs,aA,hM,cond_true,cond_true]
 by_cases Ug:40 < ((aK m).length:Int)
 ·rw [au (by omega)]; rfl
 have rz:((aK m).length:Int)≤40:=by omega
 rw [aq rz,Bool.true_and]
 dsimp only [cond_true]
 rw [show ((0:Int) != 0)=false from rfl,cond_false,H7 M hs hM,aA]
 cases hf:mr m with
 | false=>rfl
 | true=>
  dsimp only [cond_true]
  rw [show ((0:Int) != 0)=false from rfl,cond_false]
  have cl:(qq m).aF.length=(aK m).length:=l9 _ _
  have cl2:(qq m).To.length=(aK m).length:=l9 _ _
  have key:kB (rL (gW m)) (gL m) (nn m) (qq m) (fun a0=>gJ m a0) (fun a0=>dR a0 m.On.aB m (aK m))=some (xD m):=by
   unfold kB
   refine (congrArg an (bu (ns m.On.aB.aD.toNat) (fun i=>(br i (nv m),(i:Int))) rfl (e:=((xD m).aD,(m.On.aB.aD.toNat:Int))) ?_ ?_)).trans ?_
   ·intro i x hx
    obtain ⟨rfl,hi⟩:=ca hx
    have ml:=bX i (nv m)
    have ix:=(zF M (x:=(i:Int)) (by omega) (by omega)).2.2
    rw [gn]
    show iM _ _ _ (br i _,(i:Int))=_
    generalize br i (nv m)=acc at ml
    have e1:gJ m (i:Int)=some (some ⟨oM m (i:Int),gi m.ba (i:Int)⟩):=by
     unfold gJ cO
     rw [r7 M0 (by omega) (by omega),aA,show an (S:=Unit) (some (Out.ret (oM m (i:Int))))=some (oM m (i:Int)) from rfl,aA,sO M0 (by omega) (by omega),aA]; rfl
    unfold iM
    dsimp only
    have hx:(i:Int) < (qq m).aD:=by show (i:Int) < m.On.aB.aD; omega
    rw [aq hx,cond_true,e1,aA]
    dsimp only
    rw [ix,aA,cR (by omega) (by omega),aA,bK (by omega)]
   ·unfold iM
    dsimp only
    have hx : ¬((ns m.On.aB.aD.toNat).length:Int) < (qq m).aD:=by show ¬_ < m.On.aB.aD; rw [bS]; omega
    rw [au hx,cond_false,bS]; rfl
   ·dsimp only
    refine (congrArg an (bu (ns (aK m).length) (fun i=>(br i (xC m),(i:Int))) rfl (e:=((xD m).ab,((aK m).length:Int))) ?_ ?_)).trans ?_
    ·intro i x hx
     obtain ⟨rfl,hi⟩:=ca hx
     have ml:=bX i (xC m)
     obtain ⟨x,y,f,⟨⟨x0,x1⟩,y0,y1⟩,h,e⟩:=zH M0 (i:=(i:Int)) (by omega) (by omega)
     have hj:=M.uP y0 y1
     have e4:xC m (i:Int)=gx (gW m) [nv m x,nv m y,kM m (aM m f) (gi m.ba y)]:=by unfold xC; rw [e]; rfl
     have ef:idx (qq m).aF (i:Int)=some x:=by
      rw [cI (by omega) (by omega),show gi (qq m).aF (i:Int)=gi (gr (aK m) (i:Int)) 0 from o7 (by omega) (by omega),e]; rfl
     have et:idx (qq m).To (i:Int)=some y:=by
      rw [cI (by omega) (by omega),show gi (qq m).To (i:Int)=gi (gr (aK m) (i:Int)) 1 from o7 (by omega) (by omega),e]; rfl
     have e5:bT m.On.aB (aM m f) (gi m.ba y)=some (kM m (aM m f) (gi m.ba y)):=kv C (M.qk h) hj
     have e6:cX m f=some (aM m f):=by
      unfold cX
      rw [ry M0 h,aA]; rfl
     have e3:dR (i:Int) m.On.aB m (aK m)=some (kM m (aM m f) (gi m.ba y)):=by
      unfold dR
      rw [jt (by omega) (by omega),aA,e]
      simp only [show idx [x,y,f] (2:Int)=some f from rfl,show idx [x,y,f] (1:Int)=some y from rfl,aA]
      rw [e6,aA,sO M0 y0 y1,aA,e5,aA]; rfl
     have e7:=yV M0 (H5 M x0 x1 y0 y1 h)
     rw [gn,e4]
     show iN _ _ _ _ (br i _,(i:Int))=_
     generalize br i (xC m)=acc at ml
     unfold iN
     dsimp only
     rw [aq (by omega),cond_true,ef,aA,zG M x0 x1,aA,et,aA,zG M y0 y1,aA,e3,aA,e7,aA,cR (by omega) (by omega),aA,bK (by omega)]
    ·unfold iN
     dsimp only
     rw [bS,au (by omega),cond_false]; rfl
    ·dsimp only
     have l1:(xD m).aD.length≤1048576:=by show (br _ _).length≤_; rw [bX]; omega
     have l2:(xD m).ab.length≤1048576:=by show (br _ _).length≤_; rw [bX]; omega
     rw [vi (wu hs M0 rz) (pX (yW M0 hf)) l1 l2,aA]; rfl
  rw [key,aA]; rfl
end
theorem NB {m:bB} (hs:mf m):eC m=some (yC m):=by
 cases h:oy m with
 | true=>exact KA (xF h) hs h
 | false=>
  have:jR m=some (aH.mk (0:Int) [] [] [] [],[],[],1):=by
   unfold jR
   rw [xE hs,aA,h]; rfl
  unfold eC yC
  rw [this,h]; rfl
theorem Fq {m:bB} (hs:mf m):dL m=some (yC m):=by
 cases h:oy m with
 | true=>exact KB (xF h) hs h
 | false=>
  unfold dL yC
  rw [H8 hs,h]; rfl
theorem H9 {m:bB} (hs:mf m):fv (yC m).1:=by
 have nl:fv Kz:=⟨⟨Nat.zero_le _,Nat.zero_le _,Nat.zero_le _,Nat.zero_le _,fun x hx=>by cases hx⟩,⟨Nat.zero_le _,Nat.zero_le _,Nat.zero_le _,Nat.zero_le _,fun x hx=>by cases hx⟩,Nat.zero_le _,Nat.zero_le _⟩
 unfold yC
 cases h:oy m with
 | false=>exact nl
 | true=>
  rw [cond_true]
  have M:=xF h
  by_cases Ug:40 < ((aK m).length:Int)
  ·rw [au (by omega)]; exact nl
  have rz:((aK m).length:Int)≤40:=by omega
  rw [aq rz,Bool.true_and]
  cases hf:mr m with
  | false=>exact nl
  | true=>
   have o8:=M.mc.o8
   refine ⟨wu hs M.toMon0 rz,pX (yW M.toMon0 hf),?_,?_⟩
   ·show (br _ _).length≤_; rw [bX]; omega
   ·show (br _ _).length≤_; rw [bX]; omega
end Go.Proofs.YtcnehblmgfbfoaaGreat
set_option linter.unusedVariables false
set_option linter.unusedSectionVars false
set_option linter.unusedSimpArgs false
namespace Go.Proofs.YtcnehblmgfbfoaaGreat
open Go Go.Li
structure uQ (m:bB):Prop where
 l:r8 m.On
 u:m.Unit.length≤9223372036854775807
 j:m.ba.length≤9223372036854775807
def pw (m:bB):Nat:=kz m.On+m.Unit.length+m.ba.length
theorem S5 {a:bB} {k:Int} (k0:0≤k) (k1:k≤1048576) (hl:uQ a):mM a k=some (if (pw a:Int)≤k then k - pw a else -1):=by
 unfold mM
 obtain ⟨h1,h3,h4⟩:=hl
 have ex:(pw a:Int)=kz a.On+a.Unit.length+a.ba.length:=by unfold pw; omega
 rw [P9 (by omega) (by omega) h1,aA]
 by_cases c1:(kz a.On:Int)≤k
 ·rw [if_pos c1,au (by omega),cond_false,Bp a.Unit (by omega) (by omega) h3,aA]
  by_cases c3:(a.Unit.length:Int)≤k - kz a.On
  ·rw [if_pos c3,au (by omega),cond_false,Bp a.ba (by omega) (by omega) h4,aA]
   by_cases c4:(a.ba.length:Int)≤k - kz a.On - a.Unit.length
   ·rw [if_pos c4,au (by omega),cond_false,if_pos (by omega)]
    show some _=_
    congr 1
    omega
   ·rw [if_neg c4,aq (by omega),cond_true,if_neg (by omega)]; rfl
  ·rw [if_neg c3,aq (by omega),cond_true,if_neg (by omega)]; rfl
 ·rw [if_neg c1,aq (by omega),cond_true,if_neg (by omega)]; rfl
theorem BP {a:bB} (h:pw a≤1048576):mf a:=by
 unfold pw at h
 exact ⟨BO (by omega),by omega,by omega⟩
theorem toMon {a:bB} (h:pw a≤1048576):iC a=some a:=by
 unfold pw at h
 unfold iC
 rw [toAa (by omega),aA,toS _ (by omega),aA,toS _ (by omega),aA]; rfl
theorem Gy {a:bB} (h:mf a):mN a a=some true:=by
 have h3:=h.u
 have h4:=h.j
 unfold mN
 rw [wq h.l,aA,De _ _ (by omega),aA,De _ _ (by omega),aA]
 simp only [beq_self_eq_true,Bool.not_true,cond_false]
 rfl
theorem Qb {b:Nat}:∀ {l:List (List Int)},(∀ y∈l,y.length≤b)→j9 l≤l.length * b:=by
 intro l
 induction l with
 | nil=>intro _; simp [j9]
 | cons x l ih=>
  intro h
  have h1:=h x (by simp)
  have h2:=ih fun y hy=>h y (by simp [hy])
  rw [KC,List.length_cons,Nat.add_mul]
  omega
theorem Dg {c:aH} (h:de c):s2 c.aC≤1099511627776:=by
 rw [S6]
 have h1:=Qb h.r
 have h2:c.aC.length * 1048576≤1048576 * 1048576:=Nat.mul_le_mul_right _ h.k
 omega
theorem zI {f:aS} (h:fv f):∃ (n:Int) (a1 a2 a3:List Int) (a4:List (List Int)) (a5 a6 a7:List Int) (a8:List (List Int)) (a9 Ia:List Int),(0≤n∧n≤1125899906842624)∧iD f 1=some (n,a1,a2,a3,a4,a5,a6,a7,a8,a9,Ia)∧
  iE (aS.mk (aH.mk f.aB.aD a1 a2 a3 a4) (aH.mk f.aE.aD a5 a6 a7 a8) a9 Ia) 1=some n:=by
 have S:=h.s
 have T:=h.t
 have ho:=h.o
 have ha:=h.a
 have q1:=Dg S
 have q2:=Dg T
 have r1:=S.f
 have r2:=S.t
 have r3:=S.i
 have r4:=T.f
 have r5:=T.t
 have r6:=T.i
 obtain ⟨k,hk⟩ : ∃ k:Int,k=1+f.aB.aF.length+f.aB.To.length+f.aB.aG.length+s2 f.aB.aC:=⟨_,rfl⟩
 obtain ⟨l,hl⟩ : ∃ l:Int,l=k+f.aE.aF.length+f.aE.To.length+f.aE.aG.length+s2 f.aE.aC:=⟨_,rfl⟩
 have e1:=rA f.aD
 have e2:=rA f.ab
 have m1:=Ft S (k:=1) (by omega) (by omega)
 have m2:=Ft T (k:=k) (by omega) (by omega)
 have m3:=uS (x:=f.aD) (k:=l) (by omega) (by omega) (by omega)
 have m4:=uS (x:=f.ab) (k:=l+f.aD.length) (by omega) (by omega) (by omega)
 have g1:=Fu S (k:=1) (by omega) (by omega)
 have g2:=Fu T (k:=k) (by omega) (by omega)
 have g3:=yd (x:=f.aD) (k:=l) (by omega) (by omega) (by omega)
 have g4:=yd (x:=f.ab) (k:=l+f.aD.length) (by omega) (by omega) (by omega)
 rw [← hk] at m1 g1
 rw [← hl] at m2 g2
 rw [e1] at m3 g3
 rw [e2] at m4 g4
 refine ⟨l+f.aD.length+f.ab.length,n1 1 f.aB.aF,n1 (1+f.aB.aF.length) f.aB.To,n1 (1+f.aB.aF.length+f.aB.To.length) f.aB.aG,n2 (1+f.aB.aF.length+f.aB.To.length+f.aB.aG.length) f.aB.aC,
  n1 k f.aE.aF,n1 (k+f.aE.aF.length) f.aE.To,n1 (k+f.aE.aF.length+f.aE.To.length) f.aE.aG,n2 (k+f.aE.aF.length+f.aE.To.length+f.aE.aG.length) f.aE.aC,n1 l f.aD,n1 (l+f.aD.length) f.ab,⟨by omega,by omega⟩,?_,?_⟩
 ·unfold iD
  rw [m1,aA]
  dsimp only
  rw [m2,aA]
  dsimp only
  rw [m3,aA]
  dsimp only
  rw [m4,aA]
  rfl
 ·unfold iE
  dsimp only
  rw [g1,aA,au (by omega),cond_false,g2,aA,au (by omega),cond_false,g3,aA,au (by omega),cond_false,g4,aA,au (by omega),cond_false]
  rfl
theorem Gz {m:bB} (h:mf m):∃ (n:Int) (r:(List Int)×(List Int)×(List Int)×(List (List Int))×(List Int)×(List Int)×(List Int)×(List (List Int))×(List Int)×(List Int)×(List Int)×(List Int)),0≤n∧lJ m 1=some (n,r):=by
 obtain ⟨n,a1,a2,a3,a4,a5,a6,a7,a8,a9,Ia,⟨h0,h1⟩,e,_⟩:=zI h.l
 have hu:=h.u
 have hj:=h.j
 have e1:=rA m.Unit
 have e2:=rA m.ba
 have m3:=uS (x:=m.Unit) (k:=n) (by omega) (by omega) (by omega)
 have m4:=uS (x:=m.ba) (k:=n+m.Unit.length) (by omega) (by omega) (by omega)
 rw [e1] at m3
 rw [e2] at m4
 refine ⟨n+m.Unit.length+m.ba.length,(a1,a2,a3,a4,a5,a6,a7,a8,a9,Ia,n1 n m.Unit,n1 (n+m.Unit.length) m.ba),by omega,?_⟩
 unfold lJ
 rw [e,aA]
 dsimp only
 rw [m3,aA]
 dsimp only
 rw [m4,aA]
 rfl
theorem Ek {x0:bB} (hl:uQ x0):eH x0=some true:=by
 unfold eH
 rw [S5 (by omega) (by omega) hl,aA]
 by_cases c:(pw x0:Int)≤1048576
 ·have h:pw x0≤1048576:=by omega
  have hs:=BP h
  have hr:=H9 hs
  obtain ⟨n,a1,a2,a3,a4,a5,a6,a7,a8,a9,Ia,⟨h0,h1⟩,em,eh⟩:=zI hr
  obtain ⟨k,r,k0,ek⟩:=Gz hs
  rw [if_pos c,au (by omega),cond_false,toMon h,aA,NB hs,aA,aA,Fq hs,aA,wq hr]
  simp only [bne_self_eq_false,Bool.not_true,cond_false,aA,Gy hs,ek,em,eh,au (show ¬ k < 0 by omega),au (show ¬ n < 0 by omega),Fq hs,wq hr]
  rfl
 ·rw [if_neg c,aq (by omega),cond_true]; rfl
end Go.Proofs.YtcnehblmgfbfoaaGreat
