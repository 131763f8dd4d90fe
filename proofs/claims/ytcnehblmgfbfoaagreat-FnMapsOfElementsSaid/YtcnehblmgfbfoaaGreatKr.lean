/- The functor between categories of elements that a natural map makes, by both sides; the projection of a category of elements. No condition beside those that each theorem names. -/
import Derived.Test.YtcnehblmgfbfoaaGreatKo
set_option linter.unusedVariables false
set_option linter.unusedSectionVars false
set_option linter.unusedSimpArgs false
namespace Go.Proofs.YtcnehblmgfbfoaaGreat
open Go Go.Li
def Q2:aY:=aY.mk (aH.mk ((0:Int)) [] [] [] []) (aH.mk ((0:Int)) [] [] [] []) [] []
theorem AP:sb Q2:=⟨⟨by decide,by decide,by decide,by decide,fun _ h=>nomatch h⟩,⟨by decide,by decide,by decide,by decide,fun _ h=>nomatch h⟩,by decide,by decide⟩
theorem tZ {f:aK} (F:SF f) (h8:(pE f).length≤8) {v:Int} (v0:0≤v) (v1:v < (aE f).length):∃ i j a:Int,ry f i j a∧gr (aE f) v=[i,j,a]∧v=bd (aE f) [i,j,a]:=by
 obtain ⟨i,j,a,h,e⟩:=xi F v0 v1
 exact ⟨i,j,a,h,e,by rw [← e,Ov (D5 F h8).nd v0 v1]⟩
theorem I1 {f:aK} (F:SF f) {i j:Int} (i0:0≤i) (i1:i < (pE f).length) (j0:0≤j) (j1:j < (pE f).length) (hx:xE f i=xE f j) (he:eE f i=eE f j):i=j:=
 IZ (Tk F) i0 i1 j0 j1 (by rw [(qt F i0 i1).2.2,(qt F j0 j1).2.2,hx,he])
def E9 (f:aK):aY:=aY.mk (ew f) f.aC (ij (pE f) 0) (ij (aE f) 2)
section
variable {f:aK} (F:SF f) (hf:j8 f=true)
include F hf
theorem rP:(pE f).length≤8∧(aE f).length≤40:=by
 have _:=F
 unfold j8 at hf
 simp only [Bool.and_eq_true,decide_eq_true_eq] at hf
 omega
theorem Fa {i:Int} (i0:0≤i) (i1:i < (pE f).length):gi (ij (pE f) 0) i=xE f i:=by have _:=F; have _:=hf; exact tY i0 i1
theorem Uo:rQ (E9 f)=true:=by
 have h8:=(rP F hf).1
 have C:=pa F hf
 have D:=F.cat
 have lp:(ij (pE f) 0).length=(pE f).length:=bI _ _
 have la:(ij (aE f) 2).length=(aE f).length:=bI _ _
 have hl:=vi F
 have ca:∀ v:Int,0≤v→v < (aE f).length→gi (ij (aE f) 2) v=gi (gr (aE f) v) 2:=fun v v0 v1=>tY v0 v1
 refine OD (f:=E9 f) (Fb C) (Fb D) (by show ((ij (pE f) 0).length:Int)=_; rw [lp]; rfl) (by show (ij (aE f) 2).length=(ew f).aG.length; rw [la,hl]) (fun y hy=>?_) (fun y hy=>?_) (fun v v0 v1=>?_) (fun v v0 v1=>?_) (fun x x0 x1=>?_) fun v w v0 v1 w0 w1 e=>?_
 ·obtain ⟨i,⟨i0,i1⟩,rfl⟩:=uk.1 (show y∈cj _ _ from hy)
  exact (qt F i0 i1).1
 ·obtain ⟨v,⟨v0,v1⟩,rfl⟩:=uk.1 (show y∈cj _ _ from hy)
  obtain ⟨i,j,a,h,e⟩:=xi F v0 v1
  rw [e]
  exact h.2.1.1
 ·rw [show (E9 f).aF.aG.length=(aE f).length from hl] at v1
  obtain ⟨i,j,a,h,e⟩:=xi F v0 v1
  show gi f.aC.aG (gi (ij (aE f) 2) v)=gi (ij (pE f) 0) (gi (ew f).aG v)
  rw [ca v v0 v1,IW F v0 v1,e]
  show gi f.aC.aG a=gi (ij (pE f) 0) i
  rw [Fa F hf h.1.1.1 h.1.1.2,h.2.1.2.1]
 ·rw [show (E9 f).aF.aG.length=(aE f).length from hl] at v1
  obtain ⟨i,j,a,h,e⟩:=xi F v0 v1
  show gi f.aC.To (gi (ij (aE f) 2) v)=gi (ij (pE f) 0) (gi (ew f).To v)
  rw [ca v v0 v1,Mp F v0 v1,e]
  show gi f.aC.To a=gi (ij (pE f) 0) j
  rw [Fa F hf h.1.2.1 h.1.2.2,h.2.1.2.2]
 ·have I2:x < (pE f).length:=x1
  show gi (ij (aE f) 2) (gi (ew f).aI x)=gi f.aC.aI (gi (ij (pE f) 0) x)
  have k:=tX F (C0 F x0 I2)
  rw [Mq F x0 I2,ca _ k.1.1 k.1.2,k.2,Fa F hf x0 I2]; rfl
 ·rw [show (E9 f).aF.aG.length=(aE f).length from hl] at v1 w1
  obtain ⟨i,j,a,h,e1,e2⟩:=tZ F h8 v0 v1
  obtain ⟨j',k,b,h',e3,e4⟩:=tZ F h8 w0 w1
  have e':gi (ew f).To v=gi (ew f).aG w:=e
  rw [Mp F v0 v1,IW F w0 w1,e1,e3] at e'
  obtain rfl:j=j':=e'
  show gi (ij (aE f) 2) (gk (ew f).aB v w)=gk f.aC.aB (gi (ij (aE f) 2) v) (gi (ij (aE f) 2) w)
  have k3:=tX F (C1 F h h')
  rw [ca v v0 v1,ca w w0 w1,e1,e3]
  rw [e2,e4,C2 F h h',ca _ k3.1.1 k3.1.2,k3.2]; rfl
theorem G6 (hs:dk f.aC):sb (E9 f):=by
 have h:=rP F hf
 have lp:(ij (pE f) 0).length=(pE f).length:=bI _ _
 have la:(ij (aE f) 2).length=(aE f).length:=bI _ _
 exact ⟨rb (pa F hf),hs,by show (ij (pE f) 0).length≤_; omega,by show (ij (aE f) 2).length≤_; omega⟩
theorem G7 (hs:ib f) (hB:tK f=true):fC f=some (E9 f,0):=by
 have h:=rP F hf
 have lp:(ij (pE f) 0).length=(pE f).length:=bI _ _
 have la:(ij (aE f) 2).length=(aE f).length:=bI _ _
 have h3:∀ r∈aE f,r.length=3:=fun r hr=>by obtain ⟨_,_,_,_,rfl⟩:=(r9 F).1 hr; rfl
 have h2:∀ r∈pE f,r.length=2:=fun r hr=>by obtain ⟨_,_,_,_,rfl⟩:=(xZ F).1 hr; rfl
 unfold fC
 rw [Gs hs,aA,hB,Bool.not_true,cond_false,za F,aA,hf,cond_true]
 dsimp only
 rw [Bool.not_true,cond_false,AN (by omega) (by omega) (fun r hr=>by rw [h2 r hr]; decide),aA,AN (by omega) (by omega) (fun r hr=>by rw [h3 r hr]; decide),aA,zG (rb (pa F hf)) hs.c (by omega) (by omega),aA]; rfl
end
def dn (m:bX):List Int:=cj (pE m.aF).length fun i=>bd (pE m.aM) [xE m.aF i,gi (gr m.cD (xE m.aF i)) (eE m.aF i)]
def sA (m:bX):List Int:=cj (aE m.aF).length fun v=>bd (aE m.aM) [gi (dn m) (gi (gr (aE m.aF) v) 0),gi (dn m) (gi (gr (aE m.aF) v) 1),gi (gr (aE m.aF) v) 2]
def sT (m:bX):aY:=aY.mk (ew m.aF) (ew m.aM) (dn m) (sA m)
def I3 (m:bX):aY×Int:=bif zZ m then (bif j8 m.aF && j8 m.aM then (sT m,0) else (Q2,3)) else (Q2,1)
section
variable {m:bX} (M:SM m)
include M
theorem vZ {i:Int} (i0:0≤i) (i1:i < (pE m.aF).length):(0≤gi (dn m) i∧gi (dn m) i < (pE m.aM).length)∧xE m.aM (gi (dn m) i)=xE m.aF i∧eE m.aM (gi (dn m) i)=gi (gr m.cD (xE m.aF i)) (eE m.aF i):=by
 have h:=qt M.src i0 i1
 have hx:0≤xE m.aF i∧xE m.aF i < m.aM.aC.aD:=by rw [M.same]; exact h.1
 rw [show gi (dn m) i=bd (pE m.aM) [xE m.aF i,gi (gr m.cD (xE m.aF i)) (eE m.aF i)] from uP i0 i1]
 exact E6 M.wE hx (M.DB h.1.1 h.1.2 h.2.1.1 h.2.1.2)
theorem x8 {i:Int} (i0:0≤i) (i1:i < (pE m.aF).length):idx (dn m) i=some (gi (dn m) i):=by
 have hl:(dn m).length=(pE m.aF).length:=bI _ _
 exact bQ i0 (by omega)
theorem wF {i j a:Int} (h:ry m.aF i j a):ry m.aM (gi (dn m) i) (gi (dn m) j) a:=by
 have p1:=qt M.src h.1.1.1 h.1.1.2
 have k1:=vZ M h.1.1.1 h.1.1.2
 have k2:=vZ M h.1.2.1 h.1.2.2
 have L:=h.2.1
 refine ⟨⟨k1.1,k2.1⟩,?_,?_⟩
 ·rw [M.same,k1.2.1,k2.2.1]; exact L
 ·have nat:=M.nat a (eE m.aF i) L.1.1 L.1.2 p1.2.1.1 (by rw [L.2.1]; exact p1.2.1.2)
  rw [L.2.1,L.2.2] at nat
  rw [k1.2.2,k2.2.2,← nat,h.2.2]
theorem ua {i j a:Int} (h:ry m.aF i j a):gi (sA m) (bd (aE m.aF) [i,j,a])=bd (aE m.aM) [gi (dn m) i,gi (dn m) j,a]:=by
 have k:=tX M.src h
 rw [show gi (sA m) (bd (aE m.aF) [i,j,a])=bd (aE m.aM) [gi (dn m) (gi (gr (aE m.aF) (bd (aE m.aF) [i,j,a])) 0),gi (dn m) (gi (gr (aE m.aF) (bd (aE m.aF) [i,j,a])) 1),gi (gr (aE m.aF) (bd (aE m.aF) [i,j,a])) 2] from uP k.1.1 k.1.2,k.2]; rfl
section
variable (hf:j8 m.aF=true) (hg:j8 m.aM=true)
include hf hg
theorem Up:rQ (sT m)=true:=by
 have F:=M.src
 have G:=M.wE
 have h8:=(rP F hf).1
 have C:=pa F hf
 have D:=pa G hg
 have lo:(dn m).length=(pE m.aF).length:=bI _ _
 have la:(sA m).length=(aE m.aF).length:=bI _ _
 have hl:=vi F
 have w6:=vi G
 refine OD (f:=sT m) (Fb C) (Fb D) (by show ((dn m).length:Int)=_; rw [lo]; rfl) (by show (sA m).length=(ew m.aF).aG.length; rw [la,hl]) (fun y hy=>?_) (fun y hy=>?_) (fun v v0 v1=>?_) (fun v v0 v1=>?_) (fun x x0 x1=>?_) fun v w v0 v1 w0 w1 e=>?_
 ·obtain ⟨i,i0,i1,rfl⟩:=zY (show y∈dn m from hy)
  exact (vZ M i0 (by omega)).1
 ·obtain ⟨v,v0,v1,rfl⟩:=zY (show y∈sA m from hy)
  obtain ⟨i,j,a,h,e,rfl⟩:=tZ F h8 v0 (by omega)
  rw [ua M h]
  show _∧_ < ((ew m.aM).aG.length:Int)
  rw [w6]
  exact (tX G (wF M h)).1
 ·rw [show (sT m).aF.aG.length=(aE m.aF).length from hl] at v1
  obtain ⟨i,j,a,h,e,rfl⟩:=tZ F h8 v0 v1
  have k:=xj G (wF M h)
  have k2:=xj F h
  show gi (ew m.aM).aG (gi (sA m) _)=gi (dn m) (gi (ew m.aF).aG _)
  rw [ua M h,k.2.1,k2.2.1]
 ·rw [show (sT m).aF.aG.length=(aE m.aF).length from hl] at v1
  obtain ⟨i,j,a,h,e,rfl⟩:=tZ F h8 v0 v1
  have k:=xj G (wF M h)
  have k2:=xj F h
  show gi (ew m.aM).To (gi (sA m) _)=gi (dn m) (gi (ew m.aF).To _)
  rw [ua M h,k.2.2,k2.2.2]
 ·have I2:x < (pE m.aF).length:=x1
  have k:=vZ M x0 I2
  show gi (sA m) (gi (ew m.aF).aI x)=gi (ew m.aM).aI (gi (dn m) x)
  rw [Mq F x0 I2,ua M (C0 F x0 I2),Mq G k.1.1 k.1.2,k.2.1,M.same]
 ·rw [show (sT m).aF.aG.length=(aE m.aF).length from hl] at v1 w1
  obtain ⟨i,j,a,h,e1,rfl⟩:=tZ F h8 v0 v1
  obtain ⟨j',k,b,h',e3,rfl⟩:=tZ F h8 w0 w1
  have e':gi (ew m.aF).To _=gi (ew m.aF).aG _:=e
  rw [(xj F h).2.2,(xj F h').2.1] at e'
  subst e'
  show gi (sA m) (gk (ew m.aF).aB _ _)=gk (ew m.aM).aB (gi (sA m) _) (gi (sA m) _)
  rw [C2 F h h',ua M (C1 F h h'),ua M h,ua M h',C2 G (wF M h) (wF M h'),M.same]
theorem Cj:sb (sT m):=by
 have h:=rP M.src hf
 have lo:(dn m).length=(pE m.aF).length:=bI _ _
 have la:(sA m).length=(aE m.aF).length:=bI _ _
 exact ⟨rb (pa M.src hf),rb (pa M.wE hg),by show (dn m).length≤_; omega,by show (sA m).length≤_; omega⟩
theorem aaj:Ms (sT m) (E9 m.aM)=E9 m.aF:=by
 have F:=M.src
 have G:=M.wE
 have h8:=(rP F hf).1
 have lo:(dn m).length=(pE m.aF).length:=bI _ _
 have la:(sA m).length=(aE m.aF).length:=bI _ _
 have lp:(ij (pE m.aF) 0).length=(pE m.aF).length:=bI _ _
 have lq:(ij (aE m.aF) 2).length=(aE m.aF).length:=bI _ _
 have e1:thenS (dn m) (ij (pE m.aM) 0)=ij (pE m.aF) 0:=by
  refine OF (by rw [zd,lo,lp]) fun x x0 x1=>?_
  rw [lp] at x1
  have k:=vZ M x0 x1
  rw [I4 x0 (by omega),Fa G hg k.1.1 k.1.2,Fa F hf x0 x1,k.2.1]
 have e2:thenS (sA m) (ij (aE m.aM) 2)=ij (aE m.aF) 2:=by
  refine OF (by rw [zd,la,lq]) fun v v0 v1=>?_
  rw [lq] at v1
  obtain ⟨i,j,a,h,e,rfl⟩:=tZ F h8 v0 v1
  have k:=tX G (wF M h)
  rw [I4 v0 (by omega),ua M h,show gi (ij (aE m.aM) 2) _=gi (gr (aE m.aM) _) 2 from tY k.1.1 k.1.2,show gi (ij (aE m.aF) 2) _=gi (gr (aE m.aF) _) 2 from tY v0 v1,k.2,e]; rfl
 show aY.mk (ew m.aF) m.aM.aC (thenS (dn m) (ij (pE m.aM) 0)) (thenS (sA m) (ij (aE m.aM) 2))=_
 rw [e1,e2,M.same]; rfl
end
theorem I5 {i:Int} (i0:0≤i) (i1:i < (pE m.aF).length):idx m.cD (xE m.aF i)=some (gr m.cD (xE m.aF i))∧idx (gr m.cD (xE m.aF i)) (eE m.aF i)=some (gi (gr m.cD (xE m.aF i)) (eE m.aF i)):=by
 have h:=qt M.src i0 i1
 exact ⟨M.D7 h.1.1 h.1.2,M.at_ h.1.1 h.1.2 h.2.1.1 h.2.1.2⟩
theorem W1 {i:Int} (i0:0≤i) (i1:i < (pE m.aF).length):[xE m.aF i,gi (gr m.cD (xE m.aF i)) (eE m.aF i)]∈pE m.aM:=by
 have h:=qt M.src i0 i1
 exact (xZ M.wE).2 ⟨_,_,by rw [M.same]; exact h.1,M.DB h.1.1 h.1.2 h.2.1.1 h.2.1.2,rfl⟩
end
theorem Uq {m:bX} (hs:o4 m):jL m=some (I3 m):=by
 unfold jL I3
 rw [KZ hs,aA]
 cases hm:zZ m with
 | false=>rfl
 | true=>
  have M:=HD hm
  have F:=M.src
  have G:=M.wE
  rw [Bool.not_true,cond_false,cond_true,za F,aA]
  cases hf:j8 m.aF with
  | false=>
   simp only [cond_false,Bool.false_and]
   rw [za G,aA]
   cases hg:j8 m.aM <;> rfl
  | true=>
   simp only [cond_true,Bool.true_and]
   rw [za G,aA]
   cases hg:j8 m.aM with
   | false=>rfl
   | true=>
    have h8:=rP F hf
    have g8:=rP G hg
    simp only [cond_true,cond_false,Bool.not_true,aA]
    have lo:(dn m).length=(pE m.aF).length:=bI _ _
    have la:(sA m).length=(aE m.aF).length:=bI _ _
    refine (congrArg ao (du (ns (pE m.aF).length) (fun i=>(cj i fun i=>bd (pE m.aM) [xE m.aF i,gi (gr m.cD (xE m.aF i)) (eE m.aF i)],(i:Int))) rfl (e:=(dn m,((pE m.aF).length:Int))) ?_ ?_)).trans ?_
    ·intro i x hx
     obtain ⟨rfl,hi⟩:=c8 hx
     have P:=I5 M (i:=(i:Int)) (by omega) (by omega)
     have ml:=bI i fun i=>bd (pE m.aM) [xE m.aF i,gi (gr m.cD (xE m.aF i)) (eE m.aF i)]
     rw [km]
     show fQ m (pE m.aF) (y4 (pE m.aM)) (cj i _,(i:Int))=_
     generalize (cj i fun i=>bd (pE m.aM) [xE m.aF i,gi (gr m.cD (xE m.aF i)) (eE m.aF i)])=acc at ml
     unfold fQ
     dsimp only
     rw [aw (by omega),cond_true,wB F (by omega) (by omega),aA,show idx [xE m.aF i,eE m.aF i] (0:Int)=some (xE m.aF i) from rfl,aA,aA,P.1,aA,show idx [xE m.aF i,eE m.aF i] (1:Int)=some (eE m.aF i) from rfl,aA,P.2,aA,x5 (by simp),aA,E8 (WE G) (W1 M (by omega) (by omega)),dR (by omega) (by omega),aA,bB (by omega)]
    ·show fQ m (pE m.aF) (y4 (pE m.aM)) (_,_)=_
     unfold fQ
     dsimp only
     rw [cH,aX (by omega),cond_false]; rfl
    ·dsimp only
     refine (congrArg ao (du (ns (aE m.aF).length) (fun i=>(cj i fun v=>bd (aE m.aM) [gi (dn m) (gi (gr (aE m.aF) v) 0),gi (dn m) (gi (gr (aE m.aF) v) 1),gi (gr (aE m.aF) v) 2],(i:Int))) rfl (e:=(sA m,((aE m.aF).length:Int))) ?_ ?_)).trans ?_
     ·intro i x hx
      obtain ⟨rfl,hi⟩:=c8 hx
      obtain ⟨p,q,a,h,e⟩:=xi F (v:=(i:Int)) (by omega) (by omega)
      have ml:=bI i fun v=>bd (aE m.aM) [gi (dn m) (gi (gr (aE m.aF) v) 0),gi (dn m) (gi (gr (aE m.aF) v) 1),gi (gr (aE m.aF) v) 2]
      rw [km]
      show fR (aE m.aF) (y4 (aE m.aM)) (dn m) (cj i _,(i:Int))=_
      generalize (cj i fun v=>bd (aE m.aM) [gi (dn m) (gi (gr (aE m.aF) v) 0),gi (dn m) (gi (gr (aE m.aF) v) 1),gi (gr (aE m.aF) v) 2])=acc at ml
      unfold fR
      dsimp only
      rw [aw (by omega),cond_true,cb (by omega) (by omega),aA,e,show idx [p,q,a] (0:Int)=some p from rfl,aA,x8 M h.1.1.1 h.1.1.2,aA,show idx [p,q,a] (1:Int)=some q from rfl,aA,x8 M h.1.2.1 h.1.2.2,aA,show idx [p,q,a] (2:Int)=some a from rfl,aA,x5 (by simp),aA,E8 (D5 G g8.1) ((r9 G).2 ⟨_,_,_,wF M h,rfl⟩),dR (by omega) (by omega),aA,bB (by omega)]; rfl
     ·show fR (aE m.aF) (y4 (aE m.aM)) (dn m) (_,_)=_
      unfold fR
      dsimp only
      rw [cH,aX (by omega),cond_false]; rfl
     ·dsimp only
      rw [zG (rb (pa F hf)) (rb (pa G hg)) (by omega) (by omega),aA]; rfl
theorem Ur {m:bX} (hs:o4 m):jM m=some (I3 m):=by
 unfold jM I3
 rw [Us hs,aA]
 cases hm:zZ m with
 | false=>rfl
 | true=>
  have M:=HD hm
  have F:=M.src
  have G:=M.wE
  rw [Bool.not_true,cond_false,cond_true,OC F,aA,OC G,aA]
  cases hf:j8 m.aF with
  | false=>
   simp only [cond_false,Bool.false_and]
   rfl
  | true=>
   simp only [cond_true,Bool.true_and]
   cases hg:j8 m.aM with
   | false=>rfl
   | true=>
    have h8:=rP F hf
    have g8:=rP G hg
    have p3:∀ r∈aE m.aM,r.length≤1048576000:=fun r hr=>by obtain ⟨_,_,_,_,rfl⟩:=(r9 G).1 hr; exact Nat.le_of_ble_eq_true rfl
    have p2:∀ r∈pE m.aM,r.length≤1048576000:=fun r hr=>by obtain ⟨_,_,_,_,rfl⟩:=(xZ G).1 hr; exact Nat.le_of_ble_eq_true rfl
    simp only [cond_true,cond_false,Bool.not_true,aA]
    have lo:(dn m).length=(pE m.aF).length:=bI _ _
    have la:(sA m).length=(aE m.aF).length:=bI _ _
    refine (congrArg ao (du (ns (pE m.aF).length) (fun i=>(cj i fun i=>bd (pE m.aM) [xE m.aF i,gi (gr m.cD (xE m.aF i)) (eE m.aF i)],(i:Int))) rfl (e:=(dn m,((pE m.aF).length:Int))) ?_ ?_)).trans ?_
    ·intro i x hx
     obtain ⟨rfl,hi⟩:=c8 hx
     have P:=I5 M (i:=(i:Int)) (by omega) (by omega)
     have ml:=bI i fun i=>bd (pE m.aM) [xE m.aF i,gi (gr m.cD (xE m.aF i)) (eE m.aF i)]
     rw [km]
     show fS m (dF.mk (ew m.aF) (pE m.aF) (aE m.aF),true) (dF.mk (ew m.aM) (pE m.aM) (aE m.aM),true) (cj i _) (i:Int)=_
     generalize (cj i fun i=>bd (pE m.aM) [xE m.aF i,gi (gr m.cD (xE m.aF i)) (eE m.aF i)])=acc at ml
     unfold fS
     dsimp only
     rw [aw (by omega),cond_true,wB F (by omega) (by omega),aA,show idx [xE m.aF i,eE m.aF i] (0:Int)=some (xE m.aF i) from rfl,aA,aA,show idx [xE m.aF i,eE m.aF i] (1:Int)=some (eE m.aF i) from rfl,aA,P.1,aA,P.2,aA,wC _ _ (by omega) p2,aA,dR (by omega) (by omega),aA,bB (by omega)]
    ·show fS m (dF.mk (ew m.aF) (pE m.aF) (aE m.aF),true) (dF.mk (ew m.aM) (pE m.aM) (aE m.aM),true) _ _=_
     unfold fS
     dsimp only
     rw [cH,aX (by omega),cond_false]; rfl
    ·dsimp only
     refine (congrArg ao (du (ns (aE m.aF).length) (fun i=>(cj i fun v=>bd (aE m.aM) [gi (dn m) (gi (gr (aE m.aF) v) 0),gi (dn m) (gi (gr (aE m.aF) v) 1),gi (gr (aE m.aF) v) 2],(i:Int))) rfl (e:=(sA m,((aE m.aF).length:Int))) ?_ ?_)).trans ?_
     ·intro i x hx
      obtain ⟨rfl,hi⟩:=c8 hx
      obtain ⟨p,q,a,h,e⟩:=xi F (v:=(i:Int)) (by omega) (by omega)
      have ml:=bI i fun v=>bd (aE m.aM) [gi (dn m) (gi (gr (aE m.aF) v) 0),gi (dn m) (gi (gr (aE m.aF) v) 1),gi (gr (aE m.aF) v) 2]
      rw [km]
      show fT (dF.mk (ew m.aF) (pE m.aF) (aE m.aF),true) (dF.mk (ew m.aM) (pE m.aM) (aE m.aM),true) (dn m) (cj i _) (i:Int)=_
      generalize (cj i fun v=>bd (aE m.aM) [gi (dn m) (gi (gr (aE m.aF) v) 0),gi (dn m) (gi (gr (aE m.aF) v) 1),gi (gr (aE m.aF) v) 2])=acc at ml
      unfold fT
      dsimp only
      rw [aw (by omega),cond_true,cb (by omega) (by omega),aA,e,show idx [p,q,a] (0:Int)=some p from rfl,aA,x8 M h.1.1.1 h.1.1.2,aA,aA,show idx [p,q,a] (1:Int)=some q from rfl,aA,x8 M h.1.2.1 h.1.2.2,aA,aA,show idx [p,q,a] (2:Int)=some a from rfl,aA,wC _ _ (by omega) p3,aA,dR (by omega) (by omega),aA,bB (by omega)]; rfl
     ·show fT (dF.mk (ew m.aF) (pE m.aF) (aE m.aF),true) (dF.mk (ew m.aM) (pE m.aM) (aE m.aM),true) (dn m) _ _=_
      unfold fT
      dsimp only
      rw [cH,aX (by omega),cond_false]; rfl
     ·dsimp only
      rw [Q3 (rb (pa F hf)) (rb (pa G hg)) (by omega) (by omega),aA]; rfl
end Go.Proofs.YtcnehblmgfbfoaaGreat
