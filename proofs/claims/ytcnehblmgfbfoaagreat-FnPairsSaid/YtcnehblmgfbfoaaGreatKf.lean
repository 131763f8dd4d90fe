/- Copairs of functors, the inclusion of the first part, draws, and the law. No condition beside those that each theorem names. -/
import Derived.Test.YtcnehblmgfbfoaaGreatKa
set_option linter.unusedVariables false
set_option linter.unusedSectionVars false
set_option linter.unusedSimpArgs false
namespace Go.Proofs.YtcnehblmgfbfoaaGreat
open Go Go.Li
def p9 (f g:aN):aN:=aN.mk (ay f.aG g.aG) f.aH (f.aA++g.aA) (f.ae++g.ae)
def uk (f g:aN):aN×Int:=bif dh f && dh g then (bif ny f.aH g.aH then (bif jo (ay f.aG g.aG) then (p9 f g,0) else (yc,3)) else (yc,5)) else (yc,1)
theorem HE {c:aD} (C:gu c):jb 8 40 c:=⟨C.o0,C.o8,C.m,C.tl,C.il,C.kl,(bx C).t.kr⟩
theorem xj {c d:aD} (C:gu c) (D:gu d) (h:jo (ay c d)=true):gu (ay c d):=by
 unfold jo at h
 simp only [Bool.and_eq_true,decide_eq_true_eq] at h
 have:=nj (bx C).t (bx D).t
 exact PL C D h.1 (by omega)
section
variable {f g:aN} (F:uw f) (G:uw g) (e:f.aH=g.aH)
include F G e
theorem FC {x:Int} (x0:0≤x) (x1:x < f.aG.aA):gi (p9 f g).aA x=gi f.aA x:=by
 have:=F.ol
 show gi (_++_) x=_; rw [iT x0,if_pos (by omega)]
theorem FD {x:Int} (x0:0≤x):gi (p9 f g).aA (f.aG.aA+x)=gi g.aA x:=by
 have h:=F.ol
 have h0:=F.c.o0
 show gi (_++_) _=_; rw [iT (by omega),if_neg (by omega),h,show f.aG.aA+x - f.aG.aA=x by omega]
theorem vw {x:Int} (x0:0≤x) (x1:x < f.aG.aB.length):gi (p9 f g).ae x=gi f.ae x:=by
 have:=F.al
 show gi (_++_) x=_; rw [iT x0,if_pos (by omega)]
theorem xk {x:Int} (x0:0≤x):gi (p9 f g).ae (f.aG.aB.length+x)=gi g.ae x:=by
 have h:=F.al
 show gi (_++_) _=_; rw [iT (by omega),if_neg (by omega),h,show (f.aG.aB.length:Int)+x - f.aG.aB.length=x by omega]
theorem HF (tk:jo (ay f.aG g.aG)=true):dh (p9 f g)=true:=by
 have S:=xj F.c G.c tk
 have T:=(bx F.c).t
 have U:=(bx G.c).t
 have f1:=F.ol
 have f2:=F.al
 have g1:=G.ol
 have g2:=G.al
 have lf:=nj T U
 have so:(ay f.aG g.aG).aA=f.aG.aA+g.aG.aA:=rfl
 refine zt (f:=p9 f g) (p8 S) (p8 F.d) ?_ ?_ ?_ ?_ ?_ ?_ ?_ ?_
 ·show ((_++_:List Int).length:Int)=_+_; rw [List.length_append]; omega
 ·show (_++_:List Int).length=(ay f.aG g.aG).aB.length; rw [List.length_append]; omega
 ·intro y hy
  rcases List.mem_append.1 hy with hy | hy
  ·exact F.oo y hy
  ·have:=G.oo y hy; rw [← e] at this; exact this
 ·intro y hy
  rcases List.mem_append.1 hy with hy | hy
  ·exact F.aa y hy
  ·have:=G.aa y hy; rw [← e] at this; exact this
 ·intro a a0 a1
  show gi f.aH.aB (gi (p9 f g).ae a)=gi (p9 f g).aA (gi (ay f.aG g.aG).aB a)
  rcases nq T U a0 a1 with h | ⟨b,rfl,b0,b1⟩
  ·have kf:=T.fr a0 h
   rw [vw F G e a0 h,nr T U a0 h,FC F G e kf.1 kf.2,F.fr a a0 h]
  ·have kf:=U.fr b0 b1
   rw [xk F G e b0,rA T U b0 b1,Int.add_comm (gi g.aG.aB b),FD F G e kf.1,e,G.fr b b0 b1]
 ·intro a a0 a1
  show gi f.aH.To (gi (p9 f g).ae a)=gi (p9 f g).aA (gi (ay f.aG g.aG).To a)
  rcases nq T U a0 a1 with h | ⟨b,rfl,b0,b1⟩
  ·have kf:=T.to a0 h
   rw [vw F G e a0 h,p7 T U a0 h,FC F G e kf.1 kf.2,F.to a a0 h]
  ·have kf:=U.to b0 b1
   rw [xk F G e b0,qo T U b0 b1,Int.add_comm (gi g.aG.To b),FD F G e kf.1,e,G.to b b0 b1]
 ·intro x x0 x1
  show gi (p9 f g).ae (gi (ay f.aG g.aG).aF x)=gi f.aH.aF (gi (p9 f g).aA x)
  by_cases h:x < f.aG.aA
  ·have ki:=T.id x0 h
   rw [vq T U x0 h,vw F G e ki.1 ki.2,FC F G e x0 h,F.un x x0 h]
  ·obtain ⟨y,rfl,y0,y1⟩ : ∃ y:Int,x=f.aG.aA+y∧0≤y∧y < g.aG.aA:=⟨x - f.aG.aA,by omega,by omega,by have:x < f.aG.aA+g.aG.aA:=x1; omega⟩
   have ki:=U.id y0 y1
   rw [B7 T U y0 y1,xk F G e ki.1,FD F G e y0,G.un y y0 y1,e]
 ·intro p q p0 p1 q0 q1 h
  show gi (p9 f g).ae (gk (ay f.aG g.aG).aC p q)=gk f.aH.aC (gi (p9 f g).ae p) (gi (p9 f g).ae q)
  rcases uW T U p0 p1 q0 q1 h with ⟨hp,hq,u1⟩ | ⟨a,b,rfl,rfl,ha,hb,u1⟩
  ·have k:=T.cell p q p0 hp q0 hq u1
   rw [mc T U p0 hp q0 hq,vw F G e k.1.1 k.1.2,vw F G e p0 hp,vw F G e q0 hq,F.co p q p0 hp q0 hq u1]
  ·have k:=U.cell a b ha.1 ha.2 hb.1 hb.2 u1
   rw [tV T U ha.1 ha.2 hb.1 hb.2 u1,xk F G e k.1.1,xk F G e ha.1,xk F G e hb.1,G.co a b ha.1 ha.2 hb.1 hb.2 u1,e]
end
theorem ME {f g:aN} (hf:ew f) (hg:ew g):gJ f g=some (uk f g):=by
 unfold gJ uk
 rw [Fy hf hg,aE]
 cases h:dh f && dh g with
 | false=>rfl
 | true=>
  simp only [Bool.and_eq_true] at h
  have F:=gp h.1
  have G:=gp h.2
  rw [cond_true,qM rfl,cond_false,cond_true,AO hf.t,aE]
  cases hs:ny f.aH g.aH with
  | false=>rfl
  | true=>
   have e:=rP.1 hs
   rw [Bool.not_true,cond_false,cond_true,C5 (HE F.c) (HE G.c) (bx F.c).t (bx G.c).t (by omega) (by omega),aE,Fv,aE]
   cases hh:jo (ay f.aG g.aG) with
   | false=>rfl
   | true=>
    have S:=xj F.c G.c hh
    have f1:=F.ol
    have f2:=F.al
    have g1:=G.ol
    have g2:=G.al
    have a1:=F.c.o8
    have a2:=G.c.o8
    have a3:=F.c.m
    have a4:=G.c.m
    rw [Bool.not_true,cond_false,cond_true,jc _ hf.o,aE,cB (by omega) (by omega),aE,jc _ hf.a,aE,cB (by omega) (by omega),aE,vu (bx S).s hf.t (by rw [List.length_append]; omega) (by rw [List.length_append]; omega),aE]
    rfl
theorem MG {f g:aN} (hf:ew f) (hg:ew g):gK f g=some (uk f g):=by
 unfold gK uk
 rw [wX _ (by simp) (by intro c hc; simp at hc; rcases hc with rfl | rfl; exact hf; exact hg),aE]
 simp only [List.all_cons,List.all_nil,Bool.and_true]
 cases h:dh f && dh g with
 | false=>rfl
 | true=>
  simp only [Bool.and_eq_true] at h
  have F:=gp h.1
  have G:=gp h.2
  rw [Bool.not_true,cond_false,cond_true,wY hf.t,aE]
  cases hs:ny f.aH g.aH with
  | false=>rfl
  | true=>
   have e:=rP.1 hs
   rw [Bool.not_true,cond_false,cond_true,Kw F.c G.c,aE]
   cases hh:jo (ay f.aG g.aG) with
   | false=>rfl
   | true=>
    have S:=xj F.c G.c hh
    have f1:=F.ol
    have f2:=F.al
    have g1:=G.ol
    have g2:=G.al
    have a1:=F.c.o8
    have a2:=G.c.o8
    have a3:=F.c.m
    have a4:=G.c.m
    rw [cond_true,cond_true]
    dsimp only
    rw [Bool.not_true,cond_false,sN _ hf.o,aE,cB (by omega) (by omega),aE,sN _ hf.a,aE,cB (by omega) (by omega),aE,rB (bx S).s hf.t (by rw [List.length_append]; omega) (by rw [List.length_append]; omega),aE]
    rfl
def IS (c d:aD):aN:=aN.mk c (ay c d) (iu c.aA.toNat) (iu c.aB.length)
section
variable {c d:aD} (C:gu c) (D:gu d) (h:jo (ay c d)=true)
include C D h
theorem PS:fN (ay c d) (iu c.aB.length)=some (IS c d,0):=by
 have S:=xj C D h
 have lf:=nj (bx C).t (bx D).t
 have c8:=C.o8
 have cm:=C.m
 have hw:dC (iu c.aB.length) ((ay c d).aB.length:Int)=some true:=by
  have h:Ok (dC (iu c.aB.length) ((ay c d).aB.length:Int)) fun b=>b=true:=by
   unfold dC
   refine km (ol (fun s:Int=>0≤s∧s≤c.aB.length) (fun s=>(c.aB.length - s).toNat) ⟨by omega,by omega⟩ ?_)
   rintro s ⟨s0,s1⟩
   show Ok (fU _ _ s) _
   unfold fU
   rw [cp]
   refine od (fun hs=>?_) fun _=>os ⟨rfl,os rfl⟩
   rw [bV s0 (by rw [cp]; exact hs),aE,l7 s0 hs]
   have hr:dG s 0 (ai ((ay c d).aB.length - 1))=some true:=by
    unfold dG
    have:=S.m
    rw [au s0,cond_true,aE,bX (by omega) (by omega),au (by omega)]
    rfl
   rw [hr,aE,Bool.not_true,cond_false]
   refine os ⟨⟨?_,?_⟩,?_⟩
   all_goals rw [bX (by omega) (by omega)]
   all_goals (try dsimp only)
   all_goals omega
  obtain ⟨b,hb,rfl⟩:=h
  exact hb
 have hc:jW (ay c d) (iu c.aB.length)=some 0:=by
  unfold jW
  rw [FG (bx S).s,p8 S,aE,Bool.not_true,cond_false,show bB (ay c d)=some ((ay c d).aB.length:Int) from rfl,aE,hw,aE,Bool.not_true,cond_false]; rfl
 have cw:gS (ay c d) (iu c.aB.length)=some (c,0):=by
  unfold gS
  rw [hc,aE,qM rfl,cond_false,Sb C D,aE,Bool.not_true,cond_false,HB C D,aE]; rfl
 unfold fN
 rw [cw,aE,qM rfl,cond_false,HB C D,aE,rB (bx C).s (bx S).s (by rw [cp]; omega) (by rw [cp]; omega),aE]
 rfl
theorem PT:dh (IS c d)=true:=by
 have S:=xj C D h
 have T:=(bx C).t
 have U:=(bx D).t
 have lf:=nj T U
 have c0:=C.o0
 have d0:=D.o0
 have so:(ay c d).aA=c.aA+d.aA:=rfl
 refine zt (f:=IS c d) (p8 C) (p8 S) ?_ ?_ ?_ ?_ ?_ ?_ ?_ ?_
 ·show ((iu _).length:Int)=c.aA; rw [cp]; omega
 ·exact cp _
 ·intro y hy
  obtain ⟨i,hi,rfl⟩:=ij.1 hy
  show 0≤i∧i < c.aA+d.aA
  omega
 ·intro y hy
  obtain ⟨i,hi,rfl⟩:=ij.1 hy
  show 0≤i∧i < ((ay c d).aB.length:Int)
  omega
 ·intro a a0 (a1:a < c.aB.length)
  have k:=T.fr a0 a1
  show gi (ay c d).aB (gi (iu _) a)=gi (iu _) (gi c.aB a)
  rw [l7 a0 a1,l7 k.1 (by omega),nr T U a0 a1]
 ·intro a a0 (a1:a < c.aB.length)
  have k:=T.to a0 a1
  show gi (ay c d).To (gi (iu _) a)=gi (iu _) (gi c.To a)
  rw [l7 a0 a1,l7 k.1 (by omega),p7 T U a0 a1]
 ·intro x x0 (x1:x < c.aA)
  have k:=T.id x0 x1
  show gi (iu _) (gi c.aF x)=gi (ay c d).aF (gi (iu _) x)
  rw [l7 x0 (by omega),l7 k.1 k.2,vq T U x0 x1]
 ·intro a b a0 (a1:a < c.aB.length) b0 (b1:b < c.aB.length) e
  have k:=T.cell a b a0 a1 b0 b1 e
  show gi (iu _) (gk c.aC a b)=gk (ay c d).aC (gi (iu _) a) (gi (iu _) b)
  rw [l7 k.1.1 k.1.2,l7 a0 a1,l7 b0 b1,mc T U a0 a1 b0 b1]
end
theorem PU {f g:aN} (F:uw f) (G:uw g) (e:f.aH=g.aH):(Cc (IS f.aG g.aG) (p9 f g)).ae=f.ae:=by
 have f2:=F.al
 refine tU ?_ fun x x0 x1=>?_
 ·show (thenS _ _).length=_; rw [qO]; show (iu _).length=_; rw [cp]; omega
 ·refine (vv (a:=iu f.aG.aB.length) (b:=(p9 f g).ae) x0 (by rw [cp]; omega)).trans ?_
  rw [l7 x0 (by omega),vw F G e x0 (by omega)]
section
variable {x:List Int} (B:vx x)
include B
theorem KB:Ok (fO x) fun y=>ew y.1∧ew y.2:=by
 unfold fO
 refine km (ob (KC B) fun y hy=>?_)
 obtain ⟨s,rfl,S⟩:=hy
 refine ob (Cd B S.zu 3 8) fun y hy=>?_
 have T:T7 y.1:=Ah hy.1 (by omega) (by omega)
 refine ob (IT B hy.2.zu T (by omega) (by omega)) fun z hz=>?_
 obtain ⟨⟨d,U,F,_⟩,S2⟩:=hz
 have fs:ew z.1:=F.small T U
 refine ob (dw B S2.zu _) fun w hw=>oc (fun _=>ob (Ai B hw.2.zu) fun u hu=>os ⟨fs,hu.1⟩) fun _=>?_
 refine ob (IT B hw.2.zu (c:=z.1.aG) (F.s ▸ T) (by omega) (by omega)) fun u hu=>?_
 obtain ⟨⟨d',U',F',_⟩,_⟩:=hu
 exact os ⟨fs,F'.small (F.s ▸ T) U'⟩
theorem GM:Ok (eL x) fun y=>ew y.1∧ew y.2:=by
 unfold eL
 refine km (ob (KC B) fun y hy=>?_)
 obtain ⟨s,rfl,S⟩:=hy
 refine ob (Ai B S.zu) fun f hf=>?_
 refine oe (FH hf.1.t) ?_
 cases hc:ov f.1.aH with
 | false=>
  rw [Bool.not_false,cond_true]
  exact ob (Ai B hf.2.zu) fun u hu=>os ⟨hf.1,hu.1⟩
 | true=>
  rw [Bool.not_true,cond_false]
  have U:T7 f.1.aH:=bx (tW hc)
  refine ob (dw B hf.2.zu _) fun w hw=>oc (fun _=>ob (Ai B hw.2.zu) fun u hu=>os ⟨hf.1,hu.1⟩) fun _=>?_
  refine ob (Cd B hw.2.zu 3 6) fun y hy=>?_
  have T:T7 y.1:=Ah hy.1 (by omega) (by omega)
  refine ob (HG T U) fun b _=>oc (fun _=>?_) fun _=>ob (xl U) fun q hq=>os ⟨hf.1,hq.1.small U U⟩
  refine ob (IU T U) fun l hl=>od (fun h0=>ob (dw B hy.2.zu _) fun z hz=>oi hz.1.1 (hz.1.2 (by omega)) fun q hq=>os ⟨hf.1,(hl.2.1 q hq).small T U⟩) fun _=>ob (xl U) fun q hq=>os ⟨hf.1,hq.1.small U U⟩
end
theorem ojn {S1 S R:Type} {t:Nat} {s0 s1:S1} {m:Option (Out S1 R)} {f:S1→Option (Out S R)} {Q:Out S R→Prop} (h1:m=some (Out.norm s1)) (h2:Ok (f s1) Q):Ok (jn t s0 m f) Q:=by
 subst h1; exact h2
theorem HH {f g:aN} (h:(uj f g).2=0):dh f=true∧dh g=true∧f.aG=g.aG∧jo (bn f.aH g.aH)=true∧uj f g=(ly f g,0):=by
 unfold uj at h ⊢
 cases h1:dh f <;> cases h2:dh g <;> cases h3:ny f.aG g.aG <;> cases h4:jo (bn f.aH g.aH) <;> simp only [h1,h2,h3,h4,Bool.and_true,Bool.and_false,cond_true,cond_false] at h ⊢ <;> first | exact ⟨trivial,trivial,rP.1 h3,trivial,trivial⟩ | exact absurd h (by decide)
theorem HI {f g:aN} (h:(uk f g).2=0):dh f=true∧dh g=true∧f.aH=g.aH∧jo (ay f.aG g.aG)=true∧uk f g=(p9 f g,0):=by
 unfold uk at h ⊢
 cases h1:dh f <;> cases h2:dh g <;> cases h3:ny f.aH g.aH <;> cases h4:jo (ay f.aG g.aG) <;> simp only [h1,h2,h3,h4,Bool.and_true,Bool.and_false,cond_true,cond_false] at h ⊢ <;> first | exact ⟨trivial,trivial,rP.1 h3,trivial,trivial⟩ | exact absurd h (by decide)
theorem IV (f g:aN):ew (uj f g).1:=by
 by_cases h:(uj f g).2=0
 ·obtain ⟨h1,h2,h3,h4,h5⟩:=HH h
  rw [h5]
  exact GL (gp h1) (gp h2) h3 h4
 ·have:(uj f g).1=yc:=by
   unfold uj at h ⊢
   cases h1:dh f && dh g <;> cases h3:ny f.aG g.aG <;> cases h4:jo (bn f.aH g.aH) <;> simp only [h1,h3,h4,cond_true,cond_false] at h ⊢
   exact absurd trivial h
  rw [this]; exact B9
theorem IW (f g:aN):ew (uk f g).1:=by
 by_cases h:(uk f g).2=0
 ·obtain ⟨h1,h2,h3,h4,h5⟩:=HI h
  rw [h5]
  exact qN (gp (HF (gp h1) (gp h2) h3 h4))
 ·have:(uk f g).1=yc:=by
   unfold uk at h ⊢
   cases h1:dh f && dh g <;> cases h3:ny f.aH g.aH <;> cases h4:jo (ay f.aG g.aG) <;> simp only [h1,h3,h4,cond_true,cond_false] at h ⊢
   exact absurd trivial h
  rw [this]; exact B9
theorem KD {x0:List Int} (hl:x0.length≤maxLen∧∀ y∈x0,0≤y∧y < 256):jJ x0=some true:=by
 have key:Ok (jJ x0) fun b=>b=true:=by
  unfold jJ
  have C0:oC x0=some (decide ((x0.length:Int) > 4096)):=rfl
  refine km (oe C0 (od (fun _=>os rfl) fun hb=>?_))
  have BY:vx x0:=⟨by omega,hl.2⟩
  refine ob (KB BY) fun q hq=>?_
  obtain ⟨f,g⟩:=q
  dsimp only at hq ⊢
  refine oe (Kz hq.1 hq.2) (oe (Kx hq.1 hq.2) (oe (x:=false) ?_ ?_))
  ·rw [qM rfl,cond_false,Ce (IV f g),aE,Bool.not_true]
  rw [cond_false]
  refine ojn (s1:=()) ?_ ?_
  ·by_cases h0:(uj f g).2=0
   ·obtain ⟨h1,h2,h3,h4,h5⟩:=HH h0
    have F:=gp h1
    have G:=gp h2
    rw [h5]
    dsimp only
    rw [pI rfl,cond_true,PM F.d G.d h4,aE,PN F.d G.d h4,aE]
    dsimp only
    rw [yd (Bi F G h3 h4) (PO F.d G.d h4) rfl,aE,yd (Bi F G h3 h4) (PR F.d G.d h4) rfl,aE]
    dsimp only
    rw [qM rfl,cond_false,cond_false,cond_false,cond_false,MC F G h3 h4,MD F G h3 h4,Ce hq.1,aE,Bool.not_true,cond_false,Ce hq.2,aE,Bool.not_true,aE,cond_false]
   ·rw [rM h0,cond_false]
  refine ob (GM BY) fun q hq=>?_
  obtain ⟨f,g⟩:=q
  dsimp only at hq ⊢
  refine oe (MG hq.1 hq.2) (oe (ME hq.1 hq.2) (oe (x:=false) ?_ ?_))
  ·rw [qM rfl,cond_false,Ce (IW f g),aE,Bool.not_true]
  rw [cond_false]
  by_cases h0:(uk f g).2=0
  ·obtain ⟨h1,h2,h3,h4,h5⟩:=HI h0
   have F:=gp h1
   have G:=gp h2
   have m:=F.c.m
   have al:=F.al
   have Hv:=HF F G h3 h4
   rw [h5]
   dsimp only
   rw [qM rfl,cond_false,show ((f.ae.length:Nat):Int)=((f.aG.aB.length:Nat):Int) by omega]
   refine oe (MB (by omega)) (oe (PS F.c G.c h4) (oe (yd (PT F.c G.c h4) Hv rfl) (oe (x:=true) ?_ ?_)))
   ·unfold mI
    rw [zw (qN (gp Hv)),Hv]; rfl
   dsimp only
   rw [cond_true,pI rfl,cond_true,cond_true,PU F G h3]
   refine oe (wA _ _ (by have:=hq.1.a; omega)) ?_
   rw [pI rfl,cond_true]
   have ht:tl (p9 f g).ae (f.aG.aB.length:Int)=some g.ae:=by
    unfold tl
    rw [au ⟨by omega,by show (f.aG.aB.length:Int)≤((f.ae++g.ae).length:Int); rw [List.length_append]; omega⟩,cond_true,Int.toNat_natCast,← al]
    exact congrArg some List.drop_left
   refine oe ht (oe (wA _ _ (by have:=hq.2.a; omega)) (os ?_))
   exact pI rfl
  ·rw [rQ h0,cond_true]
   exact os rfl
 obtain ⟨b,hb,rfl⟩:=key
 exact hb
end Go.Proofs.YtcnehblmgfbfoaaGreat
