/- The law on functors between categories of elements, on plain data. No condition beside those that each theorem names. -/
import Derived.Test.YtcnehblmgfbfoaaGreatKr
import Derived.Test.YtcnehblmgfbfoaaGreatKt
import Derived.Test.YtcnehblmgfbfoaaGreatVt
set_option linter.unusedVariables false
set_option linter.unusedSectionVars false
set_option linter.unusedSimpArgs false
namespace Go.Proofs.YtcnehblmgfbfoaaGreat
open Go Go.Li
theorem Ut {l:List Int} {u:Int} (hl:l.Nodup) (h:∀ z,z∈l↔z=u):l.length=1:=
 ((List.perm_ext_iff_of_nodup hl (l₂:=[u]) (by simp)).2 fun z=>by rw [h z]; simp).length_eq
theorem W2 {l:List Int} (nd:l.Nodup) {i j:Int} (i0:0≤i) (i1:i < l.length) (j0:0≤j) (j1:j < l.length) (h:gi l i=gi l j):i=j:=by
 have e1:=(sU (l:=l) i0 i1).symm.trans (bQ i0 i1)
 have e2:=(sU (l:=l) j0 j1).symm.trans (bQ j0 j1)
 rw [h] at e1
 have e:=Option.some.inj (e1.trans e2.symm)
 have k:=List.pairwise_iff_getElem.1 nd
 rcases Nat.lt_trichotomy i.toNat j.toNat with hl | hl | hl
 ·exact absurd e (k _ _ (by omega) (by omega) hl)
 ·omega
 ·exact absurd e.symm (k _ _ (by omega) (by omega) hl)
theorem aak {l:List Int} (h:∀ i j:Int,0≤i→i < l.length→0≤j→j < l.length→gi l i=gi l j→i=j):l.Nodup:=by
 refine List.pairwise_iff_getElem.2 fun i j hi hj q9 e=>?_
 have e1:=(sU (l:=l) (j:=(i:Int)) (by omega) (by omega)).symm.trans (bQ (by omega) (by omega))
 have e2:=(sU (l:=l) (j:=(j:Int)) (by omega) (by omega)).symm.trans (bQ (by omega) (by omega))
 have:=h i j (by omega) (by omega) (by omega) (by omega) (by
  refine Option.some.inj (e1.symm.trans (Eq.trans ?_ e2))
  congr 1)
 omega
theorem Q4 {f:aY} (hm:f.aF.aG.length≤1048576) (ha:f.bc.length=f.aF.aG.length) (e b:Int):jV f e b=some ((l9 f.aF e).filter fun u=>gi f.bc u == b):=by
 unfold jV
 rw [K0 hm,aA]
 have hl:=I6 f.aF e
 refine (congrArg ao (Ch (l9 f.aF e) (fun u=>gi f.bc u == b) (fun acc i=>(acc,(i:Int))) rfl ?_ ?_)).trans rfl
 ·intro i u acc hu Ci
  have hi:=bf hu
  have BJ:=(qj.1 (List.mem_of_getElem? hu)).1
  show fZ f b (l9 f.aF e) acc (i:Int)=_
  unfold fZ
  rw [aw (by omega),cond_true,bn,hu,aA,bQ BJ.1 (by omega),aA,dR (by omega) (by omega),aA,bB (by omega)]
  cases gi f.bc u == b <;> rfl
 ·intro acc
  show fZ f b (l9 f.aF e) acc _=_
  unfold fZ
  rw [aX (by omega),cond_false]
section
variable {m:bX} (M:SM m) (hf:j8 m.aF=true) (hg:j8 m.aM=true)
include M hf hg
theorem Q5 {i b:Int} (i0:0≤i) (i1:i < (pE m.aF).length) (hb:b∈l9 (ew m.aM) (gi (dn m) i)):((l9 (ew m.aF) i).filter fun u=>gi (sA m) u == b).length=1:=by
 have F:=M.src
 have G:=M.wE
 have h8:=(rP F hf).1
 have g8:=(rP G hg).1
 obtain ⟨⟨b0,b1⟩,b2⟩:=qj.1 hb
 rw [vi G] at b1
 obtain ⟨p,q,a,hq,e,eb⟩:=tZ G g8 b0 b1
 rw [IW G b0 b1,e] at b2
 obtain rfl:p=gi (dn m) i:=b2
 have k:=vZ M i0 i1
 have P:=qt F i0 i1
 have L:tW m.aF.aC (xE m.aF i) (xE m.aM q) a:=by
  have:=hq.2.1
  rwa [M.same,k.2.1] at this
 have hy:=WU F.cat L
 have hd:=F.DB L.1.1 L.1.2 P.2.1.1 (by rw [L.2.1]; exact P.2.1.2)
 rw [L.2.2] at hd
 obtain ⟨hj,jx,je⟩:=E6 F hy hd
 generalize bd (pE m.aF) [xE m.aM q,gi (gr m.aF.aO a) (eE m.aF i)]=j at hj jx je
 have E:ry m.aF i j a:=⟨⟨⟨i0,i1⟩,hj⟩,by rw [jx]; exact L,je.symm⟩
 have nat:=M.nat a (eE m.aF i) L.1.1 L.1.2 P.2.1.1 (by rw [L.2.1]; exact P.2.1.2)
 rw [L.2.1,L.2.2] at nat
 have kj:=vZ M hj.1 hj.2
 have ej:gi (dn m) j=q:=by
  refine I1 G kj.1.1 kj.1.2 hq.1.2.1 hq.1.2.2 (by rw [kj.2.1,jx]) ?_
  rw [kj.2.2,jx,je,nat,← hq.2.2,k.2.2]
 refine Ut (u:=bd (aE m.aF) [i,j,a]) (List.Pairwise.filter _ (by unfold l9; exact sx)) fun z=>?_
 rw [List.mem_filter,beq_iff_eq,qj]
 constructor
 ·rintro ⟨⟨⟨z0,z1⟩,z2⟩,z3⟩
  rw [vi F] at z1
  obtain ⟨i2,j2,a2,h2,e2,rfl⟩:=tZ F h8 z0 z1
  rw [(xj F h2).2.1] at z2
  subst z2
  rw [ua M h2,eb] at z3
  have r1:=(tX G (wF M h2)).2
  rw [z3,(tX G hq).2] at r1
  injection r1 with _ r1
  injection r1 with r1 r2
  injection r2 with r2 _
  subst r2
  have k2:=vZ M h2.1.2.1 h2.1.2.2
  have:j2=j:=I1 F h2.1.2.1 h2.1.2.2 hj.1 hj.2 (by rw [← k2.2.1,← r1,jx]) (by rw [je,← h2.2.2])
  rw [this]
 ·rintro rfl
  have c:=xj F E
  exact ⟨⟨c.1,c.2.1⟩,by rw [ua M E,ej,eb]⟩
theorem Q6:dV (sT m)=some true:=by
 have F:=M.src
 have G:=M.wE
 have h8:=rP F hf
 have g8:=rP G hg
 have lo:(dn m).length=(pE m.aF).length:=bI _ _
 have la:(sA m).length=(aE m.aF).length:=bI _ _
 have hl:=vi F
 have w6:=vi G
 unfold dV
 refine (congrArg ao (du (ns (pE m.aF).length) (fun i=>(i:Int)) rfl (e:=((pE m.aF).length:Int)) ?_ ?_)).trans rfl
 ·intro i x hx
  obtain ⟨rfl,hi⟩:=c8 hx
  unfold eP
  rw [show (sT m).aD=dn m from rfl,aw (by omega),cond_true,x8 M (by omega) (by omega),aA,show (sT m).aM=ew m.aM from rfl,K0 (by omega),aA]
  have ho:=I6 (ew m.aM) (gi (dn m) i)
  refine (du (l9 (ew m.aM) (gi (dn m) i)) (fun k=>(k:Int)) rfl (e:=((l9 (ew m.aM) (gi (dn m) i)).length:Int)) ?_ ?_).trans ?_
  ·intro k b hb
   have hk:=bf hb
   have h1:=Q5 M hf hg (i:=(i:Int)) (by omega) (by omega) (List.mem_of_getElem? hb)
   unfold eQ
   rw [aw (by omega),cond_true,bn,hb,aA,Q4 (f:=sT m) (by show (ew m.aF).aG.length≤_; omega) (by show (sA m).length=(ew m.aF).aG.length; omega),aA]
   rw [show ((l9 (sT m).aF i).filter fun u=>gi (sT m).bc u == b).length=1 from h1,show (((1:Nat):Int) != 1)=false from rfl,cond_false,bB (by omega)]
  ·unfold eQ
   rw [aX (by omega),cond_false]
  ·rw [bB (by omega)]
 ·unfold eP
  rw [show (sT m).aD=dn m from rfl,cH,aX (by omega),cond_false]
end
def I7 (m:bX):Bool:=!((ns m.cD.length).any fun x=>!decide (gr m.cD x).Nodup)
theorem Uu {m:bX} (M:SM m) (hs:o4 m):gJ m=some (I7 m):=by
 have hp:=M.pl
 have h8:=M.src.cat.o8
 unfold gJ I7
 refine (congrArg ao (zH (n:=m.cD.length) (fun x=>!decide (gr m.cD x).Nodup) (y:=false) (fun i hi=>?_) ?_)).trans ?_
 ·have i1:(i:Int) < m.aF.aC.aD:=by omega
  have pt:=M.part i (by omega) i1
  have S:=M.wE.s i (by omega) (by rw [M.same]; exact i1)
  have S2:=M.src.s i (by omega) i1
  unfold iG
  rw [aw (by omega),cond_true,M.D7 (by omega) i1,aA,M.wE.qe (by omega) (by rw [M.same]; exact i1),aA,show gi m.aM.aP i=(((gi m.aM.aP i).toNat:Nat):Int) by omega,OG (by omega) (by omega) (fun y hy=>by have:=pt.2 y hy; omega),aA,bB (by omega)]
  have il:=OH (n:=(gi m.aM.aP i).toNat) (l:=gr m.cD i) (fun y hy=>by have:=pt.2 y hy; omega)
  by_cases hn:(gr m.cD i).Nodup
  ·rw [il.2 hn,wW rfl,cond_false,aw hn]; rfl
  ·rw [tO (by intro h; exact hn (il.1 (by omega))),cond_true,aX hn]; rfl
 ·unfold iG
  rw [aX (by omega),cond_false]
 ·cases (ns m.cD.length).any fun x=>!decide (gr m.cD x).Nodup <;> rfl
def I8 (l:List Int) (i:Int):Bool:=(ns i.toNat).all fun k=>gi l i != gi l k
def wX (l:List Int) (n:Nat):Bool:=(ns n).all (I8 l)
theorem Q7 {l:List Int} {n:Nat}:wX l n=true↔∀ i k:Int,0≤k→k < i→i < n→gi l i≠gi l k:=by
 unfold wX I8
 simp only [List.all_eq_true,bne_iff_ne,ne_eq,dv]
 exact ⟨fun h i k k0 k1 i1=>h i ⟨by omega,i1⟩ k ⟨k0,by omega⟩,fun h i hi k hk=>h i k hk.1 (by omega) hi.2⟩
theorem I9 {n:Nat} (p:Int→Bool):(ns (n+1)).all p=((ns n).all p && p n):=by rw [IY,List.all_append]; simp
theorem Uv {m:bX} (M:SM m):wX (dn m) (pE m.aF).length=I7 m:=by
 have F:=M.src
 have G:=M.wE
 have hp:=M.pl
 rw [Bool.eq_iff_iff,Q7]
 unfold I7
 rw [Bool.not_eq_true',dy]
 constructor
 ·intro h x x0 x1
  rw [Bool.not_eq_false',decide_eq_true_eq]
  have x2:x < m.aF.aC.aD:=by omega
  have pt:=M.part x x0 x2
  refine aak fun e e' e0 e1 e0' Tn he=>?_
  have k1:=E6 F ⟨x0,x2⟩ (e:=e) ⟨e0,by omega⟩
  have k2:=E6 F ⟨x0,x2⟩ (e:=e') ⟨e0',by omega⟩
  have m1:gi (dn m) (bd (pE m.aF) [x,e])=bd (pE m.aM) [x,gi (gr m.cD x) e]:=by
   rw [show gi (dn m) (bd (pE m.aF) [x,e])=bd (pE m.aM) [xE m.aF _,gi (gr m.cD (xE m.aF _)) (eE m.aF _)] from uP k1.1.1 k1.1.2,k1.2.1,k1.2.2]
  have m2:gi (dn m) (bd (pE m.aF) [x,e'])=bd (pE m.aM) [x,gi (gr m.cD x) e']:=by
   rw [show gi (dn m) (bd (pE m.aF) [x,e'])=bd (pE m.aM) [xE m.aF _,gi (gr m.cD (xE m.aF _)) (eE m.aF _)] from uP k2.1.1 k2.1.2,k2.2.1,k2.2.2]
  rw [he,← m2] at m1
  have:bd (pE m.aF) [x,e]=bd (pE m.aF) [x,e']:=by
   rcases Int.lt_trichotomy (bd (pE m.aF) [x,e]) (bd (pE m.aF) [x,e']) with hl | hl | hl
   ·exact absurd m1.symm (h _ _ k1.1.1 hl k2.1.2)
   ·exact hl
   ·exact absurd m1 (h _ _ k2.1.1 hl k1.1.2)
  rw [← k1.2.2,← k2.2.2,this]
 ·intro h i k k0 k1 i1 he
  have a:=vZ M (i:=i) (by omega) i1
  have b:=vZ M k0 (by omega)
  have P:=qt F (i:=i) (by omega) i1
  have Q:=qt F k0 (i:=k) (by omega)
  rw [he] at a
  have hx:xE m.aF i=xE m.aF k:=by rw [← a.2.1,← b.2.1]
  have hee:=a.2.2.symm.trans b.2.2
  have pt:=M.part _ P.1.1 P.1.2
  have nd:=h (xE m.aF i) P.1.1 (by omega)
  rw [Bool.not_eq_false',decide_eq_true_eq] at nd
  rw [← hx] at hee
  have:=W2 nd P.2.1.1 (by omega) Q.2.1.1 (by rw [← hx] at Q; omega) hee
  have:=I1 F (i:=i) (j:=k) (by omega) i1 k0 (by omega) hx this
  omega
theorem OI {f g:aY} (hf:rQ f=true) (hg:rQ g=true) (fs:sb f) (gs:sb g) (e:f.aM=g.aF):jW f g=some (Ms f g,0):=by
 have F:=OJ hf
 have G:=OJ hg
 unfold jW
 rw [J9 _ (by simp) (by intro c hc; simp at hc; rcases hc with rfl | rfl; exact fs; exact gs),aA]
 simp only [List.all_cons,List.all_nil,Bool.and_true]
 rw [hf,hg,Bool.and_true,Bool.not_true,cond_false,DC fs.t,aA,x9.2 e,Bool.not_true,cond_false,OK F.toFHead G.toFHead e fs gs,aA]
 rfl
theorem K1 {f:aY} (h:sb f):lC f f=some true:=by
 have:=h.o
 have:=h.a
 unfold lC
 rw [OL h.s,aA,cond_true,OL h.t,aA,cond_true,Fc _ _ (by omega),aA,beq_self_eq_true,cond_true,Fc _ _ (by omega),aA,beq_self_eq_true]; rfl
theorem ON {m:bX}:sb (I3 m).1:=by
 unfold I3
 cases hm:zZ m with
 | false=>exact AP
 | true=>
  cases hf:j8 m.aF with
  | false=>exact AP
  | true=>
   cases hg:j8 m.aM with
   | false=>exact AP
   | true=>exact Cj (HD hm) hf hg
theorem Uw {x:List Int} (B:Fe x):Ok (gS x) o4:=by
 unfold gS
 refine ly (ob (W3 B) fun y hy=>?_)
 obtain ⟨s,rfl,S⟩:=hy
 have S':∀ {t:aL} {h:Int},Src x t→Src x (aL.mk x t.At h):=fun T=>⟨rfl,T.a0,T.a1⟩
 show Ok (mY (aL.mk x s.At s.aj) 3>>=_) _
 exact ob (aal B (S' S) (by omega) (by omega)) fun m hm=>os hm.1
theorem Q8 {x0:List Int} (hl:x0.length≤maxLen∧∀ y∈x0,0≤y∧y < 256):iA x0=some true:=by
 unfold iA
 have Gk:rD x0=some (decide ((x0.length:Int) > 4096)):=rfl
 rw [Gk,aA]
 by_cases hb:(x0.length:Int) > 4096
 ·rw [aw hb,cond_true]; rfl
 rw [aX hb,cond_false]
 obtain ⟨m,e,hs⟩:=Uw (x:=x0) ⟨by omega,hl.2⟩
 rw [e,aA,Uq hs,aA,Ur hs,aA,wW rfl,cond_false,K1 ON,aA,Bool.not_true,aA,cond_false]
 unfold I3
 cases hm:zZ m with
 | false=>rfl
 | true=>
  cases hf:j8 m.aF with
  | false=>rfl
  | true=>
   cases hg:j8 m.aM with
   | false=>rfl
   | true=>
    have M:=HD hm
    have F:=M.src
    have G:=M.wE
    have fB:tK m.aF=true:=by unfold zZ pb at hm; simp only [Bool.and_eq_true] at hm; exact hm.1.1
    have gB:tK m.aM=true:=by unfold zZ pb at hm; simp only [Bool.and_eq_true] at hm; exact hm.1.2.1
    have h8:=rP F hf
    have lo:(dn m).length=(pE m.aF).length:=bI _ _
    have E:=Up M hf hg
    have hd:fO (sT m)=some (true,0):=by
     unfold fO rB
     rw [Ck (Cj M hf hg),aA,E,Bool.not_true,cond_false]
     dsimp only
     rw [Q6 M hf hg]; rfl
    have hi:jE m=some (I7 m,0):=by
     unfold jE
     rw [KZ hs,aA,hm,Bool.not_true,cond_false,Uu M hs]; rfl
    have p1:=G6 F hf hs.s.c
    have p2:=G6 G hg hs.t.c
    simp only [cond_true,Bool.and_self]
    rw [wW rfl,cond_false,G7 F hf hs.s fB,aA,G7 G hg hs.t gB,aA,OI E (Uo G hg) (Cj M hf hg) p2 rfl,aA,hd,aA,hi,aA,aaj M hf hg]
    refine (congrArg ao (du (ns (pE m.aF).length) (fun i=>(wX (dn m) i,(i:Int))) rfl (e:=(wX (dn m) (pE m.aF).length,((pE m.aF).length:Int))) ?_ ?_)).trans ?_
    ·intro i x hx
     obtain ⟨rfl,hi⟩:=c8 hx
     show eR (sT m,0) (wX (dn m) i) (i:Int)=some (.norm (wX (dn m) (i+1),((i+1:Nat):Int)))
     rw [show wX (dn m) (i+1)=(wX (dn m) i && I8 (dn m) i) from I9 _]
     unfold eR
     rw [show (sT m,(0:Int)).1.aD=dn m from rfl,aw (by omega),cond_true]
     refine (du (ns i) (fun k=>(wX (dn m) i && (ns k).all fun k=>gi (dn m) i != gi (dn m) k,(k:Int))) (by simp [ns]) (e:=(wX (dn m) i && I8 (dn m) i,(i:Int))) ?_ ?_).trans ?_
     ·intro k y hy
      obtain ⟨rfl,hk⟩:=c8 hy
      rw [I9,← Bool.and_assoc]
      show eS (sT m,0) (i:Int) _ (k:Int)=_
      unfold eS
      rw [aw (by omega),cond_true,show (sT m,(0:Int)).1.aD=dn m from rfl]
      cases (wX (dn m) i && (ns k).all fun k=>gi (dn m) i != gi (dn m) k) with
      | false=>rw [cond_false,aA,bB (by omega),Bool.false_and]
      | true=>rw [cond_true,x8 M (by omega) (by omega),aA,x8 M (by omega) (by omega),aA,aA,bB (by omega),Bool.true_and]
     ·show eS (sT m,0) (i:Int) _ _=_
      unfold eS
      rw [cH,aX (by omega),cond_false]
      unfold I8
      rw [Int.toNat_natCast]
     ·dsimp only
      rw [bB (by omega)]
    ·show eR (sT m,0) _ _=_
     unfold eR
     rw [cH,show (sT m,(0:Int)).1.aD=dn m from rfl,aX (by omega),cond_false]
    ·dsimp only
     rw [Uv M,show ai (ai (ai (ai (0+0)+0)+0)+0)=0 by rw [show ai (0+0)=0 from dT (by omega) (by omega)]; simp only [show ai (0+0)=0 from dT (by omega) (by omega)],beq_self_eq_true,cond_true,K1 p1,aA,cond_true,cond_true,beq_self_eq_true]; rfl
end Go.Proofs.YtcnehblmgfbfoaaGreat
