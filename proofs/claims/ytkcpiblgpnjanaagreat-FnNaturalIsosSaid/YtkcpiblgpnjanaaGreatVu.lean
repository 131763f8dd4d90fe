/- Natural isomorphisms: the inverse of one, and the law, on plain data. No condition beside those that each theorem names. -/
import Derived.Test.YtkcpiblgpnjanaaGreatVz
namespace Go.Proofs.YtkcpiblgpnjanaaGreat
open Go Go.Li
set_option linter.unusedVariables false
set_option linter.unusedSectionVars false
set_option linter.unusedSimpArgs false
def vq (f:aL) (c:List Int):Bool:=c.all (ik f.aE)
theorem H0 {f g:aL} {al:Int→Bool}:∀ (k:Nat) (p:List Int),ef al f g k p=(ef (fun _=>true) f g k p).filter fun c=>(c.drop p.length).all al:=by
 intro k
 induction k with
 | zero=>intro p; simp [ef]
 | succ k ih=>
  intro p
  unfold ef
  generalize (ns f.aE.aG.length).filter (qy f.aE (gi f.aC p.length) (gi g.aC p.length))=l
  induction l with
  | nil=>rfl
  | cons b l Wy=>
   have hb:(ef (fun _=>true) f g k (p++[b])).filter (fun c=>(c.drop p.length).all al)=bif al b then ef al f g k (p++[b]) else []:=by
    have key:∀ c∈ef (fun _=>true) f g k (p++[b]),(c.drop p.length).all al=(al b && (c.drop (p++[b]).length).all al):=by
     intro c hc
     obtain ⟨h1,h2,_⟩:=yh _ _ _ hc
     rw [List.length_append,List.length_singleton] at h1 h2 ⊢
     have bc:p.length < c.length:=by omega
     have e:=h2 (p.length:Int) (by omega) (by omega)
     rw [jy (by omega),if_neg (by omega),if_pos rfl] at e
     unfold gi at e
     rw [List.getD_eq_getElem?_getD,Int.toNat_natCast,List.getElem?_eq_getElem bc] at e
     rw [List.drop_eq_getElem_cons bc,List.all_cons]
     have e':c[p.length]=b:=e
     rw [e']
    rw [List.filter_congr key]
    cases ha:al b with
    | true=>rw [ih (p++[b])]; simp
    | false=>simp
   rw [List.filter_cons,List.filter_cons]
   unfold wA
   cases Hh:vr f g p.length (p++[b]) with
   | false=>
    rw [Bool.and_false,Bool.and_false,if_neg (by decide),if_neg (by decide)]
    exact Wy
   | true=>
    rw [Bool.and_true,Bool.and_true,if_pos rfl,List.flatMap_cons,List.filter_append,hb]
    cases ha:al b with
    | true=>rw [if_pos rfl,List.flatMap_cons,cond_true]; exact congrArg _ Wy
    | false=>rw [if_neg (by decide),cond_false,List.nil_append]; exact Wy
theorem P8 {f g:aL} {k:Nat}:(ef (ik f.aE) f g k []).head? = (ef (fun _=>true) f g k []).find? (vq f):=by
 rw [H0 k [],List.head?_filter]; rfl
def rI (f g:aL):List Int×Int:=match (ef (ik f.aE) f g f.aB.aC.toNat []).head? with
 | none=>([],4)
 | some c=>(c,0)
def r8 (f g:aL):Int:=bif ig f && ig g then (bif j9 f.aB g.aB && j9 f.aE g.aE then 0 else 5) else 1
theorem FC {f g:aL} (fs:dv f) (gs:dv g):fX f g=some (r8 f g):=by
 unfold fX r8
 rw [yA _ (by simp) (fun c hc=>by rcases List.mem_cons.1 hc with rfl | hc; exact fs; rw [List.mem_singleton.1 hc]; exact gs),aH,show ([f,g].all ig)=(ig f && ig g) by simp]
 cases ig f && ig g with
 | false=>rfl
 | true=>
  rw [Bool.not_true,cond_false,xG fs,aH,cond_true]
  cases j9 f.aB g.aB && j9 f.aE g.aE <;> rfl
theorem FD {f g:aL} (fs:dv f) (gs:dv g):oT f g=some (r8 f g):=by
 unfold oT r8
 rw [BM fs,aH]
 cases ig f with
 | false=>rfl
 | true=>
  rw [Bool.not_true,cond_false,BM gs,aH]
  cases ig g with
  | false=>rfl
  | true=>
   rw [Bool.not_true,aH,cond_false,H4 fs,aH,Bool.and_self,cond_true]
   cases j9 f.aB g.aB && j9 f.aE g.aE <;> rfl
theorem Wz {f g:aL} (h:r8 f g=0):C5 f g:=by
 unfold r8 at h
 cases h1:ig f with
 | false=>rw [h1] at h; cases h
 | true=>
  cases h2:ig g with
  | false=>rw [h1,h2] at h; cases h
  | true=>
   cases h3:j9 f.aB g.aB with
   | false=>rw [h1,h2,h3] at h; cases h
   | true=>
    cases h4:j9 f.aE g.aE with
    | false=>rw [h1,h2,h3,h4] at h; cases h
    | true=>exact ⟨tC h1,tC h2,h1,h2,(sW.1 h3).symm,(sW.1 h4).symm⟩
section
variable {f g:aL} (T:C5 f g)
include T
theorem P9 {b:Int} (b0:0≤b) (b1:b < f.aE.aG.length):eS b f=some (ik f.aE b):=by
 obtain ⟨y,h1,h2⟩:=C6 T.F.d b0 b1
 unfold eS
 rw [h1,aH]
 rcases h2 with ⟨h2,h3,_⟩ | ⟨h2,h3⟩
 ·rw [h2,aX (by omega)]; rfl
 ·rw [h2,bn (by omega)]; rfl
theorem NC (fs:dv f) (gs:dv g) (h0:r8 f g=0):eI f g=some (rI f g):=by
 have co:=T.F.c.o8
 have iw:sX (fun a0 a1=>eL a0 a1) (ef (ik f.aE) f g f.aB.aC.toNat []) []=some (match (ef (ik f.aE) f g f.aB.aC.toNat []).head? with | none=>(true,[]) | some c=>(false,c)):=by
  cases hE:ef (ik f.aE) f g f.aB.aC.toNat [] with
  | nil=>rfl
  | cons c l=>
   have:=(sY T (c:=c) (rZ:=ik f.aE) (by rw [hE]; simp)).2
   show (eL c []>>=fun y=>bif !y.1 then some (false,y.2) else sX (fun a0 a1=>eL a0 a1) l y.2)=_
   unfold eL
   rw [BN c (by omega),aH]; rfl
 have e:=ND T (al:=fun a0=>eS a0 f) (rZ:=ik f.aE) (fun b b0 b1=>P9 T b0 b1) (by omega) iw
 unfold eI oS rI
 rw [FC fs gs,aH,h0,tn rfl,cond_false,e,aH]
 cases (ef (ik f.aE) f g f.aB.aC.toNat []).head? <;> rfl
theorem NG (fs:dv f) (gs:dv g) (h0:r8 f g=0):eJ f g=some (rI f g):=by
 unfold eJ rI
 rw [FD fs gs,aH,h0,tn rfl,cond_false,XY T,aH]
 cases (ef (ik f.aE) f g f.aB.aC.toNat []).head? <;> rfl
end
theorem NH {f g:aL} (fs:dv f) (gs:dv g) (h0:r8 f g≠0):eI f g=some ([],r8 f g):=by
 unfold eI
 rw [FC fs gs,aH,rS h0]; rfl
theorem NI {f g:aL} (fs:dv f) (gs:dv g) (h0:r8 f g≠0):eJ f g=some ([],r8 f g):=by
 unfold eJ
 rw [FD fs gs,aH,rS h0]; rfl
section
variable {f g:aL} {c:List Int} (hc:kn ⟨f,g,c⟩ = true)
include hc
theorem H5:fF ⟨f,g,c⟩ = some (vq f c):=by
 have N:=sZ hc
 have pl:(c.length:Int)=f.aB.aC:=N.pl
 have co:=N.f.c.o8
 dsimp only at co
 have wP:∀ i:Nat,i < c.length→fR ⟨f,g,c⟩ (i:Int)=bif !(ik f.aE (gi c i)) then some (.ret false) else some (.norm ((i+1:Nat):Int)):=by
  intro i hi
  have cp:0≤gi c i∧gi c i < f.aE.aG.length:=N.cp (x:=(i:Int)) (by omega) (show (i:Int) < f.aB.aC by omega)
  obtain ⟨y,h1,h2⟩:=C6 N.f.d cp.1 cp.2
  dsimp only at h1 h2
  unfold fR
  dsimp only
  rw [aX (by omega),cond_true,cT (by omega) (by omega),aH,h1,aH,cA (by omega)]
  rcases h2 with ⟨h2,h3,_⟩ | ⟨h2,h3⟩
  ·rw [h2,bn (by omega)]; rfl
  ·rw [h2,aX (by omega)]; rfl
 unfold fF
 rw [yz (n:=c.length) (fun i=>!(ik f.aE (gi c i))) wP (by unfold fR; dsimp only; rw [bn (by omega),cond_false])]
 have:vq f c = !((ns c.length).any fun i=>!(ik f.aE (gi c i))):=by
  unfold vq
  rw [Bool.eq_iff_iff,Bool.not_eq_true',ie,List.all_eq_true]
  refine ⟨fun h i i0 i1=>?_,fun h x hx=>?_⟩
  ·rw [h _ (er i0 i1)]; rfl
  ·obtain ⟨i,hi,rfl⟩:=List.mem_iff_getElem.1 hx
   have:=h (i:Int) (by omega) (by omega)
   unfold gi at this
   rw [List.getD_eq_getElem?_getD,Int.toNat_natCast,List.getElem?_eq_getElem hi] at this
   simpa using this
 rw [this]
 cases (ns c.length).any fun i=>!(ik f.aE (gi c i)) <;> rfl
theorem Lc (fs:dv f) (gs:dv g):gO ⟨f,g,c⟩ = some (vq f c,0):=by
 have N:=sZ hc
 have pl:(c.length:Int)=f.aB.aC:=N.pl
 have co:=N.f.c.o8
 dsimp only at co
 unfold gO
 rw [Ch ⟨fs,gs,by show c.length≤_; omega⟩,aH,hc,Bool.not_true,cond_false,H5 hc,aH]; rfl
end
noncomputable def uU (d:aI) (a:Int):Int:=(eH d a).getD 0
noncomputable def ny (f:aL) (c:List Int):List Int:=ew c.length fun i=>uU f.aE (gi c i)
section
variable {f g:aL} {c:List Int} (hc:kn ⟨f,g,c⟩ = true) (hi:vq f c=true)
include hc hi
theorem C7 {x:Int} (x0:0≤x) (x1:x < f.aB.aC):eH f.aE (gi c x)=some (uU f.aE (gi c x))∧gi (ny f c) x=uU f.aE (gi c x)∧(0≤uU f.aE (gi c x)∧uU f.aE (gi c x) < f.aE.aG.length)∧gi f.aE.aG (uU f.aE (gi c x))=gi g.aC x∧gi f.aE.To (uU f.aE (gi c x))=gi f.aC x∧
  gk f.aE.aF (gi c x) (uU f.aE (gi c x))=gi f.aE.aJ (gi f.aC x)∧gk f.aE.aF (uU f.aE (gi c x)) (gi c x)=gi f.aE.aJ (gi g.aC x):=by
 have N:=sZ hc
 have pl:(c.length:Int)=f.aB.aC:=N.pl
 have cp:0≤gi c x∧gi c x < f.aE.aG.length:=N.cp x0 x1
 have pf:gi f.aE.aG (gi c x)=gi f.aC x:=N.pf x x0 x1
 have pt:gi f.aE.To (gi c x)=gi g.aC x:=N.pt x x0 x1
 have his:ik f.aE (gi c x)=true:=List.all_eq_true.1 hi _ (er x0 (by omega))
 obtain ⟨y,h1,h2⟩:=C6 N.f.d cp.1 cp.2
 dsimp only at h1 h2
 have e:uU f.aE (gi c x)=y:=by unfold uU; rw [h1]; rfl
 rw [e]
 rcases h2 with ⟨_,h3,h4,h5⟩ | ⟨h2,_⟩
 ·unfold qy at h4
  unfold Ec at h5
  simp only [Bool.and_eq_true,beq_iff_eq] at h4 h5
  rw [pf,pt] at h4 h5
  exact ⟨h1,by unfold ny; rw [sm x0 (by omega),e],h3,h4.1,h4.2,h5.1,h5.2⟩
 ·rw [his] at h2; cases h2
theorem Qa:kn ⟨g,f,ny f c⟩ = true:=by
 have N:=sZ hc
 have pl:(c.length:Int)=f.aB.aC:=N.pl
 have es:g.aB=f.aB:=N.es
 have et:g.aE=f.aE:=N.et
 have hl:(ny f c).length=c.length:=dA _ _
 have D:rN f.aE:=N.f.d
 refine NJ N.gb N.fb es.symm et.symm (by show ((ny f c).length:Int)=g.aB.aC; rw [es,hl]; exact pl) (fun y hy=>?_) (fun x x0 x1=>?_) (fun x x0 x1=>?_) fun a a0 a1=>?_
 ·replace hy:y∈ny f c:=hy
  show 0≤y∧y < g.aE.aG.length
  rw [et]
  obtain ⟨i,sy,rfl⟩:=List.mem_iff_getElem.1 hy
  have:=C7 hc hi (x:=(i:Int)) (by omega) (by omega)
  have e:gi (ny f c) (i:Int)=(ny f c)[i]:=by unfold gi; rw [List.getD_eq_getElem?_getD,Int.toNat_natCast,List.getElem?_eq_getElem sy]; rfl
  rw [← e,this.2.1]; exact this.2.2.1
 ·replace x1:x < g.aB.aC:=x1
  rw [es] at x1
  show gi g.aE.aG (gi (ny f c) x)=gi g.aC x
  have:=C7 hc hi x0 x1
  rw [et,this.2.1]; exact this.2.2.2.1
 ·replace x1:x < g.aB.aC:=x1
  rw [es] at x1
  show gi g.aE.To (gi (ny f c) x)=gi f.aC x
  have:=C7 hc hi x0 x1
  rw [et,this.2.1]; exact this.2.2.2.2.1
 ·replace a1:a < g.aB.aG.length:=a1
  rw [es] at a1
  show gk g.aE.aF (gi g.af a) (gi (ny f c) (gi g.aB.To a))=gk g.aE.aF (gi (ny f c) (gi g.aB.aG a)) (gi f.af a)
  rw [es,et]
  have kf:=N.f.c.fr a0 a1
  have kt:=N.f.c.to a0 a1
  dsimp only at kf kt
  obtain ⟨_,ix1,CB,ix3,WA,ix5,ix6⟩:=C7 hc hi kf.1 kf.2
  obtain ⟨_,iy1,AJ,JJ,iy4,iy5,iy6⟩:=C7 hc hi kt.1 kt.2
  rw [ix1,iy1]
  have cx:0≤gi c (gi f.aB.aG a)∧gi c (gi f.aB.aG a) < f.aE.aG.length:=N.cp kf.1 kf.2
  have cy:0≤gi c (gi f.aB.To a)∧gi c (gi f.aB.To a) < f.aE.aG.length:=N.cp kt.1 kt.2
  have cxf:gi f.aE.aG (gi c (gi f.aB.aG a))=gi f.aC (gi f.aB.aG a):=N.pf _ kf.1 kf.2
  have Y6:gi f.aE.To (gi c (gi f.aB.aG a))=gi g.aC (gi f.aB.aG a):=N.pt _ kf.1 kf.2
  have Y7:gi f.aE.aG (gi c (gi f.aB.To a))=gi f.aC (gi f.aB.To a):=N.pf _ kt.1 kt.2
  have RF:gi f.aE.To (gi c (gi f.aB.To a))=gi g.aC (gi f.aB.To a):=N.pt _ kt.1 kt.2
  have A:0≤gi f.af a∧gi f.af a < f.aE.aG.length:=N.f.ar a0 a1
  have Af:gi f.aE.aG (gi f.af a)=gi f.aC (gi f.aB.aG a):=N.f.fr a a0 a1
  have At:gi f.aE.To (gi f.af a)=gi f.aC (gi f.aB.To a):=N.f.to a a0 a1
  have B:0≤gi g.af a∧gi g.af a < f.aE.aG.length:=N.Y8 a0 a1
  have Bf:gi f.aE.aG (gi g.af a)=gi g.aC (gi f.aB.aG a):=by
   have:=N.g.fr a a0 (by show a < g.aB.aG.length; rw [es]; exact a1)
   dsimp only at this
   rwa [et,es] at this
  have Bt:gi f.aE.To (gi g.af a)=gi g.aC (gi f.aB.To a):=by
   have:=N.g.to a a0 (by show a < g.aB.aG.length; rw [es]; exact a1)
   dsimp only at this
   rwa [et,es] at this
  have sq:gk f.aE.aF (gi f.af a) (gi c (gi f.aB.To a))=gk f.aE.aF (gi c (gi f.aB.aG a)) (gi g.af a):=N.sq a a0 a1
  generalize uU f.aE (gi c (gi f.aB.aG a))=ix at *
  generalize uU f.aE (gi c (gi f.aB.To a))=iy at *
  generalize gi c (gi f.aB.aG a)=x at *
  generalize gi c (gi f.aB.To a)=y at *
  generalize gi f.af a=p at *
  generalize gi g.af a=q at *
  have k1:=D.cell ix p CB.1 CB.2 A.1 A.2 (by rw [WA,Af])
  have k2:=D.cell q iy B.1 B.2 AJ.1 AJ.2 (by rw [Bt,JJ])
  have e1:=D.K6 _ k1.1 k1.2.1
  rw [k1.2.2.2,At,← iy5] at e1
  have e2:=D.K5 _ k2.1 k2.2.1
  rw [k2.2.2.1,Bf,← ix6] at e2
  have G8:=D.assoc ix p (gk f.aE.aF y iy) CB.1 CB.2 A.1 A.2 (D.cell y iy cy.1 cy.2 AJ.1 AJ.2 (by rw [RF,JJ])).1 (D.cell y iy cy.1 cy.2 AJ.1 AJ.2 (by rw [RF,JJ])).2.1 (by rw [WA,Af]) (by rw [(D.cell y iy cy.1 cy.2 AJ.1 AJ.2 (by rw [RF,JJ])).2.2.1,At,Y7])
  have a2':=D.assoc p y iy A.1 A.2 cy.1 cy.2 AJ.1 AJ.2 (by rw [At,Y7]) (by rw [RF,JJ])
  have a3':=D.assoc x q iy cx.1 cx.2 B.1 B.2 AJ.1 AJ.2 (by rw [Y6,Bf]) (by rw [Bt,JJ])
  have a4':=D.assoc ix x (gk f.aE.aF q iy) CB.1 CB.2 cx.1 cx.2 k2.1 k2.2.1 (by rw [WA,cxf]) (by rw [Y6,k2.2.2.1,Bf])
  rw [← e1,← e2,G8,← a2',sq,a3',a4']
theorem H6 (fs:dv f) (gs:dv g):gH ⟨f,g,c⟩ = some (⟨g,f,ny f c⟩,0):=by
 have N:=sZ hc
 have pl:(c.length:Int)=f.aB.aC:=N.pl
 have co:=N.f.c.o8
 dsimp only at co
 have py:(ny f c).length=c.length:=dA _ _
 unfold gH
 rw [Ch ⟨fs,gs,by show c.length≤_; omega⟩,aH,hc,Bool.not_true,cond_false,H5 hc,aH,hi,Bool.not_true,cond_false]
 dsimp only
 rw [Cc (by omega) (by omega),aH]
 refine (congrArg ao (td (ns c.length) (fun i=>((i:Int),(ny f c).take i++List.replicate (c.length - i) (0:Int))) (by simp) ?_ (e:=((c.length:Int),ny f c)) ?_)).trans ?_
 ·intro i x hx
  obtain ⟨rfl,sy⟩:=fh hx
  obtain ⟨h1,_⟩:=C7 hc hi (x:=(i:Int)) (by omega) (by omega)
  have hg:(ny f c)[i]? = some (uU f.aE (gi c i)):=nv _ sy
  have Y9:=CZ (ny f c) (0:Int) hg
  have Fy:=get_copy (ny f c) (0:Int) hg
  rw [py] at Y9 Fy
  show eM ⟨f,g,c⟩ (i:Int) _=_
  unfold eM
  dsimp only
  rw [aX (by omega),cond_true,cT (by omega) (by omega),aH,h1,aH,ca,Fy,aH,cA (by omega),Int.toNat_natCast,Y9]
 ·rw [dQ]
  show eM ⟨f,g,c⟩ _ _=_
  unfold eM
  dsimp only
  rw [bn (by omega),cond_false,Nat.sub_self,List.take_of_length_le (by omega)]
  simp
 ·dsimp only
  rw [BO gs fs (by omega),aH]; rfl
end
theorem NK {f g:aL} {y:List (List Int)×Int} (fs:dv f) (gs:dv g) (hy:∀ c∈y.1,kn ⟨f,g,c⟩ = true) (hl:y.1.length≤1000):∃ fi j:Int,ai (fun s:Int×Int=>eK (f,g) y s.1 s.2) ((-1:Int),(0:Int))=some (.exit 0 (fi,j))∧
  (fi = -1∧y.1.find? (vq f)=none∨∃ c,y.1.find? (vq f)=some c∧0≤fi∧idx y.1 fi=some c):=by
 have stop:∀ fi j:Int,0≤fi→eK (f,g) y fi j=some (.exit 0 (fi,j)):=by
  intro fi j h
  unfold eK
  by_cases e:j < (y.1.length:Int)
  ·rw [aX e,cond_true,aH,bn (by omega),cond_false]
  ·rw [bn e,cond_false,aH,cond_false]
 have key:∀ (m:List (List Int)) (i:Nat),y.1.drop i=m→i≤y.1.length→∃ fi j:Int,ai (fun s:Int×Int=>eK (f,g) y s.1 s.2) ((-1:Int),(i:Int))=some (.exit 0 (fi,j))∧(fi = -1∧m.find? (vq f)=none∨∃ c,m.find? (vq f)=some c∧0≤fi∧idx y.1 fi=some c):=by
  intro m
  induction m with
  | nil=>
   intro i hd hi
   obtain rfl:i=y.1.length:=by have:=congrArg List.length hd; simp at this; omega
   refine ⟨-1,(y.1.length:Int),j8 (k:=0) ?_,.inl ⟨rfl,rfl⟩⟩
   unfold eK
   rw [bn (by omega),cond_false,aH,cond_false]
  | cons c m ih=>
   intro i hd hi
   have bc:i < y.1.length:=by
    rcases Nat.lt_or_ge i y.1.length with h | h
    ·exact h
    ·rw [List.drop_eq_nil_of_le h] at hd; cases hd
   have hx:y.1[i]? = some c:=by
    rw [List.drop_eq_getElem_cons bc] at hd
    rw [List.getElem?_eq_getElem bc]; exact congrArg some (List.cons.inj hd).1
   have gp:y.1.drop (i+1)=m:=by rw [List.drop_eq_getElem_cons bc] at hd; exact (List.cons.inj hd).2
   have hb:eK (f,g) y (-1) (i:Int)=bif vq f c then some (.norm ((i:Int),((i+1:Nat):Int))) else some (.norm (-1,((i+1:Nat):Int))):=by
    unfold eK
    rw [aX (by omega),cond_true,aH,aX (by omega),cond_true,ca,hx,aH,Lc (hy c (List.mem_of_getElem? hx)) fs gs,aH,tn rfl,cond_false,cA (by omega)]
   rw [mh]
   dsimp only
   rw [hb,List.find?_cons]
   cases vq f c with
   | true=>
    refine ⟨(i:Int),((i+1:Nat):Int),j8 (k:=0) (stop _ _ (by omega)),.inr ⟨c,rfl,by omega,by rw [ca]; exact hx⟩⟩
   | false=>exact ih (i+1) gp (by omega)
 exact key y.1 0 rfl (by omega)
theorem PX {x0:List Int} (hl:x0.length≤maxLen∧∀ y∈x0,0≤y∧y < 256):kM x0=some true:=by
 unfold kM
 have Ev:qW x0=some (decide ((x0.length:Int) > 4096)):=rfl
 rw [Ev,aH]
 by_cases hb:(x0.length:Int) > 4096
 ·rw [aX hb,cond_true]; rfl
 rw [bn hb,cond_false]
 obtain ⟨⟨f,g⟩,e,fs,gs⟩ : Ok (fD x0) fun y=>dv y.1∧dv y.2:=by
  have Bx:BJ x0:=⟨by omega,hl.2⟩
  unfold fD
  refine lr (ob (Wl Bx) fun y hy=>?_)
  obtain ⟨s,rfl,S⟩:=hy
  show Ok (mK (aN.mk x0 s.At s.ay)>>=_) _
  exact ob (SK Bx S.on') fun y hy=>os hy.1
 dsimp only at fs gs
 rw [e,aH]
 dsimp only
 by_cases h0:r8 f g=0
 ·have T:=Wz h0
  have co:=T.F.c.o8
  obtain ⟨y,hy,yK,hyn,Vb⟩:=Qb T fs gs
  rw [NC T fs gs h0,aH,NG T fs gs h0,aH,tn rfl,cond_false]
  have Ea:(rI f g).1.length≤1048576:=by
   unfold rI
   cases hE:(ef (ik f.aE) f g f.aB.aC.toNat []).head? with
   | none=>simp
   | some c=>
    have:=(sY T (List.mem_of_head? hE)).2
    show c.length≤_
    omega
  rw [wO _ _ (by omega),aH,beq_self_eq_true,aH,Bool.not_true,cond_false]
  have h4:(bif (rI f g).2 != (0:Int) then some ((rI f g).2 != (4:Int)) else some false)=some false:=by
   unfold rI
   cases (ef (ik f.aE) f g f.aB.aC.toNat []).head? <;> rfl
  rw [h4,aH,cond_false,hy,aH]
  have h3:(bif y.2 != (0:Int) then some (y.2 != (3:Int)) else some false)=some false:=by
   rcases yK with ⟨h,_⟩ | ⟨h,_⟩ <;> rw [h] <;> rfl
  rw [h3,aH,cond_false]
  obtain ⟨fi,j,Gr,Za⟩:=NK (y:=y) fs gs (fun c hc=>(hyn c hc).1) Vb
  rw [tc Gr]
  dsimp only
  have XZ:(rI f g).2=0→(kn ⟨f,g,(rI f g).1⟩ = true∧vq f (rI f g).1=true):=by
   unfold rI
   cases hE:(ef (ik f.aE) f g f.aB.aC.toNat []).head? with
   | none=>intro h; cases h
   | some c=>
    intro _
    have hm:=List.mem_of_head? hE
    have hn:=sY T hm
    refine ⟨hn.1,List.all_eq_true.2 fun v hv=>?_⟩
    obtain ⟨i,hi,rfl⟩:=List.mem_iff_getElem.1 hv
    replace hi:i < c.length:=hi
    have:=(yh _ _ _ hm).2.2 (i:Int) (by simp) (by omega)
    unfold gi at this
    rw [List.getD_eq_getElem?_getD,Int.toNat_natCast,List.getElem?_eq_getElem hi] at this
    exact this
  have acF:(bif y.2 == (0:Int) then (bif !(decide (fi ≥ (0:Int)) == ((rI f g).2 == (0:Int))) then some true else bif decide (fi ≥ (0:Int)) then (idx y.1 fi>>=fun e=>(eV e (rI f g).1>>=fun z=>some (!z))) else some false) else some false)=some false:=by
   rcases yK with ⟨h,hE⟩ | ⟨h,_⟩
   ·rw [hE,← P8] at Za
    rw [vl h,cond_true,hE]
    rcases Za with ⟨rfl,h2⟩ | ⟨c,h2,h5,h6⟩
    ·have:rI f g=([],4):=by unfold rI; rw [h2]
     rw [this]; rfl
    ·have:rI f g=(c,0):=by unfold rI; rw [h2]
     have A9:=(sY T (List.mem_of_head? h2)).2
     rw [this,aX h5]
     dsimp only
     rw [vl rfl,vl rfl,Bool.not_true,cond_false,cond_true,h6,aH,wO _ _ (by omega),aH,beq_self_eq_true]; rfl
   ·rw [h]; rfl
  rw [acF,aH,cond_false]
  by_cases hz:(rI f g).2=0
  ·obtain ⟨hn,BP⟩:=XZ hz
   generalize (rI f g).1=c at hn BP Ea
   have ts:tD ⟨f,g,c⟩:=⟨fs,gs,Ea⟩
   have bs:tD ⟨g,f,ny f c⟩:=⟨gs,fs,by show (ny f c).length≤_; unfold ny; rw [dA]; exact Ea⟩
   have hbn:=Qa hn BP
   rw [tn hz,cond_false,H6 hn BP fs gs,aH]
   dsimp only
   rw [NL ts bs hn hbn rfl,aH,SM fs T.fb,aH]
   dsimp only
   have F7:WB ⟨f,g,c⟩ ⟨g,f,ny f c⟩ = WC f:=by
    have N:=sZ hn
    have pl:(c.length:Int)=f.aB.aC:=N.pl
    have ol:(f.aC.length:Int)=f.aB.aC:=N.f.ol
    suffices h:vu f.aE c (ny f c)=thenS f.aC f.aE.aJ by
     show aV.mk f f (vu f.aE c (ny f c))=aV.mk f f _
     rw [h]
    refine HZ (by rw [C8,yi]; omega) fun x WD x1=>?_
    rw [yi] at x1
    have:=C7 hn BP WD (by omega)
    rw [SN WD (by omega),P7 WD x1,this.2.1]
    exact this.2.2.2.2.2.1
   rw [F7,show aj (aj (0+0)+0)=0 from by decide,show ((0:Int) == 0)=true from rfl,cond_true,SP (NM fs),aH]
   rfl
  ·rw [rS hz]; rfl
 ·rw [NH fs gs h0,aH,NI fs gs h0,aH,tn rfl,cond_false,wO _ _ (by simp),aH,beq_self_eq_true,aH,Bool.not_true,cond_false]
  have:r8 f g≠4:=by
   unfold r8
   cases ig f && ig g <;> cases j9 f.aB g.aB && j9 f.aE g.aE <;> decide
  dsimp only
  rw [rS h0,cond_true,aH,rS this]; rfl
end Go.Proofs.YtkcpiblgpnjanaaGreat
