/- The category of elements of a set functor, as both sides make it. No condition beside those that each theorem names. -/
import Derived.Test.YtcnehblmgfbfoaaGreatKq
set_option linter.unusedVariables false
set_option linter.unusedSectionVars false
set_option linter.unusedSimpArgs false
namespace Go.Proofs.YtcnehblmgfbfoaaGreat
open Go Go.Li
def wA (f:aK) (x:Int):List (List Int):=cj (gi f.aP x).toNat fun e=>[x,e]
def pE (f:aK):List (List Int):=(ns f.aP.length).flatMap (wA f)
def xE (f:aK) (i:Int):Int:=gi (gr (pE f) i) 0
def eE (f:aK) (i:Int):Int:=gi (gr (pE f) i) 1
def tE (f:aK) (i j:Int):List Int:=(zW f.aC (xE f i) (xE f j)).filter fun a=>gi (gr f.aO a) (eE f i) == eE f j
def sQ (f:aK) (i j:Int):List (List Int):=(tE f i j).map fun a=>[i,j,a]
def BL (f:aK) (i:Int):List (List Int):=(ns (pE f).length).flatMap (sQ f i)
def aE (f:aK):List (List Int):=(ns (pE f).length).flatMap (BL f)
def ry (f:aK) (i j a:Int):Prop:=((0≤i∧i < (pE f).length)∧(0≤j∧j < (pE f).length))∧tW f.aC (xE f i) (xE f j) a∧gi (gr f.aO a) (eE f i)=eE f j
def Tj (f:aK):List Int:=cj (pE f).length fun i=>bd (aE f) [i,i,gi f.aC.aI (xE f i)]
def sw (f:aK):aH:=aH.mk ((pE f).length:Int) (ij (aE f) 0) (ij (aE f) 1) (Tj f) []
def gE (f:aK) (v w:Int):Int:=bd (aE f) [gi (gr (aE f) v) 0,gi (gr (aE f) w) 1,gk f.aC.aB (gi (gr (aE f) v) 2) (gi (gr (aE f) w) 2)]
def ew (f:aK):aH:=aH.mk ((pE f).length:Int) (ij (aE f) 0) (ij (aE f) 1) (Tj f) (qh (sw f) (gE f))
def j8 (f:aK):Bool:=decide (((pE f).length:Int)≤8) && decide (((aE f).length:Int)≤40)
theorem aaf {c:aH} (H:lg c) (x y:Int):qH c x y=some (zW c x y):=by
 have hm:=H.m
 unfold qH
 refine (congrArg ao (Ch (ns c.aG.length) (G0 c x y) (fun acc i=>(acc,(i:Int))) rfl ?_ ?_)).trans rfl
 ·intro i a acc ha Ci
  obtain ⟨rfl,hi⟩:=c8 ha
  show kA c x y acc i=_
  unfold kA
  have e1:=H.lh (f:=(i:Int)) (by omega) (by omega)
  have e3:=H.l8 (f:=(i:Int)) (by omega) (by omega)
  rw [aw (by omega),cond_true,dR (by omega) (by omega)]
  simp only [e1,e3,aA,bB (show i < 9223372036854775807 by omega)]
  unfold G0
  cases gi c.aG (i:Int) == x with
  | false=>rfl
  | true=>cases gi c.To (i:Int) == y <;> rfl
 ·intro acc
  show kA c x y acc _=_
  unfold kA
  rw [cH,aX (by omega),cond_false]
theorem Gp {c:aH} (H:lg c) (x y:Int):(zW c x y).length≤40:=by
 have hm:=H.m
 unfold zW
 exact Nat.le_trans (List.length_filter_le _ _) (by rw [cH]; exact hm)
section
variable {f:aK} (F:SF f)
include F
theorem xZ {r:List Int}:r∈pE f↔∃ x e:Int,(0≤x∧x < f.aC.aD)∧(0≤e∧e < gi f.aP x)∧r=[x,e]:=by
 have hs:=F.sl
 unfold pE wA
 simp only [List.mem_flatMap,dv,uk]
 constructor
 ·rintro ⟨x,hx,e,he,rfl⟩
  have:=F.s x hx.1 (by omega)
  exact ⟨x,e,⟨hx.1,by omega⟩,⟨he.1,by omega⟩,rfl⟩
 ·rintro ⟨x,e,hx,he,rfl⟩
  exact ⟨x,⟨hx.1,by omega⟩,e,⟨he.1,by omega⟩,rfl⟩
theorem Un {x:Int} (x0:0≤x) (x1:x < f.aP.length):(wA f x).length≤16:=by
 have hs:=F.sl
 have:=F.s x x0 (by omega)
 unfold wA
 rw [bI]; omega
theorem E5 {n:Nat} (hn:n≤f.aP.length):((ns n).flatMap (wA f)).length≤n * 16:=by
 have:=D4 (F:=wA f) (l:=ns n) (b:=16) fun x hx=>by have:=dv.1 hx; exact Un F this.1 (by omega)
 rwa [cH] at this
theorem zX:(pE f).length≤128:=by
 have hs:=F.sl
 have h8:=F.cat.o8
 have:=E5 F (n:=f.aP.length) (Nat.le_refl _)
 unfold pE
 omega
theorem Tk:(pE f).Nodup:=by
 unfold pE
 refine AM (yZ _) (fun x _=>?_) fun x _ y _ z hz wz=>?_
 ·unfold wA cj
  refine List.Pairwise.map _ (fun a b h=>?_) (yZ _)
  intro e
  injection e with _ e
  injection e with e _
  exact h e
 ·unfold wA at hz wz
  obtain ⟨_,_,rfl⟩:=uk.1 hz
  obtain ⟨_,_,e⟩:=uk.1 wz
  injection e with e _
  exact e.symm
theorem qt {i:Int} (i0:0≤i) (i1:i < (pE f).length):(0≤xE f i∧xE f i < f.aC.aD)∧(0≤eE f i∧eE f i < gi f.aP (xE f i))∧gr (pE f) i=[xE f i,eE f i]:=by
 obtain ⟨x,e,hx,he,h⟩:=(xZ F).1 (j6 i0 i1)
 unfold eE xE
 rw [h]
 exact ⟨hx,he,rfl⟩
theorem wB {i:Int} (i0:0≤i) (i1:i < (pE f).length):idx (pE f) i=some [xE f i,eE f i]:=by
 rw [cb i0 i1,(qt F i0 i1).2.2]
theorem WE:QS (pE f):=by
 have hl:=zX F
 have h8:=F.cat.o8
 refine ⟨by omega,Tk F,fun r hr=>?_,fun r hr=>?_⟩
 ·obtain ⟨x,e,_,_,rfl⟩:=(xZ F).1 hr
  exact Nat.le_of_ble_eq_true rfl
 ·obtain ⟨x,e,hx,he,rfl⟩:=(xZ F).1 hr
  have:=F.s x hx.1 hx.2
  intro v hv
  rcases List.mem_cons.1 hv with rfl | hv
  ·omega
  ·obtain rfl:=List.mem_singleton.1 hv
   omega
theorem E6 {x e:Int} (hx:0≤x∧x < f.aC.aD) (he:0≤e∧e < gi f.aP x):(0≤bd (pE f) [x,e]∧bd (pE f) [x,e] < (pE f).length)∧xE f (bd (pE f) [x,e])=x∧eE f (bd (pE f) [x,e])=e:=by
 have h:=E7 ((xZ F).2 ⟨x,e,hx,he,rfl⟩)
 unfold xE eE
 rw [h.2]
 exact ⟨h.1,rfl,rfl⟩
theorem Ou {i j a:Int}:a∈tE f i j↔tW f.aC (xE f i) (xE f j) a∧gi (gr f.aO a) (eE f i)=eE f j:=by
 have _:=F
 unfold tE
 rw [List.mem_filter,Gq,beq_iff_eq]
theorem r9 {r:List Int}:r∈aE f↔∃ i j a:Int,ry f i j a∧r=[i,j,a]:=by
 unfold aE BL sQ
 simp only [List.mem_flatMap,List.mem_map]
 constructor
 ·rintro ⟨i,hi,j,hj,a,ha,rfl⟩
  exact ⟨i,j,a,⟨⟨dv.1 hi,dv.1 hj⟩,(Ou F).1 ha⟩,rfl⟩
 ·rintro ⟨i,j,a,⟨⟨hi,hj⟩,ha⟩,rfl⟩
  exact ⟨i,dv.2 hi,j,dv.2 hj,a,(Ou F).2 ha,rfl⟩
theorem WG (i j:Int):(tE f i j).length≤40:=by
 unfold tE
 exact Nat.le_trans (List.length_filter_le _ _) (Gp F.cat _ _)
theorem QT (i j:Int):(sQ f i j).length≤40:=by
 unfold sQ
 rw [List.length_map]
 exact WG F i j
theorem IT (n:Nat) (i:Int):((ns n).flatMap (sQ f i)).length≤n * 40:=by
 have:=D4 (F:=sQ f i) (l:=ns n) (b:=40) fun j _=>QT F i j
 rwa [cH] at this
theorem IU (n:Nat):((ns n).flatMap (BL f)).length≤n * 5120:=by
 have hn:=zX F
 have:=D4 (F:=BL f) (l:=ns n) (b:=5120) fun i _=>Nat.le_trans (IT F _ i) (by omega)
 rwa [cH] at this
theorem D5 (h8:(pE f).length≤8):QS (aE f):=by
 have cm:=F.cat.m
 have kl:=IU F (pE f).length
 refine ⟨by unfold aE; omega,?_,fun r hr=>?_,fun r hr=>?_⟩
 ·unfold aE
  refine AM (yZ _) (fun x _=>?_) fun x _ x' _ z hz wz=>?_
  ·unfold BL
   refine AM (yZ _) (fun y _=>?_) fun y _ y' _ z hz wz=>?_
   ·unfold sQ tE
    refine List.Pairwise.map _ (fun a b h=>?_) (List.Pairwise.filter _ (sx (n:=f.aC.aG.length) (p:=G0 f.aC (xE f x) (xE f y))))
    intro e
    injection e with _ e
    injection e with _ e
    injection e with e _
    exact h e
   ·unfold sQ at hz wz
    obtain ⟨a,_,rfl⟩:=List.mem_map.1 hz
    obtain ⟨a',_,e⟩:=List.mem_map.1 wz
    injection e with _ e
    injection e with e _
    exact e.symm
  ·unfold BL sQ at hz wz
   simp only [List.mem_flatMap,List.mem_map] at hz wz
   obtain ⟨y,_,a,_,rfl⟩:=hz
   obtain ⟨y',_,a',_,e⟩:=wz
   injection e with e _
   exact e.symm
 ·obtain ⟨x,y,a,_,rfl⟩:=(r9 F).1 hr
  exact Nat.le_of_ble_eq_true rfl
 ·obtain ⟨x,y,a,⟨⟨hx,hy⟩,ha⟩,rfl⟩:=(r9 F).1 hr
  intro v hv
  have:=ha.1.1
  rcases List.mem_cons.1 hv with rfl | hv
  ·omega
  ·rcases List.mem_cons.1 hv with rfl | hv
   ·omega
   ·obtain rfl:=List.mem_singleton.1 hv
    omega
theorem xi {v:Int} (v0:0≤v) (v1:v < (aE f).length):∃ i j a:Int,ry f i j a∧gr (aE f) v=[i,j,a]:=by
 obtain ⟨i,j,a,h,e⟩:=(r9 F).1 (j6 v0 v1)
 exact ⟨i,j,a,h,e⟩
theorem tX {i j a:Int} (h:ry f i j a):(0≤bd (aE f) [i,j,a]∧bd (aE f) [i,j,a] < (aE f).length)∧gr (aE f) (bd (aE f) [i,j,a])=[i,j,a]:=
 E7 ((r9 F).2 ⟨i,j,a,h,rfl⟩)
theorem C0 {i:Int} (i0:0≤i) (i1:i < (pE f).length):ry f i i (gi f.aC.aI (xE f i)):=by
 have h:=qt F i0 i1
 exact ⟨⟨⟨i0,i1⟩,i0,i1⟩,WH F.cat h.1.1 h.1.2,F.one _ _ h.1.1 h.1.2 h.2.1.1 h.2.1.2⟩
theorem C1 {i j k a b:Int} (hf:ry f i j a) (hg:ry f j k b):ry f i k (gk f.aC.aB a b):=by
 have h:=qt F hf.1.1.1 hf.1.1.2
 refine ⟨⟨hf.1.1,hg.1.2⟩,QU F.cat hf.2.1 hg.2.1,?_⟩
 rw [F.comp a b _ hf.2.1.1.1 hf.2.1.1.2 hg.2.1.1.1 hg.2.1.1.2 (by rw [hf.2.1.2.2,hg.2.1.2.1]) h.2.1.1 (by rw [hf.2.1.2.1]; exact h.2.1.2),hf.2.2,hg.2.2]
theorem IV {v w:Int} (v0:0≤v) (v1:v < (aE f).length) (w0:0≤w) (w1:w < (aE f).length) (e:gi (gr (aE f) v) 1=gi (gr (aE f) w) 0) :
  ∃ i j k a b:Int,ry f i j a∧ry f j k b∧gr (aE f) v=[i,j,a]∧gr (aE f) w=[j,k,b]:=by
 obtain ⟨i,j,a,hf,e1⟩:=xi F v0 v1
 obtain ⟨j',k,b,hg,e2⟩:=xi F w0 w1
 rw [e1,e2] at e
 obtain rfl:j=j':=e
 exact ⟨i,j,k,a,b,hf,hg,e1,e2⟩
theorem WI {i j:Int} (i0:0≤i) (i1:i < (aE f).length) (j0:0≤j) (j1:j < (aE f).length):sR (sw f) (gE f) i j=bif gi (gr (aE f) i) 1 == gi (gr (aE f) j) 0 then gE f i j else -1:=by
 have _:=F
 unfold sR
 rw [show gi (sw f).To i=gi (gr (aE f) i) 1 from tY i0 i1,show gi (sw f).aG j=gi (gr (aE f) j) 0 from tY j0 j1]
theorem vi:(ew f).aG.length=(aE f).length:=by have _:=F; exact bI _ _
theorem IW {v:Int} (v0:0≤v) (v1:v < (aE f).length):gi (ew f).aG v=gi (gr (aE f) v) 0:=by have _:=F; exact tY v0 v1
theorem Mp {v:Int} (v0:0≤v) (v1:v < (aE f).length):gi (ew f).To v=gi (gr (aE f) v) 1:=by have _:=F; exact tY v0 v1
theorem Mq {i:Int} (i0:0≤i) (i1:i < (pE f).length):gi (ew f).aI i=bd (aE f) [i,i,gi f.aC.aI (xE f i)]:=by have _:=F; exact uP i0 i1
theorem WJ {v w:Int} (v0:0≤v) (v1:v < (aE f).length) (w0:0≤w) (w1:w < (aE f).length):gk (ew f).aB v w=bif gi (gr (aE f) v) 1 == gi (gr (aE f) w) 0 then gE f v w else -1:=by
 have BM:(sw f).aG.length=(aE f).length:=bI _ _
 show gi (gr (qh (sw f) (gE f)) v) w=_
 unfold qh
 rw [BM,KX v0 v1,uP w0 w1]
 exact WI F v0 v1 w0 w1
theorem xj {i j a:Int} (h:ry f i j a):tW (ew f) i j (bd (aE f) [i,j,a]):=by
 have k:=tX F h
 refine ⟨⟨k.1.1,by rw [vi F]; exact k.1.2⟩,?_,?_⟩
 ·rw [IW F k.1.1 k.1.2,k.2]; rfl
 ·rw [Mp F k.1.1 k.1.2,k.2]; rfl
theorem WK (h8:(pE f).length≤8) {v:Int} (v0:0≤v) (v1:v < (aE f).length):∃ i j a:Int,ry f i j a∧v=bd (aE f) [i,j,a]:=by
 obtain ⟨i,j,a,h,e⟩:=xi F v0 v1
 exact ⟨i,j,a,h,by rw [← e,Ov (D5 F h8).nd v0 v1]⟩
theorem C2 {i j k a b:Int} (hf:ry f i j a) (hg:ry f j k b):gk (ew f).aB (bd (aE f) [i,j,a]) (bd (aE f) [j,k,b])=bd (aE f) [i,k,gk f.aC.aB a b]:=by
 have k1:=tX F hf
 have k2:=tX F hg
 rw [WJ F k1.1.1 k1.1.2 k2.1.1 k2.1.2]
 unfold gE
 rw [k1.2,k2.2]
 rw [show gi [i,j,a] 1=j from rfl,show gi [j,k,b] 0=j from rfl,sk rfl,cond_true]; rfl
theorem pa (hf:j8 f=true):lg (ew f):=by
 have hh:=hf
 unfold j8 at hh
 simp only [Bool.and_eq_true,decide_eq_true_eq] at hh
 have n8:(pE f).length≤8:=by have:=hh.1; omega
 have k40:(aE f).length≤40:=by have:=hh.2; omega
 have BM:(sw f).aG.length=(aE f).length:=bI _ _
 have eK:(ew f).aB=qh (sw f) (gE f):=by unfold ew; rfl
 have lK:(ew f).aB.length=(aE f).length:=by rw [eK]; unfold qh; rw [bI,BM]
 have av:∀ v:Int,0≤v→v < (aE f).length→(gr (ew f).aB v).length=(aE f).length:=fun v v0 v1=>by
  rw [eK]
  unfold qh
  rw [BM,KX v0 v1,bI]
 have C:=F.cat
 refine QV (c:=ew f) (n:=(pE f).length) (k:=(aE f).length) (G:=ry f) (F:=fun i j a=>bd (aE f) [i,j,a]) (I:=fun i=>gi f.aC.aI (xE f i)) (J:=fun a b=>gk f.aC.aB a b) n8 k40 rfl (vi F) (bI _ _) (bI _ _) lK av (fun i i0 i1=>Mq F i0 i1) (fun i i0 i1=>C0 F i0 i1) (fun i j f h=>h.1) (fun i j f h=>xj F h) (fun v v0 v1=>WK F n8 v0 v1) (fun i j l f g h h'=>C1 F h h') (fun i j l f g h h'=>C2 F h h') (fun v w f0 f1 g0 g1 e=>?_) (fun i j f h=>WM C h.2.1) (fun i j f h=>WN C h.2.1) (fun i j l o f g h u v w=>Ow C u.2.1 v.2.1 w.2.1)
 rw [IW F g0 g1,Mp F f0 f1] at e
 rw [WJ F f0 f1 g0 g1,rz e,cond_false]
end
end Go.Proofs.YtcnehblmgfbfoaaGreat
