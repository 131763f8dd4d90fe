/- There is one map from a free algebra to an algebra for each arrow to its object: the law. No condition beside those that the theorem names. -/
import Derived.Test.YtilhlobfebngdaaGreatTn
namespace Go.Proofs.YtilhlobfebngdaaGreat
open Go Go.Li
set_option linter.unusedVariables false
set_option linter.unusedSectionVars false
set_option linter.unusedSimpArgs false
theorem Nl {c:aI} (H:km c) (x y:Int):eY c x y=some ((ns c.aG.length).filter (Hl c x y)):=by
 have hm:=H.m
 unfold eY
 refine (congrArg aq (zX (ns c.aG.length) (Hl c x y) (fun acc i=>(acc,(i:Int))) rfl ?_ ?_)).trans rfl
 ·intro i a acc ha Nn
  obtain ⟨rfl,hi⟩:=gh ha
  show iY c x y acc i=_
  unfold iY
  have e1:=H.iq (f:=(i:Int)) (by omega) (by omega)
  have e3:=H.jf (f:=(i:Int)) (by omega) (by omega)
  rw [bb (by omega),cond_true,eB (by omega) (by omega)]
  simp only [e1,e3,aF,cA (show i < 9223372036854775807 by omega)]
  unfold Hl
  cases gi c.aG (i:Int) == x with
  | false=>rfl
  | true=>cases gi c.To (i:Int) == y <;> rfl
 ·intro acc
  show iY c x y acc _=_
  unfold iY
  rw [cT,br (by omega),cond_false]
theorem Gw {c:aI} (C:km c) {x f:Int} (h:fg c x x f):gF c f=some (gi c.aJ x == f):=by
 have k:=J7 C h
 unfold gF
 rw [C.iq h.1.1 h.1.2,aF,h.2.1,C.nh k.1 k.2,aF]; rfl
theorem sc {c:aI} (C:km c) {x y z u v:Int} (h:fg c x y u) (h':fg c y z v):dN c u v=some (gk c.aE u v):=C.thenS h.1.1 h.1.2 h'.1.1 h'.1.2
theorem sd {c:aI} (C:km c) {x y z u v:Int} (h:fg c x y u) (h':fg c y z v):cG c u v=some (gk c.aE u v):=C.qn h.1.1 h.1.2 h'.1.1 h'.1.2
section
variable {m:bV} (M:Mon0 m)
include M
theorem Ey {x:Int} (x0:0≤x) (x1:x < m.On.aB.aA):idx m.Unit x=some (gi m.Unit x):=bS x0 (by have:=M.muL; omega)
theorem Da {x:Int} (x0:0≤x) (x1:x < m.On.aB.aA):idx m.bz x=some (gi m.bz x):=bS x0 (by have:=M.mjL; omega)
theorem BV {x:Int} (x0:0≤x) (x1:x < m.On.aB.aA):idx m.On.aA x=some (oM m x):=(jj M.fb).zo x0 x1
theorem yh {x y u:Int} (h:fg m.On.aB x y u):idx m.On.ab u=some (aM m u):=(jj M.fb).wb h.1.1 h.1.2
theorem RZ:kO m.On m.Unit m.bz=some (Gv m):=by
 have C:=M.mc
 have o0:=C.o0
 have o8:=C.o8
 unfold kO Gv
 rw [wa (n:=m.On.aB.aA.toNat) (BU m) (y:=false) (fun i bp=>?_) (by unfold nD; rw [br (by omega),cond_false])]
 ·cases (ns m.On.aB.aA.toNat).any (BU m) <;> rfl
 ·have x0:(0:Int)≤(i:Int):=by omega
  have x1:(i:Int) < m.On.aB.aA:=by omega
  have hu:=M.D6 x0 x1
  have hj:=M.D8 x0 x1
  have ho:=M.Yg x0 x1
  have tu:=M.xV hu
  have tj:=M.xV hj
  have Ho:=M.D6 ho.1 ho.2
  have lh:=M.D8 ho.1 ho.2
  have c1:fg m.On.aB (oM m i) (oM m i) (gk m.On.aB.aE (aM m (gi m.Unit i)) (gi m.bz i)):=M.Ph tu hj
  have c2:fg m.On.aB (oM m i) (oM m i) (gk m.On.aB.aE (gi m.Unit (oM m i)) (gi m.bz i)):=M.Ph Ho hj
  unfold nD BU kM
  rw [bb x1,cond_true,BV M x0 x1,aF,Ey M x0 x1,aF,yh M hu,aF,Da M x0 x1,aF,sc C tu hj,aF,Gw C c1,aF,Ey M ho.1 ho.2,aF,aF,sc C Ho hj,aF,Gw C c2,aF,aF,yh M hj,aF,aF,sc C tj hj,aF,Da M ho.1 ho.2,aF,aF,sc C lh hj,aF,Gt,Gt,cA (by omega)]
  cases gk m.On.aB.aE (aM m (gi m.Unit i)) (gi m.bz i) != gi m.On.aB.aJ (oM m i) <;> cases gk m.On.aB.aE (gi m.Unit (oM m i)) (gi m.bz i) != gi m.On.aB.aJ (oM m i) <;> rfl
theorem R0:kZ m=some (Gv m):=by
 have C:=M.mc
 have o0:=C.o0
 have o8:=C.o8
 have ob:∀ {x:Int},0≤x→x < m.On.aB.aA→fT m x=some (oM m x):=fun x0 x1=>by unfold fT; rw [BV M x0 x1]; rfl
 have ar:∀ {x y u:Int},fg m.On.aB x y u→eH m u=some (aM m u):=fun h=>by unfold eH; rw [yh M h]; rfl
 unfold kZ Gv
 rw [wa (n:=m.On.aB.aA.toNat) (BU m) (y:=false) (fun i bp=>?_) (by unfold lP; rw [br (by omega),cond_false])]
 ·cases (ns m.On.aB.aA.toNat).any (BU m) <;> rfl
 ·have x0:(0:Int)≤(i:Int):=by omega
  have x1:(i:Int) < m.On.aB.aA:=by omega
  have hu:=M.D6 x0 x1
  have hj:=M.D8 x0 x1
  have ho:=M.Yg x0 x1
  have tu:=M.xV hu
  have tj:=M.xV hj
  have Ho:=M.D6 ho.1 ho.2
  have lh:=M.D8 ho.1 ho.2
  unfold lP BU kM
  rw [bb x1,cond_true,ob x0 x1,aF,Ey M x0 x1,aF,ar hu,aF,Da M x0 x1,aF,sd C tu hj,aF,C.nh ho.1 ho.2,aF,Ey M ho.1 ho.2,aF,aF,sd C Ho hj,aF,aF,aF,ar hj,aF,aF,sd C tj hj,aF,Da M ho.1 ho.2,aF,aF,sd C lh hj,aF,cA (by omega)]
  cases gk m.On.aB.aE (aM m (gi m.Unit i)) (gi m.bz i) != gi m.On.aB.aJ (oM m i) <;> cases gk m.On.aB.aE (gi m.Unit (oM m i)) (gi m.bz i) != gi m.On.aB.aJ (oM m i) <;> rfl
end
section
variable {m:bV} (hs:AU m)
include hs
theorem Hp (F:FL m.On):C6 (Hm m):=⟨Pb F.c,hs.l,hs.u⟩
theorem Hq (F:FL m.On):C6 (Hn m):=⟨KM hs.l hs.l,hs.l,hs.j⟩
theorem xz:mH m=some (xN m):=by
 unfold mH xN
 rw [Pk hs.l,aF]
 cases h1:ja m.On with
 | false=>rfl
 | true=>
  have F:=jj h1
  simp only [Bool.not_true,cond_false,Bool.true_and]
  rw [KK hs.l.s,aF,aF]
  cases h3:r4 m.On.aB m.On.aH with
  | false=>rfl
  | true=>
   have e:=vc.1 h3
   have g1:=UK F.c
   have t1:=R3 h1 h1 e.symm
   have n1:gN (AR m.On.aB) m.On m.Unit=some (mf (Hm m)):=Hi (t:=Hm m) (Hp hs F) g1 h1 rfl e.symm
   have n2:gN (r5 m.On m.On) m.On m.bz=some (mf (Hn m)):=Hi (t:=Hn m) (Hq hs F) t1 h1 rfl rfl
   have tw:jO m.On=some (r5 m.On m.On):=by
    unfold jO
    rw [Pl F.toFHead F.toFHead e.symm hs.l hs.l,aF]; rfl
   simp only [Bool.not_true,cond_false,Bool.true_and,UM F.c,aF,n1]
   cases h4:mf (Hm m) with
   | false=>rfl
   | true=>
    simp only [Bool.not_true,cond_false,Bool.true_and,tw,aF,n2]
    cases h5:mf (Hn m) with
    | false=>rfl
    | true=>
     simp only [Bool.not_true,cond_false,Bool.true_and,RZ ⟨h1,e,h4,h5⟩,aF]
     rfl
theorem Hr:lK m=some (xN m):=by
 unfold lK xN
 rw [Db hs.l,aF]
 cases h1:ja m.On with
 | false=>rfl
 | true=>
  have F:=jj h1
  simp only [Bool.not_true,cond_false,Bool.true_and]
  rw [Ap hs.l.s,aF,aF]
  cases h3:r4 m.On.aB m.On.aH with
  | false=>rfl
  | true=>
   have e:=vc.1 h3
   have n1:lJ [(bT.mk (AR m.On.aB) m.On m.Unit),(bT.mk (r5 m.On m.On) m.On m.bz)]=some ([Hm m,Hn m].all mf):=No _ (by simp) fun t ht=>by
    rcases List.mem_cons.1 ht with rfl | ht
    ·exact Hp hs F
    ·obtain rfl:=List.mem_singleton.1 ht
     exact Hq hs F
   simp only [Bool.not_true,cond_false,Bool.true_and,UL F.c,Pm F.toFHead F.toFHead e.symm hs.l hs.l,n1,aF,List.all_cons,List.all_nil,Bool.and_true]
   cases h4:mf (Hm m) with
   | false=>rfl
   | true=>
    cases h5:mf (Hn m) with
    | false=>rfl
    | true=>
     simp only [Bool.and_self,cond_true,Bool.true_and,R0 ⟨h1,e,h4,h5⟩,aF]
     rfl
end
def zq (m:bV) (x h:Int):Bool:=((gi m.On.aB.aG h == oM m x) && (gi m.On.aB.To h == x)) && ((kM m (gi m.Unit x) h == gi m.On.aB.aJ x) && (kM m (aM m h) h == kM m (gi m.bz x) h))
theorem yp {m:bV} {x h:Int} (x0:0≤x) (x1:x < m.On.aB.aA) (h0:0≤h) (h1:h < m.On.aB.aG.length):zq m x h=true↔C9 m x h:=by
 unfold zq
 simp only [Bool.and_eq_true,beq_iff_eq]
 exact ⟨fun ⟨⟨a,b⟩,c,d⟩=>⟨x0,x1,⟨⟨h0,h1⟩,a,b⟩,c,d⟩,fun A=>⟨⟨A.l.2.1,A.l.2.2⟩,A.un,A.as9⟩⟩
section
variable {m:bV} (M:Mon0 m)
include M
theorem DD {x h:Int} (x0:0≤x) (x1:x < m.On.aB.aA) (h0:0≤h) (h1:h < m.On.aB.aG.length):jB m x h=some (zq m x h):=by
 have C:=M.mc
 unfold jB zq
 rw [C.iq h0 h1,aF,BV M x0 x1,aF]
 by_cases ef:gi m.On.aB.aG h=oM m x
 ·rw [mq ef,ma ef,cond_false,C.jf h0 h1,aF]
  by_cases et:gi m.On.aB.To h=x
  ·have H:fg m.On.aB (oM m x) x h:=⟨⟨h0,h1⟩,ef,et⟩
   have hu:=M.D6 x0 x1
   have hj:=M.D8 x0 x1
   have th:=M.xV H
   have c1:fg m.On.aB x x (gk m.On.aB.aE (gi m.Unit x) h):=M.Ph hu H
   rw [mq et,ma et,cond_false,Ey M x0 x1,aF,sc C hu H,aF,Gw C c1,aF,aF,Gt]
   unfold kM
   by_cases e1:gk m.On.aB.aE (gi m.Unit x) h=gi m.On.aB.aJ x
   ·rw [mq e1,ma e1,cond_false,yh M H,aF,sc C th H,aF,Da M x0 x1,aF,sc C hj H,aF]; rfl
   ·rw [o6 e1,nq e1]; rfl
  ·rw [o6 et,nq et]; rfl
 ·rw [o6 ef,nq ef]; rfl
theorem DE {x h:Int} (x0:0≤x) (x1:x < m.On.aB.aA) (h0:0≤h) (h1:h < m.On.aB.aG.length):fN m x h=some (zq m x h):=by
 have C:=M.mc
 unfold fN zq fT eH
 rw [C3 C.totQ.toHead h0 h1,aF,BV M x0 x1,aF]
 show aq (S:=Unit) ((bif _ then _ else _)>>=_)=_
 dsimp only
 by_cases ef:gi m.On.aB.aG h=oM m x
 ·by_cases et:gi m.On.aB.To h=x
  ·have H:fg m.On.aB (oM m x) x h:=⟨⟨h0,h1⟩,ef,et⟩
   have hu:=M.D6 x0 x1
   have hj:=M.D8 x0 x1
   have th:=M.xV H
   rw [ma ef,ma et]
   simp only [Bool.and_self,cond_true,Bool.true_and]
   rw [Ey M x0 x1,aF,sd C hu H,aF,C.nh x0 x1,aF]
   unfold kM
   by_cases e1:gk m.On.aB.aE (gi m.Unit x) h=gi m.On.aB.aJ x
   ·rw [ma e1,cond_true,yh M H]
    show aq (S:=Unit) ((cG _ _ _>>=_)>>=_)=_
    rw [sd C th H,aF,Da M x0 x1,aF,sd C hj H,aF]; rfl
   ·rw [nq e1]; rfl
  ·rw [ma ef,nq et]; rfl
 ·rw [nq ef]; rfl
end
def tn (m:bV) (x:Int):Bool:=decide (0≤x) && decide (x < m.On.aB.aA)
def uZ (m:bV) (h:Int):Bool:=decide (0≤h) && decide (h < m.On.aB.aG.length)
theorem vv {m:bV} {x:Int}:tn m x=true↔0≤x∧x < m.On.aB.aA:=by unfold tn; simp
theorem wT {m:bV} {x:Int}:uZ m x=true↔0≤x∧x < m.On.aB.aG.length:=by unfold uZ; simp
def sx (m:bV) (x h y k:Int):List Int:=(ri m.On.aB x y).filter fun g=>kM m h g == kM m (aM m g) k
section
variable {m:bV} (hs:AU m)
include hs
theorem wU (hM:xN m=true) (x h:Int):jI m x h=some (bif tn m x && uZ m h then 0 else 2):=by
 unfold jI
 rw [xz hs,aF,hM]
 simp only [Bool.not_true,cond_false]
 rw [Eu,aF,RW,aF]
 show aq (S:=Unit) ((bif !(tn m x) then _ else some (!(uZ m h)))>>=_)=_
 cases tn m x <;> cases uZ m h <;> rfl
theorem zr (hM:xN m=true) (l a:List Int) (hl:l.length≤1000) (ha:a.length≤1000):iM m l a=some (bif kj m.On.aB.aA l && kj m.On.aB.aG.length a then 0 else 2):=by
 have M:=tk hM
 have o0:=M.mc.o0
 have o8:=M.mc.o8
 have cm:=M.mc.m
 unfold iM
 rw [Hr hs,aF,hM]
 simp only [Bool.not_true,cond_false]
 rw [within _ _ (by omega) o0 (by omega),aF,show dH m.On.aB=some (m.On.aB.aG.length:Int) from rfl,aF,within _ _ (by omega) (by omega) (by omega),aF]
 cases kj m.On.aB.aA l <;> cases kj m.On.aB.aG.length a <;> rfl
theorem ZT (x y k f:Int):∃ r,gH m x y k f=some r∧gI m x y k f=some r∧(r.2=0→xN m=true∧(0≤x∧x < m.On.aB.aA)∧C9 m y k∧fg m.On.aB x y f∧r.1=kM m (aM m f) k):=by
 cases hM:xN m with
 | false=>
  refine ⟨(0,1),?_,?_,fun h=>(by cases h)⟩
  ·unfold gH iM
   rw [Hr hs,aF,hM]; rfl
  ·unfold gI jI
   rw [xz hs,aF,hM]; rfl
 | true=>
  have M:=tk hM
  have M0:=M.toMon0
  have C:=M0.mc
  have i1:kj m.On.aB.aA [x,y]=(tn m x && (tn m y && true)):=rfl
  have i2:kj m.On.aB.aG.length [k,f]=(uZ m k && (uZ m f && true)):=rfl
  cases s9:(tn m x && tn m y) && (uZ m k && uZ m f) with
  | false=>
   refine ⟨(0,2),?_,?_,fun h=>(by cases h)⟩
   ·unfold gH
    rw [zr hs hM _ _ (by simp) (by simp),aF,i1,i2]
    revert s9
    cases tn m x <;> cases tn m y <;> cases uZ m k <;> cases uZ m f <;> intro s9 <;> first | rfl | cases s9
   ·unfold gI
    rw [wU hs hM,aF,wU hs hM]
    revert s9
    cases tn m x <;> cases tn m y <;> cases uZ m k <;> cases uZ m f <;> intro s9 <;> first | rfl | cases s9
  | true=>
   simp only [Bool.and_eq_true] at s9
   obtain ⟨⟨hx,hy⟩,hk,hf⟩:=s9
   have bx:=vv.1 hx
   have LM:=vv.1 hy
   have bk:=wT.1 hk
   have bf:=wT.1 hf
   have e1:gH m x y k f=aq (S:=Unit) (bif !(zq m y k) || !((gi m.On.aB.aG f == x) && (gi m.On.aB.To f == y)) then some (.ret (0,5)) else (eH m f>>=fun zd=>cG m.On.aB zd k>>=fun CM=>some (.ret (CM,0)))):=by
    unfold gH
    rw [zr hs hM _ _ (by simp) (by simp),aF,i1,i2,hx,hy,hk,hf]
    simp only [Bool.and_self,cond_true]
    rw [mq rfl,cond_false,DE M0 LM.1 LM.2 bk.1 bk.2,aF,C3 C.totQ.toHead bf.1 bf.2,aF]
    cases zq m y k <;> rfl
   have e2:gI m x y k f=aq (S:=Unit) (bif !(zq m y k) || !((gi m.On.aB.aG f == x) && (gi m.On.aB.To f == y)) then some (.ret (0,5)) else (idx m.On.ab f>>=fun zd=>dN m.On.aB zd k>>=fun CM=>some (.ret (CM,0)))):=by
    unfold gI
    rw [wU hs hM,aF,hx,hf]
    simp only [Bool.and_self,cond_true]
    rw [ma rfl,cond_true,wU hs hM,aF,hy,hk]
    simp only [Bool.and_self,cond_true]
    rw [mq rfl,cond_false,DD M0 LM.1 LM.2 bk.1 bk.2,aF,C.iq bf.1 bf.2,aF]
    cases zq m y k with
    | false=>rfl
    | true=>
     by_cases ef:gi m.On.aB.aG f=x
     ·rw [mq ef,ma ef,cond_false,C.jf bf.1 bf.2,aF]
      by_cases et:gi m.On.aB.To f=y
      ·rw [mq et,ma et]; rfl
      ·rw [o6 et,nq et]; rfl
     ·rw [o6 ef,nq ef]; rfl
   rw [e1,e2]
   cases hA:zq m y k with
   | false=>exact ⟨(0,5),rfl,rfl,fun h=>(by cases h)⟩
   | true=>
    have A:=(yp LM.1 LM.2 bk.1 bk.2).1 hA
    by_cases ef:gi m.On.aB.aG f=x
    ·by_cases et:gi m.On.aB.To f=y
     ·have L:fg m.On.aB x y f:=⟨bf,ef,et⟩
      have tf:=M0.xV L
      refine ⟨(kM m (aM m f) k,0),?_,?_,fun _=>⟨rfl,bx,A,L,rfl⟩⟩
      ·rw [ma ef,ma et]
       show aq (S:=Unit) (eH m f>>=_)=_
       unfold eH
       rw [yh M0 L]
       show aq (S:=Unit) (cG _ _ _>>=_)=_
       rw [sd C tf A.l]; rfl
      ·rw [ma ef,ma et]
       show aq (S:=Unit) (idx m.On.ab f>>=_)=_
       rw [yh M0 L,aF,sc C tf A.l]; rfl
     ·rw [ma ef,nq et]
      exact ⟨(0,5),rfl,rfl,fun h=>(by cases h)⟩
    ·rw [nq ef]
     exact ⟨(0,5),rfl,rfl,fun h=>(by cases h)⟩
section
variable (hM:xN m=true)
include hM
theorem R4 {x:Int} (x0:0≤x) (x1:x < m.On.aB.aA):mO m x=some (oM m x,gi m.bz x,0):=by
 have M:=tk hM
 have hx:tn m x=true:=vv.2 ⟨x0,x1⟩
 unfold mO
 rw [zr hs hM _ _ (by simp) (by simp),aF,show kj m.On.aB.aA [x]=(tn m x && true) from rfl,hx,show kj m.On.aB.aG.length ([]:List Int)=true from rfl]
 simp only [Bool.and_self,cond_true]
 rw [mq rfl,cond_false]
 unfold rA fT
 rw [BV M.toMon0 x0 x1]
 show aq (S:=Unit) (aq (S:=Unit) (idx m.bz x>>=_)>>=_)=_
 rw [Da M.toMon0 x0 x1]; rfl
theorem R5 {x:Int} (x0:0≤x) (x1:x < m.On.aB.aA):mP m x=some (oM m x,gi m.bz x,0):=by
 have M:=tk hM
 unfold mP
 rw [xz hs,aF,hM]
 simp only [Bool.not_true,cond_false]
 rw [Eu,aF,bb x0,bb x1]
 show aq (S:=Unit) (idx m.On.aA x>>=_)=_
 rw [BV M.toMon0 x0 x1,aF,Da M.toMon0 x0 x1]; rfl
theorem R6 {x h:Int} (A:C9 m x h):oI m x h=some (true,0):=by
 have M:=tk hM
 have hx:tn m x=true:=vv.2 ⟨A.x0,A.x1⟩
 have hh:uZ m h=true:=wT.2 A.l.1
 unfold oI
 rw [zr hs hM _ _ (by simp) (by simp),aF,show kj m.On.aB.aA [x]=(tn m x && true) from rfl,hx,show kj m.On.aB.aG.length [h]=(uZ m h && true) from rfl,hh]
 simp only [Bool.and_self,cond_true]
 rw [mq rfl,cond_false,DE M.toMon0 A.x0 A.x1 A.l.1.1 A.l.1.2,(yp A.x0 A.x1 A.l.1.1 A.l.1.2).2 A]; rfl
section
variable {x h y k:Int} (A:C9 m x h) (K:C9 m y k)
include A K
theorem R7:mR m x h y k=some (sx m x h y k,0):=by
 have M:=tk hM
 have M0:=M.toMon0
 have C:=M0.mc
 have cm:=C.m
 have hx:tn m x=true:=vv.2 ⟨A.x0,A.x1⟩
 have hh:uZ m h=true:=wT.2 A.l.1
 have hy:tn m y=true:=vv.2 ⟨K.x0,K.x1⟩
 have hk:uZ m k=true:=wT.2 K.l.1
 have ll:(ri m.On.aB x y).length≤m.On.aB.aG.length:=Nat.le_trans (List.length_filter_le _ _) (by rw [cT]; exact Nat.le_refl _)
 unfold mR
 rw [wU hs hM,aF,hx,hh,wU hs hM,aF,hy,hk]
 simp only [Bool.and_self,cond_true]
 rw [ma rfl,cond_true,mq rfl,cond_false,DD M0 A.x0 A.x1 A.l.1.1 A.l.1.2,(yp A.x0 A.x1 A.l.1.1 A.l.1.2).2 A,aF,DD M0 K.x0 K.x1 K.l.1.1 K.l.1.2,(yp K.x0 K.x1 K.l.1.1 K.l.1.2).2 K,aF]
 show aq (S:=Unit) (mB m [x,h] [y,k]>>=_)=_
 have:mB m [x,h] [y,k]=some (sx m x h y k):=by
  unfold mB sx
  show aq (S:=Unit) (eY m.On.aB x y>>=_)=_
  rw [Nl C,aF]
  show aq (S:=Unit) (ah (ae 0 (aj (fun s:List Int×Int=>jN m [x,h] [y,k] (ri m.On.aB x y) s.1 s.2) (([]:List Int),(0:Int)))) _)=_
  refine (congrArg aq (zX (ri m.On.aB x y) (fun g=>kM m h g == kM m (aM m g) k) (fun acc i=>(acc,(i:Int))) rfl ?_ ?_)).trans rfl
  ·intro i g acc hg Nn
   have hi:=cg hg
   have L:=qy.1 (List.mem_of_getElem? hg)
   have tg:=M0.xV L
   show jN m [x,h] [y,k] (ri m.On.aB x y) acc i=_
   unfold jN
   rw [bb (by omega),cond_true]
   simp only [show idx [x,h] (1:Int)=some h from rfl,show idx [y,k] (1:Int)=some k from rfl,cw,hg,aF,sc C A.l L,yh M0 L,sc C tg K.l,cA (show i < 9223372036854775807 by omega)]
   show (bif kM m h g == kM m (aM m g) k then _ else _)=_
   cases kM m h g == kM m (aM m g) k with
   | false=>rfl
   | true=>rw [cond_true,eB (by omega) (by omega),aF]; rfl
  ·intro acc
   show jN m [x,h] [y,k] (ri m.On.aB x y) acc _=_
   unfold jN
   rw [br (by omega),cond_false]
 rw [this]; rfl
theorem Np:mQ m x h y k=some (sx m x h y k,0):=by
 have M:=tk hM
 have M0:=M.toMon0
 have C:=M0.mc
 have cm:=C.m
 have hx:tn m x=true:=vv.2 ⟨A.x0,A.x1⟩
 have hh:uZ m h=true:=wT.2 A.l.1
 have hy:tn m y=true:=vv.2 ⟨K.x0,K.x1⟩
 have hk:uZ m k=true:=wT.2 K.l.1
 have ll:(ri m.On.aB x y).length≤m.On.aB.aG.length:=Nat.le_trans (List.length_filter_le _ _) (by rw [cT]; exact Nat.le_refl _)
 have ar:∀ {x y u:Int},fg m.On.aB x y u→eH m u=some (aM m u):=fun h=>by unfold eH; rw [yh M0 h]; rfl
 unfold mQ
 rw [zr hs hM _ _ (by simp) (by simp),aF,show kj m.On.aB.aA [x,y]=(tn m x && (tn m y && true)) from rfl,hx,hy,show kj m.On.aB.aG.length [h,k]=(uZ m h && (uZ m k && true)) from rfl,hh,hk]
 simp only [Bool.and_self,cond_true]
 rw [mq rfl,cond_false,DE M0 A.x0 A.x1 A.l.1.1 A.l.1.2,(yp A.x0 A.x1 A.l.1.1 A.l.1.2).2 A,aF,DE M0 K.x0 K.x1 K.l.1.1 K.l.1.2,(yp K.x0 K.x1 K.l.1.1 K.l.1.2).2 K,aF]
 show aq (S:=Unit) (gT m (fF.mk x h) (fF.mk y k)>>=_)=_
 have:gT m (fF.mk x h) (fF.mk y k)=some (sx m x h y k):=by
  unfold gT sx
  show aq (S:=Unit) (gL m.On.aB x y>>=_)=_
  rw [Yf C,aF]
  show aq (S:=Unit) (ah (ae 0 (aj (fun s:List Int×Int=>fB m (fF.mk x h) (fF.mk y k) (ri m.On.aB x y) s.1 s.2) (([]:List Int),(0:Int)))) _)=_
  refine (congrArg aq (zX (ri m.On.aB x y) (fun g=>kM m h g == kM m (aM m g) k) (fun acc i=>(acc,(i:Int))) rfl ?_ ?_)).trans rfl
  ·intro i g acc hg Nn
   have hi:=cg hg
   have L:=qy.1 (List.mem_of_getElem? hg)
   have tg:=M0.xV L
   show fB m (fF.mk x h) (fF.mk y k) (ri m.On.aB x y) acc i=_
   unfold fB
   rw [bb (by omega),cond_true]
   simp only [cw,hg,aF,sd C A.l L,ar L,sd C tg K.l,cA (show i < 9223372036854775807 by omega)]
   show (bif kM m h g == kM m (aM m g) k then _ else _)=_
   cases kM m h g == kM m (aM m g) k with
   | false=>rfl
   | true=>rw [cond_true,eB (by omega) (by omega),aF]; rfl
  ·intro acc
   show fB m (fF.mk x h) (fF.mk y k) (ri m.On.aB x y) acc _=_
   unfold fB
   rw [br (by omega),cond_false]
 rw [this]; rfl
end
theorem R8 {x y k:Int} (x0:0≤x) (x1:x < m.On.aB.aA) (K:C9 m y k):(sx m (oM m x) (gi m.bz x) y k).length=(ri m.On.aB x y).length:=by
 have M:=tk hM
 have mm:∀ g,g∈sx m (oM m x) (gi m.bz x) y k↔Ni m (oM m x) (gi m.bz x) y k g:=fun g=>by
  unfold sx Ni
  rw [List.mem_filter,qy,beq_iff_eq]
 have nd:(sx m (oM m x) (gi m.bz x) y k).Nodup:=List.Pairwise.filter _ zW
 refine Nat.le_antisymm (LF (F:=fun g=>kM m (gi m.Unit x) g) nd (fun g hg=>?_) fun g hg h hh e=>?_) (LF (F:=fun f=>kM m (aM m f) k) zW (fun f hf=>?_) fun f hf h hh e=>?_)
 ·exact qy.2 (Ew M x0 x1 K ((mm g).1 hg)).1
 ·have b1:=(Ew M x0 x1 K ((mm g).1 hg)).2
  have b2:=(Ew M x0 x1 K ((mm h).1 hh)).2
  rw [← b1,← b2,e]
 ·exact (mm _).2 (LG M K (qy.1 hf))
 ·have b1:=Ev M K (qy.1 hf)
  have b2:=Ev M K (qy.1 hh)
  rw [← b1,← b2,e]
end
theorem Pn:xN m=true→Ok (sH m) fun l=>∀ r∈l,r.length=2:=fun hM=>by
 have M:=tk hM
 have M0:=M.toMon0
 have C:=M0.mc
 have o0:=C.o0
 have o8:=C.o8
 have cm:=C.m
 unfold sH
 refine gj (ol (fun z:List (List Int)×Int=>(0≤z.2∧z.2≤m.On.aB.aA)∧(z.1.length:Int)≤z.2 * 1000∧∀ r∈z.1,r.length=2) (fun z=>(m.On.aB.aA - z.2).toNat) ⟨⟨by show (0:Int)≤0; omega,by show (0:Int)≤_; omega⟩,by show ((0:Nat):Int)≤0 * 1000; omega,du⟩ ?_)
 rintro ⟨l,i⟩ ⟨⟨i0,i1⟩,hl,hr⟩
 dsimp only at i0 i1 hl hr
 show Ok (sA m l i) _
 unfold sA
 refine od (fun hi=>oe (BV M0 i0 hi) (oe (Nl C _ _) ?_)) fun hi=>os ⟨rfl,os hr⟩
 have ll:(ri m.On.aB (oM m i) i).length≤m.On.aB.aG.length:=Nat.le_trans (List.length_filter_le _ _) (by rw [cT]; exact Nat.le_refl _)
 show Ok (ah (ae 2 (aj (fun s:List (List Int)×Int=>oG m i (ri m.On.aB (oM m i) i) s.1 s.2) (l,(0:Int)))) _) _
 refine ol (fun z:List (List Int)×Int=>(0≤z.2∧z.2≤(ri m.On.aB (oM m i) i).length)∧(z.1.length:Int)≤i * 1000+z.2∧∀ r∈z.1,r.length=2) (fun z=>((ri m.On.aB (oM m i) i).length - z.2).toNat) ⟨⟨by show (0:Int)≤0; omega,by show (0:Int)≤_; omega⟩,by dsimp only; omega,hr⟩ ?_
 rintro ⟨l1,j⟩ ⟨⟨j0,j1⟩,Pe,vB⟩
 dsimp only at j0 j1 Pe vB
 show Ok (oG m i (ri m.On.aB (oM m i) i) l1 j) _
 unfold oG
 refine od (fun hj=>?_) fun hj=>os ⟨rfl,os ⟨⟨⟨?_,?_⟩,?_,vB⟩,?_⟩⟩
 ·have L:=qy.1 (cy (l:=ri m.On.aB (oM m i) i) j0 hj)
  refine oe (bS j0 hj) (oe (DD M0 i0 hi L.1.1 L.1.2) (oc (fun _=>oe (bS j0 hj) (dp (by omega) (by omega) (os ⟨⟨⟨?_,?_⟩,?_,dw vB rfl⟩,?_⟩))) fun _=>os ⟨⟨⟨?_,?_⟩,?_,vB⟩,?_⟩))
  all_goals (try dsimp only)
  all_goals rw [w1 j0 hj (by omega)]
  all_goals (try simp only [List.length_append,List.length_singleton])
  all_goals omega
 ·dsimp only; rw [w1 i0 hi (by omega)]; omega
 ·dsimp only; rw [w1 i0 hi (by omega)]; omega
 ·dsimp only; rw [w1 i0 hi (by omega)]; omega
 ·dsimp only; rw [w1 i0 hi (by omega)]; omega
end
theorem ZU (l:List Int) (v:Int) (hl:l.length≤1048576) (hv:v∈l):sK l v=some true:=by
 unfold sK
 rw [wa (n:=l.length) (fun i=>gi l i == v) (y:=true) (fun i hi=>?_) (by unfold sB; rw [br (by omega),cond_false])]
 ·obtain ⟨j,j0,j1,e⟩:=mb hv
  rw [show (ns l.length).any (fun i=>gi l i == v)=true from List.any_eq_true.2 ⟨j,fj.2 ⟨j0,j1⟩,by rw [e]; simp⟩]; rfl
 ·unfold sB
  rw [bb (by omega),cond_true,bS (by omega) (by omega),aF,cA (by omega)]
section
variable {x:List Int} (B:xU x)
include B
theorem UT {m:bV} (hs:AU m) {s:aK} (S:Src x s):Ok (pF s m) fun y=>Src x y.2.2:=by
 unfold pF
 have two:∀ {t:aK},Src x t→Ok (eL t m.On.aB.aA>>=fun y=>eL (aK.mk s.Code y.2.At y.2.av) (m.On.aB.aG.length:Int)>>=fun z=>(some (Out.ret ((y.1,z.1,(aK.mk s.Code z.2.At z.2.av)))):Option (Out Unit (Int×Int×aK)))) (Rt fun y=>Src x y.2.2):=fun St=>
  ob (FM B St _) fun y hy=>ob (FM B (S.on hy) _) fun z hz=>os (S.on hz)
 refine gj (oe (xz hs) (oc (fun hM=>ob (dn B S _) fun y hy=>od (fun _=>ob (Pn hs hM) fun l hl=>od (fun h0=>ob (dn B (S.on hy.2) _) fun z hz=>oi hz.1.1 (hz.1.2 (by omega)) fun r hr=>?_) fun _=>two (S.on hy.2)) fun _=>two (S.on hy.2)) fun _=>two S))
 have:=hl r hr
 exact oe (bS (by omega) (by omega)) (oe (bS (by omega) (by omega)) (os (S.on hz.2)))
theorem R9:Ok (jC x) fun y=>AU y.1:=by
 have hlen:=B.len
 unfold jC
 refine gj (ob (Ym B) fun y hy=>?_)
 obtain ⟨s,rfl,S⟩:=hy
 show Ok (nR (aK.mk x s.At s.av)>>=_) _
 refine ob (Yl B S.LP) fun a ha=>ob (UT B ha.1 ha.2.LP) fun p hp=>ob (FM B hp.LP _) fun nx hnx=>ob (FM B hnx.LP _) fun nf N0=>oe (xz ha.1) (oc (fun hM=>oe (Eu _ _) (oc (fun hO=>ob (dn B N0.LP _) fun z hz=>od (fun _=>?_) fun _=>os ha.1) fun _=>os ha.1)) fun _=>os ha.1)
 have M:=tk hM
 have C:=M.toMon0.mc
 have o0:=C.o0
 have o8:=C.o8
 have cm:=C.m
 rw [Bool.and_eq_true] at hO
 have y0:=of_decide_eq_true hO.1
 have y1:=of_decide_eq_true hO.2
 refine ol (fun w:List Int×Int=>(0≤w.2∧w.2≤a.1.On.aB.aA)∧(w.1.length:Int)≤w.2 * 1000∧(∀ f∈w.1,0≤f∧f < a.1.On.aB.aG.length)∧(p.1 < w.2→0 < w.1.length)) (fun w=>(a.1.On.aB.aA - w.2).toNat) ⟨⟨by show (0:Int)≤0; omega,by show (0:Int)≤_; omega⟩,by show ((0:Nat):Int)≤0 * 1000; omega,du,fun h=>by dsimp only at h; omega⟩ ?_
 rintro ⟨l,i⟩ ⟨⟨i0,i1⟩,hl,hr,hn⟩
 dsimp only at i0 i1 hl hr hn
 show Ok (jW a p l i) _
 unfold jW
 refine od (fun hi=>oe (Nl C _ _) ?_) fun hi=>os ⟨rfl,?_⟩
 ·have ll:(ri a.1.On.aB i p.1).length≤a.1.On.aB.aG.length:=Nat.le_trans (List.length_filter_le _ _) (by rw [cT]; exact Nat.le_refl _)
  show Ok (fits 8 (l.length+(ri a.1.On.aB i p.1).length)>>=fun _=>some (Out.norm (l++ri a.1.On.aB i p.1,ao (i+1)))) _
  refine dp (by omega) (by omega) (os ⟨⟨⟨?_,?_⟩,?_,fun f hf=>?_,fun h=>?_⟩,?_⟩)
  ·dsimp only; rw [w1 i0 hi (by omega)]; omega
  ·dsimp only; rw [w1 i0 hi (by omega)]; omega
  ·dsimp only; rw [w1 i0 hi (by omega),List.length_append]; omega
  ·rcases List.mem_append.1 hf with h | h
   ·exact hr f h
   ·exact (qy.1 h).1
  ·dsimp only at h ⊢
   rw [w1 i0 hi (by omega)] at h
   rw [List.length_append]
   by_cases e:p.1=i
   ·have:gi a.1.On.aB.aJ p.1∈ri a.1.On.aB i p.1:=by
     rw [← e]
     exact qy.2 (Ya C y0 y1)
    have:=List.length_pos_of_mem this
    omega
   ·have:=hn (by omega)
    omega
  ·dsimp only; rw [w1 i0 hi (by omega)]; omega
 ·have h0:=hn (by omega)
  refine ob (dn B hz.2.LP _) fun w hw=>oi hw.1.1 (hw.1.2 (by omega)) fun f hf=>?_
  have kf:=hr f hf
  exact oe (C.iq kf.1 kf.2) (os ha.1)
end
theorem RG {x0:List Int} (hl:x0.length≤maxLen∧∀ y∈x0,0≤y∧y < 256):lA x0=some true:=by
 unfold lA
 have Gb:uG x0=some (decide ((x0.length:Int) > 4096)):=rfl
 rw [Gb,aF]
 by_cases hb:(x0.length:Int) > 4096
 ·rw [bb hb,cond_true]; rfl
 rw [br hb,cond_false]
 have BY:xU x0:=⟨by omega,hl.2⟩
 obtain ⟨q,e,hs⟩:=R9 BY
 rw [e,aF]
 obtain ⟨m,x,y,k,f⟩:=q
 dsimp only at hs ⊢
 obtain ⟨r,h1,h2,h3⟩:=ZT hs x y k f
 rw [h1,aF,h2,aF,mq rfl,cond_false,aF,mq rfl,cond_false]
 by_cases h0:r.2=0
 ·obtain ⟨hM,⟨Ka,Kc⟩,K,L,er⟩:=h3 h0
  have M:=tk hM
  have C:=M.toMon0.mc
  have cm:=C.m
  have A:=RY M Ka Kc
  have E:=LG M K L
  have U:=M.toMon0.D6 Ka Kc
  have Gi:r.1∈sx m (oM m x) (gi m.bz x) y k:=by
   rw [er]
   unfold sx
   rw [List.mem_filter,qy,beq_iff_eq]
   exact E
  have ll:(sx m (oM m x) (gi m.bz x) y k).length≤m.On.aB.aG.length:=Nat.le_trans (List.length_filter_le _ _) (Nat.le_trans (List.length_filter_le _ _) (by rw [cT]; exact Nat.le_refl _))
  rw [mq h0,cond_false,R4 hs hM Ka Kc,aF,R5 hs hM Ka Kc,aF]
  dsimp only
  rw [R6 hs hM A,aF,Np hs hM A K,aF,R7 hs hM A K,aF,RX C Ka Kc K.x0 K.x1,aF]
  dsimp only
  rw [ZV _ _ (by omega)]
  simp only [mq (rfl:(0:Int)=0),mq (rfl:oM m x=oM m x),mq (rfl:gi m.bz x=gi m.bz x),cond_false,Bool.not_true,aF,ma (rfl:sx m (oM m x) (gi m.bz x) y k=_),R8 hs hM Ka Kc K,ma (rfl:((ri m.On.aB x y).length:Int)=_),cond_true]
  rw [ZU _ _ (by omega) Gi,aF,cond_true,Ey M.toMon0 Ka Kc,aF,C.me U.1.1 U.1.2,aF,er,C.lv U.1.1 U.1.2 E.1.1.1 E.1.1.2,aF,aF]
  have eu:gk m.On.aB.aE (gi m.Unit x) (kM m (aM m f) k)=f:=Ev M K L
  rw [eu,ma rfl]; rfl
 ·rw [o6 h0,cond_true]; rfl
end Go.Proofs.YtilhlobfebngdaaGreat
