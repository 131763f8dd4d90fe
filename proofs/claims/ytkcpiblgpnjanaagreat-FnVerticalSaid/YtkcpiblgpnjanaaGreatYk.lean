/- Functors: what the reference's and the program's looks at them give. No condition beside those that each theorem names. -/
import Derived.Test.YtkcpiblgpnjanaaGreatVj
namespace Go.Proofs.YtkcpiblgpnjanaaGreat
open Go Go.Li
set_option linter.unusedVariables false
structure ie (f:aN):Prop where
 s:fu f.aA
 t:fu f.aC
 o:f.aE.length≤1048576
 a:f.ae.length≤1048576
def Ao (f:aN):Bool:=sG f.aA && (sG f.aC && ((((f.aE.length:Int) == f.aA.aE) && (f.ae.length == f.aA.aG.length)) && (n4 f.aC.aE f.aE && n4 f.aC.aG.length f.ae)))
def zn (f:aN) (a:Int):Bool:=(gi f.aC.aG (gi f.ae a) != gi f.aE (gi f.aA.aG a)) || (gi f.aC.To (gi f.ae a) != gi f.aE (gi f.aA.To a))
def Cj (f:aN) (x:Int):Bool:=gi f.ae (gi f.aA.aJ x) != gi f.aC.aJ (gi f.aE x)
def vx (f:aN) (a b:Int):Bool:=(gi f.aA.To a == gi f.aA.aG b) && (gi f.ae (gk f.aA.aF a b) != gk f.aC.aF (gi f.ae a) (gi f.ae b))
def Ap (f:aN):Bool:=!((ns f.aA.aG.length).any (zn f))
def Is (f:aN):Bool:=!((ns f.aA.aE.toNat).any (Cj f)) && !((ns f.aA.aG.length).any fun a=>(ns f.aA.aG.length).any (vx f a))
def j8 (f:aN):Bool:=Ao f && (Ap f && Is f)
structure FHead (f:aN):Prop where
 c:rW f.aA
 d:rW f.aC
 ol:(f.aE.length:Int)=f.aA.aE
 al:f.ae.length=f.aA.aG.length
 oo:∀ y∈f.aE,0≤y∧y < f.aC.aE
 aa:∀ y∈f.ae,0≤y∧y < f.aC.aG.length
theorem QM {f:aN} (h:Ao f=true):FHead f:=by
 unfold Ao at h
 simp only [Bool.and_eq_true,beq_iff_eq,rh] at h
 obtain ⟨h1,h2,⟨h3,h4⟩,h5,h6⟩:=h
 exact ⟨zj h1,zj h2,h3,h4,h5,h6⟩
namespace FHead
variable {f:aN} (H:FHead f)
include H
theorem vY {x:Int} (h0:0≤x) (h1:x < f.aA.aE):idx f.aE x=some (gi f.aE x):=cM h0 (by rw [H.ol]; exact h1)
theorem vf {a:Int} (h0:0≤a) (h1:a < f.aA.aG.length):idx f.ae a=some (gi f.ae a):=cM h0 (by rw [H.al]; exact h1)
theorem ob {x:Int} (h0:0≤x) (h1:x < f.aA.aE):0≤gi f.aE x∧gi f.aE x < f.aC.aE:=H.oo _ (dx h0 (by rw [H.ol]; exact h1))
theorem ar {a:Int} (h0:0≤a) (h1:a < f.aA.aG.length):0≤gi f.ae a∧gi f.ae a < f.aC.aG.length:=H.aa _ (dx h0 (by rw [H.al]; exact h1))
end FHead
structure LF (f:aN):Prop extends FHead f where
 fr:∀ a:Int,0≤a→a < f.aA.aG.length→gi f.aC.aG (gi f.ae a)=gi f.aE (gi f.aA.aG a)
 to:∀ a:Int,0≤a→a < f.aA.aG.length→gi f.aC.To (gi f.ae a)=gi f.aE (gi f.aA.To a)
theorem It {f:aN} (h1:Ao f=true) (h2:Ap f=true):LF f:=by
 unfold Ap at h2
 rw [Bool.not_eq_true',l3] at h2
 refine { QM h1 with fr:=fun a a0 a1=>?_,to:=fun a a0 a1=>?_ } <;>
 ·have:=h2 a a0 a1
  unfold zn at this
  simp only [Bool.or_eq_false_iff,bne_eq_false_iff_eq] at this
  first | exact this.1 | exact this.2
structure CC (f:aN):Prop extends LF f where
 un:∀ x:Int,0≤x→x < f.aA.aE→gi f.ae (gi f.aA.aJ x)=gi f.aC.aJ (gi f.aE x)
 co:∀ a b:Int,0≤a→a < f.aA.aG.length→0≤b→b < f.aA.aG.length→gi f.aA.To a=gi f.aA.aG b→gi f.ae (gk f.aA.aF a b)=gk f.aC.aF (gi f.ae a) (gi f.ae b)
theorem rq {f:aN} (h:j8 f=true):CC f:=by
 unfold j8 Is at h
 simp only [Bool.and_eq_true,Bool.not_eq_true'] at h
 obtain ⟨h1,h2,h3,h4⟩:=h
 have E:=It h1 h2
 have ho:=E.c.o0
 rw [l3] at h3 h4
 refine { E with un:=fun x x0 x1=>?_,co:=fun a b a0 a1 b0 b1 e=>?_ }
 ·have:=h3 x x0 (by omega)
  unfold Cj at this
  simpa using this
 ·have:=(l3.1 (h4 a a0 a1)) b b0 b1
  unfold vx at this
  simpa [e] using this
theorem vR {f:aN} (hs:ie f):jX f=some (j8 f):=by
 have ho:=hs.o
 have ha:=hs.a
 unfold jX j8 Ao
 rw [NW hs.s,aH]
 cases h1:sG f.aA with
 | false=>rfl
 | true=>
  have C:=zj h1
  rw [NW hs.t,aH]
  cases h2:sG f.aC with
  | false=>rfl
  | true=>
   have T:=zj h2
   simp only [Bool.not_true,cond_false,Bool.true_and]
   by_cases e1:(f.aE.length:Int)=f.aA.aE
   ·rw [tu e1,cond_false,xq e1,Bool.true_and]
    by_cases e2:f.ae.length=f.aA.aG.length
    ·rw [tu (by omega),aH,cond_false,zi _ _ (by omega),aH,xq e2,Bool.true_and]
     cases h3:n4 f.aC.aE f.aE with
     | false=>rfl
     | true=>
      rw [zi _ _ (by omega),aH]
      cases h4:n4 f.aC.aG.length f.ae with
      | false=>rfl
      | true=>
       have H:FHead f:=⟨C,T,e1,e2,rh.1 h3,rh.1 h4⟩
       have cm:=C.m
       have co:=C.o8
       simp only [Bool.not_true,cond_false,aH,Bool.and_self,Bool.true_and]
       rw [yJ (n:=f.aA.aG.length) (zn f) (fun a bg=>?_) (by unfold pQ; rw [bx (by omega),cond_false])]
       ·unfold Ap
        cases h5:(ns f.aA.aG.length).any (zn f) with
        | true=>rfl
        | false=>
         rw [cond_false,Bool.not_false,Bool.true_and]
         rw [yJ (n:=f.aA.aE.toNat) (Cj f) (fun x bg=>?_) (by unfold pR; rw [bx (by omega),cond_false])]
         ·unfold Is
          cases h6:(ns f.aA.aE.toNat).any (Cj f) with
          | true=>rfl
          | false=>
           rw [cond_false,Bool.not_false,Bool.true_and]
           have E:LF f:=It (by unfold Ao; simp [h1,h2,h3,h4,e1,e2]) (by unfold Ap; rw [h5]; rfl)
           rw [yJ (n:=f.aA.aG.length) (fun a=>(ns f.aA.aG.length).any (vx f a)) (fun a bg=>?_) (by unfold pT; rw [bx (by omega),cond_false])]
           ·cases (ns f.aA.aG.length).any fun a=>(ns f.aA.aG.length).any (vx f a) <;> rfl
           ·unfold pT
            rw [bn (by omega),cond_true]
            rw [yJ (n:=f.aA.aG.length) (vx f a) (fun b hb=>?_) (by unfold pS; rw [bx (by omega),cond_false])]
            ·rw [cK (by omega)]
            ·unfold pS
             rw [bn (by omega),cond_true,C.j6 (by omega) (by omega),aH,C.ju (by omega) (by omega),aH]
             unfold vx
             by_cases e:gi f.aA.To a=gi f.aA.aG b
             ·have k:=C.cell a b (by omega) (by omega) (by omega) (by omega) e
              have ka:=H.ar (a:=(a:Int)) (by omega) (by omega)
              have kb:=H.ar (a:=(b:Int)) (by omega) (by omega)
              rw [xq e,cond_true,C.mi (by omega) (by omega),aH,C.lz (by omega) (by omega) (by omega) (by omega),aH,H.vf k.1 k.2.1,aH,H.vf (by omega) (by omega),aH,T.mi ka.1 ka.2,aH,H.vf (by omega) (by omega),aH,T.lz ka.1 ka.2 kb.1 kb.2,aH,aH,Bool.true_and,cK (by omega)]; rfl
             ·rw [tv e,cond_false,aH,Bool.false_and,cK (by omega)]; rfl
         ·have kx:=H.ob (x:=(x:Int)) (by omega) (by omega)
          have ki:=C.id (x:=(x:Int)) (by omega) (by omega)
          unfold pR
          rw [bn (by omega),cond_true,C.rj (by omega) (by omega),aH,H.vf ki.1 ki.2,aH,H.vY (by omega) (by omega),aH,T.rj kx.1 kx.2,aH,cK (by omega)]
          rfl
       ·have ka:=H.ar (a:=(a:Int)) (by omega) (by omega)
        have kf:=C.fr (f:=(a:Int)) (by omega) (by omega)
        have kt:=C.to (f:=(a:Int)) (by omega) (by omega)
        unfold pQ
        rw [bn (by omega),cond_true,H.vf (by omega) (by omega),aH,T.ju ka.1 ka.2,aH,C.ju (by omega) (by omega),aH,H.vY kf.1 kf.2,aH,aH,T.j6 ka.1 ka.2,aH,C.j6 (by omega) (by omega),aH,H.vY kt.1 kt.2,aH,cK (by omega),jv,wJ,aH]
        rfl
    ·rw [sY (by omega),aH,cond_true,tv e2]; rfl
   ·rw [sY e1,cond_true,aH,cond_true,tv e1]; rfl
theorem Ol {f:aN} (hs:ie f) (C:rW f.aA) (T:rW f.aC):kH f=some (((((f.aE.length:Int) == f.aA.aE) && (f.ae.length == f.aA.aG.length)) && (n4 f.aC.aE f.aE && n4 f.aC.aG.length f.ae)) && (Ap f && Is f)):=by
 have ho:=hs.o
 have ha:=hs.a
 have cm:=C.m
 have co:=C.o8
 have tm:=T.m
 have to:=T.o8
 have t0:=T.o0
 unfold kH
 by_cases e1:(f.aE.length:Int)=f.aA.aE
 ·rw [tu e1,cond_false,xq e1,Bool.true_and]
  rw [show eK f.aA=some (f.aA.aG.length:Int) from rfl,aH]
  by_cases e2:f.ae.length=f.aA.aG.length
  ·rw [tu (by omega),cond_false,within _ _ (by omega) (by omega) (by omega),aH,xq e2,Bool.true_and]
   cases h3:n4 f.aC.aE f.aE with
   | false=>rfl
   | true=>
    rw [Bool.not_true,cond_false,show eK f.aC=some (f.aC.aG.length:Int) from rfl,aH,within _ _ (by omega) (by omega) (by omega),aH]
    cases h4:n4 f.aC.aG.length f.ae with
    | false=>rfl
    | true=>
     have H:FHead f:=⟨C,T,e1,e2,rh.1 h3,rh.1 h4⟩
     have il:=C.il
     have kl:=C.kl
     simp only [Bool.not_true,cond_false,aH,Bool.and_self,Bool.true_and]
     rw [yJ (n:=f.aA.aG.length) (zn f) (fun a bg=>?_) (by unfold kW; rw [bx (by omega),cond_false])]
     ·unfold Ap
      cases h5:(ns f.aA.aG.length).any (zn f) with
      | true=>rfl
      | false=>
       rw [cond_false,Bool.not_false,Bool.true_and]
       rw [yJ (n:=f.aA.aE.toNat) (Cj f) (fun x bg=>?_) (by unfold kX; rw [bx (by omega),cond_false])]
       ·unfold Is
        cases h6:(ns f.aA.aE.toNat).any (Cj f) with
        | true=>rfl
        | false=>
         rw [cond_false,Bool.not_false,Bool.true_and]
         rw [yJ (n:=f.aA.aG.length) (fun a=>(ns f.aA.aG.length).any (vx f a)) (fun a bg=>?_) (by unfold kZ; rw [bx (by omega),cond_false])]
         ·cases (ns f.aA.aG.length).any fun a=>(ns f.aA.aG.length).any (vx f a) <;> rfl
         ·unfold kZ
          have hr:=C.row (a:Int) (by omega) (by omega)
          rw [bn (by omega),cond_true,C.mi (by omega) (by omega),aH]
          rw [yJ (n:=f.aA.aG.length) (vx f a) (fun b hb=>?_) (by unfold kY; rw [bx (by omega),cond_false])]
          ·rw [cK (by omega)]
          ·unfold kY
           rw [bn (by omega),cond_true,C.lz (by omega) (by omega) (by omega) (by omega),aH]
           unfold vx
           by_cases e:gi f.aA.To a=gi f.aA.aG b
           ·have k:=C.cell a b (by omega) (by omega) (by omega) (by omega) e
            have ka:=H.ar (a:=(a:Int)) (by omega) (by omega)
            have kb:=H.ar (a:=(b:Int)) (by omega) (by omega)
            rw [xq e,bn (show gk f.aA.aF a b ≥ 0 from k.1),cond_true,H.vf k.1 k.2.1,aH,H.vf (by omega) (by omega),aH,H.vf (by omega) (by omega),aH,T.qy ka.1 ka.2 kb.1 kb.2,aH,aH,Bool.true_and,cK (by omega)]; rfl
           ·have:=C.none a b (by omega) (by omega) (by omega) (by omega) e
            rw [tv e,bx (show ¬ gk f.aA.aF a b ≥ 0 by omega),cond_false,aH,Bool.false_and,cK (by omega)]; rfl
       ·have kx:=H.ob (x:=(x:Int)) (by omega) (by omega)
        have ki:=C.id (x:=(x:Int)) (by omega) (by omega)
        unfold kX
        rw [bn (by omega),cond_true,C.rj (by omega) (by omega),aH,H.vf ki.1 ki.2,aH,H.vY (by omega) (by omega),aH,T.rj kx.1 kx.2,aH,cK (by omega)]
        rfl
     ·have ka:=H.ar (a:=(a:Int)) (by omega) (by omega)
      have kf:=C.fr (f:=(a:Int)) (by omega) (by omega)
      have kt:=C.to (f:=(a:Int)) (by omega) (by omega)
      unfold kW
      rw [bn (by omega),cond_true,H.vf (by omega) (by omega),aH,T.ju ka.1 ka.2,aH,C.ju (by omega) (by omega),aH,H.vY kf.1 kf.2,aH,T.j6 ka.1 ka.2,aH,C.j6 (by omega) (by omega),aH,H.vY kt.1 kt.2,aH,cK (by omega),jv,wJ,aH]
      rfl
  ·rw [sY (by omega),cond_true,tv e2]; rfl
 ·rw [sY e1,cond_true,tv e1]; rfl
theorem Om (a b:List Int) (ha:a.length≤1048576) (hb:∀ x∈a,0≤x∧x < b.length):oU a b=some (thenS a b):=by
 unfold oU
 refine (congrArg ao (tA a.length (fun i=>gi b (gi a i)) (fun acc i=>(acc,(i:Int))) rfl ?_ ?_)).trans rfl
 ·intro i acc hi WA
  have hm:=hb _ (dx (l:=a) (j:=(i:Int)) (by omega) (by omega))
  show jZ a b acc i=_
  unfold jZ
  rw [bn (by omega),cond_true,cM (by omega) (by omega),aH,cM hm.1 hm.2,aH,eN (by omega) (by omega),aH,cK (by omega)]
 ·intro acc _
  show jZ a b acc _=_
  unfold jZ
  rw [bx (by omega),cond_false]
theorem IX (l:List aI) (hl:l.length≤1048576) (hs:∀ c∈l,fu c):kA l=some (l.all sG):=by
 unfold kA
 refine (congrArg ao (kn l (fun c=>!sG c) (fun i=>(i:Int)) rfl ?_ ?_ (e:=(l.length:Int)) (y:=false) ?_)).trans ?_
 ·intro i x hx hp
  have hi:=cq hx
  unfold iO
  rw [bn (by omega),cond_true,da,hx,aH,NX (hs x (List.mem_of_getElem? hx)),aH,show (!sG x)=false from hp,cond_false,cK (by omega)]
 ·intro i x hx hp
  have hi:=cq hx
  unfold iO
  rw [bn (by omega),cond_true,da,hx,aH,NX (hs x (List.mem_of_getElem? hx)),aH,show (!sG x)=true from hp,cond_true]
 ·unfold iO
  rw [bx (by omega),cond_false]
 ·rw [ov]
  cases l.all sG <;> rfl
theorem BR {f:aN} (hs:ie f):gD f=some (j8 f):=by
 unfold gD j8 Ao
 rw [IX _ (by simp) (by intro c hc; simp at hc; rcases hc with rfl | rfl; exact hs.s; exact hs.t),aH]
 simp only [List.all_cons,List.all_nil,Bool.and_true]
 cases h1:sG f.aA with
 | false=>rfl
 | true=>
  cases h2:sG f.aC with
  | false=>rfl
  | true=>
   rw [Bool.true_and,cond_true,Ol hs (zj h1) (zj h2)]
   rfl
theorem CE (l:List aN) (hl:l.length≤1048576) (hs:∀ c∈l,ie c):jS l=some (l.all j8):=by
 unfold jS
 refine (congrArg ao (kn l (fun c=>!j8 c) (fun i=>(i:Int)) rfl ?_ ?_ (e:=(l.length:Int)) (y:=false) ?_)).trans ?_
 ·intro i x hx hp
  have hi:=cq hx
  unfold jV
  rw [bn (by omega),cond_true,da,hx,aH,BR (hs x (List.mem_of_getElem? hx)),aH,show (!j8 x)=false from hp,cond_false,cK (by omega)]
 ·intro i x hx hp
  have hi:=cq hx
  unfold jV
  rw [bn (by omega),cond_true,da,hx,aH,BR (hs x (List.mem_of_getElem? hx)),aH,show (!j8 x)=true from hp,cond_true]
 ·unfold jV
  rw [bx (by omega),cond_false]
 ·rw [ov]
  cases l.all j8 <;> rfl
theorem Eg (l:List Int) (hl:l.length≤1048576):gF l=some l:=by
 unfold gF
 rw [eN (by simp; omega) (by simp; omega),aH]; rfl
theorem IY {c d:aI} {o a:List Int} (hc:fu c) (hd:fu d) (ho:o.length≤1048576) (ha:a.length≤1048576):oX c d o a=some (aN.mk c d o a):=by
 unfold oX
 rw [Ig hc,aH,Ig hd,aH,Eg o ho,aH,Eg a ha,aH]; rfl
theorem Aq {c d:aI} {o a:List Int} (hc:fu c) (hd:fu d) (ho:o.length≤1048576) (ha:a.length≤1048576):jI c d o a=some (aN.mk c d o a):=by
 unfold jI
 rw [xy hc,aH,xy hd,aH,gv o ho,aH,gv a ha,aH]; rfl
theorem FN {f:aN} (h:ie f):iV f=some f:=by
 unfold iV
 rw [IY h.s h.t h.o h.a,aH]; rfl
theorem Iu {f:aN} (h:ie f):mY f=some f:=by
 unfold mY
 rw [Aq h.s h.t h.o h.a,aH]; rfl
theorem sH (a b:List Int):(thenS a b).length=a.length:=by unfold thenS; rw [dC]
section
variable {f g:aN} (F:FHead f) (G:FHead g) (e:f.aC=g.aA)
include F G e
end
def vw (f g:aN):Bool:=mx f.aA g.aA && (mx f.aC g.aC && ((f.aE == g.aE) && (f.ae == g.ae)))
theorem Al {f g:aN}:vw f g=true↔f=g:=by
 unfold vw
 simp only [Bool.and_eq_true,rU,beq_iff_eq]
 constructor
 ·rintro ⟨h1,h2,h3,h4⟩
  obtain ⟨_,_,_,_⟩:=f
  obtain ⟨_,_,_,_⟩:=g
  cases h1; cases h2; cases h3; cases h4; rfl
 ·rintro rfl; exact ⟨rfl,rfl,rfl,rfl⟩
theorem Ei {f g:aN} (h:ie f):lB f g=some (vw f g):=by
 have ho:=h.o
 have ha:=h.a
 unfold lB vw
 rw [vu h.s,aH,vu h.t,aH,tx _ _ (by omega),aH,tx _ _ (by omega),aH,jv,rV,jv,rV,jv,rV]; rfl
theorem BQ {f g:aN} (h:ie f):gH f g=some (mx f.aA g.aA && mx f.aC g.aC):=by
 unfold gH
 rw [vu h.s,aH,vu h.t,aH,jv,rV]; rfl
theorem BS {f g:aN} (h:ie f):jO f g=some (mx f.aA g.aA && mx f.aC g.aC):=by
 unfold jO
 rw [vr h.s,aH,vr h.t]
 cases mx f.aA g.aA <;> rfl
end Go.Proofs.YtkcpiblgpnjanaaGreat
namespace Go.Proofs.YtkcpiblgpnjanaaGreat
open Go Go.Li
set_option linter.unusedVariables false
structure iw (m:aP):Prop where
 s:ie m.aA
 t:ie m.aC
 p:m.ag.length≤1048576
def uJ (t:aP):Bool:=j8 t.aA && (j8 t.aC && ((mx t.aA.aA t.aC.aA && mx t.aA.aC t.aC.aC) && (((t.ag.length:Int) == t.aA.aA.aE) && n4 t.aA.aC.aG.length t.ag)))
def BT (t:aP) (x:Int):Bool:=(gi t.aA.aC.aG (gi t.ag x) != gi t.aA.aE x) || (gi t.aA.aC.To (gi t.ag x) != gi t.aC.aE x)
def zm (f g:aN) (p:List Int) (a:Int):Bool:=gk f.aC.aF (gi f.ae a) (gi p (gi f.aA.To a)) == gk f.aC.aF (gi p (gi f.aA.aG a)) (gi g.ae a)
def Db (t:aP):Bool:=!((ns t.aA.aA.aG.length).any fun a=>!(zm t.aA t.aC t.ag a))
def uK (t:aP):Bool:=!((ns t.ag.length).any (BT t))
def gu (t:aP):Bool:=(uJ t && uK t) && Db t
structure THead (t:aP):Prop where
 f:CC t.aA
 g:CC t.aC
 fb:j8 t.aA=true
 gb:j8 t.aC=true
 es:t.aC.aA=t.aA.aA
 et:t.aC.aC=t.aA.aC
 pl:(t.ag.length:Int)=t.aA.aA.aE
 pp:∀ y∈t.ag,0≤y∧y < t.aA.aC.aG.length
theorem Dc {t:aP} (h:uJ t=true):THead t:=by
 unfold uJ at h
 simp only [Bool.and_eq_true,beq_iff_eq,rh,rU] at h
 obtain ⟨h1,h2,⟨h3,h4⟩,h5,h6⟩:=h
 exact ⟨rq h1,rq h2,h1,h2,h3.symm,h4.symm,h5,h6⟩
namespace THead
variable {t:aP} (H:THead t)
include H
theorem LG {x:Int} (h0:0≤x) (h1:x < t.aA.aA.aE):idx t.ag x=some (gi t.ag x):=cM h0 (by rw [H.pl]; exact h1)
theorem cp {x:Int} (h0:0≤x) (h1:x < t.aA.aA.aE):0≤gi t.ag x∧gi t.ag x < t.aA.aC.aG.length:=H.pp _ (dx h0 (by rw [H.pl]; exact h1))
theorem R4 {a:Int} (h0:0≤a) (h1:a < t.aA.aA.aG.length):0≤gi t.aC.ae a∧gi t.aC.ae a < t.aA.aC.aG.length:=by have:=H.g.ar (a:=a) h0 (by rw [H.es]; exact h1); rwa [H.et] at this
theorem R5 {a:Int} (h0:0≤a) (h1:a < t.aA.aA.aG.length):idx t.aC.ae a=some (gi t.aC.ae a):=H.g.vf h0 (by rw [H.es]; exact h1)
end THead
structure R6 (t:aP):Prop extends THead t where
 pf:∀ x:Int,0≤x→x < t.aA.aA.aE→gi t.aA.aC.aG (gi t.ag x)=gi t.aA.aE x
 pt:∀ x:Int,0≤x→x < t.aA.aA.aE→gi t.aA.aC.To (gi t.ag x)=gi t.aC.aE x
theorem QN {t:aP} (h1:uJ t=true) (h2:uK t=true):R6 t:=by
 have H:=Dc h1
 have hl:=H.pl
 unfold uK at h2
 rw [Bool.not_eq_true',l3] at h2
 refine { H with pf:=fun a a0 a1=>?_,pt:=fun a a0 a1=>?_ } <;>
 ·have:=h2 a a0 (by omega)
  unfold BT at this
  simp only [Bool.or_eq_false_iff,bne_eq_false_iff_eq] at this
  first | exact this.1 | exact this.2
structure adE (t:aP):Prop extends R6 t where
 sq:∀ a:Int,0≤a→a < t.aA.aA.aG.length→gk t.aA.aC.aF (gi t.aA.ae a) (gi t.ag (gi t.aA.aA.To a))=gk t.aA.aC.aF (gi t.ag (gi t.aA.aA.aG a)) (gi t.aC.ae a)
theorem rn {t:aP} (h:gu t=true):adE t:=by
 unfold gu at h
 simp only [Bool.and_eq_true] at h
 obtain ⟨⟨h1,h2⟩,h3⟩:=h
 unfold Db at h3
 rw [Bool.not_eq_true',l3] at h3
 refine { QN h1 h2 with sq:=fun a a0 a1=>?_ }
 have:=h3 a a0 a1
 unfold zm at this
 simpa using this
theorem Im {t:aP} (fb:j8 t.aA=true) (gb:j8 t.aC=true) (es:t.aC.aA=t.aA.aA) (et:t.aC.aC=t.aA.aC) (pl:(t.ag.length:Int)=t.aA.aA.aE) (pp:∀ y∈t.ag,0≤y∧y < t.aA.aC.aG.length)
  (pf:∀ x:Int,0≤x→x < t.aA.aA.aE→gi t.aA.aC.aG (gi t.ag x)=gi t.aA.aE x) (pt:∀ x:Int,0≤x→x < t.aA.aA.aE→gi t.aA.aC.To (gi t.ag x)=gi t.aC.aE x)
  (sq:∀ a:Int,0≤a→a < t.aA.aA.aG.length→gk t.aA.aC.aF (gi t.aA.ae a) (gi t.ag (gi t.aA.aA.To a))=gk t.aA.aC.aF (gi t.ag (gi t.aA.aA.aG a)) (gi t.aC.ae a)):gu t=true:=by
 unfold gu uJ uK Db
 simp only [Bool.and_eq_true,Bool.not_eq_true',beq_iff_eq,rh,rU,fb,gb,true_and]
 refine ⟨⟨⟨⟨es.symm,et.symm⟩,pl,pp⟩,?_⟩,?_⟩
 ·rw [l3]
  intro x x0 x1
  unfold BT
  rw [pf x x0 (by omega),pt x x0 (by omega)]; simp
 ·rw [l3]
  intro a a0 a1
  unfold zm
  rw [sq a a0 a1]; simp
theorem QO {t:aP} (hs:iw t) (F:CC t.aA) (G:CC t.aC) (es:t.aC.aA=t.aA.aA) (et:t.aC.aC=t.aA.aC) :
  oW t.aA t.aC t.ag=some ((((t.ag.length:Int) == t.aA.aA.aE) && n4 t.aA.aC.aG.length t.ag) && uK t):=by
 have hp:=hs.p
 unfold oW
 by_cases e1:(t.ag.length:Int)=t.aA.aA.aE
 ·rw [tu e1,cond_false,zi _ _ (by omega),aH,aH,xq e1,Bool.true_and]
  cases h:n4 t.aA.aC.aG.length t.ag with
  | false=>rfl
  | true=>
   rw [Bool.not_true,cond_false,Bool.true_and]
   have W6:=rh.1 h
   rw [yJ (n:=t.ag.length) (BT t) (fun x bg=>?_) (by unfold oV; rw [bx (by omega),cond_false])]
   ·unfold uK
    cases (ns t.ag.length).any (BT t) <;> rfl
   ·have kc:=W6 _ (dx (l:=t.ag) (j:=(x:Int)) (by omega) (by omega))
    unfold oV
    rw [bn (by omega),cond_true,cM (by omega) (by omega),aH,F.d.ju kc.1 kc.2,aH,F.vY (by omega) (by omega),aH,aH,F.d.j6 kc.1 kc.2,aH,G.vY (by omega) (by rw [es]; omega),aH,cK (by omega),jv,wJ,aH]
    rfl
 ·rw [sY e1,cond_true,aH,cond_true,tv e1]; rfl
theorem LH {t:aP} (H:THead t) {a:Int} (a0:0≤a) (a1:a < t.aA.aA.aG.length):fU t.aA t.aC t.ag a=some (zm t.aA t.aC t.ag a):=by
 have F:=H.f
 have kf:=F.c.fr a0 a1
 have kt:=F.c.to a0 a1
 have ka:=F.ar a0 a1
 have k1:=H.cp kt.1 kt.2
 have k2:=H.cp kf.1 kf.2
 have k3:=H.R4 a0 a1
 unfold fU zm
 rw [F.vf a0 a1,aH,F.d.mi ka.1 ka.2,aH,F.c.j6 a0 a1,aH,H.LG kt.1 kt.2,aH,F.d.lz ka.1 ka.2 k1.1 k1.2,aH,F.c.ju a0 a1,aH,H.LG kf.1 kf.2,aH,F.d.mi k2.1 k2.2,aH,H.R5 a0 a1,aH,F.d.lz k2.1 k2.2 k3.1 k3.2,aH]
 rfl
theorem BP {t:aP} (H:THead t) {a:Int} (a0:0≤a) (a1:a < t.aA.aA.aG.length):gV t.aA t.aC t.ag a=some (zm t.aA t.aC t.ag a):=by
 have F:=H.f
 have kf:=F.c.fr a0 a1
 have kt:=F.c.to a0 a1
 have ka:=F.ar a0 a1
 have k1:=H.cp kt.1 kt.2
 have k2:=H.cp kf.1 kf.2
 have k3:=H.R4 a0 a1
 unfold gV zm
 rw [F.vf a0 a1,aH,F.c.j6 a0 a1,aH,H.LG kt.1 kt.2,aH,F.d.qy ka.1 ka.2 k1.1 k1.2,aH,F.c.ju a0 a1,aH,H.LG kf.1 kf.2,aH,H.R5 a0 a1,aH,F.d.qy k2.1 k2.2 k3.1 k3.2,aH]
 rfl
theorem On {n k:Nat} {A0:Int→Option (Out Int Int)} {p:Int→Bool} (a0:∀ a:Nat,a < n→A0 a=bif !(p a) then some (.ret (a:Int)) else some (.norm ((a+1:Nat):Int))) (a3:A0 n=some (.exit k (n:Int))) :
  ∃ y,ao (S:=Unit) (ai (af k (aj A0 (0:Int))) fun _=>some (.ret (-1:Int)))=some y∧decide (y < 0) = !((ns n).any fun a=>!(p a)):=by
 have hx:∀ i:Nat,i < n→((!(p i))=false∧A0 i=some (.norm ((i+1:Nat):Int)))∨((!(p i))=true∧∃ y,A0 i=some (.ret y)∧0≤y):=by
  intro i hi
  rw [a0 i hi]
  cases p i with
  | true=>exact .inl ⟨rfl,rfl⟩
  | false=>exact .inr ⟨rfl,_,rfl,by omega⟩
 rcases acD (S:=Unit) (f:=fun _=>some (.ret (-1:Int))) (n:=n) (fun a=>!(p a)) (fun y:Int=>0≤y) hx a3 with ⟨h1,h2⟩ | ⟨h1,y,h2,h3⟩
 ·rw [h1,h2]; exact ⟨_,rfl,bn (by decide)⟩
 ·rw [h1,h2]; exact ⟨y,rfl,bx (by omega)⟩
theorem LJ {t:aP} (H:THead t):∃ y,nF t.aA t.aC t.ag=some y∧decide (y < 0)=Db t:=by
 have cm:=H.f.c.m
 have al:=H.f.al
 unfold nF Db
 refine On (n:=t.aA.aA.aG.length) (fun a ha=>?_) (by unfold nQ; rw [bx (by omega),cond_false])
 unfold nQ
 rw [bn (by omega),cond_true,LH H (by omega) (by omega),aH,cK (by omega)]
theorem LL {t:aP} (H:THead t):∃ y,kI t (fun a0 a1 a2 a3=>gV a0 a1 a2 a3)=some y∧decide (y < 0)=Db t:=by
 have cm:=H.f.c.m
 have al:=H.f.al
 unfold kI Db
 refine On (n:=t.aA.aA.aG.length) (fun a ha=>?_) (by unfold lA; rw [bx (by omega),cond_false])
 unfold lA
 show (bif decide ((a:Int) < (t.aA.ae.length:Int)) then (gV t.aA t.aC t.ag a>>=_) else _)=_
 rw [bn (by omega),cond_true,BP H (by omega) (by omega),aH,cK (by omega)]
theorem EN {t:aP} (hs:iw t):mK t=some (gu t):=by
 unfold mK
 have key:nE t=some (uJ t && uK t):=by
  unfold nE uJ
  rw [vR hs.s,aH]
  cases h1:j8 t.aA with
  | false=>rfl
  | true=>
   rw [cond_true,vR hs.t,aH]
   cases h2:j8 t.aC with
   | false=>rfl
   | true=>
    rw [cond_true,BS hs.s,aH]
    cases h3:mx t.aA.aA t.aC.aA && mx t.aA.aC t.aC.aC with
    | false=>rfl
    | true=>
     have h4:=h3
     simp only [Bool.and_eq_true,rU] at h4
     rw [cond_true,QO hs (rq h1) (rq h2) h4.1.symm h4.2.symm]
     simp only [Bool.true_and,aH,Bool.and_assoc]
     rfl
 rw [key,aH]
 unfold gu
 cases h1:uJ t with
 | false=>rfl
 | true=>
  cases h2:uK t with
  | false=>rfl
  | true=>
   obtain ⟨y,e1,e2⟩:=LJ (Dc h1)
   simp only [Bool.and_self,cond_true]
   rw [e1,aH,e2]; rfl
theorem EK {t:aP} (hs:iw t):fB t=some (gu t):=by
 have hp:=hs.p
 unfold fB
 have key:fY t=some (uJ t && uK t):=by
  unfold fY uJ
  rw [CE _ (by simp) (by intro c hc; simp at hc; rcases hc with rfl | rfl; exact hs.s; exact hs.t),aH]
  simp only [List.all_cons,List.all_nil,Bool.and_true]
  cases h1:j8 t.aA with
  | false=>rfl
  | true=>
   have F:=rq h1
   cases h2:j8 t.aC with
   | false=>rfl
   | true=>
    have G:=rq h2
    have dm:=F.d.m
    simp only [Bool.true_and,Bool.not_true,cond_false]
    rw [BQ hs.s,aH]
    cases h3:mx t.aA.aA t.aC.aA && mx t.aA.aC t.aC.aC with
    | false=>rfl
    | true=>
     have h4:=h3
     simp only [Bool.and_eq_true,rU] at h4
     rw [Bool.not_true,cond_false]
     by_cases e1:(t.ag.length:Int)=t.aA.aA.aE
     ·rw [tu e1,cond_false,show eK t.aA.aC=some (t.aA.aC.aG.length:Int) from rfl,aH,within _ _ (by omega) (by omega) (by omega),aH,aH,xq e1,Bool.true_and,Bool.true_and]
      cases h:n4 t.aA.aC.aG.length t.ag with
      | false=>rfl
      | true=>
       rw [Bool.not_true,cond_false,Bool.true_and]
       have W6:=rh.1 h
       rw [yJ (n:=t.ag.length) (BT t) (fun x bg=>?_) (by unfold gR; rw [bx (by omega),cond_false])]
       ·unfold uK
        cases (ns t.ag.length).any (BT t) <;> rfl
       ·have kc:=W6 _ (dx (l:=t.ag) (j:=(x:Int)) (by omega) (by omega))
        unfold gR
        rw [bn (by omega),cond_true,cM (by omega) (by omega),aH,show fH t.aA.aC (gi t.ag x)=some (rO.mk (gi t.aA.aC.aG (gi t.ag x)) (gi t.aA.aC.To (gi t.ag x))) by unfold fH; rw [F.d.ju kc.1 kc.2,aH,F.d.j6 kc.1 kc.2,aH]; rfl,aH,F.vY (by omega) (by omega),aH,G.vY (by omega) (by rw [← h4.1]; omega),aH,cK (by omega)]
        unfold BT
        rw [Bool.not_and]
        rfl
     ·rw [sY e1,cond_true,aH,cond_true,tv e1]; rfl
 rw [key,aH]
 unfold gu
 cases h1:uJ t with
 | false=>rfl
 | true=>
  cases h2:uK t with
  | false=>rfl
  | true=>
   obtain ⟨y,e1,e2⟩:=LL (Dc h1)
   simp only [Bool.and_self,cond_true]
   rw [e1,aH,e2]; rfl
theorem wH (l:List aP) (hl:l.length≤1048576) (hs:∀ c∈l,iw c):lP l=some (l.all gu):=by
 unfold lP
 refine (congrArg ao (kn l (fun c=>!gu c) (fun i=>(i:Int)) rfl ?_ ?_ (e:=(l.length:Int)) (y:=false) ?_)).trans ?_
 ·intro i x hx hp
  have hi:=cq hx
  unfold kC
  rw [bn (by omega),cond_true,da,hx,aH,EK (hs x (List.mem_of_getElem? hx)),aH,show (!gu x)=false from hp,cond_false,cK (by omega)]
 ·intro i x hx hp
  have hi:=cq hx
  unfold kC
  rw [bn (by omega),cond_true,da,hx,aH,EK (hs x (List.mem_of_getElem? hx)),aH,show (!gu x)=true from hp,cond_true]
 ·unfold kC
  rw [bx (by omega),cond_false]
 ·rw [ov]
  cases l.all gu <;> rfl
theorem yx {f g:aN} {p:List Int} (hf:ie f) (hg:ie g) (hp:p.length≤1048576):gM f g p=some (aP.mk f g p):=by
 unfold gM
 rw [Iu hf,aH,Iu hg,aH,gv p hp,aH]; rfl
theorem FP {f g:aN} {p:List Int} (hf:ie f) (hg:ie g) (hp:p.length≤1048576):gX f g p=some (aP.mk f g p):=by
 unfold gX
 rw [FN hf,aH,FN hg,aH,Eg p hp,aH]; rfl
def l8 (d:aI) (a b:List Int):List Int:=ep a.length fun i=>gk d.aF (gi a i) (gi b i)
theorem nt (d:aI) (a b:List Int):(l8 d a b).length=a.length:=by unfold l8; rw [dC]
theorem wM {d:aI} {a b:List Int} {x:Int} (h0:0≤x) (h1:x < a.length):gi (l8 d a b) x=gk d.aF (gi a x) (gi b x):=sP h0 h1
theorem Iv {d:aI} (C:rW d) {a b:List Int} (hl:b.length=a.length) (ha:a.length≤1048576) (h1:∀ y∈a,0≤y∧y < d.aG.length) (h2:∀ y∈b,0≤y∧y < d.aG.length):iJ d a b=some (l8 d a b):=by
 unfold iJ
 rw [D9 (by omega) (by omega),aH]
 have qd:(l8 d a b).length=a.length:=nt _ _ _
 refine (congrArg ao (tT (ns a.length) (fun i=>((i:Int),(l8 d a b).take i++List.replicate (a.length - i) (0:Int))) (by simp) ?_ (e:=((a.length:Int),l8 d a b)) ?_)).trans rfl
 ·intro i x hx
  obtain ⟨rfl,hi⟩:=ic hx
  have hg:(l8 d a b)[i]? = some (gk d.aF (gi a i) (gi b i)):=o4 _ hi
  have k1:=h1 _ (dx (l:=a) (j:=(i:Int)) (by omega) (by omega))
  have k2:=h2 _ (dx (l:=b) (j:=(i:Int)) (by omega) (by omega))
  have hc:=H4 (l8 d a b) (0:Int) hg
  have N1:=get_copy (l8 d a b) (0:Int) hg
  rw [qd] at hc N1
  show fM d a b (i:Int) _=_
  unfold fM
  rw [bn (by omega),cond_true,cM (by omega) (by omega),aH,cM (by omega) (by omega),aH,C.qy k1.1 k1.2 k2.1 k2.2,aH,da,N1,aH,cK (by omega),Int.toNat_natCast,hc]
 ·rw [eP]
  show fM d a b _ _=_
  unfold fM
  rw [bx (by omega),cond_false,Nat.sub_self,List.take_of_length_le (by omega)]
  simp
theorem Iw {d:aI} (C:rW d) {a b:List Int} (hl:b.length=a.length) (ha:a.length≤1048576) (h1:∀ y∈a,0≤y∧y < d.aG.length) (h2:∀ y∈b,0≤y∧y < d.aG.length):oZ d a b=some (l8 d a b):=by
 unfold oZ
 refine (congrArg ao (tA a.length (fun i=>gk d.aF (gi a i) (gi b i)) (fun acc i=>(acc,(i:Int))) rfl ?_ ?_)).trans rfl
 ·intro i acc hi WA
  have k1:=h1 _ (dx (l:=a) (j:=(i:Int)) (by omega) (by omega))
  have k2:=h2 _ (dx (l:=b) (j:=(i:Int)) (by omega) (by omega))
  show kD d a b acc i=_
  unfold kD
  rw [bn (by omega),cond_true,cM (by omega) (by omega),aH,C.mi k1.1 k1.2,aH,cM (by omega) (by omega),aH,C.lz k1.1 k1.2 k2.1 k2.2,aH,eN (by omega) (by omega),aH,cK (by omega)]
 ·intro acc _
  show kD d a b acc _=_
  unfold kD
  rw [bx (by omega),cond_false]
end Go.Proofs.YtkcpiblgpnjanaaGreat
namespace Go.Proofs.YtkcpiblgpnjanaaGreat
open Go Go.Li
set_option linter.unusedVariables false
def vZ (s t:aP):aP:=aP.mk s.aA t.aC (l8 s.aA.aC s.ag t.ag)
def Oo (f:aN):aP:=aP.mk f f (thenS f.aE f.aC.aJ)
theorem uI {s t:aP} (hs:iw s) (ht:iw t):iw (vZ s t):=⟨hs.s,ht.t,by show (l8 _ _ _).length≤_; rw [nt]; exact hs.p⟩
theorem Od {f:aN} (hf:ie f):iw (Oo f):=⟨hf,hf,by show (thenS _ _).length≤_; rw [sH]; exact hf.o⟩
section
variable {t:aP} {g:aN} (ht:gu t=true) (hg:j8 g=true) (e:t.aA.aC=g.aA)
include ht hg e
omit hg e in
end
section
variable {t:aP} {f:aN} (hf:j8 f=true) (ht:gu t=true) (e:f.aC=t.aA.aA)
include hf ht e
end
section
variable {s t:aP} (hs:gu s=true) (ht:gu t=true) (e:s.aC=t.aA)
include hs ht e
theorem JS:t.ag.length=s.ag.length∧(∀ y∈s.ag,0≤y∧y < s.aA.aC.aG.length)∧∀ y∈t.ag,0≤y∧y < s.aA.aC.aG.length:=by
 have S:=rn hs
 have N:=rn ht
 have h1:=S.pl
 have h2:=N.pl
 rw [← e,S.es] at h2
 refine ⟨by omega,S.pp,fun y hy=>?_⟩
 have:=N.pp y hy
 rw [← e,S.et] at this
 exact this
theorem Io:gu (vZ s t)=true:=by
 have S:=rn hs
 have N:=rn ht
 have hl:=S.pl
 have D:=S.f.d
 have e1:t.aA.aC=s.aA.aC:=by rw [← e]; exact S.et
 have e2:t.aA.aA=s.aA.aA:=by rw [← e]; exact S.es
 have gc:∀ x:Int,0≤x→x < s.aA.aA.aE→gi (l8 s.aA.aC s.ag t.ag) x=gk s.aA.aC.aF (gi s.ag x) (gi t.ag x):=fun x x0 x1=>wM x0 (by omega)
 have R7:∀ x:Int,0≤x→x < s.aA.aA.aE→0≤gi t.ag x∧gi t.ag x < s.aA.aC.aG.length:=fun x x0 x1=>by rw [← e1]; exact N.cp x0 (by rw [e2]; exact x1)
 have Zs:∀ x:Int,0≤x→x < s.aA.aA.aE→gi s.aA.aC.aG (gi t.ag x)=gi s.aC.aE x:=fun x x0 x1=>by rw [← e1,N.pf x x0 (by rw [e2]; exact x1),e]
 have Zt:∀ x:Int,0≤x→x < s.aA.aA.aE→gi s.aA.aC.To (gi t.ag x)=gi t.aC.aE x:=fun x x0 x1=>by rw [← e1,N.pt x x0 (by rw [e2]; exact x1)]
 have hm:∀ x:Int,0≤x→x < s.aA.aA.aE→gi s.aA.aC.To (gi s.ag x)=gi s.aA.aC.aG (gi t.ag x):=fun x x0 x1=>by rw [Zs x x0 x1,S.pt x x0 x1]
 have kc:∀ x:Int,0≤x→x < s.aA.aA.aE→_:=fun x x0 x1=>D.cell _ _ (S.cp x0 x1).1 (S.cp x0 x1).2 (R7 x x0 x1).1 (R7 x x0 x1).2 (hm x x0 x1)
 refine Im (t:=vZ s t) S.fb N.gb (N.es.trans e2) (N.et.trans e1) ?_ ?_ ?_ ?_ ?_
 ·show ((l8 _ _ _).length:Int)=_; rw [nt]; exact S.pl
 ·intro y hy
  replace hy:y∈l8 s.aA.aC s.ag t.ag:=hy
  obtain ⟨i,i0,i1,hg⟩:=xA hy
  rw [nt] at i1
  rw [gc _ i0 (by omega)] at hg
  have:=kc i i0 (by omega)
  rw [hg] at this
  exact ⟨this.1,this.2.1⟩
 ·intro x x0 x1
  show gi s.aA.aC.aG (gi (l8 s.aA.aC s.ag t.ag) x)=gi s.aA.aE x
  rw [gc x x0 x1,(kc x x0 x1).2.2.1,S.pf x x0 x1]
 ·intro x x0 x1
  show gi s.aA.aC.To (gi (l8 s.aA.aC s.ag t.ag) x)=gi t.aC.aE x
  rw [gc x x0 x1,(kc x x0 x1).2.2.2,Zt x x0 x1]
 ·intro a a0 a1
  replace a1:a < s.aA.aA.aG.length:=a1
  have kf:=S.f.c.fr a0 a1
  have kt:=S.f.c.to a0 a1
  have k1:=S.f.ar a0 a1
  have k2:=S.R4 a0 a1
  have k3:=N.R4 (a:=a) a0 (by rw [e2]; exact a1)
  rw [e1] at k3
  have sf:=S.cp kf.1 kf.2
  have Zu:=S.cp kt.1 kt.2
  have tf:=R7 _ kf.1 kf.2
  have tt:=R7 _ kt.1 kt.2
  have q1:=S.sq a a0 a1
  have q2:=N.sq a a0 (by rw [e2]; exact a1)
  rw [e1,e2,← e] at q2
  have m1:gi s.aA.aC.To (gi s.aA.ae a)=gi s.aA.aC.aG (gi s.ag (gi s.aA.aA.To a)):=by rw [S.f.to a a0 a1,S.pf _ kt.1 kt.2]
  have m2:gi s.aA.aC.To (gi s.ag (gi s.aA.aA.aG a))=gi s.aA.aC.aG (gi s.aC.ae a):=by
   rw [S.pt _ kf.1 kf.2]
   have:=S.g.fr a a0 (by rw [S.es]; exact a1)
   rw [S.et,S.es] at this
   exact this.symm
  have m3:gi s.aA.aC.To (gi s.aC.ae a)=gi s.aA.aC.aG (gi t.ag (gi s.aA.aA.To a)):=by
   rw [Zs _ kt.1 kt.2]
   have:=S.g.to a a0 (by rw [S.es]; exact a1)
   rw [S.et,S.es] at this
   exact this
  have m4:gi s.aA.aC.To (gi t.ag (gi s.aA.aA.aG a))=gi s.aA.aC.aG (gi t.aC.ae a):=by
   rw [Zt _ kf.1 kf.2]
   have:=N.g.fr a a0 (by rw [N.es,e2]; exact a1)
   rw [N.et,e1,N.es,e2] at this
   exact this.symm
  show gk s.aA.aC.aF (gi s.aA.ae a) (gi (l8 s.aA.aC s.ag t.ag) (gi s.aA.aA.To a))=gk s.aA.aC.aF (gi (l8 s.aA.aC s.ag t.ag) (gi s.aA.aA.aG a)) (gi t.aC.ae a)
  rw [gc _ kt.1 kt.2,gc _ kf.1 kf.2,← D.assoc _ _ _ k1.1 k1.2 Zu.1 Zu.2 tt.1 tt.2 m1 (hm _ kt.1 kt.2),q1,D.assoc _ _ _ sf.1 sf.2 k2.1 k2.2 tt.1 tt.2 m2 m3,q2,D.assoc _ _ _ sf.1 sf.2 tf.1 tf.2 k3.1 k3.2 (hm _ kf.1 kf.2) m4]
end
theorem Oq {f:aN} (F:CC f):∀ x∈f.aE,0≤x∧x < f.aC.aJ.length:=by
 have h:=F.d.il
 intro x hx
 have:=F.oo x hx
 omega
theorem Tg {f:aN} (hf:j8 f=true):gu (Oo f)=true:=by
 have F:=rq hf
 have il:=F.d.il
 have gc:∀ x:Int,0≤x→x < f.aA.aE→gi (thenS f.aE f.aC.aJ) x=gi f.aC.aJ (gi f.aE x):=fun x x0 x1=>Il x0 (by rw [F.ol]; exact x1)
 refine Im (t:=Oo f) hf hf rfl rfl ?_ ?_ ?_ ?_ ?_
 ·show ((thenS _ _).length:Int)=_; rw [sH]; exact F.ol
 ·refine fun y hy=>N8 (Oq F) (fun z hz=>?_) hy
  obtain ⟨i,i0,i1,hg⟩:=xA hz
  have:=F.d.id (x:=i) i0 (by omega)
  rw [hg] at this
  exact this
 ·intro x x0 x1
  show gi f.aC.aG (gi (thenS f.aE f.aC.aJ) x)=gi f.aE x
  rw [gc x x0 x1,F.d.wk _ (F.ob x0 x1).1 (F.ob x0 x1).2]
 ·intro x x0 x1
  show gi f.aC.To (gi (thenS f.aE f.aC.aJ) x)=gi f.aE x
  rw [gc x x0 x1,F.d.yc _ (F.ob x0 x1).1 (F.ob x0 x1).2]
 ·intro a a0 a1
  replace a1:a < f.aA.aG.length:=a1
  have kf:=F.c.fr a0 a1
  have kt:=F.c.to a0 a1
  have k1:=F.ar a0 a1
  show gk f.aC.aF (gi f.ae a) (gi (thenS f.aE f.aC.aJ) (gi f.aA.To a))=gk f.aC.aF (gi (thenS f.aE f.aC.aJ) (gi f.aA.aG a)) (gi f.ae a)
  rw [gc _ kf.1 kf.2,gc _ kt.1 kt.2,← F.to a a0 a1,← F.fr a a0 a1,F.d.Lp _ k1.1 k1.2,F.d.Ge _ k1.1 k1.2]
end Go.Proofs.YtkcpiblgpnjanaaGreat
