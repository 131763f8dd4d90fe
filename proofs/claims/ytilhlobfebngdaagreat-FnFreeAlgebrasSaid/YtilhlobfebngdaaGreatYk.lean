/- Functors: what the reference's and the program's looks at them give. No condition beside those that each theorem names. -/
import Derived.Test.YtilhlobfebngdaaGreatVj
namespace Go.Proofs.YtilhlobfebngdaaGreat
open Go Go.Li
set_option linter.unusedVariables false
structure j6 (f:aQ):Prop where
 s:gq f.aB
 t:gq f.aH
 o:f.aA.length≤1048576
 a:f.ab.length≤1048576
def w8 (f:aQ):Bool:=o7 f.aB && (o7 f.aH && ((((f.aA.length:Int) == f.aB.aA) && (f.ab.length == f.aB.aG.length)) && (kj f.aH.aA f.aA && kj f.aH.aG.length f.ab)))
def zv (f:aQ) (a:Int):Bool:=(gi f.aH.aG (gi f.ab a) != gi f.aA (gi f.aB.aG a)) || (gi f.aH.To (gi f.ab a) != gi f.aA (gi f.aB.To a))
def B0 (f:aQ) (x:Int):Bool:=gi f.ab (gi f.aB.aJ x) != gi f.aH.aJ (gi f.aA x)
def we (f:aQ) (a b:Int):Bool:=(gi f.aB.To a == gi f.aB.aG b) && (gi f.ab (gk f.aB.aE a b) != gk f.aH.aE (gi f.ab a) (gi f.ab b))
def z7 (f:aQ):Bool:=!((ns f.aB.aG.length).any (zv f))
def GA (f:aQ):Bool:=!((ns f.aB.aA.toNat).any (B0 f)) && !((ns f.aB.aG.length).any fun a=>(ns f.aB.aG.length).any (we f a))
def ja (f:aQ):Bool:=w8 f && (z7 f && GA f)
structure FHead (f:aQ):Prop where
 c:km f.aB
 d:km f.aH
 ol:(f.aA.length:Int)=f.aB.aA
 al:f.ab.length=f.aB.aG.length
 oo:∀ y∈f.aA,0≤y∧y < f.aH.aA
 aa:∀ y∈f.ab,0≤y∧y < f.aH.aG.length
theorem Si {f:aQ} (h:w8 f=true):FHead f:=by
 unfold w8 at h
 simp only [Bool.and_eq_true,beq_iff_eq,ou] at h
 obtain ⟨h1,h2,⟨h3,h4⟩,h5,h6⟩:=h
 exact ⟨zl h1,zl h2,h3,h4,h5,h6⟩
namespace FHead
variable {f:aQ} (H:FHead f)
include H
theorem zo {x:Int} (h0:0≤x) (h1:x < f.aB.aA):idx f.aA x=some (gi f.aA x):=bS h0 (by rw [H.ol]; exact h1)
theorem wb {a:Int} (h0:0≤a) (h1:a < f.aB.aG.length):idx f.ab a=some (gi f.ab a):=bS h0 (by rw [H.al]; exact h1)
theorem ob {x:Int} (h0:0≤x) (h1:x < f.aB.aA):0≤gi f.aA x∧gi f.aA x < f.aH.aA:=H.oo _ (cy h0 (by rw [H.ol]; exact h1))
theorem ar {a:Int} (h0:0≤a) (h1:a < f.aB.aG.length):0≤gi f.ab a∧gi f.ab a < f.aH.aG.length:=H.aa _ (cy h0 (by rw [H.al]; exact h1))
end FHead
structure Ns (f:aQ):Prop extends FHead f where
 fr:∀ a:Int,0≤a→a < f.aB.aG.length→gi f.aH.aG (gi f.ab a)=gi f.aA (gi f.aB.aG a)
 to:∀ a:Int,0≤a→a < f.aB.aG.length→gi f.aH.To (gi f.ab a)=gi f.aA (gi f.aB.To a)
theorem Kk {f:aQ} (h1:w8 f=true) (h2:z7 f=true):Ns f:=by
 unfold z7 at h2
 rw [Bool.not_eq_true',ir] at h2
 refine { Si h1 with fr:=fun a a0 a1=>?_,to:=fun a a0 a1=>?_ } <;>
 ·have:=h2 a a0 a1
  unfold zv at this
  simp only [Bool.or_eq_false_iff,bne_eq_false_iff_eq] at this
  first | exact this.1 | exact this.2
structure FL (f:aQ):Prop extends Ns f where
 un:∀ x:Int,0≤x→x < f.aB.aA→gi f.ab (gi f.aB.aJ x)=gi f.aH.aJ (gi f.aA x)
 co:∀ a b:Int,0≤a→a < f.aB.aG.length→0≤b→b < f.aB.aG.length→gi f.aB.To a=gi f.aB.aG b→gi f.ab (gk f.aB.aE a b)=gk f.aH.aE (gi f.ab a) (gi f.ab b)
theorem jj {f:aQ} (h:ja f=true):FL f:=by
 unfold ja GA at h
 simp only [Bool.and_eq_true,Bool.not_eq_true'] at h
 obtain ⟨h1,h2,h3,h4⟩:=h
 have E:=Kk h1 h2
 have ho:=E.c.o0
 rw [ir] at h3 h4
 refine { E with un:=fun x x0 x1=>?_,co:=fun a b a0 a1 b0 b1 e=>?_ }
 ·have:=h3 x x0 (by omega)
  unfold B0 at this
  simpa using this
 ·have:=(ir.1 (h4 a a0 a1)) b b0 b1
  unfold we at this
  simpa [e] using this
theorem Pa {f:aQ} (h1:o7 f.aB=true) (h2:o7 f.aH=true) (ol:(f.aA.length:Int)=f.aB.aA) (al:f.ab.length=f.aB.aG.length) (oo:∀ y∈f.aA,0≤y∧y < f.aH.aA) (aa:∀ y∈f.ab,0≤y∧y < f.aH.aG.length)
  (fr:∀ a:Int,0≤a→a < f.aB.aG.length→gi f.aH.aG (gi f.ab a)=gi f.aA (gi f.aB.aG a)) (to:∀ a:Int,0≤a→a < f.aB.aG.length→gi f.aH.To (gi f.ab a)=gi f.aA (gi f.aB.To a))
  (un:∀ x:Int,0≤x→x < f.aB.aA→gi f.ab (gi f.aB.aJ x)=gi f.aH.aJ (gi f.aA x))
  (co:∀ a b:Int,0≤a→a < f.aB.aG.length→0≤b→b < f.aB.aG.length→gi f.aB.To a=gi f.aB.aG b→gi f.ab (gk f.aB.aE a b)=gk f.aH.aE (gi f.ab a) (gi f.ab b)):ja f=true:=by
 have C:=zl h1
 have hc:=C.o0
 unfold ja w8 z7 GA
 simp only [Bool.and_eq_true,Bool.not_eq_true',beq_iff_eq,ou,h1,h2,true_and]
 refine ⟨⟨⟨ol,al⟩,oo,aa⟩,?_,?_,?_⟩
 ·rw [ir]
  intro a a0 a1
  unfold zv
  rw [fr a a0 a1,to a a0 a1]; simp
 ·rw [ir]
  intro x x0 x1
  unfold B0
  rw [un x x0 (by omega)]; simp
 ·rw [ir]
  intro a a0 a1
  rw [ir]
  intro b b0 b1
  unfold we
  by_cases e:gi f.aB.To a=gi f.aB.aG b
  ·rw [co a b a0 a1 b0 b1 e]; simp
  ·simp [e]
theorem Pk {f:aQ} (hs:j6 f):tB f=some (ja f):=by
 have ho:=hs.o
 have ha:=hs.a
 unfold tB ja w8
 rw [O6 hs.s,aF]
 cases h1:o7 f.aB with
 | false=>rfl
 | true=>
  have C:=zl h1
  rw [O6 hs.t,aF]
  cases h2:o7 f.aH with
  | false=>rfl
  | true=>
   have T:=zl h2
   simp only [Bool.not_true,cond_false,Bool.true_and]
   by_cases e1:(f.aA.length:Int)=f.aB.aA
   ·rw [mq e1,cond_false,ma e1,Bool.true_and]
    by_cases e2:f.ab.length=f.aB.aG.length
    ·rw [mq (by omega),aF,cond_false,AO _ _ (by omega),aF,ma e2,Bool.true_and]
     cases h3:kj f.aH.aA f.aA with
     | false=>rfl
     | true=>
      rw [AO _ _ (by omega),aF]
      cases h4:kj f.aH.aG.length f.ab with
      | false=>rfl
      | true=>
       have H:FHead f:=⟨C,T,e1,e2,ou.1 h3,ou.1 h4⟩
       have cm:=C.m
       have co:=C.o8
       simp only [Bool.not_true,cond_false,aF,Bool.and_self,Bool.true_and]
       rw [wa (n:=f.aB.aG.length) (zv f) (fun a bp=>?_) (by unfold sP; rw [br (by omega),cond_false])]
       ·unfold z7
        cases h5:(ns f.aB.aG.length).any (zv f) with
        | true=>rfl
        | false=>
         rw [cond_false,Bool.not_false,Bool.true_and]
         rw [wa (n:=f.aB.aA.toNat) (B0 f) (fun x bp=>?_) (by unfold sQ; rw [br (by omega),cond_false])]
         ·unfold GA
          cases h6:(ns f.aB.aA.toNat).any (B0 f) with
          | true=>rfl
          | false=>
           rw [cond_false,Bool.not_false,Bool.true_and]
           have E:Ns f:=Kk (by unfold w8; simp [h1,h2,h3,h4,e1,e2]) (by unfold z7; rw [h5]; rfl)
           rw [wa (n:=f.aB.aG.length) (fun a=>(ns f.aB.aG.length).any (we f a)) (fun a bp=>?_) (by unfold sS; rw [br (by omega),cond_false])]
           ·cases (ns f.aB.aG.length).any fun a=>(ns f.aB.aG.length).any (we f a) <;> rfl
           ·unfold sS
            rw [bb (by omega),cond_true]
            rw [wa (n:=f.aB.aG.length) (we f a) (fun b hb=>?_) (by unfold sR; rw [br (by omega),cond_false])]
            ·rw [cA (by omega)]
            ·unfold sR
             rw [bb (by omega),cond_true,C.jf (by omega) (by omega),aF,C.iq (by omega) (by omega),aF]
             unfold we
             by_cases e:gi f.aB.To a=gi f.aB.aG b
             ·have k:=C.cell a b (by omega) (by omega) (by omega) (by omega) e
              have ka:=H.ar (a:=(a:Int)) (by omega) (by omega)
              have kb:=H.ar (a:=(b:Int)) (by omega) (by omega)
              rw [ma e,cond_true,C.me (by omega) (by omega),aF,C.lv (by omega) (by omega) (by omega) (by omega),aF,H.wb k.1 k.2.1,aF,H.wb (by omega) (by omega),aF,T.me ka.1 ka.2,aF,H.wb (by omega) (by omega),aF,T.lv ka.1 ka.2 kb.1 kb.2,aF,aF,Bool.true_and,cA (by omega)]; rfl
             ·rw [nq e,cond_false,aF,Bool.false_and,cA (by omega)]; rfl
         ·have kx:=H.ob (x:=(x:Int)) (by omega) (by omega)
          have ki:=C.id (x:=(x:Int)) (by omega) (by omega)
          unfold sQ
          rw [bb (by omega),cond_true,C.nh (by omega) (by omega),aF,H.wb ki.1 ki.2,aF,H.zo (by omega) (by omega),aF,T.nh kx.1 kx.2,aF,cA (by omega)]
          rfl
       ·have ka:=H.ar (a:=(a:Int)) (by omega) (by omega)
        have kf:=C.fr (f:=(a:Int)) (by omega) (by omega)
        have kt:=C.to (f:=(a:Int)) (by omega) (by omega)
        unfold sP
        rw [bb (by omega),cond_true,H.wb (by omega) (by omega),aF,T.iq ka.1 ka.2,aF,C.iq (by omega) (by omega),aF,H.zo kf.1 kf.2,aF,aF,T.jf ka.1 ka.2,aF,C.jf (by omega) (by omega),aF,H.zo kt.1 kt.2,aF,cA (by omega),p9,yn,aF]
        rfl
    ·rw [o6 (by omega),aF,cond_true,nq e2]; rfl
   ·rw [o6 e1,cond_true,aF,cond_true,nq e1]; rfl
theorem Pw {f:aQ} (hs:j6 f) (C:km f.aB) (T:km f.aH):lR f=some (((((f.aA.length:Int) == f.aB.aA) && (f.ab.length == f.aB.aG.length)) && (kj f.aH.aA f.aA && kj f.aH.aG.length f.ab)) && (z7 f && GA f)):=by
 have ho:=hs.o
 have ha:=hs.a
 have cm:=C.m
 have co:=C.o8
 have tm:=T.m
 have to:=T.o8
 have t0:=T.o0
 unfold lR
 by_cases e1:(f.aA.length:Int)=f.aB.aA
 ·rw [mq e1,cond_false,ma e1,Bool.true_and]
  rw [show dH f.aB=some (f.aB.aG.length:Int) from rfl,aF]
  by_cases e2:f.ab.length=f.aB.aG.length
  ·rw [mq (by omega),cond_false,within _ _ (by omega) (by omega) (by omega),aF,ma e2,Bool.true_and]
   cases h3:kj f.aH.aA f.aA with
   | false=>rfl
   | true=>
    rw [Bool.not_true,cond_false,show dH f.aH=some (f.aH.aG.length:Int) from rfl,aF,within _ _ (by omega) (by omega) (by omega),aF]
    cases h4:kj f.aH.aG.length f.ab with
    | false=>rfl
    | true=>
     have H:FHead f:=⟨C,T,e1,e2,ou.1 h3,ou.1 h4⟩
     have il:=C.il
     have kl:=C.kl
     simp only [Bool.not_true,cond_false,aF,Bool.and_self,Bool.true_and]
     rw [wa (n:=f.aB.aG.length) (zv f) (fun a bp=>?_) (by unfold mI; rw [br (by omega),cond_false])]
     ·unfold z7
      cases h5:(ns f.aB.aG.length).any (zv f) with
      | true=>rfl
      | false=>
       rw [cond_false,Bool.not_false,Bool.true_and]
       rw [wa (n:=f.aB.aA.toNat) (B0 f) (fun x bp=>?_) (by unfold mJ; rw [br (by omega),cond_false])]
       ·unfold GA
        cases h6:(ns f.aB.aA.toNat).any (B0 f) with
        | true=>rfl
        | false=>
         rw [cond_false,Bool.not_false,Bool.true_and]
         rw [wa (n:=f.aB.aG.length) (fun a=>(ns f.aB.aG.length).any (we f a)) (fun a bp=>?_) (by unfold mL; rw [br (by omega),cond_false])]
         ·cases (ns f.aB.aG.length).any fun a=>(ns f.aB.aG.length).any (we f a) <;> rfl
         ·unfold mL
          have hr:=C.row (a:Int) (by omega) (by omega)
          rw [bb (by omega),cond_true,C.me (by omega) (by omega),aF]
          rw [wa (n:=f.aB.aG.length) (we f a) (fun b hb=>?_) (by unfold mK; rw [br (by omega),cond_false])]
          ·rw [cA (by omega)]
          ·unfold mK
           rw [bb (by omega),cond_true,C.lv (by omega) (by omega) (by omega) (by omega),aF]
           unfold we
           by_cases e:gi f.aB.To a=gi f.aB.aG b
           ·have k:=C.cell a b (by omega) (by omega) (by omega) (by omega) e
            have ka:=H.ar (a:=(a:Int)) (by omega) (by omega)
            have kb:=H.ar (a:=(b:Int)) (by omega) (by omega)
            rw [ma e,bb (show gk f.aB.aE a b ≥ 0 from k.1),cond_true,H.wb k.1 k.2.1,aF,H.wb (by omega) (by omega),aF,H.wb (by omega) (by omega),aF,T.qn ka.1 ka.2 kb.1 kb.2,aF,aF,Bool.true_and,cA (by omega)]; rfl
           ·have:=C.none a b (by omega) (by omega) (by omega) (by omega) e
            rw [nq e,br (show ¬ gk f.aB.aE a b ≥ 0 by omega),cond_false,aF,Bool.false_and,cA (by omega)]; rfl
       ·have kx:=H.ob (x:=(x:Int)) (by omega) (by omega)
        have ki:=C.id (x:=(x:Int)) (by omega) (by omega)
        unfold mJ
        rw [bb (by omega),cond_true,C.nh (by omega) (by omega),aF,H.wb ki.1 ki.2,aF,H.zo (by omega) (by omega),aF,T.nh kx.1 kx.2,aF,cA (by omega)]
        rfl
     ·have ka:=H.ar (a:=(a:Int)) (by omega) (by omega)
      have kf:=C.fr (f:=(a:Int)) (by omega) (by omega)
      have kt:=C.to (f:=(a:Int)) (by omega) (by omega)
      unfold mI
      rw [bb (by omega),cond_true,H.wb (by omega) (by omega),aF,T.iq ka.1 ka.2,aF,C.iq (by omega) (by omega),aF,H.zo kf.1 kf.2,aF,T.jf ka.1 ka.2,aF,C.jf (by omega) (by omega),aF,H.zo kt.1 kt.2,aF,cA (by omega),p9,yn,aF]
      rfl
  ·rw [o6 (by omega),cond_true,nq e2]; rfl
 ·rw [o6 e1,cond_true,nq e1]; rfl
theorem vu (a b:List Int) (ha:a.length≤1048576) (hb:∀ x∈a,0≤x∧x < b.length):nO a b=some (thenS a b):=by
 unfold nO
 refine (congrArg aq (wS a.length (fun i=>gi b (gi a i)) (fun acc i=>(acc,(i:Int))) rfl ?_ ?_)).trans rfl
 ·intro i acc hi Nn
  have hm:=hb _ (cy (l:=a) (j:=(i:Int)) (by omega) (by omega))
  show lD a b acc i=_
  unfold lD
  rw [bb (by omega),cond_true,bS (by omega) (by omega),aF,bS hm.1 hm.2,aF,eB (by omega) (by omega),aF,cA (by omega)]
 ·intro acc _
  show lD a b acc _=_
  unfold lD
  rw [br (by omega),cond_false]
theorem KO (l:List aI) (hl:l.length≤1048576) (hs:∀ c∈l,gq c):lF l=some (l.all o7):=by
 unfold lF
 refine (congrArg aq (lp l (fun c=>!o7 c) (fun i=>(i:Int)) rfl ?_ ?_ (e:=(l.length:Int)) (y:=false) ?_)).trans ?_
 ·intro i x hx hp
  have hi:=cg hx
  unfold jL
  rw [bb (by omega),cond_true,cw,hx,aF,JS (hs x (List.mem_of_getElem? hx)),aF,show (!o7 x)=false from hp,cond_false,cA (by omega)]
 ·intro i x hx hp
  have hi:=cg hx
  unfold jL
  rw [bb (by omega),cond_true,cw,hx,aF,JS (hs x (List.mem_of_getElem? hx)),aF,show (!o7 x)=true from hp,cond_true]
 ·unfold jL
  rw [br (by omega),cond_false]
 ·rw [ov]
  cases l.all o7 <;> rfl
theorem Db {f:aQ} (hs:j6 f):gS f=some (ja f):=by
 unfold gS ja w8
 rw [KO _ (by simp) (by intro c hc; simp at hc; rcases hc with rfl | rfl; exact hs.s; exact hs.t),aF]
 simp only [List.all_cons,List.all_nil,Bool.and_true]
 cases h1:o7 f.aB with
 | false=>rfl
 | true=>
  cases h2:o7 f.aH with
  | false=>rfl
  | true=>
   rw [Bool.true_and,cond_true,Pw hs (zl h1) (zl h2)]
   rfl
theorem KP (l:List aQ) (hl:l.length≤1048576) (hs:∀ c∈l,j6 c):mM l=some (l.all ja):=by
 unfold mM
 refine (congrArg aq (lp l (fun c=>!ja c) (fun i=>(i:Int)) rfl ?_ ?_ (e:=(l.length:Int)) (y:=false) ?_)).trans ?_
 ·intro i x hx hp
  have hi:=cg hx
  unfold kY
  rw [bb (by omega),cond_true,cw,hx,aF,Db (hs x (List.mem_of_getElem? hx)),aF,show (!ja x)=false from hp,cond_false,cA (by omega)]
 ·intro i x hx hp
  have hi:=cg hx
  unfold kY
  rw [bb (by omega),cond_true,cw,hx,aF,Db (hs x (List.mem_of_getElem? hx)),aF,show (!ja x)=true from hp,cond_true]
 ·unfold kY
  rw [br (by omega),cond_false]
 ·rw [ov]
  cases l.all ja <;> rfl
theorem Px (l:List Int) (hl:l.length≤1048576):jE l=some l:=by
 unfold jE
 rw [eB (by simp; omega) (by simp; omega),aF]; rfl
theorem D4 {c d:aI} {o a:List Int} (hc:gq c) (hd:gq d) (ho:o.length≤1048576) (ha:a.length≤1048576):nX c d o a=some (aQ.mk c d o a):=by
 unfold nX
 rw [JZ hc,aF,JZ hd,aF,Px o ho,aF,Px a ha,aF]; rfl
theorem mr {c d:aI} {o a:List Int} (hc:gq c) (hd:gq d) (ho:o.length≤1048576) (ha:a.length≤1048576):gE c d o a=some (aQ.mk c d o a):=by
 unfold gE
 rw [zn hc,aF,zn hd,aF,fc o ho,aF,fc a ha,aF]; rfl
def r5 (f g:aQ):aQ:=aQ.mk f.aB g.aH (thenS f.aA g.aA) (thenS f.ab g.ab)
theorem iw (a b:List Int):(thenS a b).length=a.length:=by unfold thenS; rw [cS]
theorem KM {f g:aQ} (hf:j6 f) (hg:j6 g):j6 (r5 f g):=⟨hf.s,hg.t,by show (thenS _ _).length≤_; rw [iw]; exact hf.o,by show (thenS _ _).length≤_; rw [iw]; exact hf.a⟩
section
variable {f g:aQ} (F:FHead f) (G:FHead g) (e:f.aH=g.aB)
include F G e
theorem Dc:(∀ x∈f.aA,0≤x∧x < g.aA.length)∧∀ x∈f.ab,0≤x∧x < g.ab.length:=by
 have h1:=G.ol
 have h2:=G.al
 rw [← e] at h1 h2
 exact ⟨fun x hx=>⟨(F.oo x hx).1,by have:=(F.oo x hx).2; omega⟩,fun x hx=>⟨(F.aa x hx).1,by have:=(F.aa x hx).2; omega⟩⟩
theorem Pm (hf:j6 f) (hg:j6 g):lS f g=some (r5 f g):=by
 obtain ⟨h1,h2⟩:=Dc F G e
 unfold lS
 rw [J3 _ _ hf.o h1,aF,J3 _ _ hf.a h2,aF,D4 hf.s hg.t (by rw [iw]; exact hf.o) (by rw [iw]; exact hf.a),aF]; rfl
theorem Pl (hf:j6 f) (hg:j6 g):jG f g=some (r5 f g):=by
 obtain ⟨h1,h2⟩:=Dc F G e
 unfold jG
 rw [vu _ _ hf.o h1,aF,vu _ _ hf.a h2,aF,mr hf.s hg.t (by rw [iw]; exact hf.o) (by rw [iw]; exact hf.a),aF]; rfl
end
theorem R3 {f g:aQ} (hf:ja f=true) (hg:ja g=true) (e:f.aH=g.aB):ja (r5 f g)=true:=by
 have F:=jj hf
 have G:=jj hg
 have h1:o7 f.aB=true:=by unfold ja w8 at hf; simp only [Bool.and_eq_true] at hf; exact hf.1.1
 have h2:o7 g.aH=true:=by unfold ja w8 at hg; simp only [Bool.and_eq_true] at hg; exact hg.1.2.1
 have go:∀ x:Int,0≤x→x < f.aB.aA→gi (thenS f.aA g.aA) x=gi g.aA (gi f.aA x):=fun x x0 x1=>nr x0 (by rw [F.ol]; exact x1)
 have ga:∀ a:Int,0≤a→a < f.aB.aG.length→gi (thenS f.ab g.ab) a=gi g.ab (gi f.ab a):=fun a a0 a1=>nr a0 (by rw [F.al]; exact a1)
 have ob:∀ x:Int,0≤x→x < f.aB.aA→0≤gi f.aA x∧gi f.aA x < g.aB.aA:=fun x x0 x1=>by rw [← e]; exact F.ob x0 x1
 have ar:∀ a:Int,0≤a→a < f.aB.aG.length→0≤gi f.ab a∧gi f.ab a < g.aB.aG.length:=fun a a0 a1=>by rw [← e]; exact F.ar a0 a1
 obtain ⟨t1,t2⟩:=Dc F.toFHead G.toFHead e
 refine Pa (f:=r5 f g) h1 h2 ?_ ?_ ?_ ?_ ?_ ?_ ?_ ?_
 ·show ((thenS _ _).length:Int)=_; rw [iw]; exact F.ol
 ·show (thenS _ _).length=_; rw [iw]; exact F.al
 ·exact fun y hy=>Ht t1 G.oo hy
 ·exact fun y hy=>Ht t2 G.aa hy
 ·intro a a0 a1
  have kf:=F.c.fr a0 a1
  show gi g.aH.aG (gi (thenS f.ab g.ab) a)=gi (thenS f.aA g.aA) (gi f.aB.aG a)
  rw [ga a a0 a1,go _ kf.1 kf.2,G.fr _ (ar a a0 a1).1 (ar a a0 a1).2,← e,F.fr a a0 a1]
 ·intro a a0 a1
  have kf:=F.c.to a0 a1
  show gi g.aH.To (gi (thenS f.ab g.ab) a)=gi (thenS f.aA g.aA) (gi f.aB.To a)
  rw [ga a a0 a1,go _ kf.1 kf.2,G.to _ (ar a a0 a1).1 (ar a a0 a1).2,← e,F.to a a0 a1]
 ·intro x x0 x1
  have ki:=F.c.id x0 x1
  show gi (thenS f.ab g.ab) (gi f.aB.aJ x)=gi g.aH.aJ (gi (thenS f.aA g.aA) x)
  rw [ga _ ki.1 ki.2,go x x0 x1,F.un x x0 x1,← G.un _ (ob x x0 x1).1 (ob x x0 x1).2,e]
 ·intro a b a0 a1 b0 b1 h
  have k:=F.c.cell a b a0 a1 b0 b1 h
  show gi (thenS f.ab g.ab) (gk f.aB.aE a b)=gk g.aH.aE (gi (thenS f.ab g.ab) a) (gi (thenS f.ab g.ab) b)
  rw [ga _ k.1 k.2.1,ga a a0 a1,ga b b0 b1,F.co a b a0 a1 b0 b1 h,← G.co _ _ (ar a a0 a1).1 (ar a a0 a1).2 (ar b b0 b1).1 (ar b b0 b1).2 (by rw [← e,F.to a a0 a1,F.fr b b0 b1]; exact congrArg (gi f.aA) h),e]
theorem Kl {f g:aQ} (h:j6 f):jM f g=some (r4 f.aB g.aB && r4 f.aH g.aH):=by
 unfold jM
 rw [Ap h.s,aF,Ap h.t,aF,p9,Es]; rfl
end Go.Proofs.YtilhlobfebngdaaGreat
namespace Go.Proofs.YtilhlobfebngdaaGreat
open Go Go.Li
set_option linter.unusedVariables false
structure C6 (m:bT):Prop where
 s:j6 m.aB
 t:j6 m.aH
 p:m.bh.length≤1048576
def zY (t:bT):Bool:=ja t.aB && (ja t.aH && ((r4 t.aB.aB t.aH.aB && r4 t.aB.aH t.aH.aH) && (((t.bh.length:Int) == t.aB.aB.aA) && kj t.aB.aH.aG.length t.bh)))
def Et (t:bT) (x:Int):Bool:=(gi t.aB.aH.aG (gi t.bh x) != gi t.aB.aA x) || (gi t.aB.aH.To (gi t.bh x) != gi t.aH.aA x)
def LB (f g:aQ) (p:List Int) (a:Int):Bool:=gk f.aH.aE (gi f.ab a) (gi p (gi f.aB.To a)) == gk f.aH.aE (gi p (gi f.aB.aG a)) (gi g.ab a)
def J5 (t:bT):Bool:=!((ns t.aB.aB.aG.length).any fun a=>!(LB t.aB t.aH t.bh a))
def BR (t:bT):Bool:=!((ns t.bh.length).any (Et t))
def mf (t:bT):Bool:=(zY t && BR t) && J5 t
structure THead (t:bT):Prop where
 f:FL t.aB
 g:FL t.aH
 fb:ja t.aB=true
 gb:ja t.aH=true
 es:t.aH.aB=t.aB.aB
 et:t.aH.aH=t.aB.aH
 pl:(t.bh.length:Int)=t.aB.aB.aA
 pp:∀ y∈t.bh,0≤y∧y < t.aB.aH.aG.length
theorem Km {t:bT} (h:zY t=true):THead t:=by
 unfold zY at h
 simp only [Bool.and_eq_true,beq_iff_eq,ou,vc] at h
 obtain ⟨h1,h2,⟨h3,h4⟩,h5,h6⟩:=h
 exact ⟨jj h1,jj h2,h1,h2,h3.symm,h4.symm,h5,h6⟩
namespace THead
variable {t:bT} (H:THead t)
include H
theorem Nf {x:Int} (h0:0≤x) (h1:x < t.aB.aB.aA):idx t.bh x=some (gi t.bh x):=bS h0 (by rw [H.pl]; exact h1)
theorem cp {x:Int} (h0:0≤x) (h1:x < t.aB.aB.aA):0≤gi t.bh x∧gi t.bh x < t.aB.aH.aG.length:=H.pp _ (cy h0 (by rw [H.pl]; exact h1))
theorem ar2 {a:Int} (h0:0≤a) (h1:a < t.aB.aB.aG.length):0≤gi t.aH.ab a∧gi t.aH.ab a < t.aB.aH.aG.length:=by have:=H.g.ar (a:=a) h0 (by rw [H.es]; exact h1); rwa [H.et] at this
theorem Ts {a:Int} (h0:0≤a) (h1:a < t.aB.aB.aG.length):idx t.aH.ab a=some (gi t.aH.ab a):=H.g.wb h0 (by rw [H.es]; exact h1)
end THead
structure TS (t:bT):Prop extends THead t where
 pf:∀ x:Int,0≤x→x < t.aB.aB.aA→gi t.aB.aH.aG (gi t.bh x)=gi t.aB.aA x
 pt:∀ x:Int,0≤x→x < t.aB.aB.aA→gi t.aB.aH.To (gi t.bh x)=gi t.aH.aA x
theorem Sj {t:bT} (h1:zY t=true) (h2:BR t=true):TS t:=by
 have H:=Km h1
 have hl:=H.pl
 unfold BR at h2
 rw [Bool.not_eq_true',ir] at h2
 refine { H with pf:=fun a a0 a1=>?_,pt:=fun a a0 a1=>?_ } <;>
 ·have:=h2 a a0 (by omega)
  unfold Et at this
  simp only [Bool.or_eq_false_iff,bne_eq_false_iff_eq] at this
  first | exact this.1 | exact this.2
structure agc (t:bT):Prop extends TS t where
 sq:∀ a:Int,0≤a→a < t.aB.aB.aG.length→gk t.aB.aH.aE (gi t.aB.ab a) (gi t.bh (gi t.aB.aB.To a))=gk t.aB.aH.aE (gi t.bh (gi t.aB.aB.aG a)) (gi t.aH.ab a)
theorem xx {t:bT} (h:mf t=true):agc t:=by
 unfold mf at h
 simp only [Bool.and_eq_true] at h
 obtain ⟨⟨h1,h2⟩,h3⟩:=h
 unfold J5 at h3
 rw [Bool.not_eq_true',ir] at h3
 refine { Sj h1 h2 with sq:=fun a a0 a1=>?_ }
 have:=h3 a a0 a1
 unfold LB at this
 simpa using this
theorem Kn {t:bT} (H:THead t) {a:Int} (a0:0≤a) (a1:a < t.aB.aB.aG.length):jQ t.aB t.aH t.bh a=some (LB t.aB t.aH t.bh a):=by
 have F:=H.f
 have kf:=F.c.fr a0 a1
 have kt:=F.c.to a0 a1
 have ka:=F.ar a0 a1
 have k1:=H.cp kt.1 kt.2
 have k2:=H.cp kf.1 kf.2
 have k3:=H.ar2 a0 a1
 unfold jQ LB
 rw [F.wb a0 a1,aF,F.c.jf a0 a1,aF,H.Nf kt.1 kt.2,aF,F.d.qn ka.1 ka.2 k1.1 k1.2,aF,F.c.iq a0 a1,aF,H.Nf kf.1 kf.2,aF,H.Ts a0 a1,aF,F.d.qn k2.1 k2.2 k3.1 k3.2,aF]
 rfl
theorem YW {n k:Nat} {A0:Int→Option (Out Int Int)} {p:Int→Bool} (a0:∀ a:Nat,a < n→A0 a=bif !(p a) then some (.ret (a:Int)) else some (.norm ((a+1:Nat):Int))) (a3:A0 n=some (.exit k (n:Int))) :
  ∃ y,aq (S:=Unit) (ah (ae k (aj A0 (0:Int))) fun _=>some (.ret (-1:Int)))=some y∧decide (y < 0) = !((ns n).any fun a=>!(p a)):=by
 have hx:∀ i:Nat,i < n→((!(p i))=false∧A0 i=some (.norm ((i+1:Nat):Int)))∨((!(p i))=true∧∃ y,A0 i=some (.ret y)∧0≤y):=by
  intro i hi
  rw [a0 i hi]
  cases p i with
  | true=>exact .inl ⟨rfl,rfl⟩
  | false=>exact .inr ⟨rfl,_,rfl,by omega⟩
 rcases afe (S:=Unit) (f:=fun _=>some (.ret (-1:Int))) (n:=n) (fun a=>!(p a)) (fun y:Int=>0≤y) hx a3 with ⟨h1,h2⟩ | ⟨h1,y,h2,h3⟩
 ·rw [h1,h2]; exact ⟨_,rfl,bb (by decide)⟩
 ·rw [h1,h2]; exact ⟨y,rfl,br (by omega)⟩
theorem Nu {t:bT} (H:THead t):∃ y,lT t (fun a0 a1 a2 a3=>jQ a0 a1 a2 a3)=some y∧decide (y < 0)=J5 t:=by
 have cm:=H.f.c.m
 have al:=H.f.al
 unfold lT J5
 refine YW (n:=t.aB.aB.aG.length) (fun a ha=>?_) (by unfold mN; rw [br (by omega),cond_false])
 unfold mN
 show (bif decide ((a:Int) < (t.aB.ab.length:Int)) then (jQ t.aB t.aH t.bh a>>=_) else _)=_
 rw [bb (by omega),cond_true,Kn H (by omega) (by omega),aF,cA (by omega)]
theorem LX {t:bT} (hs:C6 t):fX t=some (mf t):=by
 have hp:=hs.p
 unfold fX
 have key:gO t=some (zY t && BR t):=by
  unfold gO zY
  rw [KP _ (by simp) (by intro c hc; simp at hc; rcases hc with rfl | rfl; exact hs.s; exact hs.t),aF]
  simp only [List.all_cons,List.all_nil,Bool.and_true]
  cases h1:ja t.aB with
  | false=>rfl
  | true=>
   have F:=jj h1
   cases h2:ja t.aH with
   | false=>rfl
   | true=>
    have G:=jj h2
    have dm:=F.d.m
    simp only [Bool.true_and,Bool.not_true,cond_false]
    rw [Kl hs.s,aF]
    cases h3:r4 t.aB.aB t.aH.aB && r4 t.aB.aH t.aH.aH with
    | false=>rfl
    | true=>
     have h4:=h3
     simp only [Bool.and_eq_true,vc] at h4
     rw [Bool.not_true,cond_false]
     by_cases e1:(t.bh.length:Int)=t.aB.aB.aA
     ·rw [mq e1,cond_false,show dH t.aB.aH=some (t.aB.aH.aG.length:Int) from rfl,aF,within _ _ (by omega) (by omega) (by omega),aF,aF,ma e1,Bool.true_and,Bool.true_and]
      cases h:kj t.aB.aH.aG.length t.bh with
      | false=>rfl
      | true=>
       rw [Bool.not_true,cond_false,Bool.true_and]
       have s9:=ou.1 h
       rw [wa (n:=t.bh.length) (Et t) (fun x bp=>?_) (by unfold iF; rw [br (by omega),cond_false])]
       ·unfold BR
        cases (ns t.bh.length).any (Et t) <;> rfl
       ·have kc:=s9 _ (cy (l:=t.bh) (j:=(x:Int)) (by omega) (by omega))
        unfold iF
        rw [bb (by omega),cond_true,bS (by omega) (by omega),aF,show eR t.aB.aH (gi t.bh x)=some (uT.mk (gi t.aB.aH.aG (gi t.bh x)) (gi t.aB.aH.To (gi t.bh x))) by unfold eR; rw [F.d.iq kc.1 kc.2,aF,F.d.jf kc.1 kc.2,aF]; rfl,aF,F.zo (by omega) (by omega),aF,G.zo (by omega) (by rw [← h4.1]; omega),aF,cA (by omega)]
        unfold Et
        rw [Bool.not_and]
        rfl
     ·rw [o6 e1,cond_true,aF,cond_true,nq e1]; rfl
 rw [key,aF]
 unfold mf
 cases h1:zY t with
 | false=>rfl
 | true=>
  cases h2:BR t with
  | false=>rfl
  | true=>
   obtain ⟨y,e1,e2⟩:=Nu (Km h1)
   simp only [Bool.and_self,cond_true]
   rw [e1,aF,e2]; rfl
theorem No (l:List bT) (hl:l.length≤1048576) (hs:∀ c∈l,C6 c):lJ l=some (l.all mf):=by
 unfold lJ
 refine (congrArg aq (lp l (fun c=>!mf c) (fun i=>(i:Int)) rfl ?_ ?_ (e:=(l.length:Int)) (y:=false) ?_)).trans ?_
 ·intro i x hx hp
  have hi:=cg hx
  unfold lH
  rw [bb (by omega),cond_true,cw,hx,aF,LX (hs x (List.mem_of_getElem? hx)),aF,show (!mf x)=false from hp,cond_false,cA (by omega)]
 ·intro i x hx hp
  have hi:=cg hx
  unfold lH
  rw [bb (by omega),cond_true,cw,hx,aF,LX (hs x (List.mem_of_getElem? hx)),aF,show (!mf x)=true from hp,cond_true]
 ·unfold lH
  rw [br (by omega),cond_false]
 ·rw [ov]
  cases l.all mf <;> rfl
end Go.Proofs.YtilhlobfebngdaaGreat
namespace Go.Proofs.YtilhlobfebngdaaGreat
open Go Go.Li
set_option linter.unusedVariables false
section
variable {t:bT} {g:aQ} (ht:mf t=true) (hg:ja g=true) (e:t.aB.aH=g.aB)
include ht hg e
omit hg e in
end
section
variable {t:bT} {f:aQ} (hf:ja f=true) (ht:mf t=true) (e:f.aH=t.aB.aB)
include hf ht e
end
section
variable {s t:bT} (hs:mf s=true) (ht:mf t=true) (e:s.aH=t.aB)
include hs ht e
end
end Go.Proofs.YtilhlobfebngdaaGreat
