/- Functors: what the reference's and the program's looks at them give. No condition beside those that each theorem names. -/
import Derived.Test.YtcnehblmgfbfoaaGreatVj
set_option linter.unusedVariables false
set_option linter.unusedSectionVars false
set_option linter.unusedSimpArgs false
namespace Go.Proofs.YtcnehblmgfbfoaaGreat
open Go Go.Li
set_option linter.unusedVariables false
structure sb (f:aY):Prop where
 s:dk f.aF
 t:dk f.aM
 o:f.aD.length≤1048576
 a:f.bc.length≤1048576
def Dj (f:aY):Bool:=p6 f.aF && (p6 f.aM && ((((f.aD.length:Int) == f.aF.aD) && (f.bc.length == f.aF.aG.length)) && (qb f.aM.aD f.aD && qb f.aM.aG.length f.bc)))
def CK (f:aY) (a:Int):Bool:=(gi f.aM.aG (gi f.bc a) != gi f.aD (gi f.aF.aG a)) || (gi f.aM.To (gi f.bc a) != gi f.aD (gi f.aF.To a))
def F9 (f:aY) (x:Int):Bool:=gi f.bc (gi f.aF.aI x) != gi f.aM.aI (gi f.aD x)
def BC (f:aY) (a b:Int):Bool:=(gi f.aF.To a == gi f.aF.aG b) && (gi f.bc (gk f.aF.aB a b) != gk f.aM.aB (gi f.bc a) (gi f.bc b))
def Dl (f:aY):Bool:=!((ns f.aF.aG.length).any (CK f))
def J2 (f:aY):Bool:=!((ns f.aF.aD.toNat).any (F9 f)) && !((ns f.aF.aG.length).any fun a=>(ns f.aF.aG.length).any (BC f a))
def rQ (f:aY):Bool:=Dj f && (Dl f && J2 f)
structure FHead (f:aY):Prop where
 c:lg f.aF
 d:lg f.aM
 ol:(f.aD.length:Int)=f.aF.aD
 al:f.bc.length=f.aF.aG.length
 oo:∀ y∈f.aD,0≤y∧y < f.aM.aD
 aa:∀ y∈f.bc,0≤y∧y < f.aM.aG.length
theorem Sw {f:aY} (h:Dj f=true):FHead f:=by
 unfold Dj at h
 simp only [Bool.and_eq_true,beq_iff_eq,tD] at h
 obtain ⟨h1,h2,⟨h3,h4⟩,h5,h6⟩:=h
 exact ⟨vr h1,vr h2,h3,h4,h5,h6⟩
namespace FHead
variable {f:aY} (H:FHead f)
include H
theorem Sx {x:Int} (h0:0≤x) (h1:x < f.aF.aD):idx f.aD x=some (gi f.aD x):=bQ h0 (by rw [H.ol]; exact h1)
theorem qi {a:Int} (h0:0≤a) (h1:a < f.aF.aG.length):idx f.bc a=some (gi f.bc a):=bQ h0 (by rw [H.al]; exact h1)
theorem ob {x:Int} (h0:0≤x) (h1:x < f.aF.aD):0≤gi f.aD x∧gi f.aD x < f.aM.aD:=H.oo _ (fy h0 (by rw [H.ol]; exact h1))
theorem ar {a:Int} (h0:0≤a) (h1:a < f.aF.aG.length):0≤gi f.bc a∧gi f.bc a < f.aM.aG.length:=H.aa _ (fy h0 (by rw [H.al]; exact h1))
end FHead
structure TP (f:aY):Prop extends FHead f where
 fr:∀ a:Int,0≤a→a < f.aF.aG.length→gi f.aM.aG (gi f.bc a)=gi f.aD (gi f.aF.aG a)
 to:∀ a:Int,0≤a→a < f.aF.aG.length→gi f.aM.To (gi f.bc a)=gi f.aD (gi f.aF.To a)
theorem Sy {f:aY} (h1:Dj f=true) (h2:Dl f=true):TP f:=by
 unfold Dl at h2
 rw [Bool.not_eq_true',dy] at h2
 refine { Sw h1 with fr:=fun a a0 a1=>?_,to:=fun a a0 a1=>?_ } <;>
 ·have:=h2 a a0 a1
  unfold CK at this
  simp only [Bool.or_eq_false_iff,bne_eq_false_iff_eq] at this
  first | exact this.1 | exact this.2
structure PM (f:aY):Prop extends TP f where
 un:∀ x:Int,0≤x→x < f.aF.aD→gi f.bc (gi f.aF.aI x)=gi f.aM.aI (gi f.aD x)
 co:∀ a b:Int,0≤a→a < f.aF.aG.length→0≤b→b < f.aF.aG.length→gi f.aF.To a=gi f.aF.aG b→gi f.bc (gk f.aF.aB a b)=gk f.aM.aB (gi f.bc a) (gi f.bc b)
theorem OJ {f:aY} (h:rQ f=true):PM f:=by
 unfold rQ J2 at h
 simp only [Bool.and_eq_true,Bool.not_eq_true'] at h
 obtain ⟨h1,h2,h3,h4⟩:=h
 have E:=Sy h1 h2
 have ho:=E.c.o0
 rw [dy] at h3 h4
 refine { E with un:=fun x x0 x1=>?_,co:=fun a b a0 a1 b0 b1 e=>?_ }
 ·have:=h3 x x0 (by omega)
  unfold F9 at this
  simpa using this
 ·have:=(dy.1 (h4 a a0 a1)) b b0 b1
  unfold BC at this
  simpa [e] using this
theorem OD {f:aY} (h1:p6 f.aF=true) (h2:p6 f.aM=true) (ol:(f.aD.length:Int)=f.aF.aD) (al:f.bc.length=f.aF.aG.length) (oo:∀ y∈f.aD,0≤y∧y < f.aM.aD) (aa:∀ y∈f.bc,0≤y∧y < f.aM.aG.length)
  (fr:∀ a:Int,0≤a→a < f.aF.aG.length→gi f.aM.aG (gi f.bc a)=gi f.aD (gi f.aF.aG a)) (to:∀ a:Int,0≤a→a < f.aF.aG.length→gi f.aM.To (gi f.bc a)=gi f.aD (gi f.aF.To a))
  (un:∀ x:Int,0≤x→x < f.aF.aD→gi f.bc (gi f.aF.aI x)=gi f.aM.aI (gi f.aD x))
  (co:∀ a b:Int,0≤a→a < f.aF.aG.length→0≤b→b < f.aF.aG.length→gi f.aF.To a=gi f.aF.aG b→gi f.bc (gk f.aF.aB a b)=gk f.aM.aB (gi f.bc a) (gi f.bc b)):rQ f=true:=by
 have C:=vr h1
 have hc:=C.o0
 unfold rQ Dj Dl J2
 simp only [Bool.and_eq_true,Bool.not_eq_true',beq_iff_eq,tD,h1,h2,true_and]
 refine ⟨⟨⟨ol,al⟩,oo,aa⟩,?_,?_,?_⟩
 ·rw [dy]
  intro a a0 a1
  unfold CK
  rw [fr a a0 a1,to a a0 a1]; simp
 ·rw [dy]
  intro x x0 x1
  unfold F9
  rw [un x x0 (by omega)]; simp
 ·rw [dy]
  intro a a0 a1
  rw [dy]
  intro b b0 b1
  unfold BC
  by_cases e:gi f.aF.To a=gi f.aF.aG b
  ·rw [co a b a0 a1 b0 b1 e]; simp
  ·simp [e]
theorem PR {f:aY} (hs:sb f) (C:lg f.aF) (T:lg f.aM):jY f=some (((((f.aD.length:Int) == f.aF.aD) && (f.bc.length == f.aF.aG.length)) && (qb f.aM.aD f.aD && qb f.aM.aG.length f.bc)) && (Dl f && J2 f)):=by
 have ho:=hs.o
 have ha:=hs.a
 have cm:=C.m
 have co:=C.o8
 have tm:=T.m
 have to:=T.o8
 have t0:=T.o0
 unfold jY
 by_cases e1:(f.aD.length:Int)=f.aF.aD
 ·rw [wW e1,cond_false,sk e1,Bool.true_and]
  rw [show dE f.aF=some (f.aF.aG.length:Int) from rfl,aA]
  by_cases e2:f.bc.length=f.aF.aG.length
  ·rw [wW (by omega),cond_false,within _ _ (by omega) (by omega) (by omega),aA,sk e2,Bool.true_and]
   cases h3:qb f.aM.aD f.aD with
   | false=>rfl
   | true=>
    rw [Bool.not_true,cond_false,show dE f.aM=some (f.aM.aG.length:Int) from rfl,aA,within _ _ (by omega) (by omega) (by omega),aA]
    cases h4:qb f.aM.aG.length f.bc with
    | false=>rfl
    | true=>
     have H:FHead f:=⟨C,T,e1,e2,tD.1 h3,tD.1 h4⟩
     have il:=C.il
     have kl:=C.kl
     simp only [Bool.not_true,cond_false,aA,Bool.and_self,Bool.true_and]
     rw [zH (n:=f.aF.aG.length) (CK f) (fun a bb=>?_) (by unfold kX; rw [aX (by omega),cond_false])]
     ·unfold Dl
      cases h5:(ns f.aF.aG.length).any (CK f) with
      | true=>rfl
      | false=>
       rw [cond_false,Bool.not_false,Bool.true_and]
       rw [zH (n:=f.aF.aD.toNat) (F9 f) (fun x bb=>?_) (by unfold kY; rw [aX (by omega),cond_false])]
       ·unfold J2
        cases h6:(ns f.aF.aD.toNat).any (F9 f) with
        | true=>rfl
        | false=>
         rw [cond_false,Bool.not_false,Bool.true_and]
         rw [zH (n:=f.aF.aG.length) (fun a=>(ns f.aF.aG.length).any (BC f a)) (fun a bb=>?_) (by unfold lA; rw [aX (by omega),cond_false])]
         ·cases (ns f.aF.aG.length).any fun a=>(ns f.aF.aG.length).any (BC f a) <;> rfl
         ·unfold lA
          have hr:=C.row (a:Int) (by omega) (by omega)
          rw [aw (by omega),cond_true,C.tQ (by omega) (by omega),aA]
          rw [zH (n:=f.aF.aG.length) (BC f a) (fun b hb=>?_) (by unfold kZ; rw [aX (by omega),cond_false])]
          ·rw [bB (by omega)]
          ·unfold kZ
           rw [aw (by omega),cond_true,C.tR (by omega) (by omega) (by omega) (by omega),aA]
           unfold BC
           by_cases e:gi f.aF.To a=gi f.aF.aG b
           ·have k:=C.cell a b (by omega) (by omega) (by omega) (by omega) e
            have ka:=H.ar (a:=(a:Int)) (by omega) (by omega)
            have kb:=H.ar (a:=(b:Int)) (by omega) (by omega)
            rw [sk e,aw (show gk f.aF.aB a b ≥ 0 from k.1),cond_true,H.qi k.1 k.2.1,aA,H.qi (by omega) (by omega),aA,H.qi (by omega) (by omega),aA,T.sy ka.1 ka.2 kb.1 kb.2,aA,aA,Bool.true_and,bB (by omega)]; rfl
           ·have:=C.none a b (by omega) (by omega) (by omega) (by omega) e
            rw [rz e,aX (show ¬ gk f.aF.aB a b ≥ 0 by omega),cond_false,aA,Bool.false_and,bB (by omega)]; rfl
       ·have kx:=H.ob (x:=(x:Int)) (by omega) (by omega)
        have ki:=C.id (x:=(x:Int)) (by omega) (by omega)
        unfold kY
        rw [aw (by omega),cond_true,C.um (by omega) (by omega),aA,H.qi ki.1 ki.2,aA,H.Sx (by omega) (by omega),aA,T.um kx.1 kx.2,aA,bB (by omega)]
        rfl
     ·have ka:=H.ar (a:=(a:Int)) (by omega) (by omega)
      have kf:=C.fr (f:=(a:Int)) (by omega) (by omega)
      have kt:=C.to (f:=(a:Int)) (by omega) (by omega)
      unfold kX
      rw [aw (by omega),cond_true,H.qi (by omega) (by omega),aA,T.lh ka.1 ka.2,aA,C.lh (by omega) (by omega),aA,H.Sx kf.1 kf.2,aA,T.l8 ka.1 ka.2,aA,C.l8 (by omega) (by omega),aA,H.Sx kt.1 kt.2,aA,bB (by omega),uU,GD,aA]
      rfl
  ·rw [tO (by omega),cond_true,rz e2]; rfl
 ·rw [tO e1,cond_true,rz e1]; rfl
theorem Kl (l:List aH) (hl:l.length≤1048576) (hs:∀ c∈l,dk c):jS l=some (l.all p6):=by
 unfold jS
 refine (congrArg ao (kc l (fun c=>!p6 c) (fun i=>(i:Int)) rfl ?_ ?_ (e:=(l.length:Int)) (y:=false) ?_)).trans ?_
 ·intro i x hx hp
  have hi:=bf hx
  unfold iF
  rw [aw (by omega),cond_true,bn,hx,aA,JK (hs x (List.mem_of_getElem? hx)),aA,show (!p6 x)=false from hp,cond_false,bB (by omega)]
 ·intro i x hx hp
  have hi:=bf hx
  unfold iF
  rw [aw (by omega),cond_true,bn,hx,aA,JK (hs x (List.mem_of_getElem? hx)),aA,show (!p6 x)=true from hp,cond_true]
 ·unfold iF
  rw [aX (by omega),cond_false]
 ·rw [ko]
  cases l.all p6 <;> rfl
theorem Ck {f:aY} (hs:sb f):fM f=some (rQ f):=by
 unfold fM rQ Dj
 rw [Kl _ (by simp) (by intro c hc; simp at hc; rcases hc with rfl | rfl; exact hs.s; exact hs.t),aA]
 simp only [List.all_cons,List.all_nil,Bool.and_true]
 cases h1:p6 f.aF with
 | false=>rfl
 | true=>
  cases h2:p6 f.aM with
  | false=>rfl
  | true=>
   rw [Bool.true_and,cond_true,PR hs (vr h1) (vr h2)]
   rfl
theorem J9 (l:List aY) (hl:l.length≤1048576) (hs:∀ c∈l,sb c):lB l=some (l.all rQ):=by
 unfold lB
 refine (congrArg ao (kc l (fun c=>!rQ c) (fun i=>(i:Int)) rfl ?_ ?_ (e:=(l.length:Int)) (y:=false) ?_)).trans ?_
 ·intro i x hx hp
  have hi:=bf hx
  unfold jJ
  rw [aw (by omega),cond_true,bn,hx,aA,Ck (hs x (List.mem_of_getElem? hx)),aA,show (!rQ x)=false from hp,cond_false,bB (by omega)]
 ·intro i x hx hp
  have hi:=bf hx
  unfold jJ
  rw [aw (by omega),cond_true,bn,hx,aA,Ck (hs x (List.mem_of_getElem? hx)),aA,show (!rQ x)=true from hp,cond_true]
 ·unfold jJ
  rw [aX (by omega),cond_false]
 ·rw [ko]
  cases l.all rQ <;> rfl
theorem PT (l:List Int) (hl:l.length≤1048576):gX l=some l:=by
 unfold gX
 rw [dR (by simp; omega) (by simp; omega),aA]; rfl
theorem zG {c d:aH} {o a:List Int} (hc:dk c) (hd:dk d) (ho:o.length≤1048576) (ha:a.length≤1048576):kH c d o a=some (aY.mk c d o a):=by
 unfold kH
 rw [JO hc,aA,JO hd,aA,PT o ho,aA,PT a ha,aA]; rfl
theorem Q3 {c d:aH} {o a:List Int} (hc:dk c) (hd:dk d) (ho:o.length≤1048576) (ha:a.length≤1048576):pN c d o a=some (aY.mk c d o a):=by
 unfold pN
 rw [tn hc,aA,tn hd,aA,mx o ho,aA,mx a ha,aA]; rfl
def Ms (f g:aY):aY:=aY.mk f.aF g.aM (thenS f.aD g.aD) (thenS f.bc g.bc)
theorem zd (a b:List Int):(thenS a b).length=a.length:=by unfold thenS; rw [bI]
section
variable {f g:aY} (F:FHead f) (G:FHead g) (e:f.aM=g.aF)
include F G e
theorem PU:(∀ x∈f.aD,0≤x∧x < g.aD.length)∧∀ x∈f.bc,0≤x∧x < g.bc.length:=by
 have h1:=G.ol
 have h2:=G.al
 rw [← e] at h1 h2
 exact ⟨fun x hx=>⟨(F.oo x hx).1,by have:=(F.oo x hx).2; omega⟩,fun x hx=>⟨(F.aa x hx).1,by have:=(F.aa x hx).2; omega⟩⟩
theorem OK (hf:sb f) (hg:sb g):jZ f g=some (Ms f g):=by
 obtain ⟨h1,h2⟩:=PU F G e
 unfold jZ
 rw [JR _ _ hf.o h1,aA,JR _ _ hf.a h2,aA,zG hf.s hg.t (by rw [zd]; exact hf.o) (by rw [zd]; exact hf.a),aA]; rfl
end
end Go.Proofs.YtcnehblmgfbfoaaGreat
namespace Go.Proofs.YtcnehblmgfbfoaaGreat
open Go Go.Li
set_option linter.unusedVariables false
structure THead (t:qZ):Prop where
 f:PM t.aF
 g:PM t.aM
 fb:rQ t.aF=true
 gb:rQ t.aM=true
 es:t.aM.aF=t.aF.aF
 et:t.aM.aM=t.aF.aM
 pl:(t.xy.length:Int)=t.aF.aF.aD
 pp:∀ y∈t.xy,0≤y∧y < t.aF.aM.aG.length
namespace THead
variable {t:qZ} (H:THead t)
include H
theorem D7 {x:Int} (h0:0≤x) (h1:x < t.aF.aF.aD):idx t.xy x=some (gi t.xy x):=bQ h0 (by rw [H.pl]; exact h1)
end THead
end Go.Proofs.YtcnehblmgfbfoaaGreat
