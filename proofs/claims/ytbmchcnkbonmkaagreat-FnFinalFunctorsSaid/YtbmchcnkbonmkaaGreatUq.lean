/- The reference's search in depth, for all transformations or for isomorphisms alone, up to any number: it gives the first ones of the enumeration. No condition beside those that each theorem names. -/
import Derived.Test.YtbmchcnkbonmkaaGreatVy
namespace Go.Proofs.YtbmchcnkbonmkaaGreat
open Go Go.Li
set_option linter.unusedVariables false
set_option linter.unusedSectionVars false
set_option linter.unusedSimpArgs false
def v8 (b9:Bool) (f:aJ) (b:Int):Bool:=bif b9 then M0 f.aF b else true
def mq (b9:Bool) (f g:aJ) (xs:List Int) (x:Int):List Int:=((ns f.aF.aC.length).filter (p8 f.aF (gi f.aA x) (gi g.aA x))).filter fun b=>v8 b9 f b && F4 f g x (xs.set x.toNat b)
def w8 (b9:Bool) (f g:aJ):Nat→List Int→List (List Int)
 | 0,_=>[]
 | n+1,xs=>bif (ns xs.length).any (fun y=>gi xs y == -1 && (mq b9 f g xs y).isEmpty) then [] else
  match (ns xs.length).find? (fun y=>gi xs y == -1) with
  | none=>[xs]
  | some x=>(mq b9 f g xs x).flatMap fun b=>w8 b9 f g n (xs.set x.toNat b)
section
variable {f g:aJ} (T:D6 f g) {b9:Bool}
include T
theorem RV {m:Int} {fd:List (List Int)} {xs:List Int} (pl:(xs.length:Int)=f.aE.aA) (po:∀ y∈xs,y < f.aF.aC.length) {x:Int} (x0:0≤x) (x1:x < f.aE.aA):gY (bX.mk f g b9 m fd) xs x=some (mq b9 f g xs x):=by
 have F:=T.F
 have cm:=F.c.m
 have dm:=F.d.m
 have co:=F.c.o8
 have ix2:idx g.aA x=some (gi g.aA x):=T.G.Aa x0 (by rw [T.es]; exact x1)
 unfold gY mq
 dsimp only
 rw [F.Aa x0 x1,aD,ix2,aD,E5 F.d,aD]
 generalize hl:(ns f.aF.aC.length).filter (p8 f.aF (gi f.aA x) (gi g.aA x))=l
 have Cj:∀ b∈l,0≤b∧b < f.aF.aC.length:=by intro b hb; rw [← hl] at hb; exact bp.1 (List.mem_filter.1 hb).1
 have CF:l.length≤f.aF.aC.length:=by rw [← hl]; exact Nat.le_trans (List.length_filter_le _ _) (by rw [bZ]; exact Nat.le_refl _)
 refine (congrArg ak (tX l (fun b=>v8 b9 f b && F4 f g x (xs.set x.toNat b)) (fun acc i=>(acc,(i:Int))) rfl ?_ ?_)).trans rfl
 ·intro i b acc hb F5
  have hi:=bd hb
  have kb:=Cj b (List.mem_of_getElem? hb)
  obtain ⟨v,WW,vT⟩:=RW F.d kb.1 kb.2
  show gS (bX.mk f g b9 m fd) xs x l acc i=_
  unfold gS
  dsimp only
  rw [aq (by omega),cond_true]
  have Al:(bif b9 then (idx l (i:Int)>>=fun e=>(jV f.aF e>>=fun y=>some (decide (y < (0:Int))))) else some false)=some (!(v8 b9 f b)):=by
   unfold v8
   cases b9 with
   | false=>rfl
   | true=>rw [cond_true,cond_true,bx,hb,aD,WW,aD,vT]
  rw [Al,aD]
  simp only [bx,hb,aD,bH (show i < 9223372036854775807 by omega),iu xs (show xs.length≤1048576 by omega),bI (l:=xs) x0 (by omega)]
  cases RX:v8 b9 f b with
  | false=>rfl
  | true=>
   rw [Bool.not_true,cond_false,Bool.true_and]
   have pl2:((xs.set x.toNat b).length:Int)=f.aE.aA:=by rw [List.length_set]; exact pl
   have po2:∀ y∈xs.set x.toNat b,y < f.aF.aC.length:=wB po kb.2
   have Iy:∃ j:Int,af (fun s:Bool×Int=>jW (bX.mk f g b9 m fd) x xs b s.1 s.2) (true,(0:Int))=some (.exit 2 ((ns f.aE.aC.length).all (JD f g x (xs.set x.toNat b)),j)):=by
    refine G3 (R:=List Int) (k:=2) (n:=f.aE.aC.length) (JD f g x (xs.set x.toNat b)) (fun a ha=>?_) (fun a ha=>?_) ?_
    ·have a1:(a:Int) < f.aE.aC.length:=by omega
     have kf:=F.c.fr (f:=(a:Int)) (by omega) a1
     have kt:=F.c.to (f:=(a:Int)) (by omega) a1
     have al:=F.al
     have Ys:∀ h1 : ¬ gi (xs.set x.toNat b) (gi f.aE.aC a) < 0,∀ h2 : ¬ gi (xs.set x.toNat b) (gi f.aE.To a) < 0,iP f g (xs.set x.toNat b) a=some (tC f g (xs.set x.toNat b) a):=fun h1 h2=>
      ZU T pl2 (by omega) a1 ⟨by omega,po2 _ (fj kt.1 (by omega))⟩ ⟨by omega,po2 _ (fj kf.1 (by omega))⟩
     unfold jW JD
     dsimp only
     rw [cond_true,aq (by omega),aD,cond_true]
     simp only [F.c.ji (f:=(a:Int)) (by omega) a1,F.c.jj (f:=(a:Int)) (by omega) a1,aD,bI (l:=xs.set x.toNat b) kf.1 (by omega),bI (l:=xs.set x.toNat b) kt.1 (by omega),bH (show a < 9223372036854775807 by omega)]
     by_cases h1:gi (xs.set x.toNat b) (gi f.aE.aC a) < 0
     ·rw [aq h1]
      cases gi f.aE.aC (a:Int) != x <;> cases gi f.aE.To (a:Int) != x <;> rfl
     ·rw [ba h1]
      by_cases h2:gi (xs.set x.toNat b) (gi f.aE.To a) < 0
      ·rw [aq h2]
       cases gi f.aE.aC (a:Int) != x <;> cases gi f.aE.To (a:Int) != x <;> rfl
      ·rw [ba h2,Ys h1 h2]
       cases gi f.aE.aC (a:Int) != x <;> cases gi f.aE.To (a:Int) != x <;> rfl
    ·rfl
    ·unfold jW
     dsimp only
     rw [cond_true,ba (by have:=F.al; omega),aD,cond_false]
   obtain ⟨j,hj⟩:=Iy
   rw [uh hj]
   show (bif F4 f g x (xs.set x.toNat b) then _ else _)=_
   cases F4 f g x (xs.set x.toNat b) with
   | false=>rfl
   | true=>rw [cond_true,cN (by omega) (by omega),aD]; rfl
 ·intro acc
  show gS (bX.mk f g b9 m fd) xs x l acc _=_
  unfold gS
  rw [ba (by omega),cond_false]
theorem UZ {xs:List Int} {x b:Int} (h:b∈mq b9 f g xs x):0≤b∧b < f.aF.aC.length:=by
 unfold mq at h
 exact bp.1 (List.mem_filter.1 (List.mem_filter.1 h).1).1
theorem U0 (xs:List Int) (x:Int):(mq b9 f g xs x).length≤f.aF.aC.length:=by
 unfold mq
 exact Nat.le_trans (List.length_filter_le _ _) (Nat.le_trans (List.length_filter_le _ _) (by rw [bZ]; exact Nat.le_refl _))
theorem Yt {m:Nat} (hm:m≤1000):∀ (n:Nat) (fd:List (List Int)) (xs:List Int),fd.length < m→(xs.length:Int)=f.aE.aA→(∀ y∈xs,y < f.aF.aC.length)→G4 xs < n→fM n (bX.mk f g b9 (m:Int) fd) xs=some (bX.mk f g b9 (m:Int) (fd++(w8 b9 f g n xs).take (m - fd.length))):=by
 have F:=T.F
 have co:=F.c.o8
 have dm:=F.d.m
 intro n
 induction n with
 | zero=>intro fd xs _ _ _ h; omega
 | succ n ih=>
  intro fd xs Pe pl po hn
  have ch:∀ y:Int,0≤y→y < xs.length→gY (bX.mk f g b9 (m:Int) fd) xs y=some (mq b9 f g xs y):=fun y y0 y1=>RV T pl po y0 (by omega)
  have Yu:∀ (j:Nat) (r:Int),j≤xs.length→af (fun s:Int×Int=>lJ (bX.mk f g b9 (m:Int) fd) xs s.1 s.2) (r,(j:Int) - 1) =
    some (bif (ns j).any (fun y=>gi xs y == -1 && (mq b9 f g xs y).isEmpty) then .ret (bX.mk f g b9 (m:Int) fd) else .exit 0 (((ns j).find? (fun y=>gi xs y == -1)).getD r,-1)):=by
   intro j
   induction j with
   | zero=>
    intro r _
    refine (mj (k:=0) (s':=(r,(-1:Int))) ?_).trans rfl
    unfold lJ
    rw [ba (by omega),cond_false]; rfl
   | succ j ihj=>
    intro r hj
    have Ci:(j:Int) < xs.length:=by omega
    rw [o4,show ((j+1:Nat):Int) - 1=(j:Int) by omega,AF,List.any_append,List.find?_append]
    have hb:lJ (bX.mk f g b9 (m:Int) fd) xs r (j:Int)=(bif gi xs j == -1 then (bif (mq b9 f g xs j).isEmpty then some (.ret (bX.mk f g b9 (m:Int) fd)) else some (.norm ((j:Int),(j:Int) - 1))) else some (.norm (r,(j:Int) - 1))):=by
     unfold lJ
     rw [aq (by omega),cond_true,bI (by omega) Ci,aD,cV (by omega) (by omega),ch j (by omega) Ci,aD]
     have:(((mq b9 f g xs j).length:Int) == (0:Int))=(mq b9 f g xs j).isEmpty:=by cases mq b9 f g xs j <;> simp <;> omega
     rw [this]
    dsimp only
    rw [hb]
    cases hu:gi xs j == -1 with
    | false=>
     rw [cond_false]
     dsimp only
     rw [ihj r (by omega)]
     simp [hu]
    | true=>
     rw [cond_true]
     cases he:(mq b9 f g xs j).isEmpty with
     | true=>
      rw [cond_true]
      simp [hu,he]
     | false=>
      rw [cond_false]
      dsimp only
      rw [ihj (j:Int) (by omega)]
      simp only [List.any_cons,List.any_nil,hu,he,Bool.and_false,Bool.or_false,List.find?_cons,List.find?_nil]
      cases (ns j).find? (fun y=>gi xs y == -1) <;> rfl
  show pK (fM n) (bX.mk f g b9 (m:Int) fd) xs=_
  unfold pK w8
  rw [cV (by omega) (by omega)]
  cases xr:(ns xs.length).any (fun y=>gi xs y == -1 && (mq b9 f g xs y).isEmpty) with
  | true=>
   have h1:=Yu xs.length (-1) (by omega)
   rw [xr,cond_true] at h1
   rw [CB h1]
   show some (bX.mk f g b9 (m:Int) fd)=some (bX.mk f g b9 (m:Int) (fd++([]:List (List Int)).take (m - fd.length)))
   rw [List.take_nil,List.append_nil]
  | false=>
   have h1:=Yu xs.length (-1) (by omega)
   rw [xr,cond_false] at h1
   rw [uh h1]
   rw [cond_false]
   dsimp only
   cases Pf:(ns xs.length).find? (fun y=>gi xs y == -1) with
   | none=>
    dsimp only [Option.getD_none]
    rw [aq (by omega),cond_true,iu xs (by omega),aD,cN (by omega) (by omega),aD,List.take_of_length_le (by simp; omega)]
    rfl
   | some x=>
    have hx:=bp.1 (List.mem_of_find?_eq_some Pf)
    have Yv:gi xs x = -1:=by have:=List.find?_some Pf; simpa using this
    dsimp only [Option.getD_some]
    rw [ba (by omega),cond_false,ch x hx.1 hx.2,aD]
    have cl:=U0 (b9:=b9) T xs x
    have key:∀ (r:List Int) (i:Nat) (fe:List (List Int)),(mq b9 f g xs x).drop i=r→i≤(mq b9 f g xs x).length→fe.length≤m→∃ j:Int,af (fun s:Int×Int×Int×Int×Int×Bool×Int×List (List Int)=>hY (fM n) (bX.mk f g b9 (m:Int) fd) xs x (mq b9 f g xs x) s.1 s.2.1 s.2.2.1 s.2.2.2.1 s.2.2.2.2.1 s.2.2.2.2.2.1 s.2.2.2.2.2.2.1 s.2.2.2.2.2.2.2)
      ((i:Int),f.aE.aA,f.aF.aA,g.aE.aA,g.aF.aA,b9,(m:Int),fe)=some (.exit 2 (j,f.aE.aA,f.aF.aA,g.aE.aA,g.aF.aA,b9,(m:Int),fe++(r.flatMap fun b=>w8 b9 f g n (xs.set x.toNat b)).take (m - fe.length))):=by
     intro r
     induction r with
     | nil=>
      intro i fe hd hi BY
      obtain rfl:i=(mq b9 f g xs x).length:=by have:=congrArg List.length hd; simp at this; omega
      refine ⟨((mq b9 f g xs x).length:Int),mj (k:=2) ?_⟩
      unfold hY
      rw [ba (by omega),cond_false,aD,cond_false,List.flatMap_nil,List.take_nil,List.append_nil]
     | cons b r Tu=>
      intro i fe hd hi BY
      have bc:i < (mq b9 f g xs x).length:=by
       rcases Nat.lt_or_ge i (mq b9 f g xs x).length with h | h
       ·exact h
       ·rw [List.drop_eq_nil_of_le h] at hd; cases hd
      have hb:(mq b9 f g xs x)[i]? = some b:=by
       rw [List.drop_eq_getElem_cons bc] at hd
       rw [List.getElem?_eq_getElem bc]; exact congrArg some (List.cons.inj hd).1
      have jk:(mq b9 f g xs x).drop (i+1)=r:=by rw [List.drop_eq_getElem_cons bc] at hd; exact (List.cons.inj hd).2
      by_cases Tc:fe.length < m
      ·have kb:=UZ T (List.mem_of_getElem? hb)
       have hc:G4 (xs.set x.toNat b) < n:=by
        have:=Lm (r:=xs) (d:=x.toNat) kb.1 (by omega) (by rw [show ((x.toNat:Nat):Int)=x by omega]; exact Yv)
        omega
       have hg:=ih fe (xs.set x.toNat b) Tc (by rw [List.length_set]; exact pl) (wB po kb.2) hc
       have Hs:hY (fM n) (bX.mk f g b9 (m:Int) fd) xs x (mq b9 f g xs x) (i:Int) f.aE.aA f.aF.aA g.aE.aA g.aF.aA b9 (m:Int) fe =
         some (.norm (((i+1:Nat):Int),f.aE.aA,f.aF.aA,g.aE.aA,g.aF.aA,b9,(m:Int),fe++(w8 b9 f g n (xs.set x.toNat b)).take (m - fe.length))):=by
        unfold hY
        rw [aq (by omega),cond_true,aD,aq (by omega),cond_true,iu xs (by omega),aD,bx,hb,aD,bI hx.1 hx.2,aD]
        show (fM n (bX.mk f g b9 (m:Int) fe) (xs.set x.toNat b)>>=_)=_
        rw [hg,aD,bH (by omega)]
       rw [o4]
       dsimp only
       rw [Hs]
       dsimp only
       have hle:(fe++(w8 b9 f g n (xs.set x.toNat b)).take (m - fe.length)).length≤m:=by rw [List.length_append,List.length_take]; omega
       obtain ⟨j,hj⟩:=Tu (i+1) _ jk (by omega) hle
       refine ⟨j,hj.trans ?_⟩
       have:(fe++(w8 b9 f g n (xs.set x.toNat b)).take (m - fe.length))++(r.flatMap fun b=>w8 b9 f g n (xs.set x.toNat b)).take (m - (fe++(w8 b9 f g n (xs.set x.toNat b)).take (m - fe.length)).length)=fe++((b :: r).flatMap fun b=>w8 b9 f g n (xs.set x.toNat b)).take (m - fe.length):=by
        rw [List.flatMap_cons,List.take_append,List.append_assoc,List.length_append,List.length_take]
        congr 3
        omega
       rw [this]
      ·refine ⟨(i:Int),mj (k:=2) ?_⟩
       unfold hY
       dsimp only
       rw [aq (by omega),cond_true,aD,ba (by omega),cond_false,show m - fe.length=0 by omega,List.take_zero,List.append_nil]
    obtain ⟨j,hj⟩:=key _ 0 fd rfl (by omega) (by omega)
    have iH:af (fun s:Int×Int×Int×Int×Int×Bool×Int×List (List Int)=>hY (fM n) (bX.mk f g b9 (m:Int) fd) xs x (mq b9 f g xs x) s.1 s.2.1 s.2.2.1 s.2.2.2.1 s.2.2.2.2.1 s.2.2.2.2.2.1 s.2.2.2.2.2.2.1 s.2.2.2.2.2.2.2)
      ((0:Int),f.aE.aA,f.aF.aA,g.aE.aA,g.aF.aA,b9,(m:Int),fd)=_:=hj
    rw [uh iH]
    rfl
end
theorem M1 {l:List Int} {u v:Int→List (List Int)} (h:∀ b∈l,u b=v b):l.flatMap u=l.flatMap v:=by
 induction l with
 | nil=>rfl
 | cons b l ih=>rw [List.flatMap_cons,List.flatMap_cons,h b (by simp),ih fun b hb=>h b (by simp [hb])]
section
variable {f g:aJ} {c:List Int} (hc:uT ⟨f,g,c⟩ = true)
include hc
theorem F6 {b9:Bool} {xs:List Int} (hl:xs.length=c.length) (hx:∀ i:Int,0≤i→i < c.length→gi xs i < 0∨gi xs i=gi c i) {y:Int} (y0:0≤y) (y1:y < c.length) (hi:v8 b9 f (gi c y)=true):gi c y∈mq b9 f g xs y:=by
 have N:=Pg hc
 have pl:(c.length:Int)=f.aE.aA:=N.pl
 have cp:0≤gi c y∧gi c y < f.aF.aC.length:=N.cp (x:=y) y0 (show y < f.aE.aA by omega)
 have pf:gi f.aF.aC (gi c y)=gi f.aA y:=N.pf y y0 (show y < f.aE.aA by omega)
 have pt:gi f.aF.To (gi c y)=gi g.aA y:=N.pt y y0 (show y < f.aE.aA by omega)
 have tc:∀ q:Int,0≤q→gi (xs.set y.toNat (gi c y)) q=if q=y then gi c y else gi xs q:=fun q q0=>by
  have:=iy (l:=xs) (q:=gi c y) (i:=y) (j:=q) y0 (by omega) q0
  exact this
 have hp:∀ i:Int,0≤i→i < c.length→gi (xs.set y.toNat (gi c y)) i < 0∨gi (xs.set y.toNat (gi c y)) i=gi c i:=fun i i0 i1=>by
  rw [tc i i0]
  by_cases e:i=y
  ·rw [if_pos e,e]; exact .inr rfl
  ·rw [if_neg e]; exact hx i i0 i1
 unfold mq
 refine List.mem_filter.2 ⟨List.mem_filter.2 ⟨bp.2 cp,?_⟩,?_⟩
 ·unfold p8; rw [pf,pt]; simp
 ·rw [hi,Bool.true_and]
  unfold F4
  refine List.all_eq_true.2 fun a ha=>?_
  obtain ⟨a0,a1⟩:=bp.1 ha
  have kf:=N.f.c.fr a0 a1
  have kt:=N.f.c.to a0 a1
  dsimp only at kf kt
  have Ys:tC f g c a=true:=by
   have h:=N.sq a a0 a1
   dsimp only at h
   unfold tC
   rw [h]; simp
  unfold JD
  rcases hp (gi f.aE.aC a) kf.1 (by omega) with h1 | h1
  ·rw [aq h1]; simp
  ·rcases hp (gi f.aE.To a) kt.1 (by omega) with h2 | h2
   ·rw [aq h2]; simp
   ·have:tC f g (xs.set y.toNat (gi c y)) a=tC f g c a:=by unfold tC; rw [h1,h2]
    rw [this,Ys]; simp
theorem RY {b9:Bool} (RX:∀ y:Int,0≤y→y < c.length→v8 b9 f (gi c y)=true):∀ (n:Nat) (xs:List Int),G4 xs < n→xs.length=c.length→(∀ i:Int,0≤i→i < c.length→gi xs i < 0∨gi xs i=gi c i)→w8 b9 f g n xs≠[]:=by
 have N:=Pg hc
 have pl:(c.length:Int)=f.aE.aA:=N.pl
 intro n
 induction n with
 | zero=>intro xs h; omega
 | succ n ih=>
  intro xs hn hl hx
  unfold w8
  have xr:(ns xs.length).any (fun y=>gi xs y == -1 && (mq b9 f g xs y).isEmpty)=false:=by
   rw [dy]
   intro y y0 y1
   have hm:=F6 hc hl hx y0 (by omega) (RX y y0 (by omega))
   have:(mq b9 f g xs y).isEmpty=false:=by
    cases Lo:mq b9 f g xs y with
    | nil=>rw [Lo] at hm; cases hm
    | cons=>rfl
   rw [this,Bool.and_false]
  rw [xr,cond_false]
  cases Pf:(ns xs.length).find? (fun y=>gi xs y == -1) with
  | none=>intro h; cases h
  | some x=>
   have Di:=bp.1 (List.mem_of_find?_eq_some Pf)
   have Yv:gi xs x = -1:=by have:=List.find?_some Pf; simpa using this
   have hm:=F6 hc hl hx Di.1 (by omega) (RX x Di.1 (by omega))
   have cp:0≤gi c x∧gi c x < f.aF.aC.length:=N.cp (x:=x) Di.1 (show x < f.aE.aA by omega)
   have vc:G4 (xs.set x.toNat (gi c x)) < n:=by
    have:=Lm (r:=xs) (d:=x.toNat) cp.1 (by omega) (by rw [show ((x.toNat:Nat):Int)=x by omega]; exact Yv)
    omega
   intro h
   refine ih (xs.set x.toNat (gi c x)) vc (by rw [List.length_set]; exact hl) (fun i i0 i1=>?_) (List.flatMap_eq_nil_iff.1 h _ hm)
   have e:=iy (l:=xs) (q:=gi c x) (i:=x) (j:=i) Di.1 (by omega) i0
   rw [e]
   by_cases e2:i=x
   ·rw [if_pos e2,e2]; exact .inr rfl
   ·rw [if_neg e2]; exact hx i i0 i1
end
section
variable {f g:aJ} (T:D6 f g)
include T
theorem RZ {b9:Bool}:∀ (k n:Nat) (p:List Int),zJ f g p→((p.length+k:Nat):Int)=f.aE.aA→k < n→w8 b9 f g n (p++List.replicate k (-1))=km (v8 b9 f) f g k p:=by
 intro k
 induction k with
 | zero=>
  intro n p hp hk hn
  obtain ⟨n,rfl⟩ : ∃ i,n=i+1:=⟨n - 1,by omega⟩
  have hv:∀ y∈ns p.length,(gi p y == -1)=false:=fun y hy=>by
   have hy:=bp.1 hy
   have:=(hp.v y hy.1 hy.2).1
   exact tV (by omega)
  rw [show p++List.replicate 0 (-1)=p by simp]
  unfold w8 km
  have h1:(ns p.length).any (fun y=>gi p y == -1 && (mq b9 f g p y).isEmpty)=false:=by
   rw [dy]
   intro y y0 y1
   rw [hv y (bp.2 ⟨y0,y1⟩)]; rfl
  have h2:(ns p.length).find? (fun y=>gi p y == -1)=none:=List.find?_eq_none.2 fun y hy=>by rw [hv y hy]; decide
  rw [h1,h2]; rfl
 | succ k ih=>
  intro n p hp hk hn
  obtain ⟨n,rfl⟩ : ∃ i,n=i+1:=⟨n - 1,by omega⟩
  have vv:(p++List.replicate (k+1) (-1)).length=p.length+(k+1):=by simp
  have Yw:∀ y:Int,0≤y→y < p.length→gi (p++List.replicate (k+1) (-1)) y=gi p y:=fun y y0 y1=>JE y0 y1
  have hhi:∀ y:Int,(p.length:Int)≤y→y < ((p.length+(k+1):Nat):Int)→gi (p++List.replicate (k+1) (-1)) y = -1:=fun y y0 y1=>Ph y0 y1
  show (bif (ns (p++List.replicate (k+1) (-1)).length).any (fun y=>gi (p++List.replicate (k+1) (-1)) y == -1 && (mq b9 f g (p++List.replicate (k+1) (-1)) y).isEmpty) then [] else
   match (ns (p++List.replicate (k+1) (-1)).length).find? (fun y=>gi (p++List.replicate (k+1) (-1)) y == -1) with
   | none=>[p++List.replicate (k+1) (-1)]
   | some x=>(mq b9 f g (p++List.replicate (k+1) (-1)) x).flatMap fun b=>w8 b9 f g n ((p++List.replicate (k+1) (-1)).set x.toNat b))=_
  rw [vv]
  cases xr:(ns (p.length+(k+1))).any (fun y=>gi (p++List.replicate (k+1) (-1)) y == -1 && (mq b9 f g (p++List.replicate (k+1) (-1)) y).isEmpty) with
  | true=>
   rw [cond_true]
   cases hE:km (v8 b9 f) f g (k+1) p with
   | nil=>rfl
   | cons c l=>
    exfalso
    have vc:c∈km (v8 b9 f) f g (k+1) p:=by rw [hE]; simp
    obtain ⟨hG,hL⟩:=xS T _ _ _ hp vc
    obtain ⟨_,x2,x3⟩:=G5 _ _ _ vc
    have ae0:=G6 T hG (by omega)
    obtain ⟨y,hy,hu⟩:=List.any_eq_true.1 xr
    have hy:=bp.1 hy
    rw [Bool.and_eq_true,beq_iff_eq] at hu
    have hyp:(p.length:Int)≤y:=by
     rcases Int.lt_or_le y p.length with h | h
     ·have:=(hp.v y hy.1 h).1
      rw [Yw y hy.1 h] at hu
      omega
     ·exact h
    have:=F6 ae0 (xs:=p++List.replicate (k+1) (-1)) (by omega) (fun i i0 i1=>by
     rcases Int.lt_or_le i p.length with h | h
     ·exact .inr (by rw [Yw i i0 h,x2 i i0 h])
     ·exact .inl (by rw [hhi i h (by omega)]; omega)) hy.1 (by omega) (x3 y hyp (by omega))
    cases Lo:mq b9 f g (p++List.replicate (k+1) (-1)) y with
    | nil=>rw [Lo] at this; cases this
    | cons=>rw [Lo] at hu; cases hu.2
  | false=>
   rw [cond_false,U1 (x:=p.length) (by rw [hhi _ (by omega) (by omega)]; rfl) (fun y hy=>by
    have:=(hp.v (y:Int) (by omega) (by omega)).1
    rw [Yw _ (by omega) (by omega)]
    exact tV (by omega)) _ (by omega)]
   dsimp only
   have tc:∀ b:Int,(p++List.replicate (k+1) (-1)).set (p.length:Int).toNat b=(p++[b])++List.replicate k (-1):=fun b=>by
    rw [Int.toNat_natCast,List.set_append_right _ _ (Nat.le_refl _),Nat.sub_self,List.replicate_succ,List.set_cons_zero,List.append_assoc]; rfl
   have Lo:mq b9 f g (p++List.replicate (k+1) (-1)) (p.length:Int)=((ns f.aF.aC.length).filter (p8 f.aF (gi f.aA p.length) (gi g.aA p.length))).filter (zK (v8 b9 f) f g p):=by
    unfold mq
    refine List.filter_congr fun b hb=>?_
    have kb:=bp.1 (List.mem_filter.1 hb).1
    unfold zK
    rw [tc b]
    congr 1
    have hv:∀ i:Int,0≤i→i < (p++[b]).length→0≤gi (p++[b]) i:=fun i i0 i1=>by
     rw [List.length_append,List.length_singleton] at i1
     rw [j7 i0]
     by_cases e:i < p.length
     ·rw [if_pos e]; exact (hp.v i i0 e).1.1
     ·rw [if_neg e,if_pos (by omega)]; exact kb.1
    have hlb:(p++[b]).length=p.length+1:=by simp
    have tU:∀ i:Int,0≤i→i≤(p.length:Int)→gi ((p++[b])++List.replicate k (-1)) i=gi (p++[b]) i:=fun i i0 i1=>JE i0 (by omega)
    have hup:∀ i:Int,(p.length:Int) < i→i < f.aE.aA→gi ((p++[b])++List.replicate k (-1)) i = -1:=fun i i0 i1=>Ph (by omega) (by omega)
    unfold F4 xt
    rw [Bool.eq_iff_iff,List.all_eq_true,Bool.not_eq_true',dy]
    have hok:∀ a:Int,0≤a→a < f.aE.aC.length→(JD f g p.length ((p++[b])++List.replicate k (-1)) a=true↔xu f g p.length (p++[b]) a=false):=by
     intro a a0 a1
     have kf:=T.F.c.fr a0 a1
     have kt:=T.F.c.to a0 a1
     unfold JD xu
     by_cases hF:gi f.aE.aC a≤(p.length:Int)
     ·by_cases hT:gi f.aE.To a≤(p.length:Int)
      ·rw [ba (by have:=hv _ kf.1 (by omega); rw [tU _ kf.1 hF]; omega),ba (by have:=hv _ kt.1 (by omega); rw [tU _ kt.1 hT]; omega)]
       have hs:tC f g ((p++[b])++List.replicate k (-1)) a=tC f g (p++[b]) a:=by unfold tC; rw [tU _ kf.1 hF,tU _ kt.1 hT]
       rw [hs,Bool.false_or,Bool.false_or]
       have hm:(w9 f a == (p.length:Int)) = !(gi f.aE.aC a != (p.length:Int) && gi f.aE.To a != (p.length:Int)):=by
        unfold w9
        rw [Bool.eq_iff_iff]
        simp only [beq_iff_eq,Bool.not_eq_true',Bool.and_eq_false_iff,bne_eq_false_iff_eq]
        split <;> omega
       rw [hm]
       cases gi f.aE.aC a != (p.length:Int) && gi f.aE.To a != (p.length:Int) <;> cases tC f g (p++[b]) a <;> decide
      ·rw [aq (p:=gi ((p++[b])++List.replicate k (-1)) (gi f.aE.To a) < 0) (by rw [hup _ (by omega) kt.2]; omega)]
       rw [tV (a:=w9 f a) (by unfold w9; split <;> omega)]
       simp
     ·rw [aq (p:=gi ((p++[b])++List.replicate k (-1)) (gi f.aE.aC a) < 0) (by rw [hup _ (by omega) kf.2]; omega)]
      rw [tV (a:=w9 f a) (by unfold w9; split <;> omega)]
      simp
    exact ⟨fun h a a0 a1=>(hok a a0 a1).1 (h a (bp.2 ⟨a0,a1⟩)),fun h a ha=>(hok a (bp.1 ha).1 (bp.1 ha).2).2 (h a (bp.1 ha).1 (bp.1 ha).2)⟩
   rw [Lo]
   show _=(((ns f.aF.aC.length).filter (p8 f.aF (gi f.aA p.length) (gi g.aA p.length))).filter (zK (v8 b9 f) f g p)).flatMap fun b=>km (v8 b9 f) f g k (p++[b])
   refine M1 fun b hb=>?_
   obtain ⟨vE,s6⟩:=List.mem_filter.1 hb
   rw [tc b]
   exact ih n (p++[b]) (M3 T hp vE s6) (by rw [List.length_append,List.length_singleton]; omega) (by omega)
theorem Yx {b9:Bool} {m:Nat} (hm:m≤1000) (SX:1≤m):mG f g b9 (m:Int)=some ((km (v8 b9 f) f g f.aE.aA.toNat []).take m):=by
 have F:=T.F
 have cm:=F.c.m
 have co:=F.c.o8
 have c0:=F.c.o0
 have dm:=F.d.m
 suffices h:Ok (mG f g b9 (m:Int)) fun y=>y=(km (v8 b9 f) f g f.aE.aA.toNat []).take m by
  obtain ⟨y,h1,h2⟩:=h
  rw [h1,h2]
 unfold mG
 refine jb (ol (fun z:List (List Int)×Int=>(0≤z.2∧z.2≤f.aE.aC.length)∧(z.1.length:Int)=z.2∧∀ r∈z.1,r.length=2∧∀ y∈r,0≤y∧y < f.aE.aA) (fun z=>(f.aE.aC.length - z.2).toNat) ⟨⟨by show (0:Int)≤0; omega,by show (0:Int)≤_; omega⟩,rfl,kn⟩ ?_)
 rintro ⟨l,i⟩ ⟨⟨i0,i1⟩,hl,hv⟩
 dsimp only at i0 i1 hl hv
 show Ok (pL f l i) _
 unfold pL
 refine od (fun hi=>?_) fun hi=>os ⟨rfl,?_⟩
 ·have kf:=F.c.fr i0 hi
  have kt:=F.c.to i0 hi
  refine oe (F.c.ji i0 hi) (oe (F.c.jj i0 hi) (ew (by omega) (by omega) (os ⟨⟨⟨?_,?_⟩,?_,jq hv ⟨rfl,fun y hy=>?_⟩⟩,?_⟩)))
  ·dsimp only; rw [w1 i0 hi (by omega)]; omega
  ·dsimp only; rw [w1 i0 hi (by omega)]; omega
  ·dsimp only; rw [w1 i0 hi (by omega),List.length_append,List.length_singleton]; omega
  ·rcases List.mem_cons.1 hy with rfl | hy
   ·exact kf
   ·rw [List.mem_singleton.1 hy]; exact kt
  ·dsimp only; rw [w1 i0 hi (by omega)]; omega
 refine ob (ZV c0 (by omega) hv (by omega)) fun q hq=>?_
 refine ol (fun z:List Int×Int=>(0≤z.2∧z.2≤q.length)∧z.1=List.replicate z.2.toNat (-1)) (fun z=>(q.length - z.2).toNat) ⟨⟨by show (0:Int)≤0; omega,by show (0:Int)≤_; omega⟩,rfl⟩ ?_
 rintro ⟨l1,k⟩ ⟨⟨k0,k1⟩,Tv⟩
 dsimp only at k0 k1 Tv
 show Ok (pN f g b9 q l1 k) _
 unfold pN
 have apg:l1.length=k.toNat:=by rw [Tv,List.length_replicate]
 refine od (fun hk=>ew (by omega) (by omega) ?_) fun hk=>os ⟨rfl,?_⟩
 ·refine ol (fun z:List Int×Int=>(0≤z.2∧z.2≤q.length)∧(z.1.length:Int)=z.2∧∀ v∈z.1,v < 0) (fun z=>(q.length - z.2).toNat) ⟨⟨by show (0:Int)≤0; omega,by show (0:Int)≤_; omega⟩,rfl,kn⟩ ?_
  rintro ⟨l2,e⟩ ⟨⟨e0,e1⟩,sX,vT⟩
  dsimp only at e0 e1 sX vT
  show Ok (pM q k l2 e) _
  unfold pM
  refine od (fun he=>oe (bI e0 he) (oc (fun _=>ew (by omega) (by omega) (os ⟨⟨⟨?_,?_⟩,?_,jq vT (by omega)⟩,?_⟩)) fun _=>ew (by omega) (by omega) (os ⟨⟨⟨?_,?_⟩,?_,jq vT (by omega)⟩,?_⟩))) fun he=>os ⟨rfl,?_⟩
  all_goals (try dsimp only)
  all_goals (try rw [w1 e0 he (by omega)])
  all_goals (try simp only [List.length_append,List.length_singleton])
  all_goals (try omega)
  refine oe (Yt (m:=1) T (by omega) 64 [] l2 (by simp) (by omega) (fun y hy=>by have:=vT y hy; omega) (by have:=JF l2; omega)) (oc (fun h=>os ?_) fun h=>os ⟨⟨⟨?_,?_⟩,?_⟩,?_⟩)
  ·show ([]:List (List Int))=_
   cases hE:km (v8 b9 f) f g f.aE.aA.toNat [] with
   | nil=>rw [List.take_nil]
   | cons c l=>
    exfalso
    have vc:c∈km (v8 b9 f) f g f.aE.aA.toNat []:=by rw [hE]; simp
    have hn:=Pj T vc
    have hx:=(G5 _ _ _ vc).2.2
    have:=RY (b9:=b9) hn.1 (fun y y0 y1=>hx y (by simp; omega) y1) 64 l2 (by have:=JF l2; omega) (by omega) (fun i i0 i1=>.inl (vT _ (fj i0 (by omega))))
    cases hg:w8 b9 f g 64 l2 with
    | nil=>exact this hg
    | cons q l=>rw [hg] at h; simp at h
  all_goals (try dsimp only)
  all_goals rw [w1 k0 hk (by omega)]
  ·omega
  ·omega
  ·rw [Tv,show (k+1).toNat=k.toNat+1 by omega,List.replicate_succ']
  ·omega
 ·obtain rfl:k=q.length:=by omega
  have Yy:l1=List.replicate f.aE.aA.toNat (-1):=by rw [Tv,hq]
  have KW:=RZ (b9:=b9) T f.aE.aA.toNat 64 [] (CJ T) (by simp; omega) (by omega)
  rw [List.nil_append] at KW
  refine oe (Yt (m:=m) T hm 64 [] l1 (by simp; omega) (by omega) (fun y hy=>by rw [Yy] at hy; have:=(List.mem_replicate.1 hy).2; omega) (by have:=JF l1; omega)) (os ?_)
  show []++(w8 b9 f g 64 l1).take (m - ([]:List (List Int)).length)=_
  rw [Yy,KW]; rfl
end
end Go.Proofs.YtbmchcnkbonmkaaGreat
