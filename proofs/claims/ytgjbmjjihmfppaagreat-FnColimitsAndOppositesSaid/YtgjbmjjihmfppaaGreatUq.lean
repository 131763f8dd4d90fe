/- The reference's search in depth, for all transformations or for isomorphisms alone, up to any number: it gives the first ones of the enumeration. No condition beside those that each theorem names. -/
import Derived.Test.YtgjbmjjihmfppaaGreatVy
namespace Go.Proofs.YtgjbmjjihmfppaaGreat
open Go Go.Li
set_option linter.unusedVariables false
set_option linter.unusedSectionVars false
set_option linter.unusedSimpArgs false
def vM (cj:Bool) (f:aI) (b:Int):Bool:=bif cj then ME f.aE b else true
def mq (cj:Bool) (f g:aI) (xs:List Int) (x:Int):List Int:=((ns f.aE.aD.length).filter (rf f.aE (gi f.aA x) (gi g.aA x))).filter fun b=>vM cj f b && FH f g x (xs.set x.toNat b)
def w4 (cj:Bool) (f g:aI):Nat→List Int→List (List Int)
 | 0,_=>[]
 | n+1,xs=>bif (ns xs.length).any (fun y=>gi xs y == -1 && (mq cj f g xs y).isEmpty) then [] else
  match (ns xs.length).find? (fun y=>gi xs y == -1) with
  | none=>[xs]
  | some x=>(mq cj f g xs x).flatMap fun b=>w4 cj f g n (xs.set x.toNat b)
section
variable {f g:aI} (T:DQ f g) {cj:Bool}
include T
theorem Re {m:Int} {fd:List (List Int)} {xs:List Int} (pl:(xs.length:Int)=f.aC.aA) (po:∀ y∈xs,y < f.aE.aD.length) {x:Int} (x0:0≤x) (x1:x < f.aC.aA):iJ (cN.mk f g cj m fd) xs x=some (mq cj f g xs x):=by
 have F:=T.F
 have cm:=F.c.m
 have dm:=F.d.m
 have co:=F.c.o8
 have ix2:idx g.aA x=some (gi g.aA x):=T.G.yJ x0 (by rw [T.es]; exact x1)
 unfold iJ mq
 dsimp only
 rw [F.yJ x0 x1,aF,ix2,aF,SY F.d,aF]
 generalize hl:(ns f.aE.aD.length).filter (rf f.aE (gi f.aA x) (gi g.aA x))=l
 have B3:∀ b∈l,0≤b∧b < f.aE.aD.length:=by intro b hb; rw [← hl] at hb; exact ca.1 (List.mem_filter.1 hb).1
 have Jq:l.length≤f.aE.aD.length:=by rw [← hl]; exact Nat.le_trans (List.length_filter_le _ _) (by rw [dM]; exact Nat.le_refl _)
 refine (congrArg ak (tK l (fun b=>vM cj f b && FH f g x (xs.set x.toNat b)) (fun acc i=>(acc,(i:Int))) rfl ?_ ?_)).trans rfl
 ·intro i b acc hb DR
  have hi:=bj hb
  have kb:=B3 b (List.mem_of_getElem? hb)
  obtain ⟨v,V0,yK⟩:=Rf F.d kb.1 kb.2
  show iD (cN.mk f g cj m fd) xs x l acc i=_
  unfold iD
  dsimp only
  rw [av (by omega),cond_true]
  have zQ:(bif cj then (idx l (i:Int)>>=fun e=>(jW f.aE e>>=fun y=>some (decide (y < (0:Int))))) else some false)=some (!(vM cj f b)):=by
   unfold vM
   cases cj with
   | false=>rfl
   | true=>rw [cond_true,cond_true,bu,hb,aF,V0,aF,yK]
  rw [zQ,aF]
  simp only [bu,hb,aF,bR (show i < 9223372036854775807 by omega),iu xs (show xs.length≤1048576 by omega),cH (l:=xs) x0 (by omega)]
  cases Rh:vM cj f b with
  | false=>rfl
  | true=>
   rw [Bool.not_true,cond_false,Bool.true_and]
   have pl2:((xs.set x.toNat b).length:Int)=f.aC.aA:=by rw [List.length_set]; exact pl
   have po2:∀ y∈xs.set x.toNat b,y < f.aE.aD.length:=wh po kb.2
   have Gf:∃ j:Int,ai (fun s:Bool×Int=>jX (cN.mk f g cj m fd) x xs b s.1 s.2) (true,(0:Int))=some (.exit 2 ((ns f.aC.aD.length).all (Jr f g x (xs.set x.toNat b)),j)):=by
    refine GI (R:=List Int) (k:=2) (n:=f.aC.aD.length) (Jr f g x (xs.set x.toNat b)) (fun a ha=>?_) (fun a ha=>?_) ?_
    ·have a1:(a:Int) < f.aC.aD.length:=by omega
     have kf:=F.c.fr (f:=(a:Int)) (by omega) a1
     have kt:=F.c.to (f:=(a:Int)) (by omega) a1
     have al:=F.al
     have XK:∀ h1 : ¬ gi (xs.set x.toNat b) (gi f.aC.aD a) < 0,∀ h2 : ¬ gi (xs.set x.toNat b) (gi f.aC.To a) < 0,jB f g (xs.set x.toNat b) a=some (sX f g (xs.set x.toNat b) a):=fun h1 h2=>
      Zv T pl2 (by omega) a1 ⟨by omega,po2 _ (fj kt.1 (by omega))⟩ ⟨by omega,po2 _ (fj kf.1 (by omega))⟩
     unfold jX Jr
     dsimp only
     rw [cond_true,av (by omega),aF,cond_true]
     simp only [F.c.js (f:=(a:Int)) (by omega) a1,F.c.j3 (f:=(a:Int)) (by omega) a1,aF,cH (l:=xs.set x.toNat b) kf.1 (by omega),cH (l:=xs.set x.toNat b) kt.1 (by omega),bR (show a < 9223372036854775807 by omega)]
     by_cases h1:gi (xs.set x.toNat b) (gi f.aC.aD a) < 0
     ·rw [av h1]
      cases gi f.aC.aD (a:Int) != x <;> cases gi f.aC.To (a:Int) != x <;> rfl
     ·rw [aX h1]
      by_cases h2:gi (xs.set x.toNat b) (gi f.aC.To a) < 0
      ·rw [av h2]
       cases gi f.aC.aD (a:Int) != x <;> cases gi f.aC.To (a:Int) != x <;> rfl
      ·rw [aX h2,XK h1 h2]
       cases gi f.aC.aD (a:Int) != x <;> cases gi f.aC.To (a:Int) != x <;> rfl
    ·rfl
    ·unfold jX
     dsimp only
     rw [cond_true,aX (by have:=F.al; omega),aF,cond_false]
   obtain ⟨j,hj⟩:=Gf
   rw [tU hj]
   show (bif FH f g x (xs.set x.toNat b) then _ else _)=_
   cases FH f g x (xs.set x.toNat b) with
   | false=>rfl
   | true=>rw [cond_true,dK (by omega) (by omega),aF]; rfl
 ·intro acc
  show iD (cN.mk f g cj m fd) xs x l acc _=_
  unfold iD
  rw [aX (by omega),cond_false]
theorem Ud {xs:List Int} {x b:Int} (h:b∈mq cj f g xs x):0≤b∧b < f.aE.aD.length:=by
 unfold mq at h
 exact ca.1 (List.mem_filter.1 (List.mem_filter.1 h).1).1
theorem Ue (xs:List Int) (x:Int):(mq cj f g xs x).length≤f.aE.aD.length:=by
 unfold mq
 exact Nat.le_trans (List.length_filter_le _ _) (Nat.le_trans (List.length_filter_le _ _) (by rw [dM]; exact Nat.le_refl _))
theorem XL {m:Nat} (hm:m≤1000):∀ (n:Nat) (fd:List (List Int)) (xs:List Int),fd.length < m→(xs.length:Int)=f.aC.aA→(∀ y∈xs,y < f.aE.aD.length)→GJ xs < n→gB n (cN.mk f g cj (m:Int) fd) xs=some (cN.mk f g cj (m:Int) (fd++(w4 cj f g n xs).take (m - fd.length))):=by
 have F:=T.F
 have co:=F.c.o8
 have dm:=F.d.m
 intro n
 induction n with
 | zero=>intro fd xs _ _ _ h; omega
 | succ n ih=>
  intro fd xs ON pl po hn
  have ch:∀ y:Int,0≤y→y < xs.length→iJ (cN.mk f g cj (m:Int) fd) xs y=some (mq cj f g xs y):=fun y y0 y1=>Re T pl po y0 (by omega)
  have XM:∀ (j:Nat) (r:Int),j≤xs.length→ai (fun s:Int×Int=>lT (cN.mk f g cj (m:Int) fd) xs s.1 s.2) (r,(j:Int) - 1) =
    some (bif (ns j).any (fun y=>gi xs y == -1 && (mq cj f g xs y).isEmpty) then .ret (cN.mk f g cj (m:Int) fd) else .exit 0 (((ns j).find? (fun y=>gi xs y == -1)).getD r,-1)):=by
   intro j
   induction j with
   | zero=>
    intro r _
    refine (ml (k:=0) (s':=(r,(-1:Int))) ?_).trans rfl
    unfold lT
    rw [aX (by omega),cond_false]; rfl
   | succ j ihj=>
    intro r hj
    have B0:(j:Int) < xs.length:=by omega
    rw [oh,show ((j+1:Nat):Int) - 1=(j:Int) by omega,CZ,List.any_append,List.find?_append]
    have hb:lT (cN.mk f g cj (m:Int) fd) xs r (j:Int)=(bif gi xs j == -1 then (bif (mq cj f g xs j).isEmpty then some (.ret (cN.mk f g cj (m:Int) fd)) else some (.norm ((j:Int),(j:Int) - 1))) else some (.norm (r,(j:Int) - 1))):=by
     unfold lT
     rw [av (by omega),cond_true,cH (by omega) B0,aF,dV (by omega) (by omega),ch j (by omega) B0,aF]
     have:(((mq cj f g xs j).length:Int) == (0:Int))=(mq cj f g xs j).isEmpty:=by cases mq cj f g xs j <;> simp <;> omega
     rw [this]
    dsimp only
    rw [hb]
    cases hu:gi xs j == -1 with
    | false=>
     rw [cond_false]
     dsimp only
     rw [ihj r (by omega)]
     simp [hu]
    | true=>
     rw [cond_true]
     cases he:(mq cj f g xs j).isEmpty with
     | true=>
      rw [cond_true]
      simp [hu,he]
     | false=>
      rw [cond_false]
      dsimp only
      rw [ihj (j:Int) (by omega)]
      simp only [List.any_cons,List.any_nil,hu,he,Bool.and_false,Bool.or_false,List.find?_cons,List.find?_nil]
      cases (ns j).find? (fun y=>gi xs y == -1) <;> rfl
  show pP (gB n) (cN.mk f g cj (m:Int) fd) xs=_
  unfold pP w4
  rw [dV (by omega) (by omega)]
  cases Bb:(ns xs.length).any (fun y=>gi xs y == -1 && (mq cj f g xs y).isEmpty) with
  | true=>
   have h1:=XM xs.length (-1) (by omega)
   rw [Bb,cond_true] at h1
   rw [Cj h1]
   show some (cN.mk f g cj (m:Int) fd)=some (cN.mk f g cj (m:Int) (fd++([]:List (List Int)).take (m - fd.length)))
   rw [List.take_nil,List.append_nil]
  | false=>
   have h1:=XM xs.length (-1) (by omega)
   rw [Bb,cond_false] at h1
   rw [tU h1]
   rw [cond_false]
   dsimp only
   cases OP:(ns xs.length).find? (fun y=>gi xs y == -1) with
   | none=>
    dsimp only [Option.getD_none]
    rw [av (by omega),cond_true,iu xs (by omega),aF,dK (by omega) (by omega),aF,List.take_of_length_le (by simp; omega)]
    rfl
   | some x=>
    have hx:=ca.1 (List.mem_of_find?_eq_some OP)
    have XN:gi xs x = -1:=by have:=List.find?_some OP; simpa using this
    dsimp only [Option.getD_some]
    rw [aX (by omega),cond_false,ch x hx.1 hx.2,aF]
    have cl:=Ue (cj:=cj) T xs x
    have key:∀ (r:List Int) (i:Nat) (fe:List (List Int)),(mq cj f g xs x).drop i=r→i≤(mq cj f g xs x).length→fe.length≤m→∃ j:Int,ai (fun s:Int×Int×Int×Int×Int×Bool×Int×List (List Int)=>iN (gB n) (cN.mk f g cj (m:Int) fd) xs x (mq cj f g xs x) s.1 s.2.1 s.2.2.1 s.2.2.2.1 s.2.2.2.2.1 s.2.2.2.2.2.1 s.2.2.2.2.2.2.1 s.2.2.2.2.2.2.2)
      ((i:Int),f.aC.aA,f.aE.aA,g.aC.aA,g.aE.aA,cj,(m:Int),fe)=some (.exit 2 (j,f.aC.aA,f.aE.aA,g.aC.aA,g.aE.aA,cj,(m:Int),fe++(r.flatMap fun b=>w4 cj f g n (xs.set x.toNat b)).take (m - fe.length))):=by
     intro r
     induction r with
     | nil=>
      intro i fe hd hi BK
      obtain rfl:i=(mq cj f g xs x).length:=by have:=congrArg List.length hd; simp at this; omega
      refine ⟨((mq cj f g xs x).length:Int),ml (k:=2) ?_⟩
      unfold iN
      rw [aX (by omega),cond_false,aF,cond_false,List.flatMap_nil,List.take_nil,List.append_nil]
     | cons b r SZ=>
      intro i fe hd hi BK
      have bm:i < (mq cj f g xs x).length:=by
       rcases Nat.lt_or_ge i (mq cj f g xs x).length with h | h
       ·exact h
       ·rw [List.drop_eq_nil_of_le h] at hd; cases hd
      have hb:(mq cj f g xs x)[i]? = some b:=by
       rw [List.drop_eq_getElem_cons bm] at hd
       rw [List.getElem?_eq_getElem bm]; exact congrArg some (List.cons.inj hd).1
      have jh:(mq cj f g xs x).drop (i+1)=r:=by rw [List.drop_eq_getElem_cons bm] at hd; exact (List.cons.inj hd).2
      by_cases SB:fe.length < m
      ·have kb:=Ud T (List.mem_of_getElem? hb)
       have hc:GJ (xs.set x.toNat b) < n:=by
        have:=KY (r:=xs) (d:=x.toNat) kb.1 (by omega) (by rw [show ((x.toNat:Nat):Int)=x by omega]; exact XN)
        omega
       have hg:=ih fe (xs.set x.toNat b) SB (by rw [List.length_set]; exact pl) (wh po kb.2) hc
       have Hb:iN (gB n) (cN.mk f g cj (m:Int) fd) xs x (mq cj f g xs x) (i:Int) f.aC.aA f.aE.aA g.aC.aA g.aE.aA cj (m:Int) fe =
         some (.norm (((i+1:Nat):Int),f.aC.aA,f.aE.aA,g.aC.aA,g.aE.aA,cj,(m:Int),fe++(w4 cj f g n (xs.set x.toNat b)).take (m - fe.length))):=by
        unfold iN
        rw [av (by omega),cond_true,aF,av (by omega),cond_true,iu xs (by omega),aF,bu,hb,aF,cH hx.1 hx.2,aF]
        show (gB n (cN.mk f g cj (m:Int) fe) (xs.set x.toNat b)>>=_)=_
        rw [hg,aF,bR (by omega)]
       rw [oh]
       dsimp only
       rw [Hb]
       dsimp only
       have hle:(fe++(w4 cj f g n (xs.set x.toNat b)).take (m - fe.length)).length≤m:=by rw [List.length_append,List.length_take]; omega
       obtain ⟨j,hj⟩:=SZ (i+1) _ jh (by omega) hle
       refine ⟨j,hj.trans ?_⟩
       have:(fe++(w4 cj f g n (xs.set x.toNat b)).take (m - fe.length))++(r.flatMap fun b=>w4 cj f g n (xs.set x.toNat b)).take (m - (fe++(w4 cj f g n (xs.set x.toNat b)).take (m - fe.length)).length)=fe++((b :: r).flatMap fun b=>w4 cj f g n (xs.set x.toNat b)).take (m - fe.length):=by
        rw [List.flatMap_cons,List.take_append,List.append_assoc,List.length_append,List.length_take]
        congr 3
        omega
       rw [this]
      ·refine ⟨(i:Int),ml (k:=2) ?_⟩
       unfold iN
       dsimp only
       rw [av (by omega),cond_true,aF,aX (by omega),cond_false,show m - fe.length=0 by omega,List.take_zero,List.append_nil]
    obtain ⟨j,hj⟩:=key _ 0 fd rfl (by omega) (by omega)
    have iz:ai (fun s:Int×Int×Int×Int×Int×Bool×Int×List (List Int)=>iN (gB n) (cN.mk f g cj (m:Int) fd) xs x (mq cj f g xs x) s.1 s.2.1 s.2.2.1 s.2.2.2.1 s.2.2.2.2.1 s.2.2.2.2.2.1 s.2.2.2.2.2.2.1 s.2.2.2.2.2.2.2)
      ((0:Int),f.aC.aA,f.aE.aA,g.aC.aA,g.aE.aA,cj,(m:Int),fd)=_:=hj
    rw [tU iz]
    rfl
end
theorem MG {l:List Int} {u v:Int→List (List Int)} (h:∀ b∈l,u b=v b):l.flatMap u=l.flatMap v:=by
 induction l with
 | nil=>rfl
 | cons b l ih=>rw [List.flatMap_cons,List.flatMap_cons,h b (by simp),ih fun b hb=>h b (by simp [hb])]
section
variable {f g:aI} {c:List Int} (hc:uD ⟨f,g,c⟩ = true)
include hc
theorem FI {cj:Bool} {xs:List Int} (hl:xs.length=c.length) (hx:∀ i:Int,0≤i→i < c.length→gi xs i < 0∨gi xs i=gi c i) {y:Int} (y0:0≤y) (y1:y < c.length) (hi:vM cj f (gi c y)=true):gi c y∈mq cj f g xs y:=by
 have N:=OQ hc
 have pl:(c.length:Int)=f.aC.aA:=N.pl
 have cp:0≤gi c y∧gi c y < f.aE.aD.length:=N.cp (x:=y) y0 (show y < f.aC.aA by omega)
 have pf:gi f.aE.aD (gi c y)=gi f.aA y:=N.pf y y0 (show y < f.aC.aA by omega)
 have pt:gi f.aE.To (gi c y)=gi g.aA y:=N.pt y y0 (show y < f.aC.aA by omega)
 have sn:∀ q:Int,0≤q→gi (xs.set y.toNat (gi c y)) q=if q=y then gi c y else gi xs q:=fun q q0=>by
  have:=mw (l:=xs) (q:=gi c y) (i:=y) (j:=q) y0 (by omega) q0
  exact this
 have hp:∀ i:Int,0≤i→i < c.length→gi (xs.set y.toNat (gi c y)) i < 0∨gi (xs.set y.toNat (gi c y)) i=gi c i:=fun i i0 i1=>by
  rw [sn i i0]
  by_cases e:i=y
  ·rw [if_pos e,e]; exact .inr rfl
  ·rw [if_neg e]; exact hx i i0 i1
 unfold mq
 refine List.mem_filter.2 ⟨List.mem_filter.2 ⟨ca.2 cp,?_⟩,?_⟩
 ·unfold rf; rw [pf,pt]; simp
 ·rw [hi,Bool.true_and]
  unfold FH
  refine List.all_eq_true.2 fun a ha=>?_
  obtain ⟨a0,a1⟩:=ca.1 ha
  have kf:=N.f.c.fr a0 a1
  have kt:=N.f.c.to a0 a1
  dsimp only at kf kt
  have XK:sX f g c a=true:=by
   have h:=N.sq a a0 a1
   dsimp only at h
   unfold sX
   rw [h]; simp
  unfold Jr
  rcases hp (gi f.aC.aD a) kf.1 (by omega) with h1 | h1
  ·rw [av h1]; simp
  ·rcases hp (gi f.aC.To a) kt.1 (by omega) with h2 | h2
   ·rw [av h2]; simp
   ·have:sX f g (xs.set y.toNat (gi c y)) a=sX f g c a:=by unfold sX; rw [h1,h2]
    rw [this,XK]; simp
theorem Ri {cj:Bool} (Rh:∀ y:Int,0≤y→y < c.length→vM cj f (gi c y)=true):∀ (n:Nat) (xs:List Int),GJ xs < n→xs.length=c.length→(∀ i:Int,0≤i→i < c.length→gi xs i < 0∨gi xs i=gi c i)→w4 cj f g n xs≠[]:=by
 have N:=OQ hc
 have pl:(c.length:Int)=f.aC.aA:=N.pl
 intro n
 induction n with
 | zero=>intro xs h; omega
 | succ n ih=>
  intro xs hn hl hx
  unfold w4
  have Bb:(ns xs.length).any (fun y=>gi xs y == -1 && (mq cj f g xs y).isEmpty)=false:=by
   rw [ec]
   intro y y0 y1
   have hm:=FI hc hl hx y0 (by omega) (Rh y y0 (by omega))
   have:(mq cj f g xs y).isEmpty=false:=by
    cases KZ:mq cj f g xs y with
    | nil=>rw [KZ] at hm; cases hm
    | cons=>rfl
   rw [this,Bool.and_false]
  rw [Bb,cond_false]
  cases OP:(ns xs.length).find? (fun y=>gi xs y == -1) with
  | none=>intro h; cases h
  | some x=>
   have Db:=ca.1 (List.mem_of_find?_eq_some OP)
   have XN:gi xs x = -1:=by have:=List.find?_some OP; simpa using this
   have hm:=FI hc hl hx Db.1 (by omega) (Rh x Db.1 (by omega))
   have cp:0≤gi c x∧gi c x < f.aE.aD.length:=N.cp (x:=x) Db.1 (show x < f.aC.aA by omega)
   have u2:GJ (xs.set x.toNat (gi c x)) < n:=by
    have:=KY (r:=xs) (d:=x.toNat) cp.1 (by omega) (by rw [show ((x.toNat:Nat):Int)=x by omega]; exact XN)
    omega
   intro h
   refine ih (xs.set x.toNat (gi c x)) u2 (by rw [List.length_set]; exact hl) (fun i i0 i1=>?_) (List.flatMap_eq_nil_iff.1 h _ hm)
   have e:=mw (l:=xs) (q:=gi c x) (i:=x) (j:=i) Db.1 (by omega) i0
   rw [e]
   by_cases e2:i=x
   ·rw [if_pos e2,e2]; exact .inr rfl
   ·rw [if_neg e2]; exact hx i i0 i1
end
section
variable {f g:aI} (T:DQ f g)
include T
theorem Rj {cj:Bool}:∀ (k n:Nat) (p:List Int),zo f g p→((p.length+k:Nat):Int)=f.aC.aA→k < n→w4 cj f g n (p++List.replicate k (-1))=ks (vM cj f) f g k p:=by
 intro k
 induction k with
 | zero=>
  intro n p hp hk hn
  obtain ⟨n,rfl⟩ : ∃ i,n=i+1:=⟨n - 1,by omega⟩
  have hv:∀ y∈ns p.length,(gi p y == -1)=false:=fun y hy=>by
   have hy:=ca.1 hy
   have:=(hp.v y hy.1 hy.2).1
   exact sy (by omega)
  rw [show p++List.replicate 0 (-1)=p by simp]
  unfold w4 ks
  have h1:(ns p.length).any (fun y=>gi p y == -1 && (mq cj f g p y).isEmpty)=false:=by
   rw [ec]
   intro y y0 y1
   rw [hv y (ca.2 ⟨y0,y1⟩)]; rfl
  have h2:(ns p.length).find? (fun y=>gi p y == -1)=none:=List.find?_eq_none.2 fun y hy=>by rw [hv y hy]; decide
  rw [h1,h2]; rfl
 | succ k ih=>
  intro n p hp hk hn
  obtain ⟨n,rfl⟩ : ∃ i,n=i+1:=⟨n - 1,by omega⟩
  have uM:(p++List.replicate (k+1) (-1)).length=p.length+(k+1):=by simp
  have XO:∀ y:Int,0≤y→y < p.length→gi (p++List.replicate (k+1) (-1)) y=gi p y:=fun y y0 y1=>Js y0 y1
  have hhi:∀ y:Int,(p.length:Int)≤y→y < ((p.length+(k+1):Nat):Int)→gi (p++List.replicate (k+1) (-1)) y = -1:=fun y y0 y1=>OR y0 y1
  show (bif (ns (p++List.replicate (k+1) (-1)).length).any (fun y=>gi (p++List.replicate (k+1) (-1)) y == -1 && (mq cj f g (p++List.replicate (k+1) (-1)) y).isEmpty) then [] else
   match (ns (p++List.replicate (k+1) (-1)).length).find? (fun y=>gi (p++List.replicate (k+1) (-1)) y == -1) with
   | none=>[p++List.replicate (k+1) (-1)]
   | some x=>(mq cj f g (p++List.replicate (k+1) (-1)) x).flatMap fun b=>w4 cj f g n ((p++List.replicate (k+1) (-1)).set x.toNat b))=_
  rw [uM]
  cases Bb:(ns (p.length+(k+1))).any (fun y=>gi (p++List.replicate (k+1) (-1)) y == -1 && (mq cj f g (p++List.replicate (k+1) (-1)) y).isEmpty) with
  | true=>
   rw [cond_true]
   cases hE:ks (vM cj f) f g (k+1) p with
   | nil=>rfl
   | cons c l=>
    exfalso
    have u2:c∈ks (vM cj f) f g (k+1) p:=by rw [hE]; simp
    obtain ⟨hG,hL⟩:=xP T _ _ _ hp u2
    obtain ⟨_,x2,x3⟩:=GK _ _ _ u2
    have aep:=GL T hG (by omega)
    obtain ⟨y,hy,hu⟩:=List.any_eq_true.1 Bb
    have hy:=ca.1 hy
    rw [Bool.and_eq_true,beq_iff_eq] at hu
    have hyp:(p.length:Int)≤y:=by
     rcases Int.lt_or_le y p.length with h | h
     ·have:=(hp.v y hy.1 h).1
      rw [XO y hy.1 h] at hu
      omega
     ·exact h
    have:=FI aep (xs:=p++List.replicate (k+1) (-1)) (by omega) (fun i i0 i1=>by
     rcases Int.lt_or_le i p.length with h | h
     ·exact .inr (by rw [XO i i0 h,x2 i i0 h])
     ·exact .inl (by rw [hhi i h (by omega)]; omega)) hy.1 (by omega) (x3 y hyp (by omega))
    cases KZ:mq cj f g (p++List.replicate (k+1) (-1)) y with
    | nil=>rw [KZ] at this; cases this
    | cons=>rw [KZ] at hu; cases hu.2
  | false=>
   rw [cond_false,Uf (x:=p.length) (by rw [hhi _ (by omega) (by omega)]; rfl) (fun y hy=>by
    have:=(hp.v (y:Int) (by omega) (by omega)).1
    rw [XO _ (by omega) (by omega)]
    exact sy (by omega)) _ (by omega)]
   dsimp only
   have sn:∀ b:Int,(p++List.replicate (k+1) (-1)).set (p.length:Int).toNat b=(p++[b])++List.replicate k (-1):=fun b=>by
    rw [Int.toNat_natCast,List.set_append_right _ _ (Nat.le_refl _),Nat.sub_self,List.replicate_succ,List.set_cons_zero,List.append_assoc]; rfl
   have KZ:mq cj f g (p++List.replicate (k+1) (-1)) (p.length:Int)=((ns f.aE.aD.length).filter (rf f.aE (gi f.aA p.length) (gi g.aA p.length))).filter (zp (vM cj f) f g p):=by
    unfold mq
    refine List.filter_congr fun b hb=>?_
    have kb:=ca.1 (List.mem_filter.1 hb).1
    unfold zp
    rw [sn b]
    congr 1
    have hv:∀ i:Int,0≤i→i < (p++[b]).length→0≤gi (p++[b]) i:=fun i i0 i1=>by
     rw [List.length_append,List.length_singleton] at i1
     rw [km i0]
     by_cases e:i < p.length
     ·rw [if_pos e]; exact (hp.v i i0 e).1.1
     ·rw [if_neg e,if_pos (by omega)]; exact kb.1
    have hlb:(p++[b]).length=p.length+1:=by simp
    have td:∀ i:Int,0≤i→i≤(p.length:Int)→gi ((p++[b])++List.replicate k (-1)) i=gi (p++[b]) i:=fun i i0 i1=>Js i0 (by omega)
    have hup:∀ i:Int,(p.length:Int) < i→i < f.aC.aA→gi ((p++[b])++List.replicate k (-1)) i = -1:=fun i i0 i1=>OR (by omega) (by omega)
    unfold FH xn
    rw [Bool.eq_iff_iff,List.all_eq_true,Bool.not_eq_true',ec]
    have hok:∀ a:Int,0≤a→a < f.aC.aD.length→(Jr f g p.length ((p++[b])++List.replicate k (-1)) a=true↔xp f g p.length (p++[b]) a=false):=by
     intro a a0 a1
     have kf:=T.F.c.fr a0 a1
     have kt:=T.F.c.to a0 a1
     unfold Jr xp
     by_cases hF:gi f.aC.aD a≤(p.length:Int)
     ·by_cases hT:gi f.aC.To a≤(p.length:Int)
      ·rw [aX (by have:=hv _ kf.1 (by omega); rw [td _ kf.1 hF]; omega),aX (by have:=hv _ kt.1 (by omega); rw [td _ kt.1 hT]; omega)]
       have hs:sX f g ((p++[b])++List.replicate k (-1)) a=sX f g (p++[b]) a:=by unfold sX; rw [td _ kf.1 hF,td _ kt.1 hT]
       rw [hs,Bool.false_or,Bool.false_or]
       have hm:(w5 f a == (p.length:Int)) = !(gi f.aC.aD a != (p.length:Int) && gi f.aC.To a != (p.length:Int)):=by
        unfold w5
        rw [Bool.eq_iff_iff]
        simp only [beq_iff_eq,Bool.not_eq_true',Bool.and_eq_false_iff,bne_eq_false_iff_eq]
        split <;> omega
       rw [hm]
       cases gi f.aC.aD a != (p.length:Int) && gi f.aC.To a != (p.length:Int) <;> cases sX f g (p++[b]) a <;> decide
      ·rw [av (p:=gi ((p++[b])++List.replicate k (-1)) (gi f.aC.To a) < 0) (by rw [hup _ (by omega) kt.2]; omega)]
       rw [sy (a:=w5 f a) (by unfold w5; split <;> omega)]
       simp
     ·rw [av (p:=gi ((p++[b])++List.replicate k (-1)) (gi f.aC.aD a) < 0) (by rw [hup _ (by omega) kf.2]; omega)]
      rw [sy (a:=w5 f a) (by unfold w5; split <;> omega)]
      simp
    exact ⟨fun h a a0 a1=>(hok a a0 a1).1 (h a (ca.2 ⟨a0,a1⟩)),fun h a ha=>(hok a (ca.1 ha).1 (ca.1 ha).2).2 (h a (ca.1 ha).1 (ca.1 ha).2)⟩
   rw [KZ]
   show _=(((ns f.aE.aD.length).filter (rf f.aE (gi f.aA p.length) (gi g.aA p.length))).filter (zp (vM cj f) f g p)).flatMap fun b=>ks (vM cj f) f g k (p++[b])
   refine MG fun b hb=>?_
   obtain ⟨B9,tD⟩:=List.mem_filter.1 hb
   rw [sn b]
   exact ih n (p++[b]) (MH T hp B9 tD) (by rw [List.length_append,List.length_singleton]; omega) (by omega)
theorem XP {cj:Bool} {m:Nat} (hm:m≤1000) (Sg:1≤m):mQ f g cj (m:Int)=some ((ks (vM cj f) f g f.aC.aA.toNat []).take m):=by
 have F:=T.F
 have cm:=F.c.m
 have co:=F.c.o8
 have c0:=F.c.o0
 have dm:=F.d.m
 suffices h:Ok (mQ f g cj (m:Int)) fun y=>y=(ks (vM cj f) f g f.aC.aA.toNat []).take m by
  obtain ⟨y,h1,h2⟩:=h
  rw [h1,h2]
 unfold mQ
 refine jo (ol (fun z:List (List Int)×Int=>(0≤z.2∧z.2≤f.aC.aD.length)∧(z.1.length:Int)=z.2∧∀ r∈z.1,r.length=2∧∀ y∈r,0≤y∧y < f.aC.aA) (fun z=>(f.aC.aD.length - z.2).toNat) ⟨⟨by show (0:Int)≤0; omega,by show (0:Int)≤_; omega⟩,rfl,kv⟩ ?_)
 rintro ⟨l,i⟩ ⟨⟨i0,i1⟩,hl,hv⟩
 dsimp only at i0 i1 hl hv
 show Ok (pQ f l i) _
 unfold pQ
 refine od (fun hi=>?_) fun hi=>os ⟨rfl,?_⟩
 ·have kf:=F.c.fr i0 hi
  have kt:=F.c.to i0 hi
  refine oe (F.c.js i0 hi) (oe (F.c.j3 i0 hi) (fk (by omega) (by omega) (os ⟨⟨⟨?_,?_⟩,?_,jj hv ⟨rfl,fun y hy=>?_⟩⟩,?_⟩)))
  ·dsimp only; rw [w1 i0 hi (by omega)]; omega
  ·dsimp only; rw [w1 i0 hi (by omega)]; omega
  ·dsimp only; rw [w1 i0 hi (by omega),List.length_append,List.length_singleton]; omega
  ·rcases List.mem_cons.1 hy with rfl | hy
   ·exact kf
   ·rw [List.mem_singleton.1 hy]; exact kt
  ·dsimp only; rw [w1 i0 hi (by omega)]; omega
 refine ob (Zw c0 (by omega) hv (by omega)) fun q hq=>?_
 refine ol (fun z:List Int×Int=>(0≤z.2∧z.2≤q.length)∧z.1=List.replicate z.2.toNat (-1)) (fun z=>(q.length - z.2).toNat) ⟨⟨by show (0:Int)≤0; omega,by show (0:Int)≤_; omega⟩,rfl⟩ ?_
 rintro ⟨l1,k⟩ ⟨⟨k0,k1⟩,S0⟩
 dsimp only at k0 k1 S0
 show Ok (pS f g cj q l1 k) _
 unfold pS
 have aoO:l1.length=k.toNat:=by rw [S0,List.length_replicate]
 refine od (fun hk=>fk (by omega) (by omega) ?_) fun hk=>os ⟨rfl,?_⟩
 ·refine ol (fun z:List Int×Int=>(0≤z.2∧z.2≤q.length)∧(z.1.length:Int)=z.2∧∀ v∈z.1,v < 0) (fun z=>(q.length - z.2).toNat) ⟨⟨by show (0:Int)≤0; omega,by show (0:Int)≤_; omega⟩,rfl,kv⟩ ?_
  rintro ⟨l2,e⟩ ⟨⟨e0,e1⟩,qf,yK⟩
  dsimp only at e0 e1 qf yK
  show Ok (pR q k l2 e) _
  unfold pR
  refine od (fun he=>oe (cH e0 he) (oc (fun _=>fk (by omega) (by omega) (os ⟨⟨⟨?_,?_⟩,?_,jj yK (by omega)⟩,?_⟩)) fun _=>fk (by omega) (by omega) (os ⟨⟨⟨?_,?_⟩,?_,jj yK (by omega)⟩,?_⟩))) fun he=>os ⟨rfl,?_⟩
  all_goals (try dsimp only)
  all_goals (try rw [w1 e0 he (by omega)])
  all_goals (try simp only [List.length_append,List.length_singleton])
  all_goals (try omega)
  refine oe (XL (m:=1) T (by omega) 64 [] l2 (by simp) (by omega) (fun y hy=>by have:=yK y hy; omega) (by have:=Jt l2; omega)) (oc (fun h=>os ?_) fun h=>os ⟨⟨⟨?_,?_⟩,?_⟩,?_⟩)
  ·show ([]:List (List Int))=_
   cases hE:ks (vM cj f) f g f.aC.aA.toNat [] with
   | nil=>rw [List.take_nil]
   | cons c l=>
    exfalso
    have u2:c∈ks (vM cj f) f g f.aC.aA.toNat []:=by rw [hE]; simp
    have hn:=OS T u2
    have hx:=(GK _ _ _ u2).2.2
    have:=Ri (cj:=cj) hn.1 (fun y y0 y1=>hx y (by simp; omega) y1) 64 l2 (by have:=Jt l2; omega) (by omega) (fun i i0 i1=>.inl (yK _ (fj i0 (by omega))))
    cases hg:w4 cj f g 64 l2 with
    | nil=>exact this hg
    | cons q l=>rw [hg] at h; simp at h
  all_goals (try dsimp only)
  all_goals rw [w1 k0 hk (by omega)]
  ·omega
  ·omega
  ·rw [S0,show (k+1).toNat=k.toNat+1 by omega,List.replicate_succ']
  ·omega
 ·obtain rfl:k=q.length:=by omega
  have XQ:l1=List.replicate f.aC.aA.toNat (-1):=by rw [S0,hq]
  have Sx:=Rj (cj:=cj) T f.aC.aA.toNat 64 [] (Cr T) (by simp; omega) (by omega)
  rw [List.nil_append] at Sx
  refine oe (XL (m:=m) T hm 64 [] l1 (by simp; omega) (by omega) (fun y hy=>by rw [XQ] at hy; have:=(List.mem_replicate.1 hy).2; omega) (by have:=Jt l1; omega)) (os ?_)
  show []++(w4 cj f g 64 l1).take (m - ([]:List (List Int)).length)=_
  rw [XQ,Sx]; rfl
end
end Go.Proofs.YtgjbmjjihmfppaaGreat
