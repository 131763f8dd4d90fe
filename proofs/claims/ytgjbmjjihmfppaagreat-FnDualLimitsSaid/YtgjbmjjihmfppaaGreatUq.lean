/- The reference's search in depth, for all transformations or for isomorphisms alone, up to any number: it gives the first ones of the enumeration. No condition beside those that each theorem names. -/
import Derived.Test.YtgjbmjjihmfppaaGreatVy
namespace Go.Proofs.YtgjbmjjihmfppaaGreat
open Go Go.Li
set_option linter.unusedVariables false
set_option linter.unusedSectionVars false
set_option linter.unusedSimpArgs false
def uE (cn:Bool) (f:aN) (b:Int):Bool:=bif cn then Ke f.aI b else true
def me (cn:Bool) (f g:aN) (xs:List Int) (x:Int):List Int:=((ns f.aI.aD.length).filter (qv f.aI (gi f.aA x) (gi g.aA x))).filter fun b=>uE cn f b && DU f g x (xs.set x.toNat b)
def vq (cn:Bool) (f g:aN):Nat→List Int→List (List Int)
 | 0,_=>[]
 | n+1,xs=>bif (ns xs.length).any (fun y=>gi xs y == -1 && (me cn f g xs y).isEmpty) then [] else
  match (ns xs.length).find? (fun y=>gi xs y == -1) with
  | none=>[xs]
  | some x=>(me cn f g xs x).flatMap fun b=>vq cn f g n (xs.set x.toNat b)
section
variable {f g:aN} (T:Ck f g) {cn:Bool}
include T
theorem Pb {m:Int} {fd:List (List Int)} {xs:List Int} (pl:(xs.length:Int)=f.aH.aA) (po:∀ y∈xs,y < f.aI.aD.length) {x:Int} (x0:0≤x) (x1:x < f.aH.aA):gG (bX.mk f g cn m fd) xs x=some (me cn f g xs x):=by
 have F:=T.F
 have cm:=F.c.m
 have dm:=F.d.m
 have co:=F.c.o8
 have ix2:idx g.aA x=some (gi g.aA x):=T.G.yo x0 (by rw [T.es]; exact x1)
 unfold gG me
 dsimp only
 rw [F.yo x0 x1,aF,ix2,aF,QM F.d,aF]
 generalize hl:(ns f.aI.aD.length).filter (qv f.aI (gi f.aA x) (gi g.aA x))=l
 have AI:∀ b∈l,0≤b∧b < f.aI.aD.length:=by intro b hb; rw [← hl] at hb; exact bu.1 (List.mem_filter.1 hb).1
 have He:l.length≤f.aI.aD.length:=by rw [← hl]; exact Nat.le_trans (List.length_filter_le _ _) (by rw [cQ]; exact Nat.le_refl _)
 refine (congrArg an (si l (fun b=>uE cn f b && DU f g x (xs.set x.toNat b)) (fun acc i=>(acc,(i:Int))) rfl ?_ ?_)).trans rfl
 ·intro i b acc hb DV
  have hi:=ca hb
  have kb:=AI b (List.mem_of_getElem? hb)
  obtain ⟨v,Ip,xn⟩:=Pc F.d kb.1 kb.2
  show gC (bX.mk f g cn m fd) xs x l acc i=_
  unfold gC
  dsimp only
  rw [ay (by omega),cond_true]
  have yC:(bif cn then (idx l (i:Int)>>=fun e=>(iN f.aI e>>=fun y=>some (decide (y < (0:Int))))) else some false)=some (!(uE cn f b)):=by
   unfold uE
   cases cn with
   | false=>rfl
   | true=>rw [cond_true,cond_true,dw,hb,aF,Ip,aF,xn]
  rw [yC,aF]
  simp only [dw,hb,aF,bH (show i < 9223372036854775807 by omega),gv xs (show xs.length≤1048576 by omega),bR (l:=xs) x0 (by omega)]
  cases Pd:uE cn f b with
  | false=>rfl
  | true=>
   rw [Bool.not_true,cond_false,Bool.true_and]
   have pl2:((xs.set x.toNat b).length:Int)=f.aH.aA:=by rw [List.length_set]; exact pl
   have Yt:∀ y∈xs.set x.toNat b,y < f.aI.aD.length:=uU po kb.2
   have Gk:∃ j:Int,ah (fun s:Bool×Int=>iO (bX.mk f g cn m fd) x xs b s.1 s.2) (true,(0:Int))=some (.exit 2 ((ns f.aH.aD.length).all (Hf f g x (xs.set x.toNat b)),j)):=by
    refine EG (R:=List Int) (k:=2) (n:=f.aH.aD.length) (Hf f g x (xs.set x.toNat b)) (fun a ha=>?_) (fun a ha=>?_) ?_
    ·have a1:(a:Int) < f.aH.aD.length:=by omega
     have kf:=F.c.fr (f:=(a:Int)) (by omega) a1
     have kt:=F.c.to (f:=(a:Int)) (by omega) a1
     have al:=F.al
     have VH:∀ h1 : ¬ gi (xs.set x.toNat b) (gi f.aH.aD a) < 0,∀ h2 : ¬ gi (xs.set x.toNat b) (gi f.aH.To a) < 0,gR f g (xs.set x.toNat b) a=some (rR f g (xs.set x.toNat b) a):=fun h1 h2=>
      Xr T pl2 (by omega) a1 ⟨by omega,Yt _ (gn kt.1 (by omega))⟩ ⟨by omega,Yt _ (gn kf.1 (by omega))⟩
     unfold iO Hf
     dsimp only
     rw [cond_true,ay (by omega),aF,cond_true]
     simp only [F.c.jd (f:=(a:Int)) (by omega) a1,F.c.jh (f:=(a:Int)) (by omega) a1,aF,bR (l:=xs.set x.toNat b) kf.1 (by omega),bR (l:=xs.set x.toNat b) kt.1 (by omega),bH (show a < 9223372036854775807 by omega)]
     by_cases h1:gi (xs.set x.toNat b) (gi f.aH.aD a) < 0
     ·rw [ay h1]
      cases gi f.aH.aD (a:Int) != x <;> cases gi f.aH.To (a:Int) != x <;> rfl
     ·rw [bm h1]
      by_cases h2:gi (xs.set x.toNat b) (gi f.aH.To a) < 0
      ·rw [ay h2]
       cases gi f.aH.aD (a:Int) != x <;> cases gi f.aH.To (a:Int) != x <;> rfl
      ·rw [bm h2,VH h1 h2]
       cases gi f.aH.aD (a:Int) != x <;> cases gi f.aH.To (a:Int) != x <;> rfl
    ·rfl
    ·unfold iO
     dsimp only
     rw [cond_true,bm (by have:=F.al; omega),aF,cond_false]
   obtain ⟨j,hj⟩:=Gk
   rw [sB hj]
   show (bif DU f g x (xs.set x.toNat b) then _ else _)=_
   cases DU f g x (xs.set x.toNat b) with
   | false=>rfl
   | true=>rw [cond_true,cV (by omega) (by omega),aF]; rfl
 ·intro acc
  show gC (bX.mk f g cn m fd) xs x l acc _=_
  unfold gC
  rw [bm (by omega),cond_false]
theorem RZ {xs:List Int} {x b:Int} (h:b∈me cn f g xs x):0≤b∧b < f.aI.aD.length:=by
 unfold me at h
 exact bu.1 (List.mem_filter.1 (List.mem_filter.1 h).1).1
theorem R0 (xs:List Int) (x:Int):(me cn f g xs x).length≤f.aI.aD.length:=by
 unfold me
 exact Nat.le_trans (List.length_filter_le _ _) (Nat.le_trans (List.length_filter_le _ _) (by rw [cQ]; exact Nat.le_refl _))
theorem VI {m:Nat} (hm:m≤1000):∀ (n:Nat) (fd:List (List Int)) (xs:List Int),fd.length < m→(xs.length:Int)=f.aH.aA→(∀ y∈xs,y < f.aI.aD.length)→EH xs < n→eY n (bX.mk f g cn (m:Int) fd) xs=some (bX.mk f g cn (m:Int) (fd++(vq cn f g n xs).take (m - fd.length))):=by
 have F:=T.F
 have co:=F.c.o8
 have dm:=F.d.m
 intro n
 induction n with
 | zero=>intro fd xs _ _ _ h; omega
 | succ n ih=>
  intro fd xs MA pl po hn
  have ch:∀ y:Int,0≤y→y < xs.length→gG (bX.mk f g cn (m:Int) fd) xs y=some (me cn f g xs y):=fun y y0 y1=>Pb T pl po y0 (by omega)
  have VJ:∀ (j:Nat) (r:Int),j≤xs.length→ah (fun s:Int×Int=>jY (bX.mk f g cn (m:Int) fd) xs s.1 s.2) (r,(j:Int) - 1) =
    some (bif (ns j).any (fun y=>gi xs y == -1 && (me cn f g xs y).isEmpty) then .ret (bX.mk f g cn (m:Int) fd) else .exit 0 (((ns j).find? (fun y=>gi xs y == -1)).getD r,-1)):=by
   intro j
   induction j with
   | zero=>
    intro r _
    refine (mb (k:=0) (s':=(r,(-1:Int))) ?_).trans rfl
    unfold jY
    rw [bm (by omega),cond_false]; rfl
   | succ j Yu=>
    intro r hj
    have z8:(j:Int) < xs.length:=by omega
    rw [oh,show ((j+1:Nat):Int) - 1=(j:Int) by omega,BC,List.any_append,List.find?_append]
    have hb:jY (bX.mk f g cn (m:Int) fd) xs r (j:Int)=(bif gi xs j == -1 then (bif (me cn f g xs j).isEmpty then some (.ret (bX.mk f g cn (m:Int) fd)) else some (.norm ((j:Int),(j:Int) - 1))) else some (.norm (r,(j:Int) - 1))):=by
     unfold jY
     rw [ay (by omega),cond_true,bR (by omega) z8,aF,cW (by omega) (by omega),ch j (by omega) z8,aF]
     have:(((me cn f g xs j).length:Int) == (0:Int))=(me cn f g xs j).isEmpty:=by cases me cn f g xs j <;> simp <;> omega
     rw [this]
    dsimp only
    rw [hb]
    cases hu:gi xs j == -1 with
    | false=>
     rw [cond_false]
     dsimp only
     rw [Yu r (by omega)]
     simp [hu]
    | true=>
     rw [cond_true]
     cases he:(me cn f g xs j).isEmpty with
     | true=>
      rw [cond_true]
      simp [hu,he]
     | false=>
      rw [cond_false]
      dsimp only
      rw [Yu (j:Int) (by omega)]
      simp only [List.any_cons,List.any_nil,hu,he,Bool.and_false,Bool.or_false,List.find?_cons,List.find?_nil]
      cases (ns j).find? (fun y=>gi xs y == -1) <;> rfl
  show nW (eY n) (bX.mk f g cn (m:Int) fd) xs=_
  unfold nW vq
  rw [cW (by omega) (by omega)]
  cases zN:(ns xs.length).any (fun y=>gi xs y == -1 && (me cn f g xs y).isEmpty) with
  | true=>
   have h1:=VJ xs.length (-1) (by omega)
   rw [zN,cond_true] at h1
   rw [AW h1]
   show some (bX.mk f g cn (m:Int) fd)=some (bX.mk f g cn (m:Int) (fd++([]:List (List Int)).take (m - fd.length)))
   rw [List.take_nil,List.append_nil]
  | false=>
   have h1:=VJ xs.length (-1) (by omega)
   rw [zN,cond_false] at h1
   rw [sB h1]
   rw [cond_false]
   dsimp only
   cases MB:(ns xs.length).find? (fun y=>gi xs y == -1) with
   | none=>
    dsimp only [Option.getD_none]
    rw [ay (by omega),cond_true,gv xs (by omega),aF,cV (by omega) (by omega),aF,List.take_of_length_le (by simp; omega)]
    rfl
   | some x=>
    have hx:=bu.1 (List.mem_of_find?_eq_some MB)
    have VK:gi xs x = -1:=by have:=List.find?_some MB; simpa using this
    dsimp only [Option.getD_some]
    rw [bm (by omega),cond_false,ch x hx.1 hx.2,aF]
    have cl:=R0 (cn:=cn) T xs x
    have key:∀ (r:List Int) (i:Nat) (fe:List (List Int)),(me cn f g xs x).drop i=r→i≤(me cn f g xs x).length→fe.length≤m→∃ j:Int,ah (fun s:Int×Int×Int×Int×Int×Bool×Int×List (List Int)=>gI (eY n) (bX.mk f g cn (m:Int) fd) xs x (me cn f g xs x) s.1 s.2.1 s.2.2.1 s.2.2.2.1 s.2.2.2.2.1 s.2.2.2.2.2.1 s.2.2.2.2.2.2.1 s.2.2.2.2.2.2.2)
      ((i:Int),f.aH.aA,f.aI.aA,g.aH.aA,g.aI.aA,cn,(m:Int),fe)=some (.exit 2 (j,f.aH.aA,f.aI.aA,g.aH.aA,g.aI.aA,cn,(m:Int),fe++(r.flatMap fun b=>vq cn f g n (xs.set x.toNat b)).take (m - fe.length))):=by
     intro r
     induction r with
     | nil=>
      intro i fe hd hi Ak
      obtain rfl:i=(me cn f g xs x).length:=by have:=congrArg List.length hd; simp at this; omega
      refine ⟨((me cn f g xs x).length:Int),mb (k:=2) ?_⟩
      unfold gI
      rw [bm (by omega),cond_false,aF,cond_false,List.flatMap_nil,List.take_nil,List.append_nil]
     | cons b r QN=>
      intro i fe hd hi Ak
      have bc:i < (me cn f g xs x).length:=by
       rcases Nat.lt_or_ge i (me cn f g xs x).length with h | h
       ·exact h
       ·rw [List.drop_eq_nil_of_le h] at hd; cases hd
      have hb:(me cn f g xs x)[i]? = some b:=by
       rw [List.drop_eq_getElem_cons bc] at hd
       rw [List.getElem?_eq_getElem bc]; exact congrArg some (List.cons.inj hd).1
      have ib:(me cn f g xs x).drop (i+1)=r:=by rw [List.drop_eq_getElem_cons bc] at hd; exact (List.cons.inj hd).2
      by_cases Qr:fe.length < m
      ·have kb:=RZ T (List.mem_of_getElem? hb)
       have hc:EH (xs.set x.toNat b) < n:=by
        have:=IP (r:=xs) (d:=x.toNat) kb.1 (by omega) (by rw [show ((x.toNat:Nat):Int)=x by omega]; exact VK)
        omega
       have hg:=ih fe (xs.set x.toNat b) Qr (by rw [List.length_set]; exact pl) (uU po kb.2) hc
       have Fb:gI (eY n) (bX.mk f g cn (m:Int) fd) xs x (me cn f g xs x) (i:Int) f.aH.aA f.aI.aA g.aH.aA g.aI.aA cn (m:Int) fe =
         some (.norm (((i+1:Nat):Int),f.aH.aA,f.aI.aA,g.aH.aA,g.aI.aA,cn,(m:Int),fe++(vq cn f g n (xs.set x.toNat b)).take (m - fe.length))):=by
        unfold gI
        rw [ay (by omega),cond_true,aF,ay (by omega),cond_true,gv xs (by omega),aF,dw,hb,aF,bR hx.1 hx.2,aF]
        show (eY n (bX.mk f g cn (m:Int) fe) (xs.set x.toNat b)>>=_)=_
        rw [hg,aF,bH (by omega)]
       rw [oh]
       dsimp only
       rw [Fb]
       dsimp only
       have hle:(fe++(vq cn f g n (xs.set x.toNat b)).take (m - fe.length)).length≤m:=by rw [List.length_append,List.length_take]; omega
       obtain ⟨j,hj⟩:=QN (i+1) _ ib (by omega) hle
       refine ⟨j,hj.trans ?_⟩
       have:(fe++(vq cn f g n (xs.set x.toNat b)).take (m - fe.length))++(r.flatMap fun b=>vq cn f g n (xs.set x.toNat b)).take (m - (fe++(vq cn f g n (xs.set x.toNat b)).take (m - fe.length)).length)=fe++((b :: r).flatMap fun b=>vq cn f g n (xs.set x.toNat b)).take (m - fe.length):=by
        rw [List.flatMap_cons,List.take_append,List.append_assoc,List.length_append,List.length_take]
        congr 3
        omega
       rw [this]
      ·refine ⟨(i:Int),mb (k:=2) ?_⟩
       unfold gI
       dsimp only
       rw [ay (by omega),cond_true,aF,bm (by omega),cond_false,show m - fe.length=0 by omega,List.take_zero,List.append_nil]
    obtain ⟨j,hj⟩:=key _ 0 fd rfl (by omega) (by omega)
    have ie:ah (fun s:Int×Int×Int×Int×Int×Bool×Int×List (List Int)=>gI (eY n) (bX.mk f g cn (m:Int) fd) xs x (me cn f g xs x) s.1 s.2.1 s.2.2.1 s.2.2.2.1 s.2.2.2.2.1 s.2.2.2.2.2.1 s.2.2.2.2.2.2.1 s.2.2.2.2.2.2.2)
      ((0:Int),f.aH.aA,f.aI.aA,g.aH.aA,g.aI.aA,cn,(m:Int),fd)=_:=hj
    rw [sB ie]
    rfl
end
theorem Kf {l:List Int} {u v:Int→List (List Int)} (h:∀ b∈l,u b=v b):l.flatMap u=l.flatMap v:=by
 induction l with
 | nil=>rfl
 | cons b l ih=>rw [List.flatMap_cons,List.flatMap_cons,h b (by simp),ih fun b hb=>h b (by simp [hb])]
section
variable {f g:aN} {c:List Int} (hc:s7 ⟨f,g,c⟩ = true)
include hc
theorem DW {cn:Bool} {xs:List Int} (hl:xs.length=c.length) (hx:∀ i:Int,0≤i→i < c.length→gi xs i < 0∨gi xs i=gi c i) {y:Int} (y0:0≤y) (y1:y < c.length) (hi:uE cn f (gi c y)=true):gi c y∈me cn f g xs y:=by
 have N:=MC hc
 have pl:(c.length:Int)=f.aH.aA:=N.pl
 have cp:0≤gi c y∧gi c y < f.aI.aD.length:=N.cp (x:=y) y0 (show y < f.aH.aA by omega)
 have pf:gi f.aI.aD (gi c y)=gi f.aA y:=N.pf y y0 (show y < f.aH.aA by omega)
 have pt:gi f.aI.To (gi c y)=gi g.aA y:=N.pt y y0 (show y < f.aH.aA by omega)
 have rE:∀ q:Int,0≤q→gi (xs.set y.toNat (gi c y)) q=if q=y then gi c y else gi xs q:=fun q q0=>by
  have:=mg (l:=xs) (q:=gi c y) (i:=y) (j:=q) y0 (by omega) q0
  exact this
 have hp:∀ i:Int,0≤i→i < c.length→gi (xs.set y.toNat (gi c y)) i < 0∨gi (xs.set y.toNat (gi c y)) i=gi c i:=fun i i0 i1=>by
  rw [rE i i0]
  by_cases e:i=y
  ·rw [if_pos e,e]; exact .inr rfl
  ·rw [if_neg e]; exact hx i i0 i1
 unfold me
 refine List.mem_filter.2 ⟨List.mem_filter.2 ⟨bu.2 cp,?_⟩,?_⟩
 ·unfold qv; rw [pf,pt]; simp
 ·rw [hi,Bool.true_and]
  unfold DU
  refine List.all_eq_true.2 fun a ha=>?_
  obtain ⟨a0,a1⟩:=bu.1 ha
  have kf:=N.f.c.fr a0 a1
  have kt:=N.f.c.to a0 a1
  dsimp only at kf kt
  have VH:rR f g c a=true:=by
   have h:=N.sq a a0 a1
   dsimp only at h
   unfold rR
   rw [h]; simp
  unfold Hf
  rcases hp (gi f.aH.aD a) kf.1 (by omega) with h1 | h1
  ·rw [ay h1]; simp
  ·rcases hp (gi f.aH.To a) kt.1 (by omega) with h2 | h2
   ·rw [ay h2]; simp
   ·have:rR f g (xs.set y.toNat (gi c y)) a=rR f g c a:=by unfold rR; rw [h1,h2]
    rw [this,VH]; simp
theorem Pe {cn:Bool} (Pd:∀ y:Int,0≤y→y < c.length→uE cn f (gi c y)=true):∀ (n:Nat) (xs:List Int),EH xs < n→xs.length=c.length→(∀ i:Int,0≤i→i < c.length→gi xs i < 0∨gi xs i=gi c i)→vq cn f g n xs≠[]:=by
 have N:=MC hc
 have pl:(c.length:Int)=f.aH.aA:=N.pl
 intro n
 induction n with
 | zero=>intro xs h; omega
 | succ n ih=>
  intro xs hn hl hx
  unfold vq
  have zN:(ns xs.length).any (fun y=>gi xs y == -1 && (me cn f g xs y).isEmpty)=false:=by
   rw [ee]
   intro y y0 y1
   have hm:=DW hc hl hx y0 (by omega) (Pd y y0 (by omega))
   have:(me cn f g xs y).isEmpty=false:=by
    cases IQ:me cn f g xs y with
    | nil=>rw [IQ] at hm; cases hm
    | cons=>rfl
   rw [this,Bool.and_false]
  rw [zN,cond_false]
  cases MB:(ns xs.length).find? (fun y=>gi xs y == -1) with
  | none=>intro h; cases h
  | some x=>
   have xK:=bu.1 (List.mem_of_find?_eq_some MB)
   have VK:gi xs x = -1:=by have:=List.find?_some MB; simpa using this
   have hm:=DW hc hl hx xK.1 (by omega) (Pd x xK.1 (by omega))
   have cp:0≤gi c x∧gi c x < f.aI.aD.length:=N.cp (x:=x) xK.1 (show x < f.aH.aA by omega)
   have tI:EH (xs.set x.toNat (gi c x)) < n:=by
    have:=IP (r:=xs) (d:=x.toNat) cp.1 (by omega) (by rw [show ((x.toNat:Nat):Int)=x by omega]; exact VK)
    omega
   intro h
   refine ih (xs.set x.toNat (gi c x)) tI (by rw [List.length_set]; exact hl) (fun i i0 i1=>?_) (List.flatMap_eq_nil_iff.1 h _ hm)
   have e:=mg (l:=xs) (q:=gi c x) (i:=x) (j:=i) xK.1 (by omega) i0
   rw [e]
   by_cases e2:i=x
   ·rw [if_pos e2,e2]; exact .inr rfl
   ·rw [if_neg e2]; exact hx i i0 i1
end
section
variable {f g:aN} (T:Ck f g)
include T
theorem Pf {cn:Bool}:∀ (k n:Nat) (p:List Int),xV f g p→((p.length+k:Nat):Int)=f.aH.aA→k < n→vq cn f g n (p++List.replicate k (-1))=kn (uE cn f) f g k p:=by
 intro k
 induction k with
 | zero=>
  intro n p hp hk hn
  obtain ⟨n,rfl⟩ : ∃ i,n=i+1:=⟨n - 1,by omega⟩
  have hv:∀ y∈ns p.length,(gi p y == -1)=false:=fun y hy=>by
   have hy:=bu.1 hy
   have:=(hp.v y hy.1 hy.2).1
   exact sZ (by omega)
  rw [show p++List.replicate 0 (-1)=p by simp]
  unfold vq kn
  have h1:(ns p.length).any (fun y=>gi p y == -1 && (me cn f g p y).isEmpty)=false:=by
   rw [ee]
   intro y y0 y1
   rw [hv y (bu.2 ⟨y0,y1⟩)]; rfl
  have h2:(ns p.length).find? (fun y=>gi p y == -1)=none:=List.find?_eq_none.2 fun y hy=>by rw [hv y hy]; decide
  rw [h1,h2]; rfl
 | succ k ih=>
  intro n p hp hk hn
  obtain ⟨n,rfl⟩ : ∃ i,n=i+1:=⟨n - 1,by omega⟩
  have rX:(p++List.replicate (k+1) (-1)).length=p.length+(k+1):=by simp
  have Ij:∀ y:Int,0≤y→y < p.length→gi (p++List.replicate (k+1) (-1)) y=gi p y:=fun y y0 y1=>Hg y0 y1
  have KY:∀ y:Int,(p.length:Int)≤y→y < ((p.length+(k+1):Nat):Int)→gi (p++List.replicate (k+1) (-1)) y = -1:=fun y y0 y1=>MD y0 y1
  show (bif (ns (p++List.replicate (k+1) (-1)).length).any (fun y=>gi (p++List.replicate (k+1) (-1)) y == -1 && (me cn f g (p++List.replicate (k+1) (-1)) y).isEmpty) then [] else
   match (ns (p++List.replicate (k+1) (-1)).length).find? (fun y=>gi (p++List.replicate (k+1) (-1)) y == -1) with
   | none=>[p++List.replicate (k+1) (-1)]
   | some x=>(me cn f g (p++List.replicate (k+1) (-1)) x).flatMap fun b=>vq cn f g n ((p++List.replicate (k+1) (-1)).set x.toNat b))=_
  rw [rX]
  cases zN:(ns (p.length+(k+1))).any (fun y=>gi (p++List.replicate (k+1) (-1)) y == -1 && (me cn f g (p++List.replicate (k+1) (-1)) y).isEmpty) with
  | true=>
   rw [cond_true]
   cases hE:kn (uE cn f) f g (k+1) p with
   | nil=>rfl
   | cons c l=>
    exfalso
    have tI:c∈kn (uE cn f) f g (k+1) p:=by rw [hE]; simp
    obtain ⟨hG,hL⟩:=wg T _ _ _ hp tI
    obtain ⟨_,x2,x3⟩:=EI _ _ _ tI
    have ab0:=EJ T hG (by omega)
    obtain ⟨y,hy,hu⟩:=List.any_eq_true.1 zN
    have hy:=bu.1 hy
    rw [Bool.and_eq_true,beq_iff_eq] at hu
    have hyp:(p.length:Int)≤y:=by
     rcases Int.lt_or_le y p.length with h | h
     ·have:=(hp.v y hy.1 h).1
      rw [Ij y hy.1 h] at hu
      omega
     ·exact h
    have:=DW ab0 (xs:=p++List.replicate (k+1) (-1)) (by omega) (fun i i0 i1=>by
     rcases Int.lt_or_le i p.length with h | h
     ·exact .inr (by rw [Ij i i0 h,x2 i i0 h])
     ·exact .inl (by rw [KY i h (by omega)]; omega)) hy.1 (by omega) (x3 y hyp (by omega))
    cases IQ:me cn f g (p++List.replicate (k+1) (-1)) y with
    | nil=>rw [IQ] at this; cases this
    | cons=>rw [IQ] at hu; cases hu.2
  | false=>
   rw [cond_false,R1 (x:=p.length) (by rw [KY _ (by omega) (by omega)]; rfl) (fun y hy=>by
    have:=(hp.v (y:Int) (by omega) (by omega)).1
    rw [Ij _ (by omega) (by omega)]
    exact sZ (by omega)) _ (by omega)]
   dsimp only
   have rE:∀ b:Int,(p++List.replicate (k+1) (-1)).set (p.length:Int).toNat b=(p++[b])++List.replicate k (-1):=fun b=>by
    rw [Int.toNat_natCast,List.set_append_right _ _ (Nat.le_refl _),Nat.sub_self,List.replicate_succ,List.set_cons_zero,List.append_assoc]; rfl
   have IQ:me cn f g (p++List.replicate (k+1) (-1)) (p.length:Int)=((ns f.aI.aD.length).filter (qv f.aI (gi f.aA p.length) (gi g.aA p.length))).filter (xW (uE cn f) f g p):=by
    unfold me
    refine List.filter_congr fun b hb=>?_
    have kb:=bu.1 (List.mem_filter.1 hb).1
    unfold xW
    rw [rE b]
    congr 1
    have hv:∀ i:Int,0≤i→i < (p++[b]).length→0≤gi (p++[b]) i:=fun i i0 i1=>by
     rw [List.length_append,List.length_singleton] at i1
     rw [j9 i0]
     by_cases e:i < p.length
     ·rw [if_pos e]; exact (hp.v i i0 e).1.1
     ·rw [if_neg e,if_pos (by omega)]; exact kb.1
    have hlb:(p++[b]).length=p.length+1:=by simp
    have sI:∀ i:Int,0≤i→i≤(p.length:Int)→gi ((p++[b])++List.replicate k (-1)) i=gi (p++[b]) i:=fun i i0 i1=>Hg i0 (by omega)
    have Yv:∀ i:Int,(p.length:Int) < i→i < f.aH.aA→gi ((p++[b])++List.replicate k (-1)) i = -1:=fun i i0 i1=>MD (by omega) (by omega)
    unfold DU vD
    rw [Bool.eq_iff_iff,List.all_eq_true,Bool.not_eq_true',ee]
    have Yw:∀ a:Int,0≤a→a < f.aH.aD.length→(Hf f g p.length ((p++[b])++List.replicate k (-1)) a=true↔vE f g p.length (p++[b]) a=false):=by
     intro a a0 a1
     have kf:=T.F.c.fr a0 a1
     have kt:=T.F.c.to a0 a1
     unfold Hf vE
     by_cases hF:gi f.aH.aD a≤(p.length:Int)
     ·by_cases hT:gi f.aH.To a≤(p.length:Int)
      ·rw [bm (by have:=hv _ kf.1 (by omega); rw [sI _ kf.1 hF]; omega),bm (by have:=hv _ kt.1 (by omega); rw [sI _ kt.1 hT]; omega)]
       have hs:rR f g ((p++[b])++List.replicate k (-1)) a=rR f g (p++[b]) a:=by unfold rR; rw [sI _ kf.1 hF,sI _ kt.1 hT]
       rw [hs,Bool.false_or,Bool.false_or]
       have hm:(vr f a == (p.length:Int)) = !(gi f.aH.aD a != (p.length:Int) && gi f.aH.To a != (p.length:Int)):=by
        unfold vr
        rw [Bool.eq_iff_iff]
        simp only [beq_iff_eq,Bool.not_eq_true',Bool.and_eq_false_iff,bne_eq_false_iff_eq]
        split <;> omega
       rw [hm]
       cases gi f.aH.aD a != (p.length:Int) && gi f.aH.To a != (p.length:Int) <;> cases rR f g (p++[b]) a <;> decide
      ·rw [ay (p:=gi ((p++[b])++List.replicate k (-1)) (gi f.aH.To a) < 0) (by rw [Yv _ (by omega) kt.2]; omega)]
       rw [sZ (a:=vr f a) (by unfold vr; split <;> omega)]
       simp
     ·rw [ay (p:=gi ((p++[b])++List.replicate k (-1)) (gi f.aH.aD a) < 0) (by rw [Yv _ (by omega) kf.2]; omega)]
      rw [sZ (a:=vr f a) (by unfold vr; split <;> omega)]
      simp
    exact ⟨fun h a a0 a1=>(Yw a a0 a1).1 (h a (bu.2 ⟨a0,a1⟩)),fun h a ha=>(Yw a (bu.1 ha).1 (bu.1 ha).2).2 (h a (bu.1 ha).1 (bu.1 ha).2)⟩
   rw [IQ]
   show _=(((ns f.aI.aD.length).filter (qv f.aI (gi f.aA p.length) (gi g.aA p.length))).filter (xW (uE cn f) f g p)).flatMap fun b=>kn (uE cn f) f g k (p++[b])
   refine Kf fun b hb=>?_
   obtain ⟨AM,r9⟩:=List.mem_filter.1 hb
   rw [rE b]
   exact ih n (p++[b]) (Kg T hp AM r9) (by rw [List.length_append,List.length_singleton]; omega) (by omega)
theorem VL {cn:Bool} {m:Nat} (hm:m≤1000) (Qa:1≤m):kU f g cn (m:Int)=some ((kn (uE cn f) f g f.aH.aA.toNat []).take m):=by
 have F:=T.F
 have cm:=F.c.m
 have co:=F.c.o8
 have c0:=F.c.o0
 have dm:=F.d.m
 suffices h:Ok (kU f g cn (m:Int)) fun y=>y=(kn (uE cn f) f g f.aH.aA.toNat []).take m by
  obtain ⟨y,h1,h2⟩:=h
  rw [h1,h2]
 unfold kU
 refine jr (ol (fun z:List (List Int)×Int=>(0≤z.2∧z.2≤f.aH.aD.length)∧(z.1.length:Int)=z.2∧∀ r∈z.1,r.length=2∧∀ y∈r,0≤y∧y < f.aH.aA) (fun z=>(f.aH.aD.length - z.2).toNat) ⟨⟨by show (0:Int)≤0; omega,by show (0:Int)≤_; omega⟩,rfl,ko⟩ ?_)
 rintro ⟨l,i⟩ ⟨⟨i0,i1⟩,hl,hv⟩
 dsimp only at i0 i1 hl hv
 show Ok (nX f l i) _
 unfold nX
 refine od (fun hi=>?_) fun hi=>os ⟨rfl,?_⟩
 ·have kf:=F.c.fr i0 hi
  have kt:=F.c.to i0 hi
  refine oe (F.c.jd i0 hi) (oe (F.c.jh i0 hi) (fi (by omega) (by omega) (os ⟨⟨⟨?_,?_⟩,?_,ji hv ⟨rfl,fun y hy=>?_⟩⟩,?_⟩)))
  ·dsimp only; rw [w1 i0 hi (by omega)]; omega
  ·dsimp only; rw [w1 i0 hi (by omega)]; omega
  ·dsimp only; rw [w1 i0 hi (by omega),List.length_append,List.length_singleton]; omega
  ·rcases List.mem_cons.1 hy with rfl | hy
   ·exact kf
   ·rw [List.mem_singleton.1 hy]; exact kt
  ·dsimp only; rw [w1 i0 hi (by omega)]; omega
 refine ob (Xs c0 (by omega) hv (by omega)) fun q hq=>?_
 refine ol (fun z:List Int×Int=>(0≤z.2∧z.2≤q.length)∧z.1=List.replicate z.2.toNat (-1)) (fun z=>(q.length - z.2).toNat) ⟨⟨by show (0:Int)≤0; omega,by show (0:Int)≤_; omega⟩,rfl⟩ ?_
 rintro ⟨l1,k⟩ ⟨⟨k0,k1⟩,QO⟩
 dsimp only at k0 k1 QO
 show Ok (nZ f g cn q l1 k) _
 unfold nZ
 have al7:l1.length=k.toNat:=by rw [QO,List.length_replicate]
 refine od (fun hk=>fi (by omega) (by omega) ?_) fun hk=>os ⟨rfl,?_⟩
 ·refine ol (fun z:List Int×Int=>(0≤z.2∧z.2≤q.length)∧(z.1.length:Int)=z.2∧∀ v∈z.1,v < 0) (fun z=>(q.length - z.2).toNat) ⟨⟨by show (0:Int)≤0; omega,by show (0:Int)≤_; omega⟩,rfl,ko⟩ ?_
  rintro ⟨l2,e⟩ ⟨⟨e0,e1⟩,nu,xn⟩
  dsimp only at e0 e1 nu xn
  show Ok (nY q k l2 e) _
  unfold nY
  refine od (fun he=>oe (bR e0 he) (oc (fun _=>fi (by omega) (by omega) (os ⟨⟨⟨?_,?_⟩,?_,ji xn (by omega)⟩,?_⟩)) fun _=>fi (by omega) (by omega) (os ⟨⟨⟨?_,?_⟩,?_,ji xn (by omega)⟩,?_⟩))) fun he=>os ⟨rfl,?_⟩
  all_goals (try dsimp only)
  all_goals (try rw [w1 e0 he (by omega)])
  all_goals (try simp only [List.length_append,List.length_singleton])
  all_goals (try omega)
  refine oe (VI (m:=1) T (by omega) 64 [] l2 (by simp) (by omega) (fun y hy=>by have:=xn y hy; omega) (by have:=Hh l2; omega)) (oc (fun h=>os ?_) fun h=>os ⟨⟨⟨?_,?_⟩,?_⟩,?_⟩)
  ·show ([]:List (List Int))=_
   cases hE:kn (uE cn f) f g f.aH.aA.toNat [] with
   | nil=>rw [List.take_nil]
   | cons c l=>
    exfalso
    have tI:c∈kn (uE cn f) f g f.aH.aA.toNat []:=by rw [hE]; simp
    have hn:=ME T tI
    have hx:=(EI _ _ _ tI).2.2
    have:=Pe (cn:=cn) hn.1 (fun y y0 y1=>hx y (by simp; omega) y1) 64 l2 (by have:=Hh l2; omega) (by omega) (fun i i0 i1=>.inl (xn _ (gn i0 (by omega))))
    cases hg:vq cn f g 64 l2 with
    | nil=>exact this hg
    | cons q l=>rw [hg] at h; simp at h
  all_goals (try dsimp only)
  all_goals rw [w1 k0 hk (by omega)]
  ·omega
  ·omega
  ·rw [QO,show (k+1).toNat=k.toNat+1 by omega,List.replicate_succ']
  ·omega
 ·obtain rfl:k=q.length:=by omega
  have VM:l1=List.replicate f.aH.aA.toNat (-1):=by rw [QO,hq]
  have Qo:=Pf (cn:=cn) T f.aH.aA.toNat 64 [] (AZ T) (by simp; omega) (by omega)
  rw [List.nil_append] at Qo
  refine oe (VI (m:=m) T hm 64 [] l1 (by simp; omega) (by omega) (fun y hy=>by rw [VM] at hy; have:=(List.mem_replicate.1 hy).2; omega) (by have:=Hh l1; omega)) (os ?_)
  show []++(vq cn f g 64 l1).take (m - ([]:List (List Int)).length)=_
  rw [VM,Qo]; rfl
end
end Go.Proofs.YtgjbmjjihmfppaaGreat
