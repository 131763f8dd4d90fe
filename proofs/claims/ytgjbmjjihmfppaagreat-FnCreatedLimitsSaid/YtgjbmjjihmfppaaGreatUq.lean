/- The reference's search in depth, for all transformations or for isomorphisms alone, up to any number: it gives the first ones of the enumeration. No condition beside those that each theorem names. -/
import Derived.Test.YtgjbmjjihmfppaaGreatVy
namespace Go.Proofs.YtgjbmjjihmfppaaGreat
open Go Go.Li
set_option linter.unusedVariables false
set_option linter.unusedSectionVars false
set_option linter.unusedSimpArgs false
def wj (cg:Bool) (f:aI) (b:Int):Bool:=bif cg then M3 f.aD b else true
def ml (cg:Bool) (f g:aI) (xs:List Int) (x:Int):List Int:=((ns f.aD.aE.length).filter (o6 f.aD (gi f.aA x) (gi g.aA x))).filter fun b=>wj cg f b && Gf f g x (xs.set x.toNat b)
def xt (cg:Bool) (f g:aI):Nat→List Int→List (List Int)
 | 0,_=>[]
 | n+1,xs=>bif (ns xs.length).any (fun y=>gi xs y == -1 && (ml cg f g xs y).isEmpty) then [] else
  match (ns xs.length).find? (fun y=>gi xs y == -1) with
  | none=>[xs]
  | some x=>(ml cg f g xs x).flatMap fun b=>xt cg f g n (xs.set x.toNat b)
section
variable {f g:aI} (T:CK f g) {cg:Bool}
include T
theorem RQ {m:Int} {fd:List (List Int)} {xs:List Int} (pl:(xs.length:Int)=f.aC.aA) (po:∀ y∈xs,y < f.aD.aE.length) {x:Int} (x0:0≤x) (x1:x < f.aC.aA):iE (cM.mk f g cg m fd) xs x=some (ml cg f g xs x):=by
 have F:=T.F
 have cm:=F.c.m
 have dm:=F.d.m
 have co:=F.c.o8
 have ix2:idx g.aA x=some (gi g.aA x):=T.G.zd x0 (by rw [T.es]; exact x1)
 unfold iE ml
 dsimp only
 rw [F.zd x0 x1,aF,ix2,aF,Tx F.d,aF]
 generalize hl:(ns f.aD.aE.length).filter (o6 f.aD (gi f.aA x) (gi g.aA x))=l
 have Cp:∀ b∈l,0≤b∧b < f.aD.aE.length:=by intro b hb; rw [← hl] at hb; exact bw.1 (List.mem_filter.1 hb).1
 have JJ:l.length≤f.aD.aE.length:=by rw [← hl]; exact Nat.le_trans (List.length_filter_le _ _) (by rw [dF]; exact Nat.le_refl _)
 refine (congrArg ao (ud l (fun b=>wj cg f b && Gf f g x (xs.set x.toNat b)) (fun acc i=>(acc,(i:Int))) rfl ?_ ?_)).trans rfl
 ·intro i b acc hb Ed
  have hi:=bg hb
  have kb:=Cp b (List.mem_of_getElem? hb)
  obtain ⟨v,WO,ze⟩:=RR F.d kb.1 kb.2
  show iA (cM.mk f g cg m fd) xs x l acc i=_
  unfold iA
  dsimp only
  rw [av (by omega),cond_true]
  have Ak:(bif cg then (idx l (i:Int)>>=fun e=>(jP f.aD e>>=fun y=>some (decide (y < (0:Int))))) else some false)=some (!(wj cg f b)):=by
   unfold wj
   cases cg with
   | false=>rfl
   | true=>rw [cond_true,cond_true,bp,hb,aF,WO,aF,ze]
  rw [Ak,aF]
  simp only [bp,hb,aF,bQ (show i < 9223372036854775807 by omega),jm xs (show xs.length≤1048576 by omega),cH (l:=xs) x0 (by omega)]
  cases RS:wj cg f b with
  | false=>rfl
  | true=>
   rw [Bool.not_true,cond_false,Bool.true_and]
   have pl2:((xs.set x.toNat b).length:Int)=f.aC.aA:=by rw [List.length_set]; exact pl
   have po2:∀ y∈xs.set x.toNat b,y < f.aD.aE.length:=wP po kb.2
   have GD:∃ j:Int,aj (fun s:Bool×Int=>jQ (cM.mk f g cg m fd) x xs b s.1 s.2) (true,(0:Int))=some (.exit 2 ((ns f.aC.aE.length).all (JK f g x (xs.set x.toNat b)),j)):=by
    refine G7 (R:=List Int) (k:=2) (n:=f.aC.aE.length) (JK f g x (xs.set x.toNat b)) (fun a ha=>?_) (fun a ha=>?_) ?_
    ·have a1:(a:Int) < f.aC.aE.length:=by omega
     have kf:=F.c.fr (f:=(a:Int)) (by omega) a1
     have kt:=F.c.to (f:=(a:Int)) (by omega) a1
     have al:=F.al
     have Yn:∀ h1 : ¬ gi (xs.set x.toNat b) (gi f.aC.aE a) < 0,∀ h2 : ¬ gi (xs.set x.toNat b) (gi f.aC.To a) < 0,iU f g (xs.set x.toNat b) a=some (tb f g (xs.set x.toNat b) a):=fun h1 h2=>
      Z8 T pl2 (by omega) a1 ⟨by omega,po2 _ (fu kt.1 (by omega))⟩ ⟨by omega,po2 _ (fu kf.1 (by omega))⟩
     unfold jQ JK
     dsimp only
     rw [cond_true,av (by omega),aF,cond_true]
     simp only [F.c.jx (f:=(a:Int)) (by omega) a1,F.c.kz (f:=(a:Int)) (by omega) a1,aF,cH (l:=xs.set x.toNat b) kf.1 (by omega),cH (l:=xs.set x.toNat b) kt.1 (by omega),bQ (show a < 9223372036854775807 by omega)]
     by_cases h1:gi (xs.set x.toNat b) (gi f.aC.aE a) < 0
     ·rw [av h1]
      cases gi f.aC.aE (a:Int) != x <;> cases gi f.aC.To (a:Int) != x <;> rfl
     ·rw [bc h1]
      by_cases h2:gi (xs.set x.toNat b) (gi f.aC.To a) < 0
      ·rw [av h2]
       cases gi f.aC.aE (a:Int) != x <;> cases gi f.aC.To (a:Int) != x <;> rfl
      ·rw [bc h2,Yn h1 h2]
       cases gi f.aC.aE (a:Int) != x <;> cases gi f.aC.To (a:Int) != x <;> rfl
    ·rfl
    ·unfold jQ
     dsimp only
     rw [cond_true,bc (by have:=F.al; omega),aF,cond_false]
   obtain ⟨j,hj⟩:=GD
   rw [um hj]
   show (bif Gf f g x (xs.set x.toNat b) then _ else _)=_
   cases Gf f g x (xs.set x.toNat b) with
   | false=>rfl
   | true=>rw [cond_true,dH (by omega) (by omega),aF]; rfl
 ·intro acc
  show iA (cM.mk f g cg m fd) xs x l acc _=_
  unfold iA
  rw [bc (by omega),cond_false]
theorem US {xs:List Int} {x b:Int} (h:b∈ml cg f g xs x):0≤b∧b < f.aD.aE.length:=by
 unfold ml at h
 exact bw.1 (List.mem_filter.1 (List.mem_filter.1 h).1).1
theorem UT (xs:List Int) (x:Int):(ml cg f g xs x).length≤f.aD.aE.length:=by
 unfold ml
 exact Nat.le_trans (List.length_filter_le _ _) (Nat.le_trans (List.length_filter_le _ _) (by rw [dF]; exact Nat.le_refl _))
theorem Yo {m:Nat} (hm:m≤1000):∀ (n:Nat) (fd:List (List Int)) (xs:List Int),fd.length < m→(xs.length:Int)=f.aC.aA→(∀ y∈xs,y < f.aD.aE.length)→G8 xs < n→fV n (cM.mk f g cg (m:Int) fd) xs=some (cM.mk f g cg (m:Int) (fd++(xt cg f g n xs).take (m - fd.length))):=by
 have F:=T.F
 have co:=F.c.o8
 have dm:=F.d.m
 intro n
 induction n with
 | zero=>intro fd xs _ _ _ h; omega
 | succ n ih=>
  intro fd xs Pe pl po hn
  have ch:∀ y:Int,0≤y→y < xs.length→iE (cM.mk f g cg (m:Int) fd) xs y=some (ml cg f g xs y):=fun y y0 y1=>RQ T pl po y0 (by omega)
  have Yp:∀ (j:Nat) (r:Int),j≤xs.length→aj (fun s:Int×Int=>lK (cM.mk f g cg (m:Int) fd) xs s.1 s.2) (r,(j:Int) - 1) =
    some (bif (ns j).any (fun y=>gi xs y == -1 && (ml cg f g xs y).isEmpty) then .ret (cM.mk f g cg (m:Int) fd) else .exit 0 (((ns j).find? (fun y=>gi xs y == -1)).getD r,-1)):=by
   intro j
   induction j with
   | zero=>
    intro r _
    refine (mh (k:=0) (s':=(r,(-1:Int))) ?_).trans rfl
    unfold lK
    rw [bc (by omega),cond_false]; rfl
   | succ j ihj=>
    intro r hj
    have Co:(j:Int) < xs.length:=by omega
    rw [n5,show ((j+1:Nat):Int) - 1=(j:Int) by omega,Dp,List.any_append,List.find?_append]
    have hb:lK (cM.mk f g cg (m:Int) fd) xs r (j:Int)=(bif gi xs j == -1 then (bif (ml cg f g xs j).isEmpty then some (.ret (cM.mk f g cg (m:Int) fd)) else some (.norm ((j:Int),(j:Int) - 1))) else some (.norm (r,(j:Int) - 1))):=by
     unfold lK
     rw [av (by omega),cond_true,cH (by omega) Co,aF,dW (by omega) (by omega),ch j (by omega) Co,aF]
     have:(((ml cg f g xs j).length:Int) == (0:Int))=(ml cg f g xs j).isEmpty:=by cases ml cg f g xs j <;> simp <;> omega
     rw [this]
    dsimp only
    rw [hb]
    cases hu:gi xs j == -1 with
    | false=>
     rw [cond_false]
     dsimp only
     rw [ihj r (by omega)]
     simp [hu]
    | true=>
     rw [cond_true]
     cases he:(ml cg f g xs j).isEmpty with
     | true=>
      rw [cond_true]
      simp [hu,he]
     | false=>
      rw [cond_false]
      dsimp only
      rw [ihj (j:Int) (by omega)]
      simp only [List.any_cons,List.any_nil,hu,he,Bool.and_false,Bool.or_false,List.find?_cons,List.find?_nil]
      cases (ns j).find? (fun y=>gi xs y == -1) <;> rfl
  show pK (fV n) (cM.mk f g cg (m:Int) fd) xs=_
  unfold pK xt
  rw [dW (by omega) (by omega)]
  cases BG:(ns xs.length).any (fun y=>gi xs y == -1 && (ml cg f g xs y).isEmpty) with
  | true=>
   have h1:=Yp xs.length (-1) (by omega)
   rw [BG,cond_true] at h1
   rw [CG h1]
   show some (cM.mk f g cg (m:Int) fd)=some (cM.mk f g cg (m:Int) (fd++([]:List (List Int)).take (m - fd.length)))
   rw [List.take_nil,List.append_nil]
  | false=>
   have h1:=Yp xs.length (-1) (by omega)
   rw [BG,cond_false] at h1
   rw [um h1]
   rw [cond_false]
   dsimp only
   cases Pf:(ns xs.length).find? (fun y=>gi xs y == -1) with
   | none=>
    dsimp only [Option.getD_none]
    rw [av (by omega),cond_true,jm xs (by omega),aF,dH (by omega) (by omega),aF,List.take_of_length_le (by simp; omega)]
    rfl
   | some x=>
    have hx:=bw.1 (List.mem_of_find?_eq_some Pf)
    have Yq:gi xs x = -1:=by have:=List.find?_some Pf; simpa using this
    dsimp only [Option.getD_some]
    rw [bc (by omega),cond_false,ch x hx.1 hx.2,aF]
    have cl:=UT (cg:=cg) T xs x
    have key:∀ (r:List Int) (i:Nat) (fe:List (List Int)),(ml cg f g xs x).drop i=r→i≤(ml cg f g xs x).length→fe.length≤m→∃ j:Int,aj (fun s:Int×Int×Int×Int×Int×Bool×Int×List (List Int)=>iG (fV n) (cM.mk f g cg (m:Int) fd) xs x (ml cg f g xs x) s.1 s.2.1 s.2.2.1 s.2.2.2.1 s.2.2.2.2.1 s.2.2.2.2.2.1 s.2.2.2.2.2.2.1 s.2.2.2.2.2.2.2)
      ((i:Int),f.aC.aA,f.aD.aA,g.aC.aA,g.aD.aA,cg,(m:Int),fe)=some (.exit 2 (j,f.aC.aA,f.aD.aA,g.aC.aA,g.aD.aA,cg,(m:Int),fe++(r.flatMap fun b=>xt cg f g n (xs.set x.toNat b)).take (m - fe.length))):=by
     intro r
     induction r with
     | nil=>
      intro i fe hd hi B7
      obtain rfl:i=(ml cg f g xs x).length:=by have:=congrArg List.length hd; simp at this; omega
      refine ⟨((ml cg f g xs x).length:Int),mh (k:=2) ?_⟩
      unfold iG
      rw [bc (by omega),cond_false,aF,cond_false,List.flatMap_nil,List.take_nil,List.append_nil]
     | cons b r Tz=>
      intro i fe hd hi B7
      have bn:i < (ml cg f g xs x).length:=by
       rcases Nat.lt_or_ge i (ml cg f g xs x).length with h | h
       ·exact h
       ·rw [List.drop_eq_nil_of_le h] at hd; cases hd
      have hb:(ml cg f g xs x)[i]? = some b:=by
       rw [List.drop_eq_getElem_cons bn] at hd
       rw [List.getElem?_eq_getElem bn]; exact congrArg some (List.cons.inj hd).1
      have jd:(ml cg f g xs x).drop (i+1)=r:=by rw [List.drop_eq_getElem_cons bn] at hd; exact (List.cons.inj hd).2
      by_cases Tf:fe.length < m
      ·have kb:=US T (List.mem_of_getElem? hb)
       have hc:G8 (xs.set x.toNat b) < n:=by
        have:=Lp (r:=xs) (d:=x.toNat) kb.1 (by omega) (by rw [show ((x.toNat:Nat):Int)=x by omega]; exact Yq)
        omega
       have hg:=ih fe (xs.set x.toNat b) Tf (by rw [List.length_set]; exact pl) (wP po kb.2) hc
       have Hu:iG (fV n) (cM.mk f g cg (m:Int) fd) xs x (ml cg f g xs x) (i:Int) f.aC.aA f.aD.aA g.aC.aA g.aD.aA cg (m:Int) fe =
         some (.norm (((i+1:Nat):Int),f.aC.aA,f.aD.aA,g.aC.aA,g.aD.aA,cg,(m:Int),fe++(xt cg f g n (xs.set x.toNat b)).take (m - fe.length))):=by
        unfold iG
        rw [av (by omega),cond_true,aF,av (by omega),cond_true,jm xs (by omega),aF,bp,hb,aF,cH hx.1 hx.2,aF]
        show (fV n (cM.mk f g cg (m:Int) fe) (xs.set x.toNat b)>>=_)=_
        rw [hg,aF,bQ (by omega)]
       rw [n5]
       dsimp only
       rw [Hu]
       dsimp only
       have hle:(fe++(xt cg f g n (xs.set x.toNat b)).take (m - fe.length)).length≤m:=by rw [List.length_append,List.length_take]; omega
       obtain ⟨j,hj⟩:=Tz (i+1) _ jd (by omega) hle
       refine ⟨j,hj.trans ?_⟩
       have:(fe++(xt cg f g n (xs.set x.toNat b)).take (m - fe.length))++(r.flatMap fun b=>xt cg f g n (xs.set x.toNat b)).take (m - (fe++(xt cg f g n (xs.set x.toNat b)).take (m - fe.length)).length)=fe++((b :: r).flatMap fun b=>xt cg f g n (xs.set x.toNat b)).take (m - fe.length):=by
        rw [List.flatMap_cons,List.take_append,List.append_assoc,List.length_append,List.length_take]
        congr 3
        omega
       rw [this]
      ·refine ⟨(i:Int),mh (k:=2) ?_⟩
       unfold iG
       dsimp only
       rw [av (by omega),cond_true,aF,bc (by omega),cond_false,show m - fe.length=0 by omega,List.take_zero,List.append_nil]
    obtain ⟨j,hj⟩:=key _ 0 fd rfl (by omega) (by omega)
    have ir:aj (fun s:Int×Int×Int×Int×Int×Bool×Int×List (List Int)=>iG (fV n) (cM.mk f g cg (m:Int) fd) xs x (ml cg f g xs x) s.1 s.2.1 s.2.2.1 s.2.2.2.1 s.2.2.2.2.1 s.2.2.2.2.2.1 s.2.2.2.2.2.2.1 s.2.2.2.2.2.2.2)
      ((0:Int),f.aC.aA,f.aD.aA,g.aC.aA,g.aD.aA,cg,(m:Int),fd)=_:=hj
    rw [um ir]
    rfl
end
theorem M4 {l:List Int} {u v:Int→List (List Int)} (h:∀ b∈l,u b=v b):l.flatMap u=l.flatMap v:=by
 induction l with
 | nil=>rfl
 | cons b l ih=>rw [List.flatMap_cons,List.flatMap_cons,h b (by simp),ih fun b hb=>h b (by simp [hb])]
section
variable {f g:aI} {c:List Int} (hc:uU ⟨f,g,c⟩ = true)
include hc
theorem Gg {cg:Bool} {xs:List Int} (hl:xs.length=c.length) (hx:∀ i:Int,0≤i→i < c.length→gi xs i < 0∨gi xs i=gi c i) {y:Int} (y0:0≤y) (y1:y < c.length) (hi:wj cg f (gi c y)=true):gi c y∈ml cg f g xs y:=by
 have N:=Pg hc
 have pl:(c.length:Int)=f.aC.aA:=N.pl
 have cp:0≤gi c y∧gi c y < f.aD.aE.length:=N.cp (x:=y) y0 (show y < f.aC.aA by omega)
 have pf:gi f.aD.aE (gi c y)=gi f.aA y:=N.pf y y0 (show y < f.aC.aA by omega)
 have pt:gi f.aD.To (gi c y)=gi g.aA y:=N.pt y y0 (show y < f.aC.aA by omega)
 have su:∀ q:Int,0≤q→gi (xs.set y.toNat (gi c y)) q=if q=y then gi c y else gi xs q:=fun q q0=>by
  have:=pg (l:=xs) (q:=gi c y) (i:=y) (j:=q) y0 (by omega) q0
  exact this
 have hp:∀ i:Int,0≤i→i < c.length→gi (xs.set y.toNat (gi c y)) i < 0∨gi (xs.set y.toNat (gi c y)) i=gi c i:=fun i i0 i1=>by
  rw [su i i0]
  by_cases e:i=y
  ·rw [if_pos e,e]; exact .inr rfl
  ·rw [if_neg e]; exact hx i i0 i1
 unfold ml
 refine List.mem_filter.2 ⟨List.mem_filter.2 ⟨bw.2 cp,?_⟩,?_⟩
 ·unfold o6; rw [pf,pt]; simp
 ·rw [hi,Bool.true_and]
  unfold Gf
  refine List.all_eq_true.2 fun a ha=>?_
  obtain ⟨a0,a1⟩:=bw.1 ha
  have kf:=N.f.c.fr a0 a1
  have kt:=N.f.c.to a0 a1
  dsimp only at kf kt
  have Yn:tb f g c a=true:=by
   have h:=N.sq a a0 a1
   dsimp only at h
   unfold tb
   rw [h]; simp
  unfold JK
  rcases hp (gi f.aC.aE a) kf.1 (by omega) with h1 | h1
  ·rw [av h1]; simp
  ·rcases hp (gi f.aC.To a) kt.1 (by omega) with h2 | h2
   ·rw [av h2]; simp
   ·have:tb f g (xs.set y.toNat (gi c y)) a=tb f g c a:=by unfold tb; rw [h1,h2]
    rw [this,Yn]; simp
theorem RU {cg:Bool} (RS:∀ y:Int,0≤y→y < c.length→wj cg f (gi c y)=true):∀ (n:Nat) (xs:List Int),G8 xs < n→xs.length=c.length→(∀ i:Int,0≤i→i < c.length→gi xs i < 0∨gi xs i=gi c i)→xt cg f g n xs≠[]:=by
 have N:=Pg hc
 have pl:(c.length:Int)=f.aC.aA:=N.pl
 intro n
 induction n with
 | zero=>intro xs h; omega
 | succ n ih=>
  intro xs hn hl hx
  unfold xt
  have BG:(ns xs.length).any (fun y=>gi xs y == -1 && (ml cg f g xs y).isEmpty)=false:=by
   rw [ec]
   intro y y0 y1
   have hm:=Gg hc hl hx y0 (by omega) (RS y y0 (by omega))
   have:(ml cg f g xs y).isEmpty=false:=by
    cases Lq:ml cg f g xs y with
    | nil=>rw [Lq] at hm; cases hm
    | cons=>rfl
   rw [this,Bool.and_false]
  rw [BG,cond_false]
  cases Pf:(ns xs.length).find? (fun y=>gi xs y == -1) with
  | none=>intro h; cases h
  | some x=>
   have DB:=bw.1 (List.mem_of_find?_eq_some Pf)
   have Yq:gi xs x = -1:=by have:=List.find?_some Pf; simpa using this
   have hm:=Gg hc hl hx DB.1 (by omega) (RS x DB.1 (by omega))
   have cp:0≤gi c x∧gi c x < f.aD.aE.length:=N.cp (x:=x) DB.1 (show x < f.aC.aA by omega)
   have vu:G8 (xs.set x.toNat (gi c x)) < n:=by
    have:=Lp (r:=xs) (d:=x.toNat) cp.1 (by omega) (by rw [show ((x.toNat:Nat):Int)=x by omega]; exact Yq)
    omega
   intro h
   refine ih (xs.set x.toNat (gi c x)) vu (by rw [List.length_set]; exact hl) (fun i i0 i1=>?_) (List.flatMap_eq_nil_iff.1 h _ hm)
   have e:=pg (l:=xs) (q:=gi c x) (i:=x) (j:=i) DB.1 (by omega) i0
   rw [e]
   by_cases e2:i=x
   ·rw [if_pos e2,e2]; exact .inr rfl
   ·rw [if_neg e2]; exact hx i i0 i1
end
section
variable {f g:aI} (T:CK f g)
include T
theorem RV {cg:Bool}:∀ (k n:Nat) (p:List Int),ye f g p→((p.length+k:Nat):Int)=f.aC.aA→k < n→xt cg f g n (p++List.replicate k (-1))=iz (wj cg f) f g k p:=by
 intro k
 induction k with
 | zero=>
  intro n p hp hk hn
  obtain ⟨n,rfl⟩ : ∃ i,n=i+1:=⟨n - 1,by omega⟩
  have hv:∀ y∈ns p.length,(gi p y == -1)=false:=fun y hy=>by
   have hy:=bw.1 hy
   have:=(hp.v y hy.1 hy.2).1
   exact o3 (by omega)
  rw [show p++List.replicate 0 (-1)=p by simp]
  unfold xt iz
  have h1:(ns p.length).any (fun y=>gi p y == -1 && (ml cg f g p y).isEmpty)=false:=by
   rw [ec]
   intro y y0 y1
   rw [hv y (bw.2 ⟨y0,y1⟩)]; rfl
  have h2:(ns p.length).find? (fun y=>gi p y == -1)=none:=List.find?_eq_none.2 fun y hy=>by rw [hv y hy]; decide
  rw [h1,h2]; rfl
 | succ k ih=>
  intro n p hp hk hn
  obtain ⟨n,rfl⟩ : ∃ i,n=i+1:=⟨n - 1,by omega⟩
  have va:(p++List.replicate (k+1) (-1)).length=p.length+(k+1):=by simp
  have Yr:∀ y:Int,0≤y→y < p.length→gi (p++List.replicate (k+1) (-1)) y=gi p y:=fun y y0 y1=>JL y0 y1
  have hhi:∀ y:Int,(p.length:Int)≤y→y < ((p.length+(k+1):Nat):Int)→gi (p++List.replicate (k+1) (-1)) y = -1:=fun y y0 y1=>Ph y0 y1
  show (bif (ns (p++List.replicate (k+1) (-1)).length).any (fun y=>gi (p++List.replicate (k+1) (-1)) y == -1 && (ml cg f g (p++List.replicate (k+1) (-1)) y).isEmpty) then [] else
   match (ns (p++List.replicate (k+1) (-1)).length).find? (fun y=>gi (p++List.replicate (k+1) (-1)) y == -1) with
   | none=>[p++List.replicate (k+1) (-1)]
   | some x=>(ml cg f g (p++List.replicate (k+1) (-1)) x).flatMap fun b=>xt cg f g n ((p++List.replicate (k+1) (-1)).set x.toNat b))=_
  rw [va]
  cases BG:(ns (p.length+(k+1))).any (fun y=>gi (p++List.replicate (k+1) (-1)) y == -1 && (ml cg f g (p++List.replicate (k+1) (-1)) y).isEmpty) with
  | true=>
   rw [cond_true]
   cases hE:iz (wj cg f) f g (k+1) p with
   | nil=>rfl
   | cons c l=>
    exfalso
    have vu:c∈iz (wj cg f) f g (k+1) p:=by rw [hE]; simp
    obtain ⟨hG,hL⟩:=yg T _ _ _ hp vu
    obtain ⟨_,x2,x3⟩:=zK _ _ _ vu
    have ae2:=G9 T hG (by omega)
    obtain ⟨y,hy,hu⟩:=List.any_eq_true.1 BG
    have hy:=bw.1 hy
    rw [Bool.and_eq_true,beq_iff_eq] at hu
    have hyp:(p.length:Int)≤y:=by
     rcases Int.lt_or_le y p.length with h | h
     ·have:=(hp.v y hy.1 h).1
      rw [Yr y hy.1 h] at hu
      omega
     ·exact h
    have:=Gg ae2 (xs:=p++List.replicate (k+1) (-1)) (by omega) (fun i i0 i1=>by
     rcases Int.lt_or_le i p.length with h | h
     ·exact .inr (by rw [Yr i i0 h,x2 i i0 h])
     ·exact .inl (by rw [hhi i h (by omega)]; omega)) hy.1 (by omega) (x3 y hyp (by omega))
    cases Lq:ml cg f g (p++List.replicate (k+1) (-1)) y with
    | nil=>rw [Lq] at this; cases this
    | cons=>rw [Lq] at hu; cases hu.2
  | false=>
   rw [cond_false,UU (x:=p.length) (by rw [hhi _ (by omega) (by omega)]; rfl) (fun y hy=>by
    have:=(hp.v (y:Int) (by omega) (by omega)).1
    rw [Yr _ (by omega) (by omega)]
    exact o3 (by omega)) _ (by omega)]
   dsimp only
   have su:∀ b:Int,(p++List.replicate (k+1) (-1)).set (p.length:Int).toNat b=(p++[b])++List.replicate k (-1):=fun b=>by
    rw [Int.toNat_natCast,List.set_append_right _ _ (Nat.le_refl _),Nat.sub_self,List.replicate_succ,List.set_cons_zero,List.append_assoc]; rfl
   have Lq:ml cg f g (p++List.replicate (k+1) (-1)) (p.length:Int)=((ns f.aD.aE.length).filter (o6 f.aD (gi f.aA p.length) (gi g.aA p.length))).filter (xS (wj cg f) f g p):=by
    unfold ml
    refine List.filter_congr fun b hb=>?_
    have kb:=bw.1 (List.mem_filter.1 hb).1
    unfold xS
    rw [su b]
    congr 1
    have hv:∀ i:Int,0≤i→i < (p++[b]).length→0≤gi (p++[b]) i:=fun i i0 i1=>by
     rw [List.length_append,List.length_singleton] at i1
     rw [jf i0]
     by_cases e:i < p.length
     ·rw [if_pos e]; exact (hp.v i i0 e).1.1
     ·rw [if_neg e,if_pos (by omega)]; exact kb.1
    have hlb:(p++[b]).length=p.length+1:=by simp
    have tu:∀ i:Int,0≤i→i≤(p.length:Int)→gi ((p++[b])++List.replicate k (-1)) i=gi (p++[b]) i:=fun i i0 i1=>JL i0 (by omega)
    have Tt:∀ i:Int,(p.length:Int) < i→i < f.aC.aA→gi ((p++[b])++List.replicate k (-1)) i = -1:=fun i i0 i1=>Ph (by omega) (by omega)
    unfold Gf wL
    rw [Bool.eq_iff_iff,List.all_eq_true,Bool.not_eq_true',ec]
    have hok:∀ a:Int,0≤a→a < f.aC.aE.length→(JK f g p.length ((p++[b])++List.replicate k (-1)) a=true↔wM f g p.length (p++[b]) a=false):=by
     intro a a0 a1
     have kf:=T.F.c.fr a0 a1
     have kt:=T.F.c.to a0 a1
     unfold JK wM
     by_cases hF:gi f.aC.aE a≤(p.length:Int)
     ·by_cases hT:gi f.aC.To a≤(p.length:Int)
      ·rw [bc (by have:=hv _ kf.1 (by omega); rw [tu _ kf.1 hF]; omega),bc (by have:=hv _ kt.1 (by omega); rw [tu _ kt.1 hT]; omega)]
       have hs:tb f g ((p++[b])++List.replicate k (-1)) a=tb f g (p++[b]) a:=by unfold tb; rw [tu _ kf.1 hF,tu _ kt.1 hT]
       rw [hs,Bool.false_or,Bool.false_or]
       have hm:(wi f a == (p.length:Int)) = !(gi f.aC.aE a != (p.length:Int) && gi f.aC.To a != (p.length:Int)):=by
        unfold wi
        rw [Bool.eq_iff_iff]
        simp only [beq_iff_eq,Bool.not_eq_true',Bool.and_eq_false_iff,bne_eq_false_iff_eq]
        split <;> omega
       rw [hm]
       cases gi f.aC.aE a != (p.length:Int) && gi f.aC.To a != (p.length:Int) <;> cases tb f g (p++[b]) a <;> decide
      ·rw [av (p:=gi ((p++[b])++List.replicate k (-1)) (gi f.aC.To a) < 0) (by rw [Tt _ (by omega) kt.2]; omega)]
       rw [o3 (a:=wi f a) (by unfold wi; split <;> omega)]
       simp
     ·rw [av (p:=gi ((p++[b])++List.replicate k (-1)) (gi f.aC.aE a) < 0) (by rw [Tt _ (by omega) kf.2]; omega)]
      rw [o3 (a:=wi f a) (by unfold wi; split <;> omega)]
      simp
    exact ⟨fun h a a0 a1=>(hok a a0 a1).1 (h a (bw.2 ⟨a0,a1⟩)),fun h a ha=>(hok a (bw.1 ha).1 (bw.1 ha).2).2 (h a (bw.1 ha).1 (bw.1 ha).2)⟩
   rw [Lq]
   show _=(((ns f.aD.aE.length).filter (o6 f.aD (gi f.aA p.length) (gi g.aA p.length))).filter (xS (wj cg f) f g p)).flatMap fun b=>iz (wj cg f) f g k (p++[b])
   refine M4 fun b hb=>?_
   obtain ⟨Cw,tU⟩:=List.mem_filter.1 hb
   rw [su b]
   exact ih n (p++[b]) (M5 T hp Cw tU) (by rw [List.length_append,List.length_singleton]; omega) (by omega)
theorem Ys {cg:Bool} {m:Nat} (hm:m≤1000) (SV:1≤m):mK f g cg (m:Int)=some ((iz (wj cg f) f g f.aC.aA.toNat []).take m):=by
 have F:=T.F
 have cm:=F.c.m
 have co:=F.c.o8
 have c0:=F.c.o0
 have dm:=F.d.m
 suffices h:Ok (mK f g cg (m:Int)) fun y=>y=(iz (wj cg f) f g f.aC.aA.toNat []).take m by
  obtain ⟨y,h1,h2⟩:=h
  rw [h1,h2]
 unfold mK
 refine jy (ol (fun z:List (List Int)×Int=>(0≤z.2∧z.2≤f.aC.aE.length)∧(z.1.length:Int)=z.2∧∀ r∈z.1,r.length=2∧∀ y∈r,0≤y∧y < f.aC.aA) (fun z=>(f.aC.aE.length - z.2).toNat) ⟨⟨by show (0:Int)≤0; omega,by show (0:Int)≤_; omega⟩,rfl,ll⟩ ?_)
 rintro ⟨l,i⟩ ⟨⟨i0,i1⟩,hl,hv⟩
 dsimp only at i0 i1 hl hv
 show Ok (pL f l i) _
 unfold pL
 refine od (fun hi=>?_) fun hi=>os ⟨rfl,?_⟩
 ·have kf:=F.c.fr i0 hi
  have kt:=F.c.to i0 hi
  refine oe (F.c.jx i0 hi) (oe (F.c.kz i0 hi) (fw (by omega) (by omega) (os ⟨⟨⟨?_,?_⟩,?_,jg hv ⟨rfl,fun y hy=>?_⟩⟩,?_⟩)))
  ·dsimp only; rw [w1 i0 hi (by omega)]; omega
  ·dsimp only; rw [w1 i0 hi (by omega)]; omega
  ·dsimp only; rw [w1 i0 hi (by omega),List.length_append,List.length_singleton]; omega
  ·rcases List.mem_cons.1 hy with rfl | hy
   ·exact kf
   ·rw [List.mem_singleton.1 hy]; exact kt
  ·dsimp only; rw [w1 i0 hi (by omega)]; omega
 refine ob (Z9 c0 (by omega) hv (by omega)) fun q hq=>?_
 refine ol (fun z:List Int×Int=>(0≤z.2∧z.2≤q.length)∧z.1=List.replicate z.2.toNat (-1)) (fun z=>(q.length - z.2).toNat) ⟨⟨by show (0:Int)≤0; omega,by show (0:Int)≤_; omega⟩,rfl⟩ ?_
 rintro ⟨l1,k⟩ ⟨⟨k0,k1⟩,TA⟩
 dsimp only at k0 k1 TA
 show Ok (pN f g cg q l1 k) _
 unfold pN
 have apF:l1.length=k.toNat:=by rw [TA,List.length_replicate]
 refine od (fun hk=>fw (by omega) (by omega) ?_) fun hk=>os ⟨rfl,?_⟩
 ·refine ol (fun z:List Int×Int=>(0≤z.2∧z.2≤q.length)∧(z.1.length:Int)=z.2∧∀ v∈z.1,v < 0) (fun z=>(q.length - z.2).toNat) ⟨⟨by show (0:Int)≤0; omega,by show (0:Int)≤_; omega⟩,rfl,ll⟩ ?_
  rintro ⟨l2,e⟩ ⟨⟨e0,e1⟩,qg,ze⟩
  dsimp only at e0 e1 qg ze
  show Ok (pM q k l2 e) _
  unfold pM
  refine od (fun he=>oe (cH e0 he) (oc (fun _=>fw (by omega) (by omega) (os ⟨⟨⟨?_,?_⟩,?_,jg ze (by omega)⟩,?_⟩)) fun _=>fw (by omega) (by omega) (os ⟨⟨⟨?_,?_⟩,?_,jg ze (by omega)⟩,?_⟩))) fun he=>os ⟨rfl,?_⟩
  all_goals (try dsimp only)
  all_goals (try rw [w1 e0 he (by omega)])
  all_goals (try simp only [List.length_append,List.length_singleton])
  all_goals (try omega)
  refine oe (Yo (m:=1) T (by omega) 64 [] l2 (by simp) (by omega) (fun y hy=>by have:=ze y hy; omega) (by have:=JM l2; omega)) (oc (fun h=>os ?_) fun h=>os ⟨⟨⟨?_,?_⟩,?_⟩,?_⟩)
  ·show ([]:List (List Int))=_
   cases hE:iz (wj cg f) f g f.aC.aA.toNat [] with
   | nil=>rw [List.take_nil]
   | cons c l=>
    exfalso
    have vu:c∈iz (wj cg f) f g f.aC.aA.toNat []:=by rw [hE]; simp
    have hn:=Pj T vu
    have hx:=(zK _ _ _ vu).2.2
    have:=RU (cg:=cg) hn.1 (fun y y0 y1=>hx y (by simp; omega) y1) 64 l2 (by have:=JM l2; omega) (by omega) (fun i i0 i1=>.inl (ze _ (fu i0 (by omega))))
    cases hg:xt cg f g 64 l2 with
    | nil=>exact this hg
    | cons q l=>rw [hg] at h; simp at h
  all_goals (try dsimp only)
  all_goals rw [w1 k0 hk (by omega)]
  ·omega
  ·omega
  ·rw [TA,show (k+1).toNat=k.toNat+1 by omega,List.replicate_succ']
  ·omega
 ·obtain rfl:k=q.length:=by omega
  have Yt:l1=List.replicate f.aC.aA.toNat (-1):=by rw [TA,hq]
  have Tc:=RV (cg:=cg) T f.aC.aA.toNat 64 [] (CQ T) (by simp; omega) (by omega)
  rw [List.nil_append] at Tc
  refine oe (Yo (m:=m) T hm 64 [] l1 (by simp; omega) (by omega) (fun y hy=>by rw [Yt] at hy; have:=(List.mem_replicate.1 hy).2; omega) (by have:=JM l1; omega)) (os ?_)
  show []++(xt cg f g 64 l1).take (m - ([]:List (List Int)).length)=_
  rw [Yt,Tc]; rfl
end
end Go.Proofs.YtgjbmjjihmfppaaGreat
