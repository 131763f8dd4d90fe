/- The reference's search in depth, for all transformations or for isomorphisms alone, up to any number: it gives the first ones of the enumeration. No condition beside those that each theorem names. -/
import Derived.Test.YtgjbmjjihmfppaaGreatVy
namespace Go.Proofs.YtgjbmjjihmfppaaGreat
open Go Go.Li
set_option linter.unusedVariables false
set_option linter.unusedSectionVars false
set_option linter.unusedSimpArgs false
def ve (cj:Bool) (f:aM) (b:Int):Bool:=bif cj then Ly f.aH b else true
def ly (cj:Bool) (f g:aM) (xs:List Int) (x:Int):List Int:=((ns f.aH.aF.length).filter (qj f.aH (gi f.aA x) (gi g.aA x))).filter fun b=>ve cj f b && EL f g x (xs.set x.toNat b)
def v8 (cj:Bool) (f g:aM):Nat→List Int→List (List Int)
 | 0,_=>[]
 | n+1,xs=>bif (ns xs.length).any (fun y=>gi xs y == -1 && (ly cj f g xs y).isEmpty) then [] else
  match (ns xs.length).find? (fun y=>gi xs y == -1) with
  | none=>[xs]
  | some x=>(ly cj f g xs x).flatMap fun b=>v8 cj f g n (xs.set x.toNat b)
section
variable {f g:aM} (T:Dc f g) {cj:Bool}
include T
theorem P9 {m:Int} {fd:List (List Int)} {xs:List Int} (pl:(xs.length:Int)=f.aE.aA) (po:∀ y∈xs,y < f.aH.aF.length) {x:Int} (x0:0≤x) (x1:x < f.aE.aA):gZ (cK.mk f g cj m fd) xs x=some (ly cj f g xs x):=by
 have F:=T.F
 have cm:=F.c.m
 have dm:=F.d.m
 have co:=F.c.o8
 have ix2:idx g.aA x=some (gi g.aA x):=T.G.wz x0 (by rw [T.es]; exact x1)
 unfold gZ ly
 dsimp only
 rw [F.wz x0 x1,aG,ix2,aG,RE F.d,aG]
 generalize hl:(ns f.aH.aF.length).filter (qj f.aH (gi f.aA x) (gi g.aA x))=l
 have Bv:∀ b∈l,0≤b∧b < f.aH.aF.length:=by intro b hb; rw [← hl] at hb; exact bz.1 (List.mem_filter.1 hb).1
 have Iz:l.length≤f.aH.aF.length:=by rw [← hl]; exact Nat.le_trans (List.length_filter_le _ _) (by rw [dD]; exact Nat.le_refl _)
 refine (congrArg ak (s8 l (fun b=>ve cj f b && EL f g x (xs.set x.toNat b)) (fun acc i=>(acc,(i:Int))) rfl ?_ ?_)).trans rfl
 ·intro i b acc hb Dd
  have hi:=bm hb
  have kb:=Bv b (List.mem_of_getElem? hb)
  obtain ⟨v,UJ,xY⟩:=Qa F.d kb.1 kb.2
  show gW (cK.mk f g cj m fd) xs x l acc i=_
  unfold gW
  dsimp only
  rw [av (by omega),cond_true]
  have ze:(bif cj then (idx l (i:Int)>>=fun e=>(jK f.aH e>>=fun y=>some (decide (y < (0:Int))))) else some false)=some (!(ve cj f b)):=by
   unfold ve
   cases cj with
   | false=>rfl
   | true=>rw [cond_true,cond_true,bu,hb,aG,UJ,aG,xY]
  rw [ze,aG]
  simp only [bu,hb,aG,bN (show i < 9223372036854775807 by omega),jf xs (show xs.length≤1048576 by omega),cB (l:=xs) x0 (by omega)]
  cases Qb:ve cj f b with
  | false=>rfl
  | true=>
   rw [Bool.not_true,cond_false,Bool.true_and]
   have pl2:((xs.set x.toNat b).length:Int)=f.aE.aA:=by rw [List.length_set]; exact pl
   have Zm:∀ y∈xs.set x.toNat b,y < f.aH.aF.length:=vy po kb.2
   have Fh:∃ j:Int,ai (fun s:Bool×Int=>jL (cK.mk f g cj m fd) x xs b s.1 s.2) (true,(0:Int))=some (.exit 2 ((ns f.aE.aF.length).all (IB f g x (xs.set x.toNat b)),j)):=by
    refine FQ (R:=List Int) (k:=2) (n:=f.aE.aF.length) (IB f g x (xs.set x.toNat b)) (fun a ha=>?_) (fun a ha=>?_) ?_
    ·have a1:(a:Int) < f.aE.aF.length:=by omega
     have kf:=F.c.fr (f:=(a:Int)) (by omega) a1
     have kt:=F.c.to (f:=(a:Int)) (by omega) a1
     have al:=F.al
     have Wm:∀ h1 : ¬ gi (xs.set x.toNat b) (gi f.aE.aF a) < 0,∀ h2 : ¬ gi (xs.set x.toNat b) (gi f.aE.To a) < 0,iL f g (xs.set x.toNat b) a=some (sk f g (xs.set x.toNat b) a):=fun h1 h2=>
      Yb T pl2 (by omega) a1 ⟨by omega,Zm _ (ep kt.1 (by omega))⟩ ⟨by omega,Zm _ (ep kf.1 (by omega))⟩
     unfold jL IB
     dsimp only
     rw [cond_true,av (by omega),aG,cond_true]
     simp only [F.c.ja (f:=(a:Int)) (by omega) a1,F.c.je (f:=(a:Int)) (by omega) a1,aG,cB (l:=xs.set x.toNat b) kf.1 (by omega),cB (l:=xs.set x.toNat b) kt.1 (by omega),bN (show a < 9223372036854775807 by omega)]
     by_cases h1:gi (xs.set x.toNat b) (gi f.aE.aF a) < 0
     ·rw [av h1]
      cases gi f.aE.aF (a:Int) != x <;> cases gi f.aE.To (a:Int) != x <;> rfl
     ·rw [bd h1]
      by_cases h2:gi (xs.set x.toNat b) (gi f.aE.To a) < 0
      ·rw [av h2]
       cases gi f.aE.aF (a:Int) != x <;> cases gi f.aE.To (a:Int) != x <;> rfl
      ·rw [bd h2,Wm h1 h2]
       cases gi f.aE.aF (a:Int) != x <;> cases gi f.aE.To (a:Int) != x <;> rfl
    ·rfl
    ·unfold jL
     dsimp only
     rw [cond_true,bd (by have:=F.al; omega),aG,cond_false]
   obtain ⟨j,hj⟩:=Fh
   rw [th hj]
   show (bif EL f g x (xs.set x.toNat b) then _ else _)=_
   cases EL f g x (xs.set x.toNat b) with
   | false=>rfl
   | true=>rw [cond_true,dF (by omega) (by omega),aG]; rfl
 ·intro acc
  show gW (cK.mk f g cj m fd) xs x l acc _=_
  unfold gW
  rw [bd (by omega),cond_false]
theorem SU {xs:List Int} {x b:Int} (h:b∈ly cj f g xs x):0≤b∧b < f.aH.aF.length:=by
 unfold ly at h
 exact bz.1 (List.mem_filter.1 (List.mem_filter.1 h).1).1
theorem SV (xs:List Int) (x:Int):(ly cj f g xs x).length≤f.aH.aF.length:=by
 unfold ly
 exact Nat.le_trans (List.length_filter_le _ _) (Nat.le_trans (List.length_filter_le _ _) (by rw [dD]; exact Nat.le_refl _))
theorem Wn {m:Nat} (hm:m≤1000):∀ (n:Nat) (fd:List (List Int)) (xs:List Int),fd.length < m→(xs.length:Int)=f.aE.aA→(∀ y∈xs,y < f.aH.aF.length)→FR xs < n→fW n (cK.mk f g cj (m:Int) fd) xs=some (cK.mk f g cj (m:Int) (fd++(v8 cj f g n xs).take (m - fd.length))):=by
 have F:=T.F
 have co:=F.c.o8
 have dm:=F.d.m
 intro n
 induction n with
 | zero=>intro fd xs _ _ _ h; omega
 | succ n ih=>
  intro fd xs Eb pl po hn
  have ch:∀ y:Int,0≤y→y < xs.length→gZ (cK.mk f g cj (m:Int) fd) xs y=some (ly cj f g xs y):=fun y y0 y1=>P9 T pl po y0 (by omega)
  have Wo:∀ (j:Nat) (r:Int),j≤xs.length→ai (fun s:Int×Int=>lA (cK.mk f g cj (m:Int) fd) xs s.1 s.2) (r,(j:Int) - 1) =
    some (bif (ns j).any (fun y=>gi xs y == -1 && (ly cj f g xs y).isEmpty) then .ret (cK.mk f g cj (m:Int) fd) else .exit 0 (((ns j).find? (fun y=>gi xs y == -1)).getD r,-1)):=by
   intro j
   induction j with
   | zero=>
    intro r _
    refine (lv (k:=0) (s':=(r,(-1:Int))) ?_).trans rfl
    unfold lA
    rw [bd (by omega),cond_false]; rfl
   | succ j Zo=>
    intro r hj
    have Bt:(j:Int) < xs.length:=by omega
    rw [nk,show ((j+1:Nat):Int) - 1=(j:Int) by omega,Co,List.any_append,List.find?_append]
    have hb:lA (cK.mk f g cj (m:Int) fd) xs r (j:Int)=(bif gi xs j == -1 then (bif (ly cj f g xs j).isEmpty then some (.ret (cK.mk f g cj (m:Int) fd)) else some (.norm ((j:Int),(j:Int) - 1))) else some (.norm (r,(j:Int) - 1))):=by
     unfold lA
     rw [av (by omega),cond_true,cB (by omega) Bt,aG,dK (by omega) (by omega),ch j (by omega) Bt,aG]
     have:(((ly cj f g xs j).length:Int) == (0:Int))=(ly cj f g xs j).isEmpty:=by cases ly cj f g xs j <;> simp <;> omega
     rw [this]
    dsimp only
    rw [hb]
    cases hu:gi xs j == -1 with
    | false=>
     rw [cond_false]
     dsimp only
     rw [Zo r (by omega)]
     simp [hu]
    | true=>
     rw [cond_true]
     cases he:(ly cj f g xs j).isEmpty with
     | true=>
      rw [cond_true]
      simp [hu,he]
     | false=>
      rw [cond_false]
      dsimp only
      rw [Zo (j:Int) (by omega)]
      simp only [List.any_cons,List.any_nil,hu,he,Bool.and_false,Bool.or_false,List.find?_cons,List.find?_nil]
      cases (ns j).find? (fun y=>gi xs y == -1) <;> rfl
  show pH (fW n) (cK.mk f g cj (m:Int) fd) xs=_
  unfold pH v8
  rw [dK (by omega) (by omega)]
  cases As:(ns xs.length).any (fun y=>gi xs y == -1 && (ly cj f g xs y).isEmpty) with
  | true=>
   have h1:=Wo xs.length (-1) (by omega)
   rw [As,cond_true] at h1
   rw [BN h1]
   show some (cK.mk f g cj (m:Int) fd)=some (cK.mk f g cj (m:Int) (fd++([]:List (List Int)).take (m - fd.length)))
   rw [List.take_nil,List.append_nil]
  | false=>
   have h1:=Wo xs.length (-1) (by omega)
   rw [As,cond_false] at h1
   rw [th h1]
   rw [cond_false]
   dsimp only
   cases NL:(ns xs.length).find? (fun y=>gi xs y == -1) with
   | none=>
    dsimp only [Option.getD_none]
    rw [av (by omega),cond_true,jf xs (by omega),aG,dF (by omega) (by omega),aG,List.take_of_length_le (by simp; omega)]
    rfl
   | some x=>
    have hx:=bz.1 (List.mem_of_find?_eq_some NL)
    have Wp:gi xs x = -1:=by have:=List.find?_some NL; simpa using this
    dsimp only [Option.getD_some]
    rw [bd (by omega),cond_false,ch x hx.1 hx.2,aG]
    have cl:=SV (cj:=cj) T xs x
    have key:∀ (r:List Int) (i:Nat) (fe:List (List Int)),(ly cj f g xs x).drop i=r→i≤(ly cj f g xs x).length→fe.length≤m→∃ j:Int,ai (fun s:Int×Int×Int×Int×Int×Bool×Int×List (List Int)=>hY (fW n) (cK.mk f g cj (m:Int) fd) xs x (ly cj f g xs x) s.1 s.2.1 s.2.2.1 s.2.2.2.1 s.2.2.2.2.1 s.2.2.2.2.2.1 s.2.2.2.2.2.2.1 s.2.2.2.2.2.2.2)
      ((i:Int),f.aE.aA,f.aH.aA,g.aE.aA,g.aH.aA,cj,(m:Int),fe)=some (.exit 2 (j,f.aE.aA,f.aH.aA,g.aE.aA,g.aH.aA,cj,(m:Int),fe++(r.flatMap fun b=>v8 cj f g n (xs.set x.toNat b)).take (m - fe.length))):=by
     intro r
     induction r with
     | nil=>
      intro i fe hd hi A4
      obtain rfl:i=(ly cj f g xs x).length:=by have:=congrArg List.length hd; simp at this; omega
      refine ⟨((ly cj f g xs x).length:Int),lv (k:=2) ?_⟩
      unfold hY
      rw [bd (by omega),cond_false,aG,cond_false,List.flatMap_nil,List.take_nil,List.append_nil]
     | cons b r RF=>
      intro i fe hd hi A4
      have bj:i < (ly cj f g xs x).length:=by
       rcases Nat.lt_or_ge i (ly cj f g xs x).length with h | h
       ·exact h
       ·rw [List.drop_eq_nil_of_le h] at hd; cases hd
      have hb:(ly cj f g xs x)[i]? = some b:=by
       rw [List.drop_eq_getElem_cons bj] at hd
       rw [List.getElem?_eq_getElem bj]; exact congrArg some (List.cons.inj hd).1
      have iz:(ly cj f g xs x).drop (i+1)=r:=by rw [List.drop_eq_getElem_cons bj] at hd; exact (List.cons.inj hd).2
      by_cases Rp:fe.length < m
      ·have kb:=SU T (List.mem_of_getElem? hb)
       have hc:FR (xs.set x.toNat b) < n:=by
        have:=J8 (r:=xs) (d:=x.toNat) kb.1 (by omega) (by rw [show ((x.toNat:Nat):Int)=x by omega]; exact Wp)
        omega
       have hg:=ih fe (xs.set x.toNat b) Rp (by rw [List.length_set]; exact pl) (vy po kb.2) hc
       have Gm:hY (fW n) (cK.mk f g cj (m:Int) fd) xs x (ly cj f g xs x) (i:Int) f.aE.aA f.aH.aA g.aE.aA g.aH.aA cj (m:Int) fe =
         some (.norm (((i+1:Nat):Int),f.aE.aA,f.aH.aA,g.aE.aA,g.aH.aA,cj,(m:Int),fe++(v8 cj f g n (xs.set x.toNat b)).take (m - fe.length))):=by
        unfold hY
        rw [av (by omega),cond_true,aG,av (by omega),cond_true,jf xs (by omega),aG,bu,hb,aG,cB hx.1 hx.2,aG]
        show (fW n (cK.mk f g cj (m:Int) fe) (xs.set x.toNat b)>>=_)=_
        rw [hg,aG,bN (by omega)]
       rw [nk]
       dsimp only
       rw [Gm]
       dsimp only
       have hle:(fe++(v8 cj f g n (xs.set x.toNat b)).take (m - fe.length)).length≤m:=by rw [List.length_append,List.length_take]; omega
       obtain ⟨j,hj⟩:=RF (i+1) _ iz (by omega) hle
       refine ⟨j,hj.trans ?_⟩
       have:(fe++(v8 cj f g n (xs.set x.toNat b)).take (m - fe.length))++(r.flatMap fun b=>v8 cj f g n (xs.set x.toNat b)).take (m - (fe++(v8 cj f g n (xs.set x.toNat b)).take (m - fe.length)).length)=fe++((b :: r).flatMap fun b=>v8 cj f g n (xs.set x.toNat b)).take (m - fe.length):=by
        rw [List.flatMap_cons,List.take_append,List.append_assoc,List.length_append,List.length_take]
        congr 3
        omega
       rw [this]
      ·refine ⟨(i:Int),lv (k:=2) ?_⟩
       unfold hY
       dsimp only
       rw [av (by omega),cond_true,aG,bd (by omega),cond_false,show m - fe.length=0 by omega,List.take_zero,List.append_nil]
    obtain ⟨j,hj⟩:=key _ 0 fd rfl (by omega) (by omega)
    have ib:ai (fun s:Int×Int×Int×Int×Int×Bool×Int×List (List Int)=>hY (fW n) (cK.mk f g cj (m:Int) fd) xs x (ly cj f g xs x) s.1 s.2.1 s.2.2.1 s.2.2.2.1 s.2.2.2.2.1 s.2.2.2.2.2.1 s.2.2.2.2.2.2.1 s.2.2.2.2.2.2.2)
      ((0:Int),f.aE.aA,f.aH.aA,g.aE.aA,g.aH.aA,cj,(m:Int),fd)=_:=hj
    rw [th ib]
    rfl
end
theorem Lz {l:List Int} {u v:Int→List (List Int)} (h:∀ b∈l,u b=v b):l.flatMap u=l.flatMap v:=by
 induction l with
 | nil=>rfl
 | cons b l ih=>rw [List.flatMap_cons,List.flatMap_cons,h b (by simp),ih fun b hb=>h b (by simp [hb])]
section
variable {f g:aM} {c:List Int} (hc:tQ ⟨f,g,c⟩ = true)
include hc
theorem EM {cj:Bool} {xs:List Int} (hl:xs.length=c.length) (hx:∀ i:Int,0≤i→i < c.length→gi xs i < 0∨gi xs i=gi c i) {y:Int} (y0:0≤y) (y1:y < c.length) (hi:ve cj f (gi c y)=true):gi c y∈ly cj f g xs y:=by
 have N:=NM hc
 have pl:(c.length:Int)=f.aE.aA:=N.pl
 have cp:0≤gi c y∧gi c y < f.aH.aF.length:=N.cp (x:=y) y0 (show y < f.aE.aA by omega)
 have pf:gi f.aH.aF (gi c y)=gi f.aA y:=N.pf y y0 (show y < f.aE.aA by omega)
 have pt:gi f.aH.To (gi c y)=gi g.aA y:=N.pt y y0 (show y < f.aE.aA by omega)
 have r4:∀ q:Int,0≤q→gi (xs.set y.toNat (gi c y)) q=if q=y then gi c y else gi xs q:=fun q q0=>by
  have:=n8 (l:=xs) (q:=gi c y) (i:=y) (j:=q) y0 (by omega) q0
  exact this
 have hp:∀ i:Int,0≤i→i < c.length→gi (xs.set y.toNat (gi c y)) i < 0∨gi (xs.set y.toNat (gi c y)) i=gi c i:=fun i i0 i1=>by
  rw [r4 i i0]
  by_cases e:i=y
  ·rw [if_pos e,e]; exact .inr rfl
  ·rw [if_neg e]; exact hx i i0 i1
 unfold ly
 refine List.mem_filter.2 ⟨List.mem_filter.2 ⟨bz.2 cp,?_⟩,?_⟩
 ·unfold qj; rw [pf,pt]; simp
 ·rw [hi,Bool.true_and]
  unfold EL
  refine List.all_eq_true.2 fun a ha=>?_
  obtain ⟨a0,a1⟩:=bz.1 ha
  have kf:=N.f.c.fr a0 a1
  have kt:=N.f.c.to a0 a1
  dsimp only at kf kt
  have Wm:sk f g c a=true:=by
   have h:=N.sq a a0 a1
   dsimp only at h
   unfold sk
   rw [h]; simp
  unfold IB
  rcases hp (gi f.aE.aF a) kf.1 (by omega) with h1 | h1
  ·rw [av h1]; simp
  ·rcases hp (gi f.aE.To a) kt.1 (by omega) with h2 | h2
   ·rw [av h2]; simp
   ·have:sk f g (xs.set y.toNat (gi c y)) a=sk f g c a:=by unfold sk; rw [h1,h2]
    rw [this,Wm]; simp
theorem Qc {cj:Bool} (Qb:∀ y:Int,0≤y→y < c.length→ve cj f (gi c y)=true):∀ (n:Nat) (xs:List Int),FR xs < n→xs.length=c.length→(∀ i:Int,0≤i→i < c.length→gi xs i < 0∨gi xs i=gi c i)→v8 cj f g n xs≠[]:=by
 have N:=NM hc
 have pl:(c.length:Int)=f.aE.aA:=N.pl
 intro n
 induction n with
 | zero=>intro xs h; omega
 | succ n ih=>
  intro xs hn hl hx
  unfold v8
  have As:(ns xs.length).any (fun y=>gi xs y == -1 && (ly cj f g xs y).isEmpty)=false:=by
   rw [dv]
   intro y y0 y1
   have hm:=EM hc hl hx y0 (by omega) (Qb y y0 (by omega))
   have:(ly cj f g xs y).isEmpty=false:=by
    cases J9:ly cj f g xs y with
    | nil=>rw [J9] at hm; cases hm
    | cons=>rfl
   rw [this,Bool.and_false]
  rw [As,cond_false]
  cases NL:(ns xs.length).find? (fun y=>gi xs y == -1) with
  | none=>intro h; cases h
  | some x=>
   have CA:=bz.1 (List.mem_of_find?_eq_some NL)
   have Wp:gi xs x = -1:=by have:=List.find?_some NL; simpa using this
   have hm:=EM hc hl hx CA.1 (by omega) (Qb x CA.1 (by omega))
   have cp:0≤gi c x∧gi c x < f.aH.aF.length:=N.cp (x:=x) CA.1 (show x < f.aE.aA by omega)
   have ux:FR (xs.set x.toNat (gi c x)) < n:=by
    have:=J8 (r:=xs) (d:=x.toNat) cp.1 (by omega) (by rw [show ((x.toNat:Nat):Int)=x by omega]; exact Wp)
    omega
   intro h
   refine ih (xs.set x.toNat (gi c x)) ux (by rw [List.length_set]; exact hl) (fun i i0 i1=>?_) (List.flatMap_eq_nil_iff.1 h _ hm)
   have e:=n8 (l:=xs) (q:=gi c x) (i:=x) (j:=i) CA.1 (by omega) i0
   rw [e]
   by_cases e2:i=x
   ·rw [if_pos e2,e2]; exact .inr rfl
   ·rw [if_neg e2]; exact hx i i0 i1
end
section
variable {f g:aM} (T:Dc f g)
include T
theorem Qd {cj:Bool}:∀ (k n:Nat) (p:List Int),yE f g p→((p.length+k:Nat):Int)=f.aE.aA→k < n→v8 cj f g n (p++List.replicate k (-1))=j5 (ve cj f) f g k p:=by
 intro k
 induction k with
 | zero=>
  intro n p hp hk hn
  obtain ⟨n,rfl⟩ : ∃ i,n=i+1:=⟨n - 1,by omega⟩
  have hv:∀ y∈ns p.length,(gi p y == -1)=false:=fun y hy=>by
   have hy:=bz.1 hy
   have:=(hp.v y hy.1 hy.2).1
   exact r9 (by omega)
  rw [show p++List.replicate 0 (-1)=p by simp]
  unfold v8 j5
  have h1:(ns p.length).any (fun y=>gi p y == -1 && (ly cj f g p y).isEmpty)=false:=by
   rw [dv]
   intro y y0 y1
   rw [hv y (bz.2 ⟨y0,y1⟩)]; rfl
  have h2:(ns p.length).find? (fun y=>gi p y == -1)=none:=List.find?_eq_none.2 fun y hy=>by rw [hv y hy]; decide
  rw [h1,h2]; rfl
 | succ k ih=>
  intro n p hp hk hn
  obtain ⟨n,rfl⟩ : ∃ i,n=i+1:=⟨n - 1,by omega⟩
  have ub:(p++List.replicate (k+1) (-1)).length=p.length+(k+1):=by simp
  have Wq:∀ y:Int,0≤y→y < p.length→gi (p++List.replicate (k+1) (-1)) y=gi p y:=fun y y0 y1=>IC y0 y1
  have Zp:∀ y:Int,(p.length:Int)≤y→y < ((p.length+(k+1):Nat):Int)→gi (p++List.replicate (k+1) (-1)) y = -1:=fun y y0 y1=>NN y0 y1
  show (bif (ns (p++List.replicate (k+1) (-1)).length).any (fun y=>gi (p++List.replicate (k+1) (-1)) y == -1 && (ly cj f g (p++List.replicate (k+1) (-1)) y).isEmpty) then [] else
   match (ns (p++List.replicate (k+1) (-1)).length).find? (fun y=>gi (p++List.replicate (k+1) (-1)) y == -1) with
   | none=>[p++List.replicate (k+1) (-1)]
   | some x=>(ly cj f g (p++List.replicate (k+1) (-1)) x).flatMap fun b=>v8 cj f g n ((p++List.replicate (k+1) (-1)).set x.toNat b))=_
  rw [ub]
  cases As:(ns (p.length+(k+1))).any (fun y=>gi (p++List.replicate (k+1) (-1)) y == -1 && (ly cj f g (p++List.replicate (k+1) (-1)) y).isEmpty) with
  | true=>
   rw [cond_true]
   cases hE:j5 (ve cj f) f g (k+1) p with
   | nil=>rfl
   | cons c l=>
    exfalso
    have ux:c∈j5 (ve cj f) f g (k+1) p:=by rw [hE]; simp
    obtain ⟨hG,hL⟩:=wZ T _ _ _ hp ux
    obtain ⟨_,x2,x3⟩:=FU _ _ _ ux
    have acW:=FW T hG (by omega)
    obtain ⟨y,hy,hu⟩:=List.any_eq_true.1 As
    have hy:=bz.1 hy
    rw [Bool.and_eq_true,beq_iff_eq] at hu
    have hyp:(p.length:Int)≤y:=by
     rcases Int.lt_or_le y p.length with h | h
     ·have:=(hp.v y hy.1 h).1
      rw [Wq y hy.1 h] at hu
      omega
     ·exact h
    have:=EM acW (xs:=p++List.replicate (k+1) (-1)) (by omega) (fun i i0 i1=>by
     rcases Int.lt_or_le i p.length with h | h
     ·exact .inr (by rw [Wq i i0 h,x2 i i0 h])
     ·exact .inl (by rw [Zp i h (by omega)]; omega)) hy.1 (by omega) (x3 y hyp (by omega))
    cases J9:ly cj f g (p++List.replicate (k+1) (-1)) y with
    | nil=>rw [J9] at this; cases this
    | cons=>rw [J9] at hu; cases hu.2
  | false=>
   rw [cond_false,SX (x:=p.length) (by rw [Zp _ (by omega) (by omega)]; rfl) (fun y hy=>by
    have:=(hp.v (y:Int) (by omega) (by omega)).1
    rw [Wq _ (by omega) (by omega)]
    exact r9 (by omega)) _ (by omega)]
   dsimp only
   have r4:∀ b:Int,(p++List.replicate (k+1) (-1)).set (p.length:Int).toNat b=(p++[b])++List.replicate k (-1):=fun b=>by
    rw [Int.toNat_natCast,List.set_append_right _ _ (Nat.le_refl _),Nat.sub_self,List.replicate_succ,List.set_cons_zero,List.append_assoc]; rfl
   have J9:ly cj f g (p++List.replicate (k+1) (-1)) (p.length:Int)=((ns f.aH.aF.length).filter (qj f.aH (gi f.aA p.length) (gi g.aA p.length))).filter (yF (ve cj f) f g p):=by
    unfold ly
    refine List.filter_congr fun b hb=>?_
    have kb:=bz.1 (List.mem_filter.1 hb).1
    unfold yF
    rw [r4 b]
    congr 1
    have hv:∀ i:Int,0≤i→i < (p++[b]).length→0≤gi (p++[b]) i:=fun i i0 i1=>by
     rw [List.length_append,List.length_singleton] at i1
     rw [jz i0]
     by_cases e:i < p.length
     ·rw [if_pos e]; exact (hp.v i i0 e).1.1
     ·rw [if_neg e,if_pos (by omega)]; exact kb.1
    have hlb:(p++[b]).length=p.length+1:=by simp
    have sy:∀ i:Int,0≤i→i≤(p.length:Int)→gi ((p++[b])++List.replicate k (-1)) i=gi (p++[b]) i:=fun i i0 i1=>IC i0 (by omega)
    have Zq:∀ i:Int,(p.length:Int) < i→i < f.aE.aA→gi ((p++[b])++List.replicate k (-1)) i = -1:=fun i i0 i1=>NN (by omega) (by omega)
    unfold EL wA
    rw [Bool.eq_iff_iff,List.all_eq_true,Bool.not_eq_true',dv]
    have Zr:∀ a:Int,0≤a→a < f.aE.aF.length→(IB f g p.length ((p++[b])++List.replicate k (-1)) a=true↔wB f g p.length (p++[b]) a=false):=by
     intro a a0 a1
     have kf:=T.F.c.fr a0 a1
     have kt:=T.F.c.to a0 a1
     unfold IB wB
     by_cases hF:gi f.aE.aF a≤(p.length:Int)
     ·by_cases hT:gi f.aE.To a≤(p.length:Int)
      ·rw [bd (by have:=hv _ kf.1 (by omega); rw [sy _ kf.1 hF]; omega),bd (by have:=hv _ kt.1 (by omega); rw [sy _ kt.1 hT]; omega)]
       have hs:sk f g ((p++[b])++List.replicate k (-1)) a=sk f g (p++[b]) a:=by unfold sk; rw [sy _ kf.1 hF,sy _ kt.1 hT]
       rw [hs,Bool.false_or,Bool.false_or]
       have hm:(wb f a == (p.length:Int)) = !(gi f.aE.aF a != (p.length:Int) && gi f.aE.To a != (p.length:Int)):=by
        unfold wb
        rw [Bool.eq_iff_iff]
        simp only [beq_iff_eq,Bool.not_eq_true',Bool.and_eq_false_iff,bne_eq_false_iff_eq]
        split <;> omega
       rw [hm]
       cases gi f.aE.aF a != (p.length:Int) && gi f.aE.To a != (p.length:Int) <;> cases sk f g (p++[b]) a <;> decide
      ·rw [av (p:=gi ((p++[b])++List.replicate k (-1)) (gi f.aE.To a) < 0) (by rw [Zq _ (by omega) kt.2]; omega)]
       rw [r9 (a:=wb f a) (by unfold wb; split <;> omega)]
       simp
     ·rw [av (p:=gi ((p++[b])++List.replicate k (-1)) (gi f.aE.aF a) < 0) (by rw [Zq _ (by omega) kf.2]; omega)]
      rw [r9 (a:=wb f a) (by unfold wb; split <;> omega)]
      simp
    exact ⟨fun h a a0 a1=>(Zr a a0 a1).1 (h a (bz.2 ⟨a0,a1⟩)),fun h a ha=>(Zr a (bz.1 ha).1 (bz.1 ha).2).2 (h a (bz.1 ha).1 (bz.1 ha).2)⟩
   rw [J9]
   show _=(((ns f.aH.aF.length).filter (qj f.aH (gi f.aA p.length) (gi g.aA p.length))).filter (yF (ve cj f) f g p)).flatMap fun b=>j5 (ve cj f) f g k (p++[b])
   refine Lz fun b hb=>?_
   obtain ⟨BC,sU⟩:=List.mem_filter.1 hb
   rw [r4 b]
   exact ih n (p++[b]) (LA T hp BC sU) (by rw [List.length_append,List.length_singleton]; omega) (by omega)
theorem Wr {cj:Bool} {m:Nat} (hm:m≤1000) (Q5:1≤m):lY f g cj (m:Int)=some ((j5 (ve cj f) f g f.aE.aA.toNat []).take m):=by
 have F:=T.F
 have cm:=F.c.m
 have co:=F.c.o8
 have c0:=F.c.o0
 have dm:=F.d.m
 suffices h:Ok (lY f g cj (m:Int)) fun y=>y=(j5 (ve cj f) f g f.aE.aA.toNat []).take m by
  obtain ⟨y,h1,h2⟩:=h
  rw [h1,h2]
 unfold lY
 refine jk (ol (fun z:List (List Int)×Int=>(0≤z.2∧z.2≤f.aE.aF.length)∧(z.1.length:Int)=z.2∧∀ r∈z.1,r.length=2∧∀ y∈r,0≤y∧y < f.aE.aA) (fun z=>(f.aE.aF.length - z.2).toNat) ⟨⟨by show (0:Int)≤0; omega,by show (0:Int)≤_; omega⟩,rfl,j6⟩ ?_)
 rintro ⟨l,i⟩ ⟨⟨i0,i1⟩,hl,hv⟩
 dsimp only at i0 i1 hl hv
 show Ok (pI f l i) _
 unfold pI
 refine od (fun hi=>?_) fun hi=>os ⟨rfl,?_⟩
 ·have kf:=F.c.fr i0 hi
  have kt:=F.c.to i0 hi
  refine oe (F.c.ja i0 hi) (oe (F.c.je i0 hi) (fg (by omega) (by omega) (os ⟨⟨⟨?_,?_⟩,?_,jb hv ⟨rfl,fun y hy=>?_⟩⟩,?_⟩)))
  ·dsimp only; rw [w1 i0 hi (by omega)]; omega
  ·dsimp only; rw [w1 i0 hi (by omega)]; omega
  ·dsimp only; rw [w1 i0 hi (by omega),List.length_append,List.length_singleton]; omega
  ·rcases List.mem_cons.1 hy with rfl | hy
   ·exact kf
   ·rw [List.mem_singleton.1 hy]; exact kt
  ·dsimp only; rw [w1 i0 hi (by omega)]; omega
 refine ob (Yc c0 (by omega) hv (by omega)) fun q hq=>?_
 refine ol (fun z:List Int×Int=>(0≤z.2∧z.2≤q.length)∧z.1=List.replicate z.2.toNat (-1)) (fun z=>(q.length - z.2).toNat) ⟨⟨by show (0:Int)≤0; omega,by show (0:Int)≤_; omega⟩,rfl⟩ ?_
 rintro ⟨l1,k⟩ ⟨⟨k0,k1⟩,RG⟩
 dsimp only at k0 k1 RG
 show Ok (pK f g cj q l1 k) _
 unfold pK
 have ana:l1.length=k.toNat:=by rw [RG,List.length_replicate]
 refine od (fun hk=>fg (by omega) (by omega) ?_) fun hk=>os ⟨rfl,?_⟩
 ·refine ol (fun z:List Int×Int=>(0≤z.2∧z.2≤q.length)∧(z.1.length:Int)=z.2∧∀ v∈z.1,v < 0) (fun z=>(q.length - z.2).toNat) ⟨⟨by show (0:Int)≤0; omega,by show (0:Int)≤_; omega⟩,rfl,j6⟩ ?_
  rintro ⟨l2,e⟩ ⟨⟨e0,e1⟩,pj,xY⟩
  dsimp only at e0 e1 pj xY
  show Ok (pJ q k l2 e) _
  unfold pJ
  refine od (fun he=>oe (cB e0 he) (oc (fun _=>fg (by omega) (by omega) (os ⟨⟨⟨?_,?_⟩,?_,jb xY (by omega)⟩,?_⟩)) fun _=>fg (by omega) (by omega) (os ⟨⟨⟨?_,?_⟩,?_,jb xY (by omega)⟩,?_⟩))) fun he=>os ⟨rfl,?_⟩
  all_goals (try dsimp only)
  all_goals (try rw [w1 e0 he (by omega)])
  all_goals (try simp only [List.length_append,List.length_singleton])
  all_goals (try omega)
  refine oe (Wn (m:=1) T (by omega) 64 [] l2 (by simp) (by omega) (fun y hy=>by have:=xY y hy; omega) (by have:=ID l2; omega)) (oc (fun h=>os ?_) fun h=>os ⟨⟨⟨?_,?_⟩,?_⟩,?_⟩)
  ·show ([]:List (List Int))=_
   cases hE:j5 (ve cj f) f g f.aE.aA.toNat [] with
   | nil=>rw [List.take_nil]
   | cons c l=>
    exfalso
    have ux:c∈j5 (ve cj f) f g f.aE.aA.toNat []:=by rw [hE]; simp
    have hn:=NO T ux
    have hx:=(FU _ _ _ ux).2.2
    have:=Qc (cj:=cj) hn.1 (fun y y0 y1=>hx y (by simp; omega) y1) 64 l2 (by have:=ID l2; omega) (by omega) (fun i i0 i1=>.inl (xY _ (ep i0 (by omega))))
    cases hg:v8 cj f g 64 l2 with
    | nil=>exact this hg
    | cons q l=>rw [hg] at h; simp at h
  all_goals (try dsimp only)
  all_goals rw [w1 k0 hk (by omega)]
  ·omega
  ·omega
  ·rw [RG,show (k+1).toNat=k.toNat+1 by omega,List.replicate_succ']
  ·omega
 ·obtain rfl:k=q.length:=by omega
  have Ws:l1=List.replicate f.aE.aA.toNat (-1):=by rw [RG,hq]
  have Rk:=Qd (cj:=cj) T f.aE.aA.toNat 64 [] (BS T) (by simp; omega) (by omega)
  rw [List.nil_append] at Rk
  refine oe (Wn (m:=m) T hm 64 [] l1 (by simp; omega) (by omega) (fun y hy=>by rw [Ws] at hy; have:=(List.mem_replicate.1 hy).2; omega) (by have:=ID l1; omega)) (os ?_)
  show []++(v8 cj f g 64 l1).take (m - ([]:List (List Int)).length)=_
  rw [Ws,Rk]; rfl
end
end Go.Proofs.YtgjbmjjihmfppaaGreat
