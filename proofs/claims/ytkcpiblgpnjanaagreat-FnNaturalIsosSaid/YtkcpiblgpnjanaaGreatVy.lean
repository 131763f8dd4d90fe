/- Inverses; the reference's search in depth for a natural isomorphism finds the first one of the enumeration. No condition beside those that each theorem names. -/
import Derived.Test.YtkcpiblgpnjanaaGreatVw
import Derived.Test.YtkcpiblgpnjanaaGreatYn
namespace Go.Proofs.YtkcpiblgpnjanaaGreat
open Go Go.Li
set_option linter.unusedVariables false
set_option linter.unusedSectionVars false
set_option linter.unusedSimpArgs false
def Ec (c:aI) (f g:Int):Bool:=gk c.aF f g == gi c.aJ (gi c.aG f) && gk c.aF g f == gi c.aJ (gi c.To f)
def ik (c:aI) (f:Int):Bool:=(ns c.aG.length).any fun g=>qy c (gi c.To f) (gi c.aG f) g && Ec c f g
section
variable {c:aI} (H:rN c) {f:Int} (f0:0≤f) (f1:f < c.aG.length)
include H f0 f1
theorem C6:∃ y,eH c f=some y∧((ik c f=true∧(0≤y∧y < c.aG.length)∧qy c (gi c.To f) (gi c.aG f) y=true∧Ec c f y=true)∨(ik c f=false∧y = -1)):=by
 have hm:=H.m
 have hf:=H.fr f0 f1
 have ht:=H.to f0 f1
 unfold eH
 rw [H.iz f0 f1,aH,H.jc f0 f1,aH,WE H,aH]
 generalize hL:(ns c.aG.length).filter (qy c (gi c.To f) (gi c.aG f))=l
 have H8:∀ g∈l,(0≤g∧g < c.aG.length)∧qy c (gi c.To f) (gi c.aG f) g=true:=fun g hg=>by
  rw [← hL] at hg
  obtain ⟨h1,h2⟩:=List.mem_filter.1 hg
  exact ⟨da.1 h1,h2⟩
 have Ea:l.length≤c.aG.length:=by rw [← hL]; exact Nat.le_trans (List.length_filter_le _ _) (by rw [dQ]; exact Nat.le_refl _)
 have wP:∀ (i:Nat) g,l[i]? = some g→fO c f (gi c.aG f) (gi c.To f) l (i:Int)=bif Ec c f g then some (.ret g) else some (.norm ((i+1:Nat):Int)):=by
  intro i g hg
  have hr:=(H8 g (List.mem_of_getElem? hg)).1
  have hi:=b9 hg
  unfold fO Ec
  rw [aX (by omega),cond_true,ca,hg,aH,H.toqJ.qf f0 f1 hr.1 hr.2,aH,H.ot hf.1 hf.2,aH,H.toqJ.qf hr.1 hr.2 f0 f1,aH,H.ot ht.1 ht.2,aH,cA (by omega)]
  cases gk c.aF f g == gi c.aJ (gi c.aG f) <;> rfl
 have wh:l.any (Ec c f)=ik c f:=by rw [← hL,any_filter']; rfl
 rcases tL (s0:=(0:Int)) (k:=0) (f:=fun _=>some (Out.ret (S:=Unit) (-1:Int))) l (Ec c f) (fun y:Int=>y∈l∧Ec c f y=true) (fun i=>(i:Int)) rfl (e:=(l.length:Int)) (body:=fO c f (gi c.aG f) (gi c.To f) l)
  (fun i g hg hp=>by rw [wP i g hg,hp]; rfl) (fun i g hg hp=>⟨g,by rw [wP i g hg,hp]; rfl,List.mem_of_getElem? hg,hp⟩) (by unfold fO; rw [bn (by omega),cond_false]) with ⟨h1,y,h2,h3,h4⟩ | ⟨h1,h2⟩
 ·exact ⟨y,by rw [h2]; rfl,.inl ⟨by rw [← wh]; exact h1,(H8 y h3).1,(H8 y h3).2,h4⟩⟩
 ·exact ⟨-1,by rw [h2]; rfl,.inr ⟨by rw [← wh]; exact h1,rfl⟩⟩
theorem Qf:kF c f=some ((ns c.aG.length).filter fun r=>qy c (gi c.To f) (gi c.aG f) r && (gk c.aF f r == gi c.aJ (gi c.aG f))):=by
 have hm:=H.m
 have hf:=H.fr f0 f1
 have ht:=H.to f0 f1
 unfold kF
 refine (congrArg ao (vV (ns c.aG.length) (fun r=>qy c (gi c.To f) (gi c.aG f) r && (gk c.aF f r == gi c.aJ (gi c.aG f))) (fun acc i=>(acc,(i:Int))) rfl ?_ ?_)).trans rfl
 ·intro i a acc ha Lf
  obtain ⟨rfl,hi⟩:=fh ha
  show gG c f acc i=_
  unfold gG
  have e1:=H.iz (f:=(i:Int)) (by omega) (by omega)
  have e3:=H.jc (f:=(i:Int)) (by omega) (by omega)
  have e6:=H.toqJ.l9 f0 f1 (g:=(i:Int)) (by omega) (by omega)
  rw [aX (by omega),cond_true,dZ (by omega) (by omega)]
  simp only [e1,H.jc f0 f1,e3,H.iz f0 f1,H.nj f0 f1,e6,H.ot hf.1 hf.2,aH,cA (show i < 9223372036854775807 by omega)]
  unfold qy
  cases gi c.aG (i:Int) == gi c.To f with
  | false=>rfl
  | true=>
   cases gi c.To (i:Int) == gi c.aG f with
   | false=>rfl
   | true=>cases gk c.aF f (i:Int) == gi c.aJ (gi c.aG f) <;> rfl
 ·intro acc
  show gG c f acc _=_
  unfold gG
  rw [dQ,bn (by omega),cond_false]
theorem Qh:lJ c f=some ((ns c.aG.length).filter fun r=>qy c (gi c.To f) (gi c.aG f) r && (gk c.aF r f == gi c.aJ (gi c.To f))):=by
 have hm:=H.m
 have hf:=H.fr f0 f1
 have ht:=H.to f0 f1
 unfold lJ
 refine (congrArg ao (vV (ns c.aG.length) (fun r=>qy c (gi c.To f) (gi c.aG f) r && (gk c.aF r f == gi c.aJ (gi c.To f))) (fun acc i=>(acc,(i:Int))) rfl ?_ ?_)).trans rfl
 ·intro i a acc ha Lf
  obtain ⟨rfl,hi⟩:=fh ha
  show iD c f acc i=_
  unfold iD
  have e1:=H.iz (f:=(i:Int)) (by omega) (by omega)
  have e3:=H.jc (f:=(i:Int)) (by omega) (by omega)
  have e5:=H.nj (f:=(i:Int)) (by omega) (by omega)
  have e6:=H.toqJ.l9 (f:=(i:Int)) (by omega) (by omega) f0 f1
  rw [aX (by omega),cond_true,dZ (by omega) (by omega)]
  simp only [e1,H.jc f0 f1,e3,H.iz f0 f1,e5,e6,H.ot ht.1 ht.2,aH,cA (show i < 9223372036854775807 by omega)]
  unfold qy
  cases gi c.aG (i:Int) == gi c.To f with
  | false=>rfl
  | true=>
   cases gi c.To (i:Int) == gi c.aG f with
   | false=>rfl
   | true=>cases gk c.aF (i:Int) f == gi c.aJ (gi c.To f) <;> rfl
 ·intro acc
  show iD c f acc _=_
  unfold iD
  rw [dQ,bn (by omega),cond_false]
theorem Qi:∃ y,lZ c f=some y∧decide (y < 0) = !(ik c f):=by
 have hm:=H.m
 unfold lZ
 rw [Qf H f0 f1,aH,Qh H f0 f1,aH]
 generalize hS:((ns c.aG.length).filter fun r=>qy c (gi c.To f) (gi c.aG f) r && (gk c.aF r f == gi c.aJ (gi c.To f)))=sc
 generalize hL:((ns c.aG.length).filter fun r=>qy c (gi c.To f) (gi c.aG f) r && (gk c.aF f r == gi c.aJ (gi c.aG f)))=l
 have H8:∀ g∈l,0≤g∧g < c.aG.length:=fun g hg=>by rw [← hL] at hg; exact da.1 (List.mem_filter.1 hg).1
 have Ea:l.length≤c.aG.length:=by rw [← hL]; exact Nat.le_trans (List.length_filter_le _ _) (by rw [dQ]; exact Nat.le_refl _)
 have ES:sc.length≤c.aG.length:=by rw [← hS]; exact Nat.le_trans (List.length_filter_le _ _) (by rw [dQ]; exact Nat.le_refl _)
 have wP:∀ (i:Nat) g,l[i]? = some g→iY l sc (i:Int)=bif hasB sc g then some (.ret g) else some (.norm ((i+1:Nat):Int)):=by
  intro i g hg
  have hi:=b9 hg
  unfold iY
  rw [aX (by omega),cond_true,ca,hg,aH,SG _ _ (by omega),aH,aH,cA (by omega)]
 have wh:l.any (hasB sc)=ik c f:=by
  unfold ik Ec
  rw [← hL,any_filter',Bool.eq_iff_iff,List.any_eq_true,List.any_eq_true]
  refine ⟨fun ⟨g,h1,h2⟩=>⟨g,h1,?_⟩,fun ⟨g,h1,h2⟩=>⟨g,h1,?_⟩⟩
  ·simp only [Bool.and_eq_true,xC] at h2 ⊢
   rw [← hS] at h2
   have h3:=(List.mem_filter.1 h2.2).2
   simp only [Bool.and_eq_true] at h3
   exact ⟨h2.1.1,h2.1.2,h3.2⟩
  ·simp only [Bool.and_eq_true,xC] at h2 ⊢
   refine ⟨⟨h2.1,h2.2.1⟩,?_⟩
   rw [← hS]
   exact List.mem_filter.2 ⟨h1,by simp only [Bool.and_eq_true]; exact ⟨h2.1,h2.2.2⟩⟩
 rcases tL (s0:=(0:Int)) (k:=0) (f:=fun _=>some (Out.ret (S:=Unit) (-1:Int))) l (hasB sc) (fun y:Int=>0≤y) (fun i=>(i:Int)) rfl (e:=(l.length:Int)) (body:=iY l sc)
  (fun i g hg hp=>by rw [wP i g hg,hp]; rfl) (fun i g hg hp=>⟨g,by rw [wP i g hg,hp]; rfl,(H8 g (List.mem_of_getElem? hg)).1⟩) (by unfold iY; rw [bn (by omega),cond_false]) with ⟨h1,y,h2,h3⟩ | ⟨h1,h2⟩
 ·exact ⟨y,by rw [h2]; rfl,by rw [← wh,h1,bn (by omega)]; rfl⟩
 ·exact ⟨-1,by rw [h2]; rfl,by rw [← wh,h1]; rfl⟩
end
theorem X0 {c:aI} (H:rN c) (x y:Int):jN c x y=some ((ns c.aG.length).filter (qy c x y)):=by
 have hm:=H.m
 unfold jN
 refine (congrArg ao (vV (ns c.aG.length) (qy c x y) (fun acc i=>(acc,(i:Int))) rfl ?_ ?_)).trans rfl
 ·intro i a acc ha Lf
  obtain ⟨rfl,hi⟩:=fh ha
  show iP c x y acc i=_
  unfold iP
  have e1:=H.iz (f:=(i:Int)) (by omega) (by omega)
  have e3:=H.jc (f:=(i:Int)) (by omega) (by omega)
  rw [aX (by omega),cond_true,dZ (by omega) (by omega)]
  simp only [e1,e3,aH,cA (show i < 9223372036854775807 by omega)]
  unfold qy
  cases gi c.aG (i:Int) == x with
  | false=>rfl
  | true=>cases gi c.To (i:Int) == y <;> rfl
 ·intro acc
  show iP c x y acc _=_
  unfold iP
  rw [dQ,bn (by omega),cond_false]
theorem NP {R:Type} {body:Bool×Int→Option (Out (Bool×Int) R)} {k:Nat} {n:Nat} (p:Int→Bool) (h:∀ i:Nat,i < n→body (true,(i:Int))=some (.norm (p i,((i+1:Nat):Int))))
  (hf:∀ i:Nat,i≤n→body (false,(i:Int))=some (.exit k (false,(i:Int)))) (last:body (true,(n:Int))=some (.exit k (true,(n:Int)))):∃ j:Int,ai body (true,(0:Int))=some (.exit k ((ns n).all p,j)):=by
 have key:∀ m i:Nat,i+m=n→(∀ a:Nat,a < i→p a=true)→∃ j:Int,ai body (true,(i:Int))=some (.exit k ((ns n).all p,j)):=by
  intro m
  induction m with
  | zero=>
   intro i hi ha
   obtain rfl:i=n:=by omega
   have:(ns i).all p=true:=List.all_eq_true.2 fun x hx=>by
    have:=da.1 hx
    have h:=ha x.toNat (by omega)
    rwa [show ((x.toNat:Nat):Int)=x by omega] at h
   rw [this]
   exact ⟨_,j8 last⟩
  | succ m ih=>
   intro i hi ha
   rw [mh,h i (by omega)]
   cases hp:p i with
   | true=>
    refine ih (i+1) (by omega) fun a h1=>?_
    rcases Nat.lt_or_ge a i with h2 | h2
    ·exact ha a h2
    ·obtain rfl:a=i:=by omega
     exact hp
   | false=>
    have:(ns n).all p=false:=by
     rw [Bool.eq_false_iff]
     intro ei
     have:=List.all_eq_true.1 ei (i:Int) (da.2 ⟨by omega,by omega⟩)
     rw [hp] at this; cases this
    rw [this]
    exact ⟨_,j8 (hf (i+1) (by omega))⟩
 exact key n 0 (by omega) fun a h=>by omega
def H9 (f g:aL) (x:Int) (p:List Int) (a:Int):Bool:=(gi f.aB.aG a != x && gi f.aB.To a != x) || (decide (gi p (gi f.aB.aG a) < 0) || (decide (gi p (gi f.aB.To a) < 0) || sF f g p a))
def EE (f g:aL) (x:Int) (p:List Int):Bool:=(ns f.aB.aG.length).all (H9 f g x p)
def lu (f g:aL) (xs:List Int) (x:Int):List Int:=((ns f.aE.aG.length).filter (qy f.aE (gi f.aC x) (gi g.aC x))).filter fun b=>ik f.aE b && EE f g x (xs.set x.toNat b)
def zh (f g:aL):Nat→List Int→Option (List Int)
 | 0,_=>none
 | n+1,xs=>bif (ns xs.length).any (fun y=>gi xs y == -1 && (lu f g xs y).isEmpty) then none else
  match (ns xs.length).find? (fun y=>gi xs y == -1) with
  | none=>some xs
  | some x=>(lu f g xs x).findSome? fun b=>zh f g n (xs.set x.toNat b)
theorem JK (n:Nat):ns (n+1)=ns n++[(n:Int)]:=by simp [ns,List.range_succ]
section
variable {f g:aL} (T:C5 f g)
include T
theorem X1 {p:List Int} (pl:(p.length:Int)=f.aB.aC) {a:Int} (a0:0≤a) (a1:a < f.aB.aG.length) (k1:0≤gi p (gi f.aB.To a)∧gi p (gi f.aB.To a) < f.aE.aG.length) (k2:0≤gi p (gi f.aB.aG a)∧gi p (gi f.aB.aG a) < f.aE.aG.length):jS f g p a=some (sF f g p a):=by
 have F:=T.F
 have kf:=F.c.fr a0 a1
 have kt:=F.c.to a0 a1
 have ka:=F.ar a0 a1
 have k3:=T.G.ar (a:=a) a0 (by rw [T.es]; exact a1)
 have e3:=T.G.uV (a:=a) a0 (by rw [T.es]; exact a1)
 rw [T.et] at k3
 unfold jS sF
 rw [F.uV a0 a1,aH,F.d.nj ka.1 ka.2,aH,F.c.jc a0 a1,aH,cT kt.1 (by omega),aH,F.d.l9 ka.1 ka.2 k1.1 k1.2,aH,F.c.iz a0 a1,aH,cT kf.1 (by omega),aH,F.d.nj k2.1 k2.2,aH,e3,aH,F.d.l9 k2.1 k2.2 k3.1 k3.2,aH]
 rfl
theorem Qj {m:Int} {fd:List (List Int)} {xs:List Int} (pl:(xs.length:Int)=f.aB.aC) (po:∀ y∈xs,y < f.aE.aG.length) {x:Int} (x0:0≤x) (x1:x < f.aB.aC):jG (dB.mk f g true m fd) xs x=some (lu f g xs x):=by
 have F:=T.F
 have cm:=F.c.m
 have dm:=F.d.m
 have co:=F.c.o8
 have CB:idx g.aC x=some (gi g.aC x):=T.G.wg x0 (by rw [T.es]; exact x1)
 unfold jG lu
 dsimp only
 rw [F.wg x0 x1,aH,CB,aH,X0 F.d,aH]
 generalize hl:(ns f.aE.aG.length).filter (qy f.aE (gi f.aC x) (gi g.aC x))=l
 have GS:∀ b∈l,0≤b∧b < f.aE.aG.length:=by intro b hb; rw [← hl] at hb; exact da.1 (List.mem_filter.1 hb).1
 have Ea:l.length≤f.aE.aG.length:=by rw [← hl]; exact Nat.le_trans (List.length_filter_le _ _) (by rw [dQ]; exact Nat.le_refl _)
 refine (congrArg ao (vV l (fun b=>ik f.aE b && EE f g x (xs.set x.toNat b)) (fun acc i=>(acc,(i:Int))) rfl ?_ ?_)).trans rfl
 ·intro i b acc hb Lf
  have hi:=b9 hb
  have kb:=GS b (List.mem_of_getElem? hb)
  obtain ⟨v,Jf,xH⟩:=Qi F.d kb.1 kb.2
  show iZ (dB.mk f g true m fd) xs x l acc i=_
  unfold iZ
  dsimp only
  rw [aX (by omega),cond_true,cond_true]
  simp only [ca,hb,aH,Jf,xH,cA (show i < 9223372036854775807 by omega),jh xs (show xs.length≤1048576 by omega),cT (l:=xs) x0 (by omega)]
  cases BP:ik f.aE b with
  | false=>rfl
  | true=>
   rw [Bool.not_true,cond_false,Bool.true_and]
   have pl2:((xs.set x.toNat b).length:Int)=f.aB.aC:=by rw [List.length_set]; exact pl
   have Ze:∀ y∈xs.set x.toNat b,y < f.aE.aG.length:=vn po kb.2
   have Mx:∃ j:Int,ai (fun s:Bool×Int=>kK (dB.mk f g true m fd) x xs b s.1 s.2) (true,(0:Int))=some (.exit 2 ((ns f.aB.aG.length).all (H9 f g x (xs.set x.toNat b)),j)):=by
    refine NP (R:=List Int) (k:=2) (n:=f.aB.aG.length) (H9 f g x (xs.set x.toNat b)) (fun a ha=>?_) (fun a ha=>?_) ?_
    ·have a1:(a:Int) < f.aB.aG.length:=by omega
     have kf:=F.c.fr (f:=(a:Int)) (by omega) a1
     have kt:=F.c.to (f:=(a:Int)) (by omega) a1
     have al:=F.al
     have WG:∀ h1 : ¬ gi (xs.set x.toNat b) (gi f.aB.aG a) < 0,∀ h2 : ¬ gi (xs.set x.toNat b) (gi f.aB.To a) < 0,jS f g (xs.set x.toNat b) a=some (sF f g (xs.set x.toNat b) a):=fun h1 h2=>
      X1 T pl2 (by omega) a1 ⟨by omega,Ze _ (er kt.1 (by omega))⟩ ⟨by omega,Ze _ (er kf.1 (by omega))⟩
     unfold kK H9
     dsimp only
     rw [cond_true,aX (by omega),aH,cond_true]
     simp only [F.c.iz (f:=(a:Int)) (by omega) a1,F.c.jc (f:=(a:Int)) (by omega) a1,aH,cT (l:=xs.set x.toNat b) kf.1 (by omega),cT (l:=xs.set x.toNat b) kt.1 (by omega),cA (show a < 9223372036854775807 by omega)]
     by_cases h1:gi (xs.set x.toNat b) (gi f.aB.aG a) < 0
     ·rw [aX h1]
      cases gi f.aB.aG (a:Int) != x <;> cases gi f.aB.To (a:Int) != x <;> rfl
     ·rw [bn h1]
      by_cases h2:gi (xs.set x.toNat b) (gi f.aB.To a) < 0
      ·rw [aX h2]
       cases gi f.aB.aG (a:Int) != x <;> cases gi f.aB.To (a:Int) != x <;> rfl
      ·rw [bn h2,WG h1 h2]
       cases gi f.aB.aG (a:Int) != x <;> cases gi f.aB.To (a:Int) != x <;> rfl
    ·rfl
    ·unfold kK
     dsimp only
     rw [cond_true,bn (by have:=F.al; omega),aH,cond_false]
   obtain ⟨j,hj⟩:=Mx
   rw [tc hj]
   show (bif EE f g x (xs.set x.toNat b) then _ else _)=_
   cases EE f g x (xs.set x.toNat b) with
   | false=>rfl
   | true=>rw [cond_true,dZ (by omega) (by omega),aH]; rfl
 ·intro acc
  show iZ (dB.mk f g true m fd) xs x l acc _=_
  unfold iZ
  rw [bn (by omega),cond_false]
theorem SU {xs:List Int} {x b:Int} (h:b∈lu f g xs x):0≤b∧b < f.aE.aG.length:=by
 unfold lu at h
 exact da.1 (List.mem_filter.1 (List.mem_filter.1 h).1).1
theorem SV (xs:List Int) (x:Int):(lu f g xs x).length≤f.aE.aG.length:=by
 unfold lu
 exact Nat.le_trans (List.length_filter_le _ _) (Nat.le_trans (List.length_filter_le _ _) (by rw [dQ]; exact Nat.le_refl _))
theorem Zf:∀ (n:Nat) (xs:List Int),(xs.length:Int)=f.aB.aC→(∀ y∈xs,y < f.aE.aG.length)→FI xs < n→gY n (dB.mk f g true 1 []) xs=some (dB.mk f g true 1 (zh f g n xs).toList):=by
 have F:=T.F
 have co:=F.c.o8
 have dm:=F.d.m
 intro n
 induction n with
 | zero=>intro xs _ _ h; omega
 | succ n ih=>
  intro xs pl po hn
  have ch:∀ y:Int,0≤y→y < xs.length→jG (dB.mk f g true 1 []) xs y=some (lu f g xs y):=fun y y0 y1=>Qj T pl po y0 (by omega)
  have WH:∀ (j:Nat) (r:Int),j≤xs.length→ai (fun s:Int×Int=>lM (dB.mk f g true 1 []) xs s.1 s.2) (r,(j:Int) - 1) =
    some (bif (ns j).any (fun y=>gi xs y == -1 && (lu f g xs y).isEmpty) then .ret (dB.mk f g true 1 []) else .exit 0 (((ns j).find? (fun y=>gi xs y == -1)).getD r,-1)):=by
   intro j
   induction j with
   | zero=>
    intro r _
    refine (j8 (k:=0) (s':=(r,(-1:Int))) ?_).trans rfl
    unfold lM
    rw [bn (by omega),cond_false]; rfl
   | succ j Zg=>
    intro r hj
    have Az:(j:Int) < xs.length:=by omega
    rw [mh,show ((j+1:Nat):Int) - 1=(j:Int) by omega,JK,List.any_append,List.find?_append]
    have hb:lM (dB.mk f g true 1 []) xs r (j:Int)=(bif gi xs j == -1 then (bif (lu f g xs j).isEmpty then some (.ret (dB.mk f g true 1 [])) else some (.norm ((j:Int),(j:Int) - 1))) else some (.norm (r,(j:Int) - 1))):=by
     unfold lM
     rw [aX (by omega),cond_true,cT (by omega) Az,aH,eA (by omega) (by omega),ch j (by omega) Az,aH]
     have:(((lu f g xs j).length:Int) == (0:Int))=(lu f g xs j).isEmpty:=by cases lu f g xs j <;> simp <;> omega
     rw [this]
    dsimp only
    rw [hb]
    cases hu:gi xs j == -1 with
    | false=>
     rw [cond_false]
     dsimp only
     rw [Zg r (by omega)]
     simp [hu]
    | true=>
     rw [cond_true]
     cases he:(lu f g xs j).isEmpty with
     | true=>
      rw [cond_true]
      simp [hu,he]
     | false=>
      rw [cond_false]
      dsimp only
      rw [Zg (j:Int) (by omega)]
      simp only [List.any_cons,List.any_nil,hu,he,Bool.and_false,Bool.or_false,List.find?_cons,List.find?_nil]
      cases (ns j).find? (fun y=>gi xs y == -1) <;> rfl
  show oY (gY n) (dB.mk f g true 1 []) xs=_
  unfold oY zh
  rw [eA (by omega) (by omega)]
  cases wh:(ns xs.length).any (fun y=>gi xs y == -1 && (lu f g xs y).isEmpty) with
  | true=>
   have h1:=WH xs.length (-1) (by omega)
   rw [wh,cond_true] at h1
   rw [BF h1]; rfl
  | false=>
   have h1:=WH xs.length (-1) (by omega)
   rw [wh,cond_false] at h1
   rw [tc h1]
   rw [cond_false]
   dsimp only
   cases NQ:(ns xs.length).find? (fun y=>gi xs y == -1) with
   | none=>
    dsimp only [Option.getD_none]
    rw [aX (by omega),cond_true,jh xs (by omega),aH,dZ (by simp) (by simp),aH]
    rfl
   | some x=>
    have hx:=da.1 (List.mem_of_find?_eq_some NQ)
    have WI:gi xs x = -1:=by have:=List.find?_some NQ; simpa using this
    dsimp only [Option.getD_some]
    rw [bn (by omega),cond_false,ch x hx.1 hx.2,aH]
    have cl:=SV T xs x
    have key:∀ (m:List Int) (i:Nat),(lu f g xs x).drop i=m→i≤(lu f g xs x).length→∃ j:Int,ai (fun s:Int×Int×Int×Int×Int×Bool×Int×List (List Int)=>jI (gY n) (dB.mk f g true 1 []) xs x (lu f g xs x) s.1 s.2.1 s.2.2.1 s.2.2.2.1 s.2.2.2.2.1 s.2.2.2.2.2.1 s.2.2.2.2.2.2.1 s.2.2.2.2.2.2.2)
      ((i:Int),f.aB.aC,f.aE.aC,g.aB.aC,g.aE.aC,true,1,[])=some (.exit 2 (j,f.aB.aC,f.aE.aC,g.aB.aC,g.aE.aC,true,1,(m.findSome? fun b=>zh f g n (xs.set x.toNat b)).toList)):=by
     intro m
     induction m with
     | nil=>
      intro i hd hi
      obtain rfl:i=(lu f g xs x).length:=by have:=congrArg List.length hd; simp at this; omega
      refine ⟨((lu f g xs x).length:Int),j8 (k:=2) ?_⟩
      unfold jI
      rw [bn (by omega),cond_false,aH,cond_false]; rfl
     | cons b m NO=>
      intro i hd hi
      have bc:i < (lu f g xs x).length:=by
       rcases Nat.lt_or_ge i (lu f g xs x).length with h | h
       ·exact h
       ·rw [List.drop_eq_nil_of_le h] at hd; cases hd
      have hb:(lu f g xs x)[i]? = some b:=by
       rw [List.drop_eq_getElem_cons bc] at hd
       rw [List.getElem?_eq_getElem bc]; exact congrArg some (List.cons.inj hd).1
      have gp:(lu f g xs x).drop (i+1)=m:=by rw [List.drop_eq_getElem_cons bc] at hd; exact (List.cons.inj hd).2
      have kb:=SU T (List.mem_of_getElem? hb)
      have hc:FI (xs.set x.toNat b) < n:=by
       have:=JL (r:=xs) (d:=x.toNat) kb.1 (by omega) (by rw [show ((x.toNat:Nat):Int)=x by omega]; exact WI)
       omega
      have hg:=ih (xs.set x.toNat b) (by rw [List.length_set]; exact pl) (vn po kb.2) hc
      have wP:jI (gY n) (dB.mk f g true 1 []) xs x (lu f g xs x) (i:Int) f.aB.aC f.aE.aC g.aB.aC g.aE.aC true 1 [] =
        some (.norm (((i+1:Nat):Int),f.aB.aC,f.aE.aC,g.aB.aC,g.aE.aC,true,1,(zh f g n (xs.set x.toNat b)).toList)):=by
       unfold jI
       rw [aX (by omega),cond_true,aH,aX (by simp),cond_true,jh xs (by omega),aH,ca,hb,aH,cT hx.1 hx.2,aH]
       show (gY n (dB.mk f g true 1 []) (xs.set x.toNat b)>>=_)=_
       rw [hg,aH,cA (by omega)]
      rw [mh]
      dsimp only
      rw [wP]
      dsimp only
      rw [List.findSome?_cons]
      cases hgo:zh f g n (xs.set x.toNat b) with
      | none=>exact NO (i+1) gp (by omega)
      | some q=>
       refine ⟨((i+1:Nat):Int),j8 (k:=2) ?_⟩
       unfold jI
       dsimp only
       by_cases hl:((i+1:Nat):Int) < (lu f g xs x).length
       ·rw [aX hl,cond_true,aH,bn (by simp),cond_false]
       ·rw [bn hl,cond_false,aH,cond_false]
    obtain ⟨j,hj⟩:=key _ 0 rfl (by omega)
    have gy:ai (fun s:Int×Int×Int×Int×Int×Bool×Int×List (List Int)=>jI (gY n) (dB.mk f g true 1 []) xs x (lu f g xs x) s.1 s.2.1 s.2.2.1 s.2.2.2.1 s.2.2.2.2.1 s.2.2.2.2.2.1 s.2.2.2.2.2.2.1 s.2.2.2.2.2.2.2)
      ((0:Int),f.aB.aC,f.aE.aC,g.aB.aC,g.aE.aC,true,1,[])=_:=hj
    rw [tc gy]
    rfl
end
end Go.Proofs.YtkcpiblgpnjanaaGreat
