/- Natural maps that are looked for in depth: the search of the reference does not fail. No condition beside those that each theorem names. -/
import Derived.Test.YtcnehblmgfbfoaaGreatVo
import Derived.Test.YtcnehblmgfbfoaaGreatPj
set_option linter.unusedVariables false
set_option linter.unusedSectionVars false
set_option linter.unusedSimpArgs false
namespace Go.Proofs.YtcnehblmgfbfoaaGreat
open Go Go.Li
def J0 (r:List Int):Nat:=(r.filter fun v=>decide (v < 0)).length
theorem YV (r:List Int):J0 r≤r.length:=List.length_filter_le _ _
theorem UW {r:List Int} {d:Nat} {v:Int} (hv:0≤v):J0 (r.set d v)≤J0 r∧(d < r.length→gi r d < 0→J0 (r.set d v) < J0 r):=by
 unfold J0
 induction r generalizing d with
 | nil=>exact ⟨by simp,fun h=>by simp at h⟩
 | cons a r ih=>
  cases d with
  | zero=>
   have e0:(List.filter (fun v=>decide (v < 0)) (v :: r))=List.filter (fun v=>decide (v < 0)) r:=by rw [List.filter_cons,if_neg (by simp; omega)]
   rw [List.set_cons_zero,e0,List.filter_cons]
   refine ⟨by split <;> simp,fun _ h=>?_⟩
   have h:a < 0:=h
   rw [if_pos (by simpa using h)]; simp
  | succ d=>
   rw [List.set_cons_succ,List.filter_cons,List.filter_cons]
   obtain ⟨h1,h2⟩:=ih (d:=d)
   refine ⟨by split <;> (try simp only [List.length_cons]) <;> omega,fun hl hg=>?_⟩
   have hg:gi r d < 0:=by
    have e:gi (a :: r) ((d+1:Nat):Int)=gi r (d:Int):=rfl
    rwa [e] at hg
   have:=h2 (by simp at hl; omega) hg
   split <;> (try simp only [List.length_cons]) <;> omega
def vx (p:List (List Int)):Nat:=vw p.length fun x=>J0 (gr p x)
structure PS (f:aK) (p:List (List Int)):Prop where
 len:p.length=f.aP.length
 row:∀ x:Int,0≤x→x < f.aC.aD→((gr p x).length:Int)=gi f.aP x
theorem PS.set {f:aK} (F:Sh f) {p:List (List Int)} (P:PS f p) {y d v:Int} (y0:0≤y) (y1:y < f.aC.aD) (d0:0≤d) (d1:d < gi f.aP y) (hv:0≤v) :
  PS f (p.set y.toNat ((gr p y).set d.toNat v))∧vx (p.set y.toNat ((gr p y).set d.toNat v))≤vx p∧(gi (gr p y) d < 0→vx (p.set y.toNat ((gr p y).set d.toNat v)) < vx p):=by
 have hl:=P.len
 have wj:=F.sl
 have av:=P.row y y0 y1
 have key:∀ x:Nat,gr (p.set y.toNat ((gr p y).set d.toNat v)) (x:Int)=if (x:Int)=y then (gr p y).set d.toNat v else gr p x:=by
  intro x
  rw [Ak]
  by_cases e:(x:Int)=y
  ·rw [if_pos (by omega),if_pos e]
  ·rw [if_neg (by omega),if_neg e]
 have hn:=UW (r:=gr p y) (d:=d.toNat) hv
 refine ⟨⟨by rw [List.length_set]; exact hl,fun x x0 x1=>?_⟩,?_,fun Em=>?_⟩
 ·obtain ⟨n,rfl⟩ : ∃ n:Nat,x=n:=⟨x.toNat,by omega⟩
  rw [key n]
  split
  ·rename_i e; rw [List.length_set,e]; exact av
  ·exact P.row n x0 x1
 ·unfold vx
  rw [List.length_set]
  refine Dh fun i _=>?_
  rw [key i]
  split
  ·rename_i e; rw [e]; exact hn.1
  ·exact Nat.le_refl _
 ·unfold vx
  rw [List.length_set]
  refine Di (k:=y.toNat) (fun i _=>?_) (by omega) ?_
  ·rw [key i]
   split
   ·rename_i e; rw [e]; exact hn.1
   ·exact Nat.le_refl _
  ·rw [key,if_pos (by omega),show ((y.toNat:Nat):Int)=y by omega]
   exact hn.2 (by omega) (by rw [show ((d.toNat:Nat):Int)=d by omega]; exact Em)
structure J1 (s:cI):Prop where
 f:Sh s.F
 g:Sh s.G
 same:s.G.aC=s.F.aC
 one:∀ x e:Int,0≤x→x < s.F.aC.aD→0≤e→e < gi s.F.aP x→gi (gr s.F.aO (gi s.F.aC.aI x)) e=e
theorem aaD (l:List Int) (n:Int) (hl:l.length≤1048576000):Ok (nA l n) fun _=>True:=⟨_,UM l n hl,trivial⟩
theorem PS.small {f:aK} (F:Sh f) {p:List (List Int)} (P:PS f p):p.length≤1048576∧∀ y∈p,y.length≤1048576:=by
 have h1:=F.sm.s
 have hl:=P.len
 have wj:=F.sl
 refine ⟨by omega,fun y hy=>?_⟩
 obtain ⟨i,i0,i1,rfl⟩:=JV hy
 have:=P.row i i0 (by omega)
 have:=(F.s i i0 (by omega)).2
 omega
theorem aaE {s:cI} (G:J1 s) {p:List (List Int)} (P:PS s.F p) {x e u:Int} (x0:0≤x) (x1:x < s.F.aC.aD) (e0:0≤e) (e1:e < gi s.F.aP x) (u0:0≤u) (u1:u < gi s.G.aP x) :
  Ok (gT s p x e u) fun y=>y.2=true→PS s.F y.1∧(gi (gr p x) e < 0→vx y.1 < vx p):=by
 have C:=G.f.cat
 have m:=C.m
 have o8:=C.o8
 have xV:=G.f.al
 have afB:=G.g.al
 have hsm:=PS.small G.f P
 have sF:=C.id x0 x1
 rw [G.same] at afB
 unfold gT
 refine ly (oe (vW p hsm.1 hsm.2) ?_)
 refine ol (fun z:Int×List (List Int)=>(0≤z.1∧z.1≤s.F.aO.length)∧PS s.F z.2∧vx z.2≤vx p∧(gi (gr p x) e < 0→(gi (gr z.2 x) e < 0∧z.1≤gi s.F.aC.aI x)∨vx z.2 < vx p)) (fun z=>(s.F.aO.length - z.1).toNat) ⟨⟨by show (0:Int)≤0; omega,by show (0:Int)≤_; omega⟩,P,Nat.le_refl _,fun h=>.inl ⟨h,sF.1⟩⟩ ?_
 rintro ⟨a,o⟩ ⟨⟨a0,a1⟩,Po,ho,hn⟩
 dsimp only at a0 a1 Po ho hn
 show Ok (qG s x e u a o) _
 unfold qG
 have fv:=Po.len
 have wj:=G.f.sl
 refine od (fun ha=>?_) fun ha=>os ⟨rfl,os fun _=>⟨Po,fun h=>?_⟩⟩
 ·have hw:=w1 a0 ha (by omega)
  have PL:a < s.F.aC.aG.length:=by omega
  refine oe (C.lh a0 PL) (oc (fun ne=>os ⟨⟨⟨?_,?_⟩,Po,ho,fun h=>?_⟩,?_⟩) fun eq=>?_)
  ·dsimp only; rw [hw]; omega
  ·dsimp only; rw [hw]; omega
  ·dsimp only
   rw [hw]
   rcases hn h with h1 | h1
   ·refine .inl ⟨h1.1,?_⟩
    have:a≠gi s.F.aC.aI x:=fun ea=>by
     rw [ea,C.zb x x0 x1] at ne
     simp at ne
    omega
   ·exact .inr h1
  ·dsimp only; rw [hw]; omega
  have ex:gi s.F.aC.aG a=x:=by simpa using eq
  have ht:=C.to a0 PL
  have hA:=G.f.act a a0 PL
  have hB:=G.g.act a a0 (by rw [G.same]; exact PL)
  rw [ex] at hA
  rw [G.same,ex] at hB
  have hd:=hA.2 _ (fy (l:=gr s.F.aO a) (j:=e) e0 (by omega))
  have hv:=hB.2 _ (fy (l:=gr s.G.aO a) (j:=u) u0 (by omega))
  have av:=Po.row _ ht.1 ht.2
  have hS:=G.f.s _ ht.1 ht.2
  refine oe (C.l8 a0 PL) (oe (cb a0 (by omega)) (oe (bQ e0 (by omega)) (oe (cb a0 (by omega)) (oe (bQ u0 (by omega)) ?_))))
  refine ob (P:=fun _=>True) (oe (cb ht.1 (by omega)) (oe (bQ hd.1 (by omega)) (oc (fun _=>oe (cb ht.1 (by omega)) (oe (bQ hd.1 (by omega)) (os trivial))) fun _=>os trivial))) fun _ _=>oc (fun _=>os (show _→_ by intro h; cases h)) fun _=>?_
  refine ob (P:=fun _=>True) (oc (fun _=>oe (cb ht.1 (by omega)) (oe (bQ hd.1 (by omega)) (oc (fun _=>oe (cb ht.1 (by omega)) (ob (aaD _ _ (by omega)) fun _ _=>os trivial)) fun _=>os trivial))) fun _=>os trivial) fun _ _=>oc (fun _=>os (show _→_ by intro h; cases h)) fun _=>?_
  have pr:=PS.set G.f Po ht.1 ht.2 hd.1 hd.2 hv.1
  refine oe (cb ht.1 (by omega)) (oe (bQ hd.1 (by omega)) (os ⟨⟨⟨?_,?_⟩,pr.1,Nat.le_trans pr.2.1 ho,fun h=>?_⟩,?_⟩))
  ·dsimp only; rw [hw]; omega
  ·dsimp only; rw [hw]; omega
  ·dsimp only
   rw [hw]
   rcases hn h with h1 | h1
   ·by_cases ea:a=gi s.F.aC.aI x
    ·refine .inr (Nat.lt_of_lt_of_le (pr.2.2 ?_) ho)
     rw [ea,C.G5 x x0 x1,G.one x e x0 x1 e0 e1]
     exact h1.1
    ·by_cases hc:gi s.F.aC.To a=x∧gi (gr s.F.aO a) e=e
     ·refine .inr (Nat.lt_of_lt_of_le (pr.2.2 ?_) ho)
      rw [hc.1,hc.2]; exact h1.1
     ·refine .inl ⟨?_,by omega⟩
      have key:=Ak (cl:=o) (y:=(gi s.F.aC.To a).toNat) (q:=(gr o (gi s.F.aC.To a)).set (gi (gr s.F.aO a) e).toNat (gi (gr s.G.aO a) u)) x.toNat
      rw [show ((x.toNat:Nat):Int)=x by omega] at key
      rw [key]
      split
      ·rename_i h2
       have et:gi s.F.aC.To a=x:=by omega
       rw [et]
       have mc:gi (gr s.F.aO a) e≠e:=fun h=>hc ⟨et,h⟩
       rw [Lw hd.1 (by rw [et] at hd; have:=Po.row x x0 x1; omega) e0,if_neg (Ne.symm mc)]
       exact h1.1
      ·exact h1.1
   ·exact .inr (Nat.lt_of_le_of_lt pr.2.1 h1)
  ·dsimp only; rw [hw]; omega
 ·rcases hn h with h1 | h1
  ·have:=sF.2; omega
  ·exact h1
theorem Sn {s t:cI} (hf:t.F=s.F) (hg:t.G=s.G) (ho:t.pg=s.pg) (p:List (List Int)) (x e u:Int):gT t p x e u=gT s p x e u:=by
 obtain ⟨a,b,c,d,k⟩:=s
 obtain ⟨a',b',c',d',k'⟩:=t
 dsimp only at hf hg ho
 subst hf
 subst hg
 subst ho
 rfl
theorem Ho {s:cI} (G:J1 s) {p:List (List Int)} (P:PS s.F p) {x e:Int} (x0:0≤x) (x1:x < s.F.aC.aD) (e0:0≤e) (e1:e < gi s.F.aP x) :
  Ok (jP s p x e) fun l=>l.length≤200∧∀ u∈l,∃ q,gT s p x e u=some (q,true)∧PS s.F q∧(gi (gr p x) e < 0→vx q < vx p):=by
 have hgs:=G.g.sl
 rw [G.same] at hgs
 have hs:=G.g.s x x0 (by rw [G.same]; exact x1)
 unfold jP
 refine ly (ol (fun z:List Int×Int=>(0≤z.2∧z.2≤gi s.G.aP x)∧(z.1.length:Int)≤z.2∧∀ u∈z.1,∃ q,gT s p x e u=some (q,true)∧PS s.F q∧(gi (gr p x) e < 0→vx q < vx p)) (fun z=>(gi s.G.aP x - z.2).toNat) ⟨⟨by show (0:Int)≤0; omega,hs.1⟩,by show ((0:Nat):Int)≤0; omega,jo⟩ ?_)
 rintro ⟨l,u⟩ ⟨⟨u0,u1⟩,hl,fk⟩
 dsimp only at u0 u1 hl fk
 show Ok (mJ s p x e l u) _
 unfold mJ
 refine oe (bQ x0 (by omega)) (od (fun hu=>?_) fun hu=>os ⟨rfl,os ⟨by omega,fk⟩⟩)
 have hw:=w1 u0 hu (by omega)
 obtain ⟨⟨q,b⟩,eq,hq⟩:=aaE G P x0 x1 e0 e1 u0 hu
 refine oe eq (oc (fun hb=>fj (by omega) (by omega) (os ⟨⟨⟨?_,?_⟩,?_,kp fk ⟨q,?_,hq hb⟩⟩,?_⟩)) fun _=>os ⟨⟨⟨?_,?_⟩,?_,fk⟩,?_⟩)
 all_goals first | (dsimp only at hb; subst hb; exact eq) | skip
 all_goals dsimp only
 all_goals rw [hw]
 all_goals (try simp only [List.length_append,List.length_singleton])
 all_goals omega
structure YW (s t:cI):Prop where
 f:t.F=s.F
 g:t.G=s.G
 o:t.pg=s.pg
 m:t.nz=s.nz
theorem J1.of {s t:cI} (G:J1 s) (E:YW s t):J1 t:=by
 obtain ⟨h1,h2,h3,h4⟩:=G
 exact ⟨E.f ▸ h1,E.g ▸ h2,by rw [E.f,E.g]; exact h3,by rw [E.f]; exact h4⟩
theorem afC (n:Nat):∀ {s:cI} (_:J1 s) {p:List (List Int)} (_:PS s.F p) (_:vx p < n) (_:(s.Found.length:Int) < s.nz) (_:s.nz≤1000) (_:∀ q∈s.Found,PS s.F q),
  Ok (kT n s p) fun t=>YW s t∧(t.Found.length:Int)≤t.nz∧∀ q∈t.Found,PS s.F q:=by
 induction n with
 | zero=>intro s _ p _ h; omega
 | succ n ih=>
  intro s G p P hp hf hm fk
  have C:=G.f.cat
  have o8:=C.o8
  have hl:=P.len
  have wj:=G.f.sl
  show Ok (pL (kT n) s p) _
  unfold pL
  refine off (ol (fun z:Int×Int×Int=>(-1≤z.2.2∧z.2.2 < p.length)∧(z.1 = -1∨(0≤z.1∧z.1 < s.F.aC.aD)∧(0≤z.2.1∧z.2.1 < gi s.F.aP z.1)∧gi (gr p z.1) z.2.1 < 0)) (fun z=>(z.2.2+1).toNat) ?_ ?_)
  ·have:ai ((p.length:Int) - 1)=(p.length:Int) - 1:=dT (by omega) (by omega)
   rw [this]
   exact ⟨⟨by dsimp only; omega,by dsimp only; omega⟩,.inl rfl⟩
  rintro ⟨x,e,y⟩ ⟨⟨y0,y1⟩,hx⟩
  dsimp only at y0 y1 hx
  show Ok (qR s p x e y) _
  unfold qR
  refine od (fun hy=>?_) fun hy=>os ⟨rfl,?_⟩
  ·have av:=P.row y hy (by omega)
   have hS:=G.f.s y hy (by omega)
   refine oe (cb hy (by omega)) ?_
   refine ol (fun z:Int×Int×Int=>(-1≤z.2.2∧z.2.2 < (gr p y).length)∧(z.1 = -1∨(0≤z.1∧z.1 < s.F.aC.aD)∧(0≤z.2.1∧z.2.1 < gi s.F.aP z.1)∧gi (gr p z.1) z.2.1 < 0)) (fun z=>(z.2.2+1).toNat) ?_ ?_
   ·have:ai (((gr p y).length:Int) - 1)=((gr p y).length:Int) - 1:=dT (by omega) (by omega)
    rw [this]
    exact ⟨⟨by dsimp only; omega,by dsimp only; omega⟩,hx⟩
   rintro ⟨x,e,d⟩ ⟨⟨d0,d1⟩,hx⟩
   dsimp only at d0 d1 hx
   show Ok (qQ s p y x e d) _
   unfold qQ
   refine od (fun hd=>?_) fun hd=>os ⟨rfl,os ⟨⟨⟨?_,?_⟩,hx⟩,?_⟩⟩
   ·have hw:ai (d - 1)=d - 1:=dT (by omega) (by omega)
    refine oe (cb hy (by omega)) (oe (bQ hd (by omega)) (od (fun Em=>?_) fun _=>os ⟨⟨⟨?_,?_⟩,hx⟩,?_⟩))
    ·refine ob (Ho G P hy (by omega) hd (by omega)) fun l hl=>oc (fun _=>os ⟨⟨rfl,rfl,rfl,rfl⟩,by omega,fk⟩) fun _=>os ⟨⟨⟨?_,?_⟩,.inr ⟨⟨hy,by omega⟩,⟨hd,by dsimp only; omega⟩,Em⟩⟩,?_⟩
     all_goals dsimp only
     all_goals rw [hw]
     all_goals omega
    all_goals dsimp only
    all_goals rw [hw]
    all_goals omega
   all_goals have hw:ai (y - 1)=y - 1:=dT (by omega) (by omega)
   all_goals dsimp only
   all_goals rw [hw]
   all_goals omega
  ·dsimp only
   refine od (fun EI=>fj (by omega) (by omega) (os ⟨⟨rfl,rfl,rfl,rfl⟩,?_,kp fk P⟩)) fun EI=>?_
   ·dsimp only; rw [List.length_append,List.length_singleton]; omega
   obtain ⟨⟨x0,x1⟩,⟨e0,e1⟩,Em⟩:=hx.resolve_left (by omega)
   refine ob (Ho G P x0 x1 e0 e1) fun l hl=>?_
   refine ol (fun z:Int×Int×Int×Bool×Int×List (List (List Int))=>(0≤z.1∧z.1≤l.length)∧z.2.1=s.F.aC.aD∧z.2.2.1=s.G.aC.aD∧z.2.2.2.1=s.pg∧z.2.2.2.2.1=s.nz∧(z.2.2.2.2.2.length:Int)≤s.nz∧∀ q∈z.2.2.2.2.2,PS s.F q) (fun z=>(l.length - z.1).toNat) ⟨⟨by show (0:Int)≤0; omega,by show (0:Int)≤_; omega⟩,rfl,rfl,rfl,rfl,by dsimp only; omega,fk⟩ ?_
   rintro ⟨k,z1,z2,z3,z4,fd⟩ ⟨⟨k0,k1⟩,h1,h2,h3,h4,h5,h6⟩
   dsimp only at k0 k1 h1 h2 h3 h4 h5 h6
   subst h1
   subst h2
   subst h3
   subst h4
   show Ok (qS (kT n) s p x e l k s.F.aC.aD s.G.aC.aD s.pg s.nz fd) _
   unfold qS
   refine ob (P:=fun g=>g=true→k < l.length∧(fd.length:Int) < s.nz) (od (fun h1=>os fun h2=>⟨h1,of_decide_eq_true h2⟩) fun _=>os fun h=>by cases h) fun g hg=>oc (fun eg=>?_) fun _=>os ⟨rfl,os ⟨⟨rfl,rfl,rfl,rfl⟩,h5,h6⟩⟩
   obtain ⟨hk,hfd⟩:=hg eg
   have hw:=w1 k0 hk (by omega)
   obtain ⟨q,eq,hq,Im⟩:=hl.2 _ (fy k0 hk)
   have E:YW s (cI.mk s.F s.G s.pg s.nz fd):=⟨rfl,rfl,rfl,rfl⟩
   refine oe (bQ k0 hk) (oe (x:=(q,true)) ((Sn (t:=cI.mk s.F s.G s.pg s.nz fd) rfl rfl rfl p x e _).trans eq) ?_)
   have:=Im Em
   refine ob (ih (s:=cI.mk s.F s.G s.pg s.nz fd) (G.of E) (p:=q) hq (by omega) hfd hm h6) fun t ht=>?_
   obtain ⟨⟨t1,t2,t3,t4⟩,t5,t6⟩:=ht
   dsimp only at t1 t2 t3 t4 t6
   refine os ⟨⟨⟨?_,?_⟩,by dsimp only; rw [t1],by dsimp only; rw [t2],t3,t4,by dsimp only; omega,t6⟩,?_⟩
   all_goals dsimp only
   all_goals rw [hw]
   all_goals omega
theorem YX {f:aK} (F:Sh f):Ok (pK f) (PS f):=by
 have o8:=F.cat.o8
 have sl:=F.sl
 unfold pK
 refine ly (ol (fun z:List (List Int)×Int=>(0≤z.2∧z.2≤f.aP.length)∧(z.1.length:Int)=z.2∧∀ x:Int,0≤x→x < z.2→((gr z.1 x).length:Int)=gi f.aP x) (fun z=>(f.aP.length - z.2).toNat) ⟨⟨by show (0:Int)≤0; omega,by show (0:Int)≤_; omega⟩,rfl,fun x a b=>by dsimp only at b; omega⟩ ?_)
 rintro ⟨p,x⟩ ⟨⟨x0,x1⟩,hp,hr⟩
 dsimp only at x0 x1 hp hr
 show Ok (pJ f p x) _
 unfold pJ
 refine od (fun hx=>?_) fun hx=>os ⟨rfl,os ⟨by omega,fun y y0 y1=>hr y y0 (by omega)⟩⟩
 have hs:=F.s x x0 (by omega)
 refine ol (fun z:List Int×Int=>(0≤z.2∧z.2≤gi f.aP x)∧(z.1.length:Int)=z.2) (fun z=>(gi f.aP x - z.2).toNat) ⟨⟨by show (0:Int)≤0; omega,hs.1⟩,rfl⟩ ?_
 rintro ⟨r,e⟩ ⟨⟨e0,e1⟩,Eu⟩
 dsimp only at e0 e1 Eu
 show Ok (pI f x r e) _
 unfold pI
 refine oe (bQ x0 hx) (od (fun he=>?_) fun he=>os ⟨rfl,?_⟩)
 ·have hw:=w1 e0 he (by omega)
  refine fj (by omega) (by omega) (os ⟨⟨⟨?_,?_⟩,?_⟩,?_⟩)
  all_goals dsimp only
  all_goals rw [hw]
  all_goals (try simp only [List.length_append,List.length_singleton])
  all_goals omega
 ·dsimp only
  have hw:=w1 x0 hx (by omega)
  refine fj (by omega) (by omega) (os ⟨⟨⟨?_,?_⟩,?_,fun z z0 z1=>?_⟩,?_⟩)
  all_goals first | (dsimp only at z1; rw [hw] at z1) | skip
  all_goals dsimp only
  all_goals first | (rw [hw]; simp only [List.length_append,List.length_singleton]; omega) | (rw [hw]; omega) | skip
  rw [PI z0]
  by_cases e:z < x
  ·rw [if_pos (by omega)]; exact hr z z0 e
  ·rw [if_neg (by omega),if_pos (by omega),show z=x by omega]; omega
def GI (f:aK):Nat:=vw f.aP.length fun x=>(gi f.aP x).toNat
theorem UX {f:aK} (F:Sh f):lG f=some (GI f:Int):=by
 have o8:=F.cat.o8
 have sl:=F.sl
 have bnd:∀ n:Nat,n≤f.aP.length→vw n (fun x=>(gi f.aP x).toNat)≤200 * n:=by
  intro n
  induction n with
  | zero=>intro _; exact Nat.le_refl _
  | succ n ih=>
   intro h
   rw [uW]
   have:=ih (by omega)
   have:=(F.s n (by omega) (by omega)).2
   omega
 obtain ⟨y,e,hy⟩ : Ok (lG f) fun y=>y=(GI f:Int):=by
  unfold lG
  refine ly (ol (fun z:Int×Int=>(0≤z.2∧z.2≤f.aP.length)∧z.1=(vw z.2.toNat fun x=>(gi f.aP x).toNat:Nat)) (fun z=>(f.aP.length - z.2).toNat) ⟨⟨by show (0:Int)≤0; omega,by show (0:Int)≤_; omega⟩,rfl⟩ ?_)
  rintro ⟨n,x⟩ ⟨⟨x0,x1⟩,hn⟩
  dsimp only at x0 x1 hn
  show Ok (nS f n x) _
  unfold nS
  refine od (fun hx=>?_) fun hx=>os ⟨rfl,os ?_⟩
  ·have hs:=F.s x x0 (by omega)
   have hw:=w1 x0 hx (by omega)
   have hb:=bnd x.toNat (by omega)
   have h2:ai (n+gi f.aP x)=n+gi f.aP x:=dT (by omega) (by omega)
   refine oe (bQ x0 hx) (os ⟨⟨⟨?_,?_⟩,?_⟩,?_⟩)
   all_goals dsimp only
   all_goals rw [hw]
   ·omega
   ·omega
   ·rw [h2,hn,show (x+1).toNat=x.toNat+1 by omega,uW,show ((x.toNat:Nat):Int)=x by omega]
    omega
   ·omega
  ·rw [hn]
   unfold GI
   rw [show x.toNat=f.aP.length by omega]
   exact rfl
 rw [e,hy]
theorem YY {f g:aK} {b:Bool} {m:Int} (G:J1 (cI.mk f g b m [])) (m0:0 < m) (m1:m≤1000) (hc:GI f≤12):Ok (pM f g b m) fun l=>(l.length:Int)≤m∧∀ q∈l,PS f q:=by
 have F:Sh f:=G.f
 have wj:=F.sl
 unfold pM
 refine ly (ob (YX F) fun p hp=>?_)
 have Im:vx p≤GI f:=by
  unfold vx GI
  rw [hp.len]
  refine Dh fun i hi=>?_
  have:=hp.row i (by omega) (by omega)
  have:=YV (gr p i)
  omega
 refine ob (afC 64 G (p:=p) hp (by omega) (by show ((0:Nat):Int) < m; omega) m1 jo) fun t ht=>?_
 obtain ⟨⟨t1,t2,t3,t4⟩,t5,t6⟩:=ht
 exact os ⟨by rw [t4] at t5; exact t5,t6⟩
end Go.Proofs.YtcnehblmgfbfoaaGreat
