/- Natural maps that are looked for in depth: the search of the reference does not fail. No condition beside those that each theorem names. -/
import Derived.Test.YtacpfhajafmigaaGreatVo
import Derived.Test.YtacpfhajafmigaaGreatRu
namespace Go.Proofs.YtacpfhajafmigaaGreat
open Go Go.Li
def ngN (r:List Int):Nat:=(r.filter fun v=>decide (v < 0)).length
theorem ngN_le (r:List Int):ngN r≤r.length:=List.length_filter_le _ _
theorem ngN_set {r:List Int} {d:Nat} {v:Int} (hv:0≤v):ngN (r.set d v)≤ngN r∧(d < r.length→gi r d < 0→ngN (r.set d v) < ngN r):=by
 unfold ngN
 induction r generalizing d with
 | nil=>exact ⟨by simp,fun h=>by simp at h⟩
 | cons a r ih=>
  cases d with
  | zero=>
   have e0:(List.filter (fun v=>decide (v < 0)) (v :: r))=List.filter (fun v=>decide (v < 0)) r:=by rw [List.filter_cons,if_neg (by simp; omega)]
   rw [List.set_cons_zero,e0,List.filter_cons]
   refine ⟨by split <;> simp,fun _ h=>?_⟩
   have h:a < 0:=h
   rw [if_pos (by simpa using h)]; simp
  | succ d=>
   rw [List.set_cons_succ,List.filter_cons,List.filter_cons]
   obtain ⟨h1,h2⟩:=ih (d:=d)
   refine ⟨by split <;> (try simp only [List.length_cons]) <;> omega,fun hl hg=>?_⟩
   have hg:gi r d < 0:=by
    have e:gi (a :: r) ((d+1:Nat):Int)=gi r (d:Int):=rfl
    rwa [e] at hg
   have:=h2 (by simp at hl; omega) hg
   split <;> (try simp only [List.length_cons]) <;> omega
def opN (p:List (List Int)):Nat:=sumN p.length fun x=>ngN (gr p x)
structure PS (f:aF) (p:List (List Int)):Prop where
 len:p.length=f.aM.length
 row:∀ x:Int,0≤x→x < f.aA.aH→((gr p x).length:Int)=gi f.aM x
theorem PS.set {f:aF} (F:Sh f) {p:List (List Int)} (P:PS f p) {y d v:Int} (y0:0≤y) (y1:y < f.aA.aH) (d0:0≤d) (d1:d < gi f.aM y) (hv:0≤v) :
  PS f (p.set y.toNat ((gr p y).set d.toNat v))∧opN (p.set y.toNat ((gr p y).set d.toNat v))≤opN p∧(gi (gr p y) d < 0→opN (p.set y.toNat ((gr p y).set d.toNat v)) < opN p):=by
 have hl:=P.len
 have hsl:=F.sl
 have hrow:=P.row y y0 y1
 have key:∀ x:Nat,gr (p.set y.toNat ((gr p y).set d.toNat v)) (x:Int)=if (x:Int)=y then (gr p y).set d.toNat v else gr p x:=by
  intro x
  rw [gr_set]
  by_cases e:(x:Int)=y
  ·rw [if_pos (by omega),if_pos e]
  ·rw [if_neg (by omega),if_neg e]
 have hn:=ngN_set (r:=gr p y) (d:=d.toNat) hv
 refine ⟨⟨by rw [List.length_set]; exact hl,fun x x0 x1=>?_⟩,?_,fun hneg=>?_⟩
 ·obtain ⟨n,rfl⟩ : ∃ n:Nat,x=n:=⟨x.toNat,by omega⟩
  rw [key n]
  split
  ·rename_i e; rw [List.length_set,e]; exact hrow
  ·exact P.row n x0 x1
 ·unfold opN
  rw [List.length_set]
  refine sumN_le fun i _=>?_
  rw [key i]
  split
  ·rename_i e; rw [e]; exact hn.1
  ·exact Nat.le_refl _
 ·unfold opN
  rw [List.length_set]
  refine sumN_lt (k:=y.toNat) (fun i _=>?_) (by omega) ?_
  ·rw [key i]
   split
   ·rename_i e; rw [e]; exact hn.1
   ·exact Nat.le_refl _
  ·rw [key,if_pos (by omega),show ((y.toNat:Nat):Int)=y by omega]
   exact hn.2 (by omega) (by rw [show ((d.toNat:Nat):Int)=d by omega]; exact hneg)
structure SrG (s:cH):Prop where
 f:Sh s.F
 g:Sh s.G
 same:s.G.aA=s.F.aA
 one:∀ x e:Int,0≤x→x < s.F.aA.aH→0≤e→e < gi s.F.aM x→gi (gr s.F.aN (gi s.F.aA.aO x)) e=e
theorem hasOk (l:List Int) (n:Int) (hl:l.length≤1048576000):Ok (lP l n) fun _=>True:=⟨_,specHas l n hl,trivial⟩
theorem PS.small {f:aF} (F:Sh f) {p:List (List Int)} (P:PS f p):p.length≤1048576∧∀ y∈p,y.length≤1048576:=by
 have h1:=F.sm.s
 have hl:=P.len
 have hsl:=F.sl
 refine ⟨by omega,fun y hy=>?_⟩
 obtain ⟨i,i0,i1,rfl⟩:=mem_gr hy
 have:=P.row i i0 (by omega)
 have:=(F.s i i0 (by omega)).2
 omega
theorem setOk {s:cH} (G:SrG s) {p:List (List Int)} (P:PS s.F p) {x e u:Int} (x0:0≤x) (x1:x < s.F.aA.aH) (e0:0≤e) (e1:e < gi s.F.aM x) (u0:0≤u) (u1:u < gi s.G.aM x) :
  Ok (fN s p x e u) fun y=>y.2=true→PS s.F y.1∧(gi (gr p x) e < 0→opN y.1 < opN p):=by
 have C:=G.f.cat
 have m:=C.m
 have o8:=C.o8
 have hal:=G.f.al
 have hgal:=G.g.al
 have hsm:=PS.small G.f P
 have hid:=C.id x0 x1
 rw [G.same] at hgal
 unfold fN
 refine orr (oe (specOwn2 p hsm.1 hsm.2) ?_)
 refine ol (fun z:Int×List (List Int)=>(0≤z.1∧z.1≤s.F.aN.length)∧PS s.F z.2∧opN z.2≤opN p∧(gi (gr p x) e < 0→(gi (gr z.2 x) e < 0∧z.1≤gi s.F.aA.aO x)∨opN z.2 < opN p)) (fun z=>(s.F.aN.length - z.1).toNat) ⟨⟨by show (0:Int)≤0; omega,by show (0:Int)≤_; omega⟩,P,Nat.le_refl _,fun h=>.inl ⟨h,hid.1⟩⟩ ?_
 rintro ⟨a,o⟩ ⟨⟨a0,a1⟩,Po,ho,hn⟩
 dsimp only at a0 a1 Po ho hn
 show Ok (pA s x e u a o) _
 unfold pA
 have hol:=Po.len
 have hsl:=G.f.sl
 refine od (fun ha=>?_) fun ha=>os ⟨rfl,os fun _=>⟨Po,fun h=>?_⟩⟩
 ·have hw:=w1 a0 ha (by omega)
  have ha':a < s.F.aA.aG.length:=by omega
  refine oe (C.idxF a0 ha') (oc (fun ne=>os ⟨⟨⟨?_,?_⟩,Po,ho,fun h=>?_⟩,?_⟩) fun eq=>?_)
  ·dsimp only; rw [hw]; omega
  ·dsimp only; rw [hw]; omega
  ·dsimp only
   rw [hw]
   rcases hn h with h1 | h1
   ·refine .inl ⟨h1.1,?_⟩
    have:a≠gi s.F.aA.aO x:=fun ea=>by
     rw [ea,C.idf x x0 x1] at ne
     simp at ne
    omega
   ·exact .inr h1
  ·dsimp only; rw [hw]; omega
  have ex:gi s.F.aA.aG a=x:=by simpa using eq
  have ht:=C.to a0 ha'
  have hA:=G.f.act a a0 ha'
  have hB:=G.g.act a a0 (by rw [G.same]; exact ha')
  rw [ex] at hA
  rw [G.same,ex] at hB
  have hd:=hA.2 _ (gi_mem (l:=gr s.F.aN a) (j:=e) e0 (by omega))
  have hv:=hB.2 _ (gi_mem (l:=gr s.G.aN a) (j:=u) u0 (by omega))
  have hrow:=Po.row _ ht.1 ht.2
  have hS:=G.f.s _ ht.1 ht.2
  refine oe (C.idxT a0 ha') (oe (idx_gr a0 (by omega)) (oe (bS e0 (by omega)) (oe (idx_gr a0 (by omega)) (oe (bS u0 (by omega)) ?_))))
  refine ob (P:=fun _=>True) (oe (idx_gr ht.1 (by omega)) (oe (bS hd.1 (by omega)) (oc (fun _=>oe (idx_gr ht.1 (by omega)) (oe (bS hd.1 (by omega)) (os trivial))) fun _=>os trivial))) fun _ _=>oc (fun _=>os (show _→_ by intro h; cases h)) fun _=>?_
  refine ob (P:=fun _=>True) (oc (fun _=>oe (idx_gr ht.1 (by omega)) (oe (bS hd.1 (by omega)) (oc (fun _=>oe (idx_gr ht.1 (by omega)) (ob (hasOk _ _ (by omega)) fun _ _=>os trivial)) fun _=>os trivial))) fun _=>os trivial) fun _ _=>oc (fun _=>os (show _→_ by intro h; cases h)) fun _=>?_
  have hset:=PS.set G.f Po ht.1 ht.2 hd.1 hd.2 hv.1
  refine oe (idx_gr ht.1 (by omega)) (oe (bS hd.1 (by omega)) (os ⟨⟨⟨?_,?_⟩,hset.1,Nat.le_trans hset.2.1 ho,fun h=>?_⟩,?_⟩))
  ·dsimp only; rw [hw]; omega
  ·dsimp only; rw [hw]; omega
  ·dsimp only
   rw [hw]
   rcases hn h with h1 | h1
   ·by_cases ea:a=gi s.F.aA.aO x
    ·refine .inr (Nat.lt_of_lt_of_le (hset.2.2 ?_) ho)
     rw [ea,C.idt x x0 x1,G.one x e x0 x1 e0 e1]
     exact h1.1
    ·by_cases hc:gi s.F.aA.To a=x∧gi (gr s.F.aN a) e=e
     ·refine .inr (Nat.lt_of_lt_of_le (hset.2.2 ?_) ho)
      rw [hc.1,hc.2]; exact h1.1
     ·refine .inl ⟨?_,by omega⟩
      have key:=gr_set (cl:=o) (y:=(gi s.F.aA.To a).toNat) (q:=(gr o (gi s.F.aA.To a)).set (gi (gr s.F.aN a) e).toNat (gi (gr s.G.aN a) u)) x.toNat
      rw [show ((x.toNat:Nat):Int)=x by omega] at key
      rw [key]
      split
      ·rename_i h2
       have et:gi s.F.aA.To a=x:=by omega
       rw [et]
       have hne:gi (gr s.F.aN a) e≠e:=fun h=>hc ⟨et,h⟩
       rw [gi_setI hd.1 (by rw [et] at hd; have:=Po.row x x0 x1; omega) e0,if_neg (Ne.symm hne)]
       exact h1.1
      ·exact h1.1
   ·exact .inr (Nat.lt_of_le_of_lt hset.2.1 h1)
  ·dsimp only; rw [hw]; omega
 ·rcases hn h with h1 | h1
  ·have:=hid.2; omega
  ·exact h1
theorem set_cong {s t:cH} (hf:t.F=s.F) (hg:t.G=s.G) (ho:t.Onto=s.Onto) (p:List (List Int)) (x e u:Int):fN t p x e u=fN s p x e u:=by
 obtain ⟨a,b,c,d,k⟩:=s
 obtain ⟨a',b',c',d',k'⟩:=t
 dsimp only at hf hg ho
 subst hf
 subst hg
 subst ho
 rfl
theorem choicesOk {s:cH} (G:SrG s) {p:List (List Int)} (P:PS s.F p) {x e:Int} (x0:0≤x) (x1:x < s.F.aA.aH) (e0:0≤e) (e1:e < gi s.F.aM x) :
  Ok (iB s p x e) fun l=>l.length≤200∧∀ u∈l,∃ q,fN s p x e u=some (q,true)∧PS s.F q∧(gi (gr p x) e < 0→opN q < opN p):=by
 have hgs:=G.g.sl
 rw [G.same] at hgs
 have hs:=G.g.s x x0 (by rw [G.same]; exact x1)
 unfold iB
 refine orr (ol (fun z:List Int×Int=>(0≤z.2∧z.2≤gi s.G.aM x)∧(z.1.length:Int)≤z.2∧∀ u∈z.1,∃ q,fN s p x e u=some (q,true)∧PS s.F q∧(gi (gr p x) e < 0→opN q < opN p)) (fun z=>(gi s.G.aM x - z.2).toNat) ⟨⟨by show (0:Int)≤0; omega,hs.1⟩,by show ((0:Nat):Int)≤0; omega,nil_all⟩ ?_)
 rintro ⟨l,u⟩ ⟨⟨u0,u1⟩,hl,hall⟩
 dsimp only at u0 u1 hl hall
 show Ok (kW s p x e l u) _
 unfold kW
 refine oe (bS x0 (by omega)) (od (fun hu=>?_) fun hu=>os ⟨rfl,os ⟨by omega,hall⟩⟩)
 have hw:=w1 u0 hu (by omega)
 obtain ⟨⟨q,b⟩,eq,hq⟩:=setOk G P x0 x1 e0 e1 u0 hu
 refine oe eq (oc (fun hb=>oft (by omega) (by omega) (os ⟨⟨⟨?_,?_⟩,?_,app_all hall ⟨q,?_,hq hb⟩⟩,?_⟩)) fun _=>os ⟨⟨⟨?_,?_⟩,?_,hall⟩,?_⟩)
 all_goals first | (dsimp only at hb; subst hb; exact eq) | skip
 all_goals dsimp only
 all_goals rw [hw]
 all_goals (try simp only [List.length_append,List.length_singleton])
 all_goals omega
structure SrE (s t:cH):Prop where
 f:t.F=s.F
 g:t.G=s.G
 o:t.Onto=s.Onto
 m:t.Most=s.Most
theorem SrG.of {s t:cH} (G:SrG s) (E:SrE s t):SrG t:=by
 obtain ⟨h1,h2,h3,h4⟩:=G
 exact ⟨E.f ▸ h1,E.g ▸ h2,by rw [E.f,E.g]; exact h3,by rw [E.f]; exact h4⟩
theorem goOk (n:Nat):∀ {s:cH} (_:SrG s) {p:List (List Int)} (_:PS s.F p) (_:opN p < n) (_:(s.Found.length:Int) < s.Most) (_:s.Most≤1000) (_:∀ q∈s.Found,PS s.F q),
  Ok (jJ n s p) fun t=>SrE s t∧(t.Found.length:Int)≤t.Most∧∀ q∈t.Found,PS s.F q:=by
 induction n with
 | zero=>intro s _ p _ h; omega
 | succ n ih=>
  intro s G p P hp hf hm hall
  have C:=G.f.cat
  have o8:=C.o8
  have hl:=P.len
  have hsl:=G.f.sl
  show Ok (oB (jJ n) s p) _
  unfold oB
  refine off (ol (fun z:Int×Int×Int=>(-1≤z.2.2∧z.2.2 < p.length)∧(z.1 = -1∨(0≤z.1∧z.1 < s.F.aA.aH)∧(0≤z.2.1∧z.2.1 < gi s.F.aM z.1)∧gi (gr p z.1) z.2.1 < 0)) (fun z=>(z.2.2+1).toNat) ?_ ?_)
  ·have:w64 ((p.length:Int) - 1)=(p.length:Int) - 1:=dJ (by omega) (by omega)
   rw [this]
   exact ⟨⟨by dsimp only; omega,by dsimp only; omega⟩,.inl rfl⟩
  rintro ⟨x,e,y⟩ ⟨⟨y0,y1⟩,hx⟩
  dsimp only at y0 y1 hx
  show Ok (pJ s p x e y) _
  unfold pJ
  refine od (fun hy=>?_) fun hy=>os ⟨rfl,?_⟩
  ·have hrow:=P.row y hy (by omega)
   have hS:=G.f.s y hy (by omega)
   refine oe (idx_gr hy (by omega)) ?_
   refine ol (fun z:Int×Int×Int=>(-1≤z.2.2∧z.2.2 < (gr p y).length)∧(z.1 = -1∨(0≤z.1∧z.1 < s.F.aA.aH)∧(0≤z.2.1∧z.2.1 < gi s.F.aM z.1)∧gi (gr p z.1) z.2.1 < 0)) (fun z=>(z.2.2+1).toNat) ?_ ?_
   ·have:w64 (((gr p y).length:Int) - 1)=((gr p y).length:Int) - 1:=dJ (by omega) (by omega)
    rw [this]
    exact ⟨⟨by dsimp only; omega,by dsimp only; omega⟩,hx⟩
   rintro ⟨x,e,d⟩ ⟨⟨d0,d1⟩,hx⟩
   dsimp only at d0 d1 hx
   show Ok (pI s p y x e d) _
   unfold pI
   refine od (fun hd=>?_) fun hd=>os ⟨rfl,os ⟨⟨⟨?_,?_⟩,hx⟩,?_⟩⟩
   ·have hw:w64 (d - 1)=d - 1:=dJ (by omega) (by omega)
    refine oe (idx_gr hy (by omega)) (oe (bS hd (by omega)) (od (fun hneg=>?_) fun _=>os ⟨⟨⟨?_,?_⟩,hx⟩,?_⟩))
    ·refine ob (choicesOk G P hy (by omega) hd (by omega)) fun l hl=>oc (fun _=>os ⟨⟨rfl,rfl,rfl,rfl⟩,by omega,hall⟩) fun _=>os ⟨⟨⟨?_,?_⟩,.inr ⟨⟨hy,by omega⟩,⟨hd,by dsimp only; omega⟩,hneg⟩⟩,?_⟩
     all_goals dsimp only
     all_goals rw [hw]
     all_goals omega
    all_goals dsimp only
    all_goals rw [hw]
    all_goals omega
   all_goals have hw:w64 (y - 1)=y - 1:=dJ (by omega) (by omega)
   all_goals dsimp only
   all_goals rw [hw]
   all_goals omega
  ·dsimp only
   refine od (fun hx0=>oft (by omega) (by omega) (os ⟨⟨rfl,rfl,rfl,rfl⟩,?_,app_all hall P⟩)) fun hx0=>?_
   ·dsimp only; rw [List.length_append,List.length_singleton]; omega
   obtain ⟨⟨x0,x1⟩,⟨e0,e1⟩,hneg⟩:=hx.resolve_left (by omega)
   refine ob (choicesOk G P x0 x1 e0 e1) fun l hl=>?_
   refine ol (fun z:Int×Int×Int×Bool×Int×List (List (List Int))=>(0≤z.1∧z.1≤l.length)∧z.2.1=s.F.aA.aH∧z.2.2.1=s.G.aA.aH∧z.2.2.2.1=s.Onto∧z.2.2.2.2.1=s.Most∧(z.2.2.2.2.2.length:Int)≤s.Most∧∀ q∈z.2.2.2.2.2,PS s.F q) (fun z=>(l.length - z.1).toNat) ⟨⟨by show (0:Int)≤0; omega,by show (0:Int)≤_; omega⟩,rfl,rfl,rfl,rfl,by dsimp only; omega,hall⟩ ?_
   rintro ⟨k,z1,z2,z3,z4,fd⟩ ⟨⟨k0,k1⟩,h1,h2,h3,h4,h5,h6⟩
   dsimp only at k0 k1 h1 h2 h3 h4 h5 h6
   subst h1
   subst h2
   subst h3
   subst h4
   show Ok (pK (jJ n) s p x e l k s.F.aA.aH s.G.aA.aH s.Onto s.Most fd) _
   unfold pK
   refine ob (P:=fun g=>g=true→k < l.length∧(fd.length:Int) < s.Most) (od (fun h1=>os fun h2=>⟨h1,of_decide_eq_true h2⟩) fun _=>os fun h=>by cases h) fun g hg=>oc (fun eg=>?_) fun _=>os ⟨rfl,os ⟨⟨rfl,rfl,rfl,rfl⟩,h5,h6⟩⟩
   obtain ⟨hk,hfd⟩:=hg eg
   have hw:=w1 k0 hk (by omega)
   obtain ⟨q,eq,hq,hop⟩:=hl.2 _ (gi_mem k0 hk)
   have E:SrE s (cH.mk s.F s.G s.Onto s.Most fd):=⟨rfl,rfl,rfl,rfl⟩
   refine oe (bS k0 hk) (oe (x:=(q,true)) ((set_cong (t:=cH.mk s.F s.G s.Onto s.Most fd) rfl rfl rfl p x e _).trans eq) ?_)
   have:=hop hneg
   refine ob (ih (s:=cH.mk s.F s.G s.Onto s.Most fd) (G.of E) (p:=q) hq (by omega) hfd hm h6) fun t ht=>?_
   obtain ⟨⟨t1,t2,t3,t4⟩,t5,t6⟩:=ht
   dsimp only at t1 t2 t3 t4 t6
   refine os ⟨⟨⟨?_,?_⟩,by dsimp only; rw [t1],by dsimp only; rw [t2],t3,t4,by dsimp only; omega,t6⟩,?_⟩
   all_goals dsimp only
   all_goals rw [hw]
   all_goals omega
theorem openOk {f:aF} (F:Sh f):Ok (oA f) (PS f):=by
 have o8:=F.cat.o8
 have sl:=F.sl
 unfold oA
 refine orr (ol (fun z:List (List Int)×Int=>(0≤z.2∧z.2≤f.aM.length)∧(z.1.length:Int)=z.2∧∀ x:Int,0≤x→x < z.2→((gr z.1 x).length:Int)=gi f.aM x) (fun z=>(f.aM.length - z.2).toNat) ⟨⟨by show (0:Int)≤0; omega,by show (0:Int)≤_; omega⟩,rfl,fun x a b=>by dsimp only at b; omega⟩ ?_)
 rintro ⟨p,x⟩ ⟨⟨x0,x1⟩,hp,hr⟩
 dsimp only at x0 x1 hp hr
 show Ok (nZ f p x) _
 unfold nZ
 refine od (fun hx=>?_) fun hx=>os ⟨rfl,os ⟨by omega,fun y y0 y1=>hr y y0 (by omega)⟩⟩
 have hs:=F.s x x0 (by omega)
 refine ol (fun z:List Int×Int=>(0≤z.2∧z.2≤gi f.aM x)∧(z.1.length:Int)=z.2) (fun z=>(gi f.aM x - z.2).toNat) ⟨⟨by show (0:Int)≤0; omega,hs.1⟩,rfl⟩ ?_
 rintro ⟨r,e⟩ ⟨⟨e0,e1⟩,hrl⟩
 dsimp only at e0 e1 hrl
 show Ok (nY f x r e) _
 unfold nY
 refine oe (bS x0 hx) (od (fun he=>?_) fun he=>os ⟨rfl,?_⟩)
 ·have hw:=w1 e0 he (by omega)
  refine oft (by omega) (by omega) (os ⟨⟨⟨?_,?_⟩,?_⟩,?_⟩)
  all_goals dsimp only
  all_goals rw [hw]
  all_goals (try simp only [List.length_append,List.length_singleton])
  all_goals omega
 ·dsimp only
  have hw:=w1 x0 hx (by omega)
  refine oft (by omega) (by omega) (os ⟨⟨⟨?_,?_⟩,?_,fun z z0 z1=>?_⟩,?_⟩)
  all_goals first | (dsimp only at z1; rw [hw] at z1) | skip
  all_goals dsimp only
  all_goals first | (rw [hw]; simp only [List.length_append,List.length_singleton]; omega) | (rw [hw]; omega) | skip
  rw [gr_app z0]
  by_cases e:z < x
  ·rw [if_pos (by omega)]; exact hr z z0 e
  ·rw [if_neg (by omega),if_pos (by omega),show z=x by omega]; omega
def cntF (f:aF):Nat:=sumN f.aM.length fun x=>(gi f.aM x).toNat
theorem countOk {f:aF} (F:Sh f):gX f=some (cntF f:Int):=by
 have o8:=F.cat.o8
 have sl:=F.sl
 have bnd:∀ n:Nat,n≤f.aM.length→sumN n (fun x=>(gi f.aM x).toNat)≤200 * n:=by
  intro n
  induction n with
  | zero=>intro _; exact Nat.le_refl _
  | succ n ih=>
   intro h
   rw [sumN_succ]
   have:=ih (by omega)
   have:=(F.s n (by omega) (by omega)).2
   omega
 obtain ⟨y,e,hy⟩ : Ok (gX f) fun y=>y=(cntF f:Int):=by
  unfold gX
  refine orr (ol (fun z:Int×Int=>(0≤z.2∧z.2≤f.aM.length)∧z.1=(sumN z.2.toNat fun x=>(gi f.aM x).toNat:Nat)) (fun z=>(f.aM.length - z.2).toNat) ⟨⟨by show (0:Int)≤0; omega,by show (0:Int)≤_; omega⟩,rfl⟩ ?_)
  rintro ⟨n,x⟩ ⟨⟨x0,x1⟩,hn⟩
  dsimp only at x0 x1 hn
  show Ok (mL f n x) _
  unfold mL
  refine od (fun hx=>?_) fun hx=>os ⟨rfl,os ?_⟩
  ·have hs:=F.s x x0 (by omega)
   have hw:=w1 x0 hx (by omega)
   have hb:=bnd x.toNat (by omega)
   have h2:w64 (n+gi f.aM x)=n+gi f.aM x:=dJ (by omega) (by omega)
   refine oe (bS x0 hx) (os ⟨⟨⟨?_,?_⟩,?_⟩,?_⟩)
   all_goals dsimp only
   all_goals rw [hw]
   ·omega
   ·omega
   ·rw [h2,hn,show (x+1).toNat=x.toNat+1 by omega,sumN_succ,show ((x.toNat:Nat):Int)=x by omega]
    omega
   ·omega
  ·rw [hn]
   unfold cntF
   rw [show x.toNat=f.aM.length by omega]
   exact rfl
 rw [e,hy]
theorem mapsOk {f g:aF} {b:Bool} {m:Int} (G:SrG (cH.mk f g b m [])) (m0:0 < m) (m1:m≤1000) (hc:cntF f≤12):Ok (kX f g b m) fun l=>(l.length:Int)≤m∧∀ q∈l,PS f q:=by
 have F:Sh f:=G.f
 have hsl:=F.sl
 unfold kX
 refine orr (ob (openOk F) fun p hp=>?_)
 have hop:opN p≤cntF f:=by
  unfold opN cntF
  rw [hp.len]
  refine sumN_le fun i hi=>?_
  have:=hp.row i (by omega) (by omega)
  have:=ngN_le (gr p i)
  omega
 refine ob (goOk 64 G (p:=p) hp (by omega) (by show ((0:Nat):Int) < m; omega) m1 nil_all) fun t ht=>?_
 obtain ⟨⟨t1,t2,t3,t4⟩,t5,t6⟩:=ht
 exact os ⟨by rw [t4] at t5; exact t5,t6⟩
end Go.Proofs.YtacpfhajafmigaaGreat
