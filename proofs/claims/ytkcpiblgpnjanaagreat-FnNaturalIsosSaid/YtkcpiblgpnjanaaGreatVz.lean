/- Natural isomorphisms: the first one of the enumeration is what program and reference find; its inverse; the law, on plain data. No condition beside those that each theorem names. -/
import Derived.Test.YtkcpiblgpnjanaaGreatVw
import Derived.Test.YtkcpiblgpnjanaaGreatVy
namespace Go.Proofs.YtkcpiblgpnjanaaGreat
open Go Go.Li
set_option linter.unusedVariables false
set_option linter.unusedSectionVars false
set_option linter.unusedSimpArgs false
theorem Ia {l m:List Int} {e:Int} (h0:0≤e) (h1:e < l.length):gi (l++m) e=gi l e:=by
 unfold gi; rw [List.getD_eq_getElem?_getD,List.getD_eq_getElem?_getD,List.getElem?_append_left (by omega)]
theorem NR {p:List Int} {k:Nat} {i:Int} (h0:(p.length:Int)≤i) (h1:i < ((p.length+k:Nat):Int)):gi (p++List.replicate k (-1)) i = -1:=by
 unfold gi
 rw [List.getD_eq_getElem?_getD,List.getElem?_append_right (by omega),List.getElem?_replicate,if_pos (by omega)]; rfl
theorem yh {f g:aL} {rZ:Int→Bool}:∀ (k:Nat) (p c:List Int),c∈ef rZ f g k p→c.length=p.length+k∧(∀ i:Int,0≤i→i < p.length→gi c i=gi p i)∧∀ i:Int,(p.length:Int)≤i→i < c.length→rZ (gi c i)=true:=by
 intro k
 induction k with
 | zero=>
  intro p c hc
  obtain rfl:c=p:=by simpa [ef] using hc
  exact ⟨rfl,fun _ _ _=>rfl,fun i h1 h2=>by omega⟩
 | succ k ih=>
  intro p c hc
  unfold ef at hc
  obtain ⟨b,hb,hc⟩:=List.mem_flatMap.1 hc
  have uC:=(List.mem_filter.1 hb).2
  unfold wA at uC
  rw [Bool.and_eq_true] at uC
  obtain ⟨h1,h2,h3⟩:=ih (p++[b]) c hc
  rw [List.length_append,List.length_singleton] at h1 h2 h3
  refine ⟨by omega,fun i i0 i1=>?_,fun i i0 i1=>?_⟩
  ·rw [h2 i i0 (by omega),Ia i0 i1]
  ·by_cases e:i=(p.length:Int)
   ·rw [h2 i (by omega) (by omega),jy (by omega),if_neg (by omega),if_pos e]; exact uC.1
   ·exact h3 i (by omega) i1
theorem SX {P:Int→Bool} {x:Nat} (hx:P x=true) (h:∀ y:Nat,y < x→P y=false):∀ n:Nat,x < n→(ns n).find? P=some (x:Int):=by
 intro n
 induction n with
 | zero=>intro h; omega
 | succ n ih=>
  intro hn
  rw [JK,List.find?_append]
  by_cases e:x < n
  ·rw [ih e]; rfl
  ·obtain rfl:x=n:=by omega
   have:(ns x).find? P=none:=List.find?_eq_none.2 fun y hy=>by
    have hy:=da.1 hy
    have:=h y.toNat (by omega)
    rw [show ((y.toNat:Nat):Int)=y by omega] at this
    rw [this]; decide
   rw [this]
   simp [hx]
theorem NS {h:Int→List (List Int)}:∀ l:List Int,(l.flatMap h).head? = l.findSome? fun b=>(h b).head?:=by
 intro l
 induction l with
 | nil=>rfl
 | cons b l ih=>
  rw [List.flatMap_cons,List.head?_append,List.findSome?_cons,ih]
  cases (h b).head? <;> rfl
theorem Lj {l:List Int} {u v:Int→Option (List Int)} (h:∀ b∈l,u b=v b):l.findSome? u=l.findSome? v:=by
 induction l with
 | nil=>rfl
 | cons b l ih=>rw [List.findSome?_cons,List.findSome?_cons,h b (by simp),ih fun b hb=>h b (by simp [hb])]
section
variable {f g:aL} {c:List Int} (hc:kn ⟨f,g,c⟩ = true)
include hc
theorem EG {xs:List Int} (hl:xs.length=c.length) (hx:∀ i:Int,0≤i→i < c.length→gi xs i < 0∨gi xs i=gi c i) {y:Int} (y0:0≤y) (y1:y < c.length) (hi:ik f.aE (gi c y)=true):gi c y∈lu f g xs y:=by
 have N:=sZ hc
 have pl:(c.length:Int)=f.aB.aC:=N.pl
 have cp:0≤gi c y∧gi c y < f.aE.aG.length:=N.cp (x:=y) y0 (show y < f.aB.aC by omega)
 have pf:gi f.aE.aG (gi c y)=gi f.aC y:=N.pf y y0 (show y < f.aB.aC by omega)
 have pt:gi f.aE.To (gi c y)=gi g.aC y:=N.pt y y0 (show y < f.aB.aC by omega)
 have r3:∀ q:Int,0≤q→gi (xs.set y.toNat (gi c y)) q=if q=y then gi c y else gi xs q:=fun q q0=>by
  have:=pw (l:=xs) (q:=gi c y) (i:=y) (j:=q) y0 (by omega) q0
  exact this
 have hp:∀ i:Int,0≤i→i < c.length→gi (xs.set y.toNat (gi c y)) i < 0∨gi (xs.set y.toNat (gi c y)) i=gi c i:=fun i i0 i1=>by
  rw [r3 i i0]
  by_cases e:i=y
  ·rw [if_pos e,e]; exact .inr rfl
  ·rw [if_neg e]; exact hx i i0 i1
 unfold lu
 refine List.mem_filter.2 ⟨List.mem_filter.2 ⟨da.2 cp,?_⟩,?_⟩
 ·unfold qy; rw [pf,pt]; simp
 ·rw [hi,Bool.true_and]
  unfold EE
  refine List.all_eq_true.2 fun a ha=>?_
  obtain ⟨a0,a1⟩:=da.1 ha
  have kf:=N.f.c.fr a0 a1
  have kt:=N.f.c.to a0 a1
  dsimp only at kf kt
  have WG:sF f g c a=true:=by
   have h:=N.sq a a0 a1
   dsimp only at h
   unfold sF
   rw [h]; simp
  unfold H9
  rcases hp (gi f.aB.aG a) kf.1 (by omega) with h1 | h1
  ·rw [aX h1]; simp
  ·rcases hp (gi f.aB.To a) kt.1 (by omega) with h2 | h2
   ·rw [aX h2]; simp
   ·have:sF f g (xs.set y.toNat (gi c y)) a=sF f g c a:=by unfold sF; rw [h1,h2]
    rw [this,WG]; simp
theorem Qk (BP:∀ y:Int,0≤y→y < c.length→ik f.aE (gi c y)=true):∀ (n:Nat) (xs:List Int),FI xs < n→xs.length=c.length→(∀ i:Int,0≤i→i < c.length→gi xs i < 0∨gi xs i=gi c i)→zh f g n xs≠none:=by
 have N:=sZ hc
 have pl:(c.length:Int)=f.aB.aC:=N.pl
 intro n
 induction n with
 | zero=>intro xs h; omega
 | succ n ih=>
  intro xs hn hl hx
  unfold zh
  have wh:(ns xs.length).any (fun y=>gi xs y == -1 && (lu f g xs y).isEmpty)=false:=by
   rw [ie]
   intro y y0 y1
   have hm:=EG hc hl hx y0 (by omega) (BP y y0 (by omega))
   have:(lu f g xs y).isEmpty=false:=by
    cases JM:lu f g xs y with
    | nil=>rw [JM] at hm; cases hm
    | cons=>rfl
   rw [this,Bool.and_false]
  rw [wh,cond_false]
  cases NQ:(ns xs.length).find? (fun y=>gi xs y == -1) with
  | none=>intro h; cases h
  | some x=>
   have Ay:=da.1 (List.mem_of_find?_eq_some NQ)
   have WI:gi xs x = -1:=by have:=List.find?_some NQ; simpa using this
   have hm:=EG hc hl hx Ay.1 (by omega) (BP x Ay.1 (by omega))
   have cp:0≤gi c x∧gi c x < f.aE.aG.length:=N.cp (x:=x) Ay.1 (show x < f.aB.aC by omega)
   have um:FI (xs.set x.toNat (gi c x)) < n:=by
    have:=JL (r:=xs) (d:=x.toNat) cp.1 (by omega) (by rw [show ((x.toNat:Nat):Int)=x by omega]; exact WI)
    omega
   intro h
   refine ih (xs.set x.toNat (gi c x)) um (by rw [List.length_set]; exact hl) (fun i i0 i1=>?_) (List.findSome?_eq_none_iff.1 h _ hm)
   have e:=pw (l:=xs) (q:=gi c x) (i:=x) (j:=i) Ay.1 (by omega) i0
   rw [e]
   by_cases e2:i=x
   ·rw [if_pos e2,e2]; exact .inr rfl
   ·rw [if_neg e2]; exact hx i i0 i1
end
section
variable {f g:aL} (T:C5 f g)
include T
theorem Lk {rZ:Int→Bool} {p:List Int} {b:Int} (hp:yj f g p) (Bo:b∈(ns f.aE.aG.length).filter (qy f.aE (gi f.aC p.length) (gi g.aC p.length))) (uC:wA rZ f g p b=true):yj f g (p++[b]):=by
 have:p++[b]∈ef rZ f g 1 p:=by
  unfold ef
  exact List.mem_flatMap.2 ⟨b,List.mem_filter.2 ⟨Bo,uC⟩,by simp [ef]⟩
 exact (Aj T _ _ _ hp this).1
theorem Ql:∀ (k n:Nat) (p:List Int),yj f g p→((p.length+k:Nat):Int)=f.aB.aC→k < n→zh f g n (p++List.replicate k (-1))=(ef (ik f.aE) f g k p).head?:=by
 intro k
 induction k with
 | zero=>
  intro n p hp hk hn
  obtain ⟨n,rfl⟩ : ∃ i,n=i+1:=⟨n - 1,by omega⟩
  have hv:∀ y∈ns p.length,(gi p y == -1)=false:=fun y hy=>by
   have hy:=da.1 hy
   have:=(hp.v y hy.1 hy.2).1
   exact sT (by omega)
  rw [show p++List.replicate 0 (-1)=p by simp]
  unfold zh ef
  have h1:(ns p.length).any (fun y=>gi p y == -1 && (lu f g p y).isEmpty)=false:=by
   rw [ie]
   intro y y0 y1
   rw [hv y (da.2 ⟨y0,y1⟩)]; rfl
  have h2:(ns p.length).find? (fun y=>gi p y == -1)=none:=List.find?_eq_none.2 fun y hy=>by rw [hv y hy]; decide
  rw [h1,h2]; rfl
 | succ k ih=>
  intro n p hp hk hn
  obtain ⟨n,rfl⟩ : ∃ i,n=i+1:=⟨n - 1,by omega⟩
  have tX:(p++List.replicate (k+1) (-1)).length=p.length+(k+1):=by simp
  have Ja:∀ y:Int,0≤y→y < p.length→gi (p++List.replicate (k+1) (-1)) y=gi p y:=fun y y0 y1=>Ia y0 y1
  have L9:∀ y:Int,(p.length:Int)≤y→y < ((p.length+(k+1):Nat):Int)→gi (p++List.replicate (k+1) (-1)) y = -1:=fun y y0 y1=>NR y0 y1
  show (bif (ns (p++List.replicate (k+1) (-1)).length).any (fun y=>gi (p++List.replicate (k+1) (-1)) y == -1 && (lu f g (p++List.replicate (k+1) (-1)) y).isEmpty) then none else
   match (ns (p++List.replicate (k+1) (-1)).length).find? (fun y=>gi (p++List.replicate (k+1) (-1)) y == -1) with
   | none=>some (p++List.replicate (k+1) (-1))
   | some x=>(lu f g (p++List.replicate (k+1) (-1)) x).findSome? fun b=>zh f g n ((p++List.replicate (k+1) (-1)).set x.toNat b))=_
  rw [tX]
  cases wh:(ns (p.length+(k+1))).any (fun y=>gi (p++List.replicate (k+1) (-1)) y == -1 && (lu f g (p++List.replicate (k+1) (-1)) y).isEmpty) with
  | true=>
   rw [cond_true]
   cases hE:ef (ik f.aE) f g (k+1) p with
   | nil=>rfl
   | cons c l=>
    exfalso
    have um:c∈ef (ik f.aE) f g (k+1) p:=by rw [hE]; simp
    obtain ⟨hG,hL⟩:=Aj T _ _ _ hp um
    obtain ⟨_,x2,x3⟩:=yh _ _ _ um
    have acG:=FH T hG (by omega)
    obtain ⟨y,hy,hu⟩:=List.any_eq_true.1 wh
    have hy:=da.1 hy
    rw [Bool.and_eq_true,beq_iff_eq] at hu
    have hyp:(p.length:Int)≤y:=by
     rcases Int.lt_or_le y p.length with h | h
     ·have:=(hp.v y hy.1 h).1
      rw [Ja y hy.1 h] at hu
      omega
     ·exact h
    have:=EG acG (xs:=p++List.replicate (k+1) (-1)) (by omega) (fun i i0 i1=>by
     rcases Int.lt_or_le i p.length with h | h
     ·exact .inr (by rw [Ja i i0 h,x2 i i0 h])
     ·exact .inl (by rw [L9 i h (by omega)]; omega)) hy.1 (by omega) (x3 y hyp (by omega))
    cases JM:lu f g (p++List.replicate (k+1) (-1)) y with
    | nil=>rw [JM] at this; cases this
    | cons=>rw [JM] at hu; cases hu.2
  | false=>
   rw [cond_false,SX (x:=p.length) (by rw [L9 _ (by omega) (by omega)]; rfl) (fun y hy=>by
    have:=(hp.v (y:Int) (by omega) (by omega)).1
    rw [Ja _ (by omega) (by omega)]
    exact sT (by omega)) _ (by omega)]
   dsimp only
   have r3:∀ b:Int,(p++List.replicate (k+1) (-1)).set (p.length:Int).toNat b=(p++[b])++List.replicate k (-1):=fun b=>by
    rw [Int.toNat_natCast,List.set_append_right _ _ (Nat.le_refl _),Nat.sub_self,List.replicate_succ,List.set_cons_zero,List.append_assoc]; rfl
   have JM:lu f g (p++List.replicate (k+1) (-1)) (p.length:Int)=((ns f.aE.aG.length).filter (qy f.aE (gi f.aC p.length) (gi g.aC p.length))).filter (wA (ik f.aE) f g p):=by
    unfold lu
    refine List.filter_congr fun b hb=>?_
    have kb:=da.1 (List.mem_filter.1 hb).1
    unfold wA
    rw [r3 b]
    congr 1
    have hv:∀ i:Int,0≤i→i < (p++[b]).length→0≤gi (p++[b]) i:=fun i i0 i1=>by
     rw [List.length_append,List.length_singleton] at i1
     rw [jy i0]
     by_cases e:i < p.length
     ·rw [if_pos e]; exact (hp.v i i0 e).1.1
     ·rw [if_neg e,if_pos (by omega)]; exact kb.1
    have hlb:(p++[b]).length=p.length+1:=by simp
    have sw:∀ i:Int,0≤i→i≤(p.length:Int)→gi ((p++[b])++List.replicate k (-1)) i=gi (p++[b]) i:=fun i i0 i1=>Ia i0 (by omega)
    have Zh:∀ i:Int,(p.length:Int) < i→i < f.aB.aC→gi ((p++[b])++List.replicate k (-1)) i = -1:=fun i i0 i1=>NR (by omega) (by omega)
    unfold EE vr
    rw [Bool.eq_iff_iff,List.all_eq_true,Bool.not_eq_true',ie]
    have Zi:∀ a:Int,0≤a→a < f.aB.aG.length→(H9 f g p.length ((p++[b])++List.replicate k (-1)) a=true↔yB f g p.length (p++[b]) a=false):=by
     intro a a0 a1
     have kf:=T.F.c.fr a0 a1
     have kt:=T.F.c.to a0 a1
     unfold H9 yB
     by_cases hF:gi f.aB.aG a≤(p.length:Int)
     ·by_cases hT:gi f.aB.To a≤(p.length:Int)
      ·rw [bn (by have:=hv _ kf.1 (by omega); rw [sw _ kf.1 hF]; omega),bn (by have:=hv _ kt.1 (by omega); rw [sw _ kt.1 hT]; omega)]
       have hs:sF f g ((p++[b])++List.replicate k (-1)) a=sF f g (p++[b]) a:=by unfold sF; rw [sw _ kf.1 hF,sw _ kt.1 hT]
       rw [hs,Bool.false_or,Bool.false_or]
       have hm:(vX f a == (p.length:Int)) = !(gi f.aB.aG a != (p.length:Int) && gi f.aB.To a != (p.length:Int)):=by
        unfold vX
        rw [Bool.eq_iff_iff]
        simp only [beq_iff_eq,Bool.not_eq_true',Bool.and_eq_false_iff,bne_eq_false_iff_eq]
        split <;> omega
       rw [hm]
       cases gi f.aB.aG a != (p.length:Int) && gi f.aB.To a != (p.length:Int) <;> cases sF f g (p++[b]) a <;> decide
      ·rw [aX (p:=gi ((p++[b])++List.replicate k (-1)) (gi f.aB.To a) < 0) (by rw [Zh _ (by omega) kt.2]; omega)]
       rw [sT (a:=vX f a) (by unfold vX; split <;> omega)]
       simp
     ·rw [aX (p:=gi ((p++[b])++List.replicate k (-1)) (gi f.aB.aG a) < 0) (by rw [Zh _ (by omega) kf.2]; omega)]
      rw [sT (a:=vX f a) (by unfold vX; split <;> omega)]
      simp
    exact ⟨fun h a a0 a1=>(Zi a a0 a1).1 (h a (da.2 ⟨a0,a1⟩)),fun h a ha=>(Zi a (da.1 ha).1 (da.1 ha).2).2 (h a (da.1 ha).1 (da.1 ha).2)⟩
   rw [JM]
   show _=((((ns f.aE.aG.length).filter (qy f.aE (gi f.aC p.length) (gi g.aC p.length))).filter (wA (ik f.aE) f g p)).flatMap fun b=>ef (ik f.aE) f g k (p++[b])).head?
   rw [NS]
   refine Lj fun b hb=>?_
   obtain ⟨Bo,uC⟩:=List.mem_filter.1 hb
   rw [r3 b]
   exact ih n (p++[b]) (Lk T hp Bo uC) (by rw [List.length_append,List.length_singleton]; omega) (by omega)
theorem XY:mN f g true 1=some (ef (ik f.aE) f g f.aB.aC.toNat []).head?.toList:=by
 have F:=T.F
 have cm:=F.c.m
 have co:=F.c.o8
 have c0:=F.c.o0
 have dm:=F.d.m
 suffices h:Ok (mN f g true 1) fun y=>y=(ef (ik f.aE) f g f.aB.aC.toNat []).head?.toList by
  obtain ⟨y,h1,h2⟩:=h
  rw [h1,h2]
 unfold mN
 refine lr (ol (fun z:List (List Int)×Int=>(0≤z.2∧z.2≤f.aB.aG.length)∧(z.1.length:Int)=z.2∧∀ r∈z.1,r.length=2∧∀ y∈r,0≤y∧y < f.aB.aC) (fun z=>(f.aB.aG.length - z.2).toNat) ⟨⟨by show (0:Int)≤0; omega,by show (0:Int)≤_; omega⟩,rfl,ke⟩ ?_)
 rintro ⟨l,i⟩ ⟨⟨i0,i1⟩,hl,hv⟩
 dsimp only at i0 i1 hl hv
 show Ok (oZ f l i) _
 unfold oZ
 refine od (fun hi=>?_) fun hi=>os ⟨rfl,?_⟩
 ·have kf:=F.c.fr i0 hi
  have kt:=F.c.to i0 hi
  refine oe (F.c.iz i0 hi) (oe (F.c.jc i0 hi) (fv (by omega) (by omega) (os ⟨⟨⟨?_,?_⟩,?_,je hv ⟨rfl,fun y hy=>?_⟩⟩,?_⟩)))
  ·dsimp only; rw [w1 i0 hi (by omega)]; omega
  ·dsimp only; rw [w1 i0 hi (by omega)]; omega
  ·dsimp only; rw [w1 i0 hi (by omega),List.length_append,List.length_singleton]; omega
  ·rcases List.mem_cons.1 hy with rfl | hy
   ·exact kf
   ·rw [List.mem_singleton.1 hy]; exact kt
  ·dsimp only; rw [w1 i0 hi (by omega)]; omega
 refine ob (X2 c0 (by omega) hv (by omega)) fun q hq=>?_
 refine ol (fun z:List Int×Int=>(0≤z.2∧z.2≤q.length)∧z.1=List.replicate z.2.toNat (-1)) (fun z=>(q.length - z.2).toNat) ⟨⟨by show (0:Int)≤0; omega,by show (0:Int)≤_; omega⟩,rfl⟩ ?_
 rintro ⟨l1,k⟩ ⟨⟨k0,k1⟩,RH⟩
 dsimp only at k0 k1 RH
 show Ok (pB f g true q l1 k) _
 unfold pB
 have amZ:l1.length=k.toNat:=by rw [RH,List.length_replicate]
 refine od (fun hk=>fv (by omega) (by omega) ?_) fun hk=>os ⟨rfl,?_⟩
 ·refine ol (fun z:List Int×Int=>(0≤z.2∧z.2≤q.length)∧(z.1.length:Int)=z.2∧∀ v∈z.1,v < 0) (fun z=>(q.length - z.2).toNat) ⟨⟨by show (0:Int)≤0; omega,by show (0:Int)≤_; omega⟩,rfl,ke⟩ ?_
  rintro ⟨l2,e⟩ ⟨⟨e0,e1⟩,py,xH⟩
  dsimp only at e0 e1 py xH
  show Ok (pA q k l2 e) _
  unfold pA
  refine od (fun he=>oe (cT e0 he) (oc (fun _=>fv (by omega) (by omega) (os ⟨⟨⟨?_,?_⟩,?_,je xH (by omega)⟩,?_⟩)) fun _=>fv (by omega) (by omega) (os ⟨⟨⟨?_,?_⟩,?_,je xH (by omega)⟩,?_⟩))) fun he=>os ⟨rfl,?_⟩
  all_goals (try dsimp only)
  all_goals (try rw [w1 e0 he (by omega)])
  all_goals (try simp only [List.length_append,List.length_singleton])
  all_goals (try omega)
  refine oe (Zf T 64 l2 (by omega) (fun y hy=>by have:=xH y hy; omega) (by have:=Ib l2; omega)) (oc (fun h=>os ?_) fun h=>os ⟨⟨⟨?_,?_⟩,?_⟩,?_⟩)
  ·show ([]:List (List Int))=_
   cases hE:ef (ik f.aE) f g f.aB.aC.toNat [] with
   | nil=>rfl
   | cons c l=>
    exfalso
    have um:c∈ef (ik f.aE) f g f.aB.aC.toNat []:=by rw [hE]; simp
    have hn:=sY T um
    have hx:=(yh _ _ _ um).2.2
    have:=Qk hn.1 (fun y y0 y1=>hx y (by simp; omega) y1) 64 l2 (by have:=Ib l2; omega) (by omega) (fun i i0 i1=>.inl (xH _ (er i0 (by omega))))
    cases hg:zh f g 64 l2 with
    | none=>exact this hg
    | some q=>rw [hg] at h; simp at h
  all_goals (try dsimp only)
  all_goals rw [w1 k0 hk (by omega)]
  ·omega
  ·omega
  ·rw [RH,show (k+1).toNat=k.toNat+1 by omega,List.replicate_succ']
  ·omega
 ·obtain rfl:k=q.length:=by omega
  have WJ:l1=List.replicate f.aB.aC.toNat (-1):=by rw [RH,hq]
  have Ri:=Ql T f.aB.aC.toNat 64 [] (FG T) (by simp; omega) (by omega)
  rw [List.nil_append] at Ri
  refine oe (Zf T 64 l1 (by omega) (fun y hy=>by rw [WJ] at hy; have:=(List.mem_replicate.1 hy).2; omega) (by have:=Ib l1; omega)) (os ?_)
  show (zh f g 64 l1).toList=_
  rw [WJ,Ri]
end
end Go.Proofs.YtkcpiblgpnjanaaGreat
