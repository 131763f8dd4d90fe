/- Tables told by two numbers: loops in loops that fill a list, and what stands where. No condition beside those that each theorem names. -/
import Derived.Test.YtcnehblmgfbfoaaGreatPj
import Derived.Test.YtcnehblmgfbfoaaGreatPe
import Derived.Test.YtcnehblmgfbfoaaGreatVc
set_option linter.unusedVariables false
set_option linter.unusedSectionVars false
set_option linter.unusedSimpArgs false
namespace Go.Proofs.YtcnehblmgfbfoaaGreat
open Go Go.Li
section
variable {S S1 R β:Type} {body:S1→Option (Out S1 R)} {k:Nat} {f:S1→Option (Out S R)} {Ll:S1}
end
theorem uP {n:Nat} {g:Int→Int} {i:Int} (h0:0≤i) (h1:i < n):gi (cj n g) i=g i:=by
 obtain ⟨k,rfl⟩ : ∃ k:Nat,i=k:=⟨i.toNat,by omega⟩
 have h:=vR g (i:=k) (n:=n) (by omega)
 unfold gi
 rw [List.getD_eq_getElem?_getD,show ((k:Int)).toNat=k from rfl,h]; rfl
end Go.Proofs.YtcnehblmgfbfoaaGreat
namespace Go.Proofs.YtcnehblmgfbfoaaGreat
open Go Go.Li
structure Ty (c:aH):Prop where
 o0:0≤c.aD
 f:∀ x∈c.aG,0≤x∧x < c.aD
 tl:c.To.length=c.aG.length
 t:∀ x∈c.To,0≤x∧x < c.aD
 kl:c.aB.length=c.aG.length
 kr:∀ r∈c.aB,r.length=c.aG.length
 il:(c.aI.length:Int)=c.aD
 i:∀ x∈c.aI,0≤x∧x < c.aG.length
 zb:∀ x:Int,0≤x→x < c.aD→gi c.aG (gi c.aI x)=x
 G5:∀ x:Int,0≤x→x < c.aD→gi c.To (gi c.aI x)=x
 cell:∀ f g:Int,0≤f→f < c.aG.length→0≤g→g < c.aG.length→gi c.To f=gi c.aG g→(0≤gk c.aB f g∧gk c.aB f g < c.aG.length)∧gi c.aG (gk c.aB f g)=gi c.aG f∧gi c.To (gk c.aB f g)=gi c.To g
 none:∀ f g:Int,0≤f→f < c.aG.length→0≤g→g < c.aG.length→gi c.To f≠gi c.aG g→gk c.aB f g = -1
 uu:∀ x:Int,0≤x→x < c.aD→gk c.aB (gi c.aI x) (gi c.aI x)=gi c.aI x
namespace Ty
variable {c:aH} (h:Ty c)
include h
theorem fr {f:Int} (h0:0≤f) (h1:f < c.aG.length):0≤gi c.aG f∧gi c.aG f < c.aD:=h.f _ (fy h0 h1)
theorem to {f:Int} (h0:0≤f) (h1:f < c.aG.length):0≤gi c.To f∧gi c.To f < c.aD:=h.t _ (fy h0 (by rw [h.tl]; exact h1))
theorem id {x:Int} (h0:0≤x) (h1:x < c.aD):0≤gi c.aI x∧gi c.aI x < c.aG.length:=h.i _ (fy h0 (by rw [h.il]; exact h1))
theorem lh {f:Int} (h0:0≤f) (h1:f < c.aG.length):idx c.aG f=some (gi c.aG f):=have _:=h; bQ h0 h1
theorem l8 {f:Int} (h0:0≤f) (h1:f < c.aG.length):idx c.To f=some (gi c.To f):=bQ h0 (by rw [h.tl]; exact h1)
theorem um {x:Int} (h0:0≤x) (h1:x < c.aD):idx c.aI x=some (gi c.aI x):=bQ h0 (by rw [h.il]; exact h1)
theorem tQ {f:Int} (h0:0≤f) (h1:f < c.aG.length):idx c.aB f=some (gr c.aB f):=cb h0 (by rw [h.kl]; exact h1)
theorem row {f:Int} (h0:0≤f) (h1:f < c.aG.length):(gr c.aB f).length=c.aG.length:=h.kr _ (j6 h0 (by rw [h.kl]; exact h1))
theorem tR {f g:Int} (h0:0≤f) (h1:f < c.aG.length) (h2:0≤g) (h3:g < c.aG.length):idx (gr c.aB f) g=some (gk c.aB f g):=bQ h2 (by rw [h.row h0 h1]; exact h3)
end Ty
end Go.Proofs.YtcnehblmgfbfoaaGreat
namespace Go.Proofs.YtcnehblmgfbfoaaGreat
open Go Go.Li
def xc (l:List Int) (n y:Int):Prop:=(y = -1∧∀ k:Nat,l[k]?≠some n)∨∃ k:Nat,y=k∧l[k]? = some n∧∀ j:Nat,j < k→l[j]?≠some n
theorem xc.uy {l:List Int} {n y z:Int} (h:xc l n y) (k:xc l n z):y=z:=by
 rcases h with ⟨rfl,h⟩ | ⟨a,rfl,h1,h2⟩
 ·rcases k with ⟨rfl,_⟩ | ⟨b,rfl,k1,_⟩
  ·rfl
  ·exact absurd k1 (h b)
 ·rcases k with ⟨rfl,k⟩ | ⟨b,rfl,k1,k2⟩
  ·exact absurd h1 (k a)
  ·rcases Nat.lt_trichotomy a b with oy | rfl | oy
   ·exact absurd h1 (k2 a oy)
   ·rfl
   ·exact absurd k1 (h2 b oy)
theorem xc.pos {l:List Int} {n y:Int} (h:xc l n y) (hy:0≤y):y < l.length∧l[y.toNat]? = some n:=by
 rcases h with ⟨rfl,_⟩ | ⟨k,rfl,h1,_⟩
 ·omega
 ·exact ⟨by have:=(List.getElem?_eq_some_iff.1 h1).1; omega,h1⟩
theorem xc.YF {l:List Int} {n y:Int} (h:xc l n y) (hm:n∈l):0≤y:=by
 rcases h with ⟨_,h⟩ | ⟨k,rfl,_⟩
 ·obtain ⟨k,hk⟩:=List.getElem?_of_mem hm
  exact absurd hk (h k)
 ·omega
theorem xc.app {l:List Int} {n y m:Int} (h:xc l n y) (hy:0≤y):xc (l++[m]) n y:=by
 rcases h with ⟨rfl,_⟩ | ⟨k,rfl,h1,h2⟩
 ·omega
 ·have hk:=(List.getElem?_eq_some_iff.1 h1).1
  exact .inr ⟨k,rfl,by rw [List.getElem?_append_left hk]; exact h1,fun j hj=>by rw [List.getElem?_append_left (by omega)]; exact h2 j hj⟩
theorem xc.new {l:List Int} {n y:Int} (h:xc l n y) (hy:y < 0):xc (l++[n]) n (l.length:Int):=by
 rcases h with ⟨_,h⟩ | ⟨k,rfl,_⟩
 ·refine .inr ⟨l.length,rfl,by simp,fun j hj=>?_⟩
  rw [List.getElem?_append_left hj]
  exact h j
 ·omega
theorem JU {l:List Int} {n:Int} (hl:l.length≤1048576):Ok (lE l n) (xc l n):=by
 unfold lE
 refine ly (ol (fun s:Int=>(0≤s∧s≤l.length)∧∀ k:Nat,(k:Int) < s→l[k]?≠some n) (fun s=>(l.length - s).toNat) ⟨⟨Int.le_refl _,by omega⟩,fun k hk=>by omega⟩ ?_)
 rintro s ⟨⟨s0,s1⟩,hs⟩
 unfold qW
 refine od (fun h=>?_) fun h=>os ⟨rfl,os (.inl ⟨rfl,fun k hk=>?_⟩)⟩
 ·obtain ⟨i,rfl⟩ : ∃ i:Nat,s=i:=⟨s.toNat,by omega⟩
  refine oe (bQ s0 h) ?_
  have hg:l[i]? = some (gi l i):=by
   have:=bQ s0 h
   rwa [bn] at this
  refine oc (fun e=>os ?_) fun e=>os ⟨⟨⟨?_,?_⟩,fun k hk=>?_⟩,?_⟩
  ·exact .inr ⟨i,rfl,by rw [hg,of_decide_eq_true e],fun j hj=>hs j (by omega)⟩
  ·rw [w1 s0 h (by omega)]; omega
  ·rw [w1 s0 h (by omega)]; omega
  ·rw [w1 s0 h (by omega)] at hk
   rcases (by omega:k < i∨k=i) with h3 | rfl
   ·exact hs k (by omega)
   ·rw [hg]
    intro h4
    have:gi l k=n:=Option.some.inj h4
    rw [this] at e
    simp at e
  ·dsimp only; rw [w1 s0 h (by omega)]; omega
 ·have:=(List.getElem?_eq_some_iff.1 hk).1
  exact hs k (by omega) hk
def Rg (q:List Int):Prop:=∀ y∈q,∀ z:Int,0≤z→z≤y→z∈q
theorem Nf {l:List Int} (hl:l.length≤1048576):Ok (lU l) fun q=>q.length=l.length∧(∀ y∈q,0≤y∧y < l.length)∧(∀ i j:Nat,i < l.length→l[i]? = l[j]?→q[i]? = q[j]?)∧Rg q:=by
 unfold lU
 refine ly (ol (fun z:List Int×List Int×Int=>(0≤z.2.2∧z.2.2≤l.length)∧(z.1.length:Int)=z.2.2∧(z.2.1.length:Int)≤z.2.2∧(∀ k:Nat,(k:Int) < z.2.2→∃ a:Int,0≤a∧z.1[k]? = some a∧∃ n,l[k]? = some n∧xc z.2.1 n a)∧∀ k:Nat,k < z.2.1.length→(k:Int)∈z.1) (fun z=>(l.length - z.2.2).toNat) ⟨⟨by show (0:Int)≤0; omega,by show (0:Int)≤_; omega⟩,rfl,by show (0:Int)≤0; omega,fun k hk=>by have:(k:Int) < 0:=hk; omega,fun k hk=>absurd hk (Nat.not_lt_zero _)⟩ ?_)
 rintro ⟨out,seen,s⟩ ⟨⟨s0,s1⟩,ho,hn,hk,hz⟩
 dsimp only at s0 s1 ho hn hk hz
 show Ok (mI l out seen s) _
 unfold mI
 refine od (fun h=>?_) fun h=>os ⟨rfl,os ⟨by omega,fun y hy=>?_,fun i j hi q9=>?_,fun y hy z z0 z1=>?_⟩⟩
 ·obtain ⟨i,rfl⟩ : ∃ i:Nat,s=i:=⟨s.toNat,by omega⟩
  have hg:l[i]? = some (gi l i):=by
   have:=bQ s0 h
   rwa [bn] at this
  refine oe (bQ s0 h) (ob (JU (by omega)) fun y hy=>?_)
  have hw:=w1 s0 h (by omega)
  refine od (fun Em=>oe (bQ s0 h) (fj (by omega) (by omega) (fj (by omega) (by omega) (os ⟨⟨⟨?_,?_⟩,?_,?_,fun k rX=>?_,fun k zQ=>?_⟩,?_⟩)))) fun P8=>fj (by omega) (by omega) (os ⟨⟨⟨?_,?_⟩,?_,?_,fun k rX=>?_,fun k zQ=>?_⟩,?_⟩)
  all_goals first | (dsimp only at rX; rw [hw] at rX) | skip
  all_goals dsimp only
  all_goals first | (rw [hw]; simp only [List.length_append,List.length_singleton]; omega) | (rw [hw]; omega) | skip
  ·rcases (by omega:k < i∨k=i) with h3 | rfl
   ·obtain ⟨a,a0,e,n,e2,hf⟩:=hk k (by omega)
    exact ⟨a,a0,by rw [List.getElem?_append_left (by omega)]; exact e,n,e2,hf.app a0⟩
   ·refine ⟨seen.length,by omega,?_,gi l k,hg,hy.new Em⟩
    rw [List.getElem?_append_right (by omega),show k - out.length=0 by omega]; rfl
  ·simp only [List.length_append,List.length_singleton] at zQ
   rcases (by omega:k < seen.length∨k=seen.length) with h3 | rfl
   ·exact List.mem_append_left _ (hz k h3)
   ·exact List.mem_append_right _ (List.mem_singleton.2 rfl)
  ·rcases (by omega:k < i∨k=i) with h3 | rfl
   ·obtain ⟨a,a0,e,n,e2,hf⟩:=hk k (by omega)
    exact ⟨a,a0,by rw [List.getElem?_append_left (by omega)]; exact e,n,e2,hf⟩
   ·refine ⟨y,by omega,?_,gi l k,hg,hy⟩
    rw [List.getElem?_append_right (by omega),show k - out.length=0 by omega]; rfl
  ·exact List.mem_append_left _ (hz k zQ)
 ·obtain ⟨k,CI⟩:=List.getElem?_of_mem hy
  have bb:=(List.getElem?_eq_some_iff.1 CI).1
  obtain ⟨a,a0,e,n,e2,hf⟩:=hk k (by omega)
  rw [e] at CI
  obtain rfl:=Option.some.inj CI
  have:=(hf.pos a0).1
  omega
 ·have hj:j < l.length:=by
   rw [List.getElem?_eq_getElem hi] at q9
   exact (List.getElem?_eq_some_iff.1 q9.symm).1
  obtain ⟨a,a0,e,n,e2,hf⟩:=hk i (by omega)
  obtain ⟨b,b0,e',n',PA,qw⟩:=hk j (by omega)
  rw [e2,PA] at q9
  obtain rfl:=Option.some.inj q9
  rw [e,e',hf.uy qw]
 ·obtain ⟨k,CI⟩:=List.getElem?_of_mem hy
  have bb:=(List.getElem?_eq_some_iff.1 CI).1
  obtain ⟨a,a0,e,n,e2,hf⟩:=hk k (by omega)
  rw [e] at CI
  obtain rfl:=Option.some.inj CI
  have:=(hf.pos a0).1
  have:=hz z.toNat (by omega)
  rwa [show ((z.toNat:Nat):Int)=z by omega] at this
def xB (a b x:Int):Int:=if x=b then a else x
theorem Nh (a x:Int):xB a a x=x:=by unfold xB; split <;> simp_all
theorem Ni {S R:Type} {k:Nat} {f:Int×List Int→Option (Out S R)} {Q:Out S R→Prop} {vD:List Int} {a b:Int} (hl:vD.length≤1048576) {body:Int×List Int→Option (Out (Int×List Int) R)}
  (hb:∀ i o,body (i,o)=(((bif decide (i < (o.length:Int)) then (some (a != b)) else (some false)))>>=fun XW=>(bif XW then ((idx o i)>>=fun XX=>(bif XX == b then ((idx o i)>>=fun _=>(some (Out.norm (ai (i+(1:Int)),o.set i.toNat a)))) else (some (Out.norm (ai (i+(1:Int)),o))))) else (some (Out.exit k (i,o))))))
  (h:∀ i,Ok (f (i,vD.map (xB a b))) Q):Ok (ag (ae k (af body ((0:Int),vD))) f) Q:=by
 refine ol (fun z:Int×List Int=>(0≤z.1∧z.1≤vD.length)∧z.2.length=vD.length∧∀ m:Nat,z.2[m]? = if (m:Int) < z.1 then (vD[m]?).map (xB a b) else vD[m]?) (fun z=>(vD.length - z.1).toNat) ⟨⟨by show (0:Int)≤0; omega,by show (0:Int)≤_; omega⟩,rfl,fun m=>by rw [if_neg (by show ¬ (m:Int) < 0; omega)]⟩ ?_
 rintro ⟨i,o⟩ ⟨⟨i0,i1⟩,ho,hm⟩
 dsimp only at i0 i1 ho hm
 rw [hb]
 have fin:(¬ (i < (o.length:Int)∧a≠b))→o=vD.map (xB a b):=by
  intro hn
  refine List.ext_getElem? fun m=>?_
  rw [hm m,List.getElem?_map]
  by_cases oy:a=b
  ·subst oy
   have e:(xB a a)=id:=funext fun x=>Nh a x
   rw [e]
   cases vD[m]? <;> simp
  ·have : ¬ i < (o.length:Int):=fun h=>hn ⟨h,oy⟩
   by_cases Hm:(m:Int) < i
   ·rw [if_pos Hm]
   ·rw [if_neg Hm,List.getElem?_eq_none (by omega)]; rfl
 refine ob (P:=fun g=>g=true↔(i < (o.length:Int)∧a≠b)) (od (fun h1=>os ?_) fun h1=>os ?_) fun g hg=>oc (fun e=>?_) fun e=>os ⟨rfl,?_⟩
 ·by_cases oy:a=b <;> simp [oy,h1]
 ·simp [h1]
 ·obtain ⟨h1,oy⟩:=hg.1 e
  obtain ⟨n,rfl⟩ : ∃ n:Nat,i=n:=⟨i.toNat,by omega⟩
  have PF:o[n]? = some (gi o n):=by
   have:=bQ i0 h1
   rwa [bn] at this
  have HS:vD[n]? = some (gi o n):=by rw [← PF,hm n,if_neg (by omega)]
  have hw:=w1 i0 h1 (by omega)
  refine oe (bQ i0 h1) (oc (fun eb=>oe (bQ i0 h1) (os ⟨⟨⟨?_,?_⟩,?_,fun m=>?_⟩,?_⟩)) fun eb=>os ⟨⟨⟨?_,?_⟩,?_,fun m=>?_⟩,?_⟩)
  all_goals dsimp only
  all_goals first | (rw [hw]; omega) | (rw [List.length_set]; exact ho) | exact ho | skip
  ·rw [hw,show ((n:Int)).toNat=n from rfl,List.getElem?_set]
   by_cases TK:n=m
   ·subst TK
    rw [if_pos rfl,if_pos (by omega),if_pos (by omega),HS]
    have:gi o n=b:=of_decide_eq_true eb
    simp [xB,this]
   ·rw [if_neg TK,hm m]
    by_cases Hm:(m:Int) < n
    ·rw [if_pos Hm,if_pos (by omega)]
    ·rw [if_neg Hm,if_neg (by omega)]
  ·rw [hw,hm m]
   by_cases TK:m=n
   ·subst TK
    rw [if_neg (by omega),if_pos (by omega),HS]
    have : ¬ gi o m=b:=fun h=>by rw [h] at eb; simp at eb
    simp [xB,this]
   ·by_cases Hm:(m:Int) < n
    ·rw [if_pos Hm,if_pos (by omega)]
    ·rw [if_neg Hm,if_neg (by omega)]
 ·rw [fin fun h=>by rw [hg.2 h] at e; cases e]
  exact h i
def Lu (n:Int) (ps:List (List Int)):Prop:=∀ r∈ps,∃ a b t,r=a :: b :: t∧(0≤a∧a < n)∧(0≤b∧b < n)
theorem Lv {n:Int} {ps:List (List Int)} (n0:0≤n) (n1:n≤1048576) (hp:ps.length≤1048576) (h:Lu n ps) :
  Ok (iW n ps) fun q=>(q.length:Int)=n∧(∀ y∈q,0≤y∧y < n)∧(∀ r∈ps,∀ a b t,r=a :: b :: t→q[a.toNat]? = q[b.toNat]?)∧Rg q:=by
 unfold iW
 refine ly (ol (fun z:List Int×Int=>(0≤z.2∧z.2≤n)∧(z.1.length:Int)=z.2) (fun z=>(n - z.2).toNat) ⟨⟨by show (0:Int)≤0; omega,n0⟩,rfl⟩ ?_)
 rintro ⟨l,i⟩ ⟨⟨i0,i1⟩,hl⟩
 dsimp only at i0 i1 hl
 show Ok (oN n l i) _
 unfold oN
 refine od (fun hi=>?_) fun hi=>os ⟨rfl,?_⟩
 ·have hw:=w1 i0 hi (by omega)
  refine fj (by omega) (by omega) (os ⟨⟨⟨?_,?_⟩,?_⟩,?_⟩) <;> dsimp only <;> rw [hw] <;> (try simp only [List.length_append,List.length_singleton]) <;> omega
 ·dsimp only
  refine ol (fun z:Int×List Int=>(0≤z.1∧z.1≤ps.length)∧(z.2.length:Int)=n∧∀ k:Nat,(k:Int) < z.1→∀ a b t,ps[k]? = some (a :: b :: t)→z.2[a.toNat]? = z.2[b.toNat]?) (fun z=>(ps.length - z.1).toNat) ⟨⟨by show (0:Int)≤0; omega,by show (0:Int)≤_; omega⟩,by dsimp only; omega,fun k hk=>by have:(k:Int) < 0:=hk; omega⟩ ?_
  rintro ⟨s,vD⟩ ⟨⟨s0,s1⟩,YG,hk⟩
  dsimp only at s0 s1 YG hk
  show Ok (oO ps s vD) _
  unfold oO
  refine od (fun hs=>?_) fun hs=>os ⟨rfl,?_⟩
  ·obtain ⟨m,rfl⟩ : ∃ m:Nat,s=m:=⟨s.toNat,by omega⟩
   have PF:ps[m]? = some (gr ps m):=by
    have:=cb s0 hs
    rwa [bn] at this
   obtain ⟨a,b,t,er,ha,hb⟩:=h _ (j6 s0 hs)
   refine oe (cb s0 hs) ?_
   rw [er]
   refine oe (x:=a) rfl (oe (bQ ha.1 (by omega)) (oe (cb s0 hs) ?_))
   rw [er]
   refine oe (x:=b) rfl (oe (bQ hb.1 (by omega)) ?_)
   refine Ni (by omega) (fun i o=>rfl) fun i=>os ⟨⟨⟨?_,?_⟩,?_,fun k rX a' b' t' e'=>?_⟩,?_⟩
   all_goals have hw:=w1 s0 hs (by omega)
   all_goals first | (dsimp only at rX; rw [hw] at rX) | skip
   all_goals dsimp only
   all_goals first | (rw [hw]; omega) | (rw [List.length_map]; exact YG) | skip
   rw [List.getElem?_map,List.getElem?_map]
   rcases (by omega:k < m∨k=m) with h3 | rfl
   ·rw [hk k (by omega) a' b' t' e']
   ·rw [PF,er] at e'
    obtain ⟨rfl,rfl,rfl⟩ : a=a'∧b=b'∧t=t':=by simpa using e'
    have e1:vD[a.toNat]? = some (gi vD a):=by rw [← wD ha.1]; exact bQ ha.1 (by omega)
    have e2:vD[b.toNat]? = some (gi vD b):=by rw [← wD hb.1]; exact bQ hb.1 (by omega)
    rw [e1,e2]
    simp [xB]
  ·dsimp only
   refine ob (Nf (by omega)) fun q hq=>os ⟨by omega,fun y hy=>by have:=hq.2.1 y hy; omega,fun r hr a b t e=>?_,hq.2.2.2⟩
   obtain ⟨k,na⟩:=List.getElem?_of_mem hr
   have bb:=(List.getElem?_eq_some_iff.1 na).1
   obtain ⟨a',b',t',e',ha,hb⟩:=h r hr
   rw [e] at e'
   obtain ⟨rfl,rfl,rfl⟩ : a=a'∧b=b'∧t=t':=by simpa using e'
   exact hq.2.2.1 _ _ (by omega) (hk k (by omega) a b t (by rw [na,e]))
theorem Sm {p:List Int} (hl:p.length≤1048575):Ok (lF p) fun ps=>ps.length=p.length∧Lu p.length ps∧∀ i j:Nat,i < p.length→p[i]? = p[j]?→∃ y:Int,∃ a b t,(a :: b :: t)∈ps∧(∃ a' b' t',(a' :: b' :: t')∈ps∧a=y∧a'=y∧b=i∧b'=j):=by
 unfold lF
 refine ly (ol (fun z:List (List Int)×Int=>(0≤z.2∧z.2≤p.length)∧(z.1.length:Int)=z.2∧∀ k:Nat,(k:Int) < z.2→∃ y n:Int,z.1[k]? = some [y,(k:Int)]∧0≤y∧p[k]? = some n∧xc p n y) (fun z=>(p.length - z.2).toNat) ⟨⟨by show (0:Int)≤0; omega,by show (0:Int)≤_; omega⟩,rfl,fun k hk=>by have:(k:Int) < 0:=hk; omega⟩ ?_)
 rintro ⟨l,s⟩ ⟨⟨s0,s1⟩,ox,hk⟩
 dsimp only at s0 s1 ox hk
 show Ok (nP p l s) _
 unfold nP
 refine od (fun hs=>?_) fun hs=>os ⟨rfl,os ⟨by omega,fun r hr=>?_,fun i j hi q9=>?_⟩⟩
 ·obtain ⟨m,rfl⟩ : ∃ m:Nat,s=m:=⟨s.toNat,by omega⟩
  have PF:p[m]? = some (gi p m):=by
   have:=bQ s0 hs
   rwa [bn] at this
  have hw:=w1 s0 hs (by omega)
  refine oe (bQ s0 hs) (ob (JU (by omega)) fun y hy=>fj (by omega) (by omega) (os ⟨⟨⟨?_,?_⟩,?_,fun k rX=>?_⟩,?_⟩))
  all_goals first | (dsimp only at rX; rw [hw] at rX) | skip
  all_goals dsimp only
  all_goals first | (rw [hw]; simp only [List.length_append,List.length_singleton]; omega) | (rw [hw]; omega) | skip
  rcases (by omega:k < m∨k=m) with h3 | rfl
  ·obtain ⟨y',n,e,y0,e2,hf⟩:=hk k (by omega)
   exact ⟨y',n,by rw [List.getElem?_append_left (by omega)]; exact e,y0,e2,hf⟩
  ·refine ⟨y,gi p k,?_,hy.YF (fy s0 hs),PF,hy⟩
   rw [List.getElem?_append_right (by omega),show k - l.length=0 by omega]; rfl
 ·obtain ⟨k,na⟩:=List.getElem?_of_mem hr
  have bb:=(List.getElem?_eq_some_iff.1 na).1
  obtain ⟨y,n,e,y0,e2,hf⟩:=hk k (by omega)
  rw [na] at e
  obtain rfl:=Option.some.inj e
  have:=(hf.pos y0).1
  exact ⟨y,k,[],rfl,⟨y0,this⟩,by omega,by omega⟩
 ·have hj:j < p.length:=by
   rw [List.getElem?_eq_getElem hi] at q9
   exact (List.getElem?_eq_some_iff.1 q9.symm).1
  obtain ⟨y,n,e,y0,e2,hf⟩:=hk i (by omega)
  obtain ⟨y',n',e',y0',PA,qw⟩:=hk j (by omega)
  rw [e2,PA] at q9
  obtain rfl:=Option.some.inj q9
  obtain rfl:=hf.uy qw
  exact ⟨y,y,i,[],List.mem_of_getElem? e,y,j,[],List.mem_of_getElem? e',rfl,rfl,rfl,rfl⟩
theorem UT {p:List Int} (hl:p.length≤100000) {u v:Int} (hu:0≤u∧u < p.length) (hv:0≤v∧v < p.length) {n:Int} (hn:n=p.length) {S:Type} {f:List Int→Option S} {Q:S→Prop}
  (h:∀ q:List Int,q.length=p.length→(∀ y∈q,0≤y∧y < n)→(∀ i j:Nat,i < p.length→p[i]? = p[j]?→q[i]? = q[j]?)→q[u.toNat]? = q[v.toNat]?→Rg q→Ok (f q) Q) :
  Ok (lF p>>=fun Jw=>(fits 24 (Jw.length+1))>>=fun _=>(iW n (Jw++[([u,v]:List Int)]))>>=f) Q:=by
 refine ob (Sm (by omega)) fun ps yM=>fj (by rw [yM.1]; omega) (by rw [yM.1]; omega) ?_
 have hP:Lu n (ps++[[u,v]]):=by
  intro r hr
  rcases List.mem_append.1 hr with hr | hr
  ·obtain ⟨a,b,t,e,ha,hb⟩:=yM.2.1 r hr
   exact ⟨a,b,t,e,by omega,by omega⟩
  ·rw [List.mem_singleton.1 hr]
   exact ⟨u,v,[],rfl,by omega,by omega⟩
 refine ob (Lv (by omega) (by omega) (by rw [List.length_append,yM.1,List.length_singleton]; omega) hP) fun q hq=>h q (by omega) hq.2.1 (fun i j hi q9=>?_) (hq.2.2.1 [u,v] (List.mem_append_right _ (by simp)) u v [] rfl) hq.2.2.2
 obtain ⟨y,a,b,t,hm,a',b',t',xQ,rfl,e1,rfl,rfl⟩:=yM.2.2 i j hi q9
 have h1:=hq.2.2.1 _ (List.mem_append_left _ hm) a i t rfl
 have h2:=hq.2.2.1 _ (List.mem_append_left _ xQ) a' j t' rfl
 rw [e1] at h2
 rw [show ((i:Int)).toNat=i from rfl] at h1
 rw [show ((j:Int)).toNat=j from rfl] at h2
 rw [← h1,← h2]
end Go.Proofs.YtcnehblmgfbfoaaGreat
namespace Go.Proofs.YtcnehblmgfbfoaaGreat
open Go Go.Li
def vw (n:Nat) (f:Nat→Nat):Nat:=((List.range n).map f).sum
theorem uW (n:Nat) (f:Nat→Nat):vw (n+1) f=vw n f+f n:=by
 unfold vw
 rw [List.range_succ,List.map_append,List.sum_append]
 simp
theorem Dh {n:Nat} {f g:Nat→Nat} (h:∀ i,i < n→f i≤g i):vw n f≤vw n g:=by
 induction n with
 | zero=>exact Nat.le_refl _
 | succ n ih=>
  rw [uW,uW]
  have:=ih fun i hi=>h i (by omega)
  have:=h n (by omega)
  omega
theorem Di {n:Nat} {f g:Nat→Nat} (h:∀ i,i < n→f i≤g i) {k:Nat} (hk:k < n) (bb:f k < g k):vw n f < vw n g:=by
 induction n with
 | zero=>omega
 | succ n ih=>
  rw [uW,uW]
  have h1:=h n (by omega)
  by_cases e:k=n
  ·subst e
   have:=Dh (n:=k) (f:=f) (g:=g) fun i hi=>h i (by omega)
   omega
  ·have:=ih (fun i hi=>h i (by omega)) (by omega)
   omega
def GH (p:List Int):Nat:=vw p.length fun i:Nat=>vw p.length fun j:Nat=>if p[i]? = p[j]? then 0 else 1
theorem YH {p q:List Int} (hl:q.length=p.length) (hc:∀ i j:Nat,i < p.length→p[i]? = p[j]?→q[i]? = q[j]?) {u v:Nat} (hu:u < p.length) (hv:v < p.length) (hp:p[u]?≠p[v]?) (hq:q[u]? = q[v]?):GH q < GH p:=by
 have one:∀ i:Nat,i < p.length→∀ j:Nat,(if q[i]? = q[j]? then 0 else 1)≤(if p[i]? = p[j]? then (0:Nat) else 1):=by
  intro i hi j
  by_cases e:p[i]? = p[j]?
  ·rw [if_pos (hc i j hi e)]; omega
  ·rw [if_neg e]; split <;> omega
 unfold GH
 rw [hl]
 refine Di (fun i hi=>Dh fun j _=>one i hi j) hu (Di (fun j _=>one u hu j) hv ?_)
 rw [if_pos hq,if_neg hp]; omega
def vE (cl:List (List Int)):Nat:=vw cl.length fun x=>GH (gr cl x)
theorem Ak {cl:List (List Int)} {y:Nat} {q:List Int} (x:Nat):gr (cl.set y q) x=if y=x∧y < cl.length then q else gr cl x:=by
 unfold gr
 rw [List.getD_eq_getElem?_getD,List.getD_eq_getElem?_getD,show ((x:Int)).toNat=x from rfl,List.getElem?_set]
 by_cases h:y=x
 ·subst h
  by_cases h2:y < cl.length
  ·simp [h2]
  ·simp [h2]
 ·simp [h]
theorem YI {cl:List (List Int)} {y:Nat} {q:List Int} (hy:y < cl.length) (h:GH q < GH (gr cl y)):vE (cl.set y q) < vE cl:=by
 unfold vE
 rw [List.length_set]
 refine Di (fun x _=>?_) hy ?_
 ·rw [Ak]
  split
  ·rename_i hh
   rw [← hh.1]; omega
  ·exact Nat.le_refl _
 ·rw [Ak,if_pos ⟨rfl,hy⟩]; exact h
structure Sh (f:aK):Prop where
 cat:lg f.aC
 small:dk f.aC
 sl:(f.aP.length:Int)=f.aC.aD
 s:∀ x:Int,0≤x→x < f.aC.aD→0≤gi f.aP x∧gi f.aP x≤200
 al:f.aO.length=f.aC.aG.length
 act:∀ a:Int,0≤a→a < f.aC.aG.length→((gr f.aO a).length:Int)=gi f.aP (gi f.aC.aG a)∧∀ y∈gr f.aO a,0≤y∧y < gi f.aP (gi f.aC.To a)
theorem JV {l:List (List Int)} {y:List Int} (h:y∈l):∃ i:Int,0≤i∧i < l.length∧gr l i=y:=by
 obtain ⟨k,hk⟩:=List.getElem?_of_mem h
 have hl:=(List.getElem?_eq_some_iff.1 hk).1
 refine ⟨k,by omega,by omega,?_⟩
 unfold gr
 rw [List.getD_eq_getElem?_getD,show ((k:Int)).toNat=k from rfl,hk]; rfl
theorem Sh.sm {f:aK} (h:Sh f):ib f:=by
 have o8:=h.cat.o8
 have m:=h.cat.m
 refine ⟨h.small,by have:=h.sl; omega,by have:=h.al; omega,fun y hy=>?_⟩
 obtain ⟨a,a0,a1,rfl⟩:=JV hy
 have hf:=h.cat.fr a0 (by have:=h.al; omega)
 have:=(h.act a a0 (by have:=h.al; omega)).1
 have:=h.s _ hf.1 hf.2
 omega
theorem Lw {l:List Int} {q:Int} {i j:Int} (i0:0≤i) (i1:i < l.length) (j0:0≤j):gi (l.set i.toNat q) j=if j=i then q else gi l j:=by
 unfold gi
 rw [List.getD_eq_getElem?_getD,List.getD_eq_getElem?_getD,List.getElem?_set]
 by_cases h:j=i
 ·subst h; rw [if_pos rfl,if_pos rfl,if_pos (by omega)]; rfl
 ·rw [if_neg (by omega),if_neg h]
theorem zY {l:List Int} {y:Int} (h:y∈l):∃ i:Int,0≤i∧i < l.length∧gi l i=y:=by
 obtain ⟨k,hk⟩:=List.getElem?_of_mem h
 have hl:=(List.getElem?_eq_some_iff.1 hk).1
 refine ⟨k,by omega,by omega,?_⟩
 unfold gi
 rw [List.getD_eq_getElem?_getD,show ((k:Int)).toNat=k from rfl,hk]; rfl
structure Cl (f:aK) (cl:List (List Int)):Prop where
 len:cl.length=f.aP.length
 row:∀ x:Int,0≤x→x < f.aC.aD→((gr cl x).length:Int)=gi f.aP x∧∀ y∈gr cl x,0≤y∧y < gi f.aP x
 rg:∀ x:Int,0≤x→x < f.aC.aD→Rg (gr cl x)
theorem Cl.set {f:aK} {cl:List (List Int)} (h:Cl f cl) {y:Int} (y0:0≤y) {q:List Int} (hq:(q.length:Int)=gi f.aP y∧∀ z∈q,0≤z∧z < gi f.aP y) (YJ:Rg q):Cl f (cl.set y.toNat q):=by
 refine ⟨by rw [List.length_set]; exact h.len,fun x x0 x1=>?_,fun x x0 x1=>?_⟩
 ·obtain ⟨n,rfl⟩ : ∃ n:Nat,x=n:=⟨x.toNat,by omega⟩
  rw [Ak]
  split
  ·rename_i hh
   have:y=(n:Int):=by omega
   rw [← this]; exact hq
  ·exact h.row n x0 x1
 ·obtain ⟨n,rfl⟩ : ∃ n:Nat,x=n:=⟨x.toNat,by omega⟩
  rw [Ak]
  split
  ·exact YJ
  ·exact h.rg n x0 x1
def En (f:aK):Prop:=∀ x e:Int,0≤x→x < f.aC.aD→0≤e→e < gi f.aP x→gi (gr f.aO (gi f.aC.aI x)) e=e
theorem TL {l:List Int} {j:Int} (h0:0≤j) (h1:j < l.length):l[j.toNat]? = some (gi l j):=by rw [← wD h0]; exact bQ h0 h1
section
variable {f:aK} (H:Sh f)
include H
theorem PG {ps:List (List (List Int))} (hp:(ps.length:Int)=f.aC.aD) (yM:∀ x:Int,0≤x→x < f.aC.aD→Lu (gi f.aP x) (gl ps x)∧(gl ps x).length≤1000) {k:Nat} {S R:Type} {body:List (List Int)×Int→Option (Out (List (List Int)×Int) R)} {g:List (List Int)×Int→Option (Out S R)} {Q:Out S R→Prop}
  (hb:∀ cl i,body (cl,i)=(bif decide (i < (f.aP.length:Int)) then ((idx f.aP i)>>=fun FD=>((idx ps i)>>=fun Jv=>((iW FD Jv)>>=fun He=>((fits 24 (cl.length+1))>>=fun _=>(some (Out.norm (cl++[He],ai (i+(1:Int))))))))) else (some (Out.exit k (cl,i)))))
  (h:∀ cl i,Cl f cl→Ok (g (cl,i)) Q):Ok (ag (ae k (af body (([]:List (List Int)),(0:Int)))) g) Q:=by
 have o8:=H.cat.o8
 have sl:=H.sl
 refine ol (fun z:List (List Int)×Int=>(0≤z.2∧z.2≤f.aP.length)∧(z.1.length:Int)=z.2∧∀ x:Nat,(x:Int) < z.2→(((gr z.1 x).length:Int)=gi f.aP x∧∀ y∈gr z.1 x,0≤y∧y < gi f.aP x)∧Rg (gr z.1 x)) (fun z=>(f.aP.length - z.2).toNat) ⟨⟨by show (0:Int)≤0; omega,by show (0:Int)≤_; omega⟩,rfl,fun x hx=>by have:(x:Int) < 0:=hx; omega⟩ ?_
 rintro ⟨cl,i⟩ ⟨⟨i0,i1⟩,hl,hr⟩
 dsimp only at i0 i1 hl hr
 rw [hb]
 refine od (fun hi=>?_) fun hi=>os ⟨rfl,h cl i ⟨by omega,fun x x0 x1=>?_,fun x x0 x1=>?_⟩⟩
 ·have hs:=H.s i i0 (by omega)
  have hP:=yM i i0 (by omega)
  refine oe (bQ i0 hi) (oe (wS i0 (by omega)) (ob (Lv hs.1 (by omega) (by omega) hP.1) fun q hq=>fj (by omega) (by omega) (os ⟨⟨⟨?_,?_⟩,?_,fun x hx=>?_⟩,?_⟩)))
  all_goals have hw:=w1 i0 hi (by omega)
  all_goals first | (dsimp only at hx; rw [hw] at hx) | skip
  all_goals dsimp only
  all_goals first | (rw [hw]; simp only [List.length_append,List.length_singleton]; omega) | (rw [hw]; omega) | skip
  by_cases e:(x:Int) < i
  ·have:gr (cl++[q]) x=gr cl x:=by
    unfold gr
    rw [List.getD_eq_getElem?_getD,List.getD_eq_getElem?_getD,List.getElem?_append_left (by show x < _; omega)]
   rw [this]; exact hr x e
  ·have ex:(x:Int)=i:=by omega
   have:gr (cl++[q]) x=q:=by
    unfold gr
    rw [List.getD_eq_getElem?_getD,List.getElem?_append_right (by show _≤x; omega),show ((x:Int)).toNat - cl.length=0 by show x - _=0; omega]; rfl
   rw [this,ex]; exact ⟨⟨hq.1,hq.2.1⟩,hq.2.2.2⟩
 ·obtain ⟨n,rfl⟩ : ∃ n:Nat,x=n:=⟨x.toNat,by omega⟩
  exact (hr n (by omega)).1
 ·obtain ⟨n,rfl⟩ : ∃ n:Nat,x=n:=⟨x.toNat,by omega⟩
  exact (hr n (by omega)).2
theorem YK {ps:List (List (List Int))} (hp:(ps.length:Int)=f.aC.aD) (yM:∀ x:Int,0≤x→x < f.aC.aD→Lu (gi f.aP x) (gl ps x)∧(gl ps x).length≤1000):Ok (oX f ps) fun g=>Sh g∧g.aC=f.aC∧(En f→En g):=by
 have o0:=H.cat.o0
 have o8:=H.cat.o8
 have m:=H.cat.m
 have sl:=H.sl
 have al:=H.al
 unfold oX
 refine ly (PG H hp yM (fun cl i=>rfl) fun cl i uN=>?_)
 dsimp only
 refine ol (fun z:Bool×List (List Int)=>Cl f z.2) (fun z=>2 * vE z.2+(bif z.1 then 1 else 0)) uN ?_
 rintro ⟨more,cl⟩ uN
 dsimp only at uN
 show Ok (oS f more cl) _
 unfold oS
 refine oc (fun em=>?_) fun _=>os ⟨rfl,?_⟩
 ·subst em
  refine ol (fun z:Bool×Int×List (List Int)=>(0≤z.2.1∧z.2.1≤f.aO.length)∧Cl f z.2.2∧vE z.2.2≤vE cl∧(z.1=true→vE z.2.2 < vE cl)) (fun z=>(f.aO.length - z.2.1).toNat) ⟨⟨by show (0:Int)≤0; omega,by show (0:Int)≤_; omega⟩,uN,Nat.le_refl _,fun h=>nomatch h⟩ ?_
  rintro ⟨b2,a,c2⟩ ⟨⟨a0,a1⟩,h2,l2,t2⟩
  dsimp only at a0 a1 h2 l2 t2
  show Ok (oR f b2 a c2) _
  unfold oR
  refine od (fun ha=>?_) fun ha=>os ⟨rfl,os ⟨h2,?_⟩⟩
  ·have ir:=H.cat.fr a0 (by omega)
   have xd:=H.cat.to a0 (by omega)
   have hA:=H.act a a0 (by omega)
   refine oe (H.cat.lh a0 (by omega)) (oe (H.cat.l8 a0 (by omega)) ?_)
   have hsx:=H.s _ ir.1 ir.2
   have hsy:=H.s _ xd.1 xd.2
   refine ol (fun z:Bool×Int×List (List Int)=>(0≤z.2.1∧z.2.1≤gi f.aP (gi f.aC.aG a))∧Cl f z.2.2∧vE z.2.2≤vE cl∧(z.1=true→vE z.2.2 < vE cl)) (fun z=>(gi f.aP (gi f.aC.aG a) - z.2.1).toNat) ⟨⟨by show (0:Int)≤0; omega,hsx.1⟩,h2,l2,t2⟩ ?_
   rintro ⟨b3,d,c3⟩ ⟨⟨d0,d1⟩,h3,l3,t3⟩
   dsimp only at d0 d1 h3 l3 t3
   show Ok (oQ f a (gi f.aC.aG a) (gi f.aC.To a) b3 d c3) _
   unfold oQ
   have PH:=h3.row _ ir.1 ir.2
   have aq0:=h3.len
   refine oe (cb ir.1 (by omega)) (od (fun hd=>?_) fun hd=>os ⟨rfl,os ⟨⟨⟨?_,?_⟩,h3,l3,t3⟩,?_⟩⟩)
   ·refine ol (fun z:Bool×Int×List (List Int)=>(0≤z.2.1∧z.2.1≤d)∧Cl f z.2.2∧vE z.2.2≤vE cl∧(z.1=true→vE z.2.2 < vE cl)) (fun z=>(d - z.2.1).toNat) ⟨⟨by show (0:Int)≤0; omega,d0⟩,h3,l3,t3⟩ ?_
    rintro ⟨b4,e,c4⟩ ⟨⟨e0,e1⟩,h4,l4,t4⟩
    dsimp only at e0 e1 h4 l4 t4
    show Ok (oP f a (gi f.aC.aG a) (gi f.aC.To a) d b4 e c4) _
    unfold oP
    have hx4:=h4.row _ ir.1 ir.2
    have hy4:=h4.row _ xd.1 xd.2
    have hl4:=h4.len
    refine od (fun he=>?_) fun he=>os ⟨rfl,os ⟨⟨⟨?_,?_⟩,h4,l4,t4⟩,?_⟩⟩
    ·have hu:=hA.2 _ (fy (l:=gr f.aO a) (j:=d) d0 (by omega))
     have hv:=hA.2 _ (fy (l:=gr f.aO a) (j:=e) e0 (by omega))
     have hw:=w1 e0 he (by omega)
     refine oe (cb a0 ha) (oe (bQ d0 (by omega)) (oe (cb a0 ha) (oe (bQ e0 (by omega)) ?_)))
     refine ob (P:=fun g=>g=true→gi (gr c4 (gi f.aC.To a)) (gi (gr f.aO a) d)≠gi (gr c4 (gi f.aC.To a)) (gi (gr f.aO a) e)) (oe (cb ir.1 (by omega)) (oe (bQ d0 (by omega)) (oe (cb ir.1 (by omega)) (oe (bQ e0 (by omega)) (oc (fun _=>oe (cb xd.1 (by omega)) (oe (bQ hu.1 (by omega)) (oe (cb xd.1 (by omega)) (oe (bQ hv.1 (by omega)) (os fun h=>by simpa using h))))) fun _=>os fun h=>nomatch h))))) fun g hg=>oc (fun eg=>?_) fun _=>os ⟨⟨⟨?_,?_⟩,h4,l4,t4⟩,?_⟩
     ·refine oe (bQ xd.1 (by omega)) (oe (cb xd.1 (by omega)) ?_)
      refine UT (p:=gr c4 (gi f.aC.To a)) (by omega) (by omega) (by omega) (by omega) fun q hq hqb hqc hqe hqr=>?_
      have bb:vE (c4.set (gi f.aC.To a).toNat q) < vE c4:=by
       refine YI (by omega) ?_
       rw [show (((gi f.aC.To a).toNat:Nat):Int)=gi f.aC.To a by omega]
       refine YH hq hqc (u:=(gi (gr f.aO a) d).toNat) (v:=(gi (gr f.aO a) e).toNat) (by omega) (by omega) ?_ hqe
       rw [TL hu.1 (by omega),TL hv.1 (by omega)]
       exact fun h=>hg eg (Option.some.inj h)
      refine oe (cb xd.1 (by omega)) (os ⟨⟨⟨?_,?_⟩,h4.set xd.1 ⟨by omega,hqb⟩ hqr,?_,?_⟩,?_⟩)
      all_goals dsimp only
      all_goals first | (rw [hw]; omega) | omega | (intro _; omega)
     all_goals dsimp only
     all_goals (rw [hw]; omega)
    all_goals have hw:=w1 d0 hd (by omega)
    all_goals dsimp only
    all_goals (rw [hw]; omega)
   all_goals have hw:=w1 a0 ha (by omega)
   all_goals dsimp only
   all_goals (rw [hw]; omega)
  ·dsimp only
   cases b2 with
   | true=>have:=t2 rfl; simp only [cond_true]; omega
   | false=>simp only [cond_true,cond_false]; omega
 ·dsimp only
  refine ob (P:=fun y=>y=f.aC) ⟨_,tn H.small,rfl⟩ fun y hy=>?_
  subst hy
  have aq1:=uN.len
  refine ol (fun z:Int×List Int=>(0≤z.1∧z.1≤cl.length)∧(z.2.length:Int)=z.1∧∀ x:Nat,(x:Int) < z.1→(0≤gi z.2 x∧gi z.2 x≤200)∧(∀ y∈gr cl x,y < gi z.2 x)∧((gr cl x).length=0→gi z.2 x=0)∧(0 < gi z.2 x→gi z.2 x - 1∈gr cl x)) (fun z=>(cl.length - z.1).toNat) ⟨⟨by show (0:Int)≤0; omega,by show (0:Int)≤_; omega⟩,rfl,fun x hx=>by have:(x:Int) < 0:=hx; omega⟩ ?_
  rintro ⟨x,sz⟩ ⟨⟨x0,x1⟩,me,hr⟩
  dsimp only at x0 x1 me hr
  show Ok (oU cl x sz) _
  unfold oU
  refine od (fun hx=>?_) fun hx=>os ⟨rfl,?_⟩
  ·have av:=uN.row x x0 (by omega)
   have hs:=H.s x x0 (by omega)
   refine ol (fun z:Int×Int=>(0≤z.2∧z.2≤(gr cl x).length)∧(0≤z.1∧z.1≤200)∧(∀ e:Nat,(e:Int) < z.2→gi (gr cl x) e < z.1)∧(z.2=0→z.1=0)∧(0 < z.1→z.1 - 1∈gr cl x)) (fun z=>((gr cl x).length - z.2).toNat) ⟨⟨by show (0:Int)≤0; omega,by show (0:Int)≤_; omega⟩,⟨by show (0:Int)≤0; omega,by show (0:Int)≤200; omega⟩,fun e he=>by have:(e:Int) < 0:=he; omega,fun _=>rfl,fun h=>absurd h (by show ¬ (0:Int) < 0; omega)⟩ ?_
   rintro ⟨n,e⟩ ⟨⟨e0,e1⟩,⟨n0,n1⟩,hn,hz,BV⟩
   dsimp only at e0 e1 n0 n1 hn hz BV
   show Ok (oT cl x n e) _
   unfold oT
   refine oe (cb x0 hx) (od (fun he=>?_) fun he=>os ⟨rfl,?_⟩)
   ·have hw:=w1 e0 he (by omega)
    have hv:=av.2 _ (fy e0 he)
    have hw2:ai (gi (gr cl x) e+1)=gi (gr cl x) e+1:=dT (by omega) (by omega)
    refine oe (cb x0 hx) (oe (bQ e0 he) (os ?_))
    rw [hw2,hw]
    refine ⟨⟨⟨?_,?_⟩,⟨?_,?_⟩,fun k hk=>?_,fun h=>?_,?_⟩,?_⟩
    all_goals dsimp only
    ·omega
    ·omega
    ·split <;> omega
    ·split <;> omega
    ·dsimp only at hk
     by_cases ek:(k:Int) < e
     ·have:=hn k ek; split <;> omega
     ·rw [show (k:Int)=e by omega]; split <;> omega
    ·dsimp only at h; omega
    ·split
     ·intro _; rw [show gi (gr cl x) e+1 - 1=gi (gr cl x) e by omega]; exact fy e0 he
     ·exact BV
    ·omega
   ·dsimp only
    have hw:=w1 x0 hx (by omega)
    refine fj (by omega) (by omega) (os ⟨⟨⟨?_,?_⟩,?_,fun k hk=>?_⟩,?_⟩)
    all_goals first | (dsimp only at hk; rw [hw] at hk) | skip
    all_goals dsimp only
    all_goals first | (rw [hw]; simp only [List.length_append,List.length_singleton]; omega) | (rw [hw]; omega) | skip
    by_cases ek:(k:Int) < x
    ·have:gi (sz++[n]) k=gi sz k:=by
      unfold gi
      rw [List.getD_eq_getElem?_getD,List.getD_eq_getElem?_getD,List.getElem?_append_left (by show k < _; omega)]
     rw [this]; exact hr k ek
    ·have ex:(k:Int)=x:=by omega
     have:gi (sz++[n]) k=n:=by
      unfold gi
      rw [List.getD_eq_getElem?_getD,List.getElem?_append_right (by show _≤k; omega),show ((k:Int)).toNat - sz.length=0 by show k - _=0; omega]; rfl
     rw [this,ex]
     refine ⟨⟨n0,n1⟩,fun y hy=>?_,fun h=>hz (by omega),BV⟩
     obtain ⟨i,hi⟩:=List.getElem?_of_mem hy
     have sW:=(List.getElem?_eq_some_iff.1 hi).1
     have:=hn i (by omega)
     rwa [show gi (gr cl x) i=y by unfold gi; rw [List.getD_eq_getElem?_getD,show ((i:Int)).toNat=i from rfl,hi]; rfl] at this
  ·dsimp only
   have hS:∀ x:Int,0≤x→x < f.aC.aD→(0≤gi sz x∧gi sz x≤200)∧(∀ y∈gr cl x,y < gi sz x)∧((gr cl x).length=0→gi sz x=0)∧(0 < gi sz x→gi sz x - 1∈gr cl x):=by
    intro y y0 y1
    obtain ⟨n,rfl⟩ : ∃ n:Nat,y=n:=⟨y.toNat,by omega⟩
    exact hr n (by omega)
   refine ol (fun z:Int×List (List Int)=>(0≤z.1∧z.1≤f.aO.length)∧(z.2.length:Int)=z.1∧∀ a:Nat,(a:Int) < z.1→((gr z.2 a).length:Int)=gi sz (gi f.aC.aG a)∧(∀ y∈gr z.2 a,0≤y∧y < gi sz (gi f.aC.To a))∧(En f→∀ x:Int,0≤x→x < f.aC.aD→(a:Int)=gi f.aC.aI x→∀ c:Int,0≤c→c < gi sz x→gi (gr z.2 a) c=c)) (fun z=>(f.aO.length - z.1).toNat) ⟨⟨by show (0:Int)≤0; omega,by show (0:Int)≤_; omega⟩,rfl,fun x hx=>by have:(x:Int) < 0:=hx; omega⟩ ?_
   rintro ⟨a,w4⟩ ⟨⟨a0,a1⟩,hl,zB⟩
   dsimp only at a0 a1 hl zB
   show Ok (oW f cl sz a w4) _
   unfold oW
   refine od (fun ha=>?_) fun ha=>os ⟨rfl,os ⟨⟨H.cat,H.small,by dsimp only; omega,fun x x0 x1=>(hS x x0 x1).1,by dsimp only; omega,fun a' Hn F7=>?_⟩,rfl,fun h1 x c x0 x1 c0 c1=>?_⟩⟩
   ·have ir:=H.cat.fr a0 (by omega)
    have xd:=H.cat.to a0 (by omega)
    have hA:=H.act a a0 (by omega)
    have hsx:=H.s _ ir.1 ir.2
    have YL:=hS _ ir.1 ir.2
    have hSy:=hS _ xd.1 xd.2
    have PH:=uN.row _ ir.1 ir.2
    have hcy:=uN.row _ xd.1 xd.2
    refine oe (H.cat.lh a0 (by omega)) (oe (H.cat.l8 a0 (by omega)) (oe (bQ ir.1 (by omega)) (JS YL.1.1 (by omega) (by omega) ?_)))
    have room:0 < gi sz (gi f.aC.aG a)→0 < gi sz (gi f.aC.To a):=by
     intro h
     have h1 : ¬ (gr cl (gi f.aC.aG a)).length=0:=fun h2=>by have:=YL.2.2.1 h2; omega
     have h2:=hA.2 _ (fy (l:=gr f.aO a) (j:=0) (by omega) (by omega))
     have h3:=fy (l:=gr cl (gi f.aC.To a)) (j:=0) (by omega) (by omega)
     have:=hSy.2.1 _ h3
     have:=(hcy.2 _ h3).1
     omega
    refine ol (fun z:Int×List Int=>(0≤z.1∧z.1≤(gr cl (gi f.aC.aG a)).length)∧(z.2.length:Int)=gi sz (gi f.aC.aG a)∧(∀ y∈z.2,0≤y∧y < gi sz (gi f.aC.To a))∧(En f→∀ x:Int,0≤x→x < f.aC.aD→a=gi f.aC.aI x→∀ c:Int,0≤c→c < z.1→gi z.2 (gi (gr cl x) c)=gi (gr cl x) c)) (fun z=>((gr cl (gi f.aC.aG a)).length - z.1).toNat) ⟨⟨by show (0:Int)≤0; omega,by show (0:Int)≤_; omega⟩,by dsimp only; rw [List.length_replicate]; omega,fun y hy=>?_,fun _ x _ _ _ c h0 h1=>by dsimp only at h1; omega⟩ ?_
    ·obtain ⟨h1,rfl⟩:=List.mem_replicate.1 hy
     have:=room (by omega)
     omega
    ·rintro ⟨e,l⟩ ⟨⟨e0,e1⟩,Lt,YM,uh⟩
     dsimp only at e0 e1 Lt YM uh
     show Ok (oV f cl a (gi f.aC.aG a) (gi f.aC.To a) e l) _
     unfold oV
     refine oe (cb ir.1 (by omega)) (od (fun he=>?_) fun he=>os ⟨rfl,?_⟩)
     ·have hw:=w1 e0 he (by omega)
      have hu:=hA.2 _ (fy (l:=gr f.aO a) (j:=e) e0 (by omega))
      have hk:=PH.2 _ (fy (l:=gr cl (gi f.aC.aG a)) e0 he)
      have CI:=YL.2.1 _ (fy (l:=gr cl (gi f.aC.aG a)) e0 he)
      have hq:=fy (l:=gr cl (gi f.aC.To a)) (j:=gi (gr f.aO a) e) hu.1 (by omega)
      refine oe (cb ir.1 (by omega)) (oe (bQ e0 he) (oe (cb xd.1 (by omega)) (oe (cb a0 ha) (oe (bQ e0 (by omega)) (oe (bQ hu.1 (by omega)) (oe (bQ hk.1 (by omega)) (os ⟨⟨⟨?_,?_⟩,?_,tF YM ⟨(hcy.2 _ hq).1,hSy.2.1 _ hq⟩,fun h1 x x0 x1 ea c c0 c1=>?_⟩,?_⟩)))))))
      all_goals first | (dsimp only at c1; rw [hw] at c1) | skip
      all_goals dsimp only
      all_goals first | (rw [List.length_set]; exact Lt) | (rw [hw]; omega) | skip
      have ef:gi f.aC.aG a=x:=by rw [ea]; exact H.cat.zb x x0 x1
      have et:gi f.aC.To a=x:=by rw [ea]; exact H.cat.G5 x x0 x1
      have eo:=h1 x e x0 x1 e0 (by rw [ef] at he PH; omega)
      rw [← ea] at eo
      rw [eo,ef,et]
      rw [ef] at hk PH he Lt CI
      have hv:=PH.2 _ (fy (l:=gr cl x) (j:=c) c0 (by omega))
      rw [Lw hk.1 (by omega) hv.1]
      split
      ·rename_i e3; exact e3.symm
      ·rename_i e3
       refine uh h1 x x0 x1 ea c c0 ?_
       rcases (by omega:c < e∨c=e) with e4 | e4
       ·exact e4
       ·rw [e4] at e3; exact absurd rfl e3
     ·dsimp only
      have hw:=w1 a0 ha (by omega)
      refine fj (by omega) (by omega) (os ⟨⟨⟨?_,?_⟩,?_,fun k hk=>?_⟩,?_⟩)
      all_goals first | (dsimp only at hk; rw [hw] at hk) | skip
      all_goals dsimp only
      all_goals first | (rw [hw]; simp only [List.length_append,List.length_singleton]; omega) | (rw [hw]; omega) | skip
      by_cases ek:(k:Int) < a
      ·have:gr (w4++[l]) k=gr w4 k:=by
        unfold gr
        rw [List.getD_eq_getElem?_getD,List.getD_eq_getElem?_getD,List.getElem?_append_left (by show k < _; omega)]
       rw [this]; exact zB k ek
      ·have ex:(k:Int)=a:=by omega
       have:gr (w4++[l]) k=l:=by
        unfold gr
        rw [List.getD_eq_getElem?_getD,List.getElem?_append_right (by show _≤k; omega),show ((k:Int)).toNat - w4.length=0 by show k - _=0; omega]; rfl
       rw [this]
       refine ⟨by rw [ex]; exact Lt,by rw [ex]; exact YM,fun h1 x x0 x1 ea c c0 c1=>?_⟩
       rw [ex] at ea
       have ef:gi f.aC.aG a=x:=by rw [ea]; exact H.cat.zb x x0 x1
       obtain ⟨i,i0,i1,ei⟩:=zY (uN.rg x x0 x1 _ ((hS x x0 x1).2.2.2 (by omega)) c c0 (by omega))
       rw [ef] at he
       have:=uh h1 x x0 x1 ea i i0 (by omega)
       rwa [ei] at this
   ·obtain ⟨n,rfl⟩ : ∃ n:Nat,a'=n:=⟨a'.toNat,by omega⟩
    have:=zB n (by dsimp only at F7; omega)
    exact ⟨this.1,this.2.1⟩
   ·dsimp only at x1 c1 ⊢
    have sF:=H.cat.id x0 x1
    have:=(zB (gi f.aC.aI x).toNat (by omega)).2.2 h1 x x0 x1 (by omega) c c0 c1
    rwa [show (((gi f.aC.aI x).toNat:Nat):Int)=gi f.aC.aI x by omega] at this
end
end Go.Proofs.YtcnehblmgfbfoaaGreat
namespace Go.Proofs.YtcnehblmgfbfoaaGreat
open Go Go.Li
theorem JW {l:List Int} {q:Int} {j:Int} (h0:0≤j):gi (l++[q]) j=if j < l.length then gi l j else if j=l.length then q else 0:=by
 obtain ⟨n,rfl⟩ : ∃ n:Nat,j=n:=⟨j.toNat,by omega⟩
 unfold gi
 rw [List.getD_eq_getElem?_getD,List.getD_eq_getElem?_getD,show ((n:Int)).toNat=n from rfl]
 by_cases h:n < l.length
 ·rw [List.getElem?_append_left h,if_pos (by omega)]
 ·rw [List.getElem?_append_right (by omega),if_neg (by omega)]
  by_cases e:n=l.length
  ·subst e; rw [if_pos rfl,Nat.sub_self]; rfl
  ·rw [if_neg (by omega),List.getElem?_eq_none (by simp; omega)]; rfl
theorem PI {l:List (List Int)} {q:List Int} {j:Int} (h0:0≤j):gr (l++[q]) j=if j < l.length then gr l j else if j=l.length then q else []:=by
 obtain ⟨n,rfl⟩ : ∃ n:Nat,j=n:=⟨j.toNat,by omega⟩
 unfold gr
 rw [List.getD_eq_getElem?_getD,List.getD_eq_getElem?_getD,show ((n:Int)).toNat=n from rfl]
 by_cases h:n < l.length
 ·rw [List.getElem?_append_left h,if_pos (by omega)]
 ·rw [List.getElem?_append_right (by omega),if_neg (by omega)]
  by_cases e:n=l.length
  ·subst e; rw [if_pos rfl,Nat.sub_self]; rfl
  ·rw [if_neg (by omega),List.getElem?_eq_none (by simp; omega)]; rfl
theorem xC {α:Type} {l:List (List α)} {q:List α} {i j:Int} (i0:0≤i) (i1:i < l.length) (j0:0≤j):gl (l.set i.toNat q) j=if j=i then q else gl l j:=by
 unfold gl
 rw [List.getD_eq_getElem?_getD,List.getD_eq_getElem?_getD,List.getElem?_set]
 by_cases h:j=i
 ·subst h; rw [if_pos rfl,if_pos rfl,if_pos (by omega)]; rfl
 ·rw [if_neg (by omega),if_neg h]
theorem F8 {α:Type} {n:Nat} {x:Int}:gl (List.replicate n ([]:List α)) x=[]:=by
 unfold gl
 rw [List.getD_eq_getElem?_getD,List.getElem?_replicate]
 split <;> rfl
structure FI (c:aH) (zs:List Int) (K H:Int) (ls:List (List (List Int))):Prop where
 len:(ls.length:Int)=c.aD
 mem:∀ x:Int,0≤x→x < c.aD→∀ r∈gl ls x,∃ k h:Int,r=[k,h]∧(0≤k∧k < zs.length)∧(0≤h∧h < c.aG.length)∧(gi c.aG h=gi zs k∧gi c.To h=x)∧(k < K∨k=K∧h < H)
 nd:∀ x:Int,0≤x→x < c.aD→(gl ls x).Nodup
 has:∀ k h:Int,0≤k→k < zs.length→0≤h→h < c.aG.length→(k < K∨k=K∧h < H)→gi c.aG h=gi zs k→[k,h]∈gl ls (gi c.To h)
 xR:∀ x:Int,0≤x→x < c.aD→((gl ls x).length:Int)≤40 * K+H
theorem YN {c:aH} (C:lg c) (hs:dk c) {zs:List Int} (ho:zs.length≤3):Ok (oM c zs) fun f=>Sh f∧f.aC=c∧En f:=by
 have o0:=C.o0
 have o8:=C.o8
 have m:=C.m
 unfold oM
 refine ly (JS o0 (by omega) (by omega) (ol (fun z:Int×List (List (List Int))=>(0≤z.1∧z.1≤zs.length)∧FI c zs z.1 0 z.2) (fun z=>(zs.length - z.1).toNat) ⟨⟨by show (0:Int)≤0; omega,by show (0:Int)≤_; omega⟩,by rw [List.length_replicate]; omega,fun x _ _ r hr=>?_,fun x _ _=>?_,fun k h k0 _ _ _ hk=>by dsimp only at hk; omega,fun x _ _=>?_⟩ ?_))
 ·rw [F8] at hr; cases hr
 ·rw [F8]; exact List.nodup_nil
 ·rw [F8]; show ((0:Nat):Int)≤_; dsimp only; omega
 rintro ⟨k,ls⟩ ⟨⟨k0,k1⟩,hF⟩
 dsimp only at k0 k1 hF
 show Ok (oH c zs k ls) _
 unfold oH
 refine od (fun hk=>?_) fun hk=>os ⟨rfl,?_⟩
 ·refine ol (fun z:Int×List (List (List Int))=>(0≤z.1∧z.1≤c.aG.length)∧FI c zs k z.1 z.2) (fun z=>(c.aG.length - z.1).toNat) ⟨⟨by show (0:Int)≤0; omega,by show (0:Int)≤_; omega⟩,hF⟩ ?_
  rintro ⟨h,ls⟩ ⟨⟨h0,h1⟩,hF⟩
  dsimp only at h0 h1 hF
  show Ok (oG c zs k h ls) _
  unfold oG
  have hlen:=hF.len
  refine od (fun hh=>?_) fun hh=>os ⟨rfl,os ⟨⟨⟨?_,?_⟩,hF.len,fun x x0 x1 r hr=>?_,hF.nd,fun k' h' a b d e f g=>?_,fun x x0 x1=>?_⟩,?_⟩⟩
  ·have hw:=w1 h0 hh (by omega)
   have ht:=C.to h0 hh
   have hc:=hF.xR _ ht.1 ht.2
   refine oe (C.lh h0 hh) (oe (bQ k0 hk) (oc (fun e=>oe (C.l8 h0 hh) (oe (wS ht.1 (by omega)) (fj (by omega) (by omega) (oe (wS ht.1 (by omega)) (os ⟨⟨⟨?_,?_⟩,?_,fun x x0 x1 r hr=>?_,fun x x0 x1=>?_,fun k' h' a b d e' f g=>?_,fun x x0 x1=>?_⟩,?_⟩))))) fun e=>os ⟨⟨⟨?_,?_⟩,hF.len,fun x x0 x1 r hr=>?_,hF.nd,fun k' h' a b d e' f g=>?_,fun x x0 x1=>?_⟩,?_⟩))
   all_goals try dsimp only
   ·rw [hw]; omega
   ·rw [hw]; omega
   ·rw [List.length_set]; exact hF.len
   ·rw [xC ht.1 (by omega) x0] at hr
    have e2:gi c.aG h=gi zs k:=by simpa using e
    rw [hw]
    split at hr
    ·rename_i ex
     rcases List.mem_append.1 hr with hr | hr
     ·obtain ⟨k',h',q1,q2,q3,q4,q5⟩:=hF.mem x x0 x1 r (by rw [ex]; exact hr)
      exact ⟨k',h',q1,q2,q3,q4,by omega⟩
     ·rw [List.mem_singleton.1 hr]
      exact ⟨k,h,rfl,⟨k0,hk⟩,⟨h0,hh⟩,⟨e2,ex.symm⟩,by omega⟩
    ·obtain ⟨k',h',q1,q2,q3,q4,q5⟩:=hF.mem x x0 x1 r hr
     exact ⟨k',h',q1,q2,q3,q4,by omega⟩
   ·rw [xC ht.1 (by omega) x0]
    split
    ·refine List.nodup_append.2 ⟨hF.nd _ ht.1 ht.2,by simp,fun r hr r' eh=>?_⟩
     rw [List.mem_singleton.1 eh]
     obtain ⟨k',h',q1,q2,q3,q4,q5⟩:=hF.mem _ ht.1 ht.2 r hr
     rw [q1]
     intro e5
     simp only [List.cons.injEq] at e5
     omega
    ·exact hF.nd x x0 x1
   ·rw [hw] at f
    have Ot:=C.to d e'
    rw [xC ht.1 (by omega) Ot.1]
    by_cases en:k'=k∧h'=h
    ·rw [en.1,en.2,if_pos rfl]; simp
    ·have:=hF.has k' h' a b d e' (by omega) g
     split
     ·rename_i ex; rw [← ex]; exact List.mem_append_left _ this
     ·exact this
   ·rw [hw,xC ht.1 (by omega) x0]
    have:=hF.xR x x0 x1
    split
    ·rename_i ex; rw [ex] at this; rw [List.length_append,List.length_singleton]; omega
    ·omega
   ·rw [hw]; omega
   ·rw [hw]; omega
   ·rw [hw]; omega
   ·obtain ⟨k',h',q1,q2,q3,q4,q5⟩:=hF.mem x x0 x1 r hr
    rw [hw]
    exact ⟨k',h',q1,q2,q3,q4,by omega⟩
   ·rw [hw] at f
    refine hF.has k' h' a b d e' ?_ g
    by_cases en:k'=k∧h'=h
    ·rw [en.1,en.2] at g; rw [g] at e; simp at e
    ·omega
   ·rw [hw]; have:=hF.xR x x0 x1; omega
   ·rw [hw]; omega
  all_goals have hw:=w1 k0 hk (by omega)
  all_goals try dsimp only
  ·rw [hw]; omega
  ·rw [hw]; omega
  ·obtain ⟨k',h',q1,q2,q3,q4,q5⟩:=hF.mem x x0 x1 r hr
   rw [hw]
   exact ⟨k',h',q1,q2,q3,q4,by omega⟩
  ·rw [hw] at f; exact hF.has k' h' a b d e (by omega) g
  ·rw [hw]; have:=hF.xR x x0 x1; omega
  ·rw [hw]; omega
 ·dsimp only
  refine ob (P:=fun y=>c=y) ⟨_,tn hs,rfl⟩ fun y hy=>?_
  subst hy
  have hlen:=hF.len
  have hek:k=zs.length:=by omega
  refine ol (fun z:Int×List Int=>(0≤z.1∧z.1≤ls.length)∧(z.2.length:Int)=z.1∧∀ x:Int,0≤x→x < z.1→gi z.2 x=(gl ls x).length) (fun z=>(ls.length - z.1).toNat) ⟨⟨by show (0:Int)≤0; omega,by show (0:Int)≤_; omega⟩,rfl,fun x a b=>by dsimp only at b; omega⟩ ?_
  rintro ⟨x,sz⟩ ⟨⟨x0,x1⟩,me,hr⟩
  dsimp only at x0 x1 me hr
  show Ok (oI ls x sz) _
  unfold oI
  refine od (fun hx=>?_) fun hx=>os ⟨rfl,?_⟩
  ·have hw:=w1 x0 hx (by omega)
   refine oe (wS x0 hx) (fj (by omega) (by omega) (os ⟨⟨⟨?_,?_⟩,?_,fun z z0 z1=>?_⟩,?_⟩))
   all_goals first | (dsimp only at z1; rw [hw] at z1) | skip
   all_goals try dsimp only
   all_goals first | (rw [hw]; simp only [List.length_append,List.length_singleton]; omega) | (rw [hw]; omega) | skip
   rw [JW z0]
   by_cases e:z < x
   ·rw [if_pos (by omega)]; exact hr z z0 e
   ·rw [if_neg (by omega),if_pos (by omega),show z=x by omega]
  ·dsimp only
   have hS:∀ y:Int,0≤y→y < c.aD→gi sz y=(gl ls y).length:=fun y y0 y1=>hr y y0 (by omega)
   refine ol (fun z:Int×List (List Int)=>(0≤z.1∧z.1≤c.aG.length)∧(z.2.length:Int)=z.1∧∀ a:Int,0≤a→a < z.1→(gr z.2 a).length=(gl ls (gi c.aG a)).length∧(∀ y∈gr z.2 a,0≤y∧y < (gl ls (gi c.To a)).length)∧∀ e:Int,0≤e→e < (gl ls (gi c.aG a)).length→gi (gr z.2 a) e=bd (gl ls (gi c.To a)) [gi (gr (gl ls (gi c.aG a)) e) 0,gk c.aB (gi (gr (gl ls (gi c.aG a)) e) 1) a]) (fun z=>(c.aG.length - z.1).toNat) ⟨⟨by show (0:Int)≤0; omega,by show (0:Int)≤_; omega⟩,rfl,fun x a b=>by dsimp only at b; omega⟩ ?_
   rintro ⟨a,w4⟩ ⟨⟨a0,a1⟩,xV,zB⟩
   dsimp only at a0 a1 xV zB
   show Ok (oL c ls a w4) _
   unfold oL
   refine od (fun ha=>?_) fun ha=>os ⟨rfl,os ⟨⟨C,hs,by dsimp only; omega,fun y y0 y1=>?_,by dsimp only; omega,fun a' Hn F7=>?_⟩,rfl,fun x e x0 x1 e0 e1=>?_⟩⟩
   ·have hf:=C.fr a0 ha
    have ht:=C.to a0 ha
    have Wr:=hF.xR _ hf.1 hf.2
    have sr:=hF.xR _ ht.1 ht.2
    refine oe (C.lh a0 ha) (oe (wS hf.1 (by omega)) (oe (C.l8 a0 ha) (oe (wS ht.1 (by omega)) ?_)))
    refine ol (fun z:List Int×Int=>(0≤z.2∧z.2≤(gl ls (gi c.aG a)).length)∧(z.1.length:Int)=z.2∧(∀ y∈z.1,0≤y∧y < (gl ls (gi c.To a)).length)∧∀ e:Int,0≤e→e < z.2→gi z.1 e=bd (gl ls (gi c.To a)) [gi (gr (gl ls (gi c.aG a)) e) 0,gk c.aB (gi (gr (gl ls (gi c.aG a)) e) 1) a]) (fun z=>((gl ls (gi c.aG a)).length - z.2).toNat) ⟨⟨by show (0:Int)≤0; omega,by show (0:Int)≤_; omega⟩,rfl,jo,fun e h0 h1=>by dsimp only at h1; omega⟩ ?_
    rintro ⟨act,e⟩ ⟨⟨e0,e1⟩,afy,YO,YP⟩
    dsimp only at e0 e1 afy YO YP
    show Ok (oJ c a (gl ls (gi c.aG a)) (gl ls (gi c.To a)) act e) _
    unfold oJ
    refine od (fun he=>?_) fun he=>os ⟨rfl,?_⟩
    ·obtain ⟨k',h',er,rX,yJ,⟨ef,et⟩,_⟩:=hF.mem _ hf.1 hf.2 _ (j6 e0 he)
     have ik:=C.cell h' a yJ.1 yJ.2 a0 ha et
     have MA:[k',gk c.aB h' a]∈gl ls (gi c.To a):=by
      have:=hF.has k' (gk c.aB h' a) rX.1 rX.2 ik.1 ik.2.1 (by omega) (by rw [ik.2.2.1]; exact ef)
      rwa [ik.2.2.2] at this
     obtain ⟨j,ej,hj⟩:=AO MA
     have Dx:=bf hj
     have hw:=w1 e0 he (by omega)
     refine oe (cb e0 he) ?_
     rw [er]
     refine oe (x:=k') rfl (oe (cb e0 he) ?_)
     rw [er]
     refine oe (x:=h') rfl (oe (C.thenS yJ.1 yJ.2 a0 ha) (oe (wC _ _ (by omega) fun y hy=>?_) (fj (by omega) (by omega) (os ⟨⟨⟨?_,?_⟩,?_,kp YO ?_,fun z z0 z1=>?_⟩,?_⟩))))
     ·obtain ⟨_,_,er',_⟩:=hF.mem _ ht.1 ht.2 y hy
      rw [er']; simp
     all_goals first | (dsimp only at z1; rw [hw] at z1) | skip
     all_goals try dsimp only
     all_goals first | (rw [hw]; simp only [List.length_append,List.length_singleton]; omega) | (rw [hw]; omega) | skip
     ·rw [ej]; omega
     ·rw [JW z0]
      by_cases e4:z < act.length
      ·rw [if_pos e4]; exact YP z z0 (by omega)
      ·rw [if_neg e4,if_pos (by omega),show z=e by omega,er]; rfl
    ·dsimp only
     have hw:=w1 a0 ha (by omega)
     refine fj (by omega) (by omega) (os ⟨⟨⟨?_,?_⟩,?_,fun z z0 z1=>?_⟩,?_⟩)
     all_goals first | (dsimp only at z1; rw [hw] at z1) | skip
     all_goals try dsimp only
     all_goals first | (rw [hw]; simp only [List.length_append,List.length_singleton]; omega) | (rw [hw]; omega) | skip
     rw [PI z0]
     by_cases e:z < a
     ·rw [if_pos (by omega)]; exact zB z z0 e
     ·rw [if_neg (by omega),if_pos (by omega),show z=a by omega]
      refine ⟨by omega,YO,fun z' z0' z1'=>YP z' z0' (by omega)⟩
   ·dsimp only at y1 ⊢
    have:=hF.xR y y0 y1
    rw [hS y y0 y1]; omega
   ·dsimp only at F7 ⊢
    have hf:=C.fr Hn F7
    have ht:=C.to Hn F7
    have:=zB a' Hn (by omega)
    rw [hS _ hf.1 hf.2,hS _ ht.1 ht.2]
    exact ⟨by rw [this.1],this.2.1⟩
   ·dsimp only at x1 e1 ⊢
    have sF:=C.id x0 x1
    rw [hS x x0 x1] at e1
    have:=(zB _ sF.1 (by omega)).2.2 e e0 (by rw [C.zb x x0 x1]; exact e1)
    rw [C.zb x x0 x1,C.G5 x x0 x1] at this
    rw [this]
    obtain ⟨k',h',er,rX,yJ,⟨ef,et⟩,_⟩:=hF.mem x x0 x1 _ (j6 e0 e1)
    rw [er]
    have hu:=C.C3 h' yJ.1 yJ.2
    rw [et] at hu
    show bd (gl ls x) [k',gk c.aB h' (gi c.aI x)]=e
    rw [hu,← er]
    have hg:(gl ls x)[e.toNat]? = some (gr (gl ls x) e):=by
     have:=cb e0 e1
     rwa [wD e0] at this
    have:=Se (hF.nd x x0 x1) hg
    omega
theorem UU {c:aH} (C:lg c) (hs:dk c) {n:Int} (n0:0≤n) (n1:n≤200):Ok (kN c n) fun f=>Sh f∧f.aC=c∧En f:=by
 have o0:=C.o0
 have o8:=C.o8
 have m:=C.m
 unfold kN
 refine ly (ob (P:=fun y=>c=y) ⟨_,tn hs,rfl⟩ fun y hy=>?_)
 subst hy
 refine ol (fun z:Int×List Int=>(0≤z.1∧z.1≤c.aD)∧(z.2.length:Int)=z.1∧∀ y∈z.2,y=n) (fun z=>(c.aD - z.1).toNat) ⟨⟨by show (0:Int)≤0; omega,o0⟩,rfl,jo⟩ ?_
 rintro ⟨x,sz⟩ ⟨⟨x0,x1⟩,me,hr⟩
 dsimp only at x0 x1 me hr
 show Ok (lO c n x sz) _
 unfold lO
 refine od (fun hx=>?_) fun hx=>os ⟨rfl,?_⟩
 ·have hw:=w1 x0 hx (by omega)
  refine fj (by omega) (by omega) (os ⟨⟨⟨?_,?_⟩,?_,kp hr rfl⟩,?_⟩)
  all_goals try dsimp only
  all_goals first | (rw [hw]; simp only [List.length_append,List.length_singleton]; omega) | (rw [hw]; omega)
 ·dsimp only
  refine ol (fun z:Int×List (List Int)=>(0≤z.1∧z.1≤c.aG.length)∧(z.2.length:Int)=z.1∧∀ r∈z.2,(r.length:Int)=n∧(∀ y∈r,0≤y∧y < n)∧∀ e:Int,0≤e→e < n→gi r e=e) (fun z=>(c.aG.length - z.1).toNat) ⟨⟨by show (0:Int)≤0; omega,by show (0:Int)≤_; omega⟩,rfl,jo⟩ ?_
  rintro ⟨a,w4⟩ ⟨⟨a0,a1⟩,xV,zB⟩
  dsimp only at a0 a1 xV zB
  show Ok (lQ c n a w4) _
  unfold lQ
  refine od (fun ha=>?_) fun ha=>os ⟨rfl,os ⟨⟨C,hs,by dsimp only; omega,fun y y0 y1=>?_,by dsimp only; omega,fun a' Hn F7=>?_⟩,rfl,fun x e x0 x1 e0 e1=>?_⟩⟩
  ·refine ol (fun z:List Int×Int=>(0≤z.2∧z.2≤n)∧(z.1.length:Int)=z.2∧(∀ y∈z.1,0≤y∧y < n)∧∀ e:Int,0≤e→e < z.2→gi z.1 e=e) (fun z=>(n - z.2).toNat) ⟨⟨by show (0:Int)≤0; omega,n0⟩,rfl,jo,fun e h0 h1=>by dsimp only at h1; omega⟩ ?_
   rintro ⟨r,e⟩ ⟨⟨e0,e1⟩,Eu,YQ,YR⟩
   dsimp only at e0 e1 Eu YQ YR
   show Ok (lP n r e) _
   unfold lP
   refine od (fun he=>?_) fun he=>os ⟨rfl,?_⟩
   ·have hw:=w1 e0 he (by omega)
    refine fj (by omega) (by omega) (os ⟨⟨⟨?_,?_⟩,?_,kp YQ ⟨e0,he⟩,fun z z0 z1=>?_⟩,?_⟩)
    all_goals first | (dsimp only at z1; rw [hw] at z1) | skip
    all_goals try dsimp only
    all_goals first | (rw [hw]; simp only [List.length_append,List.length_singleton]; omega) | (rw [hw]; omega) | skip
    rw [JW z0]
    by_cases e':z < r.length
    ·rw [if_pos e']; exact YR z z0 (by omega)
    ·rw [if_neg e',if_pos (by omega)]; omega
   ·dsimp only
    have hw:=w1 a0 ha (by omega)
    refine fj (by omega) (by omega) (os ⟨⟨⟨?_,?_⟩,?_,kp zB ⟨by omega,YQ,fun z z0 z1=>YR z z0 (by omega)⟩⟩,?_⟩)
    all_goals try dsimp only
    all_goals first | (rw [hw]; simp only [List.length_append,List.length_singleton]; omega) | (rw [hw]; omega)
  ·dsimp only at y1 ⊢
   rw [hr _ (fy (l:=sz) y0 (by omega))]; omega
  ·dsimp only at F7 ⊢
   have hf:=C.fr Hn F7
   have ht:=C.to Hn F7
   have:=zB _ (j6 (l:=w4) Hn (by omega))
   rw [hr _ (fy (l:=sz) hf.1 (by omega)),hr _ (fy (l:=sz) ht.1 (by omega))]
   exact ⟨this.1,this.2.1⟩
  ·dsimp only at x1 e1 ⊢
   have sF:=C.id x0 x1
   rw [hr _ (fy (l:=sz) x0 (by omega))] at e1
   exact (zB _ (j6 (l:=w4) sF.1 (by omega))).2.2 e e0 e1
end Go.Proofs.YtcnehblmgfbfoaaGreat
namespace Go.Proofs.YtcnehblmgfbfoaaGreat
open Go Go.Li
theorem Fc (x y:List Int) (hx:x.length≤1048576000):gI x y=some (x == y):=FY x y hx
theorem YZ (x y:List (List Int)) (hx:x.length≤1048576000) (hr:∀ z∈x,z.length≤1048576000):rA x y=some (x == y):=Lj x y hx hr
theorem OL {c:aH} (h:dk c):lJ c c=some true:=by
 unfold lJ
 have h1:=h.f
 have h2:=h.t
 have h3:=h.i
 have h4:=h.k
 rw [show (c.aD == c.aD)=true by simp,cond_true,Fc _ _ (by omega),aA,beq_self_eq_true,cond_true,Fc _ _ (by omega),aA,beq_self_eq_true,cond_true,Fc _ _ (by omega),aA,beq_self_eq_true,cond_true,YZ _ _ (by omega) (fun z hz=>by have:=h.r z hz; omega),aA,beq_self_eq_true]
 rfl
theorem SM.len {m:bX} (M:SM m):m.cD.length≤8:=by
 have:=M.pl
 have:=M.src.cat.o8
 omega
theorem I4 {a b:List Int} {e:Int} (h0:0≤e) (h1:e < a.length):gi (thenS a b) e=gi b (gi a e):=uP h0 h1
section
variable {s t:bX} (S:SM s) (T:SM t) (E:s.aM=t.aF)
include S T E
end
def HK (f:aK):List (List Int):=cj f.aP.length fun x=>ns (gi f.aP x).toNat
theorem Kk {f:aK} (F:SF f):(HK f).length≤1048576∧∀ y∈HK f,y.length≤1048576:=by
 have o8:=F.cat.o8
 have sl:=F.sl
 unfold HK
 refine ⟨by rw [bI]; omega,fun y hy=>?_⟩
 obtain ⟨x,hx,rfl⟩:=uk.1 hy
 rw [cH]
 have:=F.s x hx.1 (by omega)
 omega
theorem Sp {f:aK} (F:Sh f):iX f=some (HK f):=by
 have o8:=F.cat.o8
 have sl:=F.sl
 unfold iX
 refine (congrArg ao (x7 f.aP.length (fun x=>ns (gi f.aP x).toNat) (fun acc i=>(acc,(i:Int))) rfl ?_ ?_)).trans rfl
 ·intro i acc hi Ci
  have hm:=F.s (i:Int) (by omega) (by omega)
  show jR f acc i=_
  unfold jR
  rw [aw (by omega),cond_true]
  obtain ⟨n,hn⟩ : ∃ n:Nat,gi f.aP (i:Int)=n:=⟨(gi f.aP (i:Int)).toNat,by omega⟩
  have e:ns (gi f.aP (i:Int)).toNat=cj n fun e=>e:=by rw [hn]; show ns n=(ns n).map _; rw [List.map_id']
  refine (x7 n (fun e=>e) (fun acc i=>(acc,(i:Int))) rfl ?_ ?_).trans ?_
  ·intro j r hj hr
   show jQ f i r j=_
   unfold jQ
   rw [bQ (by omega) (by omega),aA,hn,aw (by omega),cond_true,dR (by omega) (by omega),aA,bB (by omega)]
  ·intro r _
   show jQ f i r _=_
   unfold jQ
   rw [bQ (by omega) (by omega),aA,hn,aX (by omega),cond_false]
  ·dsimp only
   rw [dR (by omega) (by omega),aA,bB (by omega),e]
 ·intro acc _
  show jR f acc _=_
  unfold jR
  rw [aX (by omega),cond_false]
theorem OF {a b:List Int} (hl:a.length=b.length) (h:∀ x:Int,0≤x→x < b.length→gi a x=gi b x):a=b:=by
 refine List.ext_getElem hl fun i h1 h2=>?_
 have:=h i (by omega) (by omega)
 unfold gi at this
 rw [List.getD_eq_getElem?_getD,List.getD_eq_getElem?_getD,show ((i:Int)).toNat=i from rfl,List.getElem?_eq_getElem h1,List.getElem?_eq_getElem h2] at this
 exact this
end Go.Proofs.YtcnehblmgfbfoaaGreat
