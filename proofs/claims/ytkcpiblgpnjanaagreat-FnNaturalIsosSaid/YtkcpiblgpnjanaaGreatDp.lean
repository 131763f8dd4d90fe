/- A region that draws its order: its head in any order, whatever it holds, its tail quiet and behind all of the head. No condition. -/
import Derived.Test.YtkcpiblgpnjanaaGreatDg
import Derived.Deep.Quiet
import Derived.Laws.Slices
import Derived.OrdersHeld
import Derived.Scope
namespace Go.Li
open Go
section
variable {P:Program} {n:Nat} {Q:Exit→(Nat→Value)→World→Prop} {r0:NV} {w0:World} {l:LO} {S:List gv}
def zP (l:LO) (m:Nat):Bool:=
 ((List.range l.length).all fun i=>((l.getD i default).after.toList.filter (Region.binds .any)).all fun e=>Nat.blt e.on i) &&
 ((List.range l.length).all fun i=>Nat.blt i m || (List.range m).all fun j=>((cj l).getD i []).contains j) &&
 A4 ((l.take m).filterMap (·.dst)) && Region.noSelect l.toArray && Region.lexFrom .any l.toArray (l.length - m) m (List.replicate m true++List.replicate (l.length - m) false).toArray
theorem Kv {m:Nat} (h:zP l m=true):∀ (i:Nat) (o:Oper),l[i]? = some o→∀ e∈o.after.toList.filter (Region.binds .any),e.on < i:=by
 simp only [zP,Bool.and_eq_true,List.all_eq_true,List.mem_range] at h
 intro i o ho e he
 have hi:i < l.length:=(List.getElem?_eq_some_iff.1 ho).1
 have:=h.1.1.1.1 i hi e (by rw [List.getD_eq_getElem?_getD,ho]; exact he)
 exact Nat.lt_of_succ_le (Nat.le_of_ble_eq_true this)
theorem Sd {m:Nat} {U:LL} {H:LN} {N:Nat→Prop} (hd:df n l=true) (hA:zP l m=true) (GM:m≤l.length)
  (hS:S.length=m)
  (hH:∀ b∈H,b < w0.heap.size) (hU:((List.range m).all fun i=>(U.getD i []).all fun u=>Nat.beq u l.length || ((cj l).getD i []).contains u)=true)
  (hN:∀ b,N b→b < w0.heap.size∧b ∉ H)
  (rQ:∀ (i:Nat) (s:gv),S[i]? = some s→∀ f F (w w':World) (r r':NV) v,an F w w'→(∀ b∈f,b ∉ F)→(∀ b∈F,¬ N b)→(∀ j∈(cj l).getD i [],∀ t,br l j=some t→r' t=r t)→s.V f w r v→s.V f w' r' v)
  (OU:∀ i,i < m→jo P l m S U r0 w0 H i)
  (next:∀ g r w,zQ l m S U r0 w0 H (fun j=>j < m) g r w→QL P (an [] w) l (l.drop m) r fun r'=>∀ w',an [] w w'→Q .normal r' w') :
  mf P n l Q r0 w0:=by
 simp only [zP,Bool.and_eq_true,List.all_eq_true,List.mem_range,Bool.or_eq_true] at hA
 obtain ⟨⟨⟨⟨Uo,Up⟩,Uq⟩,Q6⟩,OV⟩:=hA
 have wE:∀ (i:Nat) (o:Oper),l[i]? = some o→∀ e∈o.after.toList.filter (Region.binds .any),e.on < i:=by
  intro i o ho e he
  have hi:i < l.length:=(List.getElem?_eq_some_iff.1 ho).1
  have:=Uo i hi e (by rw [List.getD_eq_getElem?_getD,ho]; exact he)
  exact Nat.lt_of_succ_le (Nat.le_of_ble_eq_true this)
 have Ev:∀ i,m≤i→i < l.length→∀ j,j < m→j∈(cj l).getD i []:=by
  intro i h1 h2 j hj
  rcases Up i h2 with h | h
  ·exact absurd (Nat.lt_of_succ_le (Nat.le_of_ble_eq_true h)) (Nat.not_lt.2 h1)
  ·have:=h j hj
   simpa using this
 have Ur:∀ i,i < m→∀ u∈U.getD i [],u=l.length∨u∈(cj l).getD i []:=by
  intro i hi u hu
  simp only [List.all_eq_true,List.mem_range] at hU
  have:=hU i hi u hu
  simpa using this
 have cn:=E6 _ (yr Uq)
 have ru:=A5 l wE
 intro a h1 h2 h3
 let Cl (L:Array Bool):Prop:=L.size=l.length∧∀ j o,l[j]? = some o→L.getD j false=true→∀ e∈o.after.toList.filter (Region.binds .any),L.getD e.on false=true
 have jj:∀ L,Cl L→∀ i j,(∀ o,l[i]? = some o→∀ e∈o.after.toList.filter (Region.binds .any),L.getD e.on false=true)→j∈(cj l).getD i []→L.getD j false=true:=by
  intro L hL i
  induction i using Nat.strongRecOn with
  | _ i ih=>
   intro j hi hj
   obtain ⟨_,o,ho,e,he,GQ⟩:=ru i j hj
   have hl:=hi o ho e he
   rcases GQ with rfl | GQ
   ·exact hl
   ·exact ih e.on (wE i o ho e he) j (fun o' bw e' ub=>hL.2 _ _ bw hl e' ub) GQ
 have mr:∀ L i,i∈Region.ready .any l.toArray L→L.getD i true=false∧∃ o,l[i]? = some o∧∀ e∈o.after.toList.filter (Region.binds .any),L.getD e.on false=true:=by
  intro L i hi
  obtain ⟨g1,o,ho,ei⟩:=mem_ready.1 hi
  refine ⟨g1,o,by simpa using ho,fun e he=>?_⟩
  have:=List.mem_filter.1 he
  exact ei e (by simpa using this.1) this.2
 have DC:∀ L i o,L.size=l.length→l[i]? = some o→L.getD i false=false→(∀ e∈o.after.toList.filter (Region.binds .any),L.getD e.on false=true)→i∈Region.ready .any l.toArray L:=by
  intro L i o hs ho hu ei
  refine mem_ready.2 ⟨?_,o,by simpa using ho,fun e he hb=>ei e (List.mem_filter.2 ⟨by simpa using he,hb⟩)⟩
  have hi:i < L.size:=by rw [hs]; exact (List.getElem?_eq_some_iff.1 ho).1
  simp [hi] at hu ⊢; exact hu
 have F5:∀ L i o,Cl L→l[i]? = some o→(∀ e∈o.after.toList.filter (Region.binds .any),L.getD e.on false=true)→Cl (L.setIfInBounds i true):=by
  intro L i o hL ho ei
  refine ⟨by rw [Array.size_setIfInBounds]; exact hL.1,fun j o' bw hj e he=>?_⟩
  by_cases sP:i=j
  ·subst sP
   have:o'=o:=Option.some.inj (bw.symm.trans ho)
   subst this
   exact getD_set_true (ei e he)
  ·rw [getD_set_ne false sP] at hj
   exact getD_set_true (hL.2 j o' bw hj e he)
 have getSet:∀ (L:Array Bool) i j,L.size=l.length→i < l.length→((L.setIfInBounds i true).getD j false=true↔j=i∨L.getD j false=true):=by
  intro L i j hs hi
  by_cases sP:i=j
  ·subst sP
   simp [hs,hi]
  ·rw [getD_set_ne false sP]
   constructor
   ·exact .inr
   ·rintro (h | h)
    ·exact absurd h.symm sP
    ·exact h
 have GR:∀ (L:Array Bool) i,L.size=l.length→i < l.length→L.getD i false=false→(L.setIfInBounds i true).toList.count false+1=L.toList.count false:=by
  intro L i hs hi hu
  have sy:i < L.toList.length:=by simpa [hs] using hi
  have Cr:L.toList[i]=false:=by
   rw [Array.getElem_toList]
   simp [hs,hi] at hu
   exact hu
  rw [Array.toList_setIfInBounds,List.count_set sy,Cr]
  have:0 < L.toList.count false:=List.count_pos_iff.2 (by rw [← Cr]; exact List.getElem_mem sy)
  rw [if_pos (by rfl),if_neg (by decide)]
  omega
 have gp:df n (l.drop m)=true:=by
  simp only [df,List.all_eq_true] at hd ⊢
  exact fun o ho=>hd o (List.mem_of_mem_drop ho)
 have tail:∀ (fuel:Nat) (L:Array Bool) (a:Act) (w:World),Cl L→(∀ j,L.getD j false=true↔j < m)→L.toList.count false=fuel→a.tmps.size=n→a.defers=[]→
   (QL P (an [] w) l (l.drop m) (cw a) fun r'=>∀ w',an [] w w'→Q .normal r' w')→wpAny P .any l.toArray (fun e a' w'=>a'.tmps.size=n∧a'.defers=[]∧Q e (cw a') w') fuel L a w:=by
  intro fuel L a w hL ic hf g1 g2 hq
  have Yz:L=(List.replicate m true++List.replicate (l.length - m) false).toArray:=by
   apply Array.ext
   ·simp [hL.1]; omega
   ·intro i hi hj
    have h1:=ic i
    simp only [Array.getD_eq_getD_getElem?,Array.getElem?_eq_getElem hi,Option.getD_some] at h1
    have e:(List.replicate m true++List.replicate (l.length - m) false).toArray[i]'hj=decide (i < m):=by
     simp only [List.getElem_toArray,List.getElem_append,List.getElem_replicate,List.length_replicate]
     split
     ·rename_i h; simp [h]
     ·rename_i h; simp [h]
    rw [e]
    cases hb:L[i] with
    | false=>exact (decide_eq_false fun h=>by have:=h1.2 h; rw [hb] at this; cases this).symm
    | true=>exact (decide_eq_true (h1.1 hb)).symm
  have Us:fuel=l.length - m:=by
   rw [← hf,Yz]
   simp [List.count_append,List.count_replicate]
  have q1:=QL.wpQuiet (n:=n) (l:=l) (l.drop m) a hd gp g1 g2 hq
  have q2:=wpAnyQ_lex (md:=.any) Q6 (l.drop m) m L a (fun j=>by simp [List.getElem?_drop]) (by rw [Yz,List.length_drop]; exact OV) q1
  refine wpAny_of_quiet (C:=an [] w) (Q:=fun a'=>a'.tmps.size=n∧a'.defers=[]∧∀ w',an [] w w'→Q .normal (cw a') w') (fun a' w' A6 hh=>⟨hh.1,hh.2.1,hh.2.2 w' A6⟩) _ _ _ _ (an.refl _ _) ?_
  rw [Us,← List.length_drop]
  exact q2
 have head:∀ (fuel:Nat) (L:Array Bool) (a:Act) (w:World) (g:Nat→List Nat),Cl L→(∀ j,L.getD j false=true→j < m)→L.toList.count false=fuel→a.tmps.size=n→a.defers=[]→
   zQ l m S U r0 w0 H (fun j=>L.getD j false=true) g (cw a) w→wpAny P .any l.toArray (fun e a' w'=>a'.tmps.size=n∧a'.defers=[]∧Q e (cw a') w') fuel L a w:=by
  intro fuel
  induction fuel with
  | zero=>
   intro L a w g hL uF hf g1 g2 inv
   have ei:∀ j,j < l.length→L.getD j false=true:=by
    intro j hj
    cases hb:L.getD j false with
    | true=>rfl
    | false=>have:=GR L j hL.1 hj hb; omega
   have ic:∀ j,L.getD j false=true↔j < m:=fun j=>⟨uF j,fun h=>ei j (by omega)⟩
   refine tail 0 L a w hL ic hf g1 g2 (next g _ _ ?_)
   exact ⟨inv.iH,fun hk=>inv.A7 fun k xa=>hk k ((ic k).1 xa),inv.vg,fun j hj=>inv.vd j ((ic j).2 hj),fun j hj hk=>inv.done j ((ic j).2 hj) (fun k xa=>hk k ((ic k).1 xa)),fun j hj=>inv.tw j ((ic j).2 hj),inv.other,fun j hj b hb=>⟨(inv.fresh j ((ic j).2 hj) b hb).1.imp (fun h=>h) fun h=>⟨h.1,h.2.imp fun k hk=>⟨(ic k).1 hk.1,hk.2⟩⟩,(inv.fresh j ((ic j).2 hj) b hb).2⟩,fun i j hi hj=>inv.wx i j ((ic i).2 hi) ((ic j).2 hj)⟩
  | succ fuel ih=>
   intro L a w g hL uF hf g1 g2 inv
   by_cases ei:∀ j,j < m→L.getD j false=true
   ·have ic:∀ j,L.getD j false=true↔j < m:=fun j=>⟨uF j,ei j⟩
    refine tail _ L a w hL ic hf g1 g2 (next g _ _ ?_)
    exact ⟨inv.iH,fun hk=>inv.A7 fun k xa=>hk k ((ic k).1 xa),inv.vg,fun j hj=>inv.vd j ((ic j).2 hj),fun j hj hk=>inv.done j ((ic j).2 hj) (fun k xa=>hk k ((ic k).1 xa)),fun j hj=>inv.tw j ((ic j).2 hj),inv.other,fun j hj b hb=>⟨(inv.fresh j ((ic j).2 hj) b hb).1.imp (fun h=>h) fun h=>⟨h.1,h.2.imp fun k hk=>⟨(ic k).1 hk.1,hk.2⟩⟩,(inv.fresh j ((ic j).2 hj) b hb).2⟩,fun i j hi hj=>inv.wx i j ((ic i).2 hi) ((ic j).2 hj)⟩
   ·obtain ⟨j0,Q7,E7⟩ : ∃ j,j < m∧L.getD j false=false:=by
     apply Classical.byContradiction
     intro sA
     apply ei
     intro j hj
     cases hb:L.getD j false with
     | true=>rfl
     | false=>exact absurd ⟨j,hj,hb⟩ sA
    have Kw:∃ i,i∈Region.ready .any l.toArray L:=by
     have:∀ k,(∃ j,j < k∧j < m∧L.getD j false=false)→∃ i,i∈Region.ready .any l.toArray L:=by
      intro k
      induction k with
      | zero=>rintro ⟨j,h,_⟩; omega
      | succ k Dm=>
       rintro ⟨j,Mr,A8,sB⟩
       by_cases sw:∃ j,j < k∧j < m∧L.getD j false=false
       ·exact Dm sw
       ·obtain rfl:j=k:=by
         apply Classical.byContradiction
         intro h
         exact sw ⟨j,by omega,A8,sB⟩
        have Az:j < l.length:=by omega
        refine ⟨j,DC L j l[j] hL.1 (List.getElem?_eq_getElem Az) sB fun e he=>?_⟩
        have bc:=wE j _ (List.getElem?_eq_getElem Az) e he
        cases hb:L.getD e.on false with
        | true=>rfl
        | false=>exact absurd ⟨e.on,bc,by omega,hb⟩ sw
     exact this (j0+1) ⟨j0,by omega,Q7,E7⟩
    have main:∀ i oi,i < m→l[i]? = some oi→L.getD i false=false→(∀ e∈oi.after.toList.filter (Region.binds .any),L.getD e.on false=true)→
      (Region.wanted oi (yl l (cw a))=true∧fc P oi (cw a) w fun v w'=>wpAny P .any l.toArray (fun e a' w'=>a'.tmps.size=n∧a'.defers=[]∧Q e (cw a') w') fuel (L.setIfInBounds i true) (a.put oi.dst v) w')∨
      (Region.wanted oi (yl l (cw a))=false∧wpAny P .any l.toArray (fun e a' w'=>a'.tmps.size=n∧a'.defers=[]∧Q e (cw a') w') fuel (L.setIfInBounds i true) (a.put oi.dst undef) w):=by
     intro i oi uG nn uH uI
     have fk:i < l.length:=(List.getElem?_eq_some_iff.1 nn).1
     have na:∀ o,l[i]? = some o→∀ e∈o.after.toList.filter (Region.binds .any),L.getD e.on false=true:=fun o' bw=>by
      have:o'=oi:=Option.some.inj (bw.symm.trans nn)
      subst this; exact uI
     obtain ⟨s,hs⟩ : ∃ s,S[i]? = some s:=⟨S[i]'(by omega),List.getElem?_eq_getElem (by omega)⟩
     have hc:=GR L i hL.1 fk uH
     have A9:=F5 L i oi hL nn uI
     have GS:∀ j,(L.setIfInBounds i true).getD j false=true→j < m:=by
      intro j hj
      rcases (getSet L i j hL.1 fk).1 hj with rfl | hj
      ·exact uG
      ·exact uF j hj
     have DD:∀ k,L.getD k false=true→k≠i∧i ∉ (cj l).getD k []:=by
      intro k hk
      refine ⟨fun h=>(by rw [h,uH] at hk; cases hk),fun uZ=>?_⟩
      have:=jj L hL k i (fun o' bw e' ub=>hL.2 k o' bw hk e' ub) uZ
      rw [uH] at this; cases this
     have ow:=OU i uG oi s nn hs g (cw a) w inv.iH (fun hV=>by
       have sA:∀ k,L.getD k false=true→l.length ∉ U.getD k []:=fun k hk GU=>by
        simp only [zK,List.all_eq_true,List.mem_range,Bool.or_eq_true,Bool.not_eq_true',List.contains_eq_mem,decide_eq_false_iff_not,decide_eq_true_eq] at hV
        rcases hV k (uF k hk) with (h | h) | h
        ·exact h GU
        ·exact (DD k hk).1 (Nat.eq_of_beq_eq_true h)
        ·exact (DD k hk).2 h
       have h0:=inv.A7 sA
       exact ⟨h0.1,h0.2,fun j hj b hb=>(inv.fresh j (jj L hL i j na hj) b hb).1.elim (fun h=>h) fun h=>absurd h.2.choose_spec.2 (sA _ h.2.choose_spec.1)⟩) (fun j hj=>inv.tw j (jj L hL i j na hj)) (fun j hj=>by
       simp only [uD,Bool.and_eq_true,List.all_eq_true,List.mem_range,Bool.or_eq_true,Bool.not_eq_true',List.contains_eq_mem,decide_eq_false_iff_not,decide_eq_true_eq] at hj
       refine inv.done j (jj L hL i j na hj.1) fun k hk Mr=>?_
       rcases hj.2 k (uF k hk) with (h | h) | h
       ·exact h Mr
       ·exact (DD k hk).1 (Nat.eq_of_beq_eq_true h)
       ·exact (DD k hk).2 h) inv.other
      (fun i' sy j' gy=>inv.wx i' j' (jj L hL i i' na sy) (jj L hL i j' na gy))
      (fun j hj b hb=>⟨(inv.fresh j (jj L hL i j na hj) b hb).1.imp (fun h=>h) (·.1),(inv.fresh j (jj L hL i j na hj) b hb).2⟩)
     have hblk:∀ b∈kj g (U.getD i []),(∃ u,u∈U.getD i []∧L.getD u false=true∧b∈g u)∨(l.length∈U.getD i []∧b∈g l.length):=by
      intro b hb
      obtain ⟨u,hu,fx⟩:=List.mem_flatMap.1 hb
      rcases Ur i uG u hu with rfl | h
      ·exact .inr ⟨hu,fx⟩
      ·exact .inl ⟨u,hu,jj L hL i u na h,fx⟩
     have E8:∀ k',oi.dst=some k'→k' < a.tmps.size:=by
      intro k' wX
      have uZ:oi∈l:=List.mem_of_getElem? nn
      simp only [df,List.all_eq_true] at hd
      have:=hd oi uZ
      rw [wX] at this
      rw [g1]
      exact Nat.lt_of_succ_le (Nat.le_of_ble_eq_true this)
     have yQ:br l i=oi.dst:=by unfold br; rw [nn]; rfl
     have mz:∀ v t,(oi.dst≠some t)→cw (a.put oi.dst v) t=cw a t:=by
      intro v t ht
      rw [ks E8]
      cases xc:oi.dst with
      | none=>rfl
      | some d=>
       show (bif Nat.beq t d then v else cw a t)=cw a t
       cases hb:Nat.beq t d with
       | false=>rfl
       | true=>exact absurd (by rw [xc,Nat.eq_of_beq_eq_true hb]) ht
     have GV:∀ v d,oi.dst=some d→cw (a.put oi.dst v) d=v:=by
      intro v d xc
      rw [ks E8,xc]
      show (bif Nat.beq d d then v else cw a d)=v
      rw [Nat.beq_refl]; rfl
     have step:∀ v w' f,an (kj g (U.getD i [])) w w'→(∀ b∈f,(b∈kj g (U.getD i [])∨w.heap.size≤b)∧b < w'.heap.size)→(if s.b then s.V f w' (cw a) v else v=undef)→
       wpAny P .any l.toArray (fun e a' w'=>a'.tmps.size=n∧a'.defers=[]∧Q e (cw a') w') fuel (L.setIfInBounds i true) (a.put oi.dst v) w':=by
      intro v w' f hC tx hV
      have ta:∀ j',j' < m→j'≠i→∀ t,br l j'=some t→cw (a.put oi.dst v) t=cw a t:=by
       intro j' gy kp t ht
       refine mz v t fun h=>kp (cn j' i t ?_ ?_)
       ·rw [ko gy]; exact ht
       ·rw [ko uG,yQ]; exact h
      have Ms:∀ b∈kj g (U.getD i []),¬ N b:=fun b hb hn=>by
       rcases hblk b hb with ⟨u,_,p6,fx⟩ | ⟨_,fx⟩
       ·rcases (inv.fresh u p6 b fx).1 with h | h
        ·have:=(hN b hn).1; omega
        ·exact (hN b hn).2 h.1
       ·exact (hN b hn).2 (inv.vg b fx)
      refine ih _ _ _ (fun j=>if j=i then f else if j∈U.getD i [] then [] else g j) A9 GS (by omega) (by rw [jv]; exact g1) (by rw [gq]; exact g2)
       ⟨inv.iH.then hC fun b hb=>(by
        rcases hblk b hb with ⟨u,_,p6,fx⟩ | ⟨_,fx⟩
        ·exact (inv.fresh u p6 b fx).1.elim .inr fun h=>.inl h.1
        ·exact .inl (inv.vg b fx)),fun sA=>?_,?_,fun j hj=>?_,?_,fun j hj d uJ sj se=>?_,?_,?_,?_⟩
      ·have w7:l.length ∉ U.getD i []:=sA i ((getSet L i i hL.1 fk).2 (.inl rfl))
       have h0:=inv.A7 fun k hk=>sA k ((getSet L i k hL.1 fk).2 (.inr hk))
       refine ⟨h0.1.then hC fun b hb=>?_,?_⟩
       ·rcases hblk b hb with ⟨u,_,p6,fx⟩ | ⟨h,_⟩
        ·exact (inv.fresh u p6 b fx).1.elim .inr fun ⟨_,k,hk,GU⟩=>absurd GU (sA k ((getSet L i k hL.1 fk).2 (.inr hk)))
        ·exact absurd h w7
       ·show (if l.length=i then f else if l.length∈U.getD i [] then [] else g l.length)=H
        rw [if_neg (by omega),if_neg w7]
        exact h0.2
      ·intro b hb
       have cq:b∈(if l.length=i then f else if l.length∈U.getD i [] then [] else g l.length):=hb
       rw [if_neg (by omega)] at cq
       split at cq
       ·cases cq
       ·exact inv.vg b cq
      ·intro b hb hv
       have mm:b∈(if l.length=i then f else if l.length∈U.getD i [] then [] else g l.length):=hv
       rw [if_neg (by omega)] at mm
       split at mm
       ·cases mm
       ·rename_i Ut
        have cq:b∈(if j=i then f else if j∈U.getD i [] then [] else g j):=hb
        split at cq
        ·rcases (tx b cq).1 with h | h
         ·rcases hblk b h with ⟨u,_,p6,fx⟩ | ⟨h,_⟩
          ·exact inv.vd u p6 b fx mm
          ·exact Ut h
         ·have h1:=hH b (inv.vg b mm)
          have h2:=inv.iH.size
          omega
        ·rename_i kz
         split at cq
         ·cases cq
         ·exact inv.vd j (((getSet L i j hL.1 fk).1 hj).resolve_left kz) b cq mm
      ·intro j hj yR
       refine ⟨fun d uJ=>?_,fun Uu sj se Mt=>?_⟩
       rotate_left
       ·by_cases kz:j=i
        ·subst kz
         rw [hs] at se
         cases se
         rw [if_pos Mt] at hV
         refine ⟨v,?_⟩
         simp only [if_pos]
         exact rQ j s hs _ [] w' w' (cw a) _ v (an.refl _ _) (fun _ _ h=>nomatch h) (fun _ h=>nomatch h) (fun j' gy t ht=>ta j' (by have:=(ru j j' gy).1; omega) (by have:=(ru j j' gy).1; omega) t ht) hV
        ·have nb:=((getSet L i j hL.1 fk).1 hj).resolve_left kz
         have sB:j ∉ U.getD i []:=yR i ((getSet L i i hL.1 fk).2 (.inl rfl))
         obtain ⟨x,hx⟩:=(inv.done j nb (fun k hk=>yR k ((getSet L i k hL.1 fk).2 (.inr hk)))).2 Uu sj se Mt
         have fe:(fun j=>if j=i then f else if j∈U.getD i [] then [] else g j) j=g j:=by
          show (if j=i then f else if j∈U.getD i [] then [] else g j)=g j
          rw [if_neg kz,if_neg sB]
         rw [fe]
         refine ⟨x,rQ j sj se _ _ _ _ (cw a) _ _ hC (fun b cq GW=>?_) Ms (fun j' gy t ht=>ta j' (by have:=(ru j j' gy).1; have:=uF j nb; omega) (fun h=>?_) t ht) hx⟩
         ·rcases hblk b GW with ⟨u,Bb,p6,fx⟩ | ⟨_,fx⟩
          ·exact inv.wx j u nb p6 (fun h=>sB (h ▸ Bb)) b cq fx
          ·exact inv.vd j nb b cq fx
         ·subst h
          have:=jj L hL j j' (fun o' bw e' ub=>hL.2 j o' bw nb e' ub) gy
          rw [uH] at this; cases this
       by_cases kz:j=i
       ·subst kz
        rw [hs]
        simp only [if_pos]
        rw [yQ] at uJ
        rw [GV v d uJ]
        split
        ·rename_i hb
         rw [if_pos hb] at hV
         exact rQ j s hs _ [] w' w' (cw a) _ v (an.refl _ _) (fun _ _ h=>nomatch h) (fun _ h=>nomatch h) (fun j' gy t ht=>ta j' (by have:=(ru j j' gy).1; omega) (by have:=(ru j j' gy).1; omega) t ht) hV
        ·rename_i hb
         rw [if_neg hb] at hV
         exact hV
       ·have nb:=((getSet L i j hL.1 fk).1 hj).resolve_left kz
        have A8:=uF j nb
        have sB:j ∉ U.getD i []:=yR i ((getSet L i i hL.1 fk).2 (.inl rfl))
        have xc:oi.dst≠some d:=by
         intro h
         apply kz
         refine cn j i d ?_ ?_
         ·rw [ko A8]; exact uJ
         ·rw [ko uG,yQ]; exact h
        have:=(inv.done j nb (fun k hk=>yR k ((getSet L i k hL.1 fk).2 (.inr hk)))).1 d uJ
        rw [mz v d xc]
        have fe:(fun j=>if j=i then f else if j∈U.getD i [] then [] else g j) j=g j:=by
         show (if j=i then f else if j∈U.getD i [] then [] else g j)=g j
         rw [if_neg kz,if_neg sB]
        rw [fe]
        cases se:S[j]? with
        | none=>trivial
        | some sj=>
         rw [se] at this
         simp only [] at this ⊢
         split
         ·rename_i hb
          rw [if_pos hb] at this
          refine rQ j sj se _ _ _ _ (cw a) _ _ hC (fun b cq GW=>?_) Ms (fun j' gy t ht=>ta j' (by have:=(ru j j' gy).1; omega) (fun h=>?_) t ht) this
          rotate_left
          ·subst h
           have:=jj L hL j j' (fun o' bw e' ub=>hL.2 j o' bw nb e' ub) gy
           rw [uH] at this; cases this
          rcases hblk b GW with ⟨u,Bb,p6,fx⟩ | ⟨_,fx⟩
          ·exact inv.wx j u nb p6 (fun h=>sB (h ▸ Bb)) b cq fx
          ·exact inv.vd j nb b cq fx
         ·rename_i hb
          rw [if_neg hb] at this
          exact this
      ·by_cases kz:j=i
       ·subst kz
        rw [hs] at se
        cases se
        rw [yQ] at uJ
        rw [GV v d uJ]
        split
        ·rename_i hb
         rw [if_pos hb] at hV
         exact ⟨f,w',rQ j s hs _ [] w' w' (cw a) _ v (an.refl _ _) (fun _ _ h=>nomatch h) (fun _ h=>nomatch h) (fun j' gy t ht=>ta j' (by have:=(ru j j' gy).1; omega) (by have:=(ru j j' gy).1; omega) t ht) hV⟩
        ·rename_i hb
         rw [if_neg hb] at hV
         exact hV
       ·have nb:=((getSet L i j hL.1 fk).1 hj).resolve_left kz
        have A8:=uF j nb
        have xc:oi.dst≠some d:=by
         intro h
         apply kz
         refine cn j i d ?_ ?_
         ·rw [ko A8]; exact uJ
         ·rw [ko uG,yQ]; exact h
        have:=inv.tw j nb d uJ sj se
        rw [mz v d xc]
        split
        ·rename_i hb
         rw [if_pos hb] at this
         obtain ⟨f1,w1,h1⟩:=this
         refine ⟨f1,w1,rQ j sj se _ [] w1 w1 (cw a) _ _ (an.refl _ _) (fun _ _ h=>nomatch h) (fun _ h=>nomatch h) (fun j' gy t ht=>ta j' (by have:=(ru j j' gy).1; omega) (fun h=>?_) t ht) h1⟩
         subst h
         have:=jj L hL j j' (fun o' bw e' ub=>hL.2 j o' bw nb e' ub) gy
         rw [uH] at this; cases this
        ·rename_i hb
         rw [if_neg hb] at this
         exact this
      ·intro t ht
       rw [mz v t (fun h=>ht i uG (by rw [yQ]; exact h))]
       exact inv.other t ht
      ·intro j hj b hb
       by_cases kz:j=i
       ·simp only [if_pos kz] at hb
        have hh:=tx b hb
        have rP:=inv.iH.size
        rcases hh.1 with h | h
        ·rcases hblk b h with ⟨u,_,p6,fx⟩ | ⟨hv,fx⟩
         ·exact ⟨(inv.fresh u p6 b fx).1.imp (fun h=>h) fun h=>⟨h.1,h.2.imp fun k hk=>⟨(getSet L i k hL.1 fk).2 (.inr hk.1),hk.2⟩⟩,hh.2⟩
         ·exact ⟨.inr ⟨inv.vg b fx,i,(getSet L i i hL.1 fk).2 (.inl rfl),hv⟩,hh.2⟩
        ·exact ⟨.inl (by omega),hh.2⟩
       ·have nb:=((getSet L i j hL.1 fk).1 hj).resolve_left kz
        simp only [if_neg kz] at hb
        split at hb
        ·cases hb
        ·have h1:=inv.fresh j nb b hb
         have h2:=hC.size
         exact ⟨h1.1.imp (fun h=>h) fun h=>⟨h.1,h.2.imp fun k hk=>⟨(getSet L i k hL.1 fk).2 (.inr hk.1),hk.2⟩⟩,by omega⟩
      ·have tH:∀ j',(L.setIfInBounds i true).getD j' false=true→j'≠i→∀ b∈f,b ∉ (if j'∈U.getD i [] then [] else g j'):=by
        intro j' gy e2 b hb cq
        have GX:=((getSet L i j' hL.1 fk).1 gy).resolve_left e2
        split at cq
        ·cases cq
        ·rename_i sB
         rcases (tx b hb).1 with h | h
         ·rcases hblk b h with ⟨u,Bb,p6,fx⟩ | ⟨_,fx⟩
          ·exact inv.wx u j' p6 GX (fun h=>sB (h ▸ Bb)) b fx cq
          ·exact inv.vd j' GX b cq fx
         ·have:=inv.fresh j' GX b cq
          omega
       intro i' j' sy gy kp b hb cq
       by_cases e1:i'=i
       ·have e2:j'≠i:=fun h=>kp (e1.trans h.symm)
        simp only [if_pos e1] at hb
        simp only [if_neg e2] at cq
        exact tH j' gy e2 b hb cq
       ·simp only [if_neg e1] at hb
        by_cases e2:j'=i
        ·simp only [if_pos e2] at cq
         exact tH i' sy e1 b cq hb
        ·simp only [if_neg e2] at cq
         split at hb
         ·cases hb
         ·split at cq
          ·cases cq
          ·exact inv.wx i' j' (((getSet L i i' hL.1 fk).1 sy).resolve_left e1) (((getSet L i j' hL.1 fk).1 gy).resolve_left e2) kp b hb cq
     cases hb:s.b with
     | true=>
      rw [if_pos hb] at ow
      refine .inl ⟨ow.1,nr ow.2 ?_⟩
      rintro v w' ⟨hC,f,tx,hV⟩
      exact step v w' f hC tx (by rw [if_pos hb]; exact hV)
     | false=>
      rw [if_neg (by rw [hb]; exact Bool.false_ne_true)] at ow
      exact .inr ⟨ow,step undef w [] (an.refl _ _) (fun b h=>nomatch h) (by rw [if_neg (by rw [hb]; exact Bool.false_ne_true)])⟩
    refine ⟨fun h=>(by obtain ⟨i,hi⟩:=Kw; rw [h] at hi; cases hi),fun i hi=>?_⟩
    obtain ⟨q1,oi,nn,uI⟩:=mr L i hi
    have fk:i < l.length:=(List.getElem?_eq_some_iff.1 nn).1
    have uH:L.getD i false=false:=getD_both q1
    have uG:i < m:=by
     rcases Nat.lt_or_ge i m with h | h
     ·exact h
     ·have hj:=Ev i h fk j0 Q7
      have:=jj L hL i j0 (fun o' bw=>by have:o'=oi:=Option.some.inj (bw.symm.trans nn); subst this; exact uI) hj
      rw [E7] at this; cases this
    unfold wpOp
    rw [show (l.toArray)[i]? = some oi by simpa using nn]
    simp only []
    rw [zR (by rw [g1]; exact hd)]
    rcases main i oi uG nn uH uI with ⟨hw,h⟩ | ⟨hw,h⟩
    ·rw [if_pos hw]
     exact .inl (h.wp fun v w' hv=>hv)
    ·rw [if_neg (by rw [hw]; exact Bool.false_ne_true)]
     exact h
 refine head _ _ a _ (fun j=>if j=l.length then H else []) ⟨by simp,?_⟩ ?_ ?_ h1 h2 ⟨an.nil (an.drew _ _),fun _=>⟨an.drew _ _,by simp⟩,fun b hb=>by simpa using hb,?_,?_,?_,?_,?_,?_⟩
 ·intro j o ho hj
  rw [getD_replicate_false] at hj; cases hj
 ·intro j hj
  rw [getD_replicate_false] at hj; cases hj
 ·simp
 ·intro j hj
  rw [getD_replicate_false] at hj; cases hj
 ·intro j hj
  rw [getD_replicate_false] at hj; cases hj
 ·intro j hj
  rw [getD_replicate_false] at hj; cases hj
 ·intro t _
  rw [h3]
 ·intro j hj
  rw [getD_replicate_false] at hj; cases hj
 ·intro i j hi
  rw [getD_replicate_false] at hi; cases hi
end
end Go.Li
namespace Go.Dk
open Go Go.Li
section
variable {R S:Type} {P:Program} {cx:Cx R} {K:dh R S} {l tail:LO} {base fr:Fr} {w:World} {Z:Nat→Prop}
theorem OX {mt id:Nat} {U:LL} {Ua:QE} (hU:((List.range mt).all fun i=>(U.getD i []).all fun u=>Nat.beq u l.length || ((cj l).getD i []).contains u)=true) (hh:lz l mt base=true) (hd:df cx.n l=true) (hA:zP l mt=true) (GM:mt≤l.length) (ht:tail=l.drop mt) {i:Nat} {sl:LQ} {ms:MM} {Γ:QE} {m:Option (Out S R)} (Ub:CJ ms=true) (sJ:Er U sl ms=true)
  (h:∀ x:mq ms,D P cx (.p (AQ sl (mF ms x)) (Ep ms x) base Γ fun fr Γ=>.tg true (CF tail) l tail K Γ fr m)):Kn P cx K l mt U Ua id base (.a [] [] i sl ms Γ m):=by
 rintro ⟨_,h2,h3⟩ B o ho r0 w0 H Z ha hs ⟨S',hl,hR,hO⟩
 have hi:i=mt:=by
  have:=congrArg List.length h2
  simp at this
  omega
 subst hl
 obtain ⟨F,Hd,⟨tY,wq,tk,wu⟩,hS,hG⟩:=hs
 refine Sd (N:=Z) (S:=S') (U:=U) (H:=H) hd hA GM hi tk hU (fun b hb=>⟨hG.ml b hb,fun h=>hG.apart b (List.mem_append_left _ h) hb⟩) (fun i s hs=>hR.s i s hs) (fun j hj=>hO j (by omega)) ?_
 intro g r w hI
 have Ko:∀ k j,j∈U.getD k []→∀ a∈ms,a.j≠j:=by
  intro k j hj
  unfold Er at sJ
  rw [List.getD_eq_getElem?_getD] at hj
  cases hk:U[k]? with
  | none=>rw [hk] at hj; exact absurd hj List.not_mem_nil
  | some us=>
   rw [hk] at hj
   have h1:=List.all_eq_true.1 (List.all_eq_true.1 sJ us (List.mem_of_getElem? hk)) j hj
   intro a ha he
   have:=List.all_eq_true.1 h1 a ha
   rw [he,Nat.beq_refl] at this
   cases this
 have hD:∀ j,j < mt→(∀ k,j ∉ U.getD k [])→w6 l S' j g r w:=fun j hj hn=>hI.done j hj fun k _=>hn k
 have bc:∀ a∈ms,a.j < mt:=fun a ha=>hi ▸ hR.lt ha
 obtain ⟨x,hx,tX,Ud⟩:=Q1 (g:=g) (r:=r) (w:=w) Ub hR.d (fun a ha b hb uE=>hI.wx _ _ (bc a ha) (bc b hb) uE) fun a ha=>by
  have:=hR.w5 (S2:=[]) ha (by rw [List.append_nil]; exact hD a.j (bc a ha) (fun k hk=>Ko k _ hk a ha rfl))
  exact this
 have Dy:=List.nodup_append.1 hG.nd
 have mz:∀ b∈zM g ms,w0.heap.size≤b∨b∈H:=fun b hb=>by
  obtain ⟨a,h1,h2⟩:=CL hb
  exact (hI.fresh a.j (bc a h1) b h2).1.imp (fun h=>h) (·.1)
 have ed:=rK.stay hS hG hI.iH
 obtain ⟨Vo,Vr,Ue,Uf,tX⟩:=tX
 obtain ⟨F',hp,fw⟩:=tX.build (ed.mono (fun _ h=>.inl h) fun _ h=>h)
 have vK:Gd B Z (zM g ms++F) w:=by
  refine ⟨tZ Ud Dy.2.1 fun b hb hF=>(mz b hb).elim (fun h=>Nat.lt_irrefl _ (Nat.lt_of_lt_of_le (hS.lt b hF) h)) (fun h=>Dy.2.2 b h b hF rfl),?_,fun b hb=>Nat.lt_of_lt_of_le (hG.ml b hb) hI.iH.size,?_,hG.tQ,hG.tj,hG.iH.then hI.iH fun b hb=>hG.low b (List.mem_append_left _ hb)⟩
  ·intro b hb hz
   rcases List.mem_append.1 hb with hb | hb
   ·exact (mz b hb).elim (fun h=>Nat.lt_irrefl _ (Nat.lt_of_lt_of_le (hG.ml b hz) h)) (fun h=>hG.apart b (List.mem_append_left _ h) hz)
   ·exact hG.apart b (List.mem_append_right _ hb) hz
  ·intro b hb
   rcases List.mem_append.1 hb with hb | hb
   ·exact (mz b hb).elim (fun h=>.inr (Nat.le_trans hG.iH.size h)) (fun h=>hG.low b (List.mem_append_left _ h))
   ·exact hG.low b (List.mem_append_right _ hb)
 have OL:cu r ((AQ sl (mF ms x)).reverse++base):=by
  refine qn (GK (fun p hp=>?_) hx) (jf hh ha hI.other)
  exact hR.xT (S2:=[]) hp fun j _ hj=>(by rw [List.append_nil]; exact hI.tw j (hi ▸ hj))
 have:=(h x).sound B o ho r w OL ⟨_,F',fw,((vK.perm (Jg Ue)).freeze Uf).perm hp⟩
 rw [ht] at this
 exact this
theorem XH {id:Nat} (hd:QE) (mt:Nat) (U as:LL) {ops:LO} {Γ Γ1:QE} {fr:Fr} {m:Option (Out S R)}
  (hB:(P.follows .mixedOrders && df cx.n l && zP l mt && Nat.ble mt l.length && (rq l U mt == as) && ((List.range mt).all fun i=>(U.getD i []).all fun u=>Nat.beq u l.length || ((cj l).getD i []).contains u))=true)
  (ho:ops=l.take mt) (ht:tail=l.drop mt) (hf:Kp (zu ops) none fr base) (hh:lz l mt base=true) (he:EO Γ hd Γ1) (GN:OW Γ hd)
  (h:AD true P cx K l tail base U hd (.a as ops 0 [] [] Γ1 m)):Bx (mb P cx (.dr id l K Γ fr m)):=by
 simp only [Bool.and_eq_true] at hB
 obtain ⟨⟨⟨⟨⟨b1,b2⟩,b3⟩,b5⟩,b6⟩,b7⟩:=hB
 rw [lg]
 intro B o hm r w ha hs
 obtain ⟨Z,F,hS,hG⟩:=hs
 obtain ⟨Fd,F',h1,h2,h3⟩:=he.sound hS
 have GO:SA Z w hd [] Fd:=by
  have:=(HO.hl GN hS h1).front (Γ:=[]) (F:=[]) rfl
  simpa using this
 have hX:rK B Z hd Γ1 Fd w:=⟨F',Fd,⟨GO,fun b hb=>⟨hb,GO.lt b hb⟩,GO.lt,(List.nodup_append.1 (hG.perm h3).nd).1⟩,h2,hG.perm h3⟩
 refine mf.W b1 ?_
 refine AD.sound (id:=id) hh (fun _ _ _ _ _ _ hs he h=>OX b7 hh b2 b3 (Nat.le_of_ble_eq_true b5) ht hs he h) h
  ⟨by rw [List.drop_zero]; exact (eq_of_beq b6).symm,by rw [List.drop_zero]; exact ho,Nat.zero_le _⟩ B o hm r w Fd Z (hf.sound ha) hX ⟨[],rfl,⟨fun _ h=>absurd h List.not_mem_nil,fun _ h=>absurd h List.not_mem_nil,fun i s h=>by simp at h,List.nodup_nil,fun _ _ _ h1 h2=>Dz l (Kv b3) h1 h2⟩,fun j hj=>absurd hj (Nat.not_lt_zero j)⟩
theorem Uv {id:Nat} (mt:Nat) (U as:LL) {ops:LO} {Γ:QE} {fr:Fr} {m:Option (Out S R)}
  (hB:(P.follows .mixedOrders && df cx.n l && zP l mt && Nat.ble mt l.length && (rq l U mt == as) && ((List.range mt).all fun i=>(U.getD i []).all fun u=>Nat.beq u l.length || ((cj l).getD i []).contains u))=true)
  (ho:ops=l.take mt) (ht:tail=l.drop mt) (hf:Kp (zu ops) none fr base) (hh:lz l mt base=true)
  (h:AD true P cx K l tail base U [] (.a as ops 0 [] [] Γ m)):Bx (mb P cx (.dr id l K Γ fr m)):=XH [] mt U as hB ho ht hf hh .nil .nil h
end
end Go.Dk
namespace Go.Dk
open Go Go.Li
def AL:Value→Option Nat
 | .slice (some a) _ _=>some a.block
 | _=>none
def NF {α:Type} (E:ag α):Prop:=∀ {h:Array Obj} {cs:LV} {x:α} {f:LN},E.rep h cs x f→f=[]
theorem NF.i {k:IntKind}:NF (aA k):=tV
theorem NF.l {α:Type} {E:ag α} (hE:NF E) {h:Array Obj}:∀ {xs:List α} {cs:LV} {f:LN},dw E h cs xs f→f=[]:=by
 intro xs
 induction xs with
 | nil=>rintro cs f ⟨_,rfl⟩; rfl
 | cons x xs ih=>
  rintro cs f ⟨c,gw,f1,f2,rfl,rfl,h1,h2⟩
  rw [hE h1,ih h2]; rfl
structure Good {α:Type} (A:Value→α→Prop) (f:LN):Prop where
 sub:∀ u y b,A u y→AL u=some b→b∈f
 one:∀ u y u' y' b,A u y→A u' y'→AL u=some b→AL u'=some b→y=y'
inductive AA {α:Type}:{β:Type}→ag β→((Value→List α→Prop)→ag β)→Prop
 | row {e:TI} {E:ag α}:AA (aK e E) (fun A=>sx A (aK e E))
 | step {β:Type} {e:TI} {T:ag β} {T':(Value→List α→Prop)→ag β} (h:AA T T'):AA (aK e T) (fun A=>aD (T' A))
section
variable {α β:Type} {T:ag β} {T':(Value→List α→Prop)→ag β} {A A':Value→List α→Prop} {f:LN} {hp:Array Obj}
theorem AA.size (h:AA T T'):(T' A).size=T.size:=by
 cases h <;> rfl
theorem AA.mono (h:AA T T') (hA:∀ u y,A u y→A' u y):Le (T' A) (T' A'):=by
 induction h with
 | row=>exact ⟨rfl,fun h=>⟨h.1.imp fun v g=>⟨g.1,hA _ _ g.2⟩,h.2⟩⟩
 | step _ ih=>exact ih.IS
theorem AA.XI {e:TI} (ho:∀ {cs:LV} {x:β} {f:LN},T.rep hp cs x f→f.Nodup→∃ A,Good A f∧(T' A).rep hp cs x f) (hm:∀ {A A':Value→List α→Prop},(∀ u y,A u y→A' u y)→Le (T' A) (T' A')) :
  ∀ {xs:List β} {cs:LV} {f:LN},dw T hp cs xs f→f.Nodup→∃ A,Good A f∧dw (T' A) hp cs xs f:=by
 have _:=e
 intro xs
 induction xs with
 | nil=>rintro cs f ⟨rfl,rfl⟩ _; exact ⟨fun _ _=>False,⟨fun _ _ _ h=>h.elim,fun _ _ _ _ _ h=>h.elim⟩,rfl,rfl⟩
 | cons x xs ih=>
  rintro cs f ⟨c,gw,f1,f2,rfl,rfl,h1,h2⟩ hn
  obtain ⟨n1,n2,n3⟩:=List.nodup_append.1 hn
  obtain ⟨A1,g1,r1⟩:=ho h1 n1
  obtain ⟨A2,g2,r2⟩:=ih h2 n2
  refine ⟨fun u y=>A1 u y∨A2 u y,⟨fun u y b h hb=>?_,fun u y u' y' b h h' hb cq=>?_⟩,c,gw,f1,f2,rfl,rfl,(hm fun _ _=>.inl).le r1,u3 (hm fun _ _=>.inr) r2⟩
  ·exact h.elim (fun h=>List.mem_append_left _ (g1.sub u y b h hb)) (fun h=>List.mem_append_right _ (g2.sub u y b h hb))
  ·rcases h with h | h <;> rcases h' with h' | h'
   ·exact g1.one u y u' y' b h h' hb cq
   ·exact absurd rfl (n3 b (g1.sub _ _ _ h hb) b (g2.sub _ _ _ h' cq))
   ·exact absurd rfl (n3 b (g1.sub _ _ _ h' cq) b (g2.sub _ _ _ h hb))
   ·exact g2.one u y u' y' b h h' hb cq
theorem AA.opened (h:AA T T'):∀ {cs:LV} {x:β} {f:LN},T.rep hp cs x f→f.Nodup→∃ A,Good A f∧(T' A).rep hp cs x f:=by
 induction h with
 | @row e E=>
  intro cs x f hr _
  obtain ⟨base,cap,rfl,ee⟩:=id hr
  refine ⟨fun u y=>u = .slice base x.length cap∧y=x,⟨?_,?_⟩,⟨_,rfl,rfl,rfl⟩,hr⟩
  ·rintro u y b ⟨rfl,rfl⟩ hb
   rcases ee with ⟨rfl,_⟩ | ⟨b0,cur,f',rfl,_,rfl,_⟩
   ·cases hb
   ·cases hb; exact List.mem_cons_self
  ·rintro u y u' y' b ⟨_,rfl⟩ ⟨_,rfl⟩ _ _; rfl
 | @step β e T T' ho ih=>
  intro cs x f hr hn
  obtain ⟨base,cap,rfl,ee⟩:=hr
  rcases ee with ⟨rfl,_,rfl,rfl⟩ | ⟨b,cur,f',rfl,hg,rfl,h3,h4,h5,h6⟩
  ·exact ⟨fun _ _=>False,⟨fun _ _ _ h=>h.elim,fun _ _ _ _ _ h=>h.elim⟩,none,cap,rfl,.inl ⟨rfl,rfl⟩⟩
  ·obtain ⟨A,g1,g2⟩:=AA.XI (e:=e) ih (fun hA=>ho.mono hA) h6 (List.nodup_cons.1 hn).2
   refine ⟨A,⟨fun u y b h hb=>List.mem_cons_of_mem _ (g1.sub u y b h hb),g1.one⟩,_,cap,rfl,.inr ⟨b,0,cur,e,(0,0),f',rfl,hg,rfl,?_⟩⟩
   rw [List.drop_zero,ho.size]
   exact g2
end
section
variable {α:Type} {e e':TI} {E:ag α} {A:Value→List α→Prop} {ft f:LN} {hp:Array Obj}
theorem Kx (nf:NF E) (hA:Good A ft):∀ {ys:List (List α)} {us:LV} {g:LN},dw (sx A (aK e' E)) hp us ys g→ys.Nodup→
  dw (aK e' E) hp us ys g∧g.Nodup∧∀ b∈g,b∈ft∧∃ u y,A u y∧AL u=some b∧y∈ys:=by
 intro ys
 induction ys with
 | nil=>rintro us g ⟨rfl,rfl⟩ _; exact ⟨⟨rfl,rfl⟩,List.nodup_nil,fun b hb=>absurd hb List.not_mem_nil⟩
 | cons y ys ih=>
  rintro us g ⟨c,gw,g1,g2,rfl,rfl,⟨⟨u,rfl,hu⟩,hr⟩,h2⟩ hn
  obtain ⟨n1,n2⟩:=List.nodup_cons.1 hn
  obtain ⟨a1,a2,a3⟩:=ih h2 n2
  refine ⟨⟨[u],gw,g1,g2,rfl,rfl,hr,a1⟩,?_,?_⟩
  ·obtain ⟨base,cap,hv,ee⟩:=hr
   obtain rfl:u = .slice base y.length cap:=by simpa using hv
   rcases ee with ⟨_,_,_,rfl⟩ | ⟨b,cur,f',rfl,_,rfl,_,_,_,h6⟩
   ·exact a2
   ·rw [nf.l h6]
    refine List.nodup_cons.2 ⟨fun hb=>?_,a2⟩
    obtain ⟨_,u',y',h7,h8,h9⟩:=a3 b hb
    rw [hA.one _ _ _ _ b hu h7 rfl h8] at n1
    exact n1 h9
  ·intro b hb
   rcases List.mem_append.1 hb with hb | hb
   ·obtain ⟨base,cap,hv,ee⟩:=hr
    obtain rfl:u = .slice base y.length cap:=by simpa using hv
    rcases ee with ⟨_,_,_,rfl⟩ | ⟨b0,cur,f',rfl,_,rfl,_,_,_,h6⟩
    ·cases hb
    ·rw [nf.l h6,List.mem_singleton] at hb
     subst hb
     exact ⟨hA.sub _ _ _ hu rfl,_,y,hu,rfl,by simp⟩
   ·obtain ⟨b1,u',y',b2,b3,b4⟩:=a3 b hb
    exact ⟨b1,u',y',b2,b3,by simp [b4]⟩
theorem Mu {Z:Nat→Prop} {w:World} {v:Value} {ys:List (List α)} (nf:NF E) (hA:Good A ft) (ho:qh Z w f (.om e (sx A (aK e' E)) v ys)) (hn:ys.Nodup) (hf:f.Nodup) (hz:∀ b∈f,¬ Z b) :
  ∃ g,(∀ b∈g,b∈ft)∧(aK e (aK e' E)).rep w.heap [v] ys (f++g)∧(f++g).Nodup:=by
 obtain ⟨us,g,h1,h2,h3,_⟩:=ho
 obtain ⟨a1,a2,a3⟩:=Kx nf hA h2 hn
 have hl:us.length=ys.length:=by have:=js a1; rw [this]; exact Nat.mul_one _
 refine ⟨g,fun b hb=>(a3 b hb).1,?_,List.nodup_append.2 ⟨hf,a2,fun b hb c hc=>fun e=>hz b hb (h3 b (e ▸ hc))⟩⟩
 obtain ⟨base,cap,hv,hr⟩:=h1
 obtain rfl:v = .slice base us.length cap:=by simpa using hv
 rw [hl]
 rcases hr with ⟨rfl,rfl,rfl,rfl⟩ | ⟨b,cur,f',rfl,hg,rfl,c1,c2,c3,c4⟩
 ·cases ys with
  | cons y ys=>simp at hl
  | nil=>obtain ⟨_,rfl⟩:=a1; exact ⟨none,0,rfl,.inl ⟨rfl,rfl,rfl,rfl⟩⟩
 ·obtain ⟨c5,rfl⟩:=zq c4
  refine ⟨_,cap,rfl,.inr ⟨b,cur,g,rfl,hg,rfl,by rw [← hl]; exact c1,c2,c3,?_⟩⟩
  have e1:(aK e' E).size=sn.size:=rfl
  rw [e1,← hl,c5]
  exact a1
end
section
variable {P:Program} {R:Type} {cx:Cx R}
theorem ai {S S1 α β:Type} [DecidableEq (List α)] (k t0:Nat) (φ:S1→Value→Fr) (Jj:S1→List (List α)) (v0:Value) (f2:Fr) {e e':TI} {E:ag α} {T:ag β} {T':(Value→List α→Prop)→ag β} {vs:Value} {x:β} {gn:List KI} {kb:Kb R S} {c:Code} {s0:S1} {body:S1→Option (Out S1 R)} {f:S1→Option (Out S R)} {Γ Γ1 Γ2:QE} {fr:Fr}
  (ho:AA T T') (nf:NF E) (ha:rV fr (φ s0 v0)) (hf:rV fr f2) (hz:Jj s0=[]) (hv:look fr t0=some vs) (h1:dj Γ (.own T vs x) Γ1) (h2:∀ A:Value→List α→Prop,dj Γ1 (.om e (sx A (aK e' E)) v0 []) Γ2)
  (hb:∀ (A:Value→List α→Prop) s v,D P cx (.p (φ s v) [.om e (sx A (aK e' E)) v (Jj s)] f2 [.rd false (T' A) vs x] fun fr Γ=>.c ⟨[],.loop Value k (fun s v=>[.om e (sx A (aK e' E)) v (Jj s)]) φ [.rd false (T' A) vs x] f2⟩ c Γ fr (body s)))
  (hk:∀ s v,D P cx (.p (φ s v) [.own (aK e (aK e' E)) v (Jj s)] f2 [] fun fr Γ=>.mn ⟨gn,kb⟩ Γ fr (f s))) :
  Bx (mb P cx (.bk true k ⟨gn,kb⟩ (.loop c) Γ fr (ah (ae k (ai body s0)) fun s=>Uw (Jj s)>>=fun _=>f s))):=by
 have _:=hv
 rw [lg]
 intro B o Mw r w qt my
 obtain ⟨Z,F,hS,hG⟩:=my
 obtain ⟨ft,F1,qv,hT,ed⟩:=h1.sound hS
 have Jk:=hG.perm qv
 obtain ⟨n1,n2,n3⟩:=List.nodup_append.1 Jk.nd
 obtain ⟨A,hA,hR⟩:=ho.opened (hp:=w.heap) hT n1
 obtain ⟨fo,F2,mx,hO,fw⟩:=(h2 A).sound ed
 have Mx:∀ b∈ft,b < w.heap.size:=ag.lt _ hT
 have Ux:∀ b∈ft,¬ Z b:=fun b hb=>Jk.apart b (List.mem_append_left _ hb)
 have Uy:∀ b∈fo,b∈F1:=fun b hb=>mx.mem_iff.1 (List.mem_append_left _ hb)
 have sA:fo.Nodup:=(List.nodup_append.1 (mx.nodup_iff.2 n2)).1
 refine J6 (T:=TT P cx B) (LI B (fun s v=>[.om e (sx A (aK e' E)) v (Jj s)]) φ [.rd false (T' A) vs x] f2) Mw
  ⟨v0,qn (ha.all qt) (hf.sound qt),fun b=>Z b∨b∈ft,fo,⟨fo,[],(List.append_nil _).symm,by rw [hz]; exact hO.mono fun _=>.inl,⟨ft,hR,fun b hb=>.inr hb⟩,rfl⟩,sA,fun b hb=>?_,fun b hb=>hb.elim (hG.ml b) (Mx b),fun b hb=>Jk.low b (List.mem_append_right _ (Uy b hb)),fun b h=>.inl (hG.tQ b h),fun b hb=>hb.elim (hG.tj b) fun hb=>.inr (Jk.low b (List.mem_append_left _ hb)),hG.iH⟩ ?_ ?_ ?_
 ·rintro (h | h)
  ·exact Jk.apart b (List.mem_append_right _ (Uy b hb)) h
  ·exact n3 b h b (Uy b hb) rfl
 ·intro x r w he hx
  subst he
  exact vH hx
 ·rintro s r w ⟨v,h1,h2⟩ o ho
  exact (hb A s v).sound B o ho r w h1 h2
 ·rintro s r w' ⟨v,a1,Z2,Fl,Gv,ju⟩ hm
  obtain ⟨_,hn,hm⟩:=bind_some hm
  replace hn:=OY hn
  obtain ⟨f',F',rfl,vL,XJ⟩:=Gv
  have Du:F'=[]:=XJ.2
  subst Du
  rw [List.append_nil] at ju
  obtain ⟨g,s1,s2,s3⟩:=Mu nf hA vL hn ju.nd ju.apart
  refine (hk s v).sound B o hm r w' a1 ⟨B.Z,f'++g,⟨f'++g,[],(List.append_nil _).symm,s2,rfl⟩,s3,fun b hb hz=>?_,fun b hz=>ju.ml b (ju.tQ b hz),fun b hb=>?_,fun _ h=>h,fun _ h=>.inl h,ju.iH⟩
  ·rcases List.mem_append.1 hb with hb | hb
   ·exact ju.apart b hb (ju.tQ b hz)
   ·exact Ux b (s1 b hb) (hG.tQ b hz)
  ·rcases List.mem_append.1 hb with hb | hb
   ·exact ju.low b hb
   ·exact Jk.low b (List.mem_append_left _ (s1 b hb))
end
end Go.Dk
namespace Go.Dk
open Go Go.Li
section
variable {R:Type} {P:Program} {cx:Cx R} {B:Bs} {M:Type} {all l:LO} {rk:RK R M} {fr:Fr} {w:World} {Z:Nat→Prop} {F cur:LN} {Γ Γ1 Γ2 Γ3:QE}
theorem D.of {J:Jd R} (h:mb P cx J):D P cx J:=.inj (by rw [lg]; exact h)
theorem Q8 {Δ : List aw} (h : FO Δ) : ∀ {Fd : List Nat}, HL Z w Δ Fd → ∀ e ∈ Δ, fact Z w [] e := by
  induction h with
  | nil => intro Fd _ e he; cases he
  | rd _ ih =>
    intro Fd hl e he
    cases hl with
    | own h _ => exact h.elim
    | fact h k => rcases List.mem_cons.1 he with rfl | he
                  · exact h
                  · exact ih k e he
  | ak _ ih =>
    intro Fd hl e he
    cases hl with
    | own h _ => exact h.elim
    | fact h k => rcases List.mem_cons.1 he with rfl | he
                  · exact h
                  · exact ih k e he
theorem lgS {α:Type} (S:ag α) {d:Nat} {t e n bt ty:TI} {m:Option M} [ht:AN P t e n bt]
  (h:∀ v,D P cx (.o false all l rk (.own (aK e (jm n)) v [] :: .rd false (vG S) (.bool true) ([],[]) :: Γ) ((d,v) :: fr) m)):D P cx (.e false (.buildSlice t 0 #[]) (some d) ty all l rk Γ fr m):=by
 refine D.of ?_
 intro B o ho r w ha hs pos ab g
 obtain ⟨h1,i,z,h2,_⟩:=ht.h
 obtain ⟨v,w',f,hr,hC,hO⟩:=zI (E:=jm n) (r:=r) (w:=w) (d:=some d) (ty:=ty) (pos:=pos) (ab:=ab) (g:=none) h1 h2
 refine du (WL.val rfl hr ((h v).sound B o ho _ w' (aq ha) ?_))
 obtain ⟨Z,F,hS,hg⟩:=hs
 have hf:fact Z w [] (.rd false (vG S) (.bool true) ([],[])):=⟨[],⟨rfl,rfl,fun _ h=>absurd h List.not_mem_nil⟩,fun _ h=>absurd h List.not_mem_nil⟩
 exact St.put (f:=[]) (SA.fact hS hf) hg hC hO.1 hO.2.1 fun b hb=>.inr ((hO.2.2 b hb).resolve_left List.not_mem_nil)
theorem lnS {α:Type} {S:ag α} {q:Bool} {d n e:Nat} {x:OO} {v:Value} {us:List (List Value)} {xs:List α} {t ty bt:TI} {m:Option M} [ht:AN P t e n bt] (hx:bm fr x=some v) (h1:dj Γ (.own (aK e (jm n)) v us) Γ1) (hg:In (.rd false (vG S) (.bool true) (us,xs)) Γ)
  (h:D P cx (.o q all l rk Γ ((d,.int .i64 (xs.length:Int)) :: fr) m)):D P cx (.e q (.call ⟨.builtin .len,#[x],#[t]⟩) (some d) ty all l rk Γ fr m):=by
 refine D.of ?_
 intro B o ho r w ha hs pos ab g
 obtain ⟨q1,_⟩:=ht.h
 obtain ⟨Z,F,hS,hG⟩:=@_root_.id _ hs
 obtain ⟨f,F1,_,hO,_⟩:=h1.sound hS
 obtain ⟨k,hk,_⟩:=hg.rd hS []
 obtain ⟨base,cap,hv,_⟩:=hO
 obtain rfl:v = .slice base us.length cap:=by simpa using hv
 have hl:us.length=xs.length:=AK hk.2.1
 exact bz (v:=.int .i64 (xs.length:Int)) (fun w' _=>by rw [← hl]; exact vJ q1 (aR ha hx)) (h.sound B o ho _ w (aq ha) hs)
theorem ixS {α V:Type} {S:ag α} {cl:α→V→List Value} {en:α→V→List aw} {q:Bool} {d n e:Nat} {x y:OO} {v:Value} {us:List (List Value)} {xs:List α} {k:IntKind} {j:Int} {t ty bt:TI} {f:α→Option M} [ht:AN P t e n bt] (hx:bm fr x=some v) (hy:bm fr y=some (.int k j))
  (h1:dj Γ (.own (aK e (jm n)) v us) Γ1) (hg:In (.rd false (vG S) (.bool true) (us,xs)) Γ) (hs:EU S V cl en)
  (h:∀ z u,D P cx (.p [] (.rd false (Ar us j) (.bool true) (cl z u) :: en z u) fr Γ fun fr Γ=>.o q all l rk Γ ((d,.pointer (some (dc v n j))) :: fr) (f z))):D P cx (.e q (.indexAddr t x y) (some d) ty all l rk Γ fr (idx xs j>>=f)):=by
 refine D.of ?_
 intro B o ho r w ha db pos ab g
 replace hs:SO S V cl en:=by cases hs; assumption
 obtain ⟨z,hz,ho⟩:=bind_some ho
 replace hz:=rn hz
 obtain ⟨q1,i,_,q2,_,_,q3,_⟩:=ht.h
 obtain ⟨Z,F,hS,hG⟩:=db
 obtain ⟨f0,F1,_,hO,_⟩:=h1.sound hS
 obtain ⟨g0,hk,n4⟩:=hg.rd hS []
 obtain ⟨c,g1,e1,e2,e3⟩:=De j.toNat hk.2.1 hz.2
 obtain ⟨u,rfl,sJ⟩:=hs.op e2
 have hlen:us.length=xs.length:=AK hk.2.1
 have bc:j.toNat < xs.length:=(List.getElem?_eq_some_iff.1 hz.2).1
 have hv:∃ a c,v = .slice (some a) us.length c:=by
  obtain ⟨base,cap,hv,hr⟩:=hO
  obtain rfl:v = .slice base us.length cap:=by simpa using hv
  rcases hr with ⟨_,_,rfl,_⟩ | ⟨b,cur,f',rfl,_⟩
  ·rw [← hlen] at bc; simp at bc
  ·exact ⟨_,_,rfl⟩
 obtain ⟨a,c',rfl⟩:=hv
 have ei:HL Z w (.rd false (Ar us j) (.bool true) (cl z u) :: en z u) []:=.fact ⟨[],⟨rfl,⟨hz.1,e1⟩,rfl⟩,fun _ h=>absurd h List.not_mem_nil⟩ (u7 (sJ Z fun b hb=>n4 b (e3 b hb)))
 obtain ⟨F',hp,fw⟩:=ei.build hS
 refine bz (v:=.pointer (some (dc (.slice (some a) us.length c') n j))) (fun w' hC=>?_) ((h z u).sound B o ho _ w (aq ha) ⟨Z,F',fw,hG.perm (by simpa using hp)⟩)
 rw [lv q1 q2 (aR ha hx) (aR ha hy) hz.1 (by omega),q3]
 rfl
theorem Q9 {q:Bool} {d n off e:Nat} {x:OO} {v u:Value} {us:List (List Value)} {j:Int} {cs:LV} {ty:TI} {m:Option M} (h1:dj Γ (.own (aK e (jm n)) v us) Γ1) (hp:In (.rd false (Ar us j) (.bool true) cs) Γ) (hc:cs[off]? = some u)
  (k:D P cx (.o q all l rk Γ ((d,u) :: fr) m)):D P cx (.la ((dc v n j).add off) none q ty x d all l rk Γ fr m):=by
 refine D.of ?_
 intro ht hx B o ho r w ha hs t pos ab g
 obtain ⟨Z,F,hS,_⟩:=@_root_.id _ hs
 obtain ⟨f,F1,_,hO,_⟩:=h1.sound hS
 obtain ⟨_,⟨_,⟨hj,hu⟩,_⟩,_⟩:=hp.rd hS []
 exact bz (Ld ht ((xW hO hj hu).2.2 off u hc) (aR ha hx)) (k.sound B o ho _ w (aq ha) hs)
theorem OZ {q:Bool} {d n e:Nat} {x:OO} {v u:Value} {us:List (List Value)} {j:Int} {cs:LV} {ty:TI} {m:Option M} (h1:dj Γ (.own (aK e (jm n)) v us) Γ1) (hp:In (.rd false (Ar us j) (.bool true) cs) Γ) (hc:cs[0]? = some u)
  (k:D P cx (.o q all l rk Γ ((d,u) :: fr) m)):D P cx (.la (dc v n j) none q ty x d all l rk Γ fr m):=by
 have e:(dc v n j).add 0=dc v n j:=rfl
 rw [← e]
 exact Q9 h1 hp hc k
theorem Uz {q:Bool} {d n e:Nat} {x:OO} {v:Value} {us:List (List Value)} {j:Int} {cs:LV} {ty:TI} {m:Option M} (h1:dj Γ (.own (aK e (jm n)) v us) Γ1) (hp:In (.rd false (Ar us j) (.bool true) cs) Γ)
  (k:D P cx (.o q all l rk Γ ((d,.agg cs.toArray) :: fr) m)):D P cx (.la (dc v n j) (some n) q ty x d all l rk Γ fr m):=by
 refine D.of ?_
 intro ht hx B o ho r w ha hs t pos ab g
 obtain ⟨Z,F,hS,_⟩:=@_root_.id _ hs
 obtain ⟨f,F1,_,hO,_⟩:=h1.sound hS
 obtain ⟨_,⟨_,⟨hj,hu⟩,_⟩,_⟩:=hp.rd hS []
 obtain ⟨e1,_,e3⟩:=xW hO hj hu
 exact bz (Lg ht (fun i u hi=>e3 i u hi) (aR ha hx) e1) (k.sound B o ho _ w (aq ha) hs)
theorem apS {α V:Type} {S:ag α} {cl:α→V→List Value} {en:α→V→List aw} (y:α) {u:V} {d b n e bt:Nat} {s x:OO} {sv:Value} {us:List (List Value)} {xs:List α} {cs:LV} {t et ty:TI} {f:Unit→Option M} [ht:AN P t e n bt]
  (hs:bm fr s=some sv) (hx:bm fr x=some (.slice (some ⟨b,0,none⟩) 1 1)) (h0:dj Γ (.row b cs et) Γ1) (h1:dj Γ1 (.own (aK e (jm n)) sv us) Γ2) (hg:In (.rd false (vG S) (.bool true) (us,xs)) Γ2) (rJ:EU S V cl en) (_hv:bp V u) (hc:cs=cl y u) (ho:bd Γ cs) (hn:cs.length=n) (UA:FO (en y u)) (hf:EF Γ2 (en y u) Γ3)
  (h:∀ v,D P cx (.o false all l rk (.own (aK e (jm n)) v (us++[cs]) :: .rd false (vG S) (.bool true) (us++[cs],xs++[y]) :: Γ3) ((d,v) :: fr) (f ()))):D P cx (.e false (.call ⟨.builtin .append,#[s,x],#[t,t]⟩) (some d) ty all l rk Γ fr (fits bt (xs.length+1)>>=f)):=by
 refine D.of ?_
 intro B o bw r w ha db pos ab g
 have Ew:SO S V cl en:=by cases rJ; assumption
 obtain ⟨_,hu,bw⟩:=bind_some bw
 obtain ⟨b1,b2⟩:=iq hu
 obtain ⟨q1,i,z,q2,q3,q4,q5,q6,_⟩:=ht.h
 obtain ⟨Z,F,hS,hG⟩:=db
 have F6:=ho.one hS
 obtain ⟨n0,F0,qu,⟨rfl,bh⟩,rW⟩:=h0.sound hS
 obtain ⟨k,F1,hp,hO,ed⟩:=h1.sound rW
 obtain ⟨Fd,F2,Zn,UB,fw,mx⟩:=hf.sound ed
 obtain ⟨g0,hk,n4⟩:=hg.rd ed []
 have hlen:us.length=xs.length:=AK hk.2.1
 have qo:((k++F1)++[b]).Perm F:=(List.perm_append_comm.trans (hp.append_left [b])).trans qu
 have ju:Gd B Z (k++F1) w:=Gd.left (F':=[b]) (hG.perm qo)
 have xQ:((k++F2)++(Fd++Zn)).Perm (k++F1):=by
  rw [List.append_assoc]
  refine List.Perm.append_left k (.trans ?_ mx)
  rw [← List.append_assoc]
  exact (List.perm_append_comm (l₁:=F2) (l₂:=Fd)).append_right Zn
 have lp:Gd B Z ((k++F2)++(Fd++Zn)) w:=ju.perm xQ
 have bc:∀ b∈Fd++Zn,b < w.heap.size:=fun b hb=>by
  have h3:b∈k++F1:=xQ.mem_iff.1 (List.mem_append_right _ hb)
  rcases List.mem_append.1 h3 with h3 | h3
  ·exact ag.lt _ hO b h3
  ·exact ed.lt b h3
 have vK:Gd B (rO Z (Fd++Zn)) (k++F2) w:=lp.freeze bc
 have DE:∀ b,rO Z Zn b→rO Z (Fd++Zn) b:=fun b hb=>hb.imp id fun h=>List.mem_append_right _ h
 obtain ⟨g1,xL,DF⟩:=Ew.cl (x:=y) (v:=u) (Z:=rO Z (Fd++Zn)) (w:=w) (Q8 UA (UB.mono DE))
 have hdk:sb [] k:=fun _ h=>absurd h List.not_mem_nil
 have hE:dw (jm n) w.heap cs [cs] []:=⟨cs,[],[],[],by simp,by simp,⟨rfl,hn,F6,rfl⟩,rfl,rfl⟩
 obtain ⟨v,w',f',iw,hC,dq,cg,cn⟩:=mw (E:=jm n) (d:=some d) (ty:=ty) (pos:=pos) (ab:=ab) (g:=none) (k:=[]) (ys:=[cs]) (news:=cs) q1 q2 q3 (by rw [q5]; rfl) (by rw [q4]; rfl) (aR ha hs) hO (List.nodup_append.1 ju.nd).1 (aR ha hx) (fun i u hi=>bh.at i u hi) hE hdk (by simp) (by rw [q6,hlen]; exact b1) (by rw [hlen]; exact b2)
 refine du (WL.val rfl iw ((h v).sound B o bw _ w' (aq ha) ?_))
 have UC:fact (rO Z (Fd++Zn)) w [] (.rd false (vG S) (.bool true) (us++[cs],xs++[y])):=by
  rw [hc]
  refine ⟨g0++g1,⟨rfl,Th xL hk.2.1,fun b hb=>?_⟩,fun b hb=>?_⟩
  ·rcases List.mem_append.1 hb with hb | hb
   ·exact hk.2.2 b hb
   ·exact S.lt xL b hb
  ·rcases List.mem_append.1 hb with hb | hb
   ·exact .inl (n4 b hb)
   ·exact DF b hb
 exact St.put (SA.fact (fw.mono DE fun _ h=>h) UC) vK hC dq (cn List.nodup_nil) fun b hb=>(cg b hb).imp id fun h=>h.resolve_left List.not_mem_nil
theorem Se {n:Nat} {h:Array Obj}:∀ {us:List (List Value)} {cs:LV} {f:LN},dw (jm n) h cs us f→∀ c∈us,c.length=n∧∀ v∈c,v.oneCell'=true:=by
 intro us
 induction us with
 | nil=>intro cs f _ c hc; cases hc
 | cons a us ih=>
  rintro cs f ⟨c',gw,f1,f2,rfl,rfl,⟨rfl,h1,h2,rfl⟩,h3⟩ c hc
  rcases List.mem_cons.1 hc with rfl | hc
  ·exact ⟨h1,h2⟩
  ·exact ih h3 c hc
theorem Sf {n:Nat} {h:Array Obj}:∀ {us:List (List Value)},(∀ c∈us,c.length=n∧∀ v∈c,v.oneCell'=true)→dw (jm n) h us.flatten us []:=by
 intro us
 induction us with
 | nil=>intro _; exact ⟨rfl,rfl⟩
 | cons a us ih=>
  intro hc
  have h1:=hc a (by simp)
  exact ⟨a,us.flatten,[],[],by simp,rfl,⟨rfl,h1.1,h1.2,rfl⟩,ih fun c hm=>hc c (by simp [hm])⟩
theorem Iw {n:Nat} {c:LV}:∀ {us:List (List Value)} {j:Nat},(∀ x∈us,x.length=n)→j < us.length→(us.set j c).flatten=us.flatten.take (j * n)++c++us.flatten.drop (j * n+n)∧j * n+n≤us.flatten.length:=by
 intro us
 induction us with
 | nil=>intro j _ hj; simp at hj
 | cons a us ih=>
  intro j hl hj
  have ha:a.length=n:=hl a (by simp)
  cases j with
  | zero=>refine ⟨?_,by simp [ha]⟩; simp [← ha]
  | succ j=>
   obtain ⟨h1,h2⟩:=ih (j:=j) (fun x hx=>hl x (by simp [hx])) (by simpa using hj)
   have e:(j+1) * n=n+j * n:=by rw [Nat.add_mul,Nat.one_mul,Nat.add_comm]
   refine ⟨?_,by rw [e,List.flatten_cons,List.length_append,ha]; omega⟩
   rw [List.set_cons_succ,List.flatten_cons,List.flatten_cons,h1,e,List.take_append,List.drop_append,ha]
   have e1:List.take (n+j * n) a=a:=List.take_of_length_le (by omega)
   have e2:List.drop (n+j * n+n) a=[]:=List.drop_eq_nil_of_le (by omega)
   rw [e1,e2,show n+j * n - n=j * n by omega,show n+j * n+n - n=j * n+n by omega]
   simp
theorem stS {α V:Type} {S:ag α} {cl:α→V→List Value} {en:α→V→List aw} (y:α) {u:V} {n e:Nat} {x0 y0:OO} {v:Value} {j:Int} {us:List (List Value)} {xs:List α} {cs c0:LV} {t ty:TI} {m:Option M}
  (h1:dj Γ (.own (aK e (jm n)) v us) Γ1) (hp:In (.rd false (Ar us j) (.bool true) c0) Γ) (hg:In (.rd false (vG S) (.bool true) (us,xs)) Γ1) (rJ:EU S V cl en) (_hv:bp V u) (hc:cs=cl y u) (ho:bd Γ cs) (hn:cs.length=n) (UA:FO (en y u)) (hf:EF Γ1 (en y u) Γ2)
  (h:D P cx (.o false all l rk (.own (aK e (jm n)) v (us.set j.toNat cs) :: .rd false (vG S) (.bool true) (us.set j.toNat cs,xs.set j.toNat y) :: Γ2) fr m)):D P cx (.st (dc v n j) (.agg cs.toArray) n t x0 y0 ty all l rk Γ fr m):=by
 refine D.of ?_
 intro hT hx hy B o bw r w ha db pos ab g
 have Ew:SO S V cl en:=by cases rJ; assumption
 obtain ⟨i,q1,q2⟩:=hT
 obtain ⟨Z,F,hS,hG⟩:=db
 have F6:=ho.one hS
 obtain ⟨_,⟨_,⟨hj,hu⟩,_⟩,_⟩:=hp.rd hS []
 obtain ⟨k,F1,qv,hO,ed⟩:=h1.sound hS
 obtain ⟨Fd,F2,Zn,UB,fw,mx⟩:=hf.sound ed
 obtain ⟨g0,hk,n4⟩:=hg.rd ed []
 have ju:Gd B Z (k++F1) w:=hG.perm qv
 have xQ:((k++F2)++(Fd++Zn)).Perm (k++F1):=by
  rw [List.append_assoc]
  refine List.Perm.append_left k (.trans ?_ mx)
  rw [← List.append_assoc]
  exact (List.perm_append_comm (l₁:=F2) (l₂:=Fd)).append_right Zn
 have lp:Gd B Z ((k++F2)++(Fd++Zn)) w:=ju.perm xQ
 have bc:∀ b∈Fd++Zn,b < w.heap.size:=fun b hb=>by
  have h3:b∈k++F1:=xQ.mem_iff.1 (List.mem_append_right _ hb)
  rcases List.mem_append.1 h3 with h3 | h3
  ·exact ag.lt _ hO b h3
  ·exact ed.lt b h3
 have vK:Gd B (rO Z (Fd++Zn)) (k++F2) w:=lp.freeze bc
 have DE:∀ b,rO Z Zn b→rO Z (Fd++Zn) b:=fun b hb=>hb.imp id fun h=>List.mem_append_right _ h
 obtain ⟨g1,xL,DF⟩:=Ew.cl (x:=y) (v:=u) (Z:=rO Z (Fd++Zn)) (w:=w) (Q8 UA (UB.mono DE))
 obtain ⟨g2,QK,YA⟩:=Lz (c:=cs) (by rw [hc]; exact xL) j.toNat hk.2.1
 have UC:fact (rO Z (Fd++Zn)) w [] (.rd false (vG S) (.bool true) (us.set j.toNat cs,xs.set j.toNat y)):=by
  refine ⟨g2,⟨rfl,QK,fun b hb=>?_⟩,fun b hb=>?_⟩
  ·exact (YA b hb).elim (hk.2.2 b) (S.lt xL b)
  ·exact (YA b hb).elim (fun h=>.inl (n4 b h)) (DF b)
 have Az:j.toNat < us.length:=(List.getElem?_eq_some_iff.1 hu).1
 obtain ⟨base,cap,mm,hr⟩:=hO
 obtain rfl:v = .slice base us.length cap:=by simpa using mm
 rcases hr with ⟨_,_,rfl,_⟩ | ⟨b,cur,f',rfl,h2,rfl,h4,h5,h6,h3⟩
 ·simp at Az
 ·obtain ⟨YB,tx⟩:=Gc h3
  subst tx
  have ei:=Se h3
  obtain ⟨e1,e2⟩:=Iw (c:=cs) (fun x hx=>(ei x hx).1) Az
  have bh:Row w b cur.toList e:=by unfold Row; simpa using h2
  have UD:cur.toList=us.flatten++cur.toList.drop (us.length * n):=by
   rw [← YB]; exact (List.take_append_drop _ _).symm
  have wV:dc (.slice (some ⟨b,0,none⟩) us.length cap) n j = ⟨b,j.toNat * n,none⟩:=by
   simp only [dc,iu,Nat.zero_add]
  rw [wV] at hx
  have hle:j.toNat * n+cs.length≤cur.toList.length:=by
   rw [hn,UD,List.length_append]; omega
  have iw:=vv (P:=P) (d:=none) (ty:=ty) (pos:=pos) (ab:=ab) (gg:=none) q1 (by rw [hn,q2]) bh hle (aR ha hx) (y:=y0) (by rw [aR ha hy]; rfl) F6
  refine du (WL.skip rfl iw (h.sound B o bw _ _ ha ?_))
  have yq:cur.toList.take (j.toNat * n)++cs++cur.toList.drop (j.toNat * n+cs.length)=(us.set j.toNat cs).flatten++cur.toList.drop (us.length * n):=by
   rw [hn,e1]
   conv=>lhs; rw [UD]
   rw [List.take_append_of_le_length (by omega),List.drop_append_of_le_length (by omega)]
   simp
  have r3:=setRow_heap w b cur (cur.toList.take (j.toNat * n)++cs++cur.toList.drop (j.toNat * n+cs.length)).toArray e _ h2
  refine St.put (f:=[b]) (f':=[b]) (SA.fact (fw.mono DE fun _ h=>h) UC) vK ⟨rfl,rfl,rfl,Nat.le_refl _,by simp,fun j' _ gy=>setRow_other w b j' _ fun h=>gy (by simp [h])⟩ ?_ (by simp) (fun b hb=>.inl hb)
  refine ⟨_,cap,by rw [List.length_set],.inr ⟨b,_,[],rfl,r3,rfl,by rw [List.length_set]; exact h4,h5,?_,?_⟩⟩
  ·rw [← h6]
   simp only [List.size_toArray,yq]
   have e3:(us.set j.toNat cs).flatten.length=us.flatten.length:=by
    rw [e1]; simp only [List.length_append,List.length_take,List.length_drop,hn]; omega
   rw [List.length_append,e3,← List.length_append,← UD,Array.length_toList]
  ·rw [List.toList_toArray,yq,List.length_set]
   have akT:(us.set j.toNat cs).flatten.length=us.length * n:=by
    have e3:(us.set j.toNat cs).flatten.length=us.flatten.length:=by
     rw [e1]; simp only [List.length_append,List.length_take,List.length_drop,hn]; omega
    rw [e3]
    have:=js h3
    rw [YB] at this
    exact this
   show dw (jm n) _ (List.take (us.length * n) _) _ _
   rw [List.take_append_of_le_length (by omega),List.take_of_length_le (by omega)]
   refine Sf fun c hm=>?_
   rcases List.mem_or_eq_of_mem_set hm with hm | rfl
   ·exact ei c hm
   ·exact ⟨hn,F6⟩
theorem yt {α:Type} {E:ag α} {d n:Nat} {t e ty:TI} {ps:List (Nat×Operand)} {us:LV} {xs:List α} {m:Option M} [hz:LC P t e] (hl:u5 Γ fr 0 ps us) (hn:us.length=n) (hb:(Nat.ble 1 n && Nat.ble n 16777216)=true) (hx:Gj Γ E us xs Γ1) (hE:E.size=1)
  (h:∀ v,D P cx (.o false all l rk (.own (aK e E) v xs :: Γ1) ((d,v) :: fr) m)):D P cx (.e false (.buildSlice t n ps.toArray) (some d) ty all l rk Γ fr m):=by
 refine D.of ?_
 intro B o ho r w ha hs pos ab g
 obtain ⟨Z,F,hS,hg⟩:=hs
 refine du (WL.val rfl (hl.op ha hS ⟨hz.h⟩ hn hb) ((h _).sound B o ho _ _ (aq ha) ?_))
 obtain ⟨e1,f,F2,mx,hr,fw⟩:=hx.sound hS
 have zw:n≤16777216:=by
  rw [Bool.and_eq_true] at hb
  exact Nat.le_of_ble_eq_true hb.2
 have hC:an [] w (w.alloc (.cells us.toArray e)):=an.alloc _ _ _
 have fe:Gd B Z (f++F2) w:=hg.perm mx
 have bc:∀ b∈f,b < w.heap.size:=mc hr
 have yq:=heap_alloc_new w (.cells us.toArray e)
 have ee:dw E (w.alloc (.cells us.toArray e)).heap us xs f:=j4 hr fun b hb=>hC.block b (bc b hb) (fun h=>absurd h List.not_mem_nil)
 refine St.put (f:=f) (f':=w.heap.size :: f) fw fe (an.mono hC fun _ h=>absurd h List.not_mem_nil) ⟨_,n,by rw [← hn,e1],.inr ⟨w.heap.size,us.toArray,f,rfl,yq,rfl,by rw [← hn,e1]; exact Nat.le_refl _,Nat.le_trans zw (by decide),by rw [hE,Nat.mul_one]; simp [hn],?_⟩⟩ ?_ ?_
 ·rw [hE,Nat.mul_one,List.toList_toArray,← e1,List.take_length]
  exact ee
 ·exact List.nodup_cons.2 ⟨fun hm=>Nat.lt_irrefl _ (bc _ hm),(List.nodup_append.1 fe.nd).1⟩
 ·intro b hb
  rcases List.mem_cons.1 hb with rfl | hb
  ·exact .inr (Nat.le_refl _)
  ·exact .inl hb
theorem Q0 {α:Type} {d b:Nat} {s x:OO} {v u yv:Value} {j:Int} {y:α} {z:List α} {xs:List (List α)} {t e e' et ty:TI} {E E':ag α} {z0:α} {bt:Nat} {o1 o2:Bool} {Γx:QE} {f:Unit→Option M} [hT:qp P t α e E z0 bt] (hs:bm fr s=some u) (hx:bm fr x=some (.slice (some ⟨b,0,none⟩) 1 1)) (hl:Loc Γ u (.row v j)) (h0:dj Γ (.row b [yv] et) Γ1) (hz:ll Γ u o1 o2 E' z px Γx) (h1:dj Γ1 (.own (aK e' (aK e E)) v xs) Γ2) (hr:RT (aK e E) (aD E')) (hy:Cn Γ2 E yv y Γ3)
  (h:∀ v',D P cx (.o false all l rk (.own (aK e E) v' (z++[y]) :: .own (rL e' (aK e E) j.toNat) v xs :: Γ3) ((d,v') :: fr) (f ()))):D P cx (.e false (.call ⟨.builtin .append,#[s,x],#[t,t]⟩) (some d) ty all l rk Γ fr (fits bt (z.length+1)>>=f)):=by
 refine D.of ?_
 intro B o bw r w ha db pos ab g
 obtain ⟨_,hu,bw⟩:=bind_some bw
 obtain ⟨b1,b2⟩:=iq hu
 obtain ⟨q1,q2,i,zz,q3,q4,q5,q6,q7,_⟩:=hT.h
 obtain ⟨Z,F,hS,hG⟩:=db
 obtain ⟨j0,j1,ji⟩:=Loc.row hl rfl hS
 obtain ⟨dk,_,⟨⟨gz,n4,_⟩,_⟩,_⟩:=hz.sound hS
 obtain ⟨n0,F0,qu,⟨rfl,bh⟩,rW⟩:=h0.sound hS
 obtain ⟨fm,F1,qv,hO,ed⟩:=h1.sound rW
 obtain ⟨ky,F2,mx,T5,fw⟩:=hy.sound ed
 rw [rm hO] at j1
 obtain ⟨k,gm,a1,a2,a3⟩:=CI rfl hO (List.getElem?_eq_getElem j1) ji
 have Mi:xs[j.toNat]=z:=hr.uq (hr.le.le a1) n4
 rw [Mi] at a1
 have qo:((k++ky)++(gm++F2)).Perm (fm++F1):=by
  have e1:((k++gm)++(ky++F2)).Perm (fm++F1):=(a2.append_right _).trans (mx.append_left fm)
  refine .trans ?_ e1
  rw [List.append_assoc,List.append_assoc]
  refine List.Perm.append_left k ?_
  rw [← List.append_assoc,← List.append_assoc]
  exact List.perm_append_comm.append_right F2
 have ju:Gd B Z ((k++ky)++(gm++F2)) w:=Gd.left (F':=[b]) (hG.perm (((qo.append_right [b]).trans (List.perm_append_comm.trans (qv.append_left [b]))).trans qu))
 have cn:=(List.nodup_append.1 ju.nd).1
 have wZ:=List.nodup_append.1 cn
 obtain ⟨v',w',f',iw,hC,dq,cg,zL⟩:=mw (E:=E) (d:=some d) (ty:=ty) (pos:=pos) (ab:=ab) (g:=none) (k:=ky) (ys:=[y]) (news:=[yv]) q1 q3 q4 (by rw [q5,q2]) (by rw [cells_one q6,q2]; rfl) (aR ha hs) a1 wZ.1 (aR ha hx) (fun i u hi=>bh.at i u hi) (ou T5) (fun b hb hm=>wZ.2.2 b hm b hb rfl) (by simp) (by rw [q7]; exact b1) b2
 refine du (WL.val rfl iw ((h v').sound B o bw _ w' (aq ha) ?_))
 have hSh:SA Z w (.own (rL e' (aK e E) j.toNat) v xs :: Γ3) [] (gm++F2):=SA.cons fw (e:=.own (rL e' (aK e E) j.toNat) v xs) a3
 refine St.put hSh ju (hC.mono fun b hb=>List.mem_append_left _ hb) dq (zL wZ.2.1) fun b hb=>?_
 rcases cg b hb with h | h | h
 ·exact .inl (List.mem_append_left _ h)
 ·exact .inl (List.mem_append_right _ h)
 ·exact .inr h
theorem ixH {α:Type} {q:Bool} {d j0:Nat} {x y:OO} {v:Value} {k:IntKind} {j:Int} {xs:List α} {t e ty:TI} {E:ag α} {f:α→Option M} [ht:uW P t] (hx:bm fr x=some v) (hy:bm fr y=some (.int k j)) (h1:dj Γ (.own (rL e E j0) v xs) Γ1)
  (h:∀ z,D P cx (.o q all l rk Γ ((d,.pointer (some (dc v 1 j))) :: fr) (f z))):D P cx (.e q (.indexAddr t x y) (some d) ty all l rk Γ fr (idx xs j>>=f)):=by
 refine D.of ?_
 intro B o ho r w ha hs pos ab g
 obtain ⟨z,hz,ho⟩:=bind_some ho
 replace hz:=rn hz
 obtain ⟨e',i,q1,q2,q3⟩:=ht.h
 obtain ⟨Z,F,hS,_⟩:=@_root_.id _ hs
 obtain ⟨f0,F1,_,⟨b,cap,cur,f1,f2,p,c0,qq,hv,_⟩,_⟩:=h1.sound hS
 obtain rfl:v = .slice (some ⟨b,0,none⟩) xs.length cap:=by simpa using hv
 have bc:j.toNat < xs.length:=(List.getElem?_eq_some_iff.1 hz.2).1
 have GY:=hz.1
 refine bz (v:=.pointer (some (dc (.slice (some ⟨b,0,none⟩) xs.length cap) 1 j))) (fun w' hC=>?_) ((h z).sound B o ho _ w (aq ha) hs)
 rw [lv q1 q2 (aR ha hx) (aR ha hy) hz.1 (by omega),q3]
 rfl
theorem stR {α:Type} {x0 y0:OO} {v u:Value} {j:Int} {z:α} {xs:List α} {t e ty:TI} {E:ag α} {m:Option M} (h1:dj Γ (.own E u z) Γ1) (h2:dj Γ1 (.own (rL e E j.toNat) v xs) Γ2)
  (h:D P cx (.o false all l rk (.own (aK e E) v (xs.set j.toNat z) :: Γ2) fr m)):D P cx (.st (dc v 1 j) u 1 t x0 y0 ty all l rk Γ fr m):=by
 refine D.of ?_
 intro hT hx hy B o bw r w ha db pos ab g
 obtain ⟨i,q1,q2⟩:=hT
 obtain ⟨Z,F,hS,hG⟩:=db
 obtain ⟨k,F1,qv,hK,ed⟩:=h1.sound hS
 obtain ⟨gm,F2,mx,hM,fw⟩:=h2.sound ed
 have xQ:((gm++k)++F2).Perm F:=by
  refine .trans ?_ qv
  refine .trans ?_ (mx.append_left k)
  rw [← List.append_assoc k gm F2]
  exact List.perm_append_comm.append_right F2
 have ju:Gd B Z ((gm++k)++F2) w:=hG.perm xQ
 have cn:=(List.nodup_append.1 ju.nd).1
 obtain ⟨b,cap,cur,f1,f2,p,c0,qq,hv,g1,rfl,⟨g2,g3,g4,g5⟩,g6,⟨g7,g8⟩,g9,g10⟩:=hM
 obtain rfl:v = .slice (some ⟨b,0,none⟩) xs.length cap:=by simpa using hv
 have wV:dc (.slice (some ⟨b,0,none⟩) xs.length cap) 1 j = ⟨b,j.toNat,none⟩:=by
  simp only [dc,iu,Nat.zero_add,Nat.mul_one]
 rw [wV] at hx
 have bh:Row w b cur.toList e:=by unfold Row; simpa using g1
 have Td:∀ i∈(f1++f2)++k,i≠b:=by
  intro i hi he
  subst he
  have e1:((i :: (f1++f2))++k)=i :: ((f1++f2)++k):=rfl
  rw [e1] at cn
  exact (List.nodup_cons.1 cn).1 hi
 refine du (WL.Gu q1 q2 bh (by rw [Array.length_toList,g4]; omega) (aR ha hx) (aR ha hy) (E.one hK u (by simp)) fun w' hC qc=>h.sound B o bw _ w' ha ?_)
 have F7:∀ i∈(f1++f2)++k,i < w.heap.size→w'.heap[i]? = w.heap[i]?:=fun i hi hl=>hC.block i hl fun hm=>Td i hi (by simpa using hm)
 have hK':E.rep w'.heap [u] z k:=E.congr hK fun i hi=>F7 i (List.mem_append_right _ hi) (E.lt hK i hi)
 have QM:=g10 w'.heap (fun i hi=>F7 i (List.mem_append_left _ hi) (g9 i hi)) u z k hK'
 refine St.put (f:=(b :: (f1++f2))++k) (f':=b :: (f1++k++f2)) fw ju (hC.mono fun i hi=>by rw [List.mem_singleton.1 hi]; simp) ⟨_,cap,by rw [List.length_set],.inr ⟨b,_,f1++k++f2,rfl,qc,rfl,by rw [List.length_set]; exact g2,g3,?_,?_⟩⟩ ?_ ?_
 ·rw [g5]; simp [g4]
 ·have r3:((cur.toList.set j.toNat u).take xs.length)=p++[u]++qq:=by
   rw [List.take_set,g6,← g7]
   simp
  rw [List.length_set,g5,Nat.mul_one]
  simpa [r3] using QM
 ·have yN:(b :: (f1++k++f2)).Perm ((b :: (f1++f2))++k):=by
   rw [List.cons_append]
   refine List.Perm.cons b ?_
   rw [List.append_assoc,List.append_assoc]
   exact List.Perm.append_left f1 List.perm_append_comm
  exact yN.nodup_iff.2 cn
 ·intro i hi
  refine .inl ?_
  rcases List.mem_cons.1 hi with rfl | hi
  ·simp
  ·rcases List.mem_append.1 hi with hi | hi
   ·rcases List.mem_append.1 hi with hi | hi <;> simp [hi]
   ·simp [hi]
theorem DG {S S1 V W:Type} (k:Nat) (Δ:S1→V→W→List aw) (φ:S1→V→W→Fr) (v0:V) (w0:W) (f2:Fr) {gn:List KI} {kb:Kb R S} {c:Code} {s0:S1} {body:S1→Option (Out S1 R)} {f:S1→Option (Out S R)}
  (ha:rV fr (φ s0 v0 w0)) (hf:rV fr f2) (h0:EO Γ (Δ s0 v0 w0) Γ1) (hn:OW Γ (Δ s0 v0 w0)) (hs:j6 Γ1 Γ2)
  (hb:∀ s v w,D P cx (.p (φ s v w) (Δ s v w) f2 Γ2 fun fr Γ=>.c ⟨[],.loop (V×W) k (fun s v=>Δ s v.1 v.2) (fun s v=>φ s v.1 v.2) Γ2 f2⟩ c Γ fr (body s)))
  (hk:∀ s v w,D P cx (.p (φ s v w) (Δ s v w) f2 Γ2 fun fr Γ=>.mn ⟨gn,kb⟩ Γ fr (f s))):Bx (mb P cx (.bk true k ⟨gn,kb⟩ (.loop c) Γ fr (ah (ae k (Li.ai body s0)) f))):=
 loop k (fun s v=>Δ s v.1 v.2) (fun s v=>φ s v.1 v.2) (v0,w0) f2 ha hf h0 hn hs (fun s v=>hb s v.1 v.2) (fun s v=>hk s v.1 v.2)
def GZ {α:Type} (v:Value) (_:List α):Prop:=∃ a n c,v = .slice a n c∧n≤c
theorem Le.cap {α:Type} {T E:ag α} (hl:Le T E) (e:TI):Le (aK e T) (sx GZ (aD E)):=by
 refine ⟨rfl,fun {h cs x f} hr=>⟨?_,(Le.own hl e).le hr⟩⟩
 obtain ⟨base,cap,rfl,hr⟩:=hr
 refine ⟨_,rfl,_,_,_,rfl,?_⟩
 rcases hr with ⟨_,_,rfl,_⟩ | ⟨_,_,_,_,_,_,h,_⟩
 ·exact Nat.zero_le _
 ·exact h
theorem Sg {α:Type} {T E:ag α} {e e2:TI} {v:Value} {xs:List (List α)} {f:LN} {h:Array Obj} (hl:Le T E) (hO:(aK e (aK e2 T)).rep h [v] xs f) :
  ∃ fo fz us,(fo++fz).Perm f∧(aK e sn).rep h [v] us fo∧dw (sx GZ (aD E)) h us xs fz:=by
 obtain ⟨base,cap,hv,hr⟩:=hO
 rcases hr with ⟨rfl,rfl,rfl,rfl⟩ | ⟨b,cur,f',rfl,h2,rfl,h4,h5,h6,h3⟩
 ·exact ⟨[],[],[],.refl _,⟨none,0,by simpa using hv,.inl ⟨rfl,rfl,rfl,rfl⟩⟩,rfl,rfl⟩
 ·have h7:=js h3
  have h8:(aK e2 T).size=1:=rfl
  rw [h8,Nat.mul_one] at h6 h3 h7
  try rw [Nat.mul_one] at h7
  refine ⟨[b],f',cur.toList.take xs.length,.refl _,⟨_,cap,by rw [h7]; exact hv,.inr ⟨b,cur,[],rfl,h2,rfl,by rw [h7]; exact h4,h5,by rw [h6]; exact (Nat.mul_one _).symm,?_⟩⟩,u3 (Le.cap hl e2) h3⟩
  have h9:sn.size=1:=rfl
  rw [h9,Nat.mul_one,h7]
  exact Cs (CN h3)
theorem St.frz {α:Type} {T E:ag α} {e e2:TI} {v:Value} {xs:List (List α)} (hs:St B Γ w) (h1:EO Γ [.own (aK e (aK e2 T)) v xs] Γ1) (hr:RT T E):St B (.om e (sx GZ (aD E)) v xs :: Γ1) w:=by
 obtain ⟨Z,F,hS,hG⟩:=hs
 obtain ⟨_,F1,hH,ed,hp⟩:=h1.sound hS
 obtain ⟨f,hO,hp⟩ : ∃ f,(aK e (aK e2 T)).rep w.heap [v] xs f∧(f++F1).Perm F:=by
  cases hH with
  | own h k=>cases k; exact ⟨_,h,by simpa using hp⟩
 obtain ⟨fo,fz,us,hf,ho,hl⟩:=Sg hr.le hO
 have xQ:((fo++F1)++fz).Perm F:=by
  refine .trans ?_ hp
  refine .trans ?_ (hf.append_right F1)
  rw [List.append_assoc,List.append_assoc]
  exact List.Perm.append_left fo List.perm_append_comm
 have lp:=Gd.freeze (hG.perm xQ) fun b hb=>hS.lt b (xQ.mem_iff.1 (List.mem_append_right _ hb))
 exact ⟨rO Z fz,fo++F1,SA.cons (ed.mono (fun _ h=>.inl h) fun _ h=>h) ⟨us,fz,ho,hl,fun b hb=>.inr hb,rfl⟩,lp⟩
theorem XK {S:Type} {id:Nat} (k:Nat) {K:dh R S} {l ops YC:LO} {α:Type} {T E:ag α} {e e2:TI} {v:Value} {xs:List (List α)} {m:Option (Out S R)} (hB:(P.follows .mixedOrders && df cx.n l && ((l.take k).all fun o=>w4 o.op) && Region.lexTailB .any l.toArray k)=true) (ho:ops=l.take k) (ht:YC=l.drop k)
  (h1:EO Γ [.own (aK e (aK e2 T)) v xs] Γ1) (hr:RT T E) (h:D P cx (.o true l ops (.h l YC K) (.om e (sx GZ (aD E)) v xs :: Γ1) fr m)):Bx (mb P cx (.dr id l K Γ fr m)):=by
 have h2:=tail (id:=id) k hB ho ht h
 rw [lg] at h2 ⊢
 exact fun B o bw r w ha hs=>h2 B o bw r w ha (hs.frz h1 hr)
theorem My {α:Type} {E:ag α} {h:Array Obj}:∀ {xs:List α} {cs:LV} {f:LN} (n:Nat),dw E h cs xs f→∃ f3,dw E h (cs.drop (n * E.size)) (xs.drop n) f3∧∀ b∈f3,b∈f:=by
 intro xs
 induction xs with
 | nil=>rintro cs f n ⟨rfl,rfl⟩; exact ⟨[],by simpa using ⟨rfl,rfl⟩,fun _ h=>h⟩
 | cons x xs ih=>
  rintro cs f n ⟨c,ds,f1,f2,rfl,rfl,h1,h2⟩
  cases n with
  | zero=>exact ⟨f1++f2,by simpa using ⟨c,ds,f1,f2,rfl,rfl,h1,h2⟩,fun _ h=>h⟩
  | succ n=>
   obtain ⟨f3,h3,h4⟩:=ih n h2
   refine ⟨f3,?_,fun b hb=>List.mem_append_right _ (h4 b hb)⟩
   have e:(n+1) * E.size=c.length+n * E.size:=by rw [E.len h1,Nat.add_mul,Nat.one_mul,Nat.add_comm]
   rw [e,List.drop_append,List.drop_of_length_le (by omega),List.nil_append,List.drop_succ_cons]
   simpa using h3
theorem slT {α:Type} {q:Bool} {d:Nat} {x lo:OO} {v:Value} {k:IntKind} {j:Int} {E:ag α} {xs:List α} {t ty:TI} {f:List α→Option M} [ht:uW P t] (hx:bm fr x=some v) (hy:bm fr lo=some (.int k j)) (hr:In (.rd false (sx GZ (aD E)) v xs) Γ) (hE:E.size=1)
  (h:∀ v' ys,D P cx (.o q all l rk (.rd false (aD E) v' ys :: Γ) ((d,v') :: fr) (f ys))):D P cx (.e q (.slice t x (some lo) none none) (some d) ty all l rk Γ fr (tl xs j>>=f)):=by
 refine D.of ?_
 intro B o ho r w ha hs pos ab g
 obtain ⟨ys,T9,ho⟩:=bind_some ho
 obtain ⟨h0,h1,rfl⟩:=Sh T9
 obtain ⟨e,i,q1,q2,q3⟩:=ht.h
 obtain ⟨Z,F,hS,hG⟩:=hs
 obtain ⟨g0,⟨⟨v0,hv0,a0,n0,c0,Jf,hc⟩,base,cap,hv,ee⟩,n4⟩:=hr.rd hS []
 obtain rfl:v = .slice base xs.length cap:=by simpa using hv
 obtain rfl:Value.slice base xs.length cap=v0:=by simpa using hv0
 obtain ⟨rfl,rfl,rfl⟩ : base=a0∧xs.length=n0∧cap=c0:=by simpa using Jf
 have hlen:(xs.drop j.toNat).length=xs.length - j.toNat:=List.length_drop
 have hf:fact Z w [] (.rd false (aD E) (sliced base j.toNat xs.length cap 1) (xs.drop j.toNat)):=by
  by_cases hj:j.toNat=xs.length
  ·refine ⟨[],⟨_,cap - j.toNat,by unfold sliced; rw [hlen],.inl ⟨by rw [hj]; simp,rfl⟩⟩,fun _ h=>absurd h List.not_mem_nil⟩
  ·rcases ee with ⟨rfl,_⟩ | ⟨b,off,cur,e',fz,f',rfl,g1,rfl,g2⟩
   ·exfalso; simp at h1 hj; omega
   ·have kp : ¬ (cap=j.toNat):=by omega
    obtain ⟨f3,dq,cg⟩:=My j.toNat g2
    refine ⟨b :: f3,⟨some ⟨b,off+j.toNat,none⟩,cap - j.toNat,?_,.inr ⟨b,off+j.toNat,cur,e',fz,f3,rfl,g1,rfl,?_⟩⟩,fun i hi=>?_⟩
    ·unfold sliced
     rw [hlen,if_neg kp]
     simp [iu]
    ·rw [hE,Nat.mul_one] at dq ⊢
     rw [Nat.mul_one,List.drop_take,List.drop_drop] at dq
     rw [hlen]
     exact dq
    ·rcases List.mem_cons.1 hi with rfl | hi
     ·exact n4 _ (by simp)
     ·exact n4 _ (List.mem_cons_of_mem _ (cg i hi))
 refine bz (v:=sliced base j.toNat xs.length cap 1) (fun w' _=>?_) ((h _ _).sound B o ho _ w (aq ha) ⟨Z,F,SA.fact hS hf,hG⟩)
 have q4:P.elem t=e:=by simp [Program.elem,q1]
 have rP:(sizeOf (P.elem t)).run P w' = .ok 1 w':=by rw [q4]; simp [sizeOf,typeInfo,q2,q3]
 simp [execOp,aR ha hx,aR ha hy,run_sliceAt_slice w' t _ _ _ _ (by rw [q4]; exact q1),run_slice_l (P:=P) w' t base xs.length cap (by rw [q4]; exact q1) k j h0 h1,rP,Result.andThen]
theorem stN {α:Type} {x y:OO} {v u:Value} {j:Int} {z:List α} {xs:List (List α)} {E:ag α} {Q:Value→List α→Prop} {t e ty:TI} {Γx:QE} {m:Option M} (h0:Rg v j Γ) (h1:ll Γ u false false E z px Γx) (h2:dj Γ (.om e (sx Q (aD E)) v xs) Γ1)
  (h:D P cx (.o false all l rk (.om e (aD E) v (xs.set j.toNat z) :: Γ1) fr m)):D P cx (.sl .om v j u t x y ty all l rk Γ fr m):=by
 refine D.of ?_
 intro hT hx hy _ B o ho r w ha hs pos ab g
 obtain ⟨i,hi,rP⟩:=hT
 obtain ⟨Z,F,hS,hg⟩:=hs
 obtain ⟨j0,j1⟩:=h0.sound hS
 obtain ⟨dk,_,⟨⟨k,hk,yI⟩,_⟩,_⟩:=h1.sound hS
 obtain ⟨n,F1,hp,⟨us,gg,hO,hr0,n4,Aw⟩,ed⟩:=h2.sound hS
 have hle:Le (sx Q (aD E)) (aD E):=⟨rfl,fun h=>h.2⟩
 have hr:dw (aD E) w.heap us xs gg:=u3 hle hr0
 replace Aw:(aD E).size=1:=rfl
 have fe:=hg.perm hp
 have cn:=List.nodup_append.1 fe.nd
 have uB:∀ b∈k,Z b:=fun b hb=>(yI b hb).elim (fun h=>h) (fun h=>h)
 have xR:∀ b∈n,¬ Z b:=fun b hb=>fe.apart b (List.mem_append_left _ hb)
 have hl:us.length=xs.length:=by have:=js hr; rw [Aw,Nat.mul_one] at this; exact this
 have ES:u2 v=us.length:=rm hO
 rw [ES,hl] at j1
 refine du (Gt.store (E:=aD E) (G:=n) (B:=w.heap.size) (g:=gg) (k:=k) hi rP ⟨us,⟨hO,cn.1,fun b hb=>.inl hb⟩,hr,Aw⟩ (List.getElem?_eq_getElem j1) (aR ha hx) (aR ha hy) hk (fun b hb hm=>xR b hm (uB b hb)) (fun b hb hm=>xR b hm (n4 b hb)) fun w' g' hC kv gx=>?_)
 obtain ⟨Dp,bw,ee,zA⟩:=kv
 exact h.sound B o ho _ w' ha (St.put ed fe hC ⟨Dp,_,bw.1,ee,(fun b hb=>(gx b hb).elim (n4 b) (uB b)),zA⟩ bw.2.1 fun b hb=>.inl hb)
theorem St.amv {B:Bs} {Γ Δ Γ1 Γ2 Γ3:QE} {w:World} (h:St B Γ w) (h0:EF Γ Δ Γ1) (h1:EO Γ1 Γ2 Γ3) (h2:MF Γ none Γ2):St B (Δ.reverse++Γ2) w:=by
 obtain ⟨Z,F,hs,hg⟩:=h
 obtain ⟨Fd,F',Zn,a1,a2,a3⟩:=h0.sound hs
 obtain ⟨TA,F3,c1,c2,c3⟩:=h1.sound a2
 obtain ⟨F2,b1,b2⟩:=HL.build a1 (h2.sound (hs.left (f:=Zn)) (dk:=[]) (by rintro e he; cases he) c1)
 refine St.of (F':=Fd++TA) b2 (Gd.left (F':=F3) ((Gd.freeze (hg.perm a3) fun b hb=>hs.lt b (a3.mem_iff.1 (List.mem_append_right _ hb))).perm ?_)) b1
 rw [List.append_assoc]
 exact c3.append_left Fd
theorem join {S S1 V:Type} {t k:Nat} {b:Bool} (Δ:S1→V→List aw) (φ:S1→V→Fr) (v0:V) (f2:Fr) {gn:List KI} {kb:Kb R S} {x y:Code} {s0:S1} {m0:Option (Out S1 R)} {f:S1→Option (Out S R)}
   (_ha:rV fr (φ s0 v0)) (_hf:rV fr f2) (_h0:EO Γ (Δ s0 v0) Γ1) (_hs:j6 Γ1 Γ2)
   (hb:D P cx (.cd b ⟨[],.loop V k Δ φ Γ2 f2⟩ x y Γ fr m0)) (hk:∀ s v,D P cx (.p (φ s v) (Δ s v) f2 Γ2 fun fr Γ=>.n ⟨gn,kb⟩ Γ fr (f s))):D P cx (.cd b ⟨gn,kb⟩ x y Γ fr (jn t s0 m0 f)):=by
 refine .inj (bxi ?_)
 intro B o ho r w qt my
 replace ho:ah m0 f=some o:=ho
 cases hm:m0 with
 | none=>rw [hm] at ho; cases ho
 | some o0=>
  have h1:=hb.sound B o0 hm r w qt my
  rw [hm] at ho
  have hq:∀ e r w,ma P cx B ⟨[],.loop V k Δ φ Γ2 f2⟩ o0 e r w→ma P cx B ⟨gn,kb⟩ o e r w:=by
   intro e r w hp
   cases o0 with
   | norm s=>
    cases e with
    | normal=>obtain ⟨v,a1,a2⟩:=hp; exact (hk s v).sound B o ho r w a1 a2
    | _=>exact hp.elim
   | exit j s=>cases ho
   | ret y=>
    cases ho
    cases e with
    | ret=>exact vH hp
    | _=>exact hp.elim
  exact ⟨fun h=>uK (h1.1 h) hq,fun h=>uK (h1.2 h) hq⟩
theorem UE {S:Type} {t:Nat} {K:dh R S} {ops:LO} {m:Option (Out S R)} (_ht:Dg ops=some t) (h:D P cx (.o false ops ops (.s K) Γ fr m)):D P cx (.rw false ops K Γ fr m):=.Ye h
theorem tA {S:Type} {b:Bool} {t:Nat} {K:dh R S} {x y:Code} {m1 m2:Option (Out S R)} (hl:look fr t=some (.bool b)) (h1:D P cx (.c K x Γ ((t,.bool true) :: fr) m1)) (h2:D P cx (.c K y Γ ((t,.bool false) :: fr) m2)):D P cx (.cd b K x y Γ fr (bif b then m1 else m2)):=by
 refine D.of ?_
 have hc:∀ {r:NV},cu r fr→∀ c,b=c→cu r ((t,.bool c) :: fr):=by
  intro r ha c hb s u hs
  unfold look at hs
  cases my:Nat.beq s t with
  | true=>
   rw [my] at hs
   cases hs
   obtain rfl:=Nat.eq_of_beq_eq_true my
   rw [← hb]
   exact ha _ _ hl
  | false=>rw [my] at hs; exact ha _ _ hs
 exact fun B o ho r w ha hs=>⟨fun h=>h1.sound B o (by rw [h] at ho; exact ho) r w (hc ha _ h) hs,fun h=>h2.sound B o (by rw [h] at ho; exact ho) r w (hc ha _ h) hs⟩
theorem Yn {α β:Type} {q:Bool} {d:Nat} {x y:OO} {v:Value} {k:IntKind} {j:Int} {t ty:TI} {o1 o2 p1 p2:Bool} {E:ag α} {E2:ag β} {z:β} {xs:List α} {Γx:QE} {m:Option M} [ht:uW P t] (hx:bm fr x=some v) (hy:bm fr y=some (.int k j)) (hr:ll Γ v o1 o2 E xs px Γx) (hi:In (.ad p1 p2 v j E2 z) Γ) (hE:E.size=1)
  (h:D P cx (.o q all l rk Γ ((d,.pointer (some (dc v 1 j))) :: fr) m)):D P cx (.e q (.indexAddr t x y) (some d) ty all l rk Γ fr m):=by
 refine D.of ?_
 intro B o ho r w ha hs pos ab g
 obtain ⟨Z,F,hS,_⟩:=@_root_.id _ hs
 obtain ⟨_,_,⟨⟨n',nz,_⟩,_⟩,_⟩:=hr.sound hS
 obtain ⟨j0,j1⟩:=hi.ad hS
 obtain ⟨a,c,mm⟩:=s7 nz
 have bc:j.toNat < xs.length:=by rw [mm] at j1; exact j1
 exact bz (Ix ht.h nz ⟨j0,List.getElem?_eq_getElem bc⟩ (aR ha hx) (aR ha hy) hE) (h.sound B o ho _ w (aq ha) hs)
class qg {α:Type} (S:ag α) (V:outParam Type) (cl:outParam (α→V→List Value)) (en:outParam (α→V→List aw)):Prop where
 ow:∀ x v,sG (en x v)=true
 op:∀ {w:World} {cs:LV} {x:α} {g:LN},S.rep w.heap cs x g→∃ v,cs=cl x v∧∀ Z:Nat→Prop,HL Z w (en x v) g
 cl:∀ {w:World} {x:α} {v:V} {Z:Nat→Prop} {g:LN},HL Z w (en x v) g→S.rep w.heap (cl x v) x g
theorem qg.i {k:IntKind}:qg (aA k) Unit (fun x _=>[.int k x]) (fun _ _=>[]):=
 ⟨fun _ _=>rfl,fun h=>⟨(),h.1,fun _=>by rw [h.2]; exact .nil⟩,fun h=>by cases h; exact ⟨rfl,rfl⟩⟩
theorem qg.s {α:Type} {e:TI} {E:ag α}:qg (aK e E) Value (fun _ v=>[v]) (fun x v=>[.own (aK e E) v x]):=by
 refine ⟨fun _ _=>rfl,fun {w cs x g} h=>?_,fun {w x v Z g} h=>?_⟩
 ·obtain ⟨base,cap,rfl,hr⟩:=h
  refine ⟨_,rfl,fun Z=>?_⟩
  have:=HL.own (Z:=Z) (w:=w) (e:=.own (aK e E) (.slice base x.length cap) x) (f:=g) ⟨base,cap,rfl,hr⟩ .nil
  rwa [List.append_nil] at this
 ·cases h with
  | own h k=>cases k; rw [List.append_nil]; exact h
  | fact h _=>exact h.elim
theorem qg.ip {β V:Type} {k:IntKind} {B:ag β} {cl:β→V→List Value} {en:β→V→List aw} (h:qg B V cl en):qg (de (aA k) B) V (fun x v=>.int k x.1 :: cl x.2 v) (fun x v=>en x.2 v):=by
 refine ⟨fun x v=>h.ow x.2 v,fun {w cs x g} hr=>?_,fun {w x v Z g} he=>?_⟩
 ·obtain ⟨c1,c2,f1,f2,rfl,rfl,⟨rfl,rfl⟩,h2⟩:=hr
  obtain ⟨v,rfl,hv⟩:=h.op h2
  exact ⟨v,rfl,hv⟩
 ·exact ⟨[_],_,[],g,rfl,rfl,⟨rfl,rfl⟩,h.cl he⟩
theorem qg.sp {α β V:Type} {e:TI} {E:ag α} {B:ag β} {cl:β→V→List Value} {en:β→V→List aw} (h:qg B V cl en):qg (de (aK e E) B) (Value×V) (fun x v=>v.1 :: cl x.2 v.2) (fun x v=>.own (aK e E) v.1 x.1 :: en x.2 v.2):=by
 refine ⟨fun x v=>h.ow x.2 v.2,fun {w cs x g} hr=>?_,fun {w x v Z g} he=>?_⟩
 ·obtain ⟨c1,c2,f1,f2,rfl,rfl,h1,h2⟩:=hr
  obtain ⟨base,cap,rfl,xL⟩:=h1
  obtain ⟨v,rfl,hv⟩:=h.op h2
  exact ⟨(_,v),rfl,fun Z=>.own ⟨base,cap,rfl,xL⟩ (hv Z)⟩
 ·cases he with
  | own h1 k=>
   obtain ⟨base,cap,hb,xL⟩:=h1
   exact ⟨[_],_,_,_,rfl,rfl,⟨base,cap,hb,xL⟩,h.cl k⟩
  | fact h1 _=>exact h1.elim
theorem qg.mp {α β V:Type} {f:β→α} {A:ag α} {cl:α→V→List Value} {en:α→V→List aw} (h:qg A V cl en):qg (ym f A) V (fun y v=>cl (f y) v) (fun y v=>en (f y) v):=
 ⟨fun y v=>h.ow (f y) v,fun hr=>h.op hr,fun he=>h.cl he⟩
inductive O0 {α:Type} (S:ag α) (V:Type) (cl:α→V→List Value) (en:α→V→List aw):Prop
 | mk [h:qg S V cl en]:O0 S V cl en
theorem XL:∀ {Δ:QE} {F:LN},sG Δ=true→HO Z w Δ F→HL Z w Δ F:=by
 intro Δ
 induction Δ with
 | nil=>intro F _ h; cases h; exact .nil
 | cons e Δ ih=>
  intro F ho h
  cases e with
  | own T v x=>cases h with | own h k=>exact .own h (ih ho k)
  | row b cs t=>cases h with | own h k=>exact .own h (ih ho k)
  | _=>exact absurd ho (by simp [sG])
theorem lgO {α:Type} (S:ag α) {d:Nat} {t e n bt ty:TI} {m:Option M} [ht:AN P t e n bt]
  (h:∀ v,D P cx (.o false all l rk (.own (aK e S) v [] :: Γ) ((d,v) :: fr) m)):D P cx (.e false (.buildSlice t 0 #[]) (some d) ty all l rk Γ fr m):=by
 refine D.of ?_
 intro B o ho r w ha hs pos ab g
 obtain ⟨h1,i,z,h2,_⟩:=ht.h
 obtain ⟨v,w',f,hr,hC,hO⟩:=zI (E:=S) (r:=r) (w:=w) (d:=some d) (ty:=ty) (pos:=pos) (ab:=ab) (g:=none) h1 h2
 refine du (WL.val rfl hr ((h v).sound B o ho _ w' (aq ha) ?_))
 obtain ⟨Z,F,hS,hg⟩:=hs
 exact St.put (f:=[]) hS hg hC hO.1 hO.2.1 fun b hb=>.inr ((hO.2.2 b hb).resolve_left List.not_mem_nil)
theorem UF {α:Type} {S:ag α} {q:Bool} {d n e:Nat} {x:OO} {v:Value} {xs:List α} {t ty bt:TI} {m:Option M} [ht:AN P t e n bt] (hx:bm fr x=some v) (h1:dj Γ (.own (aK e S) v xs) Γ1)
  (h:D P cx (.o q all l rk Γ ((d,.int .i64 (xs.length:Int)) :: fr) m)):D P cx (.e q (.call ⟨.builtin .len,#[x],#[t]⟩) (some d) ty all l rk Γ fr m):=by
 refine D.of ?_
 intro B o ho r w ha hs pos ab g
 obtain ⟨q1,_⟩:=ht.h
 obtain ⟨Z,F,hS,hG⟩:=@_root_.id _ hs
 obtain ⟨f,F1,_,hO,_⟩:=h1.sound hS
 obtain ⟨base,cap,hv,_⟩:=hO
 obtain rfl:v = .slice base xs.length cap:=by simpa using hv
 exact bz (v:=.int .i64 (xs.length:Int)) (fun w' _=>vJ q1 (aR ha hx)) (h.sound B o ho _ w (aq ha) hs)
theorem O1 {α:Type} {S:ag α} {n:Nat} {hp:Array Obj} (hn:S.size=n):∀ {xs:List α} {cs:LV} {f:LN},dw S hp cs xs f→∃ us,us.length=xs.length∧dw (jm n) hp cs us []∧∀ (j:Nat) (x:α),xs[j]? = some x→∃ c f0 f1 f2,us[j]? = some c∧f=f0++f1++f2∧S.rep hp c x f1:=by
 intro xs
 induction xs with
 | nil=>rintro cs f ⟨rfl,rfl⟩; exact ⟨[],rfl,⟨rfl,rfl⟩,fun j x hj=>by simp at hj⟩
 | cons y xs ih=>
  rintro cs f ⟨c,gw,f1,f2,rfl,rfl,h1,h2⟩
  obtain ⟨us,hl,hr,hg⟩:=ih h2
  refine ⟨c :: us,by simp [hl],⟨c,gw,[],[],rfl,rfl,⟨rfl,by rw [S.len h1,hn],S.one h1,rfl⟩,hr⟩,fun j x hj=>?_⟩
  cases j with
  | zero=>simp at hj; subst hj; exact ⟨c,[],f1,f2,rfl,by simp,h1⟩
  | succ j=>
   obtain ⟨c',g0,g1,g2,a1,rfl,a3⟩:=hg j x (by simpa using hj)
   exact ⟨c',f1++g0,g1,g2,by simpa using a1,by simp,a3⟩
theorem YD {α V:Type} {S:ag α} {cl:α→V→List Value} {en:α→V→List aw} {q:Bool} {d n e:Nat} {x y:OO} {v:Value} {xs:List α} {k:IntKind} {j:Int} {t ty bt:TI} {f:α→Option M} [ht:AN P t e n bt] (hx:bm fr x=some v) (hy:bm fr y=some (.int k j))
  (h1:dj Γ (.own (aK e S) v xs) Γ1) (hs:O0 S V cl en) (hn:S.size=n)
  (h:∀ z u us,D P cx (.p [] (.own (aK e (jm n)) v us :: .rd false (Ar us j) (.bool true) (cl z u) :: en z u) fr Γ1 fun fr Γ=>.o q all l rk Γ ((d,.pointer (some (dc v n j))) :: fr) (f z))):D P cx (.e q (.indexAddr t x y) (some d) ty all l rk Γ fr (idx xs j>>=f)):=by
 refine D.of ?_
 intro B o ho r w ha db pos ab g
 replace hs:qg S V cl en:=by cases hs; assumption
 obtain ⟨z,hz,ho⟩:=bind_some ho
 replace hz:=rn hz
 obtain ⟨q1,i,_,q2,_,_,q3,_⟩:=ht.h
 obtain ⟨Z,F,hS,hG⟩:=db
 obtain ⟨f0,F1,hp,hO,ed⟩:=h1.sound hS
 have bc:j.toNat < xs.length:=(List.getElem?_eq_some_iff.1 hz.2).1
 obtain ⟨base,cap,hv,hr⟩:=hO
 obtain rfl:v = .slice base xs.length cap:=by simpa using hv
 rcases hr with ⟨_,_,rfl,_⟩ | ⟨b,cur,f',rfl,ji,rfl,hle,aaf,rP,dq⟩
 ·simp at bc
 ·obtain ⟨us,hl,hru,hg⟩:=O1 hn dq
  obtain ⟨c,g0,g1,g2,a1,rfl,a3⟩:=hg _ _ hz.2
  obtain ⟨u,rfl,sJ⟩:=hs.op a3
  have yq:(aK e (jm n)).rep w.heap [.slice (some ⟨b,0,none⟩) xs.length cap] us [b]:=
   ⟨_,cap,by rw [hl],.inr ⟨b,cur,[],rfl,ji,rfl,by rw [hl]; exact hle,aaf,by rw [rP,hn]; rfl,by rw [hl,show (jm n).size=S.size from hn.symm]; exact hru⟩⟩
  have ei:HL Z w (.own (aK e (jm n)) (.slice (some ⟨b,0,none⟩) xs.length cap) us :: .rd false (Ar us j) (.bool true) (cl z u) :: en z u) ([b]++g1):=.own yq (.fact ⟨[],⟨rfl,⟨hz.1,a1⟩,rfl⟩,fun _ h=>absurd h List.not_mem_nil⟩ (sJ Z))
  obtain ⟨F',uY,fw⟩:=ei.build ed
  have qo:(F'++(g0++g2)).Perm F:=by
   refine .trans ?_ hp
   refine (uY.append_right _).trans ?_
   rw [List.cons_append,List.cons_append,List.cons_append,List.nil_append,List.cons_append]
   refine List.Perm.cons b ?_
   have e1:(g1++F1++(g0++g2)).Perm ((g0++g2)++(g1++F1)):=List.perm_append_comm
   refine e1.trans ?_
   rw [List.append_assoc,List.append_assoc,List.append_assoc]
   refine List.Perm.append_left g0 ?_
   rw [← List.append_assoc,← List.append_assoc]
   exact List.perm_append_comm.append_right F1
  refine bz (v:=.pointer (some (dc (.slice (some ⟨b,0,none⟩) xs.length cap) n j))) (fun w' hC=>?_) ((h z u us).sound B o ho _ w (aq ha) ⟨Z,F',fw,Gd.left (hG.perm qo)⟩)
  rw [lv q1 q2 (aR ha hx) (aR ha hy) hz.1 (by omega),q3]
  rfl
theorem TS {α V:Type} {S:ag α} {cl:α→V→List Value} {en:α→V→List aw} (y:α) {u:V} {d b n e bt:Nat} {s x:OO} {sv:Value} {xs:List α} {cs:LV} {t et ty:TI} {f:Unit→Option M} [ht:AN P t e n bt]
  (hs:bm fr s=some sv) (hx:bm fr x=some (.slice (some ⟨b,0,none⟩) 1 1)) (h0:dj Γ (.row b cs et) Γ1) (h1:dj Γ1 (.own (aK e S) sv xs) Γ2) (rJ:O0 S V cl en) (_hv:bp V u) (hc:cs=cl y u) (hn:S.size=n) (he:EO Γ2 (en y u) Γ3)
  (h:∀ v,D P cx (.o false all l rk (.own (aK e S) v (xs++[y]) :: Γ3) ((d,v) :: fr) (f ()))):D P cx (.e false (.call ⟨.builtin .append,#[s,x],#[t,t]⟩) (some d) ty all l rk Γ fr (fits bt (xs.length+1)>>=f)):=by
 refine D.of ?_
 intro B o bw r w ha db pos ab g
 have Ew:qg S V cl en:=by cases rJ; assumption
 obtain ⟨_,hu,bw⟩:=bind_some bw
 obtain ⟨b1,b2⟩:=iq hu
 obtain ⟨q1,i,z,q2,q3,q4,q5,q6,_⟩:=ht.h
 obtain ⟨Z,F,hS,hG⟩:=db
 obtain ⟨n0,F0,qu,⟨rfl,bh⟩,rW⟩:=h0.sound hS
 obtain ⟨k,F1,hp,hO,ed⟩:=h1.sound rW
 obtain ⟨Fd,F2,hho,fw,mx⟩:=he.sound ed
 have hy:S.rep w.heap (cl y u) y Fd:=Ew.cl (XL (Ew.ow y u) hho)
 have qo:(((k++Fd)++F2)++[b]).Perm F:=by
  refine .trans ?_ qu
  refine List.perm_append_comm.trans ?_
  refine List.Perm.append_left [b] ?_
  rw [List.append_assoc]
  exact (mx.append_left k).trans hp
 have ju:Gd B Z ((k++Fd)++F2) w:=Gd.left (F':=[b]) (hG.perm qo)
 have cn:=(List.nodup_append.1 ju.nd).1
 have wZ:=List.nodup_append.1 cn
 subst hc
 obtain ⟨v,w',f',iw,hC,dq,cg,zL⟩:=mw (E:=S) (d:=some d) (ty:=ty) (pos:=pos) (ab:=ab) (g:=none) (k:=Fd) (ys:=[y]) (news:=cl y u) q1 q2 q3 (by rw [q5,hn]) (by rw [q4,hn]) (aR ha hs) hO wZ.1 (aR ha hx) (fun i u hi=>bh.at i u hi) (ou hy) (fun b hb hm=>wZ.2.2 b hm b hb rfl) (by simp) (by rw [q6]; exact b1) b2
 refine du (WL.val rfl iw ((h v).sound B o bw _ w' (aq ha) ?_))
 refine St.put fw ju (hC.mono fun b hb=>List.mem_append_left _ hb) dq (zL wZ.2.1) fun b hb=>?_
 rcases cg b hb with h | h | h
 ·exact .inl (List.mem_append_left _ h)
 ·exact .inl (List.mem_append_right _ h)
 ·exact .inr h
end
end Go.Dk
namespace Go.Dk
open Go Go.Li
section
variable {P:Program} {n:Nat} {l:LO} {Q:Exit→(Nat→Value)→World→Prop} {S:World→Prop}
def Hw (P:Program) (n:Nat) (l:LO) (Q:Exit→(Nat→Value)→World→Prop) (S:World→Prop) (k:Nat) (L:Array Bool) (r:NV) (w:World):Prop:=
 ∀ a:Act,a.tmps.size=n→a.defers=[]→cw a=r→wpAnyH P .any l.toArray (fun e a' w'=>a'.tmps.size=n∧a'.defers=[]∧Q e (cw a') w') S k L a w
theorem Bc {i:Nat} {o:Oper} {a:Act} (hd:df n l=true) (hi:l[i]? = some o) (h1:a.tmps.size=n):∀ k,o.dst=some k→k < a.tmps.size:=by
 intro k hk
 have hm:o∈l:=List.mem_of_getElem? hi
 simp only [df,List.all_eq_true] at hd
 have:=hd o hm
 rw [hk] at this
 rw [h1]
 exact Nat.lt_of_succ_le (Nat.le_of_ble_eq_true this)
theorem Hw.take {k i:Nat} {L:Array Bool} {o:Oper} {v:Value} {r:NV} {w:World} (hd:df n l=true) (hi:l[i]? = some o) (hs:Region.noSelect l.toArray=true) (hf:Region.free .any l.toArray L i=true) (hr:(Region.ready .any l.toArray L).contains i=true)
  (hp:∀ c r w,¬ Q (.panic c) r w) (hg:o.guard=none) (hy:∀ w,S w→(execOp (ev r) o).run P w = .ok (.value v) w) (hS:S w) (h:Hw P n l Q S k (L.setIfInBounds i true) (ez r o.dst v) w):Hw P n l Q S (k+1) L r w:=by
 intro a h1 h2 h3
 refine wpAnyH_take (v:=v) (by simpa using hi) hs hf hr (fun c a w h=>(hp _ _ _ h.2.2).elim) (.inl ⟨sg hg,fun w hw=>?_⟩) hS (h _ (by rw [jv]; exact h1) (by rw [gq]; exact h2) (by rw [ks (Bc hd hi h1),h3]))
 rw [r5,h3]
 exact hy w hw
theorem Hw.step {k i:Nat} {L:Array Bool} {o:Oper} {r:NV} {w w':World} (hd:df n l=true) (hi:l[i]? = some o) (hr:Region.ready .any l.toArray L=[i]) (hg:o.guard=none) (hy:(execOp (ev r) o).run P w = .ok .skip w') (hS:S w') (h:Hw P n l Q S k (L.setIfInBounds i true) (ez r o.dst undef) w'):Hw P n l Q S (k+1) L r w:=by
 intro a h1 h2 h3
 refine wpAnyH_all hr (by simp) fun j hj=>?_
 obtain rfl:j=i:=by simpa using hj
 unfold wpOp
 rw [show (l.toArray)[j]? = some o by simpa using hi]
 simp only []
 rw [if_pos (sg hg)]
 refine .inl ?_
 unfold Oper.wp
 rw [r5,h3,hy]
 exact ⟨hS,h _ (by rw [jv]; exact h1) (by rw [gq]; exact h2) (by rw [ks (Bc hd hi h1),h3])⟩
theorem Hw.done {k:Nat} {L:Array Bool} {r:NV} {w:World} (hr:Region.ready .any l.toArray L=[]) (h:Q .normal r w):Hw P n l Q S k L r w:=
 fun _ h1 h2 h3=>wpAnyH_done hr ⟨h1,h2,by rw [h3]; exact h⟩ k
theorem Hw.start {r:NV} {w:World} (h:Hw P n l Q S l.length (Array.replicate l.length false) r { w with drawn:=w.drawn+1 }):mf P n l Q r w:=
 fun a h1 h2 h3=>wpAny_of_held _ _ _ _ (h a h1 h2 h3)
def AB (P:Program) (S:World→Prop):List Oper→(Nat→Value)→((Nat→Value)→Prop)→Prop
 | [],r,K=>K r
 | o :: l,r,K=>o.guard=none∧∃ v,(∀ w,S w→(execOp (ev r) o).run P w = .ok (.value v) w)∧AB P S l (ez r o.dst v) K
def Bd (l:LO):List Nat→Array Bool→Bool
 | [],L=>(Region.ready .any l.toArray L).isEmpty
 | i :: ss,L=>Nat.blt i l.length && (Region.ready .any l.toArray L == [i]) && Bd l ss (L.setIfInBounds i true)
def Kz (l:LO) (ss:LN):List Nat→Array Bool→Bool
 | [],L=>Bd l ss L
 | i :: qs,L=>Nat.blt i l.length && (Region.ready .any l.toArray L).contains i && Region.free .any l.toArray L i && Kz l ss qs (L.setIfInBounds i true)
def pick (l:LO) (is:LN):List Oper:=is.map fun i=>l.getD i default
theorem yS {i:Nat} (h:Nat.blt i l.length=true):l[i]? = some (l.getD i default):=by
 have h1:i < l.length:=Nat.lt_of_succ_le (Nat.le_of_ble_eq_true h)
 rw [List.getD_eq_getElem?_getD,List.getElem?_eq_getElem h1]; rfl
theorem Hw.quiet (hd:df n l=true) (hs:Region.noSelect l.toArray=true) (hp:∀ c r w,¬ Q (.panic c) r w) {ss:LN} {w:World} (hS:S w) {K:(Nat→Value)→Prop} (h:∀ L r,Bd l ss L=true→K r→Hw P n l Q S ss.length L r w) :
  ∀ (qs:LN) (L:Array Bool) (r:NV),Kz l ss qs L=true→AB P S (pick l qs) r K→Hw P n l Q S (qs.length+ss.length) L r w:=by
 intro qs
 induction qs with
 | nil=>intro L r hc hv; rw [List.length_nil,Nat.zero_add]; exact h L r hc hv
 | cons i qs ih=>
  intro L r hc hv
  unfold Kz at hc
  simp only [Bool.and_eq_true] at hc
  obtain ⟨⟨⟨c1,c2⟩,c3⟩,c4⟩:=hc
  obtain ⟨hg,v,h1,h2⟩:=hv
  have:=Hw.take hd (yS c1) hs c3 c2 hp hg h1 hS (ih _ _ c4 h2)
  rwa [show qs.length+ss.length+1=(i :: qs).length+ss.length by simp; omega] at this
end
inductive JQ
 | q (ops:LO) (fr:Fr)
 | la (a:Addr) (lk:Option Nat) (t:TI) (x:OO) (d:Nat) (ty:TI) (pos:String) (ab:Array Edge) (ops:LO) (fr:Fr)
inductive QA (P:Program) (Γ:QE):JQ→Fr→Prop
 | nil {fr:Fr}:QA P Γ (.q [] fr) fr
 | ld {d:Nat} {t ty:TI} {x:OO} {lk:Option Nat} {a:Addr} {pos:String} {ab:Array Edge} {ops:LO} {fr lq:Fr} [ht:LK P t lk] (hx:bm fr x=some (.pointer (some a))) (h:QA P Γ (.la a lk t x d ty pos ab ops fr) lq):QA P Γ (.q (⟨some d,.load t x,ty,pos,ab,none⟩ :: ops) fr) lq
 | val {d:Nat} {op:Op} {ty:TI} {u:Value} {pos:String} {ab:Array Edge} {ops:LO} {fr lq:Fr} (hv:VQ P Γ fr op u) (h:QA P Γ (.q ops ((d,u) :: fr)) lq):QA P Γ (.q (⟨some d,op,ty,pos,ab,none⟩ :: ops) fr) lq
 | lc {d:Nat} {t ty:TI} {x:OO} {a:Addr} {u:Value} {pos:String} {ab:Array Edge} {ops:LO} {fr lq:Fr} (h:uw Γ a u) (k:QA P Γ (.q ops ((d,u) :: fr)) lq):QA P Γ (.la a none t x d ty pos ab ops fr) lq
 | ls {d n:Nat} {t ty:TI} {x:OO} {a:Addr} {ds:LV} {pos:String} {ab:Array Edge} {ops:LO} {fr lq:Fr} (h:bg Γ a n ds) (k:QA P Γ (.q ops ((d,.agg ds.toArray) :: fr)) lq):QA P Γ (.la a (some n) t x d ty pos ab ops fr) lq
inductive RO (fr:Fr):List Oper→List aw→List (Nat×List Value×TypeId)→List aw→Prop
 | nil {Γ:QE}:RO fr [] Γ [] Γ
 | cons {t ty e:TI} {x y:OO} {b:Nat} {cs:LV} {pos:String} {ab:Array Edge} {ops:LO} {Γ Γ1 Γ2:QE} {rs:List (Nat×List Value×TypeId)} (hx:bm fr x=some (.pointer (some ⟨b,0,none⟩))) (h:dj Γ (.row b cs e) Γ1) (k:RO fr ops Γ1 rs Γ2):RO fr (⟨none,.store t x y,ty,pos,ab,none⟩ :: ops) Γ ((b,cs,e) :: rs) Γ2
inductive SQ (P:Program) (Γ:QE) (fr:Fr):List Oper→List (Nat×List Value×TypeId)→List (Nat×List Value×TypeId)→Prop
 | nil:SQ P Γ fr [] [] []
 | cons {n:Nat} {t ty e:TI} {x y:OO} {b:Nat} {u:Value} {us cs ds:LV} {pos:String} {ab:Array Edge} {ops:LO} {rs sQ:List (Nat×List Value×TypeId)} [ht:vI P t n] (hx:bm fr x=some (.pointer (some ⟨b,0,none⟩))) (hy:bm fr y=some u) (hc:sI Γ u us) (hn:us.length=n) (hs:bb us 0 cs ds) (ho:bd Γ us) (k:SQ P Γ fr ops rs sQ) :
   SQ P Γ fr (⟨none,.store t x y,ty,pos,ab,none⟩ :: ops) ((b,cs,e) :: rs) ((b,ds,e) :: sQ)
def DH:List (Nat×List Value×TypeId)→List aw
 | []=>[]
 | (b,cs,e) :: l=>.row b cs e :: DH l
def Rows (w:World) (rs:List (Nat×List Value×TypeId)):Prop:=∀ p∈rs,Row w p.1 p.2.1 p.2.2
section
variable {P:Program} {Γ Γ2:QE} {S:World→Prop} {Z:Nat→Prop}
def aag (P:Program) (S:World→Prop):JQ→Fr→Prop
 | .q ops fr,lq=>∀ r,cu r fr→AB P S ops r fun r'=>cu r' lq
 | .la a lk t x d ty pos ab ops fr,lq=>(match lk with | none=>NA P t | some n=>AG P t n)→bm fr x=some (.pointer (some a))→∀ r,cu r fr→AB P S (⟨some d,.load t x,ty,pos,ab,none⟩ :: ops) r fun r'=>cu r' lq
theorem QA.sound {J:JQ} {lq:Fr} (hS:∀ w,S w→∃ cur F,SA Z w Γ cur F) (h:QA P Γ J lq):aag P S J lq:=by
 induction h with
 | nil=>exact fun r h=>h
 | @ld d t ty x lk a pos ab ops fr lq ht hx _ ih=>exact fun r ha=>ih ht.h hx r ha
 | @val d op ty u pos ab ops fr lq hv _ ih=>
  intro r ha
  refine ⟨rfl,u,fun w hw=>?_,ih _ (aq ha)⟩
  obtain ⟨cur,F,h⟩:=hS w hw
  exact hv.sound h ha (some d) ty pos ab none w (an.refl _ _)
 | @lc d t ty x a u pos ab ops fr lq h _ ih=>
  intro ht hx r ha
  refine ⟨rfl,u,fun w hw=>?_,ih _ (aq ha)⟩
  obtain ⟨cur,F,hs⟩:=hS w hw
  exact Ld ht (h.sound hs) (aR ha hx) w (an.refl _ _)
 | @ls d n t ty x a ds pos ab ops fr lq h _ ih=>
  intro ht hx r ha
  refine ⟨rfl,_,fun w hw=>?_,ih _ (aq ha)⟩
  obtain ⟨cur,F,hs⟩:=hS w hw
  obtain ⟨h1,h2⟩:=h.sound hs
  exact Lg ht h1 (aR ha hx) h2 w (an.refl _ _)
theorem RO.sound {fr:Fr} {ops:LO} {rs:List (Nat×List Value×TypeId)} {w:World} (h:RO fr ops Γ rs Γ2):∀ {F:LN},SA Z w Γ [] F→∃ F2,(rs.map (·.1)++F2).Perm F∧Rows w rs∧SA Z w Γ2 [] F2:=by
 induction h with
 | nil=>intro F h; exact ⟨F,.refl _,fun _ h=>absurd h List.not_mem_nil,h⟩
 | @cons t ty e x y b cs pos ab ops Γ Γ1 Γ2 rs hx h _ ih=>
  intro F hS
  obtain ⟨f,F1,hp,⟨rfl,bh⟩,ed⟩:=h.sound hS
  obtain ⟨F2,mx,hr,fw⟩:=ih ed
  refine ⟨F2,?_,fun p hp=>?_,fw⟩
  ·exact .trans (List.Perm.cons b mx) hp
  ·rcases List.mem_cons.1 hp with rfl | hp
   ·exact bh
   ·exact hr p hp
theorem SQ.sound {n:Nat} {l:LO} {Q:Exit→(Nat→Value)→World→Prop} {fr:Fr} {ops:LO} {rs sQ:List (Nat×List Value×TypeId)} {F2:LN} {w0:World} {r:NV} {F:LN} (hd:df n l=true) (ha:cu r fr) (vM:∀ w,an F w0 w→SA Z w Γ2 [] F2) (h:SQ P Γ2 fr ops rs sQ) :
  ∀ (ss:LN) (L:Array Bool) (w:World),ops=pick l ss→Bd l ss L=true→an F w0 w→Rows w rs→(rs.map (·.1)).Nodup→(∀ b∈rs.map (·.1),b∈F)→(∀ w',an (rs.map (·.1)) w w'→Rows w' sQ→Q .normal r w')→Hw P n l Q (an F w0) ss.length L r w:=by
 induction h with
 | nil=>
  intro ss L w ho hc hC hR hn hF hk
  cases ss with
  | cons i ss=>cases ho
  | nil=>
   exact Hw.done (by simpa [Bd] using hc) (hk w (an.refl _ _) hR)
 | @cons n' t ty e x y b u us cs ds pos ab ops rs sQ ht hx hy A9 hn hsg hon _ ih=>
  intro ss L w ho hc hC hR cn hF hk
  cases ss with
  | nil=>cases ho
  | cons i ss=>
   unfold Bd at hc
   simp only [Bool.and_eq_true] at hc
   obtain ⟨⟨c1,c2⟩,c3⟩:=hc
   have bw:l.getD i default = ⟨none,.store t x y,ty,pos,ab,none⟩∧ops=pick l ss:=by
    unfold pick at ho
    rw [List.map_cons,List.cons.injEq] at ho
    exact ⟨ho.1.symm,ho.2⟩
   have hi:=yS c1
   rw [bw.1] at hi
   obtain ⟨ti,q1,q2⟩:=ht.h
   have bh:Row w b cs e:=hR (b,cs,e) (by simp)
   obtain ⟨e1,e2⟩:=hsg.eq
   have YE:=vM w hC
   have iw:=vv (P:=P) (d:=none) (ty:=ty) (pos:=pos) (ab:=ab) (gg:=none) q1 (by rw [hn,q2]) bh e1 (aR ha hx) (y:=y) (by rw [aR ha hy]; exact A9.eq YE) (hon.one YE)
   have qc:=setRow_heap w b cs.toArray (cs.take 0++us++cs.drop (0+us.length)).toArray e _ bh
   have Bi:an [b] w (w.setRow b (cs.take 0++us++cs.drop (0+us.length)).toArray):=⟨rfl,rfl,rfl,Nat.le_refl _,by simp,fun j _ hj=>setRow_other w b j _ fun h=>hj (by simp [h])⟩
   have tf:=hC.trans (Bi.mono fun b' cq=>by rw [List.mem_singleton.1 cq]; exact hF b (by simp))
   rw [List.map_cons,List.nodup_cons] at cn
   refine Hw.step hd hi (by simpa using c2) rfl iw tf (ih ss _ _ bw.2 c3 tf (fun p hp=>(hR p (List.mem_cons_of_mem _ hp)).ec Bi fun hb=>cn.1 ?_) cn.2 (fun b' cq=>hF b' (by simp at cq ⊢; exact .inr cq)) fun w' wm G0=>?_)
   ·rw [← List.mem_singleton.1 hb]; exact List.mem_map_of_mem (f:=fun q=>q.1) hp
   ·refine hk w' ((Bi.mono (by simp)).trans (wm.mono fun b' cq=>List.mem_cons_of_mem _ cq)) fun p hp=>?_
    rcases List.mem_cons.1 hp with rfl | hp
    ·refine Row.ec (F:=rs.map (·.1)) ?_ wm cn.1
     rw [e2]
     exact qc
    ·exact G0 p hp
theorem SQ.fst {fr:Fr} {ops:LO} {rs sQ:List (Nat×List Value×TypeId)} (h:SQ P Γ fr ops rs sQ):sQ.map (·.1)=rs.map (·.1):=by
 induction h with
 | nil=>rfl
 | cons _ _ _ _ _ _ _ ih=>simp only [List.map_cons,ih]
theorem CO {w:World}:∀ {rs:List (Nat×List Value×TypeId)},Rows w rs→HL Z w (DH rs) (rs.map (·.1))
 | [],_=>.nil
 | (b,cs,e) :: l,h=>.own (f:=[b]) (e:=.row b cs e) ⟨rfl,h (b,cs,e) (by simp)⟩ (CO fun p hp=>h p (List.mem_cons_of_mem _ hp))
end
section
variable {R S:Type} {P:Program} {cx:Cx R} {K:dh R S} {l:LO}
theorem anyS {id:Nat} (qs ss:LN) {xd mg:LO} {Γ Γ1:QE} {fr lq:Fr} {rs sQ:List (Nat×List Value×TypeId)} {m:Option (Out S R)}
  (hB:(P.follows .mixedOrders && df cx.n l && Region.noSelect l.toArray && Kz l ss qs (Array.replicate l.length false) && Nat.beq l.length (qs.length+ss.length))=true)
  (hq:xd=pick l qs) (hs:mg=pick l ss) (h1:RO fr mg Γ rs Γ1) (h2:QA P Γ1 (.q xd fr) lq) (h3:SQ P Γ1 lq mg rs sQ)
  (h:D P cx (.p [] (DH sQ) lq Γ1 fun fr Γ=>.n K Γ fr m)):Bx (mb P cx (.dr id l K Γ fr m)):=by
 simp only [Bool.and_eq_true] at hB
 obtain ⟨⟨⟨⟨b1,b2⟩,b3⟩,b4⟩,b5⟩:=hB
 rw [lg]
 intro B o ho r w ha my
 obtain ⟨Z,F,hS,hG⟩:=my
 obtain ⟨F2,hp,hR,fw⟩:=h1.sound hS
 have ju:=hG.perm hp
 have cn:=List.nodup_append.1 ju.nd
 refine mf.W b1 (Hw.start (S:=an (rs.map (·.1)) { w with drawn:=w.drawn+1 }) ?_)
 have Bj:an [] w { w with drawn:=w.drawn+1 }:=an.drew _ _
 have vM:∀ w',an (rs.map (·.1)) { w with drawn:=w.drawn+1 } w'→SA Z w' Γ1 [] F2:=fun w' hC=>(fw.gf Bj).ec hC (fun b hb=>ju.apart b (List.mem_append_left _ hb)) (fun b _=>List.not_mem_nil) (fun b hb hm=>cn.2.2 b hb b hm rfl)
 rw [show l.length=qs.length+ss.length from Nat.eq_of_beq_eq_true b5] at b4 ⊢
 subst hq hs
 refine Hw.quiet (K:=fun r'=>cu r' lq) b2 b3 (fun c r w h=>si c h) (an.refl _ _) (fun L r' hc ee=>?_) qs _ r b4 (QA.sound (fun w' hC=>⟨[],F2,vM w' hC⟩) h2 r ha)
 refine SQ.sound b2 ee vM h3 ss L _ rfl hc (an.refl _ _) (fun p hp=>(hR p hp).gf Bj) cn.1 (fun b hb=>hb) fun w' hC G0=>?_
 obtain ⟨F3,e1,e2⟩:=HL.build (CO G0) (vM w' hC)
 have tf:an (rs.map (·.1)) w w':=(Bj.mono fun b hb=>absurd hb List.not_mem_nil).trans hC
 rw [h3.fst] at e1
 have sw:∀ b∈rs.map (·.1),b∈B.G∨B.w.heap.size≤b:=fun b hb=>ju.low b (List.mem_append_left _ hb)
 have gx:Gd B Z (rs.map (·.1)++F2) w':=⟨ju.nd,ju.apart,fun b hb=>Nat.lt_of_lt_of_le (ju.ml b hb) tf.size,ju.low,ju.tQ,ju.tj,ju.iH.then tf sw⟩
 exact h.sound B o ho r' w' (by simpa using ee) ⟨Z,F3,e2,gx.perm e1⟩
end
theorem Hw.all {P:Program} {n k:Nat} {l:LO} {Q:Exit→(Nat→Value)→World→Prop} {S:World→Prop} {L:Array Bool} {rs:LN} {r:NV} {w:World} (hd:df n l=true) (hr:Region.ready .any l.toArray L=rs) (kp:rs≠[])
  (h:∀ i∈rs,∃ o,l[i]? = some o∧o.guard=none∧∃ v w',((execOp (ev r) o).run P w = .ok (.value v) w'∨(execOp (ev r) o).run P w = .ok .skip w'∧v=undef)∧S w'∧Hw P n l Q S k (L.setIfInBounds i true) (ez r o.dst v) w'):Hw P n l Q S (k+1) L r w:=by
 intro a h1 h2 h3
 refine wpAnyH_all hr kp fun j hj=>?_
 obtain ⟨o,hi,hg,v,w',hy,hS,hk⟩:=h j hj
 unfold wpOp
 rw [show (l.toArray)[j]? = some o by simpa using hi]
 simp only []
 rw [if_pos (sg hg)]
 refine .inl ?_
 unfold Oper.wp
 rw [r5,h3]
 rcases hy with hy | ⟨hy,rfl⟩
 ·rw [hy]
  exact ⟨hS,hk _ (by rw [jv]; exact h1) (by rw [gq]; exact h2) (by rw [ks (Bc hd hi h1),h3])⟩
 ·rw [hy]
  exact ⟨hS,hk _ (by rw [jv]; exact h1) (by rw [gq]; exact h2) (by rw [ks (Bc hd hi h1),h3])⟩
def on (L:Array Bool) (i:Nat):Array Bool:=L.setIfInBounds i true
def mr (l:LO) (L:Array Bool) (rs:LN):Bool:=Region.ready .any l.toArray L == rs
def KA (l:LO) (a1 a2 s1 s2:Nat) (L:Array Bool):Bool:=
 (Nat.blt a1 l.length && Nat.blt a2 l.length && Nat.blt s1 l.length && Nat.blt s2 l.length) && (mr l L [a1,a2] && mr l (on L a2) [a1]) && (mr l (on (on L a1) a2) [s1] && mr l (on (on L a2) a1) [s1]) &&
  (mr l (on (on (on L a1) a2) s1) [s2] && mr l (on (on (on L a2) a1) s1) [s2]) && (mr l (on (on (on (on L a1) a2) s1) s2) [] && mr l (on (on (on (on L a2) a1) s1) s2) []) &&
  (mr l (on L a1) [a2] || (mr l (on L a1) [a2,s1] && (mr l (on (on L a1) s1) [a2] && (mr l (on (on (on L a1) s1) a2) [s2] && mr l (on (on (on (on L a1) s1) a2) s2) []))))
def KB (l:LO) (a1 a2 s1 s2:Nat):List Nat→Array Bool→Bool
 | [],L=>KA l a1 a2 s1 s2 L
 | i :: qs,L=>Nat.blt i l.length && (Region.ready .any l.toArray L).contains i && Region.free .any l.toArray L i && KB l a1 a2 s1 s2 qs (L.setIfInBounds i true)
theorem Hw.UG {P:Program} {n a1 a2 s1 s2 m:Nat} {l:LO} {Q:Exit→(Nat→Value)→World→Prop} {S:World→Prop} (hd:df n l=true) (hs:Region.noSelect l.toArray=true) (hp:∀ c r w,¬ Q (.panic c) r w) {w:World} (hS:S w) {K:(Nat→Value)→Prop} (h:∀ L r,KA l a1 a2 s1 s2 L=true→K r→Hw P n l Q S m L r w) :
  ∀ (qs:LN) (L:Array Bool) (r:NV),KB l a1 a2 s1 s2 qs L=true→AB P S (pick l qs) r K→Hw P n l Q S (qs.length+m) L r w:=by
 intro qs
 induction qs with
 | nil=>intro L r hc hv; rw [List.length_nil,Nat.zero_add]; exact h L r hc hv
 | cons i qs ih=>
  intro L r hc hv
  unfold KB at hc
  simp only [Bool.and_eq_true] at hc
  obtain ⟨⟨⟨c1,c2⟩,c3⟩,c4⟩:=hc
  obtain ⟨hg,v,h1,h2⟩:=hv
  have:=Hw.take hd (yS c1) hs c3 c2 hp hg h1 hS (ih _ _ c4 h2)
  rwa [show qs.length+m+1=(i :: qs).length+m by simp; omega] at this
inductive zS (P:Program) (Γ:QE) (fr:Fr) (d:Nat):Oper→Oper→TypeId→List Value→Prop
 | mk {t ty UH:TI} {y:OO} {u:Value} {n:Nat} {us cs ds:LV} {pos O2:String} {ab O3:Array Edge} [hz:yE P t cs] [ht:vI P t n] (hn:look fr d=none) (hy:bm fr y=some u) (hc:sI Γ u us) (hl:us.length=n) (hs:bb us 0 cs ds) (ho:bd Γ us) :
   zS P Γ fr d ⟨some d,.alloc t,ty,pos,ab,none⟩ ⟨none,.store t (.tmp d) y,UH,O2,O3,none⟩ t ds
section
variable {P:Program} {Γ:QE} {Z:Nat→Prop} {fr:Fr} {w:World} {cur F:LN}
theorem zS.alloc {d:Nat} {oa os:Oper} {t:TI} {ds:LV} (h:zS P Γ fr d oa os t ds) (r:NV) (w:World):oa.guard=none∧oa.dst=some d∧look fr d=none∧∃ cs w',(execOp (ev r) oa).run P w = .ok (.value (.pointer (some ⟨w.heap.size,0,none⟩))) w'∧an [] w w'∧Row w' w.heap.size cs t∧
  ∀ (r':NV) (w1:World) (b:Nat) cur F,SA Z w1 Γ cur F→cu r' fr→r' d = .pointer (some ⟨b,0,none⟩)→Row w1 b cs t→∃ w2,(execOp (ev r') os).run P w1 = .ok .skip w2∧an [b] w1 w2∧Row w2 b ds t:=by
 cases h with
 | @mk t ty UH y u n us cs ds pos O2 ab O3 hz ht hn hy hc hl hs ho=>
  obtain ⟨i',z,t1,t2,t3⟩:=hz.h
  refine ⟨rfl,rfl,hn,z.cells.toList,_,CP t1 t2,an.alloc _ _ _,?_,?_⟩
  ·have:=heap_alloc_new w (.cells z.cells t (0,0))
   unfold Row
   simpa using this
  ·intro r' w1 b cur F hS ha hr bh
   rw [t3] at bh
   obtain ⟨ti,q1,q2⟩:=ht.h
   obtain ⟨e1,e2⟩:=hs.eq
   have iw:=vv (P:=P) (d:=none) (ty:=UH) (pos:=O2) (ab:=O3) (gg:=none) q1 (by rw [hl,q2]) bh e1 (x:=.tmp d) hr (y:=y) (by rw [aR ha hy]; exact hc.eq hS) (ho.one hS)
   refine ⟨_,iw,⟨rfl,rfl,rfl,Nat.le_refl _,by simp,fun j _ hj=>setRow_other w1 b j _ fun h=>hj (by simp [h])⟩,?_⟩
   have qc:=setRow_heap w1 b cs.toArray (cs.take 0++us++cs.drop (0+us.length)).toArray t _ bh
   rw [e2]
   exact qc
theorem zS.st {d:Nat} {oa os:Oper} {t:TI} {ds:LV} (h:zS P Γ fr d oa os t ds):os.guard=none∧os.dst=none:=by
 cases h; exact ⟨rfl,rfl⟩
theorem G4 {r:NV} {d:Nat} {v:Value}:wi r d v d=v:=by unfold wi; rw [Nat.beq_refl]; rfl
theorem Ra {r:NV} {d t:Nat} {v:Value} (h:t≠d):wi r d v t=r t:=by
 unfold wi
 cases hb:Nat.beq t d with
 | true=>exact absurd (Nat.eq_of_beq_eq_true hb) h
 | false=>rfl
theorem yT {r:NV} {d:Nat} {v:Value} (hn:look fr d=none) (ha:cu r fr):cu (wi r d v) fr:=by
 intro t u hl
 have kp:t≠d:=fun h=>by rw [h,hn] at hl; cases hl
 rw [Ra kp]
 exact ha t u hl
theorem vN {l:LO} {L:Array Bool} {rs:LN} (h:mr l L rs=true):Region.ready .any l.toArray L=rs:=by
 unfold mr at h
 simpa using h
variable {n:Nat} {l:LO} {Q:Exit→(Nat→Value)→World→Prop} {w0:World} {F2:LN} {a1 a2 s1 s2 d1 d2:Nat} {G5 E9 Fb Fc:Oper} {t1 t2:TI} {Fe Ff:LV} {L:Array Bool} {r:NV}
theorem tree (hd:df n l=true) (vM:∀ w,an [] w0 w→SA Z w Γ [] F2) (B1:zS P Γ fr d1 G5 Fb t1 Fe) (B2:zS P Γ fr d2 E9 Fc t2 Ff) (kp:d1≠d2) (i1:l[a1]? = some G5) (i2:l[a2]? = some E9) (j1:l[s1]? = some Fb) (j2:l[s2]? = some Fc)
  (fin:∀ b1 b2 r w,w0.heap.size≤b1→w0.heap.size≤b2→b1≠b2→an [] w0 w→cu r fr→r d1 = .pointer (some ⟨b1,0,none⟩)→r d2 = .pointer (some ⟨b2,0,none⟩)→Row w b1 Fe t1→Row w b2 Ff t2→Q .normal r w)
  (hc:KA l a1 a2 s1 s2 L=true) (hS:an [] w0 w) (ha:cu r fr):Hw P n l Q (an [] w0) 4 L r w:=by
 unfold KA at hc
 simp only [Bool.and_eq_true,Bool.or_eq_true] at hc
 obtain ⟨⟨⟨⟨⟨_,c1,c3⟩,c4,c5⟩,c7,c8⟩,UI,G6⟩,cc⟩:=hc
 obtain ⟨rs,c2,hn,hr⟩ : ∃ rs,mr l (on L a1) rs=true∧rs≠[]∧∀ i∈rs,i=a2∨i=s1∧mr l (on (on L a1) s1) [a2]=true∧mr l (on (on (on L a1) s1) a2) [s2]=true∧mr l (on (on (on (on L a1) s1) a2) s2) []=true:=by
  rcases cc with c | ⟨c,c6,c9,Mz⟩
  ·exact ⟨_,c,by simp,fun i hi=>.inl (List.mem_singleton.1 hi)⟩
  ·exact ⟨_,c,by simp,fun i hi=>(List.mem_cons.1 hi).imp id fun hi=>⟨List.mem_singleton.1 hi,c6,c9,Mz⟩⟩
 have g1:=(B1.st).1
 have g2:=(B2.st).1
 have e1:=(B1.st).2
 have e2:=(B2.st).2
 have last:∀ {L:Array Bool} {b1 b2:Nat} {xX:LV} {r:NV} {w:World},mr l L [s2]=true→mr l (on L s2) []=true→w0.heap.size≤b1→w0.heap.size≤b2→b1≠b2→an [] w0 w→cu r fr→r d1 = .pointer (some ⟨b1,0,none⟩)→r d2 = .pointer (some ⟨b2,0,none⟩)→Row w b1 Fe t1→Row w b2 xX t2→
   (∀ (r':NV) (w1:World) (b:Nat) cur F,SA Z w1 Γ cur F→cu r' fr→r' d2 = .pointer (some ⟨b,0,none⟩)→Row w1 b xX t2→∃ w2,(execOp (ev r') Fc).run P w1 = .ok .skip w2∧an [b] w1 w2∧Row w2 b Ff t2)→Hw P n l Q (an [] w0) 1 L r w:=by
  intro L b1 b2 xX r w k1 k2 h1 h2 h3 hS ha p1 p2 r1 r2 st
  obtain ⟨w2,iw,hC,hr⟩:=st r w b2 [] F2 (vM w hS) ha p2 r2
  have fw:an [] w0 w2:=hS.then hC fun i hi=>.inr (by rw [List.mem_singleton.1 hi]; exact h2)
  refine Hw.all hd (vN k1) (by simp) fun i hi=>?_
  rw [List.mem_singleton.1 hi]
  refine ⟨Fc,j2,g2,undef,w2,.inr ⟨iw,rfl⟩,fw,?_⟩
  rw [e2]
  exact Hw.done (vN k2) (fin b1 b2 r w2 h1 h2 h3 fw ha p1 p2 (r1.ec hC (by simpa using h3)) hr)
 have two:∀ {L:Array Bool} {b1 b2:Nat} {MA xX:LV} {r:NV} {w:World},mr l L [s1]=true→mr l (on L s1) [s2]=true→mr l (on (on L s1) s2) []=true→w0.heap.size≤b1→w0.heap.size≤b2→b1≠b2→an [] w0 w→cu r fr→r d1 = .pointer (some ⟨b1,0,none⟩)→r d2 = .pointer (some ⟨b2,0,none⟩)→Row w b1 MA t1→Row w b2 xX t2→
   (∀ (r':NV) (w1:World) (b:Nat) cur F,SA Z w1 Γ cur F→cu r' fr→r' d1 = .pointer (some ⟨b,0,none⟩)→Row w1 b MA t1→∃ w2,(execOp (ev r') Fb).run P w1 = .ok .skip w2∧an [b] w1 w2∧Row w2 b Fe t1)→
   (∀ (r':NV) (w1:World) (b:Nat) cur F,SA Z w1 Γ cur F→cu r' fr→r' d2 = .pointer (some ⟨b,0,none⟩)→Row w1 b xX t2→∃ w2,(execOp (ev r') Fc).run P w1 = .ok .skip w2∧an [b] w1 w2∧Row w2 b Ff t2)→Hw P n l Q (an [] w0) 2 L r w:=by
  intro L b1 b2 MA xX r w k1 k2 k3 h1 h2 h3 hS ha p1 p2 r1 r2 EV G7
  obtain ⟨w2,iw,hC,hr⟩:=EV r w b1 [] F2 (vM w hS) ha p1 r1
  have fw:an [] w0 w2:=hS.then hC fun i hi=>.inr (by rw [List.mem_singleton.1 hi]; exact h1)
  refine Hw.all hd (vN k1) (by simp) fun i hi=>?_
  rw [List.mem_singleton.1 hi]
  refine ⟨Fb,j1,g1,undef,w2,.inr ⟨iw,rfl⟩,fw,?_⟩
  rw [e1]
  exact last k2 k3 h1 h2 h3 fw ha p1 p2 hr (r2.ec hC (by simpa using Ne.symm h3)) G7
 refine Hw.all hd (vN c1) (by simp) fun i hi=>?_
 rcases List.mem_cons.1 hi with rfl | hi
 ·-- the first is made first
  obtain ⟨gd,dd,dn,MA,w1,iw,hC,bh,EV⟩:=B1.alloc r w
  have ed:an [] w0 w1:=hS.trans hC
  have Bo:w0.heap.size≤w.heap.size:=hS.size
  have YF:=bh.lt
  have G8:=yT (v:=.pointer (some ⟨w.heap.size,0,none⟩)) dn ha
  refine ⟨G5,i1,gd,_,w1,.inl iw,ed,?_⟩
  rw [dd]
  refine Hw.all hd (vN c2) hn fun i hi=>?_
  rcases hr i hi with rfl | ⟨rfl,c6,c9,Mz⟩
  ·obtain ⟨UJ,UK,UL,xX,w2,zF,tf,KC,G7⟩:=B2.alloc (ez r (some d1) (.pointer (some ⟨w.heap.size,0,none⟩))) w1
   refine ⟨E9,i2,UJ,_,w2,.inl zF,ed.trans tf,?_⟩
   rw [UK]
   exact two (b1:=w.heap.size) (b2:=w1.heap.size) c4 c7 UI Bo (by omega) (by omega) (ed.trans tf) (yT UL G8) (by show wi _ d2 _ d1=_; rw [Ra kp]; exact G4) (by exact G4) (bh.gf tf) KC EV G7
  ·obtain ⟨w2,zF,tf,Jl⟩:=EV _ w1 w.heap.size [] F2 (vM w1 ed) G8 G4 bh
   have fw:an [] w0 w2:=ed.then tf fun i hi=>.inr (by rw [List.mem_singleton.1 hi]; exact Bo)
   refine ⟨Fb,j1,g1,undef,w2,.inr ⟨zF,rfl⟩,fw,?_⟩
   rw [e1]
   refine Hw.all hd (vN c6) (by simp) fun i hi=>?_
   rw [List.mem_singleton.1 hi]
   obtain ⟨gd3,dd3,dn3,xX,w3,XM,Fg,wD,G7⟩:=B2.alloc (ez (ez r (some d1) (.pointer (some ⟨w.heap.size,0,none⟩))) none undef) w2
   have sz:w1.heap.size≤w2.heap.size:=tf.size
   refine ⟨E9,i2,gd3,_,w3,.inl XM,fw.trans Fg,?_⟩
   rw [dd3]
   exact last (b1:=w.heap.size) (b2:=w2.heap.size) c9 Mz Bo (by omega) (by omega) (fw.trans Fg) (yT dn3 G8) (by show wi _ d2 _ d1=_; rw [Ra kp]; exact G4) G4 (Jl.gf Fg) wD G7
 ·rw [List.mem_singleton.1 hi]
  obtain ⟨gd,dd,dn,xX,w1,iw,hC,bh,G7⟩:=B2.alloc r w
  have ed:an [] w0 w1:=hS.trans hC
  have Bo:w0.heap.size≤w.heap.size:=hS.size
  have YF:=bh.lt
  have G8:=yT (v:=.pointer (some ⟨w.heap.size,0,none⟩)) dn ha
  refine ⟨E9,i2,gd,_,w1,.inl iw,ed,?_⟩
  rw [dd]
  refine Hw.all hd (vN c3) (by simp) fun i hi=>?_
  rw [List.mem_singleton.1 hi]
  obtain ⟨UJ,UK,UL,MA,w2,zF,tf,KC,EV⟩:=B1.alloc (ez r (some d2) (.pointer (some ⟨w.heap.size,0,none⟩))) w1
  refine ⟨G5,i1,UJ,_,w2,.inl zF,ed.trans tf,?_⟩
  rw [UK]
  exact two (b1:=w1.heap.size) (b2:=w.heap.size) c5 c8 G6 (by omega) Bo (by omega) (ed.trans tf) (yT UL G8) G4 (by show wi _ d1 _ d2=_; rw [Ra (Ne.symm kp)]; exact G4) KC (bh.gf tf) EV G7
end
section
variable {R S:Type} {P:Program} {cx:Cx R} {K:dh R S} {l:LO}
theorem UM {id:Nat} (qs:LN) (a1 a2 s1 s2 d1 d2:Nat) {xd:LO} {Γ:QE} {fr lq:Fr} {G5 E9 Fb Fc:Oper} {t1 t2:TI} {Fe Ff:LV} {m:Option (Out S R)}
  (hB:(P.follows .mixedOrders && df cx.n l && Region.noSelect l.toArray && KB l a1 a2 s1 s2 qs (Array.replicate l.length false) && Nat.beq l.length (qs.length+4) && !(Nat.beq d1 d2))=true)
  (hq:xd=pick l qs) (e1:l[a1]? = some G5) (e2:l[a2]? = some E9) (e3:l[s1]? = some Fb) (e4:l[s2]? = some Fc) (h2:QA P Γ (.q xd fr) lq) (B1:zS P Γ lq d1 G5 Fb t1 Fe) (B2:zS P Γ lq d2 E9 Fc t2 Ff)
  (h:∀ b1 b2,D P cx (.p [(d1,.pointer (some ⟨b1,0,none⟩)),(d2,.pointer (some ⟨b2,0,none⟩))] [.row b1 Fe t1,.row b2 Ff t2] lq Γ fun fr Γ=>.n K Γ fr m)):Bx (mb P cx (.dr id l K Γ fr m)):=by
 simp only [Bool.and_eq_true] at hB
 obtain ⟨⟨⟨⟨⟨b1,b2⟩,b3⟩,b4⟩,b5⟩,b6⟩:=hB
 rw [lg]
 intro B o ho r w ha my
 obtain ⟨Z,F,hS,hG⟩:=my
 have kp:d1≠d2:=fun hd=>by rw [hd,Nat.beq_refl] at b6; cases b6
 refine mf.W b1 (Hw.start (S:=an [] { w with drawn:=w.drawn+1 }) ?_)
 have Bj:an [] w { w with drawn:=w.drawn+1 }:=an.drew _ _
 have vM:∀ w',an [] { w with drawn:=w.drawn+1 } w'→SA Z w' Γ [] F:=fun w' hC=>(hS.gf Bj).gf hC
 rw [show l.length=qs.length+4 from Nat.eq_of_beq_eq_true b5] at b4 ⊢
 subst hq
 refine Hw.UG (K:=fun r'=>cu r' lq) b2 b3 (fun c r w h=>si c h) (an.refl _ _) (fun L r' hc ee=>?_) qs _ r b4 (QA.sound (fun w' hC=>⟨[],F,vM w' hC⟩) h2 r ha)
 refine tree b2 vM B1 B2 kp e1 e2 e3 e4 (fun c1 c2 r2 w2 k1 k2 k3 hC ha2 p1 p2 r1 rr2=>?_) hc (an.refl _ _) ee
 have tf:an [] w w2:=Bj.trans hC
 replace k1:w.heap.size≤c1:=k1
 replace k2:w.heap.size≤c2:=k2
 have tY:HL Z w2 [.row c1 Fe t1,.row c2 Ff t2] ([c1]++([c2]++[])):=.own (f:=[c1]) ⟨rfl,r1⟩ (.own (f:=[c2]) ⟨rfl,rr2⟩ .nil)
 obtain ⟨F3,q1,q2⟩:=HL.build tY (vM w2 hC)
 have bc:∀ b∈F,b < w.heap.size:=fun b hb=>hS.lt b hb
 have gx:Gd B Z (([c1]++([c2]++[]))++F) w2:=by
  refine ⟨?_,?_,fun b hb=>Nat.lt_of_lt_of_le (hG.ml b hb) tf.size,?_,hG.tQ,hG.tj,hG.iH.then tf fun i hi=>nomatch hi⟩
  ·refine List.nodup_append.2 ⟨by simpa using k3,hG.nd,fun a MB b hb uE=>?_⟩
   have:=bc b hb
   rcases List.mem_cons.1 MB with rfl | MB
   ·omega
   ·have:a=c2:=by simpa using MB
    omega
  ·intro b hb hz
   rcases List.mem_append.1 hb with hb | hb
   ·have:=hG.ml b hz
    rcases List.mem_cons.1 hb with rfl | hb
    ·omega
    ·have:b=c2:=by simpa using hb
     omega
   ·exact hG.apart b hb hz
  ·intro b hb
   have hz:=hG.iH.size
   rcases List.mem_append.1 hb with hb | hb
   ·rcases List.mem_cons.1 hb with rfl | hb
    ·exact .inr (by omega)
    ·have:b=c2:=by simpa using hb
     exact .inr (by omega)
   ·exact hG.low b hb
 refine (h c1 c2).sound B o ho r2 w2 ?_ ⟨Z,F3,q2,gx.perm q1⟩
 exact qn (g:=[(d1,.pointer (some ⟨c1,0,none⟩)),(d2,.pointer (some ⟨c2,0,none⟩))]) (fun p hp=>by
  rcases List.mem_cons.1 hp with rfl | hp
  ·exact p1
  ·rw [List.mem_singleton.1 hp]; exact p2) ha2
end
end Go.Dk
namespace Go.Dk
open Go Go.Li
def UN (i:Nat) (o:Oper):Oper:=⟨o.dst,o.op,o.type,o.pos,o.after.push ⟨i,.data⟩,o.guard⟩
def uc (i:Nat):Nat→List Oper→List Oper
 | _,[]=>[]
 | 0,o :: l=>UN i o :: l
 | j+1,o :: l=>o :: uc i j l
theorem Ey (i:Nat):∀ (j:Nat) (l:LO),(uc i j l).length=l.length
 | _,[]=>by cases ‹Nat› <;> rfl
 | 0,_ :: _=>rfl
 | j+1,o :: l=>by unfold uc; rw [List.length_cons,List.length_cons,Ey i j l]
theorem B4 (i:Nat):∀ (j:Nat) (l:LO) (k:Nat),(uc i j l)[k]? = (l[k]?).map fun o=>if k=j then UN i o else o
 | 0,[],k=>by simp [uc]
 | j+1,[],k=>by simp [uc]
 | 0,o :: l,0=>by simp [uc]
 | 0,o :: l,k+1=>by simp [uc]
 | j+1,o :: l,0=>by simp [uc]
 | j+1,o :: l,k+1=>by
  unfold uc
  rw [List.getElem?_cons_succ,List.getElem?_cons_succ,B4 i j l k]
  simp
section
variable {P:Program} {l:LO} {Q:Exit→Act→World→Prop} {i j:Nat}
theorem Iy (tmps:Array Value):yielded (uc i j l).toArray tmps=yielded l.toArray tmps:=by
 funext k
 simp only [yielded]
 rw [List.getElem?_toArray,List.getElem?_toArray,B4]
 cases l[k]? with
 | none=>rfl
 | some o=>
  simp only [Option.map_some,Option.bind_some]
  by_cases h:k=j
  ·rw [if_pos h]; rfl
  ·rw [if_neg h]
theorem G9 {k:Nat} {K:Act→World→Prop} {a:Act} {w:World}:wpOp P (uc i j l).toArray Q k K a w=wpOp P l.toArray Q k K a w:=by
 unfold wpOp
 rw [Iy,List.getElem?_toArray,List.getElem?_toArray,B4]
 cases l[k]? with
 | none=>rfl
 | some o=>
  simp only [Option.map_some]
  by_cases h:k=j
  ·rw [if_pos h]; rfl
  ·rw [if_neg h]
theorem Fh {L:Array Bool} (hL:L.getD i false=true):Region.ready .any (uc i j l).toArray L=Region.ready .any l.toArray L:=by
 unfold Region.ready
 rw [List.size_toArray,List.size_toArray,Ey]
 refine List.filter_congr fun k _=>?_
 rw [List.getElem?_toArray,List.getElem?_toArray,B4]
 cases l[k]? with
 | none=>rfl
 | some o=>
  simp only [Option.map_some]
  by_cases h:k=j
  ·rw [if_pos h]
   simp only [UN,Array.all_push,hL,Bool.or_true,Bool.and_true]
  ·rw [if_neg h]
theorem Fi:∀ (fuel:Nat) (L:Array Bool) (a:Act) (w:World),L.getD i false=true→wpAny P .any (uc i j l).toArray Q fuel L a w→wpAny P .any l.toArray Q fuel L a w
 | 0,L,a,w,hL,h=>by
  unfold wpAny at h ⊢
  rw [Fh hL] at h
  exact h
 | fuel+1,L,a,w,hL,h=>by
  unfold wpAny at h ⊢
  rw [Fh hL] at h
  refine ⟨h.1,fun k hk=>?_⟩
  have h2:=h.2 k hk
  rw [G9] at h2
  exact wpOp_mono (fun a' w' h'=>Fi fuel _ a' w' (getD_set_true hL) h') h2
end
def UO:Oper→Bool
 | ⟨some _,.move _,_,_,_,none⟩=>true
 | _=>false
def KD:List (Nat×Nat)→List Oper→Bool
 | [],_=>true
 | (i,j) :: zs,l=>!(Nat.beq i j) && Nat.blt i l.length && UO (l.getD i default) && Region.noSelect l.toArray && Region.free .any l.toArray (Array.replicate l.length false) i && (Region.ready .any l.toArray (Array.replicate l.length false)).contains i && (Region.ready .any (uc i j l).toArray (Array.replicate l.length false)).contains i && KD zs (uc i j l)
def O4:List (Nat×Nat)→List Oper→List Oper
 | [],l=>l
 | (i,j) :: zs,l=>O4 zs (uc i j l)
section
variable {P:Program} {n:Nat} {Q:Exit→(Nat→Value)→World→Prop} {r:NV} {w w0:World}
theorem Si {o:Oper} (h:UO o=true) (a:Act):o.guard=none∧∃ v,(∀ w,(execOp a.eval o).run P w = .ok (.value v) w)∧∀ w,¬ o.asks P a w:=by
 obtain ⟨d,op,ty,pos,ab,g⟩:=o
 cases d <;> cases op <;> cases g <;> first | (cases h; done) | skip
 refine ⟨rfl,_,fun w=>rfl,fun w ha=>?_⟩
 have h1:=ha.1
 exact absurd (show noRoomEvent∈(#[]:Array _) from h1) (by simp)
theorem mf.aah {i j:Nat} {l:LO} (h1:(!(Nat.beq i j) && Nat.blt i l.length && UO (l.getD i default) && Region.noSelect l.toArray && Region.free .any l.toArray (Array.replicate l.length false) i && (Region.ready .any l.toArray (Array.replicate l.length false)).contains i && (Region.ready .any (uc i j l).toArray (Array.replicate l.length false)).contains i)=true)
  (hp:∀ c r w,¬ Q (.panic c) r w) (h:mf P n (uc i j l) Q r w):mf P n l Q r w:=by
 simp only [Bool.and_eq_true] at h1
 obtain ⟨⟨⟨⟨⟨⟨c1,c2⟩,c3⟩,c4⟩,c5⟩,c6⟩,c7⟩:=h1
 have kp:i≠j:=fun e=>by rw [e,Nat.beq_refl] at c1; cases c1
 have hi:=yS c2
 have bc:i < l.length:=Nat.lt_of_succ_le (Nat.le_of_ble_eq_true c2)
 intro a g1 g2 g3
 have H:=h a g1 g2 g3
 obtain ⟨hg,v,hv,hn⟩:=Si (P:=P) c3 a
 rw [List.size_toArray,Ey] at H
 rw [List.size_toArray]
 obtain ⟨f,hf⟩ : ∃ f,l.length=f+1:=⟨l.length - 1,by omega⟩
 have hw:Region.wanted (l.getD i default) (yielded l.toArray a.tmps)=true:=sg hg
 refine (congrArg (fun k=>wpAny P .any l.toArray _ k _ a _) hf).mpr ?_
 refine wpAny_take (by simpa using hi) c4 (by simpa using c5) (by simpa using c6) (fun c a w h=>(hp _ _ _ h.2.2).elim) (.inl ⟨hw,hv⟩) ?_
 refine Fi (i:=i) (j:=j) f _ _ _ ?_ ?_
 ·have:i < (Array.replicate l.length false).size:=by simpa using bc
  simp [Array.getD,bc]
 ·have H2:=(congrArg (fun k=>wpAny P .any (uc i j l).toArray (fun e a' w'=>a'.tmps.size=n∧a'.defers=[]∧Q e (cw a') w') k (Array.replicate l.length false) a { w with drawn:=w.drawn+1 }) hf).mp H
  have H3:=H2.2 i (by simpa using c7)
  rw [G9] at H3
  unfold wpOp at H3
  rw [show (l.toArray)[i]? = some (l.getD i default) by simpa using hi] at H3
  simp only [] at H3
  rw [if_pos hw] at H3
  rcases H3 with H3 | H3
  ·unfold Oper.wp at H3
   rw [hv] at H3
   exact H3
  ·exact absurd H3.1 (hn _)
theorem mf.Rb:∀ (zs:List (Nat×Nat)) {l:LO},KD zs l=true→(∀ c r w,¬ Q (.panic c) r w)→mf P n (O4 zs l) Q r w→mf P n l Q r w
 | [],_,_,_,h=>h
 | (i,j) :: zs,l,hc,hp,h=>by
  unfold KD at hc
  rw [Bool.and_eq_true] at hc
  exact mf.aah hc.1 hp (mf.Rb zs hc.2 hp h)
theorem MC (k:Nat) {l:LO} (hd:df n l=true) (hp:((l.take k).all fun o=>w4 o.op)=true) (hB:Region.lexTailB .any l.toArray k=true)
  (h:QL P (an [] w) l (l.take k) r fun r'=>∀ w',an [] w w'→WL P l (l.drop k) r' w' (Q .normal)):mf P n l Q r w:=by
 intro a h1 h2 h3
 have Bi:an [] w { w with drawn:=w.drawn+1 }:=an.drew _ _
 have my:wpStill P l.toArray { w with drawn:=w.drawn+1 } (fun a'=>wpList P l.toArray (fun e a' w'=>a'.tmps.size=n∧a'.defers=[]∧Q e (cw a') w') (l.drop k) a' { w with drawn:=w.drawn+1 }) (l.take k) a:=by
  refine QL.still (n:=n) (C:=an [] w) Bi hd (l.take k) a (zT hd fun o ho=>List.mem_of_mem_take ho) hp h1 h2 (by rw [h3]; exact h) _ ?_
  intro a' g1 g2 g3
  exact WL.list hd _ _ _ (zT hd fun o ho=>List.mem_of_mem_drop ho) g1 g2 (g3 _ Bi)
 unfold Region.lexTailB at hB
 simp only [Bool.and_eq_true,decide_eq_true_eq,List.size_toArray] at hB
 obtain ⟨⟨⟨⟨aai,hn⟩,hs⟩,hc⟩,OV⟩:=hB
 have Rc:(l.take k).length=k:=by rw [List.length_take]; omega
 have aaj:HeadInv .any l.toArray k (Array.replicate l.length false):=
  ⟨by simp,fun j oj _ hl=>(by rw [getD_replicate_false] at hl; cases hl),fun t _ ht=>getD_in (by simpa using ht) (getD_replicate_false _ _)⟩
 have H:=wpAnyL_lex (md:=.any) (g:=l.length - k) aai hs hc (by simpa using hn) (l.take k) 0 _ a (fun j hj=>by
  rw [Rc] at hj
  rw [List.getElem?_take_of_lt hj,Nat.zero_add,List.getElem?_toArray]) (by rw [Rc,Nat.zero_add]) aaj (by rw [Rc]; exact OV) my
 have H2:=wpAny_of_head (Q':=fun e a' w'=>a'.tmps.size=n∧a'.defers=[]∧Q e (cw a') w') (g:=l.length - k) (fun L a' hL=>by
  have H3:=wpAny_of_seq (md:=.any) (Q':=fun e a' w'=>a'.tmps.size=n∧a'.defers=[]∧Q e (cw a') w') (l.drop k) k L a' { w with drawn:=w.drawn+1 } (fun j=>by rw [List.getElem?_drop,List.getElem?_toArray]) (by rw [List.length_drop]; exact hL.1) hL.2
  rwa [List.length_drop] at H3) _ _ _ H
 rw [Rc,show k+(l.length - k)=l.length by omega] at H2
 rw [List.size_toArray]
 exact H2
end
section
variable {R S:Type} {P:Program} {cx:Cx R} {K:dh R S}
theorem Re {id:Nat} (zs:List (Nat×Nat)) (k:Nat) {l l' ops tl:LO} {Γ:QE} {fr:Fr} {m:Option (Out S R)} (hl:l'=O4 zs l) (hB:(P.follows .mixedOrders && KD zs l && df cx.n l' && ((l'.take k).all fun o=>w4 o.op) && Region.lexTailB .any l'.toArray k)=true) (ho:ops=l'.take k) (ht:tl=l'.drop k)
  (h:D P cx (.o true l' ops (.h l' tl K) Γ fr m)):Bx (mb P cx (.dr id l K Γ fr m)):=by
 simp only [Bool.and_eq_true] at hB
 obtain ⟨⟨⟨⟨h1,h2⟩,h3⟩,h4⟩,h5⟩:=hB
 subst ho ht hl
 rw [lg]
 intro B o ho r w ha hs
 exact mf.W h1 (mf.Rb zs h2 (fun c r w h=>si c h) (MC k h3 h4 h5 (h.sound B o ho r w ha hs)))
end
end Go.Dk
namespace Go.Dk
open Go Go.Li
section
variable {B:Bs} {P:Program} {Z Z':Nat→Prop} {w:World} {Fd F1:LN}
theorem KE {f:FuncId} {ow:Bool} {vs:LV} {Δ:QE} {β V:Type} {mo:Option β} {rt:β→V→List Value} {ps:β→V→List aw} {y:β} (hc:QH P f ow vs Δ β V mo rt ps) (hl:HL Z' w Δ Fd) (bc:∀ b∈F1,b < w.heap.size) (lp:Gd B Z (Fd++F1) w)
  (hz:∀ b,Z b→Z' b) (Gq:∀ b,Z' b→Z b∨b∈F1) (hm:∀ v,sG (ps y v)=true) (hy:mo=some y) :
  Calls P f vs.toArray w fun e w'=>∃ v F2,e = .returned (nq (rt y v))∧an Fd w w'∧HL Z w' (ps y v) F2∧Gd B Z (F2++F1) w':=by
 have cn:=List.nodup_append.1 lp.nd
 refine (hc.2 w Z' Fd hl cn.1 (fun b hb TB=>(Gq b TB).elim (lp.apart b (List.mem_append_left _ hb)) (fun h=>cn.2.2 b hb b h rfl)) (fun b hb=>(Gq b hb).elim (lp.ml b) (bc b)) y hy).mono ?_
 rintro e w' ⟨v,he,Z2,F2,py,gx⟩
 have hC:an Fd w w':=gx.iH
 refine ⟨v,F2,he,hC,yG (hm v) py,?_⟩
 refine ⟨List.nodup_append.2 ⟨gx.nd,cn.2.1,?_⟩,?_,fun b hb=>Nat.lt_of_lt_of_le (lp.ml b hb) hC.size,?_,lp.tQ,lp.tj,?_⟩
 ·rintro b hb c uy rfl
  rcases gx.low b hb with h | h
  ·exact cn.2.2 b h b uy rfl
  ·exact absurd (bc b uy) (Nat.not_lt.2 h)
 ·intro b hb YG
  rcases List.mem_append.1 hb with hb | hb
  ·exact gx.apart b hb (gx.tQ b (hz b YG))
  ·exact lp.apart b (List.mem_append_right _ hb) YG
 ·intro b hb
  rcases List.mem_append.1 hb with hb | hb
  ·rcases gx.low b hb with h | h
   ·exact lp.low b (List.mem_append_left _ h)
   ·exact .inr (Nat.le_trans lp.iH.size h)
  ·exact lp.low b (List.mem_append_right _ hb)
 ·exact lp.iH.then hC fun i hi=>lp.low i (List.mem_append_left _ hi)
end
section
variable {P:Program} {S:World→Prop}
theorem AB.mono {K K':(Nat→Value)→Prop} (hk:∀ r,K r→K' r):∀ {ops:LO} {r:NV},AB P S ops r K→AB P S ops r K'
 | [],_,h=>hk _ h
 | _ :: _,_,⟨hg,v,h1,h2⟩=>⟨hg,v,h1,AB.mono hk h2⟩
end
inductive QX {R S:Type} (P:Program) (cx:Cx R) (K:dh R S) (mg:LO) (rs:List (Nat×List Value×TypeId)) (pe:QE):List aw→List aw→List Oper→Fr→Option (Out S R)→Prop
 | pe {e:aw} {Δ Γ:QE} {ops:LO} {fr:Fr} {m:Option (Out S R)} (h:QX P cx K mg rs pe Δ (e :: Γ) ops fr m):QX P cx K mg rs pe (e :: Δ) Γ ops fr m
 | nil {Γ:QE} {fr:Fr} {m:Option (Out S R)} {sQ:List (Nat×List Value×TypeId)} (h:SQ P Γ fr mg rs sQ) (k:D P cx (.p [] pe fr Γ fun fr Γ=>.p [] (DH sQ) fr Γ fun fr Γ=>.n K Γ fr m)):QX P cx K mg rs pe [] Γ [] fr m
 | LG {d n:Nat} {t ty:TI} {x:OO} {a:Addr} {ds:LV} {pos:String} {ab:Array Edge} {ops:LO} {Γ:QE} {fr:Fr} {m:Option (Out S R)} [ht:LK P t (some n)] (hx:bm fr x=some (.pointer (some a))) (hw:bg Γ a n ds) (h:QX P cx K mg rs pe [] Γ ops ((d,.agg ds.toArray) :: fr) m) :
   QX P cx K mg rs pe [] Γ (⟨some d,.load t x,ty,pos,ab,none⟩ :: ops) fr m
 | Gl {α V:Type} {d n:Nat} {x y:OO} {v:Value} {k:IntKind} {j:Int} {t ty:TI} {S':ag α} {cl:α→V→List Value} {en:α→V→List aw} {xs:List α} {pos:String} {ab:Array Edge} {ops:LO} {Γ Γx:QE} {fr:Fr} {f:α→Option (Out S R)} [ht:Gi P t n] (hx:bm fr x=some v) (hy:bm fr y=some (.int k j))
   (hr:ll Γ v false false (r4 S') xs px Γx) (hs:EU S' V cl en) (hn:S'.size=n) (h:∀ z u,QX P cx K mg rs pe (.ak (dc v n j) (cl z u) :: en z u) Γ ops ((d,.pointer (some (dc v n j))) :: fr) (f z)) :
   QX P cx K mg rs pe [] Γ (⟨some d,.indexAddr t x y,ty,pos,ab,none⟩ :: ops) fr (idx xs j>>=f)
 | lc {d:Nat} {t ty:TI} {x:OO} {a:Addr} {u:Value} {pos:String} {ab:Array Edge} {ops:LO} {Γ:QE} {fr:Fr} {m:Option (Out S R)} [ht:LK P t none] (hx:bm fr x=some (.pointer (some a))) (hw:uw Γ a u) (h:QX P cx K mg rs pe [] Γ ops ((d,u) :: fr) m) :
   QX P cx K mg rs pe [] Γ (⟨some d,.load t x,ty,pos,ab,none⟩ :: ops) fr m
 | val {d:Nat} {op:Op} {ty:TI} {u:Value} {pos:String} {ab:Array Edge} {ops:LO} {Γ:QE} {fr:Fr} {m:Option (Out S R)} (hv:VQ P Γ fr op u) (h:QX P cx K mg rs pe [] Γ ops ((d,u) :: fr) m):QX P cx K mg rs pe [] Γ (⟨some d,op,ty,pos,ab,none⟩ :: ops) fr m
section
variable {R S:Type} {P:Program} {cx:Cx R} {K:dh R S} {mg:LO} {rs:List (Nat×List Value×TypeId)} {pe:QE} {Z:Nat→Prop}
theorem QX.sound {w0:World} {H:LN} (hz:∀ b∈H,¬ Z b) {Δ Γ:QE} {ops:LO} {fr:Fr} {m:Option (Out S R)} (h:QX P cx K mg rs pe Δ Γ ops fr m):∀ {o:Out S R} {F:LN},m=some o→(∀ b∈H,b ∉ F)→SA Z w0 (Δ.reverse++Γ) [] F→∀ r,cu r fr→
  AB P (an H w0) ops r fun r'=>∃ Γ' lq sQ m' F',F'.Perm F∧m'=some o∧cu r' lq∧SA Z w0 Γ' [] F'∧SQ P Γ' lq mg rs sQ∧D P cx (.p [] pe lq Γ' fun fr Γ=>.p [] (DH sQ) fr Γ fun fr Γ=>.n K Γ fr m'):=by
 induction h with
 | @pe e Δ Γ ops fr m _ ih=>
  intro o F hm hF hS r ha
  refine ih hm hF ?_ r ha
  rw [List.reverse_cons,List.append_assoc] at hS
  exact hS
 | @nil Γ fr m sQ h k=>exact fun hm hF hS r ha=>⟨Γ,fr,sQ,m,_,.refl _,hm,ha,hS,h,k⟩
 | @val d op ty u pos ab ops Γ fr m hv _ ih=>
  intro o F hm hF hS r ha
  refine ⟨rfl,u,fun w hC=>?_,ih hm hF hS _ (aq ha)⟩
  exact hv.sound ((SA.ec hC hz (fun _ _=>List.not_mem_nil) hF hS)) ha (some d) ty pos ab none w (an.refl _ _)
 | @LG d n t ty x a ds pos ab ops Γ fr m ht hx hw _ ih=>
  intro o F hm hF hS r ha
  refine ⟨rfl,_,fun w hC=>?_,ih hm hF hS _ (aq ha)⟩
  obtain ⟨h1,h2⟩:=hw.sound (SA.ec hC hz (fun _ _=>List.not_mem_nil) hF hS)
  exact Lg ht.h h1 (aR ha hx) h2 w (an.refl _ _)
 | @lc d t ty x a u pos ab ops Γ fr m ht hx hw _ ih=>
  intro o F hm hF hS r ha
  refine ⟨rfl,u,fun w hC=>?_,ih hm hF hS _ (aq ha)⟩
  exact Ld ht.h (hw.sound (SA.ec hC hz (fun _ _=>List.not_mem_nil) hF hS)) (aR ha hx) w (an.refl _ _)
 | @Gl α V d n x y v k j t ty S' cl en xs pos ab ops Γ Γx fr f ht hx hy hr rJ hn _ ih=>
  intro o F hm hF hS r ha
  replace rJ:SO S' V cl en:=by cases rJ; assumption
  obtain ⟨z,MD,hm⟩:=bind_some hm
  replace MD:=rn MD
  obtain ⟨e,i,h1,h2,h3⟩:=ht.h
  obtain ⟨dk,_,⟨⟨f0,Co,tT⟩,_⟩,_⟩:=hr.sound hS
  have hZ:∀ b∈f0,Z b:=fun b hb=>(tT b hb).elim id id
  obtain ⟨⟨a,c,hv⟩,bc,cs,f1,dq,Gr,ji⟩:=s8 Co j MD.1 MD.2
  have nz:(r4 S').size=n:=hn
  rw [nz] at ji
  obtain ⟨u,rfl,sJ⟩:=rJ.op dq.2
  have hblk:Z (dc v n j).block:=by
   obtain ⟨base,cap,mm,ee⟩:=Co
   rcases ee with ⟨rfl,_⟩ | ⟨b,off,cr,e',fz,f',rfl,_,rfl,_⟩
   ·simp at bc; omega
   ·obtain rfl:v = .slice (some ⟨b,off,none⟩) xs.length cap:=by simpa using mm
    have:(dc (.slice (some ⟨b,off,none⟩) xs.length cap) n j).block=b:=by unfold dc; rw [vF]
    rw [this]; exact hZ b (by simp)
  have Gs:fact Z w0 [] (.ak (dc v n j) (cl z u)):=⟨fun i u' hi=>ji i u' hi,fun _=>hblk⟩
  have ei:HL Z w0 (.ak (dc v n j) (cl z u) :: en z u) []:=.fact Gs (u7 (sJ Z fun b hb=>hZ b (Gr b hb)))
  obtain ⟨F',hp,fw⟩:=ei.build hS
  have YH:F'.Perm F:=by simpa using hp
  refine ⟨rfl,.pointer (some (dc v n j)),fun w hC=>?_,?_⟩
  ·rw [lv h1 h2 ((aR ha hx).trans hv) (aR ha hy) MD.1 (by omega),h3,hv]
   rfl
  ·have hq:=ih z u (F:=F') hm (fun b hb h=>hF b hb (YH.mem_iff.1 h)) fw _ (aq ha)
   refine AB.mono ?_ hq
   rintro r' ⟨Γ',lq,sQ,m',F3,q0,q1,q2,q3,q4,q5⟩
   exact ⟨Γ',lq,sQ,m',F3,q0.trans YH,q1,q2,q3,q4,q5⟩
end
inductive UP (P:Program) (f:FuncId):Prop
 | mk [h:bu P f]:UP P f
theorem FO.hl {Z:Nat→Prop} {w:World} {Δ:QE} (h:FO Δ):∀ {F:LN},HL Z w Δ F→F=[]:=by
 induction h with
 | nil=>intro F h; cases h; rfl
 | rd _ ih=>intro F h; cases h with | own h k=>exact h.elim | fact h k=>exact ih k
 | ak _ ih=>intro F h; cases h with | own h k=>exact h.elim | fact h k=>exact ih k
def CQ (l:LO) (nx:Array Bool→Bool):List Nat→Array Bool→Bool
 | [],L=>nx L
 | i :: qs,L=>Nat.blt i l.length && (Region.ready .any l.toArray L).contains i && Region.free .any l.toArray L i && CQ l nx qs (L.setIfInBounds i true)
section
variable {P:Program} {n:Nat} {l:LO} {Q:Exit→(Nat→Value)→World→Prop} {S:World→Prop}
theorem Hw.ME {nx:Array Bool→Bool} {m:Nat} (hd:df n l=true) (hs:Region.noSelect l.toArray=true) (hp:∀ c r w,¬ Q (.panic c) r w) {w:World} (hS:S w) {K:(Nat→Value)→Prop} (h:∀ L r,nx L=true→K r→Hw P n l Q S m L r w) :
  ∀ (qs:LN) (L:Array Bool) (r:NV),CQ l nx qs L=true→AB P S (pick l qs) r K→Hw P n l Q S (qs.length+m) L r w:=by
 intro qs
 induction qs with
 | nil=>intro L r hc hv; rw [List.length_nil,Nat.zero_add]; exact h L r hc hv
 | cons i qs ih=>
  intro L r hc hv
  unfold CQ at hc
  simp only [Bool.and_eq_true] at hc
  obtain ⟨⟨⟨c1,c2⟩,c3⟩,c4⟩:=hc
  obtain ⟨hg,v,h1,h2⟩:=hv
  have:=Hw.take hd (yS c1) hs c3 c2 hp hg h1 hS (ih _ _ c4 h2)
  rwa [show qs.length+m+1=(i :: qs).length+m by simp; omega] at this
theorem Hw.XN {k i:Nat} {L:Array Bool} {o:Oper} {r:NV} {w:World} (hd:df n l=true) (hi:l[i]? = some o) (hr:Region.ready .any l.toArray L=[i]) (hg:o.guard=none) (hy:fc P o r w fun v w'=>S w'∧Hw P n l Q S k (L.setIfInBounds i true) (ez r o.dst v) w'):Hw P n l Q S (k+1) L r w:=by
 intro a h1 h2 h3
 refine wpAnyH_all hr (by simp) fun j hj=>?_
 obtain rfl:j=i:=by simpa using hj
 unfold wpOp
 rw [show (l.toArray)[j]? = some o by simpa using hi]
 simp only []
 rw [if_pos (sg hg)]
 refine .inl (fc.wp (K:=fun v w'=>S w'∧Hw P n l Q S k (L.setIfInBounds j true) (ez r o.dst v) w') (by rw [h3]; exact hy) fun v w' hv=>⟨hv.1,hv.2 _ (by rw [jv]; exact h1) (by rw [gq]; exact h2) (by rw [ks (Bc hd hi h1),h3])⟩)
end
section
variable {R S:Type} {P:Program} {cx:Cx R} {K:dh R S} {l:LO}
theorem aak {id:Nat} (q1:LN) (c:Nat) (q2 ss:LN) (fz:QE) (e:TI) {xd DI mg:LO} {d:Nat} {f:FuncId} {xs:List Operand} {ak:Array TypeId} {ty:TI} {pos:String} {ab:Array Edge} {Γ Γz Γa Γ1 Δ:QE} {b:Nat} {cs:LV} {fr Fj:Fr} {vs:LV} {rs:List (Nat×List Value×TypeId)} {β V:Type} {mo:Option β} {rt:β→V→List Value} {ps:β→V→List aw} {g:β→Option (Out S R)}
  (hB:(P.follows .mixedOrders && df cx.n l && Region.noSelect l.toArray && CQ l (fun L=>mr l L [c] && CQ l (fun L=>Bd l ss L) q2 (L.setIfInBounds c true)) q1 (Array.replicate l.length false) && Nat.beq l.length (q1.length+(q2.length+ss.length+1)))=true)
  (hz:EF Γ fz Γz) (Ux:FO fz) (h0:dj Γz (.row b cs e) Γa) (hs:mg=pick l ss) (h3:RO fr mg Γa rs Γ1) (hq:xd=pick l q1) (h2:QA P Γ1 (.q xd fr) Fj)
  (hc:l[c]? = some ⟨some d,.call ⟨.value (.func f),xs.toArray,ak⟩,ty,pos,ab,none⟩) (hf:UP P f) (hx:tF Fj xs=some vs) (sN:Ct P f true mo vs Δ rt ps) (h5:EO [.row b cs e] Δ []) (h6:ER true Γ1 Δ) (yO:DI=pick l q2)
  (k:∀ y v,QX P cx K mg rs (ps y v) [] Γ1 DI ((d,nq (rt y v)) :: Fj) (g y)):Bx (mb P cx (.dr id l K Γ fr (mo>>=g))):=by
 simp only [Bool.and_eq_true] at hB
 obtain ⟨⟨⟨⟨b1,b2⟩,b3⟩,b4⟩,b5⟩:=hB
 rw [lg]
 intro B o ho r w ha my
 obtain ⟨y,hy,ho⟩:=bind_some ho
 obtain ⟨Z0,F0,rW,hG0⟩:=my
 obtain ⟨Fd,Fz,Zn,xY,YI,qu⟩:=hz.sound rW
 obtain rfl:=Ux.hl xY
 rw [List.nil_append] at qu
 have YJ:Gd B (rO Z0 Zn) Fz w:=Gd.freeze (hG0.perm qu) fun x hx=>rW.lt x (qu.mem_iff.1 (List.mem_append_right _ hx))
 generalize rO Z0 Zn=Z at YI YJ xY
 obtain ⟨f0,Fa,hpa,⟨rfl,bh⟩,hSa⟩:=h0.sound YI
 obtain ⟨F1,qv,hR,ed⟩:=h3.sound hSa
 have qo:([b]++(rs.map (·.1)++F1)).Perm Fz:=(qv.append_left [b]).trans hpa
 have hG:=YJ.perm qo
 have cn:=List.nodup_append.1 hG.nd
 have UQ:=List.nodup_append.1 cn.2.1
 have Bj:an [] w { w with drawn:=w.drawn+1 }:=an.drew _ _
 have ju:Gd B Z ([b]++(rs.map (·.1)++F1)) { w with drawn:=w.drawn+1 }:=⟨hG.nd,hG.apart,hG.ml,hG.low,hG.tQ,hG.tj,hG.iH.trans (Bj.mono fun _ h=>nomatch h)⟩
 have qc:=bh.gf Bj
 have Ha:=ed.gf Bj
 have G0:Rows { w with drawn:=w.drawn+1 } rs:=fun p hp=>(hR p hp).gf Bj
 refine mf.W b1 (Hw.start (S:=an ([b]++rs.map (·.1)) { w with drawn:=w.drawn+1 }) ?_)
 generalize { w with drawn:=w.drawn+1 } = w0 at ju qc Ha G0
 have UR:∀ x∈[b]++rs.map (·.1),¬ Z x:=fun x hx=>hG.apart x (by rw [← List.append_assoc]; exact List.mem_append_left _ hx)
 have YK:∀ x∈[b]++rs.map (·.1),x ∉ F1:=fun x hx hm=>by
  rcases List.mem_append.1 hx with hx | hx
  ·exact cn.2.2 x hx x (List.mem_append_right _ hm) rfl
  ·exact UQ.2.2 x hx x hm rfl
 have vM:∀ {G:QE} {F:LN},F.Perm F1→SA Z w0 G [] F→∀ w',an ([b]++rs.map (·.1)) w0 w'→SA Z w' G [] F:=fun hp h w' hC=>h.ec hC UR (fun _ _=>List.not_mem_nil) fun x hx hm=>YK x hx (hp.mem_iff.1 hm)
 rw [show l.length=q1.length+(q2.length+ss.length+1) from Nat.eq_of_beq_eq_true b5] at b4 ⊢
 subst hq hs yO
 refine Hw.ME (K:=fun r'=>cu r' Fj) b2 b3 (fun c r w h=>si c h) (an.refl _ _) (fun L r' hL ee=>?_) q1 _ r b4 (QA.sound (fun w' hC=>⟨[],F1,vM (.refl _) Ha w' hC⟩) h2 r ha)
 simp only [Bool.and_eq_true] at hL
 obtain ⟨fn, cc, f1, f2, f3⟩ : ∃ fn c, P.funcs[f]? = some fn ∧ fn.body = some c ∧ (fn.name == "runtime.NumGoroutine") = false := by cases hf with | mk => rename_i h; exact h.h
 refine Hw.XN b2 hc (vN hL.1) rfl ?_
 unfold fc
 rw [CG f1 f2 f3,qk ee hx]
 rw [qb] at sN
 obtain ⟨Fd,F',k1,k2,k3⟩:=h5.sound (Z:=Z) (w:=w0) (F:=[b]) (by have:=(HL.own (Z:=Z) (w:=w0) (f:=[b]) (e:=.row b cs e) ⟨rfl,qc⟩ .nil).front (Γ:=[]) (F:=[]) rfl; simpa using this)
 have Du:F'=[]:=by cases k2; rfl
 subst Du
 rw [List.append_nil] at k3
 have lp:Gd B Z (Fd++(rs.map (·.1)++F1)) w0:=ju.perm (k3.append_right _)
 have tY:HL (fun x=>Z x∨x∈F1) w0 Δ Fd:=h6.sound (fun _ h=>.inl h) (fun _ _ h=>.inr h) Ha k1
 refine (KE sN tY (F1:=rs.map (·.1)++F1) (fun x hx=>?_) lp (fun _ h=>.inl h) (fun x hx=>hx.imp (fun h=>h) fun h=>List.mem_append_right _ h) (sN.1 rfl y) hy).mono ?_
 ·rcases List.mem_append.1 hx with hx | hx
  ·obtain ⟨p,hp,rfl⟩:=List.mem_map.1 hx
   exact (G0 p hp).lt
  ·exact Ha.lt x hx
 rintro e' w2 ⟨v,F2,he,tf,hps,vK⟩
 have hFd:Fd=[b]:=List.perm_singleton.1 k3
 subst hFd
 have KF:an ([b]++rs.map (·.1)) w0 w2:=tf.mono fun x hx=>List.mem_append_left _ hx
 refine ⟨_,he,KF,?_⟩
 have hR2:Rows w2 rs:=fun p hp=>(G0 p hp).ec tf fun hb=>cn.2.2 b (by simp) p.1 (List.mem_append_left _ (List.mem_map_of_mem (f:=fun q=>q.1) hp)) (List.mem_singleton.1 hb).symm
 refine Hw.ME b2 b3 (fun c r w h=>si c h) KF (fun L2 r2 Ml Jl=>?_) q2 _ _ hL.2 (QX.sound UR (k y v) ho YK Ha _ (aq ee))
 obtain ⟨Γ',lq,sQ,m',F3,p0,p1,p2,p3,p4,p5⟩:=Jl
 refine SQ.sound b2 p2 (fun w' hC=>vM p0 p3 w' hC) p4 ss L2 w2 rfl Ml KF hR2 UQ.1 (fun x hx=>List.mem_append_right _ hx) fun w3 Fg hR3=>?_
 have aal:=List.nodup_append.1 vK.nd
 have aam:HL Z w3 (ps y v) F2:=hps.QY Fg (fun x hx=>UR x (List.mem_append_right _ hx)) fun x hx hm=>aal.2.2 x hx x (List.mem_append_left _ hm) rfl
 have aan:an ([b]++rs.map (·.1)) w0 w3:=KF.trans (Fg.mono fun x hx=>List.mem_append_right _ hx)
 obtain ⟨Fa1,s1,s2⟩:=aam.build (vM p0 p3 w3 aan)
 obtain ⟨Fa2,s3,s4⟩:=(CO hR3).build s2
 rw [p4.fst] at s3
 have gx:Gd B Z (F2++(rs.map (·.1)++F1)) w3:=⟨vK.nd,vK.apart,fun x hx=>Nat.lt_of_lt_of_le (vK.ml x hx) Fg.size,vK.low,vK.tQ,vK.tj,vK.iH.then Fg fun x hx=>vK.low x (List.mem_append_right _ (List.mem_append_left _ hx))⟩
 refine p5.sound B o p1 r2 w3 (by simpa using p2) ⟨Z,Fa2,s4,gx.perm ?_⟩
 refine s3.trans ((s1.append_left _).trans ?_)
 refine ((p0.append_left F2).append_left (rs.map (·.1))).trans ?_
 rw [← List.append_assoc,← List.append_assoc]
 exact List.perm_append_comm.append_right F1
theorem XO {id:Nat} (q1:LN) (c:Nat) (q2 ss:LN) (tz:Nat) {α:Type} (E:ag α) (e:TI) {zv:Value} {zx:List α} {xd DI mg:LO} {d:Nat} {f:FuncId} {xs:List Operand} {ak:Array TypeId} {ty:TI} {pos:String} {ab:Array Edge} {Γ Γz Γa Γ1 Δ:QE} {b:Nat} {cs:LV} {fr Fj:Fr} {vs:LV} {rs:List (Nat×List Value×TypeId)} {β V:Type} {mo:Option β} {rt:β→V→List Value} {ps:β→V→List aw} {g:β→Option (Out S R)}
  (hB:(P.follows .mixedOrders && df cx.n l && Region.noSelect l.toArray && CQ l (fun L=>mr l L [c] && CQ l (fun L=>Bd l ss L) q2 (L.setIfInBounds c true)) q1 (Array.replicate l.length false) && Nat.beq l.length (q1.length+(q2.length+ss.length+1)))=true)
  (_hzv:look fr tz=some zv) (hz:EF Γ [.rd false (aD E) zv zx] Γz) (h0:dj Γz (.row b cs e) Γa) (hs:mg=pick l ss) (h3:RO fr mg Γa rs Γ1) (hq:xd=pick l q1) (h2:QA P Γ1 (.q xd fr) Fj)
  (hc:l[c]? = some ⟨some d,.call ⟨.value (.func f),xs.toArray,ak⟩,ty,pos,ab,none⟩) (hf:UP P f) (hx:tF Fj xs=some vs) (sN:Ct P f true mo vs Δ rt ps) (h5:EO [.row b cs e] Δ []) (h6:ER true Γ1 Δ) (yO:DI=pick l q2)
  (k:∀ y v,QX P cx K mg rs (ps y v) [] Γ1 DI ((d,nq (rt y v)) :: Fj) (g y)):Bx (mb P cx (.dr id l K Γ fr (mo>>=g))):=
 aak (id:=id) q1 c q2 ss [.rd false (aD E) zv zx] e hB hz (.rd .nil) h0 hs h3 hq h2 hc hf hx sN h5 h6 yO k
end
theorem St.aao {α:Type} {E:ag α} {T:ag (List α)} {v:Value} {x:List α} {B:Bs} {Γ Γ1:QE} {w:World} (h1:dj Γ (.own T v x) Γ1) (hr:RT T (aD E)) (hs:St B Γ w):St B (.rd false (aD E) v x :: Γ1) w:=by
 obtain ⟨Z,F,hS,hG⟩:=hs
 obtain ⟨f,F',hp,_,fw⟩:=(Df.own (E:=E) h1 hr).sound hS
 have mx:(F'++f).Perm F:=List.perm_append_comm.trans hp
 exact ⟨_,F',fw,Gd.freeze (hG.perm mx) fun b hb=>hS.lt b (hp.mem_iff.1 (List.mem_append_left _ hb))⟩
section
variable {R:Type} {P:Program} {cx:Cx R}
theorem aap {M α β:Type} {d b:Nat} {s x:OO} {sv u:Value} {T:ag (List β)} {E1:ag β} {y:List β} {t e e' ty:TI} {E:ag α} {bt:Nat} {all l:LO} {rk:RK R M} {Γ Γ1:QE} {fr:Fr} {m:Option M} (h1:dj Γ (.own T u y) Γ1) (hr:RT T (aD E1))
  (h:D P cx (.I0 false e' E e t bt u b sv s x d ty all l rk (.rd false (aD E1) u y :: Γ1) fr m)):D P cx (.ap (aK e' E) e t bt u b sv s x d ty all l rk Γ fr m):=by
 refine D.of ?_
 intro q1 q2 q3 B o ho r w ha hs
 exact h.sound q1 q2 q3 B o ho r w ha (St.aao h1 hr hs)
end
end Go.Dk
namespace Go.Li
open Go
section
variable {P:Program} {n:Nat} {Q:Exit→(Nat→Value)→World→Prop} {r:NV} {w:World} {R:Type}
theorem Sj {c:Code} (hg:∀ l r w,¬ Q (.goto l) r w) (h:W P n c Q r w):W P n (.scope c) Q r w:=by
 intro a h1 h2 h3
 refine wp_scope_straight (wp_mono (h a h1 h2 h3) ?_)
 rintro e a' w' ⟨g1,g2,g3⟩
 cases e
 case goto l=>exact hg _ _ _ g3
 all_goals exact ⟨g1,g2,g3⟩
theorem Sk {l:Nat} (h:Q .normal r w):W P n (.label l) Q r w:=fun a h1 h2 h3=>wp_label ⟨h1,h2,by rw [h3]; exact h⟩
end
end Go.Li
namespace Go.Dk
open Go Go.Li
section
variable {R:Type} {P:Program} {cx:Cx R} {S:Type}
theorem KG {B:Bs} {b:Kb R S} {o:Out S R} {l:Nat} {r:NV} {w:World} : ¬ FU P cx B b o (.goto l) r w:=by
 cases b <;> cases o <;> exact fun h=>h
theorem KH {n l:Nat} {Q:Exit→(Nat→Value)→World→Prop} {r:NV} {w:World} (h : ¬ Q (.goto l) r w):∀ gn,¬ zt P n Q gn (.goto l) r w:=by
 intro gn
 induction gn with
 | nil=>exact h
 | cons a gn ih=>cases a <;> exact ih
theorem YL {K:dh R S} {c:Code} {Γ:QE} {fr:Fr} {m:Option (Out S R)} (h:D P cx (.c K c Γ fr m)):Bx (mb P cx (.c K (.scope c) Γ fr m)):=by
 rw [lg]
 exact fun B o ho r w ha hs=>Sj (fun l r w=>KH KG _) (h.sound B o ho r w ha hs)
theorem YM {K:dh R S} {l:Nat} {Γ:QE} {fr:Fr} {m:Option (Out S R)} (h:D P cx (.n K Γ fr m)):Bx (mb P cx (.c K (.label l) Γ fr m)):=by
 rw [lg]
 exact fun B o ho r w ha hs=>Sk (h.sound B o ho r w ha hs)
section
variable {S1 V:Type} {k j:Nat} {Δ:S1→V→List aw} {φ:S1→V→Fr} {Γ2 Γ Γ1 Γ3:QE} {f2 fr:Fr} {s:S1} {v:V} (hv:bp V v) (ha:rV fr (φ s v)) (hf:rV fr f2) (h0:EO Γ (Δ s v) Γ1) (hw:OW Γ (Δ s v)) (h1:EO Γ1 Γ2 Γ3) (h2:MF Γ none Γ2)
include hv ha hf h0 hw h1 h2
theorem YN:Bx (mb P cx (.n ⟨[],.lx V k j Δ φ Γ2 f2⟩ Γ fr (some (.norm s)))):=by
 have _:=hv
 rw [lg]
 intro B o ho r w qt hs
 cases ho
 exact ⟨v,qn (ha.all qt) (hf.sound qt),hs.again h0 hw h1 h2⟩
theorem YO:Bx (mb P cx (.x k ⟨[],.lx V k j Δ φ Γ2 f2⟩ Γ fr (some (.exit k s)))):=by
 have _:=hv
 rw [lg]
 intro B o ho r w qt hs
 cases ho
 refine ⟨rfl,?_⟩
 show (bif Nat.beq k k then _ else _)
 rw [show Nat.beq k k=true from Nat.beq_refl k]
 exact ⟨v,qn (ha.all qt) (hf.sound qt),hs.again h0 hw h1 h2⟩
theorem YP (hj:Nat.beq j k=false):Bx (mb P cx (.x j ⟨[],.lx V k j Δ φ Γ2 f2⟩ Γ fr (some (.exit j s)))):=by
 have _:=hv
 rw [lg]
 intro B o ho r w qt hs
 cases ho
 refine ⟨rfl,?_⟩
 show (bif Nat.beq j k then _ else bif Nat.beq j j then _ else _)
 rw [hj,show Nat.beq j j=true from Nat.beq_refl j]
 exact ⟨v,qn (ha.all qt) (hf.sound qt),hs.again h0 hw h1 h2⟩
end
theorem Rf {S1 V:Type} (k j:Nat) (Δ:S1→V→List aw) (φ:S1→V→Fr) (v0:V) (f2:Fr) {gn:List KI} {kb:Kb R S} {c:Code} {s0:S1} {body:S1→Option (Out S1 R)} {f g:S1→Option (Out S R)} {Γ Γ1 Γ2:QE} {fr:Fr}
   (hj:Nat.beq j k=false) (ha:rV fr (φ s0 v0)) (hf:rV fr f2) (h0:EO Γ (Δ s0 v0) Γ1) (hn:OW Γ (Δ s0 v0)) (hs:j6 Γ1 Γ2)
   (hb:∀ s v,D P cx (.p (φ s v) (Δ s v) f2 Γ2 fun fr Γ=>.c ⟨[],.lx V k j Δ φ Γ2 f2⟩ c Γ fr (body s)))
   (hk:∀ s v,D P cx (.p (φ s v) (Δ s v) f2 Γ2 fun fr Γ=>.mn ⟨gn,kb⟩ Γ fr (f s)))
   (hg:∀ s v,D P cx (.p (φ s v) (Δ s v) f2 Γ2 fun fr Γ=>.x j ⟨gn,kb⟩ Γ fr (g s))):Bx (mb P cx (.bk true k ⟨gn,kb⟩ (.loop c) Γ fr (Hb k j (Li.ai body s0) f g))):=by
 rw [lg]
 intro B o ho r w qt my
 cases hl:Li.ai body s0 with
 | none=>rw [hl] at ho; cases ho
 | some o1=>
  rw [hl] at ho
  refine uK (Hc (N:=LI B Δ φ Γ2 f2) (X:=fun i s r w=>bif Nat.beq i j then LI B Δ φ Γ2 f2 s r w else False) (T:=TT P cx B) (Jm (LI B Δ φ Γ2 f2) (fun s r w ⟨v,h1,h2⟩ o ho=>(hb s v).sound B o ho r w h1 h2) hl ⟨v0,qn (ha.all qt) (hf.sound qt),my.enter h0 hn hs⟩)) ?_
  intro e r' w' hq
  cases o1 with
  | norm s=>cases ho
  | ret z=>cases ho; cases e <;> first | exact hq.elim | exact vH hq
  | exit i s=>
   unfold Hb at ho
   dsimp only at ho
   unfold Ez at hq
   dsimp only at hq
   cases hi:Nat.beq i k with
   | true=>
    rw [hi] at ho hq
    cases e <;> first | exact hq.elim | skip
    obtain ⟨v,h1,h2⟩:=hq
    exact (hk s v).sound B o ho r' w' h1 h2
   | false=>
    rw [hi] at ho hq
    cases sP:Nat.beq i j with
    | false=>rw [sP] at ho; cases ho
    | true=>
     rw [sP] at ho
     cases e with
     | exit i'=>
      obtain ⟨rfl,hq⟩:=hq
      rw [sP] at hq
      obtain ⟨v,h1,h2⟩:=hq
      obtain rfl:=Nat.eq_of_beq_eq_true sP
      exact (hg s v).sound B o ho r' w' h1 h2
     | _=>exact hq.elim
end
end Go.Dk
namespace Go.Dk
open Go Go.Li
theorem Sl {P:Program} {g:FuncId} {vs:LV} {Δ:QE} {β:Type} {m:Option β} {ow:Bool} {rt:β→Unit→List Value} (hc:Ct P g ow m vs Δ rt (fun _ _=>[])) {w:World} (hl:HL (fun b=>b < w.heap.size) w Δ []) {y:β} (hy:m=some y) :
  Calls P g vs.toArray w fun e w'=>e = .returned (nq (rt y ()))∧an [] w w':=by
 rw [qb] at hc
 refine (hc.2 w _ [] hl List.nodup_nil (fun _ h=>absurd h List.not_mem_nil) (fun _ h=>h) y hy).mono ?_
 rintro e w' ⟨_,he,Z,F,_,hg⟩
 exact ⟨he,hg.iH⟩
theorem Sm {w:World} {α:Type} {T:ag α} {v:Value} {x:α} {f:LN} (h:T.rep w.heap [v] x f):fact (fun b=>b < w.heap.size) w [] (.rd false T v x):=⟨f,h,fun b hb=>T.lt h b hb⟩
end Go.Dk
