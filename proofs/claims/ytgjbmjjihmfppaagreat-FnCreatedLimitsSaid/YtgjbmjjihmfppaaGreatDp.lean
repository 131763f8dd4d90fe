/- A region that draws its order: its head in any order, whatever it holds, its tail quiet and behind all of the head. No condition. -/
import Derived.Test.YtgjbmjjihmfppaaGreatDg
import Derived.Deep.Quiet
import Derived.Laws.Slices
import Derived.OrdersHeld
import Derived.Scope
namespace Go.Li
open Go
section
variable {P:Program} {n:Nat} {Q:Exit→(Nat→Value)→World→Prop} {r0:NV} {w0:World} {l:LO} {S:List ik}
def A9 (l:LO) (m:Nat):Bool:=
 ((List.range l.length).all fun i=>((l.getD i default).after.toList.filter (Region.binds .any)).all fun e=>Nat.blt e.on i) &&
 ((List.range l.length).all fun i=>Nat.blt i m || (List.range m).all fun j=>((cj l).getD i []).contains j) &&
 Ci ((l.take m).filterMap (·.dst)) && Region.noSelect l.toArray && Region.lexFrom .any l.toArray (l.length - m) m (List.replicate m true++List.replicate (l.length - m) false).toArray
theorem Mf {m:Nat} (h:A9 l m=true):∀ (i:Nat) (o:Oper),l[i]? = some o→∀ e∈o.after.toList.filter (Region.binds .any),e.on < i:=by
 simp only [A9,Bool.and_eq_true,List.all_eq_true,List.mem_range] at h
 intro i o ho e he
 have hi:i < l.length:=(List.getElem?_eq_some_iff.1 ho).1
 have:=h.1.1.1.1 i hi e (by rw [List.getD_eq_getElem?_getD,ho]; exact he)
 exact Nat.lt_of_succ_le (Nat.le_of_ble_eq_true this)
theorem Ub {m:Nat} {U:LL} {H:LN} {N:Nat→Prop} (hd:dj n l=true) (hA:A9 l m=true) (Iq:m≤l.length)
  (hS:S.length=m)
  (hH:∀ b∈H,b < w0.heap.size) (hU:((List.range m).all fun i=>(U.getD i []).all fun u=>Nat.beq u l.length || ((cj l).getD i []).contains u)=true)
  (hN:∀ b,N b→b < w0.heap.size∧b ∉ H)
  (sb:∀ (i:Nat) (s:ik),S[i]? = some s→∀ f F (w w':World) (r r':NV) v,aq F w w'→(∀ b∈f,b ∉ F)→(∀ b∈F,¬ N b)→(∀ j∈(cj l).getD i [],∀ t,b9 l j=some t→r' t=r t)→s.V f w r v→s.V f w' r' v)
  (Qm:∀ i,i < m→lr P l m S U r0 w0 H i)
  (next:∀ g r w,Bb l m S U r0 w0 H (fun j=>j < m) g r w→QL P (aq [] w) l (l.drop m) r fun r'=>∀ w',aq [] w w'→Q .normal r' w') :
  na P n l Q r0 w0:=by
 simp only [A9,Bool.and_eq_true,List.all_eq_true,List.mem_range,Bool.or_eq_true] at hA
 obtain ⟨⟨⟨⟨Wz,WA⟩,WB⟩,SS⟩,Qn⟩:=hA
 have xZ:∀ (i:Nat) (o:Oper),l[i]? = some o→∀ e∈o.after.toList.filter (Region.binds .any),e.on < i:=by
  intro i o ho e he
  have hi:i < l.length:=(List.getElem?_eq_some_iff.1 ho).1
  have:=Wz i hi e (by rw [List.getD_eq_getElem?_getD,ho]; exact he)
  exact Nat.lt_of_succ_le (Nat.le_of_ble_eq_true this)
 have FR:∀ i,m≤i→i < l.length→∀ j,j < m→j∈(cj l).getD i []:=by
  intro i h1 h2 j hj
  rcases WA i h2 with h | h
  ·exact absurd (Nat.lt_of_succ_le (Nat.le_of_ble_eq_true h)) (Nat.not_lt.2 h1)
  ·have:=h j hj
   simpa using this
 have WC:∀ i,i < m→∀ u∈U.getD i [],u=l.length∨u∈(cj l).getD i []:=by
  intro i hi u hu
  simp only [List.all_eq_true,List.mem_range] at hU
  have:=hU i hi u hu
  simpa using this
 have de:=GA _ (zU WB)
 have rq:=Cj l xZ
 intro a h1 h2 h3
 let Cl (L:Array Bool):Prop:=L.size=l.length∧∀ j o,l[j]? = some o→L.getD j false=true→∀ e∈o.after.toList.filter (Region.binds .any),L.getD e.on false=true
 have js:∀ L,Cl L→∀ i j,(∀ o,l[i]? = some o→∀ e∈o.after.toList.filter (Region.binds .any),L.getD e.on false=true)→j∈(cj l).getD i []→L.getD j false=true:=by
  intro L hL i
  induction i using Nat.strongRecOn with
  | _ i ih=>
   intro j hi hj
   obtain ⟨_,o,ho,e,he,Iw⟩:=rq i j hj
   have hl:=hi o ho e he
   rcases Iw with rfl | Iw
   ·exact hl
   ·exact ih e.on (xZ i o ho e he) j (fun o' cq e' vc=>hL.2 _ _ cq hl e' vc) Iw
 have nm:∀ L i,i∈Region.ready .any l.toArray L→L.getD i true=false∧∃ o,l[i]? = some o∧∀ e∈o.after.toList.filter (Region.binds .any),L.getD e.on false=true:=by
  intro L i hi
  obtain ⟨g1,o,ho,dw⟩:=mem_ready.1 hi
  refine ⟨g1,o,by simpa using ho,fun e he=>?_⟩
  have:=List.mem_filter.1 he
  exact dw e (by simpa using this.1) this.2
 have ED:∀ L i o,L.size=l.length→l[i]? = some o→L.getD i false=false→(∀ e∈o.after.toList.filter (Region.binds .any),L.getD e.on false=true)→i∈Region.ready .any l.toArray L:=by
  intro L i o hs ho hu dw
  refine mem_ready.2 ⟨?_,o,by simpa using ho,fun e he hb=>dw e (List.mem_filter.2 ⟨by simpa using he,hb⟩)⟩
  have hi:i < L.size:=by rw [hs]; exact (List.getElem?_eq_some_iff.1 ho).1
  simp [hi] at hu ⊢; exact hu
 have Hq:∀ L i o,Cl L→l[i]? = some o→(∀ e∈o.after.toList.filter (Region.binds .any),L.getD e.on false=true)→Cl (L.setIfInBounds i true):=by
  intro L i o hL ho dw
  refine ⟨by rw [Array.size_setIfInBounds]; exact hL.1,fun j o' cq hj e he=>?_⟩
  by_cases tX:i=j
  ·subst tX
   have:o'=o:=Option.some.inj (cq.symm.trans ho)
   subst this
   exact getD_set_true (dw e he)
  ·rw [getD_set_ne false tX] at hj
   exact getD_set_true (hL.2 j o' cq hj e he)
 have getSet:∀ (L:Array Bool) i j,L.size=l.length→i < l.length→((L.setIfInBounds i true).getD j false=true↔j=i∨L.getD j false=true):=by
  intro L i j hs hi
  by_cases tX:i=j
  ·subst tX
   simp [hs,hi]
  ·rw [getD_set_ne false tX]
   constructor
   ·exact .inr
   ·rintro (h | h)
    ·exact absurd h.symm tX
    ·exact h
 have Iy:∀ (L:Array Bool) i,L.size=l.length→i < l.length→L.getD i false=false→(L.setIfInBounds i true).toList.count false+1=L.toList.count false:=by
  intro L i hs hi hu
  have u5:i < L.toList.length:=by simpa [hs] using hi
  have Ai:L.toList[i]=false:=by
   rw [Array.getElem_toList]
   simp [hs,hi] at hu
   exact hu
  rw [Array.toList_setIfInBounds,List.count_set u5,Ai]
  have:0 < L.toList.count false:=List.count_pos_iff.2 (by rw [← Ai]; exact List.getElem_mem u5)
  rw [if_pos (by rfl),if_neg (by decide)]
  omega
 have jd:dj n (l.drop m)=true:=by
  simp only [dj,List.all_eq_true] at hd ⊢
  exact fun o ho=>hd o (List.mem_of_mem_drop ho)
 have tail:∀ (fuel:Nat) (L:Array Bool) (a:Act) (w:World),Cl L→(∀ j,L.getD j false=true↔j < m)→L.toList.count false=fuel→a.tmps.size=n→a.defers=[]→
   (QL P (aq [] w) l (l.drop m) (cy a) fun r'=>∀ w',aq [] w w'→Q .normal r' w')→wpAny P .any l.toArray (fun e a' w'=>a'.tmps.size=n∧a'.defers=[]∧Q e (cy a') w') fuel L a w:=by
  intro fuel L a w hL iv hf g1 g2 hq
  have hLe:L=(List.replicate m true++List.replicate (l.length - m) false).toArray:=by
   apply Array.ext
   ·simp [hL.1]; omega
   ·intro i hi hj
    have h1:=iv i
    simp only [Array.getD_eq_getD_getElem?,Array.getElem?_eq_getElem hi,Option.getD_some] at h1
    have e:(List.replicate m true++List.replicate (l.length - m) false).toArray[i]'hj=decide (i < m):=by
     simp only [List.getElem_toArray,List.getElem_append,List.getElem_replicate,List.length_replicate]
     split
     ·rename_i h; simp [h]
     ·rename_i h; simp [h]
    rw [e]
    cases hb:L[i] with
    | false=>exact (decide_eq_false fun h=>by have:=h1.2 h; rw [hb] at this; cases this).symm
    | true=>exact (decide_eq_true (h1.1 hb)).symm
  have WD:fuel=l.length - m:=by
   rw [← hf,hLe]
   simp [List.count_append,List.count_replicate]
  have q1:=QL.wpQuiet (n:=n) (l:=l) (l.drop m) a hd jd g1 g2 hq
  have q2:=wpAnyQ_lex (md:=.any) SS (l.drop m) m L a (fun j=>by simp [List.getElem?_drop]) (by rw [hLe,List.length_drop]; exact Qn) q1
  refine wpAny_of_quiet (C:=aq [] w) (Q:=fun a'=>a'.tmps.size=n∧a'.defers=[]∧∀ w',aq [] w w'→Q .normal (cy a') w') (fun a' w' Ck hh=>⟨hh.1,hh.2.1,hh.2.2 w' Ck⟩) _ _ _ _ (aq.refl _ _) ?_
  rw [WD,← List.length_drop]
  exact q2
 have head:∀ (fuel:Nat) (L:Array Bool) (a:Act) (w:World) (g:Nat→List Nat),Cl L→(∀ j,L.getD j false=true→j < m)→L.toList.count false=fuel→a.tmps.size=n→a.defers=[]→
   Bb l m S U r0 w0 H (fun j=>L.getD j false=true) g (cy a) w→wpAny P .any l.toArray (fun e a' w'=>a'.tmps.size=n∧a'.defers=[]∧Q e (cy a') w') fuel L a w:=by
  intro fuel
  induction fuel with
  | zero=>
   intro L a w g hL vG hf g1 g2 inv
   have dw:∀ j,j < l.length→L.getD j false=true:=by
    intro j hj
    cases hb:L.getD j false with
    | true=>rfl
    | false=>have:=Iy L j hL.1 hj hb; omega
   have iv:∀ j,L.getD j false=true↔j < m:=fun j=>⟨vG j,fun h=>dw j (by omega)⟩
   refine tail 0 L a w hL iv hf g1 g2 (next g _ _ ?_)
   exact ⟨inv.jh,fun hk=>inv.Cm fun k yz=>hk k ((iv k).1 yz),inv.vg,fun j hj=>inv.vd j ((iv j).2 hj),fun j hj hk=>inv.done j ((iv j).2 hj) (fun k yz=>hk k ((iv k).1 yz)),fun j hj=>inv.uI j ((iv j).2 hj),inv.other,fun j hj b hb=>⟨(inv.fresh j ((iv j).2 hj) b hb).1.imp (fun h=>h) fun h=>⟨h.1,h.2.imp fun k hk=>⟨(iv k).1 hk.1,hk.2⟩⟩,(inv.fresh j ((iv j).2 hj) b hb).2⟩,fun i j hi hj=>inv.xL i j ((iv i).2 hi) ((iv j).2 hj)⟩
  | succ fuel ih=>
   intro L a w g hL vG hf g1 g2 inv
   by_cases dw:∀ j,j < m→L.getD j false=true
   ·have iv:∀ j,L.getD j false=true↔j < m:=fun j=>⟨vG j,dw j⟩
    refine tail _ L a w hL iv hf g1 g2 (next g _ _ ?_)
    exact ⟨inv.jh,fun hk=>inv.Cm fun k yz=>hk k ((iv k).1 yz),inv.vg,fun j hj=>inv.vd j ((iv j).2 hj),fun j hj hk=>inv.done j ((iv j).2 hj) (fun k yz=>hk k ((iv k).1 yz)),fun j hj=>inv.uI j ((iv j).2 hj),inv.other,fun j hj b hb=>⟨(inv.fresh j ((iv j).2 hj) b hb).1.imp (fun h=>h) fun h=>⟨h.1,h.2.imp fun k hk=>⟨(iv k).1 hk.1,hk.2⟩⟩,(inv.fresh j ((iv j).2 hj) b hb).2⟩,fun i j hi hj=>inv.xL i j ((iv i).2 hi) ((iv j).2 hj)⟩
   ·obtain ⟨j0,SU,GB⟩ : ∃ j,j < m∧L.getD j false=false:=by
     apply Classical.byContradiction
     intro tA
     apply dw
     intro j hj
     cases hb:L.getD j false with
     | true=>rfl
     | false=>exact absurd ⟨j,hj,hb⟩ tA
    have Mg:∃ i,i∈Region.ready .any l.toArray L:=by
     have:∀ k,(∃ j,j < k∧j < m∧L.getD j false=false)→∃ i,i∈Region.ready .any l.toArray L:=by
      intro k
      induction k with
      | zero=>rintro ⟨j,h,_⟩; omega
      | succ k Ep=>
       rintro ⟨j,NY,Cn,tB⟩
       by_cases tu:∃ j,j < k∧j < m∧L.getD j false=false
       ·exact Ep tu
       ·obtain rfl:j=k:=by
         apply Classical.byContradiction
         intro h
         exact tu ⟨j,by omega,Cn,tB⟩
        have Co:j < l.length:=by omega
        refine ⟨j,ED L j l[j] hL.1 (List.getElem?_eq_getElem Co) tB fun e he=>?_⟩
        have bn:=xZ j _ (List.getElem?_eq_getElem Co) e he
        cases hb:L.getD e.on false with
        | true=>rfl
        | false=>exact absurd ⟨e.on,bn,by omega,hb⟩ tu
     exact this (j0+1) ⟨j0,by omega,SU,GB⟩
    have main:∀ i oi,i < m→l[i]? = some oi→L.getD i false=false→(∀ e∈oi.after.toList.filter (Region.binds .any),L.getD e.on false=true)→
      (Region.wanted oi (yl l (cy a))=true∧gf P oi (cy a) w fun v w'=>wpAny P .any l.toArray (fun e a' w'=>a'.tmps.size=n∧a'.defers=[]∧Q e (cy a') w') fuel (L.setIfInBounds i true) (a.put oi.dst v) w')∨
      (Region.wanted oi (yl l (cy a))=false∧wpAny P .any l.toArray (fun e a' w'=>a'.tmps.size=n∧a'.defers=[]∧Q e (cy a') w') fuel (L.setIfInBounds i true) (a.put oi.dst undef) w):=by
     intro i oi vH nw vI vJ
     have fx:i < l.length:=(List.getElem?_eq_some_iff.1 nw).1
     have nq:∀ o,l[i]? = some o→∀ e∈o.after.toList.filter (Region.binds .any),L.getD e.on false=true:=fun o' cq=>by
      have:o'=oi:=Option.some.inj (cq.symm.trans nw)
      subst this; exact vJ
     obtain ⟨s,hs⟩ : ∃ s,S[i]? = some s:=⟨S[i]'(by omega),List.getElem?_eq_getElem (by omega)⟩
     have hc:=Iy L i hL.1 fx vI
     have DC:=Hq L i oi hL nw vJ
     have Cp:∀ j,(L.setIfInBounds i true).getD j false=true→j < m:=by
      intro j hj
      rcases (getSet L i j hL.1 fx).1 hj with rfl | hj
      ·exact vH
      ·exact vG j hj
     have EE:∀ k,L.getD k false=true→k≠i∧i ∉ (cj l).getD k []:=by
      intro k hk
      refine ⟨fun h=>(by rw [h,vI] at hk; cases hk),fun wg=>?_⟩
      have:=js L hL k i (fun o' cq e' vc=>hL.2 k o' cq hk e' vc) wg
      rw [vI] at this; cases this
     have ow:=Qm i vH oi s nw hs g (cy a) w inv.jh (fun hV=>by
       have tA:∀ k,L.getD k false=true→l.length ∉ U.getD k []:=fun k hk Iz=>by
        simp only [A6,List.all_eq_true,List.mem_range,Bool.or_eq_true,Bool.not_eq_true',List.contains_eq_mem,decide_eq_false_iff_not,decide_eq_true_eq] at hV
        rcases hV k (vG k hk) with (h | h) | h
        ·exact h Iz
        ·exact (EE k hk).1 (Nat.eq_of_beq_eq_true h)
        ·exact (EE k hk).2 h
       have h0:=inv.Cm tA
       exact ⟨h0.1,h0.2,fun j hj b hb=>(inv.fresh j (js L hL i j nq hj) b hb).1.elim (fun h=>h) fun h=>absurd h.2.choose_spec.2 (tA _ h.2.choose_spec.1)⟩) (fun j hj=>inv.uI j (js L hL i j nq hj)) (fun j hj=>by
       simp only [vE,Bool.and_eq_true,List.all_eq_true,List.mem_range,Bool.or_eq_true,Bool.not_eq_true',List.contains_eq_mem,decide_eq_false_iff_not,decide_eq_true_eq] at hj
       refine inv.done j (js L hL i j nq hj.1) fun k hk NY=>?_
       rcases hj.2 k (vG k hk) with (h | h) | h
       ·exact h NY
       ·exact (EE k hk).1 (Nat.eq_of_beq_eq_true h)
       ·exact (EE k hk).2 h) inv.other
      (fun i' u5 j' ir=>inv.xL i' j' (js L hL i i' nq u5) (js L hL i j' nq ir))
      (fun j hj b hb=>⟨(inv.fresh j (js L hL i j nq hj) b hb).1.imp (fun h=>h) (·.1),(inv.fresh j (js L hL i j nq hj) b hb).2⟩)
     have hblk:∀ b∈qj g (U.getD i []),(∃ u,u∈U.getD i []∧L.getD u false=true∧b∈g u)∨(l.length∈U.getD i []∧b∈g l.length):=by
      intro b hb
      obtain ⟨u,hu,gq⟩:=List.mem_flatMap.1 hb
      rcases WC i vH u hu with rfl | h
      ·exact .inr ⟨hu,gq⟩
      ·exact .inl ⟨u,hu,js L hL i u nq h,gq⟩
     have GC:∀ k',oi.dst=some k'→k' < a.tmps.size:=by
      intro k' w7
      have wg:oi∈l:=List.mem_of_getElem? nw
      simp only [dj,List.all_eq_true] at hd
      have:=hd oi wg
      rw [w7] at this
      rw [g1]
      exact Nat.lt_of_succ_le (Nat.le_of_ble_eq_true this)
     have Aj:b9 l i=oi.dst:=by unfold b9; rw [nw]; rfl
     have qz:∀ v t,(oi.dst≠some t)→cy (a.put oi.dst v) t=cy a t:=by
      intro v t ht
      rw [l3 GC]
      cases yA:oi.dst with
      | none=>rfl
      | some d=>
       show (bif Nat.beq t d then v else cy a t)=cy a t
       cases hb:Nat.beq t d with
       | false=>rfl
       | true=>exact absurd (by rw [yA,Nat.eq_of_beq_eq_true hb]) ht
     have IB:∀ v d,oi.dst=some d→cy (a.put oi.dst v) d=v:=by
      intro v d yA
      rw [l3 GC,yA]
      show (bif Nat.beq d d then v else cy a d)=v
      rw [Nat.beq_refl]; rfl
     have step:∀ v w' f,aq (qj g (U.getD i [])) w w'→(∀ b∈f,(b∈qj g (U.getD i [])∨w.heap.size≤b)∧b < w'.heap.size)→(if s.b then s.V f w' (cy a) v else v=undef)→
       wpAny P .any l.toArray (fun e a' w'=>a'.tmps.size=n∧a'.defers=[]∧Q e (cy a') w') fuel (L.setIfInBounds i true) (a.put oi.dst v) w':=by
      intro v w' f hC vF hV
      have uh:∀ j',j' < m→j'≠i→∀ t,b9 l j'=some t→cy (a.put oi.dst v) t=cy a t:=by
       intro j' ir nk t ht
       refine qz v t fun h=>nk (de j' i t ?_ ?_)
       ·rw [ly ir]; exact ht
       ·rw [ly vH,Aj]; exact h
      have NZ:∀ b∈qj g (U.getD i []),¬ N b:=fun b hb hn=>by
       rcases hblk b hb with ⟨u,_,pw,gq⟩ | ⟨_,gq⟩
       ·rcases (inv.fresh u pw b gq).1 with h | h
        ·have:=(hN b hn).1; omega
        ·exact (hN b hn).2 h.1
       ·exact (hN b hn).2 (inv.vg b gq)
      refine ih _ _ _ (fun j=>if j=i then f else if j∈U.getD i [] then [] else g j) DC Cp (by omega) (by rw [kh]; exact g1) (by rw [ib]; exact g2)
       ⟨inv.jh.then hC fun b hb=>(by
        rcases hblk b hb with ⟨u,_,pw,gq⟩ | ⟨_,gq⟩
        ·exact (inv.fresh u pw b gq).1.elim .inr fun h=>.inl h.1
        ·exact .inl (inv.vg b gq)),fun tA=>?_,?_,fun j hj=>?_,?_,fun j hj d vK sj ta=>?_,?_,?_,?_⟩
      ·have yw:l.length ∉ U.getD i []:=tA i ((getSet L i i hL.1 fx).2 (.inl rfl))
       have h0:=inv.Cm fun k hk=>tA k ((getSet L i k hL.1 fx).2 (.inr hk))
       refine ⟨h0.1.then hC fun b hb=>?_,?_⟩
       ·rcases hblk b hb with ⟨u,_,pw,gq⟩ | ⟨h,_⟩
        ·exact (inv.fresh u pw b gq).1.elim .inr fun ⟨_,k,hk,Iz⟩=>absurd Iz (tA k ((getSet L i k hL.1 fx).2 (.inr hk)))
        ·exact absurd h yw
       ·show (if l.length=i then f else if l.length∈U.getD i [] then [] else g l.length)=H
        rw [if_neg (by omega),if_neg yw]
        exact h0.2
      ·intro b hb
       have dc:b∈(if l.length=i then f else if l.length∈U.getD i [] then [] else g l.length):=hb
       rw [if_neg (by omega)] at dc
       split at dc
       ·cases dc
       ·exact inv.vg b dc
      ·intro b hb hv
       have o4:b∈(if l.length=i then f else if l.length∈U.getD i [] then [] else g l.length):=hv
       rw [if_neg (by omega)] at o4
       split at o4
       ·cases o4
       ·rename_i WE
        have dc:b∈(if j=i then f else if j∈U.getD i [] then [] else g j):=hb
        split at dc
        ·rcases (vF b dc).1 with h | h
         ·rcases hblk b h with ⟨u,_,pw,gq⟩ | ⟨h,_⟩
          ·exact inv.vd u pw b gq o4
          ·exact WE h
         ·have h1:=hH b (inv.vg b o4)
          have h2:=inv.jh.size
          omega
        ·rename_i l5
         split at dc
         ·cases dc
         ·exact inv.vd j (((getSet L i j hL.1 fx).1 hj).resolve_left l5) b dc o4
      ·intro j hj Ak
       refine ⟨fun d vK=>?_,fun WG sj ta N0=>?_⟩
       rotate_left
       ·by_cases l5:j=i
        ·subst l5
         rw [hs] at ta
         cases ta
         rw [if_pos N0] at hV
         refine ⟨v,?_⟩
         simp only [if_pos]
         exact sb j s hs _ [] w' w' (cy a) _ v (aq.refl _ _) (fun _ _ h=>nomatch h) (fun _ h=>nomatch h) (fun j' ir t ht=>uh j' (by have:=(rq j j' ir).1; omega) (by have:=(rq j j' ir).1; omega) t ht) hV
        ·have nr:=((getSet L i j hL.1 fx).1 hj).resolve_left l5
         have tB:j ∉ U.getD i []:=Ak i ((getSet L i i hL.1 fx).2 (.inl rfl))
         obtain ⟨x,hx⟩:=(inv.done j nr (fun k hk=>Ak k ((getSet L i k hL.1 fx).2 (.inr hk)))).2 WG sj ta N0
         have jj:(fun j=>if j=i then f else if j∈U.getD i [] then [] else g j) j=g j:=by
          show (if j=i then f else if j∈U.getD i [] then [] else g j)=g j
          rw [if_neg l5,if_neg tB]
         rw [jj]
         refine ⟨x,sb j sj ta _ _ _ _ (cy a) _ _ hC (fun b dc IC=>?_) NZ (fun j' ir t ht=>uh j' (by have:=(rq j j' ir).1; have:=vG j nr; omega) (fun h=>?_) t ht) hx⟩
         ·rcases hblk b IC with ⟨u,Cq,pw,gq⟩ | ⟨_,gq⟩
          ·exact inv.xL j u nr pw (fun h=>tB (h ▸ Cq)) b dc gq
          ·exact inv.vd j nr b dc gq
         ·subst h
          have:=js L hL j j' (fun o' cq e' vc=>hL.2 j o' cq nr e' vc) ir
          rw [vI] at this; cases this
       by_cases l5:j=i
       ·subst l5
        rw [hs]
        simp only [if_pos]
        rw [Aj] at vK
        rw [IB v d vK]
        split
        ·rename_i hb
         rw [if_pos hb] at hV
         exact sb j s hs _ [] w' w' (cy a) _ v (aq.refl _ _) (fun _ _ h=>nomatch h) (fun _ h=>nomatch h) (fun j' ir t ht=>uh j' (by have:=(rq j j' ir).1; omega) (by have:=(rq j j' ir).1; omega) t ht) hV
        ·rename_i hb
         rw [if_neg hb] at hV
         exact hV
       ·have nr:=((getSet L i j hL.1 fx).1 hj).resolve_left l5
        have Cn:=vG j nr
        have tB:j ∉ U.getD i []:=Ak i ((getSet L i i hL.1 fx).2 (.inl rfl))
        have yA:oi.dst≠some d:=by
         intro h
         apply l5
         refine de j i d ?_ ?_
         ·rw [ly Cn]; exact vK
         ·rw [ly vH,Aj]; exact h
        have:=(inv.done j nr (fun k hk=>Ak k ((getSet L i k hL.1 fx).2 (.inr hk)))).1 d vK
        rw [qz v d yA]
        have jj:(fun j=>if j=i then f else if j∈U.getD i [] then [] else g j) j=g j:=by
         show (if j=i then f else if j∈U.getD i [] then [] else g j)=g j
         rw [if_neg l5,if_neg tB]
        rw [jj]
        cases ta:S[j]? with
        | none=>trivial
        | some sj=>
         rw [ta] at this
         simp only [] at this ⊢
         split
         ·rename_i hb
          rw [if_pos hb] at this
          refine sb j sj ta _ _ _ _ (cy a) _ _ hC (fun b dc IC=>?_) NZ (fun j' ir t ht=>uh j' (by have:=(rq j j' ir).1; omega) (fun h=>?_) t ht) this
          rotate_left
          ·subst h
           have:=js L hL j j' (fun o' cq e' vc=>hL.2 j o' cq nr e' vc) ir
           rw [vI] at this; cases this
          rcases hblk b IC with ⟨u,Cq,pw,gq⟩ | ⟨_,gq⟩
          ·exact inv.xL j u nr pw (fun h=>tB (h ▸ Cq)) b dc gq
          ·exact inv.vd j nr b dc gq
         ·rename_i hb
          rw [if_neg hb] at this
          exact this
      ·by_cases l5:j=i
       ·subst l5
        rw [hs] at ta
        cases ta
        rw [Aj] at vK
        rw [IB v d vK]
        split
        ·rename_i hb
         rw [if_pos hb] at hV
         exact ⟨f,w',sb j s hs _ [] w' w' (cy a) _ v (aq.refl _ _) (fun _ _ h=>nomatch h) (fun _ h=>nomatch h) (fun j' ir t ht=>uh j' (by have:=(rq j j' ir).1; omega) (by have:=(rq j j' ir).1; omega) t ht) hV⟩
        ·rename_i hb
         rw [if_neg hb] at hV
         exact hV
       ·have nr:=((getSet L i j hL.1 fx).1 hj).resolve_left l5
        have Cn:=vG j nr
        have yA:oi.dst≠some d:=by
         intro h
         apply l5
         refine de j i d ?_ ?_
         ·rw [ly Cn]; exact vK
         ·rw [ly vH,Aj]; exact h
        have:=inv.uI j nr d vK sj ta
        rw [qz v d yA]
        split
        ·rename_i hb
         rw [if_pos hb] at this
         obtain ⟨f1,w1,h1⟩:=this
         refine ⟨f1,w1,sb j sj ta _ [] w1 w1 (cy a) _ _ (aq.refl _ _) (fun _ _ h=>nomatch h) (fun _ h=>nomatch h) (fun j' ir t ht=>uh j' (by have:=(rq j j' ir).1; omega) (fun h=>?_) t ht) h1⟩
         subst h
         have:=js L hL j j' (fun o' cq e' vc=>hL.2 j o' cq nr e' vc) ir
         rw [vI] at this; cases this
        ·rename_i hb
         rw [if_neg hb] at this
         exact this
      ·intro t ht
       rw [qz v t (fun h=>ht i vH (by rw [Aj]; exact h))]
       exact inv.other t ht
      ·intro j hj b hb
       by_cases l5:j=i
       ·simp only [if_pos l5] at hb
        have hh:=vF b hb
        have uH:=inv.jh.size
        rcases hh.1 with h | h
        ·rcases hblk b h with ⟨u,_,pw,gq⟩ | ⟨hv,gq⟩
         ·exact ⟨(inv.fresh u pw b gq).1.imp (fun h=>h) fun h=>⟨h.1,h.2.imp fun k hk=>⟨(getSet L i k hL.1 fx).2 (.inr hk.1),hk.2⟩⟩,hh.2⟩
         ·exact ⟨.inr ⟨inv.vg b gq,i,(getSet L i i hL.1 fx).2 (.inl rfl),hv⟩,hh.2⟩
        ·exact ⟨.inl (by omega),hh.2⟩
       ·have nr:=((getSet L i j hL.1 fx).1 hj).resolve_left l5
        simp only [if_neg l5] at hb
        split at hb
        ·cases hb
        ·have h1:=inv.fresh j nr b hb
         have h2:=hC.size
         exact ⟨h1.1.imp (fun h=>h) fun h=>⟨h.1,h.2.imp fun k hk=>⟨(getSet L i k hL.1 fx).2 (.inr hk.1),hk.2⟩⟩,by omega⟩
      ·have qk:∀ j',(L.setIfInBounds i true).getD j' false=true→j'≠i→∀ b∈f,b ∉ (if j'∈U.getD i [] then [] else g j'):=by
        intro j' ir e2 b hb dc
        have ID:=((getSet L i j' hL.1 fx).1 ir).resolve_left e2
        split at dc
        ·cases dc
        ·rename_i tB
         rcases (vF b hb).1 with h | h
         ·rcases hblk b h with ⟨u,Cq,pw,gq⟩ | ⟨_,gq⟩
          ·exact inv.xL u j' pw ID (fun h=>tB (h ▸ Cq)) b gq dc
          ·exact inv.vd j' ID b dc gq
         ·have:=inv.fresh j' ID b dc
          omega
       intro i' j' u5 ir nk b hb dc
       by_cases e1:i'=i
       ·have e2:j'≠i:=fun h=>nk (e1.trans h.symm)
        simp only [if_pos e1] at hb
        simp only [if_neg e2] at dc
        exact qk j' ir e2 b hb dc
       ·simp only [if_neg e1] at hb
        by_cases e2:j'=i
        ·simp only [if_pos e2] at dc
         exact qk i' u5 e1 b dc hb
        ·simp only [if_neg e2] at dc
         split at hb
         ·cases hb
         ·split at dc
          ·cases dc
          ·exact inv.xL i' j' (((getSet L i i' hL.1 fx).1 u5).resolve_left e1) (((getSet L i j' hL.1 fx).1 ir).resolve_left e2) nk b hb dc
     cases hb:s.b with
     | true=>
      rw [if_pos hb] at ow
      refine .inl ⟨ow.1,rn ow.2 ?_⟩
      rintro v w' ⟨hC,f,vF,hV⟩
      exact step v w' f hC vF (by rw [if_pos hb]; exact hV)
     | false=>
      rw [if_neg (by rw [hb]; exact Bool.false_ne_true)] at ow
      exact .inr ⟨ow,step undef w [] (aq.refl _ _) (fun b h=>nomatch h) (by rw [if_neg (by rw [hb]; exact Bool.false_ne_true)])⟩
    refine ⟨fun h=>(by obtain ⟨i,hi⟩:=Mg; rw [h] at hi; cases hi),fun i hi=>?_⟩
    obtain ⟨q1,oi,nw,vJ⟩:=nm L i hi
    have fx:i < l.length:=(List.getElem?_eq_some_iff.1 nw).1
    have vI:L.getD i false=false:=getD_both q1
    have vH:i < m:=by
     rcases Nat.lt_or_ge i m with h | h
     ·exact h
     ·have hj:=FR i h fx j0 SU
      have:=js L hL i j0 (fun o' cq=>by have:o'=oi:=Option.some.inj (cq.symm.trans nw); subst this; exact vJ) hj
      rw [GB] at this; cases this
    unfold wpOp
    rw [show (l.toArray)[i]? = some oi by simpa using nw]
    simp only []
    rw [Bc (by rw [g1]; exact hd)]
    rcases main i oi vH nw vI vJ with ⟨hw,h⟩ | ⟨hw,h⟩
    ·rw [if_pos hw]
     exact .inl (h.wp fun v w' hv=>hv)
    ·rw [if_neg (by rw [hw]; exact Bool.false_ne_true)]
     exact h
 refine head _ _ a _ (fun j=>if j=l.length then H else []) ⟨by simp,?_⟩ ?_ ?_ h1 h2 ⟨aq.nil (aq.drew _ _),fun _=>⟨aq.drew _ _,by simp⟩,fun b hb=>by simpa using hb,?_,?_,?_,?_,?_,?_⟩
 ·intro j o ho hj
  rw [getD_replicate_false] at hj; cases hj
 ·intro j hj
  rw [getD_replicate_false] at hj; cases hj
 ·simp
 ·intro j hj
  rw [getD_replicate_false] at hj; cases hj
 ·intro j hj
  rw [getD_replicate_false] at hj; cases hj
 ·intro j hj
  rw [getD_replicate_false] at hj; cases hj
 ·intro t _
  rw [h3]
 ·intro j hj
  rw [getD_replicate_false] at hj; cases hj
 ·intro i j hi
  rw [getD_replicate_false] at hi; cases hi
end
end Go.Li
namespace Go.Dk
open Go Go.Li
section
variable {R S:Type} {P:Program} {cx:Cx R} {K:dq R S} {l tail:LO} {base fr:Fr} {w:World} {Z:Nat→Prop}
theorem Qo {mt id:Nat} {U:LL} {V9:QE} (hU:((List.range mt).all fun i=>(U.getD i []).all fun u=>Nat.beq u l.length || ((cj l).getD i []).contains u)=true) (hh:np l mt base=true) (hd:dj cx.n l=true) (hA:A9 l mt=true) (Iq:mt≤l.length) (ht:tail=l.drop mt) {i:Nat} {sl:LQ} {ms:MM} {Γ:QE} {m:Option (Out S R)} (Wd:DQ ms=true) (tT:FI U sl ms=true)
  (h:∀ x:ou ms,D P cx (.p (Cb sl (mF ms x)) (FH ms x) base Γ fun fr Γ=>.tg true (DO tail) l tail K Γ fr m)):L6 P cx K l mt U V9 id base (.a [] [] i sl ms Γ m):=by
 rintro ⟨_,h2,h3⟩ B o ho r0 w0 H Z ha hs ⟨S',hl,hR,hO⟩
 have hi:i=mt:=by
  have:=congrArg List.length h2
  simp at this
  omega
 subst hl
 obtain ⟨F,Hd,⟨xK,BT,xC,BU⟩,hS,hG⟩:=hs
 refine Ub (N:=Z) (S:=S') (U:=U) (H:=H) hd hA Iq hi xC hU (fun b hb=>⟨hG.nv b hb,fun h=>hG.apart b (List.mem_append_left _ h) hb⟩) (fun i s hs=>hR.s i s hs) (fun j hj=>hO j (by omega)) ?_
 intro g r w hI
 have L7:∀ k j,j∈U.getD k []→∀ a∈ms,a.j≠j:=by
  intro k j hj
  unfold FI at tT
  rw [List.getD_eq_getElem?_getD] at hj
  cases hk:U[k]? with
  | none=>rw [hk] at hj; exact absurd hj List.not_mem_nil
  | some us=>
   rw [hk] at hj
   have h1:=List.all_eq_true.1 (List.all_eq_true.1 tT us (List.mem_of_getElem? hk)) j hj
   intro a ha he
   have:=List.all_eq_true.1 h1 a ha
   rw [he,Nat.beq_refl] at this
   cases this
 have hD:∀ j,j < mt→(∀ k,j ∉ U.getD k [])→yu l S' j g r w:=fun j hj hn=>hI.done j hj fun k _=>hn k
 have bn:∀ a∈ms,a.j < mt:=fun a ha=>hi ▸ hR.lt ha
 obtain ⟨x,hx,va,Wh⟩:=SK (g:=g) (r:=r) (w:=w) Wd hR.d (fun a ha b hb mw=>hI.xL _ _ (bn a ha) (bn b hb) mw) fun a ha=>by
  have:=hR.Ie (S2:=[]) ha (by rw [List.append_nil]; exact hD a.j (bn a ha) (fun k hk=>L7 k _ hk a ha rfl))
  exact this
 have Ez:=List.nodup_append.1 hG.nd
 have qz:∀ b∈A7 g ms,w0.heap.size≤b∨b∈H:=fun b hb=>by
  obtain ⟨a,h1,h2⟩:=DU hb
  exact (hI.fresh a.j (bn a h1) b h2).1.imp (fun h=>h) (·.1)
 have er:=tx.stay hS hG hI.jh
 obtain ⟨Vo,Vr,Wi,Wj,va⟩:=va
 obtain ⟨F',hp,fj⟩:=va.build (er.mono (fun _ h=>.inl h) fun _ h=>h)
 have xc:Gd B Z (A7 g ms++F) w:=by
  refine ⟨w9 Wh Ez.2.1 fun b hb hF=>(qz b hb).elim (fun h=>Nat.lt_irrefl _ (Nat.lt_of_lt_of_le (hS.lt b hF) h)) (fun h=>Ez.2.2 b h b hF rfl),?_,fun b hb=>Nat.lt_of_lt_of_le (hG.nv b hb) hI.jh.size,?_,hG.uY,hG.uA,hG.jh.then hI.jh fun b hb=>hG.low b (List.mem_append_left _ hb)⟩
  ·intro b hb hz
   rcases List.mem_append.1 hb with hb | hb
   ·exact (qz b hb).elim (fun h=>Nat.lt_irrefl _ (Nat.lt_of_lt_of_le (hG.nv b hz) h)) (fun h=>hG.apart b (List.mem_append_left _ h) hz)
   ·exact hG.apart b (List.mem_append_right _ hb) hz
  ·intro b hb
   rcases List.mem_append.1 hb with hb | hb
   ·exact (qz b hb).elim (fun h=>.inr (Nat.le_trans hG.jh.size h)) (fun h=>hG.low b (List.mem_append_left _ h))
   ·exact hG.low b (List.mem_append_right _ hb)
 have Qh:db r ((Cb sl (mF ms x)).reverse++base):=by
  refine qp (Io (fun p hp=>?_) hx) (lz hh ha hI.other)
  exact hR.Ae (S2:=[]) hp fun j _ hj=>(by rw [List.append_nil]; exact hI.uI j (hi ▸ hj))
 have:=(h x).sound B o ho r w Qh ⟨_,F',fj,((xc.perm (KT Wi)).freeze Wj).perm hp⟩
 rw [ht] at this
 exact this
theorem ZL {id:Nat} (hd:QE) (mt:Nat) (U as:LL) {ops:LO} {Γ Γ1:QE} {fr:Fr} {m:Option (Out S R)}
  (hB:(P.follows .mixedOrders && dj cx.n l && A9 l mt && Nat.ble mt l.length && (rm l U mt == as) && ((List.range mt).all fun i=>(U.getD i []).all fun u=>Nat.beq u l.length || ((cj l).getD i []).contains u))=true)
  (ho:ops=l.take mt) (ht:tail=l.drop mt) (hf:Kp (AV ops) none fr base) (hh:np l mt base=true) (he:EO Γ hd Γ1) (Ir:OW Γ hd)
  (h:AD true P cx K l tail base U hd (.a as ops 0 [] [] Γ1 m)):Bx (mb P cx (.dr id l K Γ fr m)):=by
 simp only [Bool.and_eq_true] at hB
 obtain ⟨⟨⟨⟨⟨b1,b2⟩,b3⟩,b5⟩,b6⟩,b7⟩:=hB
 rw [ma]
 intro B o hm r w ha hs
 obtain ⟨Z,F,hS,hG⟩:=hs
 obtain ⟨Fd,F',h1,h2,h3⟩:=he.sound hS
 have Is:SA Z w hd [] Fd:=by
  have:=(HO.hl Ir hS h1).front (Γ:=[]) (F:=[]) rfl
  simpa using this
 have hX:tx B Z hd Γ1 Fd w:=⟨F',Fd,⟨Is,fun b hb=>⟨hb,Is.lt b hb⟩,Is.lt,(List.nodup_append.1 (hG.perm h3).nd).1⟩,h2,hG.perm h3⟩
 refine na.W b1 ?_
 refine AD.sound (id:=id) hh (fun _ _ _ _ _ _ hs he h=>Qo b7 hh b2 b3 (Nat.le_of_ble_eq_true b5) ht hs he h) h
  ⟨by rw [List.drop_zero]; exact (eq_of_beq b6).symm,by rw [List.drop_zero]; exact ho,Nat.zero_le _⟩ B o hm r w Fd Z (hf.sound ha) hX ⟨[],rfl,⟨fun _ h=>absurd h List.not_mem_nil,fun _ h=>absurd h List.not_mem_nil,fun i s h=>by simp at h,List.nodup_nil,fun _ _ _ h1 h2=>EA l (Mf b3) h1 h2⟩,fun j hj=>absurd hj (Nat.not_lt_zero j)⟩
theorem acs {id:Nat} (mt:Nat) (U as:LL) {ops:LO} {Γ:QE} {fr:Fr} {m:Option (Out S R)}
  (hB:(P.follows .mixedOrders && dj cx.n l && A9 l mt && Nat.ble mt l.length && (rm l U mt == as) && ((List.range mt).all fun i=>(U.getD i []).all fun u=>Nat.beq u l.length || ((cj l).getD i []).contains u))=true)
  (ho:ops=l.take mt) (ht:tail=l.drop mt) (hf:Kp (AV ops) none fr base) (hh:np l mt base=true)
  (h:AD true P cx K l tail base U [] (.a as ops 0 [] [] Γ m)):Bx (mb P cx (.dr id l K Γ fr m)):=ZL [] mt U as hB ho ht hf hh .nil .nil h
end
end Go.Dk
namespace Go.Dk
open Go Go.Li
def B9:Value→Option Nat
 | .slice (some a) _ _=>some a.block
 | _=>none
def NF {α:Type} (E:ah α):Prop:=∀ {h:Array Obj} {cs:LV} {x:α} {f:LN},E.rep h cs x f→f=[]
theorem NF.i {k:IntKind}:NF (aM k):=zo
theorem NF.l {α:Type} {E:ah α} (hE:NF E) {h:Array Obj}:∀ {xs:List α} {cs:LV} {f:LN},ed E h cs xs f→f=[]:=by
 intro xs
 induction xs with
 | nil=>rintro cs f ⟨_,rfl⟩; rfl
 | cons x xs ih=>
  rintro cs f ⟨c,iq,f1,f2,rfl,rfl,h1,h2⟩
  rw [hE h1,ih h2]; rfl
structure Good {α:Type} (A:Value→α→Prop) (f:LN):Prop where
 sub:∀ u y b,A u y→B9 u=some b→b∈f
 one:∀ u y u' y' b,A u y→A u' y'→B9 u=some b→B9 u'=some b→y=y'
inductive BV {α:Type}:{β:Type}→ah β→((Value→List α→Prop)→ah β)→Prop
 | row {e:TI} {E:ah α}:BV (aJ e E) (fun A=>uX A (aJ e E))
 | step {β:Type} {e:TI} {T:ah β} {T':(Value→List α→Prop)→ah β} (h:BV T T'):BV (aJ e T) (fun A=>bL (T' A))
section
variable {α β:Type} {T:ah β} {T':(Value→List α→Prop)→ah β} {A A':Value→List α→Prop} {f:LN} {hp:Array Obj}
theorem BV.size (h:BV T T'):(T' A).size=T.size:=by
 cases h <;> rfl
theorem BV.mono (h:BV T T') (hA:∀ u y,A u y→A' u y):Le (T' A) (T' A'):=by
 induction h with
 | row=>exact ⟨rfl,fun h=>⟨h.1.imp fun v g=>⟨g.1,hA _ _ g.2⟩,h.2⟩⟩
 | step _ ih=>exact ih.Kx
theorem BV.ZM {e:TI} (ho:∀ {cs:LV} {x:β} {f:LN},T.rep hp cs x f→f.Nodup→∃ A,Good A f∧(T' A).rep hp cs x f) (hm:∀ {A A':Value→List α→Prop},(∀ u y,A u y→A' u y)→Le (T' A) (T' A')) :
  ∀ {xs:List β} {cs:LV} {f:LN},ed T hp cs xs f→f.Nodup→∃ A,Good A f∧ed (T' A) hp cs xs f:=by
 have _:=e
 intro xs
 induction xs with
 | nil=>rintro cs f ⟨rfl,rfl⟩ _; exact ⟨fun _ _=>False,⟨fun _ _ _ h=>h.elim,fun _ _ _ _ _ h=>h.elim⟩,rfl,rfl⟩
 | cons x xs ih=>
  rintro cs f ⟨c,iq,f1,f2,rfl,rfl,h1,h2⟩ hn
  obtain ⟨n1,n2,n3⟩:=List.nodup_append.1 hn
  obtain ⟨A1,g1,r1⟩:=ho h1 n1
  obtain ⟨A2,g2,r2⟩:=ih h2 n2
  refine ⟨fun u y=>A1 u y∨A2 u y,⟨fun u y b h hb=>?_,fun u y u' y' b h h' hb dc=>?_⟩,c,iq,f1,f2,rfl,rfl,(hm fun _ _=>.inl).le r1,wm (hm fun _ _=>.inr) r2⟩
  ·exact h.elim (fun h=>List.mem_append_left _ (g1.sub u y b h hb)) (fun h=>List.mem_append_right _ (g2.sub u y b h hb))
  ·rcases h with h | h <;> rcases h' with h' | h'
   ·exact g1.one u y u' y' b h h' hb dc
   ·exact absurd rfl (n3 b (g1.sub _ _ _ h hb) b (g2.sub _ _ _ h' dc))
   ·exact absurd rfl (n3 b (g1.sub _ _ _ h' dc) b (g2.sub _ _ _ h hb))
   ·exact g2.one u y u' y' b h h' hb dc
theorem BV.opened (h:BV T T'):∀ {cs:LV} {x:β} {f:LN},T.rep hp cs x f→f.Nodup→∃ A,Good A f∧(T' A).rep hp cs x f:=by
 induction h with
 | @row e E=>
  intro cs x f hr _
  obtain ⟨base,cap,rfl,fl⟩:=id hr
  refine ⟨fun u y=>u = .slice base x.length cap∧y=x,⟨?_,?_⟩,⟨_,rfl,rfl,rfl⟩,hr⟩
  ·rintro u y b ⟨rfl,rfl⟩ hb
   rcases fl with ⟨rfl,_⟩ | ⟨b0,cur,f',rfl,_,rfl,_⟩
   ·cases hb
   ·cases hb; exact List.mem_cons_self
  ·rintro u y u' y' b ⟨_,rfl⟩ ⟨_,rfl⟩ _ _; rfl
 | @step β e T T' ho ih=>
  intro cs x f hr hn
  obtain ⟨base,cap,rfl,fl⟩:=hr
  rcases fl with ⟨rfl,_,rfl,rfl⟩ | ⟨b,cur,f',rfl,hg,rfl,h3,h4,h5,h6⟩
  ·exact ⟨fun _ _=>False,⟨fun _ _ _ h=>h.elim,fun _ _ _ _ _ h=>h.elim⟩,none,cap,rfl,.inl ⟨rfl,rfl⟩⟩
  ·obtain ⟨A,g1,g2⟩:=BV.ZM (e:=e) ih (fun hA=>ho.mono hA) h6 (List.nodup_cons.1 hn).2
   refine ⟨A,⟨fun u y b h hb=>List.mem_cons_of_mem _ (g1.sub u y b h hb),g1.one⟩,_,cap,rfl,.inr ⟨b,0,cur,e,(0,0),f',rfl,hg,rfl,?_⟩⟩
   rw [List.drop_zero,ho.size]
   exact g2
end
section
variable {α:Type} {e e':TI} {E:ah α} {A:Value→List α→Prop} {ft f:LN} {hp:Array Obj}
theorem Mh (nf:NF E) (hA:Good A ft):∀ {ys:List (List α)} {us:LV} {g:LN},ed (uX A (aJ e' E)) hp us ys g→ys.Nodup→
  ed (aJ e' E) hp us ys g∧g.Nodup∧∀ b∈g,b∈ft∧∃ u y,A u y∧B9 u=some b∧y∈ys:=by
 intro ys
 induction ys with
 | nil=>rintro us g ⟨rfl,rfl⟩ _; exact ⟨⟨rfl,rfl⟩,List.nodup_nil,fun b hb=>absurd hb List.not_mem_nil⟩
 | cons y ys ih=>
  rintro us g ⟨c,iq,g1,g2,rfl,rfl,⟨⟨u,rfl,hu⟩,hr⟩,h2⟩ hn
  obtain ⟨n1,n2⟩:=List.nodup_cons.1 hn
  obtain ⟨a1,a2,a3⟩:=ih h2 n2
  refine ⟨⟨[u],iq,g1,g2,rfl,rfl,hr,a1⟩,?_,?_⟩
  ·obtain ⟨base,cap,hv,fl⟩:=hr
   obtain rfl:u = .slice base y.length cap:=by simpa using hv
   rcases fl with ⟨_,_,_,rfl⟩ | ⟨b,cur,f',rfl,_,rfl,_,_,_,h6⟩
   ·exact a2
   ·rw [nf.l h6]
    refine List.nodup_cons.2 ⟨fun hb=>?_,a2⟩
    obtain ⟨_,u',y',h7,h8,h9⟩:=a3 b hb
    rw [hA.one _ _ _ _ b hu h7 rfl h8] at n1
    exact n1 h9
  ·intro b hb
   rcases List.mem_append.1 hb with hb | hb
   ·obtain ⟨base,cap,hv,fl⟩:=hr
    obtain rfl:u = .slice base y.length cap:=by simpa using hv
    rcases fl with ⟨_,_,_,rfl⟩ | ⟨b0,cur,f',rfl,_,rfl,_,_,_,h6⟩
    ·cases hb
    ·rw [nf.l h6,List.mem_singleton] at hb
     subst hb
     exact ⟨hA.sub _ _ _ hu rfl,_,y,hu,rfl,by simp⟩
   ·obtain ⟨b1,u',y',b2,b3,b4⟩:=a3 b hb
    exact ⟨b1,u',y',b2,b3,by simp [b4]⟩
theorem N1 {Z:Nat→Prop} {w:World} {v:Value} {ys:List (List α)} (nf:NF E) (hA:Good A ft) (ho:my Z w f (.om e (uX A (aJ e' E)) v ys)) (hn:ys.Nodup) (hf:f.Nodup) (hz:∀ b∈f,¬ Z b) :
  ∃ g,(∀ b∈g,b∈ft)∧(aJ e (aJ e' E)).rep w.heap [v] ys (f++g)∧(f++g).Nodup:=by
 obtain ⟨us,g,h1,h2,h3,_⟩:=ho
 obtain ⟨a1,a2,a3⟩:=Mh nf hA h2 hn
 have hl:us.length=ys.length:=by have:=lp a1; rw [this]; exact Nat.mul_one _
 refine ⟨g,fun b hb=>(a3 b hb).1,?_,List.nodup_append.2 ⟨hf,a2,fun b hb c hc=>fun e=>hz b hb (h3 b (e ▸ hc))⟩⟩
 obtain ⟨base,cap,hv,hr⟩:=h1
 obtain rfl:v = .slice base us.length cap:=by simpa using hv
 rw [hl]
 rcases hr with ⟨rfl,rfl,rfl,rfl⟩ | ⟨b,cur,f',rfl,hg,rfl,c1,c2,c3,c4⟩
 ·cases ys with
  | cons y ys=>simp at hl
  | nil=>obtain ⟨_,rfl⟩:=a1; exact ⟨none,0,rfl,.inl ⟨rfl,rfl,rfl,rfl⟩⟩
 ·obtain ⟨c5,rfl⟩:=AS c4
  refine ⟨_,cap,rfl,.inr ⟨b,cur,g,rfl,hg,rfl,by rw [← hl]; exact c1,c2,c3,?_⟩⟩
  have e1:(aJ e' E).size=tn.size:=rfl
  rw [e1,← hl,c5]
  exact a1
end
section
variable {P:Program} {R:Type} {cx:Cx R}
theorem aj {S S1 α β:Type} [DecidableEq (List α)] (k t0:Nat) (φ:S1→Value→Fr) (KV:S1→List (List α)) (v0:Value) (f2:Fr) {e e':TI} {E:ah α} {T:ah β} {T':(Value→List α→Prop)→ah β} {vs:Value} {x:β} {gh:List KI} {kb:Kb R S} {c:Code} {s0:S1} {body:S1→Option (Out S1 R)} {f:S1→Option (Out S R)} {Γ Γ1 Γ2:QE} {fr:Fr}
  (ho:BV T T') (nf:NF E) (ha:r3 fr (φ s0 v0)) (hf:r3 fr f2) (hz:KV s0=[]) (hv:look fr t0=some vs) (h1:dp Γ (.own T vs x) Γ1) (h2:∀ A:Value→List α→Prop,dp Γ1 (.om e (uX A (aJ e' E)) v0 []) Γ2)
  (hb:∀ (A:Value→List α→Prop) s v,D P cx (.p (φ s v) [.om e (uX A (aJ e' E)) v (KV s)] f2 [.rd false (T' A) vs x] fun fr Γ=>.c ⟨[],.loop Value k (fun s v=>[.om e (uX A (aJ e' E)) v (KV s)]) φ [.rd false (T' A) vs x] f2⟩ c Γ fr (body s)))
  (hk:∀ s v,D P cx (.p (φ s v) [.own (aJ e (aJ e' E)) v (KV s)] f2 [] fun fr Γ=>.mn ⟨gh,kb⟩ Γ fr (f s))) :
  Bx (mb P cx (.bk true k ⟨gh,kb⟩ (.loop c) Γ fr (ag (ae k (aj body s0)) fun s=>WH (KV s)>>=fun _=>f s))):=by
 have _:=hv
 rw [ma]
 intro B o N2 r w pr ot
 obtain ⟨Z,F,hS,hG⟩:=ot
 obtain ⟨ft,F1,sm,hT,er⟩:=h1.sound hS
 have KW:=hG.perm sm
 obtain ⟨n1,n2,n3⟩:=List.nodup_append.1 KW.nd
 obtain ⟨A,hA,hR⟩:=ho.opened (hp:=w.heap) hT n1
 obtain ⟨fo,F2,oq,hO,fj⟩:=(h2 A).sound er
 have GD:∀ b∈ft,b < w.heap.size:=ah.lt _ hT
 have WI:∀ b∈ft,¬ Z b:=fun b hb=>KW.apart b (List.mem_append_left _ hb)
 have SV:∀ b∈fo,b∈F1:=fun b hb=>oq.mem_iff.1 (List.mem_append_left _ hb)
 have tA:fo.Nodup:=(List.nodup_append.1 (oq.nodup_iff.2 n2)).1
 refine LP (T:=TT P cx B) (LI B (fun s v=>[.om e (uX A (aJ e' E)) v (KV s)]) φ [.rd false (T' A) vs x] f2) N2
  ⟨v0,qp (ha.all pr) (hf.sound pr),fun b=>Z b∨b∈ft,fo,⟨fo,[],(List.append_nil _).symm,by rw [hz]; exact hO.mono fun _=>.inl,⟨ft,hR,fun b hb=>.inr hb⟩,rfl⟩,tA,fun b hb=>?_,fun b hb=>hb.elim (hG.nv b) (GD b),fun b hb=>KW.low b (List.mem_append_right _ (SV b hb)),fun b h=>.inl (hG.uY b h),fun b hb=>hb.elim (hG.uA b) fun hb=>.inr (KW.low b (List.mem_append_left _ hb)),hG.jh⟩ ?_ ?_ ?_
 ·rintro (h | h)
  ·exact KW.apart b (List.mem_append_right _ (SV b hb)) h
  ·exact n3 b h b (SV b hb) rfl
 ·intro x r w he hx
  subst he
  exact w6 hx
 ·rintro s r w ⟨v,h1,h2⟩ o ho
  exact (hb A s v).sound B o ho r w h1 h2
 ·rintro s r w' ⟨v,a1,Z2,Fl,H5,jq⟩ hm
  obtain ⟨_,hn,hm⟩:=bind_some hm
  replace hn:=Qp hn
  obtain ⟨f',F',rfl,xd,ZN⟩:=H5
  have Cf:F'=[]:=ZN.2
  subst Cf
  rw [List.append_nil] at jq
  obtain ⟨g,s1,s2,s3⟩:=N1 nf hA xd hn jq.nd jq.apart
  refine (hk s v).sound B o hm r w' a1 ⟨B.Z,f'++g,⟨f'++g,[],(List.append_nil _).symm,s2,rfl⟩,s3,fun b hb hz=>?_,fun b hz=>jq.nv b (jq.uY b hz),fun b hb=>?_,fun _ h=>h,fun _ h=>.inl h,jq.jh⟩
  ·rcases List.mem_append.1 hb with hb | hb
   ·exact jq.apart b hb (jq.uY b hz)
   ·exact WI b (s1 b hb) (hG.uY b hz)
  ·rcases List.mem_append.1 hb with hb | hb
   ·exact jq.low b hb
   ·exact KW.low b (List.mem_append_left _ (s1 b hb))
end
end Go.Dk
namespace Go.Dk
open Go Go.Li
section
variable {R:Type} {P:Program} {cx:Cx R} {B:Bs} {M:Type} {all l:LO} {rk:RK R M} {fr:Fr} {w:World} {Z:Nat→Prop} {F cur:LN} {Γ Γ1 Γ2 Γ3:QE}
theorem D.of {J:Jd R} (h:mb P cx J):D P cx J:=.inj (by rw [ma]; exact h)
theorem SX {Δ : List aX} (h : FO Δ) : ∀ {Fd : List Nat}, HL Z w Δ Fd → ∀ e ∈ Δ, fact Z w [] e := by
  induction h with
  | nil => intro Fd _ e he; cases he
  | rd _ ih =>
    intro Fd hl e he
    cases hl with
    | own h _ => exact h.elim
    | fact h k => rcases List.mem_cons.1 he with rfl | he
                  · exact h
                  · exact ih k e he
  | ay _ ih =>
    intro Fd hl e he
    cases hl with
    | own h _ => exact h.elim
    | fact h k => rcases List.mem_cons.1 he with rfl | he
                  · exact h
                  · exact ih k e he
theorem SY {α:Type} (S:ah α) {d:Nat} {t e n bt ty:TI} {m:Option M} [ht:BQ P t e n bt]
  (h:∀ v,D P cx (.o false all l rk (.own (aJ e (ef n)) v [] :: .rd false (qf S) (.bool true) ([],[]) :: Γ) ((d,v) :: fr) m)):D P cx (.e false (.buildSlice t 0 #[]) (some d) ty all l rk Γ fr m):=by
 refine D.of ?_
 intro B o ho r w ha hs pos af g
 obtain ⟨h1,i,z,h2,_⟩:=ht.h
 obtain ⟨v,w',f,hr,hC,hO⟩:=A5 (E:=ef n) (r:=r) (w:=w) (d:=some d) (ty:=ty) (pos:=pos) (af:=af) (g:=none) h1 h2
 refine fi (WL.val rfl hr ((h v).sound B o ho _ w' (ba ha) ?_))
 obtain ⟨Z,F,hS,hg⟩:=hs
 have hf:fact Z w [] (.rd false (qf S) (.bool true) ([],[])):=⟨[],⟨rfl,rfl,fun _ h=>absurd h List.not_mem_nil⟩,fun _ h=>absurd h List.not_mem_nil⟩
 exact St.put (f:=[]) (SA.fact hS hf) hg hC hO.1 hO.2.1 fun b hb=>.inr ((hO.2.2 b hb).resolve_left List.not_mem_nil)
theorem SZ {α:Type} {S:ah α} {q:Bool} {d n e:Nat} {x:OO} {v:Value} {us:List (List Value)} {xs:List α} {t ty bt:TI} {m:Option M} [ht:BQ P t e n bt] (hx:bx fr x=some v) (h1:dp Γ (.own (aJ e (ef n)) v us) Γ1) (hg:In (.rd false (qf S) (.bool true) (us,xs)) Γ)
  (h:D P cx (.o q all l rk Γ ((d,.int .i64 (xs.length:Int)) :: fr) m)):D P cx (.e q (.call ⟨.builtin .len,#[x],#[t]⟩) (some d) ty all l rk Γ fr m):=by
 refine D.of ?_
 intro B o ho r w ha hs pos af g
 obtain ⟨q1,_⟩:=ht.h
 obtain ⟨Z,F,hS,hG⟩:=@_root_.id _ hs
 obtain ⟨f,F1,_,hO,_⟩:=h1.sound hS
 obtain ⟨k,hk,_⟩:=hg.rd hS []
 obtain ⟨base,cap,hv,_⟩:=hO
 obtain rfl:v = .slice base us.length cap:=by simpa using hv
 have hl:us.length=xs.length:=Ab hk.2.1
 exact da (v:=.int .i64 (xs.length:Int)) (fun w' _=>by rw [← hl]; exact vB q1 (aY ha hx)) (h.sound B o ho _ w (ba ha) hs)
theorem ixS {α V:Type} {S:ah α} {cl:α→V→List Value} {en:α→V→List aX} {q:Bool} {d n e:Nat} {x y:OO} {v:Value} {us:List (List Value)} {xs:List α} {k:IntKind} {j:Int} {t ty bt:TI} {f:α→Option M} [ht:BQ P t e n bt] (hx:bx fr x=some v) (hy:bx fr y=some (.int k j))
  (h1:dp Γ (.own (aJ e (ef n)) v us) Γ1) (hg:In (.rd false (qf S) (.bool true) (us,xs)) Γ) (hs:Gs S V cl en)
  (h:∀ z u,D P cx (.p [] (.rd false (BN us j) (.bool true) (cl z u) :: en z u) fr Γ fun fr Γ=>.o q all l rk Γ ((d,.pointer (some (di v n j))) :: fr) (f z))):D P cx (.e q (.indexAddr t x y) (some d) ty all l rk Γ fr (idx xs j>>=f)):=by
 refine D.of ?_
 intro B o ho r w ha e7 pos af g
 replace hs:SO S V cl en:=by cases hs; assumption
 obtain ⟨z,hz,ho⟩:=bind_some ho
 replace hz:=ri hz
 obtain ⟨q1,i,_,q2,_,_,q3,_⟩:=ht.h
 obtain ⟨Z,F,hS,hG⟩:=e7
 obtain ⟨f0,F1,_,hO,_⟩:=h1.sound hS
 obtain ⟨g0,hk,si⟩:=hg.rd hS []
 obtain ⟨c,g1,e1,e2,e3⟩:=Ei j.toNat hk.2.1 hz.2
 obtain ⟨u,rfl,tT⟩:=hs.op e2
 have hlen:us.length=xs.length:=Ab hk.2.1
 have bn:j.toNat < xs.length:=(List.getElem?_eq_some_iff.1 hz.2).1
 have hv:∃ a c,v = .slice (some a) us.length c:=by
  obtain ⟨base,cap,hv,hr⟩:=hO
  obtain rfl:v = .slice base us.length cap:=by simpa using hv
  rcases hr with ⟨_,_,rfl,_⟩ | ⟨b,cur,f',rfl,_⟩
  ·rw [← hlen] at bn; simp at bn
  ·exact ⟨_,_,rfl⟩
 obtain ⟨a,c',rfl⟩:=hv
 have dw:HL Z w (.rd false (BN us j) (.bool true) (cl z u) :: en z u) []:=.fact ⟨[],⟨rfl,⟨hz.1,e1⟩,rfl⟩,fun _ h=>absurd h List.not_mem_nil⟩ (wz (tT Z fun b hb=>si b (e3 b hb)))
 obtain ⟨F',hp,fj⟩:=dw.build hS
 refine da (v:=.pointer (some (di (.slice (some a) us.length c') n j))) (fun w' hC=>?_) ((h z u).sound B o ho _ w (ba ha) ⟨Z,F',fj,hG.perm (by simpa using hp)⟩)
 rw [mc q1 q2 (aY ha hx) (aY ha hy) hz.1 (by omega),q3]
 rfl
theorem N3 {q:Bool} {d n off e:Nat} {x:OO} {v u:Value} {us:List (List Value)} {j:Int} {cs:LV} {ty:TI} {m:Option M} (h1:dp Γ (.own (aJ e (ef n)) v us) Γ1) (hp:In (.rd false (BN us j) (.bool true) cs) Γ) (hc:cs[off]? = some u)
  (k:D P cx (.o q all l rk Γ ((d,u) :: fr) m)):D P cx (.la ((di v n j).add off) none q ty x d all l rk Γ fr m):=by
 refine D.of ?_
 intro ht hx B o ho r w ha hs t pos af g
 obtain ⟨Z,F,hS,_⟩:=@_root_.id _ hs
 obtain ⟨f,F1,_,hO,_⟩:=h1.sound hS
 obtain ⟨_,⟨_,⟨hj,hu⟩,_⟩,_⟩:=hp.rd hS []
 exact da (Ld ht ((zr hO hj hu).2.2 off u hc) (aY ha hx)) (k.sound B o ho _ w (ba ha) hs)
theorem Mi {q:Bool} {d n e:Nat} {x:OO} {v u:Value} {us:List (List Value)} {j:Int} {cs:LV} {ty:TI} {m:Option M} (h1:dp Γ (.own (aJ e (ef n)) v us) Γ1) (hp:In (.rd false (BN us j) (.bool true) cs) Γ) (hc:cs[0]? = some u)
  (k:D P cx (.o q all l rk Γ ((d,u) :: fr) m)):D P cx (.la (di v n j) none q ty x d all l rk Γ fr m):=by
 have e:(di v n j).add 0=di v n j:=rfl
 rw [← e]
 exact N3 h1 hp hc k
theorem N4 {q:Bool} {d n e:Nat} {x:OO} {v:Value} {us:List (List Value)} {j:Int} {cs:LV} {ty:TI} {m:Option M} (h1:dp Γ (.own (aJ e (ef n)) v us) Γ1) (hp:In (.rd false (BN us j) (.bool true) cs) Γ)
  (k:D P cx (.o q all l rk Γ ((d,.agg cs.toArray) :: fr) m)):D P cx (.la (di v n j) (some n) q ty x d all l rk Γ fr m):=by
 refine D.of ?_
 intro ht hx B o ho r w ha hs t pos af g
 obtain ⟨Z,F,hS,_⟩:=@_root_.id _ hs
 obtain ⟨f,F1,_,hO,_⟩:=h1.sound hS
 obtain ⟨_,⟨_,⟨hj,hu⟩,_⟩,_⟩:=hp.rd hS []
 obtain ⟨e1,_,e3⟩:=zr hO hj hu
 exact da (Lg ht (fun i u hi=>e3 i u hi) (aY ha hx) e1) (k.sound B o ho _ w (ba ha) hs)
theorem N5 {α V:Type} {S:ah α} {cl:α→V→List Value} {en:α→V→List aX} (y:α) {u:V} {d b n e bt:Nat} {s x:OO} {sv:Value} {us:List (List Value)} {xs:List α} {cs:LV} {t et ty:TI} {f:Unit→Option M} [ht:BQ P t e n bt]
  (hs:bx fr s=some sv) (hx:bx fr x=some (.slice (some ⟨b,0,none⟩) 1 1)) (h0:dp Γ (.row b cs et) Γ1) (h1:dp Γ1 (.own (aJ e (ef n)) sv us) Γ2) (hg:In (.rd false (qf S) (.bool true) (us,xs)) Γ2) (r4:Gs S V cl en) (_hv:vx V u) (hc:cs=cl y u) (ho:wq Γ cs) (hn:cs.length=n) (WJ:FO (en y u)) (hf:EF Γ2 (en y u) Γ3)
  (h:∀ v,D P cx (.o false all l rk (.own (aJ e (ef n)) v (us++[cs]) :: .rd false (qf S) (.bool true) (us++[cs],xs++[y]) :: Γ3) ((d,v) :: fr) (f ()))):D P cx (.e false (.call ⟨.builtin .append,#[s,x],#[t,t]⟩) (some d) ty all l rk Γ fr (fits bt (xs.length+1)>>=f)):=by
 refine D.of ?_
 intro B o cq r w ha e7 pos af g
 have FU:SO S V cl en:=by cases r4; assumption
 obtain ⟨_,hu,cq⟩:=bind_some cq
 obtain ⟨b1,b2⟩:=qy hu
 obtain ⟨q1,i,z,q2,q3,q4,q5,q6,_⟩:=ht.h
 obtain ⟨Z,F,hS,hG⟩:=e7
 have Hr:=ho.one hS
 obtain ⟨n0,F0,r9,⟨rfl,bm⟩,vC⟩:=h0.sound hS
 obtain ⟨k,F1,hp,hO,er⟩:=h1.sound vC
 obtain ⟨Fd,F2,Zn,WK,fj,oq⟩:=hf.sound er
 obtain ⟨g0,hk,si⟩:=hg.rd er []
 have hlen:us.length=xs.length:=Ab hk.2.1
 have oy:((k++F1)++[b]).Perm F:=(List.perm_append_comm.trans (hp.append_left [b])).trans r9
 have jq:Gd B Z (k++F1) w:=Gd.left (F':=[b]) (hG.perm oy)
 have we:((k++F2)++(Fd++Zn)).Perm (k++F1):=by
  rw [List.append_assoc]
  refine List.Perm.append_left k (.trans ?_ oq)
  rw [← List.append_assoc]
  exact (List.perm_append_comm (l₁:=F2) (l₂:=Fd)).append_right Zn
 have ji:Gd B Z ((k++F2)++(Fd++Zn)) w:=jq.perm we
 have bn:∀ b∈Fd++Zn,b < w.heap.size:=fun b hb=>by
  have h3:b∈k++F1:=we.mem_iff.1 (List.mem_append_right _ hb)
  rcases List.mem_append.1 h3 with h3 | h3
  ·exact ah.lt _ hO b h3
  ·exact er.lt b h3
 have xc:Gd B (qv Z (Fd++Zn)) (k++F2) w:=ji.freeze bn
 have EG:∀ b,qv Z Zn b→qv Z (Fd++Zn) b:=fun b hb=>hb.imp id fun h=>List.mem_append_right _ h
 obtain ⟨g1,zj,EH⟩:=FU.cl (x:=y) (v:=u) (Z:=qv Z (Fd++Zn)) (w:=w) (SX WJ (WK.mono EG))
 have hdk:s8 [] k:=fun _ h=>absurd h List.not_mem_nil
 have hE:ed (ef n) w.heap cs [cs] []:=⟨cs,[],[],[],by simp,by simp,⟨rfl,hn,Hr,rfl⟩,rfl,rfl⟩
 obtain ⟨v,w',f',lq,hC,ez,df,de⟩:=q9 (E:=ef n) (d:=some d) (ty:=ty) (pos:=pos) (af:=af) (g:=none) (k:=[]) (ys:=[cs]) (news:=cs) q1 q2 q3 (by rw [q5]; rfl) (by rw [q4]; rfl) (aY ha hs) hO (List.nodup_append.1 jq.nd).1 (aY ha hx) (fun i u hi=>bm.at i u hi) hE hdk (by simp) (by rw [q6,hlen]; exact b1) (by rw [hlen]; exact b2)
 refine fi (WL.val rfl lq ((h v).sound B o cq _ w' (ba ha) ?_))
 have WM:fact (qv Z (Fd++Zn)) w [] (.rd false (qf S) (.bool true) (us++[cs],xs++[y])):=by
  rw [hc]
  refine ⟨g0++g1,⟨rfl,Vl zj hk.2.1,fun b hb=>?_⟩,fun b hb=>?_⟩
  ·rcases List.mem_append.1 hb with hb | hb
   ·exact hk.2.2 b hb
   ·exact S.lt zj b hb
  ·rcases List.mem_append.1 hb with hb | hb
   ·exact .inl (si b hb)
   ·exact EH b hb
 exact St.put (SA.fact (fj.mono EG fun _ h=>h) WM) xc hC ez (de List.nodup_nil) fun b hb=>(df b hb).imp id fun h=>h.resolve_left List.not_mem_nil
theorem Uc {n:Nat} {h:Array Obj}:∀ {us:List (List Value)} {cs:LV} {f:LN},ed (ef n) h cs us f→∀ c∈us,c.length=n∧∀ v∈c,v.oneCell'=true:=by
 intro us
 induction us with
 | nil=>intro cs f _ c hc; cases hc
 | cons a us ih=>
  rintro cs f ⟨c',iq,f1,f2,rfl,rfl,⟨rfl,h1,h2,rfl⟩,h3⟩ c hc
  rcases List.mem_cons.1 hc with rfl | hc
  ·exact ⟨h1,h2⟩
  ·exact ih h3 c hc
theorem Ud {n:Nat} {h:Array Obj}:∀ {us:List (List Value)},(∀ c∈us,c.length=n∧∀ v∈c,v.oneCell'=true)→ed (ef n) h us.flatten us []:=by
 intro us
 induction us with
 | nil=>intro _; exact ⟨rfl,rfl⟩
 | cons a us ih=>
  intro hc
  have h1:=hc a (by simp)
  exact ⟨a,us.flatten,[],[],by simp,rfl,⟨rfl,h1.1,h1.2,rfl⟩,ih fun c hm=>hc c (by simp [hm])⟩
theorem J9 {n:Nat} {c:LV}:∀ {us:List (List Value)} {j:Nat},(∀ x∈us,x.length=n)→j < us.length→(us.set j c).flatten=us.flatten.take (j * n)++c++us.flatten.drop (j * n+n)∧j * n+n≤us.flatten.length:=by
 intro us
 induction us with
 | nil=>intro j _ hj; simp at hj
 | cons a us ih=>
  intro j hl hj
  have ha:a.length=n:=hl a (by simp)
  cases j with
  | zero=>refine ⟨?_,by simp [ha]⟩; simp [← ha]
  | succ j=>
   obtain ⟨h1,h2⟩:=ih (j:=j) (fun x hx=>hl x (by simp [hx])) (by simpa using hj)
   have e:(j+1) * n=n+j * n:=by rw [Nat.add_mul,Nat.one_mul,Nat.add_comm]
   refine ⟨?_,by rw [e,List.flatten_cons,List.length_append,ha]; omega⟩
   rw [List.set_cons_succ,List.flatten_cons,List.flatten_cons,h1,e,List.take_append,List.drop_append,ha]
   have e1:List.take (n+j * n) a=a:=List.take_of_length_le (by omega)
   have e2:List.drop (n+j * n+n) a=[]:=List.drop_eq_nil_of_le (by omega)
   rw [e1,e2,show n+j * n - n=j * n by omega,show n+j * n+n - n=j * n+n by omega]
   simp
theorem stS {α V:Type} {S:ah α} {cl:α→V→List Value} {en:α→V→List aX} (y:α) {u:V} {n e:Nat} {x0 y0:OO} {v:Value} {j:Int} {us:List (List Value)} {xs:List α} {cs c0:LV} {t ty:TI} {m:Option M}
  (h1:dp Γ (.own (aJ e (ef n)) v us) Γ1) (hp:In (.rd false (BN us j) (.bool true) c0) Γ) (hg:In (.rd false (qf S) (.bool true) (us,xs)) Γ1) (r4:Gs S V cl en) (_hv:vx V u) (hc:cs=cl y u) (ho:wq Γ cs) (hn:cs.length=n) (WJ:FO (en y u)) (hf:EF Γ1 (en y u) Γ2)
  (h:D P cx (.o false all l rk (.own (aJ e (ef n)) v (us.set j.toNat cs) :: .rd false (qf S) (.bool true) (us.set j.toNat cs,xs.set j.toNat y) :: Γ2) fr m)):D P cx (.st (di v n j) (.agg cs.toArray) n t x0 y0 ty all l rk Γ fr m):=by
 refine D.of ?_
 intro hT hx hy B o cq r w ha e7 pos af g
 have FU:SO S V cl en:=by cases r4; assumption
 obtain ⟨i,q1,q2⟩:=hT
 obtain ⟨Z,F,hS,hG⟩:=e7
 have Hr:=ho.one hS
 obtain ⟨_,⟨_,⟨hj,hu⟩,_⟩,_⟩:=hp.rd hS []
 obtain ⟨k,F1,sm,hO,er⟩:=h1.sound hS
 obtain ⟨Fd,F2,Zn,WK,fj,oq⟩:=hf.sound er
 obtain ⟨g0,hk,si⟩:=hg.rd er []
 have jq:Gd B Z (k++F1) w:=hG.perm sm
 have we:((k++F2)++(Fd++Zn)).Perm (k++F1):=by
  rw [List.append_assoc]
  refine List.Perm.append_left k (.trans ?_ oq)
  rw [← List.append_assoc]
  exact (List.perm_append_comm (l₁:=F2) (l₂:=Fd)).append_right Zn
 have ji:Gd B Z ((k++F2)++(Fd++Zn)) w:=jq.perm we
 have bn:∀ b∈Fd++Zn,b < w.heap.size:=fun b hb=>by
  have h3:b∈k++F1:=we.mem_iff.1 (List.mem_append_right _ hb)
  rcases List.mem_append.1 h3 with h3 | h3
  ·exact ah.lt _ hO b h3
  ·exact er.lt b h3
 have xc:Gd B (qv Z (Fd++Zn)) (k++F2) w:=ji.freeze bn
 have EG:∀ b,qv Z Zn b→qv Z (Fd++Zn) b:=fun b hb=>hb.imp id fun h=>List.mem_append_right _ h
 obtain ⟨g1,zj,EH⟩:=FU.cl (x:=y) (v:=u) (Z:=qv Z (Fd++Zn)) (w:=w) (SX WJ (WK.mono EG))
 obtain ⟨g2,Su,hgb⟩:=Nj (c:=cs) (by rw [hc]; exact zj) j.toNat hk.2.1
 have WM:fact (qv Z (Fd++Zn)) w [] (.rd false (qf S) (.bool true) (us.set j.toNat cs,xs.set j.toNat y)):=by
  refine ⟨g2,⟨rfl,Su,fun b hb=>?_⟩,fun b hb=>?_⟩
  ·exact (hgb b hb).elim (hk.2.2 b) (S.lt zj b)
  ·exact (hgb b hb).elim (fun h=>.inl (si b h)) (EH b)
 have Co:j.toNat < us.length:=(List.getElem?_eq_some_iff.1 hu).1
 obtain ⟨base,cap,o4,hr⟩:=hO
 obtain rfl:v = .slice base us.length cap:=by simpa using o4
 rcases hr with ⟨_,_,rfl,_⟩ | ⟨b,cur,f',rfl,h2,rfl,h4,h5,h6,h3⟩
 ·simp at Co
 ·obtain ⟨hcf,vF⟩:=HB h3
  subst vF
  have dw:=Uc h3
  obtain ⟨e1,e2⟩:=J9 (c:=cs) (fun x hx=>(dw x hx).1) Co
  have bm:Row w b cur.toList e:=by unfold Row; simpa using h2
  have WN:cur.toList=us.flatten++cur.toList.drop (us.length * n):=by
   rw [← hcf]; exact (List.take_append_drop _ _).symm
  have yk:di (.slice (some ⟨b,0,none⟩) us.length cap) n j = ⟨b,j.toNat * n,none⟩:=by
   simp only [di,jk,Nat.zero_add]
  rw [yk] at hx
  have hle:j.toNat * n+cs.length≤cur.toList.length:=by
   rw [hn,WN,List.length_append]; omega
  have lq:=wS (P:=P) (d:=none) (ty:=ty) (pos:=pos) (af:=af) (gg:=none) q1 (by rw [hn,q2]) bm hle (aY ha hx) (y:=y0) (by rw [aY ha hy]; rfl) Hr
  refine fi (WL.skip rfl lq (h.sound B o cq _ _ ha ?_))
  have Bd:cur.toList.take (j.toNat * n)++cs++cur.toList.drop (j.toNat * n+cs.length)=(us.set j.toNat cs).flatten++cur.toList.drop (us.length * n):=by
   rw [hn,e1]
   conv=>lhs; rw [WN]
   rw [List.take_append_of_le_length (by omega),List.drop_append_of_le_length (by omega)]
   simp
  have su:=setRow_heap w b cur (cur.toList.take (j.toNat * n)++cs++cur.toList.drop (j.toNat * n+cs.length)).toArray e _ h2
  refine St.put (f:=[b]) (f':=[b]) (SA.fact (fj.mono EG fun _ h=>h) WM) xc ⟨rfl,rfl,rfl,Nat.le_refl _,by simp,fun j' _ ir=>setRow_other w b j' _ fun h=>ir (by simp [h])⟩ ?_ (by simp) (fun b hb=>.inl hb)
  refine ⟨_,cap,by rw [List.length_set],.inr ⟨b,_,[],rfl,su,rfl,by rw [List.length_set]; exact h4,h5,?_,?_⟩⟩
  ·rw [← h6]
   simp only [List.size_toArray,Bd]
   have e3:(us.set j.toNat cs).flatten.length=us.flatten.length:=by
    rw [e1]; simp only [List.length_append,List.length_take,List.length_drop,hn]; omega
   rw [List.length_append,e3,← List.length_append,← WN,Array.length_toList]
  ·rw [List.toList_toArray,Bd,List.length_set]
   have amV:(us.set j.toNat cs).flatten.length=us.length * n:=by
    have e3:(us.set j.toNat cs).flatten.length=us.flatten.length:=by
     rw [e1]; simp only [List.length_append,List.length_take,List.length_drop,hn]; omega
    rw [e3]
    have:=lp h3
    rw [hcf] at this
    exact this
   show ed (ef n) _ (List.take (us.length * n) _) _ _
   rw [List.take_append_of_le_length (by omega),List.take_of_length_le (by omega)]
   refine Ud fun c hm=>?_
   rcases List.mem_or_eq_of_mem_set hm with hm | rfl
   ·exact dw c hm
   ·exact ⟨hn,Hr⟩
theorem zV {α:Type} {E:ah α} {d n:Nat} {t e ty:TI} {ps:List (Nat×Operand)} {us:LV} {xs:List α} {m:Option M} [hz:HF P t e] (hl:wx Γ fr 0 ps us) (hn:us.length=n) (hb:(Nat.ble 1 n && Nat.ble n 16777216)=true) (hx:HJ Γ E us xs Γ1) (hE:E.size=1)
  (h:∀ v,D P cx (.o false all l rk (.own (aJ e E) v xs :: Γ1) ((d,v) :: fr) m)):D P cx (.e false (.buildSlice t n ps.toArray) (some d) ty all l rk Γ fr m):=by
 refine D.of ?_
 intro B o ho r w ha hs pos af g
 obtain ⟨Z,F,hS,hg⟩:=hs
 refine fi (WL.val rfl (hl.op ha hS ⟨hz.h⟩ hn hb) ((h _).sound B o ho _ _ (ba ha) ?_))
 obtain ⟨e1,f,F2,oq,hr,fj⟩:=hx.sound hS
 have HP:n≤16777216:=by
  rw [Bool.and_eq_true] at hb
  exact Nat.le_of_ble_eq_true hb.2
 have hC:aq [] w (w.alloc (.cells us.toArray e)):=aq.alloc _ _ _
 have jj:Gd B Z (f++F2) w:=hg.perm oq
 have bn:∀ b∈f,b < w.heap.size:=mx hr
 have Bd:=heap_alloc_new w (.cells us.toArray e)
 have fl:ed E (w.alloc (.cells us.toArray e)).heap us xs f:=lg hr fun b hb=>hC.block b (bn b hb) (fun h=>absurd h List.not_mem_nil)
 refine St.put (f:=f) (f':=w.heap.size :: f) fj jj (aq.mono hC fun _ h=>absurd h List.not_mem_nil) ⟨_,n,by rw [← hn,e1],.inr ⟨w.heap.size,us.toArray,f,rfl,Bd,rfl,by rw [← hn,e1]; exact Nat.le_refl _,Nat.le_trans HP (by decide),by rw [hE,Nat.mul_one]; simp [hn],?_⟩⟩ ?_ ?_
 ·rw [hE,Nat.mul_one,List.toList_toArray,← e1,List.take_length]
  exact fl
 ·exact List.nodup_cons.2 ⟨fun hm=>Nat.lt_irrefl _ (bn _ hm),(List.nodup_append.1 jj.nd).1⟩
 ·intro b hb
  rcases List.mem_cons.1 hb with rfl | hb
  ·exact .inr (Nat.le_refl _)
  ·exact .inl hb
theorem apR {α:Type} {d b:Nat} {s x:OO} {v u yv:Value} {j:Int} {y:α} {z:List α} {xs:List (List α)} {t e e' et ty:TI} {E E':ah α} {z0:α} {bt:Nat} {o1 o2:Bool} {Γx:QE} {f:Unit→Option M} [hT:tQ P t α e E z0 bt] (hs:bx fr s=some u) (hx:bx fr x=some (.slice (some ⟨b,0,none⟩) 1 1)) (hl:Loc Γ u (.row v j)) (h0:dp Γ (.row b [yv] et) Γ1) (hz:qu Γ u o1 o2 E' z uF Γx) (h1:dp Γ1 (.own (aJ e' (aJ e E)) v xs) Γ2) (hr:RT (aJ e E) (bL E')) (hy:Dv Γ2 E yv y Γ3)
  (h:∀ v',D P cx (.o false all l rk (.own (aJ e E) v' (z++[y]) :: .own (vD e' (aJ e E) j.toNat) v xs :: Γ3) ((d,v') :: fr) (f ()))):D P cx (.e false (.call ⟨.builtin .append,#[s,x],#[t,t]⟩) (some d) ty all l rk Γ fr (fits bt (z.length+1)>>=f)):=by
 refine D.of ?_
 intro B o cq r w ha e7 pos af g
 obtain ⟨_,hu,cq⟩:=bind_some cq
 obtain ⟨b1,b2⟩:=qy hu
 obtain ⟨q1,q2,i,zz,q3,q4,q5,q6,q7,_⟩:=hT.h
 obtain ⟨Z,F,hS,hG⟩:=e7
 obtain ⟨j0,j1,lh⟩:=Loc.row hl rfl hS
 obtain ⟨ee,_,⟨⟨gz,si,_⟩,_⟩,_⟩:=hz.sound hS
 obtain ⟨n0,F0,r9,⟨rfl,bm⟩,vC⟩:=h0.sound hS
 obtain ⟨fm,F1,sm,hO,er⟩:=h1.sound vC
 obtain ⟨ky,F2,oq,V6,fj⟩:=hy.sound er
 rw [tS hO] at j1
 obtain ⟨k,gm,a1,a2,a3⟩:=H7 rfl hO (List.getElem?_eq_getElem j1) lh
 have V8:xs[j.toNat]=z:=hr.v8 (hr.le.le a1) si
 rw [V8] at a1
 have oy:((k++ky)++(gm++F2)).Perm (fm++F1):=by
  have e1:((k++gm)++(ky++F2)).Perm (fm++F1):=(a2.append_right _).trans (oq.append_left fm)
  refine .trans ?_ e1
  rw [List.append_assoc,List.append_assoc]
  refine List.Perm.append_left k ?_
  rw [← List.append_assoc,← List.append_assoc]
  exact List.perm_append_comm.append_right F2
 have jq:Gd B Z ((k++ky)++(gm++F2)) w:=Gd.left (F':=[b]) (hG.perm (((oy.append_right [b]).trans (List.perm_append_comm.trans (sm.append_left [b]))).trans r9))
 have de:=(List.nodup_append.1 jq.nd).1
 have yr:=List.nodup_append.1 de
 obtain ⟨v',w',f',lq,hC,ez,df,Im⟩:=q9 (E:=E) (d:=some d) (ty:=ty) (pos:=pos) (af:=af) (g:=none) (k:=ky) (ys:=[y]) (news:=[yv]) q1 q3 q4 (by rw [q5,q2]) (by rw [cells_one q6,q2]; rfl) (aY ha hs) a1 yr.1 (aY ha hx) (fun i u hi=>bm.at i u hi) (tj V6) (fun b hb hm=>yr.2.2 b hm b hb rfl) (by simp) (by rw [q7]; exact b1) b2
 refine fi (WL.val rfl lq ((h v').sound B o cq _ w' (ba ha) ?_))
 have hSh:SA Z w (.own (vD e' (aJ e E) j.toNat) v xs :: Γ3) [] (gm++F2):=SA.cons fj (e:=.own (vD e' (aJ e E) j.toNat) v xs) a3
 refine St.put hSh jq (hC.mono fun b hb=>List.mem_append_left _ hb) ez (Im yr.2.1) fun b hb=>?_
 rcases df b hb with h | h | h
 ·exact .inl (List.mem_append_left _ h)
 ·exact .inl (List.mem_append_right _ h)
 ·exact .inr h
theorem ixH {α:Type} {q:Bool} {d j0:Nat} {x y:OO} {v:Value} {k:IntKind} {j:Int} {xs:List α} {t e ty:TI} {E:ah α} {f:α→Option M} [ht:yo P t] (hx:bx fr x=some v) (hy:bx fr y=some (.int k j)) (h1:dp Γ (.own (vD e E j0) v xs) Γ1)
  (h:∀ z,D P cx (.o q all l rk Γ ((d,.pointer (some (di v 1 j))) :: fr) (f z))):D P cx (.e q (.indexAddr t x y) (some d) ty all l rk Γ fr (idx xs j>>=f)):=by
 refine D.of ?_
 intro B o ho r w ha hs pos af g
 obtain ⟨z,hz,ho⟩:=bind_some ho
 replace hz:=ri hz
 obtain ⟨e',i,q1,q2,q3⟩:=ht.h
 obtain ⟨Z,F,hS,_⟩:=@_root_.id _ hs
 obtain ⟨f0,F1,_,⟨b,cap,cur,f1,f2,p,c0,qq,hv,_⟩,_⟩:=h1.sound hS
 obtain rfl:v = .slice (some ⟨b,0,none⟩) xs.length cap:=by simpa using hv
 have bn:j.toNat < xs.length:=(List.getElem?_eq_some_iff.1 hz.2).1
 have IE:=hz.1
 refine da (v:=.pointer (some (di (.slice (some ⟨b,0,none⟩) xs.length cap) 1 j))) (fun w' hC=>?_) ((h z).sound B o ho _ w (ba ha) hs)
 rw [mc q1 q2 (aY ha hx) (aY ha hy) hz.1 (by omega),q3]
 rfl
theorem stR {α:Type} {x0 y0:OO} {v u:Value} {j:Int} {z:α} {xs:List α} {t e ty:TI} {E:ah α} {m:Option M} (h1:dp Γ (.own E u z) Γ1) (h2:dp Γ1 (.own (vD e E j.toNat) v xs) Γ2)
  (h:D P cx (.o false all l rk (.own (aJ e E) v (xs.set j.toNat z) :: Γ2) fr m)):D P cx (.st (di v 1 j) u 1 t x0 y0 ty all l rk Γ fr m):=by
 refine D.of ?_
 intro hT hx hy B o cq r w ha e7 pos af g
 obtain ⟨i,q1,q2⟩:=hT
 obtain ⟨Z,F,hS,hG⟩:=e7
 obtain ⟨k,F1,sm,hK,er⟩:=h1.sound hS
 obtain ⟨gm,F2,oq,hM,fj⟩:=h2.sound er
 have we:((gm++k)++F2).Perm F:=by
  refine .trans ?_ sm
  refine .trans ?_ (oq.append_left k)
  rw [← List.append_assoc k gm F2]
  exact List.perm_append_comm.append_right F2
 have jq:Gd B Z ((gm++k)++F2) w:=hG.perm we
 have de:=(List.nodup_append.1 jq.nd).1
 obtain ⟨b,cap,cur,f1,f2,p,c0,qq,hv,g1,rfl,⟨g2,g3,g4,g5⟩,g6,⟨g7,g8⟩,g9,g10⟩:=hM
 obtain rfl:v = .slice (some ⟨b,0,none⟩) xs.length cap:=by simpa using hv
 have yk:di (.slice (some ⟨b,0,none⟩) xs.length cap) 1 j = ⟨b,j.toNat,none⟩:=by
  simp only [di,jk,Nat.zero_add,Nat.mul_one]
 rw [yk] at hx
 have bm:Row w b cur.toList e:=by unfold Row; simpa using g1
 have Vg:∀ i∈(f1++f2)++k,i≠b:=by
  intro i hi he
  subst he
  have e1:((i :: (f1++f2))++k)=i :: ((f1++f2)++k):=rfl
  rw [e1] at de
  exact (List.nodup_cons.1 de).1 hi
 refine fi (WL.H0 q1 q2 bm (by rw [Array.length_toList,g4]; omega) (aY ha hx) (aY ha hy) (E.one hK u (by simp)) fun w' hC tw=>h.sound B o cq _ w' ha ?_)
 have S0:∀ i∈(f1++f2)++k,i < w.heap.size→w'.heap[i]? = w.heap[i]?:=fun i hi hl=>hC.block i hl fun hm=>Vg i hi (by simpa using hm)
 have hK':E.rep w'.heap [u] z k:=E.congr hK fun i hi=>S0 i (List.mem_append_right _ hi) (E.lt hK i hi)
 have Sw:=g10 w'.heap (fun i hi=>S0 i (List.mem_append_left _ hi) (g9 i hi)) u z k hK'
 refine St.put (f:=(b :: (f1++f2))++k) (f':=b :: (f1++k++f2)) fj jq (hC.mono fun i hi=>by rw [List.mem_singleton.1 hi]; simp) ⟨_,cap,by rw [List.length_set],.inr ⟨b,_,f1++k++f2,rfl,tw,rfl,by rw [List.length_set]; exact g2,g3,?_,?_⟩⟩ ?_ ?_
 ·rw [g5]; simp [g4]
 ·have su:((cur.toList.set j.toNat u).take xs.length)=p++[u]++qq:=by
   rw [List.take_set,g6,← g7]
   simp
  rw [List.length_set,g5,Nat.mul_one]
  simpa [su] using Sw
 ·have Dz:(b :: (f1++k++f2)).Perm ((b :: (f1++f2))++k):=by
   rw [List.cons_append]
   refine List.Perm.cons b ?_
   rw [List.append_assoc,List.append_assoc]
   exact List.Perm.append_left f1 List.perm_append_comm
  exact Dz.nodup_iff.2 de
 ·intro i hi
  refine .inl ?_
  rcases List.mem_cons.1 hi with rfl | hi
  ·simp
  ·rcases List.mem_append.1 hi with hi | hi
   ·rcases List.mem_append.1 hi with hi | hi <;> simp [hi]
   ·simp [hi]
theorem vL {S S1 V W:Type} (k:Nat) (Δ:S1→V→W→List aX) (φ:S1→V→W→Fr) (v0:V) (w0:W) (f2:Fr) {gh:List KI} {kb:Kb R S} {c:Code} {s0:S1} {body:S1→Option (Out S1 R)} {f:S1→Option (Out S R)}
  (ha:r3 fr (φ s0 v0 w0)) (hf:r3 fr f2) (h0:EO Γ (Δ s0 v0 w0) Γ1) (hn:OW Γ (Δ s0 v0 w0)) (hs:ke Γ1 Γ2)
  (hb:∀ s v w,D P cx (.p (φ s v w) (Δ s v w) f2 Γ2 fun fr Γ=>.c ⟨[],.loop (V×W) k (fun s v=>Δ s v.1 v.2) (fun s v=>φ s v.1 v.2) Γ2 f2⟩ c Γ fr (body s)))
  (hk:∀ s v w,D P cx (.p (φ s v w) (Δ s v w) f2 Γ2 fun fr Γ=>.mn ⟨gh,kb⟩ Γ fr (f s))):Bx (mb P cx (.bk true k ⟨gh,kb⟩ (.loop c) Γ fr (ag (ae k (Li.aj body s0)) f))):=
 loop k (fun s v=>Δ s v.1 v.2) (fun s v=>φ s v.1 v.2) (v0,w0) f2 ha hf h0 hn hs (fun s v=>hb s v.1 v.2) (fun s v=>hk s v.1 v.2)
def IF {α:Type} (v:Value) (_:List α):Prop:=∃ a n c,v = .slice a n c∧n≤c
theorem Le.cap {α:Type} {T E:ah α} (hl:Le T E) (e:TI):Le (aJ e T) (uX IF (bL E)):=by
 refine ⟨rfl,fun {h cs x f} hr=>⟨?_,(Le.own hl e).le hr⟩⟩
 obtain ⟨base,cap,rfl,hr⟩:=hr
 refine ⟨_,rfl,_,_,_,rfl,?_⟩
 rcases hr with ⟨_,_,rfl,_⟩ | ⟨_,_,_,_,_,_,h,_⟩
 ·exact Nat.zero_le _
 ·exact h
theorem Ue {α:Type} {T E:ah α} {e e2:TI} {v:Value} {xs:List (List α)} {f:LN} {h:Array Obj} (hl:Le T E) (hO:(aJ e (aJ e2 T)).rep h [v] xs f) :
  ∃ fo fz us,(fo++fz).Perm f∧(aJ e tn).rep h [v] us fo∧ed (uX IF (bL E)) h us xs fz:=by
 obtain ⟨base,cap,hv,hr⟩:=hO
 rcases hr with ⟨rfl,rfl,rfl,rfl⟩ | ⟨b,cur,f',rfl,h2,rfl,h4,h5,h6,h3⟩
 ·exact ⟨[],[],[],.refl _,⟨none,0,by simpa using hv,.inl ⟨rfl,rfl,rfl,rfl⟩⟩,rfl,rfl⟩
 ·have h7:=lp h3
  have h8:(aJ e2 T).size=1:=rfl
  rw [h8,Nat.mul_one] at h6 h3 h7
  try rw [Nat.mul_one] at h7
  refine ⟨[b],f',cur.toList.take xs.length,.refl _,⟨_,cap,by rw [h7]; exact hv,.inr ⟨b,cur,[],rfl,h2,rfl,by rw [h7]; exact h4,h5,by rw [h6]; exact (Nat.mul_one _).symm,?_⟩⟩,wm (Le.cap hl e2) h3⟩
  have h9:tn.size=1:=rfl
  rw [h9,Nat.mul_one,h7]
  exact DD (DW h3)
theorem St.frz {α:Type} {T E:ah α} {e e2:TI} {v:Value} {xs:List (List α)} (hs:St B Γ w) (h1:EO Γ [.own (aJ e (aJ e2 T)) v xs] Γ1) (hr:RT T E):St B (.om e (uX IF (bL E)) v xs :: Γ1) w:=by
 obtain ⟨Z,F,hS,hG⟩:=hs
 obtain ⟨_,F1,hH,er,hp⟩:=h1.sound hS
 obtain ⟨f,hO,hp⟩ : ∃ f,(aJ e (aJ e2 T)).rep w.heap [v] xs f∧(f++F1).Perm F:=by
  cases hH with
  | own h k=>cases k; exact ⟨_,h,by simpa using hp⟩
 obtain ⟨fo,fz,us,hf,ho,hl⟩:=Ue hr.le hO
 have we:((fo++F1)++fz).Perm F:=by
  refine .trans ?_ hp
  refine .trans ?_ (hf.append_right F1)
  rw [List.append_assoc,List.append_assoc]
  exact List.Perm.append_left fo List.perm_append_comm
 have ji:=Gd.freeze (hG.perm we) fun b hb=>hS.lt b (we.mem_iff.1 (List.mem_append_right _ hb))
 exact ⟨qv Z fz,fo++F1,SA.cons (er.mono (fun _ h=>.inl h) fun _ h=>h) ⟨us,fz,ho,hl,fun b hb=>.inr hb,rfl⟩,ji⟩
theorem ZO {S:Type} {id:Nat} (k:Nat) {K:dq R S} {l ops tl0:LO} {α:Type} {T E:ah α} {e e2:TI} {v:Value} {xs:List (List α)} {m:Option (Out S R)} (hB:(P.follows .mixedOrders && dj cx.n l && ((l.take k).all fun o=>yt o.op) && Region.lexTailB .any l.toArray k)=true) (ho:ops=l.take k) (ht:tl0=l.drop k)
  (h1:EO Γ [.own (aJ e (aJ e2 T)) v xs] Γ1) (hr:RT T E) (h:D P cx (.o true l ops (.h l tl0 K) (.om e (uX IF (bL E)) v xs :: Γ1) fr m)):Bx (mb P cx (.dr id l K Γ fr m)):=by
 have h2:=tail (id:=id) k hB ho ht h
 rw [ma] at h2 ⊢
 exact fun B o cq r w ha hs=>h2 B o cq r w ha (hs.frz h1 hr)
theorem N6 {α:Type} {E:ah α} {h:Array Obj}:∀ {xs:List α} {cs:LV} {f:LN} (n:Nat),ed E h cs xs f→∃ f3,ed E h (cs.drop (n * E.size)) (xs.drop n) f3∧∀ b∈f3,b∈f:=by
 intro xs
 induction xs with
 | nil=>rintro cs f n ⟨rfl,rfl⟩; exact ⟨[],by simpa using ⟨rfl,rfl⟩,fun _ h=>h⟩
 | cons x xs ih=>
  rintro cs f n ⟨c,ds,f1,f2,rfl,rfl,h1,h2⟩
  cases n with
  | zero=>exact ⟨f1++f2,by simpa using ⟨c,ds,f1,f2,rfl,rfl,h1,h2⟩,fun _ h=>h⟩
  | succ n=>
   obtain ⟨f3,h3,h4⟩:=ih n h2
   refine ⟨f3,?_,fun b hb=>List.mem_append_right _ (h4 b hb)⟩
   have e:(n+1) * E.size=c.length+n * E.size:=by rw [E.len h1,Nat.add_mul,Nat.one_mul,Nat.add_comm]
   rw [e,List.drop_append,List.drop_of_length_le (by omega),List.nil_append,List.drop_succ_cons]
   simpa using h3
theorem slT {α:Type} {q:Bool} {d:Nat} {x lo:OO} {v:Value} {k:IntKind} {j:Int} {E:ah α} {xs:List α} {t ty:TI} {f:List α→Option M} [ht:yo P t] (hx:bx fr x=some v) (hy:bx fr lo=some (.int k j)) (hr:In (.rd false (uX IF (bL E)) v xs) Γ) (hE:E.size=1)
  (h:∀ v' ys,D P cx (.o q all l rk (.rd false (bL E) v' ys :: Γ) ((d,v') :: fr) (f ys))):D P cx (.e q (.slice t x (some lo) none none) (some d) ty all l rk Γ fr (tl xs j>>=f)):=by
 refine D.of ?_
 intro B o ho r w ha hs pos af g
 obtain ⟨ys,hys,ho⟩:=bind_some ho
 obtain ⟨h0,h1,rfl⟩:=Uf hys
 obtain ⟨e,i,q1,q2,q3⟩:=ht.h
 obtain ⟨Z,F,hS,hG⟩:=hs
 obtain ⟨g0,⟨⟨v0,hv0,a0,n0,c0,WO,hc⟩,base,cap,hv,fl⟩,si⟩:=hr.rd hS []
 obtain rfl:v = .slice base xs.length cap:=by simpa using hv
 obtain rfl:Value.slice base xs.length cap=v0:=by simpa using hv0
 obtain ⟨rfl,rfl,rfl⟩ : base=a0∧xs.length=n0∧cap=c0:=by simpa using WO
 have hlen:(xs.drop j.toNat).length=xs.length - j.toNat:=List.length_drop
 have hf:fact Z w [] (.rd false (bL E) (sliced base j.toNat xs.length cap 1) (xs.drop j.toNat)):=by
  by_cases hj:j.toNat=xs.length
  ·refine ⟨[],⟨_,cap - j.toNat,by unfold sliced; rw [hlen],.inl ⟨by rw [hj]; simp,rfl⟩⟩,fun _ h=>absurd h List.not_mem_nil⟩
  ·rcases fl with ⟨rfl,_⟩ | ⟨b,off,cur,e',fz,f',rfl,g1,rfl,g2⟩
   ·exfalso; simp at h1 hj; omega
   ·have nk : ¬ (cap=j.toNat):=by omega
    obtain ⟨f3,ez,df⟩:=N6 j.toNat g2
    refine ⟨b :: f3,⟨some ⟨b,off+j.toNat,none⟩,cap - j.toNat,?_,.inr ⟨b,off+j.toNat,cur,e',fz,f3,rfl,g1,rfl,?_⟩⟩,fun i hi=>?_⟩
    ·unfold sliced
     rw [hlen,if_neg nk]
     simp [jk]
    ·rw [hE,Nat.mul_one] at ez ⊢
     rw [Nat.mul_one,List.drop_take,List.drop_drop] at ez
     rw [hlen]
     exact ez
    ·rcases List.mem_cons.1 hi with rfl | hi
     ·exact si _ (by simp)
     ·exact si _ (List.mem_cons_of_mem _ (df i hi))
 refine da (v:=sliced base j.toNat xs.length cap 1) (fun w' _=>?_) ((h _ _).sound B o ho _ w (ba ha) ⟨Z,F,SA.fact hS hf,hG⟩)
 have q4:P.elem t=e:=by simp [Program.elem,q1]
 have uH:(sizeOf (P.elem t)).run P w' = .ok 1 w':=by rw [q4]; simp [sizeOf,typeInfo,q2,q3]
 simp [execOp,aY ha hx,aY ha hy,run_sliceAt_slice w' t _ _ _ _ (by rw [q4]; exact q1),run_slice_l (P:=P) w' t base xs.length cap (by rw [q4]; exact q1) k j h0 h1,uH,Result.andThen]
theorem stN {α:Type} {x y:OO} {v u:Value} {j:Int} {z:List α} {xs:List (List α)} {E:ah α} {Q:Value→List α→Prop} {t e ty:TI} {Γx:QE} {m:Option M} (h0:Rg v j Γ) (h1:qu Γ u false false E z uF Γx) (h2:dp Γ (.om e (uX Q (bL E)) v xs) Γ1)
  (h:D P cx (.o false all l rk (.om e (bL E) v (xs.set j.toNat z) :: Γ1) fr m)):D P cx (.sl .om v j u t x y ty all l rk Γ fr m):=by
 refine D.of ?_
 intro hT hx hy _ B o ho r w ha hs pos af g
 obtain ⟨i,hi,uH⟩:=hT
 obtain ⟨Z,F,hS,hg⟩:=hs
 obtain ⟨j0,j1⟩:=h0.sound hS
 obtain ⟨ee,_,⟨⟨k,hk,HY⟩,_⟩,_⟩:=h1.sound hS
 obtain ⟨n,F1,hp,⟨us,gg,hO,hr0,si,NB⟩,er⟩:=h2.sound hS
 have hle:Le (uX Q (bL E)) (bL E):=⟨rfl,fun h=>h.2⟩
 have hr:ed (bL E) w.heap us xs gg:=wm hle hr0
 replace NB:(bL E).size=1:=rfl
 have jj:=hg.perm hp
 have de:=List.nodup_append.1 jj.nd
 have HZ:∀ b∈k,Z b:=fun b hb=>(HY b hb).elim (fun h=>h) (fun h=>h)
 have NC:∀ b∈n,¬ Z b:=fun b hb=>jj.apart b (List.mem_append_left _ hb)
 have hl:us.length=xs.length:=by have:=lp hr; rw [NB,Nat.mul_one] at this; exact this
 have KB:xA v=us.length:=tS hO
 rw [KB,hl] at j1
 refine fi (SD.store (E:=bL E) (G:=n) (B:=w.heap.size) (g:=gg) (k:=k) hi uH ⟨us,⟨hO,de.1,fun b hb=>.inl hb⟩,hr,NB⟩ (List.getElem?_eq_getElem j1) (aY ha hx) (aY ha hy) hk (fun b hb hm=>NC b hm (HZ b hb)) (fun b hb hm=>NC b hm (si b hb)) fun w' g' hC qx jo=>?_)
 obtain ⟨VK,cq,fl,PZ⟩:=qx
 exact h.sound B o ho _ w' ha (St.put er jj hC ⟨VK,_,cq.1,fl,(fun b hb=>(jo b hb).elim (si b) (HZ b)),PZ⟩ cq.2.1 fun b hb=>.inl hb)
theorem St.ao7 {B:Bs} {Γ Δ Γ1 Γ2 Γ3:QE} {w:World} (h:St B Γ w) (h0:EF Γ Δ Γ1) (h1:EO Γ1 Γ2 Γ3) (h2:MF Γ none Γ2):St B (Δ.reverse++Γ2) w:=by
 obtain ⟨Z,F,hs,hg⟩:=h
 obtain ⟨Fd,F',Zn,a1,a2,a3⟩:=h0.sound hs
 obtain ⟨VA,F3,c1,c2,c3⟩:=h1.sound a2
 obtain ⟨F2,b1,b2⟩:=HL.build a1 (h2.sound (hs.left (f:=Zn)) (ee:=[]) (by rintro e he; cases he) c1)
 refine St.of (F':=Fd++VA) b2 (Gd.left (F':=F3) ((Gd.freeze (hg.perm a3) fun b hb=>hs.lt b (a3.mem_iff.1 (List.mem_append_right _ hb))).perm ?_)) b1
 rw [List.append_assoc]
 exact c3.append_left Fd
theorem join {S S1 V:Type} {t k:Nat} {b:Bool} (Δ:S1→V→List aX) (φ:S1→V→Fr) (v0:V) (f2:Fr) {gh:List KI} {kb:Kb R S} {x y:Code} {s0:S1} {m0:Option (Out S1 R)} {f:S1→Option (Out S R)}
   (_ha:r3 fr (φ s0 v0)) (_hf:r3 fr f2) (_h0:EO Γ (Δ s0 v0) Γ1) (_hs:ke Γ1 Γ2)
   (hb:D P cx (.cd b ⟨[],.loop V k Δ φ Γ2 f2⟩ x y Γ fr m0)) (hk:∀ s v,D P cx (.p (φ s v) (Δ s v) f2 Γ2 fun fr Γ=>.n ⟨gh,kb⟩ Γ fr (f s))):D P cx (.cd b ⟨gh,kb⟩ x y Γ fr (jn t s0 m0 f)):=by
 refine .inj (bxi ?_)
 intro B o ho r w pr ot
 replace ho:ag m0 f=some o:=ho
 cases hm:m0 with
 | none=>rw [hm] at ho; cases ho
 | some o0=>
  have h1:=hb.sound B o0 hm r w pr ot
  rw [hm] at ho
  have hq:∀ e r w,mr P cx B ⟨[],.loop V k Δ φ Γ2 f2⟩ o0 e r w→mr P cx B ⟨gh,kb⟩ o e r w:=by
   intro e r w hp
   cases o0 with
   | norm s=>
    cases e with
    | normal=>obtain ⟨v,a1,a2⟩:=hp; exact (hk s v).sound B o ho r w a1 a2
    | _=>exact hp.elim
   | exit j s=>cases ho
   | ret y=>
    cases ho
    cases e with
    | ret=>exact w6 hp
    | _=>exact hp.elim
  exact ⟨fun h=>vM (h1.1 h) hq,fun h=>vM (h1.2 h) hq⟩
theorem N8 {S:Type} {t:Nat} {K:dq R S} {ops:LO} {m:Option (Out S R)} (_ht:El ops=some t) (h:D P cx (.o false ops ops (.s K) Γ fr m)):D P cx (.rw false ops K Γ fr m):=.rwu h
theorem ve {S:Type} {b:Bool} {t:Nat} {K:dq R S} {x y:Code} {m1 m2:Option (Out S R)} (hl:look fr t=some (.bool b)) (h1:D P cx (.c K x Γ ((t,.bool true) :: fr) m1)) (h2:D P cx (.c K y Γ ((t,.bool false) :: fr) m2)):D P cx (.cd b K x y Γ fr (bif b then m1 else m2)):=by
 refine D.of ?_
 have hc:∀ {r:NV},db r fr→∀ c,b=c→db r ((t,.bool c) :: fr):=by
  intro r ha c hb s u hs
  unfold look at hs
  cases ot:Nat.beq s t with
  | true=>
   rw [ot] at hs
   cases hs
   obtain rfl:=Nat.eq_of_beq_eq_true ot
   rw [← hb]
   exact ha _ _ hl
  | false=>rw [ot] at hs; exact ha _ _ hs
 exact fun B o ho r w ha hs=>⟨fun h=>h1.sound B o (by rw [h] at ho; exact ho) r w (hc ha _ h) hs,fun h=>h2.sound B o (by rw [h] at ho; exact ho) r w (hc ha _ h) hs⟩
class ny {α:Type} (S:ah α) (V:outParam Type) (cl:outParam (α→V→List Value)) (en:outParam (α→V→List aX)):Prop where
 ow:∀ x v,s6 (en x v)=true
 op:∀ {w:World} {cs:LV} {x:α} {g:LN},S.rep w.heap cs x g→∃ v,cs=cl x v∧∀ Z:Nat→Prop,HL Z w (en x v) g
 cl:∀ {w:World} {x:α} {v:V} {Z:Nat→Prop} {g:LN},HL Z w (en x v) g→S.rep w.heap (cl x v) x g
theorem ny.i {k:IntKind}:ny (aM k) Unit (fun x _=>[.int k x]) (fun _ _=>[]):=
 ⟨fun _ _=>rfl,fun h=>⟨(),h.1,fun _=>by rw [h.2]; exact .nil⟩,fun h=>by cases h; exact ⟨rfl,rfl⟩⟩
theorem ny.s {α:Type} {e:TI} {E:ah α}:ny (aJ e E) Value (fun _ v=>[v]) (fun x v=>[.own (aJ e E) v x]):=by
 refine ⟨fun _ _=>rfl,fun {w cs x g} h=>?_,fun {w x v Z g} h=>?_⟩
 ·obtain ⟨base,cap,rfl,hr⟩:=h
  refine ⟨_,rfl,fun Z=>?_⟩
  have:=HL.own (Z:=Z) (w:=w) (e:=.own (aJ e E) (.slice base x.length cap) x) (f:=g) ⟨base,cap,rfl,hr⟩ .nil
  rwa [List.append_nil] at this
 ·cases h with
  | own h k=>cases k; rw [List.append_nil]; exact h
  | fact h _=>exact h.elim
theorem ny.ip {β V:Type} {k:IntKind} {B:ah β} {cl:β→V→List Value} {en:β→V→List aX} (h:ny B V cl en):ny (gn (aM k) B) V (fun x v=>.int k x.1 :: cl x.2 v) (fun x v=>en x.2 v):=by
 refine ⟨fun x v=>h.ow x.2 v,fun {w cs x g} hr=>?_,fun {w x v Z g} he=>?_⟩
 ·obtain ⟨c1,c2,f1,f2,rfl,rfl,⟨rfl,rfl⟩,h2⟩:=hr
  obtain ⟨v,rfl,hv⟩:=h.op h2
  exact ⟨v,rfl,hv⟩
 ·exact ⟨[_],_,[],g,rfl,rfl,⟨rfl,rfl⟩,h.cl he⟩
theorem ny.sp {α β V:Type} {e:TI} {E:ah α} {B:ah β} {cl:β→V→List Value} {en:β→V→List aX} (h:ny B V cl en):ny (gn (aJ e E) B) (Value×V) (fun x v=>v.1 :: cl x.2 v.2) (fun x v=>.own (aJ e E) v.1 x.1 :: en x.2 v.2):=by
 refine ⟨fun x v=>h.ow x.2 v.2,fun {w cs x g} hr=>?_,fun {w x v Z g} he=>?_⟩
 ·obtain ⟨c1,c2,f1,f2,rfl,rfl,h1,h2⟩:=hr
  obtain ⟨base,cap,rfl,zj⟩:=h1
  obtain ⟨v,rfl,hv⟩:=h.op h2
  exact ⟨(_,v),rfl,fun Z=>.own ⟨base,cap,rfl,zj⟩ (hv Z)⟩
 ·cases he with
  | own h1 k=>
   obtain ⟨base,cap,hb,zj⟩:=h1
   exact ⟨[_],_,_,_,rfl,rfl,⟨base,cap,hb,zj⟩,h.cl k⟩
  | fact h1 _=>exact h1.elim
theorem ny.mp {α β V:Type} {f:β→α} {A:ah α} {cl:α→V→List Value} {en:α→V→List aX} (h:ny A V cl en):ny (yn f A) V (fun y v=>cl (f y) v) (fun y v=>en (f y) v):=
 ⟨fun y v=>h.ow (f y) v,fun hr=>h.op hr,fun he=>h.cl he⟩
inductive Qq {α:Type} (S:ah α) (V:Type) (cl:α→V→List Value) (en:α→V→List aX):Prop
 | mk [h:ny S V cl en]:Qq S V cl en
theorem ZP:∀ {Δ:QE} {F:LN},s6 Δ=true→HO Z w Δ F→HL Z w Δ F:=by
 intro Δ
 induction Δ with
 | nil=>intro F _ h; cases h; exact .nil
 | cons e Δ ih=>
  intro F ho h
  cases e with
  | own T v x=>cases h with | own h k=>exact .own h (ih ho k)
  | row b cs t=>cases h with | own h k=>exact .own h (ih ho k)
  | _=>exact absurd ho (by simp [s6])
theorem WQ {α:Type} (S:ah α) {d:Nat} {t e n bt ty:TI} {m:Option M} [ht:BQ P t e n bt]
  (h:∀ v,D P cx (.o false all l rk (.own (aJ e S) v [] :: Γ) ((d,v) :: fr) m)):D P cx (.e false (.buildSlice t 0 #[]) (some d) ty all l rk Γ fr m):=by
 refine D.of ?_
 intro B o ho r w ha hs pos af g
 obtain ⟨h1,i,z,h2,_⟩:=ht.h
 obtain ⟨v,w',f,hr,hC,hO⟩:=A5 (E:=S) (r:=r) (w:=w) (d:=some d) (ty:=ty) (pos:=pos) (af:=af) (g:=none) h1 h2
 refine fi (WL.val rfl hr ((h v).sound B o ho _ w' (ba ha) ?_))
 obtain ⟨Z,F,hS,hg⟩:=hs
 exact St.put (f:=[]) hS hg hC hO.1 hO.2.1 fun b hb=>.inr ((hO.2.2 b hb).resolve_left List.not_mem_nil)
theorem N9 {α:Type} {S:ah α} {q:Bool} {d n e:Nat} {x:OO} {v:Value} {xs:List α} {t ty bt:TI} {m:Option M} [ht:BQ P t e n bt] (hx:bx fr x=some v) (h1:dp Γ (.own (aJ e S) v xs) Γ1)
  (h:D P cx (.o q all l rk Γ ((d,.int .i64 (xs.length:Int)) :: fr) m)):D P cx (.e q (.call ⟨.builtin .len,#[x],#[t]⟩) (some d) ty all l rk Γ fr m):=by
 refine D.of ?_
 intro B o ho r w ha hs pos af g
 obtain ⟨q1,_⟩:=ht.h
 obtain ⟨Z,F,hS,hG⟩:=@_root_.id _ hs
 obtain ⟨f,F1,_,hO,_⟩:=h1.sound hS
 obtain ⟨base,cap,hv,_⟩:=hO
 obtain rfl:v = .slice base xs.length cap:=by simpa using hv
 exact da (v:=.int .i64 (xs.length:Int)) (fun w' _=>vB q1 (aY ha hx)) (h.sound B o ho _ w (ba ha) hs)
theorem Qr {α:Type} {S:ah α} {n:Nat} {hp:Array Obj} (hn:S.size=n):∀ {xs:List α} {cs:LV} {f:LN},ed S hp cs xs f→∃ us,us.length=xs.length∧ed (ef n) hp cs us []∧∀ (j:Nat) (x:α),xs[j]? = some x→∃ c f0 f1 f2,us[j]? = some c∧f=f0++f1++f2∧S.rep hp c x f1:=by
 intro xs
 induction xs with
 | nil=>rintro cs f ⟨rfl,rfl⟩; exact ⟨[],rfl,⟨rfl,rfl⟩,fun j x hj=>by simp at hj⟩
 | cons y xs ih=>
  rintro cs f ⟨c,iq,f1,f2,rfl,rfl,h1,h2⟩
  obtain ⟨us,hl,hr,hg⟩:=ih h2
  refine ⟨c :: us,by simp [hl],⟨c,iq,[],[],rfl,rfl,⟨rfl,by rw [S.len h1,hn],S.one h1,rfl⟩,hr⟩,fun j x hj=>?_⟩
  cases j with
  | zero=>simp at hj; subst hj; exact ⟨c,[],f1,f2,rfl,by simp,h1⟩
  | succ j=>
   obtain ⟨c',g0,g1,g2,a1,rfl,a3⟩:=hg j x (by simpa using hj)
   exact ⟨c',f1++g0,g1,g2,by simpa using a1,by simp,a3⟩
theorem WR {α V:Type} {S:ah α} {cl:α→V→List Value} {en:α→V→List aX} {q:Bool} {d n e:Nat} {x y:OO} {v:Value} {xs:List α} {k:IntKind} {j:Int} {t ty bt:TI} {f:α→Option M} [ht:BQ P t e n bt] (hx:bx fr x=some v) (hy:bx fr y=some (.int k j))
  (h1:dp Γ (.own (aJ e S) v xs) Γ1) (hs:Qq S V cl en) (hn:S.size=n)
  (h:∀ z u us,D P cx (.p [] (.own (aJ e (ef n)) v us :: .rd false (BN us j) (.bool true) (cl z u) :: en z u) fr Γ1 fun fr Γ=>.o q all l rk Γ ((d,.pointer (some (di v n j))) :: fr) (f z))):D P cx (.e q (.indexAddr t x y) (some d) ty all l rk Γ fr (idx xs j>>=f)):=by
 refine D.of ?_
 intro B o ho r w ha e7 pos af g
 replace hs:ny S V cl en:=by cases hs; assumption
 obtain ⟨z,hz,ho⟩:=bind_some ho
 replace hz:=ri hz
 obtain ⟨q1,i,_,q2,_,_,q3,_⟩:=ht.h
 obtain ⟨Z,F,hS,hG⟩:=e7
 obtain ⟨f0,F1,hp,hO,er⟩:=h1.sound hS
 have bn:j.toNat < xs.length:=(List.getElem?_eq_some_iff.1 hz.2).1
 obtain ⟨base,cap,hv,hr⟩:=hO
 obtain rfl:v = .slice base xs.length cap:=by simpa using hv
 rcases hr with ⟨_,_,rfl,_⟩ | ⟨b,cur,f',rfl,lh,rfl,hle,acu,uH,ez⟩
 ·simp at bn
 ·obtain ⟨us,hl,hru,hg⟩:=Qr hn ez
  obtain ⟨c,g0,g1,g2,a1,rfl,a3⟩:=hg _ _ hz.2
  obtain ⟨u,rfl,tT⟩:=hs.op a3
  have Bd:(aJ e (ef n)).rep w.heap [.slice (some ⟨b,0,none⟩) xs.length cap] us [b]:=
   ⟨_,cap,by rw [hl],.inr ⟨b,cur,[],rfl,lh,rfl,by rw [hl]; exact hle,acu,by rw [uH,hn]; rfl,by rw [hl,show (ef n).size=S.size from hn.symm]; exact hru⟩⟩
  have dw:HL Z w (.own (aJ e (ef n)) (.slice (some ⟨b,0,none⟩) xs.length cap) us :: .rd false (BN us j) (.bool true) (cl z u) :: en z u) ([b]++g1):=.own Bd (.fact ⟨[],⟨rfl,⟨hz.1,a1⟩,rfl⟩,fun _ h=>absurd h List.not_mem_nil⟩ (tT Z))
  obtain ⟨F',u7,fj⟩:=dw.build er
  have oy:(F'++(g0++g2)).Perm F:=by
   refine .trans ?_ hp
   refine (u7.append_right _).trans ?_
   rw [List.cons_append,List.cons_append,List.cons_append,List.nil_append,List.cons_append]
   refine List.Perm.cons b ?_
   have e1:(g1++F1++(g0++g2)).Perm ((g0++g2)++(g1++F1)):=List.perm_append_comm
   refine e1.trans ?_
   rw [List.append_assoc,List.append_assoc,List.append_assoc]
   refine List.Perm.append_left g0 ?_
   rw [← List.append_assoc,← List.append_assoc]
   exact List.perm_append_comm.append_right F1
  refine da (v:=.pointer (some (di (.slice (some ⟨b,0,none⟩) xs.length cap) n j))) (fun w' hC=>?_) ((h z u us).sound B o ho _ w (ba ha) ⟨Z,F',fj,Gd.left (hG.perm oy)⟩)
  rw [mc q1 q2 (aY ha hx) (aY ha hy) hz.1 (by omega),q3]
  rfl
theorem apO {α V:Type} {S:ah α} {cl:α→V→List Value} {en:α→V→List aX} (y:α) {u:V} {d b n e bt:Nat} {s x:OO} {sv:Value} {xs:List α} {cs:LV} {t et ty:TI} {f:Unit→Option M} [ht:BQ P t e n bt]
  (hs:bx fr s=some sv) (hx:bx fr x=some (.slice (some ⟨b,0,none⟩) 1 1)) (h0:dp Γ (.row b cs et) Γ1) (h1:dp Γ1 (.own (aJ e S) sv xs) Γ2) (r4:Qq S V cl en) (_hv:vx V u) (hc:cs=cl y u) (hn:S.size=n) (he:EO Γ2 (en y u) Γ3)
  (h:∀ v,D P cx (.o false all l rk (.own (aJ e S) v (xs++[y]) :: Γ3) ((d,v) :: fr) (f ()))):D P cx (.e false (.call ⟨.builtin .append,#[s,x],#[t,t]⟩) (some d) ty all l rk Γ fr (fits bt (xs.length+1)>>=f)):=by
 refine D.of ?_
 intro B o cq r w ha e7 pos af g
 have FU:ny S V cl en:=by cases r4; assumption
 obtain ⟨_,hu,cq⟩:=bind_some cq
 obtain ⟨b1,b2⟩:=qy hu
 obtain ⟨q1,i,z,q2,q3,q4,q5,q6,_⟩:=ht.h
 obtain ⟨Z,F,hS,hG⟩:=e7
 obtain ⟨n0,F0,r9,⟨rfl,bm⟩,vC⟩:=h0.sound hS
 obtain ⟨k,F1,hp,hO,er⟩:=h1.sound vC
 obtain ⟨Fd,F2,hho,fj,oq⟩:=he.sound er
 have hy:S.rep w.heap (cl y u) y Fd:=FU.cl (ZP (FU.ow y u) hho)
 have oy:(((k++Fd)++F2)++[b]).Perm F:=by
  refine .trans ?_ r9
  refine List.perm_append_comm.trans ?_
  refine List.Perm.append_left [b] ?_
  rw [List.append_assoc]
  exact (oq.append_left k).trans hp
 have jq:Gd B Z ((k++Fd)++F2) w:=Gd.left (F':=[b]) (hG.perm oy)
 have de:=(List.nodup_append.1 jq.nd).1
 have yr:=List.nodup_append.1 de
 subst hc
 obtain ⟨v,w',f',lq,hC,ez,df,Im⟩:=q9 (E:=S) (d:=some d) (ty:=ty) (pos:=pos) (af:=af) (g:=none) (k:=Fd) (ys:=[y]) (news:=cl y u) q1 q2 q3 (by rw [q5,hn]) (by rw [q4,hn]) (aY ha hs) hO yr.1 (aY ha hx) (fun i u hi=>bm.at i u hi) (tj hy) (fun b hb hm=>yr.2.2 b hm b hb rfl) (by simp) (by rw [q6]; exact b1) b2
 refine fi (WL.val rfl lq ((h v).sound B o cq _ w' (ba ha) ?_))
 refine St.put fj jq (hC.mono fun b hb=>List.mem_append_left _ hb) ez (Im yr.2.1) fun b hb=>?_
 rcases df b hb with h | h | h
 ·exact .inl (List.mem_append_left _ h)
 ·exact .inl (List.mem_append_right _ h)
 ·exact .inr h
end
end Go.Dk
namespace Go.Dk
open Go Go.Li
section
variable {P:Program} {n:Nat} {l:LO} {Q:Exit→(Nat→Value)→World→Prop} {S:World→Prop}
def Hw (P:Program) (n:Nat) (l:LO) (Q:Exit→(Nat→Value)→World→Prop) (S:World→Prop) (k:Nat) (L:Array Bool) (r:NV) (w:World):Prop:=
 ∀ a:Act,a.tmps.size=n→a.defers=[]→cy a=r→wpAnyH P .any l.toArray (fun e a' w'=>a'.tmps.size=n∧a'.defers=[]∧Q e (cy a') w') S k L a w
theorem Cr {i:Nat} {o:Oper} {a:Act} (hd:dj n l=true) (hi:l[i]? = some o) (h1:a.tmps.size=n):∀ k,o.dst=some k→k < a.tmps.size:=by
 intro k hk
 have hm:o∈l:=List.mem_of_getElem? hi
 simp only [dj,List.all_eq_true] at hd
 have:=hd o hm
 rw [hk] at this
 rw [h1]
 exact Nat.lt_of_succ_le (Nat.le_of_ble_eq_true this)
theorem Hw.take {k i:Nat} {L:Array Bool} {o:Oper} {v:Value} {r:NV} {w:World} (hd:dj n l=true) (hi:l[i]? = some o) (hs:Region.noSelect l.toArray=true) (hf:Region.free .any l.toArray L i=true) (hr:(Region.ready .any l.toArray L).contains i=true)
  (hp:∀ c r w,¬ Q (.panic c) r w) (hg:o.guard=none) (hy:∀ w,S w→(execOp (ev r) o).run P w = .ok (.value v) w) (hS:S w) (h:Hw P n l Q S k (L.setIfInBounds i true) (fv r o.dst v) w):Hw P n l Q S (k+1) L r w:=by
 intro a h1 h2 h3
 refine wpAnyH_take (v:=v) (by simpa using hi) hs hf hr (fun c a w h=>(hp _ _ _ h.2.2).elim) (.inl ⟨td hg,fun w hw=>?_⟩) hS (h _ (by rw [kh]; exact h1) (by rw [ib]; exact h2) (by rw [l3 (Cr hd hi h1),h3]))
 rw [sx,h3]
 exact hy w hw
theorem Hw.step {k i:Nat} {L:Array Bool} {o:Oper} {r:NV} {w w':World} (hd:dj n l=true) (hi:l[i]? = some o) (hr:Region.ready .any l.toArray L=[i]) (hg:o.guard=none) (hy:(execOp (ev r) o).run P w = .ok .skip w') (hS:S w') (h:Hw P n l Q S k (L.setIfInBounds i true) (fv r o.dst undef) w'):Hw P n l Q S (k+1) L r w:=by
 intro a h1 h2 h3
 refine wpAnyH_all hr (by simp) fun j hj=>?_
 obtain rfl:j=i:=by simpa using hj
 unfold wpOp
 rw [show (l.toArray)[j]? = some o by simpa using hi]
 simp only []
 rw [if_pos (td hg)]
 refine .inl ?_
 unfold Oper.wp
 rw [sx,h3,hy]
 exact ⟨hS,h _ (by rw [kh]; exact h1) (by rw [ib]; exact h2) (by rw [l3 (Cr hd hi h1),h3])⟩
theorem Hw.done {k:Nat} {L:Array Bool} {r:NV} {w:World} (hr:Region.ready .any l.toArray L=[]) (h:Q .normal r w):Hw P n l Q S k L r w:=
 fun _ h1 h2 h3=>wpAnyH_done hr ⟨h1,h2,by rw [h3]; exact h⟩ k
theorem Hw.start {r:NV} {w:World} (h:Hw P n l Q S l.length (Array.replicate l.length false) r { w with drawn:=w.drawn+1 }):na P n l Q r w:=
 fun a h1 h2 h3=>wpAny_of_held _ _ _ _ (h a h1 h2 h3)
def BW (P:Program) (S:World→Prop):List Oper→(Nat→Value)→((Nat→Value)→Prop)→Prop
 | [],r,K=>K r
 | o :: l,r,K=>o.guard=none∧∃ v,(∀ w,S w→(execOp (ev r) o).run P w = .ok (.value v) w)∧BW P S l (fv r o.dst v) K
def Cs (l:LO):List Nat→Array Bool→Bool
 | [],L=>(Region.ready .any l.toArray L).isEmpty
 | i :: ss,L=>Nat.blt i l.length && (Region.ready .any l.toArray L == [i]) && Cs l ss (L.setIfInBounds i true)
def Mj (l:LO) (ss:LN):List Nat→Array Bool→Bool
 | [],L=>Cs l ss L
 | i :: qs,L=>Nat.blt i l.length && (Region.ready .any l.toArray L).contains i && Region.free .any l.toArray L i && Mj l ss qs (L.setIfInBounds i true)
def pick (l:LO) (is:LN):List Oper:=is.map fun i=>l.getD i default
theorem Al {i:Nat} (h:Nat.blt i l.length=true):l[i]? = some (l.getD i default):=by
 have h1:i < l.length:=Nat.lt_of_succ_le (Nat.le_of_ble_eq_true h)
 rw [List.getD_eq_getElem?_getD,List.getElem?_eq_getElem h1]; rfl
theorem Hw.quiet (hd:dj n l=true) (hs:Region.noSelect l.toArray=true) (hp:∀ c r w,¬ Q (.panic c) r w) {ss:LN} {w:World} (hS:S w) {K:(Nat→Value)→Prop} (h:∀ L r,Cs l ss L=true→K r→Hw P n l Q S ss.length L r w) :
  ∀ (qs:LN) (L:Array Bool) (r:NV),Mj l ss qs L=true→BW P S (pick l qs) r K→Hw P n l Q S (qs.length+ss.length) L r w:=by
 intro qs
 induction qs with
 | nil=>intro L r hc hv; rw [List.length_nil,Nat.zero_add]; exact h L r hc hv
 | cons i qs ih=>
  intro L r hc hv
  unfold Mj at hc
  simp only [Bool.and_eq_true] at hc
  obtain ⟨⟨⟨c1,c2⟩,c3⟩,c4⟩:=hc
  obtain ⟨hg,v,h1,h2⟩:=hv
  have:=Hw.take hd (Al c1) hs c3 c2 hp hg h1 hS (ih _ _ c4 h2)
  rwa [show qs.length+ss.length+1=(i :: qs).length+ss.length by simp; omega] at this
end
inductive JQ
 | q (ops:LO) (fr:Fr)
 | la (a:Addr) (lk:Option Nat) (t:TI) (x:OO) (d:Nat) (ty:TI) (pos:String) (af:Array Edge) (ops:LO) (fr:Fr)
inductive QA (P:Program) (Γ:QE):JQ→Fr→Prop
 | nil {fr:Fr}:QA P Γ (.q [] fr) fr
 | ld {d:Nat} {t ty:TI} {x:OO} {lk:Option Nat} {a:Addr} {pos:String} {af:Array Edge} {ops:LO} {fr l9:Fr} [ht:LK P t lk] (hx:bx fr x=some (.pointer (some a))) (h:QA P Γ (.la a lk t x d ty pos af ops fr) l9):QA P Γ (.q (⟨some d,.load t x,ty,pos,af,none⟩ :: ops) fr) l9
 | val {d:Nat} {op:Op} {ty:TI} {u:Value} {pos:String} {af:Array Edge} {ops:LO} {fr l9:Fr} (hv:VQ P Γ fr op u) (h:QA P Γ (.q ops ((d,u) :: fr)) l9):QA P Γ (.q (⟨some d,op,ty,pos,af,none⟩ :: ops) fr) l9
 | lc {d:Nat} {t ty:TI} {x:OO} {a:Addr} {u:Value} {pos:String} {af:Array Edge} {ops:LO} {fr l9:Fr} (h:wk Γ a u) (k:QA P Γ (.q ops ((d,u) :: fr)) l9):QA P Γ (.la a none t x d ty pos af ops fr) l9
 | ls {d n:Nat} {t ty:TI} {x:OO} {a:Addr} {ds:LV} {pos:String} {af:Array Edge} {ops:LO} {fr l9:Fr} (h:wu Γ a n ds) (k:QA P Γ (.q ops ((d,.agg ds.toArray) :: fr)) l9):QA P Γ (.la a (some n) t x d ty pos af ops fr) l9
inductive RO (fr:Fr):List Oper→List aX→List (Nat×List Value×TypeId)→List aX→Prop
 | nil {Γ:QE}:RO fr [] Γ [] Γ
 | cons {t ty e:TI} {x y:OO} {b:Nat} {cs:LV} {pos:String} {af:Array Edge} {ops:LO} {Γ Γ1 Γ2:QE} {rs:List (Nat×List Value×TypeId)} (hx:bx fr x=some (.pointer (some ⟨b,0,none⟩))) (h:dp Γ (.row b cs e) Γ1) (k:RO fr ops Γ1 rs Γ2):RO fr (⟨none,.store t x y,ty,pos,af,none⟩ :: ops) Γ ((b,cs,e) :: rs) Γ2
inductive SQ (P:Program) (Γ:QE) (fr:Fr):List Oper→List (Nat×List Value×TypeId)→List (Nat×List Value×TypeId)→Prop
 | nil:SQ P Γ fr [] [] []
 | cons {n:Nat} {t ty e:TI} {x y:OO} {b:Nat} {u:Value} {us cs ds:LV} {pos:String} {af:Array Edge} {ops:LO} {rs tY:List (Nat×List Value×TypeId)} [ht:vy P t n] (hx:bx fr x=some (.pointer (some ⟨b,0,none⟩))) (hy:bx fr y=some u) (hc:tR Γ u us) (hn:us.length=n) (hs:uO us 0 cs ds) (ho:wq Γ us) (k:SQ P Γ fr ops rs tY) :
   SQ P Γ fr (⟨none,.store t x y,ty,pos,af,none⟩ :: ops) ((b,cs,e) :: rs) ((b,ds,e) :: tY)
def EI:List (Nat×List Value×TypeId)→List aX
 | []=>[]
 | (b,cs,e) :: l=>.row b cs e :: EI l
def Rows (w:World) (rs:List (Nat×List Value×TypeId)):Prop:=∀ p∈rs,Row w p.1 p.2.1 p.2.2
section
variable {P:Program} {Γ Γ2:QE} {S:World→Prop} {Z:Nat→Prop}
def acv (P:Program) (S:World→Prop):JQ→Fr→Prop
 | .q ops fr,l9=>∀ r,db r fr→BW P S ops r fun r'=>db r' l9
 | .la a lk t x d ty pos af ops fr,l9=>(match lk with | none=>NA P t | some n=>AG P t n)→bx fr x=some (.pointer (some a))→∀ r,db r fr→BW P S (⟨some d,.load t x,ty,pos,af,none⟩ :: ops) r fun r'=>db r' l9
theorem QA.sound {J:JQ} {l9:Fr} (hS:∀ w,S w→∃ cur F,SA Z w Γ cur F) (h:QA P Γ J l9):acv P S J l9:=by
 induction h with
 | nil=>exact fun r h=>h
 | @ld d t ty x lk a pos af ops fr l9 ht hx _ ih=>exact fun r ha=>ih ht.h hx r ha
 | @val d op ty u pos af ops fr l9 hv _ ih=>
  intro r ha
  refine ⟨rfl,u,fun w hw=>?_,ih _ (ba ha)⟩
  obtain ⟨cur,F,h⟩:=hS w hw
  exact hv.sound h ha (some d) ty pos af none w (aq.refl _ _)
 | @lc d t ty x a u pos af ops fr l9 h _ ih=>
  intro ht hx r ha
  refine ⟨rfl,u,fun w hw=>?_,ih _ (ba ha)⟩
  obtain ⟨cur,F,hs⟩:=hS w hw
  exact Ld ht (h.sound hs) (aY ha hx) w (aq.refl _ _)
 | @ls d n t ty x a ds pos af ops fr l9 h _ ih=>
  intro ht hx r ha
  refine ⟨rfl,_,fun w hw=>?_,ih _ (ba ha)⟩
  obtain ⟨cur,F,hs⟩:=hS w hw
  obtain ⟨h1,h2⟩:=h.sound hs
  exact Lg ht h1 (aY ha hx) h2 w (aq.refl _ _)
theorem RO.sound {fr:Fr} {ops:LO} {rs:List (Nat×List Value×TypeId)} {w:World} (h:RO fr ops Γ rs Γ2):∀ {F:LN},SA Z w Γ [] F→∃ F2,(rs.map (·.1)++F2).Perm F∧Rows w rs∧SA Z w Γ2 [] F2:=by
 induction h with
 | nil=>intro F h; exact ⟨F,.refl _,fun _ h=>absurd h List.not_mem_nil,h⟩
 | @cons t ty e x y b cs pos af ops Γ Γ1 Γ2 rs hx h _ ih=>
  intro F hS
  obtain ⟨f,F1,hp,⟨rfl,bm⟩,er⟩:=h.sound hS
  obtain ⟨F2,oq,hr,fj⟩:=ih er
  refine ⟨F2,?_,fun p hp=>?_,fj⟩
  ·exact .trans (List.Perm.cons b oq) hp
  ·rcases List.mem_cons.1 hp with rfl | hp
   ·exact bm
   ·exact hr p hp
theorem SQ.sound {n:Nat} {l:LO} {Q:Exit→(Nat→Value)→World→Prop} {fr:Fr} {ops:LO} {rs tY:List (Nat×List Value×TypeId)} {F2:LN} {w0:World} {r:NV} {F:LN} (hd:dj n l=true) (ha:db r fr) (xe:∀ w,aq F w0 w→SA Z w Γ2 [] F2) (h:SQ P Γ2 fr ops rs tY) :
  ∀ (ss:LN) (L:Array Bool) (w:World),ops=pick l ss→Cs l ss L=true→aq F w0 w→Rows w rs→(rs.map (·.1)).Nodup→(∀ b∈rs.map (·.1),b∈F)→(∀ w',aq (rs.map (·.1)) w w'→Rows w' tY→Q .normal r w')→Hw P n l Q (aq F w0) ss.length L r w:=by
 induction h with
 | nil=>
  intro ss L w ho hc hC hR hn hF hk
  cases ss with
  | cons i ss=>cases ho
  | nil=>
   exact Hw.done (by simpa [Cs] using hc) (hk w (aq.refl _ _) hR)
 | @cons n' t ty e x y b u us cs ds pos af ops rs tY ht hx hy DC hn hsg hon _ ih=>
  intro ss L w ho hc hC hR de hF hk
  cases ss with
  | nil=>cases ho
  | cons i ss=>
   unfold Cs at hc
   simp only [Bool.and_eq_true] at hc
   obtain ⟨⟨c1,c2⟩,c3⟩:=hc
   have cq:l.getD i default = ⟨none,.store t x y,ty,pos,af,none⟩∧ops=pick l ss:=by
    unfold pick at ho
    rw [List.map_cons,List.cons.injEq] at ho
    exact ⟨ho.1.symm,ho.2⟩
   have hi:=Al c1
   rw [cq.1] at hi
   obtain ⟨ti,q1,q2⟩:=ht.h
   have bm:Row w b cs e:=hR (b,cs,e) (by simp)
   obtain ⟨e1,e2⟩:=hsg.eq
   have hSw:=xe w hC
   have lq:=wS (P:=P) (d:=none) (ty:=ty) (pos:=pos) (af:=af) (gg:=none) q1 (by rw [hn,q2]) bm e1 (aY ha hx) (y:=y) (by rw [aY ha hy]; exact DC.eq hSw) (hon.one hSw)
   have tw:=setRow_heap w b cs.toArray (cs.take 0++us++cs.drop (0+us.length)).toArray e _ bm
   have Cu:aq [b] w (w.setRow b (cs.take 0++us++cs.drop (0+us.length)).toArray):=⟨rfl,rfl,rfl,Nat.le_refl _,by simp,fun j _ hj=>setRow_other w b j _ fun h=>hj (by simp [h])⟩
   have ux:=hC.trans (Cu.mono fun b' dc=>by rw [List.mem_singleton.1 dc]; exact hF b (by simp))
   rw [List.map_cons,List.nodup_cons] at de
   refine Hw.step hd hi (by simpa using c2) rfl lq ux (ih ss _ _ cq.2 c3 ux (fun p hp=>(hR p (List.mem_cons_of_mem _ hp)).ep Cu fun hb=>de.1 ?_) de.2 (fun b' dc=>hF b' (by simp at dc ⊢; exact .inr dc)) fun w' Ig IG=>?_)
   ·rw [← List.mem_singleton.1 hb]; exact List.mem_map_of_mem (f:=fun q=>q.1) hp
   ·refine hk w' ((Cu.mono (by simp)).trans (Ig.mono fun b' dc=>List.mem_cons_of_mem _ dc)) fun p hp=>?_
    rcases List.mem_cons.1 hp with rfl | hp
    ·refine Row.ep (F:=rs.map (·.1)) ?_ Ig de.1
     rw [e2]
     exact tw
    ·exact IG p hp
theorem SQ.fst {fr:Fr} {ops:LO} {rs tY:List (Nat×List Value×TypeId)} (h:SQ P Γ fr ops rs tY):tY.map (·.1)=rs.map (·.1):=by
 induction h with
 | nil=>rfl
 | cons _ _ _ _ _ _ _ ih=>simp only [List.map_cons,ih]
theorem DX {w:World}:∀ {rs:List (Nat×List Value×TypeId)},Rows w rs→HL Z w (EI rs) (rs.map (·.1))
 | [],_=>.nil
 | (b,cs,e) :: l,h=>.own (f:=[b]) (e:=.row b cs e) ⟨rfl,h (b,cs,e) (by simp)⟩ (DX fun p hp=>h p (List.mem_cons_of_mem _ hp))
end
section
variable {R S:Type} {P:Program} {cx:Cx R} {K:dq R S} {l:LO}
theorem anyS {id:Nat} (qs ss:LN) {yB nb:LO} {Γ Γ1:QE} {fr l9:Fr} {rs tY:List (Nat×List Value×TypeId)} {m:Option (Out S R)}
  (hB:(P.follows .mixedOrders && dj cx.n l && Region.noSelect l.toArray && Mj l ss qs (Array.replicate l.length false) && Nat.beq l.length (qs.length+ss.length))=true)
  (hq:yB=pick l qs) (hs:nb=pick l ss) (h1:RO fr nb Γ rs Γ1) (h2:QA P Γ1 (.q yB fr) l9) (h3:SQ P Γ1 l9 nb rs tY)
  (h:D P cx (.p [] (EI tY) l9 Γ1 fun fr Γ=>.n K Γ fr m)):Bx (mb P cx (.dr id l K Γ fr m)):=by
 simp only [Bool.and_eq_true] at hB
 obtain ⟨⟨⟨⟨b1,b2⟩,b3⟩,b4⟩,b5⟩:=hB
 rw [ma]
 intro B o ho r w ha ot
 obtain ⟨Z,F,hS,hG⟩:=ot
 obtain ⟨F2,hp,hR,fj⟩:=h1.sound hS
 have jq:=hG.perm hp
 have de:=List.nodup_append.1 jq.nd
 refine na.W b1 (Hw.start (S:=aq (rs.map (·.1)) { w with drawn:=w.drawn+1 }) ?_)
 have Cv:aq [] w { w with drawn:=w.drawn+1 }:=aq.drew _ _
 have xe:∀ w',aq (rs.map (·.1)) { w with drawn:=w.drawn+1 } w'→SA Z w' Γ1 [] F2:=fun w' hC=>(fj.ij Cv).ep hC (fun b hb=>jq.apart b (List.mem_append_left _ hb)) (fun b _=>List.not_mem_nil) (fun b hb hm=>de.2.2 b hb b hm rfl)
 rw [show l.length=qs.length+ss.length from Nat.eq_of_beq_eq_true b5] at b4 ⊢
 subst hq hs
 refine Hw.quiet (K:=fun r'=>db r' l9) b2 b3 (fun c r w h=>tk c h) (aq.refl _ _) (fun L r' hc fl=>?_) qs _ r b4 (QA.sound (fun w' hC=>⟨[],F2,xe w' hC⟩) h2 r ha)
 refine SQ.sound b2 fl xe h3 ss L _ rfl hc (aq.refl _ _) (fun p hp=>(hR p hp).ij Cv) de.1 (fun b hb=>hb) fun w' hC IG=>?_
 obtain ⟨F3,e1,e2⟩:=HL.build (DX IG) (xe w' hC)
 have ux:aq (rs.map (·.1)) w w':=(Cv.mono fun b hb=>absurd hb List.not_mem_nil).trans hC
 rw [h3.fst] at e1
 have tu:∀ b∈rs.map (·.1),b∈B.G∨B.w.heap.size≤b:=fun b hb=>jq.low b (List.mem_append_left _ hb)
 have jo:Gd B Z (rs.map (·.1)++F2) w':=⟨jq.nd,jq.apart,fun b hb=>Nat.lt_of_lt_of_le (jq.nv b hb) ux.size,jq.low,jq.uY,jq.uA,jq.jh.then ux tu⟩
 exact h.sound B o ho r' w' (by simpa using fl) ⟨Z,F3,e2,jo.perm e1⟩
end
theorem Hw.all {P:Program} {n k:Nat} {l:LO} {Q:Exit→(Nat→Value)→World→Prop} {S:World→Prop} {L:Array Bool} {rs:LN} {r:NV} {w:World} (hd:dj n l=true) (hr:Region.ready .any l.toArray L=rs) (nk:rs≠[])
  (h:∀ i∈rs,∃ o,l[i]? = some o∧o.guard=none∧∃ v w',((execOp (ev r) o).run P w = .ok (.value v) w'∨(execOp (ev r) o).run P w = .ok .skip w'∧v=undef)∧S w'∧Hw P n l Q S k (L.setIfInBounds i true) (fv r o.dst v) w'):Hw P n l Q S (k+1) L r w:=by
 intro a h1 h2 h3
 refine wpAnyH_all hr nk fun j hj=>?_
 obtain ⟨o,hi,hg,v,w',hy,hS,hk⟩:=h j hj
 unfold wpOp
 rw [show (l.toArray)[j]? = some o by simpa using hi]
 simp only []
 rw [if_pos (td hg)]
 refine .inl ?_
 unfold Oper.wp
 rw [sx,h3]
 rcases hy with hy | ⟨hy,rfl⟩
 ·rw [hy]
  exact ⟨hS,hk _ (by rw [kh]; exact h1) (by rw [ib]; exact h2) (by rw [l3 (Cr hd hi h1),h3])⟩
 ·rw [hy]
  exact ⟨hS,hk _ (by rw [kh]; exact h1) (by rw [ib]; exact h2) (by rw [l3 (Cr hd hi h1),h3])⟩
def on (L:Array Bool) (i:Nat):Array Bool:=L.setIfInBounds i true
def nm (l:LO) (L:Array Bool) (rs:LN):Bool:=Region.ready .any l.toArray L == rs
def Mk (l:LO) (a1 a2 s1 s2:Nat) (L:Array Bool):Bool:=
 (Nat.blt a1 l.length && Nat.blt a2 l.length && Nat.blt s1 l.length && Nat.blt s2 l.length) && (nm l L [a1,a2] && nm l (on L a2) [a1]) && (nm l (on (on L a1) a2) [s1] && nm l (on (on L a2) a1) [s1]) &&
  (nm l (on (on (on L a1) a2) s1) [s2] && nm l (on (on (on L a2) a1) s1) [s2]) && (nm l (on (on (on (on L a1) a2) s1) s2) [] && nm l (on (on (on (on L a2) a1) s1) s2) []) &&
  (nm l (on L a1) [a2] || (nm l (on L a1) [a2,s1] && (nm l (on (on L a1) s1) [a2] && (nm l (on (on (on L a1) s1) a2) [s2] && nm l (on (on (on (on L a1) s1) a2) s2) []))))
def Ml (l:LO) (a1 a2 s1 s2:Nat):List Nat→Array Bool→Bool
 | [],L=>Mk l a1 a2 s1 s2 L
 | i :: qs,L=>Nat.blt i l.length && (Region.ready .any l.toArray L).contains i && Region.free .any l.toArray L i && Ml l a1 a2 s1 s2 qs (L.setIfInBounds i true)
theorem Hw.WS {P:Program} {n a1 a2 s1 s2 m:Nat} {l:LO} {Q:Exit→(Nat→Value)→World→Prop} {S:World→Prop} (hd:dj n l=true) (hs:Region.noSelect l.toArray=true) (hp:∀ c r w,¬ Q (.panic c) r w) {w:World} (hS:S w) {K:(Nat→Value)→Prop} (h:∀ L r,Mk l a1 a2 s1 s2 L=true→K r→Hw P n l Q S m L r w) :
  ∀ (qs:LN) (L:Array Bool) (r:NV),Ml l a1 a2 s1 s2 qs L=true→BW P S (pick l qs) r K→Hw P n l Q S (qs.length+m) L r w:=by
 intro qs
 induction qs with
 | nil=>intro L r hc hv; rw [List.length_nil,Nat.zero_add]; exact h L r hc hv
 | cons i qs ih=>
  intro L r hc hv
  unfold Ml at hc
  simp only [Bool.and_eq_true] at hc
  obtain ⟨⟨⟨c1,c2⟩,c3⟩,c4⟩:=hc
  obtain ⟨hg,v,h1,h2⟩:=hv
  have:=Hw.take hd (Al c1) hs c3 c2 hp hg h1 hS (ih _ _ c4 h2)
  rwa [show qs.length+m+1=(i :: qs).length+m by simp; omega] at this
inductive Bf (P:Program) (Γ:QE) (fr:Fr) (d:Nat):Oper→Oper→TypeId→List Value→Prop
 | mk {t ty WT:TI} {y:OO} {u:Value} {n:Nat} {us cs ds:LV} {pos Qs:String} {af Qt:Array Edge} [hz:zm P t cs] [ht:vy P t n] (hn:look fr d=none) (hy:bx fr y=some u) (hc:tR Γ u us) (hl:us.length=n) (hs:uO us 0 cs ds) (ho:wq Γ us) :
   Bf P Γ fr d ⟨some d,.alloc t,ty,pos,af,none⟩ ⟨none,.store t (.tmp d) y,WT,Qs,Qt,none⟩ t ds
section
variable {P:Program} {Γ:QE} {Z:Nat→Prop} {fr:Fr} {w:World} {cur F:LN}
theorem Bf.alloc {d:Nat} {oa os:Oper} {t:TI} {ds:LV} (h:Bf P Γ fr d oa os t ds) (r:NV) (w:World):oa.guard=none∧oa.dst=some d∧look fr d=none∧∃ cs w',(execOp (ev r) oa).run P w = .ok (.value (.pointer (some ⟨w.heap.size,0,none⟩))) w'∧aq [] w w'∧Row w' w.heap.size cs t∧
  ∀ (r':NV) (w1:World) (b:Nat) cur F,SA Z w1 Γ cur F→db r' fr→r' d = .pointer (some ⟨b,0,none⟩)→Row w1 b cs t→∃ w2,(execOp (ev r') os).run P w1 = .ok .skip w2∧aq [b] w1 w2∧Row w2 b ds t:=by
 cases h with
 | @mk t ty WT y u n us cs ds pos Qs af Qt hz ht hn hy hc hl hs ho=>
  obtain ⟨i',z,t1,t2,t3⟩:=hz.h
  refine ⟨rfl,rfl,hn,z.cells.toList,_,DY t1 t2,aq.alloc _ _ _,?_,?_⟩
  ·have:=heap_alloc_new w (.cells z.cells t (0,0))
   unfold Row
   simpa using this
  ·intro r' w1 b cur F hS ha hr bm
   rw [t3] at bm
   obtain ⟨ti,q1,q2⟩:=ht.h
   obtain ⟨e1,e2⟩:=hs.eq
   have lq:=wS (P:=P) (d:=none) (ty:=WT) (pos:=Qs) (af:=Qt) (gg:=none) q1 (by rw [hl,q2]) bm e1 (x:=.tmp d) hr (y:=y) (by rw [aY ha hy]; exact hc.eq hS) (ho.one hS)
   refine ⟨_,lq,⟨rfl,rfl,rfl,Nat.le_refl _,by simp,fun j _ hj=>setRow_other w1 b j _ fun h=>hj (by simp [h])⟩,?_⟩
   have tw:=setRow_heap w1 b cs.toArray (cs.take 0++us++cs.drop (0+us.length)).toArray t _ bm
   rw [e2]
   exact tw
theorem Bf.st {d:Nat} {oa os:Oper} {t:TI} {ds:LV} (h:Bf P Γ fr d oa os t ds):os.guard=none∧os.dst=none:=by
 cases h; exact ⟨rfl,rfl⟩
theorem IH {r:NV} {d:Nat} {v:Value}:xI r d v d=v:=by unfold xI; rw [Nat.beq_refl]; rfl
theorem S4 {r:NV} {d t:Nat} {v:Value} (h:t≠d):xI r d v t=r t:=by
 unfold xI
 cases hb:Nat.beq t d with
 | true=>exact absurd (Nat.eq_of_beq_eq_true hb) h
 | false=>rfl
theorem Am {r:NV} {d:Nat} {v:Value} (hn:look fr d=none) (ha:db r fr):db (xI r d v) fr:=by
 intro t u hl
 have nk:t≠d:=fun h=>by rw [h,hn] at hl; cases hl
 rw [S4 nk]
 exact ha t u hl
theorem xf {l:LO} {L:Array Bool} {rs:LN} (h:nm l L rs=true):Region.ready .any l.toArray L=rs:=by
 unfold nm at h
 simpa using h
variable {n:Nat} {l:LO} {Q:Exit→(Nat→Value)→World→Prop} {w0:World} {F2:LN} {a1 a2 s1 s2 d1 d2:Nat} {II GF GG GH:Oper} {t1 t2:TI} {GI GJ:LV} {L:Array Bool} {r:NV}
theorem tree (hd:dj n l=true) (xe:∀ w,aq [] w0 w→SA Z w Γ [] F2) (B1:Bf P Γ fr d1 II GG t1 GI) (B2:Bf P Γ fr d2 GF GH t2 GJ) (nk:d1≠d2) (i1:l[a1]? = some II) (i2:l[a2]? = some GF) (j1:l[s1]? = some GG) (j2:l[s2]? = some GH)
  (fin:∀ b1 b2 r w,w0.heap.size≤b1→w0.heap.size≤b2→b1≠b2→aq [] w0 w→db r fr→r d1 = .pointer (some ⟨b1,0,none⟩)→r d2 = .pointer (some ⟨b2,0,none⟩)→Row w b1 GI t1→Row w b2 GJ t2→Q .normal r w)
  (hc:Mk l a1 a2 s1 s2 L=true) (hS:aq [] w0 w) (ha:db r fr):Hw P n l Q (aq [] w0) 4 L r w:=by
 unfold Mk at hc
 simp only [Bool.and_eq_true,Bool.or_eq_true] at hc
 obtain ⟨⟨⟨⟨⟨_,c1,c3⟩,c4,c5⟩,c7,c8⟩,c10,c11⟩,cc⟩:=hc
 obtain ⟨rs,c2,hn,hr⟩ : ∃ rs,nm l (on L a1) rs=true∧rs≠[]∧∀ i∈rs,i=a2∨i=s1∧nm l (on (on L a1) s1) [a2]=true∧nm l (on (on (on L a1) s1) a2) [s2]=true∧nm l (on (on (on (on L a1) s1) a2) s2) []=true:=by
  rcases cc with c | ⟨c,c6,c9,WU⟩
  ·exact ⟨_,c,by simp,fun i hi=>.inl (List.mem_singleton.1 hi)⟩
  ·exact ⟨_,c,by simp,fun i hi=>(List.mem_cons.1 hi).imp id fun hi=>⟨List.mem_singleton.1 hi,c6,c9,WU⟩⟩
 have g1:=(B1.st).1
 have g2:=(B2.st).1
 have e1:=(B1.st).2
 have e2:=(B2.st).2
 have last:∀ {L:Array Bool} {b1 b2:Nat} {zt:LV} {r:NV} {w:World},nm l L [s2]=true→nm l (on L s2) []=true→w0.heap.size≤b1→w0.heap.size≤b2→b1≠b2→aq [] w0 w→db r fr→r d1 = .pointer (some ⟨b1,0,none⟩)→r d2 = .pointer (some ⟨b2,0,none⟩)→Row w b1 GI t1→Row w b2 zt t2→
   (∀ (r':NV) (w1:World) (b:Nat) cur F,SA Z w1 Γ cur F→db r' fr→r' d2 = .pointer (some ⟨b,0,none⟩)→Row w1 b zt t2→∃ w2,(execOp (ev r') GH).run P w1 = .ok .skip w2∧aq [b] w1 w2∧Row w2 b GJ t2)→Hw P n l Q (aq [] w0) 1 L r w:=by
  intro L b1 b2 zt r w k1 k2 h1 h2 h3 hS ha p1 p2 r1 r2 st
  obtain ⟨w2,lq,hC,hr⟩:=st r w b2 [] F2 (xe w hS) ha p2 r2
  have fj:aq [] w0 w2:=hS.then hC fun i hi=>.inr (by rw [List.mem_singleton.1 hi]; exact h2)
  refine Hw.all hd (xf k1) (by simp) fun i hi=>?_
  rw [List.mem_singleton.1 hi]
  refine ⟨GH,j2,g2,undef,w2,.inr ⟨lq,rfl⟩,fj,?_⟩
  rw [e2]
  exact Hw.done (xf k2) (fin b1 b2 r w2 h1 h2 h3 fj ha p1 p2 (r1.ep hC (by simpa using h3)) hr)
 have two:∀ {L:Array Bool} {b1 b2:Nat} {Oa zt:LV} {r:NV} {w:World},nm l L [s1]=true→nm l (on L s1) [s2]=true→nm l (on (on L s1) s2) []=true→w0.heap.size≤b1→w0.heap.size≤b2→b1≠b2→aq [] w0 w→db r fr→r d1 = .pointer (some ⟨b1,0,none⟩)→r d2 = .pointer (some ⟨b2,0,none⟩)→Row w b1 Oa t1→Row w b2 zt t2→
   (∀ (r':NV) (w1:World) (b:Nat) cur F,SA Z w1 Γ cur F→db r' fr→r' d1 = .pointer (some ⟨b,0,none⟩)→Row w1 b Oa t1→∃ w2,(execOp (ev r') GG).run P w1 = .ok .skip w2∧aq [b] w1 w2∧Row w2 b GI t1)→
   (∀ (r':NV) (w1:World) (b:Nat) cur F,SA Z w1 Γ cur F→db r' fr→r' d2 = .pointer (some ⟨b,0,none⟩)→Row w1 b zt t2→∃ w2,(execOp (ev r') GH).run P w1 = .ok .skip w2∧aq [b] w1 w2∧Row w2 b GJ t2)→Hw P n l Q (aq [] w0) 2 L r w:=by
  intro L b1 b2 Oa zt r w k1 k2 k3 h1 h2 h3 hS ha p1 p2 r1 r2 Gt IJ
  obtain ⟨w2,lq,hC,hr⟩:=Gt r w b1 [] F2 (xe w hS) ha p1 r1
  have fj:aq [] w0 w2:=hS.then hC fun i hi=>.inr (by rw [List.mem_singleton.1 hi]; exact h1)
  refine Hw.all hd (xf k1) (by simp) fun i hi=>?_
  rw [List.mem_singleton.1 hi]
  refine ⟨GG,j1,g1,undef,w2,.inr ⟨lq,rfl⟩,fj,?_⟩
  rw [e1]
  exact last k2 k3 h1 h2 h3 fj ha p1 p2 hr (r2.ep hC (by simpa using Ne.symm h3)) IJ
 refine Hw.all hd (xf c1) (by simp) fun i hi=>?_
 rcases List.mem_cons.1 hi with rfl | hi
 ·-- the first is made first
  obtain ⟨gd,dd,dn,Oa,w1,lq,hC,bm,Gt⟩:=B1.alloc r w
  have er:aq [] w0 w1:=hS.trans hC
  have Cw:w0.heap.size≤w.heap.size:=hS.size
  have lt1:=bm.lt
  have Ob:=Am (v:=.pointer (some ⟨w.heap.size,0,none⟩)) dn ha
  refine ⟨II,i1,gd,_,w1,.inl lq,er,?_⟩
  rw [dd]
  refine Hw.all hd (xf c2) hn fun i hi=>?_
  rcases hr i hi with rfl | ⟨rfl,c6,c9,WU⟩
  ·obtain ⟨WV,WW,WX,zt,w2,A3,ux,Mm,IJ⟩:=B2.alloc (fv r (some d1) (.pointer (some ⟨w.heap.size,0,none⟩))) w1
   refine ⟨GF,i2,WV,_,w2,.inl A3,er.trans ux,?_⟩
   rw [WW]
   exact two (b1:=w.heap.size) (b2:=w1.heap.size) c4 c7 c10 Cw (by omega) (by omega) (er.trans ux) (Am WX Ob) (by show xI _ d2 _ d1=_; rw [S4 nk]; exact IH) (by exact IH) (bm.ij ux) Mm Gt IJ
  ·obtain ⟨w2,A3,ux,KX⟩:=Gt _ w1 w.heap.size [] F2 (xe w1 er) Ob IH bm
   have fj:aq [] w0 w2:=er.then ux fun i hi=>.inr (by rw [List.mem_singleton.1 hi]; exact Cw)
   refine ⟨GG,j1,g1,undef,w2,.inr ⟨A3,rfl⟩,fj,?_⟩
   rw [e1]
   refine Hw.all hd (xf c6) (by simp) fun i hi=>?_
   rw [List.mem_singleton.1 hi]
   obtain ⟨gd3,dd3,dn3,zt,w3,ZQ,GK,ZR,IJ⟩:=B2.alloc (fv (fv r (some d1) (.pointer (some ⟨w.heap.size,0,none⟩))) none undef) w2
   have sz:w1.heap.size≤w2.heap.size:=ux.size
   refine ⟨GF,i2,gd3,_,w3,.inl ZQ,fj.trans GK,?_⟩
   rw [dd3]
   exact last (b1:=w.heap.size) (b2:=w2.heap.size) c9 WU Cw (by omega) (by omega) (fj.trans GK) (Am dn3 Ob) (by show xI _ d2 _ d1=_; rw [S4 nk]; exact IH) IH (KX.ij GK) ZR IJ
 ·rw [List.mem_singleton.1 hi]
  obtain ⟨gd,dd,dn,zt,w1,lq,hC,bm,IJ⟩:=B2.alloc r w
  have er:aq [] w0 w1:=hS.trans hC
  have Cw:w0.heap.size≤w.heap.size:=hS.size
  have lt1:=bm.lt
  have Ob:=Am (v:=.pointer (some ⟨w.heap.size,0,none⟩)) dn ha
  refine ⟨GF,i2,gd,_,w1,.inl lq,er,?_⟩
  rw [dd]
  refine Hw.all hd (xf c3) (by simp) fun i hi=>?_
  rw [List.mem_singleton.1 hi]
  obtain ⟨WV,WW,WX,Oa,w2,A3,ux,Mm,Gt⟩:=B1.alloc (fv r (some d2) (.pointer (some ⟨w.heap.size,0,none⟩))) w1
  refine ⟨II,i1,WV,_,w2,.inl A3,er.trans ux,?_⟩
  rw [WW]
  exact two (b1:=w1.heap.size) (b2:=w.heap.size) c5 c8 c11 (by omega) Cw (by omega) (er.trans ux) (Am WX Ob) IH (by show xI _ d1 _ d2=_; rw [S4 (Ne.symm nk)]; exact IH) Mm (bm.ij ux) Gt IJ
end
section
variable {R S:Type} {P:Program} {cx:Cx R} {K:dq R S} {l:LO}
theorem acw {id:Nat} (qs:LN) (a1 a2 s1 s2 d1 d2:Nat) {yB:LO} {Γ:QE} {fr l9:Fr} {II GF GG GH:Oper} {t1 t2:TI} {GI GJ:LV} {m:Option (Out S R)}
  (hB:(P.follows .mixedOrders && dj cx.n l && Region.noSelect l.toArray && Ml l a1 a2 s1 s2 qs (Array.replicate l.length false) && Nat.beq l.length (qs.length+4) && !(Nat.beq d1 d2))=true)
  (hq:yB=pick l qs) (e1:l[a1]? = some II) (e2:l[a2]? = some GF) (e3:l[s1]? = some GG) (e4:l[s2]? = some GH) (h2:QA P Γ (.q yB fr) l9) (B1:Bf P Γ l9 d1 II GG t1 GI) (B2:Bf P Γ l9 d2 GF GH t2 GJ)
  (h:∀ b1 b2,D P cx (.p [(d1,.pointer (some ⟨b1,0,none⟩)),(d2,.pointer (some ⟨b2,0,none⟩))] [.row b1 GI t1,.row b2 GJ t2] l9 Γ fun fr Γ=>.n K Γ fr m)):Bx (mb P cx (.dr id l K Γ fr m)):=by
 simp only [Bool.and_eq_true] at hB
 obtain ⟨⟨⟨⟨⟨b1,b2⟩,b3⟩,b4⟩,b5⟩,b6⟩:=hB
 rw [ma]
 intro B o ho r w ha ot
 obtain ⟨Z,F,hS,hG⟩:=ot
 have nk:d1≠d2:=fun hd=>by rw [hd,Nat.beq_refl] at b6; cases b6
 refine na.W b1 (Hw.start (S:=aq [] { w with drawn:=w.drawn+1 }) ?_)
 have Cv:aq [] w { w with drawn:=w.drawn+1 }:=aq.drew _ _
 have xe:∀ w',aq [] { w with drawn:=w.drawn+1 } w'→SA Z w' Γ [] F:=fun w' hC=>(hS.ij Cv).ij hC
 rw [show l.length=qs.length+4 from Nat.eq_of_beq_eq_true b5] at b4 ⊢
 subst hq
 refine Hw.WS (K:=fun r'=>db r' l9) b2 b3 (fun c r w h=>tk c h) (aq.refl _ _) (fun L r' hc fl=>?_) qs _ r b4 (QA.sound (fun w' hC=>⟨[],F,xe w' hC⟩) h2 r ha)
 refine tree b2 xe B1 B2 nk e1 e2 e3 e4 (fun c1 c2 r2 w2 k1 k2 k3 hC ha2 p1 p2 r1 rr2=>?_) hc (aq.refl _ _) fl
 have ux:aq [] w w2:=Cv.trans hC
 replace k1:w.heap.size≤c1:=k1
 replace k2:w.heap.size≤c2:=k2
 have xK:HL Z w2 [.row c1 GI t1,.row c2 GJ t2] ([c1]++([c2]++[])):=.own (f:=[c1]) ⟨rfl,r1⟩ (.own (f:=[c2]) ⟨rfl,rr2⟩ .nil)
 obtain ⟨F3,q1,q2⟩:=HL.build xK (xe w2 hC)
 have bn:∀ b∈F,b < w.heap.size:=fun b hb=>hS.lt b hb
 have jo:Gd B Z (([c1]++([c2]++[]))++F) w2:=by
  refine ⟨?_,?_,fun b hb=>Nat.lt_of_lt_of_le (hG.nv b hb) ux.size,?_,hG.uY,hG.uA,hG.jh.then ux fun i hi=>nomatch hi⟩
  ·refine List.nodup_append.2 ⟨by simpa using k3,hG.nd,fun a Oc b hb mw=>?_⟩
   have:=bn b hb
   rcases List.mem_cons.1 Oc with rfl | Oc
   ·omega
   ·have:a=c2:=by simpa using Oc
    omega
  ·intro b hb hz
   rcases List.mem_append.1 hb with hb | hb
   ·have:=hG.nv b hz
    rcases List.mem_cons.1 hb with rfl | hb
    ·omega
    ·have:b=c2:=by simpa using hb
     omega
   ·exact hG.apart b hb hz
  ·intro b hb
   have hz:=hG.jh.size
   rcases List.mem_append.1 hb with hb | hb
   ·rcases List.mem_cons.1 hb with rfl | hb
    ·exact .inr (by omega)
    ·have:b=c2:=by simpa using hb
     exact .inr (by omega)
   ·exact hG.low b hb
 refine (h c1 c2).sound B o ho r2 w2 ?_ ⟨Z,F3,q2,jo.perm q1⟩
 exact qp (g:=[(d1,.pointer (some ⟨c1,0,none⟩)),(d2,.pointer (some ⟨c2,0,none⟩))]) (fun p hp=>by
  rcases List.mem_cons.1 hp with rfl | hp
  ·exact p1
  ·rw [List.mem_singleton.1 hp]; exact p2) ha2
end
end Go.Dk
namespace Go.Dk
open Go Go.Li
def WY (i:Nat) (o:Oper):Oper:=⟨o.dst,o.op,o.type,o.pos,o.after.push ⟨i,.data⟩,o.guard⟩
def vf (i:Nat):Nat→List Oper→List Oper
 | _,[]=>[]
 | 0,o :: l=>WY i o :: l
 | j+1,o :: l=>o :: vf i j l
theorem FW (i:Nat):∀ (j:Nat) (l:LO),(vf i j l).length=l.length
 | _,[]=>by cases ‹Nat› <;> rfl
 | 0,_ :: _=>rfl
 | j+1,o :: l=>by unfold vf; rw [List.length_cons,List.length_cons,FW i j l]
theorem C6 (i:Nat):∀ (j:Nat) (l:LO) (k:Nat),(vf i j l)[k]? = (l[k]?).map fun o=>if k=j then WY i o else o
 | 0,[],k=>by simp [vf]
 | j+1,[],k=>by simp [vf]
 | 0,o :: l,0=>by simp [vf]
 | 0,o :: l,k+1=>by simp [vf]
 | j+1,o :: l,0=>by simp [vf]
 | j+1,o :: l,k+1=>by
  unfold vf
  rw [List.getElem?_cons_succ,List.getElem?_cons_succ,C6 i j l k]
  simp
section
variable {P:Program} {l:LO} {Q:Exit→Act→World→Prop} {i j:Nat}
theorem Ka (tmps:Array Value):yielded (vf i j l).toArray tmps=yielded l.toArray tmps:=by
 funext k
 simp only [yielded]
 rw [List.getElem?_toArray,List.getElem?_toArray,C6]
 cases l[k]? with
 | none=>rfl
 | some o=>
  simp only [Option.map_some,Option.bind_some]
  by_cases h:k=j
  ·rw [if_pos h]; rfl
  ·rw [if_neg h]
theorem IK {k:Nat} {K:Act→World→Prop} {a:Act} {w:World}:wpOp P (vf i j l).toArray Q k K a w=wpOp P l.toArray Q k K a w:=by
 unfold wpOp
 rw [Ka,List.getElem?_toArray,List.getElem?_toArray,C6]
 cases l[k]? with
 | none=>rfl
 | some o=>
  simp only [Option.map_some]
  by_cases h:k=j
  ·rw [if_pos h]; rfl
  ·rw [if_neg h]
theorem GL {L:Array Bool} (hL:L.getD i false=true):Region.ready .any (vf i j l).toArray L=Region.ready .any l.toArray L:=by
 unfold Region.ready
 rw [List.size_toArray,List.size_toArray,FW]
 refine List.filter_congr fun k _=>?_
 rw [List.getElem?_toArray,List.getElem?_toArray,C6]
 cases l[k]? with
 | none=>rfl
 | some o=>
  simp only [Option.map_some]
  by_cases h:k=j
  ·rw [if_pos h]
   simp only [WY,Array.all_push,hL,Bool.or_true,Bool.and_true]
  ·rw [if_neg h]
theorem GM:∀ (fuel:Nat) (L:Array Bool) (a:Act) (w:World),L.getD i false=true→wpAny P .any (vf i j l).toArray Q fuel L a w→wpAny P .any l.toArray Q fuel L a w
 | 0,L,a,w,hL,h=>by
  unfold wpAny at h ⊢
  rw [GL hL] at h
  exact h
 | fuel+1,L,a,w,hL,h=>by
  unfold wpAny at h ⊢
  rw [GL hL] at h
  refine ⟨h.1,fun k hk=>?_⟩
  have h2:=h.2 k hk
  rw [IK] at h2
  exact wpOp_mono (fun a' w' h'=>GM fuel _ a' w' (getD_set_true hL) h') h2
end
def WZ:Oper→Bool
 | ⟨some _,.move _,_,_,_,none⟩=>true
 | _=>false
def Mn:List (Nat×Nat)→List Oper→Bool
 | [],_=>true
 | (i,j) :: zs,l=>!(Nat.beq i j) && Nat.blt i l.length && WZ (l.getD i default) && Region.noSelect l.toArray && Region.free .any l.toArray (Array.replicate l.length false) i && (Region.ready .any l.toArray (Array.replicate l.length false)).contains i && (Region.ready .any (vf i j l).toArray (Array.replicate l.length false)).contains i && Mn zs (vf i j l)
def Qu:List (Nat×Nat)→List Oper→List Oper
 | [],l=>l
 | (i,j) :: zs,l=>Qu zs (vf i j l)
section
variable {P:Program} {n:Nat} {Q:Exit→(Nat→Value)→World→Prop} {r:NV} {w w0:World}
theorem Ug {o:Oper} (h:WZ o=true) (a:Act):o.guard=none∧∃ v,(∀ w,(execOp a.eval o).run P w = .ok (.value v) w)∧∀ w,¬ o.asks P a w:=by
 obtain ⟨d,op,ty,pos,af,g⟩:=o
 cases d <;> cases op <;> cases g <;> first | (cases h; done) | skip
 refine ⟨rfl,_,fun w=>rfl,fun w ha=>?_⟩
 have h1:=ha.1
 exact absurd (show noRoomEvent∈(#[]:Array _) from h1) (by simp)
theorem na.acx {i j:Nat} {l:LO} (h1:(!(Nat.beq i j) && Nat.blt i l.length && WZ (l.getD i default) && Region.noSelect l.toArray && Region.free .any l.toArray (Array.replicate l.length false) i && (Region.ready .any l.toArray (Array.replicate l.length false)).contains i && (Region.ready .any (vf i j l).toArray (Array.replicate l.length false)).contains i)=true)
  (hp:∀ c r w,¬ Q (.panic c) r w) (h:na P n (vf i j l) Q r w):na P n l Q r w:=by
 simp only [Bool.and_eq_true] at h1
 obtain ⟨⟨⟨⟨⟨⟨c1,c2⟩,c3⟩,c4⟩,c5⟩,c6⟩,c7⟩:=h1
 have nk:i≠j:=fun e=>by rw [e,Nat.beq_refl] at c1; cases c1
 have hi:=Al c2
 have bn:i < l.length:=Nat.lt_of_succ_le (Nat.le_of_ble_eq_true c2)
 intro a g1 g2 g3
 have H:=h a g1 g2 g3
 obtain ⟨hg,v,hv,hn⟩:=Ug (P:=P) c3 a
 rw [List.size_toArray,FW] at H
 rw [List.size_toArray]
 obtain ⟨f,hf⟩ : ∃ f,l.length=f+1:=⟨l.length - 1,by omega⟩
 have hw:Region.wanted (l.getD i default) (yielded l.toArray a.tmps)=true:=td hg
 refine (congrArg (fun k=>wpAny P .any l.toArray _ k _ a _) hf).mpr ?_
 refine wpAny_take (by simpa using hi) c4 (by simpa using c5) (by simpa using c6) (fun c a w h=>(hp _ _ _ h.2.2).elim) (.inl ⟨hw,hv⟩) ?_
 refine GM (i:=i) (j:=j) f _ _ _ ?_ ?_
 ·have:i < (Array.replicate l.length false).size:=by simpa using bn
  simp [Array.getD,bn]
 ·have H2:=(congrArg (fun k=>wpAny P .any (vf i j l).toArray (fun e a' w'=>a'.tmps.size=n∧a'.defers=[]∧Q e (cy a') w') k (Array.replicate l.length false) a { w with drawn:=w.drawn+1 }) hf).mp H
  have H3:=H2.2 i (by simpa using c7)
  rw [IK] at H3
  unfold wpOp at H3
  rw [show (l.toArray)[i]? = some (l.getD i default) by simpa using hi] at H3
  simp only [] at H3
  rw [if_pos hw] at H3
  rcases H3 with H3 | H3
  ·unfold Oper.wp at H3
   rw [hv] at H3
   exact H3
  ·exact absurd H3.1 (hn _)
theorem na.S5:∀ (zs:List (Nat×Nat)) {l:LO},Mn zs l=true→(∀ c r w,¬ Q (.panic c) r w)→na P n (Qu zs l) Q r w→na P n l Q r w
 | [],_,_,_,h=>h
 | (i,j) :: zs,l,hc,hp,h=>by
  unfold Mn at hc
  rw [Bool.and_eq_true] at hc
  exact na.acx hc.1 hp (na.S5 zs hc.2 hp h)
theorem Od (k:Nat) {l:LO} (hd:dj n l=true) (hp:((l.take k).all fun o=>yt o.op)=true) (hB:Region.lexTailB .any l.toArray k=true)
  (h:QL P (aq [] w) l (l.take k) r fun r'=>∀ w',aq [] w w'→WL P l (l.drop k) r' w' (Q .normal)):na P n l Q r w:=by
 intro a h1 h2 h3
 have Cu:aq [] w { w with drawn:=w.drawn+1 }:=aq.drew _ _
 have ot:wpStill P l.toArray { w with drawn:=w.drawn+1 } (fun a'=>wpList P l.toArray (fun e a' w'=>a'.tmps.size=n∧a'.defers=[]∧Q e (cy a') w') (l.drop k) a' { w with drawn:=w.drawn+1 }) (l.take k) a:=by
  refine QL.still (n:=n) (C:=aq [] w) Cu hd (l.take k) a (Bi hd fun o ho=>List.mem_of_mem_take ho) hp h1 h2 (by rw [h3]; exact h) _ ?_
  intro a' g1 g2 g3
  exact WL.list hd _ _ _ (Bi hd fun o ho=>List.mem_of_mem_drop ho) g1 g2 (g3 _ Cu)
 unfold Region.lexTailB at hB
 simp only [Bool.and_eq_true,decide_eq_true_eq,List.size_toArray] at hB
 obtain ⟨⟨⟨⟨acy,hn⟩,hs⟩,hc⟩,Qn⟩:=hB
 have S6:(l.take k).length=k:=by rw [List.length_take]; omega
 have acz:HeadInv .any l.toArray k (Array.replicate l.length false):=
  ⟨by simp,fun j oj _ hl=>(by rw [getD_replicate_false] at hl; cases hl),fun t _ ht=>getD_in (by simpa using ht) (getD_replicate_false _ _)⟩
 have H:=wpAnyL_lex (md:=.any) (g:=l.length - k) acy hs hc (by simpa using hn) (l.take k) 0 _ a (fun j hj=>by
  rw [S6] at hj
  rw [List.getElem?_take_of_lt hj,Nat.zero_add,List.getElem?_toArray]) (by rw [S6,Nat.zero_add]) acz (by rw [S6]; exact Qn) ot
 have H2:=wpAny_of_head (Q':=fun e a' w'=>a'.tmps.size=n∧a'.defers=[]∧Q e (cy a') w') (g:=l.length - k) (fun L a' hL=>by
  have H3:=wpAny_of_seq (md:=.any) (Q':=fun e a' w'=>a'.tmps.size=n∧a'.defers=[]∧Q e (cy a') w') (l.drop k) k L a' { w with drawn:=w.drawn+1 } (fun j=>by rw [List.getElem?_drop,List.getElem?_toArray]) (by rw [List.length_drop]; exact hL.1) hL.2
  rwa [List.length_drop] at H3) _ _ _ H
 rw [S6,show k+(l.length - k)=l.length by omega] at H2
 rw [List.size_toArray]
 exact H2
end
section
variable {R S:Type} {P:Program} {cx:Cx R} {K:dq R S}
theorem S7 {id:Nat} (zs:List (Nat×Nat)) (k:Nat) {l l' ops tl:LO} {Γ:QE} {fr:Fr} {m:Option (Out S R)} (hl:l'=Qu zs l) (hB:(P.follows .mixedOrders && Mn zs l && dj cx.n l' && ((l'.take k).all fun o=>yt o.op) && Region.lexTailB .any l'.toArray k)=true) (ho:ops=l'.take k) (ht:tl=l'.drop k)
  (h:D P cx (.o true l' ops (.h l' tl K) Γ fr m)):Bx (mb P cx (.dr id l K Γ fr m)):=by
 simp only [Bool.and_eq_true] at hB
 obtain ⟨⟨⟨⟨h1,h2⟩,h3⟩,h4⟩,h5⟩:=hB
 subst ho ht hl
 rw [ma]
 intro B o ho r w ha hs
 exact na.W h1 (na.S5 zs h2 (fun c r w h=>tk c h) (Od k h3 h4 h5 (h.sound B o ho r w ha hs)))
end
end Go.Dk
namespace Go.Dk
open Go Go.Li
section
variable {B:Bs} {P:Program} {Z Z':Nat→Prop} {w:World} {Fd F1:LN}
theorem Mo {f:FuncId} {ow:Bool} {vs:LV} {Δ:QE} {β V:Type} {mo:Option β} {rt:β→V→List Value} {ps:β→V→List aX} {y:β} (hc:Sp P f ow vs Δ β V mo rt ps) (hl:HL Z' w Δ Fd) (bn:∀ b∈F1,b < w.heap.size) (ji:Gd B Z (Fd++F1) w)
  (hz:∀ b,Z b→Z' b) (HS:∀ b,Z' b→Z b∨b∈F1) (hm:∀ v,s6 (ps y v)=true) (hy:mo=some y) :
  Calls P f vs.toArray w fun e w'=>∃ v F2,e = .returned (pj (rt y v))∧aq Fd w w'∧HL Z w' (ps y v) F2∧Gd B Z (F2++F1) w':=by
 have de:=List.nodup_append.1 ji.nd
 refine (hc.2 w Z' Fd hl de.1 (fun b hb VB=>(HS b VB).elim (ji.apart b (List.mem_append_left _ hb)) (fun h=>de.2.2 b hb b h rfl)) (fun b hb=>(HS b hb).elim (ji.nv b) (bn b)) y hy).mono ?_
 rintro e w' ⟨v,he,Z2,F2,qg,jo⟩
 have hC:aq Fd w w':=jo.jh
 refine ⟨v,F2,he,hC,yq (hm v) qg,?_⟩
 refine ⟨List.nodup_append.2 ⟨jo.nd,de.2.1,?_⟩,?_,fun b hb=>Nat.lt_of_lt_of_le (ji.nv b hb) hC.size,?_,ji.uY,ji.uA,?_⟩
 ·rintro b hb c B8 rfl
  rcases jo.low b hb with h | h
  ·exact de.2.2 b h b B8 rfl
  ·exact absurd (bn b B8) (Nat.not_lt.2 h)
 ·intro b hb hz3
  rcases List.mem_append.1 hb with hb | hb
  ·exact jo.apart b hb (jo.uY b (hz b hz3))
  ·exact ji.apart b (List.mem_append_right _ hb) hz3
 ·intro b hb
  rcases List.mem_append.1 hb with hb | hb
  ·rcases jo.low b hb with h | h
   ·exact ji.low b (List.mem_append_left _ h)
   ·exact .inr (Nat.le_trans ji.jh.size h)
  ·exact ji.low b (List.mem_append_right _ hb)
 ·exact ji.jh.then hC fun i hi=>ji.low i (List.mem_append_left _ hi)
end
section
variable {P:Program} {S:World→Prop}
theorem BW.mono {K K':(Nat→Value)→Prop} (hk:∀ r,K r→K' r):∀ {ops:LO} {r:NV},BW P S ops r K→BW P S ops r K'
 | [],_,h=>hk _ h
 | _ :: _,_,⟨hg,v,h1,h2⟩=>⟨hg,v,h1,BW.mono hk h2⟩
end
inductive QX {R S:Type} (P:Program) (cx:Cx R) (K:dq R S) (nb:LO) (rs:List (Nat×List Value×TypeId)) (pe:QE):List aX→List aX→List Oper→Fr→Option (Out S R)→Prop
 | pe {e:aX} {Δ Γ:QE} {ops:LO} {fr:Fr} {m:Option (Out S R)} (h:QX P cx K nb rs pe Δ (e :: Γ) ops fr m):QX P cx K nb rs pe (e :: Δ) Γ ops fr m
 | nil {Γ:QE} {fr:Fr} {m:Option (Out S R)} {tY:List (Nat×List Value×TypeId)} (h:SQ P Γ fr nb rs tY) (k:D P cx (.p [] pe fr Γ fun fr Γ=>.p [] (EI tY) fr Γ fun fr Γ=>.n K Γ fr m)):QX P cx K nb rs pe [] Γ [] fr m
 | Ns {d n:Nat} {t ty:TI} {x:OO} {a:Addr} {ds:LV} {pos:String} {af:Array Edge} {ops:LO} {Γ:QE} {fr:Fr} {m:Option (Out S R)} [ht:LK P t (some n)] (hx:bx fr x=some (.pointer (some a))) (hw:wu Γ a n ds) (h:QX P cx K nb rs pe [] Γ ops ((d,.agg ds.toArray) :: fr) m) :
   QX P cx K nb rs pe [] Γ (⟨some d,.load t x,ty,pos,af,none⟩ :: ops) fr m
 | HK {α V:Type} {d n:Nat} {x y:OO} {v:Value} {k:IntKind} {j:Int} {t ty:TI} {S':ah α} {cl:α→V→List Value} {en:α→V→List aX} {xs:List α} {pos:String} {af:Array Edge} {ops:LO} {Γ Γx:QE} {fr:Fr} {f:α→Option (Out S R)} [ht:Ek P t n] (hx:bx fr x=some v) (hy:bx fr y=some (.int k j))
   (hr:qu Γ v false false (iu S') xs uF Γx) (hs:Gs S' V cl en) (hn:S'.size=n) (h:∀ z u,QX P cx K nb rs pe (.ay (di v n j) (cl z u) :: en z u) Γ ops ((d,.pointer (some (di v n j))) :: fr) (f z)) :
   QX P cx K nb rs pe [] Γ (⟨some d,.indexAddr t x y,ty,pos,af,none⟩ :: ops) fr (idx xs j>>=f)
 | lc {d:Nat} {t ty:TI} {x:OO} {a:Addr} {u:Value} {pos:String} {af:Array Edge} {ops:LO} {Γ:QE} {fr:Fr} {m:Option (Out S R)} [ht:LK P t none] (hx:bx fr x=some (.pointer (some a))) (hw:wk Γ a u) (h:QX P cx K nb rs pe [] Γ ops ((d,u) :: fr) m) :
   QX P cx K nb rs pe [] Γ (⟨some d,.load t x,ty,pos,af,none⟩ :: ops) fr m
 | val {d:Nat} {op:Op} {ty:TI} {u:Value} {pos:String} {af:Array Edge} {ops:LO} {Γ:QE} {fr:Fr} {m:Option (Out S R)} (hv:VQ P Γ fr op u) (h:QX P cx K nb rs pe [] Γ ops ((d,u) :: fr) m):QX P cx K nb rs pe [] Γ (⟨some d,op,ty,pos,af,none⟩ :: ops) fr m
section
variable {R S:Type} {P:Program} {cx:Cx R} {K:dq R S} {nb:LO} {rs:List (Nat×List Value×TypeId)} {pe:QE} {Z:Nat→Prop}
theorem QX.sound {w0:World} {H:LN} (hz:∀ b∈H,¬ Z b) {Δ Γ:QE} {ops:LO} {fr:Fr} {m:Option (Out S R)} (h:QX P cx K nb rs pe Δ Γ ops fr m):∀ {o:Out S R} {F:LN},m=some o→(∀ b∈H,b ∉ F)→SA Z w0 (Δ.reverse++Γ) [] F→∀ r,db r fr→
  BW P (aq H w0) ops r fun r'=>∃ Γ' l9 tY m' F',F'.Perm F∧m'=some o∧db r' l9∧SA Z w0 Γ' [] F'∧SQ P Γ' l9 nb rs tY∧D P cx (.p [] pe l9 Γ' fun fr Γ=>.p [] (EI tY) fr Γ fun fr Γ=>.n K Γ fr m'):=by
 induction h with
 | @pe e Δ Γ ops fr m _ ih=>
  intro o F hm hF hS r ha
  refine ih hm hF ?_ r ha
  rw [List.reverse_cons,List.append_assoc] at hS
  exact hS
 | @nil Γ fr m tY h k=>exact fun hm hF hS r ha=>⟨Γ,fr,tY,m,_,.refl _,hm,ha,hS,h,k⟩
 | @val d op ty u pos af ops Γ fr m hv _ ih=>
  intro o F hm hF hS r ha
  refine ⟨rfl,u,fun w hC=>?_,ih hm hF hS _ (ba ha)⟩
  exact hv.sound ((SA.ep hC hz (fun _ _=>List.not_mem_nil) hF hS)) ha (some d) ty pos af none w (aq.refl _ _)
 | @Ns d n t ty x a ds pos af ops Γ fr m ht hx hw _ ih=>
  intro o F hm hF hS r ha
  refine ⟨rfl,_,fun w hC=>?_,ih hm hF hS _ (ba ha)⟩
  obtain ⟨h1,h2⟩:=hw.sound (SA.ep hC hz (fun _ _=>List.not_mem_nil) hF hS)
  exact Lg ht.h h1 (aY ha hx) h2 w (aq.refl _ _)
 | @lc d t ty x a u pos af ops Γ fr m ht hx hw _ ih=>
  intro o F hm hF hS r ha
  refine ⟨rfl,u,fun w hC=>?_,ih hm hF hS _ (ba ha)⟩
  exact Ld ht.h (hw.sound (SA.ep hC hz (fun _ _=>List.not_mem_nil) hF hS)) (aY ha hx) w (aq.refl _ _)
 | @HK α V d n x y v k j t ty S' cl en xs pos af ops Γ Γx fr f ht hx hy hr r4 hn _ ih=>
  intro o F hm hF hS r ha
  replace r4:SO S' V cl en:=by cases r4; assumption
  obtain ⟨z,Oe,hm⟩:=bind_some hm
  replace Oe:=ri Oe
  obtain ⟨e,i,h1,h2,h3⟩:=ht.h
  obtain ⟨ee,_,⟨⟨f0,Dw,wc⟩,_⟩,_⟩:=hr.sound hS
  have hZ:∀ b∈f0,Z b:=fun b hb=>(wc b hb).elim id id
  obtain ⟨⟨a,c,hv⟩,bn,cs,f1,ez,Nz,lh⟩:=ug Dw j Oe.1 Oe.2
  have w5:(iu S').size=n:=hn
  rw [w5] at lh
  obtain ⟨u,rfl,tT⟩:=r4.op ez.2
  have hblk:Z (di v n j).block:=by
   obtain ⟨base,cap,o4,fl⟩:=Dw
   rcases fl with ⟨rfl,_⟩ | ⟨b,off,cr,e',fz,f',rfl,_,rfl,_⟩
   ·simp at bn; omega
   ·obtain rfl:v = .slice (some ⟨b,off,none⟩) xs.length cap:=by simpa using o4
    have:(di (.slice (some ⟨b,off,none⟩) xs.length cap) n j).block=b:=by unfold di; rw [wZ]
    rw [this]; exact hZ b (by simp)
  have HW:fact Z w0 [] (.ay (di v n j) (cl z u)):=⟨fun i u' hi=>lh i u' hi,fun _=>hblk⟩
  have dw:HL Z w0 (.ay (di v n j) (cl z u) :: en z u) []:=.fact HW (wz (tT Z fun b hb=>hZ b (Nz b hb)))
  obtain ⟨F',hp,fj⟩:=dw.build hS
  have hpF:F'.Perm F:=by simpa using hp
  refine ⟨rfl,.pointer (some (di v n j)),fun w hC=>?_,?_⟩
  ·rw [mc h1 h2 ((aY ha hx).trans hv) (aY ha hy) Oe.1 (by omega),h3,hv]
   rfl
  ·have hq:=ih z u (F:=F') hm (fun b hb h=>hF b hb (hpF.mem_iff.1 h)) fj _ (ba ha)
   refine BW.mono ?_ hq
   rintro r' ⟨Γ',l9,tY,m',F3,q0,q1,q2,q3,q4,q5⟩
   exact ⟨Γ',l9,tY,m',F3,q0.trans hpF,q1,q2,q3,q4,q5⟩
end
inductive W0 (P:Program) (f:FuncId):Prop
 | mk [h:br P f]:W0 P f
theorem FO.hl {Z:Nat→Prop} {w:World} {Δ:QE} (h:FO Δ):∀ {F:LN},HL Z w Δ F→F=[]:=by
 induction h with
 | nil=>intro F h; cases h; rfl
 | rd _ ih=>intro F h; cases h with | own h k=>exact h.elim | fact h k=>exact ih k
 | ay _ ih=>intro F h; cases h with | own h k=>exact h.elim | fact h k=>exact ih k
def DZ (l:LO) (nx:Array Bool→Bool):List Nat→Array Bool→Bool
 | [],L=>nx L
 | i :: qs,L=>Nat.blt i l.length && (Region.ready .any l.toArray L).contains i && Region.free .any l.toArray L i && DZ l nx qs (L.setIfInBounds i true)
section
variable {P:Program} {n:Nat} {l:LO} {Q:Exit→(Nat→Value)→World→Prop} {S:World→Prop}
theorem Hw.Of {nx:Array Bool→Bool} {m:Nat} (hd:dj n l=true) (hs:Region.noSelect l.toArray=true) (hp:∀ c r w,¬ Q (.panic c) r w) {w:World} (hS:S w) {K:(Nat→Value)→Prop} (h:∀ L r,nx L=true→K r→Hw P n l Q S m L r w) :
  ∀ (qs:LN) (L:Array Bool) (r:NV),DZ l nx qs L=true→BW P S (pick l qs) r K→Hw P n l Q S (qs.length+m) L r w:=by
 intro qs
 induction qs with
 | nil=>intro L r hc hv; rw [List.length_nil,Nat.zero_add]; exact h L r hc hv
 | cons i qs ih=>
  intro L r hc hv
  unfold DZ at hc
  simp only [Bool.and_eq_true] at hc
  obtain ⟨⟨⟨c1,c2⟩,c3⟩,c4⟩:=hc
  obtain ⟨hg,v,h1,h2⟩:=hv
  have:=Hw.take hd (Al c1) hs c3 c2 hp hg h1 hS (ih _ _ c4 h2)
  rwa [show qs.length+m+1=(i :: qs).length+m by simp; omega] at this
theorem Hw.ZS {k i:Nat} {L:Array Bool} {o:Oper} {r:NV} {w:World} (hd:dj n l=true) (hi:l[i]? = some o) (hr:Region.ready .any l.toArray L=[i]) (hg:o.guard=none) (hy:gf P o r w fun v w'=>S w'∧Hw P n l Q S k (L.setIfInBounds i true) (fv r o.dst v) w'):Hw P n l Q S (k+1) L r w:=by
 intro a h1 h2 h3
 refine wpAnyH_all hr (by simp) fun j hj=>?_
 obtain rfl:j=i:=by simpa using hj
 unfold wpOp
 rw [show (l.toArray)[j]? = some o by simpa using hi]
 simp only []
 rw [if_pos (td hg)]
 refine .inl (gf.wp (K:=fun v w'=>S w'∧Hw P n l Q S k (L.setIfInBounds j true) (fv r o.dst v) w') (by rw [h3]; exact hy) fun v w' hv=>⟨hv.1,hv.2 _ (by rw [kh]; exact h1) (by rw [ib]; exact h2) (by rw [l3 (Cr hd hi h1),h3])⟩)
end
section
variable {R S:Type} {P:Program} {cx:Cx R} {K:dq R S} {l:LO}
theorem acA {id:Nat} (q1:LN) (c:Nat) (q2 ss:LN) (fz:QE) (e:TI) {yB EJ nb:LO} {d:Nat} {f:FuncId} {xs:List Operand} {ay:Array TypeId} {ty:TI} {pos:String} {af:Array Edge} {Γ Γz Γa Γ1 Δ:QE} {b:Nat} {cs:LV} {fr GN:Fr} {vs:LV} {rs:List (Nat×List Value×TypeId)} {β V:Type} {mo:Option β} {rt:β→V→List Value} {ps:β→V→List aX} {g:β→Option (Out S R)}
  (hB:(P.follows .mixedOrders && dj cx.n l && Region.noSelect l.toArray && DZ l (fun L=>nm l L [c] && DZ l (fun L=>Cs l ss L) q2 (L.setIfInBounds c true)) q1 (Array.replicate l.length false) && Nat.beq l.length (q1.length+(q2.length+ss.length+1)))=true)
  (hz:EF Γ fz Γz) (WI:FO fz) (h0:dp Γz (.row b cs e) Γa) (hs:nb=pick l ss) (h3:RO fr nb Γa rs Γ1) (hq:yB=pick l q1) (h2:QA P Γ1 (.q yB fr) GN)
  (hc:l[c]? = some ⟨some d,.call ⟨.value (.func f),xs.toArray,ay⟩,ty,pos,af,none⟩) (hf:W0 P f) (hx:vr GN xs=some vs) (vb:Ct P f true mo vs Δ rt ps) (h5:EO [.row b cs e] Δ []) (h6:ER true Γ1 Δ) (DA:EJ=pick l q2)
  (k:∀ y v,QX P cx K nb rs (ps y v) [] Γ1 EJ ((d,pj (rt y v)) :: GN) (g y)):Bx (mb P cx (.dr id l K Γ fr (mo>>=g))):=by
 simp only [Bool.and_eq_true] at hB
 obtain ⟨⟨⟨⟨b1,b2⟩,b3⟩,b4⟩,b5⟩:=hB
 rw [ma]
 intro B o ho r w ha ot
 obtain ⟨y,hy,ho⟩:=bind_some ho
 obtain ⟨Z0,F0,vC,hG0⟩:=ot
 obtain ⟨Fd,Fz,Zn,zu,hSz,r9⟩:=hz.sound vC
 obtain rfl:=WI.hl zu
 rw [List.nil_append] at r9
 have hGz:Gd B (qv Z0 Zn) Fz w:=Gd.freeze (hG0.perm r9) fun x hx=>vC.lt x (r9.mem_iff.1 (List.mem_append_right _ hx))
 generalize qv Z0 Zn=Z at hSz hGz zu
 obtain ⟨f0,Fa,hpa,⟨rfl,bm⟩,hSa⟩:=h0.sound hSz
 obtain ⟨F1,sm,hR,er⟩:=h3.sound hSa
 have oy:([b]++(rs.map (·.1)++F1)).Perm Fz:=(sm.append_left [b]).trans hpa
 have hG:=hGz.perm oy
 have de:=List.nodup_append.1 hG.nd
 have W1:=List.nodup_append.1 de.2.1
 have Cv:aq [] w { w with drawn:=w.drawn+1 }:=aq.drew _ _
 have jq:Gd B Z ([b]++(rs.map (·.1)++F1)) { w with drawn:=w.drawn+1 }:=⟨hG.nd,hG.apart,hG.nv,hG.low,hG.uY,hG.uA,hG.jh.trans (Cv.mono fun _ h=>nomatch h)⟩
 have tw:=bm.ij Cv
 have IL:=er.ij Cv
 have IG:Rows { w with drawn:=w.drawn+1 } rs:=fun p hp=>(hR p hp).ij Cv
 refine na.W b1 (Hw.start (S:=aq ([b]++rs.map (·.1)) { w with drawn:=w.drawn+1 }) ?_)
 generalize { w with drawn:=w.drawn+1 } = w0 at jq tw IL IG
 have W2:∀ x∈[b]++rs.map (·.1),¬ Z x:=fun x hx=>hG.apart x (by rw [← List.append_assoc]; exact List.mem_append_left _ hx)
 have hHF:∀ x∈[b]++rs.map (·.1),x ∉ F1:=fun x hx hm=>by
  rcases List.mem_append.1 hx with hx | hx
  ·exact de.2.2 x hx x (List.mem_append_right _ hm) rfl
  ·exact W1.2.2 x hx x hm rfl
 have xe:∀ {G:QE} {F:LN},F.Perm F1→SA Z w0 G [] F→∀ w',aq ([b]++rs.map (·.1)) w0 w'→SA Z w' G [] F:=fun hp h w' hC=>h.ep hC W2 (fun _ _=>List.not_mem_nil) fun x hx hm=>hHF x hx (hp.mem_iff.1 hm)
 rw [show l.length=q1.length+(q2.length+ss.length+1) from Nat.eq_of_beq_eq_true b5] at b4 ⊢
 subst hq hs DA
 refine Hw.Of (K:=fun r'=>db r' GN) b2 b3 (fun c r w h=>tk c h) (aq.refl _ _) (fun L r' hL fl=>?_) q1 _ r b4 (QA.sound (fun w' hC=>⟨[],F1,xe (.refl _) IL w' hC⟩) h2 r ha)
 simp only [Bool.and_eq_true] at hL
 obtain ⟨fn, cc, f1, f2, f3⟩ : ∃ fn c, P.funcs[f]? = some fn ∧ fn.body = some c ∧ (fn.name == "runtime.NumGoroutine") = false := by cases hf with | mk => rename_i h; exact h.h
 refine Hw.ZS b2 hc (xf hL.1) rfl ?_
 unfold gf
 rw [DP f1 f2 f3,tc fl hx]
 rw [r7] at vb
 obtain ⟨Fd,F',k1,k2,k3⟩:=h5.sound (Z:=Z) (w:=w0) (F:=[b]) (by have:=(HL.own (Z:=Z) (w:=w0) (f:=[b]) (e:=.row b cs e) ⟨rfl,tw⟩ .nil).front (Γ:=[]) (F:=[]) rfl; simpa using this)
 have Cf:F'=[]:=by cases k2; rfl
 subst Cf
 rw [List.append_nil] at k3
 have ji:Gd B Z (Fd++(rs.map (·.1)++F1)) w0:=jq.perm (k3.append_right _)
 have xK:HL (fun x=>Z x∨x∈F1) w0 Δ Fd:=h6.sound (fun _ h=>.inl h) (fun _ _ h=>.inr h) IL k1
 refine (Mo vb xK (F1:=rs.map (·.1)++F1) (fun x hx=>?_) ji (fun _ h=>.inl h) (fun x hx=>hx.imp (fun h=>h) fun h=>List.mem_append_right _ h) (vb.1 rfl y) hy).mono ?_
 ·rcases List.mem_append.1 hx with hx | hx
  ·obtain ⟨p,hp,rfl⟩:=List.mem_map.1 hx
   exact (IG p hp).lt
  ·exact IL.lt x hx
 rintro e' w2 ⟨v,F2,he,ux,hps,xc⟩
 have hFd:Fd=[b]:=List.perm_singleton.1 k3
 subst hFd
 have Mp:aq ([b]++rs.map (·.1)) w0 w2:=ux.mono fun x hx=>List.mem_append_left _ hx
 refine ⟨_,he,Mp,?_⟩
 have hR2:Rows w2 rs:=fun p hp=>(IG p hp).ep ux fun hb=>de.2.2 b (by simp) p.1 (List.mem_append_left _ (List.mem_map_of_mem (f:=fun q=>q.1) hp)) (List.mem_singleton.1 hb).symm
 refine Hw.Of b2 b3 (fun c r w h=>tk c h) Mp (fun L2 r2 NR KX=>?_) q2 _ _ hL.2 (QX.sound W2 (k y v) ho hHF IL _ (ba fl))
 obtain ⟨Γ',l9,tY,m',F3,p0,p1,p2,p3,p4,p5⟩:=KX
 refine SQ.sound b2 p2 (fun w' hC=>xe p0 p3 w' hC) p4 ss L2 w2 rfl NR Mp hR2 W1.1 (fun x hx=>List.mem_append_right _ hx) fun w3 GK hR3=>?_
 have acB:=List.nodup_append.1 xc.nd
 have acC:HL Z w3 (ps y v) F2:=hps.SG GK (fun x hx=>W2 x (List.mem_append_right _ hx)) fun x hx hm=>acB.2.2 x hx x (List.mem_append_left _ hm) rfl
 have acD:aq ([b]++rs.map (·.1)) w0 w3:=Mp.trans (GK.mono fun x hx=>List.mem_append_right _ hx)
 obtain ⟨Fa1,s1,s2⟩:=acC.build (xe p0 p3 w3 acD)
 obtain ⟨Fa2,s3,s4⟩:=(DX hR3).build s2
 rw [p4.fst] at s3
 have jo:Gd B Z (F2++(rs.map (·.1)++F1)) w3:=⟨xc.nd,xc.apart,fun x hx=>Nat.lt_of_lt_of_le (xc.nv x hx) GK.size,xc.low,xc.uY,xc.uA,xc.jh.then GK fun x hx=>xc.low x (List.mem_append_right _ (List.mem_append_left _ hx))⟩
 refine p5.sound B o p1 r2 w3 (by simpa using p2) ⟨Z,Fa2,s4,jo.perm ?_⟩
 refine s3.trans ((s1.append_left _).trans ?_)
 refine ((p0.append_left F2).append_left (rs.map (·.1))).trans ?_
 rw [← List.append_assoc,← List.append_assoc]
 exact List.perm_append_comm.append_right F1
theorem ZT {id:Nat} (q1:LN) (c:Nat) (q2 ss:LN) (tz:Nat) {α:Type} (E:ah α) (e:TI) {zv:Value} {zx:List α} {yB EJ nb:LO} {d:Nat} {f:FuncId} {xs:List Operand} {ay:Array TypeId} {ty:TI} {pos:String} {af:Array Edge} {Γ Γz Γa Γ1 Δ:QE} {b:Nat} {cs:LV} {fr GN:Fr} {vs:LV} {rs:List (Nat×List Value×TypeId)} {β V:Type} {mo:Option β} {rt:β→V→List Value} {ps:β→V→List aX} {g:β→Option (Out S R)}
  (hB:(P.follows .mixedOrders && dj cx.n l && Region.noSelect l.toArray && DZ l (fun L=>nm l L [c] && DZ l (fun L=>Cs l ss L) q2 (L.setIfInBounds c true)) q1 (Array.replicate l.length false) && Nat.beq l.length (q1.length+(q2.length+ss.length+1)))=true)
  (_hzv:look fr tz=some zv) (hz:EF Γ [.rd false (bL E) zv zx] Γz) (h0:dp Γz (.row b cs e) Γa) (hs:nb=pick l ss) (h3:RO fr nb Γa rs Γ1) (hq:yB=pick l q1) (h2:QA P Γ1 (.q yB fr) GN)
  (hc:l[c]? = some ⟨some d,.call ⟨.value (.func f),xs.toArray,ay⟩,ty,pos,af,none⟩) (hf:W0 P f) (hx:vr GN xs=some vs) (vb:Ct P f true mo vs Δ rt ps) (h5:EO [.row b cs e] Δ []) (h6:ER true Γ1 Δ) (DA:EJ=pick l q2)
  (k:∀ y v,QX P cx K nb rs (ps y v) [] Γ1 EJ ((d,pj (rt y v)) :: GN) (g y)):Bx (mb P cx (.dr id l K Γ fr (mo>>=g))):=
 acA (id:=id) q1 c q2 ss [.rd false (bL E) zv zx] e hB hz (.rd .nil) h0 hs h3 hq h2 hc hf hx vb h5 h6 DA k
end
theorem St.acE {α:Type} {E:ah α} {T:ah (List α)} {v:Value} {x:List α} {B:Bs} {Γ Γ1:QE} {w:World} (h1:dp Γ (.own T v x) Γ1) (hr:RT T (bL E)) (hs:St B Γ w):St B (.rd false (bL E) v x :: Γ1) w:=by
 obtain ⟨Z,F,hS,hG⟩:=hs
 obtain ⟨f,F',hp,_,fj⟩:=(Ej.own (E:=E) h1 hr).sound hS
 have oq:(F'++f).Perm F:=List.perm_append_comm.trans hp
 exact ⟨_,F',fj,Gd.freeze (hG.perm oq) fun b hb=>hS.lt b (hp.mem_iff.1 (List.mem_append_left _ hb))⟩
section
variable {R:Type} {P:Program} {cx:Cx R}
theorem acF {M α β:Type} {d b:Nat} {s x:OO} {sv u:Value} {T:ah (List β)} {E1:ah β} {y:List β} {t e e' ty:TI} {E:ah α} {bt:Nat} {all l:LO} {rk:RK R M} {Γ Γ1:QE} {fr:Fr} {m:Option M} (h1:dp Γ (.own T u y) Γ1) (hr:RT T (bL E1))
  (h:D P cx (.Nl false e' E e t bt u b sv s x d ty all l rk (.rd false (bL E1) u y :: Γ1) fr m)):D P cx (.ap (aJ e' E) e t bt u b sv s x d ty all l rk Γ fr m):=by
 refine D.of ?_
 intro q1 q2 q3 B o ho r w ha hs
 exact h.sound q1 q2 q3 B o ho r w ha (St.acE h1 hr hs)
end
end Go.Dk
namespace Go.Li
open Go
section
variable {P:Program} {n:Nat} {Q:Exit→(Nat→Value)→World→Prop} {r:NV} {w:World} {R:Type}
theorem Uh {c:Code} (hg:∀ l r w,¬ Q (.goto l) r w) (h:W P n c Q r w):W P n (.scope c) Q r w:=by
 intro a h1 h2 h3
 refine wp_scope_straight (wp_mono (h a h1 h2 h3) ?_)
 rintro e a' w' ⟨g1,g2,g3⟩
 cases e
 case goto l=>exact hg _ _ _ g3
 all_goals exact ⟨g1,g2,g3⟩
theorem Ui {l:Nat} (h:Q .normal r w):W P n (.label l) Q r w:=fun a h1 h2 h3=>wp_label ⟨h1,h2,by rw [h3]; exact h⟩
end
end Go.Li
namespace Go.Dk
open Go Go.Li
section
variable {R:Type} {P:Program} {cx:Cx R} {S:Type}
theorem Mq {B:Bs} {b:Kb R S} {o:Out S R} {l:Nat} {r:NV} {w:World} : ¬ Hl P cx B b o (.goto l) r w:=by
 cases b <;> cases o <;> exact fun h=>h
theorem Mr {n l:Nat} {Q:Exit→(Nat→Value)→World→Prop} {r:NV} {w:World} (h : ¬ Q (.goto l) r w):∀ gh,¬ AU P n Q gh (.goto l) r w:=by
 intro gh
 induction gh with
 | nil=>exact h
 | cons a gh ih=>cases a <;> exact ih
theorem W3 {K:dq R S} {c:Code} {b e:Nat} {cs:LV} {Γ Γ1:QE} {fr:Fr} {m:Option (Out S R)} (h1:dp Γ (.row b cs e) Γ1) (h:D P cx (.c K c (.ay ⟨b,0,none⟩ cs :: Γ1) fr m)):D P cx (.c K c Γ fr m):=by
 refine D.of ?_
 intro B o ho r w ha hs
 refine h.sound B o ho r w ha ?_
 obtain ⟨Z,F,hS,hG⟩:=hs
 obtain ⟨f,F1,hp,⟨rfl,bm⟩,er⟩:=h1.sound hS
 have we:(F1++[b]).Perm F:=List.perm_append_comm.trans hp
 have ji:=Gd.freeze (hG.perm we) fun c hc=>by rw [List.mem_singleton.1 hc]; exact bm.lt
 exact ⟨qv Z [b],F1,SA.fact (er.mono (fun _ h=>.inl h) fun _ h=>h) ⟨bm.at,fun _=>.inr (by simp)⟩,ji⟩
theorem ZU {M:Type} {all l:LO} {rk:RK R M} {b e:Nat} {cs:LV} {Γ Γ1:QE} {fr:Fr} {m:Option M} (h1:dp Γ (.row b cs e) Γ1) (h:D P cx (.o false all l rk (.ay ⟨b,0,none⟩ cs :: Γ1) fr m)):D P cx (.o false all l rk Γ fr m):=by
 refine D.of ?_
 intro B o ho r w ha hs
 refine h.sound B o ho r w ha ?_
 obtain ⟨Z,F,hS,hG⟩:=hs
 obtain ⟨f,F1,hp,⟨rfl,bm⟩,er⟩:=h1.sound hS
 have we:(F1++[b]).Perm F:=List.perm_append_comm.trans hp
 have ji:=Gd.freeze (hG.perm we) fun c hc=>by rw [List.mem_singleton.1 hc]; exact bm.lt
 exact ⟨qv Z [b],F1,SA.fact (er.mono (fun _ h=>.inl h) fun _ h=>h) ⟨bm.at,fun _=>.inr (by simp)⟩,ji⟩
theorem rgs {K:dq R S} {ops:LO} {Γ:QE} {fr:Fr} {m:Option (Out S R)} (h:D P cx (.rg false true ops K Γ fr m)):D P cx (.rg true true ops K Γ fr m):=D.of (show mb P cx _ from h.sound)
theorem Og {S1 V W A:Type} (k:Nat) (a0:A) (Δ:A→S1→V→W→List aX) (φ:A→S1→V→W→Fr) (v0:V) (w0:W) (f2:Fr) {gh:List KI} {kb:Kb R S} {c:Code} {s0:S1} {body:S1→Option (Out S1 R)} {f:S1→Option (Out S R)} {Γ Γ1 Γ2:QE} {fr:Fr}
  (ha:r3 fr (φ a0 s0 v0 w0)) (hf:r3 fr f2) (h0:EO Γ (Δ a0 s0 v0 w0) Γ1) (hn:OW Γ (Δ a0 s0 v0 w0)) (hs:ke Γ1 Γ2)
  (hb:∀ s v w,D P cx (.p (φ a0 s v w) (Δ a0 s v w) f2 Γ2 fun fr Γ=>.c ⟨[],.loop (V×W) k (fun s v=>Δ a0 s v.1 v.2) (fun s v=>φ a0 s v.1 v.2) Γ2 f2⟩ c Γ fr (body s)))
  (hk:∀ s v w,D P cx (.p (φ a0 s v w) (Δ a0 s v w) f2 Γ2 fun fr Γ=>.mn ⟨gh,kb⟩ Γ fr (f s))):Bx (mb P cx (.bk true k ⟨gh,kb⟩ (.loop c) Γ fr (ag (ae k (Li.aj body s0)) f))):=
 vL k (Δ a0) (φ a0) v0 w0 f2 ha hf h0 hn hs hb hk
theorem scp {K:dq R S} {c:Code} {Γ:QE} {fr:Fr} {m:Option (Out S R)} (h:D P cx (.c K c Γ fr m)):Bx (mb P cx (.c K (.scope c) Γ fr m)):=by
 rw [ma]
 exact fun B o ho r w ha hs=>Uh (fun l r w=>Mr Mq _) (h.sound B o ho r w ha hs)
theorem lab {K:dq R S} {l:Nat} {Γ:QE} {fr:Fr} {m:Option (Out S R)} (h:D P cx (.n K Γ fr m)):Bx (mb P cx (.c K (.label l) Γ fr m)):=by
 rw [ma]
 exact fun B o ho r w ha hs=>Ui (h.sound B o ho r w ha hs)
section
variable {S1 V:Type} {k j:Nat} {Δ:S1→V→List aX} {φ:S1→V→Fr} {Γ2 Γ Γ1 Γ3:QE} {f2 fr:Fr} {s:S1} {v:V} (hv:vx V v) (ha:r3 fr (φ s v)) (hf:r3 fr f2) (h0:EO Γ (Δ s v) Γ1) (hw:OW Γ (Δ s v)) (h1:EO Γ1 Γ2 Γ3) (h2:MF Γ none Γ2)
include hv ha hf h0 hw h1 h2
theorem nlx:Bx (mb P cx (.n ⟨[],.lx V k j Δ φ Γ2 f2⟩ Γ fr (some (.norm s)))):=by
 have _:=hv
 rw [ma]
 intro B o ho r w pr hs
 cases ho
 exact ⟨v,qp (ha.all pr) (hf.sound pr),hs.again h0 hw h1 h2⟩
theorem xlx:Bx (mb P cx (.x k ⟨[],.lx V k j Δ φ Γ2 f2⟩ Γ fr (some (.exit k s)))):=by
 have _:=hv
 rw [ma]
 intro B o ho r w pr hs
 cases ho
 refine ⟨rfl,?_⟩
 show (bif Nat.beq k k then _ else _)
 rw [show Nat.beq k k=true from Nat.beq_refl k]
 exact ⟨v,qp (ha.all pr) (hf.sound pr),hs.again h0 hw h1 h2⟩
theorem xlo (hj:Nat.beq j k=false):Bx (mb P cx (.x j ⟨[],.lx V k j Δ φ Γ2 f2⟩ Γ fr (some (.exit j s)))):=by
 have _:=hv
 rw [ma]
 intro B o ho r w pr hs
 cases ho
 refine ⟨rfl,?_⟩
 show (bif Nat.beq j k then _ else bif Nat.beq j j then _ else _)
 rw [hj,show Nat.beq j j=true from Nat.beq_refl j]
 exact ⟨v,qp (ha.all pr) (hf.sound pr),hs.again h0 hw h1 h2⟩
end
theorem S8 {S1 V:Type} (k j:Nat) (Δ:S1→V→List aX) (φ:S1→V→Fr) (v0:V) (f2:Fr) {gh:List KI} {kb:Kb R S} {c:Code} {s0:S1} {body:S1→Option (Out S1 R)} {f g:S1→Option (Out S R)} {Γ Γ1 Γ2:QE} {fr:Fr}
   (hj:Nat.beq j k=false) (ha:r3 fr (φ s0 v0)) (hf:r3 fr f2) (h0:EO Γ (Δ s0 v0) Γ1) (hn:OW Γ (Δ s0 v0)) (hs:ke Γ1 Γ2)
   (hb:∀ s v,D P cx (.p (φ s v) (Δ s v) f2 Γ2 fun fr Γ=>.c ⟨[],.lx V k j Δ φ Γ2 f2⟩ c Γ fr (body s)))
   (hk:∀ s v,D P cx (.p (φ s v) (Δ s v) f2 Γ2 fun fr Γ=>.mn ⟨gh,kb⟩ Γ fr (f s)))
   (hg:∀ s v,D P cx (.p (φ s v) (Δ s v) f2 Γ2 fun fr Γ=>.x j ⟨gh,kb⟩ Γ fr (g s))):Bx (mb P cx (.bk true k ⟨gh,kb⟩ (.loop c) Γ fr (GO k j (Li.aj body s0) f g))):=by
 rw [ma]
 intro B o ho r w pr ot
 cases hl:Li.aj body s0 with
 | none=>rw [hl] at ho; cases ho
 | some o1=>
  rw [hl] at ho
  refine vM (IN (N:=LI B Δ φ Γ2 f2) (X:=fun i s r w=>bif Nat.beq i j then LI B Δ φ Γ2 f2 s r w else False) (T:=TT P cx B) (KY (LI B Δ φ Γ2 f2) (fun s r w ⟨v,h1,h2⟩ o ho=>(hb s v).sound B o ho r w h1 h2) hl ⟨v0,qp (ha.all pr) (hf.sound pr),ot.enter h0 hn hs⟩)) ?_
  intro e r' w' hq
  cases o1 with
  | norm s=>cases ho
  | ret z=>cases ho; cases e <;> first | exact hq.elim | exact w6 hq
  | exit i s=>
   unfold GO at ho
   dsimp only at ho
   unfold FX at hq
   dsimp only at hq
   cases hi:Nat.beq i k with
   | true=>
    rw [hi] at ho hq
    cases e <;> first | exact hq.elim | skip
    obtain ⟨v,h1,h2⟩:=hq
    exact (hk s v).sound B o ho r' w' h1 h2
   | false=>
    rw [hi] at ho hq
    cases tX:Nat.beq i j with
    | false=>rw [tX] at ho; cases ho
    | true=>
     rw [tX] at ho
     cases e with
     | exit i'=>
      obtain ⟨rfl,hq⟩:=hq
      rw [tX] at hq
      obtain ⟨v,h1,h2⟩:=hq
      obtain rfl:=Nat.eq_of_beq_eq_true tX
      exact (hg s v).sound B o ho r' w' h1 h2
     | _=>exact hq.elim
end
abbrev rI:Value→List Int→aX:=.rd false (bL (aM .i64))
abbrev rJ:Value→List (List Int)→aX:=.rd false (bL (bL (aM .i64)))
class FE (p:Prop):Prop where
 u:True
instance {o:Bool} {a b:QE}:FE (ER o a b):=⟨trivial⟩
instance {a:QE} {b:LV}:FE (wq a b):=⟨trivial⟩
instance {a b c:QE}:FE (EF a b c):=⟨trivial⟩
instance {a b c:QE}:FE (EO a b c):=⟨trivial⟩
instance {a b:QE}:FE (EP a b):=⟨trivial⟩
instance {a c d:LV} {b:Nat}:FE (uO a b c d):=⟨trivial⟩
instance {a b:Nat} {c d:LV}:FE (vz a b c d):=⟨trivial⟩
instance {a:LN} {b:Option (Bool×Nat×Value)} {c d:Fr}:FE (Kp a b c d):=⟨trivial⟩
instance {V:Type} {v:V}:FE (vx V v):=⟨trivial⟩
instance {a:QE} {b:Addr} {c:Nat} {d:LV}:FE (wu a b c d):=⟨trivial⟩
theorem fe {p:Prop} [FE p] (h:p):p:=h
end Go.Dk
namespace Go.Dk
open Go Go.Li
set_option linter.unusedVariables false
set_option linter.unusedSectionVars false
set_option linter.unusedSimpArgs false
section
variable {κ α:Type} [BEq κ]
inductive uJ (T:ah α) (h:Array Obj):Option κ→List (κ×Value×α)→List Nat→Prop
 | nil {sk:Option κ}:uJ T h sk [] []
 | row {sk:Option κ} {a:κ} {v:Value} {x:α} {U:List (κ×Value×α)} {f1 f2:LN} (hs:∀ b,sk=some b→(a == b)=false) (hr:T.rep h [v] x f1) (k:uJ T h sk U f2):uJ T h sk ((a,v,x) :: U) (f1++f2)
 | out {a b:κ} {v:Value} {x:α} {U:List (κ×Value×α)} {f:LN} (hb:(a == b)=true) (k:uJ T h none U f):uJ T h (some b) ((a,v,x) :: U) f
variable {T:ah α} {h h':Array Obj} {sk:Option κ} {U:List (κ×Value×α)} {f:LN}
theorem uJ.congr (hb:uJ T h sk U f):(∀ b∈f,h'[b]? = h[b]?)→uJ T h' sk U f:=by
 induction hb with
 | nil=>exact fun _=>.nil
 | row hs hr _ ih=>exact fun e=>.row hs (T.congr hr fun b hb=>e b (List.mem_append_left _ hb)) (ih fun b hb=>e b (List.mem_append_right _ hb))
 | out hb _ ih=>exact fun e=>.out hb (ih e)
theorem uJ.lt (hb:uJ T h sk U f):∀ b∈f,b < h.size:=by
 induction hb with
 | nil=>exact fun b hb=>absurd hb List.not_mem_nil
 | row hs hr _ ih=>exact fun b hb=>(List.mem_append.1 hb).elim (T.lt hr b) (ih b)
 | out hb _ ih=>exact ih
theorem uJ.take (hb:uJ T h sk U f):sk=none→∀ b:κ,(jw U b=none∧uJ T h (some b) U f)∨∃ v x f1 f2,jw U b=some (v,x)∧T.rep h [v] x f1∧uJ T h (some b) U f2∧(f1++f2).Perm f:=by
 induction hb with
 | nil=>exact fun _ b=>.inl ⟨rfl,.nil⟩
 | out hb _ _=>intro h; cases h
 | @row sk a v x U f1 f2 hs hr k ih=>
  intro hk b
  subst hk
  cases mw:(a == b) with
  | true=>exact .inr ⟨v,x,f1,f2,by unfold jw; rw [mw]; rfl,hr,.out mw k,.refl _⟩
  | false=>
   rcases ih rfl b with ⟨g1,g3⟩ | ⟨v',x',xg,f2',g1,g3,g4,g5⟩
   ·exact .inl ⟨by unfold jw; rw [mw]; exact g1,.row (fun c hc=>by cases hc; exact mw) hr g3⟩
   ·refine .inr ⟨v',x',xg,f1++f2',by unfold jw; rw [mw]; exact g1,g3,.row (fun c hc=>by cases hc; exact mw) hr g4,?_⟩
    refine .trans ?_ (g5.append_left f1)
    rw [← List.append_assoc,← List.append_assoc]
    exact List.perm_append_comm.append_right _
theorem uJ.put (hb:uJ T h sk U f):∀ {b:κ} {v:Value} {x:α} {g:LN},sk=some b→T.rep h [v] x g→∃ k,k.Perm (g++f)∧uJ T h none (qn U b (v,x)) k:=by
 induction hb with
 | nil=>exact fun _ hr=>⟨_,.refl _,.row (fun _ h=>by cases h) hr .nil⟩
 | @out a b v x U f mw k _=>
  intro b' v' x' g hk hr
  cases hk
  refine ⟨g++f,.refl _,?_⟩
  unfold qn
  rw [mw]
  exact .row (fun _ h=>by cases h) hr k
 | @row sk a v x U f1 f2 hs hr k ih=>
  intro b v' x' g hk fl
  obtain ⟨k',hp,Qv⟩:=ih hk fl
  refine ⟨f1++k',?_,?_⟩
  ·refine (hp.append_left f1).trans ?_
   rw [← List.append_assoc,← List.append_assoc]
   exact List.perm_append_comm.append_right _
  ·unfold qn
   rw [hs b hk]
   exact .row (fun _ h=>by cases h) hr Qv
theorem uJ.close (hb:uJ T h sk U f):∀ {b:κ} {z:Value×α} {g:LN},sk=some b→T.rep h [((jw U b).getD z).1] ((jw U b).getD z).2 g→∃ k l,(k++l).Perm (g++f)∧uJ T h none U k:=by
 induction hb with
 | nil=>exact fun {_ _ g} _ _=>⟨[],g,by simp,.nil⟩
 | @out a b v x U f mw k _=>
  intro b' z g hk hr
  cases hk
  unfold jw at hr
  rw [mw] at hr
  exact ⟨g++f,[],by simp,.row (fun _ h=>by cases h) hr k⟩
 | @row sk a v x U f1 f2 hs hr k ih=>
  intro b z g hk fl
  unfold jw at fl
  rw [hs b hk] at fl
  obtain ⟨k',l',hp,Qv⟩:=ih hk fl
  refine ⟨f1++k',l',?_,.row (fun _ h=>by cases h) hr Qv⟩
  rw [List.append_assoc]
  refine (hp.append_left f1).trans ?_
  rw [← List.append_assoc,← List.append_assoc]
  exact List.perm_append_comm.append_right _
def An (ek:κ→Value) (T:ah α) (sk:Option κ):ah (List (κ×Value×α)) where
 size:=1
 rep h cs x f:=∃ f1 f2,f=f1++f2∧(BR ek (Prod.fst:Value×α→Value)).rep h cs x f1∧uJ T h sk x f2
 len:=fun ⟨_,_,_,h,_⟩=>(BR ek _).len h
 one:=fun ⟨_,_,_,h,_⟩=>(BR ek _).one h
 congr:=by
  rintro h h' cs x f ⟨f1,f2,rfl,h1,h2⟩ hb
  exact ⟨f1,f2,rfl,(BR ek _).congr h1 fun b hm=>hb b (List.mem_append_left _ hm),h2.congr fun b hm=>hb b (List.mem_append_right _ hm)⟩
 lt:=by
  rintro h cs x f ⟨f1,f2,rfl,h1,h2⟩ b hb
  exact (List.mem_append.1 hb).elim ((BR ek _).lt h1 b) (h2.lt b)
end
section
variable {κ α:Type} [BEq κ]
inductive Gm (S:ah α) (h:Array Obj):List (κ×Value×List (List Value))→List (κ×List α)→List Nat→Prop
 | nil:Gm S h [] [] []
 | row {a:κ} {v:Value} {us:List (List Value)} {xs:List α} {U:List (κ×Value×List (List Value))} {X:List (κ×List α)} {f1 f2:LN} (hr:(qf S).rep h [.bool true] (us,xs) f1) (k:Gm S h U X f2):Gm S h ((a,v,us) :: U) ((a,xs) :: X) (f1++f2)
variable {S:ah α} {h h':Array Obj} {U:List (κ×Value×List (List Value))} {X:List (κ×List α)} {g:LN}
theorem Gm.congr (hg:Gm S h U X g):(∀ b∈g,h'[b]? = h[b]?)→Gm S h' U X g:=by
 induction hg with
 | nil=>exact fun _=>.nil
 | row hr _ ih=>exact fun e=>.row ((qf S).congr hr fun b hm=>e b (List.mem_append_left _ hm)) (ih fun b hm=>e b (List.mem_append_right _ hm))
theorem Gm.lt (hg:Gm S h U X g):∀ b∈g,b < h.size:=by
 induction hg with
 | nil=>exact fun b hb=>absurd hb List.not_mem_nil
 | row hr _ ih=>exact fun b hb=>(List.mem_append.1 hb).elim ((qf S).lt hr b) (ih b)
def IP (S:ah α):ah (List (κ×Value×List (List Value))×List (κ×List α)) where
 size:=1
 rep h cs x f:=cs=[.bool true]∧Gm S h x.1 x.2 f
 len:=by rintro h cs x f ⟨rfl,_⟩; rfl
 one:=by rintro h cs x f ⟨rfl,_⟩ v hv; simp at hv; subst hv; rfl
 congr:=fun h hb=>⟨h.1,h.2.congr hb⟩
 lt:=fun h=>h.2.lt
theorem Gm.get (hg:Gm S h U X g) (b:κ) (z:Value):∃ g1,(qf S).rep h [.bool true] (((jw U b).getD (z,[])).2,(jw X b).getD []) g1∧∀ c∈g1,c∈g:=by
 induction hg with
 | nil=>exact ⟨[],⟨rfl,rfl,fun _ h=>absurd h List.not_mem_nil⟩,fun _ h=>absurd h List.not_mem_nil⟩
 | @row a v us xs U X f1 f2 hr k ih=>
  unfold jw
  cases mw:(a == b) with
  | true=>exact ⟨f1,hr,fun c hc=>List.mem_append_left _ hc⟩
  | false=>
   obtain ⟨g1,h1,h2⟩:=ih
   exact ⟨g1,h1,fun c hc=>List.mem_append_right _ (h2 c hc)⟩
theorem Gm.put (hg:Gm S h U X g) (b:κ) (v:Value) {us:List (List Value)} {xs:List α} {f:LN} (fl:(qf S).rep h [.bool true] (us,xs) f):∃ k,Gm S h (qn U b (v,us)) (qn X b xs) k∧∀ c∈k,c∈f∨c∈g:=by
 induction hg with
 | nil=>exact ⟨_,.row fl .nil,fun c hc=>by simpa using hc⟩
 | @row a v us xs U X f1 f2 hr k ih=>
  unfold qn
  cases mw:(a == b) with
  | true=>exact ⟨_,.row fl k,fun c hc=>(List.mem_append.1 hc).imp id fun h=>List.mem_append_right _ h⟩
  | false=>
   obtain ⟨k',h1,h2⟩:=ih
   refine ⟨_,.row hr h1,fun c hc=>?_⟩
   rcases List.mem_append.1 hc with h | h
   ·exact .inr (List.mem_append_left _ h)
   ·exact (h2 c h).imp id fun h=>List.mem_append_right _ h
end
section
variable {κ υ:Type} [BEq κ] {ek:κ→Value} {uK:υ→Value} {kd:TypeDesc}
variable {P:Program} {r:NV} {w:World} {d:Option Nat} {ty:TI} {pos:String} {af:Array Edge} {g:Option (Nat×Bool)}
theorem Ms {t kt vt:TI} {x k:OO} {y:List (κ×υ)} {f:LN} {a:κ} {z:υ} {i:TypeInfo} (hk:Ky ek kd) (ht:P.underlying t=some (.map kt vt)) (IQ:P.underlying kt=some kd) (hi:P.info? vt=some i) (hz:i.zero=some (uK z))
  (hr:(BR ek uK).rep w.heap [Li.ev r x] y f) (ha:Li.ev r k=ek a) :
  (execOp (Li.ev r) ⟨d,.lookup t x k false,ty,pos,af,g⟩).run P w = .ok (.value (uK ((jw y a).getD z))) w:=by
 obtain ⟨i0,es,ck,h1,rfl,h2,h3⟩:=hr
 obtain h1:Li.ev r x = .map (some i0):=by simpa using h1
 have hc:=MapKept.run_checkKey (P:=P) (w:=w) IQ (hk.key a) es.isEmpty 9999
 have hzv:(zeroValue vt).run P w = .ok (uK z) w:=by simp [zeroValue,typeInfo,hi,hz]
 rcases KZ hk a es.toList y 0 h3 with ⟨g0,g1,_⟩ | ⟨j,e,v',g0,g1,g2,_⟩
 ·have hf:=MapKept.run_findKey (P:=P) (w:=w) IQ g1
  rw [g0]
  simp [execOp,Instr.lookup,h1,ha,sd ht,MapKept.run_getObj_map h2,hc,hf,hzv,Result.andThen]
 ·have hf:=MapKept.run_findKey (P:=P) (w:=w) IQ g2
  rw [g0]
  simp [execOp,Instr.lookup,h1,ha,sd ht,MapKept.run_getObj_map h2,hc,hf,g1,Result.andThen]
theorem Qw {t kt vt:TI} {x:OO} {y:List (κ×υ)} {f:LN} (ht:P.underlying t=some (.map kt vt)) (hr:(BR ek uK).rep w.heap [Li.ev r x] y f) :
  ∃ i ck,f=[i]∧(execOp (Li.ev r) ⟨d,.call ⟨.builtin .clear,#[x],#[t]⟩,ty,pos,af,g⟩).run P w = .ok (.value (.tuple #[])) { w with heap:=w.heap.setIfInBounds i (.map #[] ck) }∧(BR ek uK).rep (w.heap.setIfInBounds i (.map #[] ck)) [Li.ev r x] [] [i]:=by
 obtain ⟨i,es,ck,h1,rfl,h2,h3⟩:=hr
 obtain h1:Li.ev r x = .map (some i):=by simpa using h1
 refine ⟨i,ck,rfl,?_,i,_,_,by rw [h1],rfl,(MapKept.heap_set h2).1,rfl⟩
 simp [execOp,resolve,invoke,builtin,Builtin.clear_,h1,sd ht,MapKept.run_getObj_map h2,MapKept.run_setObj_map _ h2,Result.andThen]
end
section
variable {R:Type} {P:Program} {cx:Cx R} {M:Type} {all l:LO} {rk:RK R M} {fr:Fr} {Γ Γ1 Γ2:QE} {κ:Type} {bq:BEq κ} {ek:κ→Value} {e n:Nat} {t ty:TI} {v:Value} {a:κ} {U:List (κ×Value×List (List Value))} {m:Option M}
class NX (P:Program) (t:TI) (κ:outParam Type) (bq:outParam (BEq κ)) (ek:outParam (κ→Value)):Prop where
 h:∃ kt vt kd i,P.underlying t=some (.map kt vt)∧P.underlying kt=some kd∧Ky ek kd∧P.info? vt=some i∧i.zero=some (.slice none 0 0)
def xE {κ:Type} [BEq κ] (U:List (κ×Value×List (List Value))) (a:κ):Value×List (List Value):=(jw U a).getD (.slice none 0 0,[])
theorem mkR {α:Type} (S:ah α) (e n:Nat) {d:Nat} [ht:NX P t κ bq ek]
  (h:∀ v,D P cx (.o false all l rk (.own (An ek (aJ e (ef n)) none) v [] :: .rd false (IP (κ:=κ) S) (.bool true) ([],[]) :: Γ) ((d,v) :: fr) m)):D P cx (.e false (.makeMap t none) (some d) ty all l rk Γ fr m):=by
 refine D.of ?_
 intro B o ho r w ha hs pos af g
 refine fi (WL.val rfl Mt ((h _).sound B o ho _ _ (ba ha) (St.new ?_ (f':=[w.heap.size]) (aq.alloc _ _ _) (fun _=>⟨[w.heap.size],[],rfl,⟨w.heap.size,#[],0,rfl,rfl,(MapKept.heap_alloc w _).1,rfl⟩,.nil⟩) (by simp) (wB (Nat.le_refl _)))))
 obtain ⟨Z,F,hS,hG⟩:=hs
 exact ⟨Z,F,SA.fact hS (show fact Z w [] (.rd false (IP (κ:=κ) S) (.bool true) ([],[])) from ⟨[],⟨rfl,.nil⟩,fun _ h=>absurd h List.not_mem_nil⟩),hG⟩
theorem lkR {α:Type} {S:ah α} {q:Bool} {d:Nat} {x y:OO} {X:List (κ×List α)} [ht:NX P t κ bq ek] (hx:bx fr x=some v) (hy:bx fr y=some (ek a))
  (h1:dp Γ (.own (An ek (aJ e (ef n)) none) v U) Γ1) (hg:In (.rd false (IP S) (.bool true) (U,X)) Γ)
  (h:D P cx (.o q all l rk (.own (aJ e (ef n)) (xE U a).1 (xE U a).2 :: .own (An ek (aJ e (ef n)) (some a)) v U :: .rd false (qf S) (.bool true) ((xE U a).2,(jw X a).getD []) :: Γ1) ((d,(xE U a).1) :: fr) m)):D P cx (.e q (.lookup t x y false) (some d) ty all l rk Γ fr m):=by
 refine D.of ?_
 intro B o ho r w ha hs pos af g
 obtain ⟨kt,vt,kd,i,q1,q2,q3,q4,q5⟩:=ht.h
 obtain ⟨Z,F,hS,hG⟩:=hs
 obtain ⟨g0,hk,si⟩:=hg.rd hS []
 obtain ⟨f,F1,hp,⟨fm,f,rfl,hm,hB⟩,er⟩:=h1.sound hS
 refine da (v:=(xE U a).1) (fun w' hC=>Ms (ek:=ek) (uK:=(Prod.fst:Value×List (List Value)→Value)) (z:=(.slice none 0 0,[])) q3 q1 q2 q4 q5 (by rw [aY ha hx]; exact ah.ep _ hm hC fun _ _=>List.not_mem_nil) (aY ha hy)) (h.sound B o ho _ w (ba ha) ?_)
 obtain ⟨g1,e1,e2⟩:=hk.2.get a (.slice none 0 0)
 have fj:=SA.fact er (e:=.rd false (qf S) (.bool true) ((xE U a).2,(jw X a).getD [])) ⟨g1,e1,fun b hb=>si b (e2 b hb)⟩
 rcases hB.take rfl a with ⟨k1,k3⟩ | ⟨v',x',f1,f2,k1,k3,k4,k5⟩
 ·have hr:xE U a=(.slice none 0 0,[]):=by unfold xE; rw [k1]; rfl
  rw [hr] at fj
  rw [hr]
  exact ⟨Z,[]++((fm++f)++F1),SA.cons (SA.cons fj (show my Z w (fm++f) (.own (An ek (aJ e (ef n)) (some a)) v U) from ⟨fm,f,rfl,hm,k3⟩)) (show my Z w [] (.own (aJ e (ef n)) (.slice none 0 0) []) from ⟨none,0,rfl,.inl ⟨rfl,rfl,rfl,rfl⟩⟩),hG.perm hp⟩
 ·have hr:xE U a=(v',x'):=by unfold xE; rw [k1]; rfl
  rw [hr] at fj
  rw [hr]
  refine ⟨Z,f1++((fm++f2)++F1),SA.cons (SA.cons fj (show my Z w (fm++f2) (.own (An ek (aJ e (ef n)) (some a)) v U) from ⟨fm,f2,rfl,hm,k4⟩)) (show my Z w f1 (.own (aJ e (ef n)) v' x') from k3),hG.perm (.trans ?_ hp)⟩
  rw [← List.append_assoc,← List.append_assoc]
  refine List.Perm.append_right F1 (.trans ?_ (k5.append_left fm))
  rw [← List.append_assoc]
  exact List.perm_append_comm.append_right _
theorem puR {α:Type} {S:ah α} {x y z:OO} {v':Value} {X:List (κ×List α)} {us:List (List Value)} {xs:List α} [ht:NX P t κ bq ek] (hx:bx fr x=some v) (hy:bx fr y=some (ek a)) (hz:bx fr z=some v')
  (h0:dp Γ (.own (aJ e (ef n)) v' us) Γ1) (h1:dp Γ1 (.own (An ek (aJ e (ef n)) (some a)) v U) Γ2) (hg:In (.rd false (IP S) (.bool true) (U,X)) Γ) (jj:In (.rd false (qf S) (.bool true) (us,xs)) Γ)
  (h:D P cx (.o false all l rk (.own (An ek (aJ e (ef n)) none) v (qn U a (v',us)) :: .rd false (IP S) (.bool true) (qn U a (v',us),qn X a xs) :: Γ2) fr m)):D P cx (.e false (.mapUpdate t x y z) none ty all l rk Γ fr m):=by
 refine D.of ?_
 intro B o ho r w ha hs pos af g
 obtain ⟨kt,vt,kd,i,q1,q2,q3,q4,q5⟩:=ht.h
 obtain ⟨Z,F,hS,hG⟩:=hs
 obtain ⟨g0,hk,si⟩:=hg.rd hS []
 obtain ⟨g1,hk1,acG⟩:=jj.rd hS []
 obtain ⟨f,F1,hp,hO,er⟩:=h0.sound hS
 obtain ⟨f',F2,u7,⟨fm,f',rfl,hM,hB⟩,fj⟩:=h1.sound er
 obtain ⟨i,es,ck,rfl,e1,e2⟩:=Oh (P:=P) (d:=none) (ty:=ty) (pos:=pos) (af:=af) (g:=none) (ek:=ek) (uK:=(Prod.fst:Value×List (List Value)→Value)) (a:=a) (b:=(v',us)) (x:=x) (k:=y) (v:=z) (r:=r) q3 q1 q2 (by rw [aY ha hx]; exact hM) (aY ha hy) (aY ha hz)
 rw [aY ha hx] at e2
 obtain ⟨fb,Oi,S9⟩:=hB.put rfl hO
 obtain ⟨gg,VC,hgs⟩:=hk.2.put a v' hk1
 have oy:(([i]++fb)++F2).Perm F:=by
  refine .trans ?_ hp
  refine .trans ?_ (u7.append_left f)
  show List.Perm _ (f++(([i]++f')++F2))
  rw [← List.append_assoc f]
  refine List.Perm.append_right F2 (.trans (Oi.append_left [i]) ?_)
  rw [← List.append_assoc,← List.append_assoc]
  exact List.perm_append_comm.append_right _
 have ji:=hG.perm oy
 have de:=(List.nodup_append.1 (List.nodup_append.1 ji.nd).1)
 refine fi (WL.skip rfl e1 (h.sound B o ho _ _ ha (St.put (f:=[i]++fb) (f':=[i]++fb) (SA.fact fj (e:=.rd false (IP S) (.bool true) (qn U a (v',us),qn X a xs)) ⟨gg,⟨rfl,VC⟩,fun b hb=>(hgs b hb).elim (acG b) (si b)⟩) ji ?_ ⟨[i],fb,rfl,e2,S9.congr fun b hb=>?_⟩ (List.nodup_append.1 ji.nd).1 fun b hb=>.inl hb)))
 ·exact (aq.setObj _ _ _).mono fun b hb=>List.mem_append_left _ hb
 ·exact (aq.setObj w i _).block b (S9.lt b hb) fun hm=>de.2.2 i (by simp) b hb (List.mem_singleton.1 hm).symm
theorem clR (d:Nat) {op:Op} {pos:String} {af:Array Edge} (h0:dp Γ (.own (aJ e (ef n)) (xE U a).1 (xE U a).2) Γ1) (h1:dp Γ1 (.own (An ek (aJ e (ef n)) (some a)) v U) Γ2)
  (h:D P cx (.e false op (some d) ty all l rk (.own (An ek (aJ e (ef n)) none) v U :: Γ2) fr m)):D P cx (.o false all (⟨some d,op,ty,pos,af,none⟩ :: l) rk Γ fr m):=by
 refine D.of ?_
 intro B o ho r w ha hs
 refine (D.plain h).sound B o ho r w ha ?_
 obtain ⟨Z,F,hS,hG⟩:=hs
 obtain ⟨f,F1,hp,hO,er⟩:=h0.sound hS
 obtain ⟨f',F2,u7,⟨fm,f',rfl,hM,hB⟩,fj⟩:=h1.sound er
 obtain ⟨k,j,hpk,S9⟩:=hB.close rfl hO
 refine ⟨Z,(fm++k)++F2,SA.cons fj (show my Z w (fm++k) (.own (An ek (aJ e (ef n)) none) v U) from ⟨fm,k,rfl,hM,S9⟩),Gd.left (F':=j) (hG.perm ?_)⟩
 refine .trans ?_ hp
 refine .trans ?_ (u7.append_left f)
 show List.Perm _ (f++((fm++f')++F2))
 rw [← List.append_assoc f]
 refine .trans ?_ (List.Perm.append_right F2 (.trans (hpk.append_left fm) ?_))
 ·rw [List.append_assoc,← List.append_assoc fm,List.append_assoc (fm++k)]
  exact List.perm_append_comm.append_left _
 ·rw [← List.append_assoc,← List.append_assoc]
  exact List.perm_append_comm.append_right _
theorem crR {x:OO} [ht:NX P t κ bq ek] (hx:bx fr x=some v) (h2:dp Γ (.own (An ek (aJ e (ef n)) none) v U) Γ1)
  (h:D P cx (.o false all l rk (.own (An ek (aJ e (ef n)) none) v [] :: Γ1) fr m)):D P cx (.e false (.call ⟨.builtin .clear,#[x],#[t]⟩) none ty all l rk Γ fr m):=by
 refine D.of ?_
 intro B o ho r w ha hs pos af g
 obtain ⟨kt,vt,kd,i,q1,q2,q3,q4,q5⟩:=ht.h
 obtain ⟨Z,F,hS,hG⟩:=hs
 obtain ⟨f,F3,Ta,⟨fm,f',rfl,hM,hB⟩,hS3⟩:=h2.sound hS
 obtain ⟨i,ck,rfl,e1,e2⟩:=Qw (P:=P) (d:=none) (ty:=ty) (pos:=pos) (af:=af) (g:=none) (ek:=ek) (uK:=(Prod.fst:Value×List (List Value)→Value)) (x:=x) (r:=r) q1 (by rw [aY ha hx]; exact hM)
 rw [aY ha hx] at e2
 have ji:Gd B Z ([i]++F3) w:=Gd.left (F':=f') (hG.perm (by
  refine .trans ?_ Ta
  rw [List.append_assoc,List.append_assoc]
  exact List.perm_append_comm.append_left _))
 exact fi (WL.val rfl e1 (h.sound B o ho _ _ ha (St.put (f:=[i]) (f':=[i]) hS3 ji (aq.setObj _ _ _) ⟨[i],[],rfl,e2,.nil⟩ (by simp) fun b hb=>.inl hb)))
end
end Go.Dk
namespace Go.Dk
open Go Go.Li
theorem Uj {P:Program} {g:FuncId} {vs:LV} {Δ:QE} {β:Type} {m:Option β} {ow:Bool} {rt:β→Unit→List Value} (hc:Ct P g ow m vs Δ rt (fun _ _=>[])) {w:World} (hl:HL (fun b=>b < w.heap.size) w Δ []) {y:β} (hy:m=some y) :
  Calls P g vs.toArray w fun e w'=>e = .returned (pj (rt y ()))∧aq [] w w':=by
 rw [r7] at hc
 refine (hc.2 w _ [] hl List.nodup_nil (fun _ h=>absurd h List.not_mem_nil) (fun _ h=>h) y hy).mono ?_
 rintro e w' ⟨_,he,Z,F,_,hg⟩
 exact ⟨he,hg.jh⟩
theorem Uk {w:World} {α:Type} {T:ah α} {v:Value} {x:α} {f:LN} (h:T.rep w.heap [v] x f):fact (fun b=>b < w.heap.size) w [] (.rd false T v x):=⟨f,h,fun b hb=>T.lt h b hb⟩
end Go.Dk
