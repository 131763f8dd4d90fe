/- A region that draws its order: its head in any order, whatever it holds, its tail quiet and behind all of the head. No condition. -/
import Derived.Test.YtbhhmalgcnhniaaGreatDg
import Derived.Deep.Quiet
import Derived.Laws.Slices
import Derived.OrdersHeld
import Derived.Scope
namespace Go.Li
open Go
section
variable {P:Program} {n:Nat} {Q:Exit→(Nat→Value)→World→Prop} {r0:NV} {w0:World} {l:LO} {S:List fv}
def zA (l:LO) (m:Nat):Bool:=
 ((List.range l.length).all fun i=>((l.getD i default).after.toList.filter (Region.binds .any)).all fun e=>Nat.blt e.on i) &&
 ((List.range l.length).all fun i=>Nat.blt i m || (List.range m).all fun j=>((b9 l).getD i []).contains j) &&
 AK ((l.take m).filterMap (·.dst)) && Region.noSelect l.toArray && Region.lexFrom .any l.toArray (l.length - m) m (List.replicate m true++List.replicate (l.length - m) false).toArray
theorem JS {m:Nat} (h:zA l m=true):∀ (i:Nat) (o:Oper),l[i]? = some o→∀ e∈o.after.toList.filter (Region.binds .any),e.on < i:=by
 simp only [zA,Bool.and_eq_true,List.all_eq_true,List.mem_range] at h
 intro i o ho e he
 have hi:i < l.length:=(List.getElem?_eq_some_iff.1 ho).1
 have:=h.1.1.1.1 i hi e (by rw [List.getD_eq_getElem?_getD,ho]; exact he)
 exact Nat.lt_of_succ_le (Nat.le_of_ble_eq_true this)
theorem RC {m:Nat} {U:LL} {H:LN} {N:Nat→Prop} (hd:di n l=true) (hA:zA l m=true) (EX:m≤l.length)
  (hS:S.length=m)
  (hH:∀ b∈H,b < w0.heap.size) (hU:((List.range m).all fun i=>(U.getD i []).all fun u=>Nat.beq u l.length || ((b9 l).getD i []).contains u)=true)
  (hN:∀ b,N b→b < w0.heap.size∧b ∉ H)
  (qt:∀ (i:Nat) (s:fv),S[i]? = some s→∀ f F (w w':World) (r r':NV) v,an F w w'→(∀ b∈f,b ∉ F)→(∀ b∈F,¬ N b)→(∀ j∈(b9 l).getD i [],∀ t,bw l j=some t→r' t=r t)→s.V f w r v→s.V f w' r' v)
  (N5:∀ i,i < m→jx P l m S U r0 w0 H i)
  (next:∀ g r w,wY l m S U r0 w0 H (fun j=>j < m) g r w→QL P (an [] w) l (l.drop m) r fun r'=>∀ w',an [] w w'→Q .normal r' w') :
  nm P n l Q r0 w0:=by
 simp only [zA,Bool.and_eq_true,List.all_eq_true,List.mem_range,Bool.or_eq_true] at hA
 obtain ⟨⟨⟨⟨TR,TS⟩,TU⟩,Qu⟩,N6⟩:=hA
 have wC:∀ (i:Nat) (o:Oper),l[i]? = some o→∀ e∈o.after.toList.filter (Region.binds .any),e.on < i:=by
  intro i o ho e he
  have hi:i < l.length:=(List.getElem?_eq_some_iff.1 ho).1
  have:=TR i hi e (by rw [List.getD_eq_getElem?_getD,ho]; exact he)
  exact Nat.lt_of_succ_le (Nat.le_of_ble_eq_true this)
 have Ea:∀ i,m≤i→i < l.length→∀ j,j < m→j∈(b9 l).getD i []:=by
  intro i h1 h2 j hj
  rcases TS i h2 with h | h
  ·exact absurd (Nat.lt_of_succ_le (Nat.le_of_ble_eq_true h)) (Nat.not_lt.2 h1)
  ·have:=h j hj
   simpa using this
 have TV:∀ i,i < m→∀ u∈U.getD i [],u=l.length∨u∈(b9 l).getD i []:=by
  intro i hi u hu
  simp only [List.all_eq_true,List.mem_range] at hU
  have:=hU i hi u hu
  simpa using this
 have dt:=EY _ (yn TU)
 have p4:=AL l wC
 intro a h1 h2 h3
 let Cl (L:Array Bool):Prop:=L.size=l.length∧∀ j o,l[j]? = some o→L.getD j false=true→∀ e∈o.after.toList.filter (Region.binds .any),L.getD e.on false=true
 have iv:∀ L,Cl L→∀ i j,(∀ o,l[i]? = some o→∀ e∈o.after.toList.filter (Region.binds .any),L.getD e.on false=true)→j∈(b9 l).getD i []→L.getD j false=true:=by
  intro L hL i
  induction i using Nat.strongRecOn with
  | _ i ih=>
   intro j hi hj
   obtain ⟨_,o,ho,e,he,GJ⟩:=p4 i j hj
   have hl:=hi o ho e he
   rcases GJ with rfl | GJ
   ·exact hl
   ·exact ih e.on (wC i o ho e he) j (fun o' cc e' tY=>hL.2 _ _ cc hl e' tY) GJ
 have B9:∀ L i,i∈Region.ready .any l.toArray L→L.getD i true=false∧∃ o,l[i]? = some o∧∀ e∈o.after.toList.filter (Region.binds .any),L.getD e.on false=true:=by
  intro L i hi
  obtain ⟨g1,o,ho,dx⟩:=mem_ready.1 hi
  refine ⟨g1,o,by simpa using ho,fun e he=>?_⟩
  have:=List.mem_filter.1 he
  exact dx e (by simpa using this.1) this.2
 have C6:∀ L i o,L.size=l.length→l[i]? = some o→L.getD i false=false→(∀ e∈o.after.toList.filter (Region.binds .any),L.getD e.on false=true)→i∈Region.ready .any l.toArray L:=by
  intro L i o hs ho hu dx
  refine mem_ready.2 ⟨?_,o,by simpa using ho,fun e he hb=>dx e (List.mem_filter.2 ⟨by simpa using he,hb⟩)⟩
  have hi:i < L.size:=by rw [hs]; exact (List.getElem?_eq_some_iff.1 ho).1
  simp [hi] at hu ⊢; exact hu
 have Fz:∀ L i o,Cl L→l[i]? = some o→(∀ e∈o.after.toList.filter (Region.binds .any),L.getD e.on false=true)→Cl (L.setIfInBounds i true):=by
  intro L i o hL ho dx
  refine ⟨by rw [Array.size_setIfInBounds]; exact hL.1,fun j o' cc hj e he=>?_⟩
  by_cases uZ:i=j
  ·subst uZ
   have:o'=o:=Option.some.inj (cc.symm.trans ho)
   subst this
   exact getD_set_true (dx e he)
  ·rw [getD_set_ne false uZ] at hj
   exact getD_set_true (hL.2 j o' cc hj e he)
 have getSet:∀ (L:Array Bool) i j,L.size=l.length→i < l.length→((L.setIfInBounds i true).getD j false=true↔j=i∨L.getD j false=true):=by
  intro L i j hs hi
  by_cases uZ:i=j
  ·subst uZ
   simp [hs,hi]
  ·rw [getD_set_ne false uZ]
   constructor
   ·exact .inr
   ·rintro (h | h)
    ·exact absurd h.symm uZ
    ·exact h
 have GK:∀ (L:Array Bool) i,L.size=l.length→i < l.length→L.getD i false=false→(L.setIfInBounds i true).toList.count false+1=L.toList.count false:=by
  intro L i hs hi hu
  have tU:i < L.toList.length:=by simpa [hs] using hi
  have Ca:L.toList[i]=false:=by
   rw [Array.getElem_toList]
   simp [hs,hi] at hu
   exact hu
  rw [Array.toList_setIfInBounds,List.count_set tU,Ca]
  have:0 < L.toList.count false:=List.count_pos_iff.2 (by rw [← Ca]; exact List.getElem_mem tU)
  rw [if_pos (by rfl),if_neg (by decide)]
  omega
 have iq:di n (l.drop m)=true:=by
  simp only [di,List.all_eq_true] at hd ⊢
  exact fun o ho=>hd o (List.mem_of_mem_drop ho)
 have tail:∀ (fuel:Nat) (L:Array Bool) (a:Act) (w:World),Cl L→(∀ j,L.getD j false=true↔j < m)→L.toList.count false=fuel→a.tmps.size=n→a.defers=[]→
   (QL P (an [] w) l (l.drop m) (ch a) fun r'=>∀ w',an [] w w'→Q .normal r' w')→wpAny P .any l.toArray (fun e a' w'=>a'.tmps.size=n∧a'.defers=[]∧Q e (ch a') w') fuel L a w:=by
  intro fuel L a w hL gu hf g1 g2 hq
  have Yj:L=(List.replicate m true++List.replicate (l.length - m) false).toArray:=by
   apply Array.ext
   ·simp [hL.1]; omega
   ·intro i hi hj
    have h1:=gu i
    simp only [Array.getD_eq_getD_getElem?,Array.getElem?_eq_getElem hi,Option.getD_some] at h1
    have e:(List.replicate m true++List.replicate (l.length - m) false).toArray[i]'hj=decide (i < m):=by
     simp only [List.getElem_toArray,List.getElem_append,List.getElem_replicate,List.length_replicate]
     split
     ·rename_i h; simp [h]
     ·rename_i h; simp [h]
    rw [e]
    cases hb:L[i] with
    | false=>exact (decide_eq_false fun h=>by have:=h1.2 h; rw [hb] at this; cases this).symm
    | true=>exact (decide_eq_true (h1.1 hb)).symm
  have TW:fuel=l.length - m:=by
   rw [← hf,Yj]
   simp [List.count_append,List.count_replicate]
  have q1:=QL.wpQuiet (n:=n) (l:=l) (l.drop m) a hd iq g1 g2 hq
  have q2:=wpAnyQ_lex (md:=.any) Qu (l.drop m) m L a (fun j=>by simp [List.getElem?_drop]) (by rw [Yj,List.length_drop]; exact N6) q1
  refine wpAny_of_quiet (C:=an [] w) (Q:=fun a'=>a'.tmps.size=n∧a'.defers=[]∧∀ w',an [] w w'→Q .normal (ch a') w') (fun a' w' AM hh=>⟨hh.1,hh.2.1,hh.2.2 w' AM⟩) _ _ _ _ (an.refl _ _) ?_
  rw [TW,← List.length_drop]
  exact q2
 have head:∀ (fuel:Nat) (L:Array Bool) (a:Act) (w:World) (g:Nat→List Nat),Cl L→(∀ j,L.getD j false=true→j < m)→L.toList.count false=fuel→a.tmps.size=n→a.defers=[]→
   wY l m S U r0 w0 H (fun j=>L.getD j false=true) g (ch a) w→wpAny P .any l.toArray (fun e a' w'=>a'.tmps.size=n∧a'.defers=[]∧Q e (ch a') w') fuel L a w:=by
  intro fuel
  induction fuel with
  | zero=>
   intro L a w g hL uD hf g1 g2 inv
   have dx:∀ j,j < l.length→L.getD j false=true:=by
    intro j hj
    cases hb:L.getD j false with
    | true=>rfl
    | false=>have:=GK L j hL.1 hj hb; omega
   have gu:∀ j,L.getD j false=true↔j < m:=fun j=>⟨uD j,fun h=>dx j (by omega)⟩
   refine tail 0 L a w hL gu hf g1 g2 (next g _ _ ?_)
   exact ⟨inv.j9,fun hk=>inv.AN fun k wZ=>hk k ((gu k).1 wZ),inv.vg,fun j hj=>inv.vd j ((gu j).2 hj),fun j hj hk=>inv.done j ((gu j).2 hj) (fun k wZ=>hk k ((gu k).1 wZ)),fun j hj=>inv.tc j ((gu j).2 hj),inv.other,fun j hj b hb=>⟨(inv.fresh j ((gu j).2 hj) b hb).1.imp (fun h=>h) fun h=>⟨h.1,h.2.imp fun k hk=>⟨(gu k).1 hk.1,hk.2⟩⟩,(inv.fresh j ((gu j).2 hj) b hb).2⟩,fun i j hi hj=>inv.wq i j ((gu i).2 hi) ((gu j).2 hj)⟩
  | succ fuel ih=>
   intro L a w g hL uD hf g1 g2 inv
   by_cases dx:∀ j,j < m→L.getD j false=true
   ·have gu:∀ j,L.getD j false=true↔j < m:=fun j=>⟨uD j,dx j⟩
    refine tail _ L a w hL gu hf g1 g2 (next g _ _ ?_)
    exact ⟨inv.j9,fun hk=>inv.AN fun k wZ=>hk k ((gu k).1 wZ),inv.vg,fun j hj=>inv.vd j ((gu j).2 hj),fun j hj hk=>inv.done j ((gu j).2 hj) (fun k wZ=>hk k ((gu k).1 wZ)),fun j hj=>inv.tc j ((gu j).2 hj),inv.other,fun j hj b hb=>⟨(inv.fresh j ((gu j).2 hj) b hb).1.imp (fun h=>h) fun h=>⟨h.1,h.2.imp fun k hk=>⟨(gu k).1 hk.1,hk.2⟩⟩,(inv.fresh j ((gu j).2 hj) b hb).2⟩,fun i j hi hj=>inv.wq i j ((gu i).2 hi) ((gu j).2 hj)⟩
   ·obtain ⟨j0,Qv,EZ⟩ : ∃ j,j < m∧L.getD j false=false:=by
     apply Classical.byContradiction
     intro sd
     apply dx
     intro j hj
     cases hb:L.getD j false with
     | true=>rfl
     | false=>exact absurd ⟨j,hj,hb⟩ sd
    have JT:∃ i,i∈Region.ready .any l.toArray L:=by
     have:∀ k,(∃ j,j < k∧j < m∧L.getD j false=false)→∃ i,i∈Region.ready .any l.toArray L:=by
      intro k
      induction k with
      | zero=>rintro ⟨j,h,_⟩; omega
      | succ k CW=>
       rintro ⟨j,LF,AO,se⟩
       by_cases Cv:∃ j,j < k∧j < m∧L.getD j false=false
       ·exact CW Cv
       ·obtain rfl:j=k:=by
         apply Classical.byContradiction
         intro h
         exact Cv ⟨j,by omega,AO,se⟩
        have E0:j < l.length:=by omega
        refine ⟨j,C6 L j l[j] hL.1 (List.getElem?_eq_getElem E0) se fun e he=>?_⟩
        have bh:=wC j _ (List.getElem?_eq_getElem E0) e he
        cases hb:L.getD e.on false with
        | true=>rfl
        | false=>exact absurd ⟨e.on,bh,by omega,hb⟩ Cv
     exact this (j0+1) ⟨j0,by omega,Qv,EZ⟩
    have main:∀ i oi,i < m→l[i]? = some oi→L.getD i false=false→(∀ e∈oi.after.toList.filter (Region.binds .any),L.getD e.on false=true)→
      (Region.wanted oi (yl l (ch a))=true∧gf P oi (ch a) w fun v w'=>wpAny P .any l.toArray (fun e a' w'=>a'.tmps.size=n∧a'.defers=[]∧Q e (ch a') w') fuel (L.setIfInBounds i true) (a.put oi.dst v) w')∨
      (Region.wanted oi (yl l (ch a))=false∧wpAny P .any l.toArray (fun e a' w'=>a'.tmps.size=n∧a'.defers=[]∧Q e (ch a') w') fuel (L.setIfInBounds i true) (a.put oi.dst undef) w):=by
     intro i oi uE mh uF uG
     have fc:i < l.length:=(List.getElem?_eq_some_iff.1 mh).1
     have l9:∀ o,l[i]? = some o→∀ e∈o.after.toList.filter (Region.binds .any),L.getD e.on false=true:=fun o' cc=>by
      have:o'=oi:=Option.some.inj (cc.symm.trans mh)
      subst this; exact uG
     obtain ⟨s,hs⟩ : ∃ s,S[i]? = some s:=⟨S[i]'(by omega),List.getElem?_eq_getElem (by omega)⟩
     have hc:=GK L i hL.1 fc uF
     have Cb:=Fz L i oi hL mh uG
     have TX:∀ j,(L.setIfInBounds i true).getD j false=true→j < m:=by
      intro j hj
      rcases (getSet L i j hL.1 fc).1 hj with rfl | hj
      ·exact uE
      ·exact uD j hj
     have C7:∀ k,L.getD k false=true→k≠i∧i ∉ (b9 l).getD k []:=by
      intro k hk
      refine ⟨fun h=>(by rw [h,uF] at hk; cases hk),fun uY=>?_⟩
      have:=iv L hL k i (fun o' cc e' tY=>hL.2 k o' cc hk e' tY) uY
      rw [uF] at this; cases this
     have ow:=N5 i uE oi s mh hs g (ch a) w inv.j9 (fun hV=>by
       have sd:∀ k,L.getD k false=true→l.length ∉ U.getD k []:=fun k hk GL=>by
        simp only [zu,List.all_eq_true,List.mem_range,Bool.or_eq_true,Bool.not_eq_true',List.contains_eq_mem,decide_eq_false_iff_not,decide_eq_true_eq] at hV
        rcases hV k (uD k hk) with (h | h) | h
        ·exact h GL
        ·exact (C7 k hk).1 (Nat.eq_of_beq_eq_true h)
        ·exact (C7 k hk).2 h
       have h0:=inv.AN sd
       exact ⟨h0.1,h0.2,fun j hj b hb=>(inv.fresh j (iv L hL i j l9 hj) b hb).1.elim (fun h=>h) fun h=>absurd h.2.choose_spec.2 (sd _ h.2.choose_spec.1)⟩) (fun j hj=>inv.tc j (iv L hL i j l9 hj)) (fun j hj=>by
       simp only [tF,Bool.and_eq_true,List.all_eq_true,List.mem_range,Bool.or_eq_true,Bool.not_eq_true',List.contains_eq_mem,decide_eq_false_iff_not,decide_eq_true_eq] at hj
       refine inv.done j (iv L hL i j l9 hj.1) fun k hk LF=>?_
       rcases hj.2 k (uD k hk) with (h | h) | h
       ·exact h LF
       ·exact (C7 k hk).1 (Nat.eq_of_beq_eq_true h)
       ·exact (C7 k hk).2 h) inv.other
      (fun i' tU j' gx=>inv.wq i' j' (iv L hL i i' l9 tU) (iv L hL i j' l9 gx))
      (fun j hj b hb=>⟨(inv.fresh j (iv L hL i j l9 hj) b hb).1.imp (fun h=>h) (·.1),(inv.fresh j (iv L hL i j l9 hj) b hb).2⟩)
     have hblk:∀ b∈qo g (U.getD i []),(∃ u,u∈U.getD i []∧L.getD u false=true∧b∈g u)∨(l.length∈U.getD i []∧b∈g l.length):=by
      intro b hb
      obtain ⟨u,hu,fk⟩:=List.mem_flatMap.1 hb
      rcases TV i uE u hu with rfl | h
      ·exact .inr ⟨hu,fk⟩
      ·exact .inl ⟨u,hu,iv L hL i u l9 h,fk⟩
     have E2:∀ k',oi.dst=some k'→k' < a.tmps.size:=by
      intro k' Az
      have uY:oi∈l:=List.mem_of_getElem? mh
      simp only [di,List.all_eq_true] at hd
      have:=hd oi uY
      rw [Az] at this
      rw [g1]
      exact Nat.lt_of_succ_le (Nat.le_of_ble_eq_true this)
     have yE:bw l i=oi.dst:=by unfold bw; rw [mh]; rfl
     have qd:∀ v t,(oi.dst≠some t)→ch (a.put oi.dst v) t=ch a t:=by
      intro v t ht
      rw [kp E2]
      cases w3:oi.dst with
      | none=>rfl
      | some d=>
       show (bif Nat.beq t d then v else ch a t)=ch a t
       cases hb:Nat.beq t d with
       | false=>rfl
       | true=>exact absurd (by rw [w3,Nat.eq_of_beq_eq_true hb]) ht
     have GM:∀ v d,oi.dst=some d→ch (a.put oi.dst v) d=v:=by
      intro v d w3
      rw [kp E2,w3]
      show (bif Nat.beq d d then v else ch a d)=v
      rw [Nat.beq_refl]; rfl
     have step:∀ v w' f,an (qo g (U.getD i [])) w w'→(∀ b∈f,(b∈qo g (U.getD i [])∨w.heap.size≤b)∧b < w'.heap.size)→(if s.b then s.V f w' (ch a) v else v=undef)→
       wpAny P .any l.toArray (fun e a' w'=>a'.tmps.size=n∧a'.defers=[]∧Q e (ch a') w') fuel (L.setIfInBounds i true) (a.put oi.dst v) w':=by
      intro v w' f hC wW hV
      have s8:∀ j',j' < m→j'≠i→∀ t,bw l j'=some t→ch (a.put oi.dst v) t=ch a t:=by
       intro j' gx qc t ht
       refine qd v t fun h=>qc (dt j' i t ?_ ?_)
       ·rw [jz gx]; exact ht
       ·rw [jz uE,yE]; exact h
      have LG:∀ b∈qo g (U.getD i []),¬ N b:=fun b hb hn=>by
       rcases hblk b hb with ⟨u,_,oh,fk⟩ | ⟨_,fk⟩
       ·rcases (inv.fresh u oh b fk).1 with h | h
        ·have:=(hN b hn).1; omega
        ·exact (hN b hn).2 h.1
       ·exact (hN b hn).2 (inv.vg b fk)
      refine ih _ _ _ (fun j=>if j=i then f else if j∈U.getD i [] then [] else g j) Cb TX (by omega) (by rw [jq]; exact g1) (by rw [gw]; exact g2)
       ⟨inv.j9.then hC fun b hb=>(by
        rcases hblk b hb with ⟨u,_,oh,fk⟩ | ⟨_,fk⟩
        ·exact (inv.fresh u oh b fk).1.elim .inr fun h=>.inl h.1
        ·exact .inl (inv.vg b fk)),fun sd=>?_,?_,fun j hj=>?_,?_,fun j hj d tX sj r5=>?_,?_,?_,?_⟩
      ·have vJ:l.length ∉ U.getD i []:=sd i ((getSet L i i hL.1 fc).2 (.inl rfl))
       have h0:=inv.AN fun k hk=>sd k ((getSet L i k hL.1 fc).2 (.inr hk))
       refine ⟨h0.1.then hC fun b hb=>?_,?_⟩
       ·rcases hblk b hb with ⟨u,_,oh,fk⟩ | ⟨h,_⟩
        ·exact (inv.fresh u oh b fk).1.elim .inr fun ⟨_,k,hk,GL⟩=>absurd GL (sd k ((getSet L i k hL.1 fc).2 (.inr hk)))
        ·exact absurd h vJ
       ·show (if l.length=i then f else if l.length∈U.getD i [] then [] else g l.length)=H
        rw [if_neg (by omega),if_neg vJ]
        exact h0.2
      ·intro b hb
       have cg:b∈(if l.length=i then f else if l.length∈U.getD i [] then [] else g l.length):=hb
       rw [if_neg (by omega)] at cg
       split at cg
       ·cases cg
       ·exact inv.vg b cg
      ·intro b hb hv
       have nt:b∈(if l.length=i then f else if l.length∈U.getD i [] then [] else g l.length):=hv
       rw [if_neg (by omega)] at nt
       split at nt
       ·cases nt
       ·rename_i TY
        have cg:b∈(if j=i then f else if j∈U.getD i [] then [] else g j):=hb
        split at cg
        ·rcases (wW b cg).1 with h | h
         ·rcases hblk b h with ⟨u,_,oh,fk⟩ | ⟨h,_⟩
          ·exact inv.vd u oh b fk nt
          ·exact TY h
         ·have h1:=hH b (inv.vg b nt)
          have h2:=inv.j9.size
          omega
        ·rename_i j4
         split at cg
         ·cases cg
         ·exact inv.vd j (((getSet L i j hL.1 fc).1 hj).resolve_left j4) b cg nt
      ·intro j hj sf
       refine ⟨fun d tX=>?_,fun TZ sj r5 LH=>?_⟩
       rotate_left
       ·by_cases j4:j=i
        ·subst j4
         rw [hs] at r5
         cases r5
         rw [if_pos LH] at hV
         refine ⟨v,?_⟩
         simp only [if_pos]
         exact qt j s hs _ [] w' w' (ch a) _ v (an.refl _ _) (fun _ _ h=>nomatch h) (fun _ h=>nomatch h) (fun j' gx t ht=>s8 j' (by have:=(p4 j j' gx).1; omega) (by have:=(p4 j j' gx).1; omega) t ht) hV
        ·have ma:=((getSet L i j hL.1 fc).1 hj).resolve_left j4
         have se:j ∉ U.getD i []:=sf i ((getSet L i i hL.1 fc).2 (.inl rfl))
         obtain ⟨x,hx⟩:=(inv.done j ma (fun k hk=>sf k ((getSet L i k hL.1 fc).2 (.inr hk)))).2 TZ sj r5 LH
         have l7:(fun j=>if j=i then f else if j∈U.getD i [] then [] else g j) j=g j:=by
          show (if j=i then f else if j∈U.getD i [] then [] else g j)=g j
          rw [if_neg j4,if_neg se]
         rw [l7]
         refine ⟨x,qt j sj r5 _ _ _ _ (ch a) _ _ hC (fun b cg GN=>?_) LG (fun j' gx t ht=>s8 j' (by have:=(p4 j j' gx).1; have:=uD j ma; omega) (fun h=>?_) t ht) hx⟩
         ·rcases hblk b GN with ⟨u,AP,oh,fk⟩ | ⟨_,fk⟩
          ·exact inv.wq j u ma oh (fun h=>se (h ▸ AP)) b cg fk
          ·exact inv.vd j ma b cg fk
         ·subst h
          have:=iv L hL j j' (fun o' cc e' tY=>hL.2 j o' cc ma e' tY) gx
          rw [uF] at this; cases this
       by_cases j4:j=i
       ·subst j4
        rw [hs]
        simp only [if_pos]
        rw [yE] at tX
        rw [GM v d tX]
        split
        ·rename_i hb
         rw [if_pos hb] at hV
         exact qt j s hs _ [] w' w' (ch a) _ v (an.refl _ _) (fun _ _ h=>nomatch h) (fun _ h=>nomatch h) (fun j' gx t ht=>s8 j' (by have:=(p4 j j' gx).1; omega) (by have:=(p4 j j' gx).1; omega) t ht) hV
        ·rename_i hb
         rw [if_neg hb] at hV
         exact hV
       ·have ma:=((getSet L i j hL.1 fc).1 hj).resolve_left j4
        have AO:=uD j ma
        have se:j ∉ U.getD i []:=sf i ((getSet L i i hL.1 fc).2 (.inl rfl))
        have w3:oi.dst≠some d:=by
         intro h
         apply j4
         refine dt j i d ?_ ?_
         ·rw [jz AO]; exact tX
         ·rw [jz uE,yE]; exact h
        have:=(inv.done j ma (fun k hk=>sf k ((getSet L i k hL.1 fc).2 (.inr hk)))).1 d tX
        rw [qd v d w3]
        have l7:(fun j=>if j=i then f else if j∈U.getD i [] then [] else g j) j=g j:=by
         show (if j=i then f else if j∈U.getD i [] then [] else g j)=g j
         rw [if_neg j4,if_neg se]
        rw [l7]
        cases r5:S[j]? with
        | none=>trivial
        | some sj=>
         rw [r5] at this
         simp only [] at this ⊢
         split
         ·rename_i hb
          rw [if_pos hb] at this
          refine qt j sj r5 _ _ _ _ (ch a) _ _ hC (fun b cg GN=>?_) LG (fun j' gx t ht=>s8 j' (by have:=(p4 j j' gx).1; omega) (fun h=>?_) t ht) this
          rotate_left
          ·subst h
           have:=iv L hL j j' (fun o' cc e' tY=>hL.2 j o' cc ma e' tY) gx
           rw [uF] at this; cases this
          rcases hblk b GN with ⟨u,AP,oh,fk⟩ | ⟨_,fk⟩
          ·exact inv.wq j u ma oh (fun h=>se (h ▸ AP)) b cg fk
          ·exact inv.vd j ma b cg fk
         ·rename_i hb
          rw [if_neg hb] at this
          exact this
      ·by_cases j4:j=i
       ·subst j4
        rw [hs] at r5
        cases r5
        rw [yE] at tX
        rw [GM v d tX]
        split
        ·rename_i hb
         rw [if_pos hb] at hV
         exact ⟨f,w',qt j s hs _ [] w' w' (ch a) _ v (an.refl _ _) (fun _ _ h=>nomatch h) (fun _ h=>nomatch h) (fun j' gx t ht=>s8 j' (by have:=(p4 j j' gx).1; omega) (by have:=(p4 j j' gx).1; omega) t ht) hV⟩
        ·rename_i hb
         rw [if_neg hb] at hV
         exact hV
       ·have ma:=((getSet L i j hL.1 fc).1 hj).resolve_left j4
        have AO:=uD j ma
        have w3:oi.dst≠some d:=by
         intro h
         apply j4
         refine dt j i d ?_ ?_
         ·rw [jz AO]; exact tX
         ·rw [jz uE,yE]; exact h
        have:=inv.tc j ma d tX sj r5
        rw [qd v d w3]
        split
        ·rename_i hb
         rw [if_pos hb] at this
         obtain ⟨f1,w1,h1⟩:=this
         refine ⟨f1,w1,qt j sj r5 _ [] w1 w1 (ch a) _ _ (an.refl _ _) (fun _ _ h=>nomatch h) (fun _ h=>nomatch h) (fun j' gx t ht=>s8 j' (by have:=(p4 j j' gx).1; omega) (fun h=>?_) t ht) h1⟩
         subst h
         have:=iv L hL j j' (fun o' cc e' tY=>hL.2 j o' cc ma e' tY) gx
         rw [uF] at this; cases this
        ·rename_i hb
         rw [if_neg hb] at this
         exact this
      ·intro t ht
       rw [qd v t (fun h=>ht i uE (by rw [yE]; exact h))]
       exact inv.other t ht
      ·intro j hj b hb
       by_cases j4:j=i
       ·simp only [if_pos j4] at hb
        have hh:=wW b hb
        have uy:=inv.j9.size
        rcases hh.1 with h | h
        ·rcases hblk b h with ⟨u,_,oh,fk⟩ | ⟨hv,fk⟩
         ·exact ⟨(inv.fresh u oh b fk).1.imp (fun h=>h) fun h=>⟨h.1,h.2.imp fun k hk=>⟨(getSet L i k hL.1 fc).2 (.inr hk.1),hk.2⟩⟩,hh.2⟩
         ·exact ⟨.inr ⟨inv.vg b fk,i,(getSet L i i hL.1 fc).2 (.inl rfl),hv⟩,hh.2⟩
        ·exact ⟨.inl (by omega),hh.2⟩
       ·have ma:=((getSet L i j hL.1 fc).1 hj).resolve_left j4
        simp only [if_neg j4] at hb
        split at hb
        ·cases hb
        ·have h1:=inv.fresh j ma b hb
         have h2:=hC.size
         exact ⟨h1.1.imp (fun h=>h) fun h=>⟨h.1,h.2.imp fun k hk=>⟨(getSet L i k hL.1 fc).2 (.inr hk.1),hk.2⟩⟩,by omega⟩
      ·have w4:∀ j',(L.setIfInBounds i true).getD j' false=true→j'≠i→∀ b∈f,b ∉ (if j'∈U.getD i [] then [] else g j'):=by
        intro j' gx e2 b hb cg
        have GO:=((getSet L i j' hL.1 fc).1 gx).resolve_left e2
        split at cg
        ·cases cg
        ·rename_i se
         rcases (wW b hb).1 with h | h
         ·rcases hblk b h with ⟨u,AP,oh,fk⟩ | ⟨_,fk⟩
          ·exact inv.wq u j' oh GO (fun h=>se (h ▸ AP)) b fk cg
          ·exact inv.vd j' GO b cg fk
         ·have:=inv.fresh j' GO b cg
          omega
       intro i' j' tU gx qc b hb cg
       by_cases e1:i'=i
       ·have e2:j'≠i:=fun h=>qc (e1.trans h.symm)
        simp only [if_pos e1] at hb
        simp only [if_neg e2] at cg
        exact w4 j' gx e2 b hb cg
       ·simp only [if_neg e1] at hb
        by_cases e2:j'=i
        ·simp only [if_pos e2] at cg
         exact w4 i' tU e1 b cg hb
        ·simp only [if_neg e2] at cg
         split at hb
         ·cases hb
         ·split at cg
          ·cases cg
          ·exact inv.wq i' j' (((getSet L i i' hL.1 fc).1 tU).resolve_left e1) (((getSet L i j' hL.1 fc).1 gx).resolve_left e2) qc b hb cg
     cases hb:s.b with
     | true=>
      rw [if_pos hb] at ow
      refine .inl ⟨ow.1,rj ow.2 ?_⟩
      rintro v w' ⟨hC,f,wW,hV⟩
      exact step v w' f hC wW (by rw [if_pos hb]; exact hV)
     | false=>
      rw [if_neg (by rw [hb]; exact Bool.false_ne_true)] at ow
      exact .inr ⟨ow,step undef w [] (an.refl _ _) (fun b h=>nomatch h) (by rw [if_neg (by rw [hb]; exact Bool.false_ne_true)])⟩
    refine ⟨fun h=>(by obtain ⟨i,hi⟩:=JT; rw [h] at hi; cases hi),fun i hi=>?_⟩
    obtain ⟨q1,oi,mh,uG⟩:=B9 L i hi
    have fc:i < l.length:=(List.getElem?_eq_some_iff.1 mh).1
    have uF:L.getD i false=false:=getD_both q1
    have uE:i < m:=by
     rcases Nat.lt_or_ge i m with h | h
     ·exact h
     ·have hj:=Ea i h fc j0 Qv
      have:=iv L hL i j0 (fun o' cc=>by have:o'=oi:=Option.some.inj (cc.symm.trans mh); subst this; exact uG) hj
      rw [EZ] at this; cases this
    unfold wpOp
    rw [show (l.toArray)[i]? = some oi by simpa using mh]
    simp only []
    rw [zB (by rw [g1]; exact hd)]
    rcases main i oi uE mh uF uG with ⟨hw,h⟩ | ⟨hw,h⟩
    ·rw [if_pos hw]
     exact .inl (h.wp fun v w' hv=>hv)
    ·rw [if_neg (by rw [hw]; exact Bool.false_ne_true)]
     exact h
 refine head _ _ a _ (fun j=>if j=l.length then H else []) ⟨by simp,?_⟩ ?_ ?_ h1 h2 ⟨an.nil (an.drew _ _),fun _=>⟨an.drew _ _,by simp⟩,fun b hb=>by simpa using hb,?_,?_,?_,?_,?_,?_⟩
 ·intro j o ho hj
  rw [getD_replicate_false] at hj; cases hj
 ·intro j hj
  rw [getD_replicate_false] at hj; cases hj
 ·simp
 ·intro j hj
  rw [getD_replicate_false] at hj; cases hj
 ·intro j hj
  rw [getD_replicate_false] at hj; cases hj
 ·intro j hj
  rw [getD_replicate_false] at hj; cases hj
 ·intro t _
  rw [h3]
 ·intro j hj
  rw [getD_replicate_false] at hj; cases hj
 ·intro i j hi
  rw [getD_replicate_false] at hi; cases hi
end
end Go.Li
namespace Go.Dk
open Go Go.Li
section
variable {R S:Type} {P:Program} {cx:Cx R} {K:de R S} {l tail:LO} {base fr:Fr} {w:World} {Z:Nat→Prop}
theorem N8 {mt id:Nat} {U:LL} {Ly:QE} (hU:((List.range mt).all fun i=>(U.getD i []).all fun u=>Nat.beq u l.length || ((b9 l).getD i []).contains u)=true) (hh:mm l mt base=true) (hd:di cx.n l=true) (hA:zA l mt=true) (EX:mt≤l.length) (ht:tail=l.drop mt) {i:Nat} {sl:LQ} {ms:MM} {Γ:QE} {m:Option (Out S R)} (Lz:AF ms=true) (ql:Cs U sl ms=true)
  (h:∀ x:qy ms,D P cx (.p (zp sl (mF ms x)) (Cq ms x) base Γ fun fr Γ=>.tg true (Ax tail) l tail K Γ fr m)):JL P cx K l l mt U Ly id base (.a [] [] i sl ms Γ m):=by
 rintro ⟨_,h2,h3⟩ B o ho r0 w0 H Z ha hs ⟨S',hl,hR,hO⟩
 have hi:i=mt:=by
  have:=congrArg List.length h2
  simp at this
  omega
 subst hl
 obtain ⟨F,Hd,⟨B5,B6,wX,B7⟩,hS,hG⟩:=hs
 refine RC (N:=Z) (S:=S') (U:=U) (H:=H) hd hA EX hi wX hU (fun b hb=>⟨hG.tb b hb,fun h=>hG.apart b (List.mem_append_left _ h) hb⟩) (fun i s hs=>hR.s i s hs) (fun j hj=>hO j (by omega)) ?_
 intro g r w hI
 have JM:∀ k j,j∈U.getD k []→∀ a∈ms,a.j≠j:=by
  intro k j hj
  unfold Cs at ql
  rw [Bool.and_eq_true] at ql
  rw [List.getD_eq_getElem?_getD] at hj
  cases hk:U[k]? with
  | none=>rw [hk] at hj; exact absurd hj List.not_mem_nil
  | some us=>
   rw [hk] at hj
   have h1:=List.all_eq_true.1 (List.all_eq_true.1 ql.1 us (List.mem_of_getElem? hk)) j hj
   intro a ha he
   have:=List.all_eq_true.1 h1 a ha
   rw [he,Nat.beq_refl] at this
   cases this
 have hD:∀ j,j < mt→(∀ k,j ∉ U.getD k [])→wV l S' j g r w:=fun j hj hn=>hI.done j hj fun k _=>hn k
 have bh:∀ a∈ms,a.j < mt:=fun a ha=>hi ▸ hR.lt ha
 obtain ⟨x,hx,td,TD⟩:=Qq (g:=g) (r:=r) (w:=w) Lz hR.d (fun a ha b hb wo=>hI.wq _ _ (bh a ha) (bh b hb) wo) fun a ha=>by
  have:=hR.Gr (S2:=[]) ha (by rw [List.append_nil]; exact hD a.j (bh a ha) (fun k hk=>JM k _ hk a ha rfl))
  exact this
 have C2:=List.nodup_append.1 hG.nd
 have qd:∀ b∈zv g ms,w0.heap.size≤b∨b∈H:=fun b hb=>by
  obtain ⟨a,h1,h2⟩:=Cu hb
  exact (hI.fresh a.j (bh a h1) b h2).1.imp (fun h=>h) (·.1)
 have ik:=tA.stay hS hG hI.j9
 obtain ⟨Vo,Vr,TE,TF,td⟩:=td
 obtain ⟨F',hp,jf⟩:=td.build (ik.mono (fun _ h=>.inl h) fun _ h=>h)
 have GC:Gd B Z (zv g ms++F) w:=by
  refine ⟨xT TD C2.2.1 fun b hb hF=>(qd b hb).elim (fun h=>Nat.lt_irrefl _ (Nat.lt_of_lt_of_le (hS.lt b hF) h)) (fun h=>C2.2.2 b h b hF rfl),?_,fun b hb=>Nat.lt_of_lt_of_le (hG.tb b hb) hI.j9.size,?_,hG.xK,hG.yi,hG.j9.then hI.j9 fun b hb=>hG.low b (List.mem_append_left _ hb)⟩
  ·intro b hb hz
   rcases List.mem_append.1 hb with hb | hb
   ·exact (qd b hb).elim (fun h=>Nat.lt_irrefl _ (Nat.lt_of_lt_of_le (hG.tb b hz) h)) (fun h=>hG.apart b (List.mem_append_left _ h) hz)
   ·exact hG.apart b (List.mem_append_right _ hb) hz
  ·intro b hb
   rcases List.mem_append.1 hb with hb | hb
   ·exact (qd b hb).elim (fun h=>.inr (Nat.le_trans hG.j9.size h)) (fun h=>hG.low b (List.mem_append_left _ h))
   ·exact hG.low b (List.mem_append_right _ hb)
 have NY:dc r ((zp sl (mF ms x)).reverse++base):=by
  refine qk (GB (fun p hp=>?_) hx) (l4 hh ha hI.other)
  exact hR.B3 (S2:=[]) hp fun j _ hj=>(by rw [List.append_nil]; exact hI.tc j (hi ▸ hj))
 have:=(h x).sound B o ho r w NY ⟨_,F',jf,((GC.perm (IZ TE)).freeze TF).perm hp⟩
 rw [ht] at this
 exact this
theorem W9 {id:Nat} (hd:QE) (mt:Nat) (U as:LL) {ops:LO} {Γ Γ1:QE} {fr:Fr} {m:Option (Out S R)}
  (hB:(P.follows .mixedOrders && di cx.n l && zA l mt && Nat.ble mt l.length && (l8 l U mt == as) && ((List.range mt).all fun i=>(U.getD i []).all fun u=>Nat.beq u l.length || ((b9 l).getD i []).contains u))=true)
  (ho:ops=l.take mt) (ht:tail=l.drop mt) (hf:Kp (zm ops) none fr base) (hh:mm l mt base=true) (he:EO Γ hd Γ1) (GF:OW Γ hd)
  (h:AD true P cx K l tail base U hd (.a as ops 0 [] [] Γ1 m)):Bx (na P cx (.dr id l K Γ fr m)):=by
 simp only [Bool.and_eq_true] at hB
 obtain ⟨⟨⟨⟨⟨b1,b2⟩,b3⟩,b5⟩,b6⟩,b7⟩:=hB
 rw [mg]
 intro B o hm r w ha hs
 obtain ⟨Z,F,hS,hG⟩:=hs
 obtain ⟨Fd,F',h1,h2,h3⟩:=he.sound hS
 have GG:SA Z w hd [] Fd:=by
  have:=(HO.hl GF hS h1).front (Γ:=[]) (F:=[]) rfl
  simpa using this
 have hX:tA B Z hd Γ1 Fd w:=⟨F',Fd,⟨GG,fun b hb=>⟨hb,GG.lt b hb⟩,GG.lt,(List.nodup_append.1 (hG.perm h3).nd).1⟩,h2,hG.perm h3⟩
 refine nm.W b1 ?_
 refine AD.sound (id:=id) hh (fun _ _ _ _ _ _ hs he h=>N8 b7 hh b2 b3 (Nat.le_of_ble_eq_true b5) ht hs he h) h
  ⟨by rw [List.drop_zero]; exact (eq_of_beq b6).symm,by rw [List.drop_zero]; exact ho,Nat.zero_le _⟩ B o hm r w Fd Z (hf.sound ha) hX ⟨[],rfl,⟨fun _ h=>absurd h List.not_mem_nil,fun _ h=>absurd h List.not_mem_nil,fun i s h=>by simp at h,List.nodup_nil,fun _ _ _ h1 h2=>C3 l (JS b3) h1 h2⟩,fun j hj=>absurd hj (Nat.not_lt_zero j)⟩
theorem N9 {id:Nat} (mt:Nat) (U as:LL) {ops:LO} {Γ:QE} {fr:Fr} {m:Option (Out S R)}
  (hB:(P.follows .mixedOrders && di cx.n l && zA l mt && Nat.ble mt l.length && (l8 l U mt == as) && ((List.range mt).all fun i=>(U.getD i []).all fun u=>Nat.beq u l.length || ((b9 l).getD i []).contains u))=true)
  (ho:ops=l.take mt) (ht:tail=l.drop mt) (hf:Kp (zm ops) none fr base) (hh:mm l mt base=true)
  (h:AD true P cx K l tail base U [] (.a as ops 0 [] [] Γ m)):Bx (na P cx (.dr id l K Γ fr m)):=W9 [] mt U as hB ho ht hf hh .nil .nil h
end
end Go.Dk
namespace Go.Dk
open Go Go.Li
def Aw:Value→Option Nat
 | .slice (some a) _ _=>some a.block
 | _=>none
def NF {α:Type} (E:ai α):Prop:=∀ {h:Array Obj} {cs:LV} {x:α} {f:LN},E.rep h cs x f→f=[]
theorem NF.i {k:IntKind}:NF (aK k):=xQ
theorem NF.l {α:Type} {E:ai α} (hE:NF E) {h:Array Obj}:∀ {xs:List α} {cs:LV} {f:LN},df E h cs xs f→f=[]:=by
 intro xs
 induction xs with
 | nil=>rintro cs f ⟨_,rfl⟩; rfl
 | cons x xs ih=>
  rintro cs f ⟨c,ju,f1,f2,rfl,rfl,h1,h2⟩
  rw [hE h1,ih h2]; rfl
structure Good {α:Type} (A:Value→α→Prop) (f:LN):Prop where
 sub:∀ u y b,A u y→Aw u=some b→b∈f
 one:∀ u y u' y' b,A u y→A u' y'→Aw u=some b→Aw u'=some b→y=y'
inductive Ai {α:Type}:{β:Type}→ai β→((Value→List α→Prop)→ai β)→Prop
 | row {e:TI} {E:ai α}:Ai (aI e E) (fun A=>tR A (aI e E))
 | step {β:Type} {e:TI} {T:ai β} {T':(Value→List α→Prop)→ai β} (h:Ai T T'):Ai (aI e T) (fun A=>bG (T' A))
section
variable {α β:Type} {T:ai β} {T':(Value→List α→Prop)→ai β} {A A':Value→List α→Prop} {f:LN} {hp:Array Obj}
theorem Ai.size (h:Ai T T'):(T' A).size=T.size:=by
 cases h <;> rfl
theorem Ai.mono (h:Ai T T') (hA:∀ u y,A u y→A' u y):Le (T' A) (T' A'):=by
 induction h with
 | row=>exact ⟨rfl,fun h=>⟨h.1.imp fun v g=>⟨g.1,hA _ _ g.2⟩,h.2⟩⟩
 | step _ ih=>exact ih.Iz
theorem Ai.Xa {e:TI} (ho:∀ {cs:LV} {x:β} {f:LN},T.rep hp cs x f→f.Nodup→∃ A,Good A f∧(T' A).rep hp cs x f) (hm:∀ {A A':Value→List α→Prop},(∀ u y,A u y→A' u y)→Le (T' A) (T' A')) :
  ∀ {xs:List β} {cs:LV} {f:LN},df T hp cs xs f→f.Nodup→∃ A,Good A f∧df (T' A) hp cs xs f:=by
 have _:=e
 intro xs
 induction xs with
 | nil=>rintro cs f ⟨rfl,rfl⟩ _; exact ⟨fun _ _=>False,⟨fun _ _ _ h=>h.elim,fun _ _ _ _ _ h=>h.elim⟩,rfl,rfl⟩
 | cons x xs ih=>
  rintro cs f ⟨c,ju,f1,f2,rfl,rfl,h1,h2⟩ hn
  obtain ⟨n1,n2,n3⟩:=List.nodup_append.1 hn
  obtain ⟨A1,g1,r1⟩:=ho h1 n1
  obtain ⟨A2,g2,r2⟩:=ih h2 n2
  refine ⟨fun u y=>A1 u y∨A2 u y,⟨fun u y b h hb=>?_,fun u y u' y' b h h' hb cg=>?_⟩,c,ju,f1,f2,rfl,rfl,(hm fun _ _=>.inl).le r1,u6 (hm fun _ _=>.inr) r2⟩
  ·exact h.elim (fun h=>List.mem_append_left _ (g1.sub u y b h hb)) (fun h=>List.mem_append_right _ (g2.sub u y b h hb))
  ·rcases h with h | h <;> rcases h' with h' | h'
   ·exact g1.one u y u' y' b h h' hb cg
   ·exact absurd rfl (n3 b (g1.sub _ _ _ h hb) b (g2.sub _ _ _ h' cg))
   ·exact absurd rfl (n3 b (g1.sub _ _ _ h' cg) b (g2.sub _ _ _ h hb))
   ·exact g2.one u y u' y' b h h' hb cg
theorem Ai.opened (h:Ai T T'):∀ {cs:LV} {x:β} {f:LN},T.rep hp cs x f→f.Nodup→∃ A,Good A f∧(T' A).rep hp cs x f:=by
 induction h with
 | @row e E=>
  intro cs x f hr _
  obtain ⟨base,cap,rfl,gp⟩:=id hr
  refine ⟨fun u y=>u = .slice base x.length cap∧y=x,⟨?_,?_⟩,⟨_,rfl,rfl,rfl⟩,hr⟩
  ·rintro u y b ⟨rfl,rfl⟩ hb
   rcases gp with ⟨rfl,_⟩ | ⟨b0,cur,f',rfl,_,rfl,_⟩
   ·cases hb
   ·cases hb; exact List.mem_cons_self
  ·rintro u y u' y' b ⟨_,rfl⟩ ⟨_,rfl⟩ _ _; rfl
 | @step β e T T' ho ih=>
  intro cs x f hr hn
  obtain ⟨base,cap,rfl,gp⟩:=hr
  rcases gp with ⟨rfl,_,rfl,rfl⟩ | ⟨b,cur,f',rfl,hg,rfl,h3,h4,h5,h6⟩
  ·exact ⟨fun _ _=>False,⟨fun _ _ _ h=>h.elim,fun _ _ _ _ _ h=>h.elim⟩,none,cap,rfl,.inl ⟨rfl,rfl⟩⟩
  ·obtain ⟨A,g1,g2⟩:=Ai.Xa (e:=e) ih (fun hA=>ho.mono hA) h6 (List.nodup_cons.1 hn).2
   refine ⟨A,⟨fun u y b h hb=>List.mem_cons_of_mem _ (g1.sub u y b h hb),g1.one⟩,_,cap,rfl,.inr ⟨b,0,cur,e,(0,0),f',rfl,hg,rfl,h3,?_⟩⟩
   rw [List.drop_zero,ho.size]
   exact g2
end
section
variable {α:Type} {e e':TI} {E:ai α} {A:Value→List α→Prop} {ft f:LN} {hp:Array Obj}
theorem JU (nf:NF E) (hA:Good A ft):∀ {ys:List (List α)} {us:LV} {g:LN},df (tR A (aI e' E)) hp us ys g→ys.Nodup→
  df (aI e' E) hp us ys g∧g.Nodup∧∀ b∈g,b∈ft∧∃ u y,A u y∧Aw u=some b∧y∈ys:=by
 intro ys
 induction ys with
 | nil=>rintro us g ⟨rfl,rfl⟩ _; exact ⟨⟨rfl,rfl⟩,List.nodup_nil,fun b hb=>absurd hb List.not_mem_nil⟩
 | cons y ys ih=>
  rintro us g ⟨c,ju,g1,g2,rfl,rfl,⟨⟨u,rfl,hu⟩,hr⟩,h2⟩ hn
  obtain ⟨n1,n2⟩:=List.nodup_cons.1 hn
  obtain ⟨a1,a2,a3⟩:=ih h2 n2
  refine ⟨⟨[u],ju,g1,g2,rfl,rfl,hr,a1⟩,?_,?_⟩
  ·obtain ⟨base,cap,hv,gp⟩:=hr
   obtain rfl:u = .slice base y.length cap:=by simpa using hv
   rcases gp with ⟨_,_,_,rfl⟩ | ⟨b,cur,f',rfl,_,rfl,_,_,_,h6⟩
   ·exact a2
   ·rw [nf.l h6]
    refine List.nodup_cons.2 ⟨fun hb=>?_,a2⟩
    obtain ⟨_,u',y',h7,h8,h9⟩:=a3 b hb
    rw [hA.one _ _ _ _ b hu h7 rfl h8] at n1
    exact n1 h9
  ·intro b hb
   rcases List.mem_append.1 hb with hb | hb
   ·obtain ⟨base,cap,hv,gp⟩:=hr
    obtain rfl:u = .slice base y.length cap:=by simpa using hv
    rcases gp with ⟨_,_,_,rfl⟩ | ⟨b0,cur,f',rfl,_,rfl,_,_,_,h6⟩
    ·cases hb
    ·rw [nf.l h6,List.mem_singleton] at hb
     subst hb
     exact ⟨hA.sub _ _ _ hu rfl,_,y,hu,rfl,by simp⟩
   ·obtain ⟨b1,u',y',b2,b3,b4⟩:=a3 b hb
    exact ⟨b1,u',y',b2,b3,by simp [b4]⟩
theorem LJ {Z:Nat→Prop} {w:World} {v:Value} {ys:List (List α)} (nf:NF E) (hA:Good A ft) (ho:o7 Z w f (.om e (tR A (aI e' E)) v ys)) (hn:ys.Nodup) (hf:f.Nodup) (hz:∀ b∈f,¬ Z b) :
  ∃ g,(∀ b∈g,b∈ft)∧(aI e (aI e' E)).rep w.heap [v] ys (f++g)∧(f++g).Nodup:=by
 obtain ⟨us,g,h1,h2,h3,_⟩:=ho
 obtain ⟨a1,a2,a3⟩:=JU nf hA h2 hn
 have hl:us.length=ys.length:=by have:=jo a1; rw [this]; exact Nat.mul_one _
 refine ⟨g,fun b hb=>(a3 b hb).1,?_,List.nodup_append.2 ⟨hf,a2,fun b hb c hc=>fun e=>hz b hb (h3 b (e ▸ hc))⟩⟩
 obtain ⟨base,cap,hv,hr⟩:=h1
 obtain rfl:v = .slice base us.length cap:=by simpa using hv
 rw [hl]
 rcases hr with ⟨rfl,rfl,rfl,rfl⟩ | ⟨b,cur,f',rfl,hg,rfl,c1,c2,c3,c4⟩
 ·cases ys with
  | cons y ys=>simp at hl
  | nil=>obtain ⟨_,rfl⟩:=a1; exact ⟨none,0,rfl,.inl ⟨rfl,rfl,rfl,rfl⟩⟩
 ·obtain ⟨c5,rfl⟩:=zi c4
  refine ⟨_,cap,rfl,.inr ⟨b,cur,g,rfl,hg,rfl,by rw [← hl]; exact c1,c2,c3,?_⟩⟩
  have e1:(aI e' E).size=r9.size:=rfl
  rw [e1,← hl,c5]
  exact a1
end
section
variable {P:Program} {R:Type} {cx:Cx R}
theorem ag {S S1 α β:Type} [DecidableEq (List α)] (k t0:Nat) (φ:S1→Value→Fr) (I2:S1→List (List α)) (v0:Value) (f2:Fr) {e e':TI} {E:ai α} {T:ai β} {T':(Value→List α→Prop)→ai β} {vs:Value} {x:β} {fu:List KI} {kb:Kb R S} {c:Code} {s0:S1} {body:S1→Option (Out S1 R)} {f:S1→Option (Out S R)} {Γ Γ1 Γ2:QE} {fr:Fr}
  (ho:Ai T T') (nf:NF E) (ha:qw fr (φ s0 v0)) (hf:qw fr f2) (hz:I2 s0=[]) (hv:look fr t0=some vs) (h1:ee Γ (.own T vs x) Γ1) (h2:∀ A:Value→List α→Prop,ee Γ1 (.om e (tR A (aI e' E)) v0 []) Γ2)
  (hb:∀ (A:Value→List α→Prop) s v,D P cx (.p (φ s v) [.om e (tR A (aI e' E)) v (I2 s)] f2 [.rd false (T' A) vs x] fun fr Γ=>.c ⟨[],.loop Value k (fun s v=>[.om e (tR A (aI e' E)) v (I2 s)]) φ [.rd false (T' A) vs x] f2⟩ c Γ fr (body s)))
  (hk:∀ s v,D P cx (.p (φ s v) [.own (aI e (aI e' E)) v (I2 s)] f2 [] fun fr Γ=>.mn ⟨fu,kb⟩ Γ fr (f s))) :
  Bx (na P cx (.bk true k ⟨fu,kb⟩ (.loop c) Γ fr (af (ae k (ag body s0)) fun s=>T0 (I2 s)>>=fun _=>f s))):=by
 have _:=hv
 rw [mg]
 intro B o LM r w ph r4
 obtain ⟨Z,F,hS,hG⟩:=r4
 obtain ⟨ft,F1,tW,hT,ik⟩:=h1.sound hS
 have I3:=hG.perm tW
 obtain ⟨n1,n2,n3⟩:=List.nodup_append.1 I3.nd
 obtain ⟨A,hA,hR⟩:=ho.opened (hp:=w.heap) hT n1
 obtain ⟨fo,F2,qh,hO,jf⟩:=(h2 A).sound ik
 have T1:∀ b∈ft,b < w.heap.size:=ai.lt _ hT
 have hfz:∀ b∈ft,¬ Z b:=fun b hb=>I3.apart b (List.mem_append_left _ hb)
 have T3:∀ b∈fo,b∈F1:=fun b hb=>qh.mem_iff.1 (List.mem_append_left _ hb)
 have sd:fo.Nodup:=(List.nodup_append.1 (qh.nodup_iff.2 n2)).1
 refine Jz (T:=TT P cx B) (LI B (fun s v=>[.om e (tR A (aI e' E)) v (I2 s)]) φ [.rd false (T' A) vs x] f2) LM
  ⟨v0,qk (ha.all ph) (hf.sound ph),fun b=>Z b∨b∈ft,fo,⟨fo,[],(List.append_nil _).symm,by rw [hz]; exact hO.mono fun _=>.inl,⟨ft,hR,fun b hb=>.inr hb⟩,rfl⟩,sd,fun b hb=>?_,fun b hb=>hb.elim (hG.tb b) (T1 b),fun b hb=>I3.low b (List.mem_append_right _ (T3 b hb)),fun b h=>.inl (hG.xK b h),fun b hb=>hb.elim (hG.yi b) fun hb=>.inr (I3.low b (List.mem_append_left _ hb)),hG.j9⟩ ?_ ?_ ?_
 ·rintro (h | h)
  ·exact I3.apart b (List.mem_append_right _ (T3 b hb)) h
  ·exact n3 b h b (T3 b hb) rfl
 ·intro x r w he hx
  subst he
  exact vH hx
 ·rintro s r w ⟨v,h1,h2⟩ o ho
  exact (hb A s v).sound B o ho r w h1 h2
 ·rintro s r w' ⟨v,a1,Z2,Fl,Gg,nb⟩ hm
  obtain ⟨_,hn,hm⟩:=bind_some hm
  replace hn:=Oa hn
  obtain ⟨f',F',rfl,vL,Xb⟩:=Gg
  have C1:F'=[]:=Xb.2
  subst C1
  rw [List.append_nil] at nb
  obtain ⟨g,s1,s2,s3⟩:=LJ nf hA vL hn nb.nd nb.apart
  refine (hk s v).sound B o hm r w' a1 ⟨B.Z,f'++g,⟨f'++g,[],(List.append_nil _).symm,s2,rfl⟩,s3,fun b hb hz=>?_,fun b hz=>nb.tb b (nb.xK b hz),fun b hb=>?_,fun _ h=>h,fun _ h=>.inl h,nb.j9⟩
  ·rcases List.mem_append.1 hb with hb | hb
   ·exact nb.apart b hb (nb.xK b hz)
   ·exact hfz b (s1 b hb) (hG.xK b hz)
  ·rcases List.mem_append.1 hb with hb | hb
   ·exact nb.low b hb
   ·exact I3.low b (List.mem_append_left _ (s1 b hb))
end
end Go.Dk
namespace Go.Dk
open Go Go.Li
section
variable {R:Type} {P:Program} {cx:Cx R} {B:Bs} {M:Type} {all l:LO} {rk:RK R M} {fr:Fr} {w:World} {Z:Nat→Prop} {F cur:LN} {Γ Γ1 Γ2 Γ3:QE}
theorem D.of {J:Jd R} (h:na P cx J):D P cx J:=.inj (by rw [mg]; exact h)
theorem Qw {Δ : List aq} (h : FO Δ) : ∀ {Fd : List Nat}, HL Z w Δ Fd → ∀ e ∈ Δ, fact Z w [] e := by
  induction h with
  | nil => intro Fd _ e he; cases he
  | rd _ ih =>
    intro Fd hl e he
    cases hl with
    | own h _ => exact h.elim
    | fact h k => rcases List.mem_cons.1 he with rfl | he
                  · exact h
                  · exact ih k e he
  | bg _ ih =>
    intro Fd hl e he
    cases hl with
    | own h _ => exact h.elim
    | fact h k => rcases List.mem_cons.1 he with rfl | he
                  · exact h
                  · exact ih k e he
theorem lgS {α:Type} (S:ai α) {d:Nat} {t e n bt ty:TI} {m:Option M} [ht:Ay P t e n bt]
  (h:∀ v,D P cx (.o false all l rk (.own (aI e (iy n)) v [] :: .rd false (vF S) (.bool true) ([],[]) :: Γ) ((d,v) :: fr) m)):D P cx (.e false (.buildSlice t 0 #[]) (some d) ty all l rk Γ fr m):=by
 refine D.of ?_
 intro B o ho r w ha hs pos ah g
 obtain ⟨h1,i,z,h2,_⟩:=ht.h
 obtain ⟨v,w',f,hr,hC,hO⟩:=zt (E:=iy n) (r:=r) (w:=w) (d:=some d) (ty:=ty) (pos:=pos) (ah:=ah) (g:=none) h1 h2
 refine ez (WL.val rfl hr ((h v).sound B o ho _ w' (av ha) ?_))
 obtain ⟨Z,F,hS,hg⟩:=hs
 have hf:fact Z w [] (.rd false (vF S) (.bool true) ([],[])):=⟨[],⟨rfl,rfl,fun _ h=>absurd h List.not_mem_nil⟩,fun _ h=>absurd h List.not_mem_nil⟩
 exact St.put (f:=[]) (SA.fact hS hf) hg hC hO.1 hO.2.1 fun b hb=>.inr ((hO.2.2 b hb).resolve_left List.not_mem_nil)
theorem lnS {α:Type} {S:ai α} {q:Bool} {d n e:Nat} {x:OO} {v:Value} {us:List (List Value)} {xs:List α} {t ty bt:TI} {m:Option M} [ht:Ay P t e n bt] (hx:bn fr x=some v) (h1:ee Γ (.own (aI e (iy n)) v us) Γ1) (hg:In (.rd false (vF S) (.bool true) (us,xs)) Γ)
  (h:D P cx (.o q all l rk Γ ((d,.int .i64 (xs.length:Int)) :: fr) m)):D P cx (.e q (.call ⟨.builtin .len,#[x],#[t]⟩) (some d) ty all l rk Γ fr m):=by
 refine D.of ?_
 intro B o ho r w ha hs pos ah g
 obtain ⟨q1,_⟩:=ht.h
 obtain ⟨Z,F,hS,hG⟩:=@_root_.id _ hs
 obtain ⟨f,F1,_,hO,_⟩:=h1.sound hS
 obtain ⟨k,hk,_⟩:=hg.rd hS []
 obtain ⟨base,cap,hv,_⟩:=hO
 obtain rfl:v = .slice base us.length cap:=by simpa using hv
 have hl:us.length=xs.length:=Au hk.2.1
 exact cu (v:=.int .i64 (xs.length:Int)) (fun w' _=>by rw [← hl]; exact wT q1 (bC ha hx)) (h.sound B o ho _ w (av ha) hs)
theorem ixS {α V:Type} {S:ai α} {cl:α→V→List Value} {en:α→V→List aq} {q:Bool} {d n e:Nat} {x y:OO} {v:Value} {us:List (List Value)} {xs:List α} {k:IntKind} {j:Int} {t ty bt:TI} {f:α→Option M} [ht:Ay P t e n bt] (hx:bn fr x=some v) (hy:bn fr y=some (.int k j))
  (h1:ee Γ (.own (aI e (iy n)) v us) Γ1) (hg:In (.rd false (vF S) (.bool true) (us,xs)) Γ) (hs:EI S V cl en)
  (h:∀ z u,D P cx (.p [] (.rd false (Ac us j) (.bool true) (cl z u) :: en z u) fr Γ fun fr Γ=>.o q all l rk Γ ((d,.pointer (some (cw v n j))) :: fr) (f z))):D P cx (.e q (.indexAddr t x y) (some d) ty all l rk Γ fr (idx xs j>>=f)):=by
 refine D.of ?_
 intro B o ho r w ha dy pos ah g
 replace hs:SO S V cl en:=by cases hs; assumption
 obtain ⟨z,hz,ho⟩:=bind_some ho
 replace hz:=p3 hz
 obtain ⟨q1,i,_,q2,_,_,q3,_⟩:=ht.h
 obtain ⟨Z,F,hS,hG⟩:=dy
 obtain ⟨f0,F1,_,hO,_⟩:=h1.sound hS
 obtain ⟨g0,hk,ur⟩:=hg.rd hS []
 obtain ⟨c,g1,e1,e2,e3⟩:=CP j.toNat hk.2.1 hz.2
 obtain ⟨u,rfl,ql⟩:=hs.op e2
 have hlen:us.length=xs.length:=Au hk.2.1
 have bh:j.toNat < xs.length:=(List.getElem?_eq_some_iff.1 hz.2).1
 have hv:∃ a c,v = .slice (some a) us.length c:=by
  obtain ⟨base,cap,hv,hr⟩:=hO
  obtain rfl:v = .slice base us.length cap:=by simpa using hv
  rcases hr with ⟨_,_,rfl,_⟩ | ⟨b,cur,f',rfl,_⟩
  ·rw [← hlen] at bh; simp at bh
  ·exact ⟨_,_,rfl⟩
 obtain ⟨a,c',rfl⟩:=hv
 have dx:HL Z w (.rd false (Ac us j) (.bool true) (cl z u) :: en z u) []:=.fact ⟨[],⟨rfl,⟨hz.1,e1⟩,rfl⟩,fun _ h=>absurd h List.not_mem_nil⟩ (ve (ql Z fun b hb=>ur b (e3 b hb)))
 obtain ⟨F',hp,jf⟩:=dx.build hS
 refine cu (v:=.pointer (some (cw (.slice (some a) us.length c') n j))) (fun w' hC=>?_) ((h z u).sound B o ho _ w (av ha) ⟨Z,F',jf,hG.perm (by simpa using hp)⟩)
 rw [kn q1 q2 (bC ha hx) (bC ha hy) hz.1 (by omega),q3]
 rfl
theorem T4 {q:Bool} {d n off e:Nat} {x:OO} {v u:Value} {us:List (List Value)} {j:Int} {cs:LV} {ty:TI} {m:Option M} (h1:ee Γ (.own (aI e (iy n)) v us) Γ1) (hp:In (.rd false (Ac us j) (.bool true) cs) Γ) (hc:cs[off]? = some u)
  (k:D P cx (.o q all l rk Γ ((d,u) :: fr) m)):D P cx (.la ((cw v n j).add off) none q ty x d all l rk Γ fr m):=by
 refine D.of ?_
 intro ht hx B o ho r w ha hs t pos ah g
 obtain ⟨Z,F,hS,_⟩:=@_root_.id _ hs
 obtain ⟨f,F1,_,hO,_⟩:=h1.sound hS
 obtain ⟨_,⟨_,⟨hj,hu⟩,_⟩,_⟩:=hp.rd hS []
 exact cu (Ld ht ((xU hO hj hu).2.2 off u hc) (bC ha hx)) (k.sound B o ho _ w (av ha) hs)
theorem T5 {q:Bool} {d n e:Nat} {x:OO} {v u:Value} {us:List (List Value)} {j:Int} {cs:LV} {ty:TI} {m:Option M} (h1:ee Γ (.own (aI e (iy n)) v us) Γ1) (hp:In (.rd false (Ac us j) (.bool true) cs) Γ) (hc:cs[0]? = some u)
  (k:D P cx (.o q all l rk Γ ((d,u) :: fr) m)):D P cx (.la (cw v n j) none q ty x d all l rk Γ fr m):=by
 have e:(cw v n j).add 0=cw v n j:=rfl
 rw [← e]
 exact T4 h1 hp hc k
theorem Yk {q:Bool} {d n e:Nat} {x:OO} {v:Value} {us:List (List Value)} {j:Int} {cs:LV} {ty:TI} {m:Option M} (h1:ee Γ (.own (aI e (iy n)) v us) Γ1) (hp:In (.rd false (Ac us j) (.bool true) cs) Γ)
  (k:D P cx (.o q all l rk Γ ((d,.agg cs.toArray) :: fr) m)):D P cx (.la (cw v n j) (some n) q ty x d all l rk Γ fr m):=by
 refine D.of ?_
 intro ht hx B o ho r w ha hs t pos ah g
 obtain ⟨Z,F,hS,_⟩:=@_root_.id _ hs
 obtain ⟨f,F1,_,hO,_⟩:=h1.sound hS
 obtain ⟨_,⟨_,⟨hj,hu⟩,_⟩,_⟩:=hp.rd hS []
 obtain ⟨e1,_,e3⟩:=xU hO hj hu
 exact cu (Lg ht (fun i u hi=>e3 i u hi) (bC ha hx) e1) (k.sound B o ho _ w (av ha) hs)
theorem apS {α V:Type} {S:ai α} {cl:α→V→List Value} {en:α→V→List aq} (y:α) {u:V} {d b n e bt:Nat} {s x:OO} {sv:Value} {us:List (List Value)} {xs:List α} {cs:LV} {t et ty:TI} {f:Unit→Option M} [ht:Ay P t e n bt]
  (hs:bn fr s=some sv) (hx:bn fr x=some (.slice (some ⟨b,0,none⟩) 1 1)) (h0:ee Γ (.row b cs et) Γ1) (h1:ee Γ1 (.own (aI e (iy n)) sv us) Γ2) (hg:In (.rd false (vF S) (.bool true) (us,xs)) Γ2) (qb:EI S V cl en) (_hv:uU V u) (hc:cs=cl y u) (ho:u7 Γ cs) (hn:cs.length=n) (T6:FO (en y u)) (hf:EF Γ2 (en y u) Γ3)
  (h:∀ v,D P cx (.o false all l rk (.own (aI e (iy n)) v (us++[cs]) :: .rd false (vF S) (.bool true) (us++[cs],xs++[y]) :: Γ3) ((d,v) :: fr) (f ()))):D P cx (.e false (.call ⟨.builtin .append,#[s,x],#[t,t]⟩) (some d) ty all l rk Γ fr (fits bt (xs.length+1)>>=f)):=by
 refine D.of ?_
 intro B o cc r w ha dy pos ah g
 have Eb:SO S V cl en:=by cases qb; assumption
 obtain ⟨_,hu,cc⟩:=bind_some cc
 obtain ⟨b1,b2⟩:=qx hu
 obtain ⟨q1,i,z,q2,q3,q4,q5,q6,_⟩:=ht.h
 obtain ⟨Z,F,hS,hG⟩:=dy
 have FB:=ho.one hS
 obtain ⟨n0,F0,vI,⟨rfl,bj⟩,yB⟩:=h0.sound hS
 obtain ⟨k,F1,hp,hO,ik⟩:=h1.sound yB
 obtain ⟨Fd,F2,Zn,T8,jf,qh⟩:=hf.sound ik
 obtain ⟨g0,hk,ur⟩:=hg.rd ik []
 have hlen:us.length=xs.length:=Au hk.2.1
 have rh:((k++F1)++[b]).Perm F:=(List.perm_append_comm.trans (hp.append_left [b])).trans vI
 have nb:Gd B Z (k++F1) w:=Gd.left (F':=[b]) (hG.perm rh)
 have Ag:((k++F2)++(Fd++Zn)).Perm (k++F1):=by
  rw [List.append_assoc]
  refine List.Perm.append_left k (.trans ?_ qh)
  rw [← List.append_assoc]
  exact (List.perm_append_comm (l₁:=F2) (l₂:=Fd)).append_right Zn
 have r3:Gd B Z ((k++F2)++(Fd++Zn)) w:=nb.perm Ag
 have bh:∀ b∈Fd++Zn,b < w.heap.size:=fun b hb=>by
  have h3:b∈k++F1:=Ag.mem_iff.1 (List.mem_append_right _ hb)
  rcases List.mem_append.1 h3 with h3 | h3
  ·exact ai.lt _ hO b h3
  ·exact ik.lt b h3
 have GC:Gd B (rv Z (Fd++Zn)) (k++F2) w:=r3.freeze bh
 have C8:∀ b,rv Z Zn b→rv Z (Fd++Zn) b:=fun b hb=>hb.imp id fun h=>List.mem_append_right _ h
 obtain ⟨g1,xJ,C9⟩:=Eb.cl (x:=y) (v:=u) (Z:=rv Z (Fd++Zn)) (w:=w) (Qw T6 (T8.mono C8))
 have hdk:sb [] k:=fun _ h=>absurd h List.not_mem_nil
 have hE:df (iy n) w.heap cs [cs] []:=⟨cs,[],[],[],by simp,by simp,⟨rfl,hn,FB,rfl⟩,rfl,rfl⟩
 obtain ⟨v,w',f',mr,hC,dp,dq,dt⟩:=pj (E:=iy n) (d:=some d) (ty:=ty) (pos:=pos) (ah:=ah) (g:=none) (k:=[]) (ys:=[cs]) (news:=cs) q1 q2 q3 (by rw [q5]; rfl) (by rw [q4]; rfl) (bC ha hs) hO (List.nodup_append.1 nb.nd).1 (bC ha hx) (fun i u hi=>bj.at i u hi) hE hdk (by simp) (by rw [q6,hlen]; exact b1) (by rw [hlen]; exact b2)
 refine ez (WL.val rfl mr ((h v).sound B o cc _ w' (av ha) ?_))
 have T9:fact (rv Z (Fd++Zn)) w [] (.rd false (vF S) (.bool true) (us++[cs],xs++[y])):=by
  rw [hc]
  refine ⟨g0++g1,⟨rfl,SG xJ hk.2.1,fun b hb=>?_⟩,fun b hb=>?_⟩
  ·rcases List.mem_append.1 hb with hb | hb
   ·exact hk.2.2 b hb
   ·exact S.lt xJ b hb
  ·rcases List.mem_append.1 hb with hb | hb
   ·exact .inl (ur b hb)
   ·exact C9 b hb
 exact St.put (SA.fact (jf.mono C8 fun _ h=>h) T9) GC hC dp (dt List.nodup_nil) fun b hb=>(dq b hb).imp id fun h=>h.resolve_left List.not_mem_nil
theorem RD {n:Nat} {h:Array Obj}:∀ {us:List (List Value)} {cs:LV} {f:LN},df (iy n) h cs us f→∀ c∈us,c.length=n∧∀ v∈c,v.oneCell'=true:=by
 intro us
 induction us with
 | nil=>intro cs f _ c hc; cases hc
 | cons a us ih=>
  rintro cs f ⟨c',ju,f1,f2,rfl,rfl,⟨rfl,h1,h2,rfl⟩,h3⟩ c hc
  rcases List.mem_cons.1 hc with rfl | hc
  ·exact ⟨h1,h2⟩
  ·exact ih h3 c hc
theorem RE {n:Nat} {h:Array Obj}:∀ {us:List (List Value)},(∀ c∈us,c.length=n∧∀ v∈c,v.oneCell'=true)→df (iy n) h us.flatten us []:=by
 intro us
 induction us with
 | nil=>intro _; exact ⟨rfl,rfl⟩
 | cons a us ih=>
  intro hc
  have h1:=hc a (by simp)
  exact ⟨a,us.flatten,[],[],by simp,rfl,⟨rfl,h1.1,h1.2,rfl⟩,ih fun c hm=>hc c (by simp [hm])⟩
theorem Ik {n:Nat} {c:LV}:∀ {us:List (List Value)} {j:Nat},(∀ x∈us,x.length=n)→j < us.length→(us.set j c).flatten=us.flatten.take (j * n)++c++us.flatten.drop (j * n+n)∧j * n+n≤us.flatten.length:=by
 intro us
 induction us with
 | nil=>intro j _ hj; simp at hj
 | cons a us ih=>
  intro j hl hj
  have ha:a.length=n:=hl a (by simp)
  cases j with
  | zero=>refine ⟨?_,by simp [ha]⟩; simp [← ha]
  | succ j=>
   obtain ⟨h1,h2⟩:=ih (j:=j) (fun x hx=>hl x (by simp [hx])) (by simpa using hj)
   have e:(j+1) * n=n+j * n:=by rw [Nat.add_mul,Nat.one_mul,Nat.add_comm]
   refine ⟨?_,by rw [e,List.flatten_cons,List.length_append,ha]; omega⟩
   rw [List.set_cons_succ,List.flatten_cons,List.flatten_cons,h1,e,List.take_append,List.drop_append,ha]
   have e1:List.take (n+j * n) a=a:=List.take_of_length_le (by omega)
   have e2:List.drop (n+j * n+n) a=[]:=List.drop_eq_nil_of_le (by omega)
   rw [e1,e2,show n+j * n - n=j * n by omega,show n+j * n+n - n=j * n+n by omega]
   simp
theorem stS {α V:Type} {S:ai α} {cl:α→V→List Value} {en:α→V→List aq} (y:α) {u:V} {n e:Nat} {x0 y0:OO} {v:Value} {j:Int} {us:List (List Value)} {xs:List α} {cs c0:LV} {t ty:TI} {m:Option M}
  (h1:ee Γ (.own (aI e (iy n)) v us) Γ1) (hp:In (.rd false (Ac us j) (.bool true) c0) Γ) (hg:In (.rd false (vF S) (.bool true) (us,xs)) Γ1) (qb:EI S V cl en) (_hv:uU V u) (hc:cs=cl y u) (ho:u7 Γ cs) (hn:cs.length=n) (T6:FO (en y u)) (hf:EF Γ1 (en y u) Γ2)
  (h:D P cx (.o false all l rk (.own (aI e (iy n)) v (us.set j.toNat cs) :: .rd false (vF S) (.bool true) (us.set j.toNat cs,xs.set j.toNat y) :: Γ2) fr m)):D P cx (.st (cw v n j) (.agg cs.toArray) n t x0 y0 ty all l rk Γ fr m):=by
 refine D.of ?_
 intro hT hx hy B o cc r w ha dy pos ah g
 have Eb:SO S V cl en:=by cases qb; assumption
 obtain ⟨i,q1,q2⟩:=hT
 obtain ⟨Z,F,hS,hG⟩:=dy
 have FB:=ho.one hS
 obtain ⟨_,⟨_,⟨hj,hu⟩,_⟩,_⟩:=hp.rd hS []
 obtain ⟨k,F1,tW,hO,ik⟩:=h1.sound hS
 obtain ⟨Fd,F2,Zn,T8,jf,qh⟩:=hf.sound ik
 obtain ⟨g0,hk,ur⟩:=hg.rd ik []
 have nb:Gd B Z (k++F1) w:=hG.perm tW
 have Ag:((k++F2)++(Fd++Zn)).Perm (k++F1):=by
  rw [List.append_assoc]
  refine List.Perm.append_left k (.trans ?_ qh)
  rw [← List.append_assoc]
  exact (List.perm_append_comm (l₁:=F2) (l₂:=Fd)).append_right Zn
 have r3:Gd B Z ((k++F2)++(Fd++Zn)) w:=nb.perm Ag
 have bh:∀ b∈Fd++Zn,b < w.heap.size:=fun b hb=>by
  have h3:b∈k++F1:=Ag.mem_iff.1 (List.mem_append_right _ hb)
  rcases List.mem_append.1 h3 with h3 | h3
  ·exact ai.lt _ hO b h3
  ·exact ik.lt b h3
 have GC:Gd B (rv Z (Fd++Zn)) (k++F2) w:=r3.freeze bh
 have C8:∀ b,rv Z Zn b→rv Z (Fd++Zn) b:=fun b hb=>hb.imp id fun h=>List.mem_append_right _ h
 obtain ⟨g1,xJ,C9⟩:=Eb.cl (x:=y) (v:=u) (Z:=rv Z (Fd++Zn)) (w:=w) (Qw T6 (T8.mono C8))
 obtain ⟨g2,Qc,Yl⟩:=K2 (c:=cs) (by rw [hc]; exact xJ) j.toNat hk.2.1
 have T9:fact (rv Z (Fd++Zn)) w [] (.rd false (vF S) (.bool true) (us.set j.toNat cs,xs.set j.toNat y)):=by
  refine ⟨g2,⟨rfl,Qc,fun b hb=>?_⟩,fun b hb=>?_⟩
  ·exact (Yl b hb).elim (hk.2.2 b) (S.lt xJ b)
  ·exact (Yl b hb).elim (fun h=>.inl (ur b h)) (C9 b)
 have E0:j.toNat < us.length:=(List.getElem?_eq_some_iff.1 hu).1
 obtain ⟨base,cap,nt,hr⟩:=hO
 obtain rfl:v = .slice base us.length cap:=by simpa using nt
 rcases hr with ⟨_,_,rfl,_⟩ | ⟨b,cur,f',rfl,h2,rfl,h4,h5,h6,h3⟩
 ·simp at E0
 ·obtain ⟨Ym,wW⟩:=FQ h3
  subst wW
  have dx:=RD h3
  obtain ⟨e1,e2⟩:=Ik (c:=cs) (fun x hx=>(dx x hx).1) E0
  have bj:Row w b cur.toList e:=by unfold Row; simpa using h2
  have Ua:cur.toList=us.flatten++cur.toList.drop (us.length * n):=by
   rw [← Ym]; exact (List.take_append_drop _ _).symm
  have zf:cw (.slice (some ⟨b,0,none⟩) us.length cap) n j = ⟨b,j.toNat * n,none⟩:=by
   simp only [cw,ir,Nat.zero_add]
  rw [zf] at hx
  have hle:j.toNat * n+cs.length≤cur.toList.length:=by
   rw [hn,Ua,List.length_append]; omega
  have mr:=vv (P:=P) (d:=none) (ty:=ty) (pos:=pos) (ah:=ah) (gg:=none) q1 (by rw [hn,q2]) bj hle (bC ha hx) (y:=y0) (by rw [bC ha hy]; rfl) FB
  refine ez (WL.skip rfl mr (h.sound B o cc _ _ ha ?_))
  have zC:cur.toList.take (j.toNat * n)++cs++cur.toList.drop (j.toNat * n+cs.length)=(us.set j.toNat cs).flatten++cur.toList.drop (us.length * n):=by
   rw [hn,e1]
   conv=>lhs; rw [Ua]
   rw [List.take_append_of_le_length (by omega),List.drop_append_of_le_length (by omega)]
   simp
  have zg:=setRow_heap w b cur (cur.toList.take (j.toNat * n)++cs++cur.toList.drop (j.toNat * n+cs.length)).toArray e _ h2
  refine St.put (f:=[b]) (f':=[b]) (SA.fact (jf.mono C8 fun _ h=>h) T9) GC ⟨rfl,rfl,rfl,Nat.le_refl _,by simp,fun j' _ gx=>setRow_other w b j' _ fun h=>gx (by simp [h])⟩ ?_ (by simp) (fun b hb=>.inl hb)
  refine ⟨_,cap,by rw [List.length_set],.inr ⟨b,_,[],rfl,zg,rfl,by rw [List.length_set]; exact h4,h5,?_,?_⟩⟩
  ·rw [← h6]
   simp only [List.size_toArray,zC]
   have e3:(us.set j.toNat cs).flatten.length=us.flatten.length:=by
    rw [e1]; simp only [List.length_append,List.length_take,List.length_drop,hn]; omega
   rw [List.length_append,e3,← List.length_append,← Ua,Array.length_toList]
  ·rw [List.toList_toArray,zC,List.length_set]
   have ak8:(us.set j.toNat cs).flatten.length=us.length * n:=by
    have e3:(us.set j.toNat cs).flatten.length=us.flatten.length:=by
     rw [e1]; simp only [List.length_append,List.length_take,List.length_drop,hn]; omega
    rw [e3]
    have:=jo h3
    rw [Ym] at this
    exact this
   show df (iy n) _ (List.take (us.length * n) _) _ _
   rw [List.take_append_of_le_length (by omega),List.take_of_length_le (by omega)]
   refine RE fun c hm=>?_
   rcases List.mem_or_eq_of_mem_set hm with hm | rfl
   ·exact dx c hm
   ·exact ⟨hn,FB⟩
theorem yo {α:Type} {E:ai α} {d n:Nat} {t e ty:TI} {ps:List (Nat×Operand)} {us:LV} {xs:List α} {m:Option M} [hz:K5 P t e] (hl:va Γ fr 0 ps us) (hn:us.length=n) (hb:(Nat.ble 1 n && Nat.ble n 16777216)=true) (hx:FZ Γ E us xs Γ1) (hE:E.size=1)
  (h:∀ v,D P cx (.o false all l rk (.own (aI e E) v xs :: Γ1) ((d,v) :: fr) m)):D P cx (.e false (.buildSlice t n ps.toArray) (some d) ty all l rk Γ fr m):=by
 refine D.of ?_
 intro B o ho r w ha hs pos ah g
 obtain ⟨Z,F,hS,hg⟩:=hs
 refine ez (WL.val rfl (hl.op ha hS ⟨hz.h⟩ hn hb) ((h _).sound B o ho _ _ (av ha) ?_))
 obtain ⟨e1,f,F2,qh,hr,jf⟩:=hx.sound hS
 have F7:n≤16777216:=by
  rw [Bool.and_eq_true] at hb
  exact Nat.le_of_ble_eq_true hb.2
 have hC:an [] w (w.alloc (.cells us.toArray e)):=an.alloc _ _ _
 have l7:Gd B Z (f++F2) w:=hg.perm qh
 have bh:∀ b∈f,b < w.heap.size:=l3 hr
 have zC:=heap_alloc_new w (.cells us.toArray e)
 have gp:df E (w.alloc (.cells us.toArray e)).heap us xs f:=jh hr fun b hb=>hC.block b (bh b hb) (fun h=>absurd h List.not_mem_nil)
 refine St.put (f:=f) (f':=w.heap.size :: f) jf l7 (an.mono hC fun _ h=>absurd h List.not_mem_nil) ⟨_,n,by rw [← hn,e1],.inr ⟨w.heap.size,us.toArray,f,rfl,zC,rfl,by rw [← hn,e1]; exact Nat.le_refl _,Nat.le_trans F7 (by decide),by rw [hE,Nat.mul_one]; simp [hn],?_⟩⟩ ?_ ?_
 ·rw [hE,Nat.mul_one,List.toList_toArray,← e1,List.take_length]
  exact gp
 ·exact List.nodup_cons.2 ⟨fun hm=>Nat.lt_irrefl _ (bh _ hm),(List.nodup_append.1 l7.nd).1⟩
 ·intro b hb
  rcases List.mem_cons.1 hb with rfl | hb
  ·exact .inr (Nat.le_refl _)
  ·exact .inl hb
theorem Yn {α:Type} {d b:Nat} {s x:OO} {v u yv:Value} {j:Int} {y:α} {z:List α} {xs:List (List α)} {t e e' et ty:TI} {E E':ai α} {z0:α} {bt:Nat} {o1 o2:Bool} {Γx:QE} {f:Unit→Option M} [hT:uw P t α e E z0 bt] (hs:bn fr s=some u) (hx:bn fr x=some (.slice (some ⟨b,0,none⟩) 1 1)) (hl:Loc Γ u (.row v j)) (h0:ee Γ (.row b [yv] et) Γ1) (hz:qa Γ u o1 o2 E' z uk Γx) (h1:ee Γ1 (.own (aI e' (aI e E)) v xs) Γ2) (hr:RT (aI e E) (bG E')) (hy:B2 Γ2 E yv y Γ3)
  (h:∀ v',D P cx (.o false all l rk (.own (aI e E) v' (z++[y]) :: .own (uB e' (aI e E) j.toNat) v xs :: Γ3) ((d,v') :: fr) (f ()))):D P cx (.e false (.call ⟨.builtin .append,#[s,x],#[t,t]⟩) (some d) ty all l rk Γ fr (fits bt (z.length+1)>>=f)):=by
 refine D.of ?_
 intro B o cc r w ha dy pos ah g
 obtain ⟨_,hu,cc⟩:=bind_some cc
 obtain ⟨b1,b2⟩:=qx hu
 obtain ⟨q1,q2,i,zz,q3,q4,q5,q6,q7,_⟩:=hT.h
 obtain ⟨Z,F,hS,hG⟩:=dy
 obtain ⟨j0,j1,jy⟩:=Loc.row hl rfl hS
 obtain ⟨dj,_,⟨⟨gz,ur,_⟩,_⟩,_⟩:=hz.sound hS
 obtain ⟨n0,F0,vI,⟨rfl,bj⟩,yB⟩:=h0.sound hS
 obtain ⟨fm,F1,tW,hO,ik⟩:=h1.sound yB
 obtain ⟨ky,F2,qh,Tz,jf⟩:=hy.sound ik
 rw [vc hO] at j1
 obtain ⟨k,gm,a1,a2,a3⟩:=Gj rfl hO (List.getElem?_eq_getElem j1) jy
 have TB:xs[j.toNat]=z:=hr.vE (hr.le.le a1) ur
 rw [TB] at a1
 have rh:((k++ky)++(gm++F2)).Perm (fm++F1):=by
  have e1:((k++gm)++(ky++F2)).Perm (fm++F1):=(a2.append_right _).trans (qh.append_left fm)
  refine .trans ?_ e1
  rw [List.append_assoc,List.append_assoc]
  refine List.Perm.append_left k ?_
  rw [← List.append_assoc,← List.append_assoc]
  exact List.perm_append_comm.append_right F2
 have nb:Gd B Z ((k++ky)++(gm++F2)) w:=Gd.left (F':=[b]) (hG.perm (((rh.append_right [b]).trans (List.perm_append_comm.trans (tW.append_left [b]))).trans vI))
 have dt:=(List.nodup_append.1 nb.nd).1
 have AA:=List.nodup_append.1 dt
 obtain ⟨v',w',f',mr,hC,dp,dq,GA⟩:=pj (E:=E) (d:=some d) (ty:=ty) (pos:=pos) (ah:=ah) (g:=none) (k:=ky) (ys:=[y]) (news:=[yv]) q1 q3 q4 (by rw [q5,q2]) (by rw [cells_one q6,q2]; rfl) (bC ha hs) a1 AA.1 (bC ha hx) (fun i u hi=>bj.at i u hi) (r6 Tz) (fun b hb hm=>AA.2.2 b hm b hb rfl) (by simp) (by rw [q7]; exact b1) b2
 refine ez (WL.val rfl mr ((h v').sound B o cc _ w' (av ha) ?_))
 have hSh:SA Z w (.own (uB e' (aI e E) j.toNat) v xs :: Γ3) [] (gm++F2):=SA.cons jf (e:=.own (uB e' (aI e E) j.toNat) v xs) a3
 refine St.put hSh nb (hC.mono fun b hb=>List.mem_append_left _ hb) dp (GA AA.2.1) fun b hb=>?_
 rcases dq b hb with h | h | h
 ·exact .inl (List.mem_append_left _ h)
 ·exact .inl (List.mem_append_right _ h)
 ·exact .inr h
theorem ixH {α:Type} {q:Bool} {d j0:Nat} {x y:OO} {v:Value} {k:IntKind} {j:Int} {xs:List α} {t e ty:TI} {E:ai α} {f:α→Option M} [ht:wj P t] (hx:bn fr x=some v) (hy:bn fr y=some (.int k j)) (h1:ee Γ (.own (uB e E j0) v xs) Γ1)
  (h:∀ z,D P cx (.o q all l rk Γ ((d,.pointer (some (cw v 1 j))) :: fr) (f z))):D P cx (.e q (.indexAddr t x y) (some d) ty all l rk Γ fr (idx xs j>>=f)):=by
 refine D.of ?_
 intro B o ho r w ha hs pos ah g
 obtain ⟨z,hz,ho⟩:=bind_some ho
 replace hz:=p3 hz
 obtain ⟨e',i,q1,q2,q3⟩:=ht.h
 obtain ⟨Z,F,hS,_⟩:=@_root_.id _ hs
 obtain ⟨f0,F1,_,⟨b,cap,cur,f1,f2,p,c0,qq,hv,_⟩,_⟩:=h1.sound hS
 obtain rfl:v = .slice (some ⟨b,0,none⟩) xs.length cap:=by simpa using hv
 have bh:j.toNat < xs.length:=(List.getElem?_eq_some_iff.1 hz.2).1
 have GP:=hz.1
 refine cu (v:=.pointer (some (cw (.slice (some ⟨b,0,none⟩) xs.length cap) 1 j))) (fun w' hC=>?_) ((h z).sound B o ho _ w (av ha) hs)
 rw [kn q1 q2 (bC ha hx) (bC ha hy) hz.1 (by omega),q3]
 rfl
theorem stR {α:Type} {x0 y0:OO} {v u:Value} {j:Int} {z:α} {xs:List α} {t e ty:TI} {E:ai α} {m:Option M} (h1:ee Γ (.own E u z) Γ1) (h2:ee Γ1 (.own (uB e E j.toNat) v xs) Γ2)
  (h:D P cx (.o false all l rk (.own (aI e E) v (xs.set j.toNat z) :: Γ2) fr m)):D P cx (.st (cw v 1 j) u 1 t x0 y0 ty all l rk Γ fr m):=by
 refine D.of ?_
 intro hT hx hy B o cc r w ha dy pos ah g
 obtain ⟨i,q1,q2⟩:=hT
 obtain ⟨Z,F,hS,hG⟩:=dy
 obtain ⟨k,F1,tW,hK,ik⟩:=h1.sound hS
 obtain ⟨gm,F2,qh,hM,jf⟩:=h2.sound ik
 have Ag:((gm++k)++F2).Perm F:=by
  refine .trans ?_ tW
  refine .trans ?_ (qh.append_left k)
  rw [← List.append_assoc k gm F2]
  exact List.perm_append_comm.append_right F2
 have nb:Gd B Z ((gm++k)++F2) w:=hG.perm Ag
 have dt:=(List.nodup_append.1 nb.nd).1
 obtain ⟨b,cap,cur,f1,f2,p,c0,qq,hv,g1,rfl,⟨g2,g3,g4,g5⟩,g6,⟨g7,g8⟩,g9,g10⟩:=hM
 obtain rfl:v = .slice (some ⟨b,0,none⟩) xs.length cap:=by simpa using hv
 have zf:cw (.slice (some ⟨b,0,none⟩) xs.length cap) 1 j = ⟨b,j.toNat,none⟩:=by
  simp only [cw,ir,Nat.zero_add,Nat.mul_one]
 rw [zf] at hx
 have bj:Row w b cur.toList e:=by unfold Row; simpa using g1
 have SB:∀ i∈(f1++f2)++k,i≠b:=by
  intro i hi he
  subst he
  have e1:((i :: (f1++f2))++k)=i :: ((f1++f2)++k):=rfl
  rw [e1] at dt
  exact (List.nodup_cons.1 dt).1 hi
 refine ez (WL.Gf q1 q2 bj (by rw [Array.length_toList,g4]; omega) (bC ha hx) (bC ha hy) (E.one hK u (by simp)) fun w' hC uA=>h.sound B o cc _ w' ha ?_)
 have Qx:∀ i∈(f1++f2)++k,i < w.heap.size→w'.heap[i]? = w.heap[i]?:=fun i hi hl=>hC.block i hl fun hm=>SB i hi (by simpa using hm)
 have hK':E.rep w'.heap [u] z k:=E.congr hK fun i hi=>Qx i (List.mem_append_right _ hi) (E.lt hK i hi)
 have II:=g10 w'.heap (fun i hi=>Qx i (List.mem_append_left _ hi) (g9 i hi)) u z k hK'
 refine St.put (f:=(b :: (f1++f2))++k) (f':=b :: (f1++k++f2)) jf nb (hC.mono fun i hi=>by rw [List.mem_singleton.1 hi]; simp) ⟨_,cap,by rw [List.length_set],.inr ⟨b,_,f1++k++f2,rfl,uA,rfl,by rw [List.length_set]; exact g2,g3,?_,?_⟩⟩ ?_ ?_
 ·rw [g5]; simp [g4]
 ·have zg:((cur.toList.set j.toNat u).take xs.length)=p++[u]++qq:=by
   rw [List.take_set,g6,← g7]
   simp
  rw [List.length_set,g5,Nat.mul_one]
  simpa [zg] using II
 ·have Gz:(b :: (f1++k++f2)).Perm ((b :: (f1++f2))++k):=by
   rw [List.cons_append]
   refine List.Perm.cons b ?_
   rw [List.append_assoc,List.append_assoc]
   exact List.Perm.append_left f1 List.perm_append_comm
  exact Gz.nodup_iff.2 dt
 ·intro i hi
  refine .inl ?_
  rcases List.mem_cons.1 hi with rfl | hi
  ·simp
  ·rcases List.mem_append.1 hi with hi | hi
   ·rcases List.mem_append.1 hi with hi | hi <;> simp [hi]
   ·simp [hi]
theorem Da {S S1 V W:Type} (k:Nat) (Δ:S1→V→W→List aq) (φ:S1→V→W→Fr) (v0:V) (w0:W) (f2:Fr) {fu:List KI} {kb:Kb R S} {c:Code} {s0:S1} {body:S1→Option (Out S1 R)} {f:S1→Option (Out S R)}
  (ha:qw fr (φ s0 v0 w0)) (hf:qw fr f2) (h0:EO Γ (Δ s0 v0 w0) Γ1) (hn:OW Γ (Δ s0 v0 w0)) (hs:jj Γ1 Γ2)
  (hb:∀ s v w,D P cx (.p (φ s v w) (Δ s v w) f2 Γ2 fun fr Γ=>.c ⟨[],.loop (V×W) k (fun s v=>Δ s v.1 v.2) (fun s v=>φ s v.1 v.2) Γ2 f2⟩ c Γ fr (body s)))
  (hk:∀ s v w,D P cx (.p (φ s v w) (Δ s v w) f2 Γ2 fun fr Γ=>.mn ⟨fu,kb⟩ Γ fr (f s))):Bx (na P cx (.bk true k ⟨fu,kb⟩ (.loop c) Γ fr (af (ae k (Li.ag body s0)) f))):=
 loop k (fun s v=>Δ s v.1 v.2) (fun s v=>φ s v.1 v.2) (v0,w0) f2 ha hf h0 hn hs (fun s v=>hb s v.1 v.2) (fun s v=>hk s v.1 v.2)
def GQ {α:Type} (v:Value) (_:List α):Prop:=∃ a n c,v = .slice a n c∧n≤c
theorem Le.cap {α:Type} {T E:ai α} (hl:Le T E) (e:TI):Le (aI e T) (tR GQ (bG E)):=by
 refine ⟨rfl,fun {h cs x f} hr=>⟨?_,(Le.own hl e).le hr⟩⟩
 obtain ⟨base,cap,rfl,hr⟩:=hr
 refine ⟨_,rfl,_,_,_,rfl,?_⟩
 rcases hr with ⟨_,_,rfl,_⟩ | ⟨_,_,_,_,_,_,h,_⟩
 ·exact Nat.zero_le _
 ·exact h
theorem RF {α:Type} {T E:ai α} {e e2:TI} {v:Value} {xs:List (List α)} {f:LN} {h:Array Obj} (hl:Le T E) (hO:(aI e (aI e2 T)).rep h [v] xs f) :
  ∃ fo fz us,(fo++fz).Perm f∧(aI e r9).rep h [v] us fo∧df (tR GQ (bG E)) h us xs fz:=by
 obtain ⟨base,cap,hv,hr⟩:=hO
 rcases hr with ⟨rfl,rfl,rfl,rfl⟩ | ⟨b,cur,f',rfl,h2,rfl,h4,h5,h6,h3⟩
 ·exact ⟨[],[],[],.refl _,⟨none,0,by simpa using hv,.inl ⟨rfl,rfl,rfl,rfl⟩⟩,rfl,rfl⟩
 ·have h7:=jo h3
  have h8:(aI e2 T).size=1:=rfl
  rw [h8,Nat.mul_one] at h6 h3 h7
  try rw [Nat.mul_one] at h7
  refine ⟨[b],f',cur.toList.take xs.length,.refl _,⟨_,cap,by rw [h7]; exact hv,.inr ⟨b,cur,[],rfl,h2,rfl,by rw [h7]; exact h4,h5,by rw [h6]; exact (Nat.mul_one _).symm,?_⟩⟩,u6 (Le.cap hl e2) h3⟩
  have h9:r9.size=1:=rfl
  rw [h9,Nat.mul_one,h7]
  exact Cc (Cw h3)
theorem St.frz {α:Type} {T E:ai α} {e e2:TI} {v:Value} {xs:List (List α)} (hs:St B Γ w) (h1:EO Γ [.own (aI e (aI e2 T)) v xs] Γ1) (hr:RT T E):St B (.om e (tR GQ (bG E)) v xs :: Γ1) w:=by
 obtain ⟨Z,F,hS,hG⟩:=hs
 obtain ⟨_,F1,hH,ik,hp⟩:=h1.sound hS
 obtain ⟨f,hO,hp⟩ : ∃ f,(aI e (aI e2 T)).rep w.heap [v] xs f∧(f++F1).Perm F:=by
  cases hH with
  | own h k=>cases k; exact ⟨_,h,by simpa using hp⟩
 obtain ⟨fo,fz,us,hf,ho,hl⟩:=RF hr.le hO
 have Ag:((fo++F1)++fz).Perm F:=by
  refine .trans ?_ hp
  refine .trans ?_ (hf.append_right F1)
  rw [List.append_assoc,List.append_assoc]
  exact List.Perm.append_left fo List.perm_append_comm
 have r3:=Gd.freeze (hG.perm Ag) fun b hb=>hS.lt b (Ag.mem_iff.1 (List.mem_append_right _ hb))
 exact ⟨rv Z fz,fo++F1,SA.cons (ik.mono (fun _ h=>.inl h) fun _ h=>h) ⟨us,fz,ho,hl,fun b hb=>.inr hb,rfl⟩,r3⟩
theorem Xc {S:Type} {id:Nat} (k:Nat) {K:de R S} {l ops Yo:LO} {α:Type} {T E:ai α} {e e2:TI} {v:Value} {xs:List (List α)} {m:Option (Out S R)} (hB:(P.follows .mixedOrders && di cx.n l && ((l.take k).all fun o=>wU o.op) && Region.lexTailB .any l.toArray k)=true) (ho:ops=l.take k) (ht:Yo=l.drop k)
  (h1:EO Γ [.own (aI e (aI e2 T)) v xs] Γ1) (hr:RT T E) (h:D P cx (.o true l ops (.h l Yo K) (.om e (tR GQ (bG E)) v xs :: Γ1) fr m)):Bx (na P cx (.dr id l K Γ fr m)):=by
 have h2:=tail (id:=id) k hB ho ht h
 rw [mg] at h2 ⊢
 exact fun B o cc r w ha hs=>h2 B o cc r w ha (hs.frz h1 hr)
theorem LP {α:Type} {E:ai α} {h:Array Obj}:∀ {xs:List α} {cs:LV} {f:LN} (n:Nat),df E h cs xs f→∃ f3,df E h (cs.drop (n * E.size)) (xs.drop n) f3∧∀ b∈f3,b∈f:=by
 intro xs
 induction xs with
 | nil=>rintro cs f n ⟨rfl,rfl⟩; exact ⟨[],by simpa using ⟨rfl,rfl⟩,fun _ h=>h⟩
 | cons x xs ih=>
  rintro cs f n ⟨c,ds,f1,f2,rfl,rfl,h1,h2⟩
  cases n with
  | zero=>exact ⟨f1++f2,by simpa using ⟨c,ds,f1,f2,rfl,rfl,h1,h2⟩,fun _ h=>h⟩
  | succ n=>
   obtain ⟨f3,h3,h4⟩:=ih n h2
   refine ⟨f3,?_,fun b hb=>List.mem_append_right _ (h4 b hb)⟩
   have e:(n+1) * E.size=c.length+n * E.size:=by rw [E.len h1,Nat.add_mul,Nat.one_mul,Nat.add_comm]
   rw [e,List.drop_append,List.drop_of_length_le (by omega),List.nil_append,List.drop_succ_cons]
   simpa using h3
theorem slT {α:Type} {q:Bool} {d:Nat} {x lo:OO} {v:Value} {k:IntKind} {j:Int} {E:ai α} {xs:List α} {t ty:TI} {f:List α→Option M} [ht:wj P t] (hx:bn fr x=some v) (hy:bn fr lo=some (.int k j)) (hr:In (.rd false (tR GQ (bG E)) v xs) Γ) (hE:E.size=1)
  (h:∀ v' ys,D P cx (.o q all l rk (.rd false (bG E) v' ys :: Γ) ((d,v') :: fr) (f ys))):D P cx (.e q (.slice t x (some lo) none none) (some d) ty all l rk Γ fr (tl xs j>>=f)):=by
 refine D.of ?_
 intro B o ho r w ha hs pos ah g
 obtain ⟨ys,yF,ho⟩:=bind_some ho
 obtain ⟨h0,h1,rfl⟩:=RG yF
 obtain ⟨e,i,q1,q2,q3⟩:=ht.h
 obtain ⟨Z,F,hS,hG⟩:=hs
 obtain ⟨g0,⟨⟨v0,hv0,a0,n0,c0,hv1,hc⟩,base,cap,hv,gp⟩,ur⟩:=hr.rd hS []
 obtain rfl:v = .slice base xs.length cap:=by simpa using hv
 obtain rfl:Value.slice base xs.length cap=v0:=by simpa using hv0
 obtain ⟨rfl,rfl,rfl⟩ : base=a0∧xs.length=n0∧cap=c0:=by simpa using hv1
 have hlen:(xs.drop j.toNat).length=xs.length - j.toNat:=List.length_drop
 have hf:fact Z w [] (.rd false (bG E) (sliced base j.toNat xs.length cap 1) (xs.drop j.toNat)):=by
  by_cases hj:j.toNat=xs.length
  ·refine ⟨[],⟨_,cap - j.toNat,by unfold sliced; rw [hlen],.inl ⟨by rw [hj]; simp,rfl⟩⟩,fun _ h=>absurd h List.not_mem_nil⟩
  ·rcases gp with ⟨rfl,_⟩ | ⟨b,off,cur,e',fz,f',rfl,g1,rfl,_,g2⟩
   ·exfalso; simp at h1 hj; omega
   ·have qc : ¬ (cap=j.toNat):=by omega
    obtain ⟨f3,dp,dq⟩:=LP j.toNat g2
    refine ⟨b :: f3,⟨some ⟨b,off+j.toNat,none⟩,cap - j.toNat,?_,.inr ⟨b,off+j.toNat,cur,e',fz,f3,rfl,g1,rfl,by omega,?_⟩⟩,fun i hi=>?_⟩
    ·unfold sliced
     rw [hlen,if_neg qc]
     simp [ir]
    ·rw [hE,Nat.mul_one] at dp ⊢
     rw [Nat.mul_one,List.drop_take,List.drop_drop] at dp
     rw [hlen]
     exact dp
    ·rcases List.mem_cons.1 hi with rfl | hi
     ·exact ur _ (by simp)
     ·exact ur _ (List.mem_cons_of_mem _ (dq i hi))
 refine cu (v:=sliced base j.toNat xs.length cap 1) (fun w' _=>?_) ((h _ _).sound B o ho _ w (av ha) ⟨Z,F,SA.fact hS hf,hG⟩)
 have q4:P.elem t=e:=by simp [Program.elem,q1]
 have uy:(sizeOf (P.elem t)).run P w' = .ok 1 w':=by rw [q4]; simp [sizeOf,typeInfo,q2,q3]
 simp [execOp,bC ha hx,bC ha hy,run_sliceAt_slice w' t _ _ _ _ (by rw [q4]; exact q1),run_slice_l (P:=P) w' t base xs.length cap (by rw [q4]; exact q1) k j h0 h1,uy,Result.andThen]
theorem slX {α:Type} {q o:Bool} {d:Nat} {x hi:OO} {v:Value} {k:IntKind} {j:Int} {E:ai α} {xs:List α} {t ty:TI} {f:List α→Option M} {Γ':Value→List α→List aq} [ht:wj P t] (hx:bn fr x=some v) (hy:bn fr hi=some (.int k j)) (hr:∀ v' ys,qa Γ v o o E xs (.rd o (bG E) v' ys) (Γ' v' ys)) (hE:E.size=1)
  (h:∀ v' ys,D P cx (.o q all l rk (Γ' v' ys) ((d,v') :: fr) (f ys))):D P cx (.e q (.slice t x none (some hi) none) (some d) ty all l rk Γ fr (Ec xs 0 j>>=f)):=by
 refine D.of ?_
 intro B oo ho r w ha hs pos ah g
 obtain ⟨ys,yF,ho⟩:=bind_some ho
 obtain ⟨_,h0,h1,rfl⟩:=LR yF
 obtain ⟨e,i,q1,q2,q3⟩:=ht.h
 obtain ⟨Z,F,hS,hG⟩:=hs
 obtain ⟨base,cap,rfl,Gu⟩ : ∃ base cap,v = .slice base xs.length cap∧xs.length≤cap:=by
  obtain ⟨_,_,⟨⟨g0,⟨base,cap,hv,gp⟩,_⟩,_⟩,_⟩:=(hr v xs).sound hS
  refine ⟨base,cap,by simpa using hv,?_⟩
  rcases gp with ⟨rfl,_⟩ | ⟨_,_,_,_,_,_,_,_,_,hc,_⟩
  ·exact Nat.zero_le _
  ·exact hc
 obtain ⟨dj,_,⟨⟨g0,hg0,wm⟩,_⟩,tJ⟩:=(hr (sliced base 0 j.toNat cap 1) ((xs.drop (0:Int).toNat).take (j.toNat - (0:Int).toNat))).sound hS
 have hf:=NW (a:=0) (b:=j.toNat) hE hg0 (fun i hi=>(wm i hi).elim (fun h=>h) fun h=>h) (Nat.zero_le _) (by omega) Gu
 refine cu (v:=sliced base 0 j.toNat cap 1) (fun w' _=>?_) ((h _ _).sound B oo ho _ w (av ha) ⟨Z,F,tJ hf,hG⟩)
 have q4:P.elem t=e:=by simp [Program.elem,q1]
 have uy:(sizeOf (P.elem t)).run P w' = .ok 1 w':=by rw [q4]; simp [sizeOf,typeInfo,q2,q3]
 simp [execOp,bC ha hx,bC ha hy,run_sliceAt_slice w' t _ _ _ _ (by rw [q4]; exact q1),run_slice_h (P:=P) w' t base xs.length cap (by rw [q4]; exact q1) k j h0 (by omega),uy,Result.andThen]
theorem stN {α:Type} {x y:OO} {v u:Value} {j:Int} {z:List α} {xs:List (List α)} {E:ai α} {Q:Value→List α→Prop} {t e ty:TI} {Γx:QE} {m:Option M} (h0:Rg v j Γ) (h1:qa Γ u false false E z uk Γx) (h2:ee Γ (.om e (tR Q (bG E)) v xs) Γ1)
  (h:D P cx (.o false all l rk (.om e (bG E) v (xs.set j.toNat z) :: Γ1) fr m)):D P cx (.sl .om v j u t x y ty all l rk Γ fr m):=by
 refine D.of ?_
 intro hT hx hy _ B o ho r w ha hs pos ah g
 obtain ⟨i,hi,uy⟩:=hT
 obtain ⟨Z,F,hS,hg⟩:=hs
 obtain ⟨j0,j1⟩:=h0.sound hS
 obtain ⟨dj,_,⟨⟨k,hk,hkz⟩,_⟩,_⟩:=h1.sound hS
 obtain ⟨n,F1,hp,⟨us,gg,hO,hr0,ur,Ub⟩,ik⟩:=h2.sound hS
 have hle:Le (tR Q (bG E)) (bG E):=⟨rfl,fun h=>h.2⟩
 have hr:df (bG E) w.heap us xs gg:=u6 hle hr0
 replace Ub:(bG E).size=1:=rfl
 have l7:=hg.perm hp
 have dt:=List.nodup_append.1 l7.nd
 have Uc:∀ b∈k,Z b:=fun b hb=>(hkz b hb).elim (fun h=>h) (fun h=>h)
 have Yp:∀ b∈n,¬ Z b:=fun b hb=>l7.apart b (List.mem_append_left _ hb)
 have hl:us.length=xs.length:=by have:=jo hr; rw [Ub,Nat.mul_one] at this; exact this
 have K1:wa v=us.length:=vc hO
 rw [K1,hl] at j1
 refine ez (Ud.store (E:=bG E) (G:=n) (B:=w.heap.size) (g:=gg) (k:=k) hi uy ⟨us,⟨hO,dt.1,fun b hb=>.inl hb⟩,hr,Ub⟩ (List.getElem?_eq_getElem j1) (bC ha hx) (bC ha hy) hk (fun b hb hm=>Yp b hm (Uc b hb)) (fun b hb hm=>Yp b hm (ur b hb)) fun w' g' hC tz pg=>?_)
 obtain ⟨us',cc,gp,ZE⟩:=tz
 exact h.sound B o ho _ w' ha (St.put ik l7 hC ⟨us',_,cc.1,gp,(fun b hb=>(pg b hb).elim (ur b) (Uc b)),ZE⟩ cc.2.1 fun b hb=>.inl hb)
theorem St.amE {B:Bs} {Γ Δ Γ1 Γ2 Γ3:QE} {w:World} (h:St B Γ w) (h0:EF Γ Δ Γ1) (h1:EO Γ1 Γ2 Γ3) (h2:MF Γ none Γ2):St B (Δ.reverse++Γ2) w:=by
 obtain ⟨Z,F,hs,hg⟩:=h
 obtain ⟨Fd,F',Zn,a1,a2,a3⟩:=h0.sound hs
 obtain ⟨SY,F3,c1,c2,c3⟩:=h1.sound a2
 obtain ⟨F2,b1,b2⟩:=HL.build a1 (h2.sound (hs.left (f:=Zn)) (dj:=[]) (by rintro e he; cases he) c1)
 refine St.of (F':=Fd++SY) b2 (Gd.left (F':=F3) ((Gd.freeze (hg.perm a3) fun b hb=>hs.lt b (a3.mem_iff.1 (List.mem_append_right _ hb))).perm ?_)) b1
 rw [List.append_assoc]
 exact c3.append_left Fd
theorem join {S S1 V:Type} {t k:Nat} {b:Bool} (Δ:S1→V→List aq) (φ:S1→V→Fr) (v0:V) (f2:Fr) {fu:List KI} {kb:Kb R S} {x y:Code} {s0:S1} {m0:Option (Out S1 R)} {f:S1→Option (Out S R)}
   (_ha:qw fr (φ s0 v0)) (_hf:qw fr f2) (_h0:EO Γ (Δ s0 v0) Γ1) (_hs:jj Γ1 Γ2)
   (hb:D P cx (.cd b ⟨[],.loop V k Δ φ Γ2 f2⟩ x y Γ fr m0)) (hk:∀ s v,D P cx (.p (φ s v) (Δ s v) f2 Γ2 fun fr Γ=>.n ⟨fu,kb⟩ Γ fr (f s))):D P cx (.cd b ⟨fu,kb⟩ x y Γ fr (jn t s0 m0 f)):=by
 refine .inj (bxi ?_)
 intro B o ho r w ph r4
 replace ho:af m0 f=some o:=ho
 cases hm:m0 with
 | none=>rw [hm] at ho; cases ho
 | some o0=>
  have h1:=hb.sound B o0 hm r w ph r4
  rw [hm] at ho
  have hq:∀ e r w,km P cx B ⟨[],.loop V k Δ φ Γ2 f2⟩ o0 e r w→km P cx B ⟨fu,kb⟩ o e r w:=by
   intro e r w hp
   cases o0 with
   | norm s=>
    cases e with
    | normal=>obtain ⟨v,a1,a2⟩:=hp; exact (hk s v).sound B o ho r w a1 a2
    | _=>exact hp.elim
   | exit j s=>cases ho
   | ret y=>
    cases ho
    cases e with
    | ret=>exact vH hp
    | _=>exact hp.elim
  exact ⟨fun h=>w5 (h1.1 h) hq,fun h=>w5 (h1.2 h) hq⟩
theorem LS {S:Type} {t:Nat} {K:de R S} {ops:LO} {m:Option (Out S R)} (_ht:CQ ops=some t) (h:D P cx (.o false ops ops (.s K) Γ fr m)):D P cx (.rw false ops K Γ fr m):=.XW h
theorem te {S:Type} {b:Bool} {t:Nat} {K:de R S} {x y:Code} {m1 m2:Option (Out S R)} (hl:look fr t=some (.bool b)) (h1:D P cx (.c K x Γ ((t,.bool true) :: fr) m1)) (h2:D P cx (.c K y Γ ((t,.bool false) :: fr) m2)):D P cx (.cd b K x y Γ fr (bif b then m1 else m2)):=by
 refine D.of ?_
 have hc:∀ {r:NV},dc r fr→∀ c,b=c→dc r ((t,.bool c) :: fr):=by
  intro r ha c hb s u hs
  unfold look at hs
  cases r4:Nat.beq s t with
  | true=>
   rw [r4] at hs
   cases hs
   obtain rfl:=Nat.eq_of_beq_eq_true r4
   rw [← hb]
   exact ha _ _ hl
  | false=>rw [r4] at hs; exact ha _ _ hs
 exact fun B o ho r w ha hs=>⟨fun h=>h1.sound B o (by rw [h] at ho; exact ho) r w (hc ha _ h) hs,fun h=>h2.sound B o (by rw [h] at ho; exact ho) r w (hc ha _ h) hs⟩
class o6 {α:Type} (S:ai α) (V:outParam Type) (cl:outParam (α→V→List Value)) (en:outParam (α→V→List aq)):Prop where
 ow:∀ x v,tS (en x v)=true
 op:∀ {w:World} {cs:LV} {x:α} {g:LN},S.rep w.heap cs x g→∃ v,cs=cl x v∧∀ Z:Nat→Prop,HL Z w (en x v) g
 cl:∀ {w:World} {x:α} {v:V} {Z:Nat→Prop} {g:LN},HL Z w (en x v) g→S.rep w.heap (cl x v) x g
theorem o6.i {k:IntKind}:o6 (aK k) Unit (fun x _=>[.int k x]) (fun _ _=>[]):=
 ⟨fun _ _=>rfl,fun h=>⟨(),h.1,fun _=>by rw [h.2]; exact .nil⟩,fun h=>by cases h; exact ⟨rfl,rfl⟩⟩
theorem o6.s {α:Type} {e:TI} {E:ai α}:o6 (aI e E) Value (fun _ v=>[v]) (fun x v=>[.own (aI e E) v x]):=by
 refine ⟨fun _ _=>rfl,fun {w cs x g} h=>?_,fun {w x v Z g} h=>?_⟩
 ·obtain ⟨base,cap,rfl,hr⟩:=h
  refine ⟨_,rfl,fun Z=>?_⟩
  have:=HL.own (Z:=Z) (w:=w) (e:=.own (aI e E) (.slice base x.length cap) x) (f:=g) ⟨base,cap,rfl,hr⟩ .nil
  rwa [List.append_nil] at this
 ·cases h with
  | own h k=>cases k; rw [List.append_nil]; exact h
  | fact h _=>exact h.elim
theorem o6.ip {β V:Type} {k:IntKind} {B:ai β} {cl:β→V→List Value} {en:β→V→List aq} (h:o6 B V cl en):o6 (cj (aK k) B) V (fun x v=>.int k x.1 :: cl x.2 v) (fun x v=>en x.2 v):=by
 refine ⟨fun x v=>h.ow x.2 v,fun {w cs x g} hr=>?_,fun {w x v Z g} he=>?_⟩
 ·obtain ⟨c1,c2,f1,f2,rfl,rfl,⟨rfl,rfl⟩,h2⟩:=hr
  obtain ⟨v,rfl,hv⟩:=h.op h2
  exact ⟨v,rfl,hv⟩
 ·exact ⟨[_],_,[],g,rfl,rfl,⟨rfl,rfl⟩,h.cl he⟩
theorem o6.sp {α β V:Type} {e:TI} {E:ai α} {B:ai β} {cl:β→V→List Value} {en:β→V→List aq} (h:o6 B V cl en):o6 (cj (aI e E) B) (Value×V) (fun x v=>v.1 :: cl x.2 v.2) (fun x v=>.own (aI e E) v.1 x.1 :: en x.2 v.2):=by
 refine ⟨fun x v=>h.ow x.2 v.2,fun {w cs x g} hr=>?_,fun {w x v Z g} he=>?_⟩
 ·obtain ⟨c1,c2,f1,f2,rfl,rfl,h1,h2⟩:=hr
  obtain ⟨base,cap,rfl,xJ⟩:=h1
  obtain ⟨v,rfl,hv⟩:=h.op h2
  exact ⟨(_,v),rfl,fun Z=>.own ⟨base,cap,rfl,xJ⟩ (hv Z)⟩
 ·cases he with
  | own h1 k=>
   obtain ⟨base,cap,hb,xJ⟩:=h1
   exact ⟨[_],_,_,_,rfl,rfl,⟨base,cap,hb,xJ⟩,h.cl k⟩
  | fact h1 _=>exact h1.elim
theorem o6.mp {α β V:Type} {f:β→α} {A:ai α} {cl:α→V→List Value} {en:α→V→List aq} (h:o6 A V cl en):o6 (yg f A) V (fun y v=>cl (f y) v) (fun y v=>en (f y) v):=
 ⟨fun y v=>h.ow (f y) v,fun hr=>h.op hr,fun he=>h.cl he⟩
inductive Ob {α:Type} (S:ai α) (V:Type) (cl:α→V→List Value) (en:α→V→List aq):Prop
 | mk [h:o6 S V cl en]:Ob S V cl en
theorem Xd:∀ {Δ:QE} {F:LN},tS Δ=true→HO Z w Δ F→HL Z w Δ F:=by
 intro Δ
 induction Δ with
 | nil=>intro F _ h; cases h; exact .nil
 | cons e Δ ih=>
  intro F ho h
  cases e with
  | own T v x=>cases h with | own h k=>exact .own h (ih ho k)
  | row b cs t=>cases h with | own h k=>exact .own h (ih ho k)
  | _=>exact absurd ho (by simp [tS])
theorem Yq {α:Type} (S:ai α) {d:Nat} {t e n bt ty:TI} {m:Option M} [ht:Ay P t e n bt]
  (h:∀ v,D P cx (.o false all l rk (.own (aI e S) v [] :: Γ) ((d,v) :: fr) m)):D P cx (.e false (.buildSlice t 0 #[]) (some d) ty all l rk Γ fr m):=by
 refine D.of ?_
 intro B o ho r w ha hs pos ah g
 obtain ⟨h1,i,z,h2,_⟩:=ht.h
 obtain ⟨v,w',f,hr,hC,hO⟩:=zt (E:=S) (r:=r) (w:=w) (d:=some d) (ty:=ty) (pos:=pos) (ah:=ah) (g:=none) h1 h2
 refine ez (WL.val rfl hr ((h v).sound B o ho _ w' (av ha) ?_))
 obtain ⟨Z,F,hS,hg⟩:=hs
 exact St.put (f:=[]) hS hg hC hO.1 hO.2.1 fun b hb=>.inr ((hO.2.2 b hb).resolve_left List.not_mem_nil)
theorem Yr {α:Type} {S:ai α} {q:Bool} {d n e:Nat} {x:OO} {v:Value} {xs:List α} {t ty bt:TI} {m:Option M} [ht:Ay P t e n bt] (hx:bn fr x=some v) (h1:ee Γ (.own (aI e S) v xs) Γ1)
  (h:D P cx (.o q all l rk Γ ((d,.int .i64 (xs.length:Int)) :: fr) m)):D P cx (.e q (.call ⟨.builtin .len,#[x],#[t]⟩) (some d) ty all l rk Γ fr m):=by
 refine D.of ?_
 intro B o ho r w ha hs pos ah g
 obtain ⟨q1,_⟩:=ht.h
 obtain ⟨Z,F,hS,hG⟩:=@_root_.id _ hs
 obtain ⟨f,F1,_,hO,_⟩:=h1.sound hS
 obtain ⟨base,cap,hv,_⟩:=hO
 obtain rfl:v = .slice base xs.length cap:=by simpa using hv
 exact cu (v:=.int .i64 (xs.length:Int)) (fun w' _=>wT q1 (bC ha hx)) (h.sound B o ho _ w (av ha) hs)
theorem Oc {α:Type} {S:ai α} {n:Nat} {hp:Array Obj} (hn:S.size=n):∀ {xs:List α} {cs:LV} {f:LN},df S hp cs xs f→∃ us,us.length=xs.length∧df (iy n) hp cs us []∧∀ (j:Nat) (x:α),xs[j]? = some x→∃ c f0 f1 f2,us[j]? = some c∧f=f0++f1++f2∧S.rep hp c x f1:=by
 intro xs
 induction xs with
 | nil=>rintro cs f ⟨rfl,rfl⟩; exact ⟨[],rfl,⟨rfl,rfl⟩,fun j x hj=>by simp at hj⟩
 | cons y xs ih=>
  rintro cs f ⟨c,ju,f1,f2,rfl,rfl,h1,h2⟩
  obtain ⟨us,hl,hr,hg⟩:=ih h2
  refine ⟨c :: us,by simp [hl],⟨c,ju,[],[],rfl,rfl,⟨rfl,by rw [S.len h1,hn],S.one h1,rfl⟩,hr⟩,fun j x hj=>?_⟩
  cases j with
  | zero=>simp at hj; subst hj; exact ⟨c,[],f1,f2,rfl,by simp,h1⟩
  | succ j=>
   obtain ⟨c',g0,g1,g2,a1,rfl,a3⟩:=hg j x (by simpa using hj)
   exact ⟨c',f1++g0,g1,g2,by simpa using a1,by simp,a3⟩
theorem ixO {α V:Type} {S:ai α} {cl:α→V→List Value} {en:α→V→List aq} {q:Bool} {d n e:Nat} {x y:OO} {v:Value} {xs:List α} {k:IntKind} {j:Int} {t ty bt:TI} {f:α→Option M} [ht:Ay P t e n bt] (hx:bn fr x=some v) (hy:bn fr y=some (.int k j))
  (h1:ee Γ (.own (aI e S) v xs) Γ1) (hs:Ob S V cl en) (hn:S.size=n)
  (h:∀ z u us,D P cx (.p [] (.own (aI e (iy n)) v us :: .rd false (Ac us j) (.bool true) (cl z u) :: en z u) fr Γ1 fun fr Γ=>.o q all l rk Γ ((d,.pointer (some (cw v n j))) :: fr) (f z))):D P cx (.e q (.indexAddr t x y) (some d) ty all l rk Γ fr (idx xs j>>=f)):=by
 refine D.of ?_
 intro B o ho r w ha dy pos ah g
 replace hs:o6 S V cl en:=by cases hs; assumption
 obtain ⟨z,hz,ho⟩:=bind_some ho
 replace hz:=p3 hz
 obtain ⟨q1,i,_,q2,_,_,q3,_⟩:=ht.h
 obtain ⟨Z,F,hS,hG⟩:=dy
 obtain ⟨f0,F1,hp,hO,ik⟩:=h1.sound hS
 have bh:j.toNat < xs.length:=(List.getElem?_eq_some_iff.1 hz.2).1
 obtain ⟨base,cap,hv,hr⟩:=hO
 obtain rfl:v = .slice base xs.length cap:=by simpa using hv
 rcases hr with ⟨_,_,rfl,_⟩ | ⟨b,cur,f',rfl,jy,rfl,hle,ZF,uy,dp⟩
 ·simp at bh
 ·obtain ⟨us,hl,hru,hg⟩:=Oc hn dp
  obtain ⟨c,g0,g1,g2,a1,rfl,a3⟩:=hg _ _ hz.2
  obtain ⟨u,rfl,ql⟩:=hs.op a3
  have zC:(aI e (iy n)).rep w.heap [.slice (some ⟨b,0,none⟩) xs.length cap] us [b]:=
   ⟨_,cap,by rw [hl],.inr ⟨b,cur,[],rfl,jy,rfl,by rw [hl]; exact hle,ZF,by rw [uy,hn]; rfl,by rw [hl,show (iy n).size=S.size from hn.symm]; exact hru⟩⟩
  have dx:HL Z w (.own (aI e (iy n)) (.slice (some ⟨b,0,none⟩) xs.length cap) us :: .rd false (Ac us j) (.bool true) (cl z u) :: en z u) ([b]++g1):=.own zC (.fact ⟨[],⟨rfl,⟨hz.1,a1⟩,rfl⟩,fun _ h=>absurd h List.not_mem_nil⟩ (ql Z))
  obtain ⟨F',xP,jf⟩:=dx.build ik
  have rh:(F'++(g0++g2)).Perm F:=by
   refine .trans ?_ hp
   refine (xP.append_right _).trans ?_
   rw [List.cons_append,List.cons_append,List.cons_append,List.nil_append,List.cons_append]
   refine List.Perm.cons b ?_
   have e1:(g1++F1++(g0++g2)).Perm ((g0++g2)++(g1++F1)):=List.perm_append_comm
   refine e1.trans ?_
   rw [List.append_assoc,List.append_assoc,List.append_assoc]
   refine List.Perm.append_left g0 ?_
   rw [← List.append_assoc,← List.append_assoc]
   exact List.perm_append_comm.append_right F1
  refine cu (v:=.pointer (some (cw (.slice (some ⟨b,0,none⟩) xs.length cap) n j))) (fun w' hC=>?_) ((h z u us).sound B o ho _ w (av ha) ⟨Z,F',jf,Gd.left (hG.perm rh)⟩)
  rw [kn q1 q2 (bC ha hx) (bC ha hy) hz.1 (by omega),q3]
  rfl
theorem apO {α V:Type} {S:ai α} {cl:α→V→List Value} {en:α→V→List aq} (y:α) {u:V} {d b n e bt:Nat} {s x:OO} {sv:Value} {xs:List α} {cs:LV} {t et ty:TI} {f:Unit→Option M} [ht:Ay P t e n bt]
  (hs:bn fr s=some sv) (hx:bn fr x=some (.slice (some ⟨b,0,none⟩) 1 1)) (h0:ee Γ (.row b cs et) Γ1) (h1:ee Γ1 (.own (aI e S) sv xs) Γ2) (qb:Ob S V cl en) (_hv:uU V u) (hc:cs=cl y u) (hn:S.size=n) (he:EO Γ2 (en y u) Γ3)
  (h:∀ v,D P cx (.o false all l rk (.own (aI e S) v (xs++[y]) :: Γ3) ((d,v) :: fr) (f ()))):D P cx (.e false (.call ⟨.builtin .append,#[s,x],#[t,t]⟩) (some d) ty all l rk Γ fr (fits bt (xs.length+1)>>=f)):=by
 refine D.of ?_
 intro B o cc r w ha dy pos ah g
 have Eb:o6 S V cl en:=by cases qb; assumption
 obtain ⟨_,hu,cc⟩:=bind_some cc
 obtain ⟨b1,b2⟩:=qx hu
 obtain ⟨q1,i,z,q2,q3,q4,q5,q6,_⟩:=ht.h
 obtain ⟨Z,F,hS,hG⟩:=dy
 obtain ⟨n0,F0,vI,⟨rfl,bj⟩,yB⟩:=h0.sound hS
 obtain ⟨k,F1,hp,hO,ik⟩:=h1.sound yB
 obtain ⟨Fd,F2,hho,jf,qh⟩:=he.sound ik
 have hy:S.rep w.heap (cl y u) y Fd:=Eb.cl (Xd (Eb.ow y u) hho)
 have rh:(((k++Fd)++F2)++[b]).Perm F:=by
  refine .trans ?_ vI
  refine List.perm_append_comm.trans ?_
  refine List.Perm.append_left [b] ?_
  rw [List.append_assoc]
  exact (qh.append_left k).trans hp
 have nb:Gd B Z ((k++Fd)++F2) w:=Gd.left (F':=[b]) (hG.perm rh)
 have dt:=(List.nodup_append.1 nb.nd).1
 have AA:=List.nodup_append.1 dt
 subst hc
 obtain ⟨v,w',f',mr,hC,dp,dq,GA⟩:=pj (E:=S) (d:=some d) (ty:=ty) (pos:=pos) (ah:=ah) (g:=none) (k:=Fd) (ys:=[y]) (news:=cl y u) q1 q2 q3 (by rw [q5,hn]) (by rw [q4,hn]) (bC ha hs) hO AA.1 (bC ha hx) (fun i u hi=>bj.at i u hi) (r6 hy) (fun b hb hm=>AA.2.2 b hm b hb rfl) (by simp) (by rw [q6]; exact b1) b2
 refine ez (WL.val rfl mr ((h v).sound B o cc _ w' (av ha) ?_))
 refine St.put jf nb (hC.mono fun b hb=>List.mem_append_left _ hb) dp (GA AA.2.1) fun b hb=>?_
 rcases dq b hb with h | h | h
 ·exact .inl (List.mem_append_left _ h)
 ·exact .inl (List.mem_append_right _ h)
 ·exact .inr h
end
end Go.Dk
namespace Go.Dk
open Go Go.Li
section
variable {P:Program} {n:Nat} {l:LO} {Q:Exit→(Nat→Value)→World→Prop} {S:World→Prop}
def Hw (P:Program) (n:Nat) (l:LO) (Q:Exit→(Nat→Value)→World→Prop) (S:World→Prop) (k:Nat) (L:Array Bool) (r:NV) (w:World):Prop:=
 ∀ a:Act,a.tmps.size=n→a.defers=[]→ch a=r→wpAnyH P .any l.toArray (fun e a' w'=>a'.tmps.size=n∧a'.defers=[]∧Q e (ch a') w') S k L a w
theorem Db {i:Nat} {o:Oper} {a:Act} (hd:di n l=true) (hi:l[i]? = some o) (h1:a.tmps.size=n):∀ k,o.dst=some k→k < a.tmps.size:=by
 intro k hk
 have hm:o∈l:=List.mem_of_getElem? hi
 simp only [di,List.all_eq_true] at hd
 have:=hd o hm
 rw [hk] at this
 rw [h1]
 exact Nat.lt_of_succ_le (Nat.le_of_ble_eq_true this)
theorem Hw.take {k i:Nat} {L:Array Bool} {o:Oper} {v:Value} {r:NV} {w:World} (hd:di n l=true) (hi:l[i]? = some o) (hs:Region.noSelect l.toArray=true) (hf:Region.free .any l.toArray L i=true) (hr:(Region.ready .any l.toArray L).contains i=true)
  (hp:∀ c r w,¬ Q (.panic c) r w) (hg:o.guard=none) (hy:∀ w,S w→(execOp (ev r) o).run P w = .ok (.value v) w) (hS:S w) (h:Hw P n l Q S k (L.setIfInBounds i true) (gh r o.dst v) w):Hw P n l Q S (k+1) L r w:=by
 intro a h1 h2 h3
 refine wpAnyH_take (v:=v) (by simpa using hi) hs hf hr (fun c a w h=>(hp _ _ _ h.2.2).elim) (.inl ⟨tu hg,fun w hw=>?_⟩) hS (h _ (by rw [jq]; exact h1) (by rw [gw]; exact h2) (by rw [kp (Db hd hi h1),h3]))
 rw [rm,h3]
 exact hy w hw
theorem Hw.step {k i:Nat} {L:Array Bool} {o:Oper} {r:NV} {w w':World} (hd:di n l=true) (hi:l[i]? = some o) (hr:Region.ready .any l.toArray L=[i]) (hg:o.guard=none) (hy:(execOp (ev r) o).run P w = .ok .skip w') (hS:S w') (h:Hw P n l Q S k (L.setIfInBounds i true) (gh r o.dst undef) w'):Hw P n l Q S (k+1) L r w:=by
 intro a h1 h2 h3
 refine wpAnyH_all hr (by simp) fun j hj=>?_
 obtain rfl:j=i:=by simpa using hj
 unfold wpOp
 rw [show (l.toArray)[j]? = some o by simpa using hi]
 simp only []
 rw [if_pos (tu hg)]
 refine .inl ?_
 unfold Oper.wp
 rw [rm,h3,hy]
 exact ⟨hS,h _ (by rw [jq]; exact h1) (by rw [gw]; exact h2) (by rw [kp (Db hd hi h1),h3])⟩
theorem Hw.done {k:Nat} {L:Array Bool} {r:NV} {w:World} (hr:Region.ready .any l.toArray L=[]) (h:Q .normal r w):Hw P n l Q S k L r w:=
 fun _ h1 h2 h3=>wpAnyH_done hr ⟨h1,h2,by rw [h3]; exact h⟩ k
theorem Hw.start {r:NV} {w:World} (h:Hw P n l Q S l.length (Array.replicate l.length false) r { w with drawn:=w.drawn+1 }):nm P n l Q r w:=
 fun a h1 h2 h3=>wpAny_of_held _ _ _ _ (h a h1 h2 h3)
def Cd (P:Program) (S:World→Prop):List Oper→(Nat→Value)→((Nat→Value)→Prop)→Prop
 | [],r,K=>K r
 | o :: l,r,K=>o.guard=none∧∃ v,(∀ w,S w→(execOp (ev r) o).run P w = .ok (.value v) w)∧Cd P S l (gh r o.dst v) K
def Od (l:LO) (e:Array Bool→Bool):List Nat→Array Bool→Bool
 | [],L=>e L
 | i :: ss,L=>Nat.blt i l.length && (Region.ready .any l.toArray L == [i]) && Od l e ss (L.setIfInBounds i true)
def Oe (l:LO) (e:Array Bool→Bool):List Nat→Array Bool→Bool
 | [],L=>e L
 | i :: qs,L=>Nat.blt i l.length && (Region.ready .any l.toArray L).contains i && Region.free .any l.toArray L i && Oe l e qs (L.setIfInBounds i true)
def pick (l:LO) (is:LN):List Oper:=is.map fun i=>l.getD i default
theorem Ed {i:Nat} (h:Nat.blt i l.length=true):l[i]? = some (l.getD i default):=by
 have h1:i < l.length:=Nat.lt_of_succ_le (Nat.le_of_ble_eq_true h)
 rw [List.getD_eq_getElem?_getD,List.getElem?_eq_getElem h1]; rfl
theorem Hw.quiet (hd:di n l=true) (hs:Region.noSelect l.toArray=true) (hp:∀ c r w,¬ Q (.panic c) r w) {e:Array Bool→Bool} {m:Nat} {w:World} (hS:S w) {K:(Nat→Value)→Prop} (h:∀ L r,e L=true→K r→Hw P n l Q S m L r w) :
  ∀ (qs:LN) (L:Array Bool) (r:NV),Oe l e qs L=true→Cd P S (pick l qs) r K→Hw P n l Q S (qs.length+m) L r w:=by
 intro qs
 induction qs with
 | nil=>intro L r hc hv; rw [List.length_nil,Nat.zero_add]; exact h L r hc hv
 | cons i qs ih=>
  intro L r hc hv
  unfold Oe at hc
  simp only [Bool.and_eq_true] at hc
  obtain ⟨⟨⟨c1,c2⟩,c3⟩,c4⟩:=hc
  obtain ⟨hg,v,h1,h2⟩:=hv
  have:=Hw.take hd (Ed c1) hs c3 c2 hp hg h1 hS (ih _ _ c4 h2)
  rwa [show qs.length+m+1=(i :: qs).length+m by simp; omega] at this
end
inductive JQ
 | q (ops:LO) (fr:Fr)
 | la (a:Addr) (lk:Option Nat) (t:TI) (x:OO) (d:Nat) (ty:TI) (pos:String) (ah:Array Edge) (ops:LO) (fr:Fr)
inductive QA (P:Program) (Γ:QE):JQ→Fr→Prop
 | nil {fr:Fr}:QA P Γ (.q [] fr) fr
 | ld {d:Nat} {t ty:TI} {x:OO} {lk:Option Nat} {a:Addr} {pos:String} {ah:Array Edge} {ops:LO} {fr qe:Fr} [ht:LK P t lk] (hx:bn fr x=some (.pointer (some a))) (h:QA P Γ (.la a lk t x d ty pos ah ops fr) qe):QA P Γ (.q (⟨some d,.load t x,ty,pos,ah,none⟩ :: ops) fr) qe
 | val {d:Nat} {op:Op} {ty:TI} {u:Value} {pos:String} {ah:Array Edge} {ops:LO} {fr qe:Fr} (hv:VQ P Γ fr op u) (h:QA P Γ (.q ops ((d,u) :: fr)) qe):QA P Γ (.q (⟨some d,op,ty,pos,ah,none⟩ :: ops) fr) qe
 | lc {d:Nat} {t ty:TI} {x:OO} {a:Addr} {u:Value} {pos:String} {ah:Array Edge} {ops:LO} {fr qe:Fr} (h:u5 Γ a u) (k:QA P Γ (.q ops ((d,u) :: fr)) qe):QA P Γ (.la a none t x d ty pos ah ops fr) qe
 | ls {d n:Nat} {t ty:TI} {x:OO} {a:Addr} {ds:LV} {pos:String} {ah:Array Edge} {ops:LO} {fr qe:Fr} (h:u9 Γ a n ds) (k:QA P Γ (.q ops ((d,.agg ds.toArray) :: fr)) qe):QA P Γ (.la a (some n) t x d ty pos ah ops fr) qe
inductive RO (fr:Fr):List Oper→List aq→List (Nat×List Value×TypeId)→List aq→Prop
 | nil {Γ:QE}:RO fr [] Γ [] Γ
 | cons {t ty e:TI} {x y:OO} {b:Nat} {cs:LV} {pos:String} {ah:Array Edge} {ops:LO} {Γ Γ1 Γ2:QE} {rs:List (Nat×List Value×TypeId)} (hx:bn fr x=some (.pointer (some ⟨b,0,none⟩))) (h:ee Γ (.row b cs e) Γ1) (k:RO fr ops Γ1 rs Γ2):RO fr (⟨none,.store t x y,ty,pos,ah,none⟩ :: ops) Γ ((b,cs,e) :: rs) Γ2
inductive SQ (P:Program) (Γ:QE) (fr:Fr):List Oper→List (Nat×List Value×TypeId)→List (Nat×List Value×TypeId)→Prop
 | nil:SQ P Γ fr [] [] []
 | cons {n:Nat} {t ty e:TI} {x y:OO} {b:Nat} {u:Value} {us cs ds:LV} {pos:String} {ah:Array Edge} {ops:LO} {rs uH:List (Nat×List Value×TypeId)} [ht:wk P t n] (hx:bn fr x=some (.pointer (some ⟨b,0,none⟩))) (hy:bn fr y=some u) (hc:su Γ u us) (hn:us.length=n) (hs:tI us 0 cs ds) (ho:u7 Γ us) (k:SQ P Γ fr ops rs uH) :
   SQ P Γ fr (⟨none,.store t x y,ty,pos,ah,none⟩ :: ops) ((b,cs,e) :: rs) ((b,ds,e) :: uH)
def JV:List (Nat×List Value×TypeId)→List aq
 | []=>[]
 | (b,cs,e) :: l=>.row b cs e :: JV l
def Rows (w:World) (rs:List (Nat×List Value×TypeId)):Prop:=∀ p∈rs,Row w p.1 p.2.1 p.2.2
section
variable {P:Program} {Γ Γ2:QE} {S:World→Prop} {Z:Nat→Prop}
def ZG (P:Program) (S:World→Prop):JQ→Fr→Prop
 | .q ops fr,qe=>∀ r,dc r fr→Cd P S ops r fun r'=>dc r' qe
 | .la a lk t x d ty pos ah ops fr,qe=>(match lk with | none=>NA P t | some n=>AG P t n)→bn fr x=some (.pointer (some a))→∀ r,dc r fr→Cd P S (⟨some d,.load t x,ty,pos,ah,none⟩ :: ops) r fun r'=>dc r' qe
theorem QA.sound {J:JQ} {qe:Fr} (hS:∀ w,S w→∃ cur F,SA Z w Γ cur F) (h:QA P Γ J qe):ZG P S J qe:=by
 induction h with
 | nil=>exact fun r h=>h
 | @ld d t ty x lk a pos ah ops fr qe ht hx _ ih=>exact fun r ha=>ih ht.h hx r ha
 | @val d op ty u pos ah ops fr qe hv _ ih=>
  intro r ha
  refine ⟨rfl,u,fun w hw=>?_,ih _ (av ha)⟩
  obtain ⟨cur,F,h⟩:=hS w hw
  exact hv.sound h ha (some d) ty pos ah none w (an.refl _ _)
 | @lc d t ty x a u pos ah ops fr qe h _ ih=>
  intro ht hx r ha
  refine ⟨rfl,u,fun w hw=>?_,ih _ (av ha)⟩
  obtain ⟨cur,F,hs⟩:=hS w hw
  exact Ld ht (h.sound hs) (bC ha hx) w (an.refl _ _)
 | @ls d n t ty x a ds pos ah ops fr qe h _ ih=>
  intro ht hx r ha
  refine ⟨rfl,_,fun w hw=>?_,ih _ (av ha)⟩
  obtain ⟨cur,F,hs⟩:=hS w hw
  obtain ⟨h1,h2⟩:=h.sound hs
  exact Lg ht h1 (bC ha hx) h2 w (an.refl _ _)
theorem RO.sound {fr:Fr} {ops:LO} {rs:List (Nat×List Value×TypeId)} {w:World} (h:RO fr ops Γ rs Γ2):∀ {F:LN},SA Z w Γ [] F→∃ F2,(rs.map (·.1)++F2).Perm F∧Rows w rs∧SA Z w Γ2 [] F2:=by
 induction h with
 | nil=>intro F h; exact ⟨F,.refl _,fun _ h=>absurd h List.not_mem_nil,h⟩
 | @cons t ty e x y b cs pos ah ops Γ Γ1 Γ2 rs hx h _ ih=>
  intro F hS
  obtain ⟨f,F1,hp,⟨rfl,bj⟩,ik⟩:=h.sound hS
  obtain ⟨F2,qh,hr,jf⟩:=ih ik
  refine ⟨F2,?_,fun p hp=>?_,jf⟩
  ·exact .trans (List.Perm.cons b qh) hp
  ·rcases List.mem_cons.1 hp with rfl | hp
   ·exact bj
   ·exact hr p hp
theorem SQ.sound {n m:Nat} {e:Array Bool→Bool} {l:LO} {Q:Exit→(Nat→Value)→World→Prop} {fr:Fr} {ops:LO} {rs uH:List (Nat×List Value×TypeId)} {F2:LN} {w0:World} {r:NV} {F:LN} (hd:di n l=true) (ha:dc r fr) (hSA:∀ w,an F w0 w→SA Z w Γ2 [] F2) (h:SQ P Γ2 fr ops rs uH) :
  ∀ (ss:LN) (L:Array Bool) (w:World),ops=pick l ss→Od l e ss L=true→an F w0 w→Rows w rs→(rs.map (·.1)).Nodup→(∀ b∈rs.map (·.1),b∈F)→(∀ L w',e L=true→an F w0 w'→an (rs.map (·.1)) w w'→Rows w' uH→Hw P n l Q (an F w0) m L r w')→Hw P n l Q (an F w0) (ss.length+m) L r w:=by
 induction h with
 | nil=>
  intro ss L w ho hc hC hR hn hF hk
  cases ss with
  | cons i ss=>cases ho
  | nil=>
   rw [List.length_nil,Nat.zero_add]; exact hk L w hc hC (an.refl _ _) hR
 | @cons n' t ty e' x y b u us cs ds pos ah ops rs uH ht hx hy Cb hn hsg hon _ ih=>
  intro ss L w ho hc hC hR dt hF hk
  cases ss with
  | nil=>cases ho
  | cons i ss=>
   unfold Od at hc
   simp only [Bool.and_eq_true] at hc
   obtain ⟨⟨c1,c2⟩,c3⟩:=hc
   have cc:l.getD i default = ⟨none,.store t x y,ty,pos,ah,none⟩∧ops=pick l ss:=by
    unfold pick at ho
    rw [List.map_cons,List.cons.injEq] at ho
    exact ⟨ho.1.symm,ho.2⟩
   have hi:=Ed c1
   rw [cc.1] at hi
   obtain ⟨ti,q1,q2⟩:=ht.h
   have bj:Row w b cs e':=hR (b,cs,e') (by simp)
   obtain ⟨e1,e2⟩:=hsg.eq
   have Ys:=hSA w hC
   have mr:=vv (P:=P) (d:=none) (ty:=ty) (pos:=pos) (ah:=ah) (gg:=none) q1 (by rw [hn,q2]) bj e1 (bC ha hx) (y:=y) (by rw [bC ha hy]; exact Cb.eq Ys) (hon.one Ys)
   have uA:=setRow_heap w b cs.toArray (cs.take 0++us++cs.drop (0+us.length)).toArray e' _ bj
   have AQ:an [b] w (w.setRow b (cs.take 0++us++cs.drop (0+us.length)).toArray):=⟨rfl,rfl,rfl,Nat.le_refl _,by simp,fun j _ hj=>setRow_other w b j _ fun h=>hj (by simp [h])⟩
   have Yt:=hC.trans (AQ.mono fun b' cg=>by rw [List.mem_singleton.1 cg]; exact hF b (by simp))
   rw [List.map_cons,List.nodup_cons] at dt
   rw [show (i :: ss).length+m=ss.length+m+1 by simp; omega]
   refine Hw.step hd hi (by simpa using c2) rfl mr Yt (ih ss _ _ cc.2 c3 Yt (fun p hp=>(hR p (List.mem_cons_of_mem _ hp)).ec AQ fun hb=>dt.1 ?_) dt.2 (fun b' cg=>hF b' (by simp at cg ⊢; exact .inr cg)) fun L' w' he C1 Gs hR'=>?_)
   ·rw [← List.mem_singleton.1 hb]; exact List.mem_map_of_mem (f:=fun q=>q.1) hp
   ·refine hk L' w' he C1 ((AQ.mono (by simp)).trans (Gs.mono fun b' cg=>List.mem_cons_of_mem _ cg)) fun p hp=>?_
    rcases List.mem_cons.1 hp with rfl | hp
    ·refine Row.ec (F:=rs.map (·.1)) ?_ Gs dt.1
     rw [e2]
     exact uA
    ·exact hR' p hp
theorem SQ.fst {fr:Fr} {ops:LO} {rs uH:List (Nat×List Value×TypeId)} (h:SQ P Γ fr ops rs uH):uH.map (·.1)=rs.map (·.1):=by
 induction h with
 | nil=>rfl
 | cons _ _ _ _ _ _ _ ih=>simp only [List.map_cons,ih]
end
section
variable {R S:Type} {P:Program} {cx:Cx R} {K:de R S} {l:LO}
end
theorem Hw.all {P:Program} {n k:Nat} {l:LO} {Q:Exit→(Nat→Value)→World→Prop} {S:World→Prop} {L:Array Bool} {rs:LN} {r:NV} {w:World} (hd:di n l=true) (hr:Region.ready .any l.toArray L=rs) (qc:rs≠[])
  (h:∀ i∈rs,∃ o,l[i]? = some o∧o.guard=none∧∃ v w',((execOp (ev r) o).run P w = .ok (.value v) w'∨(execOp (ev r) o).run P w = .ok .skip w'∧v=undef)∧S w'∧Hw P n l Q S k (L.setIfInBounds i true) (gh r o.dst v) w'):Hw P n l Q S (k+1) L r w:=by
 intro a h1 h2 h3
 refine wpAnyH_all hr qc fun j hj=>?_
 obtain ⟨o,hi,hg,v,w',hy,hS,hk⟩:=h j hj
 unfold wpOp
 rw [show (l.toArray)[j]? = some o by simpa using hi]
 simp only []
 rw [if_pos (tu hg)]
 refine .inl ?_
 unfold Oper.wp
 rw [rm,h3]
 rcases hy with hy | ⟨hy,rfl⟩
 ·rw [hy]
  exact ⟨hS,hk _ (by rw [jq]; exact h1) (by rw [gw]; exact h2) (by rw [kp (Db hd hi h1),h3])⟩
 ·rw [hy]
  exact ⟨hS,hk _ (by rw [jq]; exact h1) (by rw [gw]; exact h2) (by rw [kp (Db hd hi h1),h3])⟩
def on (L:Array Bool) (i:Nat):Array Bool:=L.setIfInBounds i true
def B9 (l:LO) (L:Array Bool) (rs:LN):Bool:=Region.ready .any l.toArray L == rs
inductive GR (P:Program) (Γ:QE) (fr:Fr) (d:Nat):Oper→Oper→TypeId→List Value→Prop
 | mk {t ty Ue:TI} {y:OO} {u:Value} {n:Nat} {us cs ds:LV} {pos Of:String} {ah Og:Array Edge} [hz:B1 P t cs] [ht:wk P t n] (hn:look fr d=none) (hy:bn fr y=some u) (hc:su Γ u us) (hl:us.length=n) (hs:tI us 0 cs ds) (ho:u7 Γ us) :
   GR P Γ fr d ⟨some d,.alloc t,ty,pos,ah,none⟩ ⟨none,.store t (.tmp d) y,Ue,Of,Og,none⟩ t ds
section
variable {P:Program} {Γ:QE} {Z:Nat→Prop} {fr:Fr} {w:World} {cur F:LN}
theorem GR.alloc {d:Nat} {oa os:Oper} {t:TI} {ds:LV} (h:GR P Γ fr d oa os t ds) (r:NV) (w:World):oa.guard=none∧oa.dst=some d∧look fr d=none∧∃ cs w',(execOp (ev r) oa).run P w = .ok (.value (.pointer (some ⟨w.heap.size,0,none⟩))) w'∧an [] w w'∧Row w' w.heap.size cs t∧
  ∀ (r':NV) (w1:World) (b:Nat) cur F,SA Z w1 Γ cur F→dc r' fr→r' d = .pointer (some ⟨b,0,none⟩)→Row w1 b cs t→∃ w2,(execOp (ev r') os).run P w1 = .ok .skip w2∧an [b] w1 w2∧Row w2 b ds t:=by
 cases h with
 | @mk t ty Ue y u n us cs ds pos Of ah Og hz ht hn hy hc hl hs ho=>
  obtain ⟨i',z,t1,t2,t3⟩:=hz.h
  refine ⟨rfl,rfl,hn,z.cells.toList,_,Cy t1 t2,an.alloc _ _ _,?_,?_⟩
  ·have:=heap_alloc_new w (.cells z.cells t (0,0))
   unfold Row
   simpa using this
  ·intro r' w1 b cur F hS ha hr bj
   rw [t3] at bj
   obtain ⟨ti,q1,q2⟩:=ht.h
   obtain ⟨e1,e2⟩:=hs.eq
   have mr:=vv (P:=P) (d:=none) (ty:=Ue) (pos:=Of) (ah:=Og) (gg:=none) q1 (by rw [hl,q2]) bj e1 (x:=.tmp d) hr (y:=y) (by rw [bC ha hy]; exact hc.eq hS) (ho.one hS)
   refine ⟨_,mr,⟨rfl,rfl,rfl,Nat.le_refl _,by simp,fun j _ hj=>setRow_other w1 b j _ fun h=>hj (by simp [h])⟩,?_⟩
   have uA:=setRow_heap w1 b cs.toArray (cs.take 0++us++cs.drop (0+us.length)).toArray t _ bj
   rw [e2]
   exact uA
theorem GR.st {d:Nat} {oa os:Oper} {t:TI} {ds:LV} (h:GR P Γ fr d oa os t ds):os.guard=none∧os.dst=none:=by
 cases h; exact ⟨rfl,rfl⟩
variable {n:Nat} {l:LO} {Q:Exit→(Nat→Value)→World→Prop} {w0:World} {F2:LN} {a1 a2 s1 s2 d1 d2:Nat} {oa1 oa2 os1 os2:Oper} {t1 t2:TI} {ds1 ds2:LV} {L:Array Bool} {r:NV}
end
section
variable {R S:Type} {P:Program} {cx:Cx R} {K:de R S} {l:LO}
end
end Go.Dk
namespace Go.Dk
open Go Go.Li
def Uf (i:Nat) (o:Oper):Oper:=⟨o.dst,o.op,o.type,o.pos,o.after.push ⟨i,.data⟩,o.guard⟩
def tZ (i:Nat):Nat→List Oper→List Oper
 | _,[]=>[]
 | 0,o :: l=>Uf i o :: l
 | j+1,o :: l=>o :: tZ i j l
theorem Ee (i:Nat):∀ (j:Nat) (l:LO),(tZ i j l).length=l.length
 | _,[]=>by cases ‹Nat› <;> rfl
 | 0,_ :: _=>rfl
 | j+1,o :: l=>by unfold tZ; rw [List.length_cons,List.length_cons,Ee i j l]
theorem BE (i:Nat):∀ (j:Nat) (l:LO) (k:Nat),(tZ i j l)[k]? = (l[k]?).map fun o=>if k=j then Uf i o else o
 | 0,[],k=>by simp [tZ]
 | j+1,[],k=>by simp [tZ]
 | 0,o :: l,0=>by simp [tZ]
 | 0,o :: l,k+1=>by simp [tZ]
 | j+1,o :: l,0=>by simp [tZ]
 | j+1,o :: l,k+1=>by
  unfold tZ
  rw [List.getElem?_cons_succ,List.getElem?_cons_succ,BE i j l k]
  simp
section
variable {P:Program} {l:LO} {Q:Exit→Act→World→Prop} {i j:Nat}
theorem Il (tmps:Array Value):yielded (tZ i j l).toArray tmps=yielded l.toArray tmps:=by
 funext k
 simp only [yielded]
 rw [List.getElem?_toArray,List.getElem?_toArray,BE]
 cases l[k]? with
 | none=>rfl
 | some o=>
  simp only [Option.map_some,Option.bind_some]
  by_cases h:k=j
  ·rw [if_pos h]; rfl
  ·rw [if_neg h]
theorem GS {k:Nat} {K:Act→World→Prop} {a:Act} {w:World}:wpOp P (tZ i j l).toArray Q k K a w=wpOp P l.toArray Q k K a w:=by
 unfold wpOp
 rw [Il,List.getElem?_toArray,List.getElem?_toArray,BE]
 cases l[k]? with
 | none=>rfl
 | some o=>
  simp only [Option.map_some]
  by_cases h:k=j
  ·rw [if_pos h]; rfl
  ·rw [if_neg h]
theorem E3 {L:Array Bool} (hL:L.getD i false=true):Region.ready .any (tZ i j l).toArray L=Region.ready .any l.toArray L:=by
 unfold Region.ready
 rw [List.size_toArray,List.size_toArray,Ee]
 refine List.filter_congr fun k _=>?_
 rw [List.getElem?_toArray,List.getElem?_toArray,BE]
 cases l[k]? with
 | none=>rfl
 | some o=>
  simp only [Option.map_some]
  by_cases h:k=j
  ·rw [if_pos h]
   simp only [Uf,Array.all_push,hL,Bool.or_true,Bool.and_true]
  ·rw [if_neg h]
theorem E4:∀ (fuel:Nat) (L:Array Bool) (a:Act) (w:World),L.getD i false=true→wpAny P .any (tZ i j l).toArray Q fuel L a w→wpAny P .any l.toArray Q fuel L a w
 | 0,L,a,w,hL,h=>by
  unfold wpAny at h ⊢
  rw [E3 hL] at h
  exact h
 | fuel+1,L,a,w,hL,h=>by
  unfold wpAny at h ⊢
  rw [E3 hL] at h
  refine ⟨h.1,fun k hk=>?_⟩
  have h2:=h.2 k hk
  rw [GS] at h2
  exact wpOp_mono (fun a' w' h'=>E4 fuel _ a' w' (getD_set_true hL) h') h2
end
def Ug:Oper→Bool
 | ⟨some _,.move _,_,_,_,none⟩=>true
 | _=>false
def JW:List (Nat×Nat)→List Oper→Bool
 | [],_=>true
 | (i,j) :: zs,l=>!(Nat.beq i j) && Nat.blt i l.length && Ug (l.getD i default) && Region.noSelect l.toArray && Region.free .any l.toArray (Array.replicate l.length false) i && (Region.ready .any l.toArray (Array.replicate l.length false)).contains i && (Region.ready .any (tZ i j l).toArray (Array.replicate l.length false)).contains i && JW zs (tZ i j l)
def Oh:List (Nat×Nat)→List Oper→List Oper
 | [],l=>l
 | (i,j) :: zs,l=>Oh zs (tZ i j l)
section
variable {P:Program} {n:Nat} {Q:Exit→(Nat→Value)→World→Prop} {r:NV} {w w0:World}
theorem RH {o:Oper} (h:Ug o=true) (a:Act):o.guard=none∧∃ v,(∀ w,(execOp a.eval o).run P w = .ok (.value v) w)∧∀ w,¬ o.asks P a w:=by
 obtain ⟨d,op,ty,pos,ah,g⟩:=o
 cases d <;> cases op <;> cases g <;> first | (cases h; done) | skip
 refine ⟨rfl,_,fun w=>rfl,fun w ha=>?_⟩
 have h1:=ha.1
 exact absurd (show noRoomEvent∈(#[]:Array _) from h1) (by simp)
theorem nm.ZH {i j:Nat} {l:LO} (h1:(!(Nat.beq i j) && Nat.blt i l.length && Ug (l.getD i default) && Region.noSelect l.toArray && Region.free .any l.toArray (Array.replicate l.length false) i && (Region.ready .any l.toArray (Array.replicate l.length false)).contains i && (Region.ready .any (tZ i j l).toArray (Array.replicate l.length false)).contains i)=true)
  (hp:∀ c r w,¬ Q (.panic c) r w) (h:nm P n (tZ i j l) Q r w):nm P n l Q r w:=by
 simp only [Bool.and_eq_true] at h1
 obtain ⟨⟨⟨⟨⟨⟨c1,c2⟩,c3⟩,c4⟩,c5⟩,c6⟩,c7⟩:=h1
 have qc:i≠j:=fun e=>by rw [e,Nat.beq_refl] at c1; cases c1
 have hi:=Ed c2
 have bh:i < l.length:=Nat.lt_of_succ_le (Nat.le_of_ble_eq_true c2)
 intro a g1 g2 g3
 have H:=h a g1 g2 g3
 obtain ⟨hg,v,hv,hn⟩:=RH (P:=P) c3 a
 rw [List.size_toArray,Ee] at H
 rw [List.size_toArray]
 obtain ⟨f,hf⟩ : ∃ f,l.length=f+1:=⟨l.length - 1,by omega⟩
 have hw:Region.wanted (l.getD i default) (yielded l.toArray a.tmps)=true:=tu hg
 refine (congrArg (fun k=>wpAny P .any l.toArray _ k _ a _) hf).mpr ?_
 refine wpAny_take (by simpa using hi) c4 (by simpa using c5) (by simpa using c6) (fun c a w h=>(hp _ _ _ h.2.2).elim) (.inl ⟨hw,hv⟩) ?_
 refine E4 (i:=i) (j:=j) f _ _ _ ?_ ?_
 ·have:i < (Array.replicate l.length false).size:=by simpa using bh
  simp [Array.getD,bh]
 ·have H2:=(congrArg (fun k=>wpAny P .any (tZ i j l).toArray (fun e a' w'=>a'.tmps.size=n∧a'.defers=[]∧Q e (ch a') w') k (Array.replicate l.length false) a { w with drawn:=w.drawn+1 }) hf).mp H
  have H3:=H2.2 i (by simpa using c7)
  rw [GS] at H3
  unfold wpOp at H3
  rw [show (l.toArray)[i]? = some (l.getD i default) by simpa using hi] at H3
  simp only [] at H3
  rw [if_pos hw] at H3
  rcases H3 with H3 | H3
  ·unfold Oper.wp at H3
   rw [hv] at H3
   exact H3
  ·exact absurd H3.1 (hn _)
theorem nm.Qy:∀ (zs:List (Nat×Nat)) {l:LO},JW zs l=true→(∀ c r w,¬ Q (.panic c) r w)→nm P n (Oh zs l) Q r w→nm P n l Q r w
 | [],_,_,_,h=>h
 | (i,j) :: zs,l,hc,hp,h=>by
  unfold JW at hc
  rw [Bool.and_eq_true] at hc
  exact nm.ZH hc.1 hp (nm.Qy zs hc.2 hp h)
theorem LU (k:Nat) {l:LO} (hd:di n l=true) (hp:((l.take k).all fun o=>wU o.op)=true) (hB:Region.lexTailB .any l.toArray k=true)
  (h:QL P (an [] w) l (l.take k) r fun r'=>∀ w',an [] w w'→WL P l (l.drop k) r' w' (Q .normal)):nm P n l Q r w:=by
 intro a h1 h2 h3
 have AQ:an [] w { w with drawn:=w.drawn+1 }:=an.drew _ _
 have r4:wpStill P l.toArray { w with drawn:=w.drawn+1 } (fun a'=>wpList P l.toArray (fun e a' w'=>a'.tmps.size=n∧a'.defers=[]∧Q e (ch a') w') (l.drop k) a' { w with drawn:=w.drawn+1 }) (l.take k) a:=by
  refine QL.still (n:=n) (C:=an [] w) AQ hd (l.take k) a (zD hd fun o ho=>List.mem_of_mem_take ho) hp h1 h2 (by rw [h3]; exact h) _ ?_
  intro a' g1 g2 g3
  exact WL.list hd _ _ _ (zD hd fun o ho=>List.mem_of_mem_drop ho) g1 g2 (g3 _ AQ)
 unfold Region.lexTailB at hB
 simp only [Bool.and_eq_true,decide_eq_true_eq,List.size_toArray] at hB
 obtain ⟨⟨⟨⟨ZI,hn⟩,hs⟩,hc⟩,N6⟩:=hB
 have Qz:(l.take k).length=k:=by rw [List.length_take]; omega
 have ZJ:HeadInv .any l.toArray k (Array.replicate l.length false):=
  ⟨by simp,fun j oj _ hl=>(by rw [getD_replicate_false] at hl; cases hl),fun t _ ht=>getD_in (by simpa using ht) (getD_replicate_false _ _)⟩
 have H:=wpAnyL_lex (md:=.any) (g:=l.length - k) ZI hs hc (by simpa using hn) (l.take k) 0 _ a (fun j hj=>by
  rw [Qz] at hj
  rw [List.getElem?_take_of_lt hj,Nat.zero_add,List.getElem?_toArray]) (by rw [Qz,Nat.zero_add]) ZJ (by rw [Qz]; exact N6) r4
 have H2:=wpAny_of_head (Q':=fun e a' w'=>a'.tmps.size=n∧a'.defers=[]∧Q e (ch a') w') (g:=l.length - k) (fun L a' hL=>by
  have H3:=wpAny_of_seq (md:=.any) (Q':=fun e a' w'=>a'.tmps.size=n∧a'.defers=[]∧Q e (ch a') w') (l.drop k) k L a' { w with drawn:=w.drawn+1 } (fun j=>by rw [List.getElem?_drop,List.getElem?_toArray]) (by rw [List.length_drop]; exact hL.1) hL.2
  rwa [List.length_drop] at H3) _ _ _ H
 rw [Qz,show k+(l.length - k)=l.length by omega] at H2
 rw [List.size_toArray]
 exact H2
end
section
variable {R S:Type} {P:Program} {cx:Cx R} {K:de R S}
theorem Xe {id:Nat} (zs:List (Nat×Nat)) (k:Nat) {l l' ops tl:LO} {Γ:QE} {fr:Fr} {m:Option (Out S R)} (hl:l'=Oh zs l) (hB:(P.follows .mixedOrders && JW zs l && di cx.n l' && ((l'.take k).all fun o=>wU o.op) && Region.lexTailB .any l'.toArray k)=true) (ho:ops=l'.take k) (ht:tl=l'.drop k)
  (h:D P cx (.o true l' ops (.h l' tl K) Γ fr m)):Bx (na P cx (.dr id l K Γ fr m)):=by
 simp only [Bool.and_eq_true] at hB
 obtain ⟨⟨⟨⟨h1,h2⟩,h3⟩,h4⟩,h5⟩:=hB
 subst ho ht hl
 rw [mg]
 intro B o ho r w ha hs
 exact nm.W h1 (nm.Qy zs h2 (fun c r w h=>B8 c h) (LU k h3 h4 h5 (h.sound B o ho r w ha hs)))
end
end Go.Dk
namespace Go.Dk
open Go Go.Li
section
variable {B:Bs} {P:Program} {Z Z':Nat→Prop} {w:World} {Fd F1:LN}
end
section
variable {P:Program} {S:World→Prop}
theorem Cd.mono {K K':(Nat→Value)→Prop} (hk:∀ r,K r→K' r):∀ {ops:LO} {r:NV},Cd P S ops r K→Cd P S ops r K'
 | [],_,h=>hk _ h
 | _ :: _,_,⟨hg,v,h1,h2⟩=>⟨hg,v,h1,Cd.mono hk h2⟩
end
inductive QX {R S:Type} (P:Program) (cx:Cx R) (K:de R S) (tL:LO) (rs:List (Nat×List Value×TypeId)) (pe:QE):List aq→List aq→List Oper→Fr→Option (Out S R)→Prop
 | pe {e:aq} {Δ Γ:QE} {ops:LO} {fr:Fr} {m:Option (Out S R)} (h:QX P cx K tL rs pe Δ (e :: Γ) ops fr m):QX P cx K tL rs pe (e :: Δ) Γ ops fr m
 | nil {Γ:QE} {fr:Fr} {m:Option (Out S R)} {uH:List (Nat×List Value×TypeId)} (h:SQ P Γ fr tL rs uH) (k:D P cx (.p [] pe fr Γ fun fr Γ=>.p [] (JV uH) fr Γ fun fr Γ=>.n K Γ fr m)):QX P cx K tL rs pe [] Γ [] fr m
 | K9 {d n:Nat} {t ty:TI} {x:OO} {a:Addr} {ds:LV} {pos:String} {ah:Array Edge} {ops:LO} {Γ:QE} {fr:Fr} {m:Option (Out S R)} [ht:LK P t (some n)] (hx:bn fr x=some (.pointer (some a))) (hw:u9 Γ a n ds) (h:QX P cx K tL rs pe [] Γ ops ((d,.agg ds.toArray) :: fr) m) :
   QX P cx K tL rs pe [] Γ (⟨some d,.load t x,ty,pos,ah,none⟩ :: ops) fr m
 | F4 {α V:Type} {d n:Nat} {x y:OO} {v:Value} {k:IntKind} {j:Int} {t ty:TI} {S':ai α} {cl:α→V→List Value} {en:α→V→List aq} {xs:List α} {pos:String} {ah:Array Edge} {ops:LO} {Γ Γx:QE} {fr:Fr} {f:α→Option (Out S R)} [ht:IL P t n] (hx:bn fr x=some v) (hy:bn fr y=some (.int k j))
   (hr:qa Γ v false false (rf S') xs uk Γx) (hs:EI S' V cl en) (hn:S'.size=n) (h:∀ z u,QX P cx K tL rs pe (.bg (cw v n j) (cl z u) :: en z u) Γ ops ((d,.pointer (some (cw v n j))) :: fr) (f z)) :
   QX P cx K tL rs pe [] Γ (⟨some d,.indexAddr t x y,ty,pos,ah,none⟩ :: ops) fr (idx xs j>>=f)
 | lc {d:Nat} {t ty:TI} {x:OO} {a:Addr} {u:Value} {pos:String} {ah:Array Edge} {ops:LO} {Γ:QE} {fr:Fr} {m:Option (Out S R)} [ht:LK P t none] (hx:bn fr x=some (.pointer (some a))) (hw:u5 Γ a u) (h:QX P cx K tL rs pe [] Γ ops ((d,u) :: fr) m) :
   QX P cx K tL rs pe [] Γ (⟨some d,.load t x,ty,pos,ah,none⟩ :: ops) fr m
 | val {d:Nat} {op:Op} {ty:TI} {u:Value} {pos:String} {ah:Array Edge} {ops:LO} {Γ:QE} {fr:Fr} {m:Option (Out S R)} (hv:VQ P Γ fr op u) (h:QX P cx K tL rs pe [] Γ ops ((d,u) :: fr) m):QX P cx K tL rs pe [] Γ (⟨some d,op,ty,pos,ah,none⟩ :: ops) fr m
section
variable {R S:Type} {P:Program} {cx:Cx R} {K:de R S} {tL:LO} {rs:List (Nat×List Value×TypeId)} {pe:QE} {Z:Nat→Prop}
theorem QX.sound {w0:World} {H:LN} (hz:∀ b∈H,¬ Z b) {Δ Γ:QE} {ops:LO} {fr:Fr} {m:Option (Out S R)} (h:QX P cx K tL rs pe Δ Γ ops fr m):∀ {o:Out S R} {F:LN},m=some o→(∀ b∈H,b ∉ F)→SA Z w0 (Δ.reverse++Γ) [] F→∀ r,dc r fr→
  Cd P (an H w0) ops r fun r'=>∃ Γ' qe uH m' F',F'.Perm F∧m'=some o∧dc r' qe∧SA Z w0 Γ' [] F'∧SQ P Γ' qe tL rs uH∧D P cx (.p [] pe qe Γ' fun fr Γ=>.p [] (JV uH) fr Γ fun fr Γ=>.n K Γ fr m'):=by
 induction h with
 | @pe e Δ Γ ops fr m _ ih=>
  intro o F hm hF hS r ha
  refine ih hm hF ?_ r ha
  rw [List.reverse_cons,List.append_assoc] at hS
  exact hS
 | @nil Γ fr m uH h k=>exact fun hm hF hS r ha=>⟨Γ,fr,uH,m,_,.refl _,hm,ha,hS,h,k⟩
 | @val d op ty u pos ah ops Γ fr m hv _ ih=>
  intro o F hm hF hS r ha
  refine ⟨rfl,u,fun w hC=>?_,ih hm hF hS _ (av ha)⟩
  exact hv.sound ((SA.ec hC hz (fun _ _=>List.not_mem_nil) hF hS)) ha (some d) ty pos ah none w (an.refl _ _)
 | @K9 d n t ty x a ds pos ah ops Γ fr m ht hx hw _ ih=>
  intro o F hm hF hS r ha
  refine ⟨rfl,_,fun w hC=>?_,ih hm hF hS _ (av ha)⟩
  obtain ⟨h1,h2⟩:=hw.sound (SA.ec hC hz (fun _ _=>List.not_mem_nil) hF hS)
  exact Lg ht.h h1 (bC ha hx) h2 w (an.refl _ _)
 | @lc d t ty x a u pos ah ops Γ fr m ht hx hw _ ih=>
  intro o F hm hF hS r ha
  refine ⟨rfl,u,fun w hC=>?_,ih hm hF hS _ (av ha)⟩
  exact Ld ht.h (hw.sound (SA.ec hC hz (fun _ _=>List.not_mem_nil) hF hS)) (bC ha hx) w (an.refl _ _)
 | @F4 α V d n x y v k j t ty S' cl en xs pos ah ops Γ Γx fr f ht hx hy hr qb hn _ ih=>
  intro o F hm hF hS r ha
  replace qb:SO S' V cl en:=by cases qb; assumption
  obtain ⟨z,LW,hm⟩:=bind_some hm
  replace LW:=p3 LW
  obtain ⟨e,i,h1,h2,h3⟩:=ht.h
  obtain ⟨dj,_,⟨⟨f0,EM,wm⟩,_⟩,_⟩:=hr.sound hS
  have hZ:∀ b∈f0,Z b:=fun b hb=>(wm b hb).elim id id
  obtain ⟨⟨a,c,hv⟩,bh,cs,f1,dp,Ll,jy⟩:=vh EM j LW.1 LW.2
  have vG:(rf S').size=n:=hn
  rw [vG] at jy
  obtain ⟨u,rfl,ql⟩:=qb.op dp.2
  have hblk:Z (cw v n j).block:=by
   obtain ⟨base,cap,nt,gp⟩:=EM
   rcases gp with ⟨rfl,_⟩ | ⟨b,off,cr,e',fz,f',rfl,_,rfl,_⟩
   ·simp at bh; omega
   ·obtain rfl:v = .slice (some ⟨b,off,none⟩) xs.length cap:=by simpa using nt
    have:(cw (.slice (some ⟨b,off,none⟩) xs.length cap) n j).block=b:=by unfold cw; rw [vD]
    rw [this]; exact hZ b (by simp)
  have Gc:fact Z w0 [] (.bg (cw v n j) (cl z u)):=⟨fun i u' hi=>jy i u' hi,fun _=>hblk⟩
  have dx:HL Z w0 (.bg (cw v n j) (cl z u) :: en z u) []:=.fact Gc (ve (ql Z fun b hb=>hZ b (Ll b hb)))
  obtain ⟨F',hp,jf⟩:=dx.build hS
  have Yu:F'.Perm F:=by simpa using hp
  refine ⟨rfl,.pointer (some (cw v n j)),fun w hC=>?_,?_⟩
  ·rw [kn h1 h2 ((bC ha hx).trans hv) (bC ha hy) LW.1 (by omega),h3,hv]
   rfl
  ·have hq:=ih z u (F:=F') hm (fun b hb h=>hF b hb (Yu.mem_iff.1 h)) jf _ (av ha)
   refine Cd.mono ?_ hq
   rintro r' ⟨Γ',qe,uH,m',F3,q0,q1,q2,q3,q4,q5⟩
   exact ⟨Γ',qe,uH,m',F3,q0.trans Yu,q1,q2,q3,q4,q5⟩
end
theorem FO.hl {Z:Nat→Prop} {w:World} {Δ:QE} (h:FO Δ):∀ {F:LN},HL Z w Δ F→F=[]:=by
 induction h with
 | nil=>intro F h; cases h; rfl
 | rd _ ih=>intro F h; cases h with | own h k=>exact h.elim | fact h k=>exact ih k
 | bg _ ih=>intro F h; cases h with | own h k=>exact h.elim | fact h k=>exact ih k
section
variable {P:Program} {n:Nat} {l:LO} {Q:Exit→(Nat→Value)→World→Prop} {S:World→Prop}
end
section
variable {R S:Type} {P:Program} {cx:Cx R} {K:de R S} {l:LO}
end
section
variable {R:Type} {P:Program} {cx:Cx R}
end
end Go.Dk
namespace Go.Li
open Go
section
variable {P:Program} {n:Nat} {Q:Exit→(Nat→Value)→World→Prop} {r:NV} {w:World} {R:Type}
theorem RI {c:Code} (hg:∀ l r w,¬ Q (.goto l) r w) (h:W P n c Q r w):W P n (.scope c) Q r w:=by
 intro a h1 h2 h3
 refine wp_scope_straight (wp_mono (h a h1 h2 h3) ?_)
 rintro e a' w' ⟨g1,g2,g3⟩
 cases e
 case goto l=>exact hg _ _ _ g3
 all_goals exact ⟨g1,g2,g3⟩
theorem RJ {l:Nat} (h:Q .normal r w):W P n (.label l) Q r w:=fun a h1 h2 h3=>wp_label ⟨h1,h2,by rw [h3]; exact h⟩
end
end Go.Li
namespace Go.Dk
open Go Go.Li
section
variable {R:Type} {P:Program} {cx:Cx R} {S:Type}
theorem JX {B:Bs} {b:Kb R S} {o:Out S R} {l:Nat} {r:NV} {w:World} : ¬ Fv P cx B b o (.goto l) r w:=by
 cases b <;> cases o <;> exact fun h=>h
theorem JY {n l:Nat} {Q:Exit→(Nat→Value)→World→Prop} {r:NV} {w:World} (h : ¬ Q (.goto l) r w):∀ fu,¬ zk P n Q fu (.goto l) r w:=by
 intro fu
 induction fu with
 | nil=>exact h
 | cons a fu ih=>cases a <;> exact ih
theorem scp {K:de R S} {c:Code} {Γ:QE} {fr:Fr} {m:Option (Out S R)} (h:D P cx (.c K c Γ fr m)):Bx (na P cx (.c K (.scope c) Γ fr m)):=by
 rw [mg]
 exact fun B o ho r w ha hs=>RI (fun l r w=>JY JX _) (h.sound B o ho r w ha hs)
theorem lab {K:de R S} {l:Nat} {Γ:QE} {fr:Fr} {m:Option (Out S R)} (h:D P cx (.n K Γ fr m)):Bx (na P cx (.c K (.label l) Γ fr m)):=by
 rw [mg]
 exact fun B o ho r w ha hs=>RJ (h.sound B o ho r w ha hs)
section
variable {S1 V:Type} {k j:Nat} {Δ:S1→V→List aq} {φ:S1→V→Fr} {Γ2 Γ Γ1 Γ3:QE} {f2 fr:Fr} {s:S1} {v:V} (hv:uU V v) (ha:qw fr (φ s v)) (hf:qw fr f2) (h0:EO Γ (Δ s v) Γ1) (hw:OW Γ (Δ s v)) (h1:EO Γ1 Γ2 Γ3) (h2:MF Γ none Γ2)
include hv ha hf h0 hw h1 h2
theorem nlx:Bx (na P cx (.n ⟨[],.lx V k j Δ φ Γ2 f2⟩ Γ fr (some (.norm s)))):=by
 have _:=hv
 rw [mg]
 intro B o ho r w ph hs
 cases ho
 exact ⟨v,qk (ha.all ph) (hf.sound ph),hs.again h0 hw h1 h2⟩
theorem xlx:Bx (na P cx (.x k ⟨[],.lx V k j Δ φ Γ2 f2⟩ Γ fr (some (.exit k s)))):=by
 have _:=hv
 rw [mg]
 intro B o ho r w ph hs
 cases ho
 refine ⟨rfl,?_⟩
 show (bif Nat.beq k k then _ else _)
 rw [show Nat.beq k k=true from Nat.beq_refl k]
 exact ⟨v,qk (ha.all ph) (hf.sound ph),hs.again h0 hw h1 h2⟩
theorem xlo (hj:Nat.beq j k=false):Bx (na P cx (.x j ⟨[],.lx V k j Δ φ Γ2 f2⟩ Γ fr (some (.exit j s)))):=by
 have _:=hv
 rw [mg]
 intro B o ho r w ph hs
 cases ho
 refine ⟨rfl,?_⟩
 show (bif Nat.beq j k then _ else bif Nat.beq j j then _ else _)
 rw [hj,show Nat.beq j j=true from Nat.beq_refl j]
 exact ⟨v,qk (ha.all ph) (hf.sound ph),hs.again h0 hw h1 h2⟩
end
theorem Xf {S1 V:Type} (k j:Nat) (Δ:S1→V→List aq) (φ:S1→V→Fr) (v0:V) (f2:Fr) {fu:List KI} {kb:Kb R S} {c:Code} {s0:S1} {body:S1→Option (Out S1 R)} {f g:S1→Option (Out S R)} {Γ Γ1 Γ2:QE} {fr:Fr}
   (hj:Nat.beq j k=false) (ha:qw fr (φ s0 v0)) (hf:qw fr f2) (h0:EO Γ (Δ s0 v0) Γ1) (hn:OW Γ (Δ s0 v0)) (hs:jj Γ1 Γ2)
   (hb:∀ s v,D P cx (.p (φ s v) (Δ s v) f2 Γ2 fun fr Γ=>.c ⟨[],.lx V k j Δ φ Γ2 f2⟩ c Γ fr (body s)))
   (hk:∀ s v,D P cx (.p (φ s v) (Δ s v) f2 Γ2 fun fr Γ=>.mn ⟨fu,kb⟩ Γ fr (f s)))
   (hg:∀ s v,D P cx (.p (φ s v) (Δ s v) f2 Γ2 fun fr Γ=>.x j ⟨fu,kb⟩ Γ fr (g s))):Bx (na P cx (.bk true k ⟨fu,kb⟩ (.loop c) Γ fr (I4 k j (Li.ag body s0) f g))):=by
 rw [mg]
 intro B o ho r w ph r4
 cases hl:Li.ag body s0 with
 | none=>rw [hl] at ho; cases ho
 | some o1=>
  rw [hl] at ho
  refine w5 (GU (N:=LI B Δ φ Γ2 f2) (X:=fun i s r w=>bif Nat.beq i j then LI B Δ φ Γ2 f2 s r w else False) (T:=TT P cx B) (I5 (LI B Δ φ Γ2 f2) (fun s r w ⟨v,h1,h2⟩ o ho=>(hb s v).sound B o ho r w h1 h2) hl ⟨v0,qk (ha.all ph) (hf.sound ph),r4.enter h0 hn hs⟩)) ?_
  intro e r' w' hq
  cases o1 with
  | norm s=>cases ho
  | ret z=>cases ho; cases e <;> first | exact hq.elim | exact vH hq
  | exit i s=>
   unfold I4 at ho
   dsimp only at ho
   unfold Ef at hq
   dsimp only at hq
   cases hi:Nat.beq i k with
   | true=>
    rw [hi] at ho hq
    cases e <;> first | exact hq.elim | skip
    obtain ⟨v,h1,h2⟩:=hq
    exact (hk s v).sound B o ho r' w' h1 h2
   | false=>
    rw [hi] at ho hq
    cases uZ:Nat.beq i j with
    | false=>rw [uZ] at ho; cases ho
    | true=>
     rw [uZ] at ho
     cases e with
     | exit i'=>
      obtain ⟨rfl,hq⟩:=hq
      rw [uZ] at hq
      obtain ⟨v,h1,h2⟩:=hq
      obtain rfl:=Nat.eq_of_beq_eq_true uZ
      exact (hg s v).sound B o ho r' w' h1 h2
     | _=>exact hq.elim
end
abbrev rI:Value→List Int→aq:=.rd false (bG (aK .i64))
abbrev rJ:Value→List (List Int)→aq:=.rd false (bG (bG (aK .i64)))
class FE (p:Prop):Prop where
 u:True
instance {o:Bool} {a b:QE}:FE (ER o a b):=⟨trivial⟩
instance {a:QE} {b:LV}:FE (u7 a b):=⟨trivial⟩
instance {a b c:QE}:FE (EF a b c):=⟨trivial⟩
instance {a b c:QE}:FE (EO a b c):=⟨trivial⟩
instance {a b:QE}:FE (EP a b):=⟨trivial⟩
instance {a c d:LV} {b:Nat}:FE (tI a b c d):=⟨trivial⟩
instance {a b:Nat} {c d:LV}:FE (ux a b c d):=⟨trivial⟩
instance {a:LN} {b:Option (Bool×Nat×Value)} {c d:Fr}:FE (Kp a b c d):=⟨trivial⟩
instance {V:Type} {v:V}:FE (uU V v):=⟨trivial⟩
instance {a:QE} {b:Addr} {c:Nat} {d:LV}:FE (u9 a b c d):=⟨trivial⟩
theorem fe {p:Prop} [FE p] (h:p):p:=h
end Go.Dk
namespace Go.Dk
open Go Go.Li
theorem RL {P:Program} {g:FuncId} {vs:LV} {Δ:QE} {β:Type} {m:Option β} {ow:Bool} {rt:β→Unit→List Value} (hc:Ct P g ow m vs Δ rt (fun _ _=>[])) {w:World} (hl:HL (fun b=>b < w.heap.size) w Δ []) {y:β} (hy:m=some y) :
  Calls P g vs.toArray w fun e w'=>e = .returned (tH (rt y ()))∧an [] w w':=by
 rw [vu] at hc
 refine (hc.2 w _ [] hl List.nodup_nil (fun _ h=>absurd h List.not_mem_nil) (fun _ h=>h) y hy).mono ?_
 rintro e w' ⟨_,he,Z,F,_,hg⟩
 exact ⟨he,hg.j9⟩
theorem RM {w:World} {α:Type} {T:ai α} {v:Value} {x:α} {f:LN} (h:T.rep w.heap [v] x f):fact (fun b=>b < w.heap.size) w [] (.rd false T v x):=⟨f,h,fun b hb=>T.lt h b hb⟩
end Go.Dk
