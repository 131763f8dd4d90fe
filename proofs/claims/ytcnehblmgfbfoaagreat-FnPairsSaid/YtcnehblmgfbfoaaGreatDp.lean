/- A region that draws its order: its head in any order, whatever it holds, its tail quiet and behind all of the head. No condition. -/
import Derived.Test.YtcnehblmgfbfoaaGreatDg
import Derived.Deep.Quiet
import Derived.Laws.Slices
import Derived.OrdersHeld
import Derived.Scope
namespace Go.Li
open Go
section
variable {P:Program} {n:Nat} {Q:Exit→(Nat→Value)→World→Prop} {r0:NV} {w0:World} {l:LO} {S:List fk}
def xV (l:LO) (m:Nat):Bool:=
 ((List.range l.length).all fun i=>((l.getD i default).after.toList.filter (Region.binds .any)).all fun e=>Nat.blt e.on i) &&
 ((List.range l.length).all fun i=>Nat.blt i m || (List.range m).all fun j=>((bu l).getD i []).contains j) &&
 zi ((l.take m).filterMap (·.dst)) && Region.noSelect l.toArray && Region.lexFrom .any l.toArray (l.length - m) m (List.replicate m true++List.replicate (l.length - m) false).toArray
theorem IH {m:Nat} (h:xV l m=true):∀ (i:Nat) (o:Oper),l[i]? = some o→∀ e∈o.after.toList.filter (Region.binds .any),e.on < i:=by
 simp only [xV,Bool.and_eq_true,List.all_eq_true,List.mem_range] at h
 intro i o ho e he
 have hi:i < l.length:=(List.getElem?_eq_some_iff.1 ho).1
 have:=h.1.1.1.1 i hi e (by rw [List.getD_eq_getElem?_getD,ho]; exact he)
 exact Nat.lt_of_succ_le (Nat.le_of_ble_eq_true this)
theorem PE {m:Nat} {U:LL} {H:LN} {N:Nat→Prop} (hd:cg n l=true) (hA:xV l m=true) (E0:m≤l.length)
  (hS:S.length=m)
  (hH:∀ b∈H,b < w0.heap.size) (hU:((List.range m).all fun i=>(U.getD i []).all fun u=>Nat.beq u l.length || ((bu l).getD i []).contains u)=true)
  (hN:∀ b,N b→b < w0.heap.size∧b ∉ H)
  (pZ:∀ (i:Nat) (s:fk),S[i]? = some s→∀ f F (w w':World) (r r':NV) v,ak F w w'→(∀ b∈f,b ∉ F)→(∀ b∈F,¬ N b)→(∀ j∈(bu l).getD i [],∀ t,bh l j=some t→r' t=r t)→s.V f w r v→s.V f w' r' v)
  (Mm:∀ i,i < m→jx P l m S U r0 w0 H i)
  (next:∀ g r w,vk l m S U r0 w0 H (fun j=>j < m) g r w→QL P (ak [] w) l (l.drop m) r fun r'=>∀ w',ak [] w w'→Q .normal r' w') :
  l3 P n l Q r0 w0:=by
 simp only [xV,Bool.and_eq_true,List.all_eq_true,List.mem_range,Bool.or_eq_true] at hA
 obtain ⟨⟨⟨⟨RB,RC⟩,RD⟩,Ow⟩,Mn⟩:=hA
 have uG:∀ (i:Nat) (o:Oper),l[i]? = some o→∀ e∈o.after.toList.filter (Region.binds .any),e.on < i:=by
  intro i o ho e he
  have hi:i < l.length:=(List.getElem?_eq_some_iff.1 ho).1
  have:=RB i hi e (by rw [List.getD_eq_getElem?_getD,ho]; exact he)
  exact Nat.lt_of_succ_le (Nat.le_of_ble_eq_true this)
 have C0:∀ i,m≤i→i < l.length→∀ j,j < m→j∈(bu l).getD i []:=by
  intro i h1 h2 j hj
  rcases RC i h2 with h | h
  ·exact absurd (Nat.lt_of_succ_le (Nat.le_of_ble_eq_true h)) (Nat.not_lt.2 h1)
  ·have:=h j hj
   simpa using this
 have RE:∀ i,i < m→∀ u∈U.getD i [],u=l.length∨u∈(bu l).getD i []:=by
  intro i hi u hu
  simp only [List.all_eq_true,List.mem_range] at hU
  have:=hU i hi u hu
  simpa using this
 have cq:=Dw _ (wU RD)
 have py:=zj l uG
 intro a h1 h2 h3
 let Cl (L:Array Bool):Prop:=L.size=l.length∧∀ j o,l[j]? = some o→L.getD j false=true→∀ e∈o.after.toList.filter (Region.binds .any),L.getD e.on false=true
 have ir:∀ L,Cl L→∀ i j,(∀ o,l[i]? = some o→∀ e∈o.after.toList.filter (Region.binds .any),L.getD e.on false=true)→j∈(bu l).getD i []→L.getD j false=true:=by
  intro L hL i
  induction i using Nat.strongRecOn with
  | _ i ih=>
   intro j hi hj
   obtain ⟨_,o,ho,e,he,E5⟩:=py i j hj
   have hl:=hi o ho e he
   rcases E5 with rfl | E5
   ·exact hl
   ·exact ih e.on (uG i o ho e he) j (fun o' br e' sb=>hL.2 _ _ br hl e' sb) E5
 have wu:∀ L i,i∈Region.ready .any l.toArray L→L.getD i true=false∧∃ o,l[i]? = some o∧∀ e∈o.after.toList.filter (Region.binds .any),L.getD e.on false=true:=by
  intro L i hi
  obtain ⟨g1,o,ho,dp⟩:=mem_ready.1 hi
  refine ⟨g1,o,by simpa using ho,fun e he=>?_⟩
  have:=List.mem_filter.1 he
  exact dp e (by simpa using this.1) this.2
 have B0:∀ L i o,L.size=l.length→l[i]? = some o→L.getD i false=false→(∀ e∈o.after.toList.filter (Region.binds .any),L.getD e.on false=true)→i∈Region.ready .any l.toArray L:=by
  intro L i o hs ho hu dp
  refine mem_ready.2 ⟨?_,o,by simpa using ho,fun e he hb=>dp e (List.mem_filter.2 ⟨by simpa using he,hb⟩)⟩
  have hi:i < L.size:=by rw [hs]; exact (List.getElem?_eq_some_iff.1 ho).1
  simp [hi] at hu ⊢; exact hu
 have D9:∀ L i o,Cl L→l[i]? = some o→(∀ e∈o.after.toList.filter (Region.binds .any),L.getD e.on false=true)→Cl (L.setIfInBounds i true):=by
  intro L i o hL ho dp
  refine ⟨by rw [Array.size_setIfInBounds]; exact hL.1,fun j o' br hj e he=>?_⟩
  by_cases xg:i=j
  ·subst xg
   have:o'=o:=Option.some.inj (br.symm.trans ho)
   subst this
   exact getD_set_true (dp e he)
  ·rw [getD_set_ne false xg] at hj
   exact getD_set_true (hL.2 j o' br hj e he)
 have getSet:∀ (L:Array Bool) i j,L.size=l.length→i < l.length→((L.setIfInBounds i true).getD j false=true↔j=i∨L.getD j false=true):=by
  intro L i j hs hi
  by_cases xg:i=j
  ·subst xg
   simp [hs,hi]
  ·rw [getD_set_ne false xg]
   constructor
   ·exact .inr
   ·rintro (h | h)
    ·exact absurd h.symm xg
    ·exact h
 have E6:∀ (L:Array Bool) i,L.size=l.length→i < l.length→L.getD i false=false→(L.setIfInBounds i true).toList.count false+1=L.toList.count false:=by
  intro L i hs hi hu
  have r3:i < L.toList.length:=by simpa [hs] using hi
  have AK:L.toList[i]=false:=by
   rw [Array.getElem_toList]
   simp [hs,hi] at hu
   exact hu
  rw [Array.toList_setIfInBounds,List.count_set r3,AK]
  have:0 < L.toList.count false:=List.count_pos_iff.2 (by rw [← AK]; exact List.getElem_mem r3)
  rw [if_pos (by rfl),if_neg (by decide)]
  omega
 have jg:cg n (l.drop m)=true:=by
  simp only [cg,List.all_eq_true] at hd ⊢
  exact fun o ho=>hd o (List.mem_of_mem_drop ho)
 have tail:∀ (fuel:Nat) (L:Array Bool) (a:Act) (w:World),Cl L→(∀ j,L.getD j false=true↔j < m)→L.toList.count false=fuel→a.tmps.size=n→a.defers=[]→
   (QL P (ak [] w) l (l.drop m) (b9 a) fun r'=>∀ w',ak [] w w'→Q .normal r' w')→wpAny P .any l.toArray (fun e a' w'=>a'.tmps.size=n∧a'.defers=[]∧Q e (b9 a') w') fuel L a w:=by
  intro fuel L a w hL fq hf g1 g2 hq
  have V6:L=(List.replicate m true++List.replicate (l.length - m) false).toArray:=by
   apply Array.ext
   ·simp [hL.1]; omega
   ·intro i hi hj
    have h1:=fq i
    simp only [Array.getD_eq_getD_getElem?,Array.getElem?_eq_getElem hi,Option.getD_some] at h1
    have e:(List.replicate m true++List.replicate (l.length - m) false).toArray[i]'hj=decide (i < m):=by
     simp only [List.getElem_toArray,List.getElem_append,List.getElem_replicate,List.length_replicate]
     split
     ·rename_i h; simp [h]
     ·rename_i h; simp [h]
    rw [e]
    cases hb:L[i] with
    | false=>exact (decide_eq_false fun h=>by have:=h1.2 h; rw [hb] at this; cases this).symm
    | true=>exact (decide_eq_true (h1.1 hb)).symm
  have RF:fuel=l.length - m:=by
   rw [← hf,V6]
   simp [List.count_append,List.count_replicate]
  have q1:=QL.wpQuiet (n:=n) (l:=l) (l.drop m) a hd jg g1 g2 hq
  have q2:=wpAnyQ_lex (md:=.any) Ow (l.drop m) m L a (fun j=>by simp [List.getElem?_drop]) (by rw [V6,List.length_drop]; exact Mn) q1
  refine wpAny_of_quiet (C:=ak [] w) (Q:=fun a'=>a'.tmps.size=n∧a'.defers=[]∧∀ w',ak [] w w'→Q .normal (b9 a') w') (fun a' w' zk hh=>⟨hh.1,hh.2.1,hh.2.2 w' zk⟩) _ _ _ _ (ak.refl _ _) ?_
  rw [RF,← List.length_drop]
  exact q2
 have head:∀ (fuel:Nat) (L:Array Bool) (a:Act) (w:World) (g:Nat→List Nat),Cl L→(∀ j,L.getD j false=true→j < m)→L.toList.count false=fuel→a.tmps.size=n→a.defers=[]→
   vk l m S U r0 w0 H (fun j=>L.getD j false=true) g (b9 a) w→wpAny P .any l.toArray (fun e a' w'=>a'.tmps.size=n∧a'.defers=[]∧Q e (b9 a') w') fuel L a w:=by
  intro fuel
  induction fuel with
  | zero=>
   intro L a w g hL sI hf g1 g2 inv
   have dp:∀ j,j < l.length→L.getD j false=true:=by
    intro j hj
    cases hb:L.getD j false with
    | true=>rfl
    | false=>have:=E6 L j hL.1 hj hb; omega
   have fq:∀ j,L.getD j false=true↔j < m:=fun j=>⟨sI j,fun h=>dp j (by omega)⟩
   refine tail 0 L a w hL fq hf g1 g2 (next g _ _ ?_)
   exact ⟨inv.iz,fun hk=>inv.zl fun k vm=>hk k ((fq k).1 vm),inv.vg,fun j hj=>inv.vd j ((fq j).2 hj),fun j hj hk=>inv.done j ((fq j).2 hj) (fun k vm=>hk k ((fq k).1 vm)),fun j hj=>inv.qZ j ((fq j).2 hj),inv.other,fun j hj b hb=>⟨(inv.fresh j ((fq j).2 hj) b hb).1.imp (fun h=>h) fun h=>⟨h.1,h.2.imp fun k hk=>⟨(fq k).1 hk.1,hk.2⟩⟩,(inv.fresh j ((fq j).2 hj) b hb).2⟩,fun i j hi hj=>inv.ur i j ((fq i).2 hi) ((fq j).2 hj)⟩
  | succ fuel ih=>
   intro L a w g hL sI hf g1 g2 inv
   by_cases dp:∀ j,j < m→L.getD j false=true
   ·have fq:∀ j,L.getD j false=true↔j < m:=fun j=>⟨sI j,dp j⟩
    refine tail _ L a w hL fq hf g1 g2 (next g _ _ ?_)
    exact ⟨inv.iz,fun hk=>inv.zl fun k vm=>hk k ((fq k).1 vm),inv.vg,fun j hj=>inv.vd j ((fq j).2 hj),fun j hj hk=>inv.done j ((fq j).2 hj) (fun k vm=>hk k ((fq k).1 vm)),fun j hj=>inv.qZ j ((fq j).2 hj),inv.other,fun j hj b hb=>⟨(inv.fresh j ((fq j).2 hj) b hb).1.imp (fun h=>h) fun h=>⟨h.1,h.2.imp fun k hk=>⟨(fq k).1 hk.1,hk.2⟩⟩,(inv.fresh j ((fq j).2 hj) b hb).2⟩,fun i j hi hj=>inv.ur i j ((fq i).2 hi) ((fq j).2 hj)⟩
   ·obtain ⟨j0,Ox,Dx⟩ : ∃ j,j < m∧L.getD j false=false:=by
     apply Classical.byContradiction
     intro qB
     apply dp
     intro j hj
     cases hb:L.getD j false with
     | true=>rfl
     | false=>exact absurd ⟨j,hj,hb⟩ qB
    have II:∃ i,i∈Region.ready .any l.toArray L:=by
     have:∀ k,(∃ j,j < k∧j < m∧L.getD j false=false)→∃ i,i∈Region.ready .any l.toArray L:=by
      intro k
      induction k with
      | zero=>rintro ⟨j,h,_⟩; omega
      | succ k BM=>
       rintro ⟨j,Kg,zm,qC⟩
       by_cases vn:∃ j,j < k∧j < m∧L.getD j false=false
       ·exact BM vn
       ·obtain rfl:j=k:=by
         apply Classical.byContradiction
         intro h
         exact vn ⟨j,by omega,zm,qC⟩
        have Dy:j < l.length:=by omega
        refine ⟨j,B0 L j l[j] hL.1 (List.getElem?_eq_getElem Dy) qC fun e he=>?_⟩
        have bc:=uG j _ (List.getElem?_eq_getElem Dy) e he
        cases hb:L.getD e.on false with
        | true=>rfl
        | false=>exact absurd ⟨e.on,bc,by omega,hb⟩ vn
     exact this (j0+1) ⟨j0,by omega,Ox,Dx⟩
    have main:∀ i oi,i < m→l[i]? = some oi→L.getD i false=false→(∀ e∈oi.after.toList.filter (Region.binds .any),L.getD e.on false=true)→
      (Region.wanted oi (yl l (b9 a))=true∧ee P oi (b9 a) w fun v w'=>wpAny P .any l.toArray (fun e a' w'=>a'.tmps.size=n∧a'.defers=[]∧Q e (b9 a') w') fuel (L.setIfInBounds i true) (a.put oi.dst v) w')∨
      (Region.wanted oi (yl l (b9 a))=false∧wpAny P .any l.toArray (fun e a' w'=>a'.tmps.size=n∧a'.defers=[]∧Q e (b9 a') w') fuel (L.setIfInBounds i true) (a.put oi.dst undef) w):=by
     intro i oi sJ mb sK sL
     have ed:i < l.length:=(List.getElem?_eq_some_iff.1 mb).1
     have l4:∀ o,l[i]? = some o→∀ e∈o.after.toList.filter (Region.binds .any),L.getD e.on false=true:=fun o' br=>by
      have:o'=oi:=Option.some.inj (br.symm.trans mb)
      subst this; exact sL
     obtain ⟨s,hs⟩ : ∃ s,S[i]? = some s:=⟨S[i]'(by omega),List.getElem?_eq_getElem (by omega)⟩
     have hc:=E6 L i hL.1 ed sK
     have zn:=D9 L i oi hL mb sL
     have RG:∀ j,(L.setIfInBounds i true).getD j false=true→j < m:=by
      intro j hj
      rcases (getSet L i j hL.1 ed).1 hj with rfl | hj
      ·exact sJ
      ·exact sI j hj
     have B1:∀ k,L.getD k false=true→k≠i∧i ∉ (bu l).getD k []:=by
      intro k hk
      refine ⟨fun h=>(by rw [h,sK] at hk; cases hk),fun s6=>?_⟩
      have:=ir L hL k i (fun o' br e' sb=>hL.2 k o' br hk e' sb) s6
      rw [sK] at this; cases this
     have ow:=Mm i sJ oi s mb hs g (b9 a) w inv.iz (fun hV=>by
       have qB:∀ k,L.getD k false=true→l.length ∉ U.getD k []:=fun k hk E7=>by
        simp only [xS,List.all_eq_true,List.mem_range,Bool.or_eq_true,Bool.not_eq_true',List.contains_eq_mem,decide_eq_false_iff_not,decide_eq_true_eq] at hV
        rcases hV k (sI k hk) with (h | h) | h
        ·exact h E7
        ·exact (B1 k hk).1 (Nat.eq_of_beq_eq_true h)
        ·exact (B1 k hk).2 h
       have h0:=inv.zl qB
       exact ⟨h0.1,h0.2,fun j hj b hb=>(inv.fresh j (ir L hL i j l4 hj) b hb).1.elim (fun h=>h) fun h=>absurd h.2.choose_spec.2 (qB _ h.2.choose_spec.1)⟩) (fun j hj=>inv.qZ j (ir L hL i j l4 hj)) (fun j hj=>by
       simp only [rD,Bool.and_eq_true,List.all_eq_true,List.mem_range,Bool.or_eq_true,Bool.not_eq_true',List.contains_eq_mem,decide_eq_false_iff_not,decide_eq_true_eq] at hj
       refine inv.done j (ir L hL i j l4 hj.1) fun k hk Kg=>?_
       rcases hj.2 k (sI k hk) with (h | h) | h
       ·exact h Kg
       ·exact (B1 k hk).1 (Nat.eq_of_beq_eq_true h)
       ·exact (B1 k hk).2 h) inv.other
      (fun i' r3 j' fu=>inv.ur i' j' (ir L hL i i' l4 r3) (ir L hL i j' l4 fu))
      (fun j hj b hb=>⟨(inv.fresh j (ir L hL i j l4 hj) b hb).1.imp (fun h=>h) (·.1),(inv.fresh j (ir L hL i j l4 hj) b hb).2⟩)
     have hblk:∀ b∈mw g (U.getD i []),(∃ u,u∈U.getD i []∧L.getD u false=true∧b∈g u)∨(l.length∈U.getD i []∧b∈g l.length):=by
      intro b hb
      obtain ⟨u,hu,er⟩:=List.mem_flatMap.1 hb
      rcases RE i sJ u hu with rfl | h
      ·exact .inr ⟨hu,er⟩
      ·exact .inl ⟨u,hu,ir L hL i u l4 h,er⟩
     have Dz:∀ k',oi.dst=some k'→k' < a.tmps.size:=by
      intro k' yW
      have s6:oi∈l:=List.mem_of_getElem? mb
      simp only [cg,List.all_eq_true] at hd
      have:=hd oi s6
      rw [yW] at this
      rw [g1]
      exact Nat.lt_of_succ_le (Nat.le_of_ble_eq_true this)
     have xh:bh l i=oi.dst:=by unfold bh; rw [mb]; rfl
     have n9:∀ v t,(oi.dst≠some t)→b9 (a.put oi.dst v) t=b9 a t:=by
      intro v t ht
      rw [ie Dz]
      cases vo:oi.dst with
      | none=>rfl
      | some d=>
       show (bif Nat.beq t d then v else b9 a t)=b9 a t
       cases hb:Nat.beq t d with
       | false=>rfl
       | true=>exact absurd (by rw [vo,Nat.eq_of_beq_eq_true hb]) ht
     have E8:∀ v d,oi.dst=some d→b9 (a.put oi.dst v) d=v:=by
      intro v d vo
      rw [ie Dz,vo]
      show (bif Nat.beq d d then v else b9 a d)=v
      rw [Nat.beq_refl]; rfl
     have step:∀ v w' f,ak (mw g (U.getD i [])) w w'→(∀ b∈f,(b∈mw g (U.getD i [])∨w.heap.size≤b)∧b < w'.heap.size)→(if s.b then s.V f w' (b9 a) v else v=undef)→
       wpAny P .any l.toArray (fun e a' w'=>a'.tmps.size=n∧a'.defers=[]∧Q e (b9 a') w') fuel (L.setIfInBounds i true) (a.put oi.dst v) w':=by
      intro v w' f hC sG hV
      have qS:∀ j',j' < m→j'≠i→∀ t,bh l j'=some t→b9 (a.put oi.dst v) t=b9 a t:=by
       intro j' fu pN t ht
       refine n9 v t fun h=>pN (cq j' i t ?_ ?_)
       ·rw [jz fu]; exact ht
       ·rw [jz sJ,xh]; exact h
      have Kh:∀ b∈mw g (U.getD i []),¬ N b:=fun b hb hn=>by
       rcases hblk b hb with ⟨u,_,nk,er⟩ | ⟨_,er⟩
       ·rcases (inv.fresh u nk b er).1 with h | h
        ·have:=(hN b hn).1; omega
        ·exact (hN b hn).2 h.1
       ·exact (hN b hn).2 (inv.vg b er)
      refine ih _ _ _ (fun j=>if j=i then f else if j∈U.getD i [] then [] else g j) zn RG (by omega) (by rw [fv]; exact g1) (by rw [dt]; exact g2)
       ⟨inv.iz.then hC fun b hb=>(by
        rcases hblk b hb with ⟨u,_,nk,er⟩ | ⟨_,er⟩
        ·exact (inv.fresh u nk b er).1.elim .inr fun h=>.inl h.1
        ·exact .inl (inv.vg b er)),fun qB=>?_,?_,fun j hj=>?_,?_,fun j hj d r8 sj qn=>?_,?_,?_,?_⟩
      ·have tM:l.length ∉ U.getD i []:=qB i ((getSet L i i hL.1 ed).2 (.inl rfl))
       have h0:=inv.zl fun k hk=>qB k ((getSet L i k hL.1 ed).2 (.inr hk))
       refine ⟨h0.1.then hC fun b hb=>?_,?_⟩
       ·rcases hblk b hb with ⟨u,_,nk,er⟩ | ⟨h,_⟩
        ·exact (inv.fresh u nk b er).1.elim .inr fun ⟨_,k,hk,E7⟩=>absurd E7 (qB k ((getSet L i k hL.1 ed).2 (.inr hk)))
        ·exact absurd h tM
       ·show (if l.length=i then f else if l.length∈U.getD i [] then [] else g l.length)=H
        rw [if_neg (by omega),if_neg tM]
        exact h0.2
      ·intro b hb
       have bz:b∈(if l.length=i then f else if l.length∈U.getD i [] then [] else g l.length):=hb
       rw [if_neg (by omega)] at bz
       split at bz
       ·cases bz
       ·exact inv.vg b bz
      ·intro b hb hv
       have kj:b∈(if l.length=i then f else if l.length∈U.getD i [] then [] else g l.length):=hv
       rw [if_neg (by omega)] at kj
       split at kj
       ·cases kj
       ·rename_i RH
        have bz:b∈(if j=i then f else if j∈U.getD i [] then [] else g j):=hb
        split at bz
        ·rcases (sG b bz).1 with h | h
         ·rcases hblk b h with ⟨u,_,nk,er⟩ | ⟨h,_⟩
          ·exact inv.vd u nk b er kj
          ·exact RH h
         ·have h1:=hH b (inv.vg b kj)
          have h2:=inv.iz.size
          omega
        ·rename_i j7
         split at bz
         ·cases bz
         ·exact inv.vd j (((getSet L i j hL.1 ed).1 hj).resolve_left j7) b bz kj
      ·intro j hj xi
       refine ⟨fun d r8=>?_,fun RI sj qn Ki=>?_⟩
       rotate_left
       ·by_cases j7:j=i
        ·subst j7
         rw [hs] at qn
         cases qn
         rw [if_pos Ki] at hV
         refine ⟨v,?_⟩
         simp only [if_pos]
         exact pZ j s hs _ [] w' w' (b9 a) _ v (ak.refl _ _) (fun _ _ h=>nomatch h) (fun _ h=>nomatch h) (fun j' fu t ht=>qS j' (by have:=(py j j' fu).1; omega) (by have:=(py j j' fu).1; omega) t ht) hV
        ·have l5:=((getSet L i j hL.1 ed).1 hj).resolve_left j7
         have qC:j ∉ U.getD i []:=xi i ((getSet L i i hL.1 ed).2 (.inl rfl))
         obtain ⟨x,hx⟩:=(inv.done j l5 (fun k hk=>xi k ((getSet L i k hL.1 ed).2 (.inr hk)))).2 RI sj qn Ki
         have ju:(fun j=>if j=i then f else if j∈U.getD i [] then [] else g j) j=g j:=by
          show (if j=i then f else if j∈U.getD i [] then [] else g j)=g j
          rw [if_neg j7,if_neg qC]
         rw [ju]
         refine ⟨x,pZ j sj qn _ _ _ _ (b9 a) _ _ hC (fun b bz E9=>?_) Kh (fun j' fu t ht=>qS j' (by have:=(py j j' fu).1; have:=sI j l5; omega) (fun h=>?_) t ht) hx⟩
         ·rcases hblk b E9 with ⟨u,zo,nk,er⟩ | ⟨_,er⟩
          ·exact inv.ur j u l5 nk (fun h=>qC (h ▸ zo)) b bz er
          ·exact inv.vd j l5 b bz er
         ·subst h
          have:=ir L hL j j' (fun o' br e' sb=>hL.2 j o' br l5 e' sb) fu
          rw [sK] at this; cases this
       by_cases j7:j=i
       ·subst j7
        rw [hs]
        simp only [if_pos]
        rw [xh] at r8
        rw [E8 v d r8]
        split
        ·rename_i hb
         rw [if_pos hb] at hV
         exact pZ j s hs _ [] w' w' (b9 a) _ v (ak.refl _ _) (fun _ _ h=>nomatch h) (fun _ h=>nomatch h) (fun j' fu t ht=>qS j' (by have:=(py j j' fu).1; omega) (by have:=(py j j' fu).1; omega) t ht) hV
        ·rename_i hb
         rw [if_neg hb] at hV
         exact hV
       ·have l5:=((getSet L i j hL.1 ed).1 hj).resolve_left j7
        have zm:=sI j l5
        have qC:j ∉ U.getD i []:=xi i ((getSet L i i hL.1 ed).2 (.inl rfl))
        have vo:oi.dst≠some d:=by
         intro h
         apply j7
         refine cq j i d ?_ ?_
         ·rw [jz zm]; exact r8
         ·rw [jz sJ,xh]; exact h
        have:=(inv.done j l5 (fun k hk=>xi k ((getSet L i k hL.1 ed).2 (.inr hk)))).1 d r8
        rw [n9 v d vo]
        have ju:(fun j=>if j=i then f else if j∈U.getD i [] then [] else g j) j=g j:=by
         show (if j=i then f else if j∈U.getD i [] then [] else g j)=g j
         rw [if_neg j7,if_neg qC]
        rw [ju]
        cases qn:S[j]? with
        | none=>trivial
        | some sj=>
         rw [qn] at this
         simp only [] at this ⊢
         split
         ·rename_i hb
          rw [if_pos hb] at this
          refine pZ j sj qn _ _ _ _ (b9 a) _ _ hC (fun b bz E9=>?_) Kh (fun j' fu t ht=>qS j' (by have:=(py j j' fu).1; omega) (fun h=>?_) t ht) this
          rotate_left
          ·subst h
           have:=ir L hL j j' (fun o' br e' sb=>hL.2 j o' br l5 e' sb) fu
           rw [sK] at this; cases this
          rcases hblk b E9 with ⟨u,zo,nk,er⟩ | ⟨_,er⟩
          ·exact inv.ur j u l5 nk (fun h=>qC (h ▸ zo)) b bz er
          ·exact inv.vd j l5 b bz er
         ·rename_i hb
          rw [if_neg hb] at this
          exact this
      ·by_cases j7:j=i
       ·subst j7
        rw [hs] at qn
        cases qn
        rw [xh] at r8
        rw [E8 v d r8]
        split
        ·rename_i hb
         rw [if_pos hb] at hV
         exact ⟨f,w',pZ j s hs _ [] w' w' (b9 a) _ v (ak.refl _ _) (fun _ _ h=>nomatch h) (fun _ h=>nomatch h) (fun j' fu t ht=>qS j' (by have:=(py j j' fu).1; omega) (by have:=(py j j' fu).1; omega) t ht) hV⟩
        ·rename_i hb
         rw [if_neg hb] at hV
         exact hV
       ·have l5:=((getSet L i j hL.1 ed).1 hj).resolve_left j7
        have zm:=sI j l5
        have vo:oi.dst≠some d:=by
         intro h
         apply j7
         refine cq j i d ?_ ?_
         ·rw [jz zm]; exact r8
         ·rw [jz sJ,xh]; exact h
        have:=inv.qZ j l5 d r8 sj qn
        rw [n9 v d vo]
        split
        ·rename_i hb
         rw [if_pos hb] at this
         obtain ⟨f1,w1,h1⟩:=this
         refine ⟨f1,w1,pZ j sj qn _ [] w1 w1 (b9 a) _ _ (ak.refl _ _) (fun _ _ h=>nomatch h) (fun _ h=>nomatch h) (fun j' fu t ht=>qS j' (by have:=(py j j' fu).1; omega) (fun h=>?_) t ht) h1⟩
         subst h
         have:=ir L hL j j' (fun o' br e' sb=>hL.2 j o' br l5 e' sb) fu
         rw [sK] at this; cases this
        ·rename_i hb
         rw [if_neg hb] at this
         exact this
      ·intro t ht
       rw [n9 v t (fun h=>ht i sJ (by rw [xh]; exact h))]
       exact inv.other t ht
      ·intro j hj b hb
       by_cases j7:j=i
       ·simp only [if_pos j7] at hb
        have hh:=sG b hb
        have qI:=inv.iz.size
        rcases hh.1 with h | h
        ·rcases hblk b h with ⟨u,_,nk,er⟩ | ⟨hv,er⟩
         ·exact ⟨(inv.fresh u nk b er).1.imp (fun h=>h) fun h=>⟨h.1,h.2.imp fun k hk=>⟨(getSet L i k hL.1 ed).2 (.inr hk.1),hk.2⟩⟩,hh.2⟩
         ·exact ⟨.inr ⟨inv.vg b er,i,(getSet L i i hL.1 ed).2 (.inl rfl),hv⟩,hh.2⟩
        ·exact ⟨.inl (by omega),hh.2⟩
       ·have l5:=((getSet L i j hL.1 ed).1 hj).resolve_left j7
        simp only [if_neg j7] at hb
        split at hb
        ·cases hb
        ·have h1:=inv.fresh j l5 b hb
         have h2:=hC.size
         exact ⟨h1.1.imp (fun h=>h) fun h=>⟨h.1,h.2.imp fun k hk=>⟨(getSet L i k hL.1 ed).2 (.inr hk.1),hk.2⟩⟩,by omega⟩
      ·have tj:∀ j',(L.setIfInBounds i true).getD j' false=true→j'≠i→∀ b∈f,b ∉ (if j'∈U.getD i [] then [] else g j'):=by
        intro j' fu e2 b hb bz
        have Fb:=((getSet L i j' hL.1 ed).1 fu).resolve_left e2
        split at bz
        ·cases bz
        ·rename_i qC
         rcases (sG b hb).1 with h | h
         ·rcases hblk b h with ⟨u,zo,nk,er⟩ | ⟨_,er⟩
          ·exact inv.ur u j' nk Fb (fun h=>qC (h ▸ zo)) b er bz
          ·exact inv.vd j' Fb b bz er
         ·have:=inv.fresh j' Fb b bz
          omega
       intro i' j' r3 fu pN b hb bz
       by_cases e1:i'=i
       ·have e2:j'≠i:=fun h=>pN (e1.trans h.symm)
        simp only [if_pos e1] at hb
        simp only [if_neg e2] at bz
        exact tj j' fu e2 b hb bz
       ·simp only [if_neg e1] at hb
        by_cases e2:j'=i
        ·simp only [if_pos e2] at bz
         exact tj i' r3 e1 b bz hb
        ·simp only [if_neg e2] at bz
         split at hb
         ·cases hb
         ·split at bz
          ·cases bz
          ·exact inv.ur i' j' (((getSet L i i' hL.1 ed).1 r3).resolve_left e1) (((getSet L i j' hL.1 ed).1 fu).resolve_left e2) pN b hb bz
     cases hb:s.b with
     | true=>
      rw [if_pos hb] at ow
      refine .inl ⟨ow.1,px ow.2 ?_⟩
      rintro v w' ⟨hC,f,sG,hV⟩
      exact step v w' f hC sG (by rw [if_pos hb]; exact hV)
     | false=>
      rw [if_neg (by rw [hb]; exact Bool.false_ne_true)] at ow
      exact .inr ⟨ow,step undef w [] (ak.refl _ _) (fun b h=>nomatch h) (by rw [if_neg (by rw [hb]; exact Bool.false_ne_true)])⟩
    refine ⟨fun h=>(by obtain ⟨i,hi⟩:=II; rw [h] at hi; cases hi),fun i hi=>?_⟩
    obtain ⟨q1,oi,mb,sL⟩:=wu L i hi
    have ed:i < l.length:=(List.getElem?_eq_some_iff.1 mb).1
    have sK:L.getD i false=false:=getD_both q1
    have sJ:i < m:=by
     rcases Nat.lt_or_ge i m with h | h
     ·exact h
     ·have hj:=C0 i h ed j0 Ox
      have:=ir L hL i j0 (fun o' br=>by have:o'=oi:=Option.some.inj (br.symm.trans mb); subst this; exact sL) hj
      rw [Dx] at this; cases this
    unfold wpOp
    rw [show (l.toArray)[i]? = some oi by simpa using mb]
    simp only []
    rw [tB (by rw [g1]; exact hd)]
    rcases main i oi sJ mb sK sL with ⟨hw,h⟩ | ⟨hw,h⟩
    ·rw [if_pos hw]
     exact .inl (h.wp fun v w' hv=>hv)
    ·rw [if_neg (by rw [hw]; exact Bool.false_ne_true)]
     exact h
 refine head _ _ a _ (fun j=>if j=l.length then H else []) ⟨by simp,?_⟩ ?_ ?_ h1 h2 ⟨ak.nil (ak.drew _ _),fun _=>⟨ak.drew _ _,by simp⟩,fun b hb=>by simpa using hb,?_,?_,?_,?_,?_,?_⟩
 ·intro j o ho hj
  rw [getD_replicate_false] at hj; cases hj
 ·intro j hj
  rw [getD_replicate_false] at hj; cases hj
 ·simp
 ·intro j hj
  rw [getD_replicate_false] at hj; cases hj
 ·intro j hj
  rw [getD_replicate_false] at hj; cases hj
 ·intro j hj
  rw [getD_replicate_false] at hj; cases hj
 ·intro t _
  rw [h3]
 ·intro j hj
  rw [getD_replicate_false] at hj; cases hj
 ·intro i j hi
  rw [getD_replicate_false] at hi; cases hi
end
end Go.Li
namespace Go.Dk
open Go Go.Li
section
variable {R S:Type} {P:Program} {cx:Cx R} {K:cy R S} {l tail:LO} {base fr:Fr} {w:World} {Z:Nat→Prop}
theorem Mo {mt id:Nat} {U:LL} {J9:QE} (hU:((List.range mt).all fun i=>(U.getD i []).all fun u=>Nat.beq u l.length || ((bu l).getD i []).contains u)=true) (hh:lh l mt base=true) (hd:cg cx.n l=true) (hA:xV l mt=true) (E0:mt≤l.length) (ht:tail=l.drop mt) {i:Nat} {sl:LQ} {ms:MM} {Γ:QE} {m:Option (Out S R)} (Ka:yZ ms=true) (pX:A8 U sl ms=true)
  (h:∀ x:pP ms,D P cx (.p (xP sl (mF ms x)) (A6 ms x) base Γ fun fr Γ=>.tg true (yT tail) l tail K Γ fr m)):IB P cx K l l mt U J9 id base (.a [] [] i sl ms Γ m):=by
 rintro ⟨_,h2,h3⟩ B o ho r0 w0 H Z ha hs ⟨S',hl,hR,hO⟩
 have hi:i=mt:=by
  have:=congrArg List.length h2
  simp at this
  omega
 subst hl
 obtain ⟨F,Hd,⟨vj,xc,te,xd⟩,hS,hG⟩:=hs
 refine PE (N:=Z) (S:=S') (U:=U) (H:=H) hd hA E0 hi te hU (fun b hb=>⟨hG.na b hb,fun h=>hG.apart b (List.mem_append_left _ h) hb⟩) (fun i s hs=>hR.s i s hs) (fun j hj=>hO j (by omega)) ?_
 intro g r w hI
 have IC:∀ k j,j∈U.getD k []→∀ a∈ms,a.j≠j:=by
  intro k j hj
  unfold A8 at pX
  rw [Bool.and_eq_true] at pX
  rw [List.getD_eq_getElem?_getD] at hj
  cases hk:U[k]? with
  | none=>rw [hk] at hj; exact absurd hj List.not_mem_nil
  | some us=>
   rw [hk] at hj
   have h1:=List.all_eq_true.1 (List.all_eq_true.1 pX.1 us (List.mem_of_getElem? hk)) j hj
   intro a ha he
   have:=List.all_eq_true.1 h1 a ha
   rw [he,Nat.beq_refl] at this
   cases this
 have hD:∀ j,j < mt→(∀ k,j ∉ U.getD k [])→vh l S' j g r w:=fun j hj hn=>hI.done j hj fun k _=>hn k
 have bc:∀ a∈ms,a.j < mt:=fun a ha=>hi ▸ hR.lt ha
 obtain ⟨x,hx,r9,Rj⟩:=Oq (g:=g) (r:=r) (w:=w) Ka hR.d (fun a ha b hb sH=>hI.ur _ _ (bc a ha) (bc b hb) sH) fun a ha=>by
  have:=hR.Du (S2:=[]) ha (by rw [List.append_nil]; exact hD a.j (bc a ha) (fun k hk=>IC k _ hk a ha rfl))
  exact this
 have BX:=List.nodup_append.1 hG.nd
 have n9:∀ b∈xT g ms,w0.heap.size≤b∨b∈H:=fun b hb=>by
  obtain ⟨a,h1,h2⟩:=Bb hb
  exact (hI.fresh a.j (bc a h1) b h2).1.imp (fun h=>h) (·.1)
 have fy:=qm.stay hS hG hI.iz
 obtain ⟨Vo,Vr,Rk,Rm,r9⟩:=r9
 obtain ⟨F',hp,gy⟩:=r9.build (fy.mono (fun _ h=>.inl h) fun _ h=>h)
 have tP:Gd B Z (xT g ms++F) w:=by
  refine ⟨tO Rj BX.2.1 fun b hb hF=>(n9 b hb).elim (fun h=>Nat.lt_irrefl _ (Nat.lt_of_lt_of_le (hS.lt b hF) h)) (fun h=>BX.2.2 b h b hF rfl),?_,fun b hb=>Nat.lt_of_lt_of_le (hG.na b hb) hI.iz.size,?_,hG.sZ,hG.sA,hG.iz.then hI.iz fun b hb=>hG.low b (List.mem_append_left _ hb)⟩
  ·intro b hb hz
   rcases List.mem_append.1 hb with hb | hb
   ·exact (n9 b hb).elim (fun h=>Nat.lt_irrefl _ (Nat.lt_of_lt_of_le (hG.na b hz) h)) (fun h=>hG.apart b (List.mem_append_left _ h) hz)
   ·exact hG.apart b (List.mem_append_right _ hb) hz
  ·intro b hb
   rcases List.mem_append.1 hb with hb | hb
   ·exact (n9 b hb).elim (fun h=>.inr (Nat.le_trans hG.iz.size h)) (fun h=>hG.low b (List.mem_append_left _ h))
   ·exact hG.low b (List.mem_append_right _ hb)
 have Mj:cn r ((xP sl (mF ms x)).reverse++base):=by
  refine r4 (EY (fun p hp=>?_) hx) (jm hh ha hI.other)
  exact hR.zd (S2:=[]) hp fun j _ hj=>(by rw [List.append_nil]; exact hI.qZ j (hi ▸ hj))
 have:=(h x).sound B o ho r w Mj ⟨_,F',gy,((tP.perm (Hp Rk)).freeze Rm).perm hp⟩
 rw [ht] at this
 exact this
theorem UY {id:Nat} (hd:QE) (mt:Nat) (U as:LL) {ops:LO} {Γ Γ1:QE} {fr:Fr} {m:Option (Out S R)}
  (hB:(P.follows .mixedOrders && cg cx.n l && xV l mt && Nat.ble mt l.length && (lz l U mt == as) && ((List.range mt).all fun i=>(U.getD i []).all fun u=>Nat.beq u l.length || ((bu l).getD i []).contains u))=true)
  (ho:ops=l.take mt) (ht:tail=l.drop mt) (hf:Kp (xL ops) none fr base) (hh:lh l mt base=true) (he:EO Γ hd Γ1) (E2:OW Γ hd)
  (h:AD true P cx K l tail base U hd (.a as ops 0 [] [] Γ1 m)):Bx (n8 P cx (.dr id l K Γ fr m)):=by
 simp only [Bool.and_eq_true] at hB
 obtain ⟨⟨⟨⟨⟨b1,b2⟩,b3⟩,b5⟩,b6⟩,b7⟩:=hB
 rw [nw]
 intro B o hm r w ha hs
 obtain ⟨Z,F,hS,hG⟩:=hs
 obtain ⟨Fd,F',h1,h2,h3⟩:=he.sound hS
 have E3:SA Z w hd [] Fd:=by
  have:=(HO.hl E2 hS h1).front (Γ:=[]) (F:=[]) rfl
  simpa using this
 have hX:qm B Z hd Γ1 Fd w:=⟨F',Fd,⟨E3,fun b hb=>⟨hb,E3.lt b hb⟩,E3.lt,(List.nodup_append.1 (hG.perm h3).nd).1⟩,h2,hG.perm h3⟩
 refine l3.W b1 ?_
 refine AD.sound (id:=id) hh (fun _ _ _ _ _ _ hs he h=>Mo b7 hh b2 b3 (Nat.le_of_ble_eq_true b5) ht hs he h) h
  ⟨by rw [List.drop_zero]; exact (eq_of_beq b6).symm,by rw [List.drop_zero]; exact ho,Nat.zero_le _⟩ B o hm r w Fd Z (hf.sound ha) hX ⟨[],rfl,⟨fun _ h=>absurd h List.not_mem_nil,fun _ h=>absurd h List.not_mem_nil,fun i s h=>by simp at h,List.nodup_nil,fun _ _ _ h1 h2=>BZ l (IH b3) h1 h2⟩,fun j hj=>absurd hj (Nat.not_lt_zero j)⟩
theorem Xq {id:Nat} (mt:Nat) (U as:LL) {ops:LO} {Γ:QE} {fr:Fr} {m:Option (Out S R)}
  (hB:(P.follows .mixedOrders && cg cx.n l && xV l mt && Nat.ble mt l.length && (lz l U mt == as) && ((List.range mt).all fun i=>(U.getD i []).all fun u=>Nat.beq u l.length || ((bu l).getD i []).contains u))=true)
  (ho:ops=l.take mt) (ht:tail=l.drop mt) (hf:Kp (xL ops) none fr base) (hh:lh l mt base=true)
  (h:AD true P cx K l tail base U [] (.a as ops 0 [] [] Γ m)):Bx (n8 P cx (.dr id l K Γ fr m)):=UY [] mt U as hB ho ht hf hh .nil .nil h
end
end Go.Dk
namespace Go.Dk
open Go Go.Li
def yS:Value→Option Nat
 | .slice (some a) _ _=>some a.block
 | _=>none
def NF {α:Type} (E:ag α):Prop:=∀ {h:Array Obj} {cs:LV} {x:α} {f:LN},E.rep h cs x f→f=[]
theorem NF.i {k:IntKind}:NF (aL k):=tL
theorem NF.l {α:Type} {E:ag α} (hE:NF E) {h:Array Obj}:∀ {xs:List α} {cs:LV} {f:LN},db E h cs xs f→f=[]:=by
 intro xs
 induction xs with
 | nil=>rintro cs f ⟨_,rfl⟩; rfl
 | cons x xs ih=>
  rintro cs f ⟨c,jr,f1,f2,rfl,rfl,h1,h2⟩
  rw [hE h1,ih h2]; rfl
structure Good {α:Type} (A:Value→α→Prop) (f:LN):Prop where
 sub:∀ u y b,A u y→yS u=some b→b∈f
 one:∀ u y u' y' b,A u y→A u' y'→yS u=some b→yS u'=some b→y=y'
inductive yM {α:Type}:{β:Type}→ag β→((Value→List α→Prop)→ag β)→Prop
 | row {e:TI} {E:ag α}:yM (aI e E) (fun A=>rX A (aI e E))
 | step {β:Type} {e:TI} {T:ag β} {T':(Value→List α→Prop)→ag β} (h:yM T T'):yM (aI e T) (fun A=>bE (T' A))
section
variable {α β:Type} {T:ag β} {T':(Value→List α→Prop)→ag β} {A A':Value→List α→Prop} {f:LN} {hp:Array Obj}
theorem yM.size (h:yM T T'):(T' A).size=T.size:=by
 cases h <;> rfl
theorem yM.mono (h:yM T T') (hA:∀ u y,A u y→A' u y):Le (T' A) (T' A'):=by
 induction h with
 | row=>exact ⟨rfl,fun h=>⟨h.1.imp fun v g=>⟨g.1,hA _ _ g.2⟩,h.2⟩⟩
 | step _ ih=>exact ih.GZ
theorem yM.UZ {e:TI} (ho:∀ {cs:LV} {x:β} {f:LN},T.rep hp cs x f→f.Nodup→∃ A,Good A f∧(T' A).rep hp cs x f) (hm:∀ {A A':Value→List α→Prop},(∀ u y,A u y→A' u y)→Le (T' A) (T' A')) :
  ∀ {xs:List β} {cs:LV} {f:LN},db T hp cs xs f→f.Nodup→∃ A,Good A f∧db (T' A) hp cs xs f:=by
 have _:=e
 intro xs
 induction xs with
 | nil=>rintro cs f ⟨rfl,rfl⟩ _; exact ⟨fun _ _=>False,⟨fun _ _ _ h=>h.elim,fun _ _ _ _ _ h=>h.elim⟩,rfl,rfl⟩
 | cons x xs ih=>
  rintro cs f ⟨c,jr,f1,f2,rfl,rfl,h1,h2⟩ hn
  obtain ⟨n1,n2,n3⟩:=List.nodup_append.1 hn
  obtain ⟨A1,g1,r1⟩:=ho h1 n1
  obtain ⟨A2,g2,r2⟩:=ih h2 n2
  refine ⟨fun u y=>A1 u y∨A2 u y,⟨fun u y b h hb=>?_,fun u y u' y' b h h' hb bz=>?_⟩,c,jr,f1,f2,rfl,rfl,(hm fun _ _=>.inl).le r1,s7 (hm fun _ _=>.inr) r2⟩
  ·exact h.elim (fun h=>List.mem_append_left _ (g1.sub u y b h hb)) (fun h=>List.mem_append_right _ (g2.sub u y b h hb))
  ·rcases h with h | h <;> rcases h' with h' | h'
   ·exact g1.one u y u' y' b h h' hb bz
   ·exact absurd rfl (n3 b (g1.sub _ _ _ h hb) b (g2.sub _ _ _ h' bz))
   ·exact absurd rfl (n3 b (g1.sub _ _ _ h' bz) b (g2.sub _ _ _ h hb))
   ·exact g2.one u y u' y' b h h' hb bz
theorem yM.opened (h:yM T T'):∀ {cs:LV} {x:β} {f:LN},T.rep hp cs x f→f.Nodup→∃ A,Good A f∧(T' A).rep hp cs x f:=by
 induction h with
 | @row e E=>
  intro cs x f hr _
  obtain ⟨base,cap,rfl,fi⟩:=id hr
  refine ⟨fun u y=>u = .slice base x.length cap∧y=x,⟨?_,?_⟩,⟨_,rfl,rfl,rfl⟩,hr⟩
  ·rintro u y b ⟨rfl,rfl⟩ hb
   rcases fi with ⟨rfl,_⟩ | ⟨b0,cur,f',rfl,_,rfl,_⟩
   ·cases hb
   ·cases hb; exact List.mem_cons_self
  ·rintro u y u' y' b ⟨_,rfl⟩ ⟨_,rfl⟩ _ _; rfl
 | @step β e T T' ho ih=>
  intro cs x f hr hn
  obtain ⟨base,cap,rfl,fi⟩:=hr
  rcases fi with ⟨rfl,_,rfl,rfl⟩ | ⟨b,cur,f',rfl,hg,rfl,h3,h4,h5,h6⟩
  ·exact ⟨fun _ _=>False,⟨fun _ _ _ h=>h.elim,fun _ _ _ _ _ h=>h.elim⟩,none,cap,rfl,.inl ⟨rfl,rfl⟩⟩
  ·obtain ⟨A,g1,g2⟩:=yM.UZ (e:=e) ih (fun hA=>ho.mono hA) h6 (List.nodup_cons.1 hn).2
   refine ⟨A,⟨fun u y b h hb=>List.mem_cons_of_mem _ (g1.sub u y b h hb),g1.one⟩,_,cap,rfl,.inr ⟨b,0,cur,e,(0,0),f',rfl,hg,rfl,h3,?_⟩⟩
   rw [List.drop_zero,ho.size]
   exact g2
end
section
variable {α:Type} {e e':TI} {E:ag α} {A:Value→List α→Prop} {ft f:LN} {hp:Array Obj}
theorem IJ (nf:NF E) (hA:Good A ft):∀ {ys:List (List α)} {us:LV} {g:LN},db (rX A (aI e' E)) hp us ys g→ys.Nodup→
  db (aI e' E) hp us ys g∧g.Nodup∧∀ b∈g,b∈ft∧∃ u y,A u y∧yS u=some b∧y∈ys:=by
 intro ys
 induction ys with
 | nil=>rintro us g ⟨rfl,rfl⟩ _; exact ⟨⟨rfl,rfl⟩,List.nodup_nil,fun b hb=>absurd hb List.not_mem_nil⟩
 | cons y ys ih=>
  rintro us g ⟨c,jr,g1,g2,rfl,rfl,⟨⟨u,rfl,hu⟩,hr⟩,h2⟩ hn
  obtain ⟨n1,n2⟩:=List.nodup_cons.1 hn
  obtain ⟨a1,a2,a3⟩:=ih h2 n2
  refine ⟨⟨[u],jr,g1,g2,rfl,rfl,hr,a1⟩,?_,?_⟩
  ·obtain ⟨base,cap,hv,fi⟩:=hr
   obtain rfl:u = .slice base y.length cap:=by simpa using hv
   rcases fi with ⟨_,_,_,rfl⟩ | ⟨b,cur,f',rfl,_,rfl,_,_,_,h6⟩
   ·exact a2
   ·rw [nf.l h6]
    refine List.nodup_cons.2 ⟨fun hb=>?_,a2⟩
    obtain ⟨_,u',y',h7,h8,h9⟩:=a3 b hb
    rw [hA.one _ _ _ _ b hu h7 rfl h8] at n1
    exact n1 h9
  ·intro b hb
   rcases List.mem_append.1 hb with hb | hb
   ·obtain ⟨base,cap,hv,fi⟩:=hr
    obtain rfl:u = .slice base y.length cap:=by simpa using hv
    rcases fi with ⟨_,_,_,rfl⟩ | ⟨b0,cur,f',rfl,_,rfl,_,_,_,h6⟩
    ·cases hb
    ·rw [nf.l h6,List.mem_singleton] at hb
     subst hb
     exact ⟨hA.sub _ _ _ hu rfl,_,y,hu,rfl,by simp⟩
   ·obtain ⟨b1,u',y',b2,b3,b4⟩:=a3 b hb
    exact ⟨b1,u',y',b2,b3,by simp [b4]⟩
theorem Kj {Z:Nat→Prop} {w:World} {v:Value} {ys:List (List α)} (nf:NF E) (hA:Good A ft) (ho:ot Z w f (.om e (rX A (aI e' E)) v ys)) (hn:ys.Nodup) (hf:f.Nodup) (hz:∀ b∈f,¬ Z b) :
  ∃ g,(∀ b∈g,b∈ft)∧(aI e (aI e' E)).rep w.heap [v] ys (f++g)∧(f++g).Nodup:=by
 obtain ⟨us,g,h1,h2,h3,_⟩:=ho
 obtain ⟨a1,a2,a3⟩:=IJ nf hA h2 hn
 have hl:us.length=ys.length:=by have:=jk a1; rw [this]; exact Nat.mul_one _
 refine ⟨g,fun b hb=>(a3 b hb).1,?_,List.nodup_append.2 ⟨hf,a2,fun b hb c hc=>fun e=>hz b hb (h3 b (e ▸ hc))⟩⟩
 obtain ⟨base,cap,hv,hr⟩:=h1
 obtain rfl:v = .slice base us.length cap:=by simpa using hv
 rw [hl]
 rcases hr with ⟨rfl,rfl,rfl,rfl⟩ | ⟨b,cur,f',rfl,hg,rfl,c1,c2,c3,c4⟩
 ·cases ys with
  | cons y ys=>simp at hl
  | nil=>obtain ⟨_,rfl⟩:=a1; exact ⟨none,0,rfl,.inl ⟨rfl,rfl,rfl,rfl⟩⟩
 ·obtain ⟨c5,rfl⟩:=xJ c4
  refine ⟨_,cap,rfl,.inr ⟨b,cur,g,rfl,hg,rfl,by rw [← hl]; exact c1,c2,c3,?_⟩⟩
  have e1:(aI e' E).size=qw.size:=rfl
  rw [e1,← hl,c5]
  exact a1
end
section
variable {P:Program} {R:Type} {cx:Cx R}
theorem aj {S S1 α β:Type} [DecidableEq (List α)] (k t0:Nat) (φ:S1→Value→Fr) (Ht:S1→List (List α)) (v0:Value) (f2:Fr) {e e':TI} {E:ag α} {T:ag β} {T':(Value→List α→Prop)→ag β} {vs:Value} {x:β} {gv:List KI} {kb:Kb R S} {c:Code} {s0:S1} {body:S1→Option (Out S1 R)} {f:S1→Option (Out S R)} {Γ Γ1 Γ2:QE} {fr:Fr}
  (ho:yM T T') (nf:NF E) (ha:qc fr (φ s0 v0)) (hf:qc fr f2) (hz:Ht s0=[]) (hv:look fr t0=some vs) (h1:dj Γ (.own T vs x) Γ1) (h2:∀ A:Value→List α→Prop,dj Γ1 (.om e (rX A (aI e' E)) v0 []) Γ2)
  (hb:∀ (A:Value→List α→Prop) s v,D P cx (.p (φ s v) [.om e (rX A (aI e' E)) v (Ht s)] f2 [.rd false (T' A) vs x] fun fr Γ=>.c ⟨[],.loop Value k (fun s v=>[.om e (rX A (aI e' E)) v (Ht s)]) φ [.rd false (T' A) vs x] f2⟩ c Γ fr (body s)))
  (hk:∀ s v,D P cx (.p (φ s v) [.own (aI e (aI e' E)) v (Ht s)] f2 [] fun fr Γ=>.mn ⟨gv,kb⟩ Γ fr (f s))) :
  Bx (n8 P cx (.bk true k ⟨gv,kb⟩ (.loop c) Γ fr (ah (ab k (aj body s0)) fun s=>RJ (Ht s)>>=fun _=>f s))):=by
 have _:=hv
 rw [nw]
 intro B o Kk r w r6 pY
 obtain ⟨Z,F,hS,hG⟩:=pY
 obtain ⟨ft,F1,qz,hT,fy⟩:=h1.sound hS
 have Hu:=hG.perm qz
 obtain ⟨n1,n2,n3⟩:=List.nodup_append.1 Hu.nd
 obtain ⟨A,hA,hR⟩:=ho.opened (hp:=w.heap) hT n1
 obtain ⟨fo,F2,o5,hO,gy⟩:=(h2 A).sound fy
 have RL:∀ b∈ft,b < w.heap.size:=ag.lt _ hT
 have RM:∀ b∈ft,¬ Z b:=fun b hb=>Hu.apart b (List.mem_append_left _ hb)
 have RN:∀ b∈fo,b∈F1:=fun b hb=>o5.mem_iff.1 (List.mem_append_left _ hb)
 have qB:fo.Nodup:=(List.nodup_append.1 (o5.nodup_iff.2 n2)).1
 refine Im (T:=TT P cx B) (LI B (fun s v=>[.om e (rX A (aI e' E)) v (Ht s)]) φ [.rd false (T' A) vs x] f2) Kk
  ⟨v0,r4 (ha.all r6) (hf.sound r6),fun b=>Z b∨b∈ft,fo,⟨fo,[],(List.append_nil _).symm,by rw [hz]; exact hO.mono fun _=>.inl,⟨ft,hR,fun b hb=>.inr hb⟩,rfl⟩,qB,fun b hb=>?_,fun b hb=>hb.elim (hG.na b) (RL b),fun b hb=>Hu.low b (List.mem_append_right _ (RN b hb)),fun b h=>.inl (hG.sZ b h),fun b hb=>hb.elim (hG.sA b) fun hb=>.inr (Hu.low b (List.mem_append_left _ hb)),hG.iz⟩ ?_ ?_ ?_
 ·rintro (h | h)
  ·exact Hu.apart b (List.mem_append_right _ (RN b hb)) h
  ·exact n3 b h b (RN b hb) rfl
 ·intro x r w he hx
  subst he
  exact wb hx
 ·rintro s r w ⟨v,h1,h2⟩ o ho
  exact (hb A s v).sound B o ho r w h1 h2
 ·rintro s r w' ⟨v,a1,Z2,Fl,EC,kz⟩ hm
  obtain ⟨_,hn,hm⟩:=bind_some hm
  replace hn:=Mp hn
  obtain ⟨f',F',rfl,tQ,U0⟩:=EC
  have xe:F'=[]:=U0.2
  subst xe
  rw [List.append_nil] at kz
  obtain ⟨g,s1,s2,s3⟩:=Kj nf hA tQ hn kz.nd kz.apart
  refine (hk s v).sound B o hm r w' a1 ⟨B.Z,f'++g,⟨f'++g,[],(List.append_nil _).symm,s2,rfl⟩,s3,fun b hb hz=>?_,fun b hz=>kz.na b (kz.sZ b hz),fun b hb=>?_,fun _ h=>h,fun _ h=>.inl h,kz.iz⟩
  ·rcases List.mem_append.1 hb with hb | hb
   ·exact kz.apart b hb (kz.sZ b hz)
   ·exact RM b (s1 b hb) (hG.sZ b hz)
  ·rcases List.mem_append.1 hb with hb | hb
   ·exact kz.low b hb
   ·exact Hu.low b (List.mem_append_left _ (s1 b hb))
end
end Go.Dk
namespace Go.Dk
open Go Go.Li
section
variable {R:Type} {P:Program} {cx:Cx R} {B:Bs} {M:Type} {all l:LO} {rk:RK R M} {fr:Fr} {w:World} {Z:Nat→Prop} {F cur:LN} {Γ Γ1 Γ2 Γ3:QE}
theorem D.of {J:Jd R} (h:n8 P cx J):D P cx J:=.inj (by rw [nw]; exact h)
theorem Oy {Δ : List ao} (h : FO Δ) : ∀ {Fd : List Nat}, HL Z w Δ Fd → ∀ e ∈ Δ, fact Z w [] e := by
  induction h with
  | nil => intro Fd _ e he; cases he
  | rd _ ih =>
    intro Fd hl e he
    cases hl with
    | own h _ => exact h.elim
    | fact h k => rcases List.mem_cons.1 he with rfl | he
                  · exact h
                  · exact ih k e he
  | aw _ ih =>
    intro Fd hl e he
    cases hl with
    | own h _ => exact h.elim
    | fact h k => rcases List.mem_cons.1 he with rfl | he
                  · exact h
                  · exact ih k e he
theorem lgS {α:Type} (S:ag α) {d:Nat} {t e n bt ty:TI} {m:Option M} [ht:yU P t e n bt]
  (h:∀ v,D P cx (.o false all l rk (.own (aI e (iw n)) v [] :: .rd false (tI S) (.bool true) ([],[]) :: Γ) ((d,v) :: fr) m)):D P cx (.e false (.buildSlice t 0 #[]) (some d) ty all l rk Γ fr m):=by
 refine D.of ?_
 intro B o ho r w ha hs pos af g
 obtain ⟨h1,i,z,h2,_⟩:=ht.h
 obtain ⟨v,w',f,hr,hC,hO⟩:=xR (E:=iw n) (r:=r) (w:=w) (d:=some d) (ty:=ty) (pos:=pos) (af:=af) (g:=none) h1 h2
 refine dy (WL.val rfl hr ((h v).sound B o ho _ w' (aq ha) ?_))
 obtain ⟨Z,F,hS,hg⟩:=hs
 have hf:fact Z w [] (.rd false (tI S) (.bool true) ([],[])):=⟨[],⟨rfl,rfl,fun _ h=>absurd h List.not_mem_nil⟩,fun _ h=>absurd h List.not_mem_nil⟩
 exact St.put (f:=[]) (SA.fact hS hf) hg hC hO.1 hO.2.1 fun b hb=>.inr ((hO.2.2 b hb).resolve_left List.not_mem_nil)
theorem lnS {α:Type} {S:ag α} {q:Bool} {d n e:Nat} {x:OO} {v:Value} {us:List (List Value)} {xs:List α} {t ty bt:TI} {m:Option M} [ht:yU P t e n bt] (hx:bd fr x=some v) (h1:dj Γ (.own (aI e (iw n)) v us) Γ1) (hg:In (.rd false (tI S) (.bool true) (us,xs)) Γ)
  (h:D P cx (.o q all l rk Γ ((d,.int .i64 (xs.length:Int)) :: fr) m)):D P cx (.e q (.call ⟨.builtin .len,#[x],#[t]⟩) (some d) ty all l rk Γ fr m):=by
 refine D.of ?_
 intro B o ho r w ha hs pos af g
 obtain ⟨q1,_⟩:=ht.h
 obtain ⟨Z,F,hS,hG⟩:=@_root_.id _ hs
 obtain ⟨f,F1,_,hO,_⟩:=h1.sound hS
 obtain ⟨k,hk,_⟩:=hg.rd hS []
 obtain ⟨base,cap,hv,_⟩:=hO
 obtain rfl:v = .slice base us.length cap:=by simpa using hv
 have hl:us.length=xs.length:=yQ hk.2.1
 exact cj (v:=.int .i64 (xs.length:Int)) (fun w' _=>by rw [← hl]; exact vc q1 (aS ha hx)) (h.sound B o ho _ w (aq ha) hs)
theorem ixS {α V:Type} {S:ag α} {cl:α→V→List Value} {en:α→V→List ao} {q:Bool} {d n e:Nat} {x y:OO} {v:Value} {us:List (List Value)} {xs:List α} {k:IntKind} {j:Int} {t ty bt:TI} {f:α→Option M} [ht:yU P t e n bt] (hx:bd fr x=some v) (hy:bd fr y=some (.int k j))
  (h1:dj Γ (.own (aI e (iw n)) v us) Γ1) (hg:In (.rd false (tI S) (.bool true) (us,xs)) Γ) (hs:Dm S V cl en)
  (h:∀ z u,D P cx (.p [] (.rd false (yJ us j) (.bool true) (cl z u) :: en z u) fr Γ fun fr Γ=>.o q all l rk Γ ((d,.pointer (some (ch v n j))) :: fr) (f z))):D P cx (.e q (.indexAddr t x y) (some d) ty all l rk Γ fr (idx xs j>>=f)):=by
 refine D.of ?_
 intro B o ho r w ha di pos af g
 replace hs:SO S V cl en:=by cases hs; assumption
 obtain ⟨z,hz,ho⟩:=bind_some ho
 replace hz:=pt hz
 obtain ⟨q1,i,_,q2,_,_,q3,_⟩:=ht.h
 obtain ⟨Z,F,hS,hG⟩:=di
 obtain ⟨f0,F1,_,hO,_⟩:=h1.sound hS
 obtain ⟨g0,hk,sC⟩:=hg.rd hS []
 obtain ⟨c,g1,e1,e2,e3⟩:=BF j.toNat hk.2.1 hz.2
 obtain ⟨u,rfl,pX⟩:=hs.op e2
 have hlen:us.length=xs.length:=yQ hk.2.1
 have bc:j.toNat < xs.length:=(List.getElem?_eq_some_iff.1 hz.2).1
 have hv:∃ a c,v = .slice (some a) us.length c:=by
  obtain ⟨base,cap,hv,hr⟩:=hO
  obtain rfl:v = .slice base us.length cap:=by simpa using hv
  rcases hr with ⟨_,_,rfl,_⟩ | ⟨b,cur,f',rfl,_⟩
  ·rw [← hlen] at bc; simp at bc
  ·exact ⟨_,_,rfl⟩
 obtain ⟨a,c',rfl⟩:=hv
 have dp:HL Z w (.rd false (yJ us j) (.bool true) (cl z u) :: en z u) []:=.fact ⟨[],⟨rfl,⟨hz.1,e1⟩,rfl⟩,fun _ h=>absurd h List.not_mem_nil⟩ (tc (pX Z fun b hb=>sC b (e3 b hb)))
 obtain ⟨F',hp,gy⟩:=dp.build hS
 refine cj (v:=.pointer (some (ch (.slice (some a) us.length c') n j))) (fun w' hC=>?_) ((h z u).sound B o ho _ w (aq ha) ⟨Z,F',gy,hG.perm (by simpa using hp)⟩)
 rw [kn q1 q2 (aS ha hx) (aS ha hy) hz.1 (by omega),q3]
 rfl
theorem Oz {q:Bool} {d n off e:Nat} {x:OO} {v u:Value} {us:List (List Value)} {j:Int} {cs:LV} {ty:TI} {m:Option M} (h1:dj Γ (.own (aI e (iw n)) v us) Γ1) (hp:In (.rd false (yJ us j) (.bool true) cs) Γ) (hc:cs[off]? = some u)
  (k:D P cx (.o q all l rk Γ ((d,u) :: fr) m)):D P cx (.la ((ch v n j).add off) none q ty x d all l rk Γ fr m):=by
 refine D.of ?_
 intro ht hx B o ho r w ha hs t pos af g
 obtain ⟨Z,F,hS,_⟩:=@_root_.id _ hs
 obtain ⟨f,F1,_,hO,_⟩:=h1.sound hS
 obtain ⟨_,⟨_,⟨hj,hu⟩,_⟩,_⟩:=hp.rd hS []
 exact cj (Ld ht ((wo hO hj hu).2.2 off u hc) (aS ha hx)) (k.sound B o ho _ w (aq ha) hs)
theorem Mq {q:Bool} {d n e:Nat} {x:OO} {v u:Value} {us:List (List Value)} {j:Int} {cs:LV} {ty:TI} {m:Option M} (h1:dj Γ (.own (aI e (iw n)) v us) Γ1) (hp:In (.rd false (yJ us j) (.bool true) cs) Γ) (hc:cs[0]? = some u)
  (k:D P cx (.o q all l rk Γ ((d,u) :: fr) m)):D P cx (.la (ch v n j) none q ty x d all l rk Γ fr m):=by
 have e:(ch v n j).add 0=ch v n j:=rfl
 rw [← e]
 exact Oz h1 hp hc k
theorem RP {q:Bool} {d n e:Nat} {x:OO} {v:Value} {us:List (List Value)} {j:Int} {cs:LV} {ty:TI} {m:Option M} (h1:dj Γ (.own (aI e (iw n)) v us) Γ1) (hp:In (.rd false (yJ us j) (.bool true) cs) Γ)
  (k:D P cx (.o q all l rk Γ ((d,.agg cs.toArray) :: fr) m)):D P cx (.la (ch v n j) (some n) q ty x d all l rk Γ fr m):=by
 refine D.of ?_
 intro ht hx B o ho r w ha hs t pos af g
 obtain ⟨Z,F,hS,_⟩:=@_root_.id _ hs
 obtain ⟨f,F1,_,hO,_⟩:=h1.sound hS
 obtain ⟨_,⟨_,⟨hj,hu⟩,_⟩,_⟩:=hp.rd hS []
 obtain ⟨e1,_,e3⟩:=wo hO hj hu
 exact cj (Lg ht (fun i u hi=>e3 i u hi) (aS ha hx) e1) (k.sound B o ho _ w (aq ha) hs)
theorem apS {α V:Type} {S:ag α} {cl:α→V→List Value} {en:α→V→List ao} (y:α) {u:V} {d b n e bt:Nat} {s x:OO} {sv:Value} {us:List (List Value)} {xs:List α} {cs:LV} {t et ty:TI} {f:Unit→Option M} [ht:yU P t e n bt]
  (hs:bd fr s=some sv) (hx:bd fr x=some (.slice (some ⟨b,0,none⟩) 1 1)) (h0:dj Γ (.row b cs et) Γ1) (h1:dj Γ1 (.own (aI e (iw n)) sv us) Γ2) (hg:In (.rd false (tI S) (.bool true) (us,xs)) Γ2) (pM:Dm S V cl en) (_hv:rZ V u) (hc:cs=cl y u) (ho:s8 Γ cs) (hn:cs.length=n) (RQ:FO (en y u)) (hf:EF Γ2 (en y u) Γ3)
  (h:∀ v,D P cx (.o false all l rk (.own (aI e (iw n)) v (us++[cs]) :: .rd false (tI S) (.bool true) (us++[cs],xs++[y]) :: Γ3) ((d,v) :: fr) (f ()))):D P cx (.e false (.call ⟨.builtin .append,#[s,x],#[t,t]⟩) (some d) ty all l rk Γ fr (fits bt (xs.length+1)>>=f)):=by
 refine D.of ?_
 intro B o br r w ha di pos af g
 have C1:SO S V cl en:=by cases pM; assumption
 obtain ⟨_,hu,br⟩:=bind_some br
 obtain ⟨b1,b2⟩:=o7 hu
 obtain ⟨q1,i,z,q2,q3,q4,q5,q6,_⟩:=ht.h
 obtain ⟨Z,F,hS,hG⟩:=di
 have Ea:=ho.one hS
 obtain ⟨n0,F0,rq,⟨rfl,bb⟩,uq⟩:=h0.sound hS
 obtain ⟨k,F1,hp,hO,fy⟩:=h1.sound uq
 obtain ⟨Fd,F2,Zn,RR,gy,o5⟩:=hf.sound fy
 obtain ⟨g0,hk,sC⟩:=hg.rd fy []
 have hlen:us.length=xs.length:=yQ hk.2.1
 have o6:((k++F1)++[b]).Perm F:=(List.perm_append_comm.trans (hp.append_left [b])).trans rq
 have kz:Gd B Z (k++F1) w:=Gd.left (F':=[b]) (hG.perm o6)
 have wj:((k++F2)++(Fd++Zn)).Perm (k++F1):=by
  rw [List.append_assoc]
  refine List.Perm.append_left k (.trans ?_ o5)
  rw [← List.append_assoc]
  exact (List.perm_append_comm (l₁:=F2) (l₂:=Fd)).append_right Zn
 have kh:Gd B Z ((k++F2)++(Fd++Zn)) w:=kz.perm wj
 have bc:∀ b∈Fd++Zn,b < w.heap.size:=fun b hb=>by
  have h3:b∈k++F1:=wj.mem_iff.1 (List.mem_append_right _ hb)
  rcases List.mem_append.1 h3 with h3 | h3
  ·exact ag.lt _ hO b h3
  ·exact fy.lt b h3
 have tP:Gd B (pV Z (Fd++Zn)) (k++F2) w:=kh.freeze bc
 have B2:∀ b,pV Z Zn b→pV Z (Fd++Zn) b:=fun b hb=>hb.imp id fun h=>List.mem_append_right _ h
 obtain ⟨g1,wa,B3⟩:=C1.cl (x:=y) (v:=u) (Z:=pV Z (Fd++Zn)) (w:=w) (Oy RQ (RR.mono B2))
 have hdk:ql [] k:=fun _ h=>absurd h List.not_mem_nil
 have hE:db (iw n) w.heap cs [cs] []:=⟨cs,[],[],[],by simp,by simp,⟨rfl,hn,Ea,rfl⟩,rfl,rfl⟩
 obtain ⟨v,w',f',mg,hC,df,cw,cq⟩:=o9 (E:=iw n) (d:=some d) (ty:=ty) (pos:=pos) (af:=af) (g:=none) (k:=[]) (ys:=[cs]) (news:=cs) q1 q2 q3 (by rw [q5]; rfl) (by rw [q4]; rfl) (aS ha hs) hO (List.nodup_append.1 kz.nd).1 (aS ha hx) (fun i u hi=>bb.at i u hi) hE hdk (by simp) (by rw [q6,hlen]; exact b1) (by rw [hlen]; exact b2)
 refine dy (WL.val rfl mg ((h v).sound B o br _ w' (aq ha) ?_))
 have RS:fact (pV Z (Fd++Zn)) w [] (.rd false (tI S) (.bool true) (us++[cs],xs++[y])):=by
  rw [hc]
  refine ⟨g0++g1,⟨rfl,Qy wa hk.2.1,fun b hb=>?_⟩,fun b hb=>?_⟩
  ·rcases List.mem_append.1 hb with hb | hb
   ·exact hk.2.2 b hb
   ·exact S.lt wa b hb
  ·rcases List.mem_append.1 hb with hb | hb
   ·exact .inl (sC b hb)
   ·exact B3 b hb
 exact St.put (SA.fact (gy.mono B2 fun _ h=>h) RS) tP hC df (cq List.nodup_nil) fun b hb=>(cw b hb).imp id fun h=>h.resolve_left List.not_mem_nil
theorem PF {n:Nat} {h:Array Obj}:∀ {us:List (List Value)} {cs:LV} {f:LN},db (iw n) h cs us f→∀ c∈us,c.length=n∧∀ v∈c,v.oneCell'=true:=by
 intro us
 induction us with
 | nil=>intro cs f _ c hc; cases hc
 | cons a us ih=>
  rintro cs f ⟨c',jr,f1,f2,rfl,rfl,⟨rfl,h1,h2,rfl⟩,h3⟩ c hc
  rcases List.mem_cons.1 hc with rfl | hc
  ·exact ⟨h1,h2⟩
  ·exact ih h3 c hc
theorem PG {n:Nat} {h:Array Obj}:∀ {us:List (List Value)},(∀ c∈us,c.length=n∧∀ v∈c,v.oneCell'=true)→db (iw n) h us.flatten us []:=by
 intro us
 induction us with
 | nil=>intro _; exact ⟨rfl,rfl⟩
 | cons a us ih=>
  intro hc
  have h1:=hc a (by simp)
  exact ⟨a,us.flatten,[],[],by simp,rfl,⟨rfl,h1.1,h1.2,rfl⟩,ih fun c hm=>hc c (by simp [hm])⟩
theorem GJ {n:Nat} {c:LV}:∀ {us:List (List Value)} {j:Nat},(∀ x∈us,x.length=n)→j < us.length→(us.set j c).flatten=us.flatten.take (j * n)++c++us.flatten.drop (j * n+n)∧j * n+n≤us.flatten.length:=by
 intro us
 induction us with
 | nil=>intro j _ hj; simp at hj
 | cons a us ih=>
  intro j hl hj
  have ha:a.length=n:=hl a (by simp)
  cases j with
  | zero=>refine ⟨?_,by simp [ha]⟩; simp [← ha]
  | succ j=>
   obtain ⟨h1,h2⟩:=ih (j:=j) (fun x hx=>hl x (by simp [hx])) (by simpa using hj)
   have e:(j+1) * n=n+j * n:=by rw [Nat.add_mul,Nat.one_mul,Nat.add_comm]
   refine ⟨?_,by rw [e,List.flatten_cons,List.length_append,ha]; omega⟩
   rw [List.set_cons_succ,List.flatten_cons,List.flatten_cons,h1,e,List.take_append,List.drop_append,ha]
   have e1:List.take (n+j * n) a=a:=List.take_of_length_le (by omega)
   have e2:List.drop (n+j * n+n) a=[]:=List.drop_eq_nil_of_le (by omega)
   rw [e1,e2,show n+j * n - n=j * n by omega,show n+j * n+n - n=j * n+n by omega]
   simp
theorem stS {α V:Type} {S:ag α} {cl:α→V→List Value} {en:α→V→List ao} (y:α) {u:V} {n e:Nat} {x0 y0:OO} {v:Value} {j:Int} {us:List (List Value)} {xs:List α} {cs c0:LV} {t ty:TI} {m:Option M}
  (h1:dj Γ (.own (aI e (iw n)) v us) Γ1) (hp:In (.rd false (yJ us j) (.bool true) c0) Γ) (hg:In (.rd false (tI S) (.bool true) (us,xs)) Γ1) (pM:Dm S V cl en) (_hv:rZ V u) (hc:cs=cl y u) (ho:s8 Γ cs) (hn:cs.length=n) (RQ:FO (en y u)) (hf:EF Γ1 (en y u) Γ2)
  (h:D P cx (.o false all l rk (.own (aI e (iw n)) v (us.set j.toNat cs) :: .rd false (tI S) (.bool true) (us.set j.toNat cs,xs.set j.toNat y) :: Γ2) fr m)):D P cx (.st (ch v n j) (.agg cs.toArray) n t x0 y0 ty all l rk Γ fr m):=by
 refine D.of ?_
 intro hT hx hy B o br r w ha di pos af g
 have C1:SO S V cl en:=by cases pM; assumption
 obtain ⟨i,q1,q2⟩:=hT
 obtain ⟨Z,F,hS,hG⟩:=di
 have Ea:=ho.one hS
 obtain ⟨_,⟨_,⟨hj,hu⟩,_⟩,_⟩:=hp.rd hS []
 obtain ⟨k,F1,qz,hO,fy⟩:=h1.sound hS
 obtain ⟨Fd,F2,Zn,RR,gy,o5⟩:=hf.sound fy
 obtain ⟨g0,hk,sC⟩:=hg.rd fy []
 have kz:Gd B Z (k++F1) w:=hG.perm qz
 have wj:((k++F2)++(Fd++Zn)).Perm (k++F1):=by
  rw [List.append_assoc]
  refine List.Perm.append_left k (.trans ?_ o5)
  rw [← List.append_assoc]
  exact (List.perm_append_comm (l₁:=F2) (l₂:=Fd)).append_right Zn
 have kh:Gd B Z ((k++F2)++(Fd++Zn)) w:=kz.perm wj
 have bc:∀ b∈Fd++Zn,b < w.heap.size:=fun b hb=>by
  have h3:b∈k++F1:=wj.mem_iff.1 (List.mem_append_right _ hb)
  rcases List.mem_append.1 h3 with h3 | h3
  ·exact ag.lt _ hO b h3
  ·exact fy.lt b h3
 have tP:Gd B (pV Z (Fd++Zn)) (k++F2) w:=kh.freeze bc
 have B2:∀ b,pV Z Zn b→pV Z (Fd++Zn) b:=fun b hb=>hb.imp id fun h=>List.mem_append_right _ h
 obtain ⟨g1,wa,B3⟩:=C1.cl (x:=y) (v:=u) (Z:=pV Z (Fd++Zn)) (w:=w) (Oy RQ (RR.mono B2))
 obtain ⟨g2,Ob,V7⟩:=JH (c:=cs) (by rw [hc]; exact wa) j.toNat hk.2.1
 have RS:fact (pV Z (Fd++Zn)) w [] (.rd false (tI S) (.bool true) (us.set j.toNat cs,xs.set j.toNat y)):=by
  refine ⟨g2,⟨rfl,Ob,fun b hb=>?_⟩,fun b hb=>?_⟩
  ·exact (V7 b hb).elim (hk.2.2 b) (S.lt wa b)
  ·exact (V7 b hb).elim (fun h=>.inl (sC b h)) (B3 b)
 have Dy:j.toNat < us.length:=(List.getElem?_eq_some_iff.1 hu).1
 obtain ⟨base,cap,kj,hr⟩:=hO
 obtain rfl:v = .slice base us.length cap:=by simpa using kj
 rcases hr with ⟨_,_,rfl,_⟩ | ⟨b,cur,f',rfl,h2,rfl,h4,h5,h6,h3⟩
 ·simp at Dy
 ·obtain ⟨Hv,sG⟩:=Eh h3
  subst sG
  have dp:=PF h3
  obtain ⟨e1,e2⟩:=GJ (c:=cs) (fun x hx=>(dp x hx).1) Dy
  have bb:Row w b cur.toList e:=by unfold Row; simpa using h2
  have RU:cur.toList=us.flatten++cur.toList.drop (us.length * n):=by
   rw [← Hv]; exact (List.take_append_drop _ _).symm
  have u6:ch (.slice (some ⟨b,0,none⟩) us.length cap) n j = ⟨b,j.toNat * n,none⟩:=by
   simp only [ch,gq,Nat.zero_add]
  rw [u6] at hx
  have hle:j.toNat * n+cs.length≤cur.toList.length:=by
   rw [hn,RU,List.length_append]; omega
  have mg:=tA (P:=P) (d:=none) (ty:=ty) (pos:=pos) (af:=af) (gg:=none) q1 (by rw [hn,q2]) bb hle (aS ha hx) (y:=y0) (by rw [aS ha hy]; rfl) Ea
  refine dy (WL.skip rfl mg (h.sound B o br _ _ ha ?_))
  have xW:cur.toList.take (j.toNat * n)++cs++cur.toList.drop (j.toNat * n+cs.length)=(us.set j.toNat cs).flatten++cur.toList.drop (us.length * n):=by
   rw [hn,e1]
   conv=>lhs; rw [RU]
   rw [List.take_append_of_le_length (by omega),List.drop_append_of_le_length (by omega)]
   simp
  have sx:=setRow_heap w b cur (cur.toList.take (j.toNat * n)++cs++cur.toList.drop (j.toNat * n+cs.length)).toArray e _ h2
  refine St.put (f:=[b]) (f':=[b]) (SA.fact (gy.mono B2 fun _ h=>h) RS) tP ⟨rfl,rfl,rfl,Nat.le_refl _,by simp,fun j' _ fu=>setRow_other w b j' _ fun h=>fu (by simp [h])⟩ ?_ (by simp) (fun b hb=>.inl hb)
  refine ⟨_,cap,by rw [List.length_set],.inr ⟨b,_,[],rfl,sx,rfl,by rw [List.length_set]; exact h4,h5,?_,?_⟩⟩
  ·rw [← h6]
   simp only [List.size_toArray,xW]
   have e3:(us.set j.toNat cs).flatten.length=us.flatten.length:=by
    rw [e1]; simp only [List.length_append,List.length_take,List.length_drop,hn]; omega
   rw [List.length_append,e3,← List.length_append,← RU,Array.length_toList]
  ·rw [List.toList_toArray,xW,List.length_set]
   have ag5:(us.set j.toNat cs).flatten.length=us.length * n:=by
    have e3:(us.set j.toNat cs).flatten.length=us.flatten.length:=by
     rw [e1]; simp only [List.length_append,List.length_take,List.length_drop,hn]; omega
    rw [e3]
    have:=jk h3
    rw [Hv] at this
    exact this
   show db (iw n) _ (List.take (us.length * n) _) _ _
   rw [List.take_append_of_le_length (by omega),List.take_of_length_le (by omega)]
   refine PG fun c hm=>?_
   rcases List.mem_or_eq_of_mem_set hm with hm | rfl
   ·exact dp c hm
   ·exact ⟨hn,Ea⟩
theorem xX {α:Type} {E:ag α} {d n:Nat} {t e ty:TI} {ps:List (Nat×Operand)} {us:LV} {xs:List α} {m:Option M} [hz:Hc P t e] (hl:s9 Γ fr 0 ps us) (hn:us.length=n) (hb:(Nat.ble 1 n && Nat.ble n 16777216)=true) (hx:En Γ E us xs Γ1) (hE:E.size=1)
  (h:∀ v,D P cx (.o false all l rk (.own (aI e E) v xs :: Γ1) ((d,v) :: fr) m)):D P cx (.e false (.buildSlice t n ps.toArray) (some d) ty all l rk Γ fr m):=by
 refine D.of ?_
 intro B o ho r w ha hs pos af g
 obtain ⟨Z,F,hS,hg⟩:=hs
 refine dy (WL.val rfl (hl.op ha hS ⟨hz.h⟩ hn hb) ((h _).sound B o ho _ _ (aq ha) ?_))
 obtain ⟨e1,f,F2,o5,hr,gy⟩:=hx.sound hS
 have Et:n≤16777216:=by
  rw [Bool.and_eq_true] at hb
  exact Nat.le_of_ble_eq_true hb.2
 have hC:ak [] w (w.alloc (.cells us.toArray e)):=ak.alloc _ _ _
 have ju:Gd B Z (f++F2) w:=hg.perm o5
 have bc:∀ b∈f,b < w.heap.size:=lj hr
 have xW:=heap_alloc_new w (.cells us.toArray e)
 have fi:db E (w.alloc (.cells us.toArray e)).heap us xs f:=jh hr fun b hb=>hC.block b (bc b hb) (fun h=>absurd h List.not_mem_nil)
 refine St.put (f:=f) (f':=w.heap.size :: f) gy ju (ak.mono hC fun _ h=>absurd h List.not_mem_nil) ⟨_,n,by rw [← hn,e1],.inr ⟨w.heap.size,us.toArray,f,rfl,xW,rfl,by rw [← hn,e1]; exact Nat.le_refl _,Nat.le_trans Et (by decide),by rw [hE,Nat.mul_one]; simp [hn],?_⟩⟩ ?_ ?_
 ·rw [hE,Nat.mul_one,List.toList_toArray,← e1,List.take_length]
  exact fi
 ·exact List.nodup_cons.2 ⟨fun hm=>Nat.lt_irrefl _ (bc _ hm),(List.nodup_append.1 ju.nd).1⟩
 ·intro b hb
  rcases List.mem_cons.1 hb with rfl | hb
  ·exact .inr (Nat.le_refl _)
  ·exact .inl hb
theorem Ds {α:Type} {d b:Nat} {s x:OO} {v u yv:Value} {j:Int} {y:α} {z:List α} {xs:List (List α)} {t e e' et ty:TI} {E E':ag α} {z0:α} {bt:Nat} {o1 o2:Bool} {Γx:QE} {f:Unit→Option M} [hT:qY P t α e E z0 bt] (hs:bd fr s=some u) (hx:bd fr x=some (.slice (some ⟨b,0,none⟩) 1 1)) (hl:Loc Γ u (.row v j)) (h0:dj Γ (.row b [yv] et) Γ1) (hz:n5 Γ u o1 o2 E' z rn Γx) (h1:dj Γ1 (.own (aI e' (aI e E)) v xs) Γ2) (hr:RT (aI e E) (bE E')) (hy:AF Γ2 E yv y Γ3)
  (h:∀ v',D P cx (.o false all l rk (.own (aI e E) v' (z++[y]) :: .own (sF e' (aI e E) j.toNat) v xs :: Γ3) ((d,v') :: fr) (f ()))):D P cx (.e false (.call ⟨.builtin .append,#[s,x],#[t,t]⟩) (some d) ty all l rk Γ fr (fits bt (z.length+1)>>=f)):=by
 refine D.of ?_
 intro B o br r w ha di pos af g
 obtain ⟨_,hu,br⟩:=bind_some br
 obtain ⟨b1,b2⟩:=o7 hu
 obtain ⟨q1,q2,i,zz,q3,q4,q5,q6,q7,_⟩:=hT.h
 obtain ⟨Z,F,hS,hG⟩:=di
 obtain ⟨j0,j1,ji⟩:=Loc.row hl rfl hS
 obtain ⟨de,_,⟨⟨gz,sC,_⟩,_⟩,_⟩:=hz.sound hS
 obtain ⟨n0,F0,rq,⟨rfl,bb⟩,uq⟩:=h0.sound hS
 obtain ⟨fm,F1,qz,hO,fy⟩:=h1.sound uq
 obtain ⟨ky,F2,o5,Rf,gy⟩:=hy.sound fy
 rw [qJ hO] at j1
 obtain ⟨k,gm,a1,a2,a3⟩:=EE rfl hO (List.getElem?_eq_getElem j1) ji
 have Ri:xs[j.toNat]=z:=hr.tH (hr.le.le a1) sC
 rw [Ri] at a1
 have o6:((k++ky)++(gm++F2)).Perm (fm++F1):=by
  have e1:((k++gm)++(ky++F2)).Perm (fm++F1):=(a2.append_right _).trans (o5.append_left fm)
  refine .trans ?_ e1
  rw [List.append_assoc,List.append_assoc]
  refine List.Perm.append_left k ?_
  rw [← List.append_assoc,← List.append_assoc]
  exact List.perm_append_comm.append_right F2
 have kz:Gd B Z ((k++ky)++(gm++F2)) w:=Gd.left (F':=[b]) (hG.perm (((o6.append_right [b]).trans (List.perm_append_comm.trans (qz.append_left [b]))).trans rq))
 have cq:=(List.nodup_append.1 kz.nd).1
 have ve:=List.nodup_append.1 cq
 obtain ⟨v',w',f',mg,hC,df,cw,EX⟩:=o9 (E:=E) (d:=some d) (ty:=ty) (pos:=pos) (af:=af) (g:=none) (k:=ky) (ys:=[y]) (news:=[yv]) q1 q3 q4 (by rw [q5,q2]) (by rw [cells_one q6,q2]; rfl) (aS ha hs) a1 ve.1 (aS ha hx) (fun i u hi=>bb.at i u hi) (qv Rf) (fun b hb hm=>ve.2.2 b hm b hb rfl) (by simp) (by rw [q7]; exact b1) b2
 refine dy (WL.val rfl mg ((h v').sound B o br _ w' (aq ha) ?_))
 have hSh:SA Z w (.own (sF e' (aI e E) j.toNat) v xs :: Γ3) [] (gm++F2):=SA.cons gy (e:=.own (sF e' (aI e E) j.toNat) v xs) a3
 refine St.put hSh kz (hC.mono fun b hb=>List.mem_append_left _ hb) df (EX ve.2.1) fun b hb=>?_
 rcases cw b hb with h | h | h
 ·exact .inl (List.mem_append_left _ h)
 ·exact .inl (List.mem_append_right _ h)
 ·exact .inr h
theorem ixH {α:Type} {q:Bool} {d j0:Nat} {x y:OO} {v:Value} {k:IntKind} {j:Int} {xs:List α} {t e ty:TI} {E:ag α} {f:α→Option M} [ht:we P t] (hx:bd fr x=some v) (hy:bd fr y=some (.int k j)) (h1:dj Γ (.own (sF e E j0) v xs) Γ1)
  (h:∀ z,D P cx (.o q all l rk Γ ((d,.pointer (some (ch v 1 j))) :: fr) (f z))):D P cx (.e q (.indexAddr t x y) (some d) ty all l rk Γ fr (idx xs j>>=f)):=by
 refine D.of ?_
 intro B o ho r w ha hs pos af g
 obtain ⟨z,hz,ho⟩:=bind_some ho
 replace hz:=pt hz
 obtain ⟨e',i,q1,q2,q3⟩:=ht.h
 obtain ⟨Z,F,hS,_⟩:=@_root_.id _ hs
 obtain ⟨f0,F1,_,⟨b,cap,cur,f1,f2,p,c0,qq,hv,_⟩,_⟩:=h1.sound hS
 obtain rfl:v = .slice (some ⟨b,0,none⟩) xs.length cap:=by simpa using hv
 have bc:j.toNat < xs.length:=(List.getElem?_eq_some_iff.1 hz.2).1
 have Fc:=hz.1
 refine cj (v:=.pointer (some (ch (.slice (some ⟨b,0,none⟩) xs.length cap) 1 j))) (fun w' hC=>?_) ((h z).sound B o ho _ w (aq ha) hs)
 rw [kn q1 q2 (aS ha hx) (aS ha hy) hz.1 (by omega),q3]
 rfl
theorem stR {α:Type} {x0 y0:OO} {v u:Value} {j:Int} {z:α} {xs:List α} {t e ty:TI} {E:ag α} {m:Option M} (h1:dj Γ (.own E u z) Γ1) (h2:dj Γ1 (.own (sF e E j.toNat) v xs) Γ2)
  (h:D P cx (.o false all l rk (.own (aI e E) v (xs.set j.toNat z) :: Γ2) fr m)):D P cx (.st (ch v 1 j) u 1 t x0 y0 ty all l rk Γ fr m):=by
 refine D.of ?_
 intro hT hx hy B o br r w ha di pos af g
 obtain ⟨i,q1,q2⟩:=hT
 obtain ⟨Z,F,hS,hG⟩:=di
 obtain ⟨k,F1,qz,hK,fy⟩:=h1.sound hS
 obtain ⟨gm,F2,o5,hM,gy⟩:=h2.sound fy
 have wj:((gm++k)++F2).Perm F:=by
  refine .trans ?_ qz
  refine .trans ?_ (o5.append_left k)
  rw [← List.append_assoc k gm F2]
  exact List.perm_append_comm.append_right F2
 have kz:Gd B Z ((gm++k)++F2) w:=hG.perm wj
 have cq:=(List.nodup_append.1 kz.nd).1
 obtain ⟨b,cap,cur,f1,f2,p,c0,qq,hv,g1,rfl,⟨g2,g3,g4,g5⟩,g6,⟨g7,g8⟩,g9,g10⟩:=hM
 obtain rfl:v = .slice (some ⟨b,0,none⟩) xs.length cap:=by simpa using hv
 have u6:ch (.slice (some ⟨b,0,none⟩) xs.length cap) 1 j = ⟨b,j.toNat,none⟩:=by
  simp only [ch,gq,Nat.zero_add,Nat.mul_one]
 rw [u6] at hx
 have bb:Row w b cur.toList e:=by unfold Row; simpa using g1
 have Qu:∀ i∈(f1++f2)++k,i≠b:=by
  intro i hi he
  subst he
  have e1:((i :: (f1++f2))++k)=i :: ((f1++f2)++k):=rfl
  rw [e1] at cq
  exact (List.nodup_cons.1 cq).1 hi
 refine dy (WL.EA q1 q2 bb (by rw [Array.length_toList,g4]; omega) (aS ha hx) (aS ha hy) (E.one hK u (by simp)) fun w' hC qA=>h.sound B o br _ w' ha ?_)
 have OA:∀ i∈(f1++f2)++k,i < w.heap.size→w'.heap[i]? = w.heap[i]?:=fun i hi hl=>hC.block i hl fun hm=>Qu i hi (by simpa using hm)
 have hK':E.rep w'.heap [u] z k:=E.congr hK fun i hi=>OA i (List.mem_append_right _ hi) (E.lt hK i hi)
 have Oc:=g10 w'.heap (fun i hi=>OA i (List.mem_append_left _ hi) (g9 i hi)) u z k hK'
 refine St.put (f:=(b :: (f1++f2))++k) (f':=b :: (f1++k++f2)) gy kz (hC.mono fun i hi=>by rw [List.mem_singleton.1 hi]; simp) ⟨_,cap,by rw [List.length_set],.inr ⟨b,_,f1++k++f2,rfl,qA,rfl,by rw [List.length_set]; exact g2,g3,?_,?_⟩⟩ ?_ ?_
 ·rw [g5]; simp [g4]
 ·have sx:((cur.toList.set j.toNat u).take xs.length)=p++[u]++qq:=by
   rw [List.take_set,g6,← g7]
   simp
  rw [List.length_set,g5,Nat.mul_one]
  simpa [sx] using Oc
 ·have AI:(b :: (f1++k++f2)).Perm ((b :: (f1++f2))++k):=by
   rw [List.cons_append]
   refine List.Perm.cons b ?_
   rw [List.append_assoc,List.append_assoc]
   exact List.Perm.append_left f1 List.perm_append_comm
  exact AI.nodup_iff.2 cq
 ·intro i hi
  refine .inl ?_
  rcases List.mem_cons.1 hi with rfl | hi
  ·simp
  ·rcases List.mem_append.1 hi with hi | hi
   ·rcases List.mem_append.1 hi with hi | hi <;> simp [hi]
   ·simp [hi]
theorem B4 {S S1 V W:Type} (k:Nat) (Δ:S1→V→W→List ao) (φ:S1→V→W→Fr) (v0:V) (w0:W) (f2:Fr) {gv:List KI} {kb:Kb R S} {c:Code} {s0:S1} {body:S1→Option (Out S1 R)} {f:S1→Option (Out S R)}
  (ha:qc fr (φ s0 v0 w0)) (hf:qc fr f2) (h0:EO Γ (Δ s0 v0 w0) Γ1) (hn:OW Γ (Δ s0 v0 w0)) (hs:js Γ1 Γ2)
  (hb:∀ s v w,D P cx (.p (φ s v w) (Δ s v w) f2 Γ2 fun fr Γ=>.c ⟨[],.loop (V×W) k (fun s v=>Δ s v.1 v.2) (fun s v=>φ s v.1 v.2) Γ2 f2⟩ c Γ fr (body s)))
  (hk:∀ s v w,D P cx (.p (φ s v w) (Δ s v w) f2 Γ2 fun fr Γ=>.mn ⟨gv,kb⟩ Γ fr (f s))):Bx (n8 P cx (.bk true k ⟨gv,kb⟩ (.loop c) Γ fr (ah (ab k (Li.aj body s0)) f))):=
 loop k (fun s v=>Δ s v.1 v.2) (fun s v=>φ s v.1 v.2) (v0,w0) f2 ha hf h0 hn hs (fun s v=>hb s v.1 v.2) (fun s v=>hk s v.1 v.2)
def Fe {α:Type} (v:Value) (_:List α):Prop:=∃ a n c,v = .slice a n c∧n≤c
theorem Le.cap {α:Type} {T E:ag α} (hl:Le T E) (e:TI):Le (aI e T) (rX Fe (bE E)):=by
 refine ⟨rfl,fun {h cs x f} hr=>⟨?_,(Le.own hl e).le hr⟩⟩
 obtain ⟨base,cap,rfl,hr⟩:=hr
 refine ⟨_,rfl,_,_,_,rfl,?_⟩
 rcases hr with ⟨_,_,rfl,_⟩ | ⟨_,_,_,_,_,_,h,_⟩
 ·exact Nat.zero_le _
 ·exact h
theorem PH {α:Type} {T E:ag α} {e e2:TI} {v:Value} {xs:List (List α)} {f:LN} {h:Array Obj} (hl:Le T E) (hO:(aI e (aI e2 T)).rep h [v] xs f) :
  ∃ fo fz us,(fo++fz).Perm f∧(aI e qw).rep h [v] us fo∧db (rX Fe (bE E)) h us xs fz:=by
 obtain ⟨base,cap,hv,hr⟩:=hO
 rcases hr with ⟨rfl,rfl,rfl,rfl⟩ | ⟨b,cur,f',rfl,h2,rfl,h4,h5,h6,h3⟩
 ·exact ⟨[],[],[],.refl _,⟨none,0,by simpa using hv,.inl ⟨rfl,rfl,rfl,rfl⟩⟩,rfl,rfl⟩
 ·have h7:=jk h3
  have h8:(aI e2 T).size=1:=rfl
  rw [h8,Nat.mul_one] at h6 h3 h7
  try rw [Nat.mul_one] at h7
  refine ⟨[b],f',cur.toList.take xs.length,.refl _,⟨_,cap,by rw [h7]; exact hv,.inr ⟨b,cur,[],rfl,h2,rfl,by rw [h7]; exact h4,h5,by rw [h6]; exact (Nat.mul_one _).symm,?_⟩⟩,s7 (Le.cap hl e2) h3⟩
  have h9:qw.size=1:=rfl
  rw [h9,Nat.mul_one,h7]
  exact AL (Bc h3)
theorem St.frz {α:Type} {T E:ag α} {e e2:TI} {v:Value} {xs:List (List α)} (hs:St B Γ w) (h1:EO Γ [.own (aI e (aI e2 T)) v xs] Γ1) (hr:RT T E):St B (.om e (rX Fe (bE E)) v xs :: Γ1) w:=by
 obtain ⟨Z,F,hS,hG⟩:=hs
 obtain ⟨_,F1,hH,fy,hp⟩:=h1.sound hS
 obtain ⟨f,hO,hp⟩ : ∃ f,(aI e (aI e2 T)).rep w.heap [v] xs f∧(f++F1).Perm F:=by
  cases hH with
  | own h k=>cases k; exact ⟨_,h,by simpa using hp⟩
 obtain ⟨fo,fz,us,hf,ho,hl⟩:=PH hr.le hO
 have wj:((fo++F1)++fz).Perm F:=by
  refine .trans ?_ hp
  refine .trans ?_ (hf.append_right F1)
  rw [List.append_assoc,List.append_assoc]
  exact List.Perm.append_left fo List.perm_append_comm
 have kh:=Gd.freeze (hG.perm wj) fun b hb=>hS.lt b (wj.mem_iff.1 (List.mem_append_right _ hb))
 exact ⟨pV Z fz,fo++F1,SA.cons (fy.mono (fun _ h=>.inl h) fun _ h=>h) ⟨us,fz,ho,hl,fun b hb=>.inr hb,rfl⟩,kh⟩
theorem U1 {S:Type} {id:Nat} (k:Nat) {K:cy R S} {l ops V8:LO} {α:Type} {T E:ag α} {e e2:TI} {v:Value} {xs:List (List α)} {m:Option (Out S R)} (hB:(P.follows .mixedOrders && cg cx.n l && ((l.take k).all fun o=>vf o.op) && Region.lexTailB .any l.toArray k)=true) (ho:ops=l.take k) (ht:V8=l.drop k)
  (h1:EO Γ [.own (aI e (aI e2 T)) v xs] Γ1) (hr:RT T E) (h:D P cx (.o true l ops (.h l V8 K) (.om e (rX Fe (bE E)) v xs :: Γ1) fr m)):Bx (n8 P cx (.dr id l K Γ fr m)):=by
 have h2:=tail (id:=id) k hB ho ht h
 rw [nw] at h2 ⊢
 exact fun B o br r w ha hs=>h2 B o br r w ha (hs.frz h1 hr)
theorem Kl {α:Type} {E:ag α} {h:Array Obj}:∀ {xs:List α} {cs:LV} {f:LN} (n:Nat),db E h cs xs f→∃ f3,db E h (cs.drop (n * E.size)) (xs.drop n) f3∧∀ b∈f3,b∈f:=by
 intro xs
 induction xs with
 | nil=>rintro cs f n ⟨rfl,rfl⟩; exact ⟨[],by simpa using ⟨rfl,rfl⟩,fun _ h=>h⟩
 | cons x xs ih=>
  rintro cs f n ⟨c,ds,f1,f2,rfl,rfl,h1,h2⟩
  cases n with
  | zero=>exact ⟨f1++f2,by simpa using ⟨c,ds,f1,f2,rfl,rfl,h1,h2⟩,fun _ h=>h⟩
  | succ n=>
   obtain ⟨f3,h3,h4⟩:=ih n h2
   refine ⟨f3,?_,fun b hb=>List.mem_append_right _ (h4 b hb)⟩
   have e:(n+1) * E.size=c.length+n * E.size:=by rw [E.len h1,Nat.add_mul,Nat.one_mul,Nat.add_comm]
   rw [e,List.drop_append,List.drop_of_length_le (by omega),List.nil_append,List.drop_succ_cons]
   simpa using h3
theorem V9 {α:Type} {q:Bool} {d:Nat} {x lo:OO} {v:Value} {k:IntKind} {j:Int} {E:ag α} {xs:List α} {t ty:TI} {f:List α→Option M} [ht:we P t] (hx:bd fr x=some v) (hy:bd fr lo=some (.int k j)) (hr:In (.rd false (rX Fe (bE E)) v xs) Γ) (hE:E.size=1)
  (h:∀ v' ys,D P cx (.o q all l rk (.rd false (bE E) v' ys :: Γ) ((d,v') :: fr) (f ys))):D P cx (.e q (.slice t x (some lo) none none) (some d) ty all l rk Γ fr (tl xs j>>=f)):=by
 refine D.of ?_
 intro B o ho r w ha hs pos af g
 obtain ⟨ys,RV,ho⟩:=bind_some ho
 obtain ⟨h0,h1,rfl⟩:=Hx RV
 obtain ⟨e,i,q1,q2,q3⟩:=ht.h
 obtain ⟨Z,F,hS,hG⟩:=hs
 obtain ⟨g0,⟨⟨v0,hv0,a0,n0,c0,hv1,hc⟩,base,cap,hv,fi⟩,sC⟩:=hr.rd hS []
 obtain rfl:v = .slice base xs.length cap:=by simpa using hv
 obtain rfl:Value.slice base xs.length cap=v0:=by simpa using hv0
 obtain ⟨rfl,rfl,rfl⟩ : base=a0∧xs.length=n0∧cap=c0:=by simpa using hv1
 have hlen:(xs.drop j.toNat).length=xs.length - j.toNat:=List.length_drop
 have hf:fact Z w [] (.rd false (bE E) (sliced base j.toNat xs.length cap 1) (xs.drop j.toNat)):=by
  by_cases hj:j.toNat=xs.length
  ·refine ⟨[],⟨_,cap - j.toNat,by unfold sliced; rw [hlen],.inl ⟨by rw [hj]; simp,rfl⟩⟩,fun _ h=>absurd h List.not_mem_nil⟩
  ·rcases fi with ⟨rfl,_⟩ | ⟨b,off,cur,e',fz,f',rfl,g1,rfl,_,g2⟩
   ·exfalso; simp at h1 hj; omega
   ·have pN : ¬ (cap=j.toNat):=by omega
    obtain ⟨f3,df,cw⟩:=Kl j.toNat g2
    refine ⟨b :: f3,⟨some ⟨b,off+j.toNat,none⟩,cap - j.toNat,?_,.inr ⟨b,off+j.toNat,cur,e',fz,f3,rfl,g1,rfl,by omega,?_⟩⟩,fun i hi=>?_⟩
    ·unfold sliced
     rw [hlen,if_neg pN]
     simp [gq]
    ·rw [hE,Nat.mul_one] at df ⊢
     rw [Nat.mul_one,List.drop_take,List.drop_drop] at df
     rw [hlen]
     exact df
    ·rcases List.mem_cons.1 hi with rfl | hi
     ·exact sC _ (by simp)
     ·exact sC _ (List.mem_cons_of_mem _ (cw i hi))
 refine cj (v:=sliced base j.toNat xs.length cap 1) (fun w' _=>?_) ((h _ _).sound B o ho _ w (aq ha) ⟨Z,F,SA.fact hS hf,hG⟩)
 have q4:P.elem t=e:=by simp [Program.elem,q1]
 have qI:(sizeOf (P.elem t)).run P w' = .ok 1 w':=by rw [q4]; simp [sizeOf,typeInfo,q2,q3]
 simp [execOp,aS ha hx,aS ha hy,run_sliceAt_slice w' t _ _ _ _ (by rw [q4]; exact q1),run_slice_l (P:=P) w' t base xs.length cap (by rw [q4]; exact q1) k j h0 h1,qI,Result.andThen]
theorem stN {α:Type} {x y:OO} {v u:Value} {j:Int} {z:List α} {xs:List (List α)} {E:ag α} {Q:Value→List α→Prop} {t e ty:TI} {Γx:QE} {m:Option M} (h0:Rg v j Γ) (h1:n5 Γ u false false E z rn Γx) (h2:dj Γ (.om e (rX Q (bE E)) v xs) Γ1)
  (h:D P cx (.o false all l rk (.om e (bE E) v (xs.set j.toNat z) :: Γ1) fr m)):D P cx (.sl .om v j u t x y ty all l rk Γ fr m):=by
 refine D.of ?_
 intro hT hx hy _ B o ho r w ha hs pos af g
 obtain ⟨i,hi,qI⟩:=hT
 obtain ⟨Z,F,hS,hg⟩:=hs
 obtain ⟨j0,j1⟩:=h0.sound hS
 obtain ⟨de,_,⟨⟨k,hk,hkz⟩,_⟩,_⟩:=h1.sound hS
 obtain ⟨n,F1,hp,⟨us,gg,hO,hr0,sC,RW⟩,fy⟩:=h2.sound hS
 have hle:Le (rX Q (bE E)) (bE E):=⟨rfl,fun h=>h.2⟩
 have hr:db (bE E) w.heap us xs gg:=s7 hle hr0
 replace RW:(bE E).size=1:=rfl
 have ju:=hg.perm hp
 have cq:=List.nodup_append.1 ju.nd
 have RX:∀ b∈k,Z b:=fun b hb=>(hkz b hb).elim (fun h=>h) (fun h=>h)
 have Wd:∀ b∈n,¬ Z b:=fun b hb=>ju.apart b (List.mem_append_left _ hb)
 have hl:us.length=xs.length:=by have:=jk hr; rw [RW,Nat.mul_one] at this; exact this
 have JF:ug v=us.length:=qJ hO
 rw [JF,hl] at j1
 refine dy (RY.store (E:=bE E) (G:=n) (B:=w.heap.size) (g:=gg) (k:=k) hi qI ⟨us,⟨hO,cq.1,fun b hb=>.inl hb⟩,hr,RW⟩ (List.getElem?_eq_getElem j1) (aS ha hx) (aS ha hy) hk (fun b hb hm=>Wd b hm (RX b hb)) (fun b hb hm=>Wd b hm (sC b hb)) fun w' g' hC pW iH=>?_)
 obtain ⟨us',br,fi,Xr⟩:=pW
 exact h.sound B o ho _ w' ha (St.put fy ju hC ⟨us',_,br.1,fi,(fun b hb=>(iH b hb).elim (sC b) (RX b)),Xr⟩ br.2.1 fun b hb=>.inl hb)
theorem St.Xs {B:Bs} {Γ Δ Γ1 Γ2 Γ3:QE} {w:World} (h:St B Γ w) (h0:EF Γ Δ Γ1) (h1:EO Γ1 Γ2 Γ3) (h2:MF Γ none Γ2):St B (Δ.reverse++Γ2) w:=by
 obtain ⟨Z,F,hs,hg⟩:=h
 obtain ⟨Fd,F',Zn,a1,a2,a3⟩:=h0.sound hs
 obtain ⟨QO,F3,c1,c2,c3⟩:=h1.sound a2
 obtain ⟨F2,b1,b2⟩:=HL.build a1 (h2.sound (hs.left (f:=Zn)) (de:=[]) (by rintro e he; cases he) c1)
 refine St.of (F':=Fd++QO) b2 (Gd.left (F':=F3) ((Gd.freeze (hg.perm a3) fun b hb=>hs.lt b (a3.mem_iff.1 (List.mem_append_right _ hb))).perm ?_)) b1
 rw [List.append_assoc]
 exact c3.append_left Fd
theorem Xt {S V:Type} {k:Nat} {Δ:S→V→List ao} {φ:S→V→Fr} {Γ2 Γ3:QE} {f2:Fr} {s:S} {v:V} (_hv:rZ V v) (ha:qc fr (φ s v)) (hf:qc fr f2) (h0:EF Γ (Δ s v) Γ1) (h1:EO Γ1 Γ2 Γ3) (h2:MF Γ none Γ2):D P cx (.n ⟨[],.loop V k Δ φ Γ2 f2⟩ Γ fr (some (.norm s))):=by
 refine .inj (VC ?_)
 intro B o ho r w r6 hs
 cases ho
 exact ⟨v,r4 (ha.all r6) (hf.sound r6),hs.Xs h0 h1 h2⟩
theorem join {S S1 V:Type} {t k:Nat} {b:Bool} (Δ:S1→V→List ao) (φ:S1→V→Fr) (v0:V) (f2:Fr) {gv:List KI} {kb:Kb R S} {x y:Code} {s0:S1} {m0:Option (Out S1 R)} {f:S1→Option (Out S R)}
   (_ha:qc fr (φ s0 v0)) (_hf:qc fr f2) (_h0:EO Γ (Δ s0 v0) Γ1) (_hs:js Γ1 Γ2)
   (hb:D P cx (.cd b ⟨[],.loop V k Δ φ Γ2 f2⟩ x y Γ fr m0)) (hk:∀ s v,D P cx (.p (φ s v) (Δ s v) f2 Γ2 fun fr Γ=>.n ⟨gv,kb⟩ Γ fr (f s))):D P cx (.cd b ⟨gv,kb⟩ x y Γ fr (jn t s0 m0 f)):=by
 refine .inj (VC ?_)
 intro B o ho r w r6 pY
 replace ho:ah m0 f=some o:=ho
 cases hm:m0 with
 | none=>rw [hm] at ho; cases ho
 | some o0=>
  have h1:=hb.sound B o0 hm r w r6 pY
  rw [hm] at ho
  have hq:∀ e r w,j8 P cx B ⟨[],.loop V k Δ φ Γ2 f2⟩ o0 e r w→j8 P cx B ⟨gv,kb⟩ o e r w:=by
   intro e r w hp
   cases o0 with
   | norm s=>
    cases e with
    | normal=>obtain ⟨v,a1,a2⟩:=hp; exact (hk s v).sound B o ho r w a1 a2
    | _=>exact hp.elim
   | exit j s=>cases ho
   | ret y=>
    cases ho
    cases e with
    | ret=>exact wb hp
    | _=>exact hp.elim
  exact ⟨fun h=>tR (h1.1 h) hq,fun h=>tR (h1.2 h) hq⟩
theorem gjn {S S1:Type} (t:Nat) {b:Bool} {K:cy R S} {x y:Code} {s0:S1} {m0:Option (Out S1 R)} {f:S1→Option (Out S R)} (h:D P cx (.cd b K x y Γ fr (jn t s0 m0 f))):D P cx (.cd b K x y Γ fr (jn t s0 m0 f)):=h
theorem gje {S V:Type} (k:Nat) {Δ:S→V→List ao} {φ:S→V→Fr} {Γ2:QE} {f2:Fr} {m:Option (Out S R)} (h:D P cx (.n ⟨[],.loop V k Δ φ Γ2 f2⟩ Γ fr m)):D P cx (.n ⟨[],.loop V k Δ φ Γ2 f2⟩ Γ fr m):=h
theorem OB {S:Type} {t:Nat} {K:cy R S} {ops:LO} {m:Option (Out S R)} (_ht:BI ops=some t) (h:D P cx (.o false ops ops (.s K) Γ fr m)):D P cx (.rw false ops K Γ fr m):=.VF h
theorem ry {S:Type} {b:Bool} {t:Nat} {K:cy R S} {x y:Code} {m1 m2:Option (Out S R)} (hl:look fr t=some (.bool b)) (h1:D P cx (.c K x Γ ((t,.bool true) :: fr) m1)) (h2:D P cx (.c K y Γ ((t,.bool false) :: fr) m2)):D P cx (.cd b K x y Γ fr (bif b then m1 else m2)):=by
 refine D.of ?_
 have hc:∀ {r:NV},cn r fr→∀ c,b=c→cn r ((t,.bool c) :: fr):=by
  intro r ha c hb s u hs
  unfold look at hs
  cases pY:Nat.beq s t with
  | true=>
   rw [pY] at hs
   cases hs
   obtain rfl:=Nat.eq_of_beq_eq_true pY
   rw [← hb]
   exact ha _ _ hl
  | false=>rw [pY] at hs; exact ha _ _ hs
 exact fun B o ho r w ha hs=>⟨fun h=>h1.sound B o (by rw [h] at ho; exact ho) r w (hc ha _ h) hs,fun h=>h2.sound B o (by rw [h] at ho; exact ho) r w (hc ha _ h) hs⟩
class oh {α:Type} (S:ag α) (V:outParam Type) (cl:outParam (α→V→List Value)) (en:outParam (α→V→List ao)):Prop where
 ow:∀ x v,qj (en x v)=true
 op:∀ {w:World} {cs:LV} {x:α} {g:LN},S.rep w.heap cs x g→∃ v,cs=cl x v∧∀ Z:Nat→Prop,HL Z w (en x v) g
 cl:∀ {w:World} {x:α} {v:V} {Z:Nat→Prop} {g:LN},HL Z w (en x v) g→S.rep w.heap (cl x v) x g
theorem oh.i {k:IntKind}:oh (aL k) Unit (fun x _=>[.int k x]) (fun _ _=>[]):=
 ⟨fun _ _=>rfl,fun h=>⟨(),h.1,fun _=>by rw [h.2]; exact .nil⟩,fun h=>by cases h; exact ⟨rfl,rfl⟩⟩
theorem oh.s {α:Type} {e:TI} {E:ag α}:oh (aI e E) Value (fun _ v=>[v]) (fun x v=>[.own (aI e E) v x]):=by
 refine ⟨fun _ _=>rfl,fun {w cs x g} h=>?_,fun {w x v Z g} h=>?_⟩
 ·obtain ⟨base,cap,rfl,hr⟩:=h
  refine ⟨_,rfl,fun Z=>?_⟩
  have:=HL.own (Z:=Z) (w:=w) (e:=.own (aI e E) (.slice base x.length cap) x) (f:=g) ⟨base,cap,rfl,hr⟩ .nil
  rwa [List.append_nil] at this
 ·cases h with
  | own h k=>cases k; rw [List.append_nil]; exact h
  | fact h _=>exact h.elim
theorem oh.ip {β V:Type} {k:IntKind} {B:ag β} {cl:β→V→List Value} {en:β→V→List ao} (h:oh B V cl en):oh (fj (aL k) B) V (fun x v=>.int k x.1 :: cl x.2 v) (fun x v=>en x.2 v):=by
 refine ⟨fun x v=>h.ow x.2 v,fun {w cs x g} hr=>?_,fun {w x v Z g} he=>?_⟩
 ·obtain ⟨c1,c2,f1,f2,rfl,rfl,⟨rfl,rfl⟩,h2⟩:=hr
  obtain ⟨v,rfl,hv⟩:=h.op h2
  exact ⟨v,rfl,hv⟩
 ·exact ⟨[_],_,[],g,rfl,rfl,⟨rfl,rfl⟩,h.cl he⟩
theorem oh.sp {α β V:Type} {e:TI} {E:ag α} {B:ag β} {cl:β→V→List Value} {en:β→V→List ao} (h:oh B V cl en):oh (fj (aI e E) B) (Value×V) (fun x v=>v.1 :: cl x.2 v.2) (fun x v=>.own (aI e E) v.1 x.1 :: en x.2 v.2):=by
 refine ⟨fun x v=>h.ow x.2 v.2,fun {w cs x g} hr=>?_,fun {w x v Z g} he=>?_⟩
 ·obtain ⟨c1,c2,f1,f2,rfl,rfl,h1,h2⟩:=hr
  obtain ⟨base,cap,rfl,wa⟩:=h1
  obtain ⟨v,rfl,hv⟩:=h.op h2
  exact ⟨(_,v),rfl,fun Z=>.own ⟨base,cap,rfl,wa⟩ (hv Z)⟩
 ·cases he with
  | own h1 k=>
   obtain ⟨base,cap,hb,wa⟩:=h1
   exact ⟨[_],_,_,_,rfl,rfl,⟨base,cap,hb,wa⟩,h.cl k⟩
  | fact h1 _=>exact h1.elim
theorem oh.mp {α β V:Type} {f:β→α} {A:ag α} {cl:α→V→List Value} {en:α→V→List ao} (h:oh A V cl en):oh (xI f A) V (fun y v=>cl (f y) v) (fun y v=>en (f y) v):=
 ⟨fun y v=>h.ow (f y) v,fun hr=>h.op hr,fun he=>h.cl he⟩
inductive Mr {α:Type} (S:ag α) (V:Type) (cl:α→V→List Value) (en:α→V→List ao):Prop
 | mk [h:oh S V cl en]:Mr S V cl en
theorem U2:∀ {Δ:QE} {F:LN},qj Δ=true→HO Z w Δ F→HL Z w Δ F:=by
 intro Δ
 induction Δ with
 | nil=>intro F _ h; cases h; exact .nil
 | cons e Δ ih=>
  intro F ho h
  cases e with
  | own T v x=>cases h with | own h k=>exact .own h (ih ho k)
  | row b cs t=>cases h with | own h k=>exact .own h (ih ho k)
  | _=>exact absurd ho (by simp [qj])
theorem We {α:Type} (S:ag α) {d:Nat} {t e n bt ty:TI} {m:Option M} [ht:yU P t e n bt]
  (h:∀ v,D P cx (.o false all l rk (.own (aI e S) v [] :: Γ) ((d,v) :: fr) m)):D P cx (.e false (.buildSlice t 0 #[]) (some d) ty all l rk Γ fr m):=by
 refine D.of ?_
 intro B o ho r w ha hs pos af g
 obtain ⟨h1,i,z,h2,_⟩:=ht.h
 obtain ⟨v,w',f,hr,hC,hO⟩:=xR (E:=S) (r:=r) (w:=w) (d:=some d) (ty:=ty) (pos:=pos) (af:=af) (g:=none) h1 h2
 refine dy (WL.val rfl hr ((h v).sound B o ho _ w' (aq ha) ?_))
 obtain ⟨Z,F,hS,hg⟩:=hs
 exact St.put (f:=[]) hS hg hC hO.1 hO.2.1 fun b hb=>.inr ((hO.2.2 b hb).resolve_left List.not_mem_nil)
theorem RZ {α:Type} {S:ag α} {q:Bool} {d n e:Nat} {x:OO} {v:Value} {xs:List α} {t ty bt:TI} {m:Option M} [ht:yU P t e n bt] (hx:bd fr x=some v) (h1:dj Γ (.own (aI e S) v xs) Γ1)
  (h:D P cx (.o q all l rk Γ ((d,.int .i64 (xs.length:Int)) :: fr) m)):D P cx (.e q (.call ⟨.builtin .len,#[x],#[t]⟩) (some d) ty all l rk Γ fr m):=by
 refine D.of ?_
 intro B o ho r w ha hs pos af g
 obtain ⟨q1,_⟩:=ht.h
 obtain ⟨Z,F,hS,hG⟩:=@_root_.id _ hs
 obtain ⟨f,F1,_,hO,_⟩:=h1.sound hS
 obtain ⟨base,cap,hv,_⟩:=hO
 obtain rfl:v = .slice base xs.length cap:=by simpa using hv
 exact cj (v:=.int .i64 (xs.length:Int)) (fun w' _=>vc q1 (aS ha hx)) (h.sound B o ho _ w (aq ha) hs)
theorem Ms {α:Type} {S:ag α} {n:Nat} {hp:Array Obj} (hn:S.size=n):∀ {xs:List α} {cs:LV} {f:LN},db S hp cs xs f→∃ us,us.length=xs.length∧db (iw n) hp cs us []∧∀ (j:Nat) (x:α),xs[j]? = some x→∃ c f0 f1 f2,us[j]? = some c∧f=f0++f1++f2∧S.rep hp c x f1:=by
 intro xs
 induction xs with
 | nil=>rintro cs f ⟨rfl,rfl⟩; exact ⟨[],rfl,⟨rfl,rfl⟩,fun j x hj=>by simp at hj⟩
 | cons y xs ih=>
  rintro cs f ⟨c,jr,f1,f2,rfl,rfl,h1,h2⟩
  obtain ⟨us,hl,hr,hg⟩:=ih h2
  refine ⟨c :: us,by simp [hl],⟨c,jr,[],[],rfl,rfl,⟨rfl,by rw [S.len h1,hn],S.one h1,rfl⟩,hr⟩,fun j x hj=>?_⟩
  cases j with
  | zero=>simp at hj; subst hj; exact ⟨c,[],f1,f2,rfl,by simp,h1⟩
  | succ j=>
   obtain ⟨c',g0,g1,g2,a1,rfl,a3⟩:=hg j x (by simpa using hj)
   exact ⟨c',f1++g0,g1,g2,by simpa using a1,by simp,a3⟩
theorem Wh {α V:Type} {S:ag α} {cl:α→V→List Value} {en:α→V→List ao} {q:Bool} {d n e:Nat} {x y:OO} {v:Value} {xs:List α} {k:IntKind} {j:Int} {t ty bt:TI} {f:α→Option M} [ht:yU P t e n bt] (hx:bd fr x=some v) (hy:bd fr y=some (.int k j))
  (h1:dj Γ (.own (aI e S) v xs) Γ1) (hs:Mr S V cl en) (hn:S.size=n)
  (h:∀ z u us,D P cx (.p [] (.own (aI e (iw n)) v us :: .rd false (yJ us j) (.bool true) (cl z u) :: en z u) fr Γ1 fun fr Γ=>.o q all l rk Γ ((d,.pointer (some (ch v n j))) :: fr) (f z))):D P cx (.e q (.indexAddr t x y) (some d) ty all l rk Γ fr (idx xs j>>=f)):=by
 refine D.of ?_
 intro B o ho r w ha di pos af g
 replace hs:oh S V cl en:=by cases hs; assumption
 obtain ⟨z,hz,ho⟩:=bind_some ho
 replace hz:=pt hz
 obtain ⟨q1,i,_,q2,_,_,q3,_⟩:=ht.h
 obtain ⟨Z,F,hS,hG⟩:=di
 obtain ⟨f0,F1,hp,hO,fy⟩:=h1.sound hS
 have bc:j.toNat < xs.length:=(List.getElem?_eq_some_iff.1 hz.2).1
 obtain ⟨base,cap,hv,hr⟩:=hO
 obtain rfl:v = .slice base xs.length cap:=by simpa using hv
 rcases hr with ⟨_,_,rfl,_⟩ | ⟨b,cur,f',rfl,ji,rfl,hle,Xu,qI,df⟩
 ·simp at bc
 ·obtain ⟨us,hl,hru,hg⟩:=Ms hn df
  obtain ⟨c,g0,g1,g2,a1,rfl,a3⟩:=hg _ _ hz.2
  obtain ⟨u,rfl,pX⟩:=hs.op a3
  have xW:(aI e (iw n)).rep w.heap [.slice (some ⟨b,0,none⟩) xs.length cap] us [b]:=
   ⟨_,cap,by rw [hl],.inr ⟨b,cur,[],rfl,ji,rfl,by rw [hl]; exact hle,Xu,by rw [qI,hn]; rfl,by rw [hl,show (iw n).size=S.size from hn.symm]; exact hru⟩⟩
  have dp:HL Z w (.own (aI e (iw n)) (.slice (some ⟨b,0,none⟩) xs.length cap) us :: .rd false (yJ us j) (.bool true) (cl z u) :: en z u) ([b]++g1):=.own xW (.fact ⟨[],⟨rfl,⟨hz.1,a1⟩,rfl⟩,fun _ h=>absurd h List.not_mem_nil⟩ (pX Z))
  obtain ⟨F',wi,gy⟩:=dp.build fy
  have o6:(F'++(g0++g2)).Perm F:=by
   refine .trans ?_ hp
   refine (wi.append_right _).trans ?_
   rw [List.cons_append,List.cons_append,List.cons_append,List.nil_append,List.cons_append]
   refine List.Perm.cons b ?_
   have e1:(g1++F1++(g0++g2)).Perm ((g0++g2)++(g1++F1)):=List.perm_append_comm
   refine e1.trans ?_
   rw [List.append_assoc,List.append_assoc,List.append_assoc]
   refine List.Perm.append_left g0 ?_
   rw [← List.append_assoc,← List.append_assoc]
   exact List.perm_append_comm.append_right F1
  refine cj (v:=.pointer (some (ch (.slice (some ⟨b,0,none⟩) xs.length cap) n j))) (fun w' hC=>?_) ((h z u us).sound B o ho _ w (aq ha) ⟨Z,F',gy,Gd.left (hG.perm o6)⟩)
  rw [kn q1 q2 (aS ha hx) (aS ha hy) hz.1 (by omega),q3]
  rfl
theorem apO {α V:Type} {S:ag α} {cl:α→V→List Value} {en:α→V→List ao} (y:α) {u:V} {d b n e bt:Nat} {s x:OO} {sv:Value} {xs:List α} {cs:LV} {t et ty:TI} {f:Unit→Option M} [ht:yU P t e n bt]
  (hs:bd fr s=some sv) (hx:bd fr x=some (.slice (some ⟨b,0,none⟩) 1 1)) (h0:dj Γ (.row b cs et) Γ1) (h1:dj Γ1 (.own (aI e S) sv xs) Γ2) (pM:Mr S V cl en) (_hv:rZ V u) (hc:cs=cl y u) (hn:S.size=n) (he:EO Γ2 (en y u) Γ3)
  (h:∀ v,D P cx (.o false all l rk (.own (aI e S) v (xs++[y]) :: Γ3) ((d,v) :: fr) (f ()))):D P cx (.e false (.call ⟨.builtin .append,#[s,x],#[t,t]⟩) (some d) ty all l rk Γ fr (fits bt (xs.length+1)>>=f)):=by
 refine D.of ?_
 intro B o br r w ha di pos af g
 have C1:oh S V cl en:=by cases pM; assumption
 obtain ⟨_,hu,br⟩:=bind_some br
 obtain ⟨b1,b2⟩:=o7 hu
 obtain ⟨q1,i,z,q2,q3,q4,q5,q6,_⟩:=ht.h
 obtain ⟨Z,F,hS,hG⟩:=di
 obtain ⟨n0,F0,rq,⟨rfl,bb⟩,uq⟩:=h0.sound hS
 obtain ⟨k,F1,hp,hO,fy⟩:=h1.sound uq
 obtain ⟨Fd,F2,hho,gy,o5⟩:=he.sound fy
 have hy:S.rep w.heap (cl y u) y Fd:=C1.cl (U2 (C1.ow y u) hho)
 have o6:(((k++Fd)++F2)++[b]).Perm F:=by
  refine .trans ?_ rq
  refine List.perm_append_comm.trans ?_
  refine List.Perm.append_left [b] ?_
  rw [List.append_assoc]
  exact (o5.append_left k).trans hp
 have kz:Gd B Z ((k++Fd)++F2) w:=Gd.left (F':=[b]) (hG.perm o6)
 have cq:=(List.nodup_append.1 kz.nd).1
 have ve:=List.nodup_append.1 cq
 subst hc
 obtain ⟨v,w',f',mg,hC,df,cw,EX⟩:=o9 (E:=S) (d:=some d) (ty:=ty) (pos:=pos) (af:=af) (g:=none) (k:=Fd) (ys:=[y]) (news:=cl y u) q1 q2 q3 (by rw [q5,hn]) (by rw [q4,hn]) (aS ha hs) hO ve.1 (aS ha hx) (fun i u hi=>bb.at i u hi) (qv hy) (fun b hb hm=>ve.2.2 b hm b hb rfl) (by simp) (by rw [q6]; exact b1) b2
 refine dy (WL.val rfl mg ((h v).sound B o br _ w' (aq ha) ?_))
 refine St.put gy kz (hC.mono fun b hb=>List.mem_append_left _ hb) df (EX ve.2.1) fun b hb=>?_
 rcases cw b hb with h | h | h
 ·exact .inl (List.mem_append_left _ h)
 ·exact .inl (List.mem_append_right _ h)
 ·exact .inr h
end
end Go.Dk
namespace Go.Dk
open Go Go.Li
section
variable {P:Program} {n:Nat} {l:LO} {Q:Exit→(Nat→Value)→World→Prop} {S:World→Prop}
def Hw (P:Program) (n:Nat) (l:LO) (Q:Exit→(Nat→Value)→World→Prop) (S:World→Prop) (k:Nat) (L:Array Bool) (r:NV) (w:World):Prop:=
 ∀ a:Act,a.tmps.size=n→a.defers=[]→b9 a=r→wpAnyH P .any l.toArray (fun e a' w'=>a'.tmps.size=n∧a'.defers=[]∧Q e (b9 a') w') S k L a w
theorem tS {i:Nat} {o:Oper} {a:Act} (hd:cg n l=true) (hi:l[i]? = some o) (h1:a.tmps.size=n):∀ k,o.dst=some k→k < a.tmps.size:=by
 intro k hk
 have hm:o∈l:=List.mem_of_getElem? hi
 simp only [cg,List.all_eq_true] at hd
 have:=hd o hm
 rw [hk] at this
 rw [h1]
 exact Nat.lt_of_succ_le (Nat.le_of_ble_eq_true this)
theorem Hw.take {k i:Nat} {L:Array Bool} {o:Oper} {v:Value} {r:NV} {w:World} (hd:cg n l=true) (hi:l[i]? = some o) (hs:Region.noSelect l.toArray=true) (hf:Region.free .any l.toArray L i=true) (hr:(Region.ready .any l.toArray L).contains i=true)
  (hp:∀ c r w,¬ Q (.panic c) r w) (hg:o.guard=none) (hy:∀ w,S w→(execOp (ev r) o).run P w = .ok (.value v) w) (hS:S w) (h:Hw P n l Q S k (L.setIfInBounds i true) (du r o.dst v) w):Hw P n l Q S (k+1) L r w:=by
 intro a h1 h2 h3
 refine wpAnyH_take (v:=v) (by simpa using hi) hs hf hr (fun c a w h=>(hp _ _ _ h.2.2).elim) (.inl ⟨qu hg,fun w hw=>?_⟩) hS (h _ (by rw [fv]; exact h1) (by rw [dt]; exact h2) (by rw [ie (tS hd hi h1),h3]))
 rw [nm,h3]
 exact hy w hw
theorem Hw.step {k i:Nat} {L:Array Bool} {o:Oper} {r:NV} {w w':World} (hd:cg n l=true) (hi:l[i]? = some o) (hr:Region.ready .any l.toArray L=[i]) (hg:o.guard=none) (hy:(execOp (ev r) o).run P w = .ok .skip w') (hS:S w') (h:Hw P n l Q S k (L.setIfInBounds i true) (du r o.dst undef) w'):Hw P n l Q S (k+1) L r w:=by
 intro a h1 h2 h3
 refine wpAnyH_all hr (by simp) fun j hj=>?_
 obtain rfl:j=i:=by simpa using hj
 unfold wpOp
 rw [show (l.toArray)[j]? = some o by simpa using hi]
 simp only []
 rw [if_pos (qu hg)]
 refine .inl ?_
 unfold Oper.wp
 rw [nm,h3,hy]
 exact ⟨hS,h _ (by rw [fv]; exact h1) (by rw [dt]; exact h2) (by rw [ie (tS hd hi h1),h3])⟩
theorem Hw.done {k:Nat} {L:Array Bool} {r:NV} {w:World} (hr:Region.ready .any l.toArray L=[]) (h:Q .normal r w):Hw P n l Q S k L r w:=
 fun _ h1 h2 h3=>wpAnyH_done hr ⟨h1,h2,by rw [h3]; exact h⟩ k
theorem Hw.start {r:NV} {w:World} (h:Hw P n l Q S l.length (Array.replicate l.length false) r { w with drawn:=w.drawn+1 }):l3 P n l Q r w:=
 fun a h1 h2 h3=>wpAny_of_held _ _ _ _ (h a h1 h2 h3)
def zp (P:Program) (S:World→Prop):List Oper→(Nat→Value)→((Nat→Value)→Prop)→Prop
 | [],r,K=>K r
 | o :: l,r,K=>o.guard=none∧∃ v,(∀ w,S w→(execOp (ev r) o).run P w = .ok (.value v) w)∧zp P S l (du r o.dst v) K
def Ff (l:LO) (e:Array Bool→Bool):List Nat→Array Bool→Bool
 | [],L=>e L
 | i :: ss,L=>Nat.blt i l.length && (Region.ready .any l.toArray L == [i]) && Ff l e ss (L.setIfInBounds i true)
def Mt (l:LO) (e:Array Bool→Bool):List Nat→Array Bool→Bool
 | [],L=>e L
 | i :: qs,L=>Nat.blt i l.length && (Region.ready .any l.toArray L).contains i && Region.free .any l.toArray L i && Mt l e qs (L.setIfInBounds i true)
def Fg (l:LO) (L:Array Bool):Bool:=(Region.ready .any l.toArray L).isEmpty
def pick (l:LO) (is:LN):List Oper:=is.map fun i=>l.getD i default
theorem Ac {i:Nat} (h:Nat.blt i l.length=true):l[i]? = some (l.getD i default):=by
 have h1:i < l.length:=Nat.lt_of_succ_le (Nat.le_of_ble_eq_true h)
 rw [List.getD_eq_getElem?_getD,List.getElem?_eq_getElem h1]; rfl
theorem Hw.quiet (hd:cg n l=true) (hs:Region.noSelect l.toArray=true) (hp:∀ c r w,¬ Q (.panic c) r w) {e:Array Bool→Bool} {m:Nat} {w:World} (hS:S w) {K:(Nat→Value)→Prop} (h:∀ L r,e L=true→K r→Hw P n l Q S m L r w) :
  ∀ (qs:LN) (L:Array Bool) (r:NV),Mt l e qs L=true→zp P S (pick l qs) r K→Hw P n l Q S (qs.length+m) L r w:=by
 intro qs
 induction qs with
 | nil=>intro L r hc hv; rw [List.length_nil,Nat.zero_add]; exact h L r hc hv
 | cons i qs ih=>
  intro L r hc hv
  unfold Mt at hc
  simp only [Bool.and_eq_true] at hc
  obtain ⟨⟨⟨c1,c2⟩,c3⟩,c4⟩:=hc
  obtain ⟨hg,v,h1,h2⟩:=hv
  have:=Hw.take hd (Ac c1) hs c3 c2 hp hg h1 hS (ih _ _ c4 h2)
  rwa [show qs.length+m+1=(i :: qs).length+m by simp; omega] at this
end
inductive JQ
 | q (ops:LO) (fr:Fr)
 | la (a:Addr) (lk:Option Nat) (t:TI) (x:OO) (d:Nat) (ty:TI) (pos:String) (af:Array Edge) (ops:LO) (fr:Fr)
inductive QA (P:Program) (Γ:QE):JQ→Fr→Prop
 | nil {fr:Fr}:QA P Γ (.q [] fr) fr
 | ld {d:Nat} {t ty:TI} {x:OO} {lk:Option Nat} {a:Addr} {pos:String} {af:Array Edge} {ops:LO} {fr pd:Fr} [ht:LK P t lk] (hx:bd fr x=some (.pointer (some a))) (h:QA P Γ (.la a lk t x d ty pos af ops fr) pd):QA P Γ (.q (⟨some d,.load t x,ty,pos,af,none⟩ :: ops) fr) pd
 | val {d:Nat} {op:Op} {ty:TI} {u:Value} {pos:String} {af:Array Edge} {ops:LO} {fr pd:Fr} (hv:VQ P Γ fr op u) (h:QA P Γ (.q ops ((d,u) :: fr)) pd):QA P Γ (.q (⟨some d,op,ty,pos,af,none⟩ :: ops) fr) pd
 | lc {d:Nat} {t ty:TI} {x:OO} {a:Addr} {u:Value} {pos:String} {af:Array Edge} {ops:LO} {fr pd:Fr} (h:sz Γ a u) (k:QA P Γ (.q ops ((d,u) :: fr)) pd):QA P Γ (.la a none t x d ty pos af ops fr) pd
 | ls {d n:Nat} {t ty:TI} {x:OO} {a:Addr} {ds:LV} {pos:String} {af:Array Edge} {ops:LO} {fr pd:Fr} (h:sE Γ a n ds) (k:QA P Γ (.q ops ((d,.agg ds.toArray) :: fr)) pd):QA P Γ (.la a (some n) t x d ty pos af ops fr) pd
inductive RO (fr:Fr):List Oper→List ao→List (Nat×List Value×TypeId)→List ao→Prop
 | nil {Γ:QE}:RO fr [] Γ [] Γ
 | cons {t ty e:TI} {x y:OO} {b:Nat} {cs:LV} {pos:String} {af:Array Edge} {ops:LO} {Γ Γ1 Γ2:QE} {rs:List (Nat×List Value×TypeId)} (hx:bd fr x=some (.pointer (some ⟨b,0,none⟩))) (h:dj Γ (.row b cs e) Γ1) (k:RO fr ops Γ1 rs Γ2):RO fr (⟨none,.store t x y,ty,pos,af,none⟩ :: ops) Γ ((b,cs,e) :: rs) Γ2
inductive SQ (P:Program) (Γ:QE) (fr:Fr):List Oper→List (Nat×List Value×TypeId)→List (Nat×List Value×TypeId)→Prop
 | nil:SQ P Γ fr [] [] []
 | cons {n:Nat} {t ty e:TI} {x y:OO} {b:Nat} {u:Value} {us cs ds:LV} {pos:String} {af:Array Edge} {ops:LO} {rs sc:List (Nat×List Value×TypeId)} [ht:u9 P t n] (hx:bd fr x=some (.pointer (some ⟨b,0,none⟩))) (hy:bd fr y=some u) (hc:qH Γ u us) (hn:us.length=n) (hs:rF us 0 cs ds) (ho:s8 Γ us) (k:SQ P Γ fr ops rs sc) :
   SQ P Γ fr (⟨none,.store t x y,ty,pos,af,none⟩ :: ops) ((b,cs,e) :: rs) ((b,ds,e) :: sc)
def Eb:List (Nat×List Value×TypeId)→List ao
 | []=>[]
 | (b,cs,e) :: l=>.row b cs e :: Eb l
def Rows (w:World) (rs:List (Nat×List Value×TypeId)):Prop:=∀ p∈rs,Row w p.1 p.2.1 p.2.2
section
variable {P:Program} {Γ Γ2:QE} {S:World→Prop} {Z:Nat→Prop}
def Xv (P:Program) (S:World→Prop):JQ→Fr→Prop
 | .q ops fr,pd=>∀ r,cn r fr→zp P S ops r fun r'=>cn r' pd
 | .la a lk t x d ty pos af ops fr,pd=>(match lk with | none=>NA P t | some n=>AG P t n)→bd fr x=some (.pointer (some a))→∀ r,cn r fr→zp P S (⟨some d,.load t x,ty,pos,af,none⟩ :: ops) r fun r'=>cn r' pd
theorem QA.sound {J:JQ} {pd:Fr} (hS:∀ w,S w→∃ cur F,SA Z w Γ cur F) (h:QA P Γ J pd):Xv P S J pd:=by
 induction h with
 | nil=>exact fun r h=>h
 | @ld d t ty x lk a pos af ops fr pd ht hx _ ih=>exact fun r ha=>ih ht.h hx r ha
 | @val d op ty u pos af ops fr pd hv _ ih=>
  intro r ha
  refine ⟨rfl,u,fun w hw=>?_,ih _ (aq ha)⟩
  obtain ⟨cur,F,h⟩:=hS w hw
  exact hv.sound h ha (some d) ty pos af none w (ak.refl _ _)
 | @lc d t ty x a u pos af ops fr pd h _ ih=>
  intro ht hx r ha
  refine ⟨rfl,u,fun w hw=>?_,ih _ (aq ha)⟩
  obtain ⟨cur,F,hs⟩:=hS w hw
  exact Ld ht (h.sound hs) (aS ha hx) w (ak.refl _ _)
 | @ls d n t ty x a ds pos af ops fr pd h _ ih=>
  intro ht hx r ha
  refine ⟨rfl,_,fun w hw=>?_,ih _ (aq ha)⟩
  obtain ⟨cur,F,hs⟩:=hS w hw
  obtain ⟨h1,h2⟩:=h.sound hs
  exact Lg ht h1 (aS ha hx) h2 w (ak.refl _ _)
theorem RO.sound {fr:Fr} {ops:LO} {rs:List (Nat×List Value×TypeId)} {w:World} (h:RO fr ops Γ rs Γ2):∀ {F:LN},SA Z w Γ [] F→∃ F2,(rs.map (·.1)++F2).Perm F∧Rows w rs∧SA Z w Γ2 [] F2:=by
 induction h with
 | nil=>intro F h; exact ⟨F,.refl _,fun _ h=>absurd h List.not_mem_nil,h⟩
 | @cons t ty e x y b cs pos af ops Γ Γ1 Γ2 rs hx h _ ih=>
  intro F hS
  obtain ⟨f,F1,hp,⟨rfl,bb⟩,fy⟩:=h.sound hS
  obtain ⟨F2,o5,hr,gy⟩:=ih fy
  refine ⟨F2,?_,fun p hp=>?_,gy⟩
  ·exact .trans (List.Perm.cons b o5) hp
  ·rcases List.mem_cons.1 hp with rfl | hp
   ·exact bb
   ·exact hr p hp
theorem SQ.sound {n m:Nat} {e:Array Bool→Bool} {l:LO} {Q:Exit→(Nat→Value)→World→Prop} {fr:Fr} {ops:LO} {rs sc:List (Nat×List Value×TypeId)} {F2:LN} {w0:World} {r:NV} {F:LN} (hd:cg n l=true) (ha:cn r fr) (Km:∀ w,ak F w0 w→SA Z w Γ2 [] F2) (h:SQ P Γ2 fr ops rs sc) :
  ∀ (ss:LN) (L:Array Bool) (w:World),ops=pick l ss→Ff l e ss L=true→ak F w0 w→Rows w rs→(rs.map (·.1)).Nodup→(∀ b∈rs.map (·.1),b∈F)→(∀ L w',e L=true→ak F w0 w'→ak (rs.map (·.1)) w w'→Rows w' sc→Hw P n l Q (ak F w0) m L r w')→Hw P n l Q (ak F w0) (ss.length+m) L r w:=by
 induction h with
 | nil=>
  intro ss L w ho hc hC hR hn hF hk
  cases ss with
  | cons i ss=>cases ho
  | nil=>
   rw [List.length_nil,Nat.zero_add]; exact hk L w hc hC (ak.refl _ _) hR
 | @cons n' t ty e' x y b u us cs ds pos af ops rs sc ht hx hy zn hn hsg hon _ ih=>
  intro ss L w ho hc hC hR cq hF hk
  cases ss with
  | nil=>cases ho
  | cons i ss=>
   unfold Ff at hc
   simp only [Bool.and_eq_true] at hc
   obtain ⟨⟨c1,c2⟩,c3⟩:=hc
   have br:l.getD i default = ⟨none,.store t x y,ty,pos,af,none⟩∧ops=pick l ss:=by
    unfold pick at ho
    rw [List.map_cons,List.cons.injEq] at ho
    exact ⟨ho.1.symm,ho.2⟩
   have hi:=Ac c1
   rw [br.1] at hi
   obtain ⟨ti,q1,q2⟩:=ht.h
   have bb:Row w b cs e':=hR (b,cs,e') (by simp)
   obtain ⟨e1,e2⟩:=hsg.eq
   have Wi:=Km w hC
   have mg:=tA (P:=P) (d:=none) (ty:=ty) (pos:=pos) (af:=af) (gg:=none) q1 (by rw [hn,q2]) bb e1 (aS ha hx) (y:=y) (by rw [aS ha hy]; exact zn.eq Wi) (hon.one Wi)
   have qA:=setRow_heap w b cs.toArray (cs.take 0++us++cs.drop (0+us.length)).toArray e' _ bb
   have zq:ak [b] w (w.setRow b (cs.take 0++us++cs.drop (0+us.length)).toArray):=⟨rfl,rfl,rfl,Nat.le_refl _,by simp,fun j _ hj=>setRow_other w b j _ fun h=>hj (by simp [h])⟩
   have Kn:=hC.trans (zq.mono fun b' bz=>by rw [List.mem_singleton.1 bz]; exact hF b (by simp))
   rw [List.map_cons,List.nodup_cons] at cq
   rw [show (i :: ss).length+m=ss.length+m+1 by simp; omega]
   refine Hw.step hd hi (by simpa using c2) rfl mg Kn (ih ss _ _ br.2 c3 Kn (fun p hp=>(hR p (List.mem_cons_of_mem _ hp)).dn zq fun hb=>cq.1 ?_) cq.2 (fun b' bz=>hF b' (by simp at bz ⊢; exact .inr bz)) fun L' w' he xe BS Ko=>?_)
   ·rw [← List.mem_singleton.1 hb]; exact List.mem_map_of_mem (f:=fun q=>q.1) hp
   ·refine hk L' w' he xe ((zq.mono (by simp)).trans (BS.mono fun b' bz=>List.mem_cons_of_mem _ bz)) fun p hp=>?_
    rcases List.mem_cons.1 hp with rfl | hp
    ·refine Row.dn (F:=rs.map (·.1)) ?_ BS cq.1
     rw [e2]
     exact qA
    ·exact Ko p hp
theorem SQ.fst {fr:Fr} {ops:LO} {rs sc:List (Nat×List Value×TypeId)} (h:SQ P Γ fr ops rs sc):sc.map (·.1)=rs.map (·.1):=by
 induction h with
 | nil=>rfl
 | cons _ _ _ _ _ _ _ ih=>simp only [List.map_cons,ih]
theorem Fh {w:World}:∀ {rs:List (Nat×List Value×TypeId)},Rows w rs→HL Z w (Eb rs) (rs.map (·.1))
 | [],_=>.nil
 | (b,cs,e) :: l,h=>.own (f:=[b]) (e:=.row b cs e) ⟨rfl,h (b,cs,e) (by simp)⟩ (Fh fun p hp=>h p (List.mem_cons_of_mem _ hp))
end
section
variable {R S:Type} {P:Program} {cx:Cx R} {K:cy R S} {l:LO}
end
theorem Hw.all {P:Program} {n k:Nat} {l:LO} {Q:Exit→(Nat→Value)→World→Prop} {S:World→Prop} {L:Array Bool} {rs:LN} {r:NV} {w:World} (hd:cg n l=true) (hr:Region.ready .any l.toArray L=rs) (pN:rs≠[])
  (h:∀ i∈rs,∃ o,l[i]? = some o∧o.guard=none∧∃ v w',((execOp (ev r) o).run P w = .ok (.value v) w'∨(execOp (ev r) o).run P w = .ok .skip w'∧v=undef)∧S w'∧Hw P n l Q S k (L.setIfInBounds i true) (du r o.dst v) w'):Hw P n l Q S (k+1) L r w:=by
 intro a h1 h2 h3
 refine wpAnyH_all hr pN fun j hj=>?_
 obtain ⟨o,hi,hg,v,w',hy,hS,hk⟩:=h j hj
 unfold wpOp
 rw [show (l.toArray)[j]? = some o by simpa using hi]
 simp only []
 rw [if_pos (qu hg)]
 refine .inl ?_
 unfold Oper.wp
 rw [nm,h3]
 rcases hy with hy | ⟨hy,rfl⟩
 ·rw [hy]
  exact ⟨hS,hk _ (by rw [fv]; exact h1) (by rw [dt]; exact h2) (by rw [ie (tS hd hi h1),h3])⟩
 ·rw [hy]
  exact ⟨hS,hk _ (by rw [fv]; exact h1) (by rw [dt]; exact h2) (by rw [ie (tS hd hi h1),h3])⟩
def on (L:Array Bool) (i:Nat):Array Bool:=L.setIfInBounds i true
def wu (l:LO) (L:Array Bool) (rs:LN):Bool:=Region.ready .any l.toArray L == rs
inductive Fi (P:Program) (Γ:QE) (fr:Fr) (d:Nat):Oper→Oper→TypeId→List Value→Prop
 | mk {t ty R0:TI} {y:OO} {u:Value} {n:Nat} {us cs ds:LV} {pos Mu:String} {af Mw:Array Edge} [hz:BG P t cs] [ht:u9 P t n] (hn:look fr d=none) (hy:bd fr y=some u) (hc:qH Γ u us) (hl:us.length=n) (hs:rF us 0 cs ds) (ho:s8 Γ us) :
   Fi P Γ fr d ⟨some d,.alloc t,ty,pos,af,none⟩ ⟨none,.store t (.tmp d) y,R0,Mu,Mw,none⟩ t ds
section
variable {P:Program} {Γ:QE} {Z:Nat→Prop} {fr:Fr} {w:World} {cur F:LN}
theorem Fi.alloc {d:Nat} {oa os:Oper} {t:TI} {ds:LV} (h:Fi P Γ fr d oa os t ds) (r:NV) (w:World):oa.guard=none∧oa.dst=some d∧look fr d=none∧∃ cs w',(execOp (ev r) oa).run P w = .ok (.value (.pointer (some ⟨w.heap.size,0,none⟩))) w'∧ak [] w w'∧Row w' w.heap.size cs t∧
  ∀ (r':NV) (w1:World) (b:Nat) cur F,SA Z w1 Γ cur F→cn r' fr→r' d = .pointer (some ⟨b,0,none⟩)→Row w1 b cs t→∃ w2,(execOp (ev r') os).run P w1 = .ok .skip w2∧ak [b] w1 w2∧Row w2 b ds t:=by
 cases h with
 | @mk t ty R0 y u n us cs ds pos Mu af Mw hz ht hn hy hc hl hs ho=>
  obtain ⟨i',z,t1,t2,t3⟩:=hz.h
  refine ⟨rfl,rfl,hn,z.cells.toList,_,Bd t1 t2,ak.alloc _ _ _,?_,?_⟩
  ·have:=heap_alloc_new w (.cells z.cells t (0,0))
   unfold Row
   simpa using this
  ·intro r' w1 b cur F hS ha hr bb
   rw [t3] at bb
   obtain ⟨ti,q1,q2⟩:=ht.h
   obtain ⟨e1,e2⟩:=hs.eq
   have mg:=tA (P:=P) (d:=none) (ty:=R0) (pos:=Mu) (af:=Mw) (gg:=none) q1 (by rw [hl,q2]) bb e1 (x:=.tmp d) hr (y:=y) (by rw [aS ha hy]; exact hc.eq hS) (ho.one hS)
   refine ⟨_,mg,⟨rfl,rfl,rfl,Nat.le_refl _,by simp,fun j _ hj=>setRow_other w1 b j _ fun h=>hj (by simp [h])⟩,?_⟩
   have qA:=setRow_heap w1 b cs.toArray (cs.take 0++us++cs.drop (0+us.length)).toArray t _ bb
   rw [e2]
   exact qA
theorem Fi.st {d:Nat} {oa os:Oper} {t:TI} {ds:LV} (h:Fi P Γ fr d oa os t ds):os.guard=none∧os.dst=none:=by
 cases h; exact ⟨rfl,rfl⟩
theorem R1 {l:LO} {L:Array Bool} {rs:LN} (h:wu l L rs=true):Region.ready .any l.toArray L=rs:=by
 unfold wu at h
 simpa using h
variable {n:Nat} {l:LO} {Q:Exit→(Nat→Value)→World→Prop} {w0:World} {F2:LN} {a1 a2 s1 s2 d1 d2:Nat} {oa1 oa2 os1 os2:Oper} {t1 t2:TI} {ds1 ds2:LV} {L:Array Bool} {r:NV}
end
section
variable {R S:Type} {P:Program} {cx:Cx R} {K:cy R S} {l:LO}
end
end Go.Dk
namespace Go.Dk
open Go Go.Li
def R2 (i:Nat) (o:Oper):Oper:=⟨o.dst,o.op,o.type,o.pos,o.after.push ⟨i,.data⟩,o.guard⟩
def sd (i:Nat):Nat→List Oper→List Oper
 | _,[]=>[]
 | 0,o :: l=>R2 i o :: l
 | j+1,o :: l=>o :: sd i j l
theorem C2 (i:Nat):∀ (j:Nat) (l:LO),(sd i j l).length=l.length
 | _,[]=>by cases ‹Nat› <;> rfl
 | 0,_ :: _=>rfl
 | j+1,o :: l=>by unfold sd; rw [List.length_cons,List.length_cons,C2 i j l]
theorem Ae (i:Nat):∀ (j:Nat) (l:LO) (k:Nat),(sd i j l)[k]? = (l[k]?).map fun o=>if k=j then R2 i o else o
 | 0,[],k=>by simp [sd]
 | j+1,[],k=>by simp [sd]
 | 0,o :: l,0=>by simp [sd]
 | 0,o :: l,k+1=>by simp [sd]
 | j+1,o :: l,0=>by simp [sd]
 | j+1,o :: l,k+1=>by
  unfold sd
  rw [List.getElem?_cons_succ,List.getElem?_cons_succ,Ae i j l k]
  simp
section
variable {P:Program} {l:LO} {Q:Exit→Act→World→Prop} {i j:Nat}
theorem GK (tmps:Array Value):yielded (sd i j l).toArray tmps=yielded l.toArray tmps:=by
 funext k
 simp only [yielded]
 rw [List.getElem?_toArray,List.getElem?_toArray,Ae]
 cases l[k]? with
 | none=>rfl
 | some o=>
  simp only [Option.map_some,Option.bind_some]
  by_cases h:k=j
  ·rw [if_pos h]; rfl
  ·rw [if_neg h]
theorem Fj {k:Nat} {K:Act→World→Prop} {a:Act} {w:World}:wpOp P (sd i j l).toArray Q k K a w=wpOp P l.toArray Q k K a w:=by
 unfold wpOp
 rw [GK,List.getElem?_toArray,List.getElem?_toArray,Ae]
 cases l[k]? with
 | none=>rfl
 | some o=>
  simp only [Option.map_some]
  by_cases h:k=j
  ·rw [if_pos h]; rfl
  ·rw [if_neg h]
theorem DA {L:Array Bool} (hL:L.getD i false=true):Region.ready .any (sd i j l).toArray L=Region.ready .any l.toArray L:=by
 unfold Region.ready
 rw [List.size_toArray,List.size_toArray,C2]
 refine List.filter_congr fun k _=>?_
 rw [List.getElem?_toArray,List.getElem?_toArray,Ae]
 cases l[k]? with
 | none=>rfl
 | some o=>
  simp only [Option.map_some]
  by_cases h:k=j
  ·rw [if_pos h]
   simp only [R2,Array.all_push,hL,Bool.or_true,Bool.and_true]
  ·rw [if_neg h]
theorem DB:∀ (fuel:Nat) (L:Array Bool) (a:Act) (w:World),L.getD i false=true→wpAny P .any (sd i j l).toArray Q fuel L a w→wpAny P .any l.toArray Q fuel L a w
 | 0,L,a,w,hL,h=>by
  unfold wpAny at h ⊢
  rw [DA hL] at h
  exact h
 | fuel+1,L,a,w,hL,h=>by
  unfold wpAny at h ⊢
  rw [DA hL] at h
  refine ⟨h.1,fun k hk=>?_⟩
  have h2:=h.2 k hk
  rw [Fj] at h2
  exact wpOp_mono (fun a' w' h'=>DB fuel _ a' w' (getD_set_true hL) h') h2
end
def R3:Oper→Bool
 | ⟨some _,.move _,_,_,_,none⟩=>true
 | _=>false
def IK:List (Nat×Nat)→List Oper→Bool
 | [],_=>true
 | (i,j) :: zs,l=>!(Nat.beq i j) && Nat.blt i l.length && R3 (l.getD i default) && Region.noSelect l.toArray && Region.free .any l.toArray (Array.replicate l.length false) i && (Region.ready .any l.toArray (Array.replicate l.length false)).contains i && (Region.ready .any (sd i j l).toArray (Array.replicate l.length false)).contains i && IK zs (sd i j l)
def Mx:List (Nat×Nat)→List Oper→List Oper
 | [],l=>l
 | (i,j) :: zs,l=>Mx zs (sd i j l)
section
variable {P:Program} {n:Nat} {Q:Exit→(Nat→Value)→World→Prop} {r:NV} {w w0:World}
theorem PI {o:Oper} (h:R3 o=true) (a:Act):o.guard=none∧∃ v,(∀ w,(execOp a.eval o).run P w = .ok (.value v) w)∧∀ w,¬ o.asks P a w:=by
 obtain ⟨d,op,ty,pos,af,g⟩:=o
 cases d <;> cases op <;> cases g <;> first | (cases h; done) | skip
 refine ⟨rfl,_,fun w=>rfl,fun w ha=>?_⟩
 have h1:=ha.1
 exact absurd (show noRoomEvent∈(#[]:Array _) from h1) (by simp)
theorem l3.Xw {i j:Nat} {l:LO} (h1:(!(Nat.beq i j) && Nat.blt i l.length && R3 (l.getD i default) && Region.noSelect l.toArray && Region.free .any l.toArray (Array.replicate l.length false) i && (Region.ready .any l.toArray (Array.replicate l.length false)).contains i && (Region.ready .any (sd i j l).toArray (Array.replicate l.length false)).contains i)=true)
  (hp:∀ c r w,¬ Q (.panic c) r w) (h:l3 P n (sd i j l) Q r w):l3 P n l Q r w:=by
 simp only [Bool.and_eq_true] at h1
 obtain ⟨⟨⟨⟨⟨⟨c1,c2⟩,c3⟩,c4⟩,c5⟩,c6⟩,c7⟩:=h1
 have pN:i≠j:=fun e=>by rw [e,Nat.beq_refl] at c1; cases c1
 have hi:=Ac c2
 have bc:i < l.length:=Nat.lt_of_succ_le (Nat.le_of_ble_eq_true c2)
 intro a g1 g2 g3
 have H:=h a g1 g2 g3
 obtain ⟨hg,v,hv,hn⟩:=PI (P:=P) c3 a
 rw [List.size_toArray,C2] at H
 rw [List.size_toArray]
 obtain ⟨f,hf⟩ : ∃ f,l.length=f+1:=⟨l.length - 1,by omega⟩
 have hw:Region.wanted (l.getD i default) (yielded l.toArray a.tmps)=true:=qu hg
 refine (congrArg (fun k=>wpAny P .any l.toArray _ k _ a _) hf).mpr ?_
 refine wpAny_take (by simpa using hi) c4 (by simpa using c5) (by simpa using c6) (fun c a w h=>(hp _ _ _ h.2.2).elim) (.inl ⟨hw,hv⟩) ?_
 refine DB (i:=i) (j:=j) f _ _ _ ?_ ?_
 ·have:i < (Array.replicate l.length false).size:=by simpa using bc
  simp [Array.getD,bc]
 ·have H2:=(congrArg (fun k=>wpAny P .any (sd i j l).toArray (fun e a' w'=>a'.tmps.size=n∧a'.defers=[]∧Q e (b9 a') w') k (Array.replicate l.length false) a { w with drawn:=w.drawn+1 }) hf).mp H
  have H3:=H2.2 i (by simpa using c7)
  rw [Fj] at H3
  unfold wpOp at H3
  rw [show (l.toArray)[i]? = some (l.getD i default) by simpa using hi] at H3
  simp only [] at H3
  rw [if_pos hw] at H3
  rcases H3 with H3 | H3
  ·unfold Oper.wp at H3
   rw [hv] at H3
   exact H3
  ·exact absurd H3.1 (hn _)
theorem l3.OC:∀ (zs:List (Nat×Nat)) {l:LO},IK zs l=true→(∀ c r w,¬ Q (.panic c) r w)→l3 P n (Mx zs l) Q r w→l3 P n l Q r w
 | [],_,_,_,h=>h
 | (i,j) :: zs,l,hc,hp,h=>by
  unfold IK at hc
  rw [Bool.and_eq_true] at hc
  exact l3.Xw hc.1 hp (l3.OC zs hc.2 hp h)
theorem Kr (k:Nat) {l:LO} (hd:cg n l=true) (hp:((l.take k).all fun o=>vf o.op)=true) (hB:Region.lexTailB .any l.toArray k=true)
  (h:QL P (ak [] w) l (l.take k) r fun r'=>∀ w',ak [] w w'→WL P l (l.drop k) r' w' (Q .normal)):l3 P n l Q r w:=by
 intro a h1 h2 h3
 have zq:ak [] w { w with drawn:=w.drawn+1 }:=ak.drew _ _
 have pY:wpStill P l.toArray { w with drawn:=w.drawn+1 } (fun a'=>wpList P l.toArray (fun e a' w'=>a'.tmps.size=n∧a'.defers=[]∧Q e (b9 a') w') (l.drop k) a' { w with drawn:=w.drawn+1 }) (l.take k) a:=by
  refine QL.still (n:=n) (C:=ak [] w) zq hd (l.take k) a (xY hd fun o ho=>List.mem_of_mem_take ho) hp h1 h2 (by rw [h3]; exact h) _ ?_
  intro a' g1 g2 g3
  exact WL.list hd _ _ _ (xY hd fun o ho=>List.mem_of_mem_drop ho) g1 g2 (g3 _ zq)
 unfold Region.lexTailB at hB
 simp only [Bool.and_eq_true,decide_eq_true_eq,List.size_toArray] at hB
 obtain ⟨⟨⟨⟨Xx,hn⟩,hs⟩,hc⟩,Mn⟩:=hB
 have OD:(l.take k).length=k:=by rw [List.length_take]; omega
 have Xy:HeadInv .any l.toArray k (Array.replicate l.length false):=
  ⟨by simp,fun j oj _ hl=>(by rw [getD_replicate_false] at hl; cases hl),fun t _ ht=>getD_in (by simpa using ht) (getD_replicate_false _ _)⟩
 have H:=wpAnyL_lex (md:=.any) (g:=l.length - k) Xx hs hc (by simpa using hn) (l.take k) 0 _ a (fun j hj=>by
  rw [OD] at hj
  rw [List.getElem?_take_of_lt hj,Nat.zero_add,List.getElem?_toArray]) (by rw [OD,Nat.zero_add]) Xy (by rw [OD]; exact Mn) pY
 have H2:=wpAny_of_head (Q':=fun e a' w'=>a'.tmps.size=n∧a'.defers=[]∧Q e (b9 a') w') (g:=l.length - k) (fun L a' hL=>by
  have H3:=wpAny_of_seq (md:=.any) (Q':=fun e a' w'=>a'.tmps.size=n∧a'.defers=[]∧Q e (b9 a') w') (l.drop k) k L a' { w with drawn:=w.drawn+1 } (fun j=>by rw [List.getElem?_drop,List.getElem?_toArray]) (by rw [List.length_drop]; exact hL.1) hL.2
  rwa [List.length_drop] at H3) _ _ _ H
 rw [OD,show k+(l.length - k)=l.length by omega] at H2
 rw [List.size_toArray]
 exact H2
end
section
variable {R S:Type} {P:Program} {cx:Cx R} {K:cy R S}
theorem U3 {id:Nat} (zs:List (Nat×Nat)) (k:Nat) {l l' ops tl:LO} {Γ:QE} {fr:Fr} {m:Option (Out S R)} (hl:l'=Mx zs l) (hB:(P.follows .mixedOrders && IK zs l && cg cx.n l' && ((l'.take k).all fun o=>vf o.op) && Region.lexTailB .any l'.toArray k)=true) (ho:ops=l'.take k) (ht:tl=l'.drop k)
  (h:D P cx (.o true l' ops (.h l' tl K) Γ fr m)):Bx (n8 P cx (.dr id l K Γ fr m)):=by
 simp only [Bool.and_eq_true] at hB
 obtain ⟨⟨⟨⟨h1,h2⟩,h3⟩,h4⟩,h5⟩:=hB
 subst ho ht hl
 rw [nw]
 intro B o ho r w ha hs
 exact l3.W h1 (l3.OC zs h2 (fun c r w h=>lv c h) (Kr k h3 h4 h5 (h.sound B o ho r w ha hs)))
end
end Go.Dk
namespace Go.Dk
open Go Go.Li
section
variable {B:Bs} {P:Program} {Z Z':Nat→Prop} {w:World} {Fd F1:LN}
theorem IL {f:FuncId} {ow:Bool} {vs:LV} {Δ:QE} {β V:Type} {mo:Option β} {rt:β→V→List Value} {ps:β→V→List ao} {y:β} (hc:N8 P f ow vs Δ β V mo rt ps) (hl:HL Z' w Δ Fd) (bc:∀ b∈F1,b < w.heap.size) (kh:Gd B Z (Fd++F1) w)
  (hz:∀ b,Z b→Z' b) (Ew:∀ b,Z' b→Z b∨b∈F1) (hm:∀ v,qj (ps y v)=true) (hy:mo=some y) :
  Calls P f vs.toArray w fun e w'=>∃ v F2,e = .returned (mr (rt y v))∧ak Fd w w'∧HL Z w' (ps y v) F2∧Gd B Z (F2++F1) w':=by
 have cq:=List.nodup_append.1 kh.nd
 refine (hc.2 w Z' Fd hl cq.1 (fun b hb QP=>(Ew b QP).elim (kh.apart b (List.mem_append_left _ hb)) (fun h=>cq.2.2 b hb b h rfl)) (fun b hb=>(Ew b hb).elim (kh.na b) (bc b)) y hy).mono ?_
 rintro e w' ⟨v,he,Z2,F2,qy,iH⟩
 have hC:ak Fd w w':=iH.iz
 refine ⟨v,F2,he,hC,vb (hm v) qy,?_⟩
 refine ⟨List.nodup_append.2 ⟨iH.nd,cq.2.1,?_⟩,?_,fun b hb=>Nat.lt_of_lt_of_le (kh.na b hb) hC.size,?_,kh.sZ,kh.sA,?_⟩
 ·rintro b hb c yR rfl
  rcases iH.low b hb with h | h
  ·exact cq.2.2 b h b yR rfl
  ·exact absurd (bc b yR) (Nat.not_lt.2 h)
 ·intro b hb Wj
  rcases List.mem_append.1 hb with hb | hb
  ·exact iH.apart b hb (iH.sZ b (hz b Wj))
  ·exact kh.apart b (List.mem_append_right _ hb) Wj
 ·intro b hb
  rcases List.mem_append.1 hb with hb | hb
  ·rcases iH.low b hb with h | h
   ·exact kh.low b (List.mem_append_left _ h)
   ·exact .inr (Nat.le_trans kh.iz.size h)
  ·exact kh.low b (List.mem_append_right _ hb)
 ·exact kh.iz.then hC fun i hi=>kh.low i (List.mem_append_left _ hi)
end
section
variable {P:Program} {S:World→Prop}
theorem zp.mono {K K':(Nat→Value)→Prop} (hk:∀ r,K r→K' r):∀ {ops:LO} {r:NV},zp P S ops r K→zp P S ops r K'
 | [],_,h=>hk _ h
 | _ :: _,_,⟨hg,v,h1,h2⟩=>⟨hg,v,h1,zp.mono hk h2⟩
end
inductive QX {R S:Type} (P:Program) (cx:Cx R) (K:cy R S) (nn:LO) (rs:List (Nat×List Value×TypeId)) (pe:QE):List ao→List ao→List Oper→Fr→Option (Out S R)→Prop
 | pe {e:ao} {Δ Γ:QE} {ops:LO} {fr:Fr} {m:Option (Out S R)} (h:QX P cx K nn rs pe Δ (e :: Γ) ops fr m):QX P cx K nn rs pe (e :: Δ) Γ ops fr m
 | nil {Γ:QE} {fr:Fr} {m:Option (Out S R)} {sc:List (Nat×List Value×TypeId)} (h:SQ P Γ fr nn rs sc) (k:D P cx (.p [] pe fr Γ fun fr Γ=>.p [] (Eb sc) fr Γ fun fr Γ=>.n K Γ fr m)):QX P cx K nn rs pe [] Γ [] fr m
 | JM {d n:Nat} {t ty:TI} {x:OO} {a:Addr} {ds:LV} {pos:String} {af:Array Edge} {ops:LO} {Γ:QE} {fr:Fr} {m:Option (Out S R)} [ht:LK P t (some n)] (hx:bd fr x=some (.pointer (some a))) (hw:sE Γ a n ds) (h:QX P cx K nn rs pe [] Γ ops ((d,.agg ds.toArray) :: fr) m) :
   QX P cx K nn rs pe [] Γ (⟨some d,.load t x,ty,pos,af,none⟩ :: ops) fr m
 | Ep {α V:Type} {d n:Nat} {x y:OO} {v:Value} {k:IntKind} {j:Int} {t ty:TI} {S':ag α} {cl:α→V→List Value} {en:α→V→List ao} {xs:List α} {pos:String} {af:Array Edge} {ops:LO} {Γ Γx:QE} {fr:Fr} {f:α→Option (Out S R)} [ht:El P t n] (hx:bd fr x=some v) (hy:bd fr y=some (.int k j))
   (hr:n5 Γ v false false (pU S') xs rn Γx) (hs:Dm S' V cl en) (hn:S'.size=n) (h:∀ z u,QX P cx K nn rs pe (.aw (ch v n j) (cl z u) :: en z u) Γ ops ((d,.pointer (some (ch v n j))) :: fr) (f z)) :
   QX P cx K nn rs pe [] Γ (⟨some d,.indexAddr t x y,ty,pos,af,none⟩ :: ops) fr (idx xs j>>=f)
 | lc {d:Nat} {t ty:TI} {x:OO} {a:Addr} {u:Value} {pos:String} {af:Array Edge} {ops:LO} {Γ:QE} {fr:Fr} {m:Option (Out S R)} [ht:LK P t none] (hx:bd fr x=some (.pointer (some a))) (hw:sz Γ a u) (h:QX P cx K nn rs pe [] Γ ops ((d,u) :: fr) m) :
   QX P cx K nn rs pe [] Γ (⟨some d,.load t x,ty,pos,af,none⟩ :: ops) fr m
 | val {d:Nat} {op:Op} {ty:TI} {u:Value} {pos:String} {af:Array Edge} {ops:LO} {Γ:QE} {fr:Fr} {m:Option (Out S R)} (hv:VQ P Γ fr op u) (h:QX P cx K nn rs pe [] Γ ops ((d,u) :: fr) m):QX P cx K nn rs pe [] Γ (⟨some d,op,ty,pos,af,none⟩ :: ops) fr m
section
variable {R S:Type} {P:Program} {cx:Cx R} {K:cy R S} {nn:LO} {rs:List (Nat×List Value×TypeId)} {pe:QE} {Z:Nat→Prop}
theorem QX.sound {w0:World} {H:LN} (hz:∀ b∈H,¬ Z b) {Δ Γ:QE} {ops:LO} {fr:Fr} {m:Option (Out S R)} (h:QX P cx K nn rs pe Δ Γ ops fr m):∀ {o:Out S R} {F:LN},m=some o→(∀ b∈H,b ∉ F)→SA Z w0 (Δ.reverse++Γ) [] F→∀ r,cn r fr→
  zp P (ak H w0) ops r fun r'=>∃ Γ' pd sc m' F',F'.Perm F∧m'=some o∧cn r' pd∧SA Z w0 Γ' [] F'∧SQ P Γ' pd nn rs sc∧D P cx (.p [] pe pd Γ' fun fr Γ=>.p [] (Eb sc) fr Γ fun fr Γ=>.n K Γ fr m'):=by
 induction h with
 | @pe e Δ Γ ops fr m _ ih=>
  intro o F hm hF hS r ha
  refine ih hm hF ?_ r ha
  rw [List.reverse_cons,List.append_assoc] at hS
  exact hS
 | @nil Γ fr m sc h k=>exact fun hm hF hS r ha=>⟨Γ,fr,sc,m,_,.refl _,hm,ha,hS,h,k⟩
 | @val d op ty u pos af ops Γ fr m hv _ ih=>
  intro o F hm hF hS r ha
  refine ⟨rfl,u,fun w hC=>?_,ih hm hF hS _ (aq ha)⟩
  exact hv.sound ((SA.dn hC hz (fun _ _=>List.not_mem_nil) hF hS)) ha (some d) ty pos af none w (ak.refl _ _)
 | @JM d n t ty x a ds pos af ops Γ fr m ht hx hw _ ih=>
  intro o F hm hF hS r ha
  refine ⟨rfl,_,fun w hC=>?_,ih hm hF hS _ (aq ha)⟩
  obtain ⟨h1,h2⟩:=hw.sound (SA.dn hC hz (fun _ _=>List.not_mem_nil) hF hS)
  exact Lg ht.h h1 (aS ha hx) h2 w (ak.refl _ _)
 | @lc d t ty x a u pos af ops Γ fr m ht hx hw _ ih=>
  intro o F hm hF hS r ha
  refine ⟨rfl,u,fun w hC=>?_,ih hm hF hS _ (aq ha)⟩
  exact Ld ht.h (hw.sound (SA.dn hC hz (fun _ _=>List.not_mem_nil) hF hS)) (aS ha hx) w (ak.refl _ _)
 | @Ep α V d n x y v k j t ty S' cl en xs pos af ops Γ Γx fr f ht hx hy hr pM hn _ ih=>
  intro o F hm hF hS r ha
  replace pM:SO S' V cl en:=by cases pM; assumption
  obtain ⟨z,Ks,hm⟩:=bind_some hm
  replace Ks:=pt Ks
  obtain ⟨e,i,h1,h2,h3⟩:=ht.h
  obtain ⟨de,_,⟨⟨f0,Dp,r7⟩,_⟩,_⟩:=hr.sound hS
  have hZ:∀ b∈f0,Z b:=fun b hb=>(r7 b hb).elim id id
  obtain ⟨⟨a,c,hv⟩,bc,cs,f1,df,JT,ji⟩:=td Dp j Ks.1 Ks.2
  have tJ:(pU S').size=n:=hn
  rw [tJ] at ji
  obtain ⟨u,rfl,pX⟩:=pM.op df.2
  have hblk:Z (ch v n j).block:=by
   obtain ⟨base,cap,kj,fi⟩:=Dp
   rcases fi with ⟨rfl,_⟩ | ⟨b,off,cr,e',fz,f',rfl,_,rfl,_⟩
   ·simp at bc; omega
   ·obtain rfl:v = .slice (some ⟨b,off,none⟩) xs.length cap:=by simpa using kj
    have:(ch (.slice (some ⟨b,off,none⟩) xs.length cap) n j).block=b:=by unfold ch; rw [tG]
    rw [this]; exact hZ b (by simp)
  have Ez:fact Z w0 [] (.aw (ch v n j) (cl z u)):=⟨fun i u' hi=>ji i u' hi,fun _=>hblk⟩
  have dp:HL Z w0 (.aw (ch v n j) (cl z u) :: en z u) []:=.fact Ez (tc (pX Z fun b hb=>hZ b (JT b hb)))
  obtain ⟨F',hp,gy⟩:=dp.build hS
  have Wl:F'.Perm F:=by simpa using hp
  refine ⟨rfl,.pointer (some (ch v n j)),fun w hC=>?_,?_⟩
  ·rw [kn h1 h2 ((aS ha hx).trans hv) (aS ha hy) Ks.1 (by omega),h3,hv]
   rfl
  ·have hq:=ih z u (F:=F') hm (fun b hb h=>hF b hb (Wl.mem_iff.1 h)) gy _ (aq ha)
   refine zp.mono ?_ hq
   rintro r' ⟨Γ',pd,sc,m',F3,q0,q1,q2,q3,q4,q5⟩
   exact ⟨Γ',pd,sc,m',F3,q0.trans Wl,q1,q2,q3,q4,q5⟩
end
inductive R4 (P:Program) (f:FuncId):Prop
 | mk [h:bo P f]:R4 P f
theorem FO.hl {Z:Nat→Prop} {w:World} {Δ:QE} (h:FO Δ):∀ {F:LN},HL Z w Δ F→F=[]:=by
 induction h with
 | nil=>intro F h; cases h; rfl
 | rd _ ih=>intro F h; cases h with | own h k=>exact h.elim | fact h k=>exact ih k
 | aw _ ih=>intro F h; cases h with | own h k=>exact h.elim | fact h k=>exact ih k
def Bf (l:LO) (nx:Array Bool→Bool):List Nat→Array Bool→Bool
 | [],L=>nx L
 | i :: qs,L=>Nat.blt i l.length && (Region.ready .any l.toArray L).contains i && Region.free .any l.toArray L i && Bf l nx qs (L.setIfInBounds i true)
section
variable {P:Program} {n:Nat} {l:LO} {Q:Exit→(Nat→Value)→World→Prop} {S:World→Prop}
theorem Hw.Kt {nx:Array Bool→Bool} {m:Nat} (hd:cg n l=true) (hs:Region.noSelect l.toArray=true) (hp:∀ c r w,¬ Q (.panic c) r w) {w:World} (hS:S w) {K:(Nat→Value)→Prop} (h:∀ L r,nx L=true→K r→Hw P n l Q S m L r w) :
  ∀ (qs:LN) (L:Array Bool) (r:NV),Bf l nx qs L=true→zp P S (pick l qs) r K→Hw P n l Q S (qs.length+m) L r w:=by
 intro qs
 induction qs with
 | nil=>intro L r hc hv; rw [List.length_nil,Nat.zero_add]; exact h L r hc hv
 | cons i qs ih=>
  intro L r hc hv
  unfold Bf at hc
  simp only [Bool.and_eq_true] at hc
  obtain ⟨⟨⟨c1,c2⟩,c3⟩,c4⟩:=hc
  obtain ⟨hg,v,h1,h2⟩:=hv
  have:=Hw.take hd (Ac c1) hs c3 c2 hp hg h1 hS (ih _ _ c4 h2)
  rwa [show qs.length+m+1=(i :: qs).length+m by simp; omega] at this
theorem Hw.U4 {k i:Nat} {L:Array Bool} {o:Oper} {r:NV} {w:World} (hd:cg n l=true) (hi:l[i]? = some o) (hr:Region.ready .any l.toArray L=[i]) (hg:o.guard=none) (hy:ee P o r w fun v w'=>S w'∧Hw P n l Q S k (L.setIfInBounds i true) (du r o.dst v) w'):Hw P n l Q S (k+1) L r w:=by
 intro a h1 h2 h3
 refine wpAnyH_all hr (by simp) fun j hj=>?_
 obtain rfl:j=i:=by simpa using hj
 unfold wpOp
 rw [show (l.toArray)[j]? = some o by simpa using hi]
 simp only []
 rw [if_pos (qu hg)]
 refine .inl (ee.wp (K:=fun v w'=>S w'∧Hw P n l Q S k (L.setIfInBounds j true) (du r o.dst v) w') (by rw [h3]; exact hy) fun v w' hv=>⟨hv.1,hv.2 _ (by rw [fv]; exact h1) (by rw [dt]; exact h2) (by rw [ie (tS hd hi h1),h3])⟩)
end
section
variable {R S:Type} {P:Program} {cx:Cx R} {K:cy R S} {l:LO}
theorem Xz {id:Nat} (q1:LN) (c:Nat) (q2 ss:LN) (fz:QE) (e:TI) {Fk B5 nn:LO} {d:Nat} {f:FuncId} {xs:List Operand} {aw:Array TypeId} {ty:TI} {pos:String} {af:Array Edge} {Γ Γz Γa Γ1 Δ:QE} {b:Nat} {cs:LV} {fr DC:Fr} {vs:LV} {rs:List (Nat×List Value×TypeId)} {β V:Type} {mo:Option β} {rt:β→V→List Value} {ps:β→V→List ao} {g:β→Option (Out S R)}
  (hB:(P.follows .mixedOrders && cg cx.n l && Region.noSelect l.toArray && Bf l (fun L=>wu l L [c] && Bf l (fun L=>Ff l (Fg l) ss L) q2 (L.setIfInBounds c true)) q1 (Array.replicate l.length false) && Nat.beq l.length (q1.length+(q2.length+ss.length+1)))=true)
  (hz:EF Γ fz Γz) (RM:FO fz) (h0:dj Γz (.row b cs e) Γa) (hs:nn=pick l ss) (h3:RO fr nn Γa rs Γ1) (hq:Fk=pick l q1) (h2:QA P Γ1 (.q Fk fr) DC)
  (hc:l[c]? = some ⟨some d,.call ⟨.value (.func f),xs.toArray,aw⟩,ty,pos,af,none⟩) (hf:R4 P f) (hx:ra DC xs=some vs) (sa:Ct P f true mo vs Δ rt ps) (h5:EO [.row b cs e] Δ []) (h6:ER true Γ1 Δ) (AJ:B5=pick l q2)
  (k:∀ y v,QX P cx K nn rs (ps y v) [] Γ1 B5 ((d,mr (rt y v)) :: DC) (g y)):Bx (n8 P cx (.dr id l K Γ fr (mo>>=g))):=by
 simp only [Bool.and_eq_true] at hB
 obtain ⟨⟨⟨⟨b1,b2⟩,b3⟩,b4⟩,b5⟩:=hB
 rw [nw]
 intro B o ho r w ha pY
 obtain ⟨y,hy,ho⟩:=bind_some ho
 obtain ⟨Z0,F0,uq,hG0⟩:=pY
 obtain ⟨Fd,Fz,Zn,yN,Wm,rq⟩:=hz.sound uq
 obtain rfl:=RM.hl yN
 rw [List.nil_append] at rq
 have Wn:Gd B (pV Z0 Zn) Fz w:=Gd.freeze (hG0.perm rq) fun x hx=>uq.lt x (rq.mem_iff.1 (List.mem_append_right _ hx))
 generalize pV Z0 Zn=Z at Wm Wn yN
 obtain ⟨f0,Fa,hpa,⟨rfl,bb⟩,hSa⟩:=h0.sound Wm
 obtain ⟨F1,qz,hR,fy⟩:=h3.sound hSa
 have o6:([b]++(rs.map (·.1)++F1)).Perm Fz:=(qz.append_left [b]).trans hpa
 have hG:=Wn.perm o6
 have cq:=List.nodup_append.1 hG.nd
 have R5:=List.nodup_append.1 cq.2.1
 have Hy:ak [] w { w with drawn:=w.drawn+1 }:=ak.drew _ _
 have kz:Gd B Z ([b]++(rs.map (·.1)++F1)) { w with drawn:=w.drawn+1 }:=⟨hG.nd,hG.apart,hG.na,hG.low,hG.sZ,hG.sA,hG.iz.trans (Hy.mono fun _ h=>nomatch h)⟩
 have qA:=bb.fx Hy
 have Fm:=fy.fx Hy
 have Ko:Rows { w with drawn:=w.drawn+1 } rs:=fun p hp=>(hR p hp).fx Hy
 refine l3.W b1 (Hw.start (S:=ak ([b]++rs.map (·.1)) { w with drawn:=w.drawn+1 }) ?_)
 generalize { w with drawn:=w.drawn+1 } = w0 at kz qA Fm Ko
 have R6:∀ x∈[b]++rs.map (·.1),¬ Z x:=fun x hx=>hG.apart x (by rw [← List.append_assoc]; exact List.mem_append_left _ hx)
 have Wo:∀ x∈[b]++rs.map (·.1),x ∉ F1:=fun x hx hm=>by
  rcases List.mem_append.1 hx with hx | hx
  ·exact cq.2.2 x hx x (List.mem_append_right _ hm) rfl
  ·exact R5.2.2 x hx x hm rfl
 have Km:∀ {G:QE} {F:LN},F.Perm F1→SA Z w0 G [] F→∀ w',ak ([b]++rs.map (·.1)) w0 w'→SA Z w' G [] F:=fun hp h w' hC=>h.dn hC R6 (fun _ _=>List.not_mem_nil) fun x hx hm=>Wo x hx (hp.mem_iff.1 hm)
 rw [show l.length=q1.length+(q2.length+ss.length+1) from Nat.eq_of_beq_eq_true b5] at b4 ⊢
 subst hq hs AJ
 refine Hw.Kt (K:=fun r'=>cn r' DC) b2 b3 (fun c r w h=>lv c h) (ak.refl _ _) (fun L r' hL fi=>?_) q1 _ r b4 (QA.sound (fun w' hC=>⟨[],F1,Km (.refl _) Fm w' hC⟩) h2 r ha)
 simp only [Bool.and_eq_true] at hL
 obtain ⟨fn, cc, f1, f2, f3⟩ : ∃ fn c, P.funcs[f]? = some fn ∧ fn.body = some c ∧ (fn.name == "runtime.NumGoroutine") = false := by cases hf with | mk => rename_i h; exact h.h
 refine Hw.U4 b2 hc (R1 hL.1) rfl ?_
 unfold ee
 rw [xN f1 f2 f3,pT fi hx]
 rw [qf] at sa
 obtain ⟨Fd,F',k1,k2,k3⟩:=h5.sound (Z:=Z) (w:=w0) (F:=[b]) (by have:=(HL.own (Z:=Z) (w:=w0) (f:=[b]) (e:=.row b cs e) ⟨rfl,qA⟩ .nil).front (Γ:=[]) (F:=[]) rfl; simpa using this)
 have xe:F'=[]:=by cases k2; rfl
 subst xe
 rw [List.append_nil] at k3
 have kh:Gd B Z (Fd++(rs.map (·.1)++F1)) w0:=kz.perm (k3.append_right _)
 have vj:HL (fun x=>Z x∨x∈F1) w0 Δ Fd:=h6.sound (fun _ h=>.inl h) (fun _ _ h=>.inr h) Fm k1
 refine (IL sa vj (F1:=rs.map (·.1)++F1) (fun x hx=>?_) kh (fun _ h=>.inl h) (fun x hx=>hx.imp (fun h=>h) fun h=>List.mem_append_right _ h) (sa.1 rfl y) hy).mono ?_
 ·rcases List.mem_append.1 hx with hx | hx
  ·obtain ⟨p,hp,rfl⟩:=List.mem_map.1 hx
   exact (Ko p hp).lt
  ·exact Fm.lt x hx
 rintro e' w2 ⟨v,F2,he,Kn,hps,tP⟩
 have hFd:Fd=[b]:=List.perm_singleton.1 k3
 subst hFd
 have IN:ak ([b]++rs.map (·.1)) w0 w2:=Kn.mono fun x hx=>List.mem_append_left _ hx
 refine ⟨_,he,IN,?_⟩
 have Q5:Rows w2 rs:=fun p hp=>(Ko p hp).dn Kn fun hb=>cq.2.2 b (by simp) p.1 (List.mem_append_left _ (List.mem_map_of_mem (f:=fun q=>q.1) hp)) (List.mem_singleton.1 hb).symm
 refine Hw.Kt b2 b3 (fun c r w h=>lv c h) IN (fun L2 r2 J8 OF=>?_) q2 _ _ hL.2 (QX.sound R6 (k y v) ho Wo Fm _ (aq fi))
 obtain ⟨Γ',pd,sc,m',F3,p0,p1,p2,p3,p4,p5⟩:=OF
 refine SQ.sound (m:=0) b2 p2 (fun w' hC=>Km p0 p3 w' hC) p4 ss L2 w2 rfl J8 IN Q5 R5.1 (fun x hx=>List.mem_append_right _ hx) fun L3 w3 hN _ OG hR3=>Hw.done (by simpa [Fg] using hN) ?_
 have XA:=List.nodup_append.1 tP.nd
 have XB:HL Z w3 (ps y v) F2:=hps.Om OG (fun x hx=>R6 x (List.mem_append_right _ hx)) fun x hx hm=>XA.2.2 x hx x (List.mem_append_left _ hm) rfl
 have XC:ak ([b]++rs.map (·.1)) w0 w3:=IN.trans (OG.mono fun x hx=>List.mem_append_right _ hx)
 obtain ⟨Fa1,s1,s2⟩:=XB.build (Km p0 p3 w3 XC)
 obtain ⟨Fa2,s3,s4⟩:=(Fh hR3).build s2
 rw [p4.fst] at s3
 have iH:Gd B Z (F2++(rs.map (·.1)++F1)) w3:=⟨tP.nd,tP.apart,fun x hx=>Nat.lt_of_lt_of_le (tP.na x hx) OG.size,tP.low,tP.sZ,tP.sA,tP.iz.then OG fun x hx=>tP.low x (List.mem_append_right _ (List.mem_append_left _ hx))⟩
 refine p5.sound B o p1 r2 w3 (by simpa using p2) ⟨Z,Fa2,s4,iH.perm ?_⟩
 refine s3.trans ((s1.append_left _).trans ?_)
 refine ((p0.append_left F2).append_left (rs.map (·.1))).trans ?_
 rw [← List.append_assoc,← List.append_assoc]
 exact List.perm_append_comm.append_right F1
theorem U5 {id:Nat} (q1:LN) (c:Nat) (q2 ss:LN) (tz:Nat) {α:Type} (E:ag α) (e:TI) {zv:Value} {zx:List α} {Fk B5 nn:LO} {d:Nat} {f:FuncId} {xs:List Operand} {aw:Array TypeId} {ty:TI} {pos:String} {af:Array Edge} {Γ Γz Γa Γ1 Δ:QE} {b:Nat} {cs:LV} {fr DC:Fr} {vs:LV} {rs:List (Nat×List Value×TypeId)} {β V:Type} {mo:Option β} {rt:β→V→List Value} {ps:β→V→List ao} {g:β→Option (Out S R)}
  (hB:(P.follows .mixedOrders && cg cx.n l && Region.noSelect l.toArray && Bf l (fun L=>wu l L [c] && Bf l (fun L=>Ff l (Fg l) ss L) q2 (L.setIfInBounds c true)) q1 (Array.replicate l.length false) && Nat.beq l.length (q1.length+(q2.length+ss.length+1)))=true)
  (_hzv:look fr tz=some zv) (hz:EF Γ [.rd false (bE E) zv zx] Γz) (h0:dj Γz (.row b cs e) Γa) (hs:nn=pick l ss) (h3:RO fr nn Γa rs Γ1) (hq:Fk=pick l q1) (h2:QA P Γ1 (.q Fk fr) DC)
  (hc:l[c]? = some ⟨some d,.call ⟨.value (.func f),xs.toArray,aw⟩,ty,pos,af,none⟩) (hf:R4 P f) (hx:ra DC xs=some vs) (sa:Ct P f true mo vs Δ rt ps) (h5:EO [.row b cs e] Δ []) (h6:ER true Γ1 Δ) (AJ:B5=pick l q2)
  (k:∀ y v,QX P cx K nn rs (ps y v) [] Γ1 B5 ((d,mr (rt y v)) :: DC) (g y)):Bx (n8 P cx (.dr id l K Γ fr (mo>>=g))):=
 Xz (id:=id) q1 c q2 ss [.rd false (bE E) zv zx] e hB hz (.rd .nil) h0 hs h3 hq h2 hc hf hx sa h5 h6 AJ k
end
section
variable {R:Type} {P:Program} {cx:Cx R}
end
end Go.Dk
namespace Go.Dk
open Go Go.Li
section
variable {P:Program} {n:Nat} {l:LO} {Q:Exit→(Nat→Value)→World→Prop} {S S':World→Prop}
theorem AM {md:Region.Mode} {ops:Array Oper} {Q:Exit→Act→World→Prop} (hS:∀ w,S' w→S w):∀ (k:Nat) (L:Array Bool) (a:Act) (w:World),wpAnyH P md ops Q S' k L a w→wpAnyH P md ops Q S k L a w
 | 0,_,_,_,h=>h
 | k+1,_,_,_,h=>⟨h.1,fun i hi=>wpOp_mono (fun a' w' h'=>⟨hS _ h'.1,AM hS k _ a' w' h'.2⟩) (h.2 i hi)⟩
theorem Hw.mono {k:Nat} {L:Array Bool} {r:NV} {w:World} (hS:∀ w,S' w→S w) (h:Hw P n l Q S' k L r w):Hw P n l Q S k L r w:=
 fun a h1 h2 h3=>AM hS _ _ _ _ (h a h1 h2 h3)
theorem Hw.Ec {k i:Nat} {L:Array Bool} {o:Oper} {v:Value} {r:NV} {w:World} (hd:cg n l=true) (hi:l[i]? = some o) (hs:Region.noSelect l.toArray=true) (hf:Region.free .any l.toArray L i=true) (hr:(Region.ready .any l.toArray L).contains i=true)
  (hp:∀ c r w,¬ Q (.panic c) r w) (hg:Region.wanted o (yl l r)=true) (hy:∀ w,S w→(execOp (ev r) o).run P w = .ok (.value v) w) (hS:S w) (h:Hw P n l Q S k (L.setIfInBounds i true) (du r o.dst v) w):Hw P n l Q S (k+1) L r w:=by
 intro a h1 h2 h3
 refine wpAnyH_take (v:=v) (by simpa using hi) hs hf hr (fun c a w h=>(hp _ _ _ h.2.2).elim) (.inl ⟨?_,fun w hw=>?_⟩) hS (h _ (by rw [fv]; exact h1) (by rw [dt]; exact h2) (by rw [ie (tS hd hi h1),h3]))
 ·rw [tB (by rw [h1]; exact hd),h3]
  exact hg
 ·rw [nm,h3]
  exact hy w hw
theorem Hw.OH {k i:Nat} {L:Array Bool} {o:Oper} {r:NV} {w:World} (hd:cg n l=true) (hi:l[i]? = some o) (hs:Region.noSelect l.toArray=true) (hf:Region.free .any l.toArray L i=true) (hr:(Region.ready .any l.toArray L).contains i=true)
  (hp:∀ c r w,¬ Q (.panic c) r w) (hg:Region.wanted o (yl l r)=false) (hS:S w) (h:Hw P n l Q S k (L.setIfInBounds i true) (du r o.dst undef) w):Hw P n l Q S (k+1) L r w:=by
 intro a h1 h2 h3
 refine wpAnyH_take (v:=undef) (by simpa using hi) hs hf hr (fun c a w h=>(hp _ _ _ h.2.2).elim) (.inr ⟨?_,rfl⟩) hS (h _ (by rw [fv]; exact h1) (by rw [dt]; exact h2) (by rw [ie (tS hd hi h1),h3]))
 rw [tB (by rw [h1]; exact hd),h3]
 exact hg
theorem Hw.OI {k i:Nat} {L:Array Bool} {o:Oper} {r:NV} {w:World} {f:FuncId} {args:Array Value} (hd:cg n l=true) (hi:l[i]? = some o) (hr:Region.ready .any l.toArray L=[i]) (hg:Region.wanted o (yl l r)=true) (hy:(execOp (ev r) o).run P w = .ok (.enter f args) w)
  (hc:Calls P f args w fun e w'=>∃ v,e = .returned v∧S w'∧Hw P n l Q S k (L.setIfInBounds i true) (du r o.dst v) w'):Hw P n l Q S (k+1) L r w:=by
 intro a h1 h2 h3
 refine wpAnyH_all hr (by simp) fun j hj=>?_
 obtain rfl:j=i:=by simpa using hj
 unfold wpOp
 rw [show (l.toArray)[j]? = some o by simpa using hi]
 simp only []
 rw [tB (by rw [h1]; exact hd),h3,if_pos hg]
 refine .inl ?_
 unfold Oper.wp
 rw [nm,h3,hy]
 refine Calls.mono hc fun e w' he=>?_
 obtain ⟨v,rfl,hS,h⟩:=he
 exact ⟨hS,h _ (by rw [fv]; exact h1) (by rw [dt]; exact h2) (by rw [ie (tS hd hi h1),h3])⟩
end
def gW (l:LO) (fr:Fr):Option (Nat×Bool)→Option Bool
 | none=>some true
 | some (j,t)=>match (l[j]?).bind (·.dst) with
  | some d=>match look fr d with | some (.bool b)=>some (b == t) | _=>none
  | none=>none
theorem se {l:LO} {fr:Fr} {r:NV} {o:Oper} {b:Bool} (ha:cn r fr) (h:gW l fr o.guard=some b):Region.wanted o (yl l r)=b:=by
 cases hg:o.guard with
 | none=>rw [hg] at h; cases h; unfold Region.wanted; rw [hg]
 | some p=>
  obtain ⟨j,t⟩:=p
  rw [hg] at h
  unfold gW at h
  dsimp only at h
  cases hd:(l[j]?).bind (·.dst) with
  | none=>rw [hd] at h; cases h
  | some d=>
   rw [hd] at h
   dsimp only at h
   cases hl:look fr d with
   | none=>rw [hl] at h; cases h
   | some v=>
    rw [hl] at h
    cases v <;> try (cases h; done)
    rename_i x
    cases h
    refine qG hg ?_
    unfold yl
    rw [hd]
    simp only [ha d _ hl]
section
variable {R S:Type} {P:Program} {cx:Cx R} {K:cy R S} {l:LO}
def OJ (P:Program) (cx:Cx R) (K:cy R S) (l:LO) (k:Nat) (L:Array Bool) (Γ:QE) (fr:Fr) (m:Option (Out S R)):Prop:=
 ∀ (B:Bs) (o:Out S R),m=some o→∀ r w,cn r fr→St B Γ w→Hw P cx.n l (j8 P cx B K o) (ak [] w) k L r w
noncomputable def FS (P:Program) (cx:Cx R) (K:cy R S) (l:LO) (k:Nat) (L:Array Bool) (Γ:QE) (fr:Fr) (m:Option (Out S R)):Prop:=Bx (OJ P cx K l k L Γ fr m)
theorem uH {k:Nat} {L:Array Bool} {Γ:QE} {fr:Fr} {m:Option (Out S R)}:FS P cx K l k L Γ fr m=OJ P cx K l k L Γ fr m:=nw
noncomputable def FQ (P:Program) (cx:Cx R) (K:cy R S) (l:LO) (k i:Nat) (o:Oper) (L:Array Bool) (Γ:QE) (fr:Fr) (m:Option (Out S R)):Prop:=Bx (l[i]? = some o→OJ P cx K l (k+1) L Γ fr m)
theorem xZ {k i:Nat} {oo:Oper} {L:Array Bool} {Γ:QE} {fr:Fr} {m:Option (Out S R)}:FQ P cx K l k i oo L Γ fr m=(l[i]? = some oo→OJ P cx K l (k+1) L Γ fr m):=nw
theorem FS.at (k i:Nat) {oo:Oper} {L:Array Bool} {Γ:QE} {fr:Fr} {m:Option (Out S R)} (hi:l[i]? = some oo) (h:FQ P cx K l k i oo L Γ fr m):FS P cx K l (k+1) L Γ fr m:=by
 rw [xZ] at h
 rw [uH]
 exact h hi
theorem FS.done {k:Nat} {L:Array Bool} {Γ:QE} {fr:Fr} {m:Option (Out S R)} (hc:Fg l L=true) (h:D P cx (.n K Γ fr m)):FS P cx K l k L Γ fr m:=by
 rw [uH]
 intro B o ho r w ha hs
 exact Hw.done (by simpa [Fg] using hc) (h.sound B o ho r w ha hs)
def wV (n:Nat) (l:LO) (L:Array Bool) (i:Nat):Bool:=cg n l && Region.noSelect l.toArray && Region.free .any l.toArray L i && (Region.ready .any l.toArray L).contains i
theorem FQ.q {k i:Nat} {L:Array Bool} {Γ:QE} {fr:Fr} {m:Option (Out S R)} {d:Nat} {op:Op} {ty:TI} {u:Value} {pos:String} {af:Array Edge} {g:Option (Nat×Bool)} (hg:gW l fr g=some true) (hc:wV cx.n l L i=true) (hv:VQ P Γ fr op u)
  (h:FS P cx K l k (L.setIfInBounds i true) Γ ((d,u) :: fr) m):FQ P cx K l k i ⟨some d,op,ty,pos,af,g⟩ L Γ fr m:=by
 rw [uH] at h
 rw [xZ]
 intro hi
 simp only [wV,Bool.and_eq_true] at hc
 obtain ⟨⟨⟨c1,c2⟩,c3⟩,c4⟩:=hc
 intro B o ho r w ha hs
 refine Hw.Ec c1 hi c2 c3 c4 (fun c r w h=>lv c h) (se ha hg) (fun w' hC=>?_) (ak.refl _ _) (h B o ho _ w (aq ha) hs)
 obtain ⟨Z,F,hS,_⟩:=hs.fx hC
 exact hv.sound hS ha (some d) ty pos af g w' (ak.refl _ _)
theorem FQ.sk {k i:Nat} {L:Array Bool} {Γ:QE} {fr:Fr} {m:Option (Out S R)} {d:Nat} {op:Op} {ty:TI} {pos:String} {af:Array Edge} {g:Option (Nat×Bool)} (hg:gW l fr g=some false) (hc:wV cx.n l L i=true)
  (h:FS P cx K l k (L.setIfInBounds i true) Γ ((d,undef) :: fr) m):FQ P cx K l k i ⟨some d,op,ty,pos,af,g⟩ L Γ fr m:=by
 rw [uH] at h
 rw [xZ]
 intro hi
 simp only [wV,Bool.and_eq_true] at hc
 obtain ⟨⟨⟨c1,c2⟩,c3⟩,c4⟩:=hc
 intro B o ho r w ha hs
 exact Hw.OH c1 hi c2 c3 c4 (fun c r w h=>lv c h) (se ha hg) (ak.refl _ _) (h B o ho _ w (aq ha) hs)
theorem FQ.lc {k i:Nat} {L:Array Bool} {Γ:QE} {fr:Fr} {m:Option (Out S R)} {d:Nat} {t ty:TI} {x:OO} {a:Addr} {u:Value} {pos:String} {af:Array Edge} {g:Option (Nat×Bool)} [ht:LK P t none] (hg:gW l fr g=some true) (hc:wV cx.n l L i=true) (hx:bd fr x=some (.pointer (some a))) (hw:sz Γ a u)
  (h:FS P cx K l k (L.setIfInBounds i true) Γ ((d,u) :: fr) m):FQ P cx K l k i ⟨some d,.load t x,ty,pos,af,g⟩ L Γ fr m:=by
 rw [uH] at h
 rw [xZ]
 intro hi
 simp only [wV,Bool.and_eq_true] at hc
 obtain ⟨⟨⟨c1,c2⟩,c3⟩,c4⟩:=hc
 have R7:NA P t:=ht.h
 intro B o ho r w ha hs
 refine Hw.Ec c1 hi c2 c3 c4 (fun c r w h=>lv c h) (se ha hg) (fun w' hC=>?_) (ak.refl _ _) (h B o ho _ w (aq ha) hs)
 obtain ⟨Z,F,hS,_⟩:=hs.fx hC
 exact Ld R7 (hw.sound hS) (aS ha hx) w' (ak.refl _ _)
theorem FQ.ls {k i n:Nat} {L:Array Bool} {Γ:QE} {fr:Fr} {m:Option (Out S R)} {d:Nat} {t ty:TI} {x:OO} {a:Addr} {ds:LV} {pos:String} {af:Array Edge} {g:Option (Nat×Bool)} [ht:LK P t (some n)] (hg:gW l fr g=some true) (hc:wV cx.n l L i=true) (hx:bd fr x=some (.pointer (some a))) (hw:sE Γ a n ds)
  (h:FS P cx K l k (L.setIfInBounds i true) Γ ((d,.agg ds.toArray) :: fr) m):FQ P cx K l k i ⟨some d,.load t x,ty,pos,af,g⟩ L Γ fr m:=by
 rw [uH] at h
 rw [xZ]
 intro hi
 simp only [wV,Bool.and_eq_true] at hc
 obtain ⟨⟨⟨c1,c2⟩,c3⟩,c4⟩:=hc
 have R7:AG P t n:=ht.h
 intro B o ho r w ha hs
 refine Hw.Ec c1 hi c2 c3 c4 (fun c r w h=>lv c h) (se ha hg) (fun w' hC=>?_) (ak.refl _ _) (h B o ho _ w (aq ha) hs)
 obtain ⟨Z,F,hS,_⟩:=hs.fx hC
 obtain ⟨h1,h2⟩:=hw.sound hS
 exact Lg R7 h1 (aS ha hx) h2 w' (ak.refl _ _)
theorem FQ.sl {α:Type} {k i d:Nat} {o:Bool} {L:Array Bool} {Γ:QE} {fr:Fr} {x lo:OO} {v:Value} {kd:IntKind} {j:Int} {E:ag α} {xs:List α} {t ty:TI} {pos:String} {af:Array Edge} {g:Option (Nat×Bool)} {gm:List α→Option (Out S R)} {Γ':Value→List α→List ao} [ht:we P t] (hg:gW l fr g=some true) (hc:wV cx.n l L i=true) (hx:bd fr x=some v) (hy:bd fr lo=some (.int kd j)) (hr:∀ v' ys,n5 Γ v o o E xs (.rd o (bE E) v' ys) (Γ' v' ys)) (hE:E.size=1)
  (h:∀ v' ys,FS P cx K l k (L.setIfInBounds i true) (Γ' v' ys) ((d,v') :: fr) (gm ys)):FQ P cx K l k i ⟨some d,.slice t x (some lo) none none,ty,pos,af,g⟩ L Γ fr (tl xs j>>=gm):=by
 have h:=fun v' ys=>Eq.mp uH (h v' ys)
 rw [xZ]
 intro hi
 simp only [wV,Bool.and_eq_true] at hc
 obtain ⟨⟨⟨c1,c2⟩,c3⟩,c4⟩:=hc
 intro B oo ho r w ha hs
 obtain ⟨ys,RV,ho⟩:=bind_some ho
 obtain ⟨h0,h1,rfl⟩:=Hx RV
 obtain ⟨e,i',q1,q2,q3⟩:=ht.h
 obtain ⟨Z,F,hS,hG⟩:=hs
 obtain ⟨base,cap,rfl,ES⟩ : ∃ base cap,v = .slice base xs.length cap∧xs.length≤cap:=by
  obtain ⟨_,_,⟨⟨g0,⟨base,cap,hv,fi⟩,_⟩,_⟩,_⟩:=(hr v xs).sound hS
  refine ⟨base,cap,by simpa using hv,?_⟩
  rcases fi with ⟨rfl,_⟩ | ⟨_,_,_,_,_,_,_,_,_,hc,_⟩
  ·exact Nat.zero_le _
  ·exact hc
 obtain ⟨de,_,⟨⟨g0,hg0,r7⟩,_⟩,rG⟩:=(hr (sliced base j.toNat xs.length cap 1) ((xs.drop j.toNat).take (xs.length - j.toNat))).sound hS
 have hf:=Mh (a:=j.toNat) (b:=xs.length) hE hg0 (fun i hi=>(r7 i hi).elim (fun h=>h) fun h=>h) (by omega) (Nat.le_refl _) ES
 have hyy:(xs.drop j.toNat).take (xs.length - j.toNat)=xs.drop j.toNat:=List.take_of_length_le (by rw [List.length_drop]; omega)
 refine Hw.Ec (v:=sliced base j.toNat xs.length cap 1) c1 hi c2 c3 c4 (fun c r w h=>lv c h) (se ha hg) (fun w' _=>?_) (ak.refl _ _) (h _ _ B oo (by rw [hyy]; exact ho) _ w (aq ha) ⟨Z,F,rG hf,hG⟩)
 have q4:P.elem t=e:=by simp [Program.elem,q1]
 have qI:(sizeOf (P.elem t)).run P w' = .ok 1 w':=by rw [q4]; simp [sizeOf,typeInfo,q2,q3]
 simp [execOp,aS ha hx,aS ha hy,run_sliceAt_slice w' t _ _ _ _ (by rw [q4]; exact q1),run_slice_l (P:=P) w' t base xs.length cap (by rw [q4]; exact q1) kd j h0 h1,qI,Result.andThen]
theorem FQ.cl {k i:Nat} {L:Array Bool} {Γ Δ:QE} {fr:Fr} {d:Nat} {f:FuncId} {xs:List Operand} {vs:LV} {aw:Array TypeId} {ty:TI} {pos:String} {af:Array Edge} {g:Option (Nat×Bool)} {β:Type} {ow:Bool} {mo:Option β} {rt:β→Unit→List Value} {gm:β→Option (Out S R)} [hf:bo P f]
  (hg:gW l fr g=some true) (hc:(cg cx.n l && (Region.ready .any l.toArray L == [i]))=true) (hx:ra fr xs=some vs) (OK:Ct P f ow mo vs Δ rt (fun _ _=>[])) (h0:FO Δ) (h1:ER true Γ Δ)
  (h:∀ y,FS P cx K l k (L.setIfInBounds i true) Γ ((d,mr (rt y ())) :: fr) (gm y)):FQ P cx K l k i ⟨some d,.call ⟨.value (.func f),xs.toArray,aw⟩,ty,pos,af,g⟩ L Γ fr (mo>>=gm):=by
 have h:=fun y=>Eq.mp uH (h y)
 rw [xZ]
 intro hi
 rw [Bool.and_eq_true] at hc
 intro B o ho r w ha hs
 obtain ⟨y,hy,ho⟩:=bind_some ho
 obtain ⟨fn,c,f1,f2,f3⟩:=hf.h
 refine Hw.OI hc.1 hi (by simpa using hc.2) (se ha hg) (f:=f) (args:=vs.toArray) (by rw [xN f1 f2 f3,pT ha hx]) ?_
 have Ro:=hs
 obtain ⟨Z,F,hS,hG⟩:=hs
 rw [qf] at OK
 refine (OK.2 w (fun b=>Z b∨b∈F) [] (h1.sound (fun _ h=>.inl h) (fun _ _ h=>.inr h) hS h0.ho) List.nodup_nil (fun b hb=>absurd hb List.not_mem_nil) (fun b hb=>hb.elim (hG.na b) (hS.lt b)) y hy).mono ?_
 rintro e w' ⟨v,he,Z2,F2,_,iH⟩
 have hC:ak [] w w':=iH.iz
 exact ⟨_,he,hC,(h y B o ho _ w' (aq ha) (Ro.fx hC)).mono fun yV h=>hC.trans h⟩
theorem FQ.cb {k i:Nat} {L:Array Bool} {Γ Δ:QE} {fr:Fr} {d:Nat} {f:FuncId} {xs:List Operand} {vs:LV} {aw:Array TypeId} {ty:TI} {pos:String} {af:Array Edge} {g:Option (Nat×Bool)} {ow:Bool} {mo:Option Bool} {gm:Bool→Option (Out S R)} [hf:bo P f]
  (hg:gW l fr g=some true) (hc:(cg cx.n l && (Region.ready .any l.toArray L == [i]))=true) (hx:ra fr xs=some vs) (OK:Ct P f ow mo vs Δ (fun y (_:Unit)=>[.bool y]) (fun _ _=>[])) (h0:FO Δ) (h1:ER true Γ Δ)
  (ht:FS P cx K l k (L.setIfInBounds i true) Γ ((d,.bool true) :: fr) (gm true)) (hn:FS P cx K l k (L.setIfInBounds i true) Γ ((d,.bool false) :: fr) (gm false)):FQ P cx K l k i ⟨some d,.call ⟨.value (.func f),xs.toArray,aw⟩,ty,pos,af,g⟩ L Γ fr (mo>>=gm):=
 FQ.cl hg hc hx OK h0 h1 fun y=>by cases y with
  | true=>exact ht
  | false=>exact hn
theorem FS.bt {k:Nat} {L:Array Bool} {Γ:QE} {fr:Fr} {c:Bool} {a b:Option (Out S R)} (hc:c=true) (h:FS P cx K l k L Γ fr a):FS P cx K l k L Γ fr (bif c then a else b):=by subst hc; exact h
theorem FS.bf {k:Nat} {L:Array Bool} {Γ:QE} {fr:Fr} {c:Bool} {a b:Option (Out S R)} (hc:c=false) (h:FS P cx K l k L Γ fr b):FS P cx K l k L Γ fr (bif c then a else b):=by subst hc; exact h
theorem FS.cd {k d:Nat} {L:Array Bool} {Γ:QE} {fr:Fr} {c:Bool} {a b:Option (Out S R)} (h1:FS P cx K l k L Γ ((d,.bool true) :: fr) a) (h2:FS P cx K l k L Γ ((d,.bool false) :: fr) b):FS P cx K l k L Γ ((d,.bool c) :: fr) (bif c then a else b):=by
 cases c with
 | true=>exact h1
 | false=>exact h2
theorem XD {id k:Nat} {Γ:QE} {fr:Fr} {m:Option (Out S R)} (hk:l.length=k) (hB:P.follows .mixedOrders=true) (h:FS P cx K l k (Array.replicate k false) Γ fr m):Bx (n8 P cx (.dr id l K Γ fr m)):=by
 subst hk
 rw [uH] at h
 rw [nw]
 intro B o ho r w ha pY
 have Hy:ak [] w { w with drawn:=w.drawn+1 }:=ak.drew _ _
 exact l3.W hB (Hw.start (h B o ho r _ ha (pY.fx Hy)))
end
end Go.Dk
namespace Go.Li
open Go
section
variable {P:Program} {n:Nat} {Q:Exit→(Nat→Value)→World→Prop} {r:NV} {w:World} {R:Type}
end
end Go.Li
namespace Go.Dk
open Go Go.Li
section
variable {R:Type} {P:Program} {cx:Cx R} {S:Type}
section
variable {S1 V:Type} {k j:Nat} {Δ:S1→V→List ao} {φ:S1→V→Fr} {Γ2 Γ Γ1 Γ3:QE} {f2 fr:Fr} {s:S1} {v:V} (hv:rZ V v) (ha:qc fr (φ s v)) (hf:qc fr f2) (h0:EO Γ (Δ s v) Γ1) (hw:OW Γ (Δ s v)) (h1:EO Γ1 Γ2 Γ3) (h2:MF Γ none Γ2)
include hv ha hf h0 hw h1 h2
end
end
abbrev rI:Value→List Int→ao:=.rd false (bE (aL .i64))
abbrev rJ:Value→List (List Int)→ao:=.rd false (bE (bE (aL .i64)))
class FE (p:Prop):Prop where
 u:True
instance {o:Bool} {a b:QE}:FE (ER o a b):=⟨trivial⟩
instance {a:QE} {b:LV}:FE (s8 a b):=⟨trivial⟩
instance {a b c:QE}:FE (EF a b c):=⟨trivial⟩
instance {a b c:QE}:FE (EO a b c):=⟨trivial⟩
instance {a b:QE}:FE (EP a b):=⟨trivial⟩
instance {a c d:LV} {b:Nat}:FE (rF a b c d):=⟨trivial⟩
instance {a b:Nat} {c d:LV}:FE (sD a b c d):=⟨trivial⟩
instance {a:LN} {b:Option (Bool×Nat×Value)} {c d:Fr}:FE (Kp a b c d):=⟨trivial⟩
instance {V:Type} {v:V}:FE (rZ V v):=⟨trivial⟩
instance {a:QE} {b:Addr} {c:Nat} {d:LV}:FE (sE a b c d):=⟨trivial⟩
theorem fe {p:Prop} [FE p] (h:p):p:=h
section
variable {R:Type} {P:Program} {cx:Cx R} {fr:Fr}
end
end Go.Dk
namespace Go.Dk
open Go Go.Li
theorem PJ {P:Program} {g:FuncId} {vs:LV} {Δ:QE} {β:Type} {m:Option β} {ow:Bool} {rt:β→Unit→List Value} (hc:Ct P g ow m vs Δ rt (fun _ _=>[])) {w:World} (hl:HL (fun b=>b < w.heap.size) w Δ []) {y:β} (hy:m=some y) :
  Calls P g vs.toArray w fun e w'=>e = .returned (mr (rt y ()))∧ak [] w w':=by
 rw [qf] at hc
 refine (hc.2 w _ [] hl List.nodup_nil (fun _ h=>absurd h List.not_mem_nil) (fun _ h=>h) y hy).mono ?_
 rintro e w' ⟨_,he,Z,F,_,hg⟩
 exact ⟨he,hg.iz⟩
theorem PK {w:World} {α:Type} {T:ag α} {v:Value} {x:α} {f:LN} (h:T.rep w.heap [v] x f):fact (fun b=>b < w.heap.size) w [] (.rd false T v x):=⟨f,h,fun b hb=>T.lt h b hb⟩
end Go.Dk
