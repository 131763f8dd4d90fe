/- A region that draws its order: its head in any order, whatever it holds, its tail quiet and behind all of the head. No condition. -/
import Derived.Test.YtgjbmjjihmfppaaGreatDg
import Derived.Deep.Quiet
import Derived.Laws.Slices
import Derived.OrdersHeld
import Derived.Scope
namespace Go.Li
open Go
section
variable {P:Program} {n:Nat} {Q:Exit→(Nat→Value)→World→Prop} {r0:NV} {w0:World} {l:LO} {S:List gx}
def zY (l:LO) (m:Nat):Bool:=
 ((List.range l.length).all fun i=>((l.getD i default).after.toList.filter (Region.binds .any)).all fun e=>Nat.blt e.on i) &&
 ((List.range l.length).all fun i=>Nat.blt i m || (List.range m).all fun j=>((cf l).getD i []).contains j) &&
 Bj ((l.take m).filterMap (·.dst)) && Region.noSelect l.toArray && Region.lexFrom .any l.toArray (l.length - m) m (List.replicate m true++List.replicate (l.length - m) false).toArray
theorem KM {m:Nat} (h:zY l m=true):∀ (i:Nat) (o:Oper),l[i]? = some o→∀ e∈o.after.toList.filter (Region.binds .any),e.on < i:=by
 simp only [zY,Bool.and_eq_true,List.all_eq_true,List.mem_range] at h
 intro i o ho e he
 have hi:i < l.length:=(List.getElem?_eq_some_iff.1 ho).1
 have:=h.1.1.1.1 i hi e (by rw [List.getD_eq_getElem?_getD,ho]; exact he)
 exact Nat.lt_of_succ_le (Nat.le_of_ble_eq_true this)
theorem Sh {m:Nat} {U:LL} {H:LN} {N:Nat→Prop} (hd:de n l=true) (hA:zY l m=true) (G8:m≤l.length)
  (hS:S.length=m)
  (hH:∀ b∈H,b < w0.heap.size) (hU:((List.range m).all fun i=>(U.getD i []).all fun u=>Nat.beq u l.length || ((cf l).getD i []).contains u)=true)
  (hN:∀ b,N b→b < w0.heap.size∧b ∉ H)
  (rj:∀ (i:Nat) (s:gx),S[i]? = some s→∀ f F (w w':World) (r r':NV) v,an F w w'→(∀ b∈f,b ∉ F)→(∀ b∈F,¬ N b)→(∀ j∈(cf l).getD i [],∀ t,bx l j=some t→r' t=r t)→s.V f w r v→s.V f w' r' v)
  (OS:∀ i,i < m→kh P l m S U r0 w0 H i)
  (next:∀ g r w,zZ l m S U r0 w0 H (fun j=>j < m) g r w→QL P (an [] w) l (l.drop m) r fun r'=>∀ w',an [] w w'→Q .normal r' w') :
  mg P n l Q r0 w0:=by
 simp only [zY,Bool.and_eq_true,List.all_eq_true,List.mem_range,Bool.or_eq_true] at hA
 obtain ⟨⟨⟨⟨Uv,Uw⟩,Ux⟩,Q3⟩,OT⟩:=hA
 have wP:∀ (i:Nat) (o:Oper),l[i]? = some o→∀ e∈o.after.toList.filter (Region.binds .any),e.on < i:=by
  intro i o ho e he
  have hi:i < l.length:=(List.getElem?_eq_some_iff.1 ho).1
  have:=Uv i hi e (by rw [List.getD_eq_getElem?_getD,ho]; exact he)
  exact Nat.lt_of_succ_le (Nat.le_of_ble_eq_true this)
 have Ez:∀ i,m≤i→i < l.length→∀ j,j < m→j∈(cf l).getD i []:=by
  intro i h1 h2 j hj
  rcases Uw i h2 with h | h
  ·exact absurd (Nat.lt_of_succ_le (Nat.le_of_ble_eq_true h)) (Nat.not_lt.2 h1)
  ·have:=h j hj
   simpa using this
 have Uy:∀ i,i < m→∀ u∈U.getD i [],u=l.length∨u∈(cf l).getD i []:=by
  intro i hi u hu
  simp only [List.all_eq_true,List.mem_range] at hU
  have:=hU i hi u hu
  simpa using this
 have df:=Fe _ (yN Ux)
 have qp:=Bo l wP
 intro a h1 h2 h3
 let Cl (L:Array Bool):Prop:=L.size=l.length∧∀ j o,l[j]? = some o→L.getD j false=true→∀ e∈o.after.toList.filter (Region.binds .any),L.getD e.on false=true
 have ji:∀ L,Cl L→∀ i j,(∀ o,l[i]? = some o→∀ e∈o.after.toList.filter (Region.binds .any),L.getD e.on false=true)→j∈(cf l).getD i []→L.getD j false=true:=by
  intro L hL i
  induction i using Nat.strongRecOn with
  | _ i ih=>
   intro j hi hj
   obtain ⟨_,o,ho,e,he,He⟩:=qp i j hj
   have hl:=hi o ho e he
   rcases He with rfl | He
   ·exact hl
   ·exact ih e.on (wP i o ho e he) j (fun o' cg e' ud=>hL.2 _ _ cg hl e' ud) He
 have mm:∀ L i,i∈Region.ready .any l.toArray L→L.getD i true=false∧∃ o,l[i]? = some o∧∀ e∈o.after.toList.filter (Region.binds .any),L.getD e.on false=true:=by
  intro L i hi
  obtain ⟨g1,o,ho,dw⟩:=mem_ready.1 hi
  refine ⟨g1,o,by simpa using ho,fun e he=>?_⟩
  have:=List.mem_filter.1 he
  exact dw e (by simpa using this.1) this.2
 have DE:∀ L i o,L.size=l.length→l[i]? = some o→L.getD i false=false→(∀ e∈o.after.toList.filter (Region.binds .any),L.getD e.on false=true)→i∈Region.ready .any l.toArray L:=by
  intro L i o hs ho hu dw
  refine mem_ready.2 ⟨?_,o,by simpa using ho,fun e he hb=>dw e (List.mem_filter.2 ⟨by simpa using he,hb⟩)⟩
  have hi:i < L.size:=by rw [hs]; exact (List.getElem?_eq_some_iff.1 ho).1
  simp [hi] at hu ⊢; exact hu
 have Gi:∀ L i o,Cl L→l[i]? = some o→(∀ e∈o.after.toList.filter (Region.binds .any),L.getD e.on false=true)→Cl (L.setIfInBounds i true):=by
  intro L i o hL ho dw
  refine ⟨by rw [Array.size_setIfInBounds]; exact hL.1,fun j o' cg hj e he=>?_⟩
  by_cases sY:i=j
  ·subst sY
   have:o'=o:=Option.some.inj (cg.symm.trans ho)
   subst this
   exact getD_set_true (dw e he)
  ·rw [getD_set_ne false sY] at hj
   exact getD_set_true (hL.2 j o' cg hj e he)
 have getSet:∀ (L:Array Bool) i j,L.size=l.length→i < l.length→((L.setIfInBounds i true).getD j false=true↔j=i∨L.getD j false=true):=by
  intro L i j hs hi
  by_cases sY:i=j
  ·subst sY
   simp [hs,hi]
  ·rw [getD_set_ne false sY]
   constructor
   ·exact .inr
   ·rintro (h | h)
    ·exact absurd h.symm sY
    ·exact h
 have Hf:∀ (L:Array Bool) i,L.size=l.length→i < l.length→L.getD i false=false→(L.setIfInBounds i true).toList.count false+1=L.toList.count false:=by
  intro L i hs hi hu
  have tX:i < L.toList.length:=by simpa [hs] using hi
  have CB:L.toList[i]=false:=by
   rw [Array.getElem_toList]
   simp [hs,hi] at hu
   exact hu
  rw [Array.toList_setIfInBounds,List.count_set tX,CB]
  have:0 < L.toList.count false:=List.count_pos_iff.2 (by rw [← CB]; exact List.getElem_mem tX)
  rw [if_pos (by rfl),if_neg (by decide)]
  omega
 have iz:de n (l.drop m)=true:=by
  simp only [de,List.all_eq_true] at hd ⊢
  exact fun o ho=>hd o (List.mem_of_mem_drop ho)
 have tail:∀ (fuel:Nat) (L:Array Bool) (a:Act) (w:World),Cl L→(∀ j,L.getD j false=true↔j < m)→L.toList.count false=fuel→a.tmps.size=n→a.defers=[]→
   (QL P (an [] w) l (l.drop m) (cu a) fun r'=>∀ w',an [] w w'→Q .normal r' w')→wpAny P .any l.toArray (fun e a' w'=>a'.tmps.size=n∧a'.defers=[]∧Q e (cu a') w') fuel L a w:=by
  intro fuel L a w hL ie hf g1 g2 hq
  have YP:L=(List.replicate m true++List.replicate (l.length - m) false).toArray:=by
   apply Array.ext
   ·simp [hL.1]; omega
   ·intro i hi hj
    have h1:=ie i
    simp only [Array.getD_eq_getD_getElem?,Array.getElem?_eq_getElem hi,Option.getD_some] at h1
    have e:(List.replicate m true++List.replicate (l.length - m) false).toArray[i]'hj=decide (i < m):=by
     simp only [List.getElem_toArray,List.getElem_append,List.getElem_replicate,List.length_replicate]
     split
     ·rename_i h; simp [h]
     ·rename_i h; simp [h]
    rw [e]
    cases hb:L[i] with
    | false=>exact (decide_eq_false fun h=>by have:=h1.2 h; rw [hb] at this; cases this).symm
    | true=>exact (decide_eq_true (h1.1 hb)).symm
  have Uz:fuel=l.length - m:=by
   rw [← hf,YP]
   simp [List.count_append,List.count_replicate]
  have q1:=QL.wpQuiet (n:=n) (l:=l) (l.drop m) a hd iz g1 g2 hq
  have q2:=wpAnyQ_lex (md:=.any) Q3 (l.drop m) m L a (fun j=>by simp [List.getElem?_drop]) (by rw [YP,List.length_drop]; exact OT) q1
  refine wpAny_of_quiet (C:=an [] w) (Q:=fun a'=>a'.tmps.size=n∧a'.defers=[]∧∀ w',an [] w w'→Q .normal (cu a') w') (fun a' w' Bp hh=>⟨hh.1,hh.2.1,hh.2.2 w' Bp⟩) _ _ _ _ (an.refl _ _) ?_
  rw [Uz,← List.length_drop]
  exact q2
 have head:∀ (fuel:Nat) (L:Array Bool) (a:Act) (w:World) (g:Nat→List Nat),Cl L→(∀ j,L.getD j false=true→j < m)→L.toList.count false=fuel→a.tmps.size=n→a.defers=[]→
   zZ l m S U r0 w0 H (fun j=>L.getD j false=true) g (cu a) w→wpAny P .any l.toArray (fun e a' w'=>a'.tmps.size=n∧a'.defers=[]∧Q e (cu a') w') fuel L a w:=by
  intro fuel
  induction fuel with
  | zero=>
   intro L a w g hL uI hf g1 g2 inv
   have dw:∀ j,j < l.length→L.getD j false=true:=by
    intro j hj
    cases hb:L.getD j false with
    | true=>rfl
    | false=>have:=Hf L j hL.1 hj hb; omega
   have ie:∀ j,L.getD j false=true↔j < m:=fun j=>⟨uI j,fun h=>dw j (by omega)⟩
   refine tail 0 L a w hL ie hf g1 g2 (next g _ _ ?_)
   exact ⟨inv.jc,fun hk=>inv.Bq fun k xp=>hk k ((ie k).1 xp),inv.vg,fun j hj=>inv.vd j ((ie j).2 hj),fun j hj hk=>inv.done j ((ie j).2 hj) (fun k xp=>hk k ((ie k).1 xp)),fun j hj=>inv.tF j ((ie j).2 hj),inv.other,fun j hj b hb=>⟨(inv.fresh j ((ie j).2 hj) b hb).1.imp (fun h=>h) fun h=>⟨h.1,h.2.imp fun k hk=>⟨(ie k).1 hk.1,hk.2⟩⟩,(inv.fresh j ((ie j).2 hj) b hb).2⟩,fun i j hi hj=>inv.wG i j ((ie i).2 hi) ((ie j).2 hj)⟩
  | succ fuel ih=>
   intro L a w g hL uI hf g1 g2 inv
   by_cases dw:∀ j,j < m→L.getD j false=true
   ·have ie:∀ j,L.getD j false=true↔j < m:=fun j=>⟨uI j,dw j⟩
    refine tail _ L a w hL ie hf g1 g2 (next g _ _ ?_)
    exact ⟨inv.jc,fun hk=>inv.Bq fun k xp=>hk k ((ie k).1 xp),inv.vg,fun j hj=>inv.vd j ((ie j).2 hj),fun j hj hk=>inv.done j ((ie j).2 hj) (fun k xp=>hk k ((ie k).1 xp)),fun j hj=>inv.tF j ((ie j).2 hj),inv.other,fun j hj b hb=>⟨(inv.fresh j ((ie j).2 hj) b hb).1.imp (fun h=>h) fun h=>⟨h.1,h.2.imp fun k hk=>⟨(ie k).1 hk.1,hk.2⟩⟩,(inv.fresh j ((ie j).2 hj) b hb).2⟩,fun i j hi hj=>inv.wG i j ((ie i).2 hi) ((ie j).2 hj)⟩
   ·obtain ⟨j0,Q4,Ff⟩ : ∃ j,j < m∧L.getD j false=false:=by
     apply Classical.byContradiction
     intro sN
     apply dw
     intro j hj
     cases hb:L.getD j false with
     | true=>rfl
     | false=>exact absurd ⟨j,hj,hb⟩ sN
    have KN:∃ i,i∈Region.ready .any l.toArray L:=by
     have:∀ k,(∃ j,j < k∧j < m∧L.getD j false=false)→∃ i,i∈Region.ready .any l.toArray L:=by
      intro k
      induction k with
      | zero=>rintro ⟨j,h,_⟩; omega
      | succ k Ds=>
       rintro ⟨j,Mz,Br,sO⟩
       by_cases sy:∃ j,j < k∧j < m∧L.getD j false=false
       ·exact Ds sy
       ·obtain rfl:j=k:=by
         apply Classical.byContradiction
         intro h
         exact sy ⟨j,by omega,Br,sO⟩
        have Bt:j < l.length:=by omega
        refine ⟨j,DE L j l[j] hL.1 (List.getElem?_eq_getElem Bt) sO fun e he=>?_⟩
        have bj:=wP j _ (List.getElem?_eq_getElem Bt) e he
        cases hb:L.getD e.on false with
        | true=>rfl
        | false=>exact absurd ⟨e.on,bj,by omega,hb⟩ sy
     exact this (j0+1) ⟨j0,by omega,Q4,Ff⟩
    have main:∀ i oi,i < m→l[i]? = some oi→L.getD i false=false→(∀ e∈oi.after.toList.filter (Region.binds .any),L.getD e.on false=true)→
      (Region.wanted oi (yl l (cu a))=true∧fl P oi (cu a) w fun v w'=>wpAny P .any l.toArray (fun e a' w'=>a'.tmps.size=n∧a'.defers=[]∧Q e (cu a') w') fuel (L.setIfInBounds i true) (a.put oi.dst v) w')∨
      (Region.wanted oi (yl l (cu a))=false∧wpAny P .any l.toArray (fun e a' w'=>a'.tmps.size=n∧a'.defers=[]∧Q e (cu a') w') fuel (L.setIfInBounds i true) (a.put oi.dst undef) w):=by
     intro i oi uJ nb uK uL
     have fi:i < l.length:=(List.getElem?_eq_some_iff.1 nb).1
     have mw:∀ o,l[i]? = some o→∀ e∈o.after.toList.filter (Region.binds .any),L.getD e.on false=true:=fun o' cg=>by
      have:o'=oi:=Option.some.inj (cg.symm.trans nb)
      subst this; exact uL
     obtain ⟨s,hs⟩ : ∃ s,S[i]? = some s:=⟨S[i]'(by omega),List.getElem?_eq_getElem (by omega)⟩
     have hc:=Hf L i hL.1 fi uK
     have CC:=Gi L i oi hL nb uL
     have Bv:∀ j,(L.setIfInBounds i true).getD j false=true→j < m:=by
      intro j hj
      rcases (getSet L i j hL.1 fi).1 hj with rfl | hj
      ·exact uJ
      ·exact uI j hj
     have DF:∀ k,L.getD k false=true→k≠i∧i ∉ (cf l).getD k []:=by
      intro k hk
      refine ⟨fun h=>(by rw [h,uK] at hk; cases hk),fun vb=>?_⟩
      have:=ji L hL k i (fun o' cg e' ud=>hL.2 k o' cg hk e' ud) vb
      rw [uK] at this; cases this
     have ow:=OS i uJ oi s nb hs g (cu a) w inv.jc (fun hV=>by
       have sN:∀ k,L.getD k false=true→l.length ∉ U.getD k []:=fun k hk Hg=>by
        simp only [zV,List.all_eq_true,List.mem_range,Bool.or_eq_true,Bool.not_eq_true',List.contains_eq_mem,decide_eq_false_iff_not,decide_eq_true_eq] at hV
        rcases hV k (uI k hk) with (h | h) | h
        ·exact h Hg
        ·exact (DF k hk).1 (Nat.eq_of_beq_eq_true h)
        ·exact (DF k hk).2 h
       have h0:=inv.Bq sN
       exact ⟨h0.1,h0.2,fun j hj b hb=>(inv.fresh j (ji L hL i j mw hj) b hb).1.elim (fun h=>h) fun h=>absurd h.2.choose_spec.2 (sN _ h.2.choose_spec.1)⟩) (fun j hj=>inv.tF j (ji L hL i j mw hj)) (fun j hj=>by
       simp only [uG,Bool.and_eq_true,List.all_eq_true,List.mem_range,Bool.or_eq_true,Bool.not_eq_true',List.contains_eq_mem,decide_eq_false_iff_not,decide_eq_true_eq] at hj
       refine inv.done j (ji L hL i j mw hj.1) fun k hk Mz=>?_
       rcases hj.2 k (uI k hk) with (h | h) | h
       ·exact h Mz
       ·exact (DF k hk).1 (Nat.eq_of_beq_eq_true h)
       ·exact (DF k hk).2 h) inv.other
      (fun i' tX j' ib=>inv.wG i' j' (ji L hL i i' mw tX) (ji L hL i j' mw ib))
      (fun j hj b hb=>⟨(inv.fresh j (ji L hL i j mw hj) b hb).1.imp (fun h=>h) (·.1),(inv.fresh j (ji L hL i j mw hj) b hb).2⟩)
     have hblk:∀ b∈p7 g (U.getD i []),(∃ u,u∈U.getD i []∧L.getD u false=true∧b∈g u)∨(l.length∈U.getD i []∧b∈g l.length):=by
      intro b hb
      obtain ⟨u,hu,fy⟩:=List.mem_flatMap.1 hb
      rcases Uy i uJ u hu with rfl | h
      ·exact .inr ⟨hu,fy⟩
      ·exact .inl ⟨u,hu,ji L hL i u mw h,fy⟩
     have Fg:∀ k',oi.dst=some k'→k' < a.tmps.size:=by
      intro k' xg
      have vb:oi∈l:=List.mem_of_getElem? nb
      simp only [de,List.all_eq_true] at hd
      have:=hd oi vb
      rw [xg] at this
      rw [g1]
      exact Nat.lt_of_succ_le (Nat.le_of_ble_eq_true this)
     have zd:bx l i=oi.dst:=by unfold bx; rw [nb]; rfl
     have qe:∀ v t,(oi.dst≠some t)→cu (a.put oi.dst v) t=cu a t:=by
      intro v t ht
      rw [kp Fg]
      cases xq:oi.dst with
      | none=>rfl
      | some d=>
       show (bif Nat.beq t d then v else cu a t)=cu a t
       cases hb:Nat.beq t d with
       | false=>rfl
       | true=>exact absurd (by rw [xq,Nat.eq_of_beq_eq_true hb]) ht
     have Hh:∀ v d,oi.dst=some d→cu (a.put oi.dst v) d=v:=by
      intro v d xq
      rw [kp Fg,xq]
      show (bif Nat.beq d d then v else cu a d)=v
      rw [Nat.beq_refl]; rfl
     have step:∀ v w' f,an (p7 g (U.getD i [])) w w'→(∀ b∈f,(b∈p7 g (U.getD i [])∨w.heap.size≤b)∧b < w'.heap.size)→(if s.b then s.V f w' (cu a) v else v=undef)→
       wpAny P .any l.toArray (fun e a' w'=>a'.tmps.size=n∧a'.defers=[]∧Q e (cu a') w') fuel (L.setIfInBounds i true) (a.put oi.dst v) w':=by
      intro v w' f hC uH hV
      have tc:∀ j',j' < m→j'≠i→∀ t,bx l j'=some t→cu (a.put oi.dst v) t=cu a t:=by
       intro j' ib ny t ht
       refine qe v t fun h=>ny (df j' i t ?_ ?_)
       ·rw [kn ib]; exact ht
       ·rw [kn uJ,zd]; exact h
      have MA:∀ b∈p7 g (U.getD i []),¬ N b:=fun b hb hn=>by
       rcases hblk b hb with ⟨u,_,ov,fy⟩ | ⟨_,fy⟩
       ·rcases (inv.fresh u ov b fy).1 with h | h
        ·have:=(hN b hn).1; omega
        ·exact (hN b hn).2 h.1
       ·exact (hN b hn).2 (inv.vg b fy)
      refine ih _ _ _ (fun j=>if j=i then f else if j∈U.getD i [] then [] else g j) CC Bv (by omega) (by rw [js]; exact g1) (by rw [gp]; exact g2)
       ⟨inv.jc.then hC fun b hb=>(by
        rcases hblk b hb with ⟨u,_,ov,fy⟩ | ⟨_,fy⟩
        ·exact (inv.fresh u ov b fy).1.elim .inr fun h=>.inl h.1
        ·exact .inl (inv.vg b fy)),fun sN=>?_,?_,fun j hj=>?_,?_,fun j hj d uM sj si=>?_,?_,?_,?_⟩
      ·have xk:l.length ∉ U.getD i []:=sN i ((getSet L i i hL.1 fi).2 (.inl rfl))
       have h0:=inv.Bq fun k hk=>sN k ((getSet L i k hL.1 fi).2 (.inr hk))
       refine ⟨h0.1.then hC fun b hb=>?_,?_⟩
       ·rcases hblk b hb with ⟨u,_,ov,fy⟩ | ⟨h,_⟩
        ·exact (inv.fresh u ov b fy).1.elim .inr fun ⟨_,k,hk,Hg⟩=>absurd Hg (sN k ((getSet L i k hL.1 fi).2 (.inr hk)))
        ·exact absurd h xk
       ·show (if l.length=i then f else if l.length∈U.getD i [] then [] else g l.length)=H
        rw [if_neg (by omega),if_neg xk]
        exact h0.2
      ·intro b hb
       have cy:b∈(if l.length=i then f else if l.length∈U.getD i [] then [] else g l.length):=hb
       rw [if_neg (by omega)] at cy
       split at cy
       ·cases cy
       ·exact inv.vg b cy
      ·intro b hb hv
       have nz:b∈(if l.length=i then f else if l.length∈U.getD i [] then [] else g l.length):=hv
       rw [if_neg (by omega)] at nz
       split at nz
       ·cases nz
       ·rename_i UA
        have cy:b∈(if j=i then f else if j∈U.getD i [] then [] else g j):=hb
        split at cy
        ·rcases (uH b cy).1 with h | h
         ·rcases hblk b h with ⟨u,_,ov,fy⟩ | ⟨h,_⟩
          ·exact inv.vd u ov b fy nz
          ·exact UA h
         ·have h1:=hH b (inv.vg b nz)
          have h2:=inv.jc.size
          omega
        ·rename_i ks
         split at cy
         ·cases cy
         ·exact inv.vd j (((getSet L i j hL.1 fi).1 hj).resolve_left ks) b cy nz
      ·intro j hj ze
       refine ⟨fun d uM=>?_,fun UB sj si MB=>?_⟩
       rotate_left
       ·by_cases ks:j=i
        ·subst ks
         rw [hs] at si
         cases si
         rw [if_pos MB] at hV
         refine ⟨v,?_⟩
         simp only [if_pos]
         exact rj j s hs _ [] w' w' (cu a) _ v (an.refl _ _) (fun _ _ h=>nomatch h) (fun _ h=>nomatch h) (fun j' ib t ht=>tc j' (by have:=(qp j j' ib).1; omega) (by have:=(qp j j' ib).1; omega) t ht) hV
        ·have mx:=((getSet L i j hL.1 fi).1 hj).resolve_left ks
         have sO:j ∉ U.getD i []:=ze i ((getSet L i i hL.1 fi).2 (.inl rfl))
         obtain ⟨x,hx⟩:=(inv.done j mx (fun k hk=>ze k ((getSet L i k hL.1 fi).2 (.inr hk)))).2 UB sj si MB
         have j7:(fun j=>if j=i then f else if j∈U.getD i [] then [] else g j) j=g j:=by
          show (if j=i then f else if j∈U.getD i [] then [] else g j)=g j
          rw [if_neg ks,if_neg sO]
         rw [j7]
         refine ⟨x,rj j sj si _ _ _ _ (cu a) _ _ hC (fun b cy Hi=>?_) MA (fun j' ib t ht=>tc j' (by have:=(qp j j' ib).1; have:=uI j mx; omega) (fun h=>?_) t ht) hx⟩
         ·rcases hblk b Hi with ⟨u,Bw,ov,fy⟩ | ⟨_,fy⟩
          ·exact inv.wG j u mx ov (fun h=>sO (h ▸ Bw)) b cy fy
          ·exact inv.vd j mx b cy fy
         ·subst h
          have:=ji L hL j j' (fun o' cg e' ud=>hL.2 j o' cg mx e' ud) ib
          rw [uK] at this; cases this
       by_cases ks:j=i
       ·subst ks
        rw [hs]
        simp only [if_pos]
        rw [zd] at uM
        rw [Hh v d uM]
        split
        ·rename_i hb
         rw [if_pos hb] at hV
         exact rj j s hs _ [] w' w' (cu a) _ v (an.refl _ _) (fun _ _ h=>nomatch h) (fun _ h=>nomatch h) (fun j' ib t ht=>tc j' (by have:=(qp j j' ib).1; omega) (by have:=(qp j j' ib).1; omega) t ht) hV
        ·rename_i hb
         rw [if_neg hb] at hV
         exact hV
       ·have mx:=((getSet L i j hL.1 fi).1 hj).resolve_left ks
        have Br:=uI j mx
        have sO:j ∉ U.getD i []:=ze i ((getSet L i i hL.1 fi).2 (.inl rfl))
        have xq:oi.dst≠some d:=by
         intro h
         apply ks
         refine df j i d ?_ ?_
         ·rw [kn Br]; exact uM
         ·rw [kn uJ,zd]; exact h
        have:=(inv.done j mx (fun k hk=>ze k ((getSet L i k hL.1 fi).2 (.inr hk)))).1 d uM
        rw [qe v d xq]
        have j7:(fun j=>if j=i then f else if j∈U.getD i [] then [] else g j) j=g j:=by
         show (if j=i then f else if j∈U.getD i [] then [] else g j)=g j
         rw [if_neg ks,if_neg sO]
        rw [j7]
        cases si:S[j]? with
        | none=>trivial
        | some sj=>
         rw [si] at this
         simp only [] at this ⊢
         split
         ·rename_i hb
          rw [if_pos hb] at this
          refine rj j sj si _ _ _ _ (cu a) _ _ hC (fun b cy Hi=>?_) MA (fun j' ib t ht=>tc j' (by have:=(qp j j' ib).1; omega) (fun h=>?_) t ht) this
          rotate_left
          ·subst h
           have:=ji L hL j j' (fun o' cg e' ud=>hL.2 j o' cg mx e' ud) ib
           rw [uK] at this; cases this
          rcases hblk b Hi with ⟨u,Bw,ov,fy⟩ | ⟨_,fy⟩
          ·exact inv.wG j u mx ov (fun h=>sO (h ▸ Bw)) b cy fy
          ·exact inv.vd j mx b cy fy
         ·rename_i hb
          rw [if_neg hb] at this
          exact this
      ·by_cases ks:j=i
       ·subst ks
        rw [hs] at si
        cases si
        rw [zd] at uM
        rw [Hh v d uM]
        split
        ·rename_i hb
         rw [if_pos hb] at hV
         exact ⟨f,w',rj j s hs _ [] w' w' (cu a) _ v (an.refl _ _) (fun _ _ h=>nomatch h) (fun _ h=>nomatch h) (fun j' ib t ht=>tc j' (by have:=(qp j j' ib).1; omega) (by have:=(qp j j' ib).1; omega) t ht) hV⟩
        ·rename_i hb
         rw [if_neg hb] at hV
         exact hV
       ·have mx:=((getSet L i j hL.1 fi).1 hj).resolve_left ks
        have Br:=uI j mx
        have xq:oi.dst≠some d:=by
         intro h
         apply ks
         refine df j i d ?_ ?_
         ·rw [kn Br]; exact uM
         ·rw [kn uJ,zd]; exact h
        have:=inv.tF j mx d uM sj si
        rw [qe v d xq]
        split
        ·rename_i hb
         rw [if_pos hb] at this
         obtain ⟨f1,w1,h1⟩:=this
         refine ⟨f1,w1,rj j sj si _ [] w1 w1 (cu a) _ _ (an.refl _ _) (fun _ _ h=>nomatch h) (fun _ h=>nomatch h) (fun j' ib t ht=>tc j' (by have:=(qp j j' ib).1; omega) (fun h=>?_) t ht) h1⟩
         subst h
         have:=ji L hL j j' (fun o' cg e' ud=>hL.2 j o' cg mx e' ud) ib
         rw [uK] at this; cases this
        ·rename_i hb
         rw [if_neg hb] at this
         exact this
      ·intro t ht
       rw [qe v t (fun h=>ht i uJ (by rw [zd]; exact h))]
       exact inv.other t ht
      ·intro j hj b hb
       by_cases ks:j=i
       ·simp only [if_pos ks] at hb
        have hh:=uH b hb
        have uC:=inv.jc.size
        rcases hh.1 with h | h
        ·rcases hblk b h with ⟨u,_,ov,fy⟩ | ⟨hv,fy⟩
         ·exact ⟨(inv.fresh u ov b fy).1.imp (fun h=>h) fun h=>⟨h.1,h.2.imp fun k hk=>⟨(getSet L i k hL.1 fi).2 (.inr hk.1),hk.2⟩⟩,hh.2⟩
         ·exact ⟨.inr ⟨inv.vg b fy,i,(getSet L i i hL.1 fi).2 (.inl rfl),hv⟩,hh.2⟩
        ·exact ⟨.inl (by omega),hh.2⟩
       ·have mx:=((getSet L i j hL.1 fi).1 hj).resolve_left ks
        simp only [if_neg ks] at hb
        split at hb
        ·cases hb
        ·have h1:=inv.fresh j mx b hb
         have h2:=hC.size
         exact ⟨h1.1.imp (fun h=>h) fun h=>⟨h.1,h.2.imp fun k hk=>⟨(getSet L i k hL.1 fi).2 (.inr hk.1),hk.2⟩⟩,by omega⟩
      ·have tL:∀ j',(L.setIfInBounds i true).getD j' false=true→j'≠i→∀ b∈f,b ∉ (if j'∈U.getD i [] then [] else g j'):=by
        intro j' ib e2 b hb cy
        have Hj:=((getSet L i j' hL.1 fi).1 ib).resolve_left e2
        split at cy
        ·cases cy
        ·rename_i sO
         rcases (uH b hb).1 with h | h
         ·rcases hblk b h with ⟨u,Bw,ov,fy⟩ | ⟨_,fy⟩
          ·exact inv.wG u j' ov Hj (fun h=>sO (h ▸ Bw)) b fy cy
          ·exact inv.vd j' Hj b cy fy
         ·have:=inv.fresh j' Hj b cy
          omega
       intro i' j' tX ib ny b hb cy
       by_cases e1:i'=i
       ·have e2:j'≠i:=fun h=>ny (e1.trans h.symm)
        simp only [if_pos e1] at hb
        simp only [if_neg e2] at cy
        exact tL j' ib e2 b hb cy
       ·simp only [if_neg e1] at hb
        by_cases e2:j'=i
        ·simp only [if_pos e2] at cy
         exact tL i' tX e1 b cy hb
        ·simp only [if_neg e2] at cy
         split at hb
         ·cases hb
         ·split at cy
          ·cases cy
          ·exact inv.wG i' j' (((getSet L i i' hL.1 fi).1 tX).resolve_left e1) (((getSet L i j' hL.1 fi).1 ib).resolve_left e2) ny b hb cy
     cases hb:s.b with
     | true=>
      rw [if_pos hb] at ow
      refine .inl ⟨ow.1,qo ow.2 ?_⟩
      rintro v w' ⟨hC,f,uH,hV⟩
      exact step v w' f hC uH (by rw [if_pos hb]; exact hV)
     | false=>
      rw [if_neg (by rw [hb]; exact Bool.false_ne_true)] at ow
      exact .inr ⟨ow,step undef w [] (an.refl _ _) (fun b h=>nomatch h) (by rw [if_neg (by rw [hb]; exact Bool.false_ne_true)])⟩
    refine ⟨fun h=>(by obtain ⟨i,hi⟩:=KN; rw [h] at hi; cases hi),fun i hi=>?_⟩
    obtain ⟨q1,oi,nb,uL⟩:=mm L i hi
    have fi:i < l.length:=(List.getElem?_eq_some_iff.1 nb).1
    have uK:L.getD i false=false:=getD_both q1
    have uJ:i < m:=by
     rcases Nat.lt_or_ge i m with h | h
     ·exact h
     ·have hj:=Ez i h fi j0 Q4
      have:=ji L hL i j0 (fun o' cg=>by have:o'=oi:=Option.some.inj (cg.symm.trans nb); subst this; exact uL) hj
      rw [Ff] at this; cases this
    unfold wpOp
    rw [show (l.toArray)[i]? = some oi by simpa using nb]
    simp only []
    rw [z6 (by rw [g1]; exact hd)]
    rcases main i oi uJ nb uK uL with ⟨hw,h⟩ | ⟨hw,h⟩
    ·rw [if_pos hw]
     exact .inl (h.wp fun v w' hv=>hv)
    ·rw [if_neg (by rw [hw]; exact Bool.false_ne_true)]
     exact h
 refine head _ _ a _ (fun j=>if j=l.length then H else []) ⟨by simp,?_⟩ ?_ ?_ h1 h2 ⟨an.nil (an.drew _ _),fun _=>⟨an.drew _ _,by simp⟩,fun b hb=>by simpa using hb,?_,?_,?_,?_,?_,?_⟩
 ·intro j o ho hj
  rw [getD_replicate_false] at hj; cases hj
 ·intro j hj
  rw [getD_replicate_false] at hj; cases hj
 ·simp
 ·intro j hj
  rw [getD_replicate_false] at hj; cases hj
 ·intro j hj
  rw [getD_replicate_false] at hj; cases hj
 ·intro j hj
  rw [getD_replicate_false] at hj; cases hj
 ·intro t _
  rw [h3]
 ·intro j hj
  rw [getD_replicate_false] at hj; cases hj
 ·intro i j hi
  rw [getD_replicate_false] at hi; cases hi
end
end Go.Li
namespace Go.Dk
open Go Go.Li
section
variable {R S:Type} {P:Program} {cx:Cx R} {K:dh R S} {l tail:LO} {base fr:Fr} {w:World} {Z:Nat→Prop}
theorem OU {mt id:Nat} {U:LL} {Uc:QE} (hU:((List.range mt).all fun i=>(U.getD i []).all fun u=>Nat.beq u l.length || ((cf l).getD i []).contains u)=true) (hh:mr l mt base=true) (hd:de cx.n l=true) (hA:zY l mt=true) (G8:mt≤l.length) (ht:tail=l.drop mt) {i:Nat} {sl:LQ} {ms:MM} {Γ:QE} {m:Option (Out S R)} (Ud:CP ms=true) (sS:Er U sl ms=true)
  (h:∀ x:nt ms,D P cx (.p (A8 sl (mF ms x)) (Ep ms x) base Γ fun fr Γ=>.tg true (CN tail) l tail K Γ fr m)):KD P cx K l mt U Uc id base (.a [] [] i sl ms Γ m):=by
 rintro ⟨_,h2,h3⟩ B o ho r0 w0 H Z ha hs ⟨S',hl,hR,hO⟩
 have hi:i=mt:=by
  have:=congrArg List.length h2
  simp at this
  omega
 subst hl
 obtain ⟨F,Hd,⟨wF,AI,wm,AJ⟩,hS,hG⟩:=hs
 refine Sh (N:=Z) (S:=S') (U:=U) (H:=H) hd hA G8 hi wm hU (fun b hb=>⟨hG.na b hb,fun h=>hG.apart b (List.mem_append_left _ h) hb⟩) (fun i s hs=>hR.s i s hs) (fun j hj=>hO j (by omega)) ?_
 intro g r w hI
 have KE:∀ k j,j∈U.getD k []→∀ a∈ms,a.j≠j:=by
  intro k j hj
  unfold Er at sS
  rw [List.getD_eq_getElem?_getD] at hj
  cases hk:U[k]? with
  | none=>rw [hk] at hj; exact absurd hj List.not_mem_nil
  | some us=>
   rw [hk] at hj
   have h1:=List.all_eq_true.1 (List.all_eq_true.1 sS us (List.mem_of_getElem? hk)) j hj
   intro a ha he
   have:=List.all_eq_true.1 h1 a ha
   rw [he,Nat.beq_refl] at this
   cases this
 have hD:∀ j,j < mt→(∀ k,j ∉ U.getD k [])→xj l S' j g r w:=fun j hj hn=>hI.done j hj fun k _=>hn k
 have bj:∀ a∈ms,a.j < mt:=fun a ha=>hi ▸ hR.lt ha
 obtain ⟨x,hx,ub,Uf⟩:=QZ (g:=g) (r:=r) (w:=w) Ud hR.d (fun a ha b hb va=>hI.wG _ _ (bj a ha) (bj b hb) va) fun a ha=>by
  have:=hR.GW (S2:=[]) ha (by rw [List.append_nil]; exact hD a.j (bj a ha) (fun k hk=>KE k _ hk a ha rfl))
  exact this
 have DA:=List.nodup_append.1 hG.nd
 have qe:∀ b∈zW g ms,w0.heap.size≤b∨b∈H:=fun b hb=>by
  obtain ⟨a,h1,h2⟩:=CT hb
  exact (hI.fresh a.j (bj a h1) b h2).1.imp (fun h=>h) (·.1)
 have ew:=sM.stay hS hG hI.jc
 obtain ⟨Vo,Vr,Ug,Uh,ub⟩:=ub
 obtain ⟨F',hp,fk⟩:=ub.build (ew.mono (fun _ h=>.inl h) fun _ h=>h)
 have vO:Gd B Z (zW g ms++F) w:=by
  refine ⟨vN Uf DA.2.1 fun b hb hF=>(qe b hb).elim (fun h=>Nat.lt_irrefl _ (Nat.lt_of_lt_of_le (hS.lt b hF) h)) (fun h=>DA.2.2 b h b hF rfl),?_,fun b hb=>Nat.lt_of_lt_of_le (hG.na b hb) hI.jc.size,?_,hG.tU,hG.tA,hG.jc.then hI.jc fun b hb=>hG.low b (List.mem_append_left _ hb)⟩
  ·intro b hb hz
   rcases List.mem_append.1 hb with hb | hb
   ·exact (qe b hb).elim (fun h=>Nat.lt_irrefl _ (Nat.lt_of_lt_of_le (hG.na b hz) h)) (fun h=>hG.apart b (List.mem_append_left _ h) hz)
   ·exact hG.apart b (List.mem_append_right _ hb) hz
  ·intro b hb
   rcases List.mem_append.1 hb with hb | hb
   ·exact (qe b hb).elim (fun h=>.inr (Nat.le_trans hG.jc.size h)) (fun h=>hG.low b (List.mem_append_left _ h))
   ·exact hG.low b (List.mem_append_right _ hb)
 have OK:cw r ((A8 sl (mF ms x)).reverse++base):=by
  refine qa (G6 (fun p hp=>?_) hx) (ko hh ha hI.other)
  exact hR.yZ (S2:=[]) hp fun j _ hj=>(by rw [List.append_nil]; exact hI.tF j (hi ▸ hj))
 have:=(h x).sound B o ho r w OK ⟨_,F',fk,((vO.perm (JF Ug)).freeze Uh).perm hp⟩
 rw [ht] at this
 exact this
theorem XT {id:Nat} (hd:QE) (mt:Nat) (U as:LL) {ops:LO} {Γ Γ1:QE} {fr:Fr} {m:Option (Out S R)}
  (hB:(P.follows .mixedOrders && de cx.n l && zY l mt && Nat.ble mt l.length && (qn l U mt == as) && ((List.range mt).all fun i=>(U.getD i []).all fun u=>Nat.beq u l.length || ((cf l).getD i []).contains u))=true)
  (ho:ops=l.take mt) (ht:tail=l.drop mt) (hf:Kp (zM ops) none fr base) (hh:mr l mt base=true) (he:EO Γ hd Γ1) (G9:OW Γ hd)
  (h:AD true P cx K l tail base U hd (.a as ops 0 [] [] Γ1 m)):Bx (lj P cx (.dr id l K Γ fr m)):=by
 simp only [Bool.and_eq_true] at hB
 obtain ⟨⟨⟨⟨⟨b1,b2⟩,b3⟩,b5⟩,b6⟩,b7⟩:=hB
 rw [kv]
 intro B o hm r w ha hs
 obtain ⟨Z,F,hS,hG⟩:=hs
 obtain ⟨Fd,F',h1,h2,h3⟩:=he.sound hS
 have Ha:SA Z w hd [] Fd:=by
  have:=(HO.hl G9 hS h1).front (Γ:=[]) (F:=[]) rfl
  simpa using this
 have hX:sM B Z hd Γ1 Fd w:=⟨F',Fd,⟨Ha,fun b hb=>⟨hb,Ha.lt b hb⟩,Ha.lt,(List.nodup_append.1 (hG.perm h3).nd).1⟩,h2,hG.perm h3⟩
 refine mg.W b1 ?_
 refine AD.sound (id:=id) hh (fun _ _ _ _ _ _ hs he h=>OU b7 hh b2 b3 (Nat.le_of_ble_eq_true b5) ht hs he h) h
  ⟨by rw [List.drop_zero]; exact (eq_of_beq b6).symm,by rw [List.drop_zero]; exact ho,Nat.zero_le _⟩ B o hm r w Fd Z (hf.sound ha) hX ⟨[],rfl,⟨fun _ h=>absurd h List.not_mem_nil,fun _ h=>absurd h List.not_mem_nil,fun i s h=>by simp at h,List.nodup_nil,fun _ _ _ h1 h2=>DB l (KM b3) h1 h2⟩,fun j hj=>absurd hj (Nat.not_lt_zero j)⟩
theorem aau {id:Nat} (mt:Nat) (U as:LL) {ops:LO} {Γ:QE} {fr:Fr} {m:Option (Out S R)}
  (hB:(P.follows .mixedOrders && de cx.n l && zY l mt && Nat.ble mt l.length && (qn l U mt == as) && ((List.range mt).all fun i=>(U.getD i []).all fun u=>Nat.beq u l.length || ((cf l).getD i []).contains u))=true)
  (ho:ops=l.take mt) (ht:tail=l.drop mt) (hf:Kp (zM ops) none fr base) (hh:mr l mt base=true)
  (h:AD true P cx K l tail base U [] (.a as ops 0 [] [] Γ m)):Bx (lj P cx (.dr id l K Γ fr m)):=XT [] mt U as hB ho ht hf hh .nil .nil h
end
end Go.Dk
namespace Go.Dk
open Go Go.Li
def A6:Value→Option Nat
 | .slice (some a) _ _=>some a.block
 | _=>none
def NF {α:Type} (E:ah α):Prop:=∀ {h:Array Obj} {cs:LV} {x:α} {f:LN},E.rep h cs x f→f=[]
theorem NF.i {k:IntKind}:NF (aC k):=yi
theorem NF.l {α:Type} {E:ah α} (hE:NF E) {h:Array Obj}:∀ {xs:List α} {cs:LV} {f:LN},dt E h cs xs f→f=[]:=by
 intro xs
 induction xs with
 | nil=>rintro cs f ⟨_,rfl⟩; rfl
 | cons x xs ih=>
  rintro cs f ⟨c,gy,f1,f2,rfl,rfl,h1,h2⟩
  rw [hE h1,ih h2]; rfl
structure Good {α:Type} (A:Value→α→Prop) (f:LN):Prop where
 sub:∀ u y b,A u y→A6 u=some b→b∈f
 one:∀ u y u' y' b,A u y→A u' y'→A6 u=some b→A6 u'=some b→y=y'
inductive AK {α:Type}:{β:Type}→ah β→((Value→List α→Prop)→ah β)→Prop
 | row {e:TI} {E:ah α}:AK (aL e E) (fun A=>tT A (aL e E))
 | step {β:Type} {e:TI} {T:ah β} {T':(Value→List α→Prop)→ah β} (h:AK T T'):AK (aL e T) (fun A=>aB (T' A))
section
variable {α β:Type} {T:ah β} {T':(Value→List α→Prop)→ah β} {A A':Value→List α→Prop} {f:LN} {hp:Array Obj}
theorem AK.size (h:AK T T'):(T' A).size=T.size:=by
 cases h <;> rfl
theorem AK.mono (h:AK T T') (hA:∀ u y,A u y→A' u y):Le (T' A) (T' A'):=by
 induction h with
 | row=>exact ⟨rfl,fun h=>⟨h.1.imp fun v g=>⟨g.1,hA _ _ g.2⟩,h.2⟩⟩
 | step _ ih=>exact ih.Ji
theorem AK.XU {e:TI} (ho:∀ {cs:LV} {x:β} {f:LN},T.rep hp cs x f→f.Nodup→∃ A,Good A f∧(T' A).rep hp cs x f) (hm:∀ {A A':Value→List α→Prop},(∀ u y,A u y→A' u y)→Le (T' A) (T' A')) :
  ∀ {xs:List β} {cs:LV} {f:LN},dt T hp cs xs f→f.Nodup→∃ A,Good A f∧dt (T' A) hp cs xs f:=by
 have _:=e
 intro xs
 induction xs with
 | nil=>rintro cs f ⟨rfl,rfl⟩ _; exact ⟨fun _ _=>False,⟨fun _ _ _ h=>h.elim,fun _ _ _ _ _ h=>h.elim⟩,rfl,rfl⟩
 | cons x xs ih=>
  rintro cs f ⟨c,gy,f1,f2,rfl,rfl,h1,h2⟩ hn
  obtain ⟨n1,n2,n3⟩:=List.nodup_append.1 hn
  obtain ⟨A1,g1,r1⟩:=ho h1 n1
  obtain ⟨A2,g2,r2⟩:=ih h2 n2
  refine ⟨fun u y=>A1 u y∨A2 u y,⟨fun u y b h hb=>?_,fun u y u' y' b h h' hb cy=>?_⟩,c,gy,f1,f2,rfl,rfl,(hm fun _ _=>.inl).le r1,vh (hm fun _ _=>.inr) r2⟩
  ·exact h.elim (fun h=>List.mem_append_left _ (g1.sub u y b h hb)) (fun h=>List.mem_append_right _ (g2.sub u y b h hb))
  ·rcases h with h | h <;> rcases h' with h' | h'
   ·exact g1.one u y u' y' b h h' hb cy
   ·exact absurd rfl (n3 b (g1.sub _ _ _ h hb) b (g2.sub _ _ _ h' cy))
   ·exact absurd rfl (n3 b (g1.sub _ _ _ h' cy) b (g2.sub _ _ _ h hb))
   ·exact g2.one u y u' y' b h h' hb cy
theorem AK.opened (h:AK T T'):∀ {cs:LV} {x:β} {f:LN},T.rep hp cs x f→f.Nodup→∃ A,Good A f∧(T' A).rep hp cs x f:=by
 induction h with
 | @row e E=>
  intro cs x f hr _
  obtain ⟨base,cap,rfl,fq⟩:=id hr
  refine ⟨fun u y=>u = .slice base x.length cap∧y=x,⟨?_,?_⟩,⟨_,rfl,rfl,rfl⟩,hr⟩
  ·rintro u y b ⟨rfl,rfl⟩ hb
   rcases fq with ⟨rfl,_⟩ | ⟨b0,cur,f',rfl,_,rfl,_⟩
   ·cases hb
   ·cases hb; exact List.mem_cons_self
  ·rintro u y u' y' b ⟨_,rfl⟩ ⟨_,rfl⟩ _ _; rfl
 | @step β e T T' ho ih=>
  intro cs x f hr hn
  obtain ⟨base,cap,rfl,fq⟩:=hr
  rcases fq with ⟨rfl,_,rfl,rfl⟩ | ⟨b,cur,f',rfl,hg,rfl,h3,h4,h5,h6⟩
  ·exact ⟨fun _ _=>False,⟨fun _ _ _ h=>h.elim,fun _ _ _ _ _ h=>h.elim⟩,none,cap,rfl,.inl ⟨rfl,rfl⟩⟩
  ·obtain ⟨A,g1,g2⟩:=AK.XU (e:=e) ih (fun hA=>ho.mono hA) h6 (List.nodup_cons.1 hn).2
   refine ⟨A,⟨fun u y b h hb=>List.mem_cons_of_mem _ (g1.sub u y b h hb),g1.one⟩,_,cap,rfl,.inr ⟨b,0,cur,e,(0,0),f',rfl,hg,rfl,?_⟩⟩
   rw [List.drop_zero,ho.size]
   exact g2
end
section
variable {α:Type} {e e':TI} {E:ah α} {A:Value→List α→Prop} {ft f:LN} {hp:Array Obj}
theorem KO (nf:NF E) (hA:Good A ft):∀ {ys:List (List α)} {us:LV} {g:LN},dt (tT A (aL e' E)) hp us ys g→ys.Nodup→
  dt (aL e' E) hp us ys g∧g.Nodup∧∀ b∈g,b∈ft∧∃ u y,A u y∧A6 u=some b∧y∈ys:=by
 intro ys
 induction ys with
 | nil=>rintro us g ⟨rfl,rfl⟩ _; exact ⟨⟨rfl,rfl⟩,List.nodup_nil,fun b hb=>absurd hb List.not_mem_nil⟩
 | cons y ys ih=>
  rintro us g ⟨c,gy,g1,g2,rfl,rfl,⟨⟨u,rfl,hu⟩,hr⟩,h2⟩ hn
  obtain ⟨n1,n2⟩:=List.nodup_cons.1 hn
  obtain ⟨a1,a2,a3⟩:=ih h2 n2
  refine ⟨⟨[u],gy,g1,g2,rfl,rfl,hr,a1⟩,?_,?_⟩
  ·obtain ⟨base,cap,hv,fq⟩:=hr
   obtain rfl:u = .slice base y.length cap:=by simpa using hv
   rcases fq with ⟨_,_,_,rfl⟩ | ⟨b,cur,f',rfl,_,rfl,_,_,_,h6⟩
   ·exact a2
   ·rw [nf.l h6]
    refine List.nodup_cons.2 ⟨fun hb=>?_,a2⟩
    obtain ⟨_,u',y',h7,h8,h9⟩:=a3 b hb
    rw [hA.one _ _ _ _ b hu h7 rfl h8] at n1
    exact n1 h9
  ·intro b hb
   rcases List.mem_append.1 hb with hb | hb
   ·obtain ⟨base,cap,hv,fq⟩:=hr
    obtain rfl:u = .slice base y.length cap:=by simpa using hv
    rcases fq with ⟨_,_,_,rfl⟩ | ⟨b0,cur,f',rfl,_,rfl,_,_,_,h6⟩
    ·cases hb
    ·rw [nf.l h6,List.mem_singleton] at hb
     subst hb
     exact ⟨hA.sub _ _ _ hu rfl,_,y,hu,rfl,by simp⟩
   ·obtain ⟨b1,u',y',b2,b3,b4⟩:=a3 b hb
    exact ⟨b1,u',y',b2,b3,by simp [b4]⟩
theorem MC {Z:Nat→Prop} {w:World} {v:Value} {ys:List (List α)} (nf:NF E) (hA:Good A ft) (ho:py Z w f (.om e (tT A (aL e' E)) v ys)) (hn:ys.Nodup) (hf:f.Nodup) (hz:∀ b∈f,¬ Z b) :
  ∃ g,(∀ b∈g,b∈ft)∧(aL e (aL e' E)).rep w.heap [v] ys (f++g)∧(f++g).Nodup:=by
 obtain ⟨us,g,h1,h2,h3,_⟩:=ho
 obtain ⟨a1,a2,a3⟩:=KO nf hA h2 hn
 have hl:us.length=ys.length:=by have:=j8 a1; rw [this]; exact Nat.mul_one _
 refine ⟨g,fun b hb=>(a3 b hb).1,?_,List.nodup_append.2 ⟨hf,a2,fun b hb c hc=>fun e=>hz b hb (h3 b (e ▸ hc))⟩⟩
 obtain ⟨base,cap,hv,hr⟩:=h1
 obtain rfl:v = .slice base us.length cap:=by simpa using hv
 rw [hl]
 rcases hr with ⟨rfl,rfl,rfl,rfl⟩ | ⟨b,cur,f',rfl,hg,rfl,c1,c2,c3,c4⟩
 ·cases ys with
  | cons y ys=>simp at hl
  | nil=>obtain ⟨_,rfl⟩:=a1; exact ⟨none,0,rfl,.inl ⟨rfl,rfl,rfl,rfl⟩⟩
 ·obtain ⟨c5,rfl⟩:=zJ c4
  refine ⟨_,cap,rfl,.inr ⟨b,cur,g,rfl,hg,rfl,by rw [← hl]; exact c1,c2,c3,?_⟩⟩
  have e1:(aL e' E).size=sx.size:=rfl
  rw [e1,← hl,c5]
  exact a1
end
section
variable {P:Program} {R:Type} {cx:Cx R}
theorem ai {S S1 α β:Type} [DecidableEq (List α)] (k t0:Nat) (φ:S1→Value→Fr) (JI:S1→List (List α)) (v0:Value) (f2:Fr) {e e':TI} {E:ah α} {T:ah β} {T':(Value→List α→Prop)→ah β} {vs:Value} {x:β} {fu:List KI} {kb:Kb R S} {c:Code} {s0:S1} {body:S1→Option (Out S1 R)} {f:S1→Option (Out S R)} {Γ Γ1 Γ2:QE} {fr:Fr}
  (ho:AK T T') (nf:NF E) (ha:qx fr (φ s0 v0)) (hf:qx fr f2) (hz:JI s0=[]) (hv:look fr t0=some vs) (h1:dp Γ (.own T vs x) Γ1) (h2:∀ A:Value→List α→Prop,dp Γ1 (.om e (tT A (aL e' E)) v0 []) Γ2)
  (hb:∀ (A:Value→List α→Prop) s v,D P cx (.p (φ s v) [.om e (tT A (aL e' E)) v (JI s)] f2 [.rd false (T' A) vs x] fun fr Γ=>.c ⟨[],.loop Value k (fun s v=>[.om e (tT A (aL e' E)) v (JI s)]) φ [.rd false (T' A) vs x] f2⟩ c Γ fr (body s)))
  (hk:∀ s v,D P cx (.p (φ s v) [.own (aL e (aL e' E)) v (JI s)] f2 [] fun fr Γ=>.mn ⟨fu,kb⟩ Γ fr (f s))) :
  Bx (lj P cx (.bk true k ⟨fu,kb⟩ (.loop c) Γ fr (ag (ae k (ai body s0)) fun s=>UC (JI s)>>=fun _=>f s))):=by
 have _:=hv
 rw [kv]
 intro B o MD r w ot ou
 obtain ⟨Z,F,hS,hG⟩:=ou
 obtain ⟨ft,F1,ry,hT,ew⟩:=h1.sound hS
 have JJ:=hG.perm ry
 obtain ⟨n1,n2,n3⟩:=List.nodup_append.1 JJ.nd
 obtain ⟨A,hA,hR⟩:=ho.opened (hp:=w.heap) hT n1
 obtain ⟨fo,F2,nr,hO,fk⟩:=(h2 A).sound ew
 have Fh:∀ b∈ft,b < w.heap.size:=ah.lt _ hT
 have UD:∀ b∈ft,¬ Z b:=fun b hb=>JJ.apart b (List.mem_append_left _ hb)
 have Q5:∀ b∈fo,b∈F1:=fun b hb=>nr.mem_iff.1 (List.mem_append_left _ hb)
 have sN:fo.Nodup:=(List.nodup_append.1 (nr.nodup_iff.2 n2)).1
 refine Kt (T:=TT P cx B) (LI B (fun s v=>[.om e (tT A (aL e' E)) v (JI s)]) φ [.rd false (T' A) vs x] f2) MD
  ⟨v0,qa (ha.all ot) (hf.sound ot),fun b=>Z b∨b∈ft,fo,⟨fo,[],(List.append_nil _).symm,by rw [hz]; exact hO.mono fun _=>.inl,⟨ft,hR,fun b hb=>.inr hb⟩,rfl⟩,sN,fun b hb=>?_,fun b hb=>hb.elim (hG.na b) (Fh b),fun b hb=>JJ.low b (List.mem_append_right _ (Q5 b hb)),fun b h=>.inl (hG.tU b h),fun b hb=>hb.elim (hG.tA b) fun hb=>.inr (JJ.low b (List.mem_append_left _ hb)),hG.jc⟩ ?_ ?_ ?_
 ·rintro (h | h)
  ·exact JJ.apart b (List.mem_append_right _ (Q5 b hb)) h
  ·exact n3 b h b (Q5 b hb) rfl
 ·intro x r w he hx
  subst he
  exact vL hx
 ·rintro s r w ⟨v,h1,h2⟩ o ho
  exact (hb A s v).sound B o ho r w h1 h2
 ·rintro s r w' ⟨v,a1,Z2,Fl,GO,jh⟩ hm
  obtain ⟨_,hn,hm⟩:=bind_some hm
  replace hn:=OV hn
  obtain ⟨f',F',rfl,vP,XV⟩:=GO
  have Bd:F'=[]:=XV.2
  subst Bd
  rw [List.append_nil] at jh
  obtain ⟨g,s1,s2,s3⟩:=MC nf hA vP hn jh.nd jh.apart
  refine (hk s v).sound B o hm r w' a1 ⟨B.Z,f'++g,⟨f'++g,[],(List.append_nil _).symm,s2,rfl⟩,s3,fun b hb hz=>?_,fun b hz=>jh.na b (jh.tU b hz),fun b hb=>?_,fun _ h=>h,fun _ h=>.inl h,jh.jc⟩
  ·rcases List.mem_append.1 hb with hb | hb
   ·exact jh.apart b hb (jh.tU b hz)
   ·exact UD b (s1 b hb) (hG.tU b hz)
  ·rcases List.mem_append.1 hb with hb | hb
   ·exact jh.low b hb
   ·exact JJ.low b (List.mem_append_left _ (s1 b hb))
end
end Go.Dk
namespace Go.Dk
open Go Go.Li
section
variable {R:Type} {P:Program} {cx:Cx R} {B:Bs} {M:Type} {all l:LO} {rk:RK R M} {fr:Fr} {w:World} {Z:Nat→Prop} {F cur:LN} {Γ Γ1 Γ2 Γ3:QE}
theorem D.of {J:Jd R} (h:lj P cx J):D P cx J:=.inj (by rw [kv]; exact h)
theorem Q6 {Δ : List aw} (h : FO Δ) : ∀ {Fd : List Nat}, HL Z w Δ Fd → ∀ e ∈ Δ, fact Z w [] e := by
  induction h with
  | nil => intro Fd _ e he; cases he
  | rd _ ih =>
    intro Fd hl e he
    cases hl with
    | own h _ => exact h.elim
    | fact h k => rcases List.mem_cons.1 he with rfl | he
                  · exact h
                  · exact ih k e he
  | au _ ih =>
    intro Fd hl e he
    cases hl with
    | own h _ => exact h.elim
    | fact h k => rcases List.mem_cons.1 he with rfl | he
                  · exact h
                  · exact ih k e he
theorem Q7 {α:Type} (S:ah α) {d:Nat} {t e n bt ty:TI} {m:Option M} [ht:AF P t e n bt]
  (h:∀ v,D P cx (.o false all l rk (.own (aL e (ij n)) v [] :: .rd false (tn S) (.bool true) ([],[]) :: Γ) ((d,v) :: fr) m)):D P cx (.e false (.buildSlice t 0 #[]) (some d) ty all l rk Γ fr m):=by
 refine D.of ?_
 intro B o ho r w ha hs pos af g
 obtain ⟨h1,i,z,h2,_⟩:=ht.h
 obtain ⟨v,w',f,hr,hC,hO⟩:=zU (E:=ij n) (r:=r) (w:=w) (d:=some d) (ty:=ty) (pos:=pos) (af:=af) (g:=none) h1 h2
 refine fh (WL.val rfl hr ((h v).sound B o ho _ w' (ay ha) ?_))
 obtain ⟨Z,F,hS,hg⟩:=hs
 have hf:fact Z w [] (.rd false (tn S) (.bool true) ([],[])):=⟨[],⟨rfl,rfl,fun _ h=>absurd h List.not_mem_nil⟩,fun _ h=>absurd h List.not_mem_nil⟩
 exact St.put (f:=[]) (SA.fact hS hf) hg hC hO.1 hO.2.1 fun b hb=>.inr ((hO.2.2 b hb).resolve_left List.not_mem_nil)
theorem UE {α:Type} {S:ah α} {q:Bool} {d n e:Nat} {x:OO} {v:Value} {us:List (List Value)} {xs:List α} {t ty bt:TI} {m:Option M} [ht:AF P t e n bt] (hx:bq fr x=some v) (h1:dp Γ (.own (aL e (ij n)) v us) Γ1) (hg:In (.rd false (tn S) (.bool true) (us,xs)) Γ)
  (h:D P cx (.o q all l rk Γ ((d,.int .i64 (xs.length:Int)) :: fr) m)):D P cx (.e q (.call ⟨.builtin .len,#[x],#[t]⟩) (some d) ty all l rk Γ fr m):=by
 refine D.of ?_
 intro B o ho r w ha hs pos af g
 obtain ⟨q1,_⟩:=ht.h
 obtain ⟨Z,F,hS,hG⟩:=@_root_.id _ hs
 obtain ⟨f,F1,_,hO,_⟩:=h1.sound hS
 obtain ⟨k,hk,_⟩:=hg.rd hS []
 obtain ⟨base,cap,hv,_⟩:=hO
 obtain rfl:v = .slice base us.length cap:=by simpa using hv
 have hl:us.length=xs.length:=yW hk.2.1
 exact db (v:=.int .i64 (xs.length:Int)) (fun w' _=>by rw [← hl]; exact uD q1 (bA ha hx)) (h.sound B o ho _ w (ay ha) hs)
theorem ixS {α V:Type} {S:ah α} {cl:α→V→List Value} {en:α→V→List aw} {q:Bool} {d n e:Nat} {x y:OO} {v:Value} {us:List (List Value)} {xs:List α} {k:IntKind} {j:Int} {t ty bt:TI} {f:α→Option M} [ht:AF P t e n bt] (hx:bq fr x=some v) (hy:bq fr y=some (.int k j))
  (h1:dp Γ (.own (aL e (ij n)) v us) Γ1) (hg:In (.rd false (tn S) (.bool true) (us,xs)) Γ) (hs:E3 S V cl en)
  (h:∀ z u,D P cx (.p [] (.rd false (AB us j) (.bool true) (cl z u) :: en z u) fr Γ fun fr Γ=>.o q all l rk Γ ((d,.pointer (some (dc v n j))) :: fr) (f z))):D P cx (.e q (.indexAddr t x y) (some d) ty all l rk Γ fr (idx xs j>>=f)):=by
 refine D.of ?_
 intro B o ho r w ha ec pos af g
 replace hs:SO S V cl en:=by cases hs; assumption
 obtain ⟨z,hz,ho⟩:=bind_some ho
 replace hz:=qk hz
 obtain ⟨q1,i,_,q2,_,_,q3,_⟩:=ht.h
 obtain ⟨Z,F,hS,hG⟩:=ec
 obtain ⟨f0,F1,_,hO,_⟩:=h1.sound hS
 obtain ⟨g0,hk,tu⟩:=hg.rd hS []
 obtain ⟨c,g1,e1,e2,e3⟩:=Dj j.toNat hk.2.1 hz.2
 obtain ⟨u,rfl,sS⟩:=hs.op e2
 have hlen:us.length=xs.length:=yW hk.2.1
 have bj:j.toNat < xs.length:=(List.getElem?_eq_some_iff.1 hz.2).1
 have hv:∃ a c,v = .slice (some a) us.length c:=by
  obtain ⟨base,cap,hv,hr⟩:=hO
  obtain rfl:v = .slice base us.length cap:=by simpa using hv
  rcases hr with ⟨_,_,rfl,_⟩ | ⟨b,cur,f',rfl,_⟩
  ·rw [← hlen] at bj; simp at bj
  ·exact ⟨_,_,rfl⟩
 obtain ⟨a,c',rfl⟩:=hv
 have dw:HL Z w (.rd false (AB us j) (.bool true) (cl z u) :: en z u) []:=.fact ⟨[],⟨rfl,⟨hz.1,e1⟩,rfl⟩,fun _ h=>absurd h List.not_mem_nil⟩ (vj (sS Z fun b hb=>tu b (e3 b hb)))
 obtain ⟨F',hp,fk⟩:=dw.build hS
 refine db (v:=.pointer (some (dc (.slice (some a) us.length c') n j))) (fun w' hC=>?_) ((h z u).sound B o ho _ w (ay ha) ⟨Z,F',fk,hG.perm (by simpa using hp)⟩)
 rw [ll q1 q2 (bA ha hx) (bA ha hy) hz.1 (by omega),q3]
 rfl
theorem ME {q:Bool} {d n off e:Nat} {x:OO} {v u:Value} {us:List (List Value)} {j:Int} {cs:LV} {ty:TI} {m:Option M} (h1:dp Γ (.own (aL e (ij n)) v us) Γ1) (hp:In (.rd false (AB us j) (.bool true) cs) Γ) (hc:cs[off]? = some u)
  (k:D P cx (.o q all l rk Γ ((d,u) :: fr) m)):D P cx (.la ((dc v n j).add off) none q ty x d all l rk Γ fr m):=by
 refine D.of ?_
 intro ht hx B o ho r w ha hs t pos af g
 obtain ⟨Z,F,hS,_⟩:=@_root_.id _ hs
 obtain ⟨f,F1,_,hO,_⟩:=h1.sound hS
 obtain ⟨_,⟨_,⟨hj,hu⟩,_⟩,_⟩:=hp.rd hS []
 exact db (Ld ht ((ym hO hj hu).2.2 off u hc) (bA ha hx)) (k.sound B o ho _ w (ay ha) hs)
theorem KP {q:Bool} {d n e:Nat} {x:OO} {v u:Value} {us:List (List Value)} {j:Int} {cs:LV} {ty:TI} {m:Option M} (h1:dp Γ (.own (aL e (ij n)) v us) Γ1) (hp:In (.rd false (AB us j) (.bool true) cs) Γ) (hc:cs[0]? = some u)
  (k:D P cx (.o q all l rk Γ ((d,u) :: fr) m)):D P cx (.la (dc v n j) none q ty x d all l rk Γ fr m):=by
 have e:(dc v n j).add 0=dc v n j:=rfl
 rw [← e]
 exact ME h1 hp hc k
theorem Q8 {q:Bool} {d n e:Nat} {x:OO} {v:Value} {us:List (List Value)} {j:Int} {cs:LV} {ty:TI} {m:Option M} (h1:dp Γ (.own (aL e (ij n)) v us) Γ1) (hp:In (.rd false (AB us j) (.bool true) cs) Γ)
  (k:D P cx (.o q all l rk Γ ((d,.agg cs.toArray) :: fr) m)):D P cx (.la (dc v n j) (some n) q ty x d all l rk Γ fr m):=by
 refine D.of ?_
 intro ht hx B o ho r w ha hs t pos af g
 obtain ⟨Z,F,hS,_⟩:=@_root_.id _ hs
 obtain ⟨f,F1,_,hO,_⟩:=h1.sound hS
 obtain ⟨_,⟨_,⟨hj,hu⟩,_⟩,_⟩:=hp.rd hS []
 obtain ⟨e1,_,e3⟩:=ym hO hj hu
 exact db (Lg ht (fun i u hi=>e3 i u hi) (bA ha hx) e1) (k.sound B o ho _ w (ay ha) hs)
theorem Q9 {α V:Type} {S:ah α} {cl:α→V→List Value} {en:α→V→List aw} (y:α) {u:V} {d b n e bt:Nat} {s x:OO} {sv:Value} {us:List (List Value)} {xs:List α} {cs:LV} {t et ty:TI} {f:Unit→Option M} [ht:AF P t e n bt]
  (hs:bq fr s=some sv) (hx:bq fr x=some (.slice (some ⟨b,0,none⟩) 1 1)) (h0:dp Γ (.row b cs et) Γ1) (h1:dp Γ1 (.own (aL e (ij n)) sv us) Γ2) (hg:In (.rd false (tn S) (.bool true) (us,xs)) Γ2) (qz:E3 S V cl en) (_hv:bn V u) (hc:cs=cl y u) (ho:ba Γ cs) (hn:cs.length=n) (UF:FO (en y u)) (hf:EF Γ2 (en y u) Γ3)
  (h:∀ v,D P cx (.o false all l rk (.own (aL e (ij n)) v (us++[cs]) :: .rd false (tn S) (.bool true) (us++[cs],xs++[y]) :: Γ3) ((d,v) :: fr) (f ()))):D P cx (.e false (.call ⟨.builtin .append,#[s,x],#[t,t]⟩) (some d) ty all l rk Γ fr (fits bt (xs.length+1)>>=f)):=by
 refine D.of ?_
 intro B o cg r w ha ec pos af g
 have EA:SO S V cl en:=by cases qz; assumption
 obtain ⟨_,hu,cg⟩:=bind_some cg
 obtain ⟨b1,b2⟩:=qd hu
 obtain ⟨q1,i,z,q2,q3,q4,q5,q6,_⟩:=ht.h
 obtain ⟨Z,F,hS,hG⟩:=ec
 have Gj:=ho.one hS
 obtain ⟨n0,F0,sT,⟨rfl,bh⟩,uE⟩:=h0.sound hS
 obtain ⟨k,F1,hp,hO,ew⟩:=h1.sound uE
 obtain ⟨Fd,F2,Zn,UG,fk,nr⟩:=hf.sound ew
 obtain ⟨g0,hk,tu⟩:=hg.rd ew []
 have hlen:us.length=xs.length:=yW hk.2.1
 have qb:((k++F1)++[b]).Perm F:=(List.perm_append_comm.trans (hp.append_left [b])).trans sT
 have jh:Gd B Z (k++F1) w:=Gd.left (F':=[b]) (hG.perm qb)
 have u9:((k++F2)++(Fd++Zn)).Perm (k++F1):=by
  rw [List.append_assoc]
  refine List.Perm.append_left k (.trans ?_ nr)
  rw [← List.append_assoc]
  exact (List.perm_append_comm (l₁:=F2) (l₂:=Fd)).append_right Zn
 have ke:Gd B Z ((k++F2)++(Fd++Zn)) w:=jh.perm u9
 have bj:∀ b∈Fd++Zn,b < w.heap.size:=fun b hb=>by
  have h3:b∈k++F1:=u9.mem_iff.1 (List.mem_append_right _ hb)
  rcases List.mem_append.1 h3 with h3 | h3
  ·exact ah.lt _ hO b h3
  ·exact ew.lt b h3
 have vO:Gd B (qc Z (Fd++Zn)) (k++F2) w:=ke.freeze bj
 have DG:∀ b,qc Z Zn b→qc Z (Fd++Zn) b:=fun b hb=>hb.imp id fun h=>List.mem_append_right _ h
 obtain ⟨g1,yc,DH⟩:=EA.cl (x:=y) (v:=u) (Z:=qc Z (Fd++Zn)) (w:=w) (Q6 UF (UG.mono DG))
 have hdk:sf [] k:=fun _ h=>absurd h List.not_mem_nil
 have hE:dt (ij n) w.heap cs [cs] []:=⟨cs,[],[],[],by simp,by simp,⟨rfl,hn,Gj,rfl⟩,rfl,rfl⟩
 obtain ⟨v,w',f',j9,hC,dy,dj,df⟩:=qf (E:=ij n) (d:=some d) (ty:=ty) (pos:=pos) (af:=af) (g:=none) (k:=[]) (ys:=[cs]) (news:=cs) q1 q2 q3 (by rw [q5]; rfl) (by rw [q4]; rfl) (bA ha hs) hO (List.nodup_append.1 jh.nd).1 (bA ha hx) (fun i u hi=>bh.at i u hi) hE hdk (by simp) (by rw [q6,hlen]; exact b1) (by rw [hlen]; exact b2)
 refine fh (WL.val rfl j9 ((h v).sound B o cg _ w' (ay ha) ?_))
 have UH:fact (qc Z (Fd++Zn)) w [] (.rd false (tn S) (.bool true) (us++[cs],xs++[y])):=by
  rw [hc]
  refine ⟨g0++g1,⟨rfl,Tl yc hk.2.1,fun b hb=>?_⟩,fun b hb=>?_⟩
  ·rcases List.mem_append.1 hb with hb | hb
   ·exact hk.2.2 b hb
   ·exact S.lt yc b hb
  ·rcases List.mem_append.1 hb with hb | hb
   ·exact .inl (tu b hb)
   ·exact DH b hb
 exact St.put (SA.fact (fk.mono DG fun _ h=>h) UH) vO hC dy (df List.nodup_nil) fun b hb=>(dj b hb).imp id fun h=>h.resolve_left List.not_mem_nil
theorem Si {n:Nat} {h:Array Obj}:∀ {us:List (List Value)} {cs:LV} {f:LN},dt (ij n) h cs us f→∀ c∈us,c.length=n∧∀ v∈c,v.oneCell'=true:=by
 intro us
 induction us with
 | nil=>intro cs f _ c hc; cases hc
 | cons a us ih=>
  rintro cs f ⟨c',gy,f1,f2,rfl,rfl,⟨rfl,h1,h2,rfl⟩,h3⟩ c hc
  rcases List.mem_cons.1 hc with rfl | hc
  ·exact ⟨h1,h2⟩
  ·exact ih h3 c hc
theorem Sj {n:Nat} {h:Array Obj}:∀ {us:List (List Value)},(∀ c∈us,c.length=n∧∀ v∈c,v.oneCell'=true)→dt (ij n) h us.flatten us []:=by
 intro us
 induction us with
 | nil=>intro _; exact ⟨rfl,rfl⟩
 | cons a us ih=>
  intro hc
  have h1:=hc a (by simp)
  exact ⟨a,us.flatten,[],[],by simp,rfl,⟨rfl,h1.1,h1.2,rfl⟩,ih fun c hm=>hc c (by simp [hm])⟩
theorem I0 {n:Nat} {c:LV}:∀ {us:List (List Value)} {j:Nat},(∀ x∈us,x.length=n)→j < us.length→(us.set j c).flatten=us.flatten.take (j * n)++c++us.flatten.drop (j * n+n)∧j * n+n≤us.flatten.length:=by
 intro us
 induction us with
 | nil=>intro j _ hj; simp at hj
 | cons a us ih=>
  intro j hl hj
  have ha:a.length=n:=hl a (by simp)
  cases j with
  | zero=>refine ⟨?_,by simp [ha]⟩; simp [← ha]
  | succ j=>
   obtain ⟨h1,h2⟩:=ih (j:=j) (fun x hx=>hl x (by simp [hx])) (by simpa using hj)
   have e:(j+1) * n=n+j * n:=by rw [Nat.add_mul,Nat.one_mul,Nat.add_comm]
   refine ⟨?_,by rw [e,List.flatten_cons,List.length_append,ha]; omega⟩
   rw [List.set_cons_succ,List.flatten_cons,List.flatten_cons,h1,e,List.take_append,List.drop_append,ha]
   have e1:List.take (n+j * n) a=a:=List.take_of_length_le (by omega)
   have e2:List.drop (n+j * n+n) a=[]:=List.drop_eq_nil_of_le (by omega)
   rw [e1,e2,show n+j * n - n=j * n by omega,show n+j * n+n - n=j * n+n by omega]
   simp
theorem stS {α V:Type} {S:ah α} {cl:α→V→List Value} {en:α→V→List aw} (y:α) {u:V} {n e:Nat} {x0 y0:OO} {v:Value} {j:Int} {us:List (List Value)} {xs:List α} {cs c0:LV} {t ty:TI} {m:Option M}
  (h1:dp Γ (.own (aL e (ij n)) v us) Γ1) (hp:In (.rd false (AB us j) (.bool true) c0) Γ) (hg:In (.rd false (tn S) (.bool true) (us,xs)) Γ1) (qz:E3 S V cl en) (_hv:bn V u) (hc:cs=cl y u) (ho:ba Γ cs) (hn:cs.length=n) (UF:FO (en y u)) (hf:EF Γ1 (en y u) Γ2)
  (h:D P cx (.o false all l rk (.own (aL e (ij n)) v (us.set j.toNat cs) :: .rd false (tn S) (.bool true) (us.set j.toNat cs,xs.set j.toNat y) :: Γ2) fr m)):D P cx (.st (dc v n j) (.agg cs.toArray) n t x0 y0 ty all l rk Γ fr m):=by
 refine D.of ?_
 intro hT hx hy B o cg r w ha ec pos af g
 have EA:SO S V cl en:=by cases qz; assumption
 obtain ⟨i,q1,q2⟩:=hT
 obtain ⟨Z,F,hS,hG⟩:=ec
 have Gj:=ho.one hS
 obtain ⟨_,⟨_,⟨hj,hu⟩,_⟩,_⟩:=hp.rd hS []
 obtain ⟨k,F1,ry,hO,ew⟩:=h1.sound hS
 obtain ⟨Fd,F2,Zn,UG,fk,nr⟩:=hf.sound ew
 obtain ⟨g0,hk,tu⟩:=hg.rd ew []
 have jh:Gd B Z (k++F1) w:=hG.perm ry
 have u9:((k++F2)++(Fd++Zn)).Perm (k++F1):=by
  rw [List.append_assoc]
  refine List.Perm.append_left k (.trans ?_ nr)
  rw [← List.append_assoc]
  exact (List.perm_append_comm (l₁:=F2) (l₂:=Fd)).append_right Zn
 have ke:Gd B Z ((k++F2)++(Fd++Zn)) w:=jh.perm u9
 have bj:∀ b∈Fd++Zn,b < w.heap.size:=fun b hb=>by
  have h3:b∈k++F1:=u9.mem_iff.1 (List.mem_append_right _ hb)
  rcases List.mem_append.1 h3 with h3 | h3
  ·exact ah.lt _ hO b h3
  ·exact ew.lt b h3
 have vO:Gd B (qc Z (Fd++Zn)) (k++F2) w:=ke.freeze bj
 have DG:∀ b,qc Z Zn b→qc Z (Fd++Zn) b:=fun b hb=>hb.imp id fun h=>List.mem_append_right _ h
 obtain ⟨g1,yc,DH⟩:=EA.cl (x:=y) (v:=u) (Z:=qc Z (Fd++Zn)) (w:=w) (Q6 UF (UG.mono DG))
 obtain ⟨g2,QK,YQ⟩:=LU (c:=cs) (by rw [hc]; exact yc) j.toNat hk.2.1
 have UH:fact (qc Z (Fd++Zn)) w [] (.rd false (tn S) (.bool true) (us.set j.toNat cs,xs.set j.toNat y)):=by
  refine ⟨g2,⟨rfl,QK,fun b hb=>?_⟩,fun b hb=>?_⟩
  ·exact (YQ b hb).elim (hk.2.2 b) (S.lt yc b)
  ·exact (YQ b hb).elim (fun h=>.inl (tu b h)) (DH b)
 have Bt:j.toNat < us.length:=(List.getElem?_eq_some_iff.1 hu).1
 obtain ⟨base,cap,nz,hr⟩:=hO
 obtain rfl:v = .slice base us.length cap:=by simpa using nz
 rcases hr with ⟨_,_,rfl,_⟩ | ⟨b,cur,f',rfl,h2,rfl,h4,h5,h6,h3⟩
 ·simp at Bt
 ·obtain ⟨YR,uH⟩:=Gs h3
  subst uH
  have dw:=Si h3
  obtain ⟨e1,e2⟩:=I0 (c:=cs) (fun x hx=>(dw x hx).1) Bt
  have bh:Row w b cur.toList e:=by unfold Row; simpa using h2
  have UI:cur.toList=us.flatten++cur.toList.drop (us.length * n):=by
   rw [← YR]; exact (List.take_append_drop _ _).symm
  have w9:dc (.slice (some ⟨b,0,none⟩) us.length cap) n j = ⟨b,j.toNat * n,none⟩:=by
   simp only [dc,jd,Nat.zero_add]
  rw [w9] at hx
  have hle:j.toNat * n+cs.length≤cur.toList.length:=by
   rw [hn,UI,List.length_append]; omega
  have j9:=vA (P:=P) (d:=none) (ty:=ty) (pos:=pos) (af:=af) (gg:=none) q1 (by rw [hn,q2]) bh hle (bA ha hx) (y:=y0) (by rw [bA ha hy]; rfl) Gj
  refine fh (WL.skip rfl j9 (h.sound B o cg _ _ ha ?_))
  have z7:cur.toList.take (j.toNat * n)++cs++cur.toList.drop (j.toNat * n+cs.length)=(us.set j.toNat cs).flatten++cur.toList.drop (us.length * n):=by
   rw [hn,e1]
   conv=>lhs; rw [UI]
   rw [List.take_append_of_le_length (by omega),List.drop_append_of_le_length (by omega)]
   simp
  have r4:=setRow_heap w b cur (cur.toList.take (j.toNat * n)++cs++cur.toList.drop (j.toNat * n+cs.length)).toArray e _ h2
  refine St.put (f:=[b]) (f':=[b]) (SA.fact (fk.mono DG fun _ h=>h) UH) vO ⟨rfl,rfl,rfl,Nat.le_refl _,by simp,fun j' _ ib=>setRow_other w b j' _ fun h=>ib (by simp [h])⟩ ?_ (by simp) (fun b hb=>.inl hb)
  refine ⟨_,cap,by rw [List.length_set],.inr ⟨b,_,[],rfl,r4,rfl,by rw [List.length_set]; exact h4,h5,?_,?_⟩⟩
  ·rw [← h6]
   simp only [List.size_toArray,z7]
   have e3:(us.set j.toNat cs).flatten.length=us.flatten.length:=by
    rw [e1]; simp only [List.length_append,List.length_take,List.length_drop,hn]; omega
   rw [List.length_append,e3,← List.length_append,← UI,Array.length_toList]
  ·rw [List.toList_toArray,z7,List.length_set]
   have aky:(us.set j.toNat cs).flatten.length=us.length * n:=by
    have e3:(us.set j.toNat cs).flatten.length=us.flatten.length:=by
     rw [e1]; simp only [List.length_append,List.length_take,List.length_drop,hn]; omega
    rw [e3]
    have:=j8 h3
    rw [YR] at this
    exact this
   show dt (ij n) _ (List.take (us.length * n) _) _ _
   rw [List.take_append_of_le_length (by omega),List.take_of_length_le (by omega)]
   refine Sj fun c hm=>?_
   rcases List.mem_or_eq_of_mem_set hm with hm | rfl
   ·exact dw c hm
   ·exact ⟨hn,Gj⟩
theorem yO {α:Type} {E:ah α} {d n:Nat} {t e ty:TI} {ps:List (Nat×Operand)} {us:LV} {xs:List α} {m:Option M} [hz:LZ P t e] (hl:vi Γ fr 0 ps us) (hn:us.length=n) (hb:(Nat.ble 1 n && Nat.ble n 16777216)=true) (hx:Gy Γ E us xs Γ1) (hE:E.size=1)
  (h:∀ v,D P cx (.o false all l rk (.own (aL e E) v xs :: Γ1) ((d,v) :: fr) m)):D P cx (.e false (.buildSlice t n ps.toArray) (some d) ty all l rk Γ fr m):=by
 refine D.of ?_
 intro B o ho r w ha hs pos af g
 obtain ⟨Z,F,hS,hg⟩:=hs
 refine fh (WL.val rfl (hl.op ha hS ⟨hz.h⟩ hn hb) ((h _).sound B o ho _ _ (ay ha) ?_))
 obtain ⟨e1,f,F2,nr,hr,fk⟩:=hx.sound hS
 have GB:n≤16777216:=by
  rw [Bool.and_eq_true] at hb
  exact Nat.le_of_ble_eq_true hb.2
 have hC:an [] w (w.alloc (.cells us.toArray e)):=an.alloc _ _ _
 have j7:Gd B Z (f++F2) w:=hg.perm nr
 have bj:∀ b∈f,b < w.heap.size:=me hr
 have z7:=heap_alloc_new w (.cells us.toArray e)
 have fq:dt E (w.alloc (.cells us.toArray e)).heap us xs f:=j3 hr fun b hb=>hC.block b (bj b hb) (fun h=>absurd h List.not_mem_nil)
 refine St.put (f:=f) (f':=w.heap.size :: f) fk j7 (an.mono hC fun _ h=>absurd h List.not_mem_nil) ⟨_,n,by rw [← hn,e1],.inr ⟨w.heap.size,us.toArray,f,rfl,z7,rfl,by rw [← hn,e1]; exact Nat.le_refl _,Nat.le_trans GB (by decide),by rw [hE,Nat.mul_one]; simp [hn],?_⟩⟩ ?_ ?_
 ·rw [hE,Nat.mul_one,List.toList_toArray,← e1,List.take_length]
  exact fq
 ·exact List.nodup_cons.2 ⟨fun hm=>Nat.lt_irrefl _ (bj _ hm),(List.nodup_append.1 j7.nd).1⟩
 ·intro b hb
  rcases List.mem_cons.1 hb with rfl | hb
  ·exact .inr (Nat.le_refl _)
  ·exact .inl hb
theorem YS {α:Type} {d b:Nat} {s x:OO} {v u yv:Value} {j:Int} {y:α} {z:List α} {xs:List (List α)} {t e e' et ty:TI} {E E':ah α} {z0:α} {bt:Nat} {o1 o2:Bool} {Γx:QE} {f:Unit→Option M} [hT:tD P t α e E z0 bt] (hs:bq fr s=some u) (hx:bq fr x=some (.slice (some ⟨b,0,none⟩) 1 1)) (hl:Loc Γ u (.row v j)) (h0:dp Γ (.row b [yv] et) Γ1) (hz:qy Γ u o1 o2 E' z tV Γx) (h1:dp Γ1 (.own (aL e' (aL e E)) v xs) Γ2) (hr:RT (aL e E) (aB E')) (hy:Cu Γ2 E yv y Γ3)
  (h:∀ v',D P cx (.o false all l rk (.own (aL e E) v' (z++[y]) :: .own (uF e' (aL e E) j.toNat) v xs :: Γ3) ((d,v') :: fr) (f ()))):D P cx (.e false (.call ⟨.builtin .append,#[s,x],#[t,t]⟩) (some d) ty all l rk Γ fr (fits bt (z.length+1)>>=f)):=by
 refine D.of ?_
 intro B o cg r w ha ec pos af g
 obtain ⟨_,hu,cg⟩:=bind_some cg
 obtain ⟨b1,b2⟩:=qd hu
 obtain ⟨q1,q2,i,zz,q3,q4,q5,q6,q7,_⟩:=hT.h
 obtain ⟨Z,F,hS,hG⟩:=ec
 obtain ⟨j0,j1,j4⟩:=Loc.row hl rfl hS
 obtain ⟨du,_,⟨⟨gz,tu,_⟩,_⟩,_⟩:=hz.sound hS
 obtain ⟨n0,F0,sT,⟨rfl,bh⟩,uE⟩:=h0.sound hS
 obtain ⟨fm,F1,ry,hO,ew⟩:=h1.sound uE
 obtain ⟨ky,F2,nr,T9,fk⟩:=hy.sound ew
 rw [tK hO] at j1
 obtain ⟨k,gm,a1,a2,a3⟩:=GQ rfl hO (List.getElem?_eq_getElem j1) j4
 have Ub:xs[j.toNat]=z:=hr.u4 (hr.le.le a1) tu
 rw [Ub] at a1
 have qb:((k++ky)++(gm++F2)).Perm (fm++F1):=by
  have e1:((k++gm)++(ky++F2)).Perm (fm++F1):=(a2.append_right _).trans (nr.append_left fm)
  refine .trans ?_ e1
  rw [List.append_assoc,List.append_assoc]
  refine List.Perm.append_left k ?_
  rw [← List.append_assoc,← List.append_assoc]
  exact List.perm_append_comm.append_right F2
 have jh:Gd B Z ((k++ky)++(gm++F2)) w:=Gd.left (F':=[b]) (hG.perm (((qb.append_right [b]).trans (List.perm_append_comm.trans (ry.append_left [b]))).trans sT))
 have df:=(List.nodup_append.1 jh.nd).1
 have xh:=List.nodup_append.1 df
 obtain ⟨v',w',f',j9,hC,dy,dj,G5⟩:=qf (E:=E) (d:=some d) (ty:=ty) (pos:=pos) (af:=af) (g:=none) (k:=ky) (ys:=[y]) (news:=[yv]) q1 q3 q4 (by rw [q5,q2]) (by rw [cells_one q6,q2]; rfl) (bA ha hs) a1 xh.1 (bA ha hx) (fun i u hi=>bh.at i u hi) (su T9) (fun b hb hm=>xh.2.2 b hm b hb rfl) (by simp) (by rw [q7]; exact b1) b2
 refine fh (WL.val rfl j9 ((h v').sound B o cg _ w' (ay ha) ?_))
 have hSh:SA Z w (.own (uF e' (aL e E) j.toNat) v xs :: Γ3) [] (gm++F2):=SA.cons fk (e:=.own (uF e' (aL e E) j.toNat) v xs) a3
 refine St.put hSh jh (hC.mono fun b hb=>List.mem_append_left _ hb) dy (G5 xh.2.1) fun b hb=>?_
 rcases dj b hb with h | h | h
 ·exact .inl (List.mem_append_left _ h)
 ·exact .inl (List.mem_append_right _ h)
 ·exact .inr h
theorem ixH {α:Type} {q:Bool} {d j0:Nat} {x y:OO} {v:Value} {k:IntKind} {j:Int} {xs:List α} {t e ty:TI} {E:ah α} {f:α→Option M} [ht:yf P t] (hx:bq fr x=some v) (hy:bq fr y=some (.int k j)) (h1:dp Γ (.own (uF e E j0) v xs) Γ1)
  (h:∀ z,D P cx (.o q all l rk Γ ((d,.pointer (some (dc v 1 j))) :: fr) (f z))):D P cx (.e q (.indexAddr t x y) (some d) ty all l rk Γ fr (idx xs j>>=f)):=by
 refine D.of ?_
 intro B o ho r w ha hs pos af g
 obtain ⟨z,hz,ho⟩:=bind_some ho
 replace hz:=qk hz
 obtain ⟨e',i,q1,q2,q3⟩:=ht.h
 obtain ⟨Z,F,hS,_⟩:=@_root_.id _ hs
 obtain ⟨f0,F1,_,⟨b,cap,cur,f1,f2,p,c0,qq,hv,_⟩,_⟩:=h1.sound hS
 obtain rfl:v = .slice (some ⟨b,0,none⟩) xs.length cap:=by simpa using hv
 have bj:j.toNat < xs.length:=(List.getElem?_eq_some_iff.1 hz.2).1
 have Hk:=hz.1
 refine db (v:=.pointer (some (dc (.slice (some ⟨b,0,none⟩) xs.length cap) 1 j))) (fun w' hC=>?_) ((h z).sound B o ho _ w (ay ha) hs)
 rw [ll q1 q2 (bA ha hx) (bA ha hy) hz.1 (by omega),q3]
 rfl
theorem stR {α:Type} {x0 y0:OO} {v u:Value} {j:Int} {z:α} {xs:List α} {t e ty:TI} {E:ah α} {m:Option M} (h1:dp Γ (.own E u z) Γ1) (h2:dp Γ1 (.own (uF e E j.toNat) v xs) Γ2)
  (h:D P cx (.o false all l rk (.own (aL e E) v (xs.set j.toNat z) :: Γ2) fr m)):D P cx (.st (dc v 1 j) u 1 t x0 y0 ty all l rk Γ fr m):=by
 refine D.of ?_
 intro hT hx hy B o cg r w ha ec pos af g
 obtain ⟨i,q1,q2⟩:=hT
 obtain ⟨Z,F,hS,hG⟩:=ec
 obtain ⟨k,F1,ry,hK,ew⟩:=h1.sound hS
 obtain ⟨gm,F2,nr,hM,fk⟩:=h2.sound ew
 have u9:((gm++k)++F2).Perm F:=by
  refine .trans ?_ ry
  refine .trans ?_ (nr.append_left k)
  rw [← List.append_assoc k gm F2]
  exact List.perm_append_comm.append_right F2
 have jh:Gd B Z ((gm++k)++F2) w:=hG.perm u9
 have df:=(List.nodup_append.1 jh.nd).1
 obtain ⟨b,cap,cur,f1,f2,p,c0,qq,hv,g1,rfl,⟨g2,g3,g4,g5⟩,g6,⟨g7,g8⟩,g9,g10⟩:=hM
 obtain rfl:v = .slice (some ⟨b,0,none⟩) xs.length cap:=by simpa using hv
 have w9:dc (.slice (some ⟨b,0,none⟩) xs.length cap) 1 j = ⟨b,j.toNat,none⟩:=by
  simp only [dc,jd,Nat.zero_add,Nat.mul_one]
 rw [w9] at hx
 have bh:Row w b cur.toList e:=by unfold Row; simpa using g1
 have Tf:∀ i∈(f1++f2)++k,i≠b:=by
  intro i hi he
  subst he
  have e1:((i :: (f1++f2))++k)=i :: ((f1++f2)++k):=rfl
  rw [e1] at df
  exact (List.nodup_cons.1 df).1 hi
 refine fh (WL.GM q1 q2 bh (by rw [Array.length_toList,g4]; omega) (bA ha hx) (bA ha hy) (E.one hK u (by simp)) fun w' hC sL=>h.sound B o cg _ w' ha ?_)
 have Ra:∀ i∈(f1++f2)++k,i < w.heap.size→w'.heap[i]? = w.heap[i]?:=fun i hi hl=>hC.block i hl fun hm=>Tf i hi (by simpa using hm)
 have hK':E.rep w'.heap [u] z k:=E.congr hK fun i hi=>Ra i (List.mem_append_right _ hi) (E.lt hK i hi)
 have QM:=g10 w'.heap (fun i hi=>Ra i (List.mem_append_left _ hi) (g9 i hi)) u z k hK'
 refine St.put (f:=(b :: (f1++f2))++k) (f':=b :: (f1++k++f2)) fk jh (hC.mono fun i hi=>by rw [List.mem_singleton.1 hi]; simp) ⟨_,cap,by rw [List.length_set],.inr ⟨b,_,f1++k++f2,rfl,sL,rfl,by rw [List.length_set]; exact g2,g3,?_,?_⟩⟩ ?_ ?_
 ·rw [g5]; simp [g4]
 ·have r4:((cur.toList.set j.toNat u).take xs.length)=p++[u]++qq:=by
   rw [List.take_set,g6,← g7]
   simp
  rw [List.length_set,g5,Nat.mul_one]
  simpa [r4] using QM
 ·have Cy:(b :: (f1++k++f2)).Perm ((b :: (f1++f2))++k):=by
   rw [List.cons_append]
   refine List.Perm.cons b ?_
   rw [List.append_assoc,List.append_assoc]
   exact List.Perm.append_left f1 List.perm_append_comm
  exact Cy.nodup_iff.2 df
 ·intro i hi
  refine .inl ?_
  rcases List.mem_cons.1 hi with rfl | hi
  ·simp
  ·rcases List.mem_append.1 hi with hi | hi
   ·rcases List.mem_append.1 hi with hi | hi <;> simp [hi]
   ·simp [hi]
theorem vB {S S1 V W:Type} (k:Nat) (Δ:S1→V→W→List aw) (φ:S1→V→W→Fr) (v0:V) (w0:W) (f2:Fr) {fu:List KI} {kb:Kb R S} {c:Code} {s0:S1} {body:S1→Option (Out S1 R)} {f:S1→Option (Out S R)}
  (ha:qx fr (φ s0 v0 w0)) (hf:qx fr f2) (h0:EO Γ (Δ s0 v0 w0) Γ1) (hn:OW Γ (Δ s0 v0 w0)) (hs:jq Γ1 Γ2)
  (hb:∀ s v w,D P cx (.p (φ s v w) (Δ s v w) f2 Γ2 fun fr Γ=>.c ⟨[],.loop (V×W) k (fun s v=>Δ s v.1 v.2) (fun s v=>φ s v.1 v.2) Γ2 f2⟩ c Γ fr (body s)))
  (hk:∀ s v w,D P cx (.p (φ s v w) (Δ s v w) f2 Γ2 fun fr Γ=>.mn ⟨fu,kb⟩ Γ fr (f s))):Bx (lj P cx (.bk true k ⟨fu,kb⟩ (.loop c) Γ fr (ag (ae k (Li.ai body s0)) f))):=
 loop k (fun s v=>Δ s v.1 v.2) (fun s v=>φ s v.1 v.2) (v0,w0) f2 ha hf h0 hn hs (fun s v=>hb s v.1 v.2) (fun s v=>hk s v.1 v.2)
def Hl {α:Type} (v:Value) (_:List α):Prop:=∃ a n c,v = .slice a n c∧n≤c
theorem Le.cap {α:Type} {T E:ah α} (hl:Le T E) (e:TI):Le (aL e T) (tT Hl (aB E)):=by
 refine ⟨rfl,fun {h cs x f} hr=>⟨?_,(Le.own hl e).le hr⟩⟩
 obtain ⟨base,cap,rfl,hr⟩:=hr
 refine ⟨_,rfl,_,_,_,rfl,?_⟩
 rcases hr with ⟨_,_,rfl,_⟩ | ⟨_,_,_,_,_,_,h,_⟩
 ·exact Nat.zero_le _
 ·exact h
theorem Sk {α:Type} {T E:ah α} {e e2:TI} {v:Value} {xs:List (List α)} {f:LN} {h:Array Obj} (hl:Le T E) (hO:(aL e (aL e2 T)).rep h [v] xs f) :
  ∃ fo fz us,(fo++fz).Perm f∧(aL e sx).rep h [v] us fo∧dt (tT Hl (aB E)) h us xs fz:=by
 obtain ⟨base,cap,hv,hr⟩:=hO
 rcases hr with ⟨rfl,rfl,rfl,rfl⟩ | ⟨b,cur,f',rfl,h2,rfl,h4,h5,h6,h3⟩
 ·exact ⟨[],[],[],.refl _,⟨none,0,by simpa using hv,.inl ⟨rfl,rfl,rfl,rfl⟩⟩,rfl,rfl⟩
 ·have h7:=j8 h3
  have h8:(aL e2 T).size=1:=rfl
  rw [h8,Nat.mul_one] at h6 h3 h7
  try rw [Nat.mul_one] at h7
  refine ⟨[b],f',cur.toList.take xs.length,.refl _,⟨_,cap,by rw [h7]; exact hv,.inr ⟨b,cur,[],rfl,h2,rfl,by rw [h7]; exact h4,h5,by rw [h6]; exact (Nat.mul_one _).symm,?_⟩⟩,vh (Le.cap hl e2) h3⟩
  have h9:sx.size=1:=rfl
  rw [h9,Nat.mul_one,h7]
  exact CD (CV h3)
theorem St.frz {α:Type} {T E:ah α} {e e2:TI} {v:Value} {xs:List (List α)} (hs:St B Γ w) (h1:EO Γ [.own (aL e (aL e2 T)) v xs] Γ1) (hr:RT T E):St B (.om e (tT Hl (aB E)) v xs :: Γ1) w:=by
 obtain ⟨Z,F,hS,hG⟩:=hs
 obtain ⟨_,F1,hH,ew,hp⟩:=h1.sound hS
 obtain ⟨f,hO,hp⟩ : ∃ f,(aL e (aL e2 T)).rep w.heap [v] xs f∧(f++F1).Perm F:=by
  cases hH with
  | own h k=>cases k; exact ⟨_,h,by simpa using hp⟩
 obtain ⟨fo,fz,us,hf,ho,hl⟩:=Sk hr.le hO
 have u9:((fo++F1)++fz).Perm F:=by
  refine .trans ?_ hp
  refine .trans ?_ (hf.append_right F1)
  rw [List.append_assoc,List.append_assoc]
  exact List.Perm.append_left fo List.perm_append_comm
 have ke:=Gd.freeze (hG.perm u9) fun b hb=>hS.lt b (u9.mem_iff.1 (List.mem_append_right _ hb))
 exact ⟨qc Z fz,fo++F1,SA.cons (ew.mono (fun _ h=>.inl h) fun _ h=>h) ⟨us,fz,ho,hl,fun b hb=>.inr hb,rfl⟩,ke⟩
theorem XW {S:Type} {id:Nat} (k:Nat) {K:dh R S} {l ops YT:LO} {α:Type} {T E:ah α} {e e2:TI} {v:Value} {xs:List (List α)} {m:Option (Out S R)} (hB:(P.follows .mixedOrders && de cx.n l && ((l.take k).all fun o=>xi o.op) && Region.lexTailB .any l.toArray k)=true) (ho:ops=l.take k) (ht:YT=l.drop k)
  (h1:EO Γ [.own (aL e (aL e2 T)) v xs] Γ1) (hr:RT T E) (h:D P cx (.o true l ops (.h l YT K) (.om e (tT Hl (aB E)) v xs :: Γ1) fr m)):Bx (lj P cx (.dr id l K Γ fr m)):=by
 have h2:=tail (id:=id) k hB ho ht h
 rw [kv] at h2 ⊢
 exact fun B o cg r w ha hs=>h2 B o cg r w ha (hs.frz h1 hr)
theorem MG {α:Type} {E:ah α} {h:Array Obj}:∀ {xs:List α} {cs:LV} {f:LN} (n:Nat),dt E h cs xs f→∃ f3,dt E h (cs.drop (n * E.size)) (xs.drop n) f3∧∀ b∈f3,b∈f:=by
 intro xs
 induction xs with
 | nil=>rintro cs f n ⟨rfl,rfl⟩; exact ⟨[],by simpa using ⟨rfl,rfl⟩,fun _ h=>h⟩
 | cons x xs ih=>
  rintro cs f n ⟨c,ds,f1,f2,rfl,rfl,h1,h2⟩
  cases n with
  | zero=>exact ⟨f1++f2,by simpa using ⟨c,ds,f1,f2,rfl,rfl,h1,h2⟩,fun _ h=>h⟩
  | succ n=>
   obtain ⟨f3,h3,h4⟩:=ih n h2
   refine ⟨f3,?_,fun b hb=>List.mem_append_right _ (h4 b hb)⟩
   have e:(n+1) * E.size=c.length+n * E.size:=by rw [E.len h1,Nat.add_mul,Nat.one_mul,Nat.add_comm]
   rw [e,List.drop_append,List.drop_of_length_le (by omega),List.nil_append,List.drop_succ_cons]
   simpa using h3
theorem slT {α:Type} {q:Bool} {d:Nat} {x lo:OO} {v:Value} {k:IntKind} {j:Int} {E:ah α} {xs:List α} {t ty:TI} {f:List α→Option M} [ht:yf P t] (hx:bq fr x=some v) (hy:bq fr lo=some (.int k j)) (hr:In (.rd false (tT Hl (aB E)) v xs) Γ) (hE:E.size=1)
  (h:∀ v' ys,D P cx (.o q all l rk (.rd false (aB E) v' ys :: Γ) ((d,v') :: fr) (f ys))):D P cx (.e q (.slice t x (some lo) none none) (some d) ty all l rk Γ fr (tl xs j>>=f)):=by
 refine D.of ?_
 intro B o ho r w ha hs pos af g
 obtain ⟨ys,hys,ho⟩:=bind_some ho
 obtain ⟨h0,h1,rfl⟩:=Sl hys
 obtain ⟨e,i,q1,q2,q3⟩:=ht.h
 obtain ⟨Z,F,hS,hG⟩:=hs
 obtain ⟨g0,⟨⟨v0,hv0,a0,n0,c0,UJ,hc⟩,base,cap,hv,fq⟩,tu⟩:=hr.rd hS []
 obtain rfl:v = .slice base xs.length cap:=by simpa using hv
 obtain rfl:Value.slice base xs.length cap=v0:=by simpa using hv0
 obtain ⟨rfl,rfl,rfl⟩ : base=a0∧xs.length=n0∧cap=c0:=by simpa using UJ
 have hlen:(xs.drop j.toNat).length=xs.length - j.toNat:=List.length_drop
 have hf:fact Z w [] (.rd false (aB E) (sliced base j.toNat xs.length cap 1) (xs.drop j.toNat)):=by
  by_cases hj:j.toNat=xs.length
  ·refine ⟨[],⟨_,cap - j.toNat,by unfold sliced; rw [hlen],.inl ⟨by rw [hj]; simp,rfl⟩⟩,fun _ h=>absurd h List.not_mem_nil⟩
  ·rcases fq with ⟨rfl,_⟩ | ⟨b,off,cur,e',fz,f',rfl,g1,rfl,g2⟩
   ·exfalso; simp at h1 hj; omega
   ·have ny : ¬ (cap=j.toNat):=by omega
    obtain ⟨f3,dy,dj⟩:=MG j.toNat g2
    refine ⟨b :: f3,⟨some ⟨b,off+j.toNat,none⟩,cap - j.toNat,?_,.inr ⟨b,off+j.toNat,cur,e',fz,f3,rfl,g1,rfl,?_⟩⟩,fun i hi=>?_⟩
    ·unfold sliced
     rw [hlen,if_neg ny]
     simp [jd]
    ·rw [hE,Nat.mul_one] at dy ⊢
     rw [Nat.mul_one,List.drop_take,List.drop_drop] at dy
     rw [hlen]
     exact dy
    ·rcases List.mem_cons.1 hi with rfl | hi
     ·exact tu _ (by simp)
     ·exact tu _ (List.mem_cons_of_mem _ (dj i hi))
 refine db (v:=sliced base j.toNat xs.length cap 1) (fun w' _=>?_) ((h _ _).sound B o ho _ w (ay ha) ⟨Z,F,SA.fact hS hf,hG⟩)
 have q4:P.elem t=e:=by simp [Program.elem,q1]
 have uC:(sizeOf (P.elem t)).run P w' = .ok 1 w':=by rw [q4]; simp [sizeOf,typeInfo,q2,q3]
 simp [execOp,bA ha hx,bA ha hy,run_sliceAt_slice w' t _ _ _ _ (by rw [q4]; exact q1),run_slice_l (P:=P) w' t base xs.length cap (by rw [q4]; exact q1) k j h0 h1,uC,Result.andThen]
theorem stN {α:Type} {x y:OO} {v u:Value} {j:Int} {z:List α} {xs:List (List α)} {E:ah α} {Q:Value→List α→Prop} {t e ty:TI} {Γx:QE} {m:Option M} (h0:Rg v j Γ) (h1:qy Γ u false false E z tV Γx) (h2:dp Γ (.om e (tT Q (aB E)) v xs) Γ1)
  (h:D P cx (.o false all l rk (.om e (aB E) v (xs.set j.toNat z) :: Γ1) fr m)):D P cx (.sl .om v j u t x y ty all l rk Γ fr m):=by
 refine D.of ?_
 intro hT hx hy _ B o ho r w ha hs pos af g
 obtain ⟨i,hi,uC⟩:=hT
 obtain ⟨Z,F,hS,hg⟩:=hs
 obtain ⟨j0,j1⟩:=h0.sound hS
 obtain ⟨du,_,⟨⟨k,hk,GK⟩,_⟩,_⟩:=h1.sound hS
 obtain ⟨n,F1,hp,⟨us,gg,hO,hr0,tu,Mf⟩,ew⟩:=h2.sound hS
 have hle:Le (tT Q (aB E)) (aB E):=⟨rfl,fun h=>h.2⟩
 have hr:dt (aB E) w.heap us xs gg:=vh hle hr0
 replace Mf:(aB E).size=1:=rfl
 have j7:=hg.perm hp
 have df:=List.nodup_append.1 j7.nd
 have GL:∀ b∈k,Z b:=fun b hb=>(GK b hb).elim (fun h=>h) (fun h=>h)
 have Mg:∀ b∈n,¬ Z b:=fun b hb=>j7.apart b (List.mem_append_left _ hb)
 have hl:us.length=xs.length:=by have:=j8 hr; rw [Mf,Nat.mul_one] at this; exact this
 have Jl:wj v=us.length:=tK hO
 rw [Jl,hl] at j1
 refine fh (QR.store (E:=aB E) (G:=n) (B:=w.heap.size) (g:=gg) (k:=k) hi uC ⟨us,⟨hO,df.1,fun b hb=>.inl hb⟩,hr,Mf⟩ (List.getElem?_eq_getElem j1) (bA ha hx) (bA ha hy) hk (fun b hb hm=>Mg b hm (GL b hb)) (fun b hb hm=>Mg b hm (tu b hb)) fun w' g' hC rv jg=>?_)
 obtain ⟨TM,cg,fq,Ou⟩:=rv
 exact h.sound B o ho _ w' ha (St.put ew j7 hC ⟨TM,_,cg.1,fq,(fun b hb=>(jg b hb).elim (tu b) (GL b)),Ou⟩ cg.2.1 fun b hb=>.inl hb)
theorem St.amH {B:Bs} {Γ Δ Γ1 Γ2 Γ3:QE} {w:World} (h:St B Γ w) (h0:EF Γ Δ Γ1) (h1:EO Γ1 Γ2 Γ3) (h2:MF Γ none Γ2):St B (Δ.reverse++Γ2) w:=by
 obtain ⟨Z,F,hs,hg⟩:=h
 obtain ⟨Fd,F',Zn,a1,a2,a3⟩:=h0.sound hs
 obtain ⟨TB,F3,c1,c2,c3⟩:=h1.sound a2
 obtain ⟨F2,b1,b2⟩:=HL.build a1 (h2.sound (hs.left (f:=Zn)) (du:=[]) (by rintro e he; cases he) c1)
 refine St.of (F':=Fd++TB) b2 (Gd.left (F':=F3) ((Gd.freeze (hg.perm a3) fun b hb=>hs.lt b (a3.mem_iff.1 (List.mem_append_right _ hb))).perm ?_)) b1
 rw [List.append_assoc]
 exact c3.append_left Fd
theorem join {S S1 V:Type} {t k:Nat} {b:Bool} (Δ:S1→V→List aw) (φ:S1→V→Fr) (v0:V) (f2:Fr) {fu:List KI} {kb:Kb R S} {x y:Code} {s0:S1} {m0:Option (Out S1 R)} {f:S1→Option (Out S R)}
   (_ha:qx fr (φ s0 v0)) (_hf:qx fr f2) (_h0:EO Γ (Δ s0 v0) Γ1) (_hs:jq Γ1 Γ2)
   (hb:D P cx (.cd b ⟨[],.loop V k Δ φ Γ2 f2⟩ x y Γ fr m0)) (hk:∀ s v,D P cx (.p (φ s v) (Δ s v) f2 Γ2 fun fr Γ=>.n ⟨fu,kb⟩ Γ fr (f s))):D P cx (.cd b ⟨fu,kb⟩ x y Γ fr (jn t s0 m0 f)):=by
 refine .inj (Tk ?_)
 intro B o ho r w ot ou
 replace ho:ag m0 f=some o:=ho
 cases hm:m0 with
 | none=>rw [hm] at ho; cases ho
 | some o0=>
  have h1:=hb.sound B o0 hm r w ot ou
  rw [hm] at ho
  have hq:∀ e r w,mc P cx B ⟨[],.loop V k Δ φ Γ2 f2⟩ o0 e r w→mc P cx B ⟨fu,kb⟩ o e r w:=by
   intro e r w hp
   cases o0 with
   | norm s=>
    cases e with
    | normal=>obtain ⟨v,a1,a2⟩:=hp; exact (hk s v).sound B o ho r w a1 a2
    | _=>exact hp.elim
   | exit j s=>cases ho
   | ret y=>
    cases ho
    cases e with
    | ret=>exact vL hp
    | _=>exact hp.elim
  exact ⟨fun h=>uN (h1.1 h) hq,fun h=>uN (h1.2 h) hq⟩
theorem Rb {S:Type} {t:Nat} {K:dh R S} {ops:LO} {m:Option (Out S R)} (_ht:Dn ops=some t) (h:D P cx (.o false ops ops (.s K) Γ fr m)):D P cx (.rw false ops K Γ fr m):=.Yp h
theorem ue {S:Type} {b:Bool} {t:Nat} {K:dh R S} {x y:Code} {m1 m2:Option (Out S R)} (hl:look fr t=some (.bool b)) (h1:D P cx (.c K x Γ ((t,.bool true) :: fr) m1)) (h2:D P cx (.c K y Γ ((t,.bool false) :: fr) m2)):D P cx (.cd b K x y Γ fr (bif b then m1 else m2)):=by
 refine D.of ?_
 have hc:∀ {r:NV},cw r fr→∀ c,b=c→cw r ((t,.bool c) :: fr):=by
  intro r ha c hb s u hs
  unfold look at hs
  cases ou:Nat.beq s t with
  | true=>
   rw [ou] at hs
   cases hs
   obtain rfl:=Nat.eq_of_beq_eq_true ou
   rw [← hb]
   exact ha _ _ hl
  | false=>rw [ou] at hs; exact ha _ _ hs
 exact fun B o ho r w ha hs=>⟨fun h=>h1.sound B o (by rw [h] at ho; exact ho) r w (hc ha _ h) hs,fun h=>h2.sound B o (by rw [h] at ho; exact ho) r w (hc ha _ h) hs⟩
class nh {α:Type} (S:ah α) (V:outParam Type) (cl:outParam (α→V→List Value)) (en:outParam (α→V→List aw)):Prop where
 ow:∀ x v,sd (en x v)=true
 op:∀ {w:World} {cs:LV} {x:α} {g:LN},S.rep w.heap cs x g→∃ v,cs=cl x v∧∀ Z:Nat→Prop,HL Z w (en x v) g
 cl:∀ {w:World} {x:α} {v:V} {Z:Nat→Prop} {g:LN},HL Z w (en x v) g→S.rep w.heap (cl x v) x g
theorem nh.i {k:IntKind}:nh (aC k) Unit (fun x _=>[.int k x]) (fun _ _=>[]):=
 ⟨fun _ _=>rfl,fun h=>⟨(),h.1,fun _=>by rw [h.2]; exact .nil⟩,fun h=>by cases h; exact ⟨rfl,rfl⟩⟩
theorem nh.s {α:Type} {e:TI} {E:ah α}:nh (aL e E) Value (fun _ v=>[v]) (fun x v=>[.own (aL e E) v x]):=by
 refine ⟨fun _ _=>rfl,fun {w cs x g} h=>?_,fun {w x v Z g} h=>?_⟩
 ·obtain ⟨base,cap,rfl,hr⟩:=h
  refine ⟨_,rfl,fun Z=>?_⟩
  have:=HL.own (Z:=Z) (w:=w) (e:=.own (aL e E) (.slice base x.length cap) x) (f:=g) ⟨base,cap,rfl,hr⟩ .nil
  rwa [List.append_nil] at this
 ·cases h with
  | own h k=>cases k; rw [List.append_nil]; exact h
  | fact h _=>exact h.elim
theorem nh.ip {β V:Type} {k:IntKind} {B:ah β} {cl:β→V→List Value} {en:β→V→List aw} (h:nh B V cl en):nh (fx (aC k) B) V (fun x v=>.int k x.1 :: cl x.2 v) (fun x v=>en x.2 v):=by
 refine ⟨fun x v=>h.ow x.2 v,fun {w cs x g} hr=>?_,fun {w x v Z g} he=>?_⟩
 ·obtain ⟨c1,c2,f1,f2,rfl,rfl,⟨rfl,rfl⟩,h2⟩:=hr
  obtain ⟨v,rfl,hv⟩:=h.op h2
  exact ⟨v,rfl,hv⟩
 ·exact ⟨[_],_,[],g,rfl,rfl,⟨rfl,rfl⟩,h.cl he⟩
theorem nh.sp {α β V:Type} {e:TI} {E:ah α} {B:ah β} {cl:β→V→List Value} {en:β→V→List aw} (h:nh B V cl en):nh (fx (aL e E) B) (Value×V) (fun x v=>v.1 :: cl x.2 v.2) (fun x v=>.own (aL e E) v.1 x.1 :: en x.2 v.2):=by
 refine ⟨fun x v=>h.ow x.2 v.2,fun {w cs x g} hr=>?_,fun {w x v Z g} he=>?_⟩
 ·obtain ⟨c1,c2,f1,f2,rfl,rfl,h1,h2⟩:=hr
  obtain ⟨base,cap,rfl,yc⟩:=h1
  obtain ⟨v,rfl,hv⟩:=h.op h2
  exact ⟨(_,v),rfl,fun Z=>.own ⟨base,cap,rfl,yc⟩ (hv Z)⟩
 ·cases he with
  | own h1 k=>
   obtain ⟨base,cap,hb,yc⟩:=h1
   exact ⟨[_],_,_,_,rfl,rfl,⟨base,cap,hb,yc⟩,h.cl k⟩
  | fact h1 _=>exact h1.elim
theorem nh.mp {α β V:Type} {f:β→α} {A:ah α} {cl:α→V→List Value} {en:α→V→List aw} (h:nh A V cl en):nh (xd f A) V (fun y v=>cl (f y) v) (fun y v=>en (f y) v):=
 ⟨fun y v=>h.ow (f y) v,fun hr=>h.op hr,fun he=>h.cl he⟩
inductive OX {α:Type} (S:ah α) (V:Type) (cl:α→V→List Value) (en:α→V→List aw):Prop
 | mk [h:nh S V cl en]:OX S V cl en
theorem XX:∀ {Δ:QE} {F:LN},sd Δ=true→HO Z w Δ F→HL Z w Δ F:=by
 intro Δ
 induction Δ with
 | nil=>intro F _ h; cases h; exact .nil
 | cons e Δ ih=>
  intro F ho h
  cases e with
  | own T v x=>cases h with | own h k=>exact .own h (ih ho k)
  | row b cs t=>cases h with | own h k=>exact .own h (ih ho k)
  | _=>exact absurd ho (by simp [sd])
theorem UK {α:Type} (S:ah α) {d:Nat} {t e n bt ty:TI} {m:Option M} [ht:AF P t e n bt]
  (h:∀ v,D P cx (.o false all l rk (.own (aL e S) v [] :: Γ) ((d,v) :: fr) m)):D P cx (.e false (.buildSlice t 0 #[]) (some d) ty all l rk Γ fr m):=by
 refine D.of ?_
 intro B o ho r w ha hs pos af g
 obtain ⟨h1,i,z,h2,_⟩:=ht.h
 obtain ⟨v,w',f,hr,hC,hO⟩:=zU (E:=S) (r:=r) (w:=w) (d:=some d) (ty:=ty) (pos:=pos) (af:=af) (g:=none) h1 h2
 refine fh (WL.val rfl hr ((h v).sound B o ho _ w' (ay ha) ?_))
 obtain ⟨Z,F,hS,hg⟩:=hs
 exact St.put (f:=[]) hS hg hC hO.1 hO.2.1 fun b hb=>.inr ((hO.2.2 b hb).resolve_left List.not_mem_nil)
theorem MH {α:Type} {S:ah α} {q:Bool} {d n e:Nat} {x:OO} {v:Value} {xs:List α} {t ty bt:TI} {m:Option M} [ht:AF P t e n bt] (hx:bq fr x=some v) (h1:dp Γ (.own (aL e S) v xs) Γ1)
  (h:D P cx (.o q all l rk Γ ((d,.int .i64 (xs.length:Int)) :: fr) m)):D P cx (.e q (.call ⟨.builtin .len,#[x],#[t]⟩) (some d) ty all l rk Γ fr m):=by
 refine D.of ?_
 intro B o ho r w ha hs pos af g
 obtain ⟨q1,_⟩:=ht.h
 obtain ⟨Z,F,hS,hG⟩:=@_root_.id _ hs
 obtain ⟨f,F1,_,hO,_⟩:=h1.sound hS
 obtain ⟨base,cap,hv,_⟩:=hO
 obtain rfl:v = .slice base xs.length cap:=by simpa using hv
 exact db (v:=.int .i64 (xs.length:Int)) (fun w' _=>uD q1 (bA ha hx)) (h.sound B o ho _ w (ay ha) hs)
theorem OY {α:Type} {S:ah α} {n:Nat} {hp:Array Obj} (hn:S.size=n):∀ {xs:List α} {cs:LV} {f:LN},dt S hp cs xs f→∃ us,us.length=xs.length∧dt (ij n) hp cs us []∧∀ (j:Nat) (x:α),xs[j]? = some x→∃ c f0 f1 f2,us[j]? = some c∧f=f0++f1++f2∧S.rep hp c x f1:=by
 intro xs
 induction xs with
 | nil=>rintro cs f ⟨rfl,rfl⟩; exact ⟨[],rfl,⟨rfl,rfl⟩,fun j x hj=>by simp at hj⟩
 | cons y xs ih=>
  rintro cs f ⟨c,gy,f1,f2,rfl,rfl,h1,h2⟩
  obtain ⟨us,hl,hr,hg⟩:=ih h2
  refine ⟨c :: us,by simp [hl],⟨c,gy,[],[],rfl,rfl,⟨rfl,by rw [S.len h1,hn],S.one h1,rfl⟩,hr⟩,fun j x hj=>?_⟩
  cases j with
  | zero=>simp at hj; subst hj; exact ⟨c,[],f1,f2,rfl,by simp,h1⟩
  | succ j=>
   obtain ⟨c',g0,g1,g2,a1,rfl,a3⟩:=hg j x (by simpa using hj)
   exact ⟨c',f1++g0,g1,g2,by simpa using a1,by simp,a3⟩
theorem UL {α V:Type} {S:ah α} {cl:α→V→List Value} {en:α→V→List aw} {q:Bool} {d n e:Nat} {x y:OO} {v:Value} {xs:List α} {k:IntKind} {j:Int} {t ty bt:TI} {f:α→Option M} [ht:AF P t e n bt] (hx:bq fr x=some v) (hy:bq fr y=some (.int k j))
  (h1:dp Γ (.own (aL e S) v xs) Γ1) (hs:OX S V cl en) (hn:S.size=n)
  (h:∀ z u us,D P cx (.p [] (.own (aL e (ij n)) v us :: .rd false (AB us j) (.bool true) (cl z u) :: en z u) fr Γ1 fun fr Γ=>.o q all l rk Γ ((d,.pointer (some (dc v n j))) :: fr) (f z))):D P cx (.e q (.indexAddr t x y) (some d) ty all l rk Γ fr (idx xs j>>=f)):=by
 refine D.of ?_
 intro B o ho r w ha ec pos af g
 replace hs:nh S V cl en:=by cases hs; assumption
 obtain ⟨z,hz,ho⟩:=bind_some ho
 replace hz:=qk hz
 obtain ⟨q1,i,_,q2,_,_,q3,_⟩:=ht.h
 obtain ⟨Z,F,hS,hG⟩:=ec
 obtain ⟨f0,F1,hp,hO,ew⟩:=h1.sound hS
 have bj:j.toNat < xs.length:=(List.getElem?_eq_some_iff.1 hz.2).1
 obtain ⟨base,cap,hv,hr⟩:=hO
 obtain rfl:v = .slice base xs.length cap:=by simpa using hv
 rcases hr with ⟨_,_,rfl,_⟩ | ⟨b,cur,f',rfl,j4,rfl,hle,aav,uC,dy⟩
 ·simp at bj
 ·obtain ⟨us,hl,hru,hg⟩:=OY hn dy
  obtain ⟨c,g0,g1,g2,a1,rfl,a3⟩:=hg _ _ hz.2
  obtain ⟨u,rfl,sS⟩:=hs.op a3
  have z7:(aL e (ij n)).rep w.heap [.slice (some ⟨b,0,none⟩) xs.length cap] us [b]:=
   ⟨_,cap,by rw [hl],.inr ⟨b,cur,[],rfl,j4,rfl,by rw [hl]; exact hle,aav,by rw [uC,hn]; rfl,by rw [hl,show (ij n).size=S.size from hn.symm]; exact hru⟩⟩
  have dw:HL Z w (.own (aL e (ij n)) (.slice (some ⟨b,0,none⟩) xs.length cap) us :: .rd false (AB us j) (.bool true) (cl z u) :: en z u) ([b]++g1):=.own z7 (.fact ⟨[],⟨rfl,⟨hz.1,a1⟩,rfl⟩,fun _ h=>absurd h List.not_mem_nil⟩ (sS Z))
  obtain ⟨F',wE,fk⟩:=dw.build ew
  have qb:(F'++(g0++g2)).Perm F:=by
   refine .trans ?_ hp
   refine (wE.append_right _).trans ?_
   rw [List.cons_append,List.cons_append,List.cons_append,List.nil_append,List.cons_append]
   refine List.Perm.cons b ?_
   have e1:(g1++F1++(g0++g2)).Perm ((g0++g2)++(g1++F1)):=List.perm_append_comm
   refine e1.trans ?_
   rw [List.append_assoc,List.append_assoc,List.append_assoc]
   refine List.Perm.append_left g0 ?_
   rw [← List.append_assoc,← List.append_assoc]
   exact List.perm_append_comm.append_right F1
  refine db (v:=.pointer (some (dc (.slice (some ⟨b,0,none⟩) xs.length cap) n j))) (fun w' hC=>?_) ((h z u us).sound B o ho _ w (ay ha) ⟨Z,F',fk,Gd.left (hG.perm qb)⟩)
  rw [ll q1 q2 (bA ha hx) (bA ha hy) hz.1 (by omega),q3]
  rfl
theorem YU {α V:Type} {S:ah α} {cl:α→V→List Value} {en:α→V→List aw} (y:α) {u:V} {d b n e bt:Nat} {s x:OO} {sv:Value} {xs:List α} {cs:LV} {t et ty:TI} {f:Unit→Option M} [ht:AF P t e n bt]
  (hs:bq fr s=some sv) (hx:bq fr x=some (.slice (some ⟨b,0,none⟩) 1 1)) (h0:dp Γ (.row b cs et) Γ1) (h1:dp Γ1 (.own (aL e S) sv xs) Γ2) (qz:OX S V cl en) (_hv:bn V u) (hc:cs=cl y u) (hn:S.size=n) (he:EO Γ2 (en y u) Γ3)
  (h:∀ v,D P cx (.o false all l rk (.own (aL e S) v (xs++[y]) :: Γ3) ((d,v) :: fr) (f ()))):D P cx (.e false (.call ⟨.builtin .append,#[s,x],#[t,t]⟩) (some d) ty all l rk Γ fr (fits bt (xs.length+1)>>=f)):=by
 refine D.of ?_
 intro B o cg r w ha ec pos af g
 have EA:nh S V cl en:=by cases qz; assumption
 obtain ⟨_,hu,cg⟩:=bind_some cg
 obtain ⟨b1,b2⟩:=qd hu
 obtain ⟨q1,i,z,q2,q3,q4,q5,q6,_⟩:=ht.h
 obtain ⟨Z,F,hS,hG⟩:=ec
 obtain ⟨n0,F0,sT,⟨rfl,bh⟩,uE⟩:=h0.sound hS
 obtain ⟨k,F1,hp,hO,ew⟩:=h1.sound uE
 obtain ⟨Fd,F2,hho,fk,nr⟩:=he.sound ew
 have hy:S.rep w.heap (cl y u) y Fd:=EA.cl (XX (EA.ow y u) hho)
 have qb:(((k++Fd)++F2)++[b]).Perm F:=by
  refine .trans ?_ sT
  refine List.perm_append_comm.trans ?_
  refine List.Perm.append_left [b] ?_
  rw [List.append_assoc]
  exact (nr.append_left k).trans hp
 have jh:Gd B Z ((k++Fd)++F2) w:=Gd.left (F':=[b]) (hG.perm qb)
 have df:=(List.nodup_append.1 jh.nd).1
 have xh:=List.nodup_append.1 df
 subst hc
 obtain ⟨v,w',f',j9,hC,dy,dj,G5⟩:=qf (E:=S) (d:=some d) (ty:=ty) (pos:=pos) (af:=af) (g:=none) (k:=Fd) (ys:=[y]) (news:=cl y u) q1 q2 q3 (by rw [q5,hn]) (by rw [q4,hn]) (bA ha hs) hO xh.1 (bA ha hx) (fun i u hi=>bh.at i u hi) (su hy) (fun b hb hm=>xh.2.2 b hm b hb rfl) (by simp) (by rw [q6]; exact b1) b2
 refine fh (WL.val rfl j9 ((h v).sound B o cg _ w' (ay ha) ?_))
 refine St.put fk jh (hC.mono fun b hb=>List.mem_append_left _ hb) dy (G5 xh.2.1) fun b hb=>?_
 rcases dj b hb with h | h | h
 ·exact .inl (List.mem_append_left _ h)
 ·exact .inl (List.mem_append_right _ h)
 ·exact .inr h
end
end Go.Dk
namespace Go.Dk
open Go Go.Li
section
variable {P:Program} {n:Nat} {l:LO} {Q:Exit→(Nat→Value)→World→Prop} {S:World→Prop}
def Hw (P:Program) (n:Nat) (l:LO) (Q:Exit→(Nat→Value)→World→Prop) (S:World→Prop) (k:Nat) (L:Array Bool) (r:NV) (w:World):Prop:=
 ∀ a:Act,a.tmps.size=n→a.defers=[]→cu a=r→wpAnyH P .any l.toArray (fun e a' w'=>a'.tmps.size=n∧a'.defers=[]∧Q e (cu a') w') S k L a w
theorem By {i:Nat} {o:Oper} {a:Act} (hd:de n l=true) (hi:l[i]? = some o) (h1:a.tmps.size=n):∀ k,o.dst=some k→k < a.tmps.size:=by
 intro k hk
 have hm:o∈l:=List.mem_of_getElem? hi
 simp only [de,List.all_eq_true] at hd
 have:=hd o hm
 rw [hk] at this
 rw [h1]
 exact Nat.lt_of_succ_le (Nat.le_of_ble_eq_true this)
theorem Hw.take {k i:Nat} {L:Array Bool} {o:Oper} {v:Value} {r:NV} {w:World} (hd:de n l=true) (hi:l[i]? = some o) (hs:Region.noSelect l.toArray=true) (hf:Region.free .any l.toArray L i=true) (hr:(Region.ready .any l.toArray L).contains i=true)
  (hp:∀ c r w,¬ Q (.panic c) r w) (hg:o.guard=none) (hy:∀ w,S w→(execOp (ev r) o).run P w = .ok (.value v) w) (hS:S w) (h:Hw P n l Q S k (L.setIfInBounds i true) (ez r o.dst v) w):Hw P n l Q S (k+1) L r w:=by
 intro a h1 h2 h3
 refine wpAnyH_take (v:=v) (by simpa using hi) hs hf hr (fun c a w h=>(hp _ _ _ h.2.2).elim) (.inl ⟨sm hg,fun w hw=>?_⟩) hS (h _ (by rw [js]; exact h1) (by rw [gp]; exact h2) (by rw [kp (By hd hi h1),h3]))
 rw [r6,h3]
 exact hy w hw
theorem Hw.step {k i:Nat} {L:Array Bool} {o:Oper} {r:NV} {w w':World} (hd:de n l=true) (hi:l[i]? = some o) (hr:Region.ready .any l.toArray L=[i]) (hg:o.guard=none) (hy:(execOp (ev r) o).run P w = .ok .skip w') (hS:S w') (h:Hw P n l Q S k (L.setIfInBounds i true) (ez r o.dst undef) w'):Hw P n l Q S (k+1) L r w:=by
 intro a h1 h2 h3
 refine wpAnyH_all hr (by simp) fun j hj=>?_
 obtain rfl:j=i:=by simpa using hj
 unfold wpOp
 rw [show (l.toArray)[j]? = some o by simpa using hi]
 simp only []
 rw [if_pos (sm hg)]
 refine .inl ?_
 unfold Oper.wp
 rw [r6,h3,hy]
 exact ⟨hS,h _ (by rw [js]; exact h1) (by rw [gp]; exact h2) (by rw [kp (By hd hi h1),h3])⟩
theorem Hw.done {k:Nat} {L:Array Bool} {r:NV} {w:World} (hr:Region.ready .any l.toArray L=[]) (h:Q .normal r w):Hw P n l Q S k L r w:=
 fun _ h1 h2 h3=>wpAnyH_done hr ⟨h1,h2,by rw [h3]; exact h⟩ k
theorem Hw.start {r:NV} {w:World} (h:Hw P n l Q S l.length (Array.replicate l.length false) r { w with drawn:=w.drawn+1 }):mg P n l Q r w:=
 fun a h1 h2 h3=>wpAny_of_held _ _ _ _ (h a h1 h2 h3)
def AL (P:Program) (S:World→Prop):List Oper→(Nat→Value)→((Nat→Value)→Prop)→Prop
 | [],r,K=>K r
 | o :: l,r,K=>o.guard=none∧∃ v,(∀ w,S w→(execOp (ev r) o).run P w = .ok (.value v) w)∧AL P S l (ez r o.dst v) K
def Bz (l:LO):List Nat→Array Bool→Bool
 | [],L=>(Region.ready .any l.toArray L).isEmpty
 | i :: ss,L=>Nat.blt i l.length && (Region.ready .any l.toArray L == [i]) && Bz l ss (L.setIfInBounds i true)
def KQ (l:LO) (ss:LN):List Nat→Array Bool→Bool
 | [],L=>Bz l ss L
 | i :: qs,L=>Nat.blt i l.length && (Region.ready .any l.toArray L).contains i && Region.free .any l.toArray L i && KQ l ss qs (L.setIfInBounds i true)
def pick (l:LO) (is:LN):List Oper:=is.map fun i=>l.getD i default
theorem zf {i:Nat} (h:Nat.blt i l.length=true):l[i]? = some (l.getD i default):=by
 have h1:i < l.length:=Nat.lt_of_succ_le (Nat.le_of_ble_eq_true h)
 rw [List.getD_eq_getElem?_getD,List.getElem?_eq_getElem h1]; rfl
theorem Hw.quiet (hd:de n l=true) (hs:Region.noSelect l.toArray=true) (hp:∀ c r w,¬ Q (.panic c) r w) {ss:LN} {w:World} (hS:S w) {K:(Nat→Value)→Prop} (h:∀ L r,Bz l ss L=true→K r→Hw P n l Q S ss.length L r w) :
  ∀ (qs:LN) (L:Array Bool) (r:NV),KQ l ss qs L=true→AL P S (pick l qs) r K→Hw P n l Q S (qs.length+ss.length) L r w:=by
 intro qs
 induction qs with
 | nil=>intro L r hc hv; rw [List.length_nil,Nat.zero_add]; exact h L r hc hv
 | cons i qs ih=>
  intro L r hc hv
  unfold KQ at hc
  simp only [Bool.and_eq_true] at hc
  obtain ⟨⟨⟨c1,c2⟩,c3⟩,c4⟩:=hc
  obtain ⟨hg,v,h1,h2⟩:=hv
  have:=Hw.take hd (zf c1) hs c3 c2 hp hg h1 hS (ih _ _ c4 h2)
  rwa [show qs.length+ss.length+1=(i :: qs).length+ss.length by simp; omega] at this
end
inductive JQ
 | q (ops:LO) (fr:Fr)
 | la (a:Addr) (lk:Option Nat) (t:TI) (x:OO) (d:Nat) (ty:TI) (pos:String) (af:Array Edge) (ops:LO) (fr:Fr)
inductive QA (P:Program) (Γ:QE):JQ→Fr→Prop
 | nil {fr:Fr}:QA P Γ (.q [] fr) fr
 | ld {d:Nat} {t ty:TI} {x:OO} {lk:Option Nat} {a:Addr} {pos:String} {af:Array Edge} {ops:LO} {fr lh:Fr} [ht:LK P t lk] (hx:bq fr x=some (.pointer (some a))) (h:QA P Γ (.la a lk t x d ty pos af ops fr) lh):QA P Γ (.q (⟨some d,.load t x,ty,pos,af,none⟩ :: ops) fr) lh
 | val {d:Nat} {op:Op} {ty:TI} {u:Value} {pos:String} {af:Array Edge} {ops:LO} {fr lh:Fr} (hv:VQ P Γ fr op u) (h:QA P Γ (.q ops ((d,u) :: fr)) lh):QA P Γ (.q (⟨some d,op,ty,pos,af,none⟩ :: ops) fr) lh
 | lc {d:Nat} {t ty:TI} {x:OO} {a:Addr} {u:Value} {pos:String} {af:Array Edge} {ops:LO} {fr lh:Fr} (h:vf Γ a u) (k:QA P Γ (.q ops ((d,u) :: fr)) lh):QA P Γ (.la a none t x d ty pos af ops fr) lh
 | ls {d n:Nat} {t ty:TI} {x:OO} {a:Addr} {ds:LV} {pos:String} {af:Array Edge} {ops:LO} {fr lh:Fr} (h:bb Γ a n ds) (k:QA P Γ (.q ops ((d,.agg ds.toArray) :: fr)) lh):QA P Γ (.la a (some n) t x d ty pos af ops fr) lh
inductive RO (fr:Fr):List Oper→List aw→List (Nat×List Value×TypeId)→List aw→Prop
 | nil {Γ:QE}:RO fr [] Γ [] Γ
 | cons {t ty e:TI} {x y:OO} {b:Nat} {cs:LV} {pos:String} {af:Array Edge} {ops:LO} {Γ Γ1 Γ2:QE} {rs:List (Nat×List Value×TypeId)} (hx:bq fr x=some (.pointer (some ⟨b,0,none⟩))) (h:dp Γ (.row b cs e) Γ1) (k:RO fr ops Γ1 rs Γ2):RO fr (⟨none,.store t x y,ty,pos,af,none⟩ :: ops) Γ ((b,cs,e) :: rs) Γ2
inductive SQ (P:Program) (Γ:QE) (fr:Fr):List Oper→List (Nat×List Value×TypeId)→List (Nat×List Value×TypeId)→Prop
 | nil:SQ P Γ fr [] [] []
 | cons {n:Nat} {t ty e:TI} {x y:OO} {b:Nat} {u:Value} {us cs ds:LV} {pos:String} {af:Array Edge} {ops:LO} {rs sZ:List (Nat×List Value×TypeId)} [ht:u5 P t n] (hx:bq fr x=some (.pointer (some ⟨b,0,none⟩))) (hy:bq fr y=some u) (hc:sR Γ u us) (hn:us.length=n) (hs:aX us 0 cs ds) (ho:ba Γ us) (k:SQ P Γ fr ops rs sZ) :
   SQ P Γ fr (⟨none,.store t x y,ty,pos,af,none⟩ :: ops) ((b,cs,e) :: rs) ((b,ds,e) :: sZ)
def DI:List (Nat×List Value×TypeId)→List aw
 | []=>[]
 | (b,cs,e) :: l=>.row b cs e :: DI l
def Rows (w:World) (rs:List (Nat×List Value×TypeId)):Prop:=∀ p∈rs,Row w p.1 p.2.1 p.2.2
section
variable {P:Program} {Γ Γ2:QE} {S:World→Prop} {Z:Nat→Prop}
def aaw (P:Program) (S:World→Prop):JQ→Fr→Prop
 | .q ops fr,lh=>∀ r,cw r fr→AL P S ops r fun r'=>cw r' lh
 | .la a lk t x d ty pos af ops fr,lh=>(match lk with | none=>NA P t | some n=>AG P t n)→bq fr x=some (.pointer (some a))→∀ r,cw r fr→AL P S (⟨some d,.load t x,ty,pos,af,none⟩ :: ops) r fun r'=>cw r' lh
theorem QA.sound {J:JQ} {lh:Fr} (hS:∀ w,S w→∃ cur F,SA Z w Γ cur F) (h:QA P Γ J lh):aaw P S J lh:=by
 induction h with
 | nil=>exact fun r h=>h
 | @ld d t ty x lk a pos af ops fr lh ht hx _ ih=>exact fun r ha=>ih ht.h hx r ha
 | @val d op ty u pos af ops fr lh hv _ ih=>
  intro r ha
  refine ⟨rfl,u,fun w hw=>?_,ih _ (ay ha)⟩
  obtain ⟨cur,F,h⟩:=hS w hw
  exact hv.sound h ha (some d) ty pos af none w (an.refl _ _)
 | @lc d t ty x a u pos af ops fr lh h _ ih=>
  intro ht hx r ha
  refine ⟨rfl,u,fun w hw=>?_,ih _ (ay ha)⟩
  obtain ⟨cur,F,hs⟩:=hS w hw
  exact Ld ht (h.sound hs) (bA ha hx) w (an.refl _ _)
 | @ls d n t ty x a ds pos af ops fr lh h _ ih=>
  intro ht hx r ha
  refine ⟨rfl,_,fun w hw=>?_,ih _ (ay ha)⟩
  obtain ⟨cur,F,hs⟩:=hS w hw
  obtain ⟨h1,h2⟩:=h.sound hs
  exact Lg ht h1 (bA ha hx) h2 w (an.refl _ _)
theorem RO.sound {fr:Fr} {ops:LO} {rs:List (Nat×List Value×TypeId)} {w:World} (h:RO fr ops Γ rs Γ2):∀ {F:LN},SA Z w Γ [] F→∃ F2,(rs.map (·.1)++F2).Perm F∧Rows w rs∧SA Z w Γ2 [] F2:=by
 induction h with
 | nil=>intro F h; exact ⟨F,.refl _,fun _ h=>absurd h List.not_mem_nil,h⟩
 | @cons t ty e x y b cs pos af ops Γ Γ1 Γ2 rs hx h _ ih=>
  intro F hS
  obtain ⟨f,F1,hp,⟨rfl,bh⟩,ew⟩:=h.sound hS
  obtain ⟨F2,nr,hr,fk⟩:=ih ew
  refine ⟨F2,?_,fun p hp=>?_,fk⟩
  ·exact .trans (List.Perm.cons b nr) hp
  ·rcases List.mem_cons.1 hp with rfl | hp
   ·exact bh
   ·exact hr p hp
theorem SQ.sound {n:Nat} {l:LO} {Q:Exit→(Nat→Value)→World→Prop} {fr:Fr} {ops:LO} {rs sZ:List (Nat×List Value×TypeId)} {F2:LN} {w0:World} {r:NV} {F:LN} (hd:de n l=true) (ha:cw r fr) (vQ:∀ w,an F w0 w→SA Z w Γ2 [] F2) (h:SQ P Γ2 fr ops rs sZ) :
  ∀ (ss:LN) (L:Array Bool) (w:World),ops=pick l ss→Bz l ss L=true→an F w0 w→Rows w rs→(rs.map (·.1)).Nodup→(∀ b∈rs.map (·.1),b∈F)→(∀ w',an (rs.map (·.1)) w w'→Rows w' sZ→Q .normal r w')→Hw P n l Q (an F w0) ss.length L r w:=by
 induction h with
 | nil=>
  intro ss L w ho hc hC hR hn hF hk
  cases ss with
  | cons i ss=>cases ho
  | nil=>
   exact Hw.done (by simpa [Bz] using hc) (hk w (an.refl _ _) hR)
 | @cons n' t ty e x y b u us cs ds pos af ops rs sZ ht hx hy CC hn hsg hon _ ih=>
  intro ss L w ho hc hC hR df hF hk
  cases ss with
  | nil=>cases ho
  | cons i ss=>
   unfold Bz at hc
   simp only [Bool.and_eq_true] at hc
   obtain ⟨⟨c1,c2⟩,c3⟩:=hc
   have cg:l.getD i default = ⟨none,.store t x y,ty,pos,af,none⟩∧ops=pick l ss:=by
    unfold pick at ho
    rw [List.map_cons,List.cons.injEq] at ho
    exact ⟨ho.1.symm,ho.2⟩
   have hi:=zf c1
   rw [cg.1] at hi
   obtain ⟨ti,q1,q2⟩:=ht.h
   have bh:Row w b cs e:=hR (b,cs,e) (by simp)
   obtain ⟨e1,e2⟩:=hsg.eq
   have YV:=vQ w hC
   have j9:=vA (P:=P) (d:=none) (ty:=ty) (pos:=pos) (af:=af) (gg:=none) q1 (by rw [hn,q2]) bh e1 (bA ha hx) (y:=y) (by rw [bA ha hy]; exact CC.eq YV) (hon.one YV)
   have sL:=setRow_heap w b cs.toArray (cs.take 0++us++cs.drop (0+us.length)).toArray e _ bh
   have BA:an [b] w (w.setRow b (cs.take 0++us++cs.drop (0+us.length)).toArray):=⟨rfl,rfl,rfl,Nat.le_refl _,by simp,fun j _ hj=>setRow_other w b j _ fun h=>hj (by simp [h])⟩
   have tv:=hC.trans (BA.mono fun b' cy=>by rw [List.mem_singleton.1 cy]; exact hF b (by simp))
   rw [List.map_cons,List.nodup_cons] at df
   refine Hw.step hd hi (by simpa using c2) rfl j9 tv (ih ss _ _ cg.2 c3 tv (fun p hp=>(hR p (List.mem_cons_of_mem _ hp)).ee BA fun hb=>df.1 ?_) df.2 (fun b' cy=>hF b' (by simp at cy ⊢; exact .inr cy)) fun w' GX Hm=>?_)
   ·rw [← List.mem_singleton.1 hb]; exact List.mem_map_of_mem (f:=fun q=>q.1) hp
   ·refine hk w' ((BA.mono (by simp)).trans (GX.mono fun b' cy=>List.mem_cons_of_mem _ cy)) fun p hp=>?_
    rcases List.mem_cons.1 hp with rfl | hp
    ·refine Row.ee (F:=rs.map (·.1)) ?_ GX df.1
     rw [e2]
     exact sL
    ·exact Hm p hp
theorem SQ.fst {fr:Fr} {ops:LO} {rs sZ:List (Nat×List Value×TypeId)} (h:SQ P Γ fr ops rs sZ):sZ.map (·.1)=rs.map (·.1):=by
 induction h with
 | nil=>rfl
 | cons _ _ _ _ _ _ _ ih=>simp only [List.map_cons,ih]
theorem CW {w:World}:∀ {rs:List (Nat×List Value×TypeId)},Rows w rs→HL Z w (DI rs) (rs.map (·.1))
 | [],_=>.nil
 | (b,cs,e) :: l,h=>.own (f:=[b]) (e:=.row b cs e) ⟨rfl,h (b,cs,e) (by simp)⟩ (CW fun p hp=>h p (List.mem_cons_of_mem _ hp))
end
section
variable {R S:Type} {P:Program} {cx:Cx R} {K:dh R S} {l:LO}
theorem anyS {id:Nat} (qs ss:LN) {xr mh:LO} {Γ Γ1:QE} {fr lh:Fr} {rs sZ:List (Nat×List Value×TypeId)} {m:Option (Out S R)}
  (hB:(P.follows .mixedOrders && de cx.n l && Region.noSelect l.toArray && KQ l ss qs (Array.replicate l.length false) && Nat.beq l.length (qs.length+ss.length))=true)
  (hq:xr=pick l qs) (hs:mh=pick l ss) (h1:RO fr mh Γ rs Γ1) (h2:QA P Γ1 (.q xr fr) lh) (h3:SQ P Γ1 lh mh rs sZ)
  (h:D P cx (.p [] (DI sZ) lh Γ1 fun fr Γ=>.n K Γ fr m)):Bx (lj P cx (.dr id l K Γ fr m)):=by
 simp only [Bool.and_eq_true] at hB
 obtain ⟨⟨⟨⟨b1,b2⟩,b3⟩,b4⟩,b5⟩:=hB
 rw [kv]
 intro B o ho r w ha ou
 obtain ⟨Z,F,hS,hG⟩:=ou
 obtain ⟨F2,hp,hR,fk⟩:=h1.sound hS
 have jh:=hG.perm hp
 have df:=List.nodup_append.1 jh.nd
 refine mg.W b1 (Hw.start (S:=an (rs.map (·.1)) { w with drawn:=w.drawn+1 }) ?_)
 have BB:an [] w { w with drawn:=w.drawn+1 }:=an.drew _ _
 have vQ:∀ w',an (rs.map (·.1)) { w with drawn:=w.drawn+1 } w'→SA Z w' Γ1 [] F2:=fun w' hC=>(fk.gw BB).ee hC (fun b hb=>jh.apart b (List.mem_append_left _ hb)) (fun b _=>List.not_mem_nil) (fun b hb hm=>df.2.2 b hb b hm rfl)
 rw [show l.length=qs.length+ss.length from Nat.eq_of_beq_eq_true b5] at b4 ⊢
 subst hq hs
 refine Hw.quiet (K:=fun r'=>cw r' lh) b2 b3 (fun c r w h=>sw c h) (an.refl _ _) (fun L r' hc fq=>?_) qs _ r b4 (QA.sound (fun w' hC=>⟨[],F2,vQ w' hC⟩) h2 r ha)
 refine SQ.sound b2 fq vQ h3 ss L _ rfl hc (an.refl _ _) (fun p hp=>(hR p hp).gw BB) df.1 (fun b hb=>hb) fun w' hC Hm=>?_
 obtain ⟨F3,e1,e2⟩:=HL.build (CW Hm) (vQ w' hC)
 have tv:an (rs.map (·.1)) w w':=(BB.mono fun b hb=>absurd hb List.not_mem_nil).trans hC
 rw [h3.fst] at e1
 have sy:∀ b∈rs.map (·.1),b∈B.G∨B.w.heap.size≤b:=fun b hb=>jh.low b (List.mem_append_left _ hb)
 have jg:Gd B Z (rs.map (·.1)++F2) w':=⟨jh.nd,jh.apart,fun b hb=>Nat.lt_of_lt_of_le (jh.na b hb) tv.size,jh.low,jh.tU,jh.tA,jh.jc.then tv sy⟩
 exact h.sound B o ho r' w' (by simpa using fq) ⟨Z,F3,e2,jg.perm e1⟩
end
theorem Hw.all {P:Program} {n k:Nat} {l:LO} {Q:Exit→(Nat→Value)→World→Prop} {S:World→Prop} {L:Array Bool} {rs:LN} {r:NV} {w:World} (hd:de n l=true) (hr:Region.ready .any l.toArray L=rs) (ny:rs≠[])
  (h:∀ i∈rs,∃ o,l[i]? = some o∧o.guard=none∧∃ v w',((execOp (ev r) o).run P w = .ok (.value v) w'∨(execOp (ev r) o).run P w = .ok .skip w'∧v=undef)∧S w'∧Hw P n l Q S k (L.setIfInBounds i true) (ez r o.dst v) w'):Hw P n l Q S (k+1) L r w:=by
 intro a h1 h2 h3
 refine wpAnyH_all hr ny fun j hj=>?_
 obtain ⟨o,hi,hg,v,w',hy,hS,hk⟩:=h j hj
 unfold wpOp
 rw [show (l.toArray)[j]? = some o by simpa using hi]
 simp only []
 rw [if_pos (sm hg)]
 refine .inl ?_
 unfold Oper.wp
 rw [r6,h3]
 rcases hy with hy | ⟨hy,rfl⟩
 ·rw [hy]
  exact ⟨hS,hk _ (by rw [js]; exact h1) (by rw [gp]; exact h2) (by rw [kp (By hd hi h1),h3])⟩
 ·rw [hy]
  exact ⟨hS,hk _ (by rw [js]; exact h1) (by rw [gp]; exact h2) (by rw [kp (By hd hi h1),h3])⟩
def on (L:Array Bool) (i:Nat):Array Bool:=L.setIfInBounds i true
def mm (l:LO) (L:Array Bool) (rs:LN):Bool:=Region.ready .any l.toArray L == rs
def KR (l:LO) (a1 a2 s1 s2:Nat) (L:Array Bool):Bool:=
 (Nat.blt a1 l.length && Nat.blt a2 l.length && Nat.blt s1 l.length && Nat.blt s2 l.length) && (mm l L [a1,a2] && mm l (on L a2) [a1]) && (mm l (on (on L a1) a2) [s1] && mm l (on (on L a2) a1) [s1]) &&
  (mm l (on (on (on L a1) a2) s1) [s2] && mm l (on (on (on L a2) a1) s1) [s2]) && (mm l (on (on (on (on L a1) a2) s1) s2) [] && mm l (on (on (on (on L a2) a1) s1) s2) []) &&
  (mm l (on L a1) [a2] || (mm l (on L a1) [a2,s1] && (mm l (on (on L a1) s1) [a2] && (mm l (on (on (on L a1) s1) a2) [s2] && mm l (on (on (on (on L a1) s1) a2) s2) []))))
def KS (l:LO) (a1 a2 s1 s2:Nat):List Nat→Array Bool→Bool
 | [],L=>KR l a1 a2 s1 s2 L
 | i :: qs,L=>Nat.blt i l.length && (Region.ready .any l.toArray L).contains i && Region.free .any l.toArray L i && KS l a1 a2 s1 s2 qs (L.setIfInBounds i true)
theorem Hw.UM {P:Program} {n a1 a2 s1 s2 m:Nat} {l:LO} {Q:Exit→(Nat→Value)→World→Prop} {S:World→Prop} (hd:de n l=true) (hs:Region.noSelect l.toArray=true) (hp:∀ c r w,¬ Q (.panic c) r w) {w:World} (hS:S w) {K:(Nat→Value)→Prop} (h:∀ L r,KR l a1 a2 s1 s2 L=true→K r→Hw P n l Q S m L r w) :
  ∀ (qs:LN) (L:Array Bool) (r:NV),KS l a1 a2 s1 s2 qs L=true→AL P S (pick l qs) r K→Hw P n l Q S (qs.length+m) L r w:=by
 intro qs
 induction qs with
 | nil=>intro L r hc hv; rw [List.length_nil,Nat.zero_add]; exact h L r hc hv
 | cons i qs ih=>
  intro L r hc hv
  unfold KS at hc
  simp only [Bool.and_eq_true] at hc
  obtain ⟨⟨⟨c1,c2⟩,c3⟩,c4⟩:=hc
  obtain ⟨hg,v,h1,h2⟩:=hv
  have:=Hw.take hd (zf c1) hs c3 c2 hp hg h1 hS (ih _ _ c4 h2)
  rwa [show qs.length+m+1=(i :: qs).length+m by simp; omega] at this
inductive z8 (P:Program) (Γ:QE) (fr:Fr) (d:Nat):Oper→Oper→TypeId→List Value→Prop
 | mk {t ty UN:TI} {y:OO} {u:Value} {n:Nat} {us cs ds:LV} {pos OZ:String} {af O0:Array Edge} [hz:yg P t cs] [ht:u5 P t n] (hn:look fr d=none) (hy:bq fr y=some u) (hc:sR Γ u us) (hl:us.length=n) (hs:aX us 0 cs ds) (ho:ba Γ us) :
   z8 P Γ fr d ⟨some d,.alloc t,ty,pos,af,none⟩ ⟨none,.store t (.tmp d) y,UN,OZ,O0,none⟩ t ds
section
variable {P:Program} {Γ:QE} {Z:Nat→Prop} {fr:Fr} {w:World} {cur F:LN}
theorem z8.alloc {d:Nat} {oa os:Oper} {t:TI} {ds:LV} (h:z8 P Γ fr d oa os t ds) (r:NV) (w:World):oa.guard=none∧oa.dst=some d∧look fr d=none∧∃ cs w',(execOp (ev r) oa).run P w = .ok (.value (.pointer (some ⟨w.heap.size,0,none⟩))) w'∧an [] w w'∧Row w' w.heap.size cs t∧
  ∀ (r':NV) (w1:World) (b:Nat) cur F,SA Z w1 Γ cur F→cw r' fr→r' d = .pointer (some ⟨b,0,none⟩)→Row w1 b cs t→∃ w2,(execOp (ev r') os).run P w1 = .ok .skip w2∧an [b] w1 w2∧Row w2 b ds t:=by
 cases h with
 | @mk t ty UN y u n us cs ds pos OZ af O0 hz ht hn hy hc hl hs ho=>
  obtain ⟨i',z,t1,t2,t3⟩:=hz.h
  refine ⟨rfl,rfl,hn,z.cells.toList,_,CX t1 t2,an.alloc _ _ _,?_,?_⟩
  ·have:=heap_alloc_new w (.cells z.cells t (0,0))
   unfold Row
   simpa using this
  ·intro r' w1 b cur F hS ha hr bh
   rw [t3] at bh
   obtain ⟨ti,q1,q2⟩:=ht.h
   obtain ⟨e1,e2⟩:=hs.eq
   have j9:=vA (P:=P) (d:=none) (ty:=UN) (pos:=OZ) (af:=O0) (gg:=none) q1 (by rw [hl,q2]) bh e1 (x:=.tmp d) hr (y:=y) (by rw [bA ha hy]; exact hc.eq hS) (ho.one hS)
   refine ⟨_,j9,⟨rfl,rfl,rfl,Nat.le_refl _,by simp,fun j _ hj=>setRow_other w1 b j _ fun h=>hj (by simp [h])⟩,?_⟩
   have sL:=setRow_heap w1 b cs.toArray (cs.take 0++us++cs.drop (0+us.length)).toArray t _ bh
   rw [e2]
   exact sL
theorem z8.st {d:Nat} {oa os:Oper} {t:TI} {ds:LV} (h:z8 P Γ fr d oa os t ds):os.guard=none∧os.dst=none:=by
 cases h; exact ⟨rfl,rfl⟩
theorem Hn {r:NV} {d:Nat} {v:Value}:wC r d v d=v:=by unfold wC; rw [Nat.beq_refl]; rfl
theorem Rc {r:NV} {d t:Nat} {v:Value} (h:t≠d):wC r d v t=r t:=by
 unfold wC
 cases hb:Nat.beq t d with
 | true=>exact absurd (Nat.eq_of_beq_eq_true hb) h
 | false=>rfl
theorem zg {r:NV} {d:Nat} {v:Value} (hn:look fr d=none) (ha:cw r fr):cw (wC r d v) fr:=by
 intro t u hl
 have ny:t≠d:=fun h=>by rw [h,hn] at hl; cases hl
 rw [Rc ny]
 exact ha t u hl
theorem vR {l:LO} {L:Array Bool} {rs:LN} (h:mm l L rs=true):Region.ready .any l.toArray L=rs:=by
 unfold mm at h
 simpa using h
variable {n:Nat} {l:LO} {Q:Exit→(Nat→Value)→World→Prop} {w0:World} {F2:LN} {a1 a2 s1 s2 d1 d2:Nat} {Ho Fi Fj Fk:Oper} {t1 t2:TI} {Fm Fq:LV} {L:Array Bool} {r:NV}
theorem tree (hd:de n l=true) (vQ:∀ w,an [] w0 w→SA Z w Γ [] F2) (B1:z8 P Γ fr d1 Ho Fj t1 Fm) (B2:z8 P Γ fr d2 Fi Fk t2 Fq) (ny:d1≠d2) (i1:l[a1]? = some Ho) (i2:l[a2]? = some Fi) (j1:l[s1]? = some Fj) (j2:l[s2]? = some Fk)
  (fin:∀ b1 b2 r w,w0.heap.size≤b1→w0.heap.size≤b2→b1≠b2→an [] w0 w→cw r fr→r d1 = .pointer (some ⟨b1,0,none⟩)→r d2 = .pointer (some ⟨b2,0,none⟩)→Row w b1 Fm t1→Row w b2 Fq t2→Q .normal r w)
  (hc:KR l a1 a2 s1 s2 L=true) (hS:an [] w0 w) (ha:cw r fr):Hw P n l Q (an [] w0) 4 L r w:=by
 unfold KR at hc
 simp only [Bool.and_eq_true,Bool.or_eq_true] at hc
 obtain ⟨⟨⟨⟨⟨_,c1,c3⟩,c4,c5⟩,c7,c8⟩,c10,c11⟩,cc⟩:=hc
 obtain ⟨rs,c2,hn,hr⟩ : ∃ rs,mm l (on L a1) rs=true∧rs≠[]∧∀ i∈rs,i=a2∨i=s1∧mm l (on (on L a1) s1) [a2]=true∧mm l (on (on (on L a1) s1) a2) [s2]=true∧mm l (on (on (on (on L a1) s1) a2) s2) []=true:=by
  rcases cc with c | ⟨c,c6,c9,UO⟩
  ·exact ⟨_,c,by simp,fun i hi=>.inl (List.mem_singleton.1 hi)⟩
  ·exact ⟨_,c,by simp,fun i hi=>(List.mem_cons.1 hi).imp id fun hi=>⟨List.mem_singleton.1 hi,c6,c9,UO⟩⟩
 have g1:=(B1.st).1
 have g2:=(B2.st).1
 have e1:=(B1.st).2
 have e2:=(B2.st).2
 have last:∀ {L:Array Bool} {b1 b2:Nat} {yn:LV} {r:NV} {w:World},mm l L [s2]=true→mm l (on L s2) []=true→w0.heap.size≤b1→w0.heap.size≤b2→b1≠b2→an [] w0 w→cw r fr→r d1 = .pointer (some ⟨b1,0,none⟩)→r d2 = .pointer (some ⟨b2,0,none⟩)→Row w b1 Fm t1→Row w b2 yn t2→
   (∀ (r':NV) (w1:World) (b:Nat) cur F,SA Z w1 Γ cur F→cw r' fr→r' d2 = .pointer (some ⟨b,0,none⟩)→Row w1 b yn t2→∃ w2,(execOp (ev r') Fk).run P w1 = .ok .skip w2∧an [b] w1 w2∧Row w2 b Fq t2)→Hw P n l Q (an [] w0) 1 L r w:=by
  intro L b1 b2 yn r w k1 k2 h1 h2 h3 hS ha p1 p2 r1 r2 st
  obtain ⟨w2,j9,hC,hr⟩:=st r w b2 [] F2 (vQ w hS) ha p2 r2
  have fk:an [] w0 w2:=hS.then hC fun i hi=>.inr (by rw [List.mem_singleton.1 hi]; exact h2)
  refine Hw.all hd (vR k1) (by simp) fun i hi=>?_
  rw [List.mem_singleton.1 hi]
  refine ⟨Fk,j2,g2,undef,w2,.inr ⟨j9,rfl⟩,fk,?_⟩
  rw [e2]
  exact Hw.done (vR k2) (fin b1 b2 r w2 h1 h2 h3 fk ha p1 p2 (r1.ee hC (by simpa using h3)) hr)
 have two:∀ {L:Array Bool} {b1 b2:Nat} {MI yn:LV} {r:NV} {w:World},mm l L [s1]=true→mm l (on L s1) [s2]=true→mm l (on (on L s1) s2) []=true→w0.heap.size≤b1→w0.heap.size≤b2→b1≠b2→an [] w0 w→cw r fr→r d1 = .pointer (some ⟨b1,0,none⟩)→r d2 = .pointer (some ⟨b2,0,none⟩)→Row w b1 MI t1→Row w b2 yn t2→
   (∀ (r':NV) (w1:World) (b:Nat) cur F,SA Z w1 Γ cur F→cw r' fr→r' d1 = .pointer (some ⟨b,0,none⟩)→Row w1 b MI t1→∃ w2,(execOp (ev r') Fj).run P w1 = .ok .skip w2∧an [b] w1 w2∧Row w2 b Fm t1)→
   (∀ (r':NV) (w1:World) (b:Nat) cur F,SA Z w1 Γ cur F→cw r' fr→r' d2 = .pointer (some ⟨b,0,none⟩)→Row w1 b yn t2→∃ w2,(execOp (ev r') Fk).run P w1 = .ok .skip w2∧an [b] w1 w2∧Row w2 b Fq t2)→Hw P n l Q (an [] w0) 2 L r w:=by
  intro L b1 b2 MI yn r w k1 k2 k3 h1 h2 h3 hS ha p1 p2 r1 r2 E4 Hp
  obtain ⟨w2,j9,hC,hr⟩:=E4 r w b1 [] F2 (vQ w hS) ha p1 r1
  have fk:an [] w0 w2:=hS.then hC fun i hi=>.inr (by rw [List.mem_singleton.1 hi]; exact h1)
  refine Hw.all hd (vR k1) (by simp) fun i hi=>?_
  rw [List.mem_singleton.1 hi]
  refine ⟨Fj,j1,g1,undef,w2,.inr ⟨j9,rfl⟩,fk,?_⟩
  rw [e1]
  exact last k2 k3 h1 h2 h3 fk ha p1 p2 hr (r2.ee hC (by simpa using Ne.symm h3)) Hp
 refine Hw.all hd (vR c1) (by simp) fun i hi=>?_
 rcases List.mem_cons.1 hi with rfl | hi
 ·-- the first is made first
  obtain ⟨gd,dd,dn,MI,w1,j9,hC,bh,E4⟩:=B1.alloc r w
  have ew:an [] w0 w1:=hS.trans hC
  have BC:w0.heap.size≤w.heap.size:=hS.size
  have YW:=bh.lt
  have MJ:=zg (v:=.pointer (some ⟨w.heap.size,0,none⟩)) dn ha
  refine ⟨Ho,i1,gd,_,w1,.inl j9,ew,?_⟩
  rw [dd]
  refine Hw.all hd (vR c2) hn fun i hi=>?_
  rcases hr i hi with rfl | ⟨rfl,c6,c9,UO⟩
  ·obtain ⟨UP,UQ,UR,yn,w2,zS,tv,KT,Hp⟩:=B2.alloc (ez r (some d1) (.pointer (some ⟨w.heap.size,0,none⟩))) w1
   refine ⟨Fi,i2,UP,_,w2,.inl zS,ew.trans tv,?_⟩
   rw [UQ]
   exact two (b1:=w.heap.size) (b2:=w1.heap.size) c4 c7 c10 BC (by omega) (by omega) (ew.trans tv) (zg UR MJ) (by show wC _ d2 _ d1=_; rw [Rc ny]; exact Hn) (by exact Hn) (bh.gw tv) KT E4 Hp
  ·obtain ⟨w2,zS,tv,JK⟩:=E4 _ w1 w.heap.size [] F2 (vQ w1 ew) MJ Hn bh
   have fk:an [] w0 w2:=ew.then tv fun i hi=>.inr (by rw [List.mem_singleton.1 hi]; exact BC)
   refine ⟨Fj,j1,g1,undef,w2,.inr ⟨zS,rfl⟩,fk,?_⟩
   rw [e1]
   refine Hw.all hd (vR c6) (by simp) fun i hi=>?_
   rw [List.mem_singleton.1 hi]
   obtain ⟨gd3,dd3,dn3,yn,w3,XY,Ft,XZ,Hp⟩:=B2.alloc (ez (ez r (some d1) (.pointer (some ⟨w.heap.size,0,none⟩))) none undef) w2
   have sz:w1.heap.size≤w2.heap.size:=tv.size
   refine ⟨Fi,i2,gd3,_,w3,.inl XY,fk.trans Ft,?_⟩
   rw [dd3]
   exact last (b1:=w.heap.size) (b2:=w2.heap.size) c9 UO BC (by omega) (by omega) (fk.trans Ft) (zg dn3 MJ) (by show wC _ d2 _ d1=_; rw [Rc ny]; exact Hn) Hn (JK.gw Ft) XZ Hp
 ·rw [List.mem_singleton.1 hi]
  obtain ⟨gd,dd,dn,yn,w1,j9,hC,bh,Hp⟩:=B2.alloc r w
  have ew:an [] w0 w1:=hS.trans hC
  have BC:w0.heap.size≤w.heap.size:=hS.size
  have YW:=bh.lt
  have MJ:=zg (v:=.pointer (some ⟨w.heap.size,0,none⟩)) dn ha
  refine ⟨Fi,i2,gd,_,w1,.inl j9,ew,?_⟩
  rw [dd]
  refine Hw.all hd (vR c3) (by simp) fun i hi=>?_
  rw [List.mem_singleton.1 hi]
  obtain ⟨UP,UQ,UR,MI,w2,zS,tv,KT,E4⟩:=B1.alloc (ez r (some d2) (.pointer (some ⟨w.heap.size,0,none⟩))) w1
  refine ⟨Ho,i1,UP,_,w2,.inl zS,ew.trans tv,?_⟩
  rw [UQ]
  exact two (b1:=w1.heap.size) (b2:=w.heap.size) c5 c8 c11 (by omega) BC (by omega) (ew.trans tv) (zg UR MJ) Hn (by show wC _ d1 _ d2=_; rw [Rc (Ne.symm ny)]; exact Hn) KT (bh.gw tv) E4 Hp
end
section
variable {R S:Type} {P:Program} {cx:Cx R} {K:dh R S} {l:LO}
theorem aax {id:Nat} (qs:LN) (a1 a2 s1 s2 d1 d2:Nat) {xr:LO} {Γ:QE} {fr lh:Fr} {Ho Fi Fj Fk:Oper} {t1 t2:TI} {Fm Fq:LV} {m:Option (Out S R)}
  (hB:(P.follows .mixedOrders && de cx.n l && Region.noSelect l.toArray && KS l a1 a2 s1 s2 qs (Array.replicate l.length false) && Nat.beq l.length (qs.length+4) && !(Nat.beq d1 d2))=true)
  (hq:xr=pick l qs) (e1:l[a1]? = some Ho) (e2:l[a2]? = some Fi) (e3:l[s1]? = some Fj) (e4:l[s2]? = some Fk) (h2:QA P Γ (.q xr fr) lh) (B1:z8 P Γ lh d1 Ho Fj t1 Fm) (B2:z8 P Γ lh d2 Fi Fk t2 Fq)
  (h:∀ b1 b2,D P cx (.p [(d1,.pointer (some ⟨b1,0,none⟩)),(d2,.pointer (some ⟨b2,0,none⟩))] [.row b1 Fm t1,.row b2 Fq t2] lh Γ fun fr Γ=>.n K Γ fr m)):Bx (lj P cx (.dr id l K Γ fr m)):=by
 simp only [Bool.and_eq_true] at hB
 obtain ⟨⟨⟨⟨⟨b1,b2⟩,b3⟩,b4⟩,b5⟩,b6⟩:=hB
 rw [kv]
 intro B o ho r w ha ou
 obtain ⟨Z,F,hS,hG⟩:=ou
 have ny:d1≠d2:=fun hd=>by rw [hd,Nat.beq_refl] at b6; cases b6
 refine mg.W b1 (Hw.start (S:=an [] { w with drawn:=w.drawn+1 }) ?_)
 have BB:an [] w { w with drawn:=w.drawn+1 }:=an.drew _ _
 have vQ:∀ w',an [] { w with drawn:=w.drawn+1 } w'→SA Z w' Γ [] F:=fun w' hC=>(hS.gw BB).gw hC
 rw [show l.length=qs.length+4 from Nat.eq_of_beq_eq_true b5] at b4 ⊢
 subst hq
 refine Hw.UM (K:=fun r'=>cw r' lh) b2 b3 (fun c r w h=>sw c h) (an.refl _ _) (fun L r' hc fq=>?_) qs _ r b4 (QA.sound (fun w' hC=>⟨[],F,vQ w' hC⟩) h2 r ha)
 refine tree b2 vQ B1 B2 ny e1 e2 e3 e4 (fun c1 c2 r2 w2 k1 k2 k3 hC ha2 p1 p2 r1 rr2=>?_) hc (an.refl _ _) fq
 have tv:an [] w w2:=BB.trans hC
 replace k1:w.heap.size≤c1:=k1
 replace k2:w.heap.size≤c2:=k2
 have wF:HL Z w2 [.row c1 Fm t1,.row c2 Fq t2] ([c1]++([c2]++[])):=.own (f:=[c1]) ⟨rfl,r1⟩ (.own (f:=[c2]) ⟨rfl,rr2⟩ .nil)
 obtain ⟨F3,q1,q2⟩:=HL.build wF (vQ w2 hC)
 have bj:∀ b∈F,b < w.heap.size:=fun b hb=>hS.lt b hb
 have jg:Gd B Z (([c1]++([c2]++[]))++F) w2:=by
  refine ⟨?_,?_,fun b hb=>Nat.lt_of_lt_of_le (hG.na b hb) tv.size,?_,hG.tU,hG.tA,hG.jc.then tv fun i hi=>nomatch hi⟩
  ·refine List.nodup_append.2 ⟨by simpa using k3,hG.nd,fun a MK b hb va=>?_⟩
   have:=bj b hb
   rcases List.mem_cons.1 MK with rfl | MK
   ·omega
   ·have:a=c2:=by simpa using MK
    omega
  ·intro b hb hz
   rcases List.mem_append.1 hb with hb | hb
   ·have:=hG.na b hz
    rcases List.mem_cons.1 hb with rfl | hb
    ·omega
    ·have:b=c2:=by simpa using hb
     omega
   ·exact hG.apart b hb hz
  ·intro b hb
   have hz:=hG.jc.size
   rcases List.mem_append.1 hb with hb | hb
   ·rcases List.mem_cons.1 hb with rfl | hb
    ·exact .inr (by omega)
    ·have:b=c2:=by simpa using hb
     exact .inr (by omega)
   ·exact hG.low b hb
 refine (h c1 c2).sound B o ho r2 w2 ?_ ⟨Z,F3,q2,jg.perm q1⟩
 exact qa (g:=[(d1,.pointer (some ⟨c1,0,none⟩)),(d2,.pointer (some ⟨c2,0,none⟩))]) (fun p hp=>by
  rcases List.mem_cons.1 hp with rfl | hp
  ·exact p1
  ·rw [List.mem_singleton.1 hp]; exact p2) ha2
end
end Go.Dk
namespace Go.Dk
open Go Go.Li
def US (i:Nat) (o:Oper):Oper:=⟨o.dst,o.op,o.type,o.pos,o.after.push ⟨i,.data⟩,o.guard⟩
def uf (i:Nat):Nat→List Oper→List Oper
 | _,[]=>[]
 | 0,o :: l=>US i o :: l
 | j+1,o :: l=>o :: uf i j l
theorem EB (i:Nat):∀ (j:Nat) (l:LO),(uf i j l).length=l.length
 | _,[]=>by cases ‹Nat› <;> rfl
 | 0,_ :: _=>rfl
 | j+1,o :: l=>by unfold uf; rw [List.length_cons,List.length_cons,EB i j l]
theorem B7 (i:Nat):∀ (j:Nat) (l:LO) (k:Nat),(uf i j l)[k]? = (l[k]?).map fun o=>if k=j then US i o else o
 | 0,[],k=>by simp [uf]
 | j+1,[],k=>by simp [uf]
 | 0,o :: l,0=>by simp [uf]
 | 0,o :: l,k+1=>by simp [uf]
 | j+1,o :: l,0=>by simp [uf]
 | j+1,o :: l,k+1=>by
  unfold uf
  rw [List.getElem?_cons_succ,List.getElem?_cons_succ,B7 i j l k]
  simp
section
variable {P:Program} {l:LO} {Q:Exit→Act→World→Prop} {i j:Nat}
theorem I1 (tmps:Array Value):yielded (uf i j l).toArray tmps=yielded l.toArray tmps:=by
 funext k
 simp only [yielded]
 rw [List.getElem?_toArray,List.getElem?_toArray,B7]
 cases l[k]? with
 | none=>rfl
 | some o=>
  simp only [Option.map_some,Option.bind_some]
  by_cases h:k=j
  ·rw [if_pos h]; rfl
  ·rw [if_neg h]
theorem Hq {k:Nat} {K:Act→World→Prop} {a:Act} {w:World}:wpOp P (uf i j l).toArray Q k K a w=wpOp P l.toArray Q k K a w:=by
 unfold wpOp
 rw [I1,List.getElem?_toArray,List.getElem?_toArray,B7]
 cases l[k]? with
 | none=>rfl
 | some o=>
  simp only [Option.map_some]
  by_cases h:k=j
  ·rw [if_pos h]; rfl
  ·rw [if_neg h]
theorem Fu {L:Array Bool} (hL:L.getD i false=true):Region.ready .any (uf i j l).toArray L=Region.ready .any l.toArray L:=by
 unfold Region.ready
 rw [List.size_toArray,List.size_toArray,EB]
 refine List.filter_congr fun k _=>?_
 rw [List.getElem?_toArray,List.getElem?_toArray,B7]
 cases l[k]? with
 | none=>rfl
 | some o=>
  simp only [Option.map_some]
  by_cases h:k=j
  ·rw [if_pos h]
   simp only [US,Array.all_push,hL,Bool.or_true,Bool.and_true]
  ·rw [if_neg h]
theorem Fv:∀ (fuel:Nat) (L:Array Bool) (a:Act) (w:World),L.getD i false=true→wpAny P .any (uf i j l).toArray Q fuel L a w→wpAny P .any l.toArray Q fuel L a w
 | 0,L,a,w,hL,h=>by
  unfold wpAny at h ⊢
  rw [Fu hL] at h
  exact h
 | fuel+1,L,a,w,hL,h=>by
  unfold wpAny at h ⊢
  rw [Fu hL] at h
  refine ⟨h.1,fun k hk=>?_⟩
  have h2:=h.2 k hk
  rw [Hq] at h2
  exact wpOp_mono (fun a' w' h'=>Fv fuel _ a' w' (getD_set_true hL) h') h2
end
def UT:Oper→Bool
 | ⟨some _,.move _,_,_,_,none⟩=>true
 | _=>false
def KU:List (Nat×Nat)→List Oper→Bool
 | [],_=>true
 | (i,j) :: zs,l=>!(Nat.beq i j) && Nat.blt i l.length && UT (l.getD i default) && Region.noSelect l.toArray && Region.free .any l.toArray (Array.replicate l.length false) i && (Region.ready .any l.toArray (Array.replicate l.length false)).contains i && (Region.ready .any (uf i j l).toArray (Array.replicate l.length false)).contains i && KU zs (uf i j l)
def O1:List (Nat×Nat)→List Oper→List Oper
 | [],l=>l
 | (i,j) :: zs,l=>O1 zs (uf i j l)
section
variable {P:Program} {n:Nat} {Q:Exit→(Nat→Value)→World→Prop} {r:NV} {w w0:World}
theorem Sm {o:Oper} (h:UT o=true) (a:Act):o.guard=none∧∃ v,(∀ w,(execOp a.eval o).run P w = .ok (.value v) w)∧∀ w,¬ o.asks P a w:=by
 obtain ⟨d,op,ty,pos,af,g⟩:=o
 cases d <;> cases op <;> cases g <;> first | (cases h; done) | skip
 refine ⟨rfl,_,fun w=>rfl,fun w ha=>?_⟩
 have h1:=ha.1
 exact absurd (show noRoomEvent∈(#[]:Array _) from h1) (by simp)
theorem mg.aay {i j:Nat} {l:LO} (h1:(!(Nat.beq i j) && Nat.blt i l.length && UT (l.getD i default) && Region.noSelect l.toArray && Region.free .any l.toArray (Array.replicate l.length false) i && (Region.ready .any l.toArray (Array.replicate l.length false)).contains i && (Region.ready .any (uf i j l).toArray (Array.replicate l.length false)).contains i)=true)
  (hp:∀ c r w,¬ Q (.panic c) r w) (h:mg P n (uf i j l) Q r w):mg P n l Q r w:=by
 simp only [Bool.and_eq_true] at h1
 obtain ⟨⟨⟨⟨⟨⟨c1,c2⟩,c3⟩,c4⟩,c5⟩,c6⟩,c7⟩:=h1
 have ny:i≠j:=fun e=>by rw [e,Nat.beq_refl] at c1; cases c1
 have hi:=zf c2
 have bj:i < l.length:=Nat.lt_of_succ_le (Nat.le_of_ble_eq_true c2)
 intro a g1 g2 g3
 have H:=h a g1 g2 g3
 obtain ⟨hg,v,hv,hn⟩:=Sm (P:=P) c3 a
 rw [List.size_toArray,EB] at H
 rw [List.size_toArray]
 obtain ⟨f,hf⟩ : ∃ f,l.length=f+1:=⟨l.length - 1,by omega⟩
 have hw:Region.wanted (l.getD i default) (yielded l.toArray a.tmps)=true:=sm hg
 refine (congrArg (fun k=>wpAny P .any l.toArray _ k _ a _) hf).mpr ?_
 refine wpAny_take (by simpa using hi) c4 (by simpa using c5) (by simpa using c6) (fun c a w h=>(hp _ _ _ h.2.2).elim) (.inl ⟨hw,hv⟩) ?_
 refine Fv (i:=i) (j:=j) f _ _ _ ?_ ?_
 ·have:i < (Array.replicate l.length false).size:=by simpa using bj
  simp [Array.getD,bj]
 ·have H2:=(congrArg (fun k=>wpAny P .any (uf i j l).toArray (fun e a' w'=>a'.tmps.size=n∧a'.defers=[]∧Q e (cu a') w') k (Array.replicate l.length false) a { w with drawn:=w.drawn+1 }) hf).mp H
  have H3:=H2.2 i (by simpa using c7)
  rw [Hq] at H3
  unfold wpOp at H3
  rw [show (l.toArray)[i]? = some (l.getD i default) by simpa using hi] at H3
  simp only [] at H3
  rw [if_pos hw] at H3
  rcases H3 with H3 | H3
  ·unfold Oper.wp at H3
   rw [hv] at H3
   exact H3
  ·exact absurd H3.1 (hn _)
theorem mg.Re:∀ (zs:List (Nat×Nat)) {l:LO},KU zs l=true→(∀ c r w,¬ Q (.panic c) r w)→mg P n (O1 zs l) Q r w→mg P n l Q r w
 | [],_,_,_,h=>h
 | (i,j) :: zs,l,hc,hp,h=>by
  unfold KU at hc
  rw [Bool.and_eq_true] at hc
  exact mg.aay hc.1 hp (mg.Re zs hc.2 hp h)
theorem ML (k:Nat) {l:LO} (hd:de n l=true) (hp:((l.take k).all fun o=>xi o.op)=true) (hB:Region.lexTailB .any l.toArray k=true)
  (h:QL P (an [] w) l (l.take k) r fun r'=>∀ w',an [] w w'→WL P l (l.drop k) r' w' (Q .normal)):mg P n l Q r w:=by
 intro a h1 h2 h3
 have BA:an [] w { w with drawn:=w.drawn+1 }:=an.drew _ _
 have ou:wpStill P l.toArray { w with drawn:=w.drawn+1 } (fun a'=>wpList P l.toArray (fun e a' w'=>a'.tmps.size=n∧a'.defers=[]∧Q e (cu a') w') (l.drop k) a' { w with drawn:=w.drawn+1 }) (l.take k) a:=by
  refine QL.still (n:=n) (C:=an [] w) BA hd (l.take k) a (Aa hd fun o ho=>List.mem_of_mem_take ho) hp h1 h2 (by rw [h3]; exact h) _ ?_
  intro a' g1 g2 g3
  exact WL.list hd _ _ _ (Aa hd fun o ho=>List.mem_of_mem_drop ho) g1 g2 (g3 _ BA)
 unfold Region.lexTailB at hB
 simp only [Bool.and_eq_true,decide_eq_true_eq,List.size_toArray] at hB
 obtain ⟨⟨⟨⟨aaz,hn⟩,hs⟩,hc⟩,OT⟩:=hB
 have Rf:(l.take k).length=k:=by rw [List.length_take]; omega
 have aaA:HeadInv .any l.toArray k (Array.replicate l.length false):=
  ⟨by simp,fun j oj _ hl=>(by rw [getD_replicate_false] at hl; cases hl),fun t _ ht=>getD_in (by simpa using ht) (getD_replicate_false _ _)⟩
 have H:=wpAnyL_lex (md:=.any) (g:=l.length - k) aaz hs hc (by simpa using hn) (l.take k) 0 _ a (fun j hj=>by
  rw [Rf] at hj
  rw [List.getElem?_take_of_lt hj,Nat.zero_add,List.getElem?_toArray]) (by rw [Rf,Nat.zero_add]) aaA (by rw [Rf]; exact OT) ou
 have H2:=wpAny_of_head (Q':=fun e a' w'=>a'.tmps.size=n∧a'.defers=[]∧Q e (cu a') w') (g:=l.length - k) (fun L a' hL=>by
  have H3:=wpAny_of_seq (md:=.any) (Q':=fun e a' w'=>a'.tmps.size=n∧a'.defers=[]∧Q e (cu a') w') (l.drop k) k L a' { w with drawn:=w.drawn+1 } (fun j=>by rw [List.getElem?_drop,List.getElem?_toArray]) (by rw [List.length_drop]; exact hL.1) hL.2
  rwa [List.length_drop] at H3) _ _ _ H
 rw [Rf,show k+(l.length - k)=l.length by omega] at H2
 rw [List.size_toArray]
 exact H2
end
section
variable {R S:Type} {P:Program} {cx:Cx R} {K:dh R S}
theorem Rh {id:Nat} (zs:List (Nat×Nat)) (k:Nat) {l l' ops tl:LO} {Γ:QE} {fr:Fr} {m:Option (Out S R)} (hl:l'=O1 zs l) (hB:(P.follows .mixedOrders && KU zs l && de cx.n l' && ((l'.take k).all fun o=>xi o.op) && Region.lexTailB .any l'.toArray k)=true) (ho:ops=l'.take k) (ht:tl=l'.drop k)
  (h:D P cx (.o true l' ops (.h l' tl K) Γ fr m)):Bx (lj P cx (.dr id l K Γ fr m)):=by
 simp only [Bool.and_eq_true] at hB
 obtain ⟨⟨⟨⟨h1,h2⟩,h3⟩,h4⟩,h5⟩:=hB
 subst ho ht hl
 rw [kv]
 intro B o ho r w ha hs
 exact mg.W h1 (mg.Re zs h2 (fun c r w h=>sw c h) (ML k h3 h4 h5 (h.sound B o ho r w ha hs)))
end
end Go.Dk
namespace Go.Dk
open Go Go.Li
section
variable {B:Bs} {P:Program} {Z Z':Nat→Prop} {w:World} {Fd F1:LN}
theorem KV {f:FuncId} {ow:Bool} {vs:LV} {Δ:QE} {β V:Type} {mo:Option β} {rt:β→V→List Value} {ps:β→V→List aw} {y:β} (hc:QH P f ow vs Δ β V mo rt ps) (hl:HL Z' w Δ Fd) (bj:∀ b∈F1,b < w.heap.size) (ke:Gd B Z (Fd++F1) w)
  (hz:∀ b,Z b→Z' b) (GF:∀ b,Z' b→Z b∨b∈F1) (hm:∀ v,sd (ps y v)=true) (hy:mo=some y) :
  Calls P f vs.toArray w fun e w'=>∃ v F2,e = .returned (n9 (rt y v))∧an Fd w w'∧HL Z w' (ps y v) F2∧Gd B Z (F2++F1) w':=by
 have df:=List.nodup_append.1 ke.nd
 refine (hc.2 w Z' Fd hl df.1 (fun b hb TC=>(GF b TC).elim (ke.apart b (List.mem_append_left _ hb)) (fun h=>df.2.2 b hb b h rfl)) (fun b hb=>(GF b hb).elim (ke.na b) (bj b)) y hy).mono ?_
 rintro e w' ⟨v,he,Z2,F2,pj,jg⟩
 have hC:an Fd w w':=jg.jc
 refine ⟨v,F2,he,hC,xf (hm v) pj,?_⟩
 refine ⟨List.nodup_append.2 ⟨jg.nd,df.2.1,?_⟩,?_,fun b hb=>Nat.lt_of_lt_of_le (ke.na b hb) hC.size,?_,ke.tU,ke.tA,?_⟩
 ·rintro b hb c A5 rfl
  rcases jg.low b hb with h | h
  ·exact df.2.2 b h b A5 rfl
  ·exact absurd (bj b A5) (Nat.not_lt.2 h)
 ·intro b hb YX
  rcases List.mem_append.1 hb with hb | hb
  ·exact jg.apart b hb (jg.tU b (hz b YX))
  ·exact ke.apart b (List.mem_append_right _ hb) YX
 ·intro b hb
  rcases List.mem_append.1 hb with hb | hb
  ·rcases jg.low b hb with h | h
   ·exact ke.low b (List.mem_append_left _ h)
   ·exact .inr (Nat.le_trans ke.jc.size h)
  ·exact ke.low b (List.mem_append_right _ hb)
 ·exact ke.jc.then hC fun i hi=>ke.low i (List.mem_append_left _ hi)
end
section
variable {P:Program} {S:World→Prop}
theorem AL.mono {K K':(Nat→Value)→Prop} (hk:∀ r,K r→K' r):∀ {ops:LO} {r:NV},AL P S ops r K→AL P S ops r K'
 | [],_,h=>hk _ h
 | _ :: _,_,⟨hg,v,h1,h2⟩=>⟨hg,v,h1,AL.mono hk h2⟩
end
inductive QX {R S:Type} (P:Program) (cx:Cx R) (K:dh R S) (mh:LO) (rs:List (Nat×List Value×TypeId)) (pe:QE):List aw→List aw→List Oper→Fr→Option (Out S R)→Prop
 | pe {e:aw} {Δ Γ:QE} {ops:LO} {fr:Fr} {m:Option (Out S R)} (h:QX P cx K mh rs pe Δ (e :: Γ) ops fr m):QX P cx K mh rs pe (e :: Δ) Γ ops fr m
 | nil {Γ:QE} {fr:Fr} {m:Option (Out S R)} {sZ:List (Nat×List Value×TypeId)} (h:SQ P Γ fr mh rs sZ) (k:D P cx (.p [] pe fr Γ fun fr Γ=>.p [] (DI sZ) fr Γ fun fr Γ=>.n K Γ fr m)):QX P cx K mh rs pe [] Γ [] fr m
 | L8 {d n:Nat} {t ty:TI} {x:OO} {a:Addr} {ds:LV} {pos:String} {af:Array Edge} {ops:LO} {Γ:QE} {fr:Fr} {m:Option (Out S R)} [ht:LK P t (some n)] (hx:bq fr x=some (.pointer (some a))) (hw:bb Γ a n ds) (h:QX P cx K mh rs pe [] Γ ops ((d,.agg ds.toArray) :: fr) m) :
   QX P cx K mh rs pe [] Γ (⟨some d,.load t x,ty,pos,af,none⟩ :: ops) fr m
 | Gz {α V:Type} {d n:Nat} {x y:OO} {v:Value} {k:IntKind} {j:Int} {t ty:TI} {S':ah α} {cl:α→V→List Value} {en:α→V→List aw} {xs:List α} {pos:String} {af:Array Edge} {ops:LO} {Γ Γx:QE} {fr:Fr} {f:α→Option (Out S R)} [ht:Dm P t n] (hx:bq fr x=some v) (hy:bq fr y=some (.int k j))
   (hr:qy Γ v false false (iy S') xs tV Γx) (hs:E3 S' V cl en) (hn:S'.size=n) (h:∀ z u,QX P cx K mh rs pe (.au (dc v n j) (cl z u) :: en z u) Γ ops ((d,.pointer (some (dc v n j))) :: fr) (f z)) :
   QX P cx K mh rs pe [] Γ (⟨some d,.indexAddr t x y,ty,pos,af,none⟩ :: ops) fr (idx xs j>>=f)
 | lc {d:Nat} {t ty:TI} {x:OO} {a:Addr} {u:Value} {pos:String} {af:Array Edge} {ops:LO} {Γ:QE} {fr:Fr} {m:Option (Out S R)} [ht:LK P t none] (hx:bq fr x=some (.pointer (some a))) (hw:vf Γ a u) (h:QX P cx K mh rs pe [] Γ ops ((d,u) :: fr) m) :
   QX P cx K mh rs pe [] Γ (⟨some d,.load t x,ty,pos,af,none⟩ :: ops) fr m
 | val {d:Nat} {op:Op} {ty:TI} {u:Value} {pos:String} {af:Array Edge} {ops:LO} {Γ:QE} {fr:Fr} {m:Option (Out S R)} (hv:VQ P Γ fr op u) (h:QX P cx K mh rs pe [] Γ ops ((d,u) :: fr) m):QX P cx K mh rs pe [] Γ (⟨some d,op,ty,pos,af,none⟩ :: ops) fr m
section
variable {R S:Type} {P:Program} {cx:Cx R} {K:dh R S} {mh:LO} {rs:List (Nat×List Value×TypeId)} {pe:QE} {Z:Nat→Prop}
theorem QX.sound {w0:World} {H:LN} (hz:∀ b∈H,¬ Z b) {Δ Γ:QE} {ops:LO} {fr:Fr} {m:Option (Out S R)} (h:QX P cx K mh rs pe Δ Γ ops fr m):∀ {o:Out S R} {F:LN},m=some o→(∀ b∈H,b ∉ F)→SA Z w0 (Δ.reverse++Γ) [] F→∀ r,cw r fr→
  AL P (an H w0) ops r fun r'=>∃ Γ' lh sZ m' F',F'.Perm F∧m'=some o∧cw r' lh∧SA Z w0 Γ' [] F'∧SQ P Γ' lh mh rs sZ∧D P cx (.p [] pe lh Γ' fun fr Γ=>.p [] (DI sZ) fr Γ fun fr Γ=>.n K Γ fr m'):=by
 induction h with
 | @pe e Δ Γ ops fr m _ ih=>
  intro o F hm hF hS r ha
  refine ih hm hF ?_ r ha
  rw [List.reverse_cons,List.append_assoc] at hS
  exact hS
 | @nil Γ fr m sZ h k=>exact fun hm hF hS r ha=>⟨Γ,fr,sZ,m,_,.refl _,hm,ha,hS,h,k⟩
 | @val d op ty u pos af ops Γ fr m hv _ ih=>
  intro o F hm hF hS r ha
  refine ⟨rfl,u,fun w hC=>?_,ih hm hF hS _ (ay ha)⟩
  exact hv.sound ((SA.ee hC hz (fun _ _=>List.not_mem_nil) hF hS)) ha (some d) ty pos af none w (an.refl _ _)
 | @L8 d n t ty x a ds pos af ops Γ fr m ht hx hw _ ih=>
  intro o F hm hF hS r ha
  refine ⟨rfl,_,fun w hC=>?_,ih hm hF hS _ (ay ha)⟩
  obtain ⟨h1,h2⟩:=hw.sound (SA.ee hC hz (fun _ _=>List.not_mem_nil) hF hS)
  exact Lg ht.h h1 (bA ha hx) h2 w (an.refl _ _)
 | @lc d t ty x a u pos af ops Γ fr m ht hx hw _ ih=>
  intro o F hm hF hS r ha
  refine ⟨rfl,u,fun w hC=>?_,ih hm hF hS _ (ay ha)⟩
  exact Ld ht.h (hw.sound (SA.ee hC hz (fun _ _=>List.not_mem_nil) hF hS)) (bA ha hx) w (an.refl _ _)
 | @Gz α V d n x y v k j t ty S' cl en xs pos af ops Γ Γx fr f ht hx hy hr qz hn _ ih=>
  intro o F hm hF hS r ha
  replace qz:SO S' V cl en:=by cases qz; assumption
  obtain ⟨z,MN,hm⟩:=bind_some hm
  replace MN:=qk MN
  obtain ⟨e,i,h1,h2,h3⟩:=ht.h
  obtain ⟨du,_,⟨⟨f0,E7,u7⟩,_⟩,_⟩:=hr.sound hS
  have hZ:∀ b∈f0,Z b:=fun b hb=>(u7 b hb).elim id id
  obtain ⟨⟨a,c,hv⟩,bj,cs,f1,dy,Me,j4⟩:=vm E7 j MN.1 MN.2
  have uA:(iy S').size=n:=hn
  rw [uA] at j4
  obtain ⟨u,rfl,sS⟩:=qz.op dy.2
  have hblk:Z (dc v n j).block:=by
   obtain ⟨base,cap,nz,fq⟩:=E7
   rcases fq with ⟨rfl,_⟩ | ⟨b,off,cr,e',fz,f',rfl,_,rfl,_⟩
   ·simp at bj; omega
   ·obtain rfl:v = .slice (some ⟨b,off,none⟩) xs.length cap:=by simpa using nz
    have:(dc (.slice (some ⟨b,off,none⟩) xs.length cap) n j).block=b:=by unfold dc; rw [vK]
    rw [this]; exact hZ b (by simp)
  have GI:fact Z w0 [] (.au (dc v n j) (cl z u)):=⟨fun i u' hi=>j4 i u' hi,fun _=>hblk⟩
  have dw:HL Z w0 (.au (dc v n j) (cl z u) :: en z u) []:=.fact GI (vj (sS Z fun b hb=>hZ b (Me b hb)))
  obtain ⟨F',hp,fk⟩:=dw.build hS
  have YY:F'.Perm F:=by simpa using hp
  refine ⟨rfl,.pointer (some (dc v n j)),fun w hC=>?_,?_⟩
  ·rw [ll h1 h2 ((bA ha hx).trans hv) (bA ha hy) MN.1 (by omega),h3,hv]
   rfl
  ·have hq:=ih z u (F:=F') hm (fun b hb h=>hF b hb (YY.mem_iff.1 h)) fk _ (ay ha)
   refine AL.mono ?_ hq
   rintro r' ⟨Γ',lh,sZ,m',F3,q0,q1,q2,q3,q4,q5⟩
   exact ⟨Γ',lh,sZ,m',F3,q0.trans YY,q1,q2,q3,q4,q5⟩
end
inductive UU (P:Program) (f:FuncId):Prop
 | mk [h:bp P f]:UU P f
theorem FO.hl {Z:Nat→Prop} {w:World} {Δ:QE} (h:FO Δ):∀ {F:LN},HL Z w Δ F→F=[]:=by
 induction h with
 | nil=>intro F h; cases h; rfl
 | rd _ ih=>intro F h; cases h with | own h k=>exact h.elim | fact h k=>exact ih k
 | au _ ih=>intro F h; cases h with | own h k=>exact h.elim | fact h k=>exact ih k
def CY (l:LO) (nx:Array Bool→Bool):List Nat→Array Bool→Bool
 | [],L=>nx L
 | i :: qs,L=>Nat.blt i l.length && (Region.ready .any l.toArray L).contains i && Region.free .any l.toArray L i && CY l nx qs (L.setIfInBounds i true)
section
variable {P:Program} {n:Nat} {l:LO} {Q:Exit→(Nat→Value)→World→Prop} {S:World→Prop}
theorem Hw.MO {nx:Array Bool→Bool} {m:Nat} (hd:de n l=true) (hs:Region.noSelect l.toArray=true) (hp:∀ c r w,¬ Q (.panic c) r w) {w:World} (hS:S w) {K:(Nat→Value)→Prop} (h:∀ L r,nx L=true→K r→Hw P n l Q S m L r w) :
  ∀ (qs:LN) (L:Array Bool) (r:NV),CY l nx qs L=true→AL P S (pick l qs) r K→Hw P n l Q S (qs.length+m) L r w:=by
 intro qs
 induction qs with
 | nil=>intro L r hc hv; rw [List.length_nil,Nat.zero_add]; exact h L r hc hv
 | cons i qs ih=>
  intro L r hc hv
  unfold CY at hc
  simp only [Bool.and_eq_true] at hc
  obtain ⟨⟨⟨c1,c2⟩,c3⟩,c4⟩:=hc
  obtain ⟨hg,v,h1,h2⟩:=hv
  have:=Hw.take hd (zf c1) hs c3 c2 hp hg h1 hS (ih _ _ c4 h2)
  rwa [show qs.length+m+1=(i :: qs).length+m by simp; omega] at this
theorem Hw.X0 {k i:Nat} {L:Array Bool} {o:Oper} {r:NV} {w:World} (hd:de n l=true) (hi:l[i]? = some o) (hr:Region.ready .any l.toArray L=[i]) (hg:o.guard=none) (hy:fl P o r w fun v w'=>S w'∧Hw P n l Q S k (L.setIfInBounds i true) (ez r o.dst v) w'):Hw P n l Q S (k+1) L r w:=by
 intro a h1 h2 h3
 refine wpAnyH_all hr (by simp) fun j hj=>?_
 obtain rfl:j=i:=by simpa using hj
 unfold wpOp
 rw [show (l.toArray)[j]? = some o by simpa using hi]
 simp only []
 rw [if_pos (sm hg)]
 refine .inl (fl.wp (K:=fun v w'=>S w'∧Hw P n l Q S k (L.setIfInBounds j true) (ez r o.dst v) w') (by rw [h3]; exact hy) fun v w' hv=>⟨hv.1,hv.2 _ (by rw [js]; exact h1) (by rw [gp]; exact h2) (by rw [kp (By hd hi h1),h3])⟩)
end
section
variable {R S:Type} {P:Program} {cx:Cx R} {K:dh R S} {l:LO}
theorem aaB {id:Nat} (q1:LN) (c:Nat) (q2 ss:LN) (fz:QE) (e:TI) {xr DJ mh:LO} {d:Nat} {f:FuncId} {xs:List Operand} {au:Array TypeId} {ty:TI} {pos:String} {af:Array Edge} {Γ Γz Γa Γ1 Δ:QE} {b:Nat} {cs:LV} {fr Fw:Fr} {vs:LV} {rs:List (Nat×List Value×TypeId)} {β V:Type} {mo:Option β} {rt:β→V→List Value} {ps:β→V→List aw} {g:β→Option (Out S R)}
  (hB:(P.follows .mixedOrders && de cx.n l && Region.noSelect l.toArray && CY l (fun L=>mm l L [c] && CY l (fun L=>Bz l ss L) q2 (L.setIfInBounds c true)) q1 (Array.replicate l.length false) && Nat.beq l.length (q1.length+(q2.length+ss.length+1)))=true)
  (hz:EF Γ fz Γz) (UD:FO fz) (h0:dp Γz (.row b cs e) Γa) (hs:mh=pick l ss) (h3:RO fr mh Γa rs Γ1) (hq:xr=pick l q1) (h2:QA P Γ1 (.q xr fr) Fw)
  (hc:l[c]? = some ⟨some d,.call ⟨.value (.func f),xs.toArray,au⟩,ty,pos,af,none⟩) (hf:UU P f) (hx:tJ Fw xs=some vs) (uc:Ct P f true mo vs Δ rt ps) (h5:EO [.row b cs e] Δ []) (h6:ER true Γ1 Δ) (Cz:DJ=pick l q2)
  (k:∀ y v,QX P cx K mh rs (ps y v) [] Γ1 DJ ((d,n9 (rt y v)) :: Fw) (g y)):Bx (lj P cx (.dr id l K Γ fr (mo>>=g))):=by
 simp only [Bool.and_eq_true] at hB
 obtain ⟨⟨⟨⟨b1,b2⟩,b3⟩,b4⟩,b5⟩:=hB
 rw [kv]
 intro B o ho r w ha ou
 obtain ⟨y,hy,ho⟩:=bind_some ho
 obtain ⟨Z0,F0,uE,hG0⟩:=ou
 obtain ⟨Fd,Fz,Zn,yo,YZ,sT⟩:=hz.sound uE
 obtain rfl:=UD.hl yo
 rw [List.nil_append] at sT
 have Y0:Gd B (qc Z0 Zn) Fz w:=Gd.freeze (hG0.perm sT) fun x hx=>uE.lt x (sT.mem_iff.1 (List.mem_append_right _ hx))
 generalize qc Z0 Zn=Z at YZ Y0 yo
 obtain ⟨f0,Fa,hpa,⟨rfl,bh⟩,hSa⟩:=h0.sound YZ
 obtain ⟨F1,ry,hR,ew⟩:=h3.sound hSa
 have qb:([b]++(rs.map (·.1)++F1)).Perm Fz:=(ry.append_left [b]).trans hpa
 have hG:=Y0.perm qb
 have df:=List.nodup_append.1 hG.nd
 have UW:=List.nodup_append.1 df.2.1
 have BB:an [] w { w with drawn:=w.drawn+1 }:=an.drew _ _
 have jh:Gd B Z ([b]++(rs.map (·.1)++F1)) { w with drawn:=w.drawn+1 }:=⟨hG.nd,hG.apart,hG.na,hG.low,hG.tU,hG.tA,hG.jc.trans (BB.mono fun _ h=>nomatch h)⟩
 have sL:=bh.gw BB
 have Hr:=ew.gw BB
 have Hm:Rows { w with drawn:=w.drawn+1 } rs:=fun p hp=>(hR p hp).gw BB
 refine mg.W b1 (Hw.start (S:=an ([b]++rs.map (·.1)) { w with drawn:=w.drawn+1 }) ?_)
 generalize { w with drawn:=w.drawn+1 } = w0 at jh sL Hr Hm
 have UX:∀ x∈[b]++rs.map (·.1),¬ Z x:=fun x hx=>hG.apart x (by rw [← List.append_assoc]; exact List.mem_append_left _ hx)
 have Y1:∀ x∈[b]++rs.map (·.1),x ∉ F1:=fun x hx hm=>by
  rcases List.mem_append.1 hx with hx | hx
  ·exact df.2.2 x hx x (List.mem_append_right _ hm) rfl
  ·exact UW.2.2 x hx x hm rfl
 have vQ:∀ {G:QE} {F:LN},F.Perm F1→SA Z w0 G [] F→∀ w',an ([b]++rs.map (·.1)) w0 w'→SA Z w' G [] F:=fun hp h w' hC=>h.ee hC UX (fun _ _=>List.not_mem_nil) fun x hx hm=>Y1 x hx (hp.mem_iff.1 hm)
 rw [show l.length=q1.length+(q2.length+ss.length+1) from Nat.eq_of_beq_eq_true b5] at b4 ⊢
 subst hq hs Cz
 refine Hw.MO (K:=fun r'=>cw r' Fw) b2 b3 (fun c r w h=>sw c h) (an.refl _ _) (fun L r' hL fq=>?_) q1 _ r b4 (QA.sound (fun w' hC=>⟨[],F1,vQ (.refl _) Hr w' hC⟩) h2 r ha)
 simp only [Bool.and_eq_true] at hL
 obtain ⟨fn, cc, f1, f2, f3⟩ : ∃ fn c, P.funcs[f]? = some fn ∧ fn.body = some c ∧ (fn.name == "runtime.NumGoroutine") = false := by cases hf with | mk => rename_i h; exact h.h
 refine Hw.X0 b2 hc (vR hL.1) rfl ?_
 unfold fl
 rw [CO f1 f2 f3,rh fq hx]
 rw [ra] at uc
 obtain ⟨Fd,F',k1,k2,k3⟩:=h5.sound (Z:=Z) (w:=w0) (F:=[b]) (by have:=(HL.own (Z:=Z) (w:=w0) (f:=[b]) (e:=.row b cs e) ⟨rfl,sL⟩ .nil).front (Γ:=[]) (F:=[]) rfl; simpa using this)
 have Bd:F'=[]:=by cases k2; rfl
 subst Bd
 rw [List.append_nil] at k3
 have ke:Gd B Z (Fd++(rs.map (·.1)++F1)) w0:=jh.perm (k3.append_right _)
 have wF:HL (fun x=>Z x∨x∈F1) w0 Δ Fd:=h6.sound (fun _ h=>.inl h) (fun _ _ h=>.inr h) Hr k1
 refine (KV uc wF (F1:=rs.map (·.1)++F1) (fun x hx=>?_) ke (fun _ h=>.inl h) (fun x hx=>hx.imp (fun h=>h) fun h=>List.mem_append_right _ h) (uc.1 rfl y) hy).mono ?_
 ·rcases List.mem_append.1 hx with hx | hx
  ·obtain ⟨p,hp,rfl⟩:=List.mem_map.1 hx
   exact (Hm p hp).lt
  ·exact Hr.lt x hx
 rintro e' w2 ⟨v,F2,he,tv,hps,vO⟩
 have hFd:Fd=[b]:=List.perm_singleton.1 k3
 subst hFd
 have KW:an ([b]++rs.map (·.1)) w0 w2:=tv.mono fun x hx=>List.mem_append_left _ hx
 refine ⟨_,he,KW,?_⟩
 have hR2:Rows w2 rs:=fun p hp=>(Hm p hp).ee tv fun hb=>df.2.2 b (by simp) p.1 (List.mem_append_left _ (List.mem_map_of_mem (f:=fun q=>q.1) hp)) (List.mem_singleton.1 hb).symm
 refine Hw.MO b2 b3 (fun c r w h=>sw c h) KW (fun L2 r2 Mu JK=>?_) q2 _ _ hL.2 (QX.sound UX (k y v) ho Y1 Hr _ (ay fq))
 obtain ⟨Γ',lh,sZ,m',F3,p0,p1,p2,p3,p4,p5⟩:=JK
 refine SQ.sound b2 p2 (fun w' hC=>vQ p0 p3 w' hC) p4 ss L2 w2 rfl Mu KW hR2 UW.1 (fun x hx=>List.mem_append_right _ hx) fun w3 Ft hR3=>?_
 have aaC:=List.nodup_append.1 vO.nd
 have aaD:HL Z w3 (ps y v) F2:=hps.QU Ft (fun x hx=>UX x (List.mem_append_right _ hx)) fun x hx hm=>aaC.2.2 x hx x (List.mem_append_left _ hm) rfl
 have aaE:an ([b]++rs.map (·.1)) w0 w3:=KW.trans (Ft.mono fun x hx=>List.mem_append_right _ hx)
 obtain ⟨Fa1,s1,s2⟩:=aaD.build (vQ p0 p3 w3 aaE)
 obtain ⟨Fa2,s3,s4⟩:=(CW hR3).build s2
 rw [p4.fst] at s3
 have jg:Gd B Z (F2++(rs.map (·.1)++F1)) w3:=⟨vO.nd,vO.apart,fun x hx=>Nat.lt_of_lt_of_le (vO.na x hx) Ft.size,vO.low,vO.tU,vO.tA,vO.jc.then Ft fun x hx=>vO.low x (List.mem_append_right _ (List.mem_append_left _ hx))⟩
 refine p5.sound B o p1 r2 w3 (by simpa using p2) ⟨Z,Fa2,s4,jg.perm ?_⟩
 refine s3.trans ((s1.append_left _).trans ?_)
 refine ((p0.append_left F2).append_left (rs.map (·.1))).trans ?_
 rw [← List.append_assoc,← List.append_assoc]
 exact List.perm_append_comm.append_right F1
theorem X1 {id:Nat} (q1:LN) (c:Nat) (q2 ss:LN) (tz:Nat) {α:Type} (E:ah α) (e:TI) {zv:Value} {zx:List α} {xr DJ mh:LO} {d:Nat} {f:FuncId} {xs:List Operand} {au:Array TypeId} {ty:TI} {pos:String} {af:Array Edge} {Γ Γz Γa Γ1 Δ:QE} {b:Nat} {cs:LV} {fr Fw:Fr} {vs:LV} {rs:List (Nat×List Value×TypeId)} {β V:Type} {mo:Option β} {rt:β→V→List Value} {ps:β→V→List aw} {g:β→Option (Out S R)}
  (hB:(P.follows .mixedOrders && de cx.n l && Region.noSelect l.toArray && CY l (fun L=>mm l L [c] && CY l (fun L=>Bz l ss L) q2 (L.setIfInBounds c true)) q1 (Array.replicate l.length false) && Nat.beq l.length (q1.length+(q2.length+ss.length+1)))=true)
  (_hzv:look fr tz=some zv) (hz:EF Γ [.rd false (aB E) zv zx] Γz) (h0:dp Γz (.row b cs e) Γa) (hs:mh=pick l ss) (h3:RO fr mh Γa rs Γ1) (hq:xr=pick l q1) (h2:QA P Γ1 (.q xr fr) Fw)
  (hc:l[c]? = some ⟨some d,.call ⟨.value (.func f),xs.toArray,au⟩,ty,pos,af,none⟩) (hf:UU P f) (hx:tJ Fw xs=some vs) (uc:Ct P f true mo vs Δ rt ps) (h5:EO [.row b cs e] Δ []) (h6:ER true Γ1 Δ) (Cz:DJ=pick l q2)
  (k:∀ y v,QX P cx K mh rs (ps y v) [] Γ1 DJ ((d,n9 (rt y v)) :: Fw) (g y)):Bx (lj P cx (.dr id l K Γ fr (mo>>=g))):=
 aaB (id:=id) q1 c q2 ss [.rd false (aB E) zv zx] e hB hz (.rd .nil) h0 hs h3 hq h2 hc hf hx uc h5 h6 Cz k
end
theorem St.aaF {α:Type} {E:ah α} {T:ah (List α)} {v:Value} {x:List α} {B:Bs} {Γ Γ1:QE} {w:World} (h1:dp Γ (.own T v x) Γ1) (hr:RT T (aB E)) (hs:St B Γ w):St B (.rd false (aB E) v x :: Γ1) w:=by
 obtain ⟨Z,F,hS,hG⟩:=hs
 obtain ⟨f,F',hp,_,fk⟩:=(Dl.own (E:=E) h1 hr).sound hS
 have nr:(F'++f).Perm F:=List.perm_append_comm.trans hp
 exact ⟨_,F',fk,Gd.freeze (hG.perm nr) fun b hb=>hS.lt b (hp.mem_iff.1 (List.mem_append_left _ hb))⟩
section
variable {R:Type} {P:Program} {cx:Cx R}
theorem aaG {M α β:Type} {d b:Nat} {s x:OO} {sv u:Value} {T:ah (List β)} {E1:ah β} {y:List β} {t e e' ty:TI} {E:ah α} {bt:Nat} {all l:LO} {rk:RK R M} {Γ Γ1:QE} {fr:Fr} {m:Option M} (h1:dp Γ (.own T u y) Γ1) (hr:RT T (aB E1))
  (h:D P cx (.LW false e' E e t bt u b sv s x d ty all l rk (.rd false (aB E1) u y :: Γ1) fr m)):D P cx (.ap (aL e' E) e t bt u b sv s x d ty all l rk Γ fr m):=by
 refine D.of ?_
 intro q1 q2 q3 B o ho r w ha hs
 exact h.sound q1 q2 q3 B o ho r w ha (St.aaF h1 hr hs)
end
end Go.Dk
namespace Go.Li
open Go
section
variable {P:Program} {n:Nat} {Q:Exit→(Nat→Value)→World→Prop} {r:NV} {w:World} {R:Type}
theorem Sn {c:Code} (hg:∀ l r w,¬ Q (.goto l) r w) (h:W P n c Q r w):W P n (.scope c) Q r w:=by
 intro a h1 h2 h3
 refine wp_scope_straight (wp_mono (h a h1 h2 h3) ?_)
 rintro e a' w' ⟨g1,g2,g3⟩
 cases e
 case goto l=>exact hg _ _ _ g3
 all_goals exact ⟨g1,g2,g3⟩
theorem Sp {l:Nat} (h:Q .normal r w):W P n (.label l) Q r w:=fun a h1 h2 h3=>wp_label ⟨h1,h2,by rw [h3]; exact h⟩
end
end Go.Li
namespace Go.Dk
open Go Go.Li
section
variable {R:Type} {P:Program} {cx:Cx R} {S:Type}
theorem KX {B:Bs} {b:Kb R S} {o:Out S R} {l:Nat} {r:NV} {w:World} : ¬ Gc P cx B b o (.goto l) r w:=by
 cases b <;> cases o <;> exact fun h=>h
theorem KY {n l:Nat} {Q:Exit→(Nat→Value)→World→Prop} {r:NV} {w:World} (h : ¬ Q (.goto l) r w):∀ fu,¬ zL P n Q fu (.goto l) r w:=by
 intro fu
 induction fu with
 | nil=>exact h
 | cons a fu ih=>cases a <;> exact ih
theorem UY {K:dh R S} {c:Code} {b e:Nat} {cs:LV} {Γ Γ1:QE} {fr:Fr} {m:Option (Out S R)} (h1:dp Γ (.row b cs e) Γ1) (h:D P cx (.c K c (.au ⟨b,0,none⟩ cs :: Γ1) fr m)):D P cx (.c K c Γ fr m):=by
 refine D.of ?_
 intro B o ho r w ha hs
 refine h.sound B o ho r w ha ?_
 obtain ⟨Z,F,hS,hG⟩:=hs
 obtain ⟨f,F1,hp,⟨rfl,bh⟩,ew⟩:=h1.sound hS
 have u9:(F1++[b]).Perm F:=List.perm_append_comm.trans hp
 have ke:=Gd.freeze (hG.perm u9) fun c hc=>by rw [List.mem_singleton.1 hc]; exact bh.lt
 exact ⟨qc Z [b],F1,SA.fact (ew.mono (fun _ h=>.inl h) fun _ h=>h) ⟨bh.at,fun _=>.inr (by simp)⟩,ke⟩
theorem X2 {M:Type} {all l:LO} {rk:RK R M} {b e:Nat} {cs:LV} {Γ Γ1:QE} {fr:Fr} {m:Option M} (h1:dp Γ (.row b cs e) Γ1) (h:D P cx (.o false all l rk (.au ⟨b,0,none⟩ cs :: Γ1) fr m)):D P cx (.o false all l rk Γ fr m):=by
 refine D.of ?_
 intro B o ho r w ha hs
 refine h.sound B o ho r w ha ?_
 obtain ⟨Z,F,hS,hG⟩:=hs
 obtain ⟨f,F1,hp,⟨rfl,bh⟩,ew⟩:=h1.sound hS
 have u9:(F1++[b]).Perm F:=List.perm_append_comm.trans hp
 have ke:=Gd.freeze (hG.perm u9) fun c hc=>by rw [List.mem_singleton.1 hc]; exact bh.lt
 exact ⟨qc Z [b],F1,SA.fact (ew.mono (fun _ h=>.inl h) fun _ h=>h) ⟨bh.at,fun _=>.inr (by simp)⟩,ke⟩
theorem rgs {K:dh R S} {ops:LO} {Γ:QE} {fr:Fr} {m:Option (Out S R)} (h:D P cx (.rg false true ops K Γ fr m)):D P cx (.rg true true ops K Γ fr m):=D.of (show lj P cx _ from h.sound)
theorem MP {S1 V W A:Type} (k:Nat) (a0:A) (Δ:A→S1→V→W→List aw) (φ:A→S1→V→W→Fr) (v0:V) (w0:W) (f2:Fr) {fu:List KI} {kb:Kb R S} {c:Code} {s0:S1} {body:S1→Option (Out S1 R)} {f:S1→Option (Out S R)} {Γ Γ1 Γ2:QE} {fr:Fr}
  (ha:qx fr (φ a0 s0 v0 w0)) (hf:qx fr f2) (h0:EO Γ (Δ a0 s0 v0 w0) Γ1) (hn:OW Γ (Δ a0 s0 v0 w0)) (hs:jq Γ1 Γ2)
  (hb:∀ s v w,D P cx (.p (φ a0 s v w) (Δ a0 s v w) f2 Γ2 fun fr Γ=>.c ⟨[],.loop (V×W) k (fun s v=>Δ a0 s v.1 v.2) (fun s v=>φ a0 s v.1 v.2) Γ2 f2⟩ c Γ fr (body s)))
  (hk:∀ s v w,D P cx (.p (φ a0 s v w) (Δ a0 s v w) f2 Γ2 fun fr Γ=>.mn ⟨fu,kb⟩ Γ fr (f s))):Bx (lj P cx (.bk true k ⟨fu,kb⟩ (.loop c) Γ fr (ag (ae k (Li.ai body s0)) f))):=
 vB k (Δ a0) (φ a0) v0 w0 f2 ha hf h0 hn hs hb hk
theorem Y2 {K:dh R S} {c:Code} {Γ:QE} {fr:Fr} {m:Option (Out S R)} (h:D P cx (.c K c Γ fr m)):Bx (lj P cx (.c K (.scope c) Γ fr m)):=by
 rw [kv]
 exact fun B o ho r w ha hs=>Sn (fun l r w=>KY KX _) (h.sound B o ho r w ha hs)
theorem Y3 {K:dh R S} {l:Nat} {Γ:QE} {fr:Fr} {m:Option (Out S R)} (h:D P cx (.n K Γ fr m)):Bx (lj P cx (.c K (.label l) Γ fr m)):=by
 rw [kv]
 exact fun B o ho r w ha hs=>Sp (h.sound B o ho r w ha hs)
section
variable {S1 V:Type} {k j:Nat} {Δ:S1→V→List aw} {φ:S1→V→Fr} {Γ2 Γ Γ1 Γ3:QE} {f2 fr:Fr} {s:S1} {v:V} (hv:bn V v) (ha:qx fr (φ s v)) (hf:qx fr f2) (h0:EO Γ (Δ s v) Γ1) (hw:OW Γ (Δ s v)) (h1:EO Γ1 Γ2 Γ3) (h2:MF Γ none Γ2)
include hv ha hf h0 hw h1 h2
theorem Y4:Bx (lj P cx (.n ⟨[],.lx V k j Δ φ Γ2 f2⟩ Γ fr (some (.norm s)))):=by
 have _:=hv
 rw [kv]
 intro B o ho r w ot hs
 cases ho
 exact ⟨v,qa (ha.all ot) (hf.sound ot),hs.again h0 hw h1 h2⟩
theorem Y5:Bx (lj P cx (.x k ⟨[],.lx V k j Δ φ Γ2 f2⟩ Γ fr (some (.exit k s)))):=by
 have _:=hv
 rw [kv]
 intro B o ho r w ot hs
 cases ho
 refine ⟨rfl,?_⟩
 show (bif Nat.beq k k then _ else _)
 rw [show Nat.beq k k=true from Nat.beq_refl k]
 exact ⟨v,qa (ha.all ot) (hf.sound ot),hs.again h0 hw h1 h2⟩
theorem Y6 (hj:Nat.beq j k=false):Bx (lj P cx (.x j ⟨[],.lx V k j Δ φ Γ2 f2⟩ Γ fr (some (.exit j s)))):=by
 have _:=hv
 rw [kv]
 intro B o ho r w ot hs
 cases ho
 refine ⟨rfl,?_⟩
 show (bif Nat.beq j k then _ else bif Nat.beq j j then _ else _)
 rw [hj,show Nat.beq j j=true from Nat.beq_refl j]
 exact ⟨v,qa (ha.all ot) (hf.sound ot),hs.again h0 hw h1 h2⟩
end
theorem Ri {S1 V:Type} (k j:Nat) (Δ:S1→V→List aw) (φ:S1→V→Fr) (v0:V) (f2:Fr) {fu:List KI} {kb:Kb R S} {c:Code} {s0:S1} {body:S1→Option (Out S1 R)} {f g:S1→Option (Out S R)} {Γ Γ1 Γ2:QE} {fr:Fr}
   (hj:Nat.beq j k=false) (ha:qx fr (φ s0 v0)) (hf:qx fr f2) (h0:EO Γ (Δ s0 v0) Γ1) (hn:OW Γ (Δ s0 v0)) (hs:jq Γ1 Γ2)
   (hb:∀ s v,D P cx (.p (φ s v) (Δ s v) f2 Γ2 fun fr Γ=>.c ⟨[],.lx V k j Δ φ Γ2 f2⟩ c Γ fr (body s)))
   (hk:∀ s v,D P cx (.p (φ s v) (Δ s v) f2 Γ2 fun fr Γ=>.mn ⟨fu,kb⟩ Γ fr (f s)))
   (hg:∀ s v,D P cx (.p (φ s v) (Δ s v) f2 Γ2 fun fr Γ=>.x j ⟨fu,kb⟩ Γ fr (g s))):Bx (lj P cx (.bk true k ⟨fu,kb⟩ (.loop c) Γ fr (Fx k j (Li.ai body s0) f g))):=by
 rw [kv]
 intro B o ho r w ot ou
 cases hl:Li.ai body s0 with
 | none=>rw [hl] at ho; cases ho
 | some o1=>
  rw [hl] at ho
  refine uN (Hs (N:=LI B Δ φ Γ2 f2) (X:=fun i s r w=>bif Nat.beq i j then LI B Δ φ Γ2 f2 s r w else False) (T:=TT P cx B) (JL (LI B Δ φ Γ2 f2) (fun s r w ⟨v,h1,h2⟩ o ho=>(hb s v).sound B o ho r w h1 h2) hl ⟨v0,qa (ha.all ot) (hf.sound ot),ou.enter h0 hn hs⟩)) ?_
  intro e r' w' hq
  cases o1 with
  | norm s=>cases ho
  | ret z=>cases ho; cases e <;> first | exact hq.elim | exact vL hq
  | exit i s=>
   unfold Fx at ho
   dsimp only at ho
   unfold EC at hq
   dsimp only at hq
   cases hi:Nat.beq i k with
   | true=>
    rw [hi] at ho hq
    cases e <;> first | exact hq.elim | skip
    obtain ⟨v,h1,h2⟩:=hq
    exact (hk s v).sound B o ho r' w' h1 h2
   | false=>
    rw [hi] at ho hq
    cases sY:Nat.beq i j with
    | false=>rw [sY] at ho; cases ho
    | true=>
     rw [sY] at ho
     cases e with
     | exit i'=>
      obtain ⟨rfl,hq⟩:=hq
      rw [sY] at hq
      obtain ⟨v,h1,h2⟩:=hq
      obtain rfl:=Nat.eq_of_beq_eq_true sY
      exact (hg s v).sound B o ho r' w' h1 h2
     | _=>exact hq.elim
end
end Go.Dk
namespace Go.Dk
open Go Go.Li
theorem Sr {P:Program} {g:FuncId} {vs:LV} {Δ:QE} {β:Type} {m:Option β} {ow:Bool} {rt:β→Unit→List Value} (hc:Ct P g ow m vs Δ rt (fun _ _=>[])) {w:World} (hl:HL (fun b=>b < w.heap.size) w Δ []) {y:β} (hy:m=some y) :
  Calls P g vs.toArray w fun e w'=>e = .returned (n9 (rt y ()))∧an [] w w':=by
 rw [ra] at hc
 refine (hc.2 w _ [] hl List.nodup_nil (fun _ h=>absurd h List.not_mem_nil) (fun _ h=>h) y hy).mono ?_
 rintro e w' ⟨_,he,Z,F,_,hg⟩
 exact ⟨he,hg.jc⟩
theorem Ss {w:World} {α:Type} {T:ah α} {v:Value} {x:α} {f:LN} (h:T.rep w.heap [v] x f):fact (fun b=>b < w.heap.size) w [] (.rd false T v x):=⟨f,h,fun b hb=>T.lt h b hb⟩
end Go.Dk
