/- A region that draws its order: its head in any order, whatever it holds, its tail quiet and behind all of the head. No condition. -/
import Derived.Test.YtcnehblmgfbfoaaGreatDg
import Derived.Deep.Quiet
import Derived.Laws.Slices
import Derived.OrdersHeld
import Derived.Scope
namespace Go.Li
open Go
section
variable {P:Program} {n:Nat} {Q:Exit→(Nat→Value)→World→Prop} {r0:NV} {w0:World} {l:LO} {S:List ig}
def AK (l:LO) (m:Nat):Bool:=
 ((List.range l.length).all fun i=>((l.getD i default).after.toList.filter (Region.binds .any)).all fun e=>Nat.blt e.on i) &&
 ((List.range l.length).all fun i=>Nat.blt i m || (List.range m).all fun j=>((cf l).getD i []).contains j) &&
 Cc ((l.take m).filterMap (·.dst)) && Region.noSelect l.toArray && Region.lexFrom .any l.toArray (l.length - m) m (List.replicate m true++List.replicate (l.length - m) false).toArray
theorem Mh {m:Nat} (h:AK l m=true):∀ (i:Nat) (o:Oper),l[i]? = some o→∀ e∈o.after.toList.filter (Region.binds .any),e.on < i:=by
 simp only [AK,Bool.and_eq_true,List.all_eq_true,List.mem_range] at h
 intro i o ho e he
 have hi:i < l.length:=(List.getElem?_eq_some_iff.1 ho).1
 have:=h.1.1.1.1 i hi e (by rw [List.getD_eq_getElem?_getD,ho]; exact he)
 exact Nat.lt_of_succ_le (Nat.le_of_ble_eq_true this)
theorem Uf {m:Nat} {U:LL} {H:LN} {N:Nat→Prop} (hd:dh n l=true) (hA:AK l m=true) (Iz:m≤l.length)
  (hS:S.length=m)
  (hH:∀ b∈H,b < w0.heap.size) (hU:((List.range m).all fun i=>(U.getD i []).all fun u=>Nat.beq u l.length || ((cf l).getD i []).contains u)=true)
  (hN:∀ b,N b→b < w0.heap.size∧b ∉ H)
  (qx:∀ (i:Nat) (s:ig),S[i]? = some s→∀ f F (w w':World) (r r':NV) v,ak F w w'→(∀ b∈f,b ∉ F)→(∀ b∈F,¬ N b)→(∀ j∈(cf l).getD i [],∀ t,bj l j=some t→r' t=r t)→s.V f w r v→s.V f w' r' v)
  (QD:∀ i,i < m→iw P l m S U r0 w0 H i)
  (next:∀ g r w,xP l m S U r0 w0 H (fun j=>j < m) g r w→QL P (ak [] w) l (l.drop m) r fun r'=>∀ w',ak [] w w'→Q .normal r' w') :
  py P n l Q r0 w0:=by
 simp only [AK,Bool.and_eq_true,List.all_eq_true,List.mem_range,Bool.or_eq_true] at hA
 obtain ⟨⟨⟨⟨V6,V7⟩,V8⟩,Tc⟩,acv⟩:=hA
 have xh:∀ (i:Nat) (o:Oper),l[i]? = some o→∀ e∈o.after.toList.filter (Region.binds .any),e.on < i:=by
  intro i o ho e he
  have hi:i < l.length:=(List.getElem?_eq_some_iff.1 ho).1
  have:=V6 i hi e (by rw [List.getD_eq_getElem?_getD,ho]; exact he)
  exact Nat.lt_of_succ_le (Nat.le_of_ble_eq_true this)
 have Gk:∀ i,m≤i→i < l.length→∀ j,j < m→j∈(cf l).getD i []:=by
  intro i h1 h2 j hj
  rcases V7 i h2 with h | h
  ·exact absurd (Nat.lt_of_succ_le (Nat.le_of_ble_eq_true h)) (Nat.not_lt.2 h1)
  ·have:=h j hj
   simpa using this
 have V9:∀ i,i < m→∀ u∈U.getD i [],u=l.length∨u∈(cf l).getD i []:=by
  intro i hi u hu
  simp only [List.all_eq_true,List.mem_range] at hU
  have:=hU i hi u hu
  simpa using this
 have cp:=GW _ (zF V8)
 have qg:=Cd l xh
 intro a h1 h2 h3
 let Cl (L:Array Bool):Prop:=L.size=l.length∧∀ j o,l[j]? = some o→L.getD j false=true→∀ e∈o.after.toList.filter (Region.binds .any),L.getD e.on false=true
 have ji:∀ L,Cl L→∀ i j,(∀ o,l[i]? = some o→∀ e∈o.after.toList.filter (Region.binds .any),L.getD e.on false=true)→j∈(cf l).getD i []→L.getD j false=true:=by
  intro L hL i
  induction i using Nat.strongRecOn with
  | _ i ih=>
   intro j hi hj
   obtain ⟨_,o,ho,e,he,IG⟩:=qg i j hj
   have hl:=hi o ho e he
   rcases IG with rfl | IG
   ·exact hl
   ·exact ih e.on (xh i o ho e he) j (fun o' bm e' uM=>hL.2 _ _ bm hl e' uM) IG
 have Dv:∀ L i,i∈Region.ready .any l.toArray L→L.getD i true=false∧∃ o,l[i]? = some o∧∀ e∈o.after.toList.filter (Region.binds .any),L.getD e.on false=true:=by
  intro L i hi
  obtain ⟨g1,o,ho,fk⟩:=mem_ready.1 hi
  refine ⟨g1,o,by simpa using ho,fun e he=>?_⟩
  have:=List.mem_filter.1 he
  exact fk e (by simpa using this.1) this.2
 have EX:∀ L i o,L.size=l.length→l[i]? = some o→L.getD i false=false→(∀ e∈o.after.toList.filter (Region.binds .any),L.getD e.on false=true)→i∈Region.ready .any l.toArray L:=by
  intro L i o hs ho hu fk
  refine mem_ready.2 ⟨?_,o,by simpa using ho,fun e he hb=>fk e (List.mem_filter.2 ⟨by simpa using he,hb⟩)⟩
  have hi:i < L.size:=by rw [hs]; exact (List.getElem?_eq_some_iff.1 ho).1
  simp [hi] at hu ⊢; exact hu
 have Hy:∀ L i o,Cl L→l[i]? = some o→(∀ e∈o.after.toList.filter (Region.binds .any),L.getD e.on false=true)→Cl (L.setIfInBounds i true):=by
  intro L i o hL ho fk
  refine ⟨by rw [Array.size_setIfInBounds]; exact hL.1,fun j o' bm hj e he=>?_⟩
  by_cases q9:i=j
  ·subst q9
   have:o'=o:=Option.some.inj (bm.symm.trans ho)
   subst this
   exact getD_set_true (fk e he)
  ·rw [getD_set_ne false q9] at hj
   exact getD_set_true (hL.2 j o' bm hj e he)
 have getSet:∀ (L:Array Bool) i j,L.size=l.length→i < l.length→((L.setIfInBounds i true).getD j false=true↔j=i∨L.getD j false=true):=by
  intro L i j hs hi
  by_cases q9:i=j
  ·subst q9
   simp [hs,hi]
  ·rw [getD_set_ne false q9]
   constructor
   ·exact .inr
   ·rintro (h | h)
    ·exact absurd h.symm q9
    ·exact h
 have xR:∀ (L:Array Bool) i,L.size=l.length→i < l.length→L.getD i false=false→(L.setIfInBounds i true).toList.count false+1=L.toList.count false:=by
  intro L i hs hi hu
  have uB:i < L.toList.length:=by simpa [hs] using hi
  have BJ:L.toList[i]=false:=by
   rw [Array.getElem_toList]
   simp [hs,hi] at hu
   exact hu
  rw [Array.toList_setIfInBounds,List.count_set uB,BJ]
  have:0 < L.toList.count false:=List.count_pos_iff.2 (by rw [← BJ]; exact List.getElem_mem uB)
  rw [if_pos (by rfl),if_neg (by decide)]
  omega
 have fx:dh n (l.drop m)=true:=by
  simp only [dh,List.all_eq_true] at hd ⊢
  exact fun o ho=>hd o (List.mem_of_mem_drop ho)
 have tail:∀ (fuel:Nat) (L:Array Bool) (a:Act) (w:World),Cl L→(∀ j,L.getD j false=true↔j < m)→L.toList.count false=fuel→a.tmps.size=n→a.defers=[]→
   (QL P (ak [] w) l (l.drop m) (cu a) fun r'=>∀ w',ak [] w w'→Q .normal r' w')→wpAny P .any l.toArray (fun e a' w'=>a'.tmps.size=n∧a'.defers=[]∧Q e (cu a') w') fuel L a w:=by
  intro fuel L a w hL iv hf g1 g2 hq
  have hLe:L=(List.replicate m true++List.replicate (l.length - m) false).toArray:=by
   apply Array.ext
   ·simp [hL.1]; omega
   ·intro i hi hj
    have h1:=iv i
    simp only [Array.getD_eq_getD_getElem?,Array.getElem?_eq_getElem hi,Option.getD_some] at h1
    have e:(List.replicate m true++List.replicate (l.length - m) false).toArray[i]'hj=decide (i < m):=by
     simp only [List.getElem_toArray,List.getElem_append,List.getElem_replicate,List.length_replicate]
     split
     ·rename_i h; simp [h]
     ·rename_i h; simp [h]
    rw [e]
    cases hb:L[i] with
    | false=>exact (decide_eq_false fun h=>by have:=h1.2 h; rw [hb] at this; cases this).symm
    | true=>exact (decide_eq_true (h1.1 hb)).symm
  have Wd:fuel=l.length - m:=by
   rw [← hf,hLe]
   simp [List.count_append,List.count_replicate]
  have q1:=QL.wpQuiet (n:=n) (l:=l) (l.drop m) a hd fx g1 g2 hq
  have q2:=wpAnyQ_lex (md:=.any) Tc (l.drop m) m L a (fun j=>by simp [List.getElem?_drop]) (by rw [hLe,List.length_drop]; exact acv) q1
  refine wpAny_of_quiet (C:=ak [] w) (Q:=fun a'=>a'.tmps.size=n∧a'.defers=[]∧∀ w',ak [] w w'→Q .normal (cu a') w') (fun a' w' w9 hh=>⟨hh.1,hh.2.1,hh.2.2 w' w9⟩) _ _ _ _ (ak.refl _ _) ?_
  rw [Wd,← List.length_drop]
  exact q2
 have head:∀ (fuel:Nat) (L:Array Bool) (a:Act) (w:World) (g:Nat→List Nat),Cl L→(∀ j,L.getD j false=true→j < m)→L.toList.count false=fuel→a.tmps.size=n→a.defers=[]→
   xP l m S U r0 w0 H (fun j=>L.getD j false=true) g (cu a) w→wpAny P .any l.toArray (fun e a' w'=>a'.tmps.size=n∧a'.defers=[]∧Q e (cu a') w') fuel L a w:=by
  intro fuel
  induction fuel with
  | zero=>
   intro L a w g hL va hf g1 g2 inv
   have fk:∀ j,j < l.length→L.getD j false=true:=by
    intro j hj
    cases hb:L.getD j false with
    | true=>rfl
    | false=>have:=xR L j hL.1 hj hb; omega
   have iv:∀ j,L.getD j false=true↔j < m:=fun j=>⟨va j,fun h=>fk j (by omega)⟩
   refine tail 0 L a w hL iv hf g1 g2 (next g _ _ ?_)
   exact ⟨inv.jf,fun hk=>inv.Ce fun k xS=>hk k ((iv k).1 xS),inv.vg,fun j hj=>inv.vd j ((iv j).2 hj),fun j hj hk=>inv.done j ((iv j).2 hj) (fun k xS=>hk k ((iv k).1 xS)),fun j hj=>inv.tI j ((iv j).2 hj),inv.other,fun j hj b hb=>⟨(inv.fresh j ((iv j).2 hj) b hb).1.imp (fun h=>h) fun h=>⟨h.1,h.2.imp fun k hk=>⟨(iv k).1 hk.1,hk.2⟩⟩,(inv.fresh j ((iv j).2 hj) b hb).2⟩,fun i j hi hj=>inv.w8 i j ((iv i).2 hi) ((iv j).2 hj)⟩
  | succ fuel ih=>
   intro L a w g hL va hf g1 g2 inv
   by_cases fk:∀ j,j < m→L.getD j false=true
   ·have iv:∀ j,L.getD j false=true↔j < m:=fun j=>⟨va j,fk j⟩
    refine tail _ L a w hL iv hf g1 g2 (next g _ _ ?_)
    exact ⟨inv.jf,fun hk=>inv.Ce fun k xS=>hk k ((iv k).1 xS),inv.vg,fun j hj=>inv.vd j ((iv j).2 hj),fun j hj hk=>inv.done j ((iv j).2 hj) (fun k xS=>hk k ((iv k).1 xS)),fun j hj=>inv.tI j ((iv j).2 hj),inv.other,fun j hj b hb=>⟨(inv.fresh j ((iv j).2 hj) b hb).1.imp (fun h=>h) fun h=>⟨h.1,h.2.imp fun k hk=>⟨(iv k).1 hk.1,hk.2⟩⟩,(inv.fresh j ((iv j).2 hj) b hb).2⟩,fun i j hi hj=>inv.w8 i j ((iv i).2 hi) ((iv j).2 hj)⟩
   ·obtain ⟨j0,Td,Dw⟩ : ∃ j,j < m∧L.getD j false=false:=by
     apply Classical.byContradiction
     intro sP
     apply fk
     intro j hj
     cases hb:L.getD j false with
     | true=>rfl
     | false=>exact absurd ⟨j,hj,hb⟩ sP
    have Mi:∃ i,i∈Region.ready .any l.toArray L:=by
     have:∀ k,(∃ j,j < k∧j < m∧L.getD j false=false)→∃ i,i∈Region.ready .any l.toArray L:=by
      intro k
      induction k with
      | zero=>rintro ⟨j,h,_⟩; omega
      | succ k EA=>
       rintro ⟨j,Ol,Cf,su⟩
       by_cases xT:∃ j,j < k∧j < m∧L.getD j false=false
       ·exact EA xT
       ·obtain rfl:j=k:=by
         apply Classical.byContradiction
         intro h
         exact xT ⟨j,by omega,Cf,su⟩
        have Dx:j < l.length:=by omega
        refine ⟨j,EX L j l[j] hL.1 (List.getElem?_eq_getElem Dx) su fun e he=>?_⟩
        have bb:=xh j _ (List.getElem?_eq_getElem Dx) e he
        cases hb:L.getD e.on false with
        | true=>rfl
        | false=>exact absurd ⟨e.on,bb,by omega,hb⟩ xT
     exact this (j0+1) ⟨j0,by omega,Td,Dw⟩
    have main:∀ i oi,i < m→l[i]? = some oi→L.getD i false=false→(∀ e∈oi.after.toList.filter (Region.binds .any),L.getD e.on false=true)→
      (Region.wanted oi (yl l (cu a))=true∧fh P oi (cu a) w fun v w'=>wpAny P .any l.toArray (fun e a' w'=>a'.tmps.size=n∧a'.defers=[]∧Q e (cu a') w') fuel (L.setIfInBounds i true) (a.put oi.dst v) w')∨
      (Region.wanted oi (yl l (cu a))=false∧wpAny P .any l.toArray (fun e a' w'=>a'.tmps.size=n∧a'.defers=[]∧Q e (cu a') w') fuel (L.setIfInBounds i true) (a.put oi.dst undef) w):=by
     intro i oi vb po vc ve
     have gj:i < l.length:=(List.getElem?_eq_some_iff.1 po).1
     have nk:∀ o,l[i]? = some o→∀ e∈o.after.toList.filter (Region.binds .any),L.getD e.on false=true:=fun o' bm=>by
      have:o'=oi:=Option.some.inj (bm.symm.trans po)
      subst this; exact ve
     obtain ⟨s,hs⟩ : ∃ s,S[i]? = some s:=⟨S[i]'(by omega),List.getElem?_eq_getElem (by omega)⟩
     have hc:=xR L i hL.1 gj vc
     have uN:=Hy L i oi hL po ve
     have We:∀ j,(L.setIfInBounds i true).getD j false=true→j < m:=by
      intro j hj
      rcases (getSet L i j hL.1 gj).1 hj with rfl | hj
      ·exact vb
      ·exact va j hj
     have EY:∀ k,L.getD k false=true→k≠i∧i ∉ (cf l).getD k []:=by
      intro k hk
      refine ⟨fun h=>(by rw [h,vc] at hk; cases hk),fun xQ=>?_⟩
      have:=ji L hL k i (fun o' bm e' uM=>hL.2 k o' bm hk e' uM) xQ
      rw [vc] at this; cases this
     have ow:=QD i vb oi s po hs g (cu a) w inv.jf (fun hV=>by
       have sP:∀ k,L.getD k false=true→l.length ∉ U.getD k []:=fun k hk IH=>by
        simp only [AF,List.all_eq_true,List.mem_range,Bool.or_eq_true,Bool.not_eq_true',List.contains_eq_mem,decide_eq_false_iff_not,decide_eq_true_eq] at hV
        rcases hV k (va k hk) with (h | h) | h
        ·exact h IH
        ·exact (EY k hk).1 (Nat.eq_of_beq_eq_true h)
        ·exact (EY k hk).2 h
       have h0:=inv.Ce sP
       exact ⟨h0.1,h0.2,fun j hj b hb=>(inv.fresh j (ji L hL i j nk hj) b hb).1.elim (fun h=>h) fun h=>absurd h.2.choose_spec.2 (sP _ h.2.choose_spec.1)⟩) (fun j hj=>inv.tI j (ji L hL i j nk hj)) (fun j hj=>by
       simp only [ud,Bool.and_eq_true,List.all_eq_true,List.mem_range,Bool.or_eq_true,Bool.not_eq_true',List.contains_eq_mem,decide_eq_false_iff_not,decide_eq_true_eq] at hj
       refine inv.done j (ji L hL i j nk hj.1) fun k hk Ol=>?_
       rcases hj.2 k (va k hk) with (h | h) | h
       ·exact h Ol
       ·exact (EY k hk).1 (Nat.eq_of_beq_eq_true h)
       ·exact (EY k hk).2 h) inv.other
      (fun i' uB j' iu=>inv.w8 i' j' (ji L hL i i' nk uB) (ji L hL i j' nk iu))
      (fun j hj b hb=>⟨(inv.fresh j (ji L hL i j nk hj) b hb).1.imp (fun h=>h) (·.1),(inv.fresh j (ji L hL i j nk hj) b hb).2⟩)
     have hblk:∀ b∈jk g (U.getD i []),(∃ u,u∈U.getD i []∧L.getD u false=true∧b∈g u)∨(l.length∈U.getD i []∧b∈g l.length):=by
      intro b hb
      obtain ⟨u,hu,gv⟩:=List.mem_flatMap.1 hb
      rcases V9 i vb u hu with rfl | h
      ·exact .inr ⟨hu,gv⟩
      ·exact .inl ⟨u,hu,ji L hL i u nk h,gv⟩
     have GX:∀ k',oi.dst=some k'→k' < a.tmps.size:=by
      intro k' rX
      have xQ:oi∈l:=List.mem_of_getElem? po
      simp only [dh,List.all_eq_true] at hd
      have:=hd oi xQ
      rw [rX] at this
      rw [g1]
      exact Nat.lt_of_succ_le (Nat.le_of_ble_eq_true this)
     have zV:bj l i=oi.dst:=by unfold bj; rw [po]; rfl
     have ir:∀ v t,(oi.dst≠some t)→cu (a.put oi.dst v) t=cu a t:=by
      intro v t ht
      rw [js GX]
      cases xU:oi.dst with
      | none=>rfl
      | some d=>
       show (bif Nat.beq t d then v else cu a t)=cu a t
       cases hb:Nat.beq t d with
       | false=>rfl
       | true=>exact absurd (by rw [xU,Nat.eq_of_beq_eq_true hb]) ht
     have II:∀ v d,oi.dst=some d→cu (a.put oi.dst v) d=v:=by
      intro v d xU
      rw [js GX,xU]
      show (bif Nat.beq d d then v else cu a d)=v
      rw [Nat.beq_refl]; rfl
     have step:∀ v w' f,ak (jk g (U.getD i [])) w w'→(∀ b∈f,(b∈jk g (U.getD i [])∨w.heap.size≤b)∧b < w'.heap.size)→(if s.b then s.V f w' (cu a) v else v=undef)→
       wpAny P .any l.toArray (fun e a' w'=>a'.tmps.size=n∧a'.defers=[]∧Q e (cu a') w') fuel (L.setIfInBounds i true) (a.put oi.dst v) w':=by
      intro v w' f hC qw hV
      have tx:∀ j',j' < m→j'≠i→∀ t,bj l j'=some t→cu (a.put oi.dst v) t=cu a t:=by
       intro j' iu mc t ht
       refine ir v t fun h=>mc (cp j' i t ?_ ?_)
       ·rw [kz iu]; exact ht
       ·rw [kz vb,zV]; exact h
      have Om:∀ b∈jk g (U.getD i []),¬ N b:=fun b hb hn=>by
       rcases hblk b hb with ⟨u,_,o9,gv⟩ | ⟨_,gv⟩
       ·rcases (inv.fresh u o9 b gv).1 with h | h
        ·have:=(hN b hn).1; omega
        ·exact (hN b hn).2 h.1
       ·exact (hN b hn).2 (inv.vg b gv)
      refine ih _ _ _ (fun j=>if j=i then f else if j∈U.getD i [] then [] else g j) uN We (by omega) (by rw [iT]; exact g1) (by rw [fu]; exact g2)
       ⟨inv.jf.then hC fun b hb=>(by
        rcases hblk b hb with ⟨u,_,o9,gv⟩ | ⟨_,gv⟩
        ·exact (inv.fresh u o9 b gv).1.elim .inr fun h=>.inl h.1
        ·exact .inl (inv.vg b gv)),fun sP=>?_,?_,fun j hj=>?_,?_,fun j hj d sM sj r8=>?_,?_,?_,?_⟩
      ·have wu:l.length ∉ U.getD i []:=sP i ((getSet L i i hL.1 gj).2 (.inl rfl))
       have h0:=inv.Ce fun k hk=>sP k ((getSet L i k hL.1 gj).2 (.inr hk))
       refine ⟨h0.1.then hC fun b hb=>?_,?_⟩
       ·rcases hblk b hb with ⟨u,_,o9,gv⟩ | ⟨h,_⟩
        ·exact (inv.fresh u o9 b gv).1.elim .inr fun ⟨_,k,hk,IH⟩=>absurd IH (sP k ((getSet L i k hL.1 gj).2 (.inr hk)))
        ·exact absurd h wu
       ·show (if l.length=i then f else if l.length∈U.getD i [] then [] else g l.length)=H
        rw [if_neg (by omega),if_neg wu]
        exact h0.2
      ·intro b hb
       have cg:b∈(if l.length=i then f else if l.length∈U.getD i [] then [] else g l.length):=hb
       rw [if_neg (by omega)] at cg
       split at cg
       ·cases cg
       ·exact inv.vg b cg
      ·intro b hb hv
       have kh:b∈(if l.length=i then f else if l.length∈U.getD i [] then [] else g l.length):=hv
       rw [if_neg (by omega)] at kh
       split at kh
       ·cases kh
       ·rename_i Wh
        have cg:b∈(if j=i then f else if j∈U.getD i [] then [] else g j):=hb
        split at cg
        ·rcases (qw b cg).1 with h | h
         ·rcases hblk b h with ⟨u,_,o9,gv⟩ | ⟨h,_⟩
          ·exact inv.vd u o9 b gv kh
          ·exact Wh h
         ·have h1:=hH b (inv.vg b kh)
          have h2:=inv.jf.size
          omega
        ·rename_i lv
         split at cg
         ·cases cg
         ·exact inv.vd j (((getSet L i j hL.1 gj).1 hj).resolve_left lv) b cg kh
      ·intro j hj xV
       refine ⟨fun d sM=>?_,fun Wi sj r8 On=>?_⟩
       rotate_left
       ·by_cases lv:j=i
        ·subst lv
         rw [hs] at r8
         cases r8
         rw [if_pos On] at hV
         refine ⟨v,?_⟩
         simp only [if_pos]
         exact qx j s hs _ [] w' w' (cu a) _ v (ak.refl _ _) (fun _ _ h=>nomatch h) (fun _ h=>nomatch h) (fun j' iu t ht=>tx j' (by have:=(qg j j' iu).1; omega) (by have:=(qg j j' iu).1; omega) t ht) hV
        ·have nn:=((getSet L i j hL.1 gj).1 hj).resolve_left lv
         have su:j ∉ U.getD i []:=xV i ((getSet L i i hL.1 gj).2 (.inl rfl))
         obtain ⟨x,hx⟩:=(inv.done j nn (fun k hk=>xV k ((getSet L i k hL.1 gj).2 (.inr hk)))).2 Wi sj r8 On
         have fw:(fun j=>if j=i then f else if j∈U.getD i [] then [] else g j) j=g j:=by
          show (if j=i then f else if j∈U.getD i [] then [] else g j)=g j
          rw [if_neg lv,if_neg su]
         rw [fw]
         refine ⟨x,qx j sj r8 _ _ _ _ (cu a) _ _ hC (fun b cg IJ=>?_) Om (fun j' iu t ht=>tx j' (by have:=(qg j j' iu).1; have:=va j nn; omega) (fun h=>?_) t ht) hx⟩
         ·rcases hblk b IJ with ⟨u,Cg,o9,gv⟩ | ⟨_,gv⟩
          ·exact inv.w8 j u nn o9 (fun h=>su (h ▸ Cg)) b cg gv
          ·exact inv.vd j nn b cg gv
         ·subst h
          have:=ji L hL j j' (fun o' bm e' uM=>hL.2 j o' bm nn e' uM) iu
          rw [vc] at this; cases this
       by_cases lv:j=i
       ·subst lv
        rw [hs]
        simp only [if_pos]
        rw [zV] at sM
        rw [II v d sM]
        split
        ·rename_i hb
         rw [if_pos hb] at hV
         exact qx j s hs _ [] w' w' (cu a) _ v (ak.refl _ _) (fun _ _ h=>nomatch h) (fun _ h=>nomatch h) (fun j' iu t ht=>tx j' (by have:=(qg j j' iu).1; omega) (by have:=(qg j j' iu).1; omega) t ht) hV
        ·rename_i hb
         rw [if_neg hb] at hV
         exact hV
       ·have nn:=((getSet L i j hL.1 gj).1 hj).resolve_left lv
        have Cf:=va j nn
        have su:j ∉ U.getD i []:=xV i ((getSet L i i hL.1 gj).2 (.inl rfl))
        have xU:oi.dst≠some d:=by
         intro h
         apply lv
         refine cp j i d ?_ ?_
         ·rw [kz Cf]; exact sM
         ·rw [kz vb,zV]; exact h
        have:=(inv.done j nn (fun k hk=>xV k ((getSet L i k hL.1 gj).2 (.inr hk)))).1 d sM
        rw [ir v d xU]
        have fw:(fun j=>if j=i then f else if j∈U.getD i [] then [] else g j) j=g j:=by
         show (if j=i then f else if j∈U.getD i [] then [] else g j)=g j
         rw [if_neg lv,if_neg su]
        rw [fw]
        cases r8:S[j]? with
        | none=>trivial
        | some sj=>
         rw [r8] at this
         simp only [] at this ⊢
         split
         ·rename_i hb
          rw [if_pos hb] at this
          refine qx j sj r8 _ _ _ _ (cu a) _ _ hC (fun b cg IJ=>?_) Om (fun j' iu t ht=>tx j' (by have:=(qg j j' iu).1; omega) (fun h=>?_) t ht) this
          rotate_left
          ·subst h
           have:=ji L hL j j' (fun o' bm e' uM=>hL.2 j o' bm nn e' uM) iu
           rw [vc] at this; cases this
          rcases hblk b IJ with ⟨u,Cg,o9,gv⟩ | ⟨_,gv⟩
          ·exact inv.w8 j u nn o9 (fun h=>su (h ▸ Cg)) b cg gv
          ·exact inv.vd j nn b cg gv
         ·rename_i hb
          rw [if_neg hb] at this
          exact this
      ·by_cases lv:j=i
       ·subst lv
        rw [hs] at r8
        cases r8
        rw [zV] at sM
        rw [II v d sM]
        split
        ·rename_i hb
         rw [if_pos hb] at hV
         exact ⟨f,w',qx j s hs _ [] w' w' (cu a) _ v (ak.refl _ _) (fun _ _ h=>nomatch h) (fun _ h=>nomatch h) (fun j' iu t ht=>tx j' (by have:=(qg j j' iu).1; omega) (by have:=(qg j j' iu).1; omega) t ht) hV⟩
        ·rename_i hb
         rw [if_neg hb] at hV
         exact hV
       ·have nn:=((getSet L i j hL.1 gj).1 hj).resolve_left lv
        have Cf:=va j nn
        have xU:oi.dst≠some d:=by
         intro h
         apply lv
         refine cp j i d ?_ ?_
         ·rw [kz Cf]; exact sM
         ·rw [kz vb,zV]; exact h
        have:=inv.tI j nn d sM sj r8
        rw [ir v d xU]
        split
        ·rename_i hb
         rw [if_pos hb] at this
         obtain ⟨f1,w1,h1⟩:=this
         refine ⟨f1,w1,qx j sj r8 _ [] w1 w1 (cu a) _ _ (ak.refl _ _) (fun _ _ h=>nomatch h) (fun _ h=>nomatch h) (fun j' iu t ht=>tx j' (by have:=(qg j j' iu).1; omega) (fun h=>?_) t ht) h1⟩
         subst h
         have:=ji L hL j j' (fun o' bm e' uM=>hL.2 j o' bm nn e' uM) iu
         rw [vc] at this; cases this
        ·rename_i hb
         rw [if_neg hb] at this
         exact this
      ·intro t ht
       rw [ir v t (fun h=>ht i vb (by rw [zV]; exact h))]
       exact inv.other t ht
      ·intro j hj b hb
       by_cases lv:j=i
       ·simp only [if_pos lv] at hb
        have hh:=qw b hb
        have me:=inv.jf.size
        rcases hh.1 with h | h
        ·rcases hblk b h with ⟨u,_,o9,gv⟩ | ⟨hv,gv⟩
         ·exact ⟨(inv.fresh u o9 b gv).1.imp (fun h=>h) fun h=>⟨h.1,h.2.imp fun k hk=>⟨(getSet L i k hL.1 gj).2 (.inr hk.1),hk.2⟩⟩,hh.2⟩
         ·exact ⟨.inr ⟨inv.vg b gv,i,(getSet L i i hL.1 gj).2 (.inl rfl),hv⟩,hh.2⟩
        ·exact ⟨.inl (by omega),hh.2⟩
       ·have nn:=((getSet L i j hL.1 gj).1 hj).resolve_left lv
        simp only [if_neg lv] at hb
        split at hb
        ·cases hb
        ·have h1:=inv.fresh j nn b hb
         have h2:=hC.size
         exact ⟨h1.1.imp (fun h=>h) fun h=>⟨h.1,h.2.imp fun k hk=>⟨(getSet L i k hL.1 gj).2 (.inr hk.1),hk.2⟩⟩,by omega⟩
      ·have uh:∀ j',(L.setIfInBounds i true).getD j' false=true→j'≠i→∀ b∈f,b ∉ (if j'∈U.getD i [] then [] else g j'):=by
        intro j' iu e2 b hb cg
        have IK:=((getSet L i j' hL.1 gj).1 iu).resolve_left e2
        split at cg
        ·cases cg
        ·rename_i su
         rcases (qw b hb).1 with h | h
         ·rcases hblk b h with ⟨u,Cg,o9,gv⟩ | ⟨_,gv⟩
          ·exact inv.w8 u j' o9 IK (fun h=>su (h ▸ Cg)) b gv cg
          ·exact inv.vd j' IK b cg gv
         ·have:=inv.fresh j' IK b cg
          omega
       intro i' j' uB iu mc b hb cg
       by_cases e1:i'=i
       ·have e2:j'≠i:=fun h=>mc (e1.trans h.symm)
        simp only [if_pos e1] at hb
        simp only [if_neg e2] at cg
        exact uh j' iu e2 b hb cg
       ·simp only [if_neg e1] at hb
        by_cases e2:j'=i
        ·simp only [if_pos e2] at cg
         exact uh i' uB e1 b cg hb
        ·simp only [if_neg e2] at cg
         split at hb
         ·cases hb
         ·split at cg
          ·cases cg
          ·exact inv.w8 i' j' (((getSet L i i' hL.1 gj).1 uB).resolve_left e1) (((getSet L i j' hL.1 gj).1 iu).resolve_left e2) mc b hb cg
     cases hb:s.b with
     | true=>
      rw [if_pos hb] at ow
      refine .inl ⟨ow.1,nx ow.2 ?_⟩
      rintro v w' ⟨hC,f,qw,hV⟩
      exact step v w' f hC qw (by rw [if_pos hb]; exact hV)
     | false=>
      rw [if_neg (by rw [hb]; exact Bool.false_ne_true)] at ow
      exact .inr ⟨ow,step undef w [] (ak.refl _ _) (fun b h=>nomatch h) (by rw [if_neg (by rw [hb]; exact Bool.false_ne_true)])⟩
    refine ⟨fun h=>(by obtain ⟨i,hi⟩:=Mi; rw [h] at hi; cases hi),fun i hi=>?_⟩
    obtain ⟨q1,oi,po,ve⟩:=Dv L i hi
    have gj:i < l.length:=(List.getElem?_eq_some_iff.1 po).1
    have vc:L.getD i false=false:=getD_both q1
    have vb:i < m:=by
     rcases Nat.lt_or_ge i m with h | h
     ·exact h
     ·have hj:=Gk i h gj j0 Td
      have:=ji L hL i j0 (fun o' bm=>by have:o'=oi:=Option.some.inj (bm.symm.trans po); subst this; exact ve) hj
      rw [Dw] at this; cases this
    unfold wpOp
    rw [show (l.toArray)[i]? = some oi by simpa using po]
    simp only []
    rw [vX (by rw [g1]; exact hd)]
    rcases main i oi vb po vc ve with ⟨hw,h⟩ | ⟨hw,h⟩
    ·rw [if_pos hw]
     exact .inl (h.wp fun v w' hv=>hv)
    ·rw [if_neg (by rw [hw]; exact Bool.false_ne_true)]
     exact h
 refine head _ _ a _ (fun j=>if j=l.length then H else []) ⟨by simp,?_⟩ ?_ ?_ h1 h2 ⟨ak.nil (ak.drew _ _),fun _=>⟨ak.drew _ _,by simp⟩,fun b hb=>by simpa using hb,?_,?_,?_,?_,?_,?_⟩
 ·intro j o ho hj
  rw [getD_replicate_false] at hj; cases hj
 ·intro j hj
  rw [getD_replicate_false] at hj; cases hj
 ·simp
 ·intro j hj
  rw [getD_replicate_false] at hj; cases hj
 ·intro j hj
  rw [getD_replicate_false] at hj; cases hj
 ·intro j hj
  rw [getD_replicate_false] at hj; cases hj
 ·intro t _
  rw [h3]
 ·intro j hj
  rw [getD_replicate_false] at hj; cases hj
 ·intro i j hi
  rw [getD_replicate_false] at hi; cases hi
end
end Go.Li
namespace Go.Dk
open Go Go.Li
section
variable {R S:Type} {P:Program} {cx:Cx R} {K:ch R S} {l tail:LO} {base fr:Fr} {w:World} {Z:Nat→Prop}
theorem QF {mt id:Nat} {U:LL} {Of:QE} (hU:((List.range mt).all fun i=>(U.getD i []).all fun u=>Nat.beq u l.length || ((cf l).getD i []).contains u)=true) (hh:jz l mt base=true) (hd:dh cx.n l=true) (hA:AK l mt=true) (Iz:mt≤l.length) (ht:tail=l.drop mt) {i:Nat} {sl:LQ} {ms:MM} {Γ:QE} {m:Option (Out S R)} (Og:BY ms=true) (rY:DV U sl ms=true)
  (h:∀ x:ks ms,D P cx (.p (Ay sl (mF ms x)) (DU ms x) base Γ fun fr Γ=>.tg true (BT tail) l tail K Γ fr m)):L8 P cx K l l mt U Of id base (.a [] [] i sl ms Γ m):=by
 rintro ⟨_,h2,h3⟩ B o ho r0 w0 H Z ha hs ⟨S',hl,hR,hO⟩
 have hi:i=mt:=by
  have:=congrArg List.length h2
  simp at this
  omega
 subst hl
 obtain ⟨F,Hd,⟨r5,r6,ov,r7⟩,hS,hG⟩:=hs
 refine Uf (N:=Z) (S:=S') (U:=U) (H:=H) hd hA Iz hi ov hU (fun b hb=>⟨hG.nh b hb,fun h=>hG.apart b (List.mem_append_left _ h) hb⟩) (fun i s hs=>hR.s i s hs) (fun j hj=>hO j (by omega)) ?_
 intro g r w hI
 have L9:∀ k j,j∈U.getD k []→∀ a∈ms,a.j≠j:=by
  intro k j hj
  unfold DV at rY
  rw [Bool.and_eq_true] at rY
  rw [List.getD_eq_getElem?_getD] at hj
  cases hk:U[k]? with
  | none=>rw [hk] at hj; exact absurd hj List.not_mem_nil
  | some us=>
   rw [hk] at hj
   have h1:=List.all_eq_true.1 (List.all_eq_true.1 rY.1 us (List.mem_of_getElem? hk)) j hj
   intro a ha he
   have:=List.all_eq_true.1 h1 a ha
   rw [he,Nat.beq_refl] at this
   cases this
 have hD:∀ j,j < mt→(∀ k,j ∉ U.getD k [])→xI l S' j g r w:=fun j hj hn=>hI.done j hj fun k _=>hn k
 have bb:∀ a∈ms,a.j < mt:=fun a ha=>hi ▸ hR.lt ha
 obtain ⟨x,hx,tJ,VR⟩:=SZ (g:=g) (r:=r) (w:=w) Og hR.d (fun a ha b hb oy=>hI.w8 _ _ (bb a ha) (bb b hb) oy) fun a ha=>by
  have:=hR.vB (S2:=[]) ha (by rw [List.append_nil]; exact hD a.j (bb a ha) (fun k hk=>L9 k _ hk a ha rfl))
  exact this
 have ES:=List.nodup_append.1 hG.nd
 have ir:∀ b∈AI g ms,w0.heap.size≤b∨b∈H:=fun b hb=>by
  obtain ⟨a,h1,h2⟩:=DZ hb
  exact (hI.fresh a.j (bb a h1) b h2).1.imp (fun h=>h) (·.1)
 have ep:=mi.stay hS hG hI.jf
 obtain ⟨Vo,Vr,VS,VT,tJ⟩:=tJ
 obtain ⟨F',hp,ja⟩:=tJ.build (ep.mono (fun _ h=>.inl h) fun _ h=>h)
 have Iw:Gd B Z (AI g ms++F) w:=by
  refine ⟨uK VR ES.2.1 fun b hb hF=>(ir b hb).elim (fun h=>Nat.lt_irrefl _ (Nat.lt_of_lt_of_le (hS.lt b hF) h)) (fun h=>ES.2.2 b h b hF rfl),?_,fun b hb=>Nat.lt_of_lt_of_le (hG.nh b hb) hI.jf.size,?_,hG.wk,hG.vH,hG.jf.then hI.jf fun b hb=>hG.low b (List.mem_append_left _ hb)⟩
  ·intro b hb hz
   rcases List.mem_append.1 hb with hb | hb
   ·exact (ir b hb).elim (fun h=>Nat.lt_irrefl _ (Nat.lt_of_lt_of_le (hG.nh b hz) h)) (fun h=>hG.apart b (List.mem_append_left _ h) hz)
   ·exact hG.apart b (List.mem_append_right _ hb) hz
  ·intro b hb
   rcases List.mem_append.1 hb with hb | hb
   ·exact (ir b hb).elim (fun h=>.inr (Nat.le_trans hG.jf.size h)) (fun h=>hG.low b (List.mem_append_left _ h))
   ·exact hG.low b (List.mem_append_right _ hb)
 have Qw:cq r ((Ay sl (mF ms x)).reverse++base):=by
  refine uD (Iv (fun p hp=>?_) hx) (gx hh ha hI.other)
  exact hR.vC (S2:=[]) hp fun j _ hj=>(by rw [List.append_nil]; exact hI.tI j (hi ▸ hj))
 have:=(h x).sound B o ho r w Qw ⟨_,F',ja,((Iw.perm (KN VS)).freeze VT).perm hp⟩
 rw [ht] at this
 exact this
theorem Z8 {id:Nat} (hd:QE) (mt:Nat) (U as:LL) {ops:LO} {Γ Γ1:QE} {fr:Fr} {m:Option (Out S R)}
  (hB:(P.follows .mixedOrders && dh cx.n l && AK l mt && Nat.ble mt l.length && (nj l U mt == as) && ((List.range mt).all fun i=>(U.getD i []).all fun u=>Nat.beq u l.length || ((cf l).getD i []).contains u))=true)
  (ho:ops=l.take mt) (ht:tail=l.drop mt) (hf:Kp (Aq ops) none fr base) (hh:jz l mt base=true) (he:EO Γ hd Γ1) (IB:OW Γ hd)
  (h:AD true P cx K l tail base U hd (.a as ops 0 [] [] Γ1 m)):Bx (qa P cx (.dr id l K Γ fr m)):=by
 simp only [Bool.and_eq_true] at hB
 obtain ⟨⟨⟨⟨⟨b1,b2⟩,b3⟩,b5⟩,b6⟩,b7⟩:=hB
 rw [nb]
 intro B o hm r w ha hs
 obtain ⟨Z,F,hS,hG⟩:=hs
 obtain ⟨Fd,F',h1,h2,h3⟩:=he.sound hS
 have IC:SA Z w hd [] Fd:=by
  have:=(HO.hl IB hS h1).front (Γ:=[]) (F:=[]) rfl
  simpa using this
 have hX:mi B Z hd Γ1 Fd w:=⟨F',Fd,⟨IC,fun b hb=>⟨hb,IC.lt b hb⟩,IC.lt,(List.nodup_append.1 (hG.perm h3).nd).1⟩,h2,hG.perm h3⟩
 refine py.W b1 ?_
 refine AD.sound (id:=id) hh (fun _ _ _ _ _ _ hs he h=>QF b7 hh b2 b3 (Nat.le_of_ble_eq_true b5) ht hs he h) h
  ⟨by rw [List.drop_zero]; exact (eq_of_beq b6).symm,by rw [List.drop_zero]; exact ho,Nat.zero_le _⟩ B o hm r w Fd Z (hf.sound ha) hX ⟨[],rfl,⟨fun _ h=>absurd h List.not_mem_nil,fun _ h=>absurd h List.not_mem_nil,fun i s h=>by simp at h,List.nodup_nil,fun _ _ _ h1 h2=>ET l (Mh b3) h1 h2⟩,fun j hj=>absurd hj (Nat.not_lt_zero j)⟩
theorem Wj {id:Nat} (mt:Nat) (U as:LL) {ops:LO} {Γ:QE} {fr:Fr} {m:Option (Out S R)}
  (hB:(P.follows .mixedOrders && dh cx.n l && AK l mt && Nat.ble mt l.length && (nj l U mt == as) && ((List.range mt).all fun i=>(U.getD i []).all fun u=>Nat.beq u l.length || ((cf l).getD i []).contains u))=true)
  (ho:ops=l.take mt) (ht:tail=l.drop mt) (hf:Kp (Aq ops) none fr base) (hh:jz l mt base=true)
  (h:AD true P cx K l tail base U [] (.a as ops 0 [] [] Γ m)):Bx (qa P cx (.dr id l K Γ fr m)):=Z8 [] mt U as hB ho ht hf hh .nil .nil h
end
end Go.Dk
namespace Go.Dk
open Go Go.Li
def BS:Value→Option Nat
 | .slice (some a) _ _=>some a.block
 | _=>none
def NF {α:Type} (E:ah α):Prop:=∀ {h:Array Obj} {cs:LV} {x:α} {f:LN},E.rep h cs x f→f=[]
theorem NF.i {k:IntKind}:NF (aN k):=uG
theorem NF.l {α:Type} {E:ah α} (hE:NF E) {h:Array Obj}:∀ {xs:List α} {cs:LV} {f:LN},dm E h cs xs f→f=[]:=by
 intro xs
 induction xs with
 | nil=>rintro cs f ⟨_,rfl⟩; rfl
 | cons x xs ih=>
  rintro cs f ⟨c,lf,f1,f2,rfl,rfl,h1,h2⟩
  rw [hE h1,ih h2]; rfl
structure Good {α:Type} (A:Value→α→Prop) (f:LN):Prop where
 sub:∀ u y b,A u y→BS u=some b→b∈f
 one:∀ u y u' y' b,A u y→A u' y'→BS u=some b→BS u'=some b→y=y'
inductive BK {α:Type}:{β:Type}→ah β→((Value→List α→Prop)→ah β)→Prop
 | row {e:TI} {E:ah α}:BK (aJ e E) (fun A=>so A (aJ e E))
 | step {β:Type} {e:TI} {T:ah β} {T':(Value→List α→Prop)→ah β} (h:BK T T'):BK (aJ e T) (fun A=>aV (T' A))
section
variable {α β:Type} {T:ah β} {T':(Value→List α→Prop)→ah β} {A A':Value→List α→Prop} {f:LN} {hp:Array Obj}
theorem BK.size (h:BK T T'):(T' A).size=T.size:=by
 cases h <;> rfl
theorem BK.mono (h:BK T T') (hA:∀ u y,A u y→A' u y):Le (T' A) (T' A'):=by
 induction h with
 | row=>exact ⟨rfl,fun h=>⟨h.1.imp fun v g=>⟨g.1,hA _ _ g.2⟩,h.2⟩⟩
 | step _ ih=>exact ih.Ko
theorem BK.Z9 {e:TI} (ho:∀ {cs:LV} {x:β} {f:LN},T.rep hp cs x f→f.Nodup→∃ A,Good A f∧(T' A).rep hp cs x f) (hm:∀ {A A':Value→List α→Prop},(∀ u y,A u y→A' u y)→Le (T' A) (T' A')) :
  ∀ {xs:List β} {cs:LV} {f:LN},dm T hp cs xs f→f.Nodup→∃ A,Good A f∧dm (T' A) hp cs xs f:=by
 have _:=e
 intro xs
 induction xs with
 | nil=>rintro cs f ⟨rfl,rfl⟩ _; exact ⟨fun _ _=>False,⟨fun _ _ _ h=>h.elim,fun _ _ _ _ _ h=>h.elim⟩,rfl,rfl⟩
 | cons x xs ih=>
  rintro cs f ⟨c,lf,f1,f2,rfl,rfl,h1,h2⟩ hn
  obtain ⟨n1,n2,n3⟩:=List.nodup_append.1 hn
  obtain ⟨A1,g1,r1⟩:=ho h1 n1
  obtain ⟨A2,g2,r2⟩:=ih h2 n2
  refine ⟨fun u y=>A1 u y∨A2 u y,⟨fun u y b h hb=>?_,fun u y u' y' b h h' hb cg=>?_⟩,c,lf,f1,f2,rfl,rfl,(hm fun _ _=>.inl).le r1,vI (hm fun _ _=>.inr) r2⟩
  ·exact h.elim (fun h=>List.mem_append_left _ (g1.sub u y b h hb)) (fun h=>List.mem_append_right _ (g2.sub u y b h hb))
  ·rcases h with h | h <;> rcases h' with h' | h'
   ·exact g1.one u y u' y' b h h' hb cg
   ·exact absurd rfl (n3 b (g1.sub _ _ _ h hb) b (g2.sub _ _ _ h' cg))
   ·exact absurd rfl (n3 b (g1.sub _ _ _ h' cg) b (g2.sub _ _ _ h hb))
   ·exact g2.one u y u' y' b h h' hb cg
theorem BK.opened (h:BK T T'):∀ {cs:LV} {x:β} {f:LN},T.rep hp cs x f→f.Nodup→∃ A,Good A f∧(T' A).rep hp cs x f:=by
 induction h with
 | @row e E=>
  intro cs x f hr _
  obtain ⟨base,cap,rfl,eh⟩:=id hr
  refine ⟨fun u y=>u = .slice base x.length cap∧y=x,⟨?_,?_⟩,⟨_,rfl,rfl,rfl⟩,hr⟩
  ·rintro u y b ⟨rfl,rfl⟩ hb
   rcases eh with ⟨rfl,_⟩ | ⟨b0,cur,f',rfl,_,rfl,_⟩
   ·cases hb
   ·cases hb; exact List.mem_cons_self
  ·rintro u y u' y' b ⟨_,rfl⟩ ⟨_,rfl⟩ _ _; rfl
 | @step β e T T' ho ih=>
  intro cs x f hr hn
  obtain ⟨base,cap,rfl,eh⟩:=hr
  rcases eh with ⟨rfl,_,rfl,rfl⟩ | ⟨b,cur,f',rfl,hg,rfl,h3,h4,h5,h6⟩
  ·exact ⟨fun _ _=>False,⟨fun _ _ _ h=>h.elim,fun _ _ _ _ _ h=>h.elim⟩,none,cap,rfl,.inl ⟨rfl,rfl⟩⟩
  ·obtain ⟨A,g1,g2⟩:=BK.Z9 (e:=e) ih (fun hA=>ho.mono hA) h6 (List.nodup_cons.1 hn).2
   refine ⟨A,⟨fun u y b h hb=>List.mem_cons_of_mem _ (g1.sub u y b h hb),g1.one⟩,_,cap,rfl,.inr ⟨b,0,cur,e,(0,0),f',rfl,hg,rfl,h3,?_⟩⟩
   rw [List.drop_zero,ho.size]
   exact g2
end
section
variable {α:Type} {e e':TI} {E:ah α} {A:Value→List α→Prop} {ft f:LN} {hp:Array Obj}
theorem Mj (nf:NF E) (hA:Good A ft):∀ {ys:List (List α)} {us:LV} {g:LN},dm (so A (aJ e' E)) hp us ys g→ys.Nodup→
  dm (aJ e' E) hp us ys g∧g.Nodup∧∀ b∈g,b∈ft∧∃ u y,A u y∧BS u=some b∧y∈ys:=by
 intro ys
 induction ys with
 | nil=>rintro us g ⟨rfl,rfl⟩ _; exact ⟨⟨rfl,rfl⟩,List.nodup_nil,fun b hb=>absurd hb List.not_mem_nil⟩
 | cons y ys ih=>
  rintro us g ⟨c,lf,g1,g2,rfl,rfl,⟨⟨u,rfl,hu⟩,hr⟩,h2⟩ hn
  obtain ⟨n1,n2⟩:=List.nodup_cons.1 hn
  obtain ⟨a1,a2,a3⟩:=ih h2 n2
  refine ⟨⟨[u],lf,g1,g2,rfl,rfl,hr,a1⟩,?_,?_⟩
  ·obtain ⟨base,cap,hv,eh⟩:=hr
   obtain rfl:u = .slice base y.length cap:=by simpa using hv
   rcases eh with ⟨_,_,_,rfl⟩ | ⟨b,cur,f',rfl,_,rfl,_,_,_,h6⟩
   ·exact a2
   ·rw [nf.l h6]
    refine List.nodup_cons.2 ⟨fun hb=>?_,a2⟩
    obtain ⟨_,u',y',h7,h8,h9⟩:=a3 b hb
    rw [hA.one _ _ _ _ b hu h7 rfl h8] at n1
    exact n1 h9
  ·intro b hb
   rcases List.mem_append.1 hb with hb | hb
   ·obtain ⟨base,cap,hv,eh⟩:=hr
    obtain rfl:u = .slice base y.length cap:=by simpa using hv
    rcases eh with ⟨_,_,_,rfl⟩ | ⟨b0,cur,f',rfl,_,rfl,_,_,_,h6⟩
    ·cases hb
    ·rw [nf.l h6,List.mem_singleton] at hb
     subst hb
     exact ⟨hA.sub _ _ _ hu rfl,_,y,hu,rfl,by simp⟩
   ·obtain ⟨b1,u',y',b2,b3,b4⟩:=a3 b hb
    exact ⟨b1,u',y',b2,b3,by simp [b4]⟩
theorem Oo {Z:Nat→Prop} {w:World} {v:Value} {ys:List (List α)} (nf:NF E) (hA:Good A ft) (ho:pw Z w f (.om e (so A (aJ e' E)) v ys)) (hn:ys.Nodup) (hf:f.Nodup) (hz:∀ b∈f,¬ Z b) :
  ∃ g,(∀ b∈g,b∈ft)∧(aJ e (aJ e' E)).rep w.heap [v] ys (f++g)∧(f++g).Nodup:=by
 obtain ⟨us,g,h1,h2,h3,_⟩:=ho
 obtain ⟨a1,a2,a3⟩:=Mj nf hA h2 hn
 have hl:us.length=ys.length:=by have:=jq a1; rw [this]; exact Nat.mul_one _
 refine ⟨g,fun b hb=>(a3 b hb).1,?_,List.nodup_append.2 ⟨hf,a2,fun b hb c hc=>fun e=>hz b hb (h3 b (e ▸ hc))⟩⟩
 obtain ⟨base,cap,hv,hr⟩:=h1
 obtain rfl:v = .slice base us.length cap:=by simpa using hv
 rw [hl]
 rcases hr with ⟨rfl,rfl,rfl,rfl⟩ | ⟨b,cur,f',rfl,hg,rfl,c1,c2,c3,c4⟩
 ·cases ys with
  | cons y ys=>simp at hl
  | nil=>obtain ⟨_,rfl⟩:=a1; exact ⟨none,0,rfl,.inl ⟨rfl,rfl,rfl,rfl⟩⟩
 ·obtain ⟨c5,rfl⟩:=Ao c4
  refine ⟨_,cap,rfl,.inr ⟨b,cur,g,rfl,hg,rfl,by rw [← hl]; exact c1,c2,c3,?_⟩⟩
  have e1:(aJ e' E).size=se.size:=rfl
  rw [e1,← hl,c5]
  exact a1
end
section
variable {P:Program} {R:Type} {cx:Cx R}
theorem af {S S1 α β:Type} [DecidableEq (List α)] (k t0:Nat) (φ:S1→Value→Fr) (KT:S1→List (List α)) (v0:Value) (f2:Fr) {e e':TI} {E:ah α} {T:ah β} {T':(Value→List α→Prop)→ah β} {vs:Value} {x:β} {iz:List KI} {kb:Kb R S} {c:Code} {s0:S1} {body:S1→Option (Out S1 R)} {f:S1→Option (Out S R)} {Γ Γ1 Γ2:QE} {fr:Fr}
  (ho:BK T T') (nf:NF E) (ha:qm fr (φ s0 v0)) (hf:qm fr f2) (hz:KT s0=[]) (hv:look fr t0=some vs) (h1:bz Γ (.own T vs x) Γ1) (h2:∀ A:Value→List α→Prop,bz Γ1 (.om e (so A (aJ e' E)) v0 []) Γ2)
  (hb:∀ (A:Value→List α→Prop) s v,D P cx (.p (φ s v) [.om e (so A (aJ e' E)) v (KT s)] f2 [.rd false (T' A) vs x] fun fr Γ=>.c ⟨[],.loop Value k (fun s v=>[.om e (so A (aJ e' E)) v (KT s)]) φ [.rd false (T' A) vs x] f2⟩ c Γ fr (body s)))
  (hk:∀ s v,D P cx (.p (φ s v) [.own (aJ e (aJ e' E)) v (KT s)] f2 [] fun fr Γ=>.mn ⟨iz,kb⟩ Γ fr (f s))) :
  Bx (qa P cx (.bk true k ⟨iz,kb⟩ (.loop c) Γ fr (ag (ae k (af body s0)) fun s=>Wl (KT s)>>=fun _=>f s))):=by
 have _:=hv
 rw [nb]
 intro B o Wm r w tG oh
 obtain ⟨Z,F,hS,hG⟩:=oh
 obtain ⟨ft,F1,n9,hT,ep⟩:=h1.sound hS
 have KU:=hG.perm n9
 obtain ⟨n1,n2,n3⟩:=List.nodup_append.1 KU.nd
 obtain ⟨A,hA,hR⟩:=ho.opened (hp:=w.heap) hT n1
 obtain ⟨fo,F2,nv,hO,ja⟩:=(h2 A).sound ep
 have hfl:∀ b∈ft,b < w.heap.size:=ah.lt _ hT
 have hfz:∀ b∈ft,¬ Z b:=fun b hb=>KU.apart b (List.mem_append_left _ hb)
 have Wn:∀ b∈fo,b∈F1:=fun b hb=>nv.mem_iff.1 (List.mem_append_left _ hb)
 have sP:fo.Nodup:=(List.nodup_append.1 (nv.nodup_iff.2 n2)).1
 refine LF (T:=TT P cx B) (LI B (fun s v=>[.om e (so A (aJ e' E)) v (KT s)]) φ [.rd false (T' A) vs x] f2) Wm
  ⟨v0,uD (ha.all tG) (hf.sound tG),fun b=>Z b∨b∈ft,fo,⟨fo,[],(List.append_nil _).symm,by rw [hz]; exact hO.mono fun _=>.inl,⟨ft,hR,fun b hb=>.inr hb⟩,rfl⟩,sP,fun b hb=>?_,fun b hb=>hb.elim (hG.nh b) (hfl b),fun b hb=>KU.low b (List.mem_append_right _ (Wn b hb)),fun b h=>.inl (hG.wk b h),fun b hb=>hb.elim (hG.vH b) fun hb=>.inr (KU.low b (List.mem_append_left _ hb)),hG.jf⟩ ?_ ?_ ?_
 ·rintro (h | h)
  ·exact KU.apart b (List.mem_append_right _ (Wn b hb)) h
  ·exact n3 b h b (Wn b hb) rfl
 ·intro x r w he hx
  subst he
  exact yO hx
 ·rintro s r w ⟨v,h1,h2⟩ o ho
  exact (hb A s v).sound B o ho r w h1 h2
 ·rintro s r w' ⟨v,a1,Z2,Fl,Ic,l5⟩ hm
  obtain ⟨_,hn,hm⟩:=bind_some hm
  replace hn:=QG hn
  obtain ⟨f',F',rfl,hom,aaa⟩:=Ic
  have zU:F'=[]:=aaa.2
  subst zU
  rw [List.append_nil] at l5
  obtain ⟨g,s1,s2,s3⟩:=Oo nf hA hom hn l5.nd l5.apart
  refine (hk s v).sound B o hm r w' a1 ⟨B.Z,f'++g,⟨f'++g,[],(List.append_nil _).symm,s2,rfl⟩,s3,fun b hb hz=>?_,fun b hz=>l5.nh b (l5.wk b hz),fun b hb=>?_,fun _ h=>h,fun _ h=>.inl h,l5.jf⟩
  ·rcases List.mem_append.1 hb with hb | hb
   ·exact l5.apart b hb (l5.wk b hz)
   ·exact hfz b (s1 b hb) (hG.wk b hz)
  ·rcases List.mem_append.1 hb with hb | hb
   ·exact l5.low b hb
   ·exact KU.low b (List.mem_append_left _ (s1 b hb))
end
end Go.Dk
namespace Go.Dk
open Go Go.Li
section
variable {R:Type} {P:Program} {cx:Cx R} {B:Bs} {M:Type} {all l:LO} {rk:RK R M} {fr:Fr} {w:World} {Z:Nat→Prop} {F cur:LN} {Γ Γ1 Γ2 Γ3:QE}
theorem D.of {J:Jd R} (h:qa P cx J):D P cx J:=.inj (by rw [nb]; exact h)
theorem Te {Δ : List aq} (h : FO Δ) : ∀ {Fd : List Nat}, HL Z w Δ Fd → ∀ e ∈ Δ, fact Z w [] e := by
  induction h with
  | nil => intro Fd _ e he; cases he
  | rd _ ih =>
    intro Fd hl e he
    cases hl with
    | own h _ => exact h.elim
    | fact h k => rcases List.mem_cons.1 he with rfl | he
                  · exact h
                  · exact ih k e he
  | au _ ih =>
    intro Fd hl e he
    cases hl with
    | own h _ => exact h.elim
    | fact h k => rcases List.mem_cons.1 he with rfl | he
                  · exact h
                  · exact ih k e he
theorem lgS {α:Type} (S:ah α) {d:Nat} {t e n bt ty:TI} {m:Option M} [ht:HY P t e n bt]
  (h:∀ v,D P cx (.o false all l rk (.own (aJ e (kq n)) v [] :: .rd false (vz S) (.bool true) ([],[]) :: Γ) ((d,v) :: fr) m)):D P cx (.e false (.buildSlice t 0 #[]) (some d) ty all l rk Γ fr m):=by
 refine D.of ?_
 intro B o ho r w ha hs pos ab g
 obtain ⟨h1,i,z,h2,_⟩:=ht.h
 obtain ⟨v,w',f,hr,hC,hO⟩:=DX (E:=kq n) (r:=r) (w:=w) (d:=some d) (ty:=ty) (pos:=pos) (ab:=ab) (g:=none) h1 h2
 refine dj (WL.val rfl hr ((h v).sound B o ho _ w' (an ha) ?_))
 obtain ⟨Z,F,hS,hg⟩:=hs
 have hf:fact Z w [] (.rd false (vz S) (.bool true) ([],[])):=⟨[],⟨rfl,rfl,fun _ h=>absurd h List.not_mem_nil⟩,fun _ h=>absurd h List.not_mem_nil⟩
 exact St.put (f:=[]) (SA.fact hS hf) hg hC hO.1 hO.2.1 fun b hb=>.inr ((hO.2.2 b hb).resolve_left List.not_mem_nil)
theorem lnS {α:Type} {S:ah α} {q:Bool} {d n e:Nat} {x:OO} {v:Value} {us:List (List Value)} {xs:List α} {t ty bt:TI} {m:Option M} [ht:HY P t e n bt] (hx:ay fr x=some v) (h1:bz Γ (.own (aJ e (kq n)) v us) Γ1) (hg:In (.rd false (vz S) (.bool true) (us,xs)) Γ)
  (h:D P cx (.o q all l rk Γ ((d,.int .i64 (xs.length:Int)) :: fr) m)):D P cx (.e q (.call ⟨.builtin .len,#[x],#[t]⟩) (some d) ty all l rk Γ fr m):=by
 refine D.of ?_
 intro B o ho r w ha hs pos ab g
 obtain ⟨q1,_⟩:=ht.h
 obtain ⟨Z,F,hS,hG⟩:=@_root_.id _ hs
 obtain ⟨f,F1,_,hO,_⟩:=h1.sound hS
 obtain ⟨k,hk,_⟩:=hg.rd hS []
 obtain ⟨base,cap,hv,_⟩:=hO
 obtain rfl:v = .slice base us.length cap:=by simpa using hv
 have hl:us.length=xs.length:=zM hk.2.1
 exact bu (v:=.int .i64 (xs.length:Int)) (fun w' _=>by rw [← hl]; exact wo q1 (aQ ha hx)) (h.sound B o ho _ w (an ha) hs)
theorem ixS {α V:Type} {S:ah α} {cl:α→V→List Value} {en:α→V→List aq} {q:Bool} {d n e:Nat} {x y:OO} {v:Value} {us:List (List Value)} {xs:List α} {k:IntKind} {j:Int} {t ty bt:TI} {f:α→Option M} [ht:HY P t e n bt] (hx:ay fr x=some v) (hy:ay fr y=some (.int k j))
  (h1:bz Γ (.own (aJ e (kq n)) v us) Γ1) (hg:In (.rd false (vz S) (.bool true) (us,xs)) Γ) (hs:GO S V cl en)
  (h:∀ z u,D P cx (.p [] (.rd false (Dn us j) (.bool true) (cl z u) :: en z u) fr Γ fun fr Γ=>.o q all l rk Γ ((d,.pointer (some (cn v n j))) :: fr) (f z))):D P cx (.e q (.indexAddr t x y) (some d) ty all l rk Γ fr (idx xs j>>=f)):=by
 refine D.of ?_
 intro B o ho r w ha b9 pos ab g
 replace hs:SO S V cl en:=by cases hs; assumption
 obtain ⟨z,hz,ho⟩:=bind_some ho
 replace hz:=rm hz
 obtain ⟨q1,i,_,q2,_,_,q3,_⟩:=ht.h
 obtain ⟨Z,F,hS,hG⟩:=b9
 obtain ⟨f0,F1,_,hO,_⟩:=h1.sound hS
 obtain ⟨g0,hk,n7⟩:=hg.rd hS []
 obtain ⟨c,g1,e1,e2,e3⟩:=Et j.toNat hk.2.1 hz.2
 obtain ⟨u,rfl,rY⟩:=hs.op e2
 have hlen:us.length=xs.length:=zM hk.2.1
 have bb:j.toNat < xs.length:=(List.getElem?_eq_some_iff.1 hz.2).1
 have hv:∃ a c,v = .slice (some a) us.length c:=by
  obtain ⟨base,cap,hv,hr⟩:=hO
  obtain rfl:v = .slice base us.length cap:=by simpa using hv
  rcases hr with ⟨_,_,rfl,_⟩ | ⟨b,cur,f',rfl,_⟩
  ·rw [← hlen] at bb; simp at bb
  ·exact ⟨_,_,rfl⟩
 obtain ⟨a,c',rfl⟩:=hv
 have fk:HL Z w (.rd false (Dn us j) (.bool true) (cl z u) :: en z u) []:=.fact ⟨[],⟨rfl,⟨hz.1,e1⟩,rfl⟩,fun _ h=>absurd h List.not_mem_nil⟩ (vM (rY Z fun b hb=>n7 b (e3 b hb)))
 obtain ⟨F',hp,ja⟩:=fk.build hS
 refine bu (v:=.pointer (some (cn (.slice (some a) us.length c') n j))) (fun w' hC=>?_) ((h z u).sound B o ho _ w (an ha) ⟨Z,F',ja,hG.perm (by simpa using hp)⟩)
 rw [ni q1 q2 (aQ ha hx) (aQ ha hy) hz.1 (by omega),q3]
 rfl
theorem laS {q:Bool} {d n off e:Nat} {x:OO} {v u:Value} {us:List (List Value)} {j:Int} {cs:LV} {ty:TI} {m:Option M} (h1:bz Γ (.own (aJ e (kq n)) v us) Γ1) (hp:In (.rd false (Dn us j) (.bool true) cs) Γ) (hc:cs[off]? = some u)
  (k:D P cx (.o q all l rk Γ ((d,u) :: fr) m)):D P cx (.la ((cn v n j).add off) none q ty x d all l rk Γ fr m):=by
 refine D.of ?_
 intro ht hx B o ho r w ha hs t pos ab g
 obtain ⟨Z,F,hS,_⟩:=@_root_.id _ hs
 obtain ⟨f,F1,_,hO,_⟩:=h1.sound hS
 obtain ⟨_,⟨_,⟨hj,hu⟩,_⟩,_⟩:=hp.rd hS []
 exact bu (Ld ht ((yX hO hj hu).2.2 off u hc) (aQ ha hx)) (k.sound B o ho _ w (an ha) hs)
theorem acw {q:Bool} {d n e:Nat} {x:OO} {v u:Value} {us:List (List Value)} {j:Int} {cs:LV} {ty:TI} {m:Option M} (h1:bz Γ (.own (aJ e (kq n)) v us) Γ1) (hp:In (.rd false (Dn us j) (.bool true) cs) Γ) (hc:cs[0]? = some u)
  (k:D P cx (.o q all l rk Γ ((d,u) :: fr) m)):D P cx (.la (cn v n j) none q ty x d all l rk Γ fr m):=by
 have e:(cn v n j).add 0=cn v n j:=rfl
 rw [← e]
 exact laS h1 hp hc k
theorem lsS {q:Bool} {d n e:Nat} {x:OO} {v:Value} {us:List (List Value)} {j:Int} {cs:LV} {ty:TI} {m:Option M} (h1:bz Γ (.own (aJ e (kq n)) v us) Γ1) (hp:In (.rd false (Dn us j) (.bool true) cs) Γ)
  (k:D P cx (.o q all l rk Γ ((d,.agg cs.toArray) :: fr) m)):D P cx (.la (cn v n j) (some n) q ty x d all l rk Γ fr m):=by
 refine D.of ?_
 intro ht hx B o ho r w ha hs t pos ab g
 obtain ⟨Z,F,hS,_⟩:=@_root_.id _ hs
 obtain ⟨f,F1,_,hO,_⟩:=h1.sound hS
 obtain ⟨_,⟨_,⟨hj,hu⟩,_⟩,_⟩:=hp.rd hS []
 obtain ⟨e1,_,e3⟩:=yX hO hj hu
 exact bu (Lg ht (fun i u hi=>e3 i u hi) (aQ ha hx) e1) (k.sound B o ho _ w (an ha) hs)
theorem apS {α V:Type} {S:ah α} {cl:α→V→List Value} {en:α→V→List aq} (y:α) {u:V} {d b n e bt:Nat} {s x:OO} {sv:Value} {us:List (List Value)} {xs:List α} {cs:LV} {t et ty:TI} {f:Unit→Option M} [ht:HY P t e n bt]
  (hs:ay fr s=some sv) (hx:ay fr x=some (.slice (some ⟨b,0,none⟩) 1 1)) (h0:bz Γ (.row b cs et) Γ1) (h1:bz Γ1 (.own (aJ e (kq n)) sv us) Γ2) (hg:In (.rd false (vz S) (.bool true) (us,xs)) Γ2) (qn:GO S V cl en) (_hv:uA V u) (hc:cs=cl y u) (ho:uZ Γ cs) (hn:cs.length=n) (Wo:FO (en y u)) (hf:EF Γ2 (en y u) Γ3)
  (h:∀ v,D P cx (.o false all l rk (.own (aJ e (kq n)) v (us++[cs]) :: .rd false (vz S) (.bool true) (us++[cs],xs++[y]) :: Γ3) ((d,v) :: fr) (f ()))):D P cx (.e false (.call ⟨.builtin .append,#[s,x],#[t,t]⟩) (some d) ty all l rk Γ fr (fits bt (xs.length+1)>>=f)):=by
 refine D.of ?_
 intro B o bm r w ha b9 pos ab g
 have Gl:SO S V cl en:=by cases qn; assumption
 obtain ⟨_,hu,bm⟩:=bind_some bm
 obtain ⟨b1,b2⟩:=ie hu
 obtain ⟨q1,i,z,q2,q3,q4,q5,q6,_⟩:=ht.h
 obtain ⟨Z,F,hS,hG⟩:=b9
 have Hz:=ho.one hS
 obtain ⟨n0,F0,r3,⟨rfl,av⟩,sL⟩:=h0.sound hS
 obtain ⟨k,F1,hp,hO,ep⟩:=h1.sound sL
 obtain ⟨Fd,F2,Zn,Wp,ja,nv⟩:=hf.sound ep
 obtain ⟨g0,hk,n7⟩:=hg.rd ep []
 have hlen:us.length=xs.length:=zM hk.2.1
 have tr:((k++F1)++[b]).Perm F:=(List.perm_append_comm.trans (hp.append_left [b])).trans r3
 have l5:Gd B Z (k++F1) w:=Gd.left (F':=[b]) (hG.perm tr)
 have uH:((k++F2)++(Fd++Zn)).Perm (k++F1):=by
  rw [List.append_assoc]
  refine List.Perm.append_left k (.trans ?_ nv)
  rw [← List.append_assoc]
  exact (List.perm_append_comm (l₁:=F2) (l₂:=Fd)).append_right Zn
 have ke:Gd B Z ((k++F2)++(Fd++Zn)) w:=l5.perm uH
 have bb:∀ b∈Fd++Zn,b < w.heap.size:=fun b hb=>by
  have h3:b∈k++F1:=uH.mem_iff.1 (List.mem_append_right _ hb)
  rcases List.mem_append.1 h3 with h3 | h3
  ·exact ah.lt _ hO b h3
  ·exact ep.lt b h3
 have Iw:Gd B (qv Z (Fd++Zn)) (k++F2) w:=ke.freeze bb
 have EZ:∀ b,qv Z Zn b→qv Z (Fd++Zn) b:=fun b hb=>hb.imp id fun h=>List.mem_append_right _ h
 obtain ⟨g1,yN,IL⟩:=Gl.cl (x:=y) (v:=u) (Z:=qv Z (Fd++Zn)) (w:=w) (Te Wo (Wp.mono EZ))
 have hdk:rZ [] k:=fun _ h=>absurd h List.not_mem_nil
 have hE:dm (kq n) w.heap cs [cs] []:=⟨cs,[],[],[],by simp,by simp,⟨rfl,hn,Hz,rfl⟩,rfl,rfl⟩
 obtain ⟨v,w',f',jl,hC,c9,bp,cp⟩:=kv (E:=kq n) (d:=some d) (ty:=ty) (pos:=pos) (ab:=ab) (g:=none) (k:=[]) (ys:=[cs]) (news:=cs) q1 q2 q3 (by rw [q5]; rfl) (by rw [q4]; rfl) (aQ ha hs) hO (List.nodup_append.1 l5.nd).1 (aQ ha hx) (fun i u hi=>av.at i u hi) hE hdk (by simp) (by rw [q6,hlen]; exact b1) (by rw [hlen]; exact b2)
 refine dj (WL.val rfl jl ((h v).sound B o bm _ w' (an ha) ?_))
 have Wq:fact (qv Z (Fd++Zn)) w [] (.rd false (vz S) (.bool true) (us++[cs],xs++[y])):=by
  rw [hc]
  refine ⟨g0++g1,⟨rfl,U2 yN hk.2.1,fun b hb=>?_⟩,fun b hb=>?_⟩
  ·rcases List.mem_append.1 hb with hb | hb
   ·exact hk.2.2 b hb
   ·exact S.lt yN b hb
  ·rcases List.mem_append.1 hb with hb | hb
   ·exact .inl (n7 b hb)
   ·exact IL b hb
 exact St.put (SA.fact (ja.mono EZ fun _ h=>h) Wq) Iw hC c9 (cp List.nodup_nil) fun b hb=>(bp b hb).imp id fun h=>h.resolve_left List.not_mem_nil
theorem Ug {n:Nat} {h:Array Obj}:∀ {us:List (List Value)} {cs:LV} {f:LN},dm (kq n) h cs us f→∀ c∈us,c.length=n∧∀ v∈c,v.oneCell'=true:=by
 intro us
 induction us with
 | nil=>intro cs f _ c hc; cases hc
 | cons a us ih=>
  rintro cs f ⟨c',lf,f1,f2,rfl,rfl,⟨rfl,h1,h2,rfl⟩,h3⟩ c hc
  rcases List.mem_cons.1 hc with rfl | hc
  ·exact ⟨h1,h2⟩
  ·exact ih h3 c hc
theorem Uh {n:Nat} {h:Array Obj}:∀ {us:List (List Value)},(∀ c∈us,c.length=n∧∀ v∈c,v.oneCell'=true)→dm (kq n) h us.flatten us []:=by
 intro us
 induction us with
 | nil=>intro _; exact ⟨rfl,rfl⟩
 | cons a us ih=>
  intro hc
  have h1:=hc a (by simp)
  exact ⟨a,us.flatten,[],[],by simp,rfl,⟨rfl,h1.1,h1.2,rfl⟩,ih fun c hm=>hc c (by simp [hm])⟩
theorem J7 {n:Nat} {c:LV}:∀ {us:List (List Value)} {j:Nat},(∀ x∈us,x.length=n)→j < us.length→(us.set j c).flatten=us.flatten.take (j * n)++c++us.flatten.drop (j * n+n)∧j * n+n≤us.flatten.length:=by
 intro us
 induction us with
 | nil=>intro j _ hj; simp at hj
 | cons a us ih=>
  intro j hl hj
  have ha:a.length=n:=hl a (by simp)
  cases j with
  | zero=>refine ⟨?_,by simp [ha]⟩; simp [← ha]
  | succ j=>
   obtain ⟨h1,h2⟩:=ih (j:=j) (fun x hx=>hl x (by simp [hx])) (by simpa using hj)
   have e:(j+1) * n=n+j * n:=by rw [Nat.add_mul,Nat.one_mul,Nat.add_comm]
   refine ⟨?_,by rw [e,List.flatten_cons,List.length_append,ha]; omega⟩
   rw [List.set_cons_succ,List.flatten_cons,List.flatten_cons,h1,e,List.take_append,List.drop_append,ha]
   have e1:List.take (n+j * n) a=a:=List.take_of_length_le (by omega)
   have e2:List.drop (n+j * n+n) a=[]:=List.drop_eq_nil_of_le (by omega)
   rw [e1,e2,show n+j * n - n=j * n by omega,show n+j * n+n - n=j * n+n by omega]
   simp
theorem stS {α V:Type} {S:ah α} {cl:α→V→List Value} {en:α→V→List aq} (y:α) {u:V} {n e:Nat} {x0 y0:OO} {v:Value} {j:Int} {us:List (List Value)} {xs:List α} {cs c0:LV} {t ty:TI} {m:Option M}
  (h1:bz Γ (.own (aJ e (kq n)) v us) Γ1) (hp:In (.rd false (Dn us j) (.bool true) c0) Γ) (hg:In (.rd false (vz S) (.bool true) (us,xs)) Γ1) (qn:GO S V cl en) (_hv:uA V u) (hc:cs=cl y u) (ho:uZ Γ cs) (hn:cs.length=n) (Wo:FO (en y u)) (hf:EF Γ1 (en y u) Γ2)
  (h:D P cx (.o false all l rk (.own (aJ e (kq n)) v (us.set j.toNat cs) :: .rd false (vz S) (.bool true) (us.set j.toNat cs,xs.set j.toNat y) :: Γ2) fr m)):D P cx (.st (cn v n j) (.agg cs.toArray) n t x0 y0 ty all l rk Γ fr m):=by
 refine D.of ?_
 intro hT hx hy B o bm r w ha b9 pos ab g
 have Gl:SO S V cl en:=by cases qn; assumption
 obtain ⟨i,q1,q2⟩:=hT
 obtain ⟨Z,F,hS,hG⟩:=b9
 have Hz:=ho.one hS
 obtain ⟨_,⟨_,⟨hj,hu⟩,_⟩,_⟩:=hp.rd hS []
 obtain ⟨k,F1,n9,hO,ep⟩:=h1.sound hS
 obtain ⟨Fd,F2,Zn,Wp,ja,nv⟩:=hf.sound ep
 obtain ⟨g0,hk,n7⟩:=hg.rd ep []
 have l5:Gd B Z (k++F1) w:=hG.perm n9
 have uH:((k++F2)++(Fd++Zn)).Perm (k++F1):=by
  rw [List.append_assoc]
  refine List.Perm.append_left k (.trans ?_ nv)
  rw [← List.append_assoc]
  exact (List.perm_append_comm (l₁:=F2) (l₂:=Fd)).append_right Zn
 have ke:Gd B Z ((k++F2)++(Fd++Zn)) w:=l5.perm uH
 have bb:∀ b∈Fd++Zn,b < w.heap.size:=fun b hb=>by
  have h3:b∈k++F1:=uH.mem_iff.1 (List.mem_append_right _ hb)
  rcases List.mem_append.1 h3 with h3 | h3
  ·exact ah.lt _ hO b h3
  ·exact ep.lt b h3
 have Iw:Gd B (qv Z (Fd++Zn)) (k++F2) w:=ke.freeze bb
 have EZ:∀ b,qv Z Zn b→qv Z (Fd++Zn) b:=fun b hb=>hb.imp id fun h=>List.mem_append_right _ h
 obtain ⟨g1,yN,IL⟩:=Gl.cl (x:=y) (v:=u) (Z:=qv Z (Fd++Zn)) (w:=w) (Te Wo (Wp.mono EZ))
 obtain ⟨g2,HS,hgb⟩:=xC (c:=cs) (by rw [hc]; exact yN) j.toNat hk.2.1
 have Wq:fact (qv Z (Fd++Zn)) w [] (.rd false (vz S) (.bool true) (us.set j.toNat cs,xs.set j.toNat y)):=by
  refine ⟨g2,⟨rfl,HS,fun b hb=>?_⟩,fun b hb=>?_⟩
  ·exact (hgb b hb).elim (hk.2.2 b) (S.lt yN b)
  ·exact (hgb b hb).elim (fun h=>.inl (n7 b h)) (IL b)
 have Dx:j.toNat < us.length:=(List.getElem?_eq_some_iff.1 hu).1
 obtain ⟨base,cap,kh,hr⟩:=hO
 obtain rfl:v = .slice base us.length cap:=by simpa using kh
 rcases hr with ⟨_,_,rfl,_⟩ | ⟨b,cur,f',rfl,h2,rfl,h4,h5,h6,h3⟩
 ·simp at Dx
 ·obtain ⟨Wr,qw⟩:=HQ h3
  subst qw
  have fk:=Ug h3
  obtain ⟨e1,e2⟩:=J7 (c:=cs) (fun x hx=>(fk x hx).1) Dx
  have av:Row w b cur.toList e:=by unfold Row; simpa using h2
  have Ws:cur.toList=us.flatten++cur.toList.drop (us.length * n):=by
   rw [← Wr]; exact (List.take_append_drop _ _).symm
  have uf:cn (.slice (some ⟨b,0,none⟩) us.length cap) n j = ⟨b,j.toNat * n,none⟩:=by
   simp only [cn,gw,Nat.zero_add]
  rw [uf] at hx
  have hle:j.toNat * n+cs.length≤cur.toList.length:=by
   rw [hn,Ws,List.length_append]; omega
  have jl:=tU (P:=P) (d:=none) (ty:=ty) (pos:=pos) (ab:=ab) (gg:=none) q1 (by rw [hn,q2]) av hle (aQ ha hx) (y:=y0) (by rw [aQ ha hy]; rfl) Hz
  refine dj (WL.skip rfl jl (h.sound B o bm _ _ ha ?_))
  have AH:cur.toList.take (j.toNat * n)++cs++cur.toList.drop (j.toNat * n+cs.length)=(us.set j.toNat cs).flatten++cur.toList.drop (us.length * n):=by
   rw [hn,e1]
   conv=>lhs; rw [Ws]
   rw [List.take_append_of_le_length (by omega),List.drop_append_of_le_length (by omega)]
   simp
  have pr:=setRow_heap w b cur (cur.toList.take (j.toNat * n)++cs++cur.toList.drop (j.toNat * n+cs.length)).toArray e _ h2
  refine St.put (f:=[b]) (f':=[b]) (SA.fact (ja.mono EZ fun _ h=>h) Wq) Iw ⟨rfl,rfl,rfl,Nat.le_refl _,by simp,fun j' _ iu=>setRow_other w b j' _ fun h=>iu (by simp [h])⟩ ?_ (by simp) (fun b hb=>.inl hb)
  refine ⟨_,cap,by rw [List.length_set],.inr ⟨b,_,[],rfl,pr,rfl,by rw [List.length_set]; exact h4,h5,?_,?_⟩⟩
  ·rw [← h6]
   simp only [List.size_toArray,AH]
   have e3:(us.set j.toNat cs).flatten.length=us.flatten.length:=by
    rw [e1]; simp only [List.length_append,List.length_take,List.length_drop,hn]; omega
   rw [List.length_append,e3,← List.length_append,← Ws,Array.length_toList]
  ·rw [List.toList_toArray,AH,List.length_set]
   have aoR:(us.set j.toNat cs).flatten.length=us.length * n:=by
    have e3:(us.set j.toNat cs).flatten.length=us.flatten.length:=by
     rw [e1]; simp only [List.length_append,List.length_take,List.length_drop,hn]; omega
    rw [e3]
    have:=jq h3
    rw [Wr] at this
    exact this
   show dm (kq n) _ (List.take (us.length * n) _) _ _
   rw [List.take_append_of_le_length (by omega),List.take_of_length_le (by omega)]
   refine Uh fun c hm=>?_
   rcases List.mem_or_eq_of_mem_set hm with hm | rfl
   ·exact fk c hm
   ·exact ⟨hn,Hz⟩
theorem ui {α:Type} {E:ah α} {d n:Nat} {t e ty:TI} {ps:List (Nat×Operand)} {us:LV} {xs:List α} {m:Option M} [hz:GN P t e] (hl:vK Γ fr 0 ps us) (hn:us.length=n) (hb:(Nat.ble 1 n && Nat.ble n 16777216)=true) (hx:H4 Γ E us xs Γ1) (hE:E.size=1)
  (h:∀ v,D P cx (.o false all l rk (.own (aJ e E) v xs :: Γ1) ((d,v) :: fr) m)):D P cx (.e false (.buildSlice t n ps.toArray) (some d) ty all l rk Γ fr m):=by
 refine D.of ?_
 intro B o ho r w ha hs pos ab g
 obtain ⟨Z,F,hS,hg⟩:=hs
 refine dj (WL.val rfl (hl.op ha hS ⟨hz.h⟩ hn hb) ((h _).sound B o ho _ _ (an ha) ?_))
 obtain ⟨e1,f,F2,nv,hr,ja⟩:=hx.sound hS
 have xF:n≤16777216:=by
  rw [Bool.and_eq_true] at hb
  exact Nat.le_of_ble_eq_true hb.2
 have hC:ak [] w (w.alloc (.cells us.toArray e)):=ak.alloc _ _ _
 have fw:Gd B Z (f++F2) w:=hg.perm nv
 have bb:∀ b∈f,b < w.heap.size:=mr hr
 have AH:=heap_alloc_new w (.cells us.toArray e)
 have eh:dm E (w.alloc (.cells us.toArray e)).heap us xs f:=jw hr fun b hb=>hC.block b (bb b hb) (fun h=>absurd h List.not_mem_nil)
 refine St.put (f:=f) (f':=w.heap.size :: f) ja fw (ak.mono hC fun _ h=>absurd h List.not_mem_nil) ⟨_,n,by rw [← hn,e1],.inr ⟨w.heap.size,us.toArray,f,rfl,AH,rfl,by rw [← hn,e1]; exact Nat.le_refl _,Nat.le_trans xF (by decide),by rw [hE,Nat.mul_one]; simp [hn],?_⟩⟩ ?_ ?_
 ·rw [hE,Nat.mul_one,List.toList_toArray,← e1,List.take_length]
  exact eh
 ·exact List.nodup_cons.2 ⟨fun hm=>Nat.lt_irrefl _ (bb _ hm),(List.nodup_append.1 fw.nd).1⟩
 ·intro b hb
  rcases List.mem_cons.1 hb with rfl | hb
  ·exact .inr (Nat.le_refl _)
  ·exact .inl hb
theorem KJ {α:Type} {d b:Nat} {s x:OO} {v u yv:Value} {j:Int} {y:α} {z:List α} {xs:List (List α)} {t e e' et ty:TI} {E E':ah α} {z0:α} {bt:Nat} {o1 o2:Bool} {Γx:QE} {f:Unit→Option M} [hT:mz P t α e E z0 bt] (hs:ay fr s=some u) (hx:ay fr x=some (.slice (some ⟨b,0,none⟩) 1 1)) (hl:Loc Γ u (.row v j)) (h0:bz Γ (.row b [yv] et) Γ1) (hz:lr Γ u o1 o2 E' z o6 Γx) (h1:bz Γ1 (.own (aJ e' (aJ e E)) v xs) Γ2) (hr:RT (aJ e E) (aV E')) (hy:BG Γ2 E yv y Γ3)
  (h:∀ v',D P cx (.o false all l rk (.own (aJ e E) v' (z++[y]) :: .own (qp e' (aJ e E) j.toNat) v xs :: Γ3) ((d,v') :: fr) (f ()))):D P cx (.e false (.call ⟨.builtin .append,#[s,x],#[t,t]⟩) (some d) ty all l rk Γ fr (fits bt (z.length+1)>>=f)):=by
 refine D.of ?_
 intro B o bm r w ha b9 pos ab g
 obtain ⟨_,hu,bm⟩:=bind_some bm
 obtain ⟨b1,b2⟩:=ie hu
 obtain ⟨q1,q2,i,zz,q3,q4,q5,q6,q7,_⟩:=hT.h
 obtain ⟨Z,F,hS,hG⟩:=b9
 obtain ⟨j0,j1,ik⟩:=Loc.row hl rfl hS
 obtain ⟨dg,_,⟨⟨gz,n7,_⟩,_⟩,_⟩:=hz.sound hS
 obtain ⟨n0,F0,r3,⟨rfl,av⟩,sL⟩:=h0.sound hS
 obtain ⟨fm,F1,n9,hO,ep⟩:=h1.sound sL
 obtain ⟨ky,F2,nv,N7,ja⟩:=hy.sound ep
 rw [o7 hO] at j1
 obtain ⟨k,gm,a1,a2,a3⟩:=Aw rfl hO (List.getElem?_eq_getElem j1) ik
 have N9:xs[j.toNat]=z:=hr.uy (hr.le.le a1) n7
 rw [N9] at a1
 have tr:((k++ky)++(gm++F2)).Perm (fm++F1):=by
  have e1:((k++gm)++(ky++F2)).Perm (fm++F1):=(a2.append_right _).trans (nv.append_left fm)
  refine .trans ?_ e1
  rw [List.append_assoc,List.append_assoc]
  refine List.Perm.append_left k ?_
  rw [← List.append_assoc,← List.append_assoc]
  exact List.perm_append_comm.append_right F2
 have l5:Gd B Z ((k++ky)++(gm++F2)) w:=Gd.left (F':=[b]) (hG.perm (((tr.append_right [b]).trans (List.perm_append_comm.trans (n9.append_left [b]))).trans r3))
 have cp:=(List.nodup_append.1 l5.nd).1
 have xH:=List.nodup_append.1 cp
 obtain ⟨v',w',f',jl,hC,c9,bp,vP⟩:=kv (E:=E) (d:=some d) (ty:=ty) (pos:=pos) (ab:=ab) (g:=none) (k:=ky) (ys:=[y]) (news:=[yv]) q1 q3 q4 (by rw [q5,q2]) (by rw [cells_one q6,q2]; rfl) (aQ ha hs) a1 xH.1 (aQ ha hx) (fun i u hi=>av.at i u hi) (l6 N7) (fun b hb hm=>xH.2.2 b hm b hb rfl) (by simp) (by rw [q7]; exact b1) b2
 refine dj (WL.val rfl jl ((h v').sound B o bm _ w' (an ha) ?_))
 have hSh:SA Z w (.own (qp e' (aJ e E) j.toNat) v xs :: Γ3) [] (gm++F2):=SA.cons ja (e:=.own (qp e' (aJ e E) j.toNat) v xs) a3
 refine St.put hSh l5 (hC.mono fun b hb=>List.mem_append_left _ hb) c9 (vP xH.2.1) fun b hb=>?_
 rcases bp b hb with h | h | h
 ·exact .inl (List.mem_append_left _ h)
 ·exact .inl (List.mem_append_right _ h)
 ·exact .inr h
theorem Wt {α:Type} {q:Bool} {d j0:Nat} {x y:OO} {v:Value} {k:IntKind} {j:Int} {xs:List α} {t e ty:TI} {E:ah α} {f:α→Option M} [ht:tT P t] (hx:ay fr x=some v) (hy:ay fr y=some (.int k j)) (h1:bz Γ (.own (qp e E j0) v xs) Γ1)
  (h:∀ z,D P cx (.o q all l rk Γ ((d,.pointer (some (cn v 1 j))) :: fr) (f z))):D P cx (.e q (.indexAddr t x y) (some d) ty all l rk Γ fr (idx xs j>>=f)):=by
 refine D.of ?_
 intro B o ho r w ha hs pos ab g
 obtain ⟨z,hz,ho⟩:=bind_some ho
 replace hz:=rm hz
 obtain ⟨e',i,q1,q2,q3⟩:=ht.h
 obtain ⟨Z,F,hS,_⟩:=@_root_.id _ hs
 obtain ⟨f0,F1,_,⟨b,cap,cur,f1,f2,p,c0,qq,hv,_⟩,_⟩:=h1.sound hS
 obtain rfl:v = .slice (some ⟨b,0,none⟩) xs.length cap:=by simpa using hv
 have bb:j.toNat < xs.length:=(List.getElem?_eq_some_iff.1 hz.2).1
 have IN:=hz.1
 refine bu (v:=.pointer (some (cn (.slice (some ⟨b,0,none⟩) xs.length cap) 1 j))) (fun w' hC=>?_) ((h z).sound B o ho _ w (an ha) hs)
 rw [ni q1 q2 (aQ ha hx) (aQ ha hy) hz.1 (by omega),q3]
 rfl
theorem Wu {α:Type} {x0 y0:OO} {v u:Value} {j:Int} {z:α} {xs:List α} {t e ty:TI} {E:ah α} {m:Option M} (h1:bz Γ (.own E u z) Γ1) (h2:bz Γ1 (.own (qp e E j.toNat) v xs) Γ2)
  (h:D P cx (.o false all l rk (.own (aJ e E) v (xs.set j.toNat z) :: Γ2) fr m)):D P cx (.st (cn v 1 j) u 1 t x0 y0 ty all l rk Γ fr m):=by
 refine D.of ?_
 intro hT hx hy B o bm r w ha b9 pos ab g
 obtain ⟨i,q1,q2⟩:=hT
 obtain ⟨Z,F,hS,hG⟩:=b9
 obtain ⟨k,F1,n9,hK,ep⟩:=h1.sound hS
 obtain ⟨gm,F2,nv,hM,ja⟩:=h2.sound ep
 have uH:((gm++k)++F2).Perm F:=by
  refine .trans ?_ n9
  refine .trans ?_ (nv.append_left k)
  rw [← List.append_assoc k gm F2]
  exact List.perm_append_comm.append_right F2
 have l5:Gd B Z ((gm++k)++F2) w:=hG.perm uH
 have cp:=(List.nodup_append.1 l5.nd).1
 obtain ⟨b,cap,cur,f1,f2,p,c0,qq,hv,g1,rfl,⟨g2,g3,g4,g5⟩,g6,⟨g7,g8⟩,g9,g10⟩:=hM
 obtain rfl:v = .slice (some ⟨b,0,none⟩) xs.length cap:=by simpa using hv
 have uf:cn (.slice (some ⟨b,0,none⟩) xs.length cap) 1 j = ⟨b,j.toNat,none⟩:=by
  simp only [cn,gw,Nat.zero_add,Nat.mul_one]
 rw [uf] at hx
 have av:Row w b cur.toList e:=by unfold Row; simpa using g1
 have Np:∀ i∈(f1++f2)++k,i≠b:=by
  intro i hi he
  subst he
  have e1:((i :: (f1++f2))++k)=i :: ((f1++f2)++k):=rfl
  rw [e1] at cp
  exact (List.nodup_cons.1 cp).1 hi
 refine dj (WL.DS q1 q2 av (by rw [Array.length_toList,g4]; omega) (aQ ha hx) (aQ ha hy) (E.one hK u (by simp)) fun w' hC lz=>h.sound B o bm _ w' ha ?_)
 have E0:∀ i∈(f1++f2)++k,i < w.heap.size→w'.heap[i]? = w.heap[i]?:=fun i hi hl=>hC.block i hl fun hm=>Np i hi (by simpa using hm)
 have Wv:E.rep w'.heap [u] z k:=E.congr hK fun i hi=>E0 i (List.mem_append_right _ hi) (E.lt hK i hi)
 have Eu:=g10 w'.heap (fun i hi=>E0 i (List.mem_append_left _ hi) (g9 i hi)) u z k Wv
 refine St.put (f:=(b :: (f1++f2))++k) (f':=b :: (f1++k++f2)) ja l5 (hC.mono fun i hi=>by rw [List.mem_singleton.1 hi]; simp) ⟨_,cap,by rw [List.length_set],.inr ⟨b,_,f1++k++f2,rfl,lz,rfl,by rw [List.length_set]; exact g2,g3,?_,?_⟩⟩ ?_ ?_
 ·rw [g5]; simp [g4]
 ·have pr:((cur.toList.set j.toNat u).take xs.length)=p++[u]++qq:=by
   rw [List.take_set,g6,← g7]
   simp
  rw [List.length_set,g5,Nat.mul_one]
  simpa [pr] using Eu
 ·have xN:(b :: (f1++k++f2)).Perm ((b :: (f1++f2))++k):=by
   rw [List.cons_append]
   refine List.Perm.cons b ?_
   rw [List.append_assoc,List.append_assoc]
   exact List.Perm.append_left f1 List.perm_append_comm
  exact xN.nodup_iff.2 cp
 ·intro i hi
  refine .inl ?_
  rcases List.mem_cons.1 hi with rfl | hi
  ·simp
  ·rcases List.mem_append.1 hi with hi | hi
   ·rcases List.mem_append.1 hi with hi | hi <;> simp [hi]
   ·simp [hi]
theorem E3 {S S1 V W:Type} (k:Nat) (Δ:S1→V→W→List aq) (φ:S1→V→W→Fr) (v0:V) (w0:W) (f2:Fr) {iz:List KI} {kb:Kb R S} {c:Code} {s0:S1} {body:S1→Option (Out S1 R)} {f:S1→Option (Out S R)}
  (ha:qm fr (φ s0 v0 w0)) (hf:qm fr f2) (h0:EO Γ (Δ s0 v0 w0) Γ1) (hn:OW Γ (Δ s0 v0 w0)) (hs:jy Γ1 Γ2)
  (hb:∀ s v w,D P cx (.p (φ s v w) (Δ s v w) f2 Γ2 fun fr Γ=>.c ⟨[],.loop (V×W) k (fun s v=>Δ s v.1 v.2) (fun s v=>φ s v.1 v.2) Γ2 f2⟩ c Γ fr (body s)))
  (hk:∀ s v w,D P cx (.p (φ s v w) (Δ s v w) f2 Γ2 fun fr Γ=>.mn ⟨iz,kb⟩ Γ fr (f s))):Bx (qa P cx (.bk true k ⟨iz,kb⟩ (.loop c) Γ fr (ag (ae k (Li.af body s0)) f))):=
 loop k (fun s v=>Δ s v.1 v.2) (fun s v=>φ s v.1 v.2) (v0,w0) f2 ha hf h0 hn hs (fun s v=>hb s v.1 v.2) (fun s v=>hk s v.1 v.2)
def IP {α:Type} (v:Value) (_:List α):Prop:=∃ a n c,v = .slice a n c∧n≤c
theorem Le.cap {α:Type} {T E:ah α} (hl:Le T E) (e:TI):Le (aJ e T) (so IP (aV E)):=by
 refine ⟨rfl,fun {h cs x f} hr=>⟨?_,(Le.own hl e).le hr⟩⟩
 obtain ⟨base,cap,rfl,hr⟩:=hr
 refine ⟨_,rfl,_,_,_,rfl,?_⟩
 rcases hr with ⟨_,_,rfl,_⟩ | ⟨_,_,_,_,_,_,h,_⟩
 ·exact Nat.zero_le _
 ·exact h
theorem Ui {α:Type} {T E:ah α} {e e2:TI} {v:Value} {xs:List (List α)} {f:LN} {h:Array Obj} (hl:Le T E) (hO:(aJ e (aJ e2 T)).rep h [v] xs f) :
  ∃ fo fz us,(fo++fz).Perm f∧(aJ e se).rep h [v] us fo∧dm (so IP (aV E)) h us xs fz:=by
 obtain ⟨base,cap,hv,hr⟩:=hO
 rcases hr with ⟨rfl,rfl,rfl,rfl⟩ | ⟨b,cur,f',rfl,h2,rfl,h4,h5,h6,h3⟩
 ·exact ⟨[],[],[],.refl _,⟨none,0,by simpa using hv,.inl ⟨rfl,rfl,rfl,rfl⟩⟩,rfl,rfl⟩
 ·have h7:=jq h3
  have h8:(aJ e2 T).size=1:=rfl
  rw [h8,Nat.mul_one] at h6 h3 h7
  try rw [Nat.mul_one] at h7
  refine ⟨[b],f',cur.toList.take xs.length,.refl _,⟨_,cap,by rw [h7]; exact hv,.inr ⟨b,cur,[],rfl,h2,rfl,by rw [h7]; exact h4,h5,by rw [h6]; exact (Nat.mul_one _).symm,?_⟩⟩,vI (Le.cap hl e2) h3⟩
  have h9:se.size=1:=rfl
  rw [h9,Nat.mul_one,h7]
  exact Dy (D2 h3)
theorem St.frz {α:Type} {T E:ah α} {e e2:TI} {v:Value} {xs:List (List α)} (hs:St B Γ w) (h1:EO Γ [.own (aJ e (aJ e2 T)) v xs] Γ1) (hr:RT T E):St B (.om e (so IP (aV E)) v xs :: Γ1) w:=by
 obtain ⟨Z,F,hS,hG⟩:=hs
 obtain ⟨_,F1,hH,ep,hp⟩:=h1.sound hS
 obtain ⟨f,hO,hp⟩ : ∃ f,(aJ e (aJ e2 T)).rep w.heap [v] xs f∧(f++F1).Perm F:=by
  cases hH with
  | own h k=>cases k; exact ⟨_,h,by simpa using hp⟩
 obtain ⟨fo,fz,us,hf,ho,hl⟩:=Ui hr.le hO
 have uH:((fo++F1)++fz).Perm F:=by
  refine .trans ?_ hp
  refine .trans ?_ (hf.append_right F1)
  rw [List.append_assoc,List.append_assoc]
  exact List.Perm.append_left fo List.perm_append_comm
 have ke:=Gd.freeze (hG.perm uH) fun b hb=>hS.lt b (uH.mem_iff.1 (List.mem_append_right _ hb))
 exact ⟨qv Z fz,fo++F1,SA.cons (ep.mono (fun _ h=>.inl h) fun _ h=>h) ⟨us,fz,ho,hl,fun b hb=>.inr hb,rfl⟩,ke⟩
theorem aab {S:Type} {id:Nat} (k:Nat) {K:ch R S} {l ops tl0:LO} {α:Type} {T E:ah α} {e e2:TI} {v:Value} {xs:List (List α)} {m:Option (Out S R)} (hB:(P.follows .mixedOrders && dh cx.n l && ((l.take k).all fun o=>BW o.op) && Region.lexTailB .any l.toArray k)=true) (ho:ops=l.take k) (ht:tl0=l.drop k)
  (h1:EO Γ [.own (aJ e (aJ e2 T)) v xs] Γ1) (hr:RT T E) (h:D P cx (.o true l ops (.h l tl0 K) (.om e (so IP (aV E)) v xs :: Γ1) fr m)):Bx (qa P cx (.dr id l K Γ fr m)):=by
 have h2:=tail (id:=id) k hB ho ht h
 rw [nb] at h2 ⊢
 exact fun B o bm r w ha hs=>h2 B o bm r w ha (hs.frz h1 hr)
theorem Oq {α:Type} {E:ah α} {h:Array Obj}:∀ {xs:List α} {cs:LV} {f:LN} (n:Nat),dm E h cs xs f→∃ f3,dm E h (cs.drop (n * E.size)) (xs.drop n) f3∧∀ b∈f3,b∈f:=by
 intro xs
 induction xs with
 | nil=>rintro cs f n ⟨rfl,rfl⟩; exact ⟨[],by simpa using ⟨rfl,rfl⟩,fun _ h=>h⟩
 | cons x xs ih=>
  rintro cs f n ⟨c,ds,f1,f2,rfl,rfl,h1,h2⟩
  cases n with
  | zero=>exact ⟨f1++f2,by simpa using ⟨c,ds,f1,f2,rfl,rfl,h1,h2⟩,fun _ h=>h⟩
  | succ n=>
   obtain ⟨f3,h3,h4⟩:=ih n h2
   refine ⟨f3,?_,fun b hb=>List.mem_append_right _ (h4 b hb)⟩
   have e:(n+1) * E.size=c.length+n * E.size:=by rw [E.len h1,Nat.add_mul,Nat.one_mul,Nat.add_comm]
   rw [e,List.drop_append,List.drop_of_length_le (by omega),List.nil_append,List.drop_succ_cons]
   simpa using h3
theorem slT {α:Type} {q:Bool} {d:Nat} {x lo:OO} {v:Value} {k:IntKind} {j:Int} {E:ah α} {xs:List α} {t ty:TI} {f:List α→Option M} [ht:tT P t] (hx:ay fr x=some v) (hy:ay fr lo=some (.int k j)) (hr:In (.rd false (so IP (aV E)) v xs) Γ) (hE:E.size=1)
  (h:∀ v' ys,D P cx (.o q all l rk (.rd false (aV E) v' ys :: Γ) ((d,v') :: fr) (f ys))):D P cx (.e q (.slice t x (some lo) none none) (some d) ty all l rk Γ fr (tl xs j>>=f)):=by
 refine D.of ?_
 intro B o ho r w ha hs pos ab g
 obtain ⟨ys,Od,ho⟩:=bind_some ho
 obtain ⟨h0,h1,rfl⟩:=KV Od
 obtain ⟨e,i,q1,q2,q3⟩:=ht.h
 obtain ⟨Z,F,hS,hG⟩:=hs
 obtain ⟨g0,⟨⟨v0,hv0,a0,n0,c0,SY,hc⟩,base,cap,hv,eh⟩,n7⟩:=hr.rd hS []
 obtain rfl:v = .slice base xs.length cap:=by simpa using hv
 obtain rfl:Value.slice base xs.length cap=v0:=by simpa using hv0
 obtain ⟨rfl,rfl,rfl⟩ : base=a0∧xs.length=n0∧cap=c0:=by simpa using SY
 have hlen:(xs.drop j.toNat).length=xs.length - j.toNat:=List.length_drop
 have hf:fact Z w [] (.rd false (aV E) (sliced base j.toNat xs.length cap 1) (xs.drop j.toNat)):=by
  by_cases hj:j.toNat=xs.length
  ·refine ⟨[],⟨_,cap - j.toNat,by unfold sliced; rw [hlen],.inl ⟨by rw [hj]; simp,rfl⟩⟩,fun _ h=>absurd h List.not_mem_nil⟩
  ·rcases eh with ⟨rfl,_⟩ | ⟨b,off,cur,e',fz,f',rfl,g1,rfl,_,g2⟩
   ·exfalso; simp at h1 hj; omega
   ·have mc : ¬ (cap=j.toNat):=by omega
    obtain ⟨f3,c9,bp⟩:=Oq j.toNat g2
    refine ⟨b :: f3,⟨some ⟨b,off+j.toNat,none⟩,cap - j.toNat,?_,.inr ⟨b,off+j.toNat,cur,e',fz,f3,rfl,g1,rfl,by omega,?_⟩⟩,fun i hi=>?_⟩
    ·unfold sliced
     rw [hlen,if_neg mc]
     simp [gw]
    ·rw [hE,Nat.mul_one] at c9 ⊢
     rw [Nat.mul_one,List.drop_take,List.drop_drop] at c9
     rw [hlen]
     exact c9
    ·rcases List.mem_cons.1 hi with rfl | hi
     ·exact n7 _ (by simp)
     ·exact n7 _ (List.mem_cons_of_mem _ (bp i hi))
 refine bu (v:=sliced base j.toNat xs.length cap 1) (fun w' _=>?_) ((h _ _).sound B o ho _ w (an ha) ⟨Z,F,SA.fact hS hf,hG⟩)
 have q4:P.elem t=e:=by simp [Program.elem,q1]
 have me:(sizeOf (P.elem t)).run P w' = .ok 1 w':=by rw [q4]; simp [sizeOf,typeInfo,q2,q3]
 simp [execOp,aQ ha hx,aQ ha hy,run_sliceAt_slice w' t _ _ _ _ (by rw [q4]; exact q1),run_slice_l (P:=P) w' t base xs.length cap (by rw [q4]; exact q1) k j h0 h1,me,Result.andThen]
theorem Ww {κ υ:Type} {q:Bool} {d:Nat} {x y:OO} {v:Value} {t ty:TI} {bq:BEq κ} {ek:κ→Value} {eu:υ→Value} {xs:List (κ×υ)} {a:κ} {z0:υ} {m:Option M} [ht:HZ P t κ υ bq ek eu] [hz:SI P t υ eu z0] (hx:ay fr x=some v) (hy:ay fr y=some (ek a)) (hr:Dp ek eu Γ v xs)
  (h:D P cx (.o q all l rk Γ ((d,eu ((qf xs a).getD z0)) :: fr) m)):D P cx (.e q (.lookup t x y false) (some d) ty all l rk Γ fr m):=by
 refine D.of ?_
 intro B o ho r w ha hs pos ab g
 obtain ⟨Z,F,hS,_⟩:=id hs
 exact bu ((VQ.SP (z0:=z0) hx hy hr).sound hS ha _ _ _ _ _) (h.sound B o ho _ w (an ha) hs)
theorem stN {α:Type} {x y:OO} {v u:Value} {j:Int} {z:List α} {xs:List (List α)} {E:ah α} {Q:Value→List α→Prop} {t e ty:TI} {Γx:QE} {m:Option M} (h0:Rg v j Γ) (h1:lr Γ u false false E z o6 Γx) (h2:bz Γ (.om e (so Q (aV E)) v xs) Γ1)
  (h:D P cx (.o false all l rk (.om e (aV E) v (xs.set j.toNat z) :: Γ1) fr m)):D P cx (.sl .om v j u t x y ty all l rk Γ fr m):=by
 refine D.of ?_
 intro hT hx hy _ B o ho r w ha hs pos ab g
 obtain ⟨i,hi,me⟩:=hT
 obtain ⟨Z,F,hS,hg⟩:=hs
 obtain ⟨j0,j1⟩:=h0.sound hS
 obtain ⟨dg,_,⟨⟨k,hk,zQ⟩,_⟩,_⟩:=h1.sound hS
 obtain ⟨n,F1,hp,⟨us,gg,hO,hr0,n7,BH⟩,ep⟩:=h2.sound hS
 have hle:Le (so Q (aV E)) (aV E):=⟨rfl,fun h=>h.2⟩
 have hr:dm (aV E) w.heap us xs gg:=vI hle hr0
 replace BH:(aV E).size=1:=rfl
 have fw:=hg.perm hp
 have cp:=List.nodup_append.1 fw.nd
 have u4:∀ b∈k,Z b:=fun b hb=>(zQ b hb).elim (fun h=>h) (fun h=>h)
 have yS:∀ b∈n,¬ Z b:=fun b hb=>fw.apart b (List.mem_append_left _ hb)
 have hl:us.length=xs.length:=by have:=jq hr; rw [BH,Nat.mul_one] at this; exact this
 have wj:vG v=us.length:=o7 hO
 rw [wj,hl] at j1
 refine dj (Ia.store (E:=aV E) (G:=n) (B:=w.heap.size) (g:=gg) (k:=k) hi me ⟨us,⟨hO,cp.1,fun b hb=>.inl hb⟩,hr,BH⟩ (List.getElem?_eq_getElem j1) (aQ ha hx) (aQ ha hy) hk (fun b hb hm=>yS b hm (u4 b hb)) (fun b hb hm=>yS b hm (n7 b hb)) fun w' g' hC lu gq=>?_)
 obtain ⟨EC,bm,eh,Au⟩:=lu
 exact h.sound B o ho _ w' ha (St.put ep fw hC ⟨EC,_,bm.1,eh,(fun b hb=>(gq b hb).elim (n7 b) (u4 b)),Au⟩ bm.2.1 fun b hb=>.inl hb)
theorem QH {α:Type} {e:TI} {E:ah α} {v:Value} {xs:List α} {f:LN} {j:Int} {w:World} (h1:E.size=1) (hO:(aJ e E).rep w.heap [v] xs f) (hj:j.toNat < xs.length):∃ u,w.cell? (cn v 1 j)=some u:=by
 obtain ⟨base,cap,hv,hr⟩:=hO
 obtain rfl:v = .slice base xs.length cap:=by simpa using hv
 rcases hr with ⟨_,_,rfl,_⟩ | ⟨b,cur,f0,rfl,hg,rfl,BQ,BD,vy,c9⟩
 ·simp at hj
 ·rw [h1,Nat.mul_one] at vy
  have uf:cn (.slice (some ⟨b,0,none⟩) xs.length cap) 1 j = ⟨b,j.toNat,none⟩:=by
   simp only [cn,gw,Nat.zero_add,Nat.mul_one]
  rw [uf,cell_of_row w b _ cur e _ hg]
  exact ⟨_,Array.getElem?_eq_getElem (by omega)⟩
theorem stO {α:Type} {x0 y0:OO} {v u:Value} {j:Int} {z:α} {xs:List α} {t e ty:TI} {E:ah α} {m:Option M} (h0:Rg v j Γ) (h1:bz Γ (.own E u z) Γ1) (h2:bz Γ1 (.own (aJ e E) v xs) Γ2) (h3:E.size=1)
  (h:D P cx (.o false all l rk (.own (aJ e E) v (xs.set j.toNat z) :: Γ2) fr m)):D P cx (.st (cn v 1 j) u 1 t x0 y0 ty all l rk Γ fr m):=by
 refine D.of ?_
 intro hT hx hy B o bm r w ha b9 pos ab g
 obtain ⟨i,q1,q2⟩:=hT
 obtain ⟨Z,F,hS,hG⟩:=@_root_.id _ b9
 obtain ⟨j0,j1⟩:=h0.sound hS
 obtain ⟨k,F1,n9,hK,ep⟩:=h1.sound hS
 obtain ⟨fm,F2,nv,hO,ja⟩:=h2.sound ep
 rw [o7 hO] at j1
 obtain ⟨u0,Dw⟩:=QH h3 hO j1
 obtain ⟨k0,gm,a1,a2,a3⟩:=Aw h3 hO (List.getElem?_eq_getElem j1) Dw
 have uH:((k0++(k++(gm++F2)))).Perm F:=by
  refine .trans ?_ n9
  have e1:(k0++gm++F2).Perm F1:=(a2.append_right _).trans nv
  refine .trans ?_ (e1.append_left k)
  rw [← List.append_assoc,List.append_assoc k0 gm F2,← List.append_assoc k k0]
  exact List.perm_append_comm.append_right _
 have hpg:((gm++k)++F2++k0).Perm F:=by
  refine .trans ?_ uH
  refine .trans List.perm_append_comm ?_
  refine List.Perm.append_left k0 ?_
  rw [← List.append_assoc]
  exact List.perm_append_comm.append_right F2
 have l5:Gd B Z ((gm++k)++F2) w:=Gd.left (F':=k0) (hG.perm hpg)
 have cp:=(List.nodup_append.1 l5.nd).1
 obtain ⟨b,cap,cur,f1,f2,p,c0,qq,hv,g1,rfl,⟨g2,g3,g4,g5⟩,g6,⟨g7,g8⟩,g9,g10⟩:=a3
 obtain rfl:v = .slice (some ⟨b,0,none⟩) xs.length cap:=by simpa using hv
 have uf:cn (.slice (some ⟨b,0,none⟩) xs.length cap) 1 j = ⟨b,j.toNat,none⟩:=by
  simp only [cn,gw,Nat.zero_add,Nat.mul_one]
 rw [uf] at hx
 have av:Row w b cur.toList e:=by unfold Row; simpa using g1
 have Np:∀ i∈(f1++f2)++k,i≠b:=by
  intro i hi he
  subst he
  have e1:((i :: (f1++f2))++k)=i :: ((f1++f2)++k):=rfl
  rw [e1] at cp
  exact (List.nodup_cons.1 cp).1 hi
 refine dj (WL.DS q1 q2 av (by rw [Array.length_toList,g4]; omega) (aQ ha hx) (aQ ha hy) (E.one hK u (by simp)) fun w' hC lz=>h.sound B o bm _ w' ha ?_)
 have E0:∀ i∈(f1++f2)++k,i < w.heap.size→w'.heap[i]? = w.heap[i]?:=fun i hi hl=>hC.block i hl fun hm=>Np i hi (by simpa using hm)
 have Wv:E.rep w'.heap [u] z k:=E.congr hK fun i hi=>E0 i (List.mem_append_right _ hi) (E.lt hK i hi)
 have Eu:=g10 w'.heap (fun i hi=>E0 i (List.mem_append_left _ hi) (g9 i hi)) u z k Wv
 refine St.put (f:=(b :: (f1++f2))++k) (f':=b :: (f1++k++f2)) ja l5 (hC.mono fun i hi=>by rw [List.mem_singleton.1 hi]; simp) ⟨_,cap,by rw [List.length_set],.inr ⟨b,_,f1++k++f2,rfl,lz,rfl,by rw [List.length_set]; exact g2,g3,?_,?_⟩⟩ ?_ ?_
 ·rw [g5]; simp [g4]
 ·have pr:((cur.toList.set j.toNat u).take xs.length)=p++[u]++qq:=by
   rw [List.take_set,g6,← g7]
   simp
  rw [List.length_set,g5,Nat.mul_one]
  simpa [pr] using Eu
 ·have xN:(b :: (f1++k++f2)).Perm ((b :: (f1++f2))++k):=by
   rw [List.cons_append]
   refine List.Perm.cons b ?_
   rw [List.append_assoc,List.append_assoc]
   exact List.Perm.append_left f1 List.perm_append_comm
  exact xN.nodup_iff.2 cp
 ·intro i hi
  refine .inl ?_
  rcases List.mem_cons.1 hi with rfl | hi
  ·simp
  ·rcases List.mem_append.1 hi with hi | hi
   ·rcases List.mem_append.1 hi with hi | hi <;> simp [hi]
   ·simp [hi]
theorem St.acx {B:Bs} {Γ Δ Γ1 Γ2 Γ3:QE} {w:World} (h:St B Γ w) (h0:EF Γ Δ Γ1) (h1:EO Γ1 Γ2 Γ3) (h2:MF Γ none Γ2):St B (Δ.reverse++Γ2) w:=by
 obtain ⟨Z,F,hs,hg⟩:=h
 obtain ⟨Fd,F',Zn,a1,a2,a3⟩:=h0.sound hs
 obtain ⟨Vk,F3,c1,c2,c3⟩:=h1.sound a2
 obtain ⟨F2,b1,b2⟩:=HL.build a1 (h2.sound (hs.left (f:=Zn)) (dg:=[]) (by rintro e he; cases he) c1)
 refine St.of (F':=Fd++Vk) b2 (Gd.left (F':=F3) ((Gd.freeze (hg.perm a3) fun b hb=>hs.lt b (a3.mem_iff.1 (List.mem_append_right _ hb))).perm ?_)) b1
 rw [List.append_assoc]
 exact c3.append_left Fd
theorem Wx {S V:Type} {k:Nat} {Δ:S→V→List aq} {φ:S→V→Fr} {Γ2 Γ3:QE} {f2:Fr} {s:S} {v:V} (_hv:uA V v) (ha:qm fr (φ s v)) (hf:qm fr f2) (h0:EF Γ (Δ s v) Γ1) (h1:EO Γ1 Γ2 Γ3) (h2:MF Γ none Γ2):D P cx (.n ⟨[],.loop V k Δ φ Γ2 f2⟩ Γ fr (some (.norm s))):=by
 refine .inj (bxi ?_)
 intro B o ho r w tG hs
 cases ho
 exact ⟨v,uD (ha.all tG) (hf.sound tG),hs.acx h0 h1 h2⟩
theorem join {S S1 V:Type} {t k:Nat} {b:Bool} (Δ:S1→V→List aq) (φ:S1→V→Fr) (v0:V) (f2:Fr) {iz:List KI} {kb:Kb R S} {x y:Code} {s0:S1} {m0:Option (Out S1 R)} {f:S1→Option (Out S R)}
   (_ha:qm fr (φ s0 v0)) (_hf:qm fr f2) (_h0:EO Γ (Δ s0 v0) Γ1) (_hs:jy Γ1 Γ2)
   (hb:D P cx (.cd b ⟨[],.loop V k Δ φ Γ2 f2⟩ x y Γ fr m0)) (hk:∀ s v,D P cx (.p (φ s v) (Δ s v) f2 Γ2 fun fr Γ=>.n ⟨iz,kb⟩ Γ fr (f s))):D P cx (.cd b ⟨iz,kb⟩ x y Γ fr (jn t s0 m0 f)):=by
 refine .inj (bxi ?_)
 intro B o ho r w tG oh
 replace ho:ag m0 f=some o:=ho
 cases hm:m0 with
 | none=>rw [hm] at ho; cases ho
 | some o0=>
  have h1:=hb.sound B o0 hm r w tG oh
  rw [hm] at ho
  have hq:∀ e r w,ku P cx B ⟨[],.loop V k Δ φ Γ2 f2⟩ o0 e r w→ku P cx B ⟨iz,kb⟩ o e r w:=by
   intro e r w hp
   cases o0 with
   | norm s=>
    cases e with
    | normal=>obtain ⟨v,a1,a2⟩:=hp; exact (hk s v).sound B o ho r w a1 a2
    | _=>exact hp.elim
   | exit j s=>cases ho
   | ret y=>
    cases ho
    cases e with
    | ret=>exact yO hp
    | _=>exact hp.elim
  exact ⟨fun h=>wy (h1.1 h) hq,fun h=>wy (h1.2 h) hq⟩
theorem Tf {S S1 V A:Type} {t k:Nat} {b:Bool} (a0:A) (Δ:A→S1→V→List aq) (φ:A→S1→V→Fr) (v0:V) (f2:Fr) {iz:List KI} {kb:Kb R S} {x y:Code} {s0:S1} {m0:Option (Out S1 R)} {f:S1→Option (Out S R)}
   (ha:qm fr (φ a0 s0 v0)) (hf:qm fr f2) (h0:EO Γ (Δ a0 s0 v0) Γ1) (hs:jy Γ1 Γ2)
   (hb:D P cx (.cd b ⟨[],.loop V k (Δ a0) (φ a0) Γ2 f2⟩ x y Γ fr m0)) (hk:∀ s v,D P cx (.p (φ a0 s v) (Δ a0 s v) f2 Γ2 fun fr Γ=>.n ⟨iz,kb⟩ Γ fr (f s))):D P cx (.cd b ⟨iz,kb⟩ x y Γ fr (jn t s0 m0 f)):=
 join (Δ a0) (φ a0) v0 f2 ha hf h0 hs hb hk
theorem gjn {S S1:Type} (t:Nat) {b:Bool} {K:ch R S} {x y:Code} {s0:S1} {m0:Option (Out S1 R)} {f:S1→Option (Out S R)} (h:D P cx (.cd b K x y Γ fr (jn t s0 m0 f))):D P cx (.cd b K x y Γ fr (jn t s0 m0 f)):=h
theorem gje {S V:Type} (k:Nat) {Δ:S→V→List aq} {φ:S→V→Fr} {Γ2:QE} {f2:Fr} {m:Option (Out S R)} (h:D P cx (.n ⟨[],.loop V k Δ φ Γ2 f2⟩ Γ fr m)):D P cx (.n ⟨[],.loop V k Δ φ Γ2 f2⟩ Γ fr m):=h
theorem rwU {S:Type} {t:Nat} {K:ch R S} {ops:LO} {m:Option (Out S R)} (_ht:Ev ops=some t) (h:D P cx (.o false ops ops (.s K) Γ fr m)):D P cx (.rw false ops K Γ fr m):=.rwu h
theorem tV {S:Type} {b:Bool} {t:Nat} {K:ch R S} {x y:Code} {m1 m2:Option (Out S R)} (hl:look fr t=some (.bool b)) (h1:D P cx (.c K x Γ ((t,.bool true) :: fr) m1)) (h2:D P cx (.c K y Γ ((t,.bool false) :: fr) m2)):D P cx (.cd b K x y Γ fr (bif b then m1 else m2)):=by
 refine D.of ?_
 have hc:∀ {r:NV},cq r fr→∀ c,b=c→cq r ((t,.bool c) :: fr):=by
  intro r ha c hb s u hs
  unfold look at hs
  cases oh:Nat.beq s t with
  | true=>
   rw [oh] at hs
   cases hs
   obtain rfl:=Nat.eq_of_beq_eq_true oh
   rw [← hb]
   exact ha _ _ hl
  | false=>rw [oh] at hs; exact ha _ _ hs
 exact fun B o ho r w ha hs=>⟨fun h=>h1.sound B o (by rw [h] at ho; exact ho) r w (hc ha _ h) hs,fun h=>h2.sound B o (by rw [h] at ho; exact ho) r w (hc ha _ h) hs⟩
theorem SV {α β:Type} {q:Bool} {d:Nat} {x y:OO} {v:Value} {k:IntKind} {j:Int} {t ty:TI} {o1 o2 p1 p2:Bool} {E:ah α} {E2:ah β} {z:β} {xs:List α} {Γx:QE} {m:Option M} [ht:tT P t] (hx:ay fr x=some v) (hy:ay fr y=some (.int k j)) (hr:lr Γ v o1 o2 E xs o6 Γx) (hi:In (.ad p1 p2 v j E2 z) Γ) (hE:E.size=1)
  (h:D P cx (.o q all l rk Γ ((d,.pointer (some (cn v 1 j))) :: fr) m)):D P cx (.e q (.indexAddr t x y) (some d) ty all l rk Γ fr m):=by
 refine D.of ?_
 intro B o ho r w ha hs pos ab g
 obtain ⟨Z,F,hS,_⟩:=@_root_.id _ hs
 obtain ⟨_,_,⟨⟨n',mh,_⟩,_⟩,_⟩:=hr.sound hS
 obtain ⟨j0,j1⟩:=hi.ad hS
 obtain ⟨a,c,kh⟩:=tu mh
 have bb:j.toNat < xs.length:=by rw [kh] at j1; exact j1
 exact bu (Ix ht.h mh ⟨j0,List.getElem?_eq_getElem bb⟩ (aQ ha hx) (aQ ha hy) hE) (h.sound B o ho _ w (an ha) hs)
class xW {α:Type} (S:ah α) (V:outParam Type) (cl:outParam (α→V→List Value)) (en:outParam (α→V→List aq)):Prop where
 ow:∀ x v,qu (en x v)=true
 op:∀ {w:World} {cs:LV} {x:α} {g:LN},S.rep w.heap cs x g→∃ v,cs=cl x v∧∀ Z:Nat→Prop,HL Z w (en x v) g
 cl:∀ {w:World} {x:α} {v:V} {Z:Nat→Prop} {g:LN},HL Z w (en x v) g→S.rep w.heap (cl x v) x g
theorem xW.i {k:IntKind}:xW (aN k) Unit (fun x _=>[.int k x]) (fun _ _=>[]):=
 ⟨fun _ _=>rfl,fun h=>⟨(),h.1,fun _=>by rw [h.2]; exact .nil⟩,fun h=>by cases h; exact ⟨rfl,rfl⟩⟩
theorem xW.s {α:Type} {e:TI} {E:ah α}:xW (aJ e E) Value (fun _ v=>[v]) (fun x v=>[.own (aJ e E) v x]):=by
 refine ⟨fun _ _=>rfl,fun {w cs x g} h=>?_,fun {w x v Z g} h=>?_⟩
 ·obtain ⟨base,cap,rfl,hr⟩:=h
  refine ⟨_,rfl,fun Z=>?_⟩
  have:=HL.own (Z:=Z) (w:=w) (e:=.own (aJ e E) (.slice base x.length cap) x) (f:=g) ⟨base,cap,rfl,hr⟩ .nil
  rwa [List.append_nil] at this
 ·cases h with
  | own h k=>cases k; rw [List.append_nil]; exact h
  | fact h _=>exact h.elim
theorem xW.ip {β V:Type} {k:IntKind} {B:ah β} {cl:β→V→List Value} {en:β→V→List aq} (h:xW B V cl en):xW (jb (aN k) B) V (fun x v=>.int k x.1 :: cl x.2 v) (fun x v=>en x.2 v):=by
 refine ⟨fun x v=>h.ow x.2 v,fun {w cs x g} hr=>?_,fun {w x v Z g} he=>?_⟩
 ·obtain ⟨c1,c2,f1,f2,rfl,rfl,⟨rfl,rfl⟩,h2⟩:=hr
  obtain ⟨v,rfl,hv⟩:=h.op h2
  exact ⟨v,rfl,hv⟩
 ·exact ⟨[_],_,[],g,rfl,rfl,⟨rfl,rfl⟩,h.cl he⟩
theorem xW.sp {α β V:Type} {e:TI} {E:ah α} {B:ah β} {cl:β→V→List Value} {en:β→V→List aq} (h:xW B V cl en):xW (jb (aJ e E) B) (Value×V) (fun x v=>v.1 :: cl x.2 v.2) (fun x v=>.own (aJ e E) v.1 x.1 :: en x.2 v.2):=by
 refine ⟨fun x v=>h.ow x.2 v.2,fun {w cs x g} hr=>?_,fun {w x v Z g} he=>?_⟩
 ·obtain ⟨c1,c2,f1,f2,rfl,rfl,h1,h2⟩:=hr
  obtain ⟨base,cap,rfl,yN⟩:=h1
  obtain ⟨v,rfl,hv⟩:=h.op h2
  exact ⟨(_,v),rfl,fun Z=>.own ⟨base,cap,rfl,yN⟩ (hv Z)⟩
 ·cases he with
  | own h1 k=>
   obtain ⟨base,cap,hb,yN⟩:=h1
   exact ⟨[_],_,_,_,rfl,rfl,⟨base,cap,hb,yN⟩,h.cl k⟩
  | fact h1 _=>exact h1.elim
theorem xW.mp {α β V:Type} {f:β→α} {A:ah α} {cl:α→V→List Value} {en:α→V→List aq} (h:xW A V cl en):xW (An f A) V (fun y v=>cl (f y) v) (fun y v=>en (f y) v):=
 ⟨fun y v=>h.ow (f y) v,fun hr=>h.op hr,fun he=>h.cl he⟩
inductive Wy {α:Type} (S:ah α) (V:Type) (cl:α→V→List Value) (en:α→V→List aq):Prop
 | mk [h:xW S V cl en]:Wy S V cl en
theorem aac:∀ {Δ:QE} {F:LN},qu Δ=true→HO Z w Δ F→HL Z w Δ F:=by
 intro Δ
 induction Δ with
 | nil=>intro F _ h; cases h; exact .nil
 | cons e Δ ih=>
  intro F ho h
  cases e with
  | own T v x=>cases h with | own h k=>exact .own h (ih ho k)
  | row b cs t=>cases h with | own h k=>exact .own h (ih ho k)
  | _=>exact absurd ho (by simp [qu])
theorem apO {α V:Type} {S:ah α} {cl:α→V→List Value} {en:α→V→List aq} (y:α) {u:V} {d b n e bt:Nat} {s x:OO} {sv:Value} {xs:List α} {cs:LV} {t et ty:TI} {f:Unit→Option M} [ht:HY P t e n bt]
  (hs:ay fr s=some sv) (hx:ay fr x=some (.slice (some ⟨b,0,none⟩) 1 1)) (h0:bz Γ (.row b cs et) Γ1) (h1:bz Γ1 (.own (aJ e S) sv xs) Γ2) (qn:Wy S V cl en) (_hv:uA V u) (hc:cs=cl y u) (hn:S.size=n) (he:EO Γ2 (en y u) Γ3)
  (h:∀ v,D P cx (.o false all l rk (.own (aJ e S) v (xs++[y]) :: Γ3) ((d,v) :: fr) (f ()))):D P cx (.e false (.call ⟨.builtin .append,#[s,x],#[t,t]⟩) (some d) ty all l rk Γ fr (fits bt (xs.length+1)>>=f)):=by
 refine D.of ?_
 intro B o bm r w ha b9 pos ab g
 have Gl:xW S V cl en:=by cases qn; assumption
 obtain ⟨_,hu,bm⟩:=bind_some bm
 obtain ⟨b1,b2⟩:=ie hu
 obtain ⟨q1,i,z,q2,q3,q4,q5,q6,_⟩:=ht.h
 obtain ⟨Z,F,hS,hG⟩:=b9
 obtain ⟨n0,F0,r3,⟨rfl,av⟩,sL⟩:=h0.sound hS
 obtain ⟨k,F1,hp,hO,ep⟩:=h1.sound sL
 obtain ⟨Fd,F2,hho,ja,nv⟩:=he.sound ep
 have hy:S.rep w.heap (cl y u) y Fd:=Gl.cl (aac (Gl.ow y u) hho)
 have tr:(((k++Fd)++F2)++[b]).Perm F:=by
  refine .trans ?_ r3
  refine List.perm_append_comm.trans ?_
  refine List.Perm.append_left [b] ?_
  rw [List.append_assoc]
  exact (nv.append_left k).trans hp
 have l5:Gd B Z ((k++Fd)++F2) w:=Gd.left (F':=[b]) (hG.perm tr)
 have cp:=(List.nodup_append.1 l5.nd).1
 have xH:=List.nodup_append.1 cp
 subst hc
 obtain ⟨v,w',f',jl,hC,c9,bp,vP⟩:=kv (E:=S) (d:=some d) (ty:=ty) (pos:=pos) (ab:=ab) (g:=none) (k:=Fd) (ys:=[y]) (news:=cl y u) q1 q2 q3 (by rw [q5,hn]) (by rw [q4,hn]) (aQ ha hs) hO xH.1 (aQ ha hx) (fun i u hi=>av.at i u hi) (l6 hy) (fun b hb hm=>xH.2.2 b hm b hb rfl) (by simp) (by rw [q6]; exact b1) b2
 refine dj (WL.val rfl jl ((h v).sound B o bm _ w' (an ha) ?_))
 refine St.put ja l5 (hC.mono fun b hb=>List.mem_append_left _ hb) c9 (vP xH.2.1) fun b hb=>?_
 rcases bp b hb with h | h | h
 ·exact .inl (List.mem_append_left _ h)
 ·exact .inl (List.mem_append_right _ h)
 ·exact .inr h
end
end Go.Dk
namespace Go.Dk
open Go Go.Li
section
variable {P:Program} {n:Nat} {l:LO} {Q:Exit→(Nat→Value)→World→Prop} {S:World→Prop}
def Hw (P:Program) (n:Nat) (l:LO) (Q:Exit→(Nat→Value)→World→Prop) (S:World→Prop) (k:Nat) (L:Array Bool) (r:NV) (w:World):Prop:=
 ∀ a:Act,a.tmps.size=n→a.defers=[]→cu a=r→wpAnyH P .any l.toArray (fun e a' w'=>a'.tmps.size=n∧a'.defers=[]∧Q e (cu a') w') S k L a w
theorem xX {i:Nat} {o:Oper} {a:Act} (hd:dh n l=true) (hi:l[i]? = some o) (h1:a.tmps.size=n):∀ k,o.dst=some k→k < a.tmps.size:=by
 intro k hk
 have hm:o∈l:=List.mem_of_getElem? hi
 simp only [dh,List.all_eq_true] at hd
 have:=hd o hm
 rw [hk] at this
 rw [h1]
 exact Nat.lt_of_succ_le (Nat.le_of_ble_eq_true this)
theorem Hw.take {k i:Nat} {L:Array Bool} {o:Oper} {v:Value} {r:NV} {w:World} (hd:dh n l=true) (hi:l[i]? = some o) (hs:Region.noSelect l.toArray=true) (hf:Region.free .any l.toArray L i=true) (hr:(Region.ready .any l.toArray L).contains i=true)
  (hp:∀ c r w,¬ Q (.panic c) r w) (hg:o.guard=none) (hy:∀ w,S w→(execOp (ev r) o).run P w = .ok (.value v) w) (hS:S w) (h:Hw P n l Q S k (L.setIfInBounds i true) (gf r o.dst v) w):Hw P n l Q S (k+1) L r w:=by
 intro a h1 h2 h3
 refine wpAnyH_take (v:=v) (by simpa using hi) hs hf hr (fun c a w h=>(hp _ _ _ h.2.2).elim) (.inl ⟨tS hg,fun w hw=>?_⟩) hS (h _ (by rw [iT]; exact h1) (by rw [fu]; exact h2) (by rw [js (xX hd hi h1),h3]))
 rw [ny,h3]
 exact hy w hw
theorem Hw.step {k i:Nat} {L:Array Bool} {o:Oper} {r:NV} {w w':World} (hd:dh n l=true) (hi:l[i]? = some o) (hr:Region.ready .any l.toArray L=[i]) (hg:o.guard=none) (hy:(execOp (ev r) o).run P w = .ok .skip w') (hS:S w') (h:Hw P n l Q S k (L.setIfInBounds i true) (gf r o.dst undef) w'):Hw P n l Q S (k+1) L r w:=by
 intro a h1 h2 h3
 refine wpAnyH_all hr (by simp) fun j hj=>?_
 obtain rfl:j=i:=by simpa using hj
 unfold wpOp
 rw [show (l.toArray)[j]? = some o by simpa using hi]
 simp only []
 rw [if_pos (tS hg)]
 refine .inl ?_
 unfold Oper.wp
 rw [ny,h3,hy]
 exact ⟨hS,h _ (by rw [iT]; exact h1) (by rw [fu]; exact h2) (by rw [js (xX hd hi h1),h3])⟩
theorem Hw.done {k:Nat} {L:Array Bool} {r:NV} {w:World} (hr:Region.ready .any l.toArray L=[]) (h:Q .normal r w):Hw P n l Q S k L r w:=
 fun _ h1 h2 h3=>wpAnyH_done hr ⟨h1,h2,by rw [h3]; exact h⟩ k
theorem Hw.start {r:NV} {w:World} (h:Hw P n l Q S l.length (Array.replicate l.length false) r { w with drawn:=w.drawn+1 }):py P n l Q r w:=
 fun a h1 h2 h3=>wpAny_of_held _ _ _ _ (h a h1 h2 h3)
def Dz (P:Program) (S:World→Prop):List Oper→(Nat→Value)→((Nat→Value)→Prop)→Prop
 | [],r,K=>K r
 | o :: l,r,K=>o.guard=none∧∃ v,(∀ w,S w→(execOp (ev r) o).run P w = .ok (.value v) w)∧Dz P S l (gf r o.dst v) K
def QI (l:LO) (e:Array Bool→Bool):List Nat→Array Bool→Bool
 | [],L=>e L
 | i :: ss,L=>Nat.blt i l.length && (Region.ready .any l.toArray L == [i]) && QI l e ss (L.setIfInBounds i true)
def QJ (l:LO) (e:Array Bool→Bool):List Nat→Array Bool→Bool
 | [],L=>e L
 | i :: qs,L=>Nat.blt i l.length && (Region.ready .any l.toArray L).contains i && Region.free .any l.toArray L i && QJ l e qs (L.setIfInBounds i true)
def Mk (l:LO) (L:Array Bool):Bool:=(Region.ready .any l.toArray L).isEmpty
def pick (l:LO) (is:LN):List Oper:=is.map fun i=>l.getD i default
theorem Gm {i:Nat} (h:Nat.blt i l.length=true):l[i]? = some (l.getD i default):=by
 have h1:i < l.length:=Nat.lt_of_succ_le (Nat.le_of_ble_eq_true h)
 rw [List.getD_eq_getElem?_getD,List.getElem?_eq_getElem h1]; rfl
theorem Hw.quiet (hd:dh n l=true) (hs:Region.noSelect l.toArray=true) (hp:∀ c r w,¬ Q (.panic c) r w) {e:Array Bool→Bool} {m:Nat} {w:World} (hS:S w) {K:(Nat→Value)→Prop} (h:∀ L r,e L=true→K r→Hw P n l Q S m L r w) :
  ∀ (qs:LN) (L:Array Bool) (r:NV),QJ l e qs L=true→Dz P S (pick l qs) r K→Hw P n l Q S (qs.length+m) L r w:=by
 intro qs
 induction qs with
 | nil=>intro L r hc hv; rw [List.length_nil,Nat.zero_add]; exact h L r hc hv
 | cons i qs ih=>
  intro L r hc hv
  unfold QJ at hc
  simp only [Bool.and_eq_true] at hc
  obtain ⟨⟨⟨c1,c2⟩,c3⟩,c4⟩:=hc
  obtain ⟨hg,v,h1,h2⟩:=hv
  have:=Hw.take hd (Gm c1) hs c3 c2 hp hg h1 hS (ih _ _ c4 h2)
  rwa [show qs.length+m+1=(i :: qs).length+m by simp; omega] at this
end
inductive JQ
 | q (ops:LO) (fr:Fr)
 | la (a:Addr) (lk:Option Nat) (t:TI) (x:OO) (d:Nat) (ty:TI) (pos:String) (ab:Array Edge) (ops:LO) (fr:Fr)
inductive QA (P:Program) (Γ:QE):JQ→Fr→Prop
 | nil {fr:Fr}:QA P Γ (.q [] fr) fr
 | ld {d:Nat} {t ty:TI} {x:OO} {lk:Option Nat} {a:Addr} {pos:String} {ab:Array Edge} {ops:LO} {fr qo:Fr} [ht:LK P t lk] (hx:ay fr x=some (.pointer (some a))) (h:QA P Γ (.la a lk t x d ty pos ab ops fr) qo):QA P Γ (.q (⟨some d,.load t x,ty,pos,ab,none⟩ :: ops) fr) qo
 | val {d:Nat} {op:Op} {ty:TI} {u:Value} {pos:String} {ab:Array Edge} {ops:LO} {fr qo:Fr} (hv:VQ P Γ fr op u) (h:QA P Γ (.q ops ((d,u) :: fr)) qo):QA P Γ (.q (⟨some d,op,ty,pos,ab,none⟩ :: ops) fr) qo
 | lc {d:Nat} {t ty:TI} {x:OO} {a:Addr} {u:Value} {pos:String} {ab:Array Edge} {ops:LO} {fr qo:Fr} (h:o5 Γ a u) (k:QA P Γ (.q ops ((d,u) :: fr)) qo):QA P Γ (.la a none t x d ty pos ab ops fr) qo
 | ls {d n:Nat} {t ty:TI} {x:OO} {a:Addr} {ds:LV} {pos:String} {ab:Array Edge} {ops:LO} {fr qo:Fr} (h:ug Γ a n ds) (k:QA P Γ (.q ops ((d,.agg ds.toArray) :: fr)) qo):QA P Γ (.la a (some n) t x d ty pos ab ops fr) qo
inductive RO (fr:Fr):List Oper→List aq→List (Nat×List Value×TypeId)→List aq→Prop
 | nil {Γ:QE}:RO fr [] Γ [] Γ
 | cons {t ty e:TI} {x y:OO} {b:Nat} {cs:LV} {pos:String} {ab:Array Edge} {ops:LO} {Γ Γ1 Γ2:QE} {rs:List (Nat×List Value×TypeId)} (hx:ay fr x=some (.pointer (some ⟨b,0,none⟩))) (h:bz Γ (.row b cs e) Γ1) (k:RO fr ops Γ1 rs Γ2):RO fr (⟨none,.store t x y,ty,pos,ab,none⟩ :: ops) Γ ((b,cs,e) :: rs) Γ2
inductive SQ (P:Program) (Γ:QE) (fr:Fr):List Oper→List (Nat×List Value×TypeId)→List (Nat×List Value×TypeId)→Prop
 | nil:SQ P Γ fr [] [] []
 | cons {n:Nat} {t ty e:TI} {x y:OO} {b:Nat} {u:Value} {us cs ds:LV} {pos:String} {ab:Array Edge} {ops:LO} {rs vf:List (Nat×List Value×TypeId)} [ht:sI P t n] (hx:ay fr x=some (.pointer (some ⟨b,0,none⟩))) (hy:ay fr y=some u) (hc:rU Γ u us) (hn:us.length=n) (hs:sJ us 0 cs ds) (ho:uZ Γ us) (k:SQ P Γ fr ops rs vf) :
   SQ P Γ fr (⟨none,.store t x y,ty,pos,ab,none⟩ :: ops) ((b,cs,e) :: rs) ((b,ds,e) :: vf)
def Ml:List (Nat×List Value×TypeId)→List aq
 | []=>[]
 | (b,cs,e) :: l=>.row b cs e :: Ml l
def Rows (w:World) (rs:List (Nat×List Value×TypeId)):Prop:=∀ p∈rs,Row w p.1 p.2.1 p.2.2
section
variable {P:Program} {Γ Γ2:QE} {S:World→Prop} {Z:Nat→Prop}
def acy (P:Program) (S:World→Prop):JQ→Fr→Prop
 | .q ops fr,qo=>∀ r,cq r fr→Dz P S ops r fun r'=>cq r' qo
 | .la a lk t x d ty pos ab ops fr,qo=>(match lk with | none=>NA P t | some n=>AG P t n)→ay fr x=some (.pointer (some a))→∀ r,cq r fr→Dz P S (⟨some d,.load t x,ty,pos,ab,none⟩ :: ops) r fun r'=>cq r' qo
theorem QA.sound {J:JQ} {qo:Fr} (hS:∀ w,S w→∃ cur F,SA Z w Γ cur F) (h:QA P Γ J qo):acy P S J qo:=by
 induction h with
 | nil=>exact fun r h=>h
 | @ld d t ty x lk a pos ab ops fr qo ht hx _ ih=>exact fun r ha=>ih ht.h hx r ha
 | @val d op ty u pos ab ops fr qo hv _ ih=>
  intro r ha
  refine ⟨rfl,u,fun w hw=>?_,ih _ (an ha)⟩
  obtain ⟨cur,F,h⟩:=hS w hw
  exact hv.sound h ha (some d) ty pos ab none w (ak.refl _ _)
 | @lc d t ty x a u pos ab ops fr qo h _ ih=>
  intro ht hx r ha
  refine ⟨rfl,u,fun w hw=>?_,ih _ (an ha)⟩
  obtain ⟨cur,F,hs⟩:=hS w hw
  exact Ld ht (h.sound hs) (aQ ha hx) w (ak.refl _ _)
 | @ls d n t ty x a ds pos ab ops fr qo h _ ih=>
  intro ht hx r ha
  refine ⟨rfl,_,fun w hw=>?_,ih _ (an ha)⟩
  obtain ⟨cur,F,hs⟩:=hS w hw
  obtain ⟨h1,h2⟩:=h.sound hs
  exact Lg ht h1 (aQ ha hx) h2 w (ak.refl _ _)
theorem RO.sound {fr:Fr} {ops:LO} {rs:List (Nat×List Value×TypeId)} {w:World} (h:RO fr ops Γ rs Γ2):∀ {F:LN},SA Z w Γ [] F→∃ F2,(rs.map (·.1)++F2).Perm F∧Rows w rs∧SA Z w Γ2 [] F2:=by
 induction h with
 | nil=>intro F h; exact ⟨F,.refl _,fun _ h=>absurd h List.not_mem_nil,h⟩
 | @cons t ty e x y b cs pos ab ops Γ Γ1 Γ2 rs hx h _ ih=>
  intro F hS
  obtain ⟨f,F1,hp,⟨rfl,av⟩,ep⟩:=h.sound hS
  obtain ⟨F2,nv,hr,ja⟩:=ih ep
  refine ⟨F2,?_,fun p hp=>?_,ja⟩
  ·exact .trans (List.Perm.cons b nv) hp
  ·rcases List.mem_cons.1 hp with rfl | hp
   ·exact av
   ·exact hr p hp
theorem SQ.sound {n m:Nat} {e:Array Bool→Bool} {l:LO} {Q:Exit→(Nat→Value)→World→Prop} {fr:Fr} {ops:LO} {rs vf:List (Nat×List Value×TypeId)} {F2:LN} {w0:World} {r:NV} {F:LN} (hd:dh n l=true) (ha:cq r fr) (hSA:∀ w,ak F w0 w→SA Z w Γ2 [] F2) (h:SQ P Γ2 fr ops rs vf) :
  ∀ (ss:LN) (L:Array Bool) (w:World),ops=pick l ss→QI l e ss L=true→ak F w0 w→Rows w rs→(rs.map (·.1)).Nodup→(∀ b∈rs.map (·.1),b∈F)→(∀ L w',e L=true→ak F w0 w'→ak (rs.map (·.1)) w w'→Rows w' vf→Hw P n l Q (ak F w0) m L r w')→Hw P n l Q (ak F w0) (ss.length+m) L r w:=by
 induction h with
 | nil=>
  intro ss L w ho hc hC hR hn hF hk
  cases ss with
  | cons i ss=>cases ho
  | nil=>
   rw [List.length_nil,Nat.zero_add]; exact hk L w hc hC (ak.refl _ _) hR
 | @cons n' t ty e' x y b u us cs ds pos ab ops rs vf ht hx hy uN hn hsg hon _ ih=>
  intro ss L w ho hc hC hR cp hF hk
  cases ss with
  | nil=>cases ho
  | cons i ss=>
   unfold QI at hc
   simp only [Bool.and_eq_true] at hc
   obtain ⟨⟨c1,c2⟩,c3⟩:=hc
   have bm:l.getD i default = ⟨none,.store t x y,ty,pos,ab,none⟩∧ops=pick l ss:=by
    unfold pick at ho
    rw [List.map_cons,List.cons.injEq] at ho
    exact ⟨ho.1.symm,ho.2⟩
   have hi:=Gm c1
   rw [bm.1] at hi
   obtain ⟨ti,q1,q2⟩:=ht.h
   have av:Row w b cs e':=hR (b,cs,e') (by simp)
   obtain ⟨e1,e2⟩:=hsg.eq
   have hSw:=hSA w hC
   have jl:=tU (P:=P) (d:=none) (ty:=ty) (pos:=pos) (ab:=ab) (gg:=none) q1 (by rw [hn,q2]) av e1 (aQ ha hx) (y:=y) (by rw [aQ ha hy]; exact uN.eq hSw) (hon.one hSw)
   have lz:=setRow_heap w b cs.toArray (cs.take 0++us++cs.drop (0+us.length)).toArray e' _ av
   have xY:ak [b] w (w.setRow b (cs.take 0++us++cs.drop (0+us.length)).toArray):=⟨rfl,rfl,rfl,Nat.le_refl _,by simp,fun j _ hj=>setRow_other w b j _ fun h=>hj (by simp [h])⟩
   have hC2:=hC.trans (xY.mono fun b' cg=>by rw [List.mem_singleton.1 cg]; exact hF b (by simp))
   rw [List.map_cons,List.nodup_cons] at cp
   rw [show (i :: ss).length+m=ss.length+m+1 by simp; omega]
   refine Hw.step hd hi (by simpa using c2) rfl jl hC2 (ih ss _ _ bm.2 c3 hC2 (fun p hp=>(hR p (List.mem_cons_of_mem _ hp)).dp xY fun hb=>cp.1 ?_) cp.2 (fun b' cg=>hF b' (by simp at cg ⊢; exact .inr cg)) fun L' w' he zU r4 hR'=>?_)
   ·rw [← List.mem_singleton.1 hb]; exact List.mem_map_of_mem (f:=fun q=>q.1) hp
   ·refine hk L' w' he zU ((xY.mono (by simp)).trans (r4.mono fun b' cg=>List.mem_cons_of_mem _ cg)) fun p hp=>?_
    rcases List.mem_cons.1 hp with rfl | hp
    ·refine Row.dp (F:=rs.map (·.1)) ?_ r4 cp.1
     rw [e2]
     exact lz
    ·exact hR' p hp
theorem SQ.fst {fr:Fr} {ops:LO} {rs vf:List (Nat×List Value×TypeId)} (h:SQ P Γ fr ops rs vf):vf.map (·.1)=rs.map (·.1):=by
 induction h with
 | nil=>rfl
 | cons _ _ _ _ _ _ _ ih=>simp only [List.map_cons,ih]
end
section
variable {R S:Type} {P:Program} {cx:Cx R} {K:ch R S} {l:LO}
end
theorem Hw.all {P:Program} {n k:Nat} {l:LO} {Q:Exit→(Nat→Value)→World→Prop} {S:World→Prop} {L:Array Bool} {rs:LN} {r:NV} {w:World} (hd:dh n l=true) (hr:Region.ready .any l.toArray L=rs) (mc:rs≠[])
  (h:∀ i∈rs,∃ o,l[i]? = some o∧o.guard=none∧∃ v w',((execOp (ev r) o).run P w = .ok (.value v) w'∨(execOp (ev r) o).run P w = .ok .skip w'∧v=undef)∧S w'∧Hw P n l Q S k (L.setIfInBounds i true) (gf r o.dst v) w'):Hw P n l Q S (k+1) L r w:=by
 intro a h1 h2 h3
 refine wpAnyH_all hr mc fun j hj=>?_
 obtain ⟨o,hi,hg,v,w',hy,hS,hk⟩:=h j hj
 unfold wpOp
 rw [show (l.toArray)[j]? = some o by simpa using hi]
 simp only []
 rw [if_pos (tS hg)]
 refine .inl ?_
 unfold Oper.wp
 rw [ny,h3]
 rcases hy with hy | ⟨hy,rfl⟩
 ·rw [hy]
  exact ⟨hS,hk _ (by rw [iT]; exact h1) (by rw [fu]; exact h2) (by rw [js (xX hd hi h1),h3])⟩
 ·rw [hy]
  exact ⟨hS,hk _ (by rw [iT]; exact h1) (by rw [fu]; exact h2) (by rw [js (xX hd hi h1),h3])⟩
def on (L:Array Bool) (i:Nat):Array Bool:=L.setIfInBounds i true
def Dv (l:LO) (L:Array Bool) (rs:LN):Bool:=Region.ready .any l.toArray L == rs
inductive IQ (P:Program) (Γ:QE) (fr:Fr) (d:Nat):Oper→Oper→TypeId→List Value→Prop
 | mk {t ty Wz:TI} {y:OO} {u:Value} {n:Nat} {us cs ds:LV} {pos QK:String} {ab QM:Array Edge} [hz:zO P t cs] [ht:sI P t n] (hn:look fr d=none) (hy:ay fr y=some u) (hc:rU Γ u us) (hl:us.length=n) (hs:sJ us 0 cs ds) (ho:uZ Γ us) :
   IQ P Γ fr d ⟨some d,.alloc t,ty,pos,ab,none⟩ ⟨none,.store t (.tmp d) y,Wz,QK,QM,none⟩ t ds
section
variable {P:Program} {Γ:QE} {Z:Nat→Prop} {fr:Fr} {w:World} {cur F:LN}
theorem IQ.alloc {d:Nat} {oa os:Oper} {t:TI} {ds:LV} (h:IQ P Γ fr d oa os t ds) (r:NV) (w:World):oa.guard=none∧oa.dst=some d∧look fr d=none∧∃ cs w',(execOp (ev r) oa).run P w = .ok (.value (.pointer (some ⟨w.heap.size,0,none⟩))) w'∧ak [] w w'∧Row w' w.heap.size cs t∧
  ∀ (r':NV) (w1:World) (b:Nat) cur F,SA Z w1 Γ cur F→cq r' fr→r' d = .pointer (some ⟨b,0,none⟩)→Row w1 b cs t→∃ w2,(execOp (ev r') os).run P w1 = .ok .skip w2∧ak [b] w1 w2∧Row w2 b ds t:=by
 cases h with
 | @mk t ty Wz y u n us cs ds pos QK ab QM hz ht hn hy hc hl hs ho=>
  obtain ⟨i',z,t1,t2,t3⟩:=hz.h
  refine ⟨rfl,rfl,hn,z.cells.toList,_,D3 t1 t2,ak.alloc _ _ _,?_,?_⟩
  ·have:=heap_alloc_new w (.cells z.cells t (0,0))
   unfold Row
   simpa using this
  ·intro r' w1 b cur F hS ha hr av
   rw [t3] at av
   obtain ⟨ti,q1,q2⟩:=ht.h
   obtain ⟨e1,e2⟩:=hs.eq
   have jl:=tU (P:=P) (d:=none) (ty:=Wz) (pos:=QK) (ab:=QM) (gg:=none) q1 (by rw [hl,q2]) av e1 (x:=.tmp d) hr (y:=y) (by rw [aQ ha hy]; exact hc.eq hS) (ho.one hS)
   refine ⟨_,jl,⟨rfl,rfl,rfl,Nat.le_refl _,by simp,fun j _ hj=>setRow_other w1 b j _ fun h=>hj (by simp [h])⟩,?_⟩
   have lz:=setRow_heap w1 b cs.toArray (cs.take 0++us++cs.drop (0+us.length)).toArray t _ av
   rw [e2]
   exact lz
theorem IQ.st {d:Nat} {oa os:Oper} {t:TI} {ds:LV} (h:IQ P Γ fr d oa os t ds):os.guard=none∧os.dst=none:=by
 cases h; exact ⟨rfl,rfl⟩
variable {n:Nat} {l:LO} {Q:Exit→(Nat→Value)→World→Prop} {w0:World} {F2:LN} {a1 a2 s1 s2 d1 d2:Nat} {oa1 oa2 os1 os2:Oper} {t1 t2:TI} {ds1 ds2:LV} {L:Array Bool} {r:NV}
end
section
variable {R S:Type} {P:Program} {cx:Cx R} {K:ch R S} {l:LO}
end
end Go.Dk
namespace Go.Dk
open Go Go.Li
def WA (i:Nat) (o:Oper):Oper:=⟨o.dst,o.op,o.type,o.pos,o.after.push ⟨i,.data⟩,o.guard⟩
def uO (i:Nat):Nat→List Oper→List Oper
 | _,[]=>[]
 | 0,o :: l=>WA i o :: l
 | j+1,o :: l=>o :: uO i j l
theorem Gn (i:Nat):∀ (j:Nat) (l:LO),(uO i j l).length=l.length
 | _,[]=>by cases ‹Nat› <;> rfl
 | 0,_ :: _=>rfl
 | j+1,o :: l=>by unfold uO; rw [List.length_cons,List.length_cons,Gn i j l]
theorem CX (i:Nat):∀ (j:Nat) (l:LO) (k:Nat),(uO i j l)[k]? = (l[k]?).map fun o=>if k=j then WA i o else o
 | 0,[],k=>by simp [uO]
 | j+1,[],k=>by simp [uO]
 | 0,o :: l,0=>by simp [uO]
 | 0,o :: l,k+1=>by simp [uO]
 | j+1,o :: l,0=>by simp [uO]
 | j+1,o :: l,k+1=>by
  unfold uO
  rw [List.getElem?_cons_succ,List.getElem?_cons_succ,CX i j l k]
  simp
section
variable {P:Program} {l:LO} {Q:Exit→Act→World→Prop} {i j:Nat}
theorem J8 (tmps:Array Value):yielded (uO i j l).toArray tmps=yielded l.toArray tmps:=by
 funext k
 simp only [yielded]
 rw [List.getElem?_toArray,List.getElem?_toArray,CX]
 cases l[k]? with
 | none=>rfl
 | some o=>
  simp only [Option.map_some,Option.bind_some]
  by_cases h:k=j
  ·rw [if_pos h]; rfl
  ·rw [if_neg h]
theorem IS {k:Nat} {K:Act→World→Prop} {a:Act} {w:World}:wpOp P (uO i j l).toArray Q k K a w=wpOp P l.toArray Q k K a w:=by
 unfold wpOp
 rw [J8,List.getElem?_toArray,List.getElem?_toArray,CX]
 cases l[k]? with
 | none=>rfl
 | some o=>
  simp only [Option.map_some]
  by_cases h:k=j
  ·rw [if_pos h]; rfl
  ·rw [if_neg h]
theorem GY {L:Array Bool} (hL:L.getD i false=true):Region.ready .any (uO i j l).toArray L=Region.ready .any l.toArray L:=by
 unfold Region.ready
 rw [List.size_toArray,List.size_toArray,Gn]
 refine List.filter_congr fun k _=>?_
 rw [List.getElem?_toArray,List.getElem?_toArray,CX]
 cases l[k]? with
 | none=>rfl
 | some o=>
  simp only [Option.map_some]
  by_cases h:k=j
  ·rw [if_pos h]
   simp only [WA,Array.all_push,hL,Bool.or_true,Bool.and_true]
  ·rw [if_neg h]
theorem GZ:∀ (fuel:Nat) (L:Array Bool) (a:Act) (w:World),L.getD i false=true→wpAny P .any (uO i j l).toArray Q fuel L a w→wpAny P .any l.toArray Q fuel L a w
 | 0,L,a,w,hL,h=>by
  unfold wpAny at h ⊢
  rw [GY hL] at h
  exact h
 | fuel+1,L,a,w,hL,h=>by
  unfold wpAny at h ⊢
  rw [GY hL] at h
  refine ⟨h.1,fun k hk=>?_⟩
  have h2:=h.2 k hk
  rw [IS] at h2
  exact wpOp_mono (fun a' w' h'=>GZ fuel _ a' w' (getD_set_true hL) h') h2
end
def WB:Oper→Bool
 | ⟨some _,.move _,_,_,_,none⟩=>true
 | _=>false
def QN:List (Nat×Nat)→List Oper→Bool
 | [],_=>true
 | (i,j) :: zs,l=>!(Nat.beq i j) && Nat.blt i l.length && WB (l.getD i default) && Region.noSelect l.toArray && Region.free .any l.toArray (Array.replicate l.length false) i && (Region.ready .any l.toArray (Array.replicate l.length false)).contains i && (Region.ready .any (uO i j l).toArray (Array.replicate l.length false)).contains i && QN zs (uO i j l)
def WC:List (Nat×Nat)→List Oper→List Oper
 | [],l=>l
 | (i,j) :: zs,l=>WC zs (uO i j l)
section
variable {P:Program} {n:Nat} {Q:Exit→(Nat→Value)→World→Prop} {r:NV} {w w0:World}
theorem Uj {o:Oper} (h:WB o=true) (a:Act):o.guard=none∧∃ v,(∀ w,(execOp a.eval o).run P w = .ok (.value v) w)∧∀ w,¬ o.asks P a w:=by
 obtain ⟨d,op,ty,pos,ab,g⟩:=o
 cases d <;> cases op <;> cases g <;> first | (cases h; done) | skip
 refine ⟨rfl,_,fun w=>rfl,fun w ha=>?_⟩
 have h1:=ha.1
 exact absurd (show noRoomEvent∈(#[]:Array _) from h1) (by simp)
theorem py.acz {i j:Nat} {l:LO} (h1:(!(Nat.beq i j) && Nat.blt i l.length && WB (l.getD i default) && Region.noSelect l.toArray && Region.free .any l.toArray (Array.replicate l.length false) i && (Region.ready .any l.toArray (Array.replicate l.length false)).contains i && (Region.ready .any (uO i j l).toArray (Array.replicate l.length false)).contains i)=true)
  (hp:∀ c r w,¬ Q (.panic c) r w) (h:py P n (uO i j l) Q r w):py P n l Q r w:=by
 simp only [Bool.and_eq_true] at h1
 obtain ⟨⟨⟨⟨⟨⟨c1,c2⟩,c3⟩,c4⟩,c5⟩,c6⟩,c7⟩:=h1
 have mc:i≠j:=fun e=>by rw [e,Nat.beq_refl] at c1; cases c1
 have hi:=Gm c2
 have bb:i < l.length:=Nat.lt_of_succ_le (Nat.le_of_ble_eq_true c2)
 intro a g1 g2 g3
 have H:=h a g1 g2 g3
 obtain ⟨hg,v,hv,hn⟩:=Uj (P:=P) c3 a
 rw [List.size_toArray,Gn] at H
 rw [List.size_toArray]
 obtain ⟨f,hf⟩ : ∃ f,l.length=f+1:=⟨l.length - 1,by omega⟩
 have hw:Region.wanted (l.getD i default) (yielded l.toArray a.tmps)=true:=tS hg
 refine (congrArg (fun k=>wpAny P .any l.toArray _ k _ a _) hf).mpr ?_
 refine wpAny_take (by simpa using hi) c4 (by simpa using c5) (by simpa using c6) (fun c a w h=>(hp _ _ _ h.2.2).elim) (.inl ⟨hw,hv⟩) ?_
 refine GZ (i:=i) (j:=j) f _ _ _ ?_ ?_
 ·have:i < (Array.replicate l.length false).size:=by simpa using bb
  simp [Array.getD,bb]
 ·have H2:=(congrArg (fun k=>wpAny P .any (uO i j l).toArray (fun e a' w'=>a'.tmps.size=n∧a'.defers=[]∧Q e (cu a') w') k (Array.replicate l.length false) a { w with drawn:=w.drawn+1 }) hf).mp H
  have H3:=H2.2 i (by simpa using c7)
  rw [IS] at H3
  unfold wpOp at H3
  rw [show (l.toArray)[i]? = some (l.getD i default) by simpa using hi] at H3
  simp only [] at H3
  rw [if_pos hw] at H3
  rcases H3 with H3 | H3
  ·unfold Oper.wp at H3
   rw [hv] at H3
   exact H3
  ·exact absurd H3.1 (hn _)
theorem py.aad:∀ (zs:List (Nat×Nat)) {l:LO},QN zs l=true→(∀ c r w,¬ Q (.panic c) r w)→py P n (WC zs l) Q r w→py P n l Q r w
 | [],_,_,_,h=>h
 | (i,j) :: zs,l,hc,hp,h=>by
  unfold QN at hc
  rw [Bool.and_eq_true] at hc
  exact py.acz hc.1 hp (py.aad zs hc.2 hp h)
end
section
variable {R S:Type} {P:Program} {cx:Cx R} {K:ch R S}
end
end Go.Dk
namespace Go.Dk
open Go Go.Li
section
variable {B:Bs} {P:Program} {Z Z':Nat→Prop} {w:World} {Fd F1:LN}
theorem Mm {f:FuncId} {ow:Bool} {vs:LV} {Δ:QE} {β V:Type} {mo:Option β} {rt:β→V→List Value} {ps:β→V→List aq} {y:β} (hc:SB P f ow vs Δ β V mo rt ps) (hl:HL Z' w Δ Fd) (bb:∀ b∈F1,b < w.heap.size) (ke:Gd B Z (Fd++F1) w)
  (hz:∀ b,Z b→Z' b) (BV:∀ b,Z' b→Z b∨b∈F1) (hm:∀ v,qu (ps y v)=true) (hy:mo=some y) :
  Calls P f vs.toArray w fun e w'=>∃ v F2,e = .returned (l7 (rt y v))∧ak Fd w w'∧HL Z w' (ps y v) F2∧Gd B Z (F2++F1) w':=by
 have cp:=List.nodup_append.1 ke.nd
 refine (hc.2 w Z' Fd hl cp.1 (fun b hb Vl=>(BV b Vl).elim (ke.apart b (List.mem_append_left _ hb)) (fun h=>cp.2.2 b hb b h rfl)) (fun b hb=>(BV b hb).elim (ke.nh b) (bb b)) y hy).mono ?_
 rintro e w' ⟨v,he,Z2,F2,ox,gq⟩
 have hC:ak Fd w w':=gq.jf
 refine ⟨v,F2,he,hC,wm (hm v) ox,?_⟩
 refine ⟨List.nodup_append.2 ⟨gq.nd,cp.2.1,?_⟩,?_,fun b hb=>Nat.lt_of_lt_of_le (ke.nh b hb) hC.size,?_,ke.wk,ke.vH,?_⟩
 ·rintro b hb c BR rfl
  rcases gq.low b hb with h | h
  ·exact cp.2.2 b h b BR rfl
  ·exact absurd (bb b BR) (Nat.not_lt.2 h)
 ·intro b hb hz3
  rcases List.mem_append.1 hb with hb | hb
  ·exact gq.apart b hb (gq.wk b (hz b hz3))
  ·exact ke.apart b (List.mem_append_right _ hb) hz3
 ·intro b hb
  rcases List.mem_append.1 hb with hb | hb
  ·rcases gq.low b hb with h | h
   ·exact ke.low b (List.mem_append_left _ h)
   ·exact .inr (Nat.le_trans ke.jf.size h)
  ·exact ke.low b (List.mem_append_right _ hb)
 ·exact ke.jf.then hC fun i hi=>ke.low i (List.mem_append_left _ hi)
end
section
variable {P:Program} {S:World→Prop}
theorem Dz.mono {K K':(Nat→Value)→Prop} (hk:∀ r,K r→K' r):∀ {ops:LO} {r:NV},Dz P S ops r K→Dz P S ops r K'
 | [],_,h=>hk _ h
 | _ :: _,_,⟨hg,v,h1,h2⟩=>⟨hg,v,h1,Dz.mono hk h2⟩
end
inductive QX {R S:Type} (P:Program) (cx:Cx R) (K:ch R S) (uj:LO) (rs:List (Nat×List Value×TypeId)) (pe:QE):List aq→List aq→List Oper→Fr→Option (Out S R)→Prop
 | pe {e:aq} {Δ Γ:QE} {ops:LO} {fr:Fr} {m:Option (Out S R)} (h:QX P cx K uj rs pe Δ (e :: Γ) ops fr m):QX P cx K uj rs pe (e :: Δ) Γ ops fr m
 | nil {Γ:QE} {fr:Fr} {m:Option (Out S R)} {vf:List (Nat×List Value×TypeId)} (h:SQ P Γ fr uj rs vf) (k:D P cx (.p [] pe fr Γ fun fr Γ=>.p [] (Ml vf) fr Γ fun fr Γ=>.n K Γ fr m)):QX P cx K uj rs pe [] Γ [] fr m
 | NB {d n:Nat} {t ty:TI} {x:OO} {a:Addr} {ds:LV} {pos:String} {ab:Array Edge} {ops:LO} {Γ:QE} {fr:Fr} {m:Option (Out S R)} [ht:LK P t (some n)] (hx:ay fr x=some (.pointer (some a))) (hw:ug Γ a n ds) (h:QX P cx K uj rs pe [] Γ ops ((d,.agg ds.toArray) :: fr) m) :
   QX P cx K uj rs pe [] Γ (⟨some d,.load t x,ty,pos,ab,none⟩ :: ops) fr m
 | qe {α V:Type} {d n:Nat} {x y:OO} {v:Value} {k:IntKind} {j:Int} {t ty:TI} {S':ah α} {cl:α→V→List Value} {en:α→V→List aq} {xs:List α} {pos:String} {ab:Array Edge} {ops:LO} {Γ Γx:QE} {fr:Fr} {f:α→Option (Out S R)} [ht:HX P t n] (hx:ay fr x=some v) (hy:ay fr y=some (.int k j))
   (hr:lr Γ v false false (sg S') xs o6 Γx) (hs:GO S' V cl en) (hn:S'.size=n) (h:∀ z u,QX P cx K uj rs pe (.au (cn v n j) (cl z u) :: en z u) Γ ops ((d,.pointer (some (cn v n j))) :: fr) (f z)) :
   QX P cx K uj rs pe [] Γ (⟨some d,.indexAddr t x y,ty,pos,ab,none⟩ :: ops) fr (idx xs j>>=f)
 | lc {d:Nat} {t ty:TI} {x:OO} {a:Addr} {u:Value} {pos:String} {ab:Array Edge} {ops:LO} {Γ:QE} {fr:Fr} {m:Option (Out S R)} [ht:LK P t none] (hx:ay fr x=some (.pointer (some a))) (hw:o5 Γ a u) (h:QX P cx K uj rs pe [] Γ ops ((d,u) :: fr) m) :
   QX P cx K uj rs pe [] Γ (⟨some d,.load t x,ty,pos,ab,none⟩ :: ops) fr m
 | val {d:Nat} {op:Op} {ty:TI} {u:Value} {pos:String} {ab:Array Edge} {ops:LO} {Γ:QE} {fr:Fr} {m:Option (Out S R)} (hv:VQ P Γ fr op u) (h:QX P cx K uj rs pe [] Γ ops ((d,u) :: fr) m):QX P cx K uj rs pe [] Γ (⟨some d,op,ty,pos,ab,none⟩ :: ops) fr m
section
variable {R S:Type} {P:Program} {cx:Cx R} {K:ch R S} {uj:LO} {rs:List (Nat×List Value×TypeId)} {pe:QE} {Z:Nat→Prop}
theorem QX.sound {w0:World} {H:LN} (hz:∀ b∈H,¬ Z b) {Δ Γ:QE} {ops:LO} {fr:Fr} {m:Option (Out S R)} (h:QX P cx K uj rs pe Δ Γ ops fr m):∀ {o:Out S R} {F:LN},m=some o→(∀ b∈H,b ∉ F)→SA Z w0 (Δ.reverse++Γ) [] F→∀ r,cq r fr→
  Dz P (ak H w0) ops r fun r'=>∃ Γ' qo vf m' F',F'.Perm F∧m'=some o∧cq r' qo∧SA Z w0 Γ' [] F'∧SQ P Γ' qo uj rs vf∧D P cx (.p [] pe qo Γ' fun fr Γ=>.p [] (Ml vf) fr Γ fun fr Γ=>.n K Γ fr m'):=by
 induction h with
 | @pe e Δ Γ ops fr m _ ih=>
  intro o F hm hF hS r ha
  refine ih hm hF ?_ r ha
  rw [List.reverse_cons,List.append_assoc] at hS
  exact hS
 | @nil Γ fr m vf h k=>exact fun hm hF hS r ha=>⟨Γ,fr,vf,m,_,.refl _,hm,ha,hS,h,k⟩
 | @val d op ty u pos ab ops Γ fr m hv _ ih=>
  intro o F hm hF hS r ha
  refine ⟨rfl,u,fun w hC=>?_,ih hm hF hS _ (an ha)⟩
  exact hv.sound ((SA.dp hC hz (fun _ _=>List.not_mem_nil) hF hS)) ha (some d) ty pos ab none w (ak.refl _ _)
 | @NB d n t ty x a ds pos ab ops Γ fr m ht hx hw _ ih=>
  intro o F hm hF hS r ha
  refine ⟨rfl,_,fun w hC=>?_,ih hm hF hS _ (an ha)⟩
  obtain ⟨h1,h2⟩:=hw.sound (SA.dp hC hz (fun _ _=>List.not_mem_nil) hF hS)
  exact Lg ht.h h1 (aQ ha hx) h2 w (ak.refl _ _)
 | @lc d t ty x a u pos ab ops Γ fr m ht hx hw _ ih=>
  intro o F hm hF hS r ha
  refine ⟨rfl,u,fun w hC=>?_,ih hm hF hS _ (an ha)⟩
  exact Ld ht.h (hw.sound (SA.dp hC hz (fun _ _=>List.not_mem_nil) hF hS)) (aQ ha hx) w (ak.refl _ _)
 | @qe α V d n x y v k j t ty S' cl en xs pos ab ops Γ Γx fr f ht hx hy hr qn hn _ ih=>
  intro o F hm hF hS r ha
  replace qn:SO S' V cl en:=by cases qn; assumption
  obtain ⟨z,wz,hm⟩:=bind_some hm
  replace wz:=rm wz
  obtain ⟨e,i,h1,h2,h3⟩:=ht.h
  obtain ⟨dg,_,⟨⟨f0,Dq,tH⟩,_⟩,_⟩:=hr.sound hS
  have hZ:∀ b∈f0,Z b:=fun b hb=>(tH b hb).elim id id
  obtain ⟨⟨a,c,hv⟩,bb,cs,f1,c9,NN,ik⟩:=tv Dq j wz.1 wz.2
  have mh:(sg S').size=n:=hn
  rw [mh] at ik
  obtain ⟨u,rfl,rY⟩:=qn.op c9.2
  have hblk:Z (cn v n j).block:=by
   obtain ⟨base,cap,kh,eh⟩:=Dq
   rcases eh with ⟨rfl,_⟩ | ⟨b,off,cr,e',fz,f',rfl,_,rfl,_⟩
   ·simp at bb; omega
   ·obtain rfl:v = .slice (some ⟨b,off,none⟩) xs.length cap:=by simpa using kh
    have:(cn (.slice (some ⟨b,off,none⟩) xs.length cap) n j).block=b:=by unfold cn; rw [wi]
    rw [this]; exact hZ b (by simp)
  have H9:fact Z w0 [] (.au (cn v n j) (cl z u)):=⟨fun i u' hi=>ik i u' hi,fun _=>hblk⟩
  have fk:HL Z w0 (.au (cn v n j) (cl z u) :: en z u) []:=.fact H9 (vM (rY Z fun b hb=>hZ b (NN b hb)))
  obtain ⟨F',hp,ja⟩:=fk.build hS
  have hpF:F'.Perm F:=by simpa using hp
  refine ⟨rfl,.pointer (some (cn v n j)),fun w hC=>?_,?_⟩
  ·rw [ni h1 h2 ((aQ ha hx).trans hv) (aQ ha hy) wz.1 (by omega),h3,hv]
   rfl
  ·have hq:=ih z u (F:=F') hm (fun b hb h=>hF b hb (hpF.mem_iff.1 h)) ja _ (an ha)
   refine Dz.mono ?_ hq
   rintro r' ⟨Γ',qo,vf,m',F3,q0,q1,q2,q3,q4,q5⟩
   exact ⟨Γ',qo,vf,m',F3,q0.trans hpF,q1,q2,q3,q4,q5⟩
end
theorem FO.hl {Z:Nat→Prop} {w:World} {Δ:QE} (h:FO Δ):∀ {F:LN},HL Z w Δ F→F=[]:=by
 induction h with
 | nil=>intro F h; cases h; rfl
 | rd _ ih=>intro F h; cases h with | own h k=>exact h.elim | fact h k=>exact ih k
 | au _ ih=>intro F h; cases h with | own h k=>exact h.elim | fact h k=>exact ih k
section
variable {P:Program} {n:Nat} {l:LO} {Q:Exit→(Nat→Value)→World→Prop} {S:World→Prop}
end
section
variable {R S:Type} {P:Program} {cx:Cx R} {K:ch R S} {l:LO}
end
section
variable {R:Type} {P:Program} {cx:Cx R}
end
end Go.Dk
namespace Go.Dk
open Go Go.Li
section
variable {P:Program} {n:Nat} {l:LO} {Q:Exit→(Nat→Value)→World→Prop} {S S':World→Prop}
theorem DA {md:Region.Mode} {ops:Array Oper} {Q:Exit→Act→World→Prop} (hS:∀ w,S' w→S w):∀ (k:Nat) (L:Array Bool) (a:Act) (w:World),wpAnyH P md ops Q S' k L a w→wpAnyH P md ops Q S k L a w
 | 0,_,_,_,h=>h
 | k+1,_,_,_,h=>⟨h.1,fun i hi=>wpOp_mono (fun a' w' h'=>⟨hS _ h'.1,DA hS k _ a' w' h'.2⟩) (h.2 i hi)⟩
theorem Hw.mono {k:Nat} {L:Array Bool} {r:NV} {w:World} (hS:∀ w,S' w→S w) (h:Hw P n l Q S' k L r w):Hw P n l Q S k L r w:=
 fun a h1 h2 h3=>DA hS _ _ _ _ (h a h1 h2 h3)
theorem Hw.E4 {k i:Nat} {L:Array Bool} {o:Oper} {v:Value} {r:NV} {w:World} (hd:dh n l=true) (hi:l[i]? = some o) (hs:Region.noSelect l.toArray=true) (hf:Region.free .any l.toArray L i=true) (hr:(Region.ready .any l.toArray L).contains i=true)
  (hp:∀ c r w,¬ Q (.panic c) r w) (hg:Region.wanted o (yl l r)=true) (hy:∀ w,S w→(execOp (ev r) o).run P w = .ok (.value v) w) (hS:S w) (h:Hw P n l Q S k (L.setIfInBounds i true) (gf r o.dst v) w):Hw P n l Q S (k+1) L r w:=by
 intro a h1 h2 h3
 refine wpAnyH_take (v:=v) (by simpa using hi) hs hf hr (fun c a w h=>(hp _ _ _ h.2.2).elim) (.inl ⟨?_,fun w hw=>?_⟩) hS (h _ (by rw [iT]; exact h1) (by rw [fu]; exact h2) (by rw [js (xX hd hi h1),h3]))
 ·rw [vX (by rw [h1]; exact hd),h3]
  exact hg
 ·rw [ny,h3]
  exact hy w hw
theorem Hw.Mn {k i:Nat} {L:Array Bool} {o:Oper} {r:NV} {w:World} {f:FuncId} {args:Array Value} (hd:dh n l=true) (hi:l[i]? = some o) (hr:Region.ready .any l.toArray L=[i]) (hg:Region.wanted o (yl l r)=true) (hy:(execOp (ev r) o).run P w = .ok (.enter f args) w)
  (hc:Calls P f args w fun e w'=>∃ v,e = .returned v∧S w'∧Hw P n l Q S k (L.setIfInBounds i true) (gf r o.dst v) w'):Hw P n l Q S (k+1) L r w:=by
 intro a h1 h2 h3
 refine wpAnyH_all hr (by simp) fun j hj=>?_
 obtain rfl:j=i:=by simpa using hj
 unfold wpOp
 rw [show (l.toArray)[j]? = some o by simpa using hi]
 simp only []
 rw [vX (by rw [h1]; exact hd),h3,if_pos hg]
 refine .inl ?_
 unfold Oper.wp
 rw [ny,h3,hy]
 refine Calls.mono hc fun e w' he=>?_
 obtain ⟨v,rfl,hS,h⟩:=he
 exact ⟨hS,h _ (by rw [iT]; exact h1) (by rw [fu]; exact h2) (by rw [js (xX hd hi h1),h3])⟩
end
def gW (l:LO) (fr:Fr):Option (Nat×Bool)→Option Bool
 | none=>some true
 | some (j,t)=>match (l[j]?).bind (·.dst) with
  | some d=>match look fr d with | some (.bool b)=>some (b == t) | _=>none
  | none=>none
theorem ra {l:LO} {fr:Fr} {r:NV} {o:Oper} {b:Bool} (ha:cq r fr) (h:gW l fr o.guard=some b):Region.wanted o (yl l r)=b:=by
 cases hg:o.guard with
 | none=>rw [hg] at h; cases h; unfold Region.wanted; rw [hg]
 | some p=>
  obtain ⟨j,t⟩:=p
  rw [hg] at h
  unfold gW at h
  dsimp only at h
  cases hd:(l[j]?).bind (·.dst) with
  | none=>rw [hd] at h; cases h
  | some d=>
   rw [hd] at h
   dsimp only at h
   cases hl:look fr d with
   | none=>rw [hl] at h; cases h
   | some v=>
    rw [hl] at h
    cases v <;> try (cases h; done)
    rename_i x
    cases h
    refine uC hg ?_
    unfold yl
    rw [hd]
    simp only [ha d _ hl]
section
variable {R S:Type} {P:Program} {cx:Cx R} {K:ch R S} {l:LO}
def Tg (P:Program) (cx:Cx R) (K:ch R S) (l:LO) (k:Nat) (L:Array Bool) (Γ:QE) (fr:Fr) (m:Option (Out S R)):Prop:=
 ∀ (B:Bs) (o:Out S R),m=some o→∀ r w,cq r fr→St B Γ w→Hw P cx.n l (ku P cx B K o) (ak [] w) k L r w
noncomputable def FS (P:Program) (cx:Cx R) (K:ch R S) (l:LO) (k:Nat) (L:Array Bool) (Γ:QE) (fr:Fr) (m:Option (Out S R)):Prop:=Bx (Tg P cx K l k L Γ fr m)
theorem AL {k:Nat} {L:Array Bool} {Γ:QE} {fr:Fr} {m:Option (Out S R)}:FS P cx K l k L Γ fr m=Tg P cx K l k L Γ fr m:=nb
noncomputable def FQ (P:Program) (cx:Cx R) (K:ch R S) (l:LO) (k i:Nat) (o:Oper) (L:Array Bool) (Γ:QE) (fr:Fr) (m:Option (Out S R)):Prop:=Bx (l[i]? = some o→Tg P cx K l (k+1) L Γ fr m)
theorem CY {k i:Nat} {oo:Oper} {L:Array Bool} {Γ:QE} {fr:Fr} {m:Option (Out S R)}:FQ P cx K l k i oo L Γ fr m=(l[i]? = some oo→Tg P cx K l (k+1) L Γ fr m):=nb
theorem FS.at (k i:Nat) {oo:Oper} {L:Array Bool} {Γ:QE} {fr:Fr} {m:Option (Out S R)} (hi:l[i]? = some oo) (h:FQ P cx K l k i oo L Γ fr m):FS P cx K l (k+1) L Γ fr m:=by
 rw [CY] at h
 rw [AL]
 exact h hi
theorem FS.done {k:Nat} {L:Array Bool} {Γ:QE} {fr:Fr} {m:Option (Out S R)} (hc:Mk l L=true) (h:D P cx (.n K Γ fr m)):FS P cx K l k L Γ fr m:=by
 rw [AL]
 intro B o ho r w ha hs
 exact Hw.done (by simpa [Mk] using hc) (h.sound B o ho r w ha hs)
def vh (n:Nat) (l:LO) (L:Array Bool) (i:Nat):Bool:=dh n l && Region.noSelect l.toArray && Region.free .any l.toArray L i && (Region.ready .any l.toArray L).contains i
theorem FQ.q {k i:Nat} {L:Array Bool} {Γ:QE} {fr:Fr} {m:Option (Out S R)} {d:Nat} {op:Op} {ty:TI} {u:Value} {pos:String} {ab:Array Edge} {g:Option (Nat×Bool)} (hg:gW l fr g=some true) (hc:vh cx.n l L i=true) (hv:VQ P Γ fr op u)
  (h:FS P cx K l k (L.setIfInBounds i true) Γ ((d,u) :: fr) m):FQ P cx K l k i ⟨some d,op,ty,pos,ab,g⟩ L Γ fr m:=by
 rw [AL] at h
 rw [CY]
 intro hi
 simp only [vh,Bool.and_eq_true] at hc
 obtain ⟨⟨⟨c1,c2⟩,c3⟩,c4⟩:=hc
 intro B o ho r w ha hs
 refine Hw.E4 c1 hi c2 c3 c4 (fun c r w h=>sd c h) (ra ha hg) (fun w' hC=>?_) (ak.refl _ _) (h B o ho _ w (an ha) hs)
 obtain ⟨Z,F,hS,_⟩:=hs.ic hC
 exact hv.sound hS ha (some d) ty pos ab g w' (ak.refl _ _)
theorem FQ.lc {k i:Nat} {L:Array Bool} {Γ:QE} {fr:Fr} {m:Option (Out S R)} {d:Nat} {t ty:TI} {x:OO} {a:Addr} {u:Value} {pos:String} {ab:Array Edge} {g:Option (Nat×Bool)} [ht:LK P t none] (hg:gW l fr g=some true) (hc:vh cx.n l L i=true) (hx:ay fr x=some (.pointer (some a))) (hw:o5 Γ a u)
  (h:FS P cx K l k (L.setIfInBounds i true) Γ ((d,u) :: fr) m):FQ P cx K l k i ⟨some d,.load t x,ty,pos,ab,g⟩ L Γ fr m:=by
 rw [AL] at h
 rw [CY]
 intro hi
 simp only [vh,Bool.and_eq_true] at hc
 obtain ⟨⟨⟨c1,c2⟩,c3⟩,c4⟩:=hc
 have Ot:NA P t:=ht.h
 intro B o ho r w ha hs
 refine Hw.E4 c1 hi c2 c3 c4 (fun c r w h=>sd c h) (ra ha hg) (fun w' hC=>?_) (ak.refl _ _) (h B o ho _ w (an ha) hs)
 obtain ⟨Z,F,hS,_⟩:=hs.ic hC
 exact Ld Ot (hw.sound hS) (aQ ha hx) w' (ak.refl _ _)
theorem FQ.ls {k i n:Nat} {L:Array Bool} {Γ:QE} {fr:Fr} {m:Option (Out S R)} {d:Nat} {t ty:TI} {x:OO} {a:Addr} {ds:LV} {pos:String} {ab:Array Edge} {g:Option (Nat×Bool)} [ht:LK P t (some n)] (hg:gW l fr g=some true) (hc:vh cx.n l L i=true) (hx:ay fr x=some (.pointer (some a))) (hw:ug Γ a n ds)
  (h:FS P cx K l k (L.setIfInBounds i true) Γ ((d,.agg ds.toArray) :: fr) m):FQ P cx K l k i ⟨some d,.load t x,ty,pos,ab,g⟩ L Γ fr m:=by
 rw [AL] at h
 rw [CY]
 intro hi
 simp only [vh,Bool.and_eq_true] at hc
 obtain ⟨⟨⟨c1,c2⟩,c3⟩,c4⟩:=hc
 have Ot:AG P t n:=ht.h
 intro B o ho r w ha hs
 refine Hw.E4 c1 hi c2 c3 c4 (fun c r w h=>sd c h) (ra ha hg) (fun w' hC=>?_) (ak.refl _ _) (h B o ho _ w (an ha) hs)
 obtain ⟨Z,F,hS,_⟩:=hs.ic hC
 obtain ⟨h1,h2⟩:=hw.sound hS
 exact Lg Ot h1 (aQ ha hx) h2 w' (ak.refl _ _)
theorem FQ.sl {α:Type} {k i d:Nat} {o:Bool} {L:Array Bool} {Γ:QE} {fr:Fr} {x lo:OO} {v:Value} {kd:IntKind} {j:Int} {E:ah α} {xs:List α} {t ty:TI} {pos:String} {ab:Array Edge} {g:Option (Nat×Bool)} {gm:List α→Option (Out S R)} {Γ':Value→List α→List aq} [ht:tT P t] (hg:gW l fr g=some true) (hc:vh cx.n l L i=true) (hx:ay fr x=some v) (hy:ay fr lo=some (.int kd j)) (hr:∀ v' ys,lr Γ v o o E xs (.rd o (aV E) v' ys) (Γ' v' ys)) (hE:E.size=1)
  (h:∀ v' ys,FS P cx K l k (L.setIfInBounds i true) (Γ' v' ys) ((d,v') :: fr) (gm ys)):FQ P cx K l k i ⟨some d,.slice t x (some lo) none none,ty,pos,ab,g⟩ L Γ fr (tl xs j>>=gm):=by
 have h:=fun v' ys=>Eq.mp AL (h v' ys)
 rw [CY]
 intro hi
 simp only [vh,Bool.and_eq_true] at hc
 obtain ⟨⟨⟨c1,c2⟩,c3⟩,c4⟩:=hc
 intro B oo ho r w ha hs
 obtain ⟨ys,Od,ho⟩:=bind_some ho
 obtain ⟨h0,h1,rfl⟩:=KV Od
 obtain ⟨e,i',q1,q2,q3⟩:=ht.h
 obtain ⟨Z,F,hS,hG⟩:=hs
 obtain ⟨base,cap,rfl,DW⟩ : ∃ base cap,v = .slice base xs.length cap∧xs.length≤cap:=by
  obtain ⟨_,_,⟨⟨g0,⟨base,cap,hv,eh⟩,_⟩,_⟩,_⟩:=(hr v xs).sound hS
  refine ⟨base,cap,by simpa using hv,?_⟩
  rcases eh with ⟨rfl,_⟩ | ⟨_,_,_,_,_,_,_,_,_,hc,_⟩
  ·exact Nat.zero_le _
  ·exact hc
 obtain ⟨dg,_,⟨⟨g0,VP,tH⟩,_⟩,sK⟩:=(hr (sliced base j.toNat xs.length cap 1) ((xs.drop j.toNat).take (xs.length - j.toNat))).sound hS
 have hf:=Iu (a:=j.toNat) (b:=xs.length) hE VP (fun i hi=>(tH i hi).elim (fun h=>h) fun h=>h) (by omega) (Nat.le_refl _) DW
 have hyy:(xs.drop j.toNat).take (xs.length - j.toNat)=xs.drop j.toNat:=List.take_of_length_le (by rw [List.length_drop]; omega)
 refine Hw.E4 (v:=sliced base j.toNat xs.length cap 1) c1 hi c2 c3 c4 (fun c r w h=>sd c h) (ra ha hg) (fun w' _=>?_) (ak.refl _ _) (h _ _ B oo (by rw [hyy]; exact ho) _ w (an ha) ⟨Z,F,sK hf,hG⟩)
 have q4:P.elem t=e:=by simp [Program.elem,q1]
 have me:(sizeOf (P.elem t)).run P w' = .ok 1 w':=by rw [q4]; simp [sizeOf,typeInfo,q2,q3]
 simp [execOp,aQ ha hx,aQ ha hy,run_sliceAt_slice w' t _ _ _ _ (by rw [q4]; exact q1),run_slice_l (P:=P) w' t base xs.length cap (by rw [q4]; exact q1) kd j h0 h1,me,Result.andThen]
theorem FQ.cl {k i:Nat} {L:Array Bool} {Γ Δ:QE} {fr:Fr} {d:Nat} {f:FuncId} {xs:List Operand} {vs:LV} {au:Array TypeId} {ty:TI} {pos:String} {ab:Array Edge} {g:Option (Nat×Bool)} {β:Type} {ow:Bool} {mo:Option β} {rt:β→Unit→List Value} {gm:β→Option (Out S R)} [hf:bg P f]
  (hg:gW l fr g=some true) (hc:(dh cx.n l && (Region.ready .any l.toArray L == [i]))=true) (hx:tM fr xs=some vs) (KW:Ct P f ow mo vs Δ rt (fun _ _=>[])) (h0:FO Δ) (h1:ER true Γ Δ)
  (h:∀ y,FS P cx K l k (L.setIfInBounds i true) Γ ((d,l7 (rt y ())) :: fr) (gm y)):FQ P cx K l k i ⟨some d,.call ⟨.value (.func f),xs.toArray,au⟩,ty,pos,ab,g⟩ L Γ fr (mo>>=gm):=by
 have h:=fun y=>Eq.mp AL (h y)
 rw [CY]
 intro hi
 rw [Bool.and_eq_true] at hc
 intro B o ho r w ha hs
 obtain ⟨y,hy,ho⟩:=bind_some ho
 obtain ⟨fn,c,f1,f2,f3⟩:=hf.h
 refine Hw.Mn hc.1 hi (by simpa using hc.2) (ra ha hg) (f:=f) (args:=vs.toArray) (by rw [Ar f1 f2 f3,mq ha hx]) ?_
 have VU:=hs
 obtain ⟨Z,F,hS,hG⟩:=hs
 rw [p9] at KW
 refine (KW.2 w (fun b=>Z b∨b∈F) [] (h1.sound (fun _ h=>.inl h) (fun _ _ h=>.inr h) hS h0.ho) List.nodup_nil (fun b hb=>absurd hb List.not_mem_nil) (fun b hb=>hb.elim (hG.nh b) (hS.lt b)) y hy).mono ?_
 rintro e w' ⟨v,he,Z2,F2,_,gq⟩
 have hC:ak [] w w':=gq.jf
 exact ⟨_,he,hC,(h y B o ho _ w' (an ha) (VU.ic hC)).mono fun zP h=>hC.trans h⟩
theorem FS.bt {k:Nat} {L:Array Bool} {Γ:QE} {fr:Fr} {c:Bool} {a b:Option (Out S R)} (hc:c=true) (h:FS P cx K l k L Γ fr a):FS P cx K l k L Γ fr (bif c then a else b):=by subst hc; exact h
theorem FS.cd {k d:Nat} {L:Array Bool} {Γ:QE} {fr:Fr} {c:Bool} {a b:Option (Out S R)} (h1:FS P cx K l k L Γ ((d,.bool true) :: fr) a) (h2:FS P cx K l k L Γ ((d,.bool false) :: fr) b):FS P cx K l k L Γ ((d,.bool c) :: fr) (bif c then a else b):=by
 cases c with
 | true=>exact h1
 | false=>exact h2
end
end Go.Dk
namespace Go.Dk
open Go Go.Li
def SJ (b:Nat) (e:TI) (J:LN) (cs:LV) (w w':World):Prop:=ak [b] w w'∧∃ ds,Row w' b ds e∧∀ j,J.contains j=false→ds[j]? = cs[j]?
theorem o5.lit {b i j:Nat} {cs:LV} {v:Value} {Γ:QE} (h:cs[j]? = some v):o5 (.au ⟨b,i,none⟩ cs :: Γ) ⟨b,i+j,none⟩ v:=by
 have:=o5.at (p:=⟨b,i,none⟩) (Γ:=Γ) h
 unfold Addr.add at this
 by_cases hj:j=0
 ·rw [if_pos hj] at this
  subst hj
  exact this
 ·rwa [if_neg hj] at this
theorem qd.lit {b i j:Nat} {cs ds:LV} {Γ:QE} (h:(cs.drop j).take ds.length=ds):qd (.au ⟨b,i,none⟩ cs :: Γ) ⟨b,i+j,none⟩ ds false:=by
 have:=qd.sub (p:=⟨b,i,none⟩) (Γ:=Γ) h
 unfold Addr.add at this
 by_cases hj:j=0
 ·rw [if_pos hj] at this
  subst hj
  exact this
 ·rwa [if_neg hj] at this
section
variable {id:Nat} {R S:Type} {P:Program} {cx:Cx R} {K:ch R S} {l:LO} {b:Nat} {e:TI} {J:LN}
def Th (P:Program) (cx:Cx R) (K:ch R S) (l:LO) (b:Nat) (e:TI) (J:LN) (k:Nat) (L:Array Bool) (cs:LV) (Γ:QE) (fr:Fr) (m:Option (Out S R)):Prop:=
 ∀ (B:Bs) (o:Out S R),m=some o→∀ r w,cq r fr→St B (.row b cs e :: Γ) w→Hw P cx.n l (ku P cx B K o) (SJ b e J cs w) k L r w
noncomputable def FK (_:Nat) (P:Program) (cx:Cx R) (K:ch R S) (l:LO) (b:Nat) (e:TI) (J:LN) (k:Nat) (L:Array Bool) (cs:LV) (Γ:QE) (fr:Fr) (m:Option (Out S R)):Prop:=Bx (Th P cx K l b e J k L cs Γ fr m)
theorem CZ {k:Nat} {L:Array Bool} {cs:LV} {Γ:QE} {fr:Fr} {m:Option (Out S R)}:FK id P cx K l b e J k L cs Γ fr m=Th P cx K l b e J k L cs Γ fr m:=nb
noncomputable def FJ (_:Nat) (P:Program) (cx:Cx R) (K:ch R S) (l:LO) (b:Nat) (e:TI) (J:LN) (k i:Nat) (o:Oper) (L:Array Bool) (cs:LV) (Γ:QE) (fr:Fr) (m:Option (Out S R)):Prop:=Bx (l[i]? = some o→Th P cx K l b e J (k+1) L cs Γ fr m)
theorem HA {k i:Nat} {oo:Oper} {L:Array Bool} {cs:LV} {Γ:QE} {fr:Fr} {m:Option (Out S R)}:FJ id P cx K l b e J k i oo L cs Γ fr m=(l[i]? = some oo→Th P cx K l b e J (k+1) L cs Γ fr m):=nb
theorem FK.at (id k i:Nat) {oo:Oper} {L:Array Bool} {cs:LV} {Γ:QE} {fr:Fr} {m:Option (Out S R)} (hi:l[i]? = some oo) (h:FJ id P cx K l b e J k i oo L cs Γ fr m):FK id P cx K l b e J (k+1) L cs Γ fr m:=by
 rw [HA] at h
 rw [CZ]
 exact h hi
theorem WD {B:Bs} {cs:LV} {Γ:QE} {w w':World} (hs:St B (.row b cs e :: Γ) w) (hC:ak [b] w w'):∃ Z F,SA Z w' Γ [] F:=by
 obtain ⟨Z,F,⟨f,F',rfl,⟨rfl,av⟩,hS⟩,hG⟩:=hs
 have cp:=List.nodup_append.1 hG.nd
 exact ⟨Z,F',hS.dp hC (fun b' hb=>by rw [List.mem_singleton.1 hb]; exact hG.apart b (by simp)) (fun _ _=>List.not_mem_nil) (fun b' hb hm=>by rw [List.mem_singleton.1 hb] at hm; exact cp.2.2 b (by simp) b hm rfl)⟩
theorem acA {B:Bs} {cs:LV} {Γ:QE} {w:World} (hs:St B (.row b cs e :: Γ) w):Row w b cs e:=by
 obtain ⟨Z,F,⟨f,F',rfl,⟨rfl,av⟩,hS⟩,hG⟩:=hs
 exact av
theorem SJ.refl {cs:LV} {w:World} (h:Row w b cs e):SJ b e J cs w w:=⟨ak.refl _ _,cs,h,fun _ _=>rfl⟩
theorem FK.done {k:Nat} {L:Array Bool} {cs:LV} {Γ:QE} {fr:Fr} {m:Option (Out S R)} (hc:Mk l L=true) (h:D P cx (.n K (.row b cs e :: Γ) fr m)):FK id P cx K l b e J k L cs Γ fr m:=by
 rw [CZ]
 intro B o ho r w ha hs
 exact Hw.done (by simpa [Mk] using hc) (h.sound B o ho r w ha hs)
theorem HB {k i:Nat} {L:Array Bool} {cs:LV} {Γ:QE} {fr:Fr} {m:Option (Out S R)} {d:Nat} {op:Op} {ty:TI} {u:Value} {pos:String} {ab:Array Edge} {g:Option (Nat×Bool)} (hg:gW l fr g=some true) (hc:vh cx.n l L i=true)
  (hv:∀ (B:Bs) r w,cq r fr→St B (.row b cs e :: Γ) w→∀ w',SJ b e J cs w w'→(execOp (ev r) ⟨some d,op,ty,pos,ab,g⟩).run P w' = .ok (.value u) w')
  (h:FK id P cx K l b e J k (L.setIfInBounds i true) cs Γ ((d,u) :: fr) m):FJ id P cx K l b e J k i ⟨some d,op,ty,pos,ab,g⟩ L cs Γ fr m:=by
 rw [CZ] at h
 rw [HA]
 intro hi
 simp only [vh,Bool.and_eq_true] at hc
 obtain ⟨⟨⟨c1,c2⟩,c3⟩,c4⟩:=hc
 intro B o ho r w ha hs
 exact Hw.E4 c1 hi c2 c3 c4 (fun c r w h=>sd c h) (ra ha hg) (fun w' hC=>hv B r w ha hs w' hC) (SJ.refl (acA hs)) (h B o ho _ w (an ha) hs)
theorem FJ.q {k i:Nat} {L:Array Bool} {cs:LV} {Γ:QE} {fr:Fr} {m:Option (Out S R)} {d:Nat} {op:Op} {ty:TI} {u:Value} {pos:String} {ab:Array Edge} {g:Option (Nat×Bool)} (hg:gW l fr g=some true) (hc:vh cx.n l L i=true) (hv:VQ P Γ fr op u)
  (h:FK id P cx K l b e J k (L.setIfInBounds i true) cs Γ ((d,u) :: fr) m):FJ id P cx K l b e J k i ⟨some d,op,ty,pos,ab,g⟩ L cs Γ fr m:=
 HB hg hc (fun _ _ _ ha hs w' hC=>by
  obtain ⟨Z,F,hS⟩:=WD hs hC.1
  exact hv.sound hS ha (some d) ty pos ab g w' (ak.refl _ _)) h
theorem FJ.lc {k i:Nat} {L:Array Bool} {cs:LV} {Γ:QE} {fr:Fr} {m:Option (Out S R)} {d:Nat} {t ty:TI} {x:OO} {a:Addr} {u:Value} {pos:String} {ab:Array Edge} {g:Option (Nat×Bool)} [ht:LK P t none] (hg:gW l fr g=some true) (hc:vh cx.n l L i=true) (hx:ay fr x=some (.pointer (some a))) (hw:o5 Γ a u)
  (h:FK id P cx K l b e J k (L.setIfInBounds i true) cs Γ ((d,u) :: fr) m):FJ id P cx K l b e J k i ⟨some d,.load t x,ty,pos,ab,g⟩ L cs Γ fr m:=
 HB hg hc (fun _ _ _ ha hs w' hC=>by
  obtain ⟨Z,F,hS⟩:=WD hs hC.1
  exact Ld (show NA P t from ht.h) (hw.sound hS) (aQ ha hx) w' (ak.refl _ _)) h
theorem FJ.ls {k i n:Nat} {L:Array Bool} {cs:LV} {Γ:QE} {fr:Fr} {m:Option (Out S R)} {d:Nat} {t ty:TI} {x:OO} {a:Addr} {ds:LV} {pos:String} {ab:Array Edge} {g:Option (Nat×Bool)} [ht:LK P t (some n)] (hg:gW l fr g=some true) (hc:vh cx.n l L i=true) (hx:ay fr x=some (.pointer (some a))) (hw:ug Γ a n ds)
  (h:FK id P cx K l b e J k (L.setIfInBounds i true) cs Γ ((d,.agg ds.toArray) :: fr) m):FJ id P cx K l b e J k i ⟨some d,.load t x,ty,pos,ab,g⟩ L cs Γ fr m:=
 HB hg hc (fun _ _ _ ha hs w' hC=>by
  obtain ⟨Z,F,hS⟩:=WD hs hC.1
  obtain ⟨h1,h2⟩:=hw.sound hS
  exact Lg (show AG P t n from ht.h) h1 (aQ ha hx) h2 w' (ak.refl _ _)) h
theorem FJ.lb {k i j:Nat} {L:Array Bool} {cs:LV} {Γ:QE} {fr:Fr} {m:Option (Out S R)} {d:Nat} {t ty:TI} {x:OO} {u:Value} {pos:String} {ab:Array Edge} {g:Option (Nat×Bool)} [ht:LK P t none] (hg:gW l fr g=some true) (hc:vh cx.n l L i=true) (hx:ay fr x=some (.pointer (some ⟨b,j,none⟩))) (hu:cs[j]? = some u) (hj:J.contains j=false)
  (h:FK id P cx K l b e J k (L.setIfInBounds i true) cs Γ ((d,u) :: fr) m):FJ id P cx K l b e J k i ⟨some d,.load t x,ty,pos,ab,g⟩ L cs Γ fr m:=
 HB hg hc (fun _ _ _ ha hs w' hC=>by
  obtain ⟨_,ds,av,hd⟩:=hC
  have ik:w'.cell? ⟨b,j,none⟩ = some u:=by
   have:=av.at.cell (j:=j) (u:=u) (by rw [hd j hj,hu])
   rwa [gw,Nat.zero_add] at this
  exact Ld (show NA P t from ht.h) ik (aQ ha hx) w' (ak.refl _ _)) h
theorem FJ.cm {k i:Nat} {L:Array Bool} {cs:LV} {Γ Δ:QE} {fr:Fr} {d:Nat} {f:FuncId} {xs:List Operand} {vs:LV} {au:Array TypeId} {ty:TI} {pos:String} {ab:Array Edge} {g:Option (Nat×Bool)} {β V:Type} {mo:Option β} {rt:β→V→List Value} {ps:β→V→List aq} {gm:β→Option (Out S R)} [hf:bg P f]
  (hg:gW l fr g=some true) (hc:(dh cx.n l && (Region.ready .any l.toArray L == [i]))=true) (hx:tM fr xs=some vs) (KW:Ct P f true mo vs Δ rt ps) (h0:FO Δ) (h1:ER true Γ Δ)
  (h:∀ y v,FK id P cx K l b e J k (L.setIfInBounds i true) cs ((ps y v).reverse++Γ) ((d,l7 (rt y v)) :: fr) (gm y)):FJ id P cx K l b e J k i ⟨some d,.call ⟨.value (.func f),xs.toArray,au⟩,ty,pos,ab,g⟩ L cs Γ fr (mo>>=gm):=by
 have h:=fun y v=>Eq.mp CZ (h y v)
 rw [HA]
 intro hi
 rw [Bool.and_eq_true] at hc
 intro B o ho r w ha hs
 obtain ⟨y,hy,ho⟩:=bind_some ho
 obtain ⟨fn,c,f1,f2,f3⟩:=hf.h
 refine Hw.Mn hc.1 hi (by simpa using hc.2) (ra ha hg) (f:=f) (args:=vs.toArray) (by rw [Ar f1 f2 f3,mq ha hx]) ?_
 obtain ⟨Z,F,⟨f',F',rfl,⟨rfl,av⟩,hS⟩,hG⟩:=hs
 rw [p9] at KW
 have bb:∀ b'∈[b]++F',b' < w.heap.size:=fun b' hb=>(List.mem_append.1 hb).elim (fun h=>by rw [List.mem_singleton.1 h]; exact av.lt) (hS.lt b')
 refine (Mm (B:=B) (Z:=Z) (Z':=fun b'=>Z b'∨b'∈[b]++F') (Fd:=[]) (F1:=[b]++F') KW (h1.sound (fun _ h=>.inl h) (fun _ _ h=>.inr (List.mem_append_right _ h)) hS h0.ho) bb (by simpa using hG) (fun _ h=>.inl h) (fun _ h=>h) (KW.1 rfl y) hy).mono ?_
 rintro e' w' ⟨v,F2,he,hC,hl,ke⟩
 have r4:ak [] w w':=hC
 obtain ⟨F3,p3,hS3⟩:=hl.build (hS.ic r4)
 have lz:=av.ic r4
 refine ⟨_,he,⟨r4.nil,cs,lz,fun _ _=>rfl⟩,Hw.mono ?_ (h y v B o ho _ w' (an ha) ⟨Z,[b]++F3,⟨[b],F3,rfl,⟨rfl,lz⟩,hS3⟩,ke.perm ?_⟩)⟩
 ·rintro zP ⟨q1,q2⟩
  exact ⟨r4.nil.trans q1,q2⟩
 ·refine .trans (p3.append_left [b]) ?_
  rw [← List.append_assoc,← List.append_assoc]
  exact List.perm_append_comm.append_right F'
theorem FJ.st {k i j n:Nat} {L:Array Bool} {cs ds us:LV} {Γ:QE} {fr:Fr} {t ty:TI} {x y:OO} {u:Value} {pos:String} {ab:Array Edge} {g:Option (Nat×Bool)} {m:Option (Out S R)} [ht:sI P t n]
  (hg:gW l fr g=some true) (hc:(dh cx.n l && (Region.ready .any l.toArray L == [i]))=true) (hx:ay fr x=some (.pointer (some ⟨b,j,none⟩))) (hy:ay fr y=some u) (uN:rU Γ u us) (hn:us.length=n) (hs:sJ us j cs ds) (ho:uZ Γ us) (hJ:((List.range us.length).all fun q=>J.contains (j+q))=true)
  (h:FK id P cx K l b e J k (L.setIfInBounds i true) ds Γ fr m):FJ id P cx K l b e J k i ⟨none,.store t x y,ty,pos,ab,g⟩ L cs Γ fr m:=by
 rw [CZ] at h
 rw [HA]
 intro hi
 rw [Bool.and_eq_true] at hc
 intro B o hmo r w ha oh
 obtain ⟨ti,q1,q2⟩:=ht.h
 obtain ⟨Z,F,⟨f',F',rfl,⟨rfl,av⟩,hS⟩,hG⟩:=oh
 obtain ⟨e1,e2⟩:=hs.eq
 have jl:=tU (P:=P) (d:=none) (ty:=ty) (pos:=pos) (ab:=ab) (gg:=g) q1 (by rw [hn,q2]) av e1 (aQ ha hx) (y:=y) (by rw [aQ ha hy]; exact uN.eq hS) (ho.one hS)
 have lz:=setRow_heap w b cs.toArray (cs.take j++us++cs.drop (j+us.length)).toArray e _ av
 have xY:ak [b] w (w.setRow b (cs.take j++us++cs.drop (j+us.length)).toArray):=⟨rfl,rfl,rfl,Nat.le_refl _,by simp,fun i _ hj=>setRow_other w b i _ fun h=>hj (by simp [h])⟩
 rw [← e2] at jl lz xY
 have sM:∀ q,J.contains q=false→ds[q]? = cs[q]?:=by
  intro q hq
  have Cb:q < j∨j+us.length≤q:=by
   refine Classical.byContradiction fun sP=>?_
   have:=List.all_eq_true.1 hJ (q - j) (List.mem_range.2 (by omega))
   rw [show j+(q - j)=q by omega,hq] at this
   cases this
  rw [e2]
  rcases Cb with hq | hq
  ·rw [List.append_assoc,List.getElem?_append_left (by rw [List.length_take]; omega),List.getElem?_take_of_lt hq]
  ·rw [List.getElem?_append_right (by rw [List.length_append,List.length_take]; omega),List.getElem?_drop,List.length_append,List.length_take]
   congr 1
   omega
 have cp:=List.nodup_append.1 hG.nd
 have b9:St B (.row b ds e :: Γ) (w.setRow b ds.toArray):=by
  refine ⟨Z,[b]++F',⟨[b],F',rfl,⟨rfl,lz⟩,hS.dp xY (fun b' hb=>by rw [List.mem_singleton.1 hb]; exact hG.apart b (by simp)) (fun _ _=>List.not_mem_nil) (fun b' hb hm=>by rw [List.mem_singleton.1 hb] at hm; exact cp.2.2 b (by simp) b hm rfl)⟩,?_⟩
  exact ⟨hG.nd,hG.apart,fun b' hb=>Nat.lt_of_lt_of_le (hG.nh b' hb) xY.size,hG.low,hG.wk,hG.vH,hG.jf.then xY fun b' hb=>by rw [List.mem_singleton.1 hb]; exact hG.low b (by simp)⟩
 intro a h1 h2 h3
 refine wpAnyH_all (by simpa using hc.2) (by simp) fun j' iu=>?_
 obtain rfl:j'=i:=by simpa using iu
 unfold wpOp
 rw [show (l.toArray)[j']? = some ⟨none,.store t x y,ty,pos,ab,g⟩ by simpa using hi]
 simp only []
 rw [vX (by rw [h1]; exact hc.1),h3,if_pos (ra ha hg)]
 refine .inl ?_
 unfold Oper.wp
 rw [ny,h3,jl]
 refine ⟨⟨xY,ds,lz,sM⟩,Hw.mono ?_ (h B o hmo r _ ha b9) _ (by rw [iT]; exact h1) (by rw [fu]; exact h2) (by rw [js (xX hc.1 hi h1),h3]; rfl)⟩
 rintro zP ⟨q3,U0,q4,q5⟩
 exact ⟨xY.trans q3,U0,q4,fun q hq=>(q5 q hq).trans (sM q hq)⟩
theorem Mo {k:Nat} (J:LN) {b:Nat} {cs:LV} {e:TI} {Γ Γ1:QE} {fr:Fr} {m:Option (Out S R)} (hk:l.length=k) (hB:P.follows .mixedOrders=true) (hs:bz Γ (.row b cs e) Γ1) (h:FK id P cx K l b e J k (Array.replicate k false) cs Γ1 fr m):Bx (qa P cx (.dr id l K Γ fr m)):=by
 subst hk
 rw [CZ] at h
 rw [nb]
 intro B o ho r w ha oh
 obtain ⟨Z,F,hS,hG⟩:=oh
 obtain ⟨f,F1,hp,⟨rfl,av⟩,ep⟩:=hs.sound hS
 have acB:St B (.row b cs e :: Γ1) w:=⟨Z,[b]++F1,⟨[b],F1,rfl,⟨rfl,av⟩,ep⟩,hG.perm hp⟩
 have hCd:ak [] w { w with drawn:=w.drawn+1 }:=ak.drew _ _
 exact py.W hB (Hw.start (h B o ho r _ ha (acB.ic hCd)))
end
end Go.Dk
namespace Go.Li
open Go
section
variable {P:Program} {n:Nat} {Q:Exit→(Nat→Value)→World→Prop} {r:NV} {w:World} {R:Type}
theorem Uk {l:Nat} (h:Q .normal r w):W P n (.label l) Q r w:=fun a h1 h2 h3=>wp_label ⟨h1,h2,by rw [h3]; exact h⟩
end
end Go.Li
namespace Go.Dk
open Go Go.Li
section
variable {R:Type} {P:Program} {cx:Cx R} {S:Type}
theorem QO {K:ch R S} {c:Code} {b e:Nat} {cs:LV} {Γ Γ1:QE} {fr:Fr} {m:Option (Out S R)} (h1:bz Γ (.row b cs e) Γ1) (h:D P cx (.c K c (.au ⟨b,0,none⟩ cs :: Γ1) fr m)):D P cx (.c K c Γ fr m):=by
 refine D.of ?_
 intro B o ho r w ha hs
 refine h.sound B o ho r w ha ?_
 obtain ⟨Z,F,hS,hG⟩:=hs
 obtain ⟨f,F1,hp,⟨rfl,av⟩,ep⟩:=h1.sound hS
 have uH:(F1++[b]).Perm F:=List.perm_append_comm.trans hp
 have ke:=Gd.freeze (hG.perm uH) fun c hc=>by rw [List.mem_singleton.1 hc]; exact av.lt
 exact ⟨qv Z [b],F1,SA.fact (ep.mono (fun _ h=>.inl h) fun _ h=>h) ⟨av.at,fun _=>.inr (by simp)⟩,ke⟩
theorem aae {M α:Type} {all l:LO} {rk:RK R M} {T E:ah α} {v:Value} {y:α} {Γ Γ1:QE} {fr:Fr} {m:Option M} (h1:bz Γ (.own T v y) Γ1) (hl:Le T E) (h:D P cx (.o false all l rk (.rd false E v y :: Γ1) fr m)):D P cx (.o false all l rk Γ fr m):=by
 refine D.of ?_
 intro B o ho r w ha hs
 refine h.sound B o ho r w ha ?_
 obtain ⟨Z,F,hS,hG⟩:=hs
 obtain ⟨f,F1,hp,hO,ep⟩:=h1.sound hS
 have uH:(F1++f).Perm F:=List.perm_append_comm.trans hp
 have ke:=Gd.freeze (hG.perm uH) fun c hc=>ah.lt _ hO c hc
 exact ⟨qv Z f,F1,SA.fact (ep.mono (fun _ h=>.inl h) fun _ h=>h) ⟨f,hl.le hO,fun c hc=>.inr hc⟩,ke⟩
theorem Ti {M α:Type} {T:ah α} (d:Nat) {op:Op} {ty:TI} {pos:String} {ab:Array Edge} {all l:LO} {rk:RK R M} {v:Value} {y:α} {Γ Γ1:QE} {fr:Fr} {m:Option M} (h1:bz Γ (.own T v y) Γ1) (h:D P cx (.e false op (some d) ty all l rk (.rd false T v y :: Γ1) fr m)):D P cx (.o false all (⟨some d,op,ty,pos,ab,none⟩ :: l) rk Γ fr m):=
 aae h1 (Le.refl _) (.plain h)
theorem rgs {K:ch R S} {ops:LO} {Γ:QE} {fr:Fr} {m:Option (Out S R)} (h:D P cx (.rg false true ops K Γ fr m)):D P cx (.rg true true ops K Γ fr m):=D.of (show qa P cx _ from h.sound)
theorem vD {K:ch R S} {l:Nat} {Γ:QE} {fr:Fr} {m:Option (Out S R)} (h:D P cx (.n K Γ fr m)):Bx (qa P cx (.c K (.label l) Γ fr m)):=by
 rw [nb]
 exact fun B o ho r w ha hs=>Uk (h.sound B o ho r w ha hs)
section
variable {S1 V:Type} {k j:Nat} {Δ:S1→V→List aq} {φ:S1→V→Fr} {Γ2 Γ Γ1 Γ3:QE} {f2 fr:Fr} {s:S1} {v:V} (hv:uA V v) (ha:qm fr (φ s v)) (hf:qm fr f2) (h0:EO Γ (Δ s v) Γ1) (hw:OW Γ (Δ s v)) (h1:EO Γ1 Γ2 Γ3) (h2:MF Γ none Γ2)
include hv ha hf h0 hw h1 h2
end
end
abbrev rI:Value→List Int→aq:=.rd false (aV (aN .i64))
abbrev rJ:Value→List (List Int)→aq:=.rd false (aV (aV (aN .i64)))
class FE (p:Prop):Prop where
 u:True
instance {o:Bool} {a b:QE}:FE (ER o a b):=⟨trivial⟩
instance {a:QE} {b:LV}:FE (uZ a b):=⟨trivial⟩
instance {a b c:QE}:FE (EF a b c):=⟨trivial⟩
instance {a b c:QE}:FE (EO a b c):=⟨trivial⟩
instance {a b:QE}:FE (EP a b):=⟨trivial⟩
instance {a c d:LV} {b:Nat}:FE (sJ a b c d):=⟨trivial⟩
instance {a b:Nat} {c d:LV}:FE (u2 a b c d):=⟨trivial⟩
instance {a:LN} {b:Option (Bool×Nat×Value)} {c d:Fr}:FE (Kp a b c d):=⟨trivial⟩
instance {V:Type} {v:V}:FE (uA V v):=⟨trivial⟩
instance {a:QE} {b:Addr} {c:Nat} {d:LV}:FE (ug a b c d):=⟨trivial⟩
theorem fe {p:Prop} [FE p] (h:p):p:=h
section
variable {R:Type} {P:Program} {cx:Cx R} {fr:Fr}
end
end Go.Dk
namespace Go.Dk
open Go Go.Li
theorem Ul {P:Program} {g:FuncId} {vs:LV} {Δ:QE} {β:Type} {m:Option β} {ow:Bool} {rt:β→Unit→List Value} (hc:Ct P g ow m vs Δ rt (fun _ _=>[])) {w:World} (hl:HL (fun b=>b < w.heap.size) w Δ []) {y:β} (hy:m=some y) :
  Calls P g vs.toArray w fun e w'=>e = .returned (l7 (rt y ()))∧ak [] w w':=by
 rw [p9] at hc
 refine (hc.2 w _ [] hl List.nodup_nil (fun _ h=>absurd h List.not_mem_nil) (fun _ h=>h) y hy).mono ?_
 rintro e w' ⟨_,he,Z,F,_,hg⟩
 exact ⟨he,hg.jf⟩
theorem Um {w:World} {α:Type} {T:ah α} {v:Value} {x:α} {f:LN} (h:T.rep w.heap [v] x f):fact (fun b=>b < w.heap.size) w [] (.rd false T v x):=⟨f,h,fun b hb=>T.lt h b hb⟩
end Go.Dk
