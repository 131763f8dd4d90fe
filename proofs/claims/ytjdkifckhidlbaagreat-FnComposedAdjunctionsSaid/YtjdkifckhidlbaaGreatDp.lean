/- A region that draws its order: its head in any order, whatever it holds, its tail quiet and behind all of the head. No condition. -/
import Derived.Test.YtjdkifckhidlbaaGreatDg
import Derived.Deep.Quiet
import Derived.Laws.Slices
import Derived.OrdersHeld
import Derived.Scope
namespace Go.Li
open Go
section
variable {P:Program} {n:Nat} {Q:Exit→(Nat→Value)→World→Prop} {r0:NV} {w0:World} {l:LO} {S:List gw}
def AR (l:LO) (m:Nat):Bool:=
 ((List.range l.length).all fun i=>((l.getD i default).after.toList.filter (Region.binds .any)).all fun e=>Nat.blt e.on i) &&
 ((List.range l.length).all fun i=>Nat.blt i m || (List.range m).all fun j=>((bx l).getD i []).contains j) &&
 BZ ((l.take m).filterMap (·.dst)) && Region.noSelect l.toArray && Region.lexFrom .any l.toArray (l.length - m) m (List.replicate m true++List.replicate (l.length - m) false).toArray
theorem LM {m:Nat} (h:AR l m=true):∀ (i:Nat) (o:Oper),l[i]? = some o→∀ e∈o.after.toList.filter (Region.binds .any),e.on < i:=by
 simp only [AR,Bool.and_eq_true,List.all_eq_true,List.mem_range] at h
 intro i o ho e he
 have hi:i < l.length:=(List.getElem?_eq_some_iff.1 ho).1
 have:=h.1.1.1.1 i hi e (by rw [List.getD_eq_getElem?_getD,ho]; exact he)
 exact Nat.lt_of_succ_le (Nat.le_of_ble_eq_true this)
theorem TQ {m:Nat} {U:LL} {H:LN} {N:Nat→Prop} (hd:dk n l=true) (hA:AR l m=true) (Gr:m≤l.length)
  (hS:S.length=m)
  (hH:∀ b∈H,b < w0.heap.size) (hU:((List.range m).all fun i=>(U.getD i []).all fun u=>Nat.beq u l.length || ((bx l).getD i []).contains u)=true)
  (hN:∀ b,N b→b < w0.heap.size∧b ∉ H)
  (sX:∀ (i:Nat) (s:gw),S[i]? = some s→∀ f F (w w':World) (r r':NV) v,aw F w w'→(∀ b∈f,b ∉ F)→(∀ b∈F,¬ N b)→(∀ j∈(bx l).getD i [],∀ t,bn l j=some t→r' t=r t)→s.V f w r v→s.V f w' r' v)
  (PX:∀ i,i < m→iq P l m S U r0 w0 H i)
  (next:∀ g r w,x9 l m S U r0 w0 H (fun j=>j < m) g r w→QL P (aw [] w) l (l.drop m) r fun r'=>∀ w',aw [] w w'→Q .normal r' w') :
  nz P n l Q r0 w0:=by
 simp only [AR,Bool.and_eq_true,List.all_eq_true,List.mem_range,Bool.or_eq_true] at hA
 obtain ⟨⟨⟨⟨VS,VT⟩,VU⟩,Sg⟩,PY⟩:=hA
 have xx:∀ (i:Nat) (o:Oper),l[i]? = some o→∀ e∈o.after.toList.filter (Region.binds .any),e.on < i:=by
  intro i o ho e he
  have hi:i < l.length:=(List.getElem?_eq_some_iff.1 ho).1
  have:=VS i hi e (by rw [List.getD_eq_getElem?_getD,ho]; exact he)
  exact Nat.lt_of_succ_le (Nat.le_of_ble_eq_true this)
 have Fu:∀ i,m≤i→i < l.length→∀ j,j < m→j∈(bx l).getD i []:=by
  intro i h1 h2 j hj
  rcases VT i h2 with h | h
  ·exact absurd (Nat.lt_of_succ_le (Nat.le_of_ble_eq_true h)) (Nat.not_lt.2 h1)
  ·have:=h j hj
   simpa using this
 have VV:∀ i,i < m→∀ u∈U.getD i [],u=l.length∨u∈(bx l).getD i []:=by
  intro i hi u hu
  simp only [List.all_eq_true,List.mem_range] at hU
  have:=hU i hi u hu
  simpa using this
 have db:=Gt _ (zC VU)
 have sg:=B0 l xx
 intro a h1 h2 h3
 let Cl (L:Array Bool):Prop:=L.size=l.length∧∀ j o,l[j]? = some o→L.getD j false=true→∀ e∈o.after.toList.filter (Region.binds .any),L.getD e.on false=true
 have j6:∀ L,Cl L→∀ i j,(∀ o,l[i]? = some o→∀ e∈o.after.toList.filter (Region.binds .any),L.getD e.on false=true)→j∈(bx l).getD i []→L.getD j false=true:=by
  intro L hL i
  induction i using Nat.strongRecOn with
  | _ i ih=>
   intro j hi hj
   obtain ⟨_,o,ho,e,he,Ic⟩:=sg i j hj
   have hl:=hi o ho e he
   rcases Ic with rfl | Ic
   ·exact hl
   ·exact ih e.on (xx i o ho e he) j (fun o' bw e' u9=>hL.2 _ _ bw hl e' u9) Ic
 have Dd:∀ L i,i∈Region.ready .any l.toArray L→L.getD i true=false∧∃ o,l[i]? = some o∧∀ e∈o.after.toList.filter (Region.binds .any),L.getD e.on false=true:=by
  intro L i hi
  obtain ⟨g1,o,ho,fq⟩:=mem_ready.1 hi
  refine ⟨g1,o,by simpa using ho,fun e he=>?_⟩
  have:=List.mem_filter.1 he
  exact fq e (by simpa using this.1) this.2
 have El:∀ L i o,L.size=l.length→l[i]? = some o→L.getD i false=false→(∀ e∈o.after.toList.filter (Region.binds .any),L.getD e.on false=true)→i∈Region.ready .any l.toArray L:=by
  intro L i o hs ho hu fq
  refine mem_ready.2 ⟨?_,o,by simpa using ho,fun e he hb=>fq e (List.mem_filter.2 ⟨by simpa using he,hb⟩)⟩
  have hi:i < L.size:=by rw [hs]; exact (List.getElem?_eq_some_iff.1 ho).1
  simp [hi] at hu ⊢; exact hu
 have G9:∀ L i o,Cl L→l[i]? = some o→(∀ e∈o.after.toList.filter (Region.binds .any),L.getD e.on false=true)→Cl (L.setIfInBounds i true):=by
  intro L i o hL ho fq
  refine ⟨by rw [Array.size_setIfInBounds]; exact hL.1,fun j o' bw hj e he=>?_⟩
  by_cases zT:i=j
  ·subst zT
   have:o'=o:=Option.some.inj (bw.symm.trans ho)
   subst this
   exact getD_set_true (fq e he)
  ·rw [getD_set_ne false zT] at hj
   exact getD_set_true (hL.2 j o' bw hj e he)
 have getSet:∀ (L:Array Bool) i j,L.size=l.length→i < l.length→((L.setIfInBounds i true).getD j false=true↔j=i∨L.getD j false=true):=by
  intro L i j hs hi
  by_cases zT:i=j
  ·subst zT
   simp [hs,hi]
  ·rw [getD_set_ne false zT]
   constructor
   ·exact .inr
   ·rintro (h | h)
    ·exact absurd h.symm zT
    ·exact h
 have Ie:∀ (L:Array Bool) i,L.size=l.length→i < l.length→L.getD i false=false→(L.setIfInBounds i true).toList.count false+1=L.toList.count false:=by
  intro L i hs hi hu
  have uW:i < L.toList.length:=by simpa [hs] using hi
  have De:L.toList[i]=false:=by
   rw [Array.getElem_toList]
   simp [hs,hi] at hu
   exact hu
  rw [Array.toList_setIfInBounds,List.count_set uW,De]
  have:0 < L.toList.count false:=List.count_pos_iff.2 (by rw [← De]; exact List.getElem_mem uW)
  rw [if_pos (by rfl),if_neg (by decide)]
  omega
 have jb:dk n (l.drop m)=true:=by
  simp only [dk,List.all_eq_true] at hd ⊢
  exact fun o ho=>hd o (List.mem_of_mem_drop ho)
 have tail:∀ (fuel:Nat) (L:Array Bool) (a:Act) (w:World),Cl L→(∀ j,L.getD j false=true↔j < m)→L.toList.count false=fuel→a.tmps.size=n→a.defers=[]→
   (QL P (aw [] w) l (l.drop m) (cu a) fun r'=>∀ w',aw [] w w'→Q .normal r' w')→wpAny P .any l.toArray (fun e a' w'=>a'.tmps.size=n∧a'.defers=[]∧Q e (cu a') w') fuel L a w:=by
  intro fuel L a w hL iT hf g1 g2 hq
  have hLe:L=(List.replicate m true++List.replicate (l.length - m) false).toArray:=by
   apply Array.ext
   ·simp [hL.1]; omega
   ·intro i hi hj
    have h1:=iT i
    simp only [Array.getD_eq_getD_getElem?,Array.getElem?_eq_getElem hi,Option.getD_some] at h1
    have e:(List.replicate m true++List.replicate (l.length - m) false).toArray[i]'hj=decide (i < m):=by
     simp only [List.getElem_toArray,List.getElem_append,List.getElem_replicate,List.length_replicate]
     split
     ·rename_i h; simp [h]
     ·rename_i h; simp [h]
    rw [e]
    cases hb:L[i] with
    | false=>exact (decide_eq_false fun h=>by have:=h1.2 h; rw [hb] at this; cases this).symm
    | true=>exact (decide_eq_true (h1.1 hb)).symm
  have VW:fuel=l.length - m:=by
   rw [← hf,hLe]
   simp [List.count_append,List.count_replicate]
  have q1:=QL.wpQuiet (n:=n) (l:=l) (l.drop m) a hd jb g1 g2 hq
  have q2:=wpAnyQ_lex (md:=.any) Sg (l.drop m) m L a (fun j=>by simp [List.getElem?_drop]) (by rw [hLe,List.length_drop]; exact PY) q1
  refine wpAny_of_quiet (C:=aw [] w) (Q:=fun a'=>a'.tmps.size=n∧a'.defers=[]∧∀ w',aw [] w w'→Q .normal (cu a') w') (fun a' w' B1 hh=>⟨hh.1,hh.2.1,hh.2.2 w' B1⟩) _ _ _ _ (aw.refl _ _) ?_
  rw [VW,← List.length_drop]
  exact q2
 have head:∀ (fuel:Nat) (L:Array Bool) (a:Act) (w:World) (g:Nat→List Nat),Cl L→(∀ j,L.getD j false=true→j < m)→L.toList.count false=fuel→a.tmps.size=n→a.defers=[]→
   x9 l m S U r0 w0 H (fun j=>L.getD j false=true) g (cu a) w→wpAny P .any l.toArray (fun e a' w'=>a'.tmps.size=n∧a'.defers=[]∧Q e (cu a') w') fuel L a w:=by
  intro fuel
  induction fuel with
  | zero=>
   intro L a w g hL vE hf g1 g2 inv
   have fq:∀ j,j < l.length→L.getD j false=true:=by
    intro j hj
    cases hb:L.getD j false with
    | true=>rfl
    | false=>have:=Ie L j hL.1 hj hb; omega
   have iT:∀ j,L.getD j false=true↔j < m:=fun j=>⟨vE j,fun h=>fq j (by omega)⟩
   refine tail 0 L a w hL iT hf g1 g2 (next g _ _ ?_)
   exact ⟨inv.lp,fun hk=>inv.B2 fun k ya=>hk k ((iT k).1 ya),inv.vg,fun j hj=>inv.vd j ((iT j).2 hj),fun j hj hk=>inv.done j ((iT j).2 hj) (fun k ya=>hk k ((iT k).1 ya)),fun j hj=>inv.ur j ((iT j).2 hj),inv.other,fun j hj b hb=>⟨(inv.fresh j ((iT j).2 hj) b hb).1.imp (fun h=>h) fun h=>⟨h.1,h.2.imp fun k hk=>⟨(iT k).1 hk.1,hk.2⟩⟩,(inv.fresh j ((iT j).2 hj) b hb).2⟩,fun i j hi hj=>inv.xp i j ((iT i).2 hi) ((iT j).2 hj)⟩
  | succ fuel ih=>
   intro L a w g hL vE hf g1 g2 inv
   by_cases fq:∀ j,j < m→L.getD j false=true
   ·have iT:∀ j,L.getD j false=true↔j < m:=fun j=>⟨vE j,fq j⟩
    refine tail _ L a w hL iT hf g1 g2 (next g _ _ ?_)
    exact ⟨inv.lp,fun hk=>inv.B2 fun k ya=>hk k ((iT k).1 ya),inv.vg,fun j hj=>inv.vd j ((iT j).2 hj),fun j hj hk=>inv.done j ((iT j).2 hj) (fun k ya=>hk k ((iT k).1 ya)),fun j hj=>inv.ur j ((iT j).2 hj),inv.other,fun j hj b hb=>⟨(inv.fresh j ((iT j).2 hj) b hb).1.imp (fun h=>h) fun h=>⟨h.1,h.2.imp fun k hk=>⟨(iT k).1 hk.1,hk.2⟩⟩,(inv.fresh j ((iT j).2 hj) b hb).2⟩,fun i j hi hj=>inv.xp i j ((iT i).2 hi) ((iT j).2 hj)⟩
   ·obtain ⟨j0,Sh,zU⟩ : ∃ j,j < m∧L.getD j false=false:=by
     apply Classical.byContradiction
     intro tM
     apply fq
     intro j hj
     cases hb:L.getD j false with
     | true=>rfl
     | false=>exact absurd ⟨j,hj,hb⟩ tM
    have LP:∃ i,i∈Region.ready .any l.toArray L:=by
     have:∀ k,(∃ j,j < k∧j < m∧L.getD j false=false)→∃ i,i∈Region.ready .any l.toArray L:=by
      intro k
      induction k with
      | zero=>rintro ⟨j,h,_⟩; omega
      | succ k D8=>
       rintro ⟨j,NJ,B3,tN⟩
       by_cases wo:∃ j,j < k∧j < m∧L.getD j false=false
       ·exact D8 wo
       ·obtain rfl:j=k:=by
         apply Classical.byContradiction
         intro h
         exact wo ⟨j,by omega,B3,tN⟩
        have Em:j < l.length:=by omega
        refine ⟨j,El L j l[j] hL.1 (List.getElem?_eq_getElem Em) tN fun e he=>?_⟩
        have bj:=xx j _ (List.getElem?_eq_getElem Em) e he
        cases hb:L.getD e.on false with
        | true=>rfl
        | false=>exact absurd ⟨e.on,bj,by omega,hb⟩ wo
     exact this (j0+1) ⟨j0,by omega,Sh,zU⟩
    have main:∀ i oi,i < m→l[i]? = some oi→L.getD i false=false→(∀ e∈oi.after.toList.filter (Region.binds .any),L.getD e.on false=true)→
      (Region.wanted oi (yl l (cu a))=true∧fv P oi (cu a) w fun v w'=>wpAny P .any l.toArray (fun e a' w'=>a'.tmps.size=n∧a'.defers=[]∧Q e (cu a') w') fuel (L.setIfInBounds i true) (a.put oi.dst v) w')∨
      (Region.wanted oi (yl l (cu a))=false∧wpAny P .any l.toArray (fun e a' w'=>a'.tmps.size=n∧a'.defers=[]∧Q e (cu a') w') fuel (L.setIfInBounds i true) (a.put oi.dst undef) w):=by
     intro i oi vF pg vG vH
     have gu:i < l.length:=(List.getElem?_eq_some_iff.1 pg).1
     have ot:∀ o,l[i]? = some o→∀ e∈o.after.toList.filter (Region.binds .any),L.getD e.on false=true:=fun o' bw=>by
      have:o'=oi:=Option.some.inj (bw.symm.trans pg)
      subst this; exact vH
     obtain ⟨s,hs⟩ : ∃ s,S[i]? = some s:=⟨S[i]'(by omega),List.getElem?_eq_getElem (by omega)⟩
     have hc:=Ie L i hL.1 gu vG
     have Df:=G9 L i oi hL pg vH
     have VX:∀ j,(L.setIfInBounds i true).getD j false=true→j < m:=by
      intro j hj
      rcases (getSet L i j hL.1 gu).1 hj with rfl | hj
      ·exact vF
      ·exact vE j hj
     have En:∀ k,L.getD k false=true→k≠i∧i ∉ (bx l).getD k []:=by
      intro k hk
      refine ⟨fun h=>(by rw [h,vG] at hk; cases hk),fun vY=>?_⟩
      have:=j6 L hL k i (fun o' bw e' u9=>hL.2 k o' bw hk e' u9) vY
      rw [vG] at this; cases this
     have ow:=PX i vF oi s pg hs g (cu a) w inv.lp (fun hV=>by
       have tM:∀ k,L.getD k false=true→l.length ∉ U.getD k []:=fun k hk Ig=>by
        simp only [wF,List.all_eq_true,List.mem_range,Bool.or_eq_true,Bool.not_eq_true',List.contains_eq_mem,decide_eq_false_iff_not,decide_eq_true_eq] at hV
        rcases hV k (vE k hk) with (h | h) | h
        ·exact h Ig
        ·exact (En k hk).1 (Nat.eq_of_beq_eq_true h)
        ·exact (En k hk).2 h
       have h0:=inv.B2 tM
       exact ⟨h0.1,h0.2,fun j hj b hb=>(inv.fresh j (j6 L hL i j ot hj) b hb).1.elim (fun h=>h) fun h=>absurd h.2.choose_spec.2 (tM _ h.2.choose_spec.1)⟩) (fun j hj=>inv.ur j (j6 L hL i j ot hj)) (fun j hj=>by
       simp only [ta,Bool.and_eq_true,List.all_eq_true,List.mem_range,Bool.or_eq_true,Bool.not_eq_true',List.contains_eq_mem,decide_eq_false_iff_not,decide_eq_true_eq] at hj
       refine inv.done j (j6 L hL i j ot hj.1) fun k hk NJ=>?_
       rcases hj.2 k (vE k hk) with (h | h) | h
       ·exact h NJ
       ·exact (En k hk).1 (Nat.eq_of_beq_eq_true h)
       ·exact (En k hk).2 h) inv.other
      (fun i' uW j' je=>inv.xp i' j' (j6 L hL i i' ot uW) (j6 L hL i j' ot je))
      (fun j hj b hb=>⟨(inv.fresh j (j6 L hL i j ot hj) b hb).1.imp (fun h=>h) (·.1),(inv.fresh j (j6 L hL i j ot hj) b hb).2⟩)
     have hblk:∀ b∈l9 g (U.getD i []),(∃ u,u∈U.getD i []∧L.getD u false=true∧b∈g u)∨(l.length∈U.getD i []∧b∈g l.length):=by
      intro b hb
      obtain ⟨u,hu,ig⟩:=List.mem_flatMap.1 hb
      rcases VV i vF u hu with rfl | h
      ·exact .inr ⟨hu,ig⟩
      ·exact .inl ⟨u,hu,j6 L hL i u ot h,ig⟩
     have Gu:∀ k',oi.dst=some k'→k' < a.tmps.size:=by
      intro k' BM
      have vY:oi∈l:=List.mem_of_getElem? pg
      simp only [dk,List.all_eq_true] at hd
      have:=hd oi vY
      rw [BM] at this
      rw [g1]
      exact Nat.lt_of_succ_le (Nat.le_of_ble_eq_true this)
     have zV:bn l i=oi.dst:=by unfold bn; rw [pg]; rfl
     have oq:∀ v t,(oi.dst≠some t)→cu (a.put oi.dst v) t=cu a t:=by
      intro v t ht
      rw [nj Gu]
      cases yb:oi.dst with
      | none=>rfl
      | some d=>
       show (bif Nat.beq t d then v else cu a t)=cu a t
       cases hb:Nat.beq t d with
       | false=>rfl
       | true=>exact absurd (by rw [yb,Nat.eq_of_beq_eq_true hb]) ht
     have Ih:∀ v d,oi.dst=some d→cu (a.put oi.dst v) d=v:=by
      intro v d yb
      rw [nj Gu,yb]
      show (bif Nat.beq d d then v else cu a d)=v
      rw [Nat.beq_refl]; rfl
     have step:∀ v w' f,aw (l9 g (U.getD i [])) w w'→(∀ b∈f,(b∈l9 g (U.getD i [])∨w.heap.size≤b)∧b < w'.heap.size)→(if s.b then s.V f w' (cu a) v else v=undef)→
       wpAny P .any l.toArray (fun e a' w'=>a'.tmps.size=n∧a'.defers=[]∧Q e (cu a') w') fuel (L.setIfInBounds i true) (a.put oi.dst v) w':=by
      intro v w' f hC tV hV
      have uj:∀ j',j' < m→j'≠i→∀ t,bn l j'=some t→cu (a.put oi.dst v) t=cu a t:=by
       intro j' je o7 t ht
       refine oq v t fun h=>o7 (db j' i t ?_ ?_)
       ·rw [mf je]; exact ht
       ·rw [mf vF,zV]; exact h
      have NK:∀ b∈l9 g (U.getD i []),¬ N b:=fun b hb hn=>by
       rcases hblk b hb with ⟨u,_,qu,ig⟩ | ⟨_,ig⟩
       ·rcases (inv.fresh u qu b ig).1 with h | h
        ·have:=(hN b hn).1; omega
        ·exact (hN b hn).2 h.1
       ·exact (hN b hn).2 (inv.vg b ig)
      refine ih _ _ _ (fun j=>if j=i then f else if j∈U.getD i [] then [] else g j) Df VX (by omega) (by rw [l3]; exact g1) (by rw [ja]; exact g2)
       ⟨inv.lp.then hC fun b hb=>(by
        rcases hblk b hb with ⟨u,_,qu,ig⟩ | ⟨_,ig⟩
        ·exact (inv.fresh u qu b ig).1.elim .inr fun h=>.inl h.1
        ·exact .inl (inv.vg b ig)),fun tM=>?_,?_,fun j hj=>?_,?_,fun j hj d r4 sj tC=>?_,?_,?_,?_⟩
      ·have wR:l.length ∉ U.getD i []:=tM i ((getSet L i i hL.1 gu).2 (.inl rfl))
       have h0:=inv.B2 fun k hk=>tM k ((getSet L i k hL.1 gu).2 (.inr hk))
       refine ⟨h0.1.then hC fun b hb=>?_,?_⟩
       ·rcases hblk b hb with ⟨u,_,qu,ig⟩ | ⟨h,_⟩
        ·exact (inv.fresh u qu b ig).1.elim .inr fun ⟨_,k,hk,Ig⟩=>absurd Ig (tM k ((getSet L i k hL.1 gu).2 (.inr hk)))
        ·exact absurd h wR
       ·show (if l.length=i then f else if l.length∈U.getD i [] then [] else g l.length)=H
        rw [if_neg (by omega),if_neg wR]
        exact h0.2
      ·intro b hb
       have cg:b∈(if l.length=i then f else if l.length∈U.getD i [] then [] else g l.length):=hb
       rw [if_neg (by omega)] at cg
       split at cg
       ·cases cg
       ·exact inv.vg b cg
      ·intro b hb hv
       have n7:b∈(if l.length=i then f else if l.length∈U.getD i [] then [] else g l.length):=hv
       rw [if_neg (by omega)] at n7
       split at n7
       ·cases n7
       ·rename_i VY
        have cg:b∈(if j=i then f else if j∈U.getD i [] then [] else g j):=hb
        split at cg
        ·rcases (tV b cg).1 with h | h
         ·rcases hblk b h with ⟨u,_,qu,ig⟩ | ⟨h,_⟩
          ·exact inv.vd u qu b ig n7
          ·exact VY h
         ·have h1:=hH b (inv.vg b n7)
          have h2:=inv.lp.size
          omega
        ·rename_i mj
         split at cg
         ·cases cg
         ·exact inv.vd j (((getSet L i j hL.1 gu).1 hj).resolve_left mj) b cg n7
      ·intro j hj yc
       refine ⟨fun d r4=>?_,fun VZ sj tC NL=>?_⟩
       rotate_left
       ·by_cases mj:j=i
        ·subst mj
         rw [hs] at tC
         cases tC
         rw [if_pos NL] at hV
         refine ⟨v,?_⟩
         simp only [if_pos]
         exact sX j s hs _ [] w' w' (cu a) _ v (aw.refl _ _) (fun _ _ h=>nomatch h) (fun _ h=>nomatch h) (fun j' je t ht=>uj j' (by have:=(sg j j' je).1; omega) (by have:=(sg j j' je).1; omega) t ht) hV
        ·have ou:=((getSet L i j hL.1 gu).1 hj).resolve_left mj
         have tN:j ∉ U.getD i []:=yc i ((getSet L i i hL.1 gu).2 (.inl rfl))
         obtain ⟨x,hx⟩:=(inv.done j ou (fun k hk=>yc k ((getSet L i k hL.1 gu).2 (.inr hk)))).2 VZ sj tC NL
         have gh:(fun j=>if j=i then f else if j∈U.getD i [] then [] else g j) j=g j:=by
          show (if j=i then f else if j∈U.getD i [] then [] else g j)=g j
          rw [if_neg mj,if_neg tN]
         rw [gh]
         refine ⟨x,sX j sj tC _ _ _ _ (cu a) _ _ hC (fun b cg Ii=>?_) NK (fun j' je t ht=>uj j' (by have:=(sg j j' je).1; have:=vE j ou; omega) (fun h=>?_) t ht) hx⟩
         ·rcases hblk b Ii with ⟨u,B4,qu,ig⟩ | ⟨_,ig⟩
          ·exact inv.xp j u ou qu (fun h=>tN (h ▸ B4)) b cg ig
          ·exact inv.vd j ou b cg ig
         ·subst h
          have:=j6 L hL j j' (fun o' bw e' u9=>hL.2 j o' bw ou e' u9) je
          rw [vG] at this; cases this
       by_cases mj:j=i
       ·subst mj
        rw [hs]
        simp only [if_pos]
        rw [zV] at r4
        rw [Ih v d r4]
        split
        ·rename_i hb
         rw [if_pos hb] at hV
         exact sX j s hs _ [] w' w' (cu a) _ v (aw.refl _ _) (fun _ _ h=>nomatch h) (fun _ h=>nomatch h) (fun j' je t ht=>uj j' (by have:=(sg j j' je).1; omega) (by have:=(sg j j' je).1; omega) t ht) hV
        ·rename_i hb
         rw [if_neg hb] at hV
         exact hV
       ·have ou:=((getSet L i j hL.1 gu).1 hj).resolve_left mj
        have B3:=vE j ou
        have tN:j ∉ U.getD i []:=yc i ((getSet L i i hL.1 gu).2 (.inl rfl))
        have yb:oi.dst≠some d:=by
         intro h
         apply mj
         refine db j i d ?_ ?_
         ·rw [mf B3]; exact r4
         ·rw [mf vF,zV]; exact h
        have:=(inv.done j ou (fun k hk=>yc k ((getSet L i k hL.1 gu).2 (.inr hk)))).1 d r4
        rw [oq v d yb]
        have gh:(fun j=>if j=i then f else if j∈U.getD i [] then [] else g j) j=g j:=by
         show (if j=i then f else if j∈U.getD i [] then [] else g j)=g j
         rw [if_neg mj,if_neg tN]
        rw [gh]
        cases tC:S[j]? with
        | none=>trivial
        | some sj=>
         rw [tC] at this
         simp only [] at this ⊢
         split
         ·rename_i hb
          rw [if_pos hb] at this
          refine sX j sj tC _ _ _ _ (cu a) _ _ hC (fun b cg Ii=>?_) NK (fun j' je t ht=>uj j' (by have:=(sg j j' je).1; omega) (fun h=>?_) t ht) this
          rotate_left
          ·subst h
           have:=j6 L hL j j' (fun o' bw e' u9=>hL.2 j o' bw ou e' u9) je
           rw [vG] at this; cases this
          rcases hblk b Ii with ⟨u,B4,qu,ig⟩ | ⟨_,ig⟩
          ·exact inv.xp j u ou qu (fun h=>tN (h ▸ B4)) b cg ig
          ·exact inv.vd j ou b cg ig
         ·rename_i hb
          rw [if_neg hb] at this
          exact this
      ·by_cases mj:j=i
       ·subst mj
        rw [hs] at tC
        cases tC
        rw [zV] at r4
        rw [Ih v d r4]
        split
        ·rename_i hb
         rw [if_pos hb] at hV
         exact ⟨f,w',sX j s hs _ [] w' w' (cu a) _ v (aw.refl _ _) (fun _ _ h=>nomatch h) (fun _ h=>nomatch h) (fun j' je t ht=>uj j' (by have:=(sg j j' je).1; omega) (by have:=(sg j j' je).1; omega) t ht) hV⟩
        ·rename_i hb
         rw [if_neg hb] at hV
         exact hV
       ·have ou:=((getSet L i j hL.1 gu).1 hj).resolve_left mj
        have B3:=vE j ou
        have yb:oi.dst≠some d:=by
         intro h
         apply mj
         refine db j i d ?_ ?_
         ·rw [mf B3]; exact r4
         ·rw [mf vF,zV]; exact h
        have:=inv.ur j ou d r4 sj tC
        rw [oq v d yb]
        split
        ·rename_i hb
         rw [if_pos hb] at this
         obtain ⟨f1,w1,h1⟩:=this
         refine ⟨f1,w1,sX j sj tC _ [] w1 w1 (cu a) _ _ (aw.refl _ _) (fun _ _ h=>nomatch h) (fun _ h=>nomatch h) (fun j' je t ht=>uj j' (by have:=(sg j j' je).1; omega) (fun h=>?_) t ht) h1⟩
         subst h
         have:=j6 L hL j j' (fun o' bw e' u9=>hL.2 j o' bw ou e' u9) je
         rw [vG] at this; cases this
        ·rename_i hb
         rw [if_neg hb] at this
         exact this
      ·intro t ht
       rw [oq v t (fun h=>ht i vF (by rw [zV]; exact h))]
       exact inv.other t ht
      ·intro j hj b hb
       by_cases mj:j=i
       ·simp only [if_pos mj] at hb
        have hh:=tV b hb
        have sS:=inv.lp.size
        rcases hh.1 with h | h
        ·rcases hblk b h with ⟨u,_,qu,ig⟩ | ⟨hv,ig⟩
         ·exact ⟨(inv.fresh u qu b ig).1.imp (fun h=>h) fun h=>⟨h.1,h.2.imp fun k hk=>⟨(getSet L i k hL.1 gu).2 (.inr hk.1),hk.2⟩⟩,hh.2⟩
         ·exact ⟨.inr ⟨inv.vg b ig,i,(getSet L i i hL.1 gu).2 (.inl rfl),hv⟩,hh.2⟩
        ·exact ⟨.inl (by omega),hh.2⟩
       ·have ou:=((getSet L i j hL.1 gu).1 hj).resolve_left mj
        simp only [if_neg mj] at hb
        split at hb
        ·cases hb
        ·have h1:=inv.fresh j ou b hb
         have h2:=hC.size
         exact ⟨h1.1.imp (fun h=>h) fun h=>⟨h.1,h.2.imp fun k hk=>⟨(getSet L i k hL.1 gu).2 (.inr hk.1),hk.2⟩⟩,by omega⟩
      ·have uN:∀ j',(L.setIfInBounds i true).getD j' false=true→j'≠i→∀ b∈f,b ∉ (if j'∈U.getD i [] then [] else g j'):=by
        intro j' je e2 b hb cg
        have Ij:=((getSet L i j' hL.1 gu).1 je).resolve_left e2
        split at cg
        ·cases cg
        ·rename_i tN
         rcases (tV b hb).1 with h | h
         ·rcases hblk b h with ⟨u,B4,qu,ig⟩ | ⟨_,ig⟩
          ·exact inv.xp u j' qu Ij (fun h=>tN (h ▸ B4)) b ig cg
          ·exact inv.vd j' Ij b cg ig
         ·have:=inv.fresh j' Ij b cg
          omega
       intro i' j' uW je o7 b hb cg
       by_cases e1:i'=i
       ·have e2:j'≠i:=fun h=>o7 (e1.trans h.symm)
        simp only [if_pos e1] at hb
        simp only [if_neg e2] at cg
        exact uN j' je e2 b hb cg
       ·simp only [if_neg e1] at hb
        by_cases e2:j'=i
        ·simp only [if_pos e2] at cg
         exact uN i' uW e1 b cg hb
        ·simp only [if_neg e2] at cg
         split at hb
         ·cases hb
         ·split at cg
          ·cases cg
          ·exact inv.xp i' j' (((getSet L i i' hL.1 gu).1 uW).resolve_left e1) (((getSet L i j' hL.1 gu).1 je).resolve_left e2) o7 b hb cg
     cases hb:s.b with
     | true=>
      rw [if_pos hb] at ow
      refine .inl ⟨ow.1,po ow.2 ?_⟩
      rintro v w' ⟨hC,f,tV,hV⟩
      exact step v w' f hC tV (by rw [if_pos hb]; exact hV)
     | false=>
      rw [if_neg (by rw [hb]; exact Bool.false_ne_true)] at ow
      exact .inr ⟨ow,step undef w [] (aw.refl _ _) (fun b h=>nomatch h) (by rw [if_neg (by rw [hb]; exact Bool.false_ne_true)])⟩
    refine ⟨fun h=>(by obtain ⟨i,hi⟩:=LP; rw [h] at hi; cases hi),fun i hi=>?_⟩
    obtain ⟨q1,oi,pg,vH⟩:=Dd L i hi
    have gu:i < l.length:=(List.getElem?_eq_some_iff.1 pg).1
    have vG:L.getD i false=false:=getD_both q1
    have vF:i < m:=by
     rcases Nat.lt_or_ge i m with h | h
     ·exact h
     ·have hj:=Fu i h gu j0 Sh
      have:=j6 L hL i j0 (fun o' bw=>by have:o'=oi:=Option.some.inj (bw.symm.trans pg); subst this; exact vH) hj
      rw [zU] at this; cases this
    unfold wpOp
    rw [show (l.toArray)[i]? = some oi by simpa using pg]
    simp only []
    rw [AS (by rw [g1]; exact hd)]
    rcases main i oi vF pg vG vH with ⟨hw,h⟩ | ⟨hw,h⟩
    ·rw [if_pos hw]
     exact .inl (h.wp fun v w' hv=>hv)
    ·rw [if_neg (by rw [hw]; exact Bool.false_ne_true)]
     exact h
 refine head _ _ a _ (fun j=>if j=l.length then H else []) ⟨by simp,?_⟩ ?_ ?_ h1 h2 ⟨aw.nil (aw.drew _ _),fun _=>⟨aw.drew _ _,by simp⟩,fun b hb=>by simpa using hb,?_,?_,?_,?_,?_,?_⟩
 ·intro j o ho hj
  rw [getD_replicate_false] at hj; cases hj
 ·intro j hj
  rw [getD_replicate_false] at hj; cases hj
 ·simp
 ·intro j hj
  rw [getD_replicate_false] at hj; cases hj
 ·intro j hj
  rw [getD_replicate_false] at hj; cases hj
 ·intro j hj
  rw [getD_replicate_false] at hj; cases hj
 ·intro t _
  rw [h3]
 ·intro j hj
  rw [getD_replicate_false] at hj; cases hj
 ·intro i j hi
  rw [getD_replicate_false] at hi; cases hi
end
end Go.Li
namespace Go.Dk
open Go Go.Li
section
variable {R S:Type} {P:Program} {cx:Cx R} {K:dg R S} {l tail:LO} {base fr:Fr} {w:World} {Z:Nat→Prop}
theorem PZ {mt id:Nat} {U:LL} {H4:QE} (hU:((List.range mt).all fun i=>(U.getD i []).all fun u=>Nat.beq u l.length || ((bx l).getD i []).contains u)=true) (hh:j9 l mt base=true) (hd:dk cx.n l=true) (hA:AR l mt=true) (Gr:mt≤l.length) (ht:tail=l.drop mt) {i:Nat} {sl:LQ} {ms:MM} {Γ:QE} {m:Option (Out S R)} (H5:AB ms=true) (rh:zA U sl ms=true)
  (h:∀ x:l6 ms,D P cx (.p (zy sl (mF ms x)) (BP ms x) base Γ fun fr Γ=>.tg true (Aw tail) l tail K Γ fr m)):HY P cx K l l mt U H4 id base (.a [] [] i sl ms Γ m):=by
 rintro ⟨_,h2,h3⟩ B o ho r0 w0 H Z ha hs ⟨S',hl,hR,hO⟩
 have hi:i=mt:=by
  have:=congrArg List.length h2
  simp at this
  omega
 subst hl
 obtain ⟨F,Hd,⟨u4,u5,se,u6⟩,hS,hG⟩:=hs
 refine TQ (N:=Z) (S:=S') (U:=U) (H:=H) hd hA Gr hi se hU (fun b hb=>⟨hG.py b hb,fun h=>hG.apart b (List.mem_append_left _ h) hb⟩) (fun i s hs=>hR.s i s hs) (fun j hj=>hO j (by omega)) ?_
 intro g r w hI
 have LA:∀ k j,j∈U.getD k []→∀ a∈ms,a.j≠j:=by
  intro k j hj
  unfold zA at rh
  rw [Bool.and_eq_true] at rh
  rw [List.getD_eq_getElem?_getD] at hj
  cases hk:U[k]? with
  | none=>rw [hk] at hj; exact absurd hj List.not_mem_nil
  | some us=>
   rw [hk] at hj
   have h1:=List.all_eq_true.1 (List.all_eq_true.1 rh.1 us (List.mem_of_getElem? hk)) j hj
   intro a ha he
   have:=List.all_eq_true.1 h1 a ha
   rw [he,Nat.beq_refl] at this
   cases this
 have hD:∀ j,j < mt→(∀ k,j ∉ U.getD k [])→vC l S' j g r w:=fun j hj hn=>hI.done j hj fun k _=>hn k
 have bj:∀ a∈ms,a.j < mt:=fun a ha=>hi ▸ hR.lt ha
 obtain ⟨x,hx,pd,VB⟩:=Se (g:=g) (r:=r) (w:=w) H5 hR.d (fun a ha b hb vX=>hI.xp _ _ (bj a ha) (bj b hb) vX) fun a ha=>by
  have:=hR.xW (S2:=[]) ha (by rw [List.append_nil]; exact hD a.j (bj a ha) (fun k hk=>LA k _ hk a ha rfl))
  exact this
 have Ej:=List.nodup_append.1 hG.nd
 have oq:∀ b∈AN g ms,w0.heap.size≤b∨b∈H:=fun b hb=>by
  obtain ⟨a,h1,h2⟩:=DB hb
  exact (hI.fresh a.j (bj a h1) b h2).1.imp (fun h=>h) (·.1)
 have fy:=o9.stay hS hG hI.lp
 obtain ⟨Vo,Vr,VC,VD,pd⟩:=pd
 obtain ⟨F',hp,ji⟩:=pd.build (fy.mono (fun _ h=>.inl h) fun _ h=>h)
 have H6:Gd B Z (AN g ms++F) w:=by
  refine ⟨u7 VB Ej.2.1 fun b hb hF=>(oq b hb).elim (fun h=>Nat.lt_irrefl _ (Nat.lt_of_lt_of_le (hS.lt b hF) h)) (fun h=>Ej.2.2 b h b hF rfl),?_,fun b hb=>Nat.lt_of_lt_of_le (hG.py b hb) hI.lp.size,?_,hG.xP,hG.xc,hG.lp.then hI.lp fun b hb=>hG.low b (List.mem_append_left _ hb)⟩
  ·intro b hb hz
   rcases List.mem_append.1 hb with hb | hb
   ·exact (oq b hb).elim (fun h=>Nat.lt_irrefl _ (Nat.lt_of_lt_of_le (hG.py b hz) h)) (fun h=>hG.apart b (List.mem_append_left _ h) hz)
   ·exact hG.apart b (List.mem_append_right _ hb) hz
  ·intro b hb
   rcases List.mem_append.1 hb with hb | hb
   ·exact (oq b hb).elim (fun h=>.inr (Nat.le_trans hG.lp.size h)) (fun h=>hG.low b (List.mem_append_left _ h))
   ·exact hG.low b (List.mem_append_right _ hb)
 have PT:c9 r ((zy sl (mF ms x)).reverse++base):=by
  refine wh (HZ (fun p hp=>?_) hx) (jd hh ha hI.other)
  exact hR.vD (S2:=[]) hp fun j _ hj=>(by rw [List.append_nil]; exact hI.ur j (hi ▸ hj))
 have:=(h x).sound B o ho r w PT ⟨_,F',ji,((H6.perm (Kv VC)).freeze VD).perm hp⟩
 rw [ht] at this
 exact this
theorem Y7 {id:Nat} (hd:QE) (mt:Nat) (U as:LL) {ops:LO} {Γ Γ1:QE} {fr:Fr} {m:Option (Out S R)}
  (hB:(P.follows .mixedOrders && dk cx.n l && AR l mt && Nat.ble mt l.length && (l8 l U mt == as) && ((List.range mt).all fun i=>(U.getD i []).all fun u=>Nat.beq u l.length || ((bx l).getD i []).contains u))=true)
  (ho:ops=l.take mt) (ht:tail=l.drop mt) (hf:Kp (xQ ops) none fr base) (hh:j9 l mt base=true) (he:EO Γ hd Γ1) (H7:OW Γ hd)
  (h:AD true P cx K l tail base U hd (.a as ops 0 [] [] Γ1 m)):Bx (ru P cx (.dr id l K Γ fr m)):=by
 simp only [Bool.and_eq_true] at hB
 obtain ⟨⟨⟨⟨⟨b1,b2⟩,b3⟩,b5⟩,b6⟩,b7⟩:=hB
 rw [qz]
 intro B o hm r w ha hs
 obtain ⟨Z,F,hS,hG⟩:=hs
 obtain ⟨Fd,F',h1,h2,h3⟩:=he.sound hS
 have H8:SA Z w hd [] Fd:=by
  have:=(HO.hl H7 hS h1).front (Γ:=[]) (F:=[]) rfl
  simpa using this
 have hX:o9 B Z hd Γ1 Fd w:=⟨F',Fd,⟨H8,fun b hb=>⟨hb,H8.lt b hb⟩,H8.lt,(List.nodup_append.1 (hG.perm h3).nd).1⟩,h2,hG.perm h3⟩
 refine nz.W b1 ?_
 refine AD.sound (id:=id) hh (fun _ _ _ _ _ _ hs he h=>PZ b7 hh b2 b3 (Nat.le_of_ble_eq_true b5) ht hs he h) h
  ⟨by rw [List.drop_zero]; exact (eq_of_beq b6).symm,by rw [List.drop_zero]; exact ho,Nat.zero_le _⟩ B o hm r w Fd Z (hf.sound ha) hX ⟨[],rfl,⟨fun _ h=>absurd h List.not_mem_nil,fun _ h=>absurd h List.not_mem_nil,fun i s h=>by simp at h,List.nodup_nil,fun _ _ _ h1 h2=>AO l (LM b3) h1 h2⟩,fun j hj=>absurd hj (Nat.not_lt_zero j)⟩
theorem P1 {id:Nat} (mt:Nat) (U as:LL) {ops:LO} {Γ:QE} {fr:Fr} {m:Option (Out S R)}
  (hB:(P.follows .mixedOrders && dk cx.n l && AR l mt && Nat.ble mt l.length && (l8 l U mt == as) && ((List.range mt).all fun i=>(U.getD i []).all fun u=>Nat.beq u l.length || ((bx l).getD i []).contains u))=true)
  (ho:ops=l.take mt) (ht:tail=l.drop mt) (hf:Kp (xQ ops) none fr base) (hh:j9 l mt base=true)
  (h:AD true P cx K l tail base U [] (.a as ops 0 [] [] Γ m)):Bx (ru P cx (.dr id l K Γ fr m)):=Y7 [] mt U as hB ho ht hf hh .nil .nil h
end
end Go.Dk
namespace Go.Dk
open Go Go.Li
def BJ:Value→Option Nat
 | .slice (some a) _ _=>some a.block
 | _=>none
def NF {α:Type} (E:ah α):Prop:=∀ {h:Array Obj} {cs:LV} {x:α} {f:LN},E.rep h cs x f→f=[]
theorem NF.i {k:IntKind}:NF (aM k):=u2
theorem NF.l {α:Type} {E:ah α} (hE:NF E) {h:Array Obj}:∀ {xs:List α} {cs:LV} {f:LN},dy E h cs xs f→f=[]:=by
 intro xs
 induction xs with
 | nil=>rintro cs f ⟨_,rfl⟩; rfl
 | cons x xs ih=>
  rintro cs f ⟨c,l4,f1,f2,rfl,rfl,h1,h2⟩
  rw [hE h1,ih h2]; rfl
structure Good {α:Type} (A:Value→α→Prop) (f:LN):Prop where
 sub:∀ u y b,A u y→BJ u=some b→b∈f
 one:∀ u y u' y' b,A u y→A u' y'→BJ u=some b→BJ u'=some b→y=y'
inductive BE {α:Type}:{β:Type}→ah β→((Value→List α→Prop)→ah β)→Prop
 | row {e:TI} {E:ah α}:BE (aK e E) (fun A=>tL A (aK e E))
 | step {β:Type} {e:TI} {T:ah β} {T':(Value→List α→Prop)→ah β} (h:BE T T'):BE (aK e T) (fun A=>bY (T' A))
section
variable {α β:Type} {T:ah β} {T':(Value→List α→Prop)→ah β} {A A':Value→List α→Prop} {f:LN} {hp:Array Obj}
theorem BE.size (h:BE T T'):(T' A).size=T.size:=by
 cases h <;> rfl
theorem BE.mono (h:BE T T') (hA:∀ u y,A u y→A' u y):Le (T' A) (T' A'):=by
 induction h with
 | row=>exact ⟨rfl,fun h=>⟨h.1.imp fun v g=>⟨g.1,hA _ _ g.2⟩,h.2⟩⟩
 | step _ ih=>exact ih.J4
theorem BE.Y8 {e:TI} (ho:∀ {cs:LV} {x:β} {f:LN},T.rep hp cs x f→f.Nodup→∃ A,Good A f∧(T' A).rep hp cs x f) (hm:∀ {A A':Value→List α→Prop},(∀ u y,A u y→A' u y)→Le (T' A) (T' A')) :
  ∀ {xs:List β} {cs:LV} {f:LN},dy T hp cs xs f→f.Nodup→∃ A,Good A f∧dy (T' A) hp cs xs f:=by
 have _:=e
 intro xs
 induction xs with
 | nil=>rintro cs f ⟨rfl,rfl⟩ _; exact ⟨fun _ _=>False,⟨fun _ _ _ h=>h.elim,fun _ _ _ _ _ h=>h.elim⟩,rfl,rfl⟩
 | cons x xs ih=>
  rintro cs f ⟨c,l4,f1,f2,rfl,rfl,h1,h2⟩ hn
  obtain ⟨n1,n2,n3⟩:=List.nodup_append.1 hn
  obtain ⟨A1,g1,r1⟩:=ho h1 n1
  obtain ⟨A2,g2,r2⟩:=ih h2 n2
  refine ⟨fun u y=>A1 u y∨A2 u y,⟨fun u y b h hb=>?_,fun u y u' y' b h h' hb cg=>?_⟩,c,l4,f1,f2,rfl,rfl,(hm fun _ _=>.inl).le r1,wa (hm fun _ _=>.inr) r2⟩
  ·exact h.elim (fun h=>List.mem_append_left _ (g1.sub u y b h hb)) (fun h=>List.mem_append_right _ (g2.sub u y b h hb))
  ·rcases h with h | h <;> rcases h' with h' | h'
   ·exact g1.one u y u' y' b h h' hb cg
   ·exact absurd rfl (n3 b (g1.sub _ _ _ h hb) b (g2.sub _ _ _ h' cg))
   ·exact absurd rfl (n3 b (g1.sub _ _ _ h' cg) b (g2.sub _ _ _ h hb))
   ·exact g2.one u y u' y' b h h' hb cg
theorem BE.opened (h:BE T T'):∀ {cs:LV} {x:β} {f:LN},T.rep hp cs x f→f.Nodup→∃ A,Good A f∧(T' A).rep hp cs x f:=by
 induction h with
 | @row e E=>
  intro cs x f hr _
  obtain ⟨base,cap,rfl,fi⟩:=id hr
  refine ⟨fun u y=>u = .slice base x.length cap∧y=x,⟨?_,?_⟩,⟨_,rfl,rfl,rfl⟩,hr⟩
  ·rintro u y b ⟨rfl,rfl⟩ hb
   rcases fi with ⟨rfl,_⟩ | ⟨b0,cur,f',rfl,_,rfl,_⟩
   ·cases hb
   ·cases hb; exact List.mem_cons_self
  ·rintro u y u' y' b ⟨_,rfl⟩ ⟨_,rfl⟩ _ _; rfl
 | @step β e T T' ho ih=>
  intro cs x f hr hn
  obtain ⟨base,cap,rfl,fi⟩:=hr
  rcases fi with ⟨rfl,_,rfl,rfl⟩ | ⟨b,cur,f',rfl,hg,rfl,h3,h4,h5,h6⟩
  ·exact ⟨fun _ _=>False,⟨fun _ _ _ h=>h.elim,fun _ _ _ _ _ h=>h.elim⟩,none,cap,rfl,.inl ⟨rfl,rfl⟩⟩
  ·obtain ⟨A,g1,g2⟩:=BE.Y8 (e:=e) ih (fun hA=>ho.mono hA) h6 (List.nodup_cons.1 hn).2
   refine ⟨A,⟨fun u y b h hb=>List.mem_cons_of_mem _ (g1.sub u y b h hb),g1.one⟩,_,cap,rfl,.inr ⟨b,0,cur,e,(0,0),f',rfl,hg,rfl,?_⟩⟩
   rw [List.drop_zero,ho.size]
   exact g2
end
section
variable {α:Type} {e e':TI} {E:ah α} {A:Value→List α→Prop} {ft f:LN} {hp:Array Obj}
theorem LR (nf:NF E) (hA:Good A ft):∀ {ys:List (List α)} {us:LV} {g:LN},dy (tL A (aK e' E)) hp us ys g→ys.Nodup→
  dy (aK e' E) hp us ys g∧g.Nodup∧∀ b∈g,b∈ft∧∃ u y,A u y∧BJ u=some b∧y∈ys:=by
 intro ys
 induction ys with
 | nil=>rintro us g ⟨rfl,rfl⟩ _; exact ⟨⟨rfl,rfl⟩,List.nodup_nil,fun b hb=>absurd hb List.not_mem_nil⟩
 | cons y ys ih=>
  rintro us g ⟨c,l4,g1,g2,rfl,rfl,⟨⟨u,rfl,hu⟩,hr⟩,h2⟩ hn
  obtain ⟨n1,n2⟩:=List.nodup_cons.1 hn
  obtain ⟨a1,a2,a3⟩:=ih h2 n2
  refine ⟨⟨[u],l4,g1,g2,rfl,rfl,hr,a1⟩,?_,?_⟩
  ·obtain ⟨base,cap,hv,fi⟩:=hr
   obtain rfl:u = .slice base y.length cap:=by simpa using hv
   rcases fi with ⟨_,_,_,rfl⟩ | ⟨b,cur,f',rfl,_,rfl,_,_,_,h6⟩
   ·exact a2
   ·rw [nf.l h6]
    refine List.nodup_cons.2 ⟨fun hb=>?_,a2⟩
    obtain ⟨_,u',y',h7,h8,h9⟩:=a3 b hb
    rw [hA.one _ _ _ _ b hu h7 rfl h8] at n1
    exact n1 h9
  ·intro b hb
   rcases List.mem_append.1 hb with hb | hb
   ·obtain ⟨base,cap,hv,fi⟩:=hr
    obtain rfl:u = .slice base y.length cap:=by simpa using hv
    rcases fi with ⟨_,_,_,rfl⟩ | ⟨b0,cur,f',rfl,_,rfl,_,_,_,h6⟩
    ·cases hb
    ·rw [nf.l h6,List.mem_singleton] at hb
     subst hb
     exact ⟨hA.sub _ _ _ hu rfl,_,y,hu,rfl,by simp⟩
   ·obtain ⟨b1,u',y',b2,b3,b4⟩:=a3 b hb
    exact ⟨b1,u',y',b2,b3,by simp [b4]⟩
theorem NM {Z:Nat→Prop} {w:World} {v:Value} {ys:List (List α)} (nf:NF E) (hA:Good A ft) (ho:rj Z w f (.om e (tL A (aK e' E)) v ys)) (hn:ys.Nodup) (hf:f.Nodup) (hz:∀ b∈f,¬ Z b) :
  ∃ g,(∀ b∈g,b∈ft)∧(aK e (aK e' E)).rep w.heap [v] ys (f++g)∧(f++g).Nodup:=by
 obtain ⟨us,g,h1,h2,h3,_⟩:=ho
 obtain ⟨a1,a2,a3⟩:=LR nf hA h2 hn
 have hl:us.length=ys.length:=by have:=kn a1; rw [this]; exact Nat.mul_one _
 refine ⟨g,fun b hb=>(a3 b hb).1,?_,List.nodup_append.2 ⟨hf,a2,fun b hb c hc=>fun e=>hz b hb (h3 b (e ▸ hc))⟩⟩
 obtain ⟨base,cap,hv,hr⟩:=h1
 obtain rfl:v = .slice base us.length cap:=by simpa using hv
 rw [hl]
 rcases hr with ⟨rfl,rfl,rfl,rfl⟩ | ⟨b,cur,f',rfl,hg,rfl,c1,c2,c3,c4⟩
 ·cases ys with
  | cons y ys=>simp at hl
  | nil=>obtain ⟨_,rfl⟩:=a1; exact ⟨none,0,rfl,.inl ⟨rfl,rfl,rfl,rfl⟩⟩
 ·obtain ⟨c5,rfl⟩:=As c4
  refine ⟨_,cap,rfl,.inr ⟨b,cur,g,rfl,hg,rfl,by rw [← hl]; exact c1,c2,c3,?_⟩⟩
  have e1:(aK e' E).size=tH.size:=rfl
  rw [e1,← hl,c5]
  exact a1
end
section
variable {P:Program} {R:Type} {cx:Cx R}
theorem aj {S S1 α β:Type} [DecidableEq (List α)] (k t0:Nat) (φ:S1→Value→Fr) (KA:S1→List (List α)) (v0:Value) (f2:Fr) {e e':TI} {E:ah α} {T:ah β} {T':(Value→List α→Prop)→ah β} {vs:Value} {x:β} {ju:List KI} {kb:Kb R S} {c:Code} {s0:S1} {body:S1→Option (Out S1 R)} {f:S1→Option (Out S R)} {Γ Γ1 Γ2:QE} {fr:Fr}
  (ho:BE T T') (nf:NF E) (ha:tK fr (φ s0 v0)) (hf:tK fr f2) (hz:KA s0=[]) (hv:look fr t0=some vs) (h1:dt Γ (.own T vs x) Γ1) (h2:∀ A:Value→List α→Prop,dt Γ1 (.om e (tL A (aK e' E)) v0 []) Γ2)
  (hb:∀ (A:Value→List α→Prop) s v,D P cx (.p (φ s v) [.om e (tL A (aK e' E)) v (KA s)] f2 [.rd false (T' A) vs x] fun fr Γ=>.c ⟨[],.loop Value k (fun s v=>[.om e (tL A (aK e' E)) v (KA s)]) φ [.rd false (T' A) vs x] f2⟩ c Γ fr (body s)))
  (hk:∀ s v,D P cx (.p (φ s v) [.own (aK e (aK e' E)) v (KA s)] f2 [] fun fr Γ=>.mn ⟨ju,kb⟩ Γ fr (f s))) :
  Bx (ru P cx (.bk true k ⟨ju,kb⟩ (.loop c) Γ fr (ai (af k (aj body s0)) fun s=>V0 (KA s)>>=fun _=>f s))):=by
 have _:=hv
 rw [qz]
 intro B o NN r w vx sU
 obtain ⟨Z,F,hS,hG⟩:=sU
 obtain ⟨ft,F1,tB,hT,fy⟩:=h1.sound hS
 have KB:=hG.perm tB
 obtain ⟨n1,n2,n3⟩:=List.nodup_append.1 KB.nd
 obtain ⟨A,hA,hR⟩:=ho.opened (hp:=w.heap) hT n1
 obtain ⟨fo,F2,qt,hO,ji⟩:=(h2 A).sound fy
 have Si:∀ b∈ft,b < w.heap.size:=ah.lt _ hT
 have hfz:∀ b∈ft,¬ Z b:=fun b hb=>KB.apart b (List.mem_append_left _ hb)
 have V1:∀ b∈fo,b∈F1:=fun b hb=>qt.mem_iff.1 (List.mem_append_left _ hb)
 have tM:fo.Nodup:=(List.nodup_append.1 (qt.nodup_iff.2 n2)).1
 refine Lj (T:=TT P cx B) (LI B (fun s v=>[.om e (tL A (aK e' E)) v (KA s)]) φ [.rd false (T' A) vs x] f2) NN
  ⟨v0,wh (ha.all vx) (hf.sound vx),fun b=>Z b∨b∈ft,fo,⟨fo,[],(List.append_nil _).symm,by rw [hz]; exact hO.mono fun _=>.inl,⟨ft,hR,fun b hb=>.inr hb⟩,rfl⟩,tM,fun b hb=>?_,fun b hb=>hb.elim (hG.py b) (Si b),fun b hb=>KB.low b (List.mem_append_right _ (V1 b hb)),fun b h=>.inl (hG.xP b h),fun b hb=>hb.elim (hG.xc b) fun hb=>.inr (KB.low b (List.mem_append_left _ hb)),hG.lp⟩ ?_ ?_ ?_
 ·rintro (h | h)
  ·exact KB.apart b (List.mem_append_right _ (V1 b hb)) h
  ·exact n3 b h b (V1 b hb) rfl
 ·intro x r w he hx
  subst he
  exact yN hx
 ·rintro s r w ⟨v,h1,h2⟩ o ho
  exact (hb A s v).sound B o ho r w h1 h2
 ·rintro s r w' ⟨v,a1,Z2,Fl,HA,kh⟩ hm
  obtain ⟨_,hn,hm⟩:=bind_some hm
  replace hn:=P3 hn
  obtain ⟨f',F',rfl,wS,Y9⟩:=HA
  have BV:F'=[]:=Y9.2
  subst BV
  rw [List.append_nil] at kh
  obtain ⟨g,s1,s2,s3⟩:=NM nf hA wS hn kh.nd kh.apart
  refine (hk s v).sound B o hm r w' a1 ⟨B.Z,f'++g,⟨f'++g,[],(List.append_nil _).symm,s2,rfl⟩,s3,fun b hb hz=>?_,fun b hz=>kh.py b (kh.xP b hz),fun b hb=>?_,fun _ h=>h,fun _ h=>.inl h,kh.lp⟩
  ·rcases List.mem_append.1 hb with hb | hb
   ·exact kh.apart b hb (kh.xP b hz)
   ·exact hfz b (s1 b hb) (hG.xP b hz)
  ·rcases List.mem_append.1 hb with hb | hb
   ·exact kh.low b hb
   ·exact KB.low b (List.mem_append_left _ (s1 b hb))
end
end Go.Dk
namespace Go.Dk
open Go Go.Li
section
variable {R:Type} {P:Program} {cx:Cx R} {B:Bs} {M:Type} {all l:LO} {rk:RK R M} {fr:Fr} {w:World} {Z:Nat→Prop} {F cur:LN} {Γ Γ1 Γ2 Γ3:QE}
theorem D.of {J:Jd R} (h:ru P cx J):D P cx J:=.inj (by rw [qz]; exact h)
theorem Sj {Δ : List aX} (h : FO Δ) : ∀ {Fd : List Nat}, HL Z w Δ Fd → ∀ e ∈ Δ, fact Z w [] e := by
  induction h with
  | nil => intro Fd _ e he; cases he
  | rd _ ih =>
    intro Fd hl e he
    cases hl with
    | own h _ => exact h.elim
    | fact h k => rcases List.mem_cons.1 he with rfl | he
                  · exact h
                  · exact ih k e he
  | bb _ ih =>
    intro Fd hl e he
    cases hl with
    | own h _ => exact h.elim
    | fact h k => rcases List.mem_cons.1 he with rfl | he
                  · exact h
                  · exact ih k e he
theorem lgS {α:Type} (S:ah α) {d:Nat} {t e n bt ty:TI} {m:Option M} [ht:BK P t e n bt]
  (h:∀ v,D P cx (.o false all l rk (.own (aK e (jw n)) v [] :: .rd false (vU S) (.bool true) ([],[]) :: Γ) ((d,v) :: fr) m)):D P cx (.e false (.buildSlice t 0 #[]) (some d) ty all l rk Γ fr m):=by
 refine D.of ?_
 intro B o ho r w ha hs pos ag g
 obtain ⟨h1,i,z,h2,_⟩:=ht.h
 obtain ⟨v,w',f,hr,hC,hO⟩:=AJ (E:=jw n) (r:=r) (w:=w) (d:=some d) (ty:=ty) (pos:=pos) (ag:=ag) (g:=none) h1 h2
 refine dx (WL.val rfl hr ((h v).sound B o ho _ w' (ay ha) ?_))
 obtain ⟨Z,F,hS,hg⟩:=hs
 have hf:fact Z w [] (.rd false (vU S) (.bool true) ([],[])):=⟨[],⟨rfl,rfl,fun _ h=>absurd h List.not_mem_nil⟩,fun _ h=>absurd h List.not_mem_nil⟩
 exact St.put (f:=[]) (SA.fact hS hf) hg hC hO.1 hO.2.1 fun b hb=>.inr ((hO.2.2 b hb).resolve_left List.not_mem_nil)
theorem lnS {α:Type} {S:ah α} {q:Bool} {d n e:Nat} {x:OO} {v:Value} {us:List (List Value)} {xs:List α} {t ty bt:TI} {m:Option M} [ht:BK P t e n bt] (hx:bd fr x=some v) (h1:dt Γ (.own (aK e (jw n)) v us) Γ1) (hg:In (.rd false (vU S) (.bool true) (us,xs)) Γ)
  (h:D P cx (.o q all l rk Γ ((d,.int .i64 (xs.length:Int)) :: fr) m)):D P cx (.e q (.call ⟨.builtin .len,#[x],#[t]⟩) (some d) ty all l rk Γ fr m):=by
 refine D.of ?_
 intro B o ho r w ha hs pos ag g
 obtain ⟨q1,_⟩:=ht.h
 obtain ⟨Z,F,hS,hG⟩:=@_root_.id _ hs
 obtain ⟨f,F1,_,hO,_⟩:=h1.sound hS
 obtain ⟨k,hk,_⟩:=hg.rd hS []
 obtain ⟨base,cap,hv,_⟩:=hO
 obtain rfl:v = .slice base us.length cap:=by simpa using hv
 have hl:us.length=xs.length:=zK hk.2.1
 exact b9 (v:=.int .i64 (xs.length:Int)) (fun w' _=>by rw [← hl]; exact vy q1 (aV ha hx)) (h.sound B o ho _ w (ay ha) hs)
theorem ixS {α V:Type} {S:ah α} {cl:α→V→List Value} {en:α→V→List aX} {q:Bool} {d n e:Nat} {x y:OO} {v:Value} {us:List (List Value)} {xs:List α} {k:IntKind} {j:Int} {t ty bt:TI} {f:α→Option M} [ht:BK P t e n bt] (hx:bd fr x=some v) (hy:bd fr y=some (.int k j))
  (h1:dt Γ (.own (aK e (jw n)) v us) Γ1) (hg:In (.rd false (vU S) (.bool true) (us,xs)) Γ) (hs:Gg S V cl en)
  (h:∀ z u,D P cx (.p [] (.rd false (Bt us j) (.bool true) (cl z u) :: en z u) fr Γ fun fr Γ=>.o q all l rk Γ ((d,.pointer (some (cw v n j))) :: fr) (f z))):D P cx (.e q (.indexAddr t x y) (some d) ty all l rk Γ fr (idx xs j>>=f)):=by
 refine D.of ?_
 intro B o ho r w ha cq pos ag g
 replace hs:SO S V cl en:=by cases hs; assumption
 obtain ⟨z,hz,ho⟩:=bind_some ho
 replace hz:=sd hz
 obtain ⟨q1,i,_,q2,_,_,q3,_⟩:=ht.h
 obtain ⟨Z,F,hS,hG⟩:=cq
 obtain ⟨f0,F1,_,hO,_⟩:=h1.sound hS
 obtain ⟨g0,hk,p6⟩:=hg.rd hS []
 obtain ⟨c,g1,e1,e2,e3⟩:=D1 j.toNat hk.2.1 hz.2
 obtain ⟨u,rfl,rh⟩:=hs.op e2
 have hlen:us.length=xs.length:=zK hk.2.1
 have bj:j.toNat < xs.length:=(List.getElem?_eq_some_iff.1 hz.2).1
 have hv:∃ a c,v = .slice (some a) us.length c:=by
  obtain ⟨base,cap,hv,hr⟩:=hO
  obtain rfl:v = .slice base us.length cap:=by simpa using hv
  rcases hr with ⟨_,_,rfl,_⟩ | ⟨b,cur,f',rfl,_⟩
  ·rw [← hlen] at bj; simp at bj
  ·exact ⟨_,_,rfl⟩
 obtain ⟨a,c',rfl⟩:=hv
 have fq:HL Z w (.rd false (Bt us j) (.bool true) (cl z u) :: en z u) []:=.fact ⟨[],⟨rfl,⟨hz.1,e1⟩,rfl⟩,fun _ h=>absurd h List.not_mem_nil⟩ (wj (rh Z fun b hb=>p6 b (e3 b hb)))
 obtain ⟨F',hp,ji⟩:=fq.build hS
 refine b9 (v:=.pointer (some (cw (.slice (some a) us.length c') n j))) (fun w' hC=>?_) ((h z u).sound B o ho _ w (ay ha) ⟨Z,F',ji,hG.perm (by simpa using hp)⟩)
 rw [nb q1 q2 (aV ha hx) (aV ha hy) hz.1 (by omega),q3]
 rfl
theorem V2 {q:Bool} {d n off e:Nat} {x:OO} {v u:Value} {us:List (List Value)} {j:Int} {cs:LV} {ty:TI} {m:Option M} (h1:dt Γ (.own (aK e (jw n)) v us) Γ1) (hp:In (.rd false (Bt us j) (.bool true) cs) Γ) (hc:cs[off]? = some u)
  (k:D P cx (.o q all l rk Γ ((d,u) :: fr) m)):D P cx (.la ((cw v n j).add off) none q ty x d all l rk Γ fr m):=by
 refine D.of ?_
 intro ht hx B o ho r w ha hs t pos ag g
 obtain ⟨Z,F,hS,_⟩:=@_root_.id _ hs
 obtain ⟨f,F1,_,hO,_⟩:=h1.sound hS
 obtain ⟨_,⟨_,⟨hj,hu⟩,_⟩,_⟩:=hp.rd hS []
 exact b9 (Ld ht ((yY hO hj hu).2.2 off u hc) (aV ha hx)) (k.sound B o ho _ w (ay ha) hs)
theorem V3 {q:Bool} {d n e:Nat} {x:OO} {v u:Value} {us:List (List Value)} {j:Int} {cs:LV} {ty:TI} {m:Option M} (h1:dt Γ (.own (aK e (jw n)) v us) Γ1) (hp:In (.rd false (Bt us j) (.bool true) cs) Γ) (hc:cs[0]? = some u)
  (k:D P cx (.o q all l rk Γ ((d,u) :: fr) m)):D P cx (.la (cw v n j) none q ty x d all l rk Γ fr m):=by
 have e:(cw v n j).add 0=cw v n j:=rfl
 rw [← e]
 exact V2 h1 hp hc k
theorem lsS {q:Bool} {d n e:Nat} {x:OO} {v:Value} {us:List (List Value)} {j:Int} {cs:LV} {ty:TI} {m:Option M} (h1:dt Γ (.own (aK e (jw n)) v us) Γ1) (hp:In (.rd false (Bt us j) (.bool true) cs) Γ)
  (k:D P cx (.o q all l rk Γ ((d,.agg cs.toArray) :: fr) m)):D P cx (.la (cw v n j) (some n) q ty x d all l rk Γ fr m):=by
 refine D.of ?_
 intro ht hx B o ho r w ha hs t pos ag g
 obtain ⟨Z,F,hS,_⟩:=@_root_.id _ hs
 obtain ⟨f,F1,_,hO,_⟩:=h1.sound hS
 obtain ⟨_,⟨_,⟨hj,hu⟩,_⟩,_⟩:=hp.rd hS []
 obtain ⟨e1,_,e3⟩:=yY hO hj hu
 exact b9 (Lg ht (fun i u hi=>e3 i u hi) (aV ha hx) e1) (k.sound B o ho _ w (ay ha) hs)
theorem apS {α V:Type} {S:ah α} {cl:α→V→List Value} {en:α→V→List aX} (y:α) {u:V} {d b n e bt:Nat} {s x:OO} {sv:Value} {us:List (List Value)} {xs:List α} {cs:LV} {t et ty:TI} {f:Unit→Option M} [ht:BK P t e n bt]
  (hs:bd fr s=some sv) (hx:bd fr x=some (.slice (some ⟨b,0,none⟩) 1 1)) (h0:dt Γ (.row b cs et) Γ1) (h1:dt Γ1 (.own (aK e (jw n)) sv us) Γ2) (hg:In (.rd false (vU S) (.bool true) (us,xs)) Γ2) (sy:Gg S V cl en) (_hv:vu V u) (hc:cs=cl y u) (ho:wc Γ cs) (hn:cs.length=n) (V4:FO (en y u)) (hf:EF Γ2 (en y u) Γ3)
  (h:∀ v,D P cx (.o false all l rk (.own (aK e (jw n)) v (us++[cs]) :: .rd false (vU S) (.bool true) (us++[cs],xs++[y]) :: Γ3) ((d,v) :: fr) (f ()))):D P cx (.e false (.call ⟨.builtin .append,#[s,x],#[t,t]⟩) (some d) ty all l rk Γ fr (fits bt (xs.length+1)>>=f)):=by
 refine D.of ?_
 intro B o bw r w ha cq pos ag g
 have Fv:SO S V cl en:=by cases sy; assumption
 obtain ⟨_,hu,bw⟩:=bind_some bw
 obtain ⟨b1,b2⟩:=jm hu
 obtain ⟨q1,i,z,q2,q3,q4,q5,q6,_⟩:=ht.h
 obtain ⟨Z,F,hS,hG⟩:=cq
 have Ha:=ho.one hS
 obtain ⟨n0,F0,tA,⟨rfl,bg⟩,tS⟩:=h0.sound hS
 obtain ⟨k,F1,hp,hO,fy⟩:=h1.sound tS
 obtain ⟨Fd,F2,Zn,V5,ji,qt⟩:=hf.sound fy
 obtain ⟨g0,hk,p6⟩:=hg.rd fy []
 have hlen:us.length=xs.length:=zK hk.2.1
 have s8:((k++F1)++[b]).Perm F:=(List.perm_append_comm.trans (hp.append_left [b])).trans tA
 have kh:Gd B Z (k++F1) w:=Gd.left (F':=[b]) (hG.perm s8)
 have yR:((k++F2)++(Fd++Zn)).Perm (k++F1):=by
  rw [List.append_assoc]
  refine List.Perm.append_left k (.trans ?_ qt)
  rw [← List.append_assoc]
  exact (List.perm_append_comm (l₁:=F2) (l₂:=Fd)).append_right Zn
 have tx:Gd B Z ((k++F2)++(Fd++Zn)) w:=kh.perm yR
 have bj:∀ b∈Fd++Zn,b < w.heap.size:=fun b hb=>by
  have h3:b∈k++F1:=yR.mem_iff.1 (List.mem_append_right _ hb)
  rcases List.mem_append.1 h3 with h3 | h3
  ·exact ah.lt _ hO b h3
  ·exact fy.lt b h3
 have H6:Gd B (tv Z (Fd++Zn)) (k++F2) w:=tx.freeze bj
 have Eo:∀ b,tv Z Zn b→tv Z (Fd++Zn) b:=fun b hb=>hb.imp id fun h=>List.mem_append_right _ h
 obtain ⟨g1,yM,Ep⟩:=Fv.cl (x:=y) (v:=u) (Z:=tv Z (Fd++Zn)) (w:=w) (Sj V4 (V5.mono Eo))
 have hdk:tz [] k:=fun _ h=>absurd h List.not_mem_nil
 have hE:dy (jw n) w.heap cs [cs] []:=⟨cs,[],[],[],by simp,by simp,⟨rfl,hn,Ha,rfl⟩,rfl,rfl⟩
 obtain ⟨v,w',f',ni,hC,dq,cb,db⟩:=n9 (E:=jw n) (d:=some d) (ty:=ty) (pos:=pos) (ag:=ag) (g:=none) (k:=[]) (ys:=[cs]) (news:=cs) q1 q2 q3 (by rw [q5]; rfl) (by rw [q4]; rfl) (aV ha hs) hO (List.nodup_append.1 kh.nd).1 (aV ha hx) (fun i u hi=>bg.at i u hi) hE hdk (by simp) (by rw [q6,hlen]; exact b1) (by rw [hlen]; exact b2)
 refine dx (WL.val rfl ni ((h v).sound B o bw _ w' (ay ha) ?_))
 have V6:fact (tv Z (Fd++Zn)) w [] (.rd false (vU S) (.bool true) (us++[cs],xs++[y])):=by
  rw [hc]
  refine ⟨g0++g1,⟨rfl,UM yM hk.2.1,fun b hb=>?_⟩,fun b hb=>?_⟩
  ·rcases List.mem_append.1 hb with hb | hb
   ·exact hk.2.2 b hb
   ·exact S.lt yM b hb
  ·rcases List.mem_append.1 hb with hb | hb
   ·exact .inl (p6 b hb)
   ·exact Ep b hb
 exact St.put (SA.fact (ji.mono Eo fun _ h=>h) V6) H6 hC dq (db List.nodup_nil) fun b hb=>(cb b hb).imp id fun h=>h.resolve_left List.not_mem_nil
theorem TR {n:Nat} {h:Array Obj}:∀ {us:List (List Value)} {cs:LV} {f:LN},dy (jw n) h cs us f→∀ c∈us,c.length=n∧∀ v∈c,v.oneCell'=true:=by
 intro us
 induction us with
 | nil=>intro cs f _ c hc; cases hc
 | cons a us ih=>
  rintro cs f ⟨c',l4,f1,f2,rfl,rfl,⟨rfl,h1,h2,rfl⟩,h3⟩ c hc
  rcases List.mem_cons.1 hc with rfl | hc
  ·exact ⟨h1,h2⟩
  ·exact ih h3 c hc
theorem TS {n:Nat} {h:Array Obj}:∀ {us:List (List Value)},(∀ c∈us,c.length=n∧∀ v∈c,v.oneCell'=true)→dy (jw n) h us.flatten us []:=by
 intro us
 induction us with
 | nil=>intro _; exact ⟨rfl,rfl⟩
 | cons a us ih=>
  intro hc
  have h1:=hc a (by simp)
  exact ⟨a,us.flatten,[],[],by simp,rfl,⟨rfl,h1.1,h1.2,rfl⟩,ih fun c hm=>hc c (by simp [hm])⟩
theorem JL {n:Nat} {c:LV}:∀ {us:List (List Value)} {j:Nat},(∀ x∈us,x.length=n)→j < us.length→(us.set j c).flatten=us.flatten.take (j * n)++c++us.flatten.drop (j * n+n)∧j * n+n≤us.flatten.length:=by
 intro us
 induction us with
 | nil=>intro j _ hj; simp at hj
 | cons a us ih=>
  intro j hl hj
  have ha:a.length=n:=hl a (by simp)
  cases j with
  | zero=>refine ⟨?_,by simp [ha]⟩; simp [← ha]
  | succ j=>
   obtain ⟨h1,h2⟩:=ih (j:=j) (fun x hx=>hl x (by simp [hx])) (by simpa using hj)
   have e:(j+1) * n=n+j * n:=by rw [Nat.add_mul,Nat.one_mul,Nat.add_comm]
   refine ⟨?_,by rw [e,List.flatten_cons,List.length_append,ha]; omega⟩
   rw [List.set_cons_succ,List.flatten_cons,List.flatten_cons,h1,e,List.take_append,List.drop_append,ha]
   have e1:List.take (n+j * n) a=a:=List.take_of_length_le (by omega)
   have e2:List.drop (n+j * n+n) a=[]:=List.drop_eq_nil_of_le (by omega)
   rw [e1,e2,show n+j * n - n=j * n by omega,show n+j * n+n - n=j * n+n by omega]
   simp
theorem stS {α V:Type} {S:ah α} {cl:α→V→List Value} {en:α→V→List aX} (y:α) {u:V} {n e:Nat} {x0 y0:OO} {v:Value} {j:Int} {us:List (List Value)} {xs:List α} {cs c0:LV} {t ty:TI} {m:Option M}
  (h1:dt Γ (.own (aK e (jw n)) v us) Γ1) (hp:In (.rd false (Bt us j) (.bool true) c0) Γ) (hg:In (.rd false (vU S) (.bool true) (us,xs)) Γ1) (sy:Gg S V cl en) (_hv:vu V u) (hc:cs=cl y u) (ho:wc Γ cs) (hn:cs.length=n) (V4:FO (en y u)) (hf:EF Γ1 (en y u) Γ2)
  (h:D P cx (.o false all l rk (.own (aK e (jw n)) v (us.set j.toNat cs) :: .rd false (vU S) (.bool true) (us.set j.toNat cs,xs.set j.toNat y) :: Γ2) fr m)):D P cx (.st (cw v n j) (.agg cs.toArray) n t x0 y0 ty all l rk Γ fr m):=by
 refine D.of ?_
 intro hT hx hy B o bw r w ha cq pos ag g
 have Fv:SO S V cl en:=by cases sy; assumption
 obtain ⟨i,q1,q2⟩:=hT
 obtain ⟨Z,F,hS,hG⟩:=cq
 have Ha:=ho.one hS
 obtain ⟨_,⟨_,⟨hj,hu⟩,_⟩,_⟩:=hp.rd hS []
 obtain ⟨k,F1,tB,hO,fy⟩:=h1.sound hS
 obtain ⟨Fd,F2,Zn,V5,ji,qt⟩:=hf.sound fy
 obtain ⟨g0,hk,p6⟩:=hg.rd fy []
 have kh:Gd B Z (k++F1) w:=hG.perm tB
 have yR:((k++F2)++(Fd++Zn)).Perm (k++F1):=by
  rw [List.append_assoc]
  refine List.Perm.append_left k (.trans ?_ qt)
  rw [← List.append_assoc]
  exact (List.perm_append_comm (l₁:=F2) (l₂:=Fd)).append_right Zn
 have tx:Gd B Z ((k++F2)++(Fd++Zn)) w:=kh.perm yR
 have bj:∀ b∈Fd++Zn,b < w.heap.size:=fun b hb=>by
  have h3:b∈k++F1:=yR.mem_iff.1 (List.mem_append_right _ hb)
  rcases List.mem_append.1 h3 with h3 | h3
  ·exact ah.lt _ hO b h3
  ·exact fy.lt b h3
 have H6:Gd B (tv Z (Fd++Zn)) (k++F2) w:=tx.freeze bj
 have Eo:∀ b,tv Z Zn b→tv Z (Fd++Zn) b:=fun b hb=>hb.imp id fun h=>List.mem_append_right _ h
 obtain ⟨g1,yM,Ep⟩:=Fv.cl (x:=y) (v:=u) (Z:=tv Z (Fd++Zn)) (w:=w) (Sj V4 (V5.mono Eo))
 obtain ⟨g2,xj,hgb⟩:=MS (c:=cs) (by rw [hc]; exact yM) j.toNat hk.2.1
 have V6:fact (tv Z (Fd++Zn)) w [] (.rd false (vU S) (.bool true) (us.set j.toNat cs,xs.set j.toNat y)):=by
  refine ⟨g2,⟨rfl,xj,fun b hb=>?_⟩,fun b hb=>?_⟩
  ·exact (hgb b hb).elim (hk.2.2 b) (S.lt yM b)
  ·exact (hgb b hb).elim (fun h=>.inl (p6 b h)) (Ep b)
 have Em:j.toNat < us.length:=(List.getElem?_eq_some_iff.1 hu).1
 obtain ⟨base,cap,n7,hr⟩:=hO
 obtain rfl:v = .slice base us.length cap:=by simpa using n7
 rcases hr with ⟨_,_,rfl,_⟩ | ⟨b,cur,f',rfl,h2,rfl,h4,h5,h6,h3⟩
 ·simp at Em
 ·obtain ⟨hcf,tV⟩:=Hi h3
  subst tV
  have fq:=TR h3
  obtain ⟨e1,e2⟩:=JL (c:=cs) (fun x hx=>(fq x hx).1) Em
  have bg:Row w b cur.toList e:=by unfold Row; simpa using h2
  have V7:cur.toList=us.flatten++cur.toList.drop (us.length * n):=by
   rw [← hcf]; exact (List.take_append_drop _ _).symm
  have xN:cw (.slice (some ⟨b,0,none⟩) us.length cap) n j = ⟨b,j.toNat * n,none⟩:=by
   simp only [cw,js,Nat.zero_add]
  rw [xN] at hx
  have hle:j.toNat * n+cs.length≤cur.toList.length:=by
   rw [hn,V7,List.length_append]; omega
  have ni:=wE (P:=P) (d:=none) (ty:=ty) (pos:=pos) (ag:=ag) (gg:=none) q1 (by rw [hn,q2]) bg hle (aV ha hx) (y:=y0) (by rw [aV ha hy]; rfl) Ha
  refine dx (WL.skip rfl ni (h.sound B o bw _ _ ha ?_))
  have zB:cur.toList.take (j.toNat * n)++cs++cur.toList.drop (j.toNat * n+cs.length)=(us.set j.toNat cs).flatten++cur.toList.drop (us.length * n):=by
   rw [hn,e1]
   conv=>lhs; rw [V7]
   rw [List.take_append_of_le_length (by omega),List.drop_append_of_le_length (by omega)]
   simp
  have xO:=setRow_heap w b cur (cur.toList.take (j.toNat * n)++cs++cur.toList.drop (j.toNat * n+cs.length)).toArray e _ h2
  refine St.put (f:=[b]) (f':=[b]) (SA.fact (ji.mono Eo fun _ h=>h) V6) H6 ⟨rfl,rfl,rfl,Nat.le_refl _,by simp,fun j' _ je=>setRow_other w b j' _ fun h=>je (by simp [h])⟩ ?_ (by simp) (fun b hb=>.inl hb)
  refine ⟨_,cap,by rw [List.length_set],.inr ⟨b,_,[],rfl,xO,rfl,by rw [List.length_set]; exact h4,h5,?_,?_⟩⟩
  ·rw [← h6]
   simp only [List.size_toArray,zB]
   have e3:(us.set j.toNat cs).flatten.length=us.flatten.length:=by
    rw [e1]; simp only [List.length_append,List.length_take,List.length_drop,hn]; omega
   rw [List.length_append,e3,← List.length_append,← V7,Array.length_toList]
  ·rw [List.toList_toArray,zB,List.length_set]
   have anX:(us.set j.toNat cs).flatten.length=us.length * n:=by
    have e3:(us.set j.toNat cs).flatten.length=us.flatten.length:=by
     rw [e1]; simp only [List.length_append,List.length_take,List.length_drop,hn]; omega
    rw [e3]
    have:=kn h3
    rw [hcf] at this
    exact this
   show dy (jw n) _ (List.take (us.length * n) _) _ _
   rw [List.take_append_of_le_length (by omega),List.take_of_length_le (by omega)]
   refine TS fun c hm=>?_
   rcases List.mem_or_eq_of_mem_set hm with hm | rfl
   ·exact fq c hm
   ·exact ⟨hn,Ha⟩
theorem zD {α:Type} {E:ah α} {d n:Nat} {t e ty:TI} {ps:List (Nat×Operand)} {us:LV} {xs:List α} {m:Option M} [hz:MX P t e] (hl:wg Γ fr 0 ps us) (hn:us.length=n) (hb:(Nat.ble 1 n && Nat.ble n 16777216)=true) (hx:Hn Γ E us xs Γ1) (hE:E.size=1)
  (h:∀ v,D P cx (.o false all l rk (.own (aK e E) v xs :: Γ1) ((d,v) :: fr) m)):D P cx (.e false (.buildSlice t n ps.toArray) (some d) ty all l rk Γ fr m):=by
 refine D.of ?_
 intro B o ho r w ha hs pos ag g
 obtain ⟨Z,F,hS,hg⟩:=hs
 refine dx (WL.val rfl (hl.op ha hS ⟨hz.h⟩ hn hb) ((h _).sound B o ho _ _ (ay ha) ?_))
 obtain ⟨e1,f,F2,qt,hr,ji⟩:=hx.sound hS
 have Ax:n≤16777216:=by
  rw [Bool.and_eq_true] at hb
  exact Nat.le_of_ble_eq_true hb.2
 have hC:aw [] w (w.alloc (.cells us.toArray e)):=aw.alloc _ _ _
 have gh:Gd B Z (f++F2) w:=hg.perm qt
 have bj:∀ b∈f,b < w.heap.size:=nw hr
 have zB:=heap_alloc_new w (.cells us.toArray e)
 have fi:dy E (w.alloc (.cells us.toArray e)).heap us xs f:=lq hr fun b hb=>hC.block b (bj b hb) (fun h=>absurd h List.not_mem_nil)
 refine St.put (f:=f) (f':=w.heap.size :: f) ji gh (aw.mono hC fun _ h=>absurd h List.not_mem_nil) ⟨_,n,by rw [← hn,e1],.inr ⟨w.heap.size,us.toArray,f,rfl,zB,rfl,by rw [← hn,e1]; exact Nat.le_refl _,Nat.le_trans Ax (by decide),by rw [hE,Nat.mul_one]; simp [hn],?_⟩⟩ ?_ ?_
 ·rw [hE,Nat.mul_one,List.toList_toArray,← e1,List.take_length]
  exact fi
 ·exact List.nodup_cons.2 ⟨fun hm=>Nat.lt_irrefl _ (bj _ hm),(List.nodup_append.1 gh.nd).1⟩
 ·intro b hb
  rcases List.mem_cons.1 hb with rfl | hb
  ·exact .inr (Nat.le_refl _)
  ·exact .inl hb
theorem Sb {α:Type} {d b:Nat} {s x:OO} {v u yv:Value} {j:Int} {y:α} {z:List α} {xs:List (List α)} {t e e' et ty:TI} {E E':ah α} {z0:α} {bt:Nat} {o1 o2:Bool} {Γx:QE} {f:Unit→Option M} [hT:rv P t α e E z0 bt] (hs:bd fr s=some u) (hx:bd fr x=some (.slice (some ⟨b,0,none⟩) 1 1)) (hl:Loc Γ u (.row v j)) (h0:dt Γ (.row b [yv] et) Γ1) (hz:na Γ u o1 o2 E' z qp Γx) (h1:dt Γ1 (.own (aK e' (aK e E)) v xs) Γ2) (hr:RT (aK e E) (bY E')) (hy:C8 Γ2 E yv y Γ3)
  (h:∀ v',D P cx (.o false all l rk (.own (aK e E) v' (z++[y]) :: .own (sO e' (aK e E) j.toNat) v xs :: Γ3) ((d,v') :: fr) (f ()))):D P cx (.e false (.call ⟨.builtin .append,#[s,x],#[t,t]⟩) (some d) ty all l rk Γ fr (fits bt (z.length+1)>>=f)):=by
 refine D.of ?_
 intro B o bw r w ha cq pos ag g
 obtain ⟨_,hu,bw⟩:=bind_some bw
 obtain ⟨b1,b2⟩:=jm hu
 obtain ⟨q1,q2,i,zz,q3,q4,q5,q6,q7,_⟩:=hT.h
 obtain ⟨Z,F,hS,hG⟩:=cq
 obtain ⟨j0,j1,j4⟩:=Loc.row hl rfl hS
 obtain ⟨dn,_,⟨⟨gz,p6,_⟩,_⟩,_⟩:=hz.sound hS
 obtain ⟨n0,F0,tA,⟨rfl,bg⟩,tS⟩:=h0.sound hS
 obtain ⟨fm,F1,tB,hO,fy⟩:=h1.sound tS
 obtain ⟨ky,F2,qt,Vy,ji⟩:=hy.sound fy
 rw [sc hO] at j1
 obtain ⟨k,gm,a1,a2,a3⟩:=DA rfl hO (List.getElem?_eq_getElem j1) j4
 have Ny:xs[j.toNat]=z:=hr.vT (hr.le.le a1) p6
 rw [Ny] at a1
 have s8:((k++ky)++(gm++F2)).Perm (fm++F1):=by
  have e1:((k++gm)++(ky++F2)).Perm (fm++F1):=(a2.append_right _).trans (qt.append_left fm)
  refine .trans ?_ e1
  rw [List.append_assoc,List.append_assoc]
  refine List.Perm.append_left k ?_
  rw [← List.append_assoc,← List.append_assoc]
  exact List.perm_append_comm.append_right F2
 have kh:Gd B Z ((k++ky)++(gm++F2)) w:=Gd.left (F':=[b]) (hG.perm (((s8.append_right [b]).trans (List.perm_append_comm.trans (tB.append_left [b]))).trans tA))
 have db:=(List.nodup_append.1 kh.nd).1
 have xU:=List.nodup_append.1 db
 obtain ⟨v',w',f',ni,hC,dq,cb,AL⟩:=n9 (E:=E) (d:=some d) (ty:=ty) (pos:=pos) (ag:=ag) (g:=none) (k:=ky) (ys:=[y]) (news:=[yv]) q1 q3 q4 (by rw [q5,q2]) (by rw [cells_one q6,q2]; rfl) (aV ha hs) a1 xU.1 (aV ha hx) (fun i u hi=>bg.at i u hi) (qf Vy) (fun b hb hm=>xU.2.2 b hm b hb rfl) (by simp) (by rw [q7]; exact b1) b2
 refine dx (WL.val rfl ni ((h v').sound B o bw _ w' (ay ha) ?_))
 have hSh:SA Z w (.own (sO e' (aK e E) j.toNat) v xs :: Γ3) [] (gm++F2):=SA.cons ji (e:=.own (sO e' (aK e E) j.toNat) v xs) a3
 refine St.put hSh kh (hC.mono fun b hb=>List.mem_append_left _ hb) dq (AL xU.2.1) fun b hb=>?_
 rcases cb b hb with h | h | h
 ·exact .inl (List.mem_append_left _ h)
 ·exact .inl (List.mem_append_right _ h)
 ·exact .inr h
theorem ixH {α:Type} {q:Bool} {d j0:Nat} {x y:OO} {v:Value} {k:IntKind} {j:Int} {xs:List α} {t e ty:TI} {E:ah α} {f:α→Option M} [ht:vV P t] (hx:bd fr x=some v) (hy:bd fr y=some (.int k j)) (h1:dt Γ (.own (sO e E j0) v xs) Γ1)
  (h:∀ z,D P cx (.o q all l rk Γ ((d,.pointer (some (cw v 1 j))) :: fr) (f z))):D P cx (.e q (.indexAddr t x y) (some d) ty all l rk Γ fr (idx xs j>>=f)):=by
 refine D.of ?_
 intro B o ho r w ha hs pos ag g
 obtain ⟨z,hz,ho⟩:=bind_some ho
 replace hz:=sd hz
 obtain ⟨e',i,q1,q2,q3⟩:=ht.h
 obtain ⟨Z,F,hS,_⟩:=@_root_.id _ hs
 obtain ⟨f0,F1,_,⟨b,cap,cur,f1,f2,p,c0,qq,hv,_⟩,_⟩:=h1.sound hS
 obtain rfl:v = .slice (some ⟨b,0,none⟩) xs.length cap:=by simpa using hv
 have bj:j.toNat < xs.length:=(List.getElem?_eq_some_iff.1 hz.2).1
 have Ik:=hz.1
 refine b9 (v:=.pointer (some (cw (.slice (some ⟨b,0,none⟩) xs.length cap) 1 j))) (fun w' hC=>?_) ((h z).sound B o ho _ w (ay ha) hs)
 rw [nb q1 q2 (aV ha hx) (aV ha hy) hz.1 (by omega),q3]
 rfl
theorem stR {α:Type} {x0 y0:OO} {v u:Value} {j:Int} {z:α} {xs:List α} {t e ty:TI} {E:ah α} {m:Option M} (h1:dt Γ (.own E u z) Γ1) (h2:dt Γ1 (.own (sO e E j.toNat) v xs) Γ2)
  (h:D P cx (.o false all l rk (.own (aK e E) v (xs.set j.toNat z) :: Γ2) fr m)):D P cx (.st (cw v 1 j) u 1 t x0 y0 ty all l rk Γ fr m):=by
 refine D.of ?_
 intro hT hx hy B o bw r w ha cq pos ag g
 obtain ⟨i,q1,q2⟩:=hT
 obtain ⟨Z,F,hS,hG⟩:=cq
 obtain ⟨k,F1,tB,hK,fy⟩:=h1.sound hS
 obtain ⟨gm,F2,qt,hM,ji⟩:=h2.sound fy
 have yR:((gm++k)++F2).Perm F:=by
  refine .trans ?_ tB
  refine .trans ?_ (qt.append_left k)
  rw [← List.append_assoc k gm F2]
  exact List.perm_append_comm.append_right F2
 have kh:Gd B Z ((gm++k)++F2) w:=hG.perm yR
 have db:=(List.nodup_append.1 kh.nd).1
 obtain ⟨b,cap,cur,f1,f2,p,c0,qq,hv,g1,rfl,⟨g2,g3,g4,g5⟩,g6,⟨g7,g8⟩,g9,g10⟩:=hM
 obtain rfl:v = .slice (some ⟨b,0,none⟩) xs.length cap:=by simpa using hv
 have xN:cw (.slice (some ⟨b,0,none⟩) xs.length cap) 1 j = ⟨b,j.toNat,none⟩:=by
  simp only [cw,js,Nat.zero_add,Nat.mul_one]
 rw [xN] at hx
 have bg:Row w b cur.toList e:=by unfold Row; simpa using g1
 have UH:∀ i∈(f1++f2)++k,i≠b:=by
  intro i hi he
  subst he
  have e1:((i :: (f1++f2))++k)=i :: ((f1++f2)++k):=rfl
  rw [e1] at db
  exact (List.nodup_cons.1 db).1 hi
 refine dx (WL.Hy q1 q2 bg (by rw [Array.length_toList,g4]; omega) (aV ha hx) (aV ha hy) (E.one hK u (by simp)) fun w' hC s9=>h.sound B o bw _ w' ha ?_)
 have Sk:∀ i∈(f1++f2)++k,i < w.heap.size→w'.heap[i]? = w.heap[i]?:=fun i hi hl=>hC.block i hl fun hm=>UH i hi (by simpa using hm)
 have hK':E.rep w'.heap [u] z k:=E.congr hK fun i hi=>Sk i (List.mem_append_right _ hi) (E.lt hK i hi)
 have zM:=g10 w'.heap (fun i hi=>Sk i (List.mem_append_left _ hi) (g9 i hi)) u z k hK'
 refine St.put (f:=(b :: (f1++f2))++k) (f':=b :: (f1++k++f2)) ji kh (hC.mono fun i hi=>by rw [List.mem_singleton.1 hi]; simp) ⟨_,cap,by rw [List.length_set],.inr ⟨b,_,f1++k++f2,rfl,s9,rfl,by rw [List.length_set]; exact g2,g3,?_,?_⟩⟩ ?_ ?_
 ·rw [g5]; simp [g4]
 ·have xO:((cur.toList.set j.toNat u).take xs.length)=p++[u]++qq:=by
   rw [List.take_set,g6,← g7]
   simp
  rw [List.length_set,g5,Nat.mul_one]
  simpa [xO] using zM
 ·have zQ:(b :: (f1++k++f2)).Perm ((b :: (f1++f2))++k):=by
   rw [List.cons_append]
   refine List.Perm.cons b ?_
   rw [List.append_assoc,List.append_assoc]
   exact List.Perm.append_left f1 List.perm_append_comm
  exact zQ.nodup_iff.2 db
 ·intro i hi
  refine .inl ?_
  rcases List.mem_cons.1 hi with rfl | hi
  ·simp
  ·rcases List.mem_append.1 hi with hi | hi
   ·rcases List.mem_append.1 hi with hi | hi <;> simp [hi]
   ·simp [hi]
theorem Er {S S1 V W:Type} (k:Nat) (Δ:S1→V→W→List aX) (φ:S1→V→W→Fr) (v0:V) (w0:W) (f2:Fr) {ju:List KI} {kb:Kb R S} {c:Code} {s0:S1} {body:S1→Option (Out S1 R)} {f:S1→Option (Out S R)}
  (ha:tK fr (φ s0 v0 w0)) (hf:tK fr f2) (h0:EO Γ (Δ s0 v0 w0) Γ1) (hn:OW Γ (Δ s0 v0 w0)) (hs:l5 Γ1 Γ2)
  (hb:∀ s v w,D P cx (.p (φ s v w) (Δ s v w) f2 Γ2 fun fr Γ=>.c ⟨[],.loop (V×W) k (fun s v=>Δ s v.1 v.2) (fun s v=>φ s v.1 v.2) Γ2 f2⟩ c Γ fr (body s)))
  (hk:∀ s v w,D P cx (.p (φ s v w) (Δ s v w) f2 Γ2 fun fr Γ=>.mn ⟨ju,kb⟩ Γ fr (f s))):Bx (ru P cx (.bk true k ⟨ju,kb⟩ (.loop c) Γ fr (ai (af k (Li.aj body s0)) f))):=
 loop k (fun s v=>Δ s v.1 v.2) (fun s v=>φ s v.1 v.2) (v0,w0) f2 ha hf h0 hn hs (fun s v=>hb s v.1 v.2) (fun s v=>hk s v.1 v.2)
def Il {α:Type} (v:Value) (_:List α):Prop:=∃ a n c,v = .slice a n c∧n≤c
theorem Le.cap {α:Type} {T E:ah α} (hl:Le T E) (e:TI):Le (aK e T) (tL Il (bY E)):=by
 refine ⟨rfl,fun {h cs x f} hr=>⟨?_,(Le.own hl e).le hr⟩⟩
 obtain ⟨base,cap,rfl,hr⟩:=hr
 refine ⟨_,rfl,_,_,_,rfl,?_⟩
 rcases hr with ⟨_,_,rfl,_⟩ | ⟨_,_,_,_,_,_,h,_⟩
 ·exact Nat.zero_le _
 ·exact h
theorem TU {α:Type} {T E:ah α} {e e2:TI} {v:Value} {xs:List (List α)} {f:LN} {h:Array Obj} (hl:Le T E) (hO:(aK e (aK e2 T)).rep h [v] xs f) :
  ∃ fo fz us,(fo++fz).Perm f∧(aK e tH).rep h [v] us fo∧dy (tL Il (bY E)) h us xs fz:=by
 obtain ⟨base,cap,hv,hr⟩:=hO
 rcases hr with ⟨rfl,rfl,rfl,rfl⟩ | ⟨b,cur,f',rfl,h2,rfl,h4,h5,h6,h3⟩
 ·exact ⟨[],[],[],.refl _,⟨none,0,by simpa using hv,.inl ⟨rfl,rfl,rfl,rfl⟩⟩,rfl,rfl⟩
 ·have h7:=kn h3
  have h8:(aK e2 T).size=1:=rfl
  rw [h8,Nat.mul_one] at h6 h3 h7
  try rw [Nat.mul_one] at h7
  refine ⟨[b],f',cur.toList.take xs.length,.refl _,⟨_,cap,by rw [h7]; exact hv,.inr ⟨b,cur,[],rfl,h2,rfl,by rw [h7]; exact h4,h5,by rw [h6]; exact (Nat.mul_one _).symm,?_⟩⟩,wa (Le.cap hl e2) h3⟩
  have h9:tH.size=1:=rfl
  rw [h9,Nat.mul_one,h7]
  exact Dg (DC h3)
theorem St.frz {α:Type} {T E:ah α} {e e2:TI} {v:Value} {xs:List (List α)} (hs:St B Γ w) (h1:EO Γ [.own (aK e (aK e2 T)) v xs] Γ1) (hr:RT T E):St B (.om e (tL Il (bY E)) v xs :: Γ1) w:=by
 obtain ⟨Z,F,hS,hG⟩:=hs
 obtain ⟨_,F1,hH,fy,hp⟩:=h1.sound hS
 obtain ⟨f,hO,hp⟩ : ∃ f,(aK e (aK e2 T)).rep w.heap [v] xs f∧(f++F1).Perm F:=by
  cases hH with
  | own h k=>cases k; exact ⟨_,h,by simpa using hp⟩
 obtain ⟨fo,fz,us,hf,ho,hl⟩:=TU hr.le hO
 have yR:((fo++F1)++fz).Perm F:=by
  refine .trans ?_ hp
  refine .trans ?_ (hf.append_right F1)
  rw [List.append_assoc,List.append_assoc]
  exact List.Perm.append_left fo List.perm_append_comm
 have tx:=Gd.freeze (hG.perm yR) fun b hb=>hS.lt b (yR.mem_iff.1 (List.mem_append_right _ hb))
 exact ⟨tv Z fz,fo++F1,SA.cons (fy.mono (fun _ h=>.inl h) fun _ h=>h) ⟨us,fz,ho,hl,fun b hb=>.inr hb,rfl⟩,tx⟩
theorem Za {S:Type} {id:Nat} (k:Nat) {K:dg R S} {l ops tl0:LO} {α:Type} {T E:ah α} {e e2:TI} {v:Value} {xs:List (List α)} {m:Option (Out S R)} (hB:(P.follows .mixedOrders && dk cx.n l && ((l.take k).all fun o=>xV o.op) && Region.lexTailB .any l.toArray k)=true) (ho:ops=l.take k) (ht:tl0=l.drop k)
  (h1:EO Γ [.own (aK e (aK e2 T)) v xs] Γ1) (hr:RT T E) (h:D P cx (.o true l ops (.h l tl0 K) (.om e (tL Il (bY E)) v xs :: Γ1) fr m)):Bx (ru P cx (.dr id l K Γ fr m)):=by
 have h2:=tail (id:=id) k hB ho ht h
 rw [qz] at h2 ⊢
 exact fun B o bw r w ha hs=>h2 B o bw r w ha (hs.frz h1 hr)
theorem NO {α:Type} {E:ah α} {h:Array Obj}:∀ {xs:List α} {cs:LV} {f:LN} (n:Nat),dy E h cs xs f→∃ f3,dy E h (cs.drop (n * E.size)) (xs.drop n) f3∧∀ b∈f3,b∈f:=by
 intro xs
 induction xs with
 | nil=>rintro cs f n ⟨rfl,rfl⟩; exact ⟨[],by simpa using ⟨rfl,rfl⟩,fun _ h=>h⟩
 | cons x xs ih=>
  rintro cs f n ⟨c,ds,f1,f2,rfl,rfl,h1,h2⟩
  cases n with
  | zero=>exact ⟨f1++f2,by simpa using ⟨c,ds,f1,f2,rfl,rfl,h1,h2⟩,fun _ h=>h⟩
  | succ n=>
   obtain ⟨f3,h3,h4⟩:=ih n h2
   refine ⟨f3,?_,fun b hb=>List.mem_append_right _ (h4 b hb)⟩
   have e:(n+1) * E.size=c.length+n * E.size:=by rw [E.len h1,Nat.add_mul,Nat.one_mul,Nat.add_comm]
   rw [e,List.drop_append,List.drop_of_length_le (by omega),List.nil_append,List.drop_succ_cons]
   simpa using h3
theorem slT {α:Type} {q:Bool} {d:Nat} {x lo:OO} {v:Value} {k:IntKind} {j:Int} {E:ah α} {xs:List α} {t ty:TI} {f:List α→Option M} [ht:vV P t] (hx:bd fr x=some v) (hy:bd fr lo=some (.int k j)) (hr:In (.rd false (tL Il (bY E)) v xs) Γ) (hE:E.size=1)
  (h:∀ v' ys,D P cx (.o q all l rk (.rd false (bY E) v' ys :: Γ) ((d,v') :: fr) (f ys))):D P cx (.e q (.slice t x (some lo) none none) (some d) ty all l rk Γ fr (tl xs j>>=f)):=by
 refine D.of ?_
 intro B o ho r w ha hs pos ag g
 obtain ⟨ys,zR,ho⟩:=bind_some ho
 obtain ⟨h0,h1,rfl⟩:=TV zR
 obtain ⟨e,i,q1,q2,q3⟩:=ht.h
 obtain ⟨Z,F,hS,hG⟩:=hs
 obtain ⟨g0,⟨⟨v0,hv0,a0,n0,c0,Sd,hc⟩,base,cap,hv,fi⟩,p6⟩:=hr.rd hS []
 obtain rfl:v = .slice base xs.length cap:=by simpa using hv
 obtain rfl:Value.slice base xs.length cap=v0:=by simpa using hv0
 obtain ⟨rfl,rfl,rfl⟩ : base=a0∧xs.length=n0∧cap=c0:=by simpa using Sd
 have hlen:(xs.drop j.toNat).length=xs.length - j.toNat:=List.length_drop
 have hf:fact Z w [] (.rd false (bY E) (sliced base j.toNat xs.length cap 1) (xs.drop j.toNat)):=by
  by_cases hj:j.toNat=xs.length
  ·refine ⟨[],⟨_,cap - j.toNat,by unfold sliced; rw [hlen],.inl ⟨by rw [hj]; simp,rfl⟩⟩,fun _ h=>absurd h List.not_mem_nil⟩
  ·rcases fi with ⟨rfl,_⟩ | ⟨b,off,cur,e',fz,f',rfl,g1,rfl,g2⟩
   ·exfalso; simp at h1 hj; omega
   ·have o7 : ¬ (cap=j.toNat):=by omega
    obtain ⟨f3,dq,cb⟩:=NO j.toNat g2
    refine ⟨b :: f3,⟨some ⟨b,off+j.toNat,none⟩,cap - j.toNat,?_,.inr ⟨b,off+j.toNat,cur,e',fz,f3,rfl,g1,rfl,?_⟩⟩,fun i hi=>?_⟩
    ·unfold sliced
     rw [hlen,if_neg o7]
     simp [js]
    ·rw [hE,Nat.mul_one] at dq ⊢
     rw [Nat.mul_one,List.drop_take,List.drop_drop] at dq
     rw [hlen]
     exact dq
    ·rcases List.mem_cons.1 hi with rfl | hi
     ·exact p6 _ (by simp)
     ·exact p6 _ (List.mem_cons_of_mem _ (cb i hi))
 refine b9 (v:=sliced base j.toNat xs.length cap 1) (fun w' _=>?_) ((h _ _).sound B o ho _ w (ay ha) ⟨Z,F,SA.fact hS hf,hG⟩)
 have q4:P.elem t=e:=by simp [Program.elem,q1]
 have sS:(sizeOf (P.elem t)).run P w' = .ok 1 w':=by rw [q4]; simp [sizeOf,typeInfo,q2,q3]
 simp [execOp,aV ha hx,aV ha hy,run_sliceAt_slice w' t _ _ _ _ (by rw [q4]; exact q1),run_slice_l (P:=P) w' t base xs.length cap (by rw [q4]; exact q1) k j h0 h1,sS,Result.andThen]
theorem stN {α:Type} {x y:OO} {v u:Value} {j:Int} {z:List α} {xs:List (List α)} {E:ah α} {Q:Value→List α→Prop} {t e ty:TI} {Γx:QE} {m:Option M} (h0:Rg v j Γ) (h1:na Γ u false false E z qp Γx) (h2:dt Γ (.om e (tL Q (bY E)) v xs) Γ1)
  (h:D P cx (.o false all l rk (.om e (bY E) v (xs.set j.toNat z) :: Γ1) fr m)):D P cx (.sl .om v j u t x y ty all l rk Γ fr m):=by
 refine D.of ?_
 intro hT hx hy _ B o ho r w ha hs pos ag g
 obtain ⟨i,hi,sS⟩:=hT
 obtain ⟨Z,F,hS,hg⟩:=hs
 obtain ⟨j0,j1⟩:=h0.sound hS
 obtain ⟨dn,_,⟨⟨k,hk,D9⟩,_⟩,_⟩:=h1.sound hS
 obtain ⟨n,F1,hp,⟨us,gg,hO,hr0,p6,BB⟩,fy⟩:=h2.sound hS
 have hle:Le (tL Q (bY E)) (bY E):=⟨rfl,fun h=>h.2⟩
 have hr:dy (bY E) w.heap us xs gg:=wa hle hr0
 replace BB:(bY E).size=1:=rfl
 have gh:=hg.perm hp
 have db:=List.nodup_append.1 gh.nd
 have vA:∀ b∈k,Z b:=fun b hb=>(D9 b hb).elim (fun h=>h) (fun h=>h)
 have yS:∀ b∈n,¬ Z b:=fun b hb=>gh.apart b (List.mem_append_left _ hb)
 have hl:us.length=xs.length:=by have:=kn hr; rw [BB,Nat.mul_one] at this; exact this
 have Hh:v8 v=us.length:=sc hO
 rw [Hh,hl] at j1
 refine dx (Hx.store (E:=bY E) (G:=n) (B:=w.heap.size) (g:=gg) (k:=k) hi sS ⟨us,⟨hO,db.1,fun b hb=>.inl hb⟩,hr,BB⟩ (List.getElem?_eq_getElem j1) (aV ha hx) (aV ha hy) hk (fun b hb hm=>yS b hm (vA b hb)) (fun b hb hm=>yS b hm (p6 b hb)) fun w' g' hC mi jj=>?_)
 obtain ⟨Ea,bw,fi,Az⟩:=mi
 exact h.sound B o ho _ w' ha (St.put fy gh hC ⟨Ea,_,bw.1,fi,(fun b hb=>(jj b hb).elim (p6 b) (vA b)),Az⟩ bw.2.1 fun b hb=>.inl hb)
theorem St.apv {B:Bs} {Γ Δ Γ1 Γ2 Γ3:QE} {w:World} (h:St B Γ w) (h0:EF Γ Δ Γ1) (h1:EO Γ1 Γ2 Γ3) (h2:MF Γ none Γ2):St B (Δ.reverse++Γ2) w:=by
 obtain ⟨Z,F,hs,hg⟩:=h
 obtain ⟨Fd,F',Zn,a1,a2,a3⟩:=h0.sound hs
 obtain ⟨U5,F3,c1,c2,c3⟩:=h1.sound a2
 obtain ⟨F2,b1,b2⟩:=HL.build a1 (h2.sound (hs.left (f:=Zn)) (dn:=[]) (by rintro e he; cases he) c1)
 refine St.of (F':=Fd++U5) b2 (Gd.left (F':=F3) ((Gd.freeze (hg.perm a3) fun b hb=>hs.lt b (a3.mem_iff.1 (List.mem_append_right _ hb))).perm ?_)) b1
 rw [List.append_assoc]
 exact c3.append_left Fd
theorem join {S S1 V:Type} {t k:Nat} {b:Bool} (Δ:S1→V→List aX) (φ:S1→V→Fr) (v0:V) (f2:Fr) {ju:List KI} {kb:Kb R S} {x y:Code} {s0:S1} {m0:Option (Out S1 R)} {f:S1→Option (Out S R)}
   (_ha:tK fr (φ s0 v0)) (_hf:tK fr f2) (_h0:EO Γ (Δ s0 v0) Γ1) (_hs:l5 Γ1 Γ2)
   (hb:D P cx (.cd b ⟨[],.loop V k Δ φ Γ2 f2⟩ x y Γ fr m0)) (hk:∀ s v,D P cx (.p (φ s v) (Δ s v) f2 Γ2 fun fr Γ=>.n ⟨ju,kb⟩ Γ fr (f s))):D P cx (.cd b ⟨ju,kb⟩ x y Γ fr (jn t s0 m0 f)):=by
 refine .inj (bxi ?_)
 intro B o ho r w vx sU
 replace ho:ai m0 f=some o:=ho
 cases hm:m0 with
 | none=>rw [hm] at ho; cases ho
 | some o0=>
  have h1:=hb.sound B o0 hm r w vx sU
  rw [hm] at ho
  have hq:∀ e r w,mx P cx B ⟨[],.loop V k Δ φ Γ2 f2⟩ o0 e r w→mx P cx B ⟨ju,kb⟩ o e r w:=by
   intro e r w hp
   cases o0 with
   | norm s=>
    cases e with
    | normal=>obtain ⟨v,a1,a2⟩:=hp; exact (hk s v).sound B o ho r w a1 a2
    | _=>exact hp.elim
   | exit j s=>cases ho
   | ret y=>
    cases ho
    cases e with
    | ret=>exact yN hp
    | _=>exact hp.elim
  exact ⟨fun h=>zW (h1.1 h) hq,fun h=>zW (h1.2 h) hq⟩
theorem Sl {S:Type} {t:Nat} {K:dg R S} {ops:LO} {m:Option (Out S R)} (_ht:D2 ops=some t) (h:D P cx (.o false ops ops (.s K) Γ fr m)):D P cx (.rw false ops K Γ fr m):=.rwu h
theorem va {S:Type} {b:Bool} {t:Nat} {K:dg R S} {x y:Code} {m1 m2:Option (Out S R)} (hl:look fr t=some (.bool b)) (h1:D P cx (.c K x Γ ((t,.bool true) :: fr) m1)) (h2:D P cx (.c K y Γ ((t,.bool false) :: fr) m2)):D P cx (.cd b K x y Γ fr (bif b then m1 else m2)):=by
 refine D.of ?_
 have hc:∀ {r:NV},c9 r fr→∀ c,b=c→c9 r ((t,.bool c) :: fr):=by
  intro r ha c hb s u hs
  unfold look at hs
  cases sU:Nat.beq s t with
  | true=>
   rw [sU] at hs
   cases hs
   obtain rfl:=Nat.eq_of_beq_eq_true sU
   rw [← hb]
   exact ha _ _ hl
  | false=>rw [sU] at hs; exact ha _ _ hs
 exact fun B o ho r w ha hs=>⟨fun h=>h1.sound B o (by rw [h] at ho; exact ho) r w (hc ha _ h) hs,fun h=>h2.sound B o (by rw [h] at ho; exact ho) r w (hc ha _ h) hs⟩
theorem ixk {α β:Type} {q:Bool} {d:Nat} {x y:OO} {v:Value} {k:IntKind} {j:Int} {t ty:TI} {o1 o2 p1 p2:Bool} {E:ah α} {E2:ah β} {z:β} {xs:List α} {Γx:QE} {m:Option M} [ht:vV P t] (hx:bd fr x=some v) (hy:bd fr y=some (.int k j)) (hr:na Γ v o1 o2 E xs qp Γx) (hi:In (.ad p1 p2 v j E2 z) Γ) (hE:E.size=1)
  (h:D P cx (.o q all l rk Γ ((d,.pointer (some (cw v 1 j))) :: fr) m)):D P cx (.e q (.indexAddr t x y) (some d) ty all l rk Γ fr m):=by
 refine D.of ?_
 intro B o ho r w ha hs pos ag g
 obtain ⟨Z,F,hS,_⟩:=@_root_.id _ hs
 obtain ⟨_,_,⟨⟨n',p5,_⟩,_⟩,_⟩:=hr.sound hS
 obtain ⟨j0,j1⟩:=hi.ad hS
 obtain ⟨a,c,n7⟩:=ug p5
 have bj:j.toNat < xs.length:=by rw [n7] at j1; exact j1
 exact b9 (Ix ht.h p5 ⟨j0,List.getElem?_eq_getElem bj⟩ (aV ha hx) (aV ha hy) hE) (h.sound B o ho _ w (ay ha) hs)
class ri {α:Type} (S:ah α) (V:outParam Type) (cl:outParam (α→V→List Value)) (en:outParam (α→V→List aX)):Prop where
 ow:∀ x v,tu (en x v)=true
 op:∀ {w:World} {cs:LV} {x:α} {g:LN},S.rep w.heap cs x g→∃ v,cs=cl x v∧∀ Z:Nat→Prop,HL Z w (en x v) g
 cl:∀ {w:World} {x:α} {v:V} {Z:Nat→Prop} {g:LN},HL Z w (en x v) g→S.rep w.heap (cl x v) x g
theorem ri.i {k:IntKind}:ri (aM k) Unit (fun x _=>[.int k x]) (fun _ _=>[]):=
 ⟨fun _ _=>rfl,fun h=>⟨(),h.1,fun _=>by rw [h.2]; exact .nil⟩,fun h=>by cases h; exact ⟨rfl,rfl⟩⟩
theorem ri.s {α:Type} {e:TI} {E:ah α}:ri (aK e E) Value (fun _ v=>[v]) (fun x v=>[.own (aK e E) v x]):=by
 refine ⟨fun _ _=>rfl,fun {w cs x g} h=>?_,fun {w x v Z g} h=>?_⟩
 ·obtain ⟨base,cap,rfl,hr⟩:=h
  refine ⟨_,rfl,fun Z=>?_⟩
  have:=HL.own (Z:=Z) (w:=w) (e:=.own (aK e E) (.slice base x.length cap) x) (f:=g) ⟨base,cap,rfl,hr⟩ .nil
  rwa [List.append_nil] at this
 ·cases h with
  | own h k=>cases k; rw [List.append_nil]; exact h
  | fact h _=>exact h.elim
theorem ri.ip {β V:Type} {k:IntKind} {B:ah β} {cl:β→V→List Value} {en:β→V→List aX} (h:ri B V cl en):ri (cy (aM k) B) V (fun x v=>.int k x.1 :: cl x.2 v) (fun x v=>en x.2 v):=by
 refine ⟨fun x v=>h.ow x.2 v,fun {w cs x g} hr=>?_,fun {w x v Z g} he=>?_⟩
 ·obtain ⟨c1,c2,f1,f2,rfl,rfl,⟨rfl,rfl⟩,h2⟩:=hr
  obtain ⟨v,rfl,hv⟩:=h.op h2
  exact ⟨v,rfl,hv⟩
 ·exact ⟨[_],_,[],g,rfl,rfl,⟨rfl,rfl⟩,h.cl he⟩
theorem ri.sp {α β V:Type} {e:TI} {E:ah α} {B:ah β} {cl:β→V→List Value} {en:β→V→List aX} (h:ri B V cl en):ri (cy (aK e E) B) (Value×V) (fun x v=>v.1 :: cl x.2 v.2) (fun x v=>.own (aK e E) v.1 x.1 :: en x.2 v.2):=by
 refine ⟨fun x v=>h.ow x.2 v.2,fun {w cs x g} hr=>?_,fun {w x v Z g} he=>?_⟩
 ·obtain ⟨c1,c2,f1,f2,rfl,rfl,h1,h2⟩:=hr
  obtain ⟨base,cap,rfl,yM⟩:=h1
  obtain ⟨v,rfl,hv⟩:=h.op h2
  exact ⟨(_,v),rfl,fun Z=>.own ⟨base,cap,rfl,yM⟩ (hv Z)⟩
 ·cases he with
  | own h1 k=>
   obtain ⟨base,cap,hb,yM⟩:=h1
   exact ⟨[_],_,_,_,rfl,rfl,⟨base,cap,hb,yM⟩,h.cl k⟩
  | fact h1 _=>exact h1.elim
theorem ri.mp {α β V:Type} {f:β→α} {A:ah α} {cl:α→V→List Value} {en:α→V→List aX} (h:ri A V cl en):ri (zt f A) V (fun y v=>cl (f y) v) (fun y v=>en (f y) v):=
 ⟨fun y v=>h.ow (f y) v,fun hr=>h.op hr,fun he=>h.cl he⟩
inductive P4 {α:Type} (S:ah α) (V:Type) (cl:α→V→List Value) (en:α→V→List aX):Prop
 | mk [h:ri S V cl en]:P4 S V cl en
theorem Zb:∀ {Δ:QE} {F:LN},tu Δ=true→HO Z w Δ F→HL Z w Δ F:=by
 intro Δ
 induction Δ with
 | nil=>intro F _ h; cases h; exact .nil
 | cons e Δ ih=>
  intro F ho h
  cases e with
  | own T v x=>cases h with | own h k=>exact .own h (ih ho k)
  | row b cs t=>cases h with | own h k=>exact .own h (ih ho k)
  | _=>exact absurd ho (by simp [tu])
theorem lgO {α:Type} (S:ah α) {d:Nat} {t e n bt ty:TI} {m:Option M} [ht:BK P t e n bt]
  (h:∀ v,D P cx (.o false all l rk (.own (aK e S) v [] :: Γ) ((d,v) :: fr) m)):D P cx (.e false (.buildSlice t 0 #[]) (some d) ty all l rk Γ fr m):=by
 refine D.of ?_
 intro B o ho r w ha hs pos ag g
 obtain ⟨h1,i,z,h2,_⟩:=ht.h
 obtain ⟨v,w',f,hr,hC,hO⟩:=AJ (E:=S) (r:=r) (w:=w) (d:=some d) (ty:=ty) (pos:=pos) (ag:=ag) (g:=none) h1 h2
 refine dx (WL.val rfl hr ((h v).sound B o ho _ w' (ay ha) ?_))
 obtain ⟨Z,F,hS,hg⟩:=hs
 exact St.put (f:=[]) hS hg hC hO.1 hO.2.1 fun b hb=>.inr ((hO.2.2 b hb).resolve_left List.not_mem_nil)
theorem lnO {α:Type} {S:ah α} {q:Bool} {d n e:Nat} {x:OO} {v:Value} {xs:List α} {t ty bt:TI} {m:Option M} [ht:BK P t e n bt] (hx:bd fr x=some v) (h1:dt Γ (.own (aK e S) v xs) Γ1)
  (h:D P cx (.o q all l rk Γ ((d,.int .i64 (xs.length:Int)) :: fr) m)):D P cx (.e q (.call ⟨.builtin .len,#[x],#[t]⟩) (some d) ty all l rk Γ fr m):=by
 refine D.of ?_
 intro B o ho r w ha hs pos ag g
 obtain ⟨q1,_⟩:=ht.h
 obtain ⟨Z,F,hS,hG⟩:=@_root_.id _ hs
 obtain ⟨f,F1,_,hO,_⟩:=h1.sound hS
 obtain ⟨base,cap,hv,_⟩:=hO
 obtain rfl:v = .slice base xs.length cap:=by simpa using hv
 exact b9 (v:=.int .i64 (xs.length:Int)) (fun w' _=>vy q1 (aV ha hx)) (h.sound B o ho _ w (ay ha) hs)
theorem P5 {α:Type} {S:ah α} {n:Nat} {hp:Array Obj} (hn:S.size=n):∀ {xs:List α} {cs:LV} {f:LN},dy S hp cs xs f→∃ us,us.length=xs.length∧dy (jw n) hp cs us []∧∀ (j:Nat) (x:α),xs[j]? = some x→∃ c f0 f1 f2,us[j]? = some c∧f=f0++f1++f2∧S.rep hp c x f1:=by
 intro xs
 induction xs with
 | nil=>rintro cs f ⟨rfl,rfl⟩; exact ⟨[],rfl,⟨rfl,rfl⟩,fun j x hj=>by simp at hj⟩
 | cons y xs ih=>
  rintro cs f ⟨c,l4,f1,f2,rfl,rfl,h1,h2⟩
  obtain ⟨us,hl,hr,hg⟩:=ih h2
  refine ⟨c :: us,by simp [hl],⟨c,l4,[],[],rfl,rfl,⟨rfl,by rw [S.len h1,hn],S.one h1,rfl⟩,hr⟩,fun j x hj=>?_⟩
  cases j with
  | zero=>simp at hj; subst hj; exact ⟨c,[],f1,f2,rfl,by simp,h1⟩
  | succ j=>
   obtain ⟨c',g0,g1,g2,a1,rfl,a3⟩:=hg j x (by simpa using hj)
   exact ⟨c',f1++g0,g1,g2,by simpa using a1,by simp,a3⟩
theorem ixO {α V:Type} {S:ah α} {cl:α→V→List Value} {en:α→V→List aX} {q:Bool} {d n e:Nat} {x y:OO} {v:Value} {xs:List α} {k:IntKind} {j:Int} {t ty bt:TI} {f:α→Option M} [ht:BK P t e n bt] (hx:bd fr x=some v) (hy:bd fr y=some (.int k j))
  (h1:dt Γ (.own (aK e S) v xs) Γ1) (hs:P4 S V cl en) (hn:S.size=n)
  (h:∀ z u us,D P cx (.p [] (.own (aK e (jw n)) v us :: .rd false (Bt us j) (.bool true) (cl z u) :: en z u) fr Γ1 fun fr Γ=>.o q all l rk Γ ((d,.pointer (some (cw v n j))) :: fr) (f z))):D P cx (.e q (.indexAddr t x y) (some d) ty all l rk Γ fr (idx xs j>>=f)):=by
 refine D.of ?_
 intro B o ho r w ha cq pos ag g
 replace hs:ri S V cl en:=by cases hs; assumption
 obtain ⟨z,hz,ho⟩:=bind_some ho
 replace hz:=sd hz
 obtain ⟨q1,i,_,q2,_,_,q3,_⟩:=ht.h
 obtain ⟨Z,F,hS,hG⟩:=cq
 obtain ⟨f0,F1,hp,hO,fy⟩:=h1.sound hS
 have bj:j.toNat < xs.length:=(List.getElem?_eq_some_iff.1 hz.2).1
 obtain ⟨base,cap,hv,hr⟩:=hO
 obtain rfl:v = .slice base xs.length cap:=by simpa using hv
 rcases hr with ⟨_,_,rfl,_⟩ | ⟨b,cur,f',rfl,j4,rfl,hle,ab1,sS,dq⟩
 ·simp at bj
 ·obtain ⟨us,hl,hru,hg⟩:=P5 hn dq
  obtain ⟨c,g0,g1,g2,a1,rfl,a3⟩:=hg _ _ hz.2
  obtain ⟨u,rfl,rh⟩:=hs.op a3
  have zB:(aK e (jw n)).rep w.heap [.slice (some ⟨b,0,none⟩) xs.length cap] us [b]:=
   ⟨_,cap,by rw [hl],.inr ⟨b,cur,[],rfl,j4,rfl,by rw [hl]; exact hle,ab1,by rw [sS,hn]; rfl,by rw [hl,show (jw n).size=S.size from hn.symm]; exact hru⟩⟩
  have fq:HL Z w (.own (aK e (jw n)) (.slice (some ⟨b,0,none⟩) xs.length cap) us :: .rd false (Bt us j) (.bool true) (cl z u) :: en z u) ([b]++g1):=.own zB (.fact ⟨[],⟨rfl,⟨hz.1,a1⟩,rfl⟩,fun _ h=>absurd h List.not_mem_nil⟩ (rh Z))
  obtain ⟨F',xl,ji⟩:=fq.build fy
  have s8:(F'++(g0++g2)).Perm F:=by
   refine .trans ?_ hp
   refine (xl.append_right _).trans ?_
   rw [List.cons_append,List.cons_append,List.cons_append,List.nil_append,List.cons_append]
   refine List.Perm.cons b ?_
   have e1:(g1++F1++(g0++g2)).Perm ((g0++g2)++(g1++F1)):=List.perm_append_comm
   refine e1.trans ?_
   rw [List.append_assoc,List.append_assoc,List.append_assoc]
   refine List.Perm.append_left g0 ?_
   rw [← List.append_assoc,← List.append_assoc]
   exact List.perm_append_comm.append_right F1
  refine b9 (v:=.pointer (some (cw (.slice (some ⟨b,0,none⟩) xs.length cap) n j))) (fun w' hC=>?_) ((h z u us).sound B o ho _ w (ay ha) ⟨Z,F',ji,Gd.left (hG.perm s8)⟩)
  rw [nb q1 q2 (aV ha hx) (aV ha hy) hz.1 (by omega),q3]
  rfl
theorem Vk {α V:Type} {S:ah α} {cl:α→V→List Value} {en:α→V→List aX} (y:α) {u:V} {d b n e bt:Nat} {s x:OO} {sv:Value} {xs:List α} {cs:LV} {t et ty:TI} {f:Unit→Option M} [ht:BK P t e n bt]
  (hs:bd fr s=some sv) (hx:bd fr x=some (.slice (some ⟨b,0,none⟩) 1 1)) (h0:dt Γ (.row b cs et) Γ1) (h1:dt Γ1 (.own (aK e S) sv xs) Γ2) (sy:P4 S V cl en) (_hv:vu V u) (hc:cs=cl y u) (hn:S.size=n) (he:EO Γ2 (en y u) Γ3)
  (h:∀ v,D P cx (.o false all l rk (.own (aK e S) v (xs++[y]) :: Γ3) ((d,v) :: fr) (f ()))):D P cx (.e false (.call ⟨.builtin .append,#[s,x],#[t,t]⟩) (some d) ty all l rk Γ fr (fits bt (xs.length+1)>>=f)):=by
 refine D.of ?_
 intro B o bw r w ha cq pos ag g
 have Fv:ri S V cl en:=by cases sy; assumption
 obtain ⟨_,hu,bw⟩:=bind_some bw
 obtain ⟨b1,b2⟩:=jm hu
 obtain ⟨q1,i,z,q2,q3,q4,q5,q6,_⟩:=ht.h
 obtain ⟨Z,F,hS,hG⟩:=cq
 obtain ⟨n0,F0,tA,⟨rfl,bg⟩,tS⟩:=h0.sound hS
 obtain ⟨k,F1,hp,hO,fy⟩:=h1.sound tS
 obtain ⟨Fd,F2,hho,ji,qt⟩:=he.sound fy
 have hy:S.rep w.heap (cl y u) y Fd:=Fv.cl (Zb (Fv.ow y u) hho)
 have s8:(((k++Fd)++F2)++[b]).Perm F:=by
  refine .trans ?_ tA
  refine List.perm_append_comm.trans ?_
  refine List.Perm.append_left [b] ?_
  rw [List.append_assoc]
  exact (qt.append_left k).trans hp
 have kh:Gd B Z ((k++Fd)++F2) w:=Gd.left (F':=[b]) (hG.perm s8)
 have db:=(List.nodup_append.1 kh.nd).1
 have xU:=List.nodup_append.1 db
 subst hc
 obtain ⟨v,w',f',ni,hC,dq,cb,AL⟩:=n9 (E:=S) (d:=some d) (ty:=ty) (pos:=pos) (ag:=ag) (g:=none) (k:=Fd) (ys:=[y]) (news:=cl y u) q1 q2 q3 (by rw [q5,hn]) (by rw [q4,hn]) (aV ha hs) hO xU.1 (aV ha hx) (fun i u hi=>bg.at i u hi) (qf hy) (fun b hb hm=>xU.2.2 b hm b hb rfl) (by simp) (by rw [q6]; exact b1) b2
 refine dx (WL.val rfl ni ((h v).sound B o bw _ w' (ay ha) ?_))
 refine St.put ji kh (hC.mono fun b hb=>List.mem_append_left _ hb) dq (AL xU.2.1) fun b hb=>?_
 rcases cb b hb with h | h | h
 ·exact .inl (List.mem_append_left _ h)
 ·exact .inl (List.mem_append_right _ h)
 ·exact .inr h
end
end Go.Dk
namespace Go.Dk
open Go Go.Li
section
variable {P:Program} {n:Nat} {l:LO} {Q:Exit→(Nat→Value)→World→Prop} {S:World→Prop}
def Hw (P:Program) (n:Nat) (l:LO) (Q:Exit→(Nat→Value)→World→Prop) (S:World→Prop) (k:Nat) (L:Array Bool) (r:NV) (w:World):Prop:=
 ∀ a:Act,a.tmps.size=n→a.defers=[]→cu a=r→wpAnyH P .any l.toArray (fun e a' w'=>a'.tmps.size=n∧a'.defers=[]∧Q e (cu a') w') S k L a w
theorem Es {i:Nat} {o:Oper} {a:Act} (hd:dk n l=true) (hi:l[i]? = some o) (h1:a.tmps.size=n):∀ k,o.dst=some k→k < a.tmps.size:=by
 intro k hk
 have hm:o∈l:=List.mem_of_getElem? hi
 simp only [dk,List.all_eq_true] at hd
 have:=hd o hm
 rw [hk] at this
 rw [h1]
 exact Nat.lt_of_succ_le (Nat.le_of_ble_eq_true this)
theorem Hw.take {k i:Nat} {L:Array Bool} {o:Oper} {v:Value} {r:NV} {w:World} (hd:dk n l=true) (hi:l[i]? = some o) (hs:Region.noSelect l.toArray=true) (hf:Region.free .any l.toArray L i=true) (hr:(Region.ready .any l.toArray L).contains i=true)
  (hp:∀ c r w,¬ Q (.panic c) r w) (hg:o.guard=none) (hy:∀ w,S w→(execOp (ev r) o).run P w = .ok (.value v) w) (hS:S w) (h:Hw P n l Q S k (L.setIfInBounds i true) (ik r o.dst v) w):Hw P n l Q S (k+1) L r w:=by
 intro a h1 h2 h3
 refine wpAnyH_take (v:=v) (by simpa using hi) hs hf hr (fun c a w h=>(hp _ _ _ h.2.2).elim) (.inl ⟨uE hg,fun w hw=>?_⟩) hS (h _ (by rw [l3]; exact h1) (by rw [ja]; exact h2) (by rw [nj (Es hd hi h1),h3]))
 rw [tb,h3]
 exact hy w hw
theorem Hw.step {k i:Nat} {L:Array Bool} {o:Oper} {r:NV} {w w':World} (hd:dk n l=true) (hi:l[i]? = some o) (hr:Region.ready .any l.toArray L=[i]) (hg:o.guard=none) (hy:(execOp (ev r) o).run P w = .ok .skip w') (hS:S w') (h:Hw P n l Q S k (L.setIfInBounds i true) (ik r o.dst undef) w'):Hw P n l Q S (k+1) L r w:=by
 intro a h1 h2 h3
 refine wpAnyH_all hr (by simp) fun j hj=>?_
 obtain rfl:j=i:=by simpa using hj
 unfold wpOp
 rw [show (l.toArray)[j]? = some o by simpa using hi]
 simp only []
 rw [if_pos (uE hg)]
 refine .inl ?_
 unfold Oper.wp
 rw [tb,h3,hy]
 exact ⟨hS,h _ (by rw [l3]; exact h1) (by rw [ja]; exact h2) (by rw [nj (Es hd hi h1),h3])⟩
theorem Hw.done {k:Nat} {L:Array Bool} {r:NV} {w:World} (hr:Region.ready .any l.toArray L=[]) (h:Q .normal r w):Hw P n l Q S k L r w:=
 fun _ h1 h2 h3=>wpAnyH_done hr ⟨h1,h2,by rw [h3]; exact h⟩ k
theorem Hw.start {r:NV} {w:World} (h:Hw P n l Q S l.length (Array.replicate l.length false) r { w with drawn:=w.drawn+1 }):nz P n l Q r w:=
 fun a h1 h2 h3=>wpAny_of_held _ _ _ _ (h a h1 h2 h3)
def Dh (P:Program) (S:World→Prop):List Oper→(Nat→Value)→((Nat→Value)→Prop)→Prop
 | [],r,K=>K r
 | o :: l,r,K=>o.guard=none∧∃ v,(∀ w,S w→(execOp (ev r) o).run P w = .ok (.value v) w)∧Dh P S l (ik r o.dst v) K
def Fw (l:LO):List Nat→Array Bool→Bool
 | [],L=>(Region.ready .any l.toArray L).isEmpty
 | i :: ss,L=>Nat.blt i l.length && (Region.ready .any l.toArray L == [i]) && Fw l ss (L.setIfInBounds i true)
def LS (l:LO) (ss:LN):List Nat→Array Bool→Bool
 | [],L=>Fw l ss L
 | i :: qs,L=>Nat.blt i l.length && (Region.ready .any l.toArray L).contains i && Region.free .any l.toArray L i && LS l ss qs (L.setIfInBounds i true)
def pick (l:LO) (is:LN):List Oper:=is.map fun i=>l.getD i default
theorem Fx {i:Nat} (h:Nat.blt i l.length=true):l[i]? = some (l.getD i default):=by
 have h1:i < l.length:=Nat.lt_of_succ_le (Nat.le_of_ble_eq_true h)
 rw [List.getD_eq_getElem?_getD,List.getElem?_eq_getElem h1]; rfl
theorem Hw.quiet (hd:dk n l=true) (hs:Region.noSelect l.toArray=true) (hp:∀ c r w,¬ Q (.panic c) r w) {ss:LN} {w:World} (hS:S w) {K:(Nat→Value)→Prop} (h:∀ L r,Fw l ss L=true→K r→Hw P n l Q S ss.length L r w) :
  ∀ (qs:LN) (L:Array Bool) (r:NV),LS l ss qs L=true→Dh P S (pick l qs) r K→Hw P n l Q S (qs.length+ss.length) L r w:=by
 intro qs
 induction qs with
 | nil=>intro L r hc hv; rw [List.length_nil,Nat.zero_add]; exact h L r hc hv
 | cons i qs ih=>
  intro L r hc hv
  unfold LS at hc
  simp only [Bool.and_eq_true] at hc
  obtain ⟨⟨⟨c1,c2⟩,c3⟩,c4⟩:=hc
  obtain ⟨hg,v,h1,h2⟩:=hv
  have:=Hw.take hd (Fx c1) hs c3 c2 hp hg h1 hS (ih _ _ c4 h2)
  rwa [show qs.length+ss.length+1=(i :: qs).length+ss.length by simp; omega] at this
end
inductive JQ
 | q (ops:LO) (fr:Fr)
 | la (a:Addr) (lk:Option Nat) (t:TI) (x:OO) (d:Nat) (ty:TI) (pos:String) (ag:Array Edge) (ops:LO) (fr:Fr)
inductive QA (P:Program) (Γ:QE):JQ→Fr→Prop
 | nil {fr:Fr}:QA P Γ (.q [] fr) fr
 | ld {d:Nat} {t ty:TI} {x:OO} {lk:Option Nat} {a:Addr} {pos:String} {ag:Array Edge} {ops:LO} {fr p7:Fr} [ht:LK P t lk] (hx:bd fr x=some (.pointer (some a))) (h:QA P Γ (.la a lk t x d ty pos ag ops fr) p7):QA P Γ (.q (⟨some d,.load t x,ty,pos,ag,none⟩ :: ops) fr) p7
 | val {d:Nat} {op:Op} {ty:TI} {u:Value} {pos:String} {ag:Array Edge} {ops:LO} {fr p7:Fr} (hv:VQ P Γ fr op u) (h:QA P Γ (.q ops ((d,u) :: fr)) p7):QA P Γ (.q (⟨some d,op,ty,pos,ag,none⟩ :: ops) fr) p7
 | lc {d:Nat} {t ty:TI} {x:OO} {a:Addr} {u:Value} {pos:String} {ag:Array Edge} {ops:LO} {fr p7:Fr} (h:vq Γ a u) (k:QA P Γ (.q ops ((d,u) :: fr)) p7):QA P Γ (.la a none t x d ty pos ag ops fr) p7
 | ls {d n:Nat} {t ty:TI} {x:OO} {a:Addr} {ds:LV} {pos:String} {ag:Array Edge} {ops:LO} {fr p7:Fr} (h:we Γ a n ds) (k:QA P Γ (.q ops ((d,.agg ds.toArray) :: fr)) p7):QA P Γ (.la a (some n) t x d ty pos ag ops fr) p7
inductive RO (fr:Fr):List Oper→List aX→List (Nat×List Value×TypeId)→List aX→Prop
 | nil {Γ:QE}:RO fr [] Γ [] Γ
 | cons {t ty e:TI} {x y:OO} {b:Nat} {cs:LV} {pos:String} {ag:Array Edge} {ops:LO} {Γ Γ1 Γ2:QE} {rs:List (Nat×List Value×TypeId)} (hx:bd fr x=some (.pointer (some ⟨b,0,none⟩))) (h:dt Γ (.row b cs e) Γ1) (k:RO fr ops Γ1 rs Γ2):RO fr (⟨none,.store t x y,ty,pos,ag,none⟩ :: ops) Γ ((b,cs,e) :: rs) Γ2
inductive SQ (P:Program) (Γ:QE) (fr:Fr):List Oper→List (Nat×List Value×TypeId)→List (Nat×List Value×TypeId)→Prop
 | nil:SQ P Γ fr [] [] []
 | cons {n:Nat} {t ty e:TI} {x y:OO} {b:Nat} {u:Value} {us cs ds:LV} {pos:String} {ag:Array Edge} {ops:LO} {rs uw:List (Nat×List Value×TypeId)} [ht:xk P t n] (hx:bd fr x=some (.pointer (some ⟨b,0,none⟩))) (hy:bd fr y=some u) (hc:tR Γ u us) (hn:us.length=n) (hs:uA us 0 cs ds) (ho:wc Γ us) (k:SQ P Γ fr ops rs uw) :
   SQ P Γ fr (⟨none,.store t x y,ty,pos,ag,none⟩ :: ops) ((b,cs,e) :: rs) ((b,ds,e) :: uw)
def Et:List (Nat×List Value×TypeId)→List aX
 | []=>[]
 | (b,cs,e) :: l=>.row b cs e :: Et l
def Rows (w:World) (rs:List (Nat×List Value×TypeId)):Prop:=∀ p∈rs,Row w p.1 p.2.1 p.2.2
section
variable {P:Program} {Γ Γ2:QE} {S:World→Prop} {Z:Nat→Prop}
def ab2 (P:Program) (S:World→Prop):JQ→Fr→Prop
 | .q ops fr,p7=>∀ r,c9 r fr→Dh P S ops r fun r'=>c9 r' p7
 | .la a lk t x d ty pos ag ops fr,p7=>(match lk with | none=>NA P t | some n=>AG P t n)→bd fr x=some (.pointer (some a))→∀ r,c9 r fr→Dh P S (⟨some d,.load t x,ty,pos,ag,none⟩ :: ops) r fun r'=>c9 r' p7
theorem QA.sound {J:JQ} {p7:Fr} (hS:∀ w,S w→∃ cur F,SA Z w Γ cur F) (h:QA P Γ J p7):ab2 P S J p7:=by
 induction h with
 | nil=>exact fun r h=>h
 | @ld d t ty x lk a pos ag ops fr p7 ht hx _ ih=>exact fun r ha=>ih ht.h hx r ha
 | @val d op ty u pos ag ops fr p7 hv _ ih=>
  intro r ha
  refine ⟨rfl,u,fun w hw=>?_,ih _ (ay ha)⟩
  obtain ⟨cur,F,h⟩:=hS w hw
  exact hv.sound h ha (some d) ty pos ag none w (aw.refl _ _)
 | @lc d t ty x a u pos ag ops fr p7 h _ ih=>
  intro ht hx r ha
  refine ⟨rfl,u,fun w hw=>?_,ih _ (ay ha)⟩
  obtain ⟨cur,F,hs⟩:=hS w hw
  exact Ld ht (h.sound hs) (aV ha hx) w (aw.refl _ _)
 | @ls d n t ty x a ds pos ag ops fr p7 h _ ih=>
  intro ht hx r ha
  refine ⟨rfl,_,fun w hw=>?_,ih _ (ay ha)⟩
  obtain ⟨cur,F,hs⟩:=hS w hw
  obtain ⟨h1,h2⟩:=h.sound hs
  exact Lg ht h1 (aV ha hx) h2 w (aw.refl _ _)
theorem RO.sound {fr:Fr} {ops:LO} {rs:List (Nat×List Value×TypeId)} {w:World} (h:RO fr ops Γ rs Γ2):∀ {F:LN},SA Z w Γ [] F→∃ F2,(rs.map (·.1)++F2).Perm F∧Rows w rs∧SA Z w Γ2 [] F2:=by
 induction h with
 | nil=>intro F h; exact ⟨F,.refl _,fun _ h=>absurd h List.not_mem_nil,h⟩
 | @cons t ty e x y b cs pos ag ops Γ Γ1 Γ2 rs hx h _ ih=>
  intro F hS
  obtain ⟨f,F1,hp,⟨rfl,bg⟩,fy⟩:=h.sound hS
  obtain ⟨F2,qt,hr,ji⟩:=ih fy
  refine ⟨F2,?_,fun p hp=>?_,ji⟩
  ·exact .trans (List.Perm.cons b qt) hp
  ·rcases List.mem_cons.1 hp with rfl | hp
   ·exact bg
   ·exact hr p hp
theorem SQ.sound {n:Nat} {l:LO} {Q:Exit→(Nat→Value)→World→Prop} {fr:Fr} {ops:LO} {rs uw:List (Nat×List Value×TypeId)} {F2:LN} {w0:World} {r:NV} {F:LN} (hd:dk n l=true) (ha:c9 r fr) (NP:∀ w,aw F w0 w→SA Z w Γ2 [] F2) (h:SQ P Γ2 fr ops rs uw) :
  ∀ (ss:LN) (L:Array Bool) (w:World),ops=pick l ss→Fw l ss L=true→aw F w0 w→Rows w rs→(rs.map (·.1)).Nodup→(∀ b∈rs.map (·.1),b∈F)→(∀ w',aw (rs.map (·.1)) w w'→Rows w' uw→Q .normal r w')→Hw P n l Q (aw F w0) ss.length L r w:=by
 induction h with
 | nil=>
  intro ss L w ho hc hC hR hn hF hk
  cases ss with
  | cons i ss=>cases ho
  | nil=>
   exact Hw.done (by simpa [Fw] using hc) (hk w (aw.refl _ _) hR)
 | @cons n' t ty e x y b u us cs ds pos ag ops rs uw ht hx hy Df hn hsg hon _ ih=>
  intro ss L w ho hc hC hR db hF hk
  cases ss with
  | nil=>cases ho
  | cons i ss=>
   unfold Fw at hc
   simp only [Bool.and_eq_true] at hc
   obtain ⟨⟨c1,c2⟩,c3⟩:=hc
   have bw:l.getD i default = ⟨none,.store t x y,ty,pos,ag,none⟩∧ops=pick l ss:=by
    unfold pick at ho
    rw [List.map_cons,List.cons.injEq] at ho
    exact ⟨ho.1.symm,ho.2⟩
   have hi:=Fx c1
   rw [bw.1] at hi
   obtain ⟨ti,q1,q2⟩:=ht.h
   have bg:Row w b cs e:=hR (b,cs,e) (by simp)
   obtain ⟨e1,e2⟩:=hsg.eq
   have hSw:=NP w hC
   have ni:=wE (P:=P) (d:=none) (ty:=ty) (pos:=pos) (ag:=ag) (gg:=none) q1 (by rw [hn,q2]) bg e1 (aV ha hx) (y:=y) (by rw [aV ha hy]; exact Df.eq hSw) (hon.one hSw)
   have s9:=setRow_heap w b cs.toArray (cs.take 0++us++cs.drop (0+us.length)).toArray e _ bg
   have B5:aw [b] w (w.setRow b (cs.take 0++us++cs.drop (0+us.length)).toArray):=⟨rfl,rfl,rfl,Nat.le_refl _,by simp,fun j _ hj=>setRow_other w b j _ fun h=>hj (by simp [h])⟩
   have NQ:=hC.trans (B5.mono fun b' cg=>by rw [List.mem_singleton.1 cg]; exact hF b (by simp))
   rw [List.map_cons,List.nodup_cons] at db
   refine Hw.step hd hi (by simpa using c2) rfl ni NQ (ih ss _ _ bw.2 c3 NQ (fun p hp=>(hR p (List.mem_cons_of_mem _ hp)).fg B5 fun hb=>db.1 ?_) db.2 (fun b' cg=>hF b' (by simp at cg ⊢; exact .inr cg)) fun w' xn V8=>?_)
   ·rw [← List.mem_singleton.1 hb]; exact List.mem_map_of_mem (f:=fun q=>q.1) hp
   ·refine hk w' ((B5.mono (by simp)).trans (xn.mono fun b' cg=>List.mem_cons_of_mem _ cg)) fun p hp=>?_
    rcases List.mem_cons.1 hp with rfl | hp
    ·refine Row.fg (F:=rs.map (·.1)) ?_ xn db.1
     rw [e2]
     exact s9
    ·exact V8 p hp
theorem SQ.fst {fr:Fr} {ops:LO} {rs uw:List (Nat×List Value×TypeId)} (h:SQ P Γ fr ops rs uw):uw.map (·.1)=rs.map (·.1):=by
 induction h with
 | nil=>rfl
 | cons _ _ _ _ _ _ _ ih=>simp only [List.map_cons,ih]
theorem Im {w:World}:∀ {rs:List (Nat×List Value×TypeId)},Rows w rs→HL Z w (Et rs) (rs.map (·.1))
 | [],_=>.nil
 | (b,cs,e) :: l,h=>.own (f:=[b]) (e:=.row b cs e) ⟨rfl,h (b,cs,e) (by simp)⟩ (Im fun p hp=>h p (List.mem_cons_of_mem _ hp))
end
section
variable {R S:Type} {P:Program} {cx:Cx R} {K:dg R S} {l:LO}
theorem anyS {id:Nat} (qs ss:LN) {V9 tc:LO} {Γ Γ1:QE} {fr p7:Fr} {rs uw:List (Nat×List Value×TypeId)} {m:Option (Out S R)}
  (hB:(P.follows .mixedOrders && dk cx.n l && Region.noSelect l.toArray && LS l ss qs (Array.replicate l.length false) && Nat.beq l.length (qs.length+ss.length))=true)
  (hq:V9=pick l qs) (hs:tc=pick l ss) (h1:RO fr tc Γ rs Γ1) (h2:QA P Γ1 (.q V9 fr) p7) (h3:SQ P Γ1 p7 tc rs uw)
  (h:D P cx (.p [] (Et uw) p7 Γ1 fun fr Γ=>.n K Γ fr m)):Bx (ru P cx (.dr id l K Γ fr m)):=by
 simp only [Bool.and_eq_true] at hB
 obtain ⟨⟨⟨⟨b1,b2⟩,b3⟩,b4⟩,b5⟩:=hB
 rw [qz]
 intro B o ho r w ha sU
 obtain ⟨Z,F,hS,hG⟩:=sU
 obtain ⟨F2,hp,hR,ji⟩:=h1.sound hS
 have kh:=hG.perm hp
 have db:=List.nodup_append.1 kh.nd
 refine nz.W b1 (Hw.start (S:=aw (rs.map (·.1)) { w with drawn:=w.drawn+1 }) ?_)
 have Wd:aw [] w { w with drawn:=w.drawn+1 }:=aw.drew _ _
 have NP:∀ w',aw (rs.map (·.1)) { w with drawn:=w.drawn+1 } w'→SA Z w' Γ1 [] F2:=fun w' hC=>(ji.km Wd).fg hC (fun b hb=>kh.apart b (List.mem_append_left _ hb)) (fun b _=>List.not_mem_nil) (fun b hb hm=>db.2.2 b hb b hm rfl)
 rw [show l.length=qs.length+ss.length from Nat.eq_of_beq_eq_true b5] at b4 ⊢
 subst hq hs
 refine Hw.quiet (K:=fun r'=>c9 r' p7) b2 b3 (fun c r w h=>wG c h) (aw.refl _ _) (fun L r' hc fi=>?_) qs _ r b4 (QA.sound (fun w' hC=>⟨[],F2,NP w' hC⟩) h2 r ha)
 refine SQ.sound b2 fi NP h3 ss L _ rfl hc (aw.refl _ _) (fun p hp=>(hR p hp).km Wd) db.1 (fun b hb=>hb) fun w' hC V8=>?_
 obtain ⟨F3,e1,e2⟩:=HL.build (Im V8) (NP w' hC)
 have NQ:aw (rs.map (·.1)) w w':=(Wd.mono fun b hb=>absurd hb List.not_mem_nil).trans hC
 rw [h3.fst] at e1
 have wo:∀ b∈rs.map (·.1),b∈B.G∨B.w.heap.size≤b:=fun b hb=>kh.low b (List.mem_append_left _ hb)
 have jj:Gd B Z (rs.map (·.1)++F2) w':=⟨kh.nd,kh.apart,fun b hb=>Nat.lt_of_lt_of_le (kh.py b hb) NQ.size,kh.low,kh.xP,kh.xc,kh.lp.then NQ wo⟩
 exact h.sound B o ho r' w' (by simpa using fi) ⟨Z,F3,e2,jj.perm e1⟩
end
theorem Hw.all {P:Program} {n k:Nat} {l:LO} {Q:Exit→(Nat→Value)→World→Prop} {S:World→Prop} {L:Array Bool} {rs:LN} {r:NV} {w:World} (hd:dk n l=true) (hr:Region.ready .any l.toArray L=rs) (o7:rs≠[])
  (h:∀ i∈rs,∃ o,l[i]? = some o∧o.guard=none∧∃ v w',((execOp (ev r) o).run P w = .ok (.value v) w'∨(execOp (ev r) o).run P w = .ok .skip w'∧v=undef)∧S w'∧Hw P n l Q S k (L.setIfInBounds i true) (ik r o.dst v) w'):Hw P n l Q S (k+1) L r w:=by
 intro a h1 h2 h3
 refine wpAnyH_all hr o7 fun j hj=>?_
 obtain ⟨o,hi,hg,v,w',hy,hS,hk⟩:=h j hj
 unfold wpOp
 rw [show (l.toArray)[j]? = some o by simpa using hi]
 simp only []
 rw [if_pos (uE hg)]
 refine .inl ?_
 unfold Oper.wp
 rw [tb,h3]
 rcases hy with hy | ⟨hy,rfl⟩
 ·rw [hy]
  exact ⟨hS,hk _ (by rw [l3]; exact h1) (by rw [ja]; exact h2) (by rw [nj (Es hd hi h1),h3])⟩
 ·rw [hy]
  exact ⟨hS,hk _ (by rw [l3]; exact h1) (by rw [ja]; exact h2) (by rw [nj (Es hd hi h1),h3])⟩
def on (L:Array Bool) (i:Nat):Array Bool:=L.setIfInBounds i true
def Dd (l:LO) (L:Array Bool) (rs:LN):Bool:=Region.ready .any l.toArray L == rs
inductive Io (P:Program) (Γ:QE) (fr:Fr) (d:Nat):Oper→Oper→TypeId→List Value→Prop
 | mk {t ty We:TI} {y:OO} {u:Value} {n:Nat} {us cs ds:LV} {pos P6:String} {ag P7:Array Edge} [hz:C7 P t cs] [ht:xk P t n] (hn:look fr d=none) (hy:bd fr y=some u) (hc:tR Γ u us) (hl:us.length=n) (hs:uA us 0 cs ds) (ho:wc Γ us) :
   Io P Γ fr d ⟨some d,.alloc t,ty,pos,ag,none⟩ ⟨none,.store t (.tmp d) y,We,P6,P7,none⟩ t ds
section
variable {P:Program} {Γ:QE} {Z:Nat→Prop} {fr:Fr} {w:World} {cur F:LN}
theorem Io.alloc {d:Nat} {oa os:Oper} {t:TI} {ds:LV} (h:Io P Γ fr d oa os t ds) (r:NV) (w:World):oa.guard=none∧oa.dst=some d∧look fr d=none∧∃ cs w',(execOp (ev r) oa).run P w = .ok (.value (.pointer (some ⟨w.heap.size,0,none⟩))) w'∧aw [] w w'∧Row w' w.heap.size cs t∧
  ∀ (r':NV) (w1:World) (b:Nat) cur F,SA Z w1 Γ cur F→c9 r' fr→r' d = .pointer (some ⟨b,0,none⟩)→Row w1 b cs t→∃ w2,(execOp (ev r') os).run P w1 = .ok .skip w2∧aw [b] w1 w2∧Row w2 b ds t:=by
 cases h with
 | @mk t ty We y u n us cs ds pos P6 ag P7 hz ht hn hy hc hl hs ho=>
  obtain ⟨i',z,t1,t2,t3⟩:=hz.h
  refine ⟨rfl,rfl,hn,z.cells.toList,_,DD t1 t2,aw.alloc _ _ _,?_,?_⟩
  ·have:=heap_alloc_new w (.cells z.cells t (0,0))
   unfold Row
   simpa using this
  ·intro r' w1 b cur F hS ha hr bg
   rw [t3] at bg
   obtain ⟨ti,q1,q2⟩:=ht.h
   obtain ⟨e1,e2⟩:=hs.eq
   have ni:=wE (P:=P) (d:=none) (ty:=We) (pos:=P6) (ag:=P7) (gg:=none) q1 (by rw [hl,q2]) bg e1 (x:=.tmp d) hr (y:=y) (by rw [aV ha hy]; exact hc.eq hS) (ho.one hS)
   refine ⟨_,ni,⟨rfl,rfl,rfl,Nat.le_refl _,by simp,fun j _ hj=>setRow_other w1 b j _ fun h=>hj (by simp [h])⟩,?_⟩
   have s9:=setRow_heap w1 b cs.toArray (cs.take 0++us++cs.drop (0+us.length)).toArray t _ bg
   rw [e2]
   exact s9
theorem Io.st {d:Nat} {oa os:Oper} {t:TI} {ds:LV} (h:Io P Γ fr d oa os t ds):os.guard=none∧os.dst=none:=by
 cases h; exact ⟨rfl,rfl⟩
variable {n:Nat} {l:LO} {Q:Exit→(Nat→Value)→World→Prop} {w0:World} {F2:LN} {a1 a2 s1 s2 d1 d2:Nat} {oa1 oa2 os1 os2:Oper} {t1 t2:TI} {ds1 ds2:LV} {L:Array Bool} {r:NV}
end
section
variable {R S:Type} {P:Program} {cx:Cx R} {K:dg R S} {l:LO}
end
end Go.Dk
namespace Go.Dk
open Go Go.Li
def Wh (i:Nat) (o:Oper):Oper:=⟨o.dst,o.op,o.type,o.pos,o.after.push ⟨i,.data⟩,o.guard⟩
def vb (i:Nat):Nat→List Oper→List Oper
 | _,[]=>[]
 | 0,o :: l=>Wh i o :: l
 | j+1,o :: l=>o :: vb i j l
theorem Fy (i:Nat):∀ (j:Nat) (l:LO),(vb i j l).length=l.length
 | _,[]=>by cases ‹Nat› <;> rfl
 | 0,_ :: _=>rfl
 | j+1,o :: l=>by unfold vb; rw [List.length_cons,List.length_cons,Fy i j l]
theorem CK (i:Nat):∀ (j:Nat) (l:LO) (k:Nat),(vb i j l)[k]? = (l[k]?).map fun o=>if k=j then Wh i o else o
 | 0,[],k=>by simp [vb]
 | j+1,[],k=>by simp [vb]
 | 0,o :: l,0=>by simp [vb]
 | 0,o :: l,k+1=>by simp [vb]
 | j+1,o :: l,0=>by simp [vb]
 | j+1,o :: l,k+1=>by
  unfold vb
  rw [List.getElem?_cons_succ,List.getElem?_cons_succ,CK i j l k]
  simp
section
variable {P:Program} {l:LO} {Q:Exit→Act→World→Prop} {i j:Nat}
theorem JM (tmps:Array Value):yielded (vb i j l).toArray tmps=yielded l.toArray tmps:=by
 funext k
 simp only [yielded]
 rw [List.getElem?_toArray,List.getElem?_toArray,CK]
 cases l[k]? with
 | none=>rfl
 | some o=>
  simp only [Option.map_some,Option.bind_some]
  by_cases h:k=j
  ·rw [if_pos h]; rfl
  ·rw [if_neg h]
theorem Ip {k:Nat} {K:Act→World→Prop} {a:Act} {w:World}:wpOp P (vb i j l).toArray Q k K a w=wpOp P l.toArray Q k K a w:=by
 unfold wpOp
 rw [JM,List.getElem?_toArray,List.getElem?_toArray,CK]
 cases l[k]? with
 | none=>rfl
 | some o=>
  simp only [Option.map_some]
  by_cases h:k=j
  ·rw [if_pos h]; rfl
  ·rw [if_neg h]
theorem Gv {L:Array Bool} (hL:L.getD i false=true):Region.ready .any (vb i j l).toArray L=Region.ready .any l.toArray L:=by
 unfold Region.ready
 rw [List.size_toArray,List.size_toArray,Fy]
 refine List.filter_congr fun k _=>?_
 rw [List.getElem?_toArray,List.getElem?_toArray,CK]
 cases l[k]? with
 | none=>rfl
 | some o=>
  simp only [Option.map_some]
  by_cases h:k=j
  ·rw [if_pos h]
   simp only [Wh,Array.all_push,hL,Bool.or_true,Bool.and_true]
  ·rw [if_neg h]
theorem Gw:∀ (fuel:Nat) (L:Array Bool) (a:Act) (w:World),L.getD i false=true→wpAny P .any (vb i j l).toArray Q fuel L a w→wpAny P .any l.toArray Q fuel L a w
 | 0,L,a,w,hL,h=>by
  unfold wpAny at h ⊢
  rw [Gv hL] at h
  exact h
 | fuel+1,L,a,w,hL,h=>by
  unfold wpAny at h ⊢
  rw [Gv hL] at h
  refine ⟨h.1,fun k hk=>?_⟩
  have h2:=h.2 k hk
  rw [Ip] at h2
  exact wpOp_mono (fun a' w' h'=>Gw fuel _ a' w' (getD_set_true hL) h') h2
end
def Wi:Oper→Bool
 | ⟨some _,.move _,_,_,_,none⟩=>true
 | _=>false
def LU:List (Nat×Nat)→List Oper→Bool
 | [],_=>true
 | (i,j) :: zs,l=>!(Nat.beq i j) && Nat.blt i l.length && Wi (l.getD i default) && Region.noSelect l.toArray && Region.free .any l.toArray (Array.replicate l.length false) i && (Region.ready .any l.toArray (Array.replicate l.length false)).contains i && (Region.ready .any (vb i j l).toArray (Array.replicate l.length false)).contains i && LU zs (vb i j l)
def P8:List (Nat×Nat)→List Oper→List Oper
 | [],l=>l
 | (i,j) :: zs,l=>P8 zs (vb i j l)
section
variable {P:Program} {n:Nat} {Q:Exit→(Nat→Value)→World→Prop} {r:NV} {w w0:World}
theorem TW {o:Oper} (h:Wi o=true) (a:Act):o.guard=none∧∃ v,(∀ w,(execOp a.eval o).run P w = .ok (.value v) w)∧∀ w,¬ o.asks P a w:=by
 obtain ⟨d,op,ty,pos,ag,g⟩:=o
 cases d <;> cases op <;> cases g <;> first | (cases h; done) | skip
 refine ⟨rfl,_,fun w=>rfl,fun w ha=>?_⟩
 have h1:=ha.1
 exact absurd (show noRoomEvent∈(#[]:Array _) from h1) (by simp)
theorem nz.ab3 {i j:Nat} {l:LO} (h1:(!(Nat.beq i j) && Nat.blt i l.length && Wi (l.getD i default) && Region.noSelect l.toArray && Region.free .any l.toArray (Array.replicate l.length false) i && (Region.ready .any l.toArray (Array.replicate l.length false)).contains i && (Region.ready .any (vb i j l).toArray (Array.replicate l.length false)).contains i)=true)
  (hp:∀ c r w,¬ Q (.panic c) r w) (h:nz P n (vb i j l) Q r w):nz P n l Q r w:=by
 simp only [Bool.and_eq_true] at h1
 obtain ⟨⟨⟨⟨⟨⟨c1,c2⟩,c3⟩,c4⟩,c5⟩,c6⟩,c7⟩:=h1
 have o7:i≠j:=fun e=>by rw [e,Nat.beq_refl] at c1; cases c1
 have hi:=Fx c2
 have bj:i < l.length:=Nat.lt_of_succ_le (Nat.le_of_ble_eq_true c2)
 intro a g1 g2 g3
 have H:=h a g1 g2 g3
 obtain ⟨hg,v,hv,hn⟩:=TW (P:=P) c3 a
 rw [List.size_toArray,Fy] at H
 rw [List.size_toArray]
 obtain ⟨f,hf⟩ : ∃ f,l.length=f+1:=⟨l.length - 1,by omega⟩
 have hw:Region.wanted (l.getD i default) (yielded l.toArray a.tmps)=true:=uE hg
 refine (congrArg (fun k=>wpAny P .any l.toArray _ k _ a _) hf).mpr ?_
 refine wpAny_take (by simpa using hi) c4 (by simpa using c5) (by simpa using c6) (fun c a w h=>(hp _ _ _ h.2.2).elim) (.inl ⟨hw,hv⟩) ?_
 refine Gw (i:=i) (j:=j) f _ _ _ ?_ ?_
 ·have:i < (Array.replicate l.length false).size:=by simpa using bj
  simp [Array.getD,bj]
 ·have H2:=(congrArg (fun k=>wpAny P .any (vb i j l).toArray (fun e a' w'=>a'.tmps.size=n∧a'.defers=[]∧Q e (cu a') w') k (Array.replicate l.length false) a { w with drawn:=w.drawn+1 }) hf).mp H
  have H3:=H2.2 i (by simpa using c7)
  rw [Ip] at H3
  unfold wpOp at H3
  rw [show (l.toArray)[i]? = some (l.getD i default) by simpa using hi] at H3
  simp only [] at H3
  rw [if_pos hw] at H3
  rcases H3 with H3 | H3
  ·unfold Oper.wp at H3
   rw [hv] at H3
   exact H3
  ·exact absurd H3.1 (hn _)
theorem nz.Sm:∀ (zs:List (Nat×Nat)) {l:LO},LU zs l=true→(∀ c r w,¬ Q (.panic c) r w)→nz P n (P8 zs l) Q r w→nz P n l Q r w
 | [],_,_,_,h=>h
 | (i,j) :: zs,l,hc,hp,h=>by
  unfold LU at hc
  rw [Bool.and_eq_true] at hc
  exact nz.ab3 hc.1 hp (nz.Sm zs hc.2 hp h)
theorem NR (k:Nat) {l:LO} (hd:dk n l=true) (hp:((l.take k).all fun o=>xV o.op)=true) (hB:Region.lexTailB .any l.toArray k=true)
  (h:QL P (aw [] w) l (l.take k) r fun r'=>∀ w',aw [] w w'→WL P l (l.drop k) r' w' (Q .normal)):nz P n l Q r w:=by
 intro a h1 h2 h3
 have B5:aw [] w { w with drawn:=w.drawn+1 }:=aw.drew _ _
 have sU:wpStill P l.toArray { w with drawn:=w.drawn+1 } (fun a'=>wpList P l.toArray (fun e a' w'=>a'.tmps.size=n∧a'.defers=[]∧Q e (cu a') w') (l.drop k) a' { w with drawn:=w.drawn+1 }) (l.take k) a:=by
  refine QL.still (n:=n) (C:=aw [] w) B5 hd (l.take k) a (AT hd fun o ho=>List.mem_of_mem_take ho) hp h1 h2 (by rw [h3]; exact h) _ ?_
  intro a' g1 g2 g3
  exact WL.list hd _ _ _ (AT hd fun o ho=>List.mem_of_mem_drop ho) g1 g2 (g3 _ B5)
 unfold Region.lexTailB at hB
 simp only [Bool.and_eq_true,decide_eq_true_eq,List.size_toArray] at hB
 obtain ⟨⟨⟨⟨ab4,hn⟩,hs⟩,hc⟩,PY⟩:=hB
 have Sn:(l.take k).length=k:=by rw [List.length_take]; omega
 have ab5:HeadInv .any l.toArray k (Array.replicate l.length false):=
  ⟨by simp,fun j oj _ hl=>(by rw [getD_replicate_false] at hl; cases hl),fun t _ ht=>getD_in (by simpa using ht) (getD_replicate_false _ _)⟩
 have H:=wpAnyL_lex (md:=.any) (g:=l.length - k) ab4 hs hc (by simpa using hn) (l.take k) 0 _ a (fun j hj=>by
  rw [Sn] at hj
  rw [List.getElem?_take_of_lt hj,Nat.zero_add,List.getElem?_toArray]) (by rw [Sn,Nat.zero_add]) ab5 (by rw [Sn]; exact PY) sU
 have H2:=wpAny_of_head (Q':=fun e a' w'=>a'.tmps.size=n∧a'.defers=[]∧Q e (cu a') w') (g:=l.length - k) (fun L a' hL=>by
  have H3:=wpAny_of_seq (md:=.any) (Q':=fun e a' w'=>a'.tmps.size=n∧a'.defers=[]∧Q e (cu a') w') (l.drop k) k L a' { w with drawn:=w.drawn+1 } (fun j=>by rw [List.getElem?_drop,List.getElem?_toArray]) (by rw [List.length_drop]; exact hL.1) hL.2
  rwa [List.length_drop] at H3) _ _ _ H
 rw [Sn,show k+(l.length - k)=l.length by omega] at H2
 rw [List.size_toArray]
 exact H2
end
section
variable {R S:Type} {P:Program} {cx:Cx R} {K:dg R S}
theorem Zd {id:Nat} (zs:List (Nat×Nat)) (k:Nat) {l l' ops tl:LO} {Γ:QE} {fr:Fr} {m:Option (Out S R)} (hl:l'=P8 zs l) (hB:(P.follows .mixedOrders && LU zs l && dk cx.n l' && ((l'.take k).all fun o=>xV o.op) && Region.lexTailB .any l'.toArray k)=true) (ho:ops=l'.take k) (ht:tl=l'.drop k)
  (h:D P cx (.o true l' ops (.h l' tl K) Γ fr m)):Bx (ru P cx (.dr id l K Γ fr m)):=by
 simp only [Bool.and_eq_true] at hB
 obtain ⟨⟨⟨⟨h1,h2⟩,h3⟩,h4⟩,h5⟩:=hB
 subst ho ht hl
 rw [qz]
 intro B o ho r w ha hs
 exact nz.W h1 (nz.Sm zs h2 (fun c r w h=>wG c h) (NR k h3 h4 h5 (h.sound B o ho r w ha hs)))
end
end Go.Dk
namespace Go.Dk
open Go Go.Li
section
variable {B:Bs} {P:Program} {Z Z':Nat→Prop} {w:World} {Fd F1:LN}
end
section
variable {P:Program} {S:World→Prop}
theorem Dh.mono {K K':(Nat→Value)→Prop} (hk:∀ r,K r→K' r):∀ {ops:LO} {r:NV},Dh P S ops r K→Dh P S ops r K'
 | [],_,h=>hk _ h
 | _ :: _,_,⟨hg,v,h1,h2⟩=>⟨hg,v,h1,Dh.mono hk h2⟩
end
inductive QX {R S:Type} (P:Program) (cx:Cx R) (K:dg R S) (tc:LO) (rs:List (Nat×List Value×TypeId)) (pe:QE):List aX→List aX→List Oper→Fr→Option (Out S R)→Prop
 | pe {e:aX} {Δ Γ:QE} {ops:LO} {fr:Fr} {m:Option (Out S R)} (h:QX P cx K tc rs pe Δ (e :: Γ) ops fr m):QX P cx K tc rs pe (e :: Δ) Γ ops fr m
 | nil {Γ:QE} {fr:Fr} {m:Option (Out S R)} {uw:List (Nat×List Value×TypeId)} (h:SQ P Γ fr tc rs uw) (k:D P cx (.p [] pe fr Γ fun fr Γ=>.p [] (Et uw) fr Γ fun fr Γ=>.n K Γ fr m)):QX P cx K tc rs pe [] Γ [] fr m
 | M0 {d n:Nat} {t ty:TI} {x:OO} {a:Addr} {ds:LV} {pos:String} {ag:Array Edge} {ops:LO} {Γ:QE} {fr:Fr} {m:Option (Out S R)} [ht:LK P t (some n)] (hx:bd fr x=some (.pointer (some a))) (hw:we Γ a n ds) (h:QX P cx K tc rs pe [] Γ ops ((d,.agg ds.toArray) :: fr) m) :
   QX P cx K tc rs pe [] Γ (⟨some d,.load t x,ty,pos,ag,none⟩ :: ops) fr m
 | Hp {α V:Type} {d n:Nat} {x y:OO} {v:Value} {k:IntKind} {j:Int} {t ty:TI} {S':ah α} {cl:α→V→List Value} {en:α→V→List aX} {xs:List α} {pos:String} {ag:Array Edge} {ops:LO} {Γ Γx:QE} {fr:Fr} {f:α→Option (Out S R)} [ht:Gf P t n] (hx:bd fr x=some v) (hy:bd fr y=some (.int k j))
   (hr:na Γ v false false (tI S') xs qp Γx) (hs:Gg S' V cl en) (hn:S'.size=n) (h:∀ z u,QX P cx K tc rs pe (.bb (cw v n j) (cl z u) :: en z u) Γ ops ((d,.pointer (some (cw v n j))) :: fr) (f z)) :
   QX P cx K tc rs pe [] Γ (⟨some d,.indexAddr t x y,ty,pos,ag,none⟩ :: ops) fr (idx xs j>>=f)
 | lc {d:Nat} {t ty:TI} {x:OO} {a:Addr} {u:Value} {pos:String} {ag:Array Edge} {ops:LO} {Γ:QE} {fr:Fr} {m:Option (Out S R)} [ht:LK P t none] (hx:bd fr x=some (.pointer (some a))) (hw:vq Γ a u) (h:QX P cx K tc rs pe [] Γ ops ((d,u) :: fr) m) :
   QX P cx K tc rs pe [] Γ (⟨some d,.load t x,ty,pos,ag,none⟩ :: ops) fr m
 | val {d:Nat} {op:Op} {ty:TI} {u:Value} {pos:String} {ag:Array Edge} {ops:LO} {Γ:QE} {fr:Fr} {m:Option (Out S R)} (hv:VQ P Γ fr op u) (h:QX P cx K tc rs pe [] Γ ops ((d,u) :: fr) m):QX P cx K tc rs pe [] Γ (⟨some d,op,ty,pos,ag,none⟩ :: ops) fr m
section
variable {R S:Type} {P:Program} {cx:Cx R} {K:dg R S} {tc:LO} {rs:List (Nat×List Value×TypeId)} {pe:QE} {Z:Nat→Prop}
theorem QX.sound {w0:World} {H:LN} (hz:∀ b∈H,¬ Z b) {Δ Γ:QE} {ops:LO} {fr:Fr} {m:Option (Out S R)} (h:QX P cx K tc rs pe Δ Γ ops fr m):∀ {o:Out S R} {F:LN},m=some o→(∀ b∈H,b ∉ F)→SA Z w0 (Δ.reverse++Γ) [] F→∀ r,c9 r fr→
  Dh P (aw H w0) ops r fun r'=>∃ Γ' p7 uw m' F',F'.Perm F∧m'=some o∧c9 r' p7∧SA Z w0 Γ' [] F'∧SQ P Γ' p7 tc rs uw∧D P cx (.p [] pe p7 Γ' fun fr Γ=>.p [] (Et uw) fr Γ fun fr Γ=>.n K Γ fr m'):=by
 induction h with
 | @pe e Δ Γ ops fr m _ ih=>
  intro o F hm hF hS r ha
  refine ih hm hF ?_ r ha
  rw [List.reverse_cons,List.append_assoc] at hS
  exact hS
 | @nil Γ fr m uw h k=>exact fun hm hF hS r ha=>⟨Γ,fr,uw,m,_,.refl _,hm,ha,hS,h,k⟩
 | @val d op ty u pos ag ops Γ fr m hv _ ih=>
  intro o F hm hF hS r ha
  refine ⟨rfl,u,fun w hC=>?_,ih hm hF hS _ (ay ha)⟩
  exact hv.sound ((SA.fg hC hz (fun _ _=>List.not_mem_nil) hF hS)) ha (some d) ty pos ag none w (aw.refl _ _)
 | @M0 d n t ty x a ds pos ag ops Γ fr m ht hx hw _ ih=>
  intro o F hm hF hS r ha
  refine ⟨rfl,_,fun w hC=>?_,ih hm hF hS _ (ay ha)⟩
  obtain ⟨h1,h2⟩:=hw.sound (SA.fg hC hz (fun _ _=>List.not_mem_nil) hF hS)
  exact Lg ht.h h1 (aV ha hx) h2 w (aw.refl _ _)
 | @lc d t ty x a u pos ag ops Γ fr m ht hx hw _ ih=>
  intro o F hm hF hS r ha
  refine ⟨rfl,u,fun w hC=>?_,ih hm hF hS _ (ay ha)⟩
  exact Ld ht.h (hw.sound (SA.fg hC hz (fun _ _=>List.not_mem_nil) hF hS)) (aV ha hx) w (aw.refl _ _)
 | @Hp α V d n x y v k j t ty S' cl en xs pos ag ops Γ Γx fr f ht hx hy hr sy hn _ ih=>
  intro o F hm hF hS r ha
  replace sy:SO S' V cl en:=by cases sy; assumption
  obtain ⟨z,NS,hm⟩:=bind_some hm
  replace NS:=sd NS
  obtain ⟨e,i,h1,h2,h3⟩:=ht.h
  obtain ⟨dn,_,⟨⟨f0,C9,uY⟩,_⟩,_⟩:=hr.sound hS
  have hZ:∀ b∈f0,Z b:=fun b hb=>(uY b hb).elim id id
  obtain ⟨⟨a,c,hv⟩,bj,cs,f1,dq,Na,j4⟩:=uh C9 j NS.1 NS.2
  have p5:(tI S').size=n:=hn
  rw [p5] at j4
  obtain ⟨u,rfl,rh⟩:=sy.op dq.2
  have hblk:Z (cw v n j).block:=by
   obtain ⟨base,cap,n7,fi⟩:=C9
   rcases fi with ⟨rfl,_⟩ | ⟨b,off,cr,e',fz,f',rfl,_,rfl,_⟩
   ·simp at bj; omega
   ·obtain rfl:v = .slice (some ⟨b,off,none⟩) xs.length cap:=by simpa using n7
    have:(cw (.slice (some ⟨b,off,none⟩) xs.length cap) n j).block=b:=by unfold cw; rw [wQ]
    rw [this]; exact hZ b (by simp)
  have Hv:fact Z w0 [] (.bb (cw v n j) (cl z u)):=⟨fun i u' hi=>j4 i u' hi,fun _=>hblk⟩
  have fq:HL Z w0 (.bb (cw v n j) (cl z u) :: en z u) []:=.fact Hv (wj (rh Z fun b hb=>hZ b (Na b hb)))
  obtain ⟨F',hp,ji⟩:=fq.build hS
  have hpF:F'.Perm F:=by simpa using hp
  refine ⟨rfl,.pointer (some (cw v n j)),fun w hC=>?_,?_⟩
  ·rw [nb h1 h2 ((aV ha hx).trans hv) (aV ha hy) NS.1 (by omega),h3,hv]
   rfl
  ·have hq:=ih z u (F:=F') hm (fun b hb h=>hF b hb (hpF.mem_iff.1 h)) ji _ (ay ha)
   refine Dh.mono ?_ hq
   rintro r' ⟨Γ',p7,uw,m',F3,q0,q1,q2,q3,q4,q5⟩
   exact ⟨Γ',p7,uw,m',F3,q0.trans hpF,q1,q2,q3,q4,q5⟩
end
theorem FO.hl {Z:Nat→Prop} {w:World} {Δ:QE} (h:FO Δ):∀ {F:LN},HL Z w Δ F→F=[]:=by
 induction h with
 | nil=>intro F h; cases h; rfl
 | rd _ ih=>intro F h; cases h with | own h k=>exact h.elim | fact h k=>exact ih k
 | bb _ ih=>intro F h; cases h with | own h k=>exact h.elim | fact h k=>exact ih k
section
variable {P:Program} {n:Nat} {l:LO} {Q:Exit→(Nat→Value)→World→Prop} {S:World→Prop}
end
section
variable {R S:Type} {P:Program} {cx:Cx R} {K:dg R S} {l:LO}
end
section
variable {R:Type} {P:Program} {cx:Cx R}
end
end Go.Dk
namespace Go.Li
open Go
section
variable {P:Program} {n:Nat} {Q:Exit→(Nat→Value)→World→Prop} {r:NV} {w:World} {R:Type}
end
end Go.Li
namespace Go.Dk
open Go Go.Li
section
variable {R:Type} {P:Program} {cx:Cx R} {S:Type}
section
variable {S1 V:Type} {k j:Nat} {Δ:S1→V→List aX} {φ:S1→V→Fr} {Γ2 Γ Γ1 Γ3:QE} {f2 fr:Fr} {s:S1} {v:V} (hv:vu V v) (ha:tK fr (φ s v)) (hf:tK fr f2) (h0:EO Γ (Δ s v) Γ1) (hw:OW Γ (Δ s v)) (h1:EO Γ1 Γ2 Γ3) (h2:MF Γ none Γ2)
include hv ha hf h0 hw h1 h2
end
end
abbrev rI:Value→List Int→aX:=.rd false (bY (aM .i64))
abbrev rJ:Value→List (List Int)→aX:=.rd false (bY (bY (aM .i64)))
class FE (p:Prop):Prop where
 u:True
instance {o:Bool} {a b:QE}:FE (ER o a b):=⟨trivial⟩
instance {a:QE} {b:LV}:FE (wc a b):=⟨trivial⟩
instance {a b c:QE}:FE (EF a b c):=⟨trivial⟩
instance {a b c:QE}:FE (EO a b c):=⟨trivial⟩
instance {a b:QE}:FE (EP a b):=⟨trivial⟩
instance {a c d:LV} {b:Nat}:FE (uA a b c d):=⟨trivial⟩
instance {a b:Nat} {c d:LV}:FE (vv a b c d):=⟨trivial⟩
instance {a:LN} {b:Option (Bool×Nat×Value)} {c d:Fr}:FE (Kp a b c d):=⟨trivial⟩
instance {V:Type} {v:V}:FE (vu V v):=⟨trivial⟩
instance {a:QE} {b:Addr} {c:Nat} {d:LV}:FE (we a b c d):=⟨trivial⟩
theorem fe {p:Prop} [FE p] (h:p):p:=h
end Go.Dk
namespace Go.Dk
open Go Go.Li
def yd (j:Nat) (b:Bool) (o:Oper):Oper:=
 match o.guard with
 | none=>o
 | some (j',p)=>bif Nat.beq j' j && (p == b) then ⟨o.dst,o.op,o.type,o.pos,o.after,none⟩ else o
def ov (j:Nat) (b:Bool) (l:LO):List Oper:=l.map (yd j b)
def Iq (l:LO) (j:Nat):Bool:=(List.range l.length).all fun i=>match (l.getD i default).guard with | none=>true | some (j',_)=>Nat.beq j' j && ((bx l).getD i []).contains j
section
variable {j:Nat} {b:Bool} {l:LO}
theorem P9 (o:Oper):(yd j b o).dst=o.dst:=by
 unfold yd
 split
 ·rfl
 ·cases Nat.beq _ j && (_ == b) <;> rfl
theorem LW (o:Oper):(yd j b o).after=o.after:=by
 unfold yd
 split
 ·rfl
 ·cases Nat.beq _ j && (_ == b) <;> rfl
theorem Qa {P:Program} {o:Oper} {r:NV} {w:World} {K:Value→World→Prop}:fv P (yd j b o) r w K=fv P o r w K:=by
 obtain ⟨d,op,ty,pos,ag,g⟩:=o
 unfold yd
 split
 ·rfl
 ·cases Nat.beq _ j && (_ == b) <;> rfl
theorem KC (i:Nat):(ov j b l)[i]? = (l[i]?).map (yd j b):=by unfold ov; rw [List.getElem?_map]
theorem uk:(ov j b l).length=l.length:=by unfold ov; rw [List.length_map]
theorem xH (i:Nat):bn (ov j b l) i=bn l i:=by
 unfold bn
 rw [KC]
 cases l[i]? with
 | none=>rfl
 | some o=>exact P9 o
theorem uO:bx (ov j b l)=bx l:=by
 unfold bx ov
 rw [List.foldl_map]
 congr 1
 funext acc o
 unfold ml
 rw [LW]
theorem Wj (r:NV):yl (ov j b l) r=yl l r:=by
 funext i
 have h:=xH (j:=j) (b:=b) (l:=l) i
 unfold bn at h
 unfold yl
 rw [h]
theorem Ir {S:List gw} {k:Nat} {g:Nat→List Nat} {r:NV} {w:World}:vC (ov j b l) S k g r w=vC l S k g r w:=by unfold vC; rw [xH]
theorem Fz {S:List gw} {k:Nat} {r:NV}:Old (ov j b l) S k r=Old l S k r:=by unfold Old; rw [xH]
theorem Gx {U:LL} {m i k:Nat}:ta (ov j b l) U m i k=ta l U m i k:=by unfold ta; rw [uO]
theorem NT {U:LL} {m i:Nat}:wF (ov j b l) U m i=wF l U m i:=by unfold wF; rw [uO,uk]
theorem Qb {U:LL} {m:Nat}:l8 (ov j b l) U m=l8 l U m:=by
 unfold l8
 rw [uk]
 refine List.map_congr_left fun i _=>?_
 congr 1
 funext k
 exact Gx
theorem iq.pas {P:Program} {m:Nat} {S:List gw} {U:LL} {r0:NV} {w0:World} {H:LN} {i d:Nat} (h:iq P (ov j b l) m S U r0 w0 H i) (hg:Iq l j=true) (hd:bn l j=some d)
  (hk:j∈(bx l).getD i []→∀ r,(∀ k∈(bx l).getD i [],Old l S k r)→r d = .bool b):iq P l m S U r0 w0 H i:=by
 intro o s ho hs g r w hC hV gy hn ir r4 hf
 unfold iq at h
 simp only [uO,uk,NT,Gx,Ir,Fz,xH,Wj] at h
 have h2:=h (yd j b o) s (by rw [KC,ho]; rfl) hs g r w hC hV gy hn ir r4 hf
 rw [Qa] at h2
 have hgo:match o.guard with | none=>True | some (j',_)=>j'=j∧j∈(bx l).getD i []:=by
  unfold Iq at hg
  rw [List.all_eq_true] at hg
  have hi:=(List.getElem?_eq_some_iff.1 ho).1
  have:=hg i (List.mem_range.2 hi)
  rw [List.getD_eq_getElem?_getD,ho] at this
  simp only [Option.getD_some] at this
  revert this
  cases o.guard with
  | none=>exact fun _=>trivial
  | some q=>
   intro this
   simp only [Bool.and_eq_true] at this
   exact ⟨Nat.eq_of_beq_eq_true this.1,by simpa using this.2⟩
 have hw:Region.wanted o (yl l r)=Region.wanted (yd j b o) (yl l r):=by
  obtain ⟨d',op,ty,pos,ag,gd⟩:=o
  cases gd with
  | none=>rfl
  | some q=>
   obtain ⟨j',p⟩:=q
   obtain ⟨rfl,BC⟩ : j'=j∧j∈(bx l).getD i []:=hgo
   unfold yd
   dsimp only
   rw [Nat.beq_refl,Bool.true_and]
   cases hp:p == b with
   | false=>rfl
   | true=>
    obtain rfl:p=b:=eq_of_beq hp
    unfold Region.wanted
    dsimp only [cond_true]
    rw [G6 hd,hk BC r gy]
    simp
 rw [hw]
 exact h2
end
section
variable {R S:Type} {P:Program} {cx:Cx R} {K:dg R S} {l:LO} {base fr:Fr} {w:World} {Z:Nat→Prop}
def mark (j d:Nat) (b:Bool):List Nat:=[j+1000000,d+1000000,(bif b then 1 else 0)+1000000]
theorem Qc {U:LL} {sl:LQ} {ms:MM} {j d:Nat} {b:Bool} (h:zA (U++[mark j d b]) sl ms=true):(j,d,.bool b)∈sl:=by
 unfold zA at h
 rw [Bool.and_eq_true] at h
 have h2:=h.2
 unfold gdB at h2
 have e:(U++[mark j d b]).getLastD []=mark j d b:=by simp [List.getLastD_eq_getLast?]
 rw [e] at h2
 have e2:Nat.ble 1000000 ((mark j d b).headD 0)=true:=Nat.ble_eq_true_of_le (by show 1000000≤j+1000000; omega)
 rw [e2,cond_true] at h2
 unfold R9 mark at h2
 dsimp only at h2
 rw [Nat.add_sub_cancel,Nat.add_sub_cancel] at h2
 have:=Gm h2
 have e3:Nat.beq ((bif b then 1 else 0)+1000000) 1000001=b:=by cases b <;> rfl
 rwa [e3] at this
theorem Qd {id j d:Nat} {b:Bool} {U:LL} {H4:QE} (hU:((List.range l.length).all fun i=>((U++[mark j d b]).getD i []).all fun u=>Nat.beq u l.length || ((bx l).getD i []).contains u)=true) (hh:j9 (ov j b l) l.length base=true) (hd:dk cx.n l=true) (hA:xe l l.length []=true) (hZ:Dc l l.length []=true) (hg:Iq l j=true) (r4:bn l j=some d) {i:Nat} {sl:LQ} {ms:MM} {Γ:QE} {m:Option (Out S R)} (H5:AB ms=true) (rh:zA (U++[mark j d b]) sl ms=true)
  (h:∀ x:l6 ms,D P cx (.p (zy sl (mF ms x)) (BP ms x) base Γ fun fr Γ=>.tg false (Aw []) (ov j b l) [] K Γ fr m)):HY P cx K (ov j b l) l l.length (U++[mark j d b]) H4 id base (.a [] [] i sl ms Γ m):=by
 rintro ⟨_,h2,h3⟩ B o ho r0 w0 H Z ha hs ⟨S',hl,hR,hO⟩
 have hi:S'.length=l.length:=by
  have:=congrArg List.length h2
  simp [uk] at this
  omega
 have VE:=hs
 obtain ⟨F,Hd,⟨u4,u5,se,u6⟩,hS,hG⟩:=hs
 have hm:=Qc rh
 have hO2:∀ k,k < l.length→iq P l l.length S' (U++[mark j d b]) r0 w0 H k:=fun k hk=>by
  refine iq.pas (hO k (by omega)) hg r4 fun BC r hr=>?_
  refine hR.vD (S2:=[]) hm fun q hq _=>?_
  rw [List.append_nil,Fz]
  rw [uO] at hq
  refine hr q (hq.elim (fun e=>e ▸ BC) fun e=>?_)
  have:=hR.t k q j
  rw [uO] at this
  exact this e BC
 refine ND (N:=Z) (S:=S') (U:=U++[mark j d b]) (H:=H) hd hA hZ (fun c r w h=>wG c h) (Nat.le_refl _) hi se hU (fun b hb=>⟨hG.py b hb,fun h=>hG.apart b (List.mem_append_left _ h) hb⟩) (fun i s hs=>?_) hO2 ?_
 ·have:=hR.s i s hs
  unfold Nf at this
  rw [uO] at this
  simp only [xH] at this
  exact this
 intro g r w hI
 rw [List.drop_length]
 refine H0 (tail:=[]) hh H5 rh h ho ha VE hi hR g r w ?_
 obtain ⟨i1,i2,i3,i4,i5,i6,i7,i8,i9⟩:=hI
 exact ⟨i1,fun hk=>by rw [uk] at hk ⊢; exact i2 hk,by rw [uk]; exact i3,by rw [uk]; exact i4,fun k hk hn=>by rw [Ir]; exact i5 k hk hn,fun k hk=>by rw [Fz]; exact i6 k hk,fun t ht=>i7 t fun k hk=>by rw [← xH (j:=j) (b:=b)]; exact ht k hk,by rw [uk]; exact i8,i9⟩
theorem Sp {id j d:Nat} {b:Bool} (U as:LL) {Γ:QE} {m:Option (Out S R)}
  (hB:(dk cx.n l && xe l l.length [] && Dc l l.length [] && Iq l j && (l8 l (U++[mark j d b]) l.length == as) && ((List.range l.length).all fun i=>((U++[mark j d b]).getD i []).all fun u=>Nat.beq u l.length || ((bx l).getD i []).contains u))=true)
  (r4:bn l j=some d) (hf:Kp (xQ l) none fr base) (hh:j9 (ov j b l) l.length base=true)
  (h:AD false P cx K (ov j b l) [] base (U++[mark j d b]) [] (.a as (ov j b l) 0 [] [] Γ m)):∀ B o,m=some o→∀ r w,c9 r fr→St B Γ w→nz P cx.n l (mx P cx B K o) r w:=by
 simp only [Bool.and_eq_true] at hB
 obtain ⟨⟨⟨⟨⟨b2,b3⟩,b4⟩,b5⟩,b6⟩,b7⟩:=hB
 intro B o hm r w ha hs
 obtain ⟨Z,F,hS,hG⟩:=hs
 have hX:o9 B Z [] Γ [] w:=⟨F,[],⟨rfl,fun b hb=>absurd hb List.not_mem_nil,fun b hb=>absurd hb List.not_mem_nil,List.nodup_nil⟩,hS,hG⟩
 refine AD.sound (id:=id) (mt:=l.length) hh (fun _ _ _ _ _ _ hs he h=>Qd b7 hh b2 b3 b4 b5 r4 hs he h) h
  ⟨by rw [List.drop_zero,Qb]; exact (eq_of_beq b6).symm,by rw [List.drop_zero,← uk (j:=j) (b:=b),List.take_length],Nat.zero_le _⟩ B o hm r w [] Z (hf.sound ha) hX ⟨[],rfl,⟨fun _ h=>absurd h List.not_mem_nil,fun _ h=>absurd h List.not_mem_nil,fun i s h=>by simp at h,List.nodup_nil,fun _ _ _ h1 h2=>by rw [uO] at h1 h2 ⊢; exact AO l (Gs b3) h1 h2⟩,fun j hj=>absurd hj (Nat.not_lt_zero j)⟩
theorem ab6 {id:Nat} (j d:Nat) (U as:LL) {Γ:QE} {m1 m2:Option (Out S R)}
  (hB:(P.follows .mixedOrders && dk cx.n l && xe l l.length [] && Dc l l.length [] && Iq l j && (l8 l (U++[mark j d true]) l.length == as) && (l8 l (U++[mark j d false]) l.length == as) && ((List.range l.length).all fun i=>((U++[mark j d true]).getD i []).all fun u=>Nat.beq u l.length || ((bx l).getD i []).contains u) && ((List.range l.length).all fun i=>((U++[mark j d false]).getD i []).all fun u=>Nat.beq u l.length || ((bx l).getD i []).contains u))=true)
  (r4:bn l j=some d) (hf:Kp (xQ l) none fr base) (Wl:j9 (ov j true l) l.length base=true) (BN:j9 (ov j false l) l.length base=true)
  (h1:AD false P cx K (ov j true l) [] base (U++[mark j d true]) [] (.a as (ov j true l) 0 [] [] Γ m1)) (h2:AD false P cx K (ov j false l) [] base (U++[mark j d false]) [] (.a as (ov j false l) 0 [] [] Γ m2)):Bx (ru P cx (.dr id l K Γ fr (orE m1 m2))):=by
 simp only [Bool.and_eq_true] at hB
 obtain ⟨⟨⟨⟨⟨⟨⟨⟨b0,b2⟩,b3⟩,b4⟩,b5⟩,b6⟩,b6'⟩,b7⟩,b7'⟩:=hB
 rw [qz]
 intro B o ho r w ha hs
 refine nz.W b0 ?_
 cases hm:m1 with
 | some o'=>
  have e:o'=o:=by rw [hm] at ho; exact Option.some.inj ho
  exact Sp (id:=id) U as (by simp only [Bool.and_eq_true]; exact ⟨⟨⟨⟨⟨b2,b3⟩,b4⟩,b5⟩,b6⟩,b7⟩) r4 hf Wl h1 B o (by rw [hm,e]) r w ha hs
 | none=>exact Sp (id:=id) U as (by simp only [Bool.and_eq_true]; exact ⟨⟨⟨⟨⟨b2,b3⟩,b4⟩,b5⟩,b6'⟩,b7'⟩) r4 hf BN h2 B o (by rw [hm] at ho; exact ho) r w ha hs
end
end Go.Dk
namespace Go.Dk
open Go Go.Li
theorem TX {P:Program} {g:FuncId} {vs:LV} {Δ:QE} {β:Type} {m:Option β} {ow:Bool} {rt:β→Unit→List Value} (hc:Ct P g ow m vs Δ rt (fun _ _=>[])) {w:World} (hl:HL (fun b=>b < w.heap.size) w Δ []) {y:β} (hy:m=some y) :
  Calls P g vs.toArray w fun e w'=>e = .returned (pj (rt y ()))∧aw [] w w':=by
 rw [s7] at hc
 refine (hc.2 w _ [] hl List.nodup_nil (fun _ h=>absurd h List.not_mem_nil) (fun _ h=>h) y hy).mono ?_
 rintro e w' ⟨_,he,Z,F,_,hg⟩
 exact ⟨he,hg.lp⟩
theorem TY {w:World} {α:Type} {T:ah α} {v:Value} {x:α} {f:LN} (h:T.rep w.heap [v] x f):fact (fun b=>b < w.heap.size) w [] (.rd false T v x):=⟨f,h,fun b hb=>T.lt h b hb⟩
end Go.Dk
