/- A region that draws its order: its head in any order, whatever it holds, its tail quiet and behind all of the head. No condition. -/
import Derived.Test.YtcnehblmgfbfoaaGreatDg
import Derived.Deep.Quiet
import Derived.Laws.Slices
import Derived.OrdersHeld
import Derived.Scope
namespace Go.Li
open Go
section
variable {P:Program} {n:Nat} {Q:Exit→(Nat→Value)→World→Prop} {r0:NV} {w0:World} {l:LO} {S:List ep}
def wR (l:LO) (m:Nat):Bool:=
 ((List.range l.length).all fun i=>((l.getD i default).after.toList.filter (Region.binds .any)).all fun e=>Nat.blt e.on i) &&
 ((List.range l.length).all fun i=>Nat.blt i m || (List.range m).all fun j=>((bp l).getD i []).contains j) &&
 x5 ((l.take m).filterMap (·.dst)) && Region.noSelect l.toArray && Region.lexFrom .any l.toArray (l.length - m) m (List.replicate m true++List.replicate (l.length - m) false).toArray
theorem Hr {m:Nat} (h:wR l m=true):∀ (i:Nat) (o:Oper),l[i]? = some o→∀ e∈o.after.toList.filter (Region.binds .any),e.on < i:=by
 simp only [wR,Bool.and_eq_true,List.all_eq_true,List.mem_range] at h
 intro i o ho e he
 have hi:i < l.length:=(List.getElem?_eq_some_iff.1 ho).1
 have:=h.1.1.1.1 i hi e (by rw [List.getD_eq_getElem?_getD,ho]; exact he)
 exact Nat.lt_of_succ_le (Nat.le_of_ble_eq_true this)
theorem OH {m:Nat} {U:LL} {H:LN} {N:Nat→Prop} (hd:cu n l=true) (hA:wR l m=true) (Dq:m≤l.length)
  (hS:S.length=m)
  (hH:∀ b∈H,b < w0.heap.size) (hU:((List.range m).all fun i=>(U.getD i []).all fun u=>Nat.beq u l.length || ((bp l).getD i []).contains u)=true)
  (hN:∀ b,N b→b < w0.heap.size∧b ∉ H)
  (nw:∀ (i:Nat) (s:ep),S[i]? = some s→∀ f F (w w':World) (r r':NV) v,aq F w w'→(∀ b∈f,b ∉ F)→(∀ b∈F,¬ N b)→(∀ j∈(bp l).getD i [],∀ t,bh l j=some t→r' t=r t)→s.V f w r v→s.V f w' r' v)
  (K9:∀ i,i < m→fy P l m S U r0 w0 H i)
  (next:∀ g r w,uk l m S U r0 w0 H (fun j=>j < m) g r w→QL P (aq [] w) l (l.drop m) r fun r'=>∀ w',aq [] w w'→Q .normal r' w') :
  nv P n l Q r0 w0:=by
 simp only [wR,Bool.and_eq_true,List.all_eq_true,List.mem_range,Bool.or_eq_true] at hA
 obtain ⟨⟨⟨⟨QC,QD⟩,QF⟩,NG⟩,WQ⟩:=hA
 have tL:∀ (i:Nat) (o:Oper),l[i]? = some o→∀ e∈o.after.toList.filter (Region.binds .any),e.on < i:=by
  intro i o ho e he
  have hi:i < l.length:=(List.getElem?_eq_some_iff.1 ho).1
  have:=QC i hi e (by rw [List.getD_eq_getElem?_getD,ho]; exact he)
  exact Nat.lt_of_succ_le (Nat.le_of_ble_eq_true this)
 have Hs:∀ i,m≤i→i < l.length→∀ j,j < m→j∈(bp l).getD i []:=by
  intro i h1 h2 j hj
  rcases QD i h2 with h | h
  ·exact absurd (Nat.lt_of_succ_le (Nat.le_of_ble_eq_true h)) (Nat.not_lt.2 h1)
  ·have:=h j hj
   simpa using this
 have QG:∀ i,i < m→∀ u∈U.getD i [],u=l.length∨u∈(bp l).getD i []:=by
  intro i hi u hu
  simp only [List.all_eq_true,List.mem_range] at hU
  have:=hU i hi u hu
  simpa using this
 have ey:=BR _ (vy QF)
 have ni:=x6 l tL
 intro a h1 h2 h3
 let Cl (L:Array Bool):Prop:=L.size=l.length∧∀ j o,l[j]? = some o→L.getD j false=true→∀ e∈o.after.toList.filter (Region.binds .any),L.getD e.on false=true
 have gn:∀ L,Cl L→∀ i j,(∀ o,l[i]? = some o→∀ e∈o.after.toList.filter (Region.binds .any),L.getD e.on false=true)→j∈(bp l).getD i []→L.getD j false=true:=by
  intro L hL i
  induction i using Nat.strongRecOn with
  | _ i ih=>
   intro j hi hj
   obtain ⟨_,o,ho,e,he,Dy⟩:=ni i j hj
   have hl:=hi o ho e he
   rcases Dy with rfl | Dy
   ·exact hl
   ·exact ih e.on (tL i o ho e he) j (fun o' db e' rW=>hL.2 _ _ db hl e' rW) Dy
 have Gt:∀ L i,i∈Region.ready .any l.toArray L→L.getD i true=false∧∃ o,l[i]? = some o∧∀ e∈o.after.toList.filter (Region.binds .any),L.getD e.on false=true:=by
  intro L i hi
  obtain ⟨g1,o,ho,jr⟩:=mem_ready.1 hi
  refine ⟨g1,o,by simpa using ho,fun e he=>?_⟩
  have:=List.mem_filter.1 he
  exact jr e (by simpa using this.1) this.2
 have zZ:∀ L i o,L.size=l.length→l[i]? = some o→L.getD i false=false→(∀ e∈o.after.toList.filter (Region.binds .any),L.getD e.on false=true)→i∈Region.ready .any l.toArray L:=by
  intro L i o hs ho hu jr
  refine mem_ready.2 ⟨?_,o,by simpa using ho,fun e he hb=>jr e (List.mem_filter.2 ⟨by simpa using he,hb⟩)⟩
  have hi:i < L.size:=by rw [hs]; exact (List.getElem?_eq_some_iff.1 ho).1
  simp [hi] at hu ⊢; exact hu
 have CC:∀ L i o,Cl L→l[i]? = some o→(∀ e∈o.after.toList.filter (Region.binds .any),L.getD e.on false=true)→Cl (L.setIfInBounds i true):=by
  intro L i o hL ho jr
  refine ⟨by rw [Array.size_setIfInBounds]; exact hL.1,fun j o' db hj e he=>?_⟩
  by_cases si:i=j
  ·subst si
   have:o'=o:=Option.some.inj (db.symm.trans ho)
   subst this
   exact getD_set_true (jr e he)
  ·rw [getD_set_ne false si] at hj
   exact getD_set_true (hL.2 j o' db hj e he)
 have getSet:∀ (L:Array Bool) i j,L.size=l.length→i < l.length→((L.setIfInBounds i true).getD j false=true↔j=i∨L.getD j false=true):=by
  intro L i j hs hi
  by_cases si:i=j
  ·subst si
   simp [hs,hi]
  ·rw [getD_set_ne false si]
   constructor
   ·exact .inr
   ·rintro (h | h)
    ·exact absurd h.symm si
    ·exact h
 have Dz:∀ (L:Array Bool) i,L.size=l.length→i < l.length→L.getD i false=false→(L.setIfInBounds i true).toList.count false+1=L.toList.count false:=by
  intro L i hs hi hu
  have qE:i < L.toList.length:=by simpa [hs] using hi
  have zb:L.toList[i]=false:=by
   rw [Array.getElem_toList]
   simp [hs,hi] at hu
   exact hu
  rw [Array.toList_setIfInBounds,List.count_set qE,zb]
  have:0 < L.toList.count false:=List.count_pos_iff.2 (by rw [← zb]; exact List.getElem_mem qE)
  rw [if_pos (by rfl),if_neg (by decide)]
  omega
 have ie:cu n (l.drop m)=true:=by
  simp only [cu,List.all_eq_true] at hd ⊢
  exact fun o ho=>hd o (List.mem_of_mem_drop ho)
 have tail:∀ (fuel:Nat) (L:Array Bool) (a:Act) (w:World),Cl L→(∀ j,L.getD j false=true↔j < m)→L.toList.count false=fuel→a.tmps.size=n→a.defers=[]→
   (QL P (aq [] w) l (l.drop m) (ca a) fun r'=>∀ w',aq [] w w'→Q .normal r' w')→wpAny P .any l.toArray (fun e a' w'=>a'.tmps.size=n∧a'.defers=[]∧Q e (ca a') w') fuel L a w:=by
  intro fuel L a w hL fc hf g1 g2 hq
  have VJ:L=(List.replicate m true++List.replicate (l.length - m) false).toArray:=by
   apply Array.ext
   ·simp [hL.1]; omega
   ·intro i hi hj
    have h1:=fc i
    simp only [Array.getD_eq_getD_getElem?,Array.getElem?_eq_getElem hi,Option.getD_some] at h1
    have e:(List.replicate m true++List.replicate (l.length - m) false).toArray[i]'hj=decide (i < m):=by
     simp only [List.getElem_toArray,List.getElem_append,List.getElem_replicate,List.length_replicate]
     split
     ·rename_i h; simp [h]
     ·rename_i h; simp [h]
    rw [e]
    cases hb:L[i] with
    | false=>exact (decide_eq_false fun h=>by have:=h1.2 h; rw [hb] at this; cases this).symm
    | true=>exact (decide_eq_true (h1.1 hb)).symm
  have QH:fuel=l.length - m:=by
   rw [← hf,VJ]
   simp [List.count_append,List.count_replicate]
  have q1:=QL.wpQuiet (n:=n) (l:=l) (l.drop m) a hd ie g1 g2 hq
  have q2:=wpAnyQ_lex (md:=.any) NG (l.drop m) m L a (fun j=>by simp [List.getElem?_drop]) (by rw [VJ,List.length_drop]; exact WQ) q1
  refine wpAny_of_quiet (C:=aq [] w) (Q:=fun a'=>a'.tmps.size=n∧a'.defers=[]∧∀ w',aq [] w w'→Q .normal (ca a') w') (fun a' w' QI hh=>⟨hh.1,hh.2.1,hh.2.2 w' QI⟩) _ _ _ _ (aq.refl _ _) ?_
  rw [QH,← List.length_drop]
  exact q2
 have head:∀ (fuel:Nat) (L:Array Bool) (a:Act) (w:World) (g:Nat→List Nat),Cl L→(∀ j,L.getD j false=true→j < m)→L.toList.count false=fuel→a.tmps.size=n→a.defers=[]→
   uk l m S U r0 w0 H (fun j=>L.getD j false=true) g (ca a) w→wpAny P .any l.toArray (fun e a' w'=>a'.tmps.size=n∧a'.defers=[]∧Q e (ca a') w') fuel L a w:=by
  intro fuel
  induction fuel with
  | zero=>
   intro L a w g hL rX hf g1 g2 inv
   have jr:∀ j,j < l.length→L.getD j false=true:=by
    intro j hj
    cases hb:L.getD j false with
    | true=>rfl
    | false=>have:=Dz L j hL.1 hj hb; omega
   have fc:∀ j,L.getD j false=true↔j < m:=fun j=>⟨rX j,fun h=>jr j (by omega)⟩
   refine tail 0 L a w hL fc hf g1 g2 (next g _ _ ?_)
   exact ⟨inv.jf,fun hk=>inv.x7 fun k uq=>hk k ((fc k).1 uq),inv.vg,fun j hj=>inv.vd j ((fc j).2 hj),fun j hj hk=>inv.done j ((fc j).2 hj) (fun k uq=>hk k ((fc k).1 uq)),fun j hj=>inv.qI j ((fc j).2 hj),inv.other,fun j hj b hb=>⟨(inv.fresh j ((fc j).2 hj) b hb).1.imp (fun h=>h) fun h=>⟨h.1,h.2.imp fun k hk=>⟨(fc k).1 hk.1,hk.2⟩⟩,(inv.fresh j ((fc j).2 hj) b hb).2⟩,fun i j hi hj=>inv.tF i j ((fc i).2 hi) ((fc j).2 hj)⟩
  | succ fuel ih=>
   intro L a w g hL rX hf g1 g2 inv
   by_cases jr:∀ j,j < m→L.getD j false=true
   ·have fc:∀ j,L.getD j false=true↔j < m:=fun j=>⟨rX j,jr j⟩
    refine tail _ L a w hL fc hf g1 g2 (next g _ _ ?_)
    exact ⟨inv.jf,fun hk=>inv.x7 fun k uq=>hk k ((fc k).1 uq),inv.vg,fun j hj=>inv.vd j ((fc j).2 hj),fun j hj hk=>inv.done j ((fc j).2 hj) (fun k uq=>hk k ((fc k).1 uq)),fun j hj=>inv.qI j ((fc j).2 hj),inv.other,fun j hj b hb=>⟨(inv.fresh j ((fc j).2 hj) b hb).1.imp (fun h=>h) fun h=>⟨h.1,h.2.imp fun k hk=>⟨(fc k).1 hk.1,hk.2⟩⟩,(inv.fresh j ((fc j).2 hj) b hb).2⟩,fun i j hi hj=>inv.tF i j ((fc i).2 hi) ((fc j).2 hj)⟩
   ·obtain ⟨j0,NH,IY⟩ : ∃ j,j < m∧L.getD j false=false:=by
     apply Classical.byContradiction
     intro qL
     apply jr
     intro j hj
     cases hb:L.getD j false with
     | true=>rfl
     | false=>exact absurd ⟨j,hj,hb⟩ qL
    have Ht:∃ i,i∈Region.ready .any l.toArray L:=by
     have:∀ k,(∃ j,j < k∧j < m∧L.getD j false=false)→∃ i,i∈Region.ready .any l.toArray L:=by
      intro k
      induction k with
      | zero=>rintro ⟨j,h,_⟩; omega
      | succ k zP=>
       rintro ⟨j,IZ,x8,qb⟩
       by_cases ur:∃ j,j < k∧j < m∧L.getD j false=false
       ·exact zP ur
       ·obtain rfl:j=k:=by
         apply Classical.byContradiction
         intro h
         exact ur ⟨j,by omega,x8,qb⟩
        have I0:j < l.length:=by omega
        refine ⟨j,zZ L j l[j] hL.1 (List.getElem?_eq_getElem I0) qb fun e he=>?_⟩
        have bo:=tL j _ (List.getElem?_eq_getElem I0) e he
        cases hb:L.getD e.on false with
        | true=>rfl
        | false=>exact absurd ⟨e.on,bo,by omega,hb⟩ ur
     exact this (j0+1) ⟨j0,by omega,NH,IY⟩
    have main:∀ i oi,i < m→l[i]? = some oi→L.getD i false=false→(∀ e∈oi.after.toList.filter (Region.binds .any),L.getD e.on false=true)→
      (Region.wanted oi (yl l (ca a))=true∧eg P oi (ca a) w fun v w'=>wpAny P .any l.toArray (fun e a' w'=>a'.tmps.size=n∧a'.defers=[]∧Q e (ca a') w') fuel (L.setIfInBounds i true) (a.put oi.dst v) w')∨
      (Region.wanted oi (yl l (ca a))=false∧wpAny P .any l.toArray (fun e a' w'=>a'.tmps.size=n∧a'.defers=[]∧Q e (ca a') w') fuel (L.setIfInBounds i true) (a.put oi.dst undef) w):=by
     intro i oi rY mi rZ r3
     have dw:i < l.length:=(List.getElem?_eq_some_iff.1 mi).1
     have j8:∀ o,l[i]? = some o→∀ e∈o.after.toList.filter (Region.binds .any),L.getD e.on false=true:=fun o' db=>by
      have:o'=oi:=Option.some.inj (db.symm.trans mi)
      subst this; exact r3
     obtain ⟨s,hs⟩ : ∃ s,S[i]? = some s:=⟨S[i]'(by omega),List.getElem?_eq_getElem (by omega)⟩
     have hc:=Dz L i hL.1 dw rZ
     have BS:=CC L i oi hL mi r3
     have QJ:∀ j,(L.setIfInBounds i true).getD j false=true→j < m:=by
      intro j hj
      rcases (getSet L i j hL.1 dw).1 hj with rfl | hj
      ·exact rY
      ·exact rX j hj
     have z6:∀ k,L.getD k false=true→k≠i∧i ∉ (bp l).getD k []:=by
      intro k hk
      refine ⟨fun h=>(by rw [h,rZ] at hk; cases hk),fun xZ=>?_⟩
      have:=gn L hL k i (fun o' db e' rW=>hL.2 k o' db hk e' rW) xZ
      rw [rZ] at this; cases this
     have ow:=K9 i rY oi s mi hs g (ca a) w inv.jf (fun hV=>by
       have qL:∀ k,L.getD k false=true→l.length ∉ U.getD k []:=fun k hk DA=>by
        simp only [u4,List.all_eq_true,List.mem_range,Bool.or_eq_true,Bool.not_eq_true',List.contains_eq_mem,decide_eq_false_iff_not,decide_eq_true_eq] at hV
        rcases hV k (rX k hk) with (h | h) | h
        ·exact h DA
        ·exact (z6 k hk).1 (Nat.eq_of_beq_eq_true h)
        ·exact (z6 k hk).2 h
       have h0:=inv.x7 qL
       exact ⟨h0.1,h0.2,fun j hj b hb=>(inv.fresh j (gn L hL i j j8 hj) b hb).1.elim (fun h=>h) fun h=>absurd h.2.choose_spec.2 (qL _ h.2.choose_spec.1)⟩) (fun j hj=>inv.qI j (gn L hL i j j8 hj)) (fun j hj=>by
       simp only [ov,Bool.and_eq_true,List.all_eq_true,List.mem_range,Bool.or_eq_true,Bool.not_eq_true',List.contains_eq_mem,decide_eq_false_iff_not,decide_eq_true_eq] at hj
       refine inv.done j (gn L hL i j j8 hj.1) fun k hk IZ=>?_
       rcases hj.2 k (rX k hk) with (h | h) | h
       ·exact h IZ
       ·exact (z6 k hk).1 (Nat.eq_of_beq_eq_true h)
       ·exact (z6 k hk).2 h) inv.other
      (fun i' qE j' fk=>inv.tF i' j' (gn L hL i i' j8 qE) (gn L hL i j' j8 fk))
      (fun j hj b hb=>⟨(inv.fresh j (gn L hL i j j8 hj) b hb).1.imp (fun h=>h) (·.1),(inv.fresh j (gn L hL i j j8 hj) b hb).2⟩)
     have hblk:∀ b∈qQ g (U.getD i []),(∃ u,u∈U.getD i []∧L.getD u false=true∧b∈g u)∨(l.length∈U.getD i []∧b∈g l.length):=by
      intro b hb
      obtain ⟨u,hu,ed⟩:=List.mem_flatMap.1 hb
      rcases QG i rY u hu with rfl | h
      ·exact .inr ⟨hu,ed⟩
      ·exact .inl ⟨u,hu,gn L hL i u j8 h,ed⟩
     have BT:∀ k',oi.dst=some k'→k' < a.tmps.size:=by
      intro k' DB
      have xZ:oi∈l:=List.mem_of_getElem? mi
      simp only [cu,List.all_eq_true] at hd
      have:=hd oi xZ
      rw [DB] at this
      rw [g1]
      exact Nat.lt_of_succ_le (Nat.le_of_ble_eq_true this)
     have vQ:bh l i=oi.dst:=by unfold bh; rw [mi]; rfl
     have qa:∀ v t,(oi.dst≠some t)→ca (a.put oi.dst v) t=ca a t:=by
      intro v t ht
      rw [jg BT]
      cases uv:oi.dst with
      | none=>rfl
      | some d=>
       show (bif Nat.beq t d then v else ca a t)=ca a t
       cases hb:Nat.beq t d with
       | false=>rfl
       | true=>exact absurd (by rw [uv,Nat.eq_of_beq_eq_true hb]) ht
     have DC:∀ v d,oi.dst=some d→ca (a.put oi.dst v) d=v:=by
      intro v d uv
      rw [jg BT,uv]
      show (bif Nat.beq d d then v else ca a d)=v
      rw [Nat.beq_refl]; rfl
     have step:∀ v w' f,aq (qQ g (U.getD i [])) w w'→(∀ b∈f,(b∈qQ g (U.getD i [])∨w.heap.size≤b)∧b < w'.heap.size)→(if s.b then s.V f w' (ca a) v else v=undef)→
       wpAny P .any l.toArray (fun e a' w'=>a'.tmps.size=n∧a'.defers=[]∧Q e (ca a') w') fuel (L.setIfInBounds i true) (a.put oi.dst v) w':=by
      intro v w' f hC vP hV
      have qy:∀ j',j' < m→j'≠i→∀ t,bh l j'=some t→ca (a.put oi.dst v) t=ca a t:=by
       intro j' fk mh t ht
       refine qa v t fun h=>mh (ey j' i t ?_ ?_)
       ·rw [iq fk]; exact ht
       ·rw [iq rY,vQ]; exact h
      have I1:∀ b∈qQ g (U.getD i []),¬ N b:=fun b hb hn=>by
       rcases hblk b hb with ⟨u,_,l5,ed⟩ | ⟨_,ed⟩
       ·rcases (inv.fresh u l5 b ed).1 with h | h
        ·have:=(hN b hn).1; omega
        ·exact (hN b hn).2 h.1
       ·exact (hN b hn).2 (inv.vg b ed)
      refine ih _ _ _ (fun j=>if j=i then f else if j∈U.getD i [] then [] else g j) BS QJ (by omega) (by rw [gy]; exact g1) (by rw [fg]; exact g2)
       ⟨inv.jf.then hC fun b hb=>(by
        rcases hblk b hb with ⟨u,_,l5,ed⟩ | ⟨_,ed⟩
        ·exact (inv.fresh u l5 b ed).1.elim .inr fun h=>.inl h.1
        ·exact .inl (inv.vg b ed)),fun qL=>?_,?_,fun j hj=>?_,?_,fun j hj d mx sj pj=>?_,?_,?_,?_⟩
      ·have vM:l.length ∉ U.getD i []:=qL i ((getSet L i i hL.1 dw).2 (.inl rfl))
       have h0:=inv.x7 fun k hk=>qL k ((getSet L i k hL.1 dw).2 (.inr hk))
       refine ⟨h0.1.then hC fun b hb=>?_,?_⟩
       ·rcases hblk b hb with ⟨u,_,l5,ed⟩ | ⟨h,_⟩
        ·exact (inv.fresh u l5 b ed).1.elim .inr fun ⟨_,k,hk,DA⟩=>absurd DA (qL k ((getSet L i k hL.1 dw).2 (.inr hk)))
        ·exact absurd h vM
       ·show (if l.length=i then f else if l.length∈U.getD i [] then [] else g l.length)=H
        rw [if_neg (by omega),if_neg vM]
        exact h0.2
      ·intro b hb
       have cg:b∈(if l.length=i then f else if l.length∈U.getD i [] then [] else g l.length):=hb
       rw [if_neg (by omega)] at cg
       split at cg
       ·cases cg
       ·exact inv.vg b cg
      ·intro b hb hv
       have n7:b∈(if l.length=i then f else if l.length∈U.getD i [] then [] else g l.length):=hv
       rw [if_neg (by omega)] at n7
       split at n7
       ·cases n7
       ·rename_i QK
        have cg:b∈(if j=i then f else if j∈U.getD i [] then [] else g j):=hb
        split at cg
        ·rcases (vP b cg).1 with h | h
         ·rcases hblk b h with ⟨u,_,l5,ed⟩ | ⟨h,_⟩
          ·exact inv.vd u l5 b ed n7
          ·exact QK h
         ·have h1:=hH b (inv.vg b n7)
          have h2:=inv.jf.size
          omega
        ·rename_i iy
         split at cg
         ·cases cg
         ·exact inv.vd j (((getSet L i j hL.1 dw).1 hj).resolve_left iy) b cg n7
      ·intro j hj tG
       refine ⟨fun d mx=>?_,fun QM sj pj I2=>?_⟩
       rotate_left
       ·by_cases iy:j=i
        ·subst iy
         rw [hs] at pj
         cases pj
         rw [if_pos I2] at hV
         refine ⟨v,?_⟩
         simp only [if_pos]
         exact nw j s hs _ [] w' w' (ca a) _ v (aq.refl _ _) (fun _ _ h=>nomatch h) (fun _ h=>nomatch h) (fun j' fk t ht=>qy j' (by have:=(ni j j' fk).1; omega) (by have:=(ni j j' fk).1; omega) t ht) hV
        ·have jy:=((getSet L i j hL.1 dw).1 hj).resolve_left iy
         have qb:j ∉ U.getD i []:=tG i ((getSet L i i hL.1 dw).2 (.inl rfl))
         obtain ⟨x,hx⟩:=(inv.done j jy (fun k hk=>tG k ((getSet L i k hL.1 dw).2 (.inr hk)))).2 QM sj pj I2
         have jm:(fun j=>if j=i then f else if j∈U.getD i [] then [] else g j) j=g j:=by
          show (if j=i then f else if j∈U.getD i [] then [] else g j)=g j
          rw [if_neg iy,if_neg qb]
         rw [jm]
         refine ⟨x,nw j sj pj _ _ _ _ (ca a) _ _ hC (fun b cg DD=>?_) I1 (fun j' fk t ht=>qy j' (by have:=(ni j j' fk).1; have:=rX j jy; omega) (fun h=>?_) t ht) hx⟩
         ·rcases hblk b DD with ⟨u,x9,l5,ed⟩ | ⟨_,ed⟩
          ·exact inv.tF j u jy l5 (fun h=>qb (h ▸ x9)) b cg ed
          ·exact inv.vd j jy b cg ed
         ·subst h
          have:=gn L hL j j' (fun o' db e' rW=>hL.2 j o' db jy e' rW) fk
          rw [rZ] at this; cases this
       by_cases iy:j=i
       ·subst iy
        rw [hs]
        simp only [if_pos]
        rw [vQ] at mx
        rw [DC v d mx]
        split
        ·rename_i hb
         rw [if_pos hb] at hV
         exact nw j s hs _ [] w' w' (ca a) _ v (aq.refl _ _) (fun _ _ h=>nomatch h) (fun _ h=>nomatch h) (fun j' fk t ht=>qy j' (by have:=(ni j j' fk).1; omega) (by have:=(ni j j' fk).1; omega) t ht) hV
        ·rename_i hb
         rw [if_neg hb] at hV
         exact hV
       ·have jy:=((getSet L i j hL.1 dw).1 hj).resolve_left iy
        have x8:=rX j jy
        have qb:j ∉ U.getD i []:=tG i ((getSet L i i hL.1 dw).2 (.inl rfl))
        have uv:oi.dst≠some d:=by
         intro h
         apply iy
         refine ey j i d ?_ ?_
         ·rw [iq x8]; exact mx
         ·rw [iq rY,vQ]; exact h
        have:=(inv.done j jy (fun k hk=>tG k ((getSet L i k hL.1 dw).2 (.inr hk)))).1 d mx
        rw [qa v d uv]
        have jm:(fun j=>if j=i then f else if j∈U.getD i [] then [] else g j) j=g j:=by
         show (if j=i then f else if j∈U.getD i [] then [] else g j)=g j
         rw [if_neg iy,if_neg qb]
        rw [jm]
        cases pj:S[j]? with
        | none=>trivial
        | some sj=>
         rw [pj] at this
         simp only [] at this ⊢
         split
         ·rename_i hb
          rw [if_pos hb] at this
          refine nw j sj pj _ _ _ _ (ca a) _ _ hC (fun b cg DD=>?_) I1 (fun j' fk t ht=>qy j' (by have:=(ni j j' fk).1; omega) (fun h=>?_) t ht) this
          rotate_left
          ·subst h
           have:=gn L hL j j' (fun o' db e' rW=>hL.2 j o' db jy e' rW) fk
           rw [rZ] at this; cases this
          rcases hblk b DD with ⟨u,x9,l5,ed⟩ | ⟨_,ed⟩
          ·exact inv.tF j u jy l5 (fun h=>qb (h ▸ x9)) b cg ed
          ·exact inv.vd j jy b cg ed
         ·rename_i hb
          rw [if_neg hb] at this
          exact this
      ·by_cases iy:j=i
       ·subst iy
        rw [hs] at pj
        cases pj
        rw [vQ] at mx
        rw [DC v d mx]
        split
        ·rename_i hb
         rw [if_pos hb] at hV
         exact ⟨f,w',nw j s hs _ [] w' w' (ca a) _ v (aq.refl _ _) (fun _ _ h=>nomatch h) (fun _ h=>nomatch h) (fun j' fk t ht=>qy j' (by have:=(ni j j' fk).1; omega) (by have:=(ni j j' fk).1; omega) t ht) hV⟩
        ·rename_i hb
         rw [if_neg hb] at hV
         exact hV
       ·have jy:=((getSet L i j hL.1 dw).1 hj).resolve_left iy
        have x8:=rX j jy
        have uv:oi.dst≠some d:=by
         intro h
         apply iy
         refine ey j i d ?_ ?_
         ·rw [iq x8]; exact mx
         ·rw [iq rY,vQ]; exact h
        have:=inv.qI j jy d mx sj pj
        rw [qa v d uv]
        split
        ·rename_i hb
         rw [if_pos hb] at this
         obtain ⟨f1,w1,h1⟩:=this
         refine ⟨f1,w1,nw j sj pj _ [] w1 w1 (ca a) _ _ (aq.refl _ _) (fun _ _ h=>nomatch h) (fun _ h=>nomatch h) (fun j' fk t ht=>qy j' (by have:=(ni j j' fk).1; omega) (fun h=>?_) t ht) h1⟩
         subst h
         have:=gn L hL j j' (fun o' db e' rW=>hL.2 j o' db jy e' rW) fk
         rw [rZ] at this; cases this
        ·rename_i hb
         rw [if_neg hb] at this
         exact this
      ·intro t ht
       rw [qa v t (fun h=>ht i rY (by rw [vQ]; exact h))]
       exact inv.other t ht
      ·intro j hj b hb
       by_cases iy:j=i
       ·simp only [if_pos iy] at hb
        have hh:=vP b hb
        have p7:=inv.jf.size
        rcases hh.1 with h | h
        ·rcases hblk b h with ⟨u,_,l5,ed⟩ | ⟨hv,ed⟩
         ·exact ⟨(inv.fresh u l5 b ed).1.imp (fun h=>h) fun h=>⟨h.1,h.2.imp fun k hk=>⟨(getSet L i k hL.1 dw).2 (.inr hk.1),hk.2⟩⟩,hh.2⟩
         ·exact ⟨.inr ⟨inv.vg b ed,i,(getSet L i i hL.1 dw).2 (.inl rfl),hv⟩,hh.2⟩
        ·exact ⟨.inl (by omega),hh.2⟩
       ·have jy:=((getSet L i j hL.1 dw).1 hj).resolve_left iy
        simp only [if_neg iy] at hb
        split at hb
        ·cases hb
        ·have h1:=inv.fresh j jy b hb
         have h2:=hC.size
         exact ⟨h1.1.imp (fun h=>h) fun h=>⟨h.1,h.2.imp fun k hk=>⟨(getSet L i k hL.1 dw).2 (.inr hk.1),hk.2⟩⟩,by omega⟩
      ·have uj:∀ j',(L.setIfInBounds i true).getD j' false=true→j'≠i→∀ b∈f,b ∉ (if j'∈U.getD i [] then [] else g j'):=by
        intro j' fk e2 b hb cg
        have DE:=((getSet L i j' hL.1 dw).1 fk).resolve_left e2
        split at cg
        ·cases cg
        ·rename_i qb
         rcases (vP b hb).1 with h | h
         ·rcases hblk b h with ⟨u,x9,l5,ed⟩ | ⟨_,ed⟩
          ·exact inv.tF u j' l5 DE (fun h=>qb (h ▸ x9)) b ed cg
          ·exact inv.vd j' DE b cg ed
         ·have:=inv.fresh j' DE b cg
          omega
       intro i' j' qE fk mh b hb cg
       by_cases e1:i'=i
       ·have e2:j'≠i:=fun h=>mh (e1.trans h.symm)
        simp only [if_pos e1] at hb
        simp only [if_neg e2] at cg
        exact uj j' fk e2 b hb cg
       ·simp only [if_neg e1] at hb
        by_cases e2:j'=i
        ·simp only [if_pos e2] at cg
         exact uj i' qE e1 b cg hb
        ·simp only [if_neg e2] at cg
         split at hb
         ·cases hb
         ·split at cg
          ·cases cg
          ·exact inv.tF i' j' (((getSet L i i' hL.1 dw).1 qE).resolve_left e1) (((getSet L i j' hL.1 dw).1 fk).resolve_left e2) mh b hb cg
     cases hb:s.b with
     | true=>
      rw [if_pos hb] at ow
      refine .inl ⟨ow.1,qj ow.2 ?_⟩
      rintro v w' ⟨hC,f,vP,hV⟩
      exact step v w' f hC vP (by rw [if_pos hb]; exact hV)
     | false=>
      rw [if_neg (by rw [hb]; exact Bool.false_ne_true)] at ow
      exact .inr ⟨ow,step undef w [] (aq.refl _ _) (fun b h=>nomatch h) (by rw [if_neg (by rw [hb]; exact Bool.false_ne_true)])⟩
    refine ⟨fun h=>(by obtain ⟨i,hi⟩:=Ht; rw [h] at hi; cases hi),fun i hi=>?_⟩
    obtain ⟨q1,oi,mi,r3⟩:=Gt L i hi
    have dw:i < l.length:=(List.getElem?_eq_some_iff.1 mi).1
    have rZ:L.getD i false=false:=getD_both q1
    have rY:i < m:=by
     rcases Nat.lt_or_ge i m with h | h
     ·exact h
     ·have hj:=Hs i h dw j0 NH
      have:=gn L hL i j0 (fun o' db=>by have:o'=oi:=Option.some.inj (db.symm.trans mi); subst this; exact r3) hj
      rw [IY] at this; cases this
    unfold wpOp
    rw [show (l.toArray)[i]? = some oi by simpa using mi]
    simp only []
    rw [wS (by rw [g1]; exact hd)]
    rcases main i oi rY mi rZ r3 with ⟨hw,h⟩ | ⟨hw,h⟩
    ·rw [if_pos hw]
     exact .inl (h.wp fun v w' hv=>hv)
    ·rw [if_neg (by rw [hw]; exact Bool.false_ne_true)]
     exact h
 refine head _ _ a _ (fun j=>if j=l.length then H else []) ⟨by simp,?_⟩ ?_ ?_ h1 h2 ⟨aq.nil (aq.drew _ _),fun _=>⟨aq.drew _ _,by simp⟩,fun b hb=>by simpa using hb,?_,?_,?_,?_,?_,?_⟩
 ·intro j o ho hj
  rw [getD_replicate_false] at hj; cases hj
 ·intro j hj
  rw [getD_replicate_false] at hj; cases hj
 ·simp
 ·intro j hj
  rw [getD_replicate_false] at hj; cases hj
 ·intro j hj
  rw [getD_replicate_false] at hj; cases hj
 ·intro j hj
  rw [getD_replicate_false] at hj; cases hj
 ·intro t _
  rw [h3]
 ·intro j hj
  rw [getD_replicate_false] at hj; cases hj
 ·intro i j hi
  rw [getD_replicate_false] at hi; cases hi
end
end Go.Li
namespace Go.Dk
open Go Go.Li
section
variable {R S:Type} {P:Program} {cx:Cx R} {K:cq R S} {l tail:LO} {base fr:Fr} {w:World} {Z:Nat→Prop}
theorem Lb {mt id:Nat} {U:LL} {Dn:QE} (hU:((List.range mt).all fun i=>(U.getD i []).all fun u=>Nat.beq u l.length || ((bp l).getD i []).contains u)=true) (hh:j4 l mt base=true) (hd:cu cx.n l=true) (hA:wR l mt=true) (Dq:mt≤l.length) (ht:tail=l.drop mt) {i:Nat} {sl:LQ} {ms:MM} {Γ:QE} {m:Option (Out S R)} (Dp:wN ms=true) (ru:vw U sl ms=true)
  (h:∀ x:nu ms,D P cx (.p (vv sl (mF ms x)) (xV ms x) base Γ fun fr Γ=>.tg true (wG tail) l tail K Γ fr m)):Dj P cx K l l mt U Dn id base (.a [] [] i sl ms Γ m):=by
 rintro ⟨_,h2,h3⟩ B o ho r0 w0 H Z ha hs ⟨S',hl,hR,hO⟩
 have hi:i=mt:=by
  have:=congrArg List.length h2
  simp at this
  omega
 subst hl
 obtain ⟨F,Hd,⟨xu,xw,rU,xx⟩,hS,hG⟩:=hs
 refine OH (N:=Z) (S:=S') (U:=U) (H:=H) hd hA Dq hi rU hU (fun b hb=>⟨hG.qT b hb,fun h=>hG.apart b (List.mem_append_left _ h) hb⟩) (fun i s hs=>hR.s i s hs) (fun j hj=>hO j (by omega)) ?_
 intro g r w hI
 have Hn:∀ k j,j∈U.getD k []→∀ a∈ms,a.j≠j:=by
  intro k j hj
  unfold vw at ru
  rw [Bool.and_eq_true] at ru
  rw [List.getD_eq_getElem?_getD] at hj
  cases hk:U[k]? with
  | none=>rw [hk] at hj; exact absurd hj List.not_mem_nil
  | some us=>
   rw [hk] at hj
   have h1:=List.all_eq_true.1 (List.all_eq_true.1 ru.1 us (List.mem_of_getElem? hk)) j hj
   intro a ha he
   have:=List.all_eq_true.1 h1 a ha
   rw [he,Nat.beq_refl] at this
   cases this
 have hD:∀ j,j < mt→(∀ k,j ∉ U.getD k [])→rT l S' j g r w:=fun j hj hn=>hI.done j hj fun k _=>hn k
 have bo:∀ a∈ms,a.j < mt:=fun a ha=>hi ▸ hR.lt ha
 obtain ⟨x,hx,ui,Qj⟩:=Nr (g:=g) (r:=r) (w:=w) Dp hR.d (fun a ha b hb u5=>hI.tF _ _ (bo a ha) (bo b hb) u5) fun a ha=>by
  have:=hR.Da (S2:=[]) ha (by rw [List.append_nil]; exact hD a.j (bo a ha) (fun k hk=>Hn k _ hk a ha rfl))
  exact this
 have zV:=List.nodup_append.1 hG.nd
 have qa:∀ b∈wP g ms,w0.heap.size≤b∨b∈H:=fun b hb=>by
  obtain ⟨a,h1,h2⟩:=zt hb
  exact (hI.fresh a.j (bo a h1) b h2).1.imp (fun h=>h) (·.1)
 have j5:=qJ.stay hS hG hI.jf
 obtain ⟨Vo,Vr,Qk,Ql,ui⟩:=ui
 obtain ⟨F',hp,n5⟩:=ui.build (j5.mono (fun _ h=>.inl h) fun _ h=>h)
 have Qm:Gd B Z (wP g ms++F) w:=by
  refine ⟨xY Qj zV.2.1 fun b hb hF=>(qa b hb).elim (fun h=>Nat.lt_irrefl _ (Nat.lt_of_lt_of_le (hS.lt b hF) h)) (fun h=>zV.2.2 b h b hF rfl),?_,fun b hb=>Nat.lt_of_lt_of_le (hG.qT b hb) hI.jf.size,?_,hG.uU,hG.vq,hG.jf.then hI.jf fun b hb=>hG.low b (List.mem_append_left _ hb)⟩
  ·intro b hb hz
   rcases List.mem_append.1 hb with hb | hb
   ·exact (qa b hb).elim (fun h=>Nat.lt_irrefl _ (Nat.lt_of_lt_of_le (hG.qT b hz) h)) (fun h=>hG.apart b (List.mem_append_left _ h) hz)
   ·exact hG.apart b (List.mem_append_right _ hb) hz
  ·intro b hb
   rcases List.mem_append.1 hb with hb | hb
   ·exact (qa b hb).elim (fun h=>.inr (Nat.le_trans hG.jf.size h)) (fun h=>hG.low b (List.mem_append_left _ h))
   ·exact hG.low b (List.mem_append_right _ hb)
 have K1:cn r ((vv sl (mF ms x)).reverse++base):=by
  refine nt (Dl (fun p hp=>?_) hx) (km hh ha hI.other)
  exact hR.xW (S2:=[]) hp fun j _ hj=>(by rw [List.append_nil]; exact hI.qI j (hi ▸ hj))
 have:=(h x).sound B o ho r w K1 ⟨_,F',n5,((Qm.perm (Gm Qk)).freeze Ql).perm hp⟩
 rw [ht] at this
 exact this
theorem TY {id:Nat} (hd:QE) (mt:Nat) (U as:LL) {ops:LO} {Γ Γ1:QE} {fr:Fr} {m:Option (Out S R)}
  (hB:(P.follows .mixedOrders && cu cx.n l && wR l mt && Nat.ble mt l.length && (iu l U mt == as) && ((List.range mt).all fun i=>(U.getD i []).all fun u=>Nat.beq u l.length || ((bp l).getD i []).contains u))=true)
  (ho:ops=l.take mt) (ht:tail=l.drop mt) (hf:Kp (vu ops) none fr base) (hh:j4 l mt base=true) (he:EO Γ hd Γ1) (IW:OW Γ hd)
  (h:AD true P cx K l tail base U hd (.a as ops 0 [] [] Γ1 m)):Bx (lz P cx (.dr id l K Γ fr m)):=by
 simp only [Bool.and_eq_true] at hB
 obtain ⟨⟨⟨⟨⟨b1,b2⟩,b3⟩,b5⟩,b6⟩,b7⟩:=hB
 rw [ma]
 intro B o hm r w ha hs
 obtain ⟨Z,F,hS,hG⟩:=hs
 obtain ⟨Fd,F',h1,h2,h3⟩:=he.sound hS
 have Dr:SA Z w hd [] Fd:=by
  have:=(HO.hl IW hS h1).front (Γ:=[]) (F:=[]) rfl
  simpa using this
 have hX:qJ B Z hd Γ1 Fd w:=⟨F',Fd,⟨Dr,fun b hb=>⟨hb,Dr.lt b hb⟩,Dr.lt,(List.nodup_append.1 (hG.perm h3).nd).1⟩,h2,hG.perm h3⟩
 refine nv.W b1 ?_
 refine AD.sound (id:=id) hh (fun _ _ _ _ _ _ hs he h=>Lb b7 hh b2 b3 (Nat.le_of_ble_eq_true b5) ht hs he h) h
  ⟨by rw [List.drop_zero]; exact (eq_of_beq b6).symm,by rw [List.drop_zero]; exact ho,Nat.zero_le _⟩ B o hm r w Fd Z (hf.sound ha) hX ⟨[],rfl,⟨fun _ h=>absurd h List.not_mem_nil,fun _ h=>absurd h List.not_mem_nil,fun i s h=>by simp at h,List.nodup_nil,fun _ _ _ h1 h2=>wQ l (Hr b3) h1 h2⟩,fun j hj=>absurd hj (Nat.not_lt_zero j)⟩
theorem Lc {id:Nat} (mt:Nat) (U as:LL) {ops:LO} {Γ:QE} {fr:Fr} {m:Option (Out S R)}
  (hB:(P.follows .mixedOrders && cu cx.n l && wR l mt && Nat.ble mt l.length && (iu l U mt == as) && ((List.range mt).all fun i=>(U.getD i []).all fun u=>Nat.beq u l.length || ((bp l).getD i []).contains u))=true)
  (ho:ops=l.take mt) (ht:tail=l.drop mt) (hf:Kp (vu ops) none fr base) (hh:j4 l mt base=true)
  (h:AD true P cx K l tail base U [] (.a as ops 0 [] [] Γ m)):Bx (lz P cx (.dr id l K Γ fr m)):=TY [] mt U as hB ho ht hf hh .nil .nil h
end
end Go.Dk
namespace Go.Dk
open Go Go.Li
def xR:Value→Option Nat
 | .slice (some a) _ _=>some a.block
 | _=>none
def NF {α:Type} (E:ah α):Prop:=∀ {h:Array Obj} {cs:LV} {x:α} {f:LN},E.rep h cs x f→f=[]
theorem NF.i {k:IntKind}:NF (aK k):=uZ
theorem NF.l {α:Type} {E:ah α} (hE:NF E) {h:Array Obj}:∀ {xs:List α} {cs:LV} {f:LN},dp E h cs xs f→f=[]:=by
 intro xs
 induction xs with
 | nil=>rintro cs f ⟨_,rfl⟩; rfl
 | cons x xs ih=>
  rintro cs f ⟨c,iw,f1,f2,rfl,rfl,h1,h2⟩
  rw [hE h1,ih h2]; rfl
structure Good {α:Type} (A:Value→α→Prop) (f:LN):Prop where
 sub:∀ u y b,A u y→xR u=some b→b∈f
 one:∀ u y u' y' b,A u y→A u' y'→xR u=some b→xR u'=some b→y=y'
inductive xy {α:Type}:{β:Type}→ah β→((Value→List α→Prop)→ah β)→Prop
 | row {e:TI} {E:ah α}:xy (aL e E) (fun A=>xP A (aL e E))
 | step {β:Type} {e:TI} {T:ah β} {T':(Value→List α→Prop)→ah β} (h:xy T T'):xy (aL e T) (fun A=>bB (T' A))
section
variable {α β:Type} {T:ah β} {T':(Value→List α→Prop)→ah β} {A A':Value→List α→Prop} {f:LN} {hp:Array Obj}
theorem xy.size (h:xy T T'):(T' A).size=T.size:=by
 cases h <;> rfl
theorem xy.mono (h:xy T T') (hA:∀ u y,A u y→A' u y):Le (T' A) (T' A'):=by
 induction h with
 | row=>exact ⟨rfl,fun h=>⟨h.1.imp fun v g=>⟨g.1,hA _ _ g.2⟩,h.2⟩⟩
 | step _ ih=>exact ih.FU
theorem xy.TZ {e:TI} (ho:∀ {cs:LV} {x:β} {f:LN},T.rep hp cs x f→f.Nodup→∃ A,Good A f∧(T' A).rep hp cs x f) (hm:∀ {A A':Value→List α→Prop},(∀ u y,A u y→A' u y)→Le (T' A) (T' A')) :
  ∀ {xs:List β} {cs:LV} {f:LN},dp T hp cs xs f→f.Nodup→∃ A,Good A f∧dp (T' A) hp cs xs f:=by
 have _:=e
 intro xs
 induction xs with
 | nil=>rintro cs f ⟨rfl,rfl⟩ _; exact ⟨fun _ _=>False,⟨fun _ _ _ h=>h.elim,fun _ _ _ _ _ h=>h.elim⟩,rfl,rfl⟩
 | cons x xs ih=>
  rintro cs f ⟨c,iw,f1,f2,rfl,rfl,h1,h2⟩ hn
  obtain ⟨n1,n2,n3⟩:=List.nodup_append.1 hn
  obtain ⟨A1,g1,r1⟩:=ho h1 n1
  obtain ⟨A2,g2,r2⟩:=ih h2 n2
  refine ⟨fun u y=>A1 u y∨A2 u y,⟨fun u y b h hb=>?_,fun u y u' y' b h h' hb cg=>?_⟩,c,iw,f1,f2,rfl,rfl,(hm fun _ _=>.inl).le r1,vJ (hm fun _ _=>.inr) r2⟩
  ·exact h.elim (fun h=>List.mem_append_left _ (g1.sub u y b h hb)) (fun h=>List.mem_append_right _ (g2.sub u y b h hb))
  ·rcases h with h | h <;> rcases h' with h' | h'
   ·exact g1.one u y u' y' b h h' hb cg
   ·exact absurd rfl (n3 b (g1.sub _ _ _ h hb) b (g2.sub _ _ _ h' cg))
   ·exact absurd rfl (n3 b (g1.sub _ _ _ h' cg) b (g2.sub _ _ _ h hb))
   ·exact g2.one u y u' y' b h h' hb cg
theorem xy.opened (h:xy T T'):∀ {cs:LV} {x:β} {f:LN},T.rep hp cs x f→f.Nodup→∃ A,Good A f∧(T' A).rep hp cs x f:=by
 induction h with
 | @row e E=>
  intro cs x f hr _
  obtain ⟨base,cap,rfl,je⟩:=id hr
  refine ⟨fun u y=>u = .slice base x.length cap∧y=x,⟨?_,?_⟩,⟨_,rfl,rfl,rfl⟩,hr⟩
  ·rintro u y b ⟨rfl,rfl⟩ hb
   rcases je with ⟨rfl,_⟩ | ⟨b0,cur,f',rfl,_,rfl,_⟩
   ·cases hb
   ·cases hb; exact List.mem_cons_self
  ·rintro u y u' y' b ⟨_,rfl⟩ ⟨_,rfl⟩ _ _; rfl
 | @step β e T T' ho ih=>
  intro cs x f hr hn
  obtain ⟨base,cap,rfl,je⟩:=hr
  rcases je with ⟨rfl,_,rfl,rfl⟩ | ⟨b,cur,f',rfl,hg,rfl,h3,h4,h5,h6⟩
  ·exact ⟨fun _ _=>False,⟨fun _ _ _ h=>h.elim,fun _ _ _ _ _ h=>h.elim⟩,none,cap,rfl,.inl ⟨rfl,rfl⟩⟩
  ·obtain ⟨A,g1,g2⟩:=xy.TZ (e:=e) ih (fun hA=>ho.mono hA) h6 (List.nodup_cons.1 hn).2
   refine ⟨A,⟨fun u y b h hb=>List.mem_cons_of_mem _ (g1.sub u y b h hb),g1.one⟩,_,cap,rfl,.inr ⟨b,0,cur,e,(0,0),f',rfl,hg,rfl,h3,?_⟩⟩
   rw [List.drop_zero,ho.size]
   exact g2
end
section
variable {α:Type} {e e':TI} {E:ah α} {A:Value→List α→Prop} {ft f:LN} {hp:Array Obj}
theorem Hu (nf:NF E) (hA:Good A ft):∀ {ys:List (List α)} {us:LV} {g:LN},dp (xP A (aL e' E)) hp us ys g→ys.Nodup→
  dp (aL e' E) hp us ys g∧g.Nodup∧∀ b∈g,b∈ft∧∃ u y,A u y∧xR u=some b∧y∈ys:=by
 intro ys
 induction ys with
 | nil=>rintro us g ⟨rfl,rfl⟩ _; exact ⟨⟨rfl,rfl⟩,List.nodup_nil,fun b hb=>absurd hb List.not_mem_nil⟩
 | cons y ys ih=>
  rintro us g ⟨c,iw,g1,g2,rfl,rfl,⟨⟨u,rfl,hu⟩,hr⟩,h2⟩ hn
  obtain ⟨n1,n2⟩:=List.nodup_cons.1 hn
  obtain ⟨a1,a2,a3⟩:=ih h2 n2
  refine ⟨⟨[u],iw,g1,g2,rfl,rfl,hr,a1⟩,?_,?_⟩
  ·obtain ⟨base,cap,hv,je⟩:=hr
   obtain rfl:u = .slice base y.length cap:=by simpa using hv
   rcases je with ⟨_,_,_,rfl⟩ | ⟨b,cur,f',rfl,_,rfl,_,_,_,h6⟩
   ·exact a2
   ·rw [nf.l h6]
    refine List.nodup_cons.2 ⟨fun hb=>?_,a2⟩
    obtain ⟨_,u',y',h7,h8,h9⟩:=a3 b hb
    rw [hA.one _ _ _ _ b hu h7 rfl h8] at n1
    exact n1 h9
  ·intro b hb
   rcases List.mem_append.1 hb with hb | hb
   ·obtain ⟨base,cap,hv,je⟩:=hr
    obtain rfl:u = .slice base y.length cap:=by simpa using hv
    rcases je with ⟨_,_,_,rfl⟩ | ⟨b0,cur,f',rfl,_,rfl,_,_,_,h6⟩
    ·cases hb
    ·rw [nf.l h6,List.mem_singleton] at hb
     subst hb
     exact ⟨hA.sub _ _ _ hu rfl,_,y,hu,rfl,by simp⟩
   ·obtain ⟨b1,u',y',b2,b3,b4⟩:=a3 b hb
    exact ⟨b1,u',y',b2,b3,by simp [b4]⟩
theorem I3 {Z:Nat→Prop} {w:World} {v:Value} {ys:List (List α)} (nf:NF E) (hA:Good A ft) (ho:lu Z w f (.om e (xP A (aL e' E)) v ys)) (hn:ys.Nodup) (hf:f.Nodup) (hz:∀ b∈f,¬ Z b) :
  ∃ g,(∀ b∈g,b∈ft)∧(aL e (aL e' E)).rep w.heap [v] ys (f++g)∧(f++g).Nodup:=by
 obtain ⟨us,g,h1,h2,h3,_⟩:=ho
 obtain ⟨a1,a2,a3⟩:=Hu nf hA h2 hn
 have hl:us.length=ys.length:=by have:=jz a1; rw [this]; exact Nat.mul_one _
 refine ⟨g,fun b hb=>(a3 b hb).1,?_,List.nodup_append.2 ⟨hf,a2,fun b hb c hc=>fun e=>hz b hb (h3 b (e ▸ hc))⟩⟩
 obtain ⟨base,cap,hv,hr⟩:=h1
 obtain rfl:v = .slice base us.length cap:=by simpa using hv
 rw [hl]
 rcases hr with ⟨rfl,rfl,rfl,rfl⟩ | ⟨b,cur,f',rfl,hg,rfl,c1,c2,c3,c4⟩
 ·cases ys with
  | cons y ys=>simp at hl
  | nil=>obtain ⟨_,rfl⟩:=a1; exact ⟨none,0,rfl,.inl ⟨rfl,rfl,rfl,rfl⟩⟩
 ·obtain ⟨c5,rfl⟩:=wB c4
  refine ⟨_,cap,rfl,.inr ⟨b,cur,g,rfl,hg,rfl,by rw [← hl]; exact c1,c2,c3,?_⟩⟩
  have e1:(aL e' E).size=nr.size:=rfl
  rw [e1,← hl,c5]
  exact a1
end
section
variable {P:Program} {R:Type} {cx:Cx R}
theorem ai {S S1 α β:Type} [DecidableEq (List α)] (k t0:Nat) (φ:S1→Value→Fr) (Gu:S1→List (List α)) (v0:Value) (f2:Fr) {e e':TI} {E:ah α} {T:ah β} {T':(Value→List α→Prop)→ah β} {vs:Value} {x:β} {ez:List KI} {kb:Kb R S} {c:Code} {s0:S1} {body:S1→Option (Out S1 R)} {f:S1→Option (Out S R)} {Γ Γ1 Γ2:QE} {fr:Fr}
  (ho:xy T T') (nf:NF E) (ha:p6 fr (φ s0 v0)) (hf:p6 fr f2) (hz:Gu s0=[]) (hv:look fr t0=some vs) (h1:dy Γ (.own T vs x) Γ1) (h2:∀ A:Value→List α→Prop,dy Γ1 (.om e (xP A (aL e' E)) v0 []) Γ2)
  (hb:∀ (A:Value→List α→Prop) s v,D P cx (.p (φ s v) [.om e (xP A (aL e' E)) v (Gu s)] f2 [.rd false (T' A) vs x] fun fr Γ=>.c ⟨[],.loop Value k (fun s v=>[.om e (xP A (aL e' E)) v (Gu s)]) φ [.rd false (T' A) vs x] f2⟩ c Γ fr (body s)))
  (hk:∀ s v,D P cx (.p (φ s v) [.own (aL e (aL e' E)) v (Gu s)] f2 [] fun fr Γ=>.mn ⟨ez,kb⟩ Γ fr (f s))) :
  Bx (lz P cx (.bk true k ⟨ez,kb⟩ (.loop c) Γ fr (aj (ag k (ai body s0)) fun s=>QN (Gu s)>>=fun _=>f s))):=by
 have _:=hv
 rw [ma]
 intro B o I4 r w ph mw
 obtain ⟨Z,F,hS,hG⟩:=mw
 obtain ⟨ft,F1,vL,hT,j5⟩:=h1.sound hS
 have BU:=hG.perm vL
 obtain ⟨n1,n2,n3⟩:=List.nodup_append.1 BU.nd
 obtain ⟨A,hA,hR⟩:=ho.opened (hp:=w.heap) hT n1
 obtain ⟨fo,F2,tD,hO,n5⟩:=(h2 A).sound j5
 have hfl:∀ b∈ft,b < w.heap.size:=ah.lt _ hT
 have hfz:∀ b∈ft,¬ Z b:=fun b hb=>BU.apart b (List.mem_append_left _ hb)
 have QO:∀ b∈fo,b∈F1:=fun b hb=>tD.mem_iff.1 (List.mem_append_left _ hb)
 have qL:fo.Nodup:=(List.nodup_append.1 (tD.nodup_iff.2 n2)).1
 refine Hb (T:=TT P cx B) (LI B (fun s v=>[.om e (xP A (aL e' E)) v (Gu s)]) φ [.rd false (T' A) vs x] f2) I4
  ⟨v0,nt (ha.all ph) (hf.sound ph),fun b=>Z b∨b∈ft,fo,⟨fo,[],(List.append_nil _).symm,by rw [hz]; exact hO.mono fun _=>.inl,⟨ft,hR,fun b hb=>.inr hb⟩,rfl⟩,qL,fun b hb=>?_,fun b hb=>hb.elim (hG.qT b) (hfl b),fun b hb=>BU.low b (List.mem_append_right _ (QO b hb)),fun b h=>.inl (hG.uU b h),fun b hb=>hb.elim (hG.vq b) fun hb=>.inr (BU.low b (List.mem_append_left _ hb)),hG.jf⟩ ?_ ?_ ?_
 ·rintro (h | h)
  ·exact BU.apart b (List.mem_append_right _ (QO b hb)) h
  ·exact n3 b h b (QO b hb) rfl
 ·intro x r w he hx
  subst he
  exact sR hx
 ·rintro s r w ⟨v,h1,h2⟩ o ho
  exact (hb A s v).sound B o ho r w h1 h2
 ·rintro s r w' ⟨v,a1,Z2,Fl,C1,ug⟩ hm
  obtain ⟨_,hn,hm⟩:=bind_some hm
  replace hn:=Lf hn
  obtain ⟨f',F',rfl,hom,T0⟩:=C1
  have De:F'=[]:=T0.2
  subst De
  rw [List.append_nil] at ug
  obtain ⟨g,s1,s2,s3⟩:=I3 nf hA hom hn ug.nd ug.apart
  refine (hk s v).sound B o hm r w' a1 ⟨B.Z,f'++g,⟨f'++g,[],(List.append_nil _).symm,s2,rfl⟩,s3,fun b hb hz=>?_,fun b hz=>ug.qT b (ug.uU b hz),fun b hb=>?_,fun _ h=>h,fun _ h=>.inl h,ug.jf⟩
  ·rcases List.mem_append.1 hb with hb | hb
   ·exact ug.apart b hb (ug.uU b hz)
   ·exact hfz b (s1 b hb) (hG.uU b hz)
  ·rcases List.mem_append.1 hb with hb | hb
   ·exact ug.low b hb
   ·exact BU.low b (List.mem_append_left _ (s1 b hb))
end
end Go.Dk
namespace Go.Dk
open Go Go.Li
section
variable {R:Type} {P:Program} {cx:Cx R} {B:Bs} {M:Type} {all l:LO} {rk:RK R M} {fr:Fr} {w:World} {Z:Nat→Prop} {F cur:LN} {Γ Γ1 Γ2 Γ3:QE}
theorem D.of {J:Jd R} (h:lz P cx J):D P cx J:=.inj (by rw [ma]; exact h)
theorem QP {α:Type} {E:ah α} {d n:Nat} {t e ty:TI} {ps:List (Nat×Operand)} {us:LV} {xs:List α} {m:Option M} [hz:F9 P t e] (hl:sx Γ fr 0 ps us) (hn:us.length=n) (hb:(Nat.ble 1 n && Nat.ble n 16777216)=true) (hx:Gc Γ E us xs Γ1) (hE:E.size=1)
  (h:∀ v,D P cx (.o false all l rk (.own (aL e E) v xs :: Γ1) ((d,v) :: fr) m)):D P cx (.e false (.buildSlice t n ps.toArray) (some d) ty all l rk Γ fr m):=by
 refine D.of ?_
 intro B o ho r w ha hs pos af g
 obtain ⟨Z,F,hS,hg⟩:=hs
 refine gp (WL.val rfl (hl.op ha hS ⟨hz.h⟩ hn hb) ((h _).sound B o ho _ _ (bd ha) ?_))
 obtain ⟨e1,f,F2,tD,hr,n5⟩:=hx.sound hS
 have CO:n≤16777216:=by
  rw [Bool.and_eq_true] at hb
  exact Nat.le_of_ble_eq_true hb.2
 have hC:aq [] w (w.alloc (.cells us.toArray e)):=aq.alloc _ _ _
 have jm:Gd B Z (f++F2) w:=hg.perm tD
 have bo:∀ b∈f,b < w.heap.size:=kh hr
 have Di:=heap_alloc_new w (.cells us.toArray e)
 have je:dp E (w.alloc (.cells us.toArray e)).heap us xs f:=gu hr fun b hb=>hC.block b (bo b hb) (fun h=>absurd h List.not_mem_nil)
 refine St.put (f:=f) (f':=w.heap.size :: f) n5 jm (aq.mono hC fun _ h=>absurd h List.not_mem_nil) ⟨_,n,by rw [← hn,e1],.inr ⟨w.heap.size,us.toArray,f,rfl,Di,rfl,by rw [← hn,e1]; exact Nat.le_refl _,Nat.le_trans CO (by decide),by rw [hE,Nat.mul_one]; simp [hn],?_⟩⟩ ?_ ?_
 ·rw [hE,Nat.mul_one,List.toList_toArray,← e1,List.take_length]
  exact je
 ·exact List.nodup_cons.2 ⟨fun hm=>Nat.lt_irrefl _ (bo _ hm),(List.nodup_append.1 jm.nd).1⟩
 ·intro b hb
  rcases List.mem_cons.1 hb with rfl | hb
  ·exact .inr (Nat.le_refl _)
  ·exact .inl hb
def WR {α:Type} (v:Value) (_:List α):Prop:=∃ a n c,v = .slice a n c∧n≤c
theorem Le.cap {α:Type} {T E:ah α} (hl:Le T E) (e:TI):Le (aL e T) (xP WR (bB E)):=by
 refine ⟨rfl,fun {h cs x f} hr=>⟨?_,(Le.own hl e).le hr⟩⟩
 obtain ⟨base,cap,rfl,hr⟩:=hr
 refine ⟨_,rfl,_,_,_,rfl,?_⟩
 rcases hr with ⟨_,_,rfl,_⟩ | ⟨_,_,_,_,_,_,h,_⟩
 ·exact Nat.zero_le _
 ·exact h
theorem slX {α:Type} {q o:Bool} {d:Nat} {x hi:OO} {v:Value} {k:IntKind} {j:Int} {E:ah α} {xs:List α} {t ty:TI} {f:List α→Option M} {Γ':Value→List α→List ay} [ht:vK P t] (hx:bz fr x=some v) (hy:bz fr hi=some (.int k j)) (hr:∀ v' ys,qD Γ v o o E xs (.rd o (bB E) v' ys) (Γ' v' ys)) (hE:E.size=1)
  (h:∀ v' ys,D P cx (.o q all l rk (Γ' v' ys) ((d,v') :: fr) (f ys))):D P cx (.e q (.slice t x none (some hi) none) (some d) ty all l rk Γ fr (A4 xs 0 j>>=f)):=by
 refine D.of ?_
 intro B oo ho r w ha hs pos af g
 obtain ⟨ys,hys,ho⟩:=bind_some ho
 obtain ⟨_,h0,h1,rfl⟩:=I5 hys
 obtain ⟨e,i,q1,q2,q3⟩:=ht.h
 obtain ⟨Z,F,hS,hG⟩:=hs
 obtain ⟨base,cap,rfl,Dc⟩ : ∃ base cap,v = .slice base xs.length cap∧xs.length≤cap:=by
  obtain ⟨_,_,⟨⟨g0,⟨base,cap,hv,je⟩,_⟩,_⟩,_⟩:=(hr v xs).sound hS
  refine ⟨base,cap,by simpa using hv,?_⟩
  rcases je with ⟨rfl,_⟩ | ⟨_,_,_,_,_,_,_,_,_,hc,_⟩
  ·exact Nat.zero_le _
  ·exact hc
 obtain ⟨dh,_,⟨⟨g0,hg0,tH⟩,_⟩,wJ⟩:=(hr (sliced base 0 j.toNat cap 1) ((xs.drop (0:Int).toNat).take (j.toNat - (0:Int).toNat))).sound hS
 have hf:=K0 (a:=0) (b:=j.toNat) hE hg0 (fun i hi=>(tH i hi).elim (fun h=>h) fun h=>h) (Nat.zero_le _) (by omega) Dc
 refine dv (v:=sliced base 0 j.toNat cap 1) (fun w' _=>?_) ((h _ _).sound B oo ho _ w (bd ha) ⟨Z,F,wJ hf,hG⟩)
 have q4:P.elem t=e:=by simp [Program.elem,q1]
 have p7:(sizeOf (P.elem t)).run P w' = .ok 1 w':=by rw [q4]; simp [sizeOf,typeInfo,q2,q3]
 simp [execOp,cB ha hx,cB ha hy,run_sliceAt_slice w' t _ _ _ _ (by rw [q4]; exact q1),run_slice_h (P:=P) w' t base xs.length cap (by rw [q4]; exact q1) k j h0 (by omega),p7,Result.andThen]
theorem lkq {κ υ:Type} {q:Bool} {d:Nat} {x y:OO} {v:Value} {t ty:TI} {bq:BEq κ} {ek:κ→Value} {eu:υ→Value} {xs:List (κ×υ)} {a:κ} {z0:υ} {m:Option M} [ht:Iz P t κ υ bq ek eu] [hz:PC P t υ eu z0] (hx:bz fr x=some v) (hy:bz fr y=some (ek a)) (hr:BJ ek eu Γ v xs)
  (h:D P cx (.o q all l rk Γ ((d,eu ((rS xs a).getD z0)) :: fr) m)):D P cx (.e q (.lookup t x y false) (some d) ty all l rk Γ fr m):=by
 refine D.of ?_
 intro B o ho r w ha hs pos af g
 obtain ⟨Z,F,hS,_⟩:=id hs
 exact dv ((VQ.Vx (z0:=z0) hx hy hr).sound hS ha _ _ _ _ _) (h.sound B o ho _ w (bd ha) hs)
theorem St.aiW {B:Bs} {Γ Δ Γ1 Γ2 Γ3:QE} {w:World} (h:St B Γ w) (h0:EF Γ Δ Γ1) (h1:EO Γ1 Γ2 Γ3) (h2:MF Γ none Γ2):St B (Δ.reverse++Γ2) w:=by
 obtain ⟨Z,F,hs,hg⟩:=h
 obtain ⟨Fd,F',Zn,a1,a2,a3⟩:=h0.sound hs
 obtain ⟨PL,F3,c1,c2,c3⟩:=h1.sound a2
 obtain ⟨F2,b1,b2⟩:=HL.build a1 (h2.sound (hs.left (f:=Zn)) (dh:=[]) (by rintro e he; cases he) c1)
 refine St.of (F':=Fd++PL) b2 (Gd.left (F':=F3) ((Gd.freeze (hg.perm a3) fun b hb=>hs.lt b (a3.mem_iff.1 (List.mem_append_right _ hb))).perm ?_)) b1
 rw [List.append_assoc]
 exact c3.append_left Fd
theorem join {S S1 V:Type} {t k:Nat} {b:Bool} (Δ:S1→V→List ay) (φ:S1→V→Fr) (v0:V) (f2:Fr) {ez:List KI} {kb:Kb R S} {x y:Code} {s0:S1} {m0:Option (Out S1 R)} {f:S1→Option (Out S R)}
   (_ha:p6 fr (φ s0 v0)) (_hf:p6 fr f2) (_h0:EO Γ (Δ s0 v0) Γ1) (_hs:ic Γ1 Γ2)
   (hb:D P cx (.cd b ⟨[],.loop V k Δ φ Γ2 f2⟩ x y Γ fr m0)) (hk:∀ s v,D P cx (.p (φ s v) (Δ s v) f2 Γ2 fun fr Γ=>.n ⟨ez,kb⟩ Γ fr (f s))):D P cx (.cd b ⟨ez,kb⟩ x y Γ fr (jn t s0 m0 f)):=by
 refine .inj (bxi ?_)
 intro B o ho r w ph mw
 replace ho:aj m0 f=some o:=ho
 cases hm:m0 with
 | none=>rw [hm] at ho; cases ho
 | some o0=>
  have h1:=hb.sound B o0 hm r w ph mw
  rw [hm] at ho
  have hq:∀ e r w,iT P cx B ⟨[],.loop V k Δ φ Γ2 f2⟩ o0 e r w→iT P cx B ⟨ez,kb⟩ o e r w:=by
   intro e r w hp
   cases o0 with
   | norm s=>
    cases e with
    | normal=>obtain ⟨v,a1,a2⟩:=hp; exact (hk s v).sound B o ho r w a1 a2
    | _=>exact hp.elim
   | exit j s=>cases ho
   | ret y=>
    cases ho
    cases e with
    | ret=>exact sR hp
    | _=>exact hp.elim
  exact ⟨fun h=>r5 (h1.1 h) hq,fun h=>r5 (h1.2 h) hq⟩
theorem z7 {S:Type} {b:Bool} {t:Nat} {K:cq R S} {x y:Code} {m1 m2:Option (Out S R)} (hl:look fr t=some (.bool b)) (h1:D P cx (.c K x Γ ((t,.bool true) :: fr) m1)) (h2:D P cx (.c K y Γ ((t,.bool false) :: fr) m2)):D P cx (.cd b K x y Γ fr (bif b then m1 else m2)):=by
 refine D.of ?_
 have hc:∀ {r:NV},cn r fr→∀ c,b=c→cn r ((t,.bool c) :: fr):=by
  intro r ha c hb s u hs
  unfold look at hs
  cases mw:Nat.beq s t with
  | true=>
   rw [mw] at hs
   cases hs
   obtain rfl:=Nat.eq_of_beq_eq_true mw
   rw [← hb]
   exact ha _ _ hl
  | false=>rw [mw] at hs; exact ha _ _ hs
 exact fun B o ho r w ha hs=>⟨fun h=>h1.sound B o (by rw [h] at ho; exact ho) r w (hc ha _ h) hs,fun h=>h2.sound B o (by rw [h] at ho; exact ho) r w (hc ha _ h) hs⟩
class vR {α:Type} (S:ah α) (V:outParam Type) (cl:outParam (α→V→List Value)) (en:outParam (α→V→List ay)):Prop where
 ow:∀ x v,sO (en x v)=true
 op:∀ {w:World} {cs:LV} {x:α} {g:LN},S.rep w.heap cs x g→∃ v,cs=cl x v∧∀ Z:Nat→Prop,HL Z w (en x v) g
 cl:∀ {w:World} {x:α} {v:V} {Z:Nat→Prop} {g:LN},HL Z w (en x v) g→S.rep w.heap (cl x v) x g
theorem vR.i {k:IntKind}:vR (aK k) Unit (fun x _=>[.int k x]) (fun _ _=>[]):=
 ⟨fun _ _=>rfl,fun h=>⟨(),h.1,fun _=>by rw [h.2]; exact .nil⟩,fun h=>by cases h; exact ⟨rfl,rfl⟩⟩
theorem vR.s {α:Type} {e:TI} {E:ah α}:vR (aL e E) Value (fun _ v=>[v]) (fun x v=>[.own (aL e E) v x]):=by
 refine ⟨fun _ _=>rfl,fun {w cs x g} h=>?_,fun {w x v Z g} h=>?_⟩
 ·obtain ⟨base,cap,rfl,hr⟩:=h
  refine ⟨_,rfl,fun Z=>?_⟩
  have:=HL.own (Z:=Z) (w:=w) (e:=.own (aL e E) (.slice base x.length cap) x) (f:=g) ⟨base,cap,rfl,hr⟩ .nil
  rwa [List.append_nil] at this
 ·cases h with
  | own h k=>cases k; rw [List.append_nil]; exact h
  | fact h _=>exact h.elim
theorem vR.ip {β V:Type} {k:IntKind} {B:ah β} {cl:β→V→List Value} {en:β→V→List ay} (h:vR B V cl en):vR (cy (aK k) B) V (fun x v=>.int k x.1 :: cl x.2 v) (fun x v=>en x.2 v):=by
 refine ⟨fun x v=>h.ow x.2 v,fun {w cs x g} hr=>?_,fun {w x v Z g} he=>?_⟩
 ·obtain ⟨c1,c2,f1,f2,rfl,rfl,⟨rfl,rfl⟩,h2⟩:=hr
  obtain ⟨v,rfl,hv⟩:=h.op h2
  exact ⟨v,rfl,hv⟩
 ·exact ⟨[_],_,[],g,rfl,rfl,⟨rfl,rfl⟩,h.cl he⟩
theorem vR.sp {α β V:Type} {e:TI} {E:ah α} {B:ah β} {cl:β→V→List Value} {en:β→V→List ay} (h:vR B V cl en):vR (cy (aL e E) B) (Value×V) (fun x v=>v.1 :: cl x.2 v.2) (fun x v=>.own (aL e E) v.1 x.1 :: en x.2 v.2):=by
 refine ⟨fun x v=>h.ow x.2 v.2,fun {w cs x g} hr=>?_,fun {w x v Z g} he=>?_⟩
 ·obtain ⟨c1,c2,f1,f2,rfl,rfl,h1,h2⟩:=hr
  obtain ⟨base,cap,rfl,BF⟩:=h1
  obtain ⟨v,rfl,hv⟩:=h.op h2
  exact ⟨(_,v),rfl,fun Z=>.own ⟨base,cap,rfl,BF⟩ (hv Z)⟩
 ·cases he with
  | own h1 k=>
   obtain ⟨base,cap,hb,BF⟩:=h1
   exact ⟨[_],_,_,_,rfl,rfl,⟨base,cap,hb,BF⟩,h.cl k⟩
  | fact h1 _=>exact h1.elim
theorem vR.mp {α β V:Type} {f:β→α} {A:ah α} {cl:α→V→List Value} {en:α→V→List ay} (h:vR A V cl en):vR (wA f A) V (fun y v=>cl (f y) v) (fun y v=>en (f y) v):=
 ⟨fun y v=>h.ow (f y) v,fun hr=>h.op hr,fun he=>h.cl he⟩
end
end Go.Dk
namespace Go.Dk
open Go Go.Li
section
variable {P:Program} {n:Nat} {l:LO} {Q:Exit→(Nat→Value)→World→Prop} {S:World→Prop}
def Hw (P:Program) (n:Nat) (l:LO) (Q:Exit→(Nat→Value)→World→Prop) (S:World→Prop) (k:Nat) (L:Array Bool) (r:NV) (w:World):Prop:=
 ∀ a:Act,a.tmps.size=n→a.defers=[]→ca a=r→wpAnyH P .any l.toArray (fun e a' w'=>a'.tmps.size=n∧a'.defers=[]∧Q e (ca a') w') S k L a w
theorem z8 {i:Nat} {o:Oper} {a:Act} (hd:cu n l=true) (hi:l[i]? = some o) (h1:a.tmps.size=n):∀ k,o.dst=some k→k < a.tmps.size:=by
 intro k hk
 have hm:o∈l:=List.mem_of_getElem? hi
 simp only [cu,List.all_eq_true] at hd
 have:=hd o hm
 rw [hk] at this
 rw [h1]
 exact Nat.lt_of_succ_le (Nat.le_of_ble_eq_true this)
theorem Hw.take {k i:Nat} {L:Array Bool} {o:Oper} {v:Value} {r:NV} {w:World} (hd:cu n l=true) (hi:l[i]? = some o) (hs:Region.noSelect l.toArray=true) (hf:Region.free .any l.toArray L i=true) (hr:(Region.ready .any l.toArray L).contains i=true)
  (hp:∀ c r w,¬ Q (.panic c) r w) (hg:o.guard=none) (hy:∀ w,S w→(execOp (ev r) o).run P w = .ok (.value v) w) (hS:S w) (h:Hw P n l Q S k (L.setIfInBounds i true) (er r o.dst v) w):Hw P n l Q S (k+1) L r w:=by
 intro a h1 h2 h3
 refine wpAnyH_take (v:=v) (by simpa using hi) hs hf hr (fun c a w h=>(hp _ _ _ h.2.2).elim) (.inl ⟨qV hg,fun w hw=>?_⟩) hS (h _ (by rw [gy]; exact h1) (by rw [fg]; exact h2) (by rw [jg (z8 hd hi h1),h3]))
 rw [oy,h3]
 exact hy w hw
theorem Hw.step {k i:Nat} {L:Array Bool} {o:Oper} {r:NV} {w w':World} (hd:cu n l=true) (hi:l[i]? = some o) (hr:Region.ready .any l.toArray L=[i]) (hg:o.guard=none) (hy:(execOp (ev r) o).run P w = .ok .skip w') (hS:S w') (h:Hw P n l Q S k (L.setIfInBounds i true) (er r o.dst undef) w'):Hw P n l Q S (k+1) L r w:=by
 intro a h1 h2 h3
 refine wpAnyH_all hr (by simp) fun j hj=>?_
 obtain rfl:j=i:=by simpa using hj
 unfold wpOp
 rw [show (l.toArray)[j]? = some o by simpa using hi]
 simp only []
 rw [if_pos (qV hg)]
 refine .inl ?_
 unfold Oper.wp
 rw [oy,h3,hy]
 exact ⟨hS,h _ (by rw [gy]; exact h1) (by rw [fg]; exact h2) (by rw [jg (z8 hd hi h1),h3])⟩
theorem Hw.done {k:Nat} {L:Array Bool} {r:NV} {w:World} (hr:Region.ready .any l.toArray L=[]) (h:Q .normal r w):Hw P n l Q S k L r w:=
 fun _ h1 h2 h3=>wpAnyH_done hr ⟨h1,h2,by rw [h3]; exact h⟩ k
theorem Hw.start {r:NV} {w:World} (h:Hw P n l Q S l.length (Array.replicate l.length false) r { w with drawn:=w.drawn+1 }):nv P n l Q r w:=
 fun a h1 h2 h3=>wpAny_of_held _ _ _ _ (h a h1 h2 h3)
def zd (P:Program) (S:World→Prop):List Oper→(Nat→Value)→((Nat→Value)→Prop)→Prop
 | [],r,K=>K r
 | o :: l,r,K=>o.guard=none∧∃ v,(∀ w,S w→(execOp (ev r) o).run P w = .ok (.value v) w)∧zd P S l (er r o.dst v) K
def Lh (l:LO) (e:Array Bool→Bool):List Nat→Array Bool→Bool
 | [],L=>e L
 | i :: ss,L=>Nat.blt i l.length && (Region.ready .any l.toArray L == [i]) && Lh l e ss (L.setIfInBounds i true)
def Lj (l:LO) (e:Array Bool→Bool):List Nat→Array Bool→Bool
 | [],L=>e L
 | i :: qs,L=>Nat.blt i l.length && (Region.ready .any l.toArray L).contains i && Region.free .any l.toArray L i && Lj l e qs (L.setIfInBounds i true)
def pick (l:LO) (is:LN):List Oper:=is.map fun i=>l.getD i default
theorem A5 {i:Nat} (h:Nat.blt i l.length=true):l[i]? = some (l.getD i default):=by
 have h1:i < l.length:=Nat.lt_of_succ_le (Nat.le_of_ble_eq_true h)
 rw [List.getD_eq_getElem?_getD,List.getElem?_eq_getElem h1]; rfl
theorem Hw.quiet (hd:cu n l=true) (hs:Region.noSelect l.toArray=true) (hp:∀ c r w,¬ Q (.panic c) r w) {e:Array Bool→Bool} {m:Nat} {w:World} (hS:S w) {K:(Nat→Value)→Prop} (h:∀ L r,e L=true→K r→Hw P n l Q S m L r w) :
  ∀ (qs:LN) (L:Array Bool) (r:NV),Lj l e qs L=true→zd P S (pick l qs) r K→Hw P n l Q S (qs.length+m) L r w:=by
 intro qs
 induction qs with
 | nil=>intro L r hc hv; rw [List.length_nil,Nat.zero_add]; exact h L r hc hv
 | cons i qs ih=>
  intro L r hc hv
  unfold Lj at hc
  simp only [Bool.and_eq_true] at hc
  obtain ⟨⟨⟨c1,c2⟩,c3⟩,c4⟩:=hc
  obtain ⟨hg,v,h1,h2⟩:=hv
  have:=Hw.take hd (A5 c1) hs c3 c2 hp hg h1 hS (ih _ _ c4 h2)
  rwa [show qs.length+m+1=(i :: qs).length+m by simp; omega] at this
end
inductive JQ
 | q (ops:LO) (fr:Fr)
 | la (a:Addr) (lk:Option Nat) (t:TI) (x:OO) (d:Nat) (ty:TI) (pos:String) (af:Array Edge) (ops:LO) (fr:Fr)
inductive QA (P:Program) (Γ:QE):JQ→Fr→Prop
 | nil {fr:Fr}:QA P Γ (.q [] fr) fr
 | ld {d:Nat} {t ty:TI} {x:OO} {lk:Option Nat} {a:Addr} {pos:String} {af:Array Edge} {ops:LO} {fr nn:Fr} [ht:LK P t lk] (hx:bz fr x=some (.pointer (some a))) (h:QA P Γ (.la a lk t x d ty pos af ops fr) nn):QA P Γ (.q (⟨some d,.load t x,ty,pos,af,none⟩ :: ops) fr) nn
 | val {d:Nat} {op:Op} {ty:TI} {u:Value} {pos:String} {af:Array Edge} {ops:LO} {fr nn:Fr} (hv:VQ P Γ fr op u) (h:QA P Γ (.q ops ((d,u) :: fr)) nn):QA P Γ (.q (⟨some d,op,ty,pos,af,none⟩ :: ops) fr) nn
 | lc {d:Nat} {t ty:TI} {x:OO} {a:Addr} {u:Value} {pos:String} {af:Array Edge} {ops:LO} {fr nn:Fr} (h:su Γ a u) (k:QA P Γ (.q ops ((d,u) :: fr)) nn):QA P Γ (.la a none t x d ty pos af ops fr) nn
 | ls {d n:Nat} {t ty:TI} {x:OO} {a:Addr} {ds:LV} {pos:String} {af:Array Edge} {ops:LO} {fr nn:Fr} (h:sw Γ a n ds) (k:QA P Γ (.q ops ((d,.agg ds.toArray) :: fr)) nn):QA P Γ (.la a (some n) t x d ty pos af ops fr) nn
inductive RO (fr:Fr):List Oper→List ay→List (Nat×List Value×TypeId)→List ay→Prop
 | nil {Γ:QE}:RO fr [] Γ [] Γ
 | cons {t ty e:TI} {x y:OO} {b:Nat} {cs:LV} {pos:String} {af:Array Edge} {ops:LO} {Γ Γ1 Γ2:QE} {rs:List (Nat×List Value×TypeId)} (hx:bz fr x=some (.pointer (some ⟨b,0,none⟩))) (h:dy Γ (.row b cs e) Γ1) (k:RO fr ops Γ1 rs Γ2):RO fr (⟨none,.store t x y,ty,pos,af,none⟩ :: ops) Γ ((b,cs,e) :: rs) Γ2
inductive SQ (P:Program) (Γ:QE) (fr:Fr):List Oper→List (Nat×List Value×TypeId)→List (Nat×List Value×TypeId)→Prop
 | nil:SQ P Γ fr [] [] []
 | cons {n:Nat} {t ty e:TI} {x y:OO} {b:Nat} {u:Value} {us cs ds:LV} {pos:String} {af:Array Edge} {ops:LO} {rs r6:List (Nat×List Value×TypeId)} [ht:sS P t n] (hx:bz fr x=some (.pointer (some ⟨b,0,none⟩))) (hy:bz fr y=some u) (hc:qf Γ u us) (hn:us.length=n) (hs:rb us 0 cs ds) (ho:ud Γ us) (k:SQ P Γ fr ops rs r6) :
   SQ P Γ fr (⟨none,.store t x y,ty,pos,af,none⟩ :: ops) ((b,cs,e) :: rs) ((b,ds,e) :: r6)
def Hv:List (Nat×List Value×TypeId)→List ay
 | []=>[]
 | (b,cs,e) :: l=>.row b cs e :: Hv l
def Rows (w:World) (rs:List (Nat×List Value×TypeId)):Prop:=∀ p∈rs,Row w p.1 p.2.1 p.2.2
section
variable {P:Program} {Γ Γ2:QE} {S:World→Prop} {Z:Nat→Prop}
def WS (P:Program) (S:World→Prop):JQ→Fr→Prop
 | .q ops fr,nn=>∀ r,cn r fr→zd P S ops r fun r'=>cn r' nn
 | .la a lk t x d ty pos af ops fr,nn=>(match lk with | none=>NA P t | some n=>AG P t n)→bz fr x=some (.pointer (some a))→∀ r,cn r fr→zd P S (⟨some d,.load t x,ty,pos,af,none⟩ :: ops) r fun r'=>cn r' nn
theorem QA.sound {J:JQ} {nn:Fr} (hS:∀ w,S w→∃ cur F,SA Z w Γ cur F) (h:QA P Γ J nn):WS P S J nn:=by
 induction h with
 | nil=>exact fun r h=>h
 | @ld d t ty x lk a pos af ops fr nn ht hx _ ih=>exact fun r ha=>ih ht.h hx r ha
 | @val d op ty u pos af ops fr nn hv _ ih=>
  intro r ha
  refine ⟨rfl,u,fun w hw=>?_,ih _ (bd ha)⟩
  obtain ⟨cur,F,h⟩:=hS w hw
  exact hv.sound h ha (some d) ty pos af none w (aq.refl _ _)
 | @lc d t ty x a u pos af ops fr nn h _ ih=>
  intro ht hx r ha
  refine ⟨rfl,u,fun w hw=>?_,ih _ (bd ha)⟩
  obtain ⟨cur,F,hs⟩:=hS w hw
  exact Ld ht (h.sound hs) (cB ha hx) w (aq.refl _ _)
 | @ls d n t ty x a ds pos af ops fr nn h _ ih=>
  intro ht hx r ha
  refine ⟨rfl,_,fun w hw=>?_,ih _ (bd ha)⟩
  obtain ⟨cur,F,hs⟩:=hS w hw
  obtain ⟨h1,h2⟩:=h.sound hs
  exact Lg ht h1 (cB ha hx) h2 w (aq.refl _ _)
theorem RO.sound {fr:Fr} {ops:LO} {rs:List (Nat×List Value×TypeId)} {w:World} (h:RO fr ops Γ rs Γ2):∀ {F:LN},SA Z w Γ [] F→∃ F2,(rs.map (·.1)++F2).Perm F∧Rows w rs∧SA Z w Γ2 [] F2:=by
 induction h with
 | nil=>intro F h; exact ⟨F,.refl _,fun _ h=>absurd h List.not_mem_nil,h⟩
 | @cons t ty e x y b cs pos af ops Γ Γ1 Γ2 rs hx h _ ih=>
  intro F hS
  obtain ⟨f,F1,hp,⟨rfl,br⟩,j5⟩:=h.sound hS
  obtain ⟨F2,tD,hr,n5⟩:=ih j5
  refine ⟨F2,?_,fun p hp=>?_,n5⟩
  ·exact .trans (List.Perm.cons b tD) hp
  ·rcases List.mem_cons.1 hp with rfl | hp
   ·exact br
   ·exact hr p hp
theorem SQ.sound {n m:Nat} {e:Array Bool→Bool} {l:LO} {Q:Exit→(Nat→Value)→World→Prop} {fr:Fr} {ops:LO} {rs r6:List (Nat×List Value×TypeId)} {F2:LN} {w0:World} {r:NV} {F:LN} (hd:cu n l=true) (ha:cn r fr) (hSA:∀ w,aq F w0 w→SA Z w Γ2 [] F2) (h:SQ P Γ2 fr ops rs r6) :
  ∀ (ss:LN) (L:Array Bool) (w:World),ops=pick l ss→Lh l e ss L=true→aq F w0 w→Rows w rs→(rs.map (·.1)).Nodup→(∀ b∈rs.map (·.1),b∈F)→(∀ L w',e L=true→aq F w0 w'→aq (rs.map (·.1)) w w'→Rows w' r6→Hw P n l Q (aq F w0) m L r w')→Hw P n l Q (aq F w0) (ss.length+m) L r w:=by
 induction h with
 | nil=>
  intro ss L w ho hc hC hR hn hF hk
  cases ss with
  | cons i ss=>cases ho
  | nil=>
   rw [List.length_nil,Nat.zero_add]; exact hk L w hc hC (aq.refl _ _) hR
 | @cons n' t ty e' x y b u us cs ds pos af ops rs r6 ht hx hy BS hn hsg hon _ ih=>
  intro ss L w ho hc hC hR ey hF hk
  cases ss with
  | nil=>cases ho
  | cons i ss=>
   unfold Lh at hc
   simp only [Bool.and_eq_true] at hc
   obtain ⟨⟨c1,c2⟩,c3⟩:=hc
   have db:l.getD i default = ⟨none,.store t x y,ty,pos,af,none⟩∧ops=pick l ss:=by
    unfold pick at ho
    rw [List.map_cons,List.cons.injEq] at ho
    exact ⟨ho.1.symm,ho.2⟩
   have hi:=A5 c1
   rw [db.1] at hi
   obtain ⟨ti,q1,q2⟩:=ht.h
   have br:Row w b cs e':=hR (b,cs,e') (by simp)
   obtain ⟨e1,e2⟩:=hsg.eq
   have VK:=hSA w hC
   have ox:=vx (P:=P) (d:=none) (ty:=ty) (pos:=pos) (af:=af) (gg:=none) q1 (by rw [hn,q2]) br e1 (cB ha hx) (y:=y) (by rw [cB ha hy]; exact BS.eq VK) (hon.one VK)
   have tJ:=setRow_heap w b cs.toArray (cs.take 0++us++cs.drop (0+us.length)).toArray e' _ br
   have BV:aq [b] w (w.setRow b (cs.take 0++us++cs.drop (0+us.length)).toArray):=⟨rfl,rfl,rfl,Nat.le_refl _,by simp,fun j _ hj=>setRow_other w b j _ fun h=>hj (by simp [h])⟩
   have VL:=hC.trans (BV.mono fun b' cg=>by rw [List.mem_singleton.1 cg]; exact hF b (by simp))
   rw [List.map_cons,List.nodup_cons] at ey
   rw [show (i :: ss).length+m=ss.length+m+1 by simp; omega]
   refine Hw.step hd hi (by simpa using c2) rfl ox VL (ih ss _ _ db.2 c3 VL (fun p hp=>(hR p (List.mem_cons_of_mem _ hp)).dq BV fun hb=>ey.1 ?_) ey.2 (fun b' cg=>hF b' (by simp at cg ⊢; exact .inr cg)) fun L' w' he De Gl hR'=>?_)
   ·rw [← List.mem_singleton.1 hb]; exact List.mem_map_of_mem (f:=fun q=>q.1) hp
   ·refine hk L' w' he De ((BV.mono (by simp)).trans (Gl.mono fun b' cg=>List.mem_cons_of_mem _ cg)) fun p hp=>?_
    rcases List.mem_cons.1 hp with rfl | hp
    ·refine Row.dq (F:=rs.map (·.1)) ?_ Gl ey.1
     rw [e2]
     exact tJ
    ·exact hR' p hp
theorem SQ.fst {fr:Fr} {ops:LO} {rs r6:List (Nat×List Value×TypeId)} (h:SQ P Γ fr ops rs r6):r6.map (·.1)=rs.map (·.1):=by
 induction h with
 | nil=>rfl
 | cons _ _ _ _ _ _ _ ih=>simp only [List.map_cons,ih]
end
section
variable {R S:Type} {P:Program} {cx:Cx R} {K:cq R S} {l:LO}
end
theorem Hw.all {P:Program} {n k:Nat} {l:LO} {Q:Exit→(Nat→Value)→World→Prop} {S:World→Prop} {L:Array Bool} {rs:LN} {r:NV} {w:World} (hd:cu n l=true) (hr:Region.ready .any l.toArray L=rs) (mh:rs≠[])
  (h:∀ i∈rs,∃ o,l[i]? = some o∧o.guard=none∧∃ v w',((execOp (ev r) o).run P w = .ok (.value v) w'∨(execOp (ev r) o).run P w = .ok .skip w'∧v=undef)∧S w'∧Hw P n l Q S k (L.setIfInBounds i true) (er r o.dst v) w'):Hw P n l Q S (k+1) L r w:=by
 intro a h1 h2 h3
 refine wpAnyH_all hr mh fun j hj=>?_
 obtain ⟨o,hi,hg,v,w',hy,hS,hk⟩:=h j hj
 unfold wpOp
 rw [show (l.toArray)[j]? = some o by simpa using hi]
 simp only []
 rw [if_pos (qV hg)]
 refine .inl ?_
 unfold Oper.wp
 rw [oy,h3]
 rcases hy with hy | ⟨hy,rfl⟩
 ·rw [hy]
  exact ⟨hS,hk _ (by rw [gy]; exact h1) (by rw [fg]; exact h2) (by rw [jg (z8 hd hi h1),h3])⟩
 ·rw [hy]
  exact ⟨hS,hk _ (by rw [gy]; exact h1) (by rw [fg]; exact h2) (by rw [jg (z8 hd hi h1),h3])⟩
def on (L:Array Bool) (i:Nat):Array Bool:=L.setIfInBounds i true
def Gt (l:LO) (L:Array Bool) (rs:LN):Bool:=Region.ready .any l.toArray L == rs
inductive DF (P:Program) (Γ:QE) (fr:Fr) (d:Nat):Oper→Oper→TypeId→List Value→Prop
 | mk {t ty QQ:TI} {y:OO} {u:Value} {n:Nat} {us cs ds:LV} {pos Lk:String} {af Ll:Array Edge} [hz:xq P t cs] [ht:sS P t n] (hn:look fr d=none) (hy:bz fr y=some u) (hc:qf Γ u us) (hl:us.length=n) (hs:rb us 0 cs ds) (ho:ud Γ us) :
   DF P Γ fr d ⟨some d,.alloc t,ty,pos,af,none⟩ ⟨none,.store t (.tmp d) y,QQ,Lk,Ll,none⟩ t ds
section
variable {P:Program} {Γ:QE} {Z:Nat→Prop} {fr:Fr} {w:World} {cur F:LN}
theorem DF.alloc {d:Nat} {oa os:Oper} {t:TI} {ds:LV} (h:DF P Γ fr d oa os t ds) (r:NV) (w:World):oa.guard=none∧oa.dst=some d∧look fr d=none∧∃ cs w',(execOp (ev r) oa).run P w = .ok (.value (.pointer (some ⟨w.heap.size,0,none⟩))) w'∧aq [] w w'∧Row w' w.heap.size cs t∧
  ∀ (r':NV) (w1:World) (b:Nat) cur F,SA Z w1 Γ cur F→cn r' fr→r' d = .pointer (some ⟨b,0,none⟩)→Row w1 b cs t→∃ w2,(execOp (ev r') os).run P w1 = .ok .skip w2∧aq [b] w1 w2∧Row w2 b ds t:=by
 cases h with
 | @mk t ty QQ y u n us cs ds pos Lk af Ll hz ht hn hy hc hl hs ho=>
  obtain ⟨i',z,t1,t2,t3⟩:=hz.h
  refine ⟨rfl,rfl,hn,z.cells.toList,_,zu t1 t2,aq.alloc _ _ _,?_,?_⟩
  ·have:=heap_alloc_new w (.cells z.cells t (0,0))
   unfold Row
   simpa using this
  ·intro r' w1 b cur F hS ha hr br
   rw [t3] at br
   obtain ⟨ti,q1,q2⟩:=ht.h
   obtain ⟨e1,e2⟩:=hs.eq
   have ox:=vx (P:=P) (d:=none) (ty:=QQ) (pos:=Lk) (af:=Ll) (gg:=none) q1 (by rw [hl,q2]) br e1 (x:=.tmp d) hr (y:=y) (by rw [cB ha hy]; exact hc.eq hS) (ho.one hS)
   refine ⟨_,ox,⟨rfl,rfl,rfl,Nat.le_refl _,by simp,fun j _ hj=>setRow_other w1 b j _ fun h=>hj (by simp [h])⟩,?_⟩
   have tJ:=setRow_heap w1 b cs.toArray (cs.take 0++us++cs.drop (0+us.length)).toArray t _ br
   rw [e2]
   exact tJ
theorem DF.st {d:Nat} {oa os:Oper} {t:TI} {ds:LV} (h:DF P Γ fr d oa os t ds):os.guard=none∧os.dst=none:=by
 cases h; exact ⟨rfl,rfl⟩
variable {n:Nat} {l:LO} {Q:Exit→(Nat→Value)→World→Prop} {w0:World} {F2:LN} {a1 a2 s1 s2 d1 d2:Nat} {oa1 oa2 os1 os2:Oper} {t1 t2:TI} {ds1 ds2:LV} {L:Array Bool} {r:NV}
end
section
variable {R S:Type} {P:Program} {cx:Cx R} {K:cq R S} {l:LO}
end
end Go.Dk
namespace Go.Dk
open Go Go.Li
def QR (i:Nat) (o:Oper):Oper:=⟨o.dst,o.op,o.type,o.pos,o.after.push ⟨i,.data⟩,o.guard⟩
def ry (i:Nat):Nat→List Oper→List Oper
 | _,[]=>[]
 | 0,o :: l=>QR i o :: l
 | j+1,o :: l=>o :: ry i j l
theorem A6 (i:Nat):∀ (j:Nat) (l:LO),(ry i j l).length=l.length
 | _,[]=>by cases ‹Nat› <;> rfl
 | 0,_ :: _=>rfl
 | j+1,o :: l=>by unfold ry; rw [List.length_cons,List.length_cons,A6 i j l]
theorem yI (i:Nat):∀ (j:Nat) (l:LO) (k:Nat),(ry i j l)[k]? = (l[k]?).map fun o=>if k=j then QR i o else o
 | 0,[],k=>by simp [ry]
 | j+1,[],k=>by simp [ry]
 | 0,o :: l,0=>by simp [ry]
 | 0,o :: l,k+1=>by simp [ry]
 | j+1,o :: l,0=>by simp [ry]
 | j+1,o :: l,k+1=>by
  unfold ry
  rw [List.getElem?_cons_succ,List.getElem?_cons_succ,yI i j l k]
  simp
section
variable {P:Program} {l:LO} {Q:Exit→Act→World→Prop} {i j:Nat}
theorem Ft (tmps:Array Value):yielded (ry i j l).toArray tmps=yielded l.toArray tmps:=by
 funext k
 simp only [yielded]
 rw [List.getElem?_toArray,List.getElem?_toArray,yI]
 cases l[k]? with
 | none=>rfl
 | some o=>
  simp only [Option.map_some,Option.bind_some]
  by_cases h:k=j
  ·rw [if_pos h]; rfl
  ·rw [if_neg h]
theorem DG {k:Nat} {K:Act→World→Prop} {a:Act} {w:World}:wpOp P (ry i j l).toArray Q k K a w=wpOp P l.toArray Q k K a w:=by
 unfold wpOp
 rw [Ft,List.getElem?_toArray,List.getElem?_toArray,yI]
 cases l[k]? with
 | none=>rfl
 | some o=>
  simp only [Option.map_some]
  by_cases h:k=j
  ·rw [if_pos h]; rfl
  ·rw [if_neg h]
theorem BW {L:Array Bool} (hL:L.getD i false=true):Region.ready .any (ry i j l).toArray L=Region.ready .any l.toArray L:=by
 unfold Region.ready
 rw [List.size_toArray,List.size_toArray,A6]
 refine List.filter_congr fun k _=>?_
 rw [List.getElem?_toArray,List.getElem?_toArray,yI]
 cases l[k]? with
 | none=>rfl
 | some o=>
  simp only [Option.map_some]
  by_cases h:k=j
  ·rw [if_pos h]
   simp only [QR,Array.all_push,hL,Bool.or_true,Bool.and_true]
  ·rw [if_neg h]
theorem BX:∀ (fuel:Nat) (L:Array Bool) (a:Act) (w:World),L.getD i false=true→wpAny P .any (ry i j l).toArray Q fuel L a w→wpAny P .any l.toArray Q fuel L a w
 | 0,L,a,w,hL,h=>by
  unfold wpAny at h ⊢
  rw [BW hL] at h
  exact h
 | fuel+1,L,a,w,hL,h=>by
  unfold wpAny at h ⊢
  rw [BW hL] at h
  refine ⟨h.1,fun k hk=>?_⟩
  have h2:=h.2 k hk
  rw [DG] at h2
  exact wpOp_mono (fun a' w' h'=>BX fuel _ a' w' (getD_set_true hL) h') h2
end
def QS:Oper→Bool
 | ⟨some _,.move _,_,_,_,none⟩=>true
 | _=>false
def Lm:List (Nat×Nat)→List Oper→Bool
 | [],_=>true
 | (i,j) :: zs,l=>!(Nat.beq i j) && Nat.blt i l.length && QS (l.getD i default) && Region.noSelect l.toArray && Region.free .any l.toArray (Array.replicate l.length false) i && (Region.ready .any l.toArray (Array.replicate l.length false)).contains i && (Region.ready .any (ry i j l).toArray (Array.replicate l.length false)).contains i && Lm zs (ry i j l)
def QT:List (Nat×Nat)→List Oper→List Oper
 | [],l=>l
 | (i,j) :: zs,l=>QT zs (ry i j l)
section
variable {P:Program} {n:Nat} {Q:Exit→(Nat→Value)→World→Prop} {r:NV} {w w0:World}
theorem OI {o:Oper} (h:QS o=true) (a:Act):o.guard=none∧∃ v,(∀ w,(execOp a.eval o).run P w = .ok (.value v) w)∧∀ w,¬ o.asks P a w:=by
 obtain ⟨d,op,ty,pos,af,g⟩:=o
 cases d <;> cases op <;> cases g <;> first | (cases h; done) | skip
 refine ⟨rfl,_,fun w=>rfl,fun w ha=>?_⟩
 have h1:=ha.1
 exact absurd (show noRoomEvent∈(#[]:Array _) from h1) (by simp)
theorem nv.WT {i j:Nat} {l:LO} (h1:(!(Nat.beq i j) && Nat.blt i l.length && QS (l.getD i default) && Region.noSelect l.toArray && Region.free .any l.toArray (Array.replicate l.length false) i && (Region.ready .any l.toArray (Array.replicate l.length false)).contains i && (Region.ready .any (ry i j l).toArray (Array.replicate l.length false)).contains i)=true)
  (hp:∀ c r w,¬ Q (.panic c) r w) (h:nv P n (ry i j l) Q r w):nv P n l Q r w:=by
 simp only [Bool.and_eq_true] at h1
 obtain ⟨⟨⟨⟨⟨⟨c1,c2⟩,c3⟩,c4⟩,c5⟩,c6⟩,c7⟩:=h1
 have mh:i≠j:=fun e=>by rw [e,Nat.beq_refl] at c1; cases c1
 have hi:=A5 c2
 have bo:i < l.length:=Nat.lt_of_succ_le (Nat.le_of_ble_eq_true c2)
 intro a g1 g2 g3
 have H:=h a g1 g2 g3
 obtain ⟨hg,v,hv,hn⟩:=OI (P:=P) c3 a
 rw [List.size_toArray,A6] at H
 rw [List.size_toArray]
 obtain ⟨f,hf⟩ : ∃ f,l.length=f+1:=⟨l.length - 1,by omega⟩
 have hw:Region.wanted (l.getD i default) (yielded l.toArray a.tmps)=true:=qV hg
 refine (congrArg (fun k=>wpAny P .any l.toArray _ k _ a _) hf).mpr ?_
 refine wpAny_take (by simpa using hi) c4 (by simpa using c5) (by simpa using c6) (fun c a w h=>(hp _ _ _ h.2.2).elim) (.inl ⟨hw,hv⟩) ?_
 refine BX (i:=i) (j:=j) f _ _ _ ?_ ?_
 ·have:i < (Array.replicate l.length false).size:=by simpa using bo
  simp [Array.getD,bo]
 ·have H2:=(congrArg (fun k=>wpAny P .any (ry i j l).toArray (fun e a' w'=>a'.tmps.size=n∧a'.defers=[]∧Q e (ca a') w') k (Array.replicate l.length false) a { w with drawn:=w.drawn+1 }) hf).mp H
  have H3:=H2.2 i (by simpa using c7)
  rw [DG] at H3
  unfold wpOp at H3
  rw [show (l.toArray)[i]? = some (l.getD i default) by simpa using hi] at H3
  simp only [] at H3
  rw [if_pos hw] at H3
  rcases H3 with H3 | H3
  ·unfold Oper.wp at H3
   rw [hv] at H3
   exact H3
  ·exact absurd H3.1 (hn _)
theorem nv.T1:∀ (zs:List (Nat×Nat)) {l:LO},Lm zs l=true→(∀ c r w,¬ Q (.panic c) r w)→nv P n (QT zs l) Q r w→nv P n l Q r w
 | [],_,_,_,h=>h
 | (i,j) :: zs,l,hc,hp,h=>by
  unfold Lm at hc
  rw [Bool.and_eq_true] at hc
  exact nv.WT hc.1 hp (nv.T1 zs hc.2 hp h)
end
section
variable {R S:Type} {P:Program} {cx:Cx R} {K:cq R S}
end
end Go.Dk
namespace Go.Dk
open Go Go.Li
section
variable {B:Bs} {P:Program} {Z Z':Nat→Prop} {w:World} {Fd F1:LN}
end
section
variable {P:Program} {S:World→Prop}
theorem zd.mono {K K':(Nat→Value)→Prop} (hk:∀ r,K r→K' r):∀ {ops:LO} {r:NV},zd P S ops r K→zd P S ops r K'
 | [],_,h=>hk _ h
 | _ :: _,_,⟨hg,v,h1,h2⟩=>⟨hg,v,h1,zd.mono hk h2⟩
end
inductive QX {R S:Type} (P:Program) (cx:Cx R) (K:cq R S) (re:LO) (rs:List (Nat×List Value×TypeId)) (pe:QE):List ay→List ay→List Oper→Fr→Option (Out S R)→Prop
 | pe {e:ay} {Δ Γ:QE} {ops:LO} {fr:Fr} {m:Option (Out S R)} (h:QX P cx K re rs pe Δ (e :: Γ) ops fr m):QX P cx K re rs pe (e :: Δ) Γ ops fr m
 | nil {Γ:QE} {fr:Fr} {m:Option (Out S R)} {r6:List (Nat×List Value×TypeId)} (h:SQ P Γ fr re rs r6) (k:D P cx (.p [] pe fr Γ fun fr Γ=>.p [] (Hv r6) fr Γ fun fr Γ=>.n K Γ fr m)):QX P cx K re rs pe [] Γ [] fr m
 | IC {d n:Nat} {t ty:TI} {x:OO} {a:Addr} {ds:LV} {pos:String} {af:Array Edge} {ops:LO} {Γ:QE} {fr:Fr} {m:Option (Out S R)} [ht:LK P t (some n)] (hx:bz fr x=some (.pointer (some a))) (hw:sw Γ a n ds) (h:QX P cx K re rs pe [] Γ ops ((d,.agg ds.toArray) :: fr) m) :
   QX P cx K re rs pe [] Γ (⟨some d,.load t x,ty,pos,af,none⟩ :: ops) fr m
 | WU {α V:Type} {d n:Nat} {x y:OO} {v:Value} {k:IntKind} {j:Int} {t ty:TI} {S':ah α} {cl:α→V→List Value} {en:α→V→List ay} {xs:List α} {pos:String} {af:Array Edge} {ops:LO} {Γ Γx:QE} {fr:Fr} {f:α→Option (Out S R)} [ht:SNc P t n] (hx:bz fr x=some v) (hy:bz fr y=some (.int k j))
   (hr:qD Γ v false false (sr S') xs uW Γx) (hs:Vl S' V cl en) (hn:S'.size=n) (h:∀ z u,QX P cx K re rs pe (.bb (fi v n j) (cl z u) :: en z u) Γ ops ((d,.pointer (some (fi v n j))) :: fr) (f z)) :
   QX P cx K re rs pe [] Γ (⟨some d,.indexAddr t x y,ty,pos,af,none⟩ :: ops) fr (idx xs j>>=f)
 | lc {d:Nat} {t ty:TI} {x:OO} {a:Addr} {u:Value} {pos:String} {af:Array Edge} {ops:LO} {Γ:QE} {fr:Fr} {m:Option (Out S R)} [ht:LK P t none] (hx:bz fr x=some (.pointer (some a))) (hw:su Γ a u) (h:QX P cx K re rs pe [] Γ ops ((d,u) :: fr) m) :
   QX P cx K re rs pe [] Γ (⟨some d,.load t x,ty,pos,af,none⟩ :: ops) fr m
 | val {d:Nat} {op:Op} {ty:TI} {u:Value} {pos:String} {af:Array Edge} {ops:LO} {Γ:QE} {fr:Fr} {m:Option (Out S R)} (hv:VQ P Γ fr op u) (h:QX P cx K re rs pe [] Γ ops ((d,u) :: fr) m):QX P cx K re rs pe [] Γ (⟨some d,op,ty,pos,af,none⟩ :: ops) fr m
section
variable {R S:Type} {P:Program} {cx:Cx R} {K:cq R S} {re:LO} {rs:List (Nat×List Value×TypeId)} {pe:QE} {Z:Nat→Prop}
theorem QX.sound {w0:World} {H:LN} (hz:∀ b∈H,¬ Z b) {Δ Γ:QE} {ops:LO} {fr:Fr} {m:Option (Out S R)} (h:QX P cx K re rs pe Δ Γ ops fr m):∀ {o:Out S R} {F:LN},m=some o→(∀ b∈H,b ∉ F)→SA Z w0 (Δ.reverse++Γ) [] F→∀ r,cn r fr→
  zd P (aq H w0) ops r fun r'=>∃ Γ' nn r6 m' F',F'.Perm F∧m'=some o∧cn r' nn∧SA Z w0 Γ' [] F'∧SQ P Γ' nn re rs r6∧D P cx (.p [] pe nn Γ' fun fr Γ=>.p [] (Hv r6) fr Γ fun fr Γ=>.n K Γ fr m'):=by
 induction h with
 | @pe e Δ Γ ops fr m _ ih=>
  intro o F hm hF hS r ha
  refine ih hm hF ?_ r ha
  rw [List.reverse_cons,List.append_assoc] at hS
  exact hS
 | @nil Γ fr m r6 h k=>exact fun hm hF hS r ha=>⟨Γ,fr,r6,m,_,.refl _,hm,ha,hS,h,k⟩
 | @val d op ty u pos af ops Γ fr m hv _ ih=>
  intro o F hm hF hS r ha
  refine ⟨rfl,u,fun w hC=>?_,ih hm hF hS _ (bd ha)⟩
  exact hv.sound ((SA.dq hC hz (fun _ _=>List.not_mem_nil) hF hS)) ha (some d) ty pos af none w (aq.refl _ _)
 | @IC d n t ty x a ds pos af ops Γ fr m ht hx hw _ ih=>
  intro o F hm hF hS r ha
  refine ⟨rfl,_,fun w hC=>?_,ih hm hF hS _ (bd ha)⟩
  obtain ⟨h1,h2⟩:=hw.sound (SA.dq hC hz (fun _ _=>List.not_mem_nil) hF hS)
  exact Lg ht.h h1 (cB ha hx) h2 w (aq.refl _ _)
 | @lc d t ty x a u pos af ops Γ fr m ht hx hw _ ih=>
  intro o F hm hF hS r ha
  refine ⟨rfl,u,fun w hC=>?_,ih hm hF hS _ (bd ha)⟩
  exact Ld ht.h (hw.sound (SA.dq hC hz (fun _ _=>List.not_mem_nil) hF hS)) (cB ha hx) w (aq.refl _ _)
 | @WU α V d n x y v k j t ty S' cl en xs pos af ops Γ Γx fr f ht hx hy hr xp hn _ ih=>
  intro o F hm hF hS r ha
  replace xp:SO S' V cl en:=by cases xp; assumption
  obtain ⟨z,u6,hm⟩:=bind_some hm
  replace u6:=zq u6
  obtain ⟨e,i,h1,h2,h3⟩:=ht.h
  obtain ⟨dh,_,⟨⟨f0,Ni,tH⟩,_⟩,_⟩:=hr.sound hS
  have hZ:∀ b∈f0,Z b:=fun b hb=>(tH b hb).elim id id
  obtain ⟨⟨a,c,hv⟩,bo,cs,f1,e6,hf1,oK⟩:=vS Ni j u6.1 u6.2
  have sQ:(sr S').size=n:=hn
  rw [sQ] at oK
  obtain ⟨u,rfl,ru⟩:=xp.op e6.2
  have hblk:Z (fi v n j).block:=by
   obtain ⟨base,cap,n7,je⟩:=Ni
   rcases je with ⟨rfl,_⟩ | ⟨b,off,cr,e',fz,f',rfl,_,rfl,_⟩
   ·simp at bo; omega
   ·obtain rfl:v = .slice (some ⟨b,off,none⟩) xs.length cap:=by simpa using n7
    have:(fi (.slice (some ⟨b,off,none⟩) xs.length cap) n j).block=b:=by unfold fi; rw [xO]
    rw [this]; exact hZ b (by simp)
  have PS:fact Z w0 [] (.bb (fi v n j) (cl z u)):=⟨fun i u' hi=>oK i u' hi,fun _=>hblk⟩
  have jr:HL Z w0 (.bb (fi v n j) (cl z u) :: en z u) []:=.fact PS (CU (ru Z fun b hb=>hZ b (hf1 b hb)))
  obtain ⟨F',hp,n5⟩:=jr.build hS
  have VM:F'.Perm F:=by simpa using hp
  refine ⟨rfl,.pointer (some (fi v n j)),fun w hC=>?_,?_⟩
  ·rw [ya h1 h2 ((cB ha hx).trans hv) (cB ha hy) u6.1 (by omega),h3,hv]
   rfl
  ·have hq:=ih z u (F:=F') hm (fun b hb h=>hF b hb (VM.mem_iff.1 h)) n5 _ (bd ha)
   refine zd.mono ?_ hq
   rintro r' ⟨Γ',nn,r6,m',F3,q0,q1,q2,q3,q4,q5⟩
   exact ⟨Γ',nn,r6,m',F3,q0.trans VM,q1,q2,q3,q4,q5⟩
end
theorem FO.hl {Z:Nat→Prop} {w:World} {Δ:QE} (h:FO Δ):∀ {F:LN},HL Z w Δ F→F=[]:=by
 induction h with
 | nil=>intro F h; cases h; rfl
 | rd _ ih=>intro F h; cases h with | own h k=>exact h.elim | fact h k=>exact ih k
 | bb _ ih=>intro F h; cases h with | own h k=>exact h.elim | fact h k=>exact ih k
section
variable {P:Program} {n:Nat} {l:LO} {Q:Exit→(Nat→Value)→World→Prop} {S:World→Prop}
end
section
variable {R S:Type} {P:Program} {cx:Cx R} {K:cq R S} {l:LO}
end
section
variable {R:Type} {P:Program} {cx:Cx R}
end
end Go.Dk
namespace Go.Li
open Go
section
variable {P:Program} {n:Nat} {Q:Exit→(Nat→Value)→World→Prop} {r:NV} {w:World} {R:Type}
theorem OJ {c:Code} (hg:∀ l r w,¬ Q (.goto l) r w) (h:W P n c Q r w):W P n (.scope c) Q r w:=by
 intro a h1 h2 h3
 refine wp_scope_straight (wp_mono (h a h1 h2 h3) ?_)
 rintro e a' w' ⟨g1,g2,g3⟩
 cases e
 case goto l=>exact hg _ _ _ g3
 all_goals exact ⟨g1,g2,g3⟩
theorem OK {l:Nat} (h:Q .normal r w):W P n (.label l) Q r w:=fun a h1 h2 h3=>wp_label ⟨h1,h2,by rw [h3]; exact h⟩
end
end Go.Li
namespace Go.Dk
open Go Go.Li
section
variable {R:Type} {P:Program} {cx:Cx R} {S:Type}
theorem Hx {B:Bs} {b:Kb R S} {o:Out S R} {l:Nat} {r:NV} {w:World} : ¬ Cv P cx B b o (.goto l) r w:=by
 cases b <;> cases o <;> exact fun h=>h
theorem Hy {n l:Nat} {Q:Exit→(Nat→Value)→World→Prop} {r:NV} {w:World} (h : ¬ Q (.goto l) r w):∀ ez,¬ wE P n Q ez (.goto l) r w:=by
 intro ez
 induction ez with
 | nil=>exact h
 | cons a ez ih=>cases a <;> exact ih
theorem QU {K:cq R S} {c:Code} {b e:Nat} {cs:LV} {Γ Γ1:QE} {fr:Fr} {m:Option (Out S R)} (h1:dy Γ (.row b cs e) Γ1) (h:D P cx (.c K c (.bb ⟨b,0,none⟩ cs :: Γ1) fr m)):D P cx (.c K c Γ fr m):=by
 refine D.of ?_
 intro B o ho r w ha hs
 refine h.sound B o ho r w ha ?_
 obtain ⟨Z,F,hS,hG⟩:=hs
 obtain ⟨f,F1,hp,⟨rfl,br⟩,j5⟩:=h1.sound hS
 have CY:(F1++[b]).Perm F:=List.perm_append_comm.trans hp
 have pg:=Gd.freeze (hG.perm CY) fun c hc=>by rw [List.mem_singleton.1 hc]; exact br.lt
 exact ⟨rP Z [b],F1,SA.fact (j5.mono (fun _ h=>.inl h) fun _ h=>h) ⟨br.at,fun _=>.inr (by simp)⟩,pg⟩
theorem T2 {M α:Type} {all l:LO} {rk:RK R M} {T E:ah α} {v:Value} {y:α} {Γ Γ1:QE} {fr:Fr} {m:Option M} (h1:dy Γ (.own T v y) Γ1) (hl:Le T E) (h:D P cx (.o false all l rk (.rd false E v y :: Γ1) fr m)):D P cx (.o false all l rk Γ fr m):=by
 refine D.of ?_
 intro B o ho r w ha hs
 refine h.sound B o ho r w ha ?_
 obtain ⟨Z,F,hS,hG⟩:=hs
 obtain ⟨f,F1,hp,hO,j5⟩:=h1.sound hS
 have CY:(F1++f).Perm F:=List.perm_append_comm.trans hp
 have pg:=Gd.freeze (hG.perm CY) fun c hc=>ah.lt _ hO c hc
 exact ⟨rP Z f,F1,SA.fact (j5.mono (fun _ h=>.inl h) fun _ h=>h) ⟨f,hl.le hO,fun c hc=>.inr hc⟩,pg⟩
theorem T3 {M α:Type} {T:ah α} (d:Nat) {op:Op} {ty:TI} {pos:String} {af:Array Edge} {all l:LO} {rk:RK R M} {v:Value} {y:α} {Γ Γ1:QE} {fr:Fr} {m:Option M} (h1:dy Γ (.own T v y) Γ1) (h:D P cx (.e false op (some d) ty all l rk (.rd false T v y :: Γ1) fr m)):D P cx (.o false all (⟨some d,op,ty,pos,af,none⟩ :: l) rk Γ fr m):=
 T2 h1 (Le.refl _) (.plain h)
theorem rgs {K:cq R S} {ops:LO} {Γ:QE} {fr:Fr} {m:Option (Out S R)} (h:D P cx (.rg false true ops K Γ fr m)):D P cx (.rg true true ops K Γ fr m):=D.of (show lz P cx _ from h.sound)
theorem scp {K:cq R S} {c:Code} {Γ:QE} {fr:Fr} {m:Option (Out S R)} (h:D P cx (.c K c Γ fr m)):Bx (lz P cx (.c K (.scope c) Γ fr m)):=by
 rw [ma]
 exact fun B o ho r w ha hs=>OJ (fun l r w=>Hy Hx _) (h.sound B o ho r w ha hs)
theorem lab {K:cq R S} {l:Nat} {Γ:QE} {fr:Fr} {m:Option (Out S R)} (h:D P cx (.n K Γ fr m)):Bx (lz P cx (.c K (.label l) Γ fr m)):=by
 rw [ma]
 exact fun B o ho r w ha hs=>OK (h.sound B o ho r w ha hs)
section
variable {S1 V:Type} {k j:Nat} {Δ:S1→V→List ay} {φ:S1→V→Fr} {Γ2 Γ Γ1 Γ3:QE} {f2 fr:Fr} {s:S1} {v:V} (hv:sP V v) (ha:p6 fr (φ s v)) (hf:p6 fr f2) (h0:EO Γ (Δ s v) Γ1) (hw:OW Γ (Δ s v)) (h1:EO Γ1 Γ2 Γ3) (h2:MF Γ none Γ2)
include hv ha hf h0 hw h1 h2
theorem nlx:Bx (lz P cx (.n ⟨[],.lx V k j Δ φ Γ2 f2⟩ Γ fr (some (.norm s)))):=by
 have _:=hv
 rw [ma]
 intro B o ho r w ph hs
 cases ho
 exact ⟨v,nt (ha.all ph) (hf.sound ph),hs.again h0 hw h1 h2⟩
theorem xlx:Bx (lz P cx (.x k ⟨[],.lx V k j Δ φ Γ2 f2⟩ Γ fr (some (.exit k s)))):=by
 have _:=hv
 rw [ma]
 intro B o ho r w ph hs
 cases ho
 refine ⟨rfl,?_⟩
 show (bif Nat.beq k k then _ else _)
 rw [show Nat.beq k k=true from Nat.beq_refl k]
 exact ⟨v,nt (ha.all ph) (hf.sound ph),hs.again h0 hw h1 h2⟩
theorem xlo (hj:Nat.beq j k=false):Bx (lz P cx (.x j ⟨[],.lx V k j Δ φ Γ2 f2⟩ Γ fr (some (.exit j s)))):=by
 have _:=hv
 rw [ma]
 intro B o ho r w ph hs
 cases ho
 refine ⟨rfl,?_⟩
 show (bif Nat.beq j k then _ else bif Nat.beq j j then _ else _)
 rw [hj,show Nat.beq j j=true from Nat.beq_refl j]
 exact ⟨v,nt (ha.all ph) (hf.sound ph),hs.again h0 hw h1 h2⟩
end
theorem T4 {S1 V:Type} (k j:Nat) (Δ:S1→V→List ay) (φ:S1→V→Fr) (v0:V) (f2:Fr) {ez:List KI} {kb:Kb R S} {c:Code} {s0:S1} {body:S1→Option (Out S1 R)} {f g:S1→Option (Out S R)} {Γ Γ1 Γ2:QE} {fr:Fr}
   (hj:Nat.beq j k=false) (ha:p6 fr (φ s0 v0)) (hf:p6 fr f2) (h0:EO Γ (Δ s0 v0) Γ1) (hn:OW Γ (Δ s0 v0)) (hs:ic Γ1 Γ2)
   (hb:∀ s v,D P cx (.p (φ s v) (Δ s v) f2 Γ2 fun fr Γ=>.c ⟨[],.lx V k j Δ φ Γ2 f2⟩ c Γ fr (body s)))
   (hk:∀ s v,D P cx (.p (φ s v) (Δ s v) f2 Γ2 fun fr Γ=>.mn ⟨ez,kb⟩ Γ fr (f s)))
   (hg:∀ s v,D P cx (.p (φ s v) (Δ s v) f2 Γ2 fun fr Γ=>.x j ⟨ez,kb⟩ Γ fr (g s))):Bx (lz P cx (.bk true k ⟨ez,kb⟩ (.loop c) Γ fr (Gv k j (Li.ai body s0) f g))):=by
 rw [ma]
 intro B o ho r w ph mw
 cases hl:Li.ai body s0 with
 | none=>rw [hl] at ho; cases ho
 | some o1=>
  rw [hl] at ho
  refine r5 (DH (N:=LI B Δ φ Γ2 f2) (X:=fun i s r w=>bif Nat.beq i j then LI B Δ φ Γ2 f2 s r w else False) (T:=TT P cx B) (Gw (LI B Δ φ Γ2 f2) (fun s r w ⟨v,h1,h2⟩ o ho=>(hb s v).sound B o ho r w h1 h2) hl ⟨v0,nt (ha.all ph) (hf.sound ph),mw.enter h0 hn hs⟩)) ?_
  intro e r' w' hq
  cases o1 with
  | norm s=>cases ho
  | ret z=>cases ho; cases e <;> first | exact hq.elim | exact sR hq
  | exit i s=>
   unfold Gv at ho
   dsimp only at ho
   unfold A8 at hq
   dsimp only at hq
   cases hi:Nat.beq i k with
   | true=>
    rw [hi] at ho hq
    cases e <;> first | exact hq.elim | skip
    obtain ⟨v,h1,h2⟩:=hq
    exact (hk s v).sound B o ho r' w' h1 h2
   | false=>
    rw [hi] at ho hq
    cases si:Nat.beq i j with
    | false=>rw [si] at ho; cases ho
    | true=>
     rw [si] at ho
     cases e with
     | exit i'=>
      obtain ⟨rfl,hq⟩:=hq
      rw [si] at hq
      obtain ⟨v,h1,h2⟩:=hq
      obtain rfl:=Nat.eq_of_beq_eq_true si
      exact (hg s v).sound B o ho r' w' h1 h2
     | _=>exact hq.elim
end
abbrev rI:Value→List Int→ay:=.rd false (bB (aK .i64))
abbrev rJ:Value→List (List Int)→ay:=.rd false (bB (bB (aK .i64)))
class FE (p:Prop):Prop where
 u:True
instance {o:Bool} {a b:QE}:FE (ER o a b):=⟨trivial⟩
instance {a:QE} {b:LV}:FE (ud a b):=⟨trivial⟩
instance {a b c:QE}:FE (EF a b c):=⟨trivial⟩
instance {a b c:QE}:FE (EO a b c):=⟨trivial⟩
instance {a b:QE}:FE (EP a b):=⟨trivial⟩
instance {a c d:LV} {b:Nat}:FE (rb a b c d):=⟨trivial⟩
instance {a b:Nat} {c d:LV}:FE (rQ a b c d):=⟨trivial⟩
instance {a:LN} {b:Option (Bool×Nat×Value)} {c d:Fr}:FE (Kp a b c d):=⟨trivial⟩
instance {V:Type} {v:V}:FE (sP V v):=⟨trivial⟩
instance {a:QE} {b:Addr} {c:Nat} {d:LV}:FE (sw a b c d):=⟨trivial⟩
theorem fe {p:Prop} [FE p] (h:p):p:=h
section
variable {R:Type} {P:Program} {cx:Cx R} {fr:Fr}
theorem lgP {M α:Type} {d:Nat} {t e ty:TI} (E:ah α) {z0:Value} {bt:Nat} {all l:LO} {rk:RK R M} {Γ:QE} {m:Option M} (hE:E.size=1) [hz:qG P t Value e nr z0 bt]
  (h:∀ v,D P cx (.o false all l rk (.om e E v [] :: Γ) ((d,v) :: fr) m)):D P cx (.e false (.buildSlice t 0 #[]) (some d) ty all l rk Γ fr m):=by
 refine .G8 (E:=nr) (z0:=z0) (bt:=bt) fun v=>D.of ?_
 intro B o ho r w ha hs
 refine (h v).sound B o ho r w ha ?_
 obtain ⟨Z,F,⟨f,F',rfl,h2,h3⟩,hG⟩:=hs
 have h4:lu Z w f (.om e E v []):=⟨[],[],h2,⟨rfl,rfl⟩,fun _ hb=>absurd hb List.not_mem_nil,hE⟩
 exact ⟨Z,f++F',⟨f,F',rfl,h4,h3⟩,hG⟩
theorem apP {M α V:Type} (y:α) {d b c:Nat} {s x:OO} {sv:Value} {u:V} {cs:LV} {xs:List α} {t e et t2 ty:TI} {S:ah α} {cl:α→V→List Value} {en:α→V→List ay} {z0:Value} {bt:Nat} {all l:LO} {rk:RK R M} {Γ Γ1 Γ2 Γ3:QE} {f:Unit→Option M} [hT:qG P t Value e nr z0 bt]
  (hs:bz fr s=some sv) (hx:bz fr x=some (.slice (some ⟨b,0,none⟩) 1 1)) (h0:dy Γ (.row b [.pointer (some ⟨c,0,none⟩)] et) Γ1) (hc:dy Γ1 (.row c cs t2) Γ2) (h2:dy Γ2 (.om e (lv S) sv xs) Γ3) [xp:SO S V cl en] (_hv:sP V u) (vG:cs=cl y u) (he:en y u=[])
  (h:∀ v,D P cx (.o false all l rk (.om e (lv S) v (xs++[y]) :: Γ3) ((d,v) :: fr) (f ()))):D P cx (.e false (.call ⟨.builtin .append,#[s,x],#[t,t]⟩) (some d) ty all l rk Γ fr (fits bt (xs.length+1)>>=f)):=by
 refine D.of ?_
 intro B o ho r w ha mw pos af g
 obtain ⟨_,hu,ho⟩:=bind_some ho
 obtain ⟨b1,b2⟩:=rq hu
 obtain ⟨q1,_,i,z,q3,q4,q5,q6,q7,_⟩:=hT.h
 obtain ⟨Z,F,hS,hG⟩:=mw
 obtain ⟨n0,F0,zR,⟨rfl,br⟩,zS⟩:=h0.sound hS
 obtain ⟨n1,F1,vL,⟨rfl,vH⟩,j5⟩:=hc.sound zS
 obtain ⟨g0,k1,k2⟩:=xp.cl (w:=w) (x:=y) (v:=u) (Z:=Z) (by rw [he]; intro e he; cases he)
 have BU:Gd B Z ([c]++F1) w:=Gd.left (F':=[b]) (hG.perm ((List.perm_append_comm.trans (vL.append_left [b])).trans zR))
 have pg:=Gd.freeze (BU.perm List.perm_append_comm) fun a ha=>by rw [List.mem_singleton.1 ha]; exact vH.lt
 have n5:SA (rP Z [c]) w Γ2 [] F1:=j5.mono (fun _ h=>.inl h) fun _ h=>h
 obtain ⟨n,F2,hp,⟨us,gg,hO,hr,Nb,h1s⟩,hS3⟩:=h2.sound n5
 have jm:=pg.perm hp
 have ey:=List.nodup_append.1 jm.nd
 have VN:∀ a∈n,¬ rP Z [c] a:=fun a ha=>jm.apart a (List.mem_append_left _ ha)
 have hk:(lv S).rep w.heap [.pointer (some ⟨c,0,none⟩)] y (c :: g0):=by
  refine ⟨⟨c,0,none⟩,cl y u,g0,rfl,vH.lt,fun j v hj=>?_,k1,rfl⟩
  have:=vH.at (j:=j) (u:=v)
  rw [vG] at this
  exact this hj
 have VO:∀ a∈c :: g0,rP Z [c] a:=fun a ha=>by
  rcases List.mem_cons.1 ha with rfl | ha
  ·exact .inr (by simp)
  ·exact .inl (k2 a ha)
 refine gp (QV.tX (E:=lv S) (G:=n) (B:=w.heap.size) (g:=gg) (k:=c :: g0) q1 q3 q4 q5 q6 (cB ha hs) ⟨us,⟨hO,ey.1,fun a ha=>.inl ha⟩,hr,h1s⟩ (cB ha hx) br hk (fun a ha hm=>VN a hm (VO a ha)) (fun a ha hm=>VN a hm (Nb a ha)) (by rw [q7]; exact b1) b2 (Nat.le_refl _) fun v w' f' hC p8 ei=>?_)
 obtain ⟨us',db,je,WV⟩:=p8
 exact (h v).sound B o ho _ w' (bd ha) (St.put hS3 jm hC ⟨us',_,db.1,je,(fun a ha=>(List.mem_append.1 ha).elim (Nb a) (VO a)),WV⟩ db.2.1 fun a ha=>(ei a ha).elim .inl fun h=>h.elim (fun h=>absurd h List.not_mem_nil) .inr)
end
end Go.Dk
namespace Go.Dk
open Go Go.Li
def uw (j:Nat) (b:Bool) (o:Oper):Oper:=
 match o.guard with
 | none=>o
 | some (j',p)=>bif Nat.beq j' j && (p == b) then ⟨o.dst,o.op,o.type,o.pos,o.after,none⟩ else o
def j9 (j:Nat) (b:Bool) (l:LO):List Oper:=l.map (uw j b)
def DI (l:LO) (j:Nat):Bool:=(List.range l.length).all fun i=>match (l.getD i default).guard with | none=>true | some (j',_)=>Nat.beq j' j && ((bp l).getD i []).contains j
section
variable {j:Nat} {b:Bool} {l:LO}
theorem Lo (o:Oper):(uw j b o).dst=o.dst:=by
 unfold uw
 split
 ·rfl
 ·cases Nat.beq _ j && (_ == b) <;> rfl
theorem Hz (o:Oper):(uw j b o).after=o.after:=by
 unfold uw
 split
 ·rfl
 ·cases Nat.beq _ j && (_ == b) <;> rfl
theorem Lp {P:Program} {o:Oper} {r:NV} {w:World} {K:Value→World→Prop}:eg P (uw j b o) r w K=eg P o r w K:=by
 obtain ⟨d,op,ty,pos,af,g⟩:=o
 unfold uw
 split
 ·rfl
 ·cases Nat.beq _ j && (_ == b) <;> rfl
theorem Gx (i:Nat):(j9 j b l)[i]? = (l[i]?).map (uw j b):=by unfold j9; rw [List.getElem?_map]
theorem qz:(j9 j b l).length=l.length:=by unfold j9; rw [List.length_map]
theorem tY (i:Nat):bh (j9 j b l) i=bh l i:=by
 unfold bh
 rw [Gx]
 cases l[i]? with
 | none=>rfl
 | some o=>exact Lo o
theorem rf:bp (j9 j b l)=bp l:=by
 unfold bp j9
 rw [List.foldl_map]
 congr 1
 funext acc o
 unfold iz
 rw [Hz]
theorem QW (r:NV):yl (j9 j b l) r=yl l r:=by
 funext i
 have h:=tY (j:=j) (b:=b) (l:=l) i
 unfold bh at h
 unfold yl
 rw [h]
theorem DJ {S:List ep} {k:Nat} {g:Nat→List Nat} {r:NV} {w:World}:rT (j9 j b l) S k g r w=rT l S k g r w:=by unfold rT; rw [tY]
theorem A9 {S:List ep} {k:Nat} {r:NV}:Old (j9 j b l) S k r=Old l S k r:=by unfold Old; rw [tY]
theorem BY {U:LL} {m i k:Nat}:ov (j9 j b l) U m i k=ov l U m i k:=by unfold ov; rw [rf]
theorem I6 {U:LL} {m i:Nat}:u4 (j9 j b l) U m i=u4 l U m i:=by unfold u4; rw [rf,qz]
theorem Lq {U:LL} {m:Nat}:iu (j9 j b l) U m=iu l U m:=by
 unfold iu
 rw [qz]
 refine List.map_congr_left fun i _=>?_
 congr 1
 funext k
 exact BY
theorem fy.pas {P:Program} {m:Nat} {S:List ep} {U:LL} {r0:NV} {w0:World} {H:LN} {i d:Nat} (h:fy P (j9 j b l) m S U r0 w0 H i) (hg:DI l j=true) (hd:bh l j=some d)
  (hk:j∈(bp l).getD i []→∀ r,(∀ k∈(bp l).getD i [],Old l S k r)→r d = .bool b):fy P l m S U r0 w0 H i:=by
 intro o s ho hs g r w hC hV kn hn jw mx hf
 unfold fy at h
 simp only [rf,qz,I6,BY,DJ,A9,tY,QW] at h
 have h2:=h (uw j b o) s (by rw [Gx,ho]; rfl) hs g r w hC hV kn hn jw mx hf
 rw [Lp] at h2
 have hgo:match o.guard with | none=>True | some (j',_)=>j'=j∧j∈(bp l).getD i []:=by
  unfold DI at hg
  rw [List.all_eq_true] at hg
  have hi:=(List.getElem?_eq_some_iff.1 ho).1
  have:=hg i (List.mem_range.2 hi)
  rw [List.getD_eq_getElem?_getD,ho] at this
  simp only [Option.getD_some] at this
  revert this
  cases o.guard with
  | none=>exact fun _=>trivial
  | some q=>
   intro this
   simp only [Bool.and_eq_true] at this
   exact ⟨Nat.eq_of_beq_eq_true this.1,by simpa using this.2⟩
 have hw:Region.wanted o (yl l r)=Region.wanted (uw j b o) (yl l r):=by
  obtain ⟨d',op,ty,pos,af,gd⟩:=o
  cases gd with
  | none=>rfl
  | some q=>
   obtain ⟨j',p⟩:=q
   obtain ⟨rfl,xr⟩ : j'=j∧j∈(bp l).getD i []:=hgo
   unfold uw
   dsimp only
   rw [Nat.beq_refl,Bool.true_and]
   cases hp:p == b with
   | false=>rfl
   | true=>
    obtain rfl:p=b:=eq_of_beq hp
    unfold Region.wanted
    dsimp only [cond_true]
    rw [G7 hd,hk xr r kn]
    simp
 rw [hw]
 exact h2
end
section
variable {R S:Type} {P:Program} {cx:Cx R} {K:cq R S} {l:LO} {base fr:Fr} {w:World} {Z:Nat→Prop}
def mark (j d:Nat) (b:Bool):List Nat:=[j+1000000,d+1000000,(bif b then 1 else 0)+1000000]
theorem Lr {U:LL} {sl:LQ} {ms:MM} {j d:Nat} {b:Bool} (h:vw (U++[mark j d b]) sl ms=true):(j,d,.bool b)∈sl:=by
 unfold vw at h
 rw [Bool.and_eq_true] at h
 have h2:=h.2
 unfold Vz at h2
 have e:(U++[mark j d b]).getLastD []=mark j d b:=by simp [List.getLastD_eq_getLast?]
 rw [e] at h2
 have e2:Nat.ble 1000000 ((mark j d b).headD 0)=true:=Nat.ble_eq_true_of_le (by show 1000000≤j+1000000; omega)
 rw [e2,cond_true] at h2
 unfold No mark at h2
 dsimp only at h2
 rw [Nat.add_sub_cancel,Nat.add_sub_cancel] at h2
 have:=BO h2
 have e3:Nat.beq ((bif b then 1 else 0)+1000000) 1000001=b:=by cases b <;> rfl
 rwa [e3] at this
theorem Ls {id j d:Nat} {b:Bool} {U:LL} {Dn:QE} (hU:((List.range l.length).all fun i=>((U++[mark j d b]).getD i []).all fun u=>Nat.beq u l.length || ((bp l).getD i []).contains u)=true) (hh:j4 (j9 j b l) l.length base=true) (hd:cu cx.n l=true) (hA:um l l.length []=true) (hZ:zW l l.length []=true) (hg:DI l j=true) (mx:bh l j=some d) {i:Nat} {sl:LQ} {ms:MM} {Γ:QE} {m:Option (Out S R)} (Dp:wN ms=true) (ru:vw (U++[mark j d b]) sl ms=true)
  (h:∀ x:nu ms,D P cx (.p (vv sl (mF ms x)) (xV ms x) base Γ fun fr Γ=>.tg false (wG []) (j9 j b l) [] K Γ fr m)):Dj P cx K (j9 j b l) l l.length (U++[mark j d b]) Dn id base (.a [] [] i sl ms Γ m):=by
 rintro ⟨_,h2,h3⟩ B o ho r0 w0 H Z ha hs ⟨S',hl,hR,hO⟩
 have hi:S'.length=l.length:=by
  have:=congrArg List.length h2
  simp [qz] at this
  omega
 have Qn:=hs
 obtain ⟨F,Hd,⟨xu,xw,rU,xx⟩,hS,hG⟩:=hs
 have hm:=Lr ru
 have hO2:∀ k,k < l.length→fy P l l.length S' (U++[mark j d b]) r0 w0 H k:=fun k hk=>by
  refine fy.pas (hO k (by omega)) hg mx fun xr r hr=>?_
  refine hR.xW (S2:=[]) hm fun q hq _=>?_
  rw [List.append_nil,A9]
  rw [rf] at hq
  refine hr q (hq.elim (fun e=>e ▸ xr) fun e=>?_)
  have:=hR.t k q j
  rw [rf] at this
  exact this e xr
 refine IV (N:=Z) (S:=S') (U:=U++[mark j d b]) (H:=H) hd hA hZ (fun c r w h=>za c h) (Nat.le_refl _) hi rU hU (fun b hb=>⟨hG.qT b hb,fun h=>hG.apart b (List.mem_append_left _ h) hb⟩) (fun i s hs=>?_) hO2 ?_
 ·have:=hR.s i s hs
  unfold IJ at this
  rw [rf] at this
  simp only [tY] at this
  exact this
 intro g r w hI
 rw [List.drop_length]
 refine Dm (tail:=[]) hh Dp ru h ho ha Qn hi hR g r w ?_
 obtain ⟨i1,i2,i3,i4,i5,i6,i7,i8,i9⟩:=hI
 exact ⟨i1,fun hk=>by rw [qz] at hk ⊢; exact i2 hk,by rw [qz]; exact i3,by rw [qz]; exact i4,fun k hk hn=>by rw [DJ]; exact i5 k hk hn,fun k hk=>by rw [A9]; exact i6 k hk,fun t ht=>i7 t fun k hk=>by rw [← tY (j:=j) (b:=b)]; exact ht k hk,by rw [qz]; exact i8,i9⟩
theorem NI {id j d:Nat} {b:Bool} (U as:LL) {Γ:QE} {m:Option (Out S R)}
  (hB:(cu cx.n l && um l l.length [] && zW l l.length [] && DI l j && (iu l (U++[mark j d b]) l.length == as) && ((List.range l.length).all fun i=>((U++[mark j d b]).getD i []).all fun u=>Nat.beq u l.length || ((bp l).getD i []).contains u))=true)
  (mx:bh l j=some d) (hf:Kp (vu l) none fr base) (hh:j4 (j9 j b l) l.length base=true)
  (h:AD false P cx K (j9 j b l) [] base (U++[mark j d b]) [] (.a as (j9 j b l) 0 [] [] Γ m)):∀ B o,m=some o→∀ r w,cn r fr→St B Γ w→nv P cx.n l (iT P cx B K o) r w:=by
 simp only [Bool.and_eq_true] at hB
 obtain ⟨⟨⟨⟨⟨b2,b3⟩,b4⟩,b5⟩,b6⟩,b7⟩:=hB
 intro B o hm r w ha hs
 obtain ⟨Z,F,hS,hG⟩:=hs
 have hX:qJ B Z [] Γ [] w:=⟨F,[],⟨rfl,fun b hb=>absurd hb List.not_mem_nil,fun b hb=>absurd hb List.not_mem_nil,List.nodup_nil⟩,hS,hG⟩
 refine AD.sound (id:=id) (mt:=l.length) hh (fun _ _ _ _ _ _ hs he h=>Ls b7 hh b2 b3 b4 b5 mx hs he h) h
  ⟨by rw [List.drop_zero,Lq]; exact (eq_of_beq b6).symm,by rw [List.drop_zero,← qz (j:=j) (b:=b),List.take_length],Nat.zero_le _⟩ B o hm r w [] Z (hf.sound ha) hX ⟨[],rfl,⟨fun _ h=>absurd h List.not_mem_nil,fun _ h=>absurd h List.not_mem_nil,fun i s h=>by simp at h,List.nodup_nil,fun _ _ _ h1 h2=>by rw [rf] at h1 h2 ⊢; exact wQ l (BQ b3) h1 h2⟩,fun j hj=>absurd hj (Nat.not_lt_zero j)⟩
theorem QY {id:Nat} (j d:Nat) (U as:LL) {Γ:QE} {m1 m2:Option (Out S R)}
  (hB:(P.follows .mixedOrders && cu cx.n l && um l l.length [] && zW l l.length [] && DI l j && (iu l (U++[mark j d true]) l.length == as) && (iu l (U++[mark j d false]) l.length == as) && ((List.range l.length).all fun i=>((U++[mark j d true]).getD i []).all fun u=>Nat.beq u l.length || ((bp l).getD i []).contains u) && ((List.range l.length).all fun i=>((U++[mark j d false]).getD i []).all fun u=>Nat.beq u l.length || ((bp l).getD i []).contains u))=true)
  (mx:bh l j=some d) (hf:Kp (vu l) none fr base) (h1':j4 (j9 j true l) l.length base=true) (Nj:j4 (j9 j false l) l.length base=true)
  (h1:AD false P cx K (j9 j true l) [] base (U++[mark j d true]) [] (.a as (j9 j true l) 0 [] [] Γ m1)) (h2:AD false P cx K (j9 j false l) [] base (U++[mark j d false]) [] (.a as (j9 j false l) 0 [] [] Γ m2)):Bx (lz P cx (.dr id l K Γ fr (QZ m1 m2))):=by
 simp only [Bool.and_eq_true] at hB
 obtain ⟨⟨⟨⟨⟨⟨⟨⟨b0,b2⟩,b3⟩,b4⟩,b5⟩,b6⟩,b6'⟩,b7⟩,b7'⟩:=hB
 rw [ma]
 intro B o ho r w ha hs
 refine nv.W b0 ?_
 cases hm:m1 with
 | some o'=>
  have e:o'=o:=by rw [hm] at ho; exact Option.some.inj ho
  exact NI (id:=id) U as (by simp only [Bool.and_eq_true]; exact ⟨⟨⟨⟨⟨b2,b3⟩,b4⟩,b5⟩,b6⟩,b7⟩) mx hf h1' h1 B o (by rw [hm,e]) r w ha hs
 | none=>exact NI (id:=id) U as (by simp only [Bool.and_eq_true]; exact ⟨⟨⟨⟨⟨b2,b3⟩,b4⟩,b5⟩,b6'⟩,b7'⟩) mx hf Nj h2 B o (by rw [hm] at ho; exact ho) r w ha hs
end
end Go.Dk
namespace Go.Dk
open Go Go.Li
theorem OL {P:Program} {g:FuncId} {vs:LV} {Δ:QE} {β:Type} {m:Option β} {ow:Bool} {rt:β→Unit→List Value} (hc:Ct P g ow m vs Δ rt (fun _ _=>[])) {w:World} (hl:HL (fun b=>b < w.heap.size) w Δ []) {y:β} (hy:m=some y) :
  Calls P g vs.toArray w fun e w'=>e = .returned (rN (rt y ()))∧aq [] w w':=by
 rw [uV] at hc
 refine (hc.2 w _ [] hl List.nodup_nil (fun _ h=>absurd h List.not_mem_nil) (fun _ h=>h) y hy).mono ?_
 rintro e w' ⟨_,he,Z,F,_,hg⟩
 exact ⟨he,hg.jf⟩
theorem fv {w:World} {α:Type} {T:ah α} {v:Value} {x:α} {f:LN} (h:T.rep w.heap [v] x f):fact (fun b=>b < w.heap.size) w [] (.rd false T v x):=⟨f,h,fun b hb=>T.lt h b hb⟩
end Go.Dk
