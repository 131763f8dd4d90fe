/- A region that draws its order: its head in any order, whatever it holds, its tail quiet and behind all of the head. No condition. -/
import Derived.Test.YtcnehblmgfbfoaaGreatDg
import Derived.Deep.Quiet
import Derived.Laws.Slices
import Derived.OrdersHeld
import Derived.Scope
namespace Go.Li
open Go
section
variable {P:Program} {n:Nat} {Q:Exit→(Nat→Value)→World→Prop} {r0:NV} {w0:World} {l:LO} {S:List dx}
def wh (l:LO) (m:Nat):Bool:=
 ((List.range l.length).all fun i=>((l.getD i default).after.toList.filter (Region.binds .any)).all fun e=>Nat.blt e.on i) &&
 ((List.range l.length).all fun i=>Nat.blt i m || (List.range m).all fun j=>((bn l).getD i []).contains j) &&
 xt ((l.take m).filterMap (·.dst)) && Region.noSelect l.toArray && Region.lexFrom .any l.toArray (l.length - m) m (List.replicate m true++List.replicate (l.length - m) false).toArray
theorem Gm {m:Nat} (h:wh l m=true):∀ (i:Nat) (o:Oper),l[i]? = some o→∀ e∈o.after.toList.filter (Region.binds .any),e.on < i:=by
 simp only [wh,Bool.and_eq_true,List.all_eq_true,List.mem_range] at h
 intro i o ho e he
 have hi:i < l.length:=(List.getElem?_eq_some_iff.1 ho).1
 have:=h.1.1.1.1 i hi e (by rw [List.getD_eq_getElem?_getD,ho]; exact he)
 exact Nat.lt_of_succ_le (Nat.le_of_ble_eq_true this)
theorem Nn {m:Nat} {U:LL} {H:LN} {N:Nat→Prop} (hd:cg n l=true) (hA:wh l m=true) (CK:m≤l.length)
  (hS:S.length=m)
  (hH:∀ b∈H,b < w0.heap.size) (hU:((List.range m).all fun i=>(U.getD i []).all fun u=>Nat.beq u l.length || ((bn l).getD i []).contains u)=true)
  (hN:∀ b,N b→b < w0.heap.size∧b ∉ H)
  (nk:∀ (i:Nat) (s:dx),S[i]? = some s→∀ f F (w w':World) (r r':NV) v,ao F w w'→(∀ b∈f,b ∉ F)→(∀ b∈F,¬ N b)→(∀ j∈(bn l).getD i [],∀ t,bg l j=some t→r' t=r t)→s.V f w r v→s.V f w' r' v)
  (J5:∀ i,i < m→fc P l m S U r0 w0 H i)
  (next:∀ g r w,tM l m S U r0 w0 H (fun j=>j < m) g r w→QL P (ao [] w) l (l.drop m) r fun r'=>∀ w',ao [] w w'→Q .normal r' w') :
  kp P n l Q r0 w0:=by
 simp only [wh,Bool.and_eq_true,List.all_eq_true,List.mem_range,Bool.or_eq_true] at hA
 obtain ⟨⟨⟨⟨Pq,Pr⟩,Ps⟩,Mg⟩,U9⟩:=hA
 have s7:∀ (i:Nat) (o:Oper),l[i]? = some o→∀ e∈o.after.toList.filter (Region.binds .any),e.on < i:=by
  intro i o ho e he
  have hi:i < l.length:=(List.getElem?_eq_some_iff.1 ho).1
  have:=Pq i hi e (by rw [List.getD_eq_getElem?_getD,ho]; exact he)
  exact Nat.lt_of_succ_le (Nat.le_of_ble_eq_true this)
 have Gn:∀ i,m≤i→i < l.length→∀ j,j < m→j∈(bn l).getD i []:=by
  intro i h1 h2 j hj
  rcases Pr i h2 with h | h
  ·exact absurd (Nat.lt_of_succ_le (Nat.le_of_ble_eq_true h)) (Nat.not_lt.2 h1)
  ·have:=h j hj
   simpa using this
 have Pt:∀ i,i < m→∀ u∈U.getD i [],u=l.length∨u∈(bn l).getD i []:=by
  intro i hi u hu
  simp only [List.all_eq_true,List.mem_range] at hU
  have:=hU i hi u hu
  simpa using this
 have dv:=A9 _ (vf Ps)
 have mq:=xu l s7
 intro a h1 h2 h3
 let Cl (L:Array Bool):Prop:=L.size=l.length∧∀ j o,l[j]? = some o→L.getD j false=true→∀ e∈o.after.toList.filter (Region.binds .any),L.getD e.on false=true
 have fh:∀ L,Cl L→∀ i j,(∀ o,l[i]? = some o→∀ e∈o.after.toList.filter (Region.binds .any),L.getD e.on false=true)→j∈(bn l).getD i []→L.getD j false=true:=by
  intro L hL i
  induction i using Nat.strongRecOn with
  | _ i ih=>
   intro j hi hj
   obtain ⟨_,o,ho,e,he,CR⟩:=mq i j hj
   have hl:=hi o ho e he
   rcases CR with rfl | CR
   ·exact hl
   ·exact ih e.on (s7 i o ho e he) j (fun o' cq e' re=>hL.2 _ _ cq hl e' re) CR
 have yx:∀ L i,i∈Region.ready .any l.toArray L→L.getD i true=false∧∃ o,l[i]? = some o∧∀ e∈o.after.toList.filter (Region.binds .any),L.getD e.on false=true:=by
  intro L i hi
  obtain ⟨g1,o,ho,jh⟩:=mem_ready.1 hi
  refine ⟨g1,o,by simpa using ho,fun e he=>?_⟩
  have:=List.mem_filter.1 he
  exact jh e (by simpa using this.1) this.2
 have zt:∀ L i o,L.size=l.length→l[i]? = some o→L.getD i false=false→(∀ e∈o.after.toList.filter (Region.binds .any),L.getD e.on false=true)→i∈Region.ready .any l.toArray L:=by
  intro L i o hs ho hu jh
  refine mem_ready.2 ⟨?_,o,by simpa using ho,fun e he hb=>jh e (List.mem_filter.2 ⟨by simpa using he,hb⟩)⟩
  have hi:i < L.size:=by rw [hs]; exact (List.getElem?_eq_some_iff.1 ho).1
  simp [hi] at hu ⊢; exact hu
 have BY:∀ L i o,Cl L→l[i]? = some o→(∀ e∈o.after.toList.filter (Region.binds .any),L.getD e.on false=true)→Cl (L.setIfInBounds i true):=by
  intro L i o hL ho jh
  refine ⟨by rw [Array.size_setIfInBounds]; exact hL.1,fun j o' cq hj e he=>?_⟩
  by_cases vB:i=j
  ·subst vB
   have:o'=o:=Option.some.inj (cq.symm.trans ho)
   subst this
   exact getD_set_true (jh e he)
  ·rw [getD_set_ne false vB] at hj
   exact getD_set_true (hL.2 j o' cq hj e he)
 have getSet:∀ (L:Array Bool) i j,L.size=l.length→i < l.length→((L.setIfInBounds i true).getD j false=true↔j=i∨L.getD j false=true):=by
  intro L i j hs hi
  by_cases vB:i=j
  ·subst vB
   simp [hs,hi]
  ·rw [getD_set_ne false vB]
   constructor
   ·exact .inr
   ·rintro (h | h)
    ·exact absurd h.symm vB
    ·exact h
 have CT:∀ (L:Array Bool) i,L.size=l.length→i < l.length→L.getD i false=false→(L.setIfInBounds i true).toList.count false+1=L.toList.count false:=by
  intro L i hs hi hu
  have qd:i < L.toList.length:=by simpa [hs] using hi
  have yy:L.toList[i]=false:=by
   rw [Array.getElem_toList]
   simp [hs,hi] at hu
   exact hu
  rw [Array.toList_setIfInBounds,List.count_set qd,yy]
  have:0 < L.toList.count false:=List.count_pos_iff.2 (by rw [← yy]; exact List.getElem_mem qd)
  rw [if_pos (by rfl),if_neg (by decide)]
  omega
 have gw:cg n (l.drop m)=true:=by
  simp only [cg,List.all_eq_true] at hd ⊢
  exact fun o ho=>hd o (List.mem_of_mem_drop ho)
 have tail:∀ (fuel:Nat) (L:Array Bool) (a:Act) (w:World),Cl L→(∀ j,L.getD j false=true↔j < m)→L.toList.count false=fuel→a.tmps.size=n→a.defers=[]→
   (QL P (ao [] w) l (l.drop m) (b9 a) fun r'=>∀ w',ao [] w w'→Q .normal r' w')→wpAny P .any l.toArray (fun e a' w'=>a'.tmps.size=n∧a'.defers=[]∧Q e (b9 a') w') fuel L a w:=by
  intro fuel L a w hL eb hf g1 g2 hq
  have T8:L=(List.replicate m true++List.replicate (l.length - m) false).toArray:=by
   apply Array.ext
   ·simp [hL.1]; omega
   ·intro i hi hj
    have h1:=eb i
    simp only [Array.getD_eq_getD_getElem?,Array.getElem?_eq_getElem hi,Option.getD_some] at h1
    have e:(List.replicate m true++List.replicate (l.length - m) false).toArray[i]'hj=decide (i < m):=by
     simp only [List.getElem_toArray,List.getElem_append,List.getElem_replicate,List.length_replicate]
     split
     ·rename_i h; simp [h]
     ·rename_i h; simp [h]
    rw [e]
    cases hb:L[i] with
    | false=>exact (decide_eq_false fun h=>by have:=h1.2 h; rw [hb] at this; cases this).symm
    | true=>exact (decide_eq_true (h1.1 hb)).symm
  have Pu:fuel=l.length - m:=by
   rw [← hf,T8]
   simp [List.count_append,List.count_replicate]
  have q1:=QL.wpQuiet (n:=n) (l:=l) (l.drop m) a hd gw g1 g2 hq
  have q2:=wpAnyQ_lex (md:=.any) Mg (l.drop m) m L a (fun j=>by simp [List.getElem?_drop]) (by rw [T8,List.length_drop]; exact U9) q1
  refine wpAny_of_quiet (C:=ao [] w) (Q:=fun a'=>a'.tmps.size=n∧a'.defers=[]∧∀ w',ao [] w w'→Q .normal (b9 a') w') (fun a' w' Pv hh=>⟨hh.1,hh.2.1,hh.2.2 w' Pv⟩) _ _ _ _ (ao.refl _ _) ?_
  rw [Pu,← List.length_drop]
  exact q2
 have head:∀ (fuel:Nat) (L:Array Bool) (a:Act) (w:World) (g:Nat→List Nat),Cl L→(∀ j,L.getD j false=true→j < m)→L.toList.count false=fuel→a.tmps.size=n→a.defers=[]→
   tM l m S U r0 w0 H (fun j=>L.getD j false=true) g (b9 a) w→wpAny P .any l.toArray (fun e a' w'=>a'.tmps.size=n∧a'.defers=[]∧Q e (b9 a') w') fuel L a w:=by
  intro fuel
  induction fuel with
  | zero=>
   intro L a w g hL rf hf g1 g2 inv
   have jh:∀ j,j < l.length→L.getD j false=true:=by
    intro j hj
    cases hb:L.getD j false with
    | true=>rfl
    | false=>have:=CT L j hL.1 hj hb; omega
   have eb:∀ j,L.getD j false=true↔j < m:=fun j=>⟨rf j,fun h=>jh j (by omega)⟩
   refine tail 0 L a w hL eb hf g1 g2 (next g _ _ ?_)
   exact ⟨inv.iv,fun hk=>inv.xw fun k tP=>hk k ((eb k).1 tP),inv.vg,fun j hj=>inv.vd j ((eb j).2 hj),fun j hj hk=>inv.done j ((eb j).2 hj) (fun k tP=>hk k ((eb k).1 tP)),fun j hj=>inv.qg j ((eb j).2 hj),inv.other,fun j hj b hb=>⟨(inv.fresh j ((eb j).2 hj) b hb).1.imp (fun h=>h) fun h=>⟨h.1,h.2.imp fun k hk=>⟨(eb k).1 hk.1,hk.2⟩⟩,(inv.fresh j ((eb j).2 hj) b hb).2⟩,fun i j hi hj=>inv.sT i j ((eb i).2 hi) ((eb j).2 hj)⟩
  | succ fuel ih=>
   intro L a w g hL rf hf g1 g2 inv
   by_cases jh:∀ j,j < m→L.getD j false=true
   ·have eb:∀ j,L.getD j false=true↔j < m:=fun j=>⟨rf j,jh j⟩
    refine tail _ L a w hL eb hf g1 g2 (next g _ _ ?_)
    exact ⟨inv.iv,fun hk=>inv.xw fun k tP=>hk k ((eb k).1 tP),inv.vg,fun j hj=>inv.vd j ((eb j).2 hj),fun j hj hk=>inv.done j ((eb j).2 hj) (fun k tP=>hk k ((eb k).1 tP)),fun j hj=>inv.qg j ((eb j).2 hj),inv.other,fun j hj b hb=>⟨(inv.fresh j ((eb j).2 hj) b hb).1.imp (fun h=>h) fun h=>⟨h.1,h.2.imp fun k hk=>⟨(eb k).1 hk.1,hk.2⟩⟩,(inv.fresh j ((eb j).2 hj) b hb).2⟩,fun i j hi hj=>inv.sT i j ((eb i).2 hi) ((eb j).2 hj)⟩
   ·obtain ⟨j0,Mh,HH⟩ : ∃ j,j < m∧L.getD j false=false:=by
     apply Classical.byContradiction
     intro qi
     apply jh
     intro j hj
     cases hb:L.getD j false with
     | true=>rfl
     | false=>exact absurd ⟨j,hj,hb⟩ qi
    have Gp:∃ i,i∈Region.ready .any l.toArray L:=by
     have:∀ k,(∃ j,j < k∧j < m∧L.getD j false=false)→∃ i,i∈Region.ready .any l.toArray L:=by
      intro k
      induction k with
      | zero=>rintro ⟨j,h,_⟩; omega
      | succ k zl=>
       rintro ⟨j,HI,xx,pM⟩
       by_cases rV:∃ j,j < k∧j < m∧L.getD j false=false
       ·exact zl rV
       ·obtain rfl:j=k:=by
         apply Classical.byContradiction
         intro h
         exact rV ⟨j,by omega,xx,pM⟩
        have HJ:j < l.length:=by omega
        refine ⟨j,zt L j l[j] hL.1 (List.getElem?_eq_getElem HJ) pM fun e he=>?_⟩
        have bj:=s7 j _ (List.getElem?_eq_getElem HJ) e he
        cases hb:L.getD e.on false with
        | true=>rfl
        | false=>exact absurd ⟨e.on,bj,by omega,hb⟩ rV
     exact this (j0+1) ⟨j0,by omega,Mh,HH⟩
    have main:∀ i oi,i < m→l[i]? = some oi→L.getD i false=false→(∀ e∈oi.after.toList.filter (Region.binds .any),L.getD e.on false=true)→
      (Region.wanted oi (yl l (b9 a))=true∧dq P oi (b9 a) w fun v w'=>wpAny P .any l.toArray (fun e a' w'=>a'.tmps.size=n∧a'.defers=[]∧Q e (b9 a') w') fuel (L.setIfInBounds i true) (a.put oi.dst v) w')∨
      (Region.wanted oi (yl l (b9 a))=false∧wpAny P .any l.toArray (fun e a' w'=>a'.tmps.size=n∧a'.defers=[]∧Q e (b9 a') w') fuel (L.setIfInBounds i true) (a.put oi.dst undef) w):=by
     intro i oi rh lv rm rn
     have dk:i < l.length:=(List.getElem?_eq_some_iff.1 lv).1
     have j5:∀ o,l[i]? = some o→∀ e∈o.after.toList.filter (Region.binds .any),L.getD e.on false=true:=fun o' cq=>by
      have:o'=oi:=Option.some.inj (cq.symm.trans lv)
      subst this; exact rn
     obtain ⟨s,hs⟩ : ∃ s,S[i]? = some s:=⟨S[i]'(by omega),List.getElem?_eq_getElem (by omega)⟩
     have hc:=CT L i hL.1 dk rm
     have Bb:=BY L i oi hL lv rn
     have Pw:∀ j,(L.setIfInBounds i true).getD j false=true→j < m:=by
      intro j hj
      rcases (getSet L i j hL.1 dk).1 hj with rfl | hj
      ·exact rh
      ·exact rf j hj
     have zu:∀ k,L.getD k false=true→k≠i∧i ∉ (bn l).getD k []:=by
      intro k hk
      refine ⟨fun h=>(by rw [h,rm] at hk; cases hk),fun vz=>?_⟩
      have:=fh L hL k i (fun o' cq e' re=>hL.2 k o' cq hk e' re) vz
      rw [rm] at this; cases this
     have ow:=J5 i rh oi s lv hs g (b9 a) w inv.iv (fun hV=>by
       have qi:∀ k,L.getD k false=true→l.length ∉ U.getD k []:=fun k hk CU=>by
        simp only [uJ,List.all_eq_true,List.mem_range,Bool.or_eq_true,Bool.not_eq_true',List.contains_eq_mem,decide_eq_false_iff_not,decide_eq_true_eq] at hV
        rcases hV k (rf k hk) with (h | h) | h
        ·exact h CU
        ·exact (zu k hk).1 (Nat.eq_of_beq_eq_true h)
        ·exact (zu k hk).2 h
       have h0:=inv.xw qi
       exact ⟨h0.1,h0.2,fun j hj b hb=>(inv.fresh j (fh L hL i j j5 hj) b hb).1.elim (fun h=>h) fun h=>absurd h.2.choose_spec.2 (qi _ h.2.choose_spec.1)⟩) (fun j hj=>inv.qg j (fh L hL i j j5 hj)) (fun j hj=>by
       simp only [oj,Bool.and_eq_true,List.all_eq_true,List.mem_range,Bool.or_eq_true,Bool.not_eq_true',List.contains_eq_mem,decide_eq_false_iff_not,decide_eq_true_eq] at hj
       refine inv.done j (fh L hL i j j5 hj.1) fun k hk HI=>?_
       rcases hj.2 k (rf k hk) with (h | h) | h
       ·exact h HI
       ·exact (zu k hk).1 (Nat.eq_of_beq_eq_true h)
       ·exact (zu k hk).2 h) inv.other
      (fun i' qd j' er=>inv.sT i' j' (fh L hL i i' j5 qd) (fh L hL i j' j5 er))
      (fun j hj b hb=>⟨(inv.fresh j (fh L hL i j j5 hj) b hb).1.imp (fun h=>h) (·.1),(inv.fresh j (fh L hL i j j5 hj) b hb).2⟩)
     have hblk:∀ b∈qo g (U.getD i []),(∃ u,u∈U.getD i []∧L.getD u false=true∧b∈g u)∨(l.length∈U.getD i []∧b∈g l.length):=by
      intro b hb
      obtain ⟨u,hu,du⟩:=List.mem_flatMap.1 hb
      rcases Pt i rh u hu with rfl | h
      ·exact .inr ⟨hu,du⟩
      ·exact .inl ⟨u,hu,fh L hL i u j5 h,du⟩
     have Bc:∀ k',oi.dst=some k'→k' < a.tmps.size:=by
      intro k' HM
      have vz:oi∈l:=List.mem_of_getElem? lv
      simp only [cg,List.all_eq_true] at hd
      have:=hd oi vz
      rw [HM] at this
      rw [g1]
      exact Nat.lt_of_succ_le (Nat.le_of_ble_eq_true this)
     have vC:bg l i=oi.dst:=by unfold bg; rw [lv]; rfl
     have pL:∀ v t,(oi.dst≠some t)→b9 (a.put oi.dst v) t=b9 a t:=by
      intro v t ht
      rw [iH Bc]
      cases tQ:oi.dst with
      | none=>rfl
      | some d=>
       show (bif Nat.beq t d then v else b9 a t)=b9 a t
       cases hb:Nat.beq t d with
       | false=>rfl
       | true=>exact absurd (by rw [tQ,Nat.eq_of_beq_eq_true hb]) ht
     have CV:∀ v d,oi.dst=some d→b9 (a.put oi.dst v) d=v:=by
      intro v d tQ
      rw [iH Bc,tQ]
      show (bif Nat.beq d d then v else b9 a d)=v
      rw [Nat.beq_refl]; rfl
     have step:∀ v w' f,ao (qo g (U.getD i [])) w w'→(∀ b∈f,(b∈qo g (U.getD i [])∨w.heap.size≤b)∧b < w'.heap.size)→(if s.b then s.V f w' (b9 a) v else v=undef)→
       wpAny P .any l.toArray (fun e a' w'=>a'.tmps.size=n∧a'.defers=[]∧Q e (b9 a') w') fuel (L.setIfInBounds i true) (a.put oi.dst v) w':=by
      intro v w' f hC vx hV
      have p8:∀ j',j' < m→j'≠i→∀ t,bg l j'=some t→b9 (a.put oi.dst v) t=b9 a t:=by
       intro j' er mz t ht
       refine pL v t fun h=>mz (dv j' i t ?_ ?_)
       ·rw [gv er]; exact ht
       ·rw [gv rh,vC]; exact h
      have HP:∀ b∈qo g (U.getD i []),¬ N b:=fun b hb hn=>by
       rcases hblk b hb with ⟨u,_,lj,du⟩ | ⟨_,du⟩
       ·rcases (inv.fresh u lj b du).1 with h | h
        ·have:=(hN b hn).1; omega
        ·exact (hN b hn).2 h.1
       ·exact (hN b hn).2 (inv.vg b du)
      refine ih _ _ _ (fun j=>if j=i then f else if j∈U.getD i [] then [] else g j) Bb Pw (by omega) (by rw [gj]; exact g1) (by rw [ed]; exact g2)
       ⟨inv.iv.then hC fun b hb=>(by
        rcases hblk b hb with ⟨u,_,lj,du⟩ | ⟨_,du⟩
        ·exact (inv.fresh u lj b du).1.elim .inr fun h=>.inl h.1
        ·exact .inl (inv.vg b du)),fun qi=>?_,?_,fun j hj=>?_,?_,fun j hj d me sj o6=>?_,?_,?_,?_⟩
      ·have vu:l.length ∉ U.getD i []:=qi i ((getSet L i i hL.1 dk).2 (.inl rfl))
       have h0:=inv.xw fun k hk=>qi k ((getSet L i k hL.1 dk).2 (.inr hk))
       refine ⟨h0.1.then hC fun b hb=>?_,?_⟩
       ·rcases hblk b hb with ⟨u,_,lj,du⟩ | ⟨h,_⟩
        ·exact (inv.fresh u lj b du).1.elim .inr fun ⟨_,k,hk,CU⟩=>absurd CU (qi k ((getSet L i k hL.1 dk).2 (.inr hk)))
        ·exact absurd h vu
       ·show (if l.length=i then f else if l.length∈U.getD i [] then [] else g l.length)=H
        rw [if_neg (by omega),if_neg vu]
        exact h0.2
      ·intro b hb
       have cb:b∈(if l.length=i then f else if l.length∈U.getD i [] then [] else g l.length):=hb
       rw [if_neg (by omega)] at cb
       split at cb
       ·cases cb
       ·exact inv.vg b cb
      ·intro b hb hv
       have nt:b∈(if l.length=i then f else if l.length∈U.getD i [] then [] else g l.length):=hv
       rw [if_neg (by omega)] at nt
       split at nt
       ·cases nt
       ·rename_i Px
        have cb:b∈(if j=i then f else if j∈U.getD i [] then [] else g j):=hb
        split at cb
        ·rcases (vx b cb).1 with h | h
         ·rcases hblk b h with ⟨u,_,lj,du⟩ | ⟨h,_⟩
          ·exact inv.vd u lj b du nt
          ·exact Px h
         ·have h1:=hH b (inv.vg b nt)
          have h2:=inv.iv.size
          omega
        ·rename_i ie
         split at cb
         ·cases cb
         ·exact inv.vd j (((getSet L i j hL.1 dk).1 hj).resolve_left ie) b cb nt
      ·intro j hj uK
       refine ⟨fun d me=>?_,fun Py sj o6 HQ=>?_⟩
       rotate_left
       ·by_cases ie:j=i
        ·subst ie
         rw [hs] at o6
         cases o6
         rw [if_pos HQ] at hV
         refine ⟨v,?_⟩
         simp only [if_pos]
         exact nk j s hs _ [] w' w' (b9 a) _ v (ao.refl _ _) (fun _ _ h=>nomatch h) (fun _ h=>nomatch h) (fun j' er t ht=>p8 j' (by have:=(mq j j' er).1; omega) (by have:=(mq j j' er).1; omega) t ht) hV
        ·have iT:=((getSet L i j hL.1 dk).1 hj).resolve_left ie
         have pM:j ∉ U.getD i []:=uK i ((getSet L i i hL.1 dk).2 (.inl rfl))
         obtain ⟨x,hx⟩:=(inv.done j iT (fun k hk=>uK k ((getSet L i k hL.1 dk).2 (.inr hk)))).2 Py sj o6 HQ
         have je:(fun j=>if j=i then f else if j∈U.getD i [] then [] else g j) j=g j:=by
          show (if j=i then f else if j∈U.getD i [] then [] else g j)=g j
          rw [if_neg ie,if_neg pM]
         rw [je]
         refine ⟨x,nk j sj o6 _ _ _ _ (b9 a) _ _ hC (fun b cb CW=>?_) HP (fun j' er t ht=>p8 j' (by have:=(mq j j' er).1; have:=rf j iT; omega) (fun h=>?_) t ht) hx⟩
         ·rcases hblk b CW with ⟨u,xy,lj,du⟩ | ⟨_,du⟩
          ·exact inv.sT j u iT lj (fun h=>pM (h ▸ xy)) b cb du
          ·exact inv.vd j iT b cb du
         ·subst h
          have:=fh L hL j j' (fun o' cq e' re=>hL.2 j o' cq iT e' re) er
          rw [rm] at this; cases this
       by_cases ie:j=i
       ·subst ie
        rw [hs]
        simp only [if_pos]
        rw [vC] at me
        rw [CV v d me]
        split
        ·rename_i hb
         rw [if_pos hb] at hV
         exact nk j s hs _ [] w' w' (b9 a) _ v (ao.refl _ _) (fun _ _ h=>nomatch h) (fun _ h=>nomatch h) (fun j' er t ht=>p8 j' (by have:=(mq j j' er).1; omega) (by have:=(mq j j' er).1; omega) t ht) hV
        ·rename_i hb
         rw [if_neg hb] at hV
         exact hV
       ·have iT:=((getSet L i j hL.1 dk).1 hj).resolve_left ie
        have xx:=rf j iT
        have pM:j ∉ U.getD i []:=uK i ((getSet L i i hL.1 dk).2 (.inl rfl))
        have tQ:oi.dst≠some d:=by
         intro h
         apply ie
         refine dv j i d ?_ ?_
         ·rw [gv xx]; exact me
         ·rw [gv rh,vC]; exact h
        have:=(inv.done j iT (fun k hk=>uK k ((getSet L i k hL.1 dk).2 (.inr hk)))).1 d me
        rw [pL v d tQ]
        have je:(fun j=>if j=i then f else if j∈U.getD i [] then [] else g j) j=g j:=by
         show (if j=i then f else if j∈U.getD i [] then [] else g j)=g j
         rw [if_neg ie,if_neg pM]
        rw [je]
        cases o6:S[j]? with
        | none=>trivial
        | some sj=>
         rw [o6] at this
         simp only [] at this ⊢
         split
         ·rename_i hb
          rw [if_pos hb] at this
          refine nk j sj o6 _ _ _ _ (b9 a) _ _ hC (fun b cb CW=>?_) HP (fun j' er t ht=>p8 j' (by have:=(mq j j' er).1; omega) (fun h=>?_) t ht) this
          rotate_left
          ·subst h
           have:=fh L hL j j' (fun o' cq e' re=>hL.2 j o' cq iT e' re) er
           rw [rm] at this; cases this
          rcases hblk b CW with ⟨u,xy,lj,du⟩ | ⟨_,du⟩
          ·exact inv.sT j u iT lj (fun h=>pM (h ▸ xy)) b cb du
          ·exact inv.vd j iT b cb du
         ·rename_i hb
          rw [if_neg hb] at this
          exact this
      ·by_cases ie:j=i
       ·subst ie
        rw [hs] at o6
        cases o6
        rw [vC] at me
        rw [CV v d me]
        split
        ·rename_i hb
         rw [if_pos hb] at hV
         exact ⟨f,w',nk j s hs _ [] w' w' (b9 a) _ v (ao.refl _ _) (fun _ _ h=>nomatch h) (fun _ h=>nomatch h) (fun j' er t ht=>p8 j' (by have:=(mq j j' er).1; omega) (by have:=(mq j j' er).1; omega) t ht) hV⟩
        ·rename_i hb
         rw [if_neg hb] at hV
         exact hV
       ·have iT:=((getSet L i j hL.1 dk).1 hj).resolve_left ie
        have xx:=rf j iT
        have tQ:oi.dst≠some d:=by
         intro h
         apply ie
         refine dv j i d ?_ ?_
         ·rw [gv xx]; exact me
         ·rw [gv rh,vC]; exact h
        have:=inv.qg j iT d me sj o6
        rw [pL v d tQ]
        split
        ·rename_i hb
         rw [if_pos hb] at this
         obtain ⟨f1,w1,h1⟩:=this
         refine ⟨f1,w1,nk j sj o6 _ [] w1 w1 (b9 a) _ _ (ao.refl _ _) (fun _ _ h=>nomatch h) (fun _ h=>nomatch h) (fun j' er t ht=>p8 j' (by have:=(mq j j' er).1; omega) (fun h=>?_) t ht) h1⟩
         subst h
         have:=fh L hL j j' (fun o' cq e' re=>hL.2 j o' cq iT e' re) er
         rw [rm] at this; cases this
        ·rename_i hb
         rw [if_neg hb] at this
         exact this
      ·intro t ht
       rw [pL v t (fun h=>ht i rh (by rw [vC]; exact h))]
       exact inv.other t ht
      ·intro j hj b hb
       by_cases ie:j=i
       ·simp only [if_pos ie] at hb
        have hh:=vx b hb
        have qe:=inv.iv.size
        rcases hh.1 with h | h
        ·rcases hblk b h with ⟨u,_,lj,du⟩ | ⟨hv,du⟩
         ·exact ⟨(inv.fresh u lj b du).1.imp (fun h=>h) fun h=>⟨h.1,h.2.imp fun k hk=>⟨(getSet L i k hL.1 dk).2 (.inr hk.1),hk.2⟩⟩,hh.2⟩
         ·exact ⟨.inr ⟨inv.vg b du,i,(getSet L i i hL.1 dk).2 (.inl rfl),hv⟩,hh.2⟩
        ·exact ⟨.inl (by omega),hh.2⟩
       ·have iT:=((getSet L i j hL.1 dk).1 hj).resolve_left ie
        simp only [if_neg ie] at hb
        split at hb
        ·cases hb
        ·have h1:=inv.fresh j iT b hb
         have h2:=hC.size
         exact ⟨h1.1.imp (fun h=>h) fun h=>⟨h.1,h.2.imp fun k hk=>⟨(getSet L i k hL.1 dk).2 (.inr hk.1),hk.2⟩⟩,by omega⟩
      ·have tL:∀ j',(L.setIfInBounds i true).getD j' false=true→j'≠i→∀ b∈f,b ∉ (if j'∈U.getD i [] then [] else g j'):=by
        intro j' er e2 b hb cb
        have CX:=((getSet L i j' hL.1 dk).1 er).resolve_left e2
        split at cb
        ·cases cb
        ·rename_i pM
         rcases (vx b hb).1 with h | h
         ·rcases hblk b h with ⟨u,xy,lj,du⟩ | ⟨_,du⟩
          ·exact inv.sT u j' lj CX (fun h=>pM (h ▸ xy)) b du cb
          ·exact inv.vd j' CX b cb du
         ·have:=inv.fresh j' CX b cb
          omega
       intro i' j' qd er mz b hb cb
       by_cases e1:i'=i
       ·have e2:j'≠i:=fun h=>mz (e1.trans h.symm)
        simp only [if_pos e1] at hb
        simp only [if_neg e2] at cb
        exact tL j' er e2 b hb cb
       ·simp only [if_neg e1] at hb
        by_cases e2:j'=i
        ·simp only [if_pos e2] at cb
         exact tL i' qd e1 b cb hb
        ·simp only [if_neg e2] at cb
         split at hb
         ·cases hb
         ·split at cb
          ·cases cb
          ·exact inv.sT i' j' (((getSet L i i' hL.1 dk).1 qd).resolve_left e1) (((getSet L i j' hL.1 dk).1 er).resolve_left e2) mz b hb cb
     cases hb:s.b with
     | true=>
      rw [if_pos hb] at ow
      refine .inl ⟨ow.1,ot ow.2 ?_⟩
      rintro v w' ⟨hC,f,vx,hV⟩
      exact step v w' f hC vx (by rw [if_pos hb]; exact hV)
     | false=>
      rw [if_neg (by rw [hb]; exact Bool.false_ne_true)] at ow
      exact .inr ⟨ow,step undef w [] (ao.refl _ _) (fun b h=>nomatch h) (by rw [if_neg (by rw [hb]; exact Bool.false_ne_true)])⟩
    refine ⟨fun h=>(by obtain ⟨i,hi⟩:=Gp; rw [h] at hi; cases hi),fun i hi=>?_⟩
    obtain ⟨q1,oi,lv,rn⟩:=yx L i hi
    have dk:i < l.length:=(List.getElem?_eq_some_iff.1 lv).1
    have rm:L.getD i false=false:=getD_both q1
    have rh:i < m:=by
     rcases Nat.lt_or_ge i m with h | h
     ·exact h
     ·have hj:=Gn i h dk j0 Mh
      have:=fh L hL i j0 (fun o' cq=>by have:o'=oi:=Option.some.inj (cq.symm.trans lv); subst this; exact rn) hj
      rw [HH] at this; cases this
    unfold wpOp
    rw [show (l.toArray)[i]? = some oi by simpa using lv]
    simp only []
    rw [wi (by rw [g1]; exact hd)]
    rcases main i oi rh lv rm rn with ⟨hw,h⟩ | ⟨hw,h⟩
    ·rw [if_pos hw]
     exact .inl (h.wp fun v w' hv=>hv)
    ·rw [if_neg (by rw [hw]; exact Bool.false_ne_true)]
     exact h
 refine head _ _ a _ (fun j=>if j=l.length then H else []) ⟨by simp,?_⟩ ?_ ?_ h1 h2 ⟨ao.nil (ao.drew _ _),fun _=>⟨ao.drew _ _,by simp⟩,fun b hb=>by simpa using hb,?_,?_,?_,?_,?_,?_⟩
 ·intro j o ho hj
  rw [getD_replicate_false] at hj; cases hj
 ·intro j hj
  rw [getD_replicate_false] at hj; cases hj
 ·simp
 ·intro j hj
  rw [getD_replicate_false] at hj; cases hj
 ·intro j hj
  rw [getD_replicate_false] at hj; cases hj
 ·intro j hj
  rw [getD_replicate_false] at hj; cases hj
 ·intro t _
  rw [h3]
 ·intro j hj
  rw [getD_replicate_false] at hj; cases hj
 ·intro i j hi
  rw [getD_replicate_false] at hi; cases hi
end
end Go.Li
namespace Go.Dk
open Go Go.Li
section
variable {R S:Type} {P:Program} {cx:Cx R} {K:ch R S} {l tail:LO} {base fr:Fr} {w:World} {Z:Nat→Prop}
theorem J6 {mt id:Nat} {U:LL} {CI:QE} (hU:((List.range mt).all fun i=>(U.getD i []).all fun u=>Nat.beq u l.length || ((bn l).getD i []).contains u)=true) (hh:jj l mt base=true) (hd:cg cx.n l=true) (hA:wh l mt=true) (CK:mt≤l.length) (ht:tail=l.drop mt) {i:Nat} {sl:LQ} {ms:MM} {Γ:QE} {m:Option (Out S R)} (CJ:wb ms=true) (qM:vc U sl ms=true)
  (h:∀ x:nj ms,D P cx (.p (vb sl (mF ms x)) (xm ms x) base Γ fun fr Γ=>.tg true (vW tail) l tail K Γ fr m)):CF P cx K l l mt U CI id base (.a [] [] i sl ms Γ m):=by
 rintro ⟨_,h2,h3⟩ B o ho r0 w0 H Z ha hs ⟨S',hl,hR,hO⟩
 have hi:i=mt:=by
  have:=congrArg List.length h2
  simp at this
  omega
 subst hl
 obtain ⟨F,Hd,⟨wX,wY,rb,wZ⟩,hS,hG⟩:=hs
 refine Nn (N:=Z) (S:=S') (U:=U) (H:=H) hd hA CK hi rb hU (fun b hb=>⟨hG.qc b hb,fun h=>hG.apart b (List.mem_append_left _ h) hb⟩) (fun i s hs=>hR.s i s hs) (fun j hj=>hO j (by omega)) ?_
 intro g r w hI
 have Gh:∀ k j,j∈U.getD k []→∀ a∈ms,a.j≠j:=by
  intro k j hj
  unfold vc at qM
  rw [Bool.and_eq_true] at qM
  rw [List.getD_eq_getElem?_getD] at hj
  cases hk:U[k]? with
  | none=>rw [hk] at hj; exact absurd hj List.not_mem_nil
  | some us=>
   rw [hk] at hj
   have h1:=List.all_eq_true.1 (List.all_eq_true.1 qM.1 us (List.mem_of_getElem? hk)) j hj
   intro a ha he
   have:=List.all_eq_true.1 h1 a ha
   rw [he,Nat.beq_refl] at this
   cases this
 have hD:∀ j,j < mt→(∀ k,j ∉ U.getD k [])→ra l S' j g r w:=fun j hj hn=>hI.done j hj fun k _=>hn k
 have bj:∀ a∈ms,a.j < mt:=fun a ha=>hi ▸ hR.lt ha
 obtain ⟨x,hx,tK,O6⟩:=L4 (g:=g) (r:=r) (w:=w) CJ hR.d (fun a ha b hb vy=>hI.sT _ _ (bj a ha) (bj b hb) vy) fun a ha=>by
  have:=hR.Cv (S2:=[]) ha (by rw [List.append_nil]; exact hD a.j (bj a ha) (fun k hk=>Gh k _ hk a ha rfl))
  exact this
 have zr:=List.nodup_append.1 hG.nd
 have pL:∀ b∈we g ms,w0.heap.size≤b∨b∈H:=fun b hb=>by
  obtain ⟨a,h1,h2⟩:=yR hb
  exact (hI.fresh a.j (bj a h1) b h2).1.imp (fun h=>h) (·.1)
 have jz:=qh.stay hS hG hI.iv
 obtain ⟨Vo,Vr,O7,O8,tK⟩:=tK
 obtain ⟨F',hp,my⟩:=tK.build (jz.mono (fun _ h=>.inl h) fun _ h=>h)
 have O9:Gd B Z (we g ms++F) w:=by
  refine ⟨xq O6 zr.2.1 fun b hb hF=>(pL b hb).elim (fun h=>Nat.lt_irrefl _ (Nat.lt_of_lt_of_le (hS.lt b hF) h)) (fun h=>zr.2.2 b h b hF rfl),?_,fun b hb=>Nat.lt_of_lt_of_le (hG.qc b hb) hI.iv.size,?_,hG.tC,hG.tD,hG.iv.then hI.iv fun b hb=>hG.low b (List.mem_append_left _ hb)⟩
  ·intro b hb hz
   rcases List.mem_append.1 hb with hb | hb
   ·exact (pL b hb).elim (fun h=>Nat.lt_irrefl _ (Nat.lt_of_lt_of_le (hG.qc b hz) h)) (fun h=>hG.apart b (List.mem_append_left _ h) hz)
   ·exact hG.apart b (List.mem_append_right _ hb) hz
  ·intro b hb
   rcases List.mem_append.1 hb with hb | hb
   ·exact (pL b hb).elim (fun h=>.inr (Nat.le_trans hG.iv.size h)) (fun h=>hG.low b (List.mem_append_left _ h))
   ·exact hG.low b (List.mem_append_right _ hb)
 have JW:cf r ((vb sl (mF ms x)).reverse++base):=by
  refine rS (CG (fun p hp=>?_) hx) (ke hh ha hI.other)
  exact hR.xn (S2:=[]) hp fun j _ hj=>(by rw [List.append_nil]; exact hI.qg j (hi ▸ hj))
 have:=(h x).sound B o ho r w JW ⟨_,F',my,((O9.perm (E7 O7)).freeze O8).perm hp⟩
 rw [ht] at this
 exact this
theorem SX {id:Nat} (hd:QE) (mt:Nat) (U as:LL) {ops:LO} {Γ Γ1:QE} {fr:Fr} {m:Option (Out S R)}
  (hB:(P.follows .mixedOrders && cg cx.n l && wh l mt && Nat.ble mt l.length && (gq l U mt == as) && ((List.range mt).all fun i=>(U.getD i []).all fun u=>Nat.beq u l.length || ((bn l).getD i []).contains u))=true)
  (ho:ops=l.take mt) (ht:tail=l.drop mt) (hf:Kp (tF ops) none fr base) (hh:jj l mt base=true) (he:EO Γ hd Γ1) (CL:OW Γ hd)
  (h:AD true P cx K l tail base U hd (.a as ops 0 [] [] Γ1 m)):Bx (ni P cx (.dr id l K Γ fr m)):=by
 simp only [Bool.and_eq_true] at hB
 obtain ⟨⟨⟨⟨⟨b1,b2⟩,b3⟩,b5⟩,b6⟩,b7⟩:=hB
 rw [pG]
 intro B o hm r w ha hs
 obtain ⟨Z,F,hS,hG⟩:=hs
 obtain ⟨Fd,F',h1,h2,h3⟩:=he.sound hS
 have CM:SA Z w hd [] Fd:=by
  have:=(HO.hl CL hS h1).front (Γ:=[]) (F:=[]) rfl
  simpa using this
 have hX:qh B Z hd Γ1 Fd w:=⟨F',Fd,⟨CM,fun b hb=>⟨hb,CM.lt b hb⟩,CM.lt,(List.nodup_append.1 (hG.perm h3).nd).1⟩,h2,hG.perm h3⟩
 refine kp.W b1 ?_
 refine AD.sound (id:=id) hh (fun _ _ _ _ _ _ hs he h=>J6 b7 hh b2 b3 (Nat.le_of_ble_eq_true b5) ht hs he h) h
  ⟨by rw [List.drop_zero]; exact (eq_of_beq b6).symm,by rw [List.drop_zero]; exact ho,Nat.zero_le _⟩ B o hm r w Fd Z (hf.sound ha) hX ⟨[],rfl,⟨fun _ h=>absurd h List.not_mem_nil,fun _ h=>absurd h List.not_mem_nil,fun i s h=>by simp at h,List.nodup_nil,fun _ _ _ h1 h2=>wg l (Gm b3) h1 h2⟩,fun j hj=>absurd hj (Nat.not_lt_zero j)⟩
theorem Pz {id:Nat} (mt:Nat) (U as:LL) {ops:LO} {Γ:QE} {fr:Fr} {m:Option (Out S R)}
  (hB:(P.follows .mixedOrders && cg cx.n l && wh l mt && Nat.ble mt l.length && (gq l U mt == as) && ((List.range mt).all fun i=>(U.getD i []).all fun u=>Nat.beq u l.length || ((bn l).getD i []).contains u))=true)
  (ho:ops=l.take mt) (ht:tail=l.drop mt) (hf:Kp (tF ops) none fr base) (hh:jj l mt base=true)
  (h:AD true P cx K l tail base U [] (.a as ops 0 [] [] Γ m)):Bx (ni P cx (.dr id l K Γ fr m)):=SX [] mt U as hB ho ht hf hh .nil .nil h
end
end Go.Dk
namespace Go.Dk
open Go Go.Li
def xi:Value→Option Nat
 | .slice (some a) _ _=>some a.block
 | _=>none
def NF {α:Type} (E:ag α):Prop:=∀ {h:Array Obj} {cs:LV} {x:α} {f:LN},E.rep h cs x f→f=[]
theorem NF.i {k:IntKind}:NF (aJ k):=uG
theorem NF.l {α:Type} {E:ag α} (hE:NF E) {h:Array Obj}:∀ {xs:List α} {cs:LV} {f:LN},db E h cs xs f→f=[]:=by
 intro xs
 induction xs with
 | nil=>rintro cs f ⟨_,rfl⟩; rfl
 | cons x xs ih=>
  rintro cs f ⟨c,ic,f1,f2,rfl,rfl,h1,h2⟩
  rw [hE h1,ih h2]; rfl
structure Good {α:Type} (A:Value→α→Prop) (f:LN):Prop where
 sub:∀ u y b,A u y→xi u=some b→b∈f
 one:∀ u y u' y' b,A u y→A u' y'→xi u=some b→xi u'=some b→y=y'
inductive w3 {α:Type}:{β:Type}→ag β→((Value→List α→Prop)→ag β)→Prop
 | row {e:TI} {E:ag α}:w3 (aI e E) (fun A=>xg A (aI e E))
 | step {β:Type} {e:TI} {T:ag β} {T':(Value→List α→Prop)→ag β} (h:w3 T T'):w3 (aI e T) (fun A=>bE (T' A))
section
variable {α β:Type} {T:ag β} {T':(Value→List α→Prop)→ag β} {A A':Value→List α→Prop} {f:LN} {hp:Array Obj}
theorem w3.size (h:w3 T T'):(T' A).size=T.size:=by
 cases h <;> rfl
theorem w3.mono (h:w3 T T') (hA:∀ u y,A u y→A' u y):Le (T' A) (T' A'):=by
 induction h with
 | row=>exact ⟨rfl,fun h=>⟨h.1.imp fun v g=>⟨g.1,hA _ _ g.2⟩,h.2⟩⟩
 | step _ ih=>exact ih.EE
theorem w3.SY {e:TI} (ho:∀ {cs:LV} {x:β} {f:LN},T.rep hp cs x f→f.Nodup→∃ A,Good A f∧(T' A).rep hp cs x f) (hm:∀ {A A':Value→List α→Prop},(∀ u y,A u y→A' u y)→Le (T' A) (T' A')) :
  ∀ {xs:List β} {cs:LV} {f:LN},db T hp cs xs f→f.Nodup→∃ A,Good A f∧db (T' A) hp cs xs f:=by
 have _:=e
 intro xs
 induction xs with
 | nil=>rintro cs f ⟨rfl,rfl⟩ _; exact ⟨fun _ _=>False,⟨fun _ _ _ h=>h.elim,fun _ _ _ _ _ h=>h.elim⟩,rfl,rfl⟩
 | cons x xs ih=>
  rintro cs f ⟨c,ic,f1,f2,rfl,rfl,h1,h2⟩ hn
  obtain ⟨n1,n2,n3⟩:=List.nodup_append.1 hn
  obtain ⟨A1,g1,r1⟩:=ho h1 n1
  obtain ⟨A2,g2,r2⟩:=ih h2 n2
  refine ⟨fun u y=>A1 u y∨A2 u y,⟨fun u y b h hb=>?_,fun u y u' y' b h h' hb cb=>?_⟩,c,ic,f1,f2,rfl,rfl,(hm fun _ _=>.inl).le r1,vp (hm fun _ _=>.inr) r2⟩
  ·exact h.elim (fun h=>List.mem_append_left _ (g1.sub u y b h hb)) (fun h=>List.mem_append_right _ (g2.sub u y b h hb))
  ·rcases h with h | h <;> rcases h' with h' | h'
   ·exact g1.one u y u' y' b h h' hb cb
   ·exact absurd rfl (n3 b (g1.sub _ _ _ h hb) b (g2.sub _ _ _ h' cb))
   ·exact absurd rfl (n3 b (g1.sub _ _ _ h' cb) b (g2.sub _ _ _ h hb))
   ·exact g2.one u y u' y' b h h' hb cb
theorem w3.opened (h:w3 T T'):∀ {cs:LV} {x:β} {f:LN},T.rep hp cs x f→f.Nodup→∃ A,Good A f∧(T' A).rep hp cs x f:=by
 induction h with
 | @row e E=>
  intro cs x f hr _
  obtain ⟨base,cap,rfl,jd⟩:=id hr
  refine ⟨fun u y=>u = .slice base x.length cap∧y=x,⟨?_,?_⟩,⟨_,rfl,rfl,rfl⟩,hr⟩
  ·rintro u y b ⟨rfl,rfl⟩ hb
   rcases jd with ⟨rfl,_⟩ | ⟨b0,cur,f',rfl,_,rfl,_⟩
   ·cases hb
   ·cases hb; exact List.mem_cons_self
  ·rintro u y u' y' b ⟨_,rfl⟩ ⟨_,rfl⟩ _ _; rfl
 | @step β e T T' ho ih=>
  intro cs x f hr hn
  obtain ⟨base,cap,rfl,jd⟩:=hr
  rcases jd with ⟨rfl,_,rfl,rfl⟩ | ⟨b,cur,f',rfl,hg,rfl,h3,h4,h5,h6⟩
  ·exact ⟨fun _ _=>False,⟨fun _ _ _ h=>h.elim,fun _ _ _ _ _ h=>h.elim⟩,none,cap,rfl,.inl ⟨rfl,rfl⟩⟩
  ·obtain ⟨A,g1,g2⟩:=w3.SY (e:=e) ih (fun hA=>ho.mono hA) h6 (List.nodup_cons.1 hn).2
   refine ⟨A,⟨fun u y b h hb=>List.mem_cons_of_mem _ (g1.sub u y b h hb),g1.one⟩,_,cap,rfl,.inr ⟨b,0,cur,e,(0,0),f',rfl,hg,rfl,h3,?_⟩⟩
   rw [List.drop_zero,ho.size]
   exact g2
end
section
variable {α:Type} {e e':TI} {E:ag α} {A:Value→List α→Prop} {ft f:LN} {hp:Array Obj}
theorem Gq (nf:NF E) (hA:Good A ft):∀ {ys:List (List α)} {us:LV} {g:LN},db (xg A (aI e' E)) hp us ys g→ys.Nodup→
  db (aI e' E) hp us ys g∧g.Nodup∧∀ b∈g,b∈ft∧∃ u y,A u y∧xi u=some b∧y∈ys:=by
 intro ys
 induction ys with
 | nil=>rintro us g ⟨rfl,rfl⟩ _; exact ⟨⟨rfl,rfl⟩,List.nodup_nil,fun b hb=>absurd hb List.not_mem_nil⟩
 | cons y ys ih=>
  rintro us g ⟨c,ic,g1,g2,rfl,rfl,⟨⟨u,rfl,hu⟩,hr⟩,h2⟩ hn
  obtain ⟨n1,n2⟩:=List.nodup_cons.1 hn
  obtain ⟨a1,a2,a3⟩:=ih h2 n2
  refine ⟨⟨[u],ic,g1,g2,rfl,rfl,hr,a1⟩,?_,?_⟩
  ·obtain ⟨base,cap,hv,jd⟩:=hr
   obtain rfl:u = .slice base y.length cap:=by simpa using hv
   rcases jd with ⟨_,_,_,rfl⟩ | ⟨b,cur,f',rfl,_,rfl,_,_,_,h6⟩
   ·exact a2
   ·rw [nf.l h6]
    refine List.nodup_cons.2 ⟨fun hb=>?_,a2⟩
    obtain ⟨_,u',y',h7,h8,h9⟩:=a3 b hb
    rw [hA.one _ _ _ _ b hu h7 rfl h8] at n1
    exact n1 h9
  ·intro b hb
   rcases List.mem_append.1 hb with hb | hb
   ·obtain ⟨base,cap,hv,jd⟩:=hr
    obtain rfl:u = .slice base y.length cap:=by simpa using hv
    rcases jd with ⟨_,_,_,rfl⟩ | ⟨b0,cur,f',rfl,_,rfl,_,_,_,h6⟩
    ·cases hb
    ·rw [nf.l h6,List.mem_singleton] at hb
     subst hb
     exact ⟨hA.sub _ _ _ hu rfl,_,y,hu,rfl,by simp⟩
   ·obtain ⟨b1,u',y',b2,b3,b4⟩:=a3 b hb
    exact ⟨b1,u',y',b2,b3,by simp [b4]⟩
theorem HR {Z:Nat→Prop} {w:World} {v:Value} {ys:List (List α)} (nf:NF E) (hA:Good A ft) (ho:lh Z w f (.om e (xg A (aI e' E)) v ys)) (hn:ys.Nodup) (hf:f.Nodup) (hz:∀ b∈f,¬ Z b) :
  ∃ g,(∀ b∈g,b∈ft)∧(aI e (aI e' E)).rep w.heap [v] ys (f++g)∧(f++g).Nodup:=by
 obtain ⟨us,g,h1,h2,h3,_⟩:=ho
 obtain ⟨a1,a2,a3⟩:=Gq nf hA h2 hn
 have hl:us.length=ys.length:=by have:=ju a1; rw [this]; exact Nat.mul_one _
 refine ⟨g,fun b hb=>(a3 b hb).1,?_,List.nodup_append.2 ⟨hf,a2,fun b hb c hc=>fun e=>hz b hb (h3 b (e ▸ hc))⟩⟩
 obtain ⟨base,cap,hv,hr⟩:=h1
 obtain rfl:v = .slice base us.length cap:=by simpa using hv
 rw [hl]
 rcases hr with ⟨rfl,rfl,rfl,rfl⟩ | ⟨b,cur,f',rfl,hg,rfl,c1,c2,c3,c4⟩
 ·cases ys with
  | cons y ys=>simp at hl
  | nil=>obtain ⟨_,rfl⟩:=a1; exact ⟨none,0,rfl,.inl ⟨rfl,rfl,rfl,rfl⟩⟩
 ·obtain ⟨c5,rfl⟩:=vS c4
  refine ⟨_,cap,rfl,.inr ⟨b,cur,g,rfl,hg,rfl,by rw [← hl]; exact c1,c2,c3,?_⟩⟩
  have e1:(aI e' E).size=nh.size:=rfl
  rw [e1,← hl,c5]
  exact a1
end
section
variable {P:Program} {R:Type} {cx:Cx R}
theorem ai {S S1 α β:Type} [DecidableEq (List α)] (k t0:Nat) (φ:S1→Value→Fr) (Fc:S1→List (List α)) (v0:Value) (f2:Fr) {e e':TI} {E:ag α} {T:ag β} {T':(Value→List α→Prop)→ag β} {vs:Value} {x:β} {fi:List KI} {kb:Kb R S} {c:Code} {s0:S1} {body:S1→Option (Out S1 R)} {f:S1→Option (Out S R)} {Γ Γ1 Γ2:QE} {fr:Fr}
  (ho:w3 T T') (nf:NF E) (ha:qb fr (φ s0 v0)) (hf:qb fr f2) (hz:Fc s0=[]) (hv:look fr t0=some vs) (h1:dh Γ (.own T vs x) Γ1) (h2:∀ A:Value→List α→Prop,dh Γ1 (.om e (xg A (aI e' E)) v0 []) Γ2)
  (hb:∀ (A:Value→List α→Prop) s v,D P cx (.p (φ s v) [.om e (xg A (aI e' E)) v (Fc s)] f2 [.rd false (T' A) vs x] fun fr Γ=>.c ⟨[],.loop Value k (fun s v=>[.om e (xg A (aI e' E)) v (Fc s)]) φ [.rd false (T' A) vs x] f2⟩ c Γ fr (body s)))
  (hk:∀ s v,D P cx (.p (φ s v) [.own (aI e (aI e' E)) v (Fc s)] f2 [] fun fr Γ=>.mn ⟨fi,kb⟩ Γ fr (f s))) :
  Bx (ni P cx (.bk true k ⟨fi,kb⟩ (.loop c) Γ fr (aj (ah k (ai body s0)) fun s=>PB (Fc s)>>=fun _=>f s))):=by
 have _:=hv
 rw [pG]
 intro B o PC r w vq ma
 obtain ⟨Z,F,hS,hG⟩:=ma
 obtain ⟨ft,F1,vr,hT,jz⟩:=h1.sound hS
 have Bd:=hG.perm vr
 obtain ⟨n1,n2,n3⟩:=List.nodup_append.1 Bd.nd
 obtain ⟨A,hA,hR⟩:=ho.opened (hp:=w.heap) hT n1
 obtain ⟨fo,F2,sR,hO,my⟩:=(h2 A).sound jz
 have hfl:∀ b∈ft,b < w.heap.size:=ag.lt _ hT
 have hfz:∀ b∈ft,¬ Z b:=fun b hb=>Bd.apart b (List.mem_append_left _ hb)
 have PD:∀ b∈fo,b∈F1:=fun b hb=>sR.mem_iff.1 (List.mem_append_left _ hb)
 have qi:fo.Nodup:=(List.nodup_append.1 (sR.nodup_iff.2 n2)).1
 refine F5 (T:=TT P cx B) (LI B (fun s v=>[.om e (xg A (aI e' E)) v (Fc s)]) φ [.rd false (T' A) vs x] f2) PC
  ⟨v0,rS (ha.all vq) (hf.sound vq),fun b=>Z b∨b∈ft,fo,⟨fo,[],(List.append_nil _).symm,by rw [hz]; exact hO.mono fun _=>.inl,⟨ft,hR,fun b hb=>.inr hb⟩,rfl⟩,qi,fun b hb=>?_,fun b hb=>hb.elim (hG.qc b) (hfl b),fun b hb=>Bd.low b (List.mem_append_right _ (PD b hb)),fun b h=>.inl (hG.tC b h),fun b hb=>hb.elim (hG.tD b) fun hb=>.inr (Bd.low b (List.mem_append_left _ hb)),hG.iv⟩ ?_ ?_ ?_
 ·rintro (h | h)
  ·exact Bd.apart b (List.mem_append_right _ (PD b hb)) h
  ·exact n3 b h b (PD b hb) rfl
 ·intro x r w he hx
  subst he
  exact uB hx
 ·rintro s r w ⟨v,h1,h2⟩ o ho
  exact (hb A s v).sound B o ho r w h1 h2
 ·rintro s r w' ⟨v,a1,Z2,Fl,Ck,nr⟩ hm
  obtain ⟨_,hn,hm⟩:=bind_some hm
  replace hn:=J7 hn
  obtain ⟨f',F',rfl,hom,SZ⟩:=Ck
  have CA:F'=[]:=SZ.2
  subst CA
  rw [List.append_nil] at nr
  obtain ⟨g,s1,s2,s3⟩:=HR nf hA hom hn nr.nd nr.apart
  refine (hk s v).sound B o hm r w' a1 ⟨B.Z,f'++g,⟨f'++g,[],(List.append_nil _).symm,s2,rfl⟩,s3,fun b hb hz=>?_,fun b hz=>nr.qc b (nr.tC b hz),fun b hb=>?_,fun _ h=>h,fun _ h=>.inl h,nr.iv⟩
  ·rcases List.mem_append.1 hb with hb | hb
   ·exact nr.apart b hb (nr.tC b hz)
   ·exact hfz b (s1 b hb) (hG.tC b hz)
  ·rcases List.mem_append.1 hb with hb | hb
   ·exact nr.low b hb
   ·exact Bd.low b (List.mem_append_left _ (s1 b hb))
end
end Go.Dk
namespace Go.Dk
open Go Go.Li
section
variable {R:Type} {P:Program} {cx:Cx R} {B:Bs} {M:Type} {all l:LO} {rk:RK R M} {fr:Fr} {w:World} {Z:Nat→Prop} {F cur:LN} {Γ Γ1 Γ2 Γ3:QE}
theorem D.of {J:Jd R} (h:ni P cx J):D P cx J:=.inj (by rw [pG]; exact h)
theorem Gr {α:Type} {E:ag α} {d n:Nat} {t e ty:TI} {ps:List (Nat×Operand)} {us:LV} {xs:List α} {m:Option M} [hz:ET P t e] (hl:rR Γ fr 0 ps us) (hn:us.length=n) (hb:(Nat.ble 1 n && Nat.ble n 16777216)=true) (hx:EW Γ E us xs Γ1) (hE:E.size=1)
  (h:∀ v,D P cx (.o false all l rk (.own (aI e E) v xs :: Γ1) ((d,v) :: fr) m)):D P cx (.e false (.buildSlice t n ps.toArray) (some d) ty all l rk Γ fr m):=by
 refine D.of ?_
 intro B o ho r w ha hs pos ae g
 obtain ⟨Z,F,hS,hg⟩:=hs
 refine fk (WL.val rfl (hl.op ha hS ⟨hz.h⟩ hn hb) ((h _).sound B o ho _ _ (bc ha) ?_))
 obtain ⟨e1,f,F2,sR,hr,my⟩:=hx.sound hS
 have B9:n≤16777216:=by
  rw [Bool.and_eq_true] at hb
  exact Nat.le_of_ble_eq_true hb.2
 have hC:ao [] w (w.alloc (.cells us.toArray e)):=ao.alloc _ _ _
 have je:Gd B Z (f++F2) w:=hg.perm sR
 have bj:∀ b∈f,b < w.heap.size:=j8 hr
 have CE:=heap_alloc_new w (.cells us.toArray e)
 have jd:db E (w.alloc (.cells us.toArray e)).heap us xs f:=fx hr fun b hb=>hC.block b (bj b hb) (fun h=>absurd h List.not_mem_nil)
 refine St.put (f:=f) (f':=w.heap.size :: f) my je (ao.mono hC fun _ h=>absurd h List.not_mem_nil) ⟨_,n,by rw [← hn,e1],.inr ⟨w.heap.size,us.toArray,f,rfl,CE,rfl,by rw [← hn,e1]; exact Nat.le_refl _,Nat.le_trans B9 (by decide),by rw [hE,Nat.mul_one]; simp [hn],?_⟩⟩ ?_ ?_
 ·rw [hE,Nat.mul_one,List.toList_toArray,← e1,List.take_length]
  exact jd
 ·exact List.nodup_cons.2 ⟨fun hm=>Nat.lt_irrefl _ (bj _ hm),(List.nodup_append.1 je.nd).1⟩
 ·intro b hb
  rcases List.mem_cons.1 hb with rfl | hb
  ·exact .inr (Nat.le_refl _)
  ·exact .inl hb
def Va {α:Type} (v:Value) (_:List α):Prop:=∃ a n c,v = .slice a n c∧n≤c
theorem Le.cap {α:Type} {T E:ag α} (hl:Le T E) (e:TI):Le (aI e T) (xg Va (bE E)):=by
 refine ⟨rfl,fun {h cs x f} hr=>⟨?_,(Le.own hl e).le hr⟩⟩
 obtain ⟨base,cap,rfl,hr⟩:=hr
 refine ⟨_,rfl,_,_,_,rfl,?_⟩
 rcases hr with ⟨_,_,rfl,_⟩ | ⟨_,_,_,_,_,_,h,_⟩
 ·exact Nat.zero_le _
 ·exact h
theorem PE {κ υ:Type} {q:Bool} {d:Nat} {x y:OO} {v:Value} {t ty:TI} {bq:BEq κ} {ek:κ→Value} {eu:υ→Value} {xs:List (κ×υ)} {a:κ} {z0:υ} {m:Option M} [ht:Hl P t κ υ bq ek eu] [hz:Oh P t υ eu z0] (hx:bx fr x=some v) (hy:bx fr y=some (ek a)) (hr:AY ek eu Γ v xs)
  (h:D P cx (.o q all l rk Γ ((d,eu ((qn xs a).getD z0)) :: fr) m)):D P cx (.e q (.lookup t x y false) (some d) ty all l rk Γ fr m):=by
 refine D.of ?_
 intro B o ho r w ha hs pos ae g
 obtain ⟨Z,F,hS,_⟩:=id hs
 exact dj ((VQ.TU (z0:=z0) hx hy hr).sound hS ha _ _ _ _ _) (h.sound B o ho _ w (bc ha) hs)
theorem St.agM {B:Bs} {Γ Δ Γ1 Γ2 Γ3:QE} {w:World} (h:St B Γ w) (h0:EF Γ Δ Γ1) (h1:EO Γ1 Γ2 Γ3) (h2:MF Γ none Γ2):St B (Δ.reverse++Γ2) w:=by
 obtain ⟨Z,F,hs,hg⟩:=h
 obtain ⟨Fd,F',Zn,a1,a2,a3⟩:=h0.sound hs
 obtain ⟨Ov,F3,c1,c2,c3⟩:=h1.sound a2
 obtain ⟨F2,b1,b2⟩:=HL.build a1 (h2.sound (hs.left (f:=Zn)) (cy:=[]) (by rintro e he; cases he) c1)
 refine St.of (F':=Fd++Ov) b2 (Gd.left (F':=F3) ((Gd.freeze (hg.perm a3) fun b hb=>hs.lt b (a3.mem_iff.1 (List.mem_append_right _ hb))).perm ?_)) b1
 rw [List.append_assoc]
 exact c3.append_left Fd
theorem join {S S1 V:Type} {t k:Nat} {b:Bool} (Δ:S1→V→List ay) (φ:S1→V→Fr) (v0:V) (f2:Fr) {fi:List KI} {kb:Kb R S} {x y:Code} {s0:S1} {m0:Option (Out S1 R)} {f:S1→Option (Out S R)}
   (_ha:qb fr (φ s0 v0)) (_hf:qb fr f2) (_h0:EO Γ (Δ s0 v0) Γ1) (_hs:gu Γ1 Γ2)
   (hb:D P cx (.cd b ⟨[],.loop V k Δ φ Γ2 f2⟩ x y Γ fr m0)) (hk:∀ s v,D P cx (.p (φ s v) (Δ s v) f2 Γ2 fun fr Γ=>.n ⟨fi,kb⟩ Γ fr (f s))):D P cx (.cd b ⟨fi,kb⟩ x y Γ fr (jn t s0 m0 f)):=by
 refine .inj (YO ?_)
 intro B o ho r w vq ma
 replace ho:aj m0 f=some o:=ho
 cases hm:m0 with
 | none=>rw [hm] at ho; cases ho
 | some o0=>
  have h1:=hb.sound B o0 hm r w vq ma
  rw [hm] at ho
  have hq:∀ e r w,ir P cx B ⟨[],.loop V k Δ φ Γ2 f2⟩ o0 e r w→ir P cx B ⟨fi,kb⟩ o e r w:=by
   intro e r w hp
   cases o0 with
   | norm s=>
    cases e with
    | normal=>obtain ⟨v,a1,a2⟩:=hp; exact (hk s v).sound B o ho r w a1 a2
    | _=>exact hp.elim
   | exit j s=>cases ho
   | ret y=>
    cases ho
    cases e with
    | ret=>exact uB hp
    | _=>exact hp.elim
  exact ⟨fun h=>si (h1.1 h) hq,fun h=>si (h1.2 h) hq⟩
theorem rwU {S:Type} {t:Nat} {K:ch R S} {ops:LO} {m:Option (Out S R)} (_ht:zi ops=some t) (h:D P cx (.o false ops ops (.s K) Γ fr m)):D P cx (.rw false ops K Γ fr m):=.TL h
theorem zv {S:Type} {b:Bool} {t:Nat} {K:ch R S} {x y:Code} {m1 m2:Option (Out S R)} (hl:look fr t=some (.bool b)) (h1:D P cx (.c K x Γ ((t,.bool true) :: fr) m1)) (h2:D P cx (.c K y Γ ((t,.bool false) :: fr) m2)):D P cx (.cd b K x y Γ fr (bif b then m1 else m2)):=by
 refine D.of ?_
 have hc:∀ {r:NV},cf r fr→∀ c,b=c→cf r ((t,.bool c) :: fr):=by
  intro r ha c hb s u hs
  unfold look at hs
  cases ma:Nat.beq s t with
  | true=>
   rw [ma] at hs
   cases hs
   obtain rfl:=Nat.eq_of_beq_eq_true ma
   rw [← hb]
   exact ha _ _ hl
  | false=>rw [ma] at hs; exact ha _ _ hs
 exact fun B o ho r w ha hs=>⟨fun h=>h1.sound B o (by rw [h] at ho; exact ho) r w (hc ha _ h) hs,fun h=>h2.sound B o (by rw [h] at ho; exact ho) r w (hc ha _ h) hs⟩
class vD {α:Type} (S:ag α) (V:outParam Type) (cl:outParam (α→V→List Value)) (en:outParam (α→V→List ay)):Prop where
 ow:∀ x v,sd (en x v)=true
 op:∀ {w:World} {cs:LV} {x:α} {g:LN},S.rep w.heap cs x g→∃ v,cs=cl x v∧∀ Z:Nat→Prop,HL Z w (en x v) g
 cl:∀ {w:World} {x:α} {v:V} {Z:Nat→Prop} {g:LN},HL Z w (en x v) g→S.rep w.heap (cl x v) x g
theorem vD.i {k:IntKind}:vD (aJ k) Unit (fun x _=>[.int k x]) (fun _ _=>[]):=
 ⟨fun _ _=>rfl,fun h=>⟨(),h.1,fun _=>by rw [h.2]; exact .nil⟩,fun h=>by cases h; exact ⟨rfl,rfl⟩⟩
theorem vD.s {α:Type} {e:TI} {E:ag α}:vD (aI e E) Value (fun _ v=>[v]) (fun x v=>[.own (aI e E) v x]):=by
 refine ⟨fun _ _=>rfl,fun {w cs x g} h=>?_,fun {w x v Z g} h=>?_⟩
 ·obtain ⟨base,cap,rfl,hr⟩:=h
  refine ⟨_,rfl,fun Z=>?_⟩
  have:=HL.own (Z:=Z) (w:=w) (e:=.own (aI e E) (.slice base x.length cap) x) (f:=g) ⟨base,cap,rfl,hr⟩ .nil
  rwa [List.append_nil] at this
 ·cases h with
  | own h k=>cases k; rw [List.append_nil]; exact h
  | fact h _=>exact h.elim
theorem vD.ip {β V:Type} {k:IntKind} {B:ag β} {cl:β→V→List Value} {en:β→V→List ay} (h:vD B V cl en):vD (cn (aJ k) B) V (fun x v=>.int k x.1 :: cl x.2 v) (fun x v=>en x.2 v):=by
 refine ⟨fun x v=>h.ow x.2 v,fun {w cs x g} hr=>?_,fun {w x v Z g} he=>?_⟩
 ·obtain ⟨c1,c2,f1,f2,rfl,rfl,⟨rfl,rfl⟩,h2⟩:=hr
  obtain ⟨v,rfl,hv⟩:=h.op h2
  exact ⟨v,rfl,hv⟩
 ·exact ⟨[_],_,[],g,rfl,rfl,⟨rfl,rfl⟩,h.cl he⟩
theorem vD.sp {α β V:Type} {e:TI} {E:ag α} {B:ag β} {cl:β→V→List Value} {en:β→V→List ay} (h:vD B V cl en):vD (cn (aI e E) B) (Value×V) (fun x v=>v.1 :: cl x.2 v.2) (fun x v=>.own (aI e E) v.1 x.1 :: en x.2 v.2):=by
 refine ⟨fun x v=>h.ow x.2 v.2,fun {w cs x g} hr=>?_,fun {w x v Z g} he=>?_⟩
 ·obtain ⟨c1,c2,f1,f2,rfl,rfl,h1,h2⟩:=hr
  obtain ⟨base,cap,rfl,AU⟩:=h1
  obtain ⟨v,rfl,hv⟩:=h.op h2
  exact ⟨(_,v),rfl,fun Z=>.own ⟨base,cap,rfl,AU⟩ (hv Z)⟩
 ·cases he with
  | own h1 k=>
   obtain ⟨base,cap,hb,AU⟩:=h1
   exact ⟨[_],_,_,_,rfl,rfl,⟨base,cap,hb,AU⟩,h.cl k⟩
  | fact h1 _=>exact h1.elim
theorem vD.mp {α β V:Type} {f:β→α} {A:ag α} {cl:α→V→List Value} {en:α→V→List ay} (h:vD A V cl en):vD (vR f A) V (fun y v=>cl (f y) v) (fun y v=>en (f y) v):=
 ⟨fun y v=>h.ow (f y) v,fun hr=>h.op hr,fun he=>h.cl he⟩
end
end Go.Dk
namespace Go.Dk
open Go Go.Li
section
variable {P:Program} {n:Nat} {l:LO} {Q:Exit→(Nat→Value)→World→Prop} {S:World→Prop}
def Hw (P:Program) (n:Nat) (l:LO) (Q:Exit→(Nat→Value)→World→Prop) (S:World→Prop) (k:Nat) (L:Array Bool) (r:NV) (w:World):Prop:=
 ∀ a:Act,a.tmps.size=n→a.defers=[]→b9 a=r→wpAnyH P .any l.toArray (fun e a' w'=>a'.tmps.size=n∧a'.defers=[]∧Q e (b9 a') w') S k L a w
theorem zw {i:Nat} {o:Oper} {a:Act} (hd:cg n l=true) (hi:l[i]? = some o) (h1:a.tmps.size=n):∀ k,o.dst=some k→k < a.tmps.size:=by
 intro k hk
 have hm:o∈l:=List.mem_of_getElem? hi
 simp only [cg,List.all_eq_true] at hd
 have:=hd o hm
 rw [hk] at this
 rw [h1]
 exact Nat.lt_of_succ_le (Nat.le_of_ble_eq_true this)
theorem Hw.take {k i:Nat} {L:Array Bool} {o:Oper} {v:Value} {r:NV} {w:World} (hd:cg n l=true) (hi:l[i]? = some o) (hs:Region.noSelect l.toArray=true) (hf:Region.free .any l.toArray L i=true) (hr:(Region.ready .any l.toArray L).contains i=true)
  (hp:∀ c r w,¬ Q (.panic c) r w) (hg:o.guard=none) (hy:∀ w,S w→(execOp (ev r) o).run P w = .ok (.value v) w) (hS:S w) (h:Hw P n l Q S k (L.setIfInBounds i true) (dw r o.dst v) w):Hw P n l Q S (k+1) L r w:=by
 intro a h1 h2 h3
 refine wpAnyH_take (v:=v) (by simpa using hi) hs hf hr (fun c a w h=>(hp _ _ _ h.2.2).elim) (.inl ⟨qx hg,fun w hw=>?_⟩) hS (h _ (by rw [gj]; exact h1) (by rw [ed]; exact h2) (by rw [iH (zw hd hi h1),h3]))
 rw [ou,h3]
 exact hy w hw
theorem Hw.step {k i:Nat} {L:Array Bool} {o:Oper} {r:NV} {w w':World} (hd:cg n l=true) (hi:l[i]? = some o) (hr:Region.ready .any l.toArray L=[i]) (hg:o.guard=none) (hy:(execOp (ev r) o).run P w = .ok .skip w') (hS:S w') (h:Hw P n l Q S k (L.setIfInBounds i true) (dw r o.dst undef) w'):Hw P n l Q S (k+1) L r w:=by
 intro a h1 h2 h3
 refine wpAnyH_all hr (by simp) fun j hj=>?_
 obtain rfl:j=i:=by simpa using hj
 unfold wpOp
 rw [show (l.toArray)[j]? = some o by simpa using hi]
 simp only []
 rw [if_pos (qx hg)]
 refine .inl ?_
 unfold Oper.wp
 rw [ou,h3,hy]
 exact ⟨hS,h _ (by rw [gj]; exact h1) (by rw [ed]; exact h2) (by rw [iH (zw hd hi h1),h3])⟩
theorem Hw.done {k:Nat} {L:Array Bool} {r:NV} {w:World} (hr:Region.ready .any l.toArray L=[]) (h:Q .normal r w):Hw P n l Q S k L r w:=
 fun _ h1 h2 h3=>wpAnyH_done hr ⟨h1,h2,by rw [h3]; exact h⟩ k
theorem Hw.start {r:NV} {w:World} (h:Hw P n l Q S l.length (Array.replicate l.length false) r { w with drawn:=w.drawn+1 }):kp P n l Q r w:=
 fun a h1 h2 h3=>wpAny_of_held _ _ _ _ (h a h1 h2 h3)
def yz (P:Program) (S:World→Prop):List Oper→(Nat→Value)→((Nat→Value)→Prop)→Prop
 | [],r,K=>K r
 | o :: l,r,K=>o.guard=none∧∃ v,(∀ w,S w→(execOp (ev r) o).run P w = .ok (.value v) w)∧yz P S l (dw r o.dst v) K
def Gs (l:LO) (e:Array Bool→Bool):List Nat→Array Bool→Bool
 | [],L=>e L
 | i :: ss,L=>Nat.blt i l.length && (Region.ready .any l.toArray L == [i]) && Gs l e ss (L.setIfInBounds i true)
def CY (l:LO) (e:Array Bool→Bool):List Nat→Array Bool→Bool
 | [],L=>e L
 | i :: qs,L=>Nat.blt i l.length && (Region.ready .any l.toArray L).contains i && Region.free .any l.toArray L i && CY l e qs (L.setIfInBounds i true)
def PF (l:LO) (L:Array Bool):Bool:=(Region.ready .any l.toArray L).isEmpty
def pick (l:LO) (is:LN):List Oper:=is.map fun i=>l.getD i default
theorem Az {i:Nat} (h:Nat.blt i l.length=true):l[i]? = some (l.getD i default):=by
 have h1:i < l.length:=Nat.lt_of_succ_le (Nat.le_of_ble_eq_true h)
 rw [List.getD_eq_getElem?_getD,List.getElem?_eq_getElem h1]; rfl
theorem Hw.quiet (hd:cg n l=true) (hs:Region.noSelect l.toArray=true) (hp:∀ c r w,¬ Q (.panic c) r w) {e:Array Bool→Bool} {m:Nat} {w:World} (hS:S w) {K:(Nat→Value)→Prop} (h:∀ L r,e L=true→K r→Hw P n l Q S m L r w) :
  ∀ (qs:LN) (L:Array Bool) (r:NV),CY l e qs L=true→yz P S (pick l qs) r K→Hw P n l Q S (qs.length+m) L r w:=by
 intro qs
 induction qs with
 | nil=>intro L r hc hv; rw [List.length_nil,Nat.zero_add]; exact h L r hc hv
 | cons i qs ih=>
  intro L r hc hv
  unfold CY at hc
  simp only [Bool.and_eq_true] at hc
  obtain ⟨⟨⟨c1,c2⟩,c3⟩,c4⟩:=hc
  obtain ⟨hg,v,h1,h2⟩:=hv
  have:=Hw.take hd (Az c1) hs c3 c2 hp hg h1 hS (ih _ _ c4 h2)
  rwa [show qs.length+m+1=(i :: qs).length+m by simp; omega] at this
end
inductive JQ
 | q (ops:LO) (fr:Fr)
 | la (a:Addr) (lk:Option Nat) (t:TI) (x:OO) (d:Nat) (ty:TI) (pos:String) (ae:Array Edge) (ops:LO) (fr:Fr)
inductive QA (P:Program) (Γ:QE):JQ→Fr→Prop
 | nil {fr:Fr}:QA P Γ (.q [] fr) fr
 | ld {d:Nat} {t ty:TI} {x:OO} {lk:Option Nat} {a:Addr} {pos:String} {ae:Array Edge} {ops:LO} {fr kq:Fr} [ht:LK P t lk] (hx:bx fr x=some (.pointer (some a))) (h:QA P Γ (.la a lk t x d ty pos ae ops fr) kq):QA P Γ (.q (⟨some d,.load t x,ty,pos,ae,none⟩ :: ops) fr) kq
 | val {d:Nat} {op:Op} {ty:TI} {u:Value} {pos:String} {ae:Array Edge} {ops:LO} {fr kq:Fr} (hv:VQ P Γ fr op u) (h:QA P Γ (.q ops ((d,u) :: fr)) kq):QA P Γ (.q (⟨some d,op,ty,pos,ae,none⟩ :: ops) fr) kq
 | lc {d:Nat} {t ty:TI} {x:OO} {a:Addr} {u:Value} {pos:String} {ae:Array Edge} {ops:LO} {fr kq:Fr} (h:rP Γ a u) (k:QA P Γ (.q ops ((d,u) :: fr)) kq):QA P Γ (.la a none t x d ty pos ae ops fr) kq
 | ls {d n:Nat} {t ty:TI} {x:OO} {a:Addr} {ds:LV} {pos:String} {ae:Array Edge} {ops:LO} {fr kq:Fr} (h:rQ Γ a n ds) (k:QA P Γ (.q ops ((d,.agg ds.toArray) :: fr)) kq):QA P Γ (.la a (some n) t x d ty pos ae ops fr) kq
inductive RO (fr:Fr):List Oper→List ay→List (Nat×List Value×TypeId)→List ay→Prop
 | nil {Γ:QE}:RO fr [] Γ [] Γ
 | cons {t ty e:TI} {x y:OO} {b:Nat} {cs:LV} {pos:String} {ae:Array Edge} {ops:LO} {Γ Γ1 Γ2:QE} {rs:List (Nat×List Value×TypeId)} (hx:bx fr x=some (.pointer (some ⟨b,0,none⟩))) (h:dh Γ (.row b cs e) Γ1) (k:RO fr ops Γ1 rs Γ2):RO fr (⟨none,.store t x y,ty,pos,ae,none⟩ :: ops) Γ ((b,cs,e) :: rs) Γ2
inductive SQ (P:Program) (Γ:QE) (fr:Fr):List Oper→List (Nat×List Value×TypeId)→List (Nat×List Value×TypeId)→Prop
 | nil:SQ P Γ fr [] [] []
 | cons {n:Nat} {t ty e:TI} {x y:OO} {b:Nat} {u:Value} {us cs ds:LV} {pos:String} {ae:Array Edge} {ops:LO} {rs qj:List (Nat×List Value×TypeId)} [ht:sg P t n] (hx:bx fr x=some (.pointer (some ⟨b,0,none⟩))) (hy:bx fr y=some u) (hc:pR Γ u us) (hn:us.length=n) (hs:qA us 0 cs ds) (ho:tE Γ us) (k:SQ P Γ fr ops rs qj) :
   SQ P Γ fr (⟨none,.store t x y,ty,pos,ae,none⟩ :: ops) ((b,cs,e) :: rs) ((b,ds,e) :: qj)
def zx:List (Nat×List Value×TypeId)→List ay
 | []=>[]
 | (b,cs,e) :: l=>.row b cs e :: zx l
def Rows (w:World) (rs:List (Nat×List Value×TypeId)):Prop:=∀ p∈rs,Row w p.1 p.2.1 p.2.2
section
variable {P:Program} {Γ Γ2:QE} {S:World→Prop} {Z:Nat→Prop}
def Vb (P:Program) (S:World→Prop):JQ→Fr→Prop
 | .q ops fr,kq=>∀ r,cf r fr→yz P S ops r fun r'=>cf r' kq
 | .la a lk t x d ty pos ae ops fr,kq=>(match lk with | none=>NA P t | some n=>AG P t n)→bx fr x=some (.pointer (some a))→∀ r,cf r fr→yz P S (⟨some d,.load t x,ty,pos,ae,none⟩ :: ops) r fun r'=>cf r' kq
theorem QA.sound {J:JQ} {kq:Fr} (hS:∀ w,S w→∃ cur F,SA Z w Γ cur F) (h:QA P Γ J kq):Vb P S J kq:=by
 induction h with
 | nil=>exact fun r h=>h
 | @ld d t ty x lk a pos ae ops fr kq ht hx _ ih=>exact fun r ha=>ih ht.h hx r ha
 | @val d op ty u pos ae ops fr kq hv _ ih=>
  intro r ha
  refine ⟨rfl,u,fun w hw=>?_,ih _ (bc ha)⟩
  obtain ⟨cur,F,h⟩:=hS w hw
  exact hv.sound h ha (some d) ty pos ae none w (ao.refl _ _)
 | @lc d t ty x a u pos ae ops fr kq h _ ih=>
  intro ht hx r ha
  refine ⟨rfl,u,fun w hw=>?_,ih _ (bc ha)⟩
  obtain ⟨cur,F,hs⟩:=hS w hw
  exact Ld ht (h.sound hs) (bL ha hx) w (ao.refl _ _)
 | @ls d n t ty x a ds pos ae ops fr kq h _ ih=>
  intro ht hx r ha
  refine ⟨rfl,_,fun w hw=>?_,ih _ (bc ha)⟩
  obtain ⟨cur,F,hs⟩:=hS w hw
  obtain ⟨h1,h2⟩:=h.sound hs
  exact Lg ht h1 (bL ha hx) h2 w (ao.refl _ _)
theorem RO.sound {fr:Fr} {ops:LO} {rs:List (Nat×List Value×TypeId)} {w:World} (h:RO fr ops Γ rs Γ2):∀ {F:LN},SA Z w Γ [] F→∃ F2,(rs.map (·.1)++F2).Perm F∧Rows w rs∧SA Z w Γ2 [] F2:=by
 induction h with
 | nil=>intro F h; exact ⟨F,.refl _,fun _ h=>absurd h List.not_mem_nil,h⟩
 | @cons t ty e x y b cs pos ae ops Γ Γ1 Γ2 rs hx h _ ih=>
  intro F hS
  obtain ⟨f,F1,hp,⟨rfl,bo⟩,jz⟩:=h.sound hS
  obtain ⟨F2,sR,hr,my⟩:=ih jz
  refine ⟨F2,?_,fun p hp=>?_,my⟩
  ·exact .trans (List.Perm.cons b sR) hp
  ·rcases List.mem_cons.1 hp with rfl | hp
   ·exact bo
   ·exact hr p hp
theorem SQ.sound {n m:Nat} {e:Array Bool→Bool} {l:LO} {Q:Exit→(Nat→Value)→World→Prop} {fr:Fr} {ops:LO} {rs qj:List (Nat×List Value×TypeId)} {F2:LN} {w0:World} {r:NV} {F:LN} (hd:cg n l=true) (ha:cf r fr) (Fe:∀ w,ao F w0 w→SA Z w Γ2 [] F2) (h:SQ P Γ2 fr ops rs qj) :
  ∀ (ss:LN) (L:Array Bool) (w:World),ops=pick l ss→Gs l e ss L=true→ao F w0 w→Rows w rs→(rs.map (·.1)).Nodup→(∀ b∈rs.map (·.1),b∈F)→(∀ L w',e L=true→ao F w0 w'→ao (rs.map (·.1)) w w'→Rows w' qj→Hw P n l Q (ao F w0) m L r w')→Hw P n l Q (ao F w0) (ss.length+m) L r w:=by
 induction h with
 | nil=>
  intro ss L w ho hc hC hR hn hF hk
  cases ss with
  | cons i ss=>cases ho
  | nil=>
   rw [List.length_nil,Nat.zero_add]; exact hk L w hc hC (ao.refl _ _) hR
 | @cons n' t ty e' x y b u us cs ds pos ae ops rs qj ht hx hy Bb hn hsg hon _ ih=>
  intro ss L w ho hc hC hR dv hF hk
  cases ss with
  | nil=>cases ho
  | cons i ss=>
   unfold Gs at hc
   simp only [Bool.and_eq_true] at hc
   obtain ⟨⟨c1,c2⟩,c3⟩:=hc
   have cq:l.getD i default = ⟨none,.store t x y,ty,pos,ae,none⟩∧ops=pick l ss:=by
    unfold pick at ho
    rw [List.map_cons,List.cons.injEq] at ho
    exact ⟨ho.1.symm,ho.2⟩
   have hi:=Az c1
   rw [cq.1] at hi
   obtain ⟨ti,q1,q2⟩:=ht.h
   have bo:Row w b cs e':=hR (b,cs,e') (by simp)
   obtain ⟨e1,e2⟩:=hsg.eq
   have T9:=Fe w hC
   have oq:=ve (P:=P) (d:=none) (ty:=ty) (pos:=pos) (ae:=ae) (gg:=none) q1 (by rw [hn,q2]) bo e1 (bL ha hx) (y:=y) (by rw [bL ha hy]; exact Bb.eq T9) (hon.one T9)
   have sZ:=setRow_heap w b cs.toArray (cs.take 0++us++cs.drop (0+us.length)).toArray e' _ bo
   have Bf:ao [b] w (w.setRow b (cs.take 0++us++cs.drop (0+us.length)).toArray):=⟨rfl,rfl,rfl,Nat.le_refl _,by simp,fun j _ hj=>setRow_other w b j _ fun h=>hj (by simp [h])⟩
   have HS:=hC.trans (Bf.mono fun b' cb=>by rw [List.mem_singleton.1 cb]; exact hF b (by simp))
   rw [List.map_cons,List.nodup_cons] at dv
   rw [show (i :: ss).length+m=ss.length+m+1 by simp; omega]
   refine Hw.step hd hi (by simpa using c2) rfl oq HS (ih ss _ _ cq.2 c3 HS (fun p hp=>(hR p (List.mem_cons_of_mem _ hp)).cw Bf fun hb=>dv.1 ?_) dv.2 (fun b' cb=>hF b' (by simp at cb ⊢; exact .inr cb)) fun L' w' he CA E6 PG=>?_)
   ·rw [← List.mem_singleton.1 hb]; exact List.mem_map_of_mem (f:=fun q=>q.1) hp
   ·refine hk L' w' he CA ((Bf.mono (by simp)).trans (E6.mono fun b' cb=>List.mem_cons_of_mem _ cb)) fun p hp=>?_
    rcases List.mem_cons.1 hp with rfl | hp
    ·refine Row.cw (F:=rs.map (·.1)) ?_ E6 dv.1
     rw [e2]
     exact sZ
    ·exact PG p hp
theorem SQ.fst {fr:Fr} {ops:LO} {rs qj:List (Nat×List Value×TypeId)} (h:SQ P Γ fr ops rs qj):qj.map (·.1)=rs.map (·.1):=by
 induction h with
 | nil=>rfl
 | cons _ _ _ _ _ _ _ ih=>simp only [List.map_cons,ih]
theorem CZ {w:World}:∀ {rs:List (Nat×List Value×TypeId)},Rows w rs→HL Z w (zx rs) (rs.map (·.1))
 | [],_=>.nil
 | (b,cs,e) :: l,h=>.own (f:=[b]) (e:=.row b cs e) ⟨rfl,h (b,cs,e) (by simp)⟩ (CZ fun p hp=>h p (List.mem_cons_of_mem _ hp))
end
section
variable {R S:Type} {P:Program} {cx:Cx R} {K:ch R S} {l:LO}
theorem anyS {id:Nat} (qs ss ts:LN) {PH ov J8:LO} {Γ Γ1:QE} {fr Mi kq:Fr} {rs qj:List (Nat×List Value×TypeId)} {m:Option (Out S R)}
  (hB:(P.follows .mixedOrders && cg cx.n l && Region.noSelect l.toArray && CY l (Gs l (CY l (PF l) ts) ss) qs (Array.replicate l.length false) && Nat.beq l.length (qs.length+(ss.length+(ts.length+0))))=true)
  (hq:PH=pick l qs) (hs:ov=pick l ss) (ht:J8=pick l ts) (h1:RO fr ov Γ rs Γ1) (h2:QA P Γ1 (.q PH fr) Mi) (h3:SQ P Γ1 Mi ov rs qj) (h4:QA P Γ1 (.q J8 Mi) kq)
  (h:D P cx (.p [] (zx qj) kq Γ1 fun fr Γ=>.n K Γ fr m)):Bx (ni P cx (.dr id l K Γ fr m)):=by
 simp only [Bool.and_eq_true] at hB
 obtain ⟨⟨⟨⟨b1,b2⟩,b3⟩,b4⟩,b5⟩:=hB
 rw [pG]
 intro B o ho r w ha ma
 obtain ⟨Z,F,hS,hG⟩:=ma
 obtain ⟨F2,hp,hR,my⟩:=h1.sound hS
 have nr:=hG.perm hp
 have dv:=List.nodup_append.1 nr.nd
 refine kp.W b1 (Hw.start (S:=ao (rs.map (·.1)) { w with drawn:=w.drawn+1 }) ?_)
 have PI:ao [] w { w with drawn:=w.drawn+1 }:=ao.drew _ _
 have Fe:∀ w',ao (rs.map (·.1)) { w with drawn:=w.drawn+1 } w'→SA Z w' Γ1 [] F2:=fun w' hC=>(my.iq PI).cw hC (fun b hb=>nr.apart b (List.mem_append_left _ hb)) (fun b _=>List.not_mem_nil) (fun b hb hm=>dv.2.2 b hb b hm rfl)
 rw [show l.length=qs.length+(ss.length+(ts.length+0)) from Nat.eq_of_beq_eq_true b5] at b4 ⊢
 subst hq hs ht
 refine Hw.quiet (K:=fun r'=>cf r' Mi) b2 b3 (fun c r w h=>rZ c h) (ao.refl _ _) (fun L r' hc jd=>?_) qs _ r b4 (QA.sound (fun w' hC=>⟨[],F2,Fe w' hC⟩) h2 r ha)
 refine SQ.sound b2 jd Fe h3 ss L _ rfl hc (ao.refl _ _) (fun p hp=>(hR p hp).iq PI) dv.1 (fun b hb=>hb) fun L2 w' he hCF hC PG=>?_
 refine Hw.quiet (K:=fun r'=>cf r' kq) b2 b3 (fun c r w h=>rZ c h) hCF (fun L3 r3 hc3 hr3=>Hw.done (by simpa [PF] using hc3) ?_) ts _ r' he (QA.sound (fun w' hC=>⟨[],F2,Fe w' hC⟩) h4 r' jd)
 obtain ⟨F3,e1,e2⟩:=HL.build (CZ PG) (Fe w' hC)
 have HS:ao (rs.map (·.1)) w w':=(PI.mono fun b hb=>absurd hb List.not_mem_nil).trans hC
 rw [h3.fst] at e1
 have rV:∀ b∈rs.map (·.1),b∈B.G∨B.w.heap.size≤b:=fun b hb=>nr.low b (List.mem_append_left _ hb)
 have pH:Gd B Z (rs.map (·.1)++F2) w':=⟨nr.nd,nr.apart,fun b hb=>Nat.lt_of_lt_of_le (nr.qc b hb) HS.size,nr.low,nr.tC,nr.tD,nr.iv.then HS rV⟩
 exact h.sound B o ho r3 w' (by simpa using hr3) ⟨Z,F3,e2,pH.perm e1⟩
end
theorem Hw.all {P:Program} {n k:Nat} {l:LO} {Q:Exit→(Nat→Value)→World→Prop} {S:World→Prop} {L:Array Bool} {rs:LN} {r:NV} {w:World} (hd:cg n l=true) (hr:Region.ready .any l.toArray L=rs) (mz:rs≠[])
  (h:∀ i∈rs,∃ o,l[i]? = some o∧o.guard=none∧∃ v w',((execOp (ev r) o).run P w = .ok (.value v) w'∨(execOp (ev r) o).run P w = .ok .skip w'∧v=undef)∧S w'∧Hw P n l Q S k (L.setIfInBounds i true) (dw r o.dst v) w'):Hw P n l Q S (k+1) L r w:=by
 intro a h1 h2 h3
 refine wpAnyH_all hr mz fun j hj=>?_
 obtain ⟨o,hi,hg,v,w',hy,hS,hk⟩:=h j hj
 unfold wpOp
 rw [show (l.toArray)[j]? = some o by simpa using hi]
 simp only []
 rw [if_pos (qx hg)]
 refine .inl ?_
 unfold Oper.wp
 rw [ou,h3]
 rcases hy with hy | ⟨hy,rfl⟩
 ·rw [hy]
  exact ⟨hS,hk _ (by rw [gj]; exact h1) (by rw [ed]; exact h2) (by rw [iH (zw hd hi h1),h3])⟩
 ·rw [hy]
  exact ⟨hS,hk _ (by rw [gj]; exact h1) (by rw [ed]; exact h2) (by rw [iH (zw hd hi h1),h3])⟩
def on (L:Array Bool) (i:Nat):Array Bool:=L.setIfInBounds i true
def yx (l:LO) (L:Array Bool) (rs:LN):Bool:=Region.ready .any l.toArray L == rs
inductive C0 (P:Program) (Γ:QE) (fr:Fr) (d:Nat):Oper→Oper→TypeId→List Value→Prop
 | mk {t ty PJ:TI} {y:OO} {u:Value} {n:Nat} {us cs ds:LV} {pos J9:String} {ae Ka:Array Edge} [hz:uE P t cs] [ht:sg P t n] (hn:look fr d=none) (hy:bx fr y=some u) (hc:pR Γ u us) (hl:us.length=n) (hs:qA us 0 cs ds) (ho:tE Γ us) :
   C0 P Γ fr d ⟨some d,.alloc t,ty,pos,ae,none⟩ ⟨none,.store t (.tmp d) y,PJ,J9,Ka,none⟩ t ds
section
variable {P:Program} {Γ:QE} {Z:Nat→Prop} {fr:Fr} {w:World} {cur F:LN}
theorem C0.alloc {d:Nat} {oa os:Oper} {t:TI} {ds:LV} (h:C0 P Γ fr d oa os t ds) (r:NV) (w:World):oa.guard=none∧oa.dst=some d∧look fr d=none∧∃ cs w',(execOp (ev r) oa).run P w = .ok (.value (.pointer (some ⟨w.heap.size,0,none⟩))) w'∧ao [] w w'∧Row w' w.heap.size cs t∧
  ∀ (r':NV) (w1:World) (b:Nat) cur F,SA Z w1 Γ cur F→cf r' fr→r' d = .pointer (some ⟨b,0,none⟩)→Row w1 b cs t→∃ w2,(execOp (ev r') os).run P w1 = .ok .skip w2∧ao [b] w1 w2∧Row w2 b ds t:=by
 cases h with
 | @mk t ty PJ y u n us cs ds pos J9 ae Ka hz ht hn hy hc hl hs ho=>
  obtain ⟨i',z,t1,t2,t3⟩:=hz.h
  refine ⟨rfl,rfl,hn,z.cells.toList,_,yS t1 t2,ao.alloc _ _ _,?_,?_⟩
  ·have:=heap_alloc_new w (.cells z.cells t (0,0))
   unfold Row
   simpa using this
  ·intro r' w1 b cur F hS ha hr bo
   rw [t3] at bo
   obtain ⟨ti,q1,q2⟩:=ht.h
   obtain ⟨e1,e2⟩:=hs.eq
   have oq:=ve (P:=P) (d:=none) (ty:=PJ) (pos:=J9) (ae:=Ka) (gg:=none) q1 (by rw [hl,q2]) bo e1 (x:=.tmp d) hr (y:=y) (by rw [bL ha hy]; exact hc.eq hS) (ho.one hS)
   refine ⟨_,oq,⟨rfl,rfl,rfl,Nat.le_refl _,by simp,fun j _ hj=>setRow_other w1 b j _ fun h=>hj (by simp [h])⟩,?_⟩
   have sZ:=setRow_heap w1 b cs.toArray (cs.take 0++us++cs.drop (0+us.length)).toArray t _ bo
   rw [e2]
   exact sZ
theorem C0.st {d:Nat} {oa os:Oper} {t:TI} {ds:LV} (h:C0 P Γ fr d oa os t ds):os.guard=none∧os.dst=none:=by
 cases h; exact ⟨rfl,rfl⟩
variable {n:Nat} {l:LO} {Q:Exit→(Nat→Value)→World→Prop} {w0:World} {F2:LN} {a1 a2 s1 s2 d1 d2:Nat} {oa1 oa2 os1 os2:Oper} {t1 t2:TI} {ds1 ds2:LV} {L:Array Bool} {r:NV}
end
section
variable {R S:Type} {P:Program} {cx:Cx R} {K:ch R S} {l:LO}
end
end Go.Dk
namespace Go.Dk
open Go Go.Li
def PK (i:Nat) (o:Oper):Oper:=⟨o.dst,o.op,o.type,o.pos,o.after.push ⟨i,.data⟩,o.guard⟩
def qO (i:Nat):Nat→List Oper→List Oper
 | _,[]=>[]
 | 0,o :: l=>PK i o :: l
 | j+1,o :: l=>o :: qO i j l
theorem AA (i:Nat):∀ (j:Nat) (l:LO),(qO i j l).length=l.length
 | _,[]=>by cases ‹Nat› <;> rfl
 | 0,_ :: _=>rfl
 | j+1,o :: l=>by unfold qO; rw [List.length_cons,List.length_cons,AA i j l]
theorem yc (i:Nat):∀ (j:Nat) (l:LO) (k:Nat),(qO i j l)[k]? = (l[k]?).map fun o=>if k=j then PK i o else o
 | 0,[],k=>by simp [qO]
 | j+1,[],k=>by simp [qO]
 | 0,o :: l,0=>by simp [qO]
 | 0,o :: l,k+1=>by simp [qO]
 | j+1,o :: l,0=>by simp [qO]
 | j+1,o :: l,k+1=>by
  unfold qO
  rw [List.getElem?_cons_succ,List.getElem?_cons_succ,yc i j l k]
  simp
section
variable {P:Program} {l:LO} {Q:Exit→Act→World→Prop} {i j:Nat}
theorem Ej (tmps:Array Value):yielded (qO i j l).toArray tmps=yielded l.toArray tmps:=by
 funext k
 simp only [yielded]
 rw [List.getElem?_toArray,List.getElem?_toArray,yc]
 cases l[k]? with
 | none=>rfl
 | some o=>
  simp only [Option.map_some,Option.bind_some]
  by_cases h:k=j
  ·rw [if_pos h]; rfl
  ·rw [if_neg h]
theorem C1 {k:Nat} {K:Act→World→Prop} {a:Act} {w:World}:wpOp P (qO i j l).toArray Q k K a w=wpOp P l.toArray Q k K a w:=by
 unfold wpOp
 rw [Ej,List.getElem?_toArray,List.getElem?_toArray,yc]
 cases l[k]? with
 | none=>rfl
 | some o=>
  simp only [Option.map_some]
  by_cases h:k=j
  ·rw [if_pos h]; rfl
  ·rw [if_neg h]
theorem Bi {L:Array Bool} (hL:L.getD i false=true):Region.ready .any (qO i j l).toArray L=Region.ready .any l.toArray L:=by
 unfold Region.ready
 rw [List.size_toArray,List.size_toArray,AA]
 refine List.filter_congr fun k _=>?_
 rw [List.getElem?_toArray,List.getElem?_toArray,yc]
 cases l[k]? with
 | none=>rfl
 | some o=>
  simp only [Option.map_some]
  by_cases h:k=j
  ·rw [if_pos h]
   simp only [PK,Array.all_push,hL,Bool.or_true,Bool.and_true]
  ·rw [if_neg h]
theorem Bj:∀ (fuel:Nat) (L:Array Bool) (a:Act) (w:World),L.getD i false=true→wpAny P .any (qO i j l).toArray Q fuel L a w→wpAny P .any l.toArray Q fuel L a w
 | 0,L,a,w,hL,h=>by
  unfold wpAny at h ⊢
  rw [Bi hL] at h
  exact h
 | fuel+1,L,a,w,hL,h=>by
  unfold wpAny at h ⊢
  rw [Bi hL] at h
  refine ⟨h.1,fun k hk=>?_⟩
  have h2:=h.2 k hk
  rw [C1] at h2
  exact wpOp_mono (fun a' w' h'=>Bj fuel _ a' w' (getD_set_true hL) h') h2
end
def PL:Oper→Bool
 | ⟨some _,.move _,_,_,_,none⟩=>true
 | _=>false
def Kc:List (Nat×Nat)→List Oper→Bool
 | [],_=>true
 | (i,j) :: zs,l=>!(Nat.beq i j) && Nat.blt i l.length && PL (l.getD i default) && Region.noSelect l.toArray && Region.free .any l.toArray (Array.replicate l.length false) i && (Region.ready .any l.toArray (Array.replicate l.length false)).contains i && (Region.ready .any (qO i j l).toArray (Array.replicate l.length false)).contains i && Kc zs (qO i j l)
def PM:List (Nat×Nat)→List Oper→List Oper
 | [],l=>l
 | (i,j) :: zs,l=>PM zs (qO i j l)
section
variable {P:Program} {n:Nat} {Q:Exit→(Nat→Value)→World→Prop} {r:NV} {w w0:World}
theorem No {o:Oper} (h:PL o=true) (a:Act):o.guard=none∧∃ v,(∀ w,(execOp a.eval o).run P w = .ok (.value v) w)∧∀ w,¬ o.asks P a w:=by
 obtain ⟨d,op,ty,pos,ae,g⟩:=o
 cases d <;> cases op <;> cases g <;> first | (cases h; done) | skip
 refine ⟨rfl,_,fun w=>rfl,fun w ha=>?_⟩
 have h1:=ha.1
 exact absurd (show noRoomEvent∈(#[]:Array _) from h1) (by simp)
theorem kp.Vc {i j:Nat} {l:LO} (h1:(!(Nat.beq i j) && Nat.blt i l.length && PL (l.getD i default) && Region.noSelect l.toArray && Region.free .any l.toArray (Array.replicate l.length false) i && (Region.ready .any l.toArray (Array.replicate l.length false)).contains i && (Region.ready .any (qO i j l).toArray (Array.replicate l.length false)).contains i)=true)
  (hp:∀ c r w,¬ Q (.panic c) r w) (h:kp P n (qO i j l) Q r w):kp P n l Q r w:=by
 simp only [Bool.and_eq_true] at h1
 obtain ⟨⟨⟨⟨⟨⟨c1,c2⟩,c3⟩,c4⟩,c5⟩,c6⟩,c7⟩:=h1
 have mz:i≠j:=fun e=>by rw [e,Nat.beq_refl] at c1; cases c1
 have hi:=Az c2
 have bj:i < l.length:=Nat.lt_of_succ_le (Nat.le_of_ble_eq_true c2)
 intro a g1 g2 g3
 have H:=h a g1 g2 g3
 obtain ⟨hg,v,hv,hn⟩:=No (P:=P) c3 a
 rw [List.size_toArray,AA] at H
 rw [List.size_toArray]
 obtain ⟨f,hf⟩ : ∃ f,l.length=f+1:=⟨l.length - 1,by omega⟩
 have hw:Region.wanted (l.getD i default) (yielded l.toArray a.tmps)=true:=qx hg
 refine (congrArg (fun k=>wpAny P .any l.toArray _ k _ a _) hf).mpr ?_
 refine wpAny_take (by simpa using hi) c4 (by simpa using c5) (by simpa using c6) (fun c a w h=>(hp _ _ _ h.2.2).elim) (.inl ⟨hw,hv⟩) ?_
 refine Bj (i:=i) (j:=j) f _ _ _ ?_ ?_
 ·have:i < (Array.replicate l.length false).size:=by simpa using bj
  simp [Array.getD,bj]
 ·have H2:=(congrArg (fun k=>wpAny P .any (qO i j l).toArray (fun e a' w'=>a'.tmps.size=n∧a'.defers=[]∧Q e (b9 a') w') k (Array.replicate l.length false) a { w with drawn:=w.drawn+1 }) hf).mp H
  have H3:=H2.2 i (by simpa using c7)
  rw [C1] at H3
  unfold wpOp at H3
  rw [show (l.toArray)[i]? = some (l.getD i default) by simpa using hi] at H3
  simp only [] at H3
  rw [if_pos hw] at H3
  rcases H3 with H3 | H3
  ·unfold Oper.wp at H3
   rw [hv] at H3
   exact H3
  ·exact absurd H3.1 (hn _)
theorem kp.S0:∀ (zs:List (Nat×Nat)) {l:LO},Kc zs l=true→(∀ c r w,¬ Q (.panic c) r w)→kp P n (PM zs l) Q r w→kp P n l Q r w
 | [],_,_,_,h=>h
 | (i,j) :: zs,l,hc,hp,h=>by
  unfold Kc at hc
  rw [Bool.and_eq_true] at hc
  exact kp.Vc hc.1 hp (kp.S0 zs hc.2 hp h)
end
section
variable {R S:Type} {P:Program} {cx:Cx R} {K:ch R S}
end
end Go.Dk
namespace Go.Dk
open Go Go.Li
section
variable {B:Bs} {P:Program} {Z Z':Nat→Prop} {w:World} {Fd F1:LN}
end
section
variable {P:Program} {S:World→Prop}
theorem yz.mono {K K':(Nat→Value)→Prop} (hk:∀ r,K r→K' r):∀ {ops:LO} {r:NV},yz P S ops r K→yz P S ops r K'
 | [],_,h=>hk _ h
 | _ :: _,_,⟨hg,v,h1,h2⟩=>⟨hg,v,h1,yz.mono hk h2⟩
end
inductive QX {R S:Type} (P:Program) (cx:Cx R) (K:ch R S) (ov:LO) (rs:List (Nat×List Value×TypeId)) (pe:QE):List ay→List ay→List Oper→Fr→Option (Out S R)→Prop
 | pe {e:ay} {Δ Γ:QE} {ops:LO} {fr:Fr} {m:Option (Out S R)} (h:QX P cx K ov rs pe Δ (e :: Γ) ops fr m):QX P cx K ov rs pe (e :: Δ) Γ ops fr m
 | nil {Γ:QE} {fr:Fr} {m:Option (Out S R)} {qj:List (Nat×List Value×TypeId)} (h:SQ P Γ fr ov rs qj) (k:D P cx (.p [] pe fr Γ fun fr Γ=>.p [] (zx qj) fr Γ fun fr Γ=>.n K Γ fr m)):QX P cx K ov rs pe [] Γ [] fr m
 | Hn {d n:Nat} {t ty:TI} {x:OO} {a:Addr} {ds:LV} {pos:String} {ae:Array Edge} {ops:LO} {Γ:QE} {fr:Fr} {m:Option (Out S R)} [ht:LK P t (some n)] (hx:bx fr x=some (.pointer (some a))) (hw:rQ Γ a n ds) (h:QX P cx K ov rs pe [] Γ ops ((d,.agg ds.toArray) :: fr) m) :
   QX P cx K ov rs pe [] Γ (⟨some d,.load t x,ty,pos,ae,none⟩ :: ops) fr m
 | Vd {α V:Type} {d n:Nat} {x y:OO} {v:Value} {k:IntKind} {j:Int} {t ty:TI} {S':ag α} {cl:α→V→List Value} {en:α→V→List ay} {xs:List α} {pos:String} {ae:Array Edge} {ops:LO} {Γ Γx:QE} {fr:Fr} {f:α→Option (Out S R)} [ht:YV P t n] (hx:bx fr x=some v) (hy:bx fr y=some (.int k j))
   (hr:qw Γ v false false (rO S') xs uA Γx) (hs:TH S' V cl en) (hn:S'.size=n) (h:∀ z u,QX P cx K ov rs pe (.aw (ep v n j) (cl z u) :: en z u) Γ ops ((d,.pointer (some (ep v n j))) :: fr) (f z)) :
   QX P cx K ov rs pe [] Γ (⟨some d,.indexAddr t x y,ty,pos,ae,none⟩ :: ops) fr (idx xs j>>=f)
 | lc {d:Nat} {t ty:TI} {x:OO} {a:Addr} {u:Value} {pos:String} {ae:Array Edge} {ops:LO} {Γ:QE} {fr:Fr} {m:Option (Out S R)} [ht:LK P t none] (hx:bx fr x=some (.pointer (some a))) (hw:rP Γ a u) (h:QX P cx K ov rs pe [] Γ ops ((d,u) :: fr) m) :
   QX P cx K ov rs pe [] Γ (⟨some d,.load t x,ty,pos,ae,none⟩ :: ops) fr m
 | val {d:Nat} {op:Op} {ty:TI} {u:Value} {pos:String} {ae:Array Edge} {ops:LO} {Γ:QE} {fr:Fr} {m:Option (Out S R)} (hv:VQ P Γ fr op u) (h:QX P cx K ov rs pe [] Γ ops ((d,u) :: fr) m):QX P cx K ov rs pe [] Γ (⟨some d,op,ty,pos,ae,none⟩ :: ops) fr m
section
variable {R S:Type} {P:Program} {cx:Cx R} {K:ch R S} {ov:LO} {rs:List (Nat×List Value×TypeId)} {pe:QE} {Z:Nat→Prop}
theorem QX.sound {w0:World} {H:LN} (hz:∀ b∈H,¬ Z b) {Δ Γ:QE} {ops:LO} {fr:Fr} {m:Option (Out S R)} (h:QX P cx K ov rs pe Δ Γ ops fr m):∀ {o:Out S R} {F:LN},m=some o→(∀ b∈H,b ∉ F)→SA Z w0 (Δ.reverse++Γ) [] F→∀ r,cf r fr→
  yz P (ao H w0) ops r fun r'=>∃ Γ' kq qj m' F',F'.Perm F∧m'=some o∧cf r' kq∧SA Z w0 Γ' [] F'∧SQ P Γ' kq ov rs qj∧D P cx (.p [] pe kq Γ' fun fr Γ=>.p [] (zx qj) fr Γ fun fr Γ=>.n K Γ fr m'):=by
 induction h with
 | @pe e Δ Γ ops fr m _ ih=>
  intro o F hm hF hS r ha
  refine ih hm hF ?_ r ha
  rw [List.reverse_cons,List.append_assoc] at hS
  exact hS
 | @nil Γ fr m qj h k=>exact fun hm hF hS r ha=>⟨Γ,fr,qj,m,_,.refl _,hm,ha,hS,h,k⟩
 | @val d op ty u pos ae ops Γ fr m hv _ ih=>
  intro o F hm hF hS r ha
  refine ⟨rfl,u,fun w hC=>?_,ih hm hF hS _ (bc ha)⟩
  exact hv.sound ((SA.cw hC hz (fun _ _=>List.not_mem_nil) hF hS)) ha (some d) ty pos ae none w (ao.refl _ _)
 | @Hn d n t ty x a ds pos ae ops Γ fr m ht hx hw _ ih=>
  intro o F hm hF hS r ha
  refine ⟨rfl,_,fun w hC=>?_,ih hm hF hS _ (bc ha)⟩
  obtain ⟨h1,h2⟩:=hw.sound (SA.cw hC hz (fun _ _=>List.not_mem_nil) hF hS)
  exact Lg ht.h h1 (bL ha hx) h2 w (ao.refl _ _)
 | @lc d t ty x a u pos ae ops Γ fr m ht hx hw _ ih=>
  intro o F hm hF hS r ha
  refine ⟨rfl,u,fun w hC=>?_,ih hm hF hS _ (bc ha)⟩
  exact Ld ht.h (hw.sound (SA.cw hC hz (fun _ _=>List.not_mem_nil) hF hS)) (bL ha hx) w (ao.refl _ _)
 | @Vd α V d n x y v k j t ty S' cl en xs pos ae ops Γ Γx fr f ht hx hy hr wT hn _ ih=>
  intro o F hm hF hS r ha
  replace wT:SO S' V cl en:=by cases wT; assumption
  obtain ⟨z,qz,hm⟩:=bind_some hm
  replace qz:=yO qz
  obtain ⟨e,i,h1,h2,h3⟩:=ht.h
  obtain ⟨cy,_,⟨⟨f0,LU,uM⟩,_⟩,_⟩:=hr.sound hS
  have hZ:∀ b∈f0,Z b:=fun b hb=>(uM b hb).elim id id
  obtain ⟨⟨a,c,hv⟩,bj,cs,f1,ew,hf1,ox⟩:=vE LU j qz.1 qz.2
  have sf:(rO S').size=n:=hn
  rw [sf] at ox
  obtain ⟨u,rfl,qM⟩:=wT.op ew.2
  have hblk:Z (ep v n j).block:=by
   obtain ⟨base,cap,nt,jd⟩:=LU
   rcases jd with ⟨rfl,_⟩ | ⟨b,off,cr,e',fz,f',rfl,_,rfl,_⟩
   ·simp at bj; omega
   ·obtain rfl:v = .slice (some ⟨b,off,none⟩) xs.length cap:=by simpa using nt
    have:(ep (.slice (some ⟨b,off,none⟩) xs.length cap) n j).block=b:=by unfold ep; rw [xf]
    rw [this]; exact hZ b (by simp)
  have OA:fact Z w0 [] (.aw (ep v n j) (cl z u)):=⟨fun i u' hi=>ox i u' hi,fun _=>hblk⟩
  have jh:HL Z w0 (.aw (ep v n j) (cl z u) :: en z u) []:=.fact OA (Cd (qM Z fun b hb=>hZ b (hf1 b hb)))
  obtain ⟨F',hp,my⟩:=jh.build hS
  have Ua:F'.Perm F:=by simpa using hp
  refine ⟨rfl,.pointer (some (ep v n j)),fun w hC=>?_,?_⟩
  ·rw [xz h1 h2 ((bL ha hx).trans hv) (bL ha hy) qz.1 (by omega),h3,hv]
   rfl
  ·have hq:=ih z u (F:=F') hm (fun b hb h=>hF b hb (Ua.mem_iff.1 h)) my _ (bc ha)
   refine yz.mono ?_ hq
   rintro r' ⟨Γ',kq,qj,m',F3,q0,q1,q2,q3,q4,q5⟩
   exact ⟨Γ',kq,qj,m',F3,q0.trans Ua,q1,q2,q3,q4,q5⟩
end
theorem FO.hl {Z:Nat→Prop} {w:World} {Δ:QE} (h:FO Δ):∀ {F:LN},HL Z w Δ F→F=[]:=by
 induction h with
 | nil=>intro F h; cases h; rfl
 | rd _ ih=>intro F h; cases h with | own h k=>exact h.elim | fact h k=>exact ih k
 | aw _ ih=>intro F h; cases h with | own h k=>exact h.elim | fact h k=>exact ih k
section
variable {P:Program} {n:Nat} {l:LO} {Q:Exit→(Nat→Value)→World→Prop} {S:World→Prop}
end
section
variable {R S:Type} {P:Program} {cx:Cx R} {K:ch R S} {l:LO}
end
section
variable {R:Type} {P:Program} {cx:Cx R}
end
end Go.Dk
namespace Go.Li
open Go
section
variable {P:Program} {n:Nat} {Q:Exit→(Nat→Value)→World→Prop} {r:NV} {w:World} {R:Type}
end
end Go.Li
namespace Go.Dk
open Go Go.Li
section
variable {R:Type} {P:Program} {cx:Cx R} {S:Type}
theorem PN {K:ch R S} {c:Code} {b e:Nat} {cs:LV} {Γ Γ1:QE} {fr:Fr} {m:Option (Out S R)} (h1:dh Γ (.row b cs e) Γ1) (h:D P cx (.c K c (.aw ⟨b,0,none⟩ cs :: Γ1) fr m)):D P cx (.c K c Γ fr m):=by
 refine D.of ?_
 intro B o ho r w ha hs
 refine h.sound B o ho r w ha ?_
 obtain ⟨Z,F,hS,hG⟩:=hs
 obtain ⟨f,F1,hp,⟨rfl,bo⟩,jz⟩:=h1.sound hS
 have Ch:(F1++[b]).Perm F:=List.perm_append_comm.trans hp
 have o5:=Gd.freeze (hG.perm Ch) fun c hc=>by rw [List.mem_singleton.1 hc]; exact bo.lt
 exact ⟨qZ Z [b],F1,SA.fact (jz.mono (fun _ h=>.inl h) fun _ h=>h) ⟨bo.at,fun _=>.inr (by simp)⟩,o5⟩
theorem S3 {M α:Type} {all l:LO} {rk:RK R M} {T E:ag α} {v:Value} {y:α} {Γ Γ1:QE} {fr:Fr} {m:Option M} (h1:dh Γ (.own T v y) Γ1) (hl:Le T E) (h:D P cx (.o false all l rk (.rd false E v y :: Γ1) fr m)):D P cx (.o false all l rk Γ fr m):=by
 refine D.of ?_
 intro B o ho r w ha hs
 refine h.sound B o ho r w ha ?_
 obtain ⟨Z,F,hS,hG⟩:=hs
 obtain ⟨f,F1,hp,hO,jz⟩:=h1.sound hS
 have Ch:(F1++f).Perm F:=List.perm_append_comm.trans hp
 have o5:=Gd.freeze (hG.perm Ch) fun c hc=>ag.lt _ hO c hc
 exact ⟨qZ Z f,F1,SA.fact (jz.mono (fun _ h=>.inl h) fun _ h=>h) ⟨f,hl.le hO,fun c hc=>.inr hc⟩,o5⟩
theorem Mj {M α:Type} {T:ag α} (d:Nat) {op:Op} {ty:TI} {pos:String} {ae:Array Edge} {all l:LO} {rk:RK R M} {v:Value} {y:α} {Γ Γ1:QE} {fr:Fr} {m:Option M} (h1:dh Γ (.own T v y) Γ1) (h:D P cx (.e false op (some d) ty all l rk (.rd false T v y :: Γ1) fr m)):D P cx (.o false all (⟨some d,op,ty,pos,ae,none⟩ :: l) rk Γ fr m):=
 S3 h1 (Le.refl _) (.plain h)
theorem rgs {K:ch R S} {ops:LO} {Γ:QE} {fr:Fr} {m:Option (Out S R)} (h:D P cx (.rg false true ops K Γ fr m)):D P cx (.rg true true ops K Γ fr m):=D.of (show ni P cx _ from h.sound)
section
variable {S1 V:Type} {k j:Nat} {Δ:S1→V→List ay} {φ:S1→V→Fr} {Γ2 Γ Γ1 Γ3:QE} {f2 fr:Fr} {s:S1} {v:V} (hv:se V v) (ha:qb fr (φ s v)) (hf:qb fr f2) (h0:EO Γ (Δ s v) Γ1) (hw:OW Γ (Δ s v)) (h1:EO Γ1 Γ2 Γ3) (h2:MF Γ none Γ2)
include hv ha hf h0 hw h1 h2
end
end
abbrev rI:Value→List Int→ay:=.rd false (bE (aJ .i64))
abbrev rJ:Value→List (List Int)→ay:=.rd false (bE (bE (aJ .i64)))
class FE (p:Prop):Prop where
 u:True
instance {o:Bool} {a b:QE}:FE (ER o a b):=⟨trivial⟩
instance {a:QE} {b:LV}:FE (tE a b):=⟨trivial⟩
instance {a b c:QE}:FE (EF a b c):=⟨trivial⟩
instance {a b c:QE}:FE (EO a b c):=⟨trivial⟩
instance {a b:QE}:FE (EP a b):=⟨trivial⟩
instance {a c d:LV} {b:Nat}:FE (qA a b c d):=⟨trivial⟩
instance {a b:Nat} {c d:LV}:FE (q8 a b c d):=⟨trivial⟩
instance {a:LN} {b:Option (Bool×Nat×Value)} {c d:Fr}:FE (Kp a b c d):=⟨trivial⟩
instance {V:Type} {v:V}:FE (se V v):=⟨trivial⟩
instance {a:QE} {b:Addr} {c:Nat} {d:LV}:FE (rQ a b c d):=⟨trivial⟩
theorem fe {p:Prop} [FE p] (h:p):p:=h
section
variable {R:Type} {P:Program} {cx:Cx R} {fr:Fr}
theorem lgP {M α:Type} {d:Nat} {t e ty:TI} (E:ag α) {z0:Value} {bt:Nat} {all l:LO} {rk:RK R M} {Γ:QE} {m:Option M} (hE:E.size=1) [hz:pI P t Value e nh z0 bt]
  (h:∀ v,D P cx (.o false all l rk (.om e E v [] :: Γ) ((d,v) :: fr) m)):D P cx (.e false (.buildSlice t 0 #[]) (some d) ty all l rk Γ fr m):=by
 refine .Am (E:=nh) (z0:=z0) (bt:=bt) fun v=>D.of ?_
 intro B o ho r w ha hs
 refine (h v).sound B o ho r w ha ?_
 obtain ⟨Z,F,⟨f,F',rfl,h2,h3⟩,hG⟩:=hs
 have h4:lh Z w f (.om e E v []):=⟨[],[],h2,⟨rfl,rfl⟩,fun _ hb=>absurd hb List.not_mem_nil,hE⟩
 exact ⟨Z,f++F',⟨f,F',rfl,h4,h3⟩,hG⟩
theorem apP {M α V:Type} (y:α) {d b c:Nat} {s x:OO} {sv:Value} {u:V} {cs:LV} {xs:List α} {t e et t2 ty:TI} {S:ag α} {cl:α→V→List Value} {en:α→V→List ay} {z0:Value} {bt:Nat} {all l:LO} {rk:RK R M} {Γ Γ1 Γ2 Γ3:QE} {f:Unit→Option M} [hT:pI P t Value e nh z0 bt]
  (hs:bx fr s=some sv) (hx:bx fr x=some (.slice (some ⟨b,0,none⟩) 1 1)) (h0:dh Γ (.row b [.pointer (some ⟨c,0,none⟩)] et) Γ1) (hc:dh Γ1 (.row c cs t2) Γ2) (h2:dh Γ2 (.om e (kn S) sv xs) Γ3) [wT:SO S V cl en] (_hv:se V u) (vm:cs=cl y u) (he:en y u=[])
  (h:∀ v,D P cx (.o false all l rk (.om e (kn S) v (xs++[y]) :: Γ3) ((d,v) :: fr) (f ()))):D P cx (.e false (.call ⟨.builtin .append,#[s,x],#[t,t]⟩) (some d) ty all l rk Γ fr (fits bt (xs.length+1)>>=f)):=by
 refine D.of ?_
 intro B o ho r w ha ma pos ae g
 obtain ⟨_,hu,ho⟩:=bind_some ho
 obtain ⟨b1,b2⟩:=qL hu
 obtain ⟨q1,_,i,z,q3,q4,q5,q6,q7,_⟩:=hT.h
 obtain ⟨Z,F,hS,hG⟩:=ma
 obtain ⟨n0,F0,zn,⟨rfl,bo⟩,zo⟩:=h0.sound hS
 obtain ⟨n1,F1,vr,⟨rfl,vn⟩,jz⟩:=hc.sound zo
 obtain ⟨g0,k1,k2⟩:=wT.cl (w:=w) (x:=y) (v:=u) (Z:=Z) (by rw [he]; intro e he; cases he)
 have Bd:Gd B Z ([c]++F1) w:=Gd.left (F':=[b]) (hG.perm ((List.perm_append_comm.trans (vr.append_left [b])).trans zn))
 have o5:=Gd.freeze (Bd.perm List.perm_append_comm) fun a ha=>by rw [List.mem_singleton.1 ha]; exact vn.lt
 have my:SA (qZ Z [c]) w Γ2 [] F1:=jz.mono (fun _ h=>.inl h) fun _ h=>h
 obtain ⟨n,F2,hp,⟨us,gg,hO,hr,LH,h1s⟩,hS3⟩:=h2.sound my
 have je:=o5.perm hp
 have dv:=List.nodup_append.1 je.nd
 have Ub:∀ a∈n,¬ qZ Z [c] a:=fun a ha=>je.apart a (List.mem_append_left _ ha)
 have hk:(kn S).rep w.heap [.pointer (some ⟨c,0,none⟩)] y (c :: g0):=by
  refine ⟨⟨c,0,none⟩,cl y u,g0,rfl,vn.lt,fun j v hj=>?_,k1,rfl⟩
  have:=vn.at (j:=j) (u:=v)
  rw [vm] at this
  exact this hj
 have Uc:∀ a∈c :: g0,qZ Z [c] a:=fun a ha=>by
  rcases List.mem_cons.1 ha with rfl | ha
  ·exact .inr (by simp)
  ·exact .inl (k2 a ha)
 refine fk (PO.tr (E:=kn S) (G:=n) (B:=w.heap.size) (g:=gg) (k:=c :: g0) q1 q3 q4 q5 q6 (bL ha hs) ⟨us,⟨hO,dv.1,fun a ha=>.inl ha⟩,hr,h1s⟩ (bL ha hx) bo hk (fun a ha hm=>Ub a hm (Uc a ha)) (fun a ha hm=>Ub a hm (LH a ha)) (by rw [q7]; exact b1) b2 (Nat.le_refl _) fun v w' f' hC pJ ea=>?_)
 obtain ⟨us',cq,jd,Ve⟩:=pJ
 exact (h v).sound B o ho _ w' (bc ha) (St.put hS3 je hC ⟨us',_,cq.1,jd,(fun a ha=>(List.mem_append.1 ha).elim (LH a) (Uc a)),Ve⟩ cq.2.1 fun a ha=>(ea a ha).elim .inl fun h=>h.elim (fun h=>absurd h List.not_mem_nil) .inr)
end
end Go.Dk
namespace Go.Dk
open Go Go.Li
def tR (j:Nat) (b:Bool) (o:Oper):Oper:=
 match o.guard with
 | none=>o
 | some (j',p)=>bif Nat.beq j' j && (p == b) then ⟨o.dst,o.op,o.type,o.pos,o.after,none⟩ else o
def j6 (j:Nat) (b:Bool) (l:LO):List Oper:=l.map (tR j b)
def C2 (l:LO) (j:Nat):Bool:=(List.range l.length).all fun i=>match (l.getD i default).guard with | none=>true | some (j',_)=>Nat.beq j' j && ((bn l).getD i []).contains j
section
variable {j:Nat} {b:Bool} {l:LO}
theorem Kd (o:Oper):(tR j b o).dst=o.dst:=by
 unfold tR
 split
 ·rfl
 ·cases Nat.beq _ j && (_ == b) <;> rfl
theorem Gt (o:Oper):(tR j b o).after=o.after:=by
 unfold tR
 split
 ·rfl
 ·cases Nat.beq _ j && (_ == b) <;> rfl
theorem Ke {P:Program} {o:Oper} {r:NV} {w:World} {K:Value→World→Prop}:dq P (tR j b o) r w K=dq P o r w K:=by
 obtain ⟨d,op,ty,pos,ae,g⟩:=o
 unfold tR
 split
 ·rfl
 ·cases Nat.beq _ j && (_ == b) <;> rfl
theorem Ff (i:Nat):(j6 j b l)[i]? = (l[i]?).map (tR j b):=by unfold j6; rw [List.getElem?_map]
theorem p9:(j6 j b l).length=l.length:=by unfold j6; rw [List.length_map]
theorem tv (i:Nat):bg (j6 j b l) i=bg l i:=by
 unfold bg
 rw [Ff]
 cases l[i]? with
 | none=>rfl
 | some o=>exact Kd o
theorem qC:bn (j6 j b l)=bn l:=by
 unfold bn j6
 rw [List.foldl_map]
 congr 1
 funext acc o
 unfold ig
 rw [Gt]
theorem PR (r:NV):yl (j6 j b l) r=yl l r:=by
 funext i
 have h:=tv (j:=j) (b:=b) (l:=l) i
 unfold bg at h
 unfold yl
 rw [h]
theorem C3 {S:List dx} {k:Nat} {g:Nat→List Nat} {r:NV} {w:World}:ra (j6 j b l) S k g r w=ra l S k g r w:=by unfold ra; rw [tv]
theorem AB {S:List dx} {k:Nat} {r:NV}:Old (j6 j b l) S k r=Old l S k r:=by unfold Old; rw [tv]
theorem Bm {U:LL} {m i k:Nat}:oj (j6 j b l) U m i k=oj l U m i k:=by unfold oj; rw [qC]
theorem HT {U:LL} {m i:Nat}:uJ (j6 j b l) U m i=uJ l U m i:=by unfold uJ; rw [qC,p9]
theorem Kf {U:LL} {m:Nat}:gq (j6 j b l) U m=gq l U m:=by
 unfold gq
 rw [p9]
 refine List.map_congr_left fun i _=>?_
 congr 1
 funext k
 exact Bm
theorem fc.pas {P:Program} {m:Nat} {S:List dx} {U:LL} {r0:NV} {w0:World} {H:LN} {i d:Nat} (h:fc P (j6 j b l) m S U r0 w0 H i) (hg:C2 l j=true) (hd:bg l j=some d)
  (hk:j∈(bn l).getD i []→∀ r,(∀ k∈(bn l).getD i [],Old l S k r)→r d = .bool b):fc P l m S U r0 w0 H i:=by
 intro o s ho hs g r w hC hV j4 hn jf me hf
 unfold fc at h
 simp only [qC,p9,HT,Bm,C3,AB,tv,PR] at h
 have h2:=h (tR j b o) s (by rw [Ff,ho]; rfl) hs g r w hC hV j4 hn jf me hf
 rw [Ke] at h2
 have hgo:match o.guard with | none=>True | some (j',_)=>j'=j∧j∈(bn l).getD i []:=by
  unfold C2 at hg
  rw [List.all_eq_true] at hg
  have hi:=(List.getElem?_eq_some_iff.1 ho).1
  have:=hg i (List.mem_range.2 hi)
  rw [List.getD_eq_getElem?_getD,ho] at this
  simp only [Option.getD_some] at this
  revert this
  cases o.guard with
  | none=>exact fun _=>trivial
  | some q=>
   intro this
   simp only [Bool.and_eq_true] at this
   exact ⟨Nat.eq_of_beq_eq_true this.1,by simpa using this.2⟩
 have hw:Region.wanted o (yl l r)=Region.wanted (tR j b o) (yl l r):=by
  obtain ⟨d',op,ty,pos,ae,gd⟩:=o
  cases gd with
  | none=>rfl
  | some q=>
   obtain ⟨j',p⟩:=q
   obtain ⟨rfl,wV⟩ : j'=j∧j∈(bn l).getD i []:=hgo
   unfold tR
   dsimp only
   rw [Nat.beq_refl,Bool.true_and]
   cases hp:p == b with
   | false=>rfl
   | true=>
    obtain rfl:p=b:=eq_of_beq hp
    unfold Region.wanted
    dsimp only [cond_true]
    rw [FY hd,hk wV r j4]
    simp
 rw [hw]
 exact h2
end
section
variable {R S:Type} {P:Program} {cx:Cx R} {K:ch R S} {l:LO} {base fr:Fr} {w:World} {Z:Nat→Prop}
def mark (j d:Nat) (b:Bool):List Nat:=[j+1000000,d+1000000,(bif b then 1 else 0)+1000000]
theorem Kg {U:LL} {sl:LQ} {ms:MM} {j d:Nat} {b:Bool} (h:vc (U++[mark j d b]) sl ms=true):(j,d,.bool b)∈sl:=by
 unfold vc at h
 rw [Bool.and_eq_true] at h
 have h2:=h.2
 unfold TW at h2
 have e:(U++[mark j d b]).getLastD []=mark j d b:=by simp [List.getLastD_eq_getLast?]
 rw [e] at h2
 have e2:Nat.ble 1000000 ((mark j d b).headD 0)=true:=Nat.ble_eq_true_of_le (by show 1000000≤j+1000000; omega)
 rw [e2,cond_true] at h2
 unfold LY mark at h2
 dsimp only at h2
 rw [Nat.add_sub_cancel,Nat.add_sub_cancel] at h2
 have:=A6 h2
 have e3:Nat.beq ((bif b then 1 else 0)+1000000) 1000001=b:=by cases b <;> rfl
 rwa [e3] at this
theorem Kh {id j d:Nat} {b:Bool} {U:LL} {CI:QE} (hU:((List.range l.length).all fun i=>((U++[mark j d b]).getD i []).all fun u=>Nat.beq u l.length || ((bn l).getD i []).contains u)=true) (hh:jj (j6 j b l) l.length base=true) (hd:cg cx.n l=true) (hA:sN l l.length []=true) (hZ:yw l l.length []=true) (hg:C2 l j=true) (me:bg l j=some d) {i:Nat} {sl:LQ} {ms:MM} {Γ:QE} {m:Option (Out S R)} (CJ:wb ms=true) (qM:vc (U++[mark j d b]) sl ms=true)
  (h:∀ x:nj ms,D P cx (.p (vb sl (mF ms x)) (xm ms x) base Γ fun fr Γ=>.tg false (vW []) (j6 j b l) [] K Γ fr m)):CF P cx K (j6 j b l) l l.length (U++[mark j d b]) CI id base (.a [] [] i sl ms Γ m):=by
 rintro ⟨_,h2,h3⟩ B o ho r0 w0 H Z ha hs ⟨S',hl,hR,hO⟩
 have hi:S'.length=l.length:=by
  have:=congrArg List.length h2
  simp [p9] at this
  omega
 have Pa:=hs
 obtain ⟨F,Hd,⟨wX,wY,rb,wZ⟩,hS,hG⟩:=hs
 have hm:=Kg qM
 have hO2:∀ k,k < l.length→fc P l l.length S' (U++[mark j d b]) r0 w0 H k:=fun k hk=>by
  refine fc.pas (hO k (by omega)) hg me fun wV r hr=>?_
  refine hR.xn (S2:=[]) hm fun q hq _=>?_
  rw [List.append_nil,AB]
  rw [qC] at hq
  refine hr q (hq.elim (fun e=>e ▸ wV) fun e=>?_)
  have:=hR.t k q j
  rw [qC] at this
  exact this e wV
 refine HE (N:=Z) (S:=S') (U:=U++[mark j d b]) (H:=H) hd hA hZ (fun c r w h=>rZ c h) (Nat.le_refl _) hi rb hU (fun b hb=>⟨hG.qc b hb,fun h=>hG.apart b (List.mem_append_left _ h) hb⟩) (fun i s hs=>?_) hO2 ?_
 ·have:=hR.s i s hs
  unfold Hu at this
  rw [qC] at this
  simp only [tv] at this
  exact this
 intro g r w hI
 rw [List.drop_length]
 refine CH (tail:=[]) hh CJ qM h ho ha Pa hi hR g r w ?_
 obtain ⟨i1,i2,i3,i4,i5,i6,i7,i8,i9⟩:=hI
 exact ⟨i1,fun hk=>by rw [p9] at hk ⊢; exact i2 hk,by rw [p9]; exact i3,by rw [p9]; exact i4,fun k hk hn=>by rw [C3]; exact i5 k hk hn,fun k hk=>by rw [AB]; exact i6 k hk,fun t ht=>i7 t fun k hk=>by rw [← tv (j:=j) (b:=b)]; exact ht k hk,by rw [p9]; exact i8,i9⟩
theorem Mk {id j d:Nat} {b:Bool} (U as:LL) {Γ:QE} {m:Option (Out S R)}
  (hB:(cg cx.n l && sN l l.length [] && yw l l.length [] && C2 l j && (gq l (U++[mark j d b]) l.length == as) && ((List.range l.length).all fun i=>((U++[mark j d b]).getD i []).all fun u=>Nat.beq u l.length || ((bn l).getD i []).contains u))=true)
  (me:bg l j=some d) (hf:Kp (tF l) none fr base) (hh:jj (j6 j b l) l.length base=true)
  (h:AD false P cx K (j6 j b l) [] base (U++[mark j d b]) [] (.a as (j6 j b l) 0 [] [] Γ m)):∀ B o,m=some o→∀ r w,cf r fr→St B Γ w→kp P cx.n l (ir P cx B K o) r w:=by
 simp only [Bool.and_eq_true] at hB
 obtain ⟨⟨⟨⟨⟨b2,b3⟩,b4⟩,b5⟩,b6⟩,b7⟩:=hB
 intro B o hm r w ha hs
 obtain ⟨Z,F,hS,hG⟩:=hs
 have hX:qh B Z [] Γ [] w:=⟨F,[],⟨rfl,fun b hb=>absurd hb List.not_mem_nil,fun b hb=>absurd hb List.not_mem_nil,List.nodup_nil⟩,hS,hG⟩
 refine AD.sound (id:=id) (mt:=l.length) hh (fun _ _ _ _ _ _ hs he h=>Kh b7 hh b2 b3 b4 b5 me hs he h) h
  ⟨by rw [List.drop_zero,Kf]; exact (eq_of_beq b6).symm,by rw [List.drop_zero,← p9 (j:=j) (b:=b),List.take_length],Nat.zero_le _⟩ B o hm r w [] Z (hf.sound ha) hX ⟨[],rfl,⟨fun _ h=>absurd h List.not_mem_nil,fun _ h=>absurd h List.not_mem_nil,fun i s h=>by simp at h,List.nodup_nil,fun _ _ _ h1 h2=>by rw [qC] at h1 h2 ⊢; exact wg l (A8 b3) h1 h2⟩,fun j hj=>absurd hj (Nat.not_lt_zero j)⟩
theorem Vf {id:Nat} (j d:Nat) (U as:LL) {Γ:QE} {m1 m2:Option (Out S R)}
  (hB:(P.follows .mixedOrders && cg cx.n l && sN l l.length [] && yw l l.length [] && C2 l j && (gq l (U++[mark j d true]) l.length == as) && (gq l (U++[mark j d false]) l.length == as) && ((List.range l.length).all fun i=>((U++[mark j d true]).getD i []).all fun u=>Nat.beq u l.length || ((bn l).getD i []).contains u) && ((List.range l.length).all fun i=>((U++[mark j d false]).getD i []).all fun u=>Nat.beq u l.length || ((bn l).getD i []).contains u))=true)
  (me:bg l j=some d) (hf:Kp (tF l) none fr base) (h1':jj (j6 j true l) l.length base=true) (LW:jj (j6 j false l) l.length base=true)
  (h1:AD false P cx K (j6 j true l) [] base (U++[mark j d true]) [] (.a as (j6 j true l) 0 [] [] Γ m1)) (h2:AD false P cx K (j6 j false l) [] base (U++[mark j d false]) [] (.a as (j6 j false l) 0 [] [] Γ m2)):Bx (ni P cx (.dr id l K Γ fr (Ud m1 m2))):=by
 simp only [Bool.and_eq_true] at hB
 obtain ⟨⟨⟨⟨⟨⟨⟨⟨b0,b2⟩,b3⟩,b4⟩,b5⟩,b6⟩,b6'⟩,b7⟩,b7'⟩:=hB
 rw [pG]
 intro B o ho r w ha hs
 refine kp.W b0 ?_
 cases hm:m1 with
 | some o'=>
  have e:o'=o:=by rw [hm] at ho; exact Option.some.inj ho
  exact Mk (id:=id) U as (by simp only [Bool.and_eq_true]; exact ⟨⟨⟨⟨⟨b2,b3⟩,b4⟩,b5⟩,b6⟩,b7⟩) me hf h1' h1 B o (by rw [hm,e]) r w ha hs
 | none=>exact Mk (id:=id) U as (by simp only [Bool.and_eq_true]; exact ⟨⟨⟨⟨⟨b2,b3⟩,b4⟩,b5⟩,b6'⟩,b7'⟩) me hf LW h2 B o (by rw [hm] at ho; exact ho) r w ha hs
end
end Go.Dk
namespace Go.Dk
open Go Go.Li
theorem Np {P:Program} {g:FuncId} {vs:LV} {Δ:QE} {β:Type} {m:Option β} {ow:Bool} {rt:β→Unit→List Value} (hc:Ct P g ow m vs Δ rt (fun _ _=>[])) {w:World} (hl:HL (fun b=>b < w.heap.size) w Δ []) {y:β} (hy:m=some y) :
  Calls P g vs.toArray w fun e w'=>e = .returned (qX (rt y ()))∧ao [] w w':=by
 rw [uz] at hc
 refine (hc.2 w _ [] hl List.nodup_nil (fun _ h=>absurd h List.not_mem_nil) (fun _ h=>h) y hy).mono ?_
 rintro e w' ⟨_,he,Z,F,_,hg⟩
 exact ⟨he,hg.iv⟩
theorem l8 {w:World} {α:Type} {T:ag α} {v:Value} {x:α} {f:LN} (h:T.rep w.heap [v] x f):fact (fun b=>b < w.heap.size) w [] (.rd false T v x):=⟨f,h,fun b hb=>T.lt h b hb⟩
end Go.Dk
