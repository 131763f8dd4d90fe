/- A region that draws its order: its head in any order, whatever it holds, its tail quiet and behind all of the head. No condition. -/
import Derived.Test.YtbmchcnkbonmkaaGreatDg
import Derived.Deep.Quiet
import Derived.Laws.Slices
import Derived.OrdersHeld
import Derived.Scope
namespace Go.Li
open Go
section
variable {P:Program} {n:Nat} {Q:Exit→(Nat→Value)→World→Prop} {r0:NV} {w0:World} {l:LO} {S:List iw}
def A4 (l:LO) (m:Nat):Bool:=
 ((List.range l.length).all fun i=>((l.getD i default).after.toList.filter (Region.binds .any)).all fun e=>Nat.blt e.on i) &&
 ((List.range l.length).all fun i=>Nat.blt i m || (List.range m).all fun j=>((bz l).getD i []).contains j) &&
 Cd ((l.take m).filterMap (·.dst)) && Region.noSelect l.toArray && Region.lexFrom .any l.toArray (l.length - m) m (List.replicate m true++List.replicate (l.length - m) false).toArray
theorem Mf {m:Nat} (h:A4 l m=true):∀ (i:Nat) (o:Oper),l[i]? = some o→∀ e∈o.after.toList.filter (Region.binds .any),e.on < i:=by
 simp only [A4,Bool.and_eq_true,List.all_eq_true,List.mem_range] at h
 intro i o ho e he
 have hi:i < l.length:=(List.getElem?_eq_some_iff.1 ho).1
 have:=h.1.1.1.1 i hi e (by rw [List.getD_eq_getElem?_getD,ho]; exact he)
 exact Nat.lt_of_succ_le (Nat.le_of_ble_eq_true this)
theorem Uc {m:Nat} {U:LL} {H:LN} {N:Nat→Prop} (hd:df n l=true) (hA:A4 l m=true) (yo:m≤l.length)
  (hS:S.length=m)
  (hH:∀ b∈H,b < w0.heap.size) (hU:((List.range m).all fun i=>(U.getD i []).all fun u=>Nat.beq u l.length || ((bz l).getD i []).contains u)=true)
  (hN:∀ b,N b→b < w0.heap.size∧b ∉ H)
  (sy:∀ (i:Nat) (s:iw),S[i]? = some s→∀ f F (w w':World) (r r':NV) v,an F w w'→(∀ b∈f,b ∉ F)→(∀ b∈F,¬ N b)→(∀ j∈(bz l).getD i [],∀ t,bu l j=some t→r' t=r t)→s.V f w r v→s.V f w' r' v)
  (Qk:∀ i,i < m→lr P l m S U r0 w0 H i)
  (next:∀ g r w,A5 l m S U r0 w0 H (fun j=>j < m) g r w→QL P (an [] w) l (l.drop m) r fun r'=>∀ w',an [] w w'→Q .normal r' w') :
  o3 P n l Q r0 w0:=by
 simp only [A4,Bool.and_eq_true,List.all_eq_true,List.mem_range,Bool.or_eq_true] at hA
 obtain ⟨⟨⟨⟨WD,Gz⟩,WE⟩,KQ⟩,Ql⟩:=hA
 have xI:∀ (i:Nat) (o:Oper),l[i]? = some o→∀ e∈o.after.toList.filter (Region.binds .any),e.on < i:=by
  intro i o ho e he
  have hi:i < l.length:=(List.getElem?_eq_some_iff.1 ho).1
  have:=WD i hi e (by rw [List.getD_eq_getElem?_getD,ho]; exact he)
  exact Nat.lt_of_succ_le (Nat.le_of_ble_eq_true this)
 have FG:∀ i,m≤i→i < l.length→∀ j,j < m→j∈(bz l).getD i []:=by
  intro i h1 h2 j hj
  rcases Gz i h2 with h | h
  ·exact absurd (Nat.lt_of_succ_le (Nat.le_of_ble_eq_true h)) (Nat.not_lt.2 h1)
  ·have:=h j hj
   simpa using this
 have WG:∀ i,i < m→∀ u∈U.getD i [],u=l.length∨u∈(bz l).getD i []:=by
  intro i hi u hu
  simp only [List.all_eq_true,List.mem_range] at hU
  have:=hU i hi u hu
  simpa using this
 have du:=GA _ (zX WE)
 have sb:=Ce l xI
 intro a h1 h2 h3
 let Cl (L:Array Bool):Prop:=L.size=l.length∧∀ j o,l[j]? = some o→L.getD j false=true→∀ e∈o.after.toList.filter (Region.binds .any),L.getD e.on false=true
 have ju:∀ L,Cl L→∀ i j,(∀ o,l[i]? = some o→∀ e∈o.after.toList.filter (Region.binds .any),L.getD e.on false=true)→j∈(bz l).getD i []→L.getD j false=true:=by
  intro L hL i
  induction i using Nat.strongRecOn with
  | _ i ih=>
   intro j hi hj
   obtain ⟨_,o,ho,e,he,Ir⟩:=sb i j hj
   have hl:=hi o ho e he
   rcases Ir with rfl | Ir
   ·exact hl
   ·exact ih e.on (xI i o ho e he) j (fun o' cb e' sR=>hL.2 _ _ cb hl e' sR) Ir
 have n8:∀ L i,i∈Region.ready .any l.toArray L→L.getD i true=false∧∃ o,l[i]? = some o∧∀ e∈o.after.toList.filter (Region.binds .any),L.getD e.on false=true:=by
  intro L i hi
  obtain ⟨g1,o,ho,de⟩:=mem_ready.1 hi
  refine ⟨g1,o,by simpa using ho,fun e he=>?_⟩
  have:=List.mem_filter.1 he
  exact de e (by simpa using this.1) this.2
 have Eo:∀ L i o,L.size=l.length→l[i]? = some o→L.getD i false=false→(∀ e∈o.after.toList.filter (Region.binds .any),L.getD e.on false=true)→i∈Region.ready .any l.toArray L:=by
  intro L i o hs ho hu de
  refine mem_ready.2 ⟨?_,o,by simpa using ho,fun e he hb=>de e (List.mem_filter.2 ⟨by simpa using he,hb⟩)⟩
  have hi:i < L.size:=by rw [hs]; exact (List.getElem?_eq_some_iff.1 ho).1
  simp [hi] at hu ⊢; exact hu
 have Ho:∀ L i o,Cl L→l[i]? = some o→(∀ e∈o.after.toList.filter (Region.binds .any),L.getD e.on false=true)→Cl (L.setIfInBounds i true):=by
  intro L i o hL ho de
  refine ⟨by rw [Array.size_setIfInBounds]; exact hL.1,fun j o' cb hj e he=>?_⟩
  by_cases s8:i=j
  ·subst s8
   have:o'=o:=Option.some.inj (cb.symm.trans ho)
   subst this
   exact getD_set_true (de e he)
  ·rw [getD_set_ne false s8] at hj
   exact getD_set_true (hL.2 j o' cb hj e he)
 have getSet:∀ (L:Array Bool) i j,L.size=l.length→i < l.length→((L.setIfInBounds i true).getD j false=true↔j=i∨L.getD j false=true):=by
  intro L i j hs hi
  by_cases s8:i=j
  ·subst s8
   simp [hs,hi]
  ·rw [getD_set_ne false s8]
   constructor
   ·exact .inr
   ·rintro (h | h)
    ·exact absurd h.symm s8
    ·exact h
 have Is:∀ (L:Array Bool) i,L.size=l.length→i < l.length→L.getD i false=false→(L.setIfInBounds i true).toList.count false+1=L.toList.count false:=by
  intro L i hs hi hu
  have sW:i < L.toList.length:=by simpa [hs] using hi
  have Dj:L.toList[i]=false:=by
   rw [Array.getElem_toList]
   simp [hs,hi] at hu
   exact hu
  rw [Array.toList_setIfInBounds,List.count_set sW,Dj]
  have:0 < L.toList.count false:=List.count_pos_iff.2 (by rw [← Dj]; exact List.getElem_mem sW)
  rw [if_pos (by rfl),if_neg (by decide)]
  omega
 have jk:df n (l.drop m)=true:=by
  simp only [df,List.all_eq_true] at hd ⊢
  exact fun o ho=>hd o (List.mem_of_mem_drop ho)
 have tail:∀ (fuel:Nat) (L:Array Bool) (a:Act) (w:World),Cl L→(∀ j,L.getD j false=true↔j < m)→L.toList.count false=fuel→a.tmps.size=n→a.defers=[]→
   (QL P (an [] w) l (l.drop m) (cn a) fun r'=>∀ w',an [] w w'→Q .normal r' w')→wpAny P .any l.toArray (fun e a' w'=>a'.tmps.size=n∧a'.defers=[]∧Q e (cn a') w') fuel L a w:=by
  intro fuel L a w hL ja hf g1 g2 hq
  have hLe:L=(List.replicate m true++List.replicate (l.length - m) false).toArray:=by
   apply Array.ext
   ·simp [hL.1]; omega
   ·intro i hi hj
    have h1:=ja i
    simp only [Array.getD_eq_getD_getElem?,Array.getElem?_eq_getElem hi,Option.getD_some] at h1
    have e:(List.replicate m true++List.replicate (l.length - m) false).toArray[i]'hj=decide (i < m):=by
     simp only [List.getElem_toArray,List.getElem_append,List.getElem_replicate,List.length_replicate]
     split
     ·rename_i h; simp [h]
     ·rename_i h; simp [h]
    rw [e]
    cases hb:L[i] with
    | false=>exact (decide_eq_false fun h=>by have:=h1.2 h; rw [hb] at this; cases this).symm
    | true=>exact (decide_eq_true (h1.1 hb)).symm
  have WH:fuel=l.length - m:=by
   rw [← hf,hLe]
   simp [List.count_append,List.count_replicate]
  have q1:=QL.wpQuiet (n:=n) (l:=l) (l.drop m) a hd jk g1 g2 hq
  have q2:=wpAnyQ_lex (md:=.any) KQ (l.drop m) m L a (fun j=>by simp [List.getElem?_drop]) (by rw [hLe,List.length_drop]; exact Ql) q1
  refine wpAny_of_quiet (C:=an [] w) (Q:=fun a'=>a'.tmps.size=n∧a'.defers=[]∧∀ w',an [] w w'→Q .normal (cn a') w') (fun a' w' Cf hh=>⟨hh.1,hh.2.1,hh.2.2 w' Cf⟩) _ _ _ _ (an.refl _ _) ?_
  rw [WH,← List.length_drop]
  exact q2
 have head:∀ (fuel:Nat) (L:Array Bool) (a:Act) (w:World) (g:Nat→List Nat),Cl L→(∀ j,L.getD j false=true→j < m)→L.toList.count false=fuel→a.tmps.size=n→a.defers=[]→
   A5 l m S U r0 w0 H (fun j=>L.getD j false=true) g (cn a) w→wpAny P .any l.toArray (fun e a' w'=>a'.tmps.size=n∧a'.defers=[]∧Q e (cn a') w') fuel L a w:=by
  intro fuel
  induction fuel with
  | zero=>
   intro L a w g hL vx hf g1 g2 inv
   have de:∀ j,j < l.length→L.getD j false=true:=by
    intro j hj
    cases hb:L.getD j false with
    | true=>rfl
    | false=>have:=Is L j hL.1 hj hb; omega
   have ja:∀ j,L.getD j false=true↔j < m:=fun j=>⟨vx j,fun h=>de j (by omega)⟩
   refine tail 0 L a w hL ja hf g1 g2 (next g _ _ ?_)
   exact ⟨inv.lq,fun hk=>inv.Cg fun k yt=>hk k ((ja k).1 yt),inv.vg,fun j hj=>inv.vd j ((ja j).2 hj),fun j hj hk=>inv.done j ((ja j).2 hj) (fun k yt=>hk k ((ja k).1 yt)),fun j hj=>inv.uF j ((ja j).2 hj),inv.other,fun j hj b hb=>⟨(inv.fresh j ((ja j).2 hj) b hb).1.imp (fun h=>h) fun h=>⟨h.1,h.2.imp fun k hk=>⟨(ja k).1 hk.1,hk.2⟩⟩,(inv.fresh j ((ja j).2 hj) b hb).2⟩,fun i j hi hj=>inv.xA i j ((ja i).2 hi) ((ja j).2 hj)⟩
  | succ fuel ih=>
   intro L a w g hL vx hf g1 g2 inv
   by_cases de:∀ j,j < m→L.getD j false=true
   ·have ja:∀ j,L.getD j false=true↔j < m:=fun j=>⟨vx j,de j⟩
    refine tail _ L a w hL ja hf g1 g2 (next g _ _ ?_)
    exact ⟨inv.lq,fun hk=>inv.Cg fun k yt=>hk k ((ja k).1 yt),inv.vg,fun j hj=>inv.vd j ((ja j).2 hj),fun j hj hk=>inv.done j ((ja j).2 hj) (fun k yt=>hk k ((ja k).1 yt)),fun j hj=>inv.uF j ((ja j).2 hj),inv.other,fun j hj b hb=>⟨(inv.fresh j ((ja j).2 hj) b hb).1.imp (fun h=>h) fun h=>⟨h.1,h.2.imp fun k hk=>⟨(ja k).1 hk.1,hk.2⟩⟩,(inv.fresh j ((ja j).2 hj) b hb).2⟩,fun i j hi hj=>inv.xA i j ((ja i).2 hi) ((ja j).2 hj)⟩
   ·obtain ⟨j0,SV,GB⟩ : ∃ j,j < m∧L.getD j false=false:=by
     apply Classical.byContradiction
     intro tK
     apply de
     intro j hj
     cases hb:L.getD j false with
     | true=>rfl
     | false=>exact absurd ⟨j,hj,hb⟩ tK
    have Mg:∃ i,i∈Region.ready .any l.toArray L:=by
     have:∀ k,(∃ j,j < k∧j < m∧L.getD j false=false)→∃ i,i∈Region.ready .any l.toArray L:=by
      intro k
      induction k with
      | zero=>rintro ⟨j,h,_⟩; omega
      | succ k Eg=>
       rintro ⟨j,NW,Ch,tL⟩
       by_cases tU:∃ j,j < k∧j < m∧L.getD j false=false
       ·exact Eg tU
       ·obtain rfl:j=k:=by
         apply Classical.byContradiction
         intro h
         exact tU ⟨j,by omega,Ch,tL⟩
        have Ci:j < l.length:=by omega
        refine ⟨j,Eo L j l[j] hL.1 (List.getElem?_eq_getElem Ci) tL fun e he=>?_⟩
        have bc:=xI j _ (List.getElem?_eq_getElem Ci) e he
        cases hb:L.getD e.on false with
        | true=>rfl
        | false=>exact absurd ⟨e.on,bc,by omega,hb⟩ tU
     exact this (j0+1) ⟨j0,by omega,SV,GB⟩
    have main:∀ i oi,i < m→l[i]? = some oi→L.getD i false=false→(∀ e∈oi.after.toList.filter (Region.binds .any),L.getD e.on false=true)→
      (Region.wanted oi (yl l (cn a))=true∧gy P oi (cn a) w fun v w'=>wpAny P .any l.toArray (fun e a' w'=>a'.tmps.size=n∧a'.defers=[]∧Q e (cn a') w') fuel (L.setIfInBounds i true) (a.put oi.dst v) w')∨
      (Region.wanted oi (yl l (cn a))=false∧wpAny P .any l.toArray (fun e a' w'=>a'.tmps.size=n∧a'.defers=[]∧Q e (cn a') w') fuel (L.setIfInBounds i true) (a.put oi.dst undef) w):=by
     intro i oi vy oh vz vA
     have gh:i < l.length:=(List.getElem?_eq_some_iff.1 oh).1
     have nv:∀ o,l[i]? = some o→∀ e∈o.after.toList.filter (Region.binds .any),L.getD e.on false=true:=fun o' cb=>by
      have:o'=oi:=Option.some.inj (cb.symm.trans oh)
      subst this; exact vA
     obtain ⟨s,hs⟩ : ∃ s,S[i]? = some s:=⟨S[i]'(by omega),List.getElem?_eq_getElem (by omega)⟩
     have hc:=Is L i hL.1 gh vz
     have Dl:=Ho L i oi hL oh vA
     have Cj:∀ j,(L.setIfInBounds i true).getD j false=true→j < m:=by
      intro j hj
      rcases (getSet L i j hL.1 gh).1 hj with rfl | hj
      ·exact vy
      ·exact vx j hj
     have Ep:∀ k,L.getD k false=true→k≠i∧i ∉ (bz l).getD k []:=by
      intro k hk
      refine ⟨fun h=>(by rw [h,vz] at hk; cases hk),fun s7=>?_⟩
      have:=ju L hL k i (fun o' cb e' sR=>hL.2 k o' cb hk e' sR) s7
      rw [vz] at this; cases this
     have ow:=Qk i vy oi s oh hs g (cn a) w inv.lq (fun hV=>by
       have tK:∀ k,L.getD k false=true→l.length ∉ U.getD k []:=fun k hk It=>by
        simp only [AZ,List.all_eq_true,List.mem_range,Bool.or_eq_true,Bool.not_eq_true',List.contains_eq_mem,decide_eq_false_iff_not,decide_eq_true_eq] at hV
        rcases hV k (vx k hk) with (h | h) | h
        ·exact h It
        ·exact (Ep k hk).1 (Nat.eq_of_beq_eq_true h)
        ·exact (Ep k hk).2 h
       have h0:=inv.Cg tK
       exact ⟨h0.1,h0.2,fun j hj b hb=>(inv.fresh j (ju L hL i j nv hj) b hb).1.elim (fun h=>h) fun h=>absurd h.2.choose_spec.2 (tK _ h.2.choose_spec.1)⟩) (fun j hj=>inv.uF j (ju L hL i j nv hj)) (fun j hj=>by
       simp only [vu,Bool.and_eq_true,List.all_eq_true,List.mem_range,Bool.or_eq_true,Bool.not_eq_true',List.contains_eq_mem,decide_eq_false_iff_not,decide_eq_true_eq] at hj
       refine inv.done j (ju L hL i j nv hj.1) fun k hk NW=>?_
       rcases hj.2 k (vx k hk) with (h | h) | h
       ·exact h NW
       ·exact (Ep k hk).1 (Nat.eq_of_beq_eq_true h)
       ·exact (Ep k hk).2 h) inv.other
      (fun i' sW j' iH=>inv.xA i' j' (ju L hL i i' nv sW) (ju L hL i j' nv iH))
      (fun j hj b hb=>⟨(inv.fresh j (ju L hL i j nv hj) b hb).1.imp (fun h=>h) (·.1),(inv.fresh j (ju L hL i j nv hj) b hb).2⟩)
     have hblk:∀ b∈sx g (U.getD i []),(∃ u,u∈U.getD i []∧L.getD u false=true∧b∈g u)∨(l.length∈U.getD i []∧b∈g l.length):=by
      intro b hb
      obtain ⟨u,hu,ib⟩:=List.mem_flatMap.1 hb
      rcases WG i vy u hu with rfl | h
      ·exact .inr ⟨hu,ib⟩
      ·exact .inl ⟨u,hu,ju L hL i u nv h,ib⟩
     have GC:∀ k',oi.dst=some k'→k' < a.tmps.size:=by
      intro k' sZ
      have s7:oi∈l:=List.mem_of_getElem? oh
      simp only [df,List.all_eq_true] at hd
      have:=hd oi s7
      rw [sZ] at this
      rw [g1]
      exact Nat.lt_of_succ_le (Nat.le_of_ble_eq_true this)
     have Ak:bu l i=oi.dst:=by unfold bu; rw [oh]; rfl
     have mw:∀ v t,(oi.dst≠some t)→cn (a.put oi.dst v) t=cn a t:=by
      intro v t ht
      rw [mg GC]
      cases yu:oi.dst with
      | none=>rfl
      | some d=>
       show (bif Nat.beq t d then v else cn a t)=cn a t
       cases hb:Nat.beq t d with
       | false=>rfl
       | true=>exact absurd (by rw [yu,Nat.eq_of_beq_eq_true hb]) ht
     have Iu:∀ v d,oi.dst=some d→cn (a.put oi.dst v) d=v:=by
      intro v d yu
      rw [mg GC,yu]
      show (bif Nat.beq d d then v else cn a d)=v
      rw [Nat.beq_refl]; rfl
     have step:∀ v w' f,an (sx g (U.getD i [])) w w'→(∀ b∈f,(b∈sx g (U.getD i [])∨w.heap.size≤b)∧b < w'.heap.size)→(if s.b then s.V f w' (cn a) v else v=undef)→
       wpAny P .any l.toArray (fun e a' w'=>a'.tmps.size=n∧a'.defers=[]∧Q e (cn a') w') fuel (L.setIfInBounds i true) (a.put oi.dst v) w':=by
      intro v w' f hC uG hV
      have ud:∀ j',j' < m→j'≠i→∀ t,bu l j'=some t→cn (a.put oi.dst v) t=cn a t:=by
       intro j' iH jx t ht
       refine mw v t fun h=>jx (du j' i t ?_ ?_)
       ·rw [lv iH]; exact ht
       ·rw [lv vy,Ak]; exact h
      have NX:∀ b∈sx g (U.getD i []),¬ N b:=fun b hb hn=>by
       rcases hblk b hb with ⟨u,_,qn,ib⟩ | ⟨_,ib⟩
       ·rcases (inv.fresh u qn b ib).1 with h | h
        ·have:=(hN b hn).1; omega
        ·exact (hN b hn).2 h.1
       ·exact (hN b hn).2 (inv.vg b ib)
      refine ih _ _ _ (fun j=>if j=i then f else if j∈U.getD i [] then [] else g j) Dl Cj (by omega) (by rw [lh]; exact g1) (by rw [jc]; exact g2)
       ⟨inv.lq.then hC fun b hb=>(by
        rcases hblk b hb with ⟨u,_,qn,ib⟩ | ⟨_,ib⟩
        ·exact (inv.fresh u qn b ib).1.elim .inr fun h=>.inl h.1
        ·exact .inl (inv.vg b ib)),fun tK=>?_,?_,fun j hj=>?_,?_,fun j hj d vB sj tA=>?_,?_,?_,?_⟩
      ·have ym:l.length ∉ U.getD i []:=tK i ((getSet L i i hL.1 gh).2 (.inl rfl))
       have h0:=inv.Cg fun k hk=>tK k ((getSet L i k hL.1 gh).2 (.inr hk))
       refine ⟨h0.1.then hC fun b hb=>?_,?_⟩
       ·rcases hblk b hb with ⟨u,_,qn,ib⟩ | ⟨h,_⟩
        ·exact (inv.fresh u qn b ib).1.elim .inr fun ⟨_,k,hk,It⟩=>absurd It (tK k ((getSet L i k hL.1 gh).2 (.inr hk)))
        ·exact absurd h ym
       ·show (if l.length=i then f else if l.length∈U.getD i [] then [] else g l.length)=H
        rw [if_neg (by omega),if_neg ym]
        exact h0.2
      ·intro b hb
       have cq:b∈(if l.length=i then f else if l.length∈U.getD i [] then [] else g l.length):=hb
       rw [if_neg (by omega)] at cq
       split at cq
       ·cases cq
       ·exact inv.vg b cq
      ·intro b hb hv
       have ma:b∈(if l.length=i then f else if l.length∈U.getD i [] then [] else g l.length):=hv
       rw [if_neg (by omega)] at ma
       split at ma
       ·cases ma
       ·rename_i WI
        have cq:b∈(if j=i then f else if j∈U.getD i [] then [] else g j):=hb
        split at cq
        ·rcases (uG b cq).1 with h | h
         ·rcases hblk b h with ⟨u,_,qn,ib⟩ | ⟨h,_⟩
          ·exact inv.vd u qn b ib ma
          ·exact WI h
         ·have h1:=hH b (inv.vg b ma)
          have h2:=inv.lq.size
          omega
        ·rename_i l7
         split at cq
         ·cases cq
         ·exact inv.vd j (((getSet L i j hL.1 gh).1 hj).resolve_left l7) b cq ma
      ·intro j hj Al
       refine ⟨fun d vB=>?_,fun WJ sj tA NY=>?_⟩
       rotate_left
       ·by_cases l7:j=i
        ·subst l7
         rw [hs] at tA
         cases tA
         rw [if_pos NY] at hV
         refine ⟨v,?_⟩
         simp only [if_pos]
         exact sy j s hs _ [] w' w' (cn a) _ v (an.refl _ _) (fun _ _ h=>nomatch h) (fun _ h=>nomatch h) (fun j' iH t ht=>ud j' (by have:=(sb j j' iH).1; omega) (by have:=(sb j j' iH).1; omega) t ht) hV
        ·have nw:=((getSet L i j hL.1 gh).1 hj).resolve_left l7
         have tL:j ∉ U.getD i []:=Al i ((getSet L i i hL.1 gh).2 (.inl rfl))
         obtain ⟨x,hx⟩:=(inv.done j nw (fun k hk=>Al k ((getSet L i k hL.1 gh).2 (.inr hk)))).2 WJ sj tA NY
         have kp:(fun j=>if j=i then f else if j∈U.getD i [] then [] else g j) j=g j:=by
          show (if j=i then f else if j∈U.getD i [] then [] else g j)=g j
          rw [if_neg l7,if_neg tL]
         rw [kp]
         refine ⟨x,sy j sj tA _ _ _ _ (cn a) _ _ hC (fun b cq Iv=>?_) NX (fun j' iH t ht=>ud j' (by have:=(sb j j' iH).1; have:=vx j nw; omega) (fun h=>?_) t ht) hx⟩
         ·rcases hblk b Iv with ⟨u,Ck,qn,ib⟩ | ⟨_,ib⟩
          ·exact inv.xA j u nw qn (fun h=>tL (h ▸ Ck)) b cq ib
          ·exact inv.vd j nw b cq ib
         ·subst h
          have:=ju L hL j j' (fun o' cb e' sR=>hL.2 j o' cb nw e' sR) iH
          rw [vz] at this; cases this
       by_cases l7:j=i
       ·subst l7
        rw [hs]
        simp only [if_pos]
        rw [Ak] at vB
        rw [Iu v d vB]
        split
        ·rename_i hb
         rw [if_pos hb] at hV
         exact sy j s hs _ [] w' w' (cn a) _ v (an.refl _ _) (fun _ _ h=>nomatch h) (fun _ h=>nomatch h) (fun j' iH t ht=>ud j' (by have:=(sb j j' iH).1; omega) (by have:=(sb j j' iH).1; omega) t ht) hV
        ·rename_i hb
         rw [if_neg hb] at hV
         exact hV
       ·have nw:=((getSet L i j hL.1 gh).1 hj).resolve_left l7
        have Ch:=vx j nw
        have tL:j ∉ U.getD i []:=Al i ((getSet L i i hL.1 gh).2 (.inl rfl))
        have yu:oi.dst≠some d:=by
         intro h
         apply l7
         refine du j i d ?_ ?_
         ·rw [lv Ch]; exact vB
         ·rw [lv vy,Ak]; exact h
        have:=(inv.done j nw (fun k hk=>Al k ((getSet L i k hL.1 gh).2 (.inr hk)))).1 d vB
        rw [mw v d yu]
        have kp:(fun j=>if j=i then f else if j∈U.getD i [] then [] else g j) j=g j:=by
         show (if j=i then f else if j∈U.getD i [] then [] else g j)=g j
         rw [if_neg l7,if_neg tL]
        rw [kp]
        cases tA:S[j]? with
        | none=>trivial
        | some sj=>
         rw [tA] at this
         simp only [] at this ⊢
         split
         ·rename_i hb
          rw [if_pos hb] at this
          refine sy j sj tA _ _ _ _ (cn a) _ _ hC (fun b cq Iv=>?_) NX (fun j' iH t ht=>ud j' (by have:=(sb j j' iH).1; omega) (fun h=>?_) t ht) this
          rotate_left
          ·subst h
           have:=ju L hL j j' (fun o' cb e' sR=>hL.2 j o' cb nw e' sR) iH
           rw [vz] at this; cases this
          rcases hblk b Iv with ⟨u,Ck,qn,ib⟩ | ⟨_,ib⟩
          ·exact inv.xA j u nw qn (fun h=>tL (h ▸ Ck)) b cq ib
          ·exact inv.vd j nw b cq ib
         ·rename_i hb
          rw [if_neg hb] at this
          exact this
      ·by_cases l7:j=i
       ·subst l7
        rw [hs] at tA
        cases tA
        rw [Ak] at vB
        rw [Iu v d vB]
        split
        ·rename_i hb
         rw [if_pos hb] at hV
         exact ⟨f,w',sy j s hs _ [] w' w' (cn a) _ v (an.refl _ _) (fun _ _ h=>nomatch h) (fun _ h=>nomatch h) (fun j' iH t ht=>ud j' (by have:=(sb j j' iH).1; omega) (by have:=(sb j j' iH).1; omega) t ht) hV⟩
        ·rename_i hb
         rw [if_neg hb] at hV
         exact hV
       ·have nw:=((getSet L i j hL.1 gh).1 hj).resolve_left l7
        have Ch:=vx j nw
        have yu:oi.dst≠some d:=by
         intro h
         apply l7
         refine du j i d ?_ ?_
         ·rw [lv Ch]; exact vB
         ·rw [lv vy,Ak]; exact h
        have:=inv.uF j nw d vB sj tA
        rw [mw v d yu]
        split
        ·rename_i hb
         rw [if_pos hb] at this
         obtain ⟨f1,w1,h1⟩:=this
         refine ⟨f1,w1,sy j sj tA _ [] w1 w1 (cn a) _ _ (an.refl _ _) (fun _ _ h=>nomatch h) (fun _ h=>nomatch h) (fun j' iH t ht=>ud j' (by have:=(sb j j' iH).1; omega) (fun h=>?_) t ht) h1⟩
         subst h
         have:=ju L hL j j' (fun o' cb e' sR=>hL.2 j o' cb nw e' sR) iH
         rw [vz] at this; cases this
        ·rename_i hb
         rw [if_neg hb] at this
         exact this
      ·intro t ht
       rw [mw v t (fun h=>ht i vy (by rw [Ak]; exact h))]
       exact inv.other t ht
      ·intro j hj b hb
       by_cases l7:j=i
       ·simp only [if_pos l7] at hb
        have hh:=uG b hb
        have vm:=inv.lq.size
        rcases hh.1 with h | h
        ·rcases hblk b h with ⟨u,_,qn,ib⟩ | ⟨hv,ib⟩
         ·exact ⟨(inv.fresh u qn b ib).1.imp (fun h=>h) fun h=>⟨h.1,h.2.imp fun k hk=>⟨(getSet L i k hL.1 gh).2 (.inr hk.1),hk.2⟩⟩,hh.2⟩
         ·exact ⟨.inr ⟨inv.vg b ib,i,(getSet L i i hL.1 gh).2 (.inl rfl),hv⟩,hh.2⟩
        ·exact ⟨.inl (by omega),hh.2⟩
       ·have nw:=((getSet L i j hL.1 gh).1 hj).resolve_left l7
        simp only [if_neg l7] at hb
        split at hb
        ·cases hb
        ·have h1:=inv.fresh j nw b hb
         have h2:=hC.size
         exact ⟨h1.1.imp (fun h=>h) fun h=>⟨h.1,h.2.imp fun k hk=>⟨(getSet L i k hL.1 gh).2 (.inr hk.1),hk.2⟩⟩,by omega⟩
      ·have uO:∀ j',(L.setIfInBounds i true).getD j' false=true→j'≠i→∀ b∈f,b ∉ (if j'∈U.getD i [] then [] else g j'):=by
        intro j' iH e2 b hb cq
        have Iw:=((getSet L i j' hL.1 gh).1 iH).resolve_left e2
        split at cq
        ·cases cq
        ·rename_i tL
         rcases (uG b hb).1 with h | h
         ·rcases hblk b h with ⟨u,Ck,qn,ib⟩ | ⟨_,ib⟩
          ·exact inv.xA u j' qn Iw (fun h=>tL (h ▸ Ck)) b ib cq
          ·exact inv.vd j' Iw b cq ib
         ·have:=inv.fresh j' Iw b cq
          omega
       intro i' j' sW iH jx b hb cq
       by_cases e1:i'=i
       ·have e2:j'≠i:=fun h=>jx (e1.trans h.symm)
        simp only [if_pos e1] at hb
        simp only [if_neg e2] at cq
        exact uO j' iH e2 b hb cq
       ·simp only [if_neg e1] at hb
        by_cases e2:j'=i
        ·simp only [if_pos e2] at cq
         exact uO i' sW e1 b cq hb
        ·simp only [if_neg e2] at cq
         split at hb
         ·cases hb
         ·split at cq
          ·cases cq
          ·exact inv.xA i' j' (((getSet L i i' hL.1 gh).1 sW).resolve_left e1) (((getSet L i j' hL.1 gh).1 iH).resolve_left e2) jx b hb cq
     cases hb:s.b with
     | true=>
      rw [if_pos hb] at ow
      refine .inl ⟨ow.1,sa ow.2 ?_⟩
      rintro v w' ⟨hC,f,uG,hV⟩
      exact step v w' f hC uG (by rw [if_pos hb]; exact hV)
     | false=>
      rw [if_neg (by rw [hb]; exact Bool.false_ne_true)] at ow
      exact .inr ⟨ow,step undef w [] (an.refl _ _) (fun b h=>nomatch h) (by rw [if_neg (by rw [hb]; exact Bool.false_ne_true)])⟩
    refine ⟨fun h=>(by obtain ⟨i,hi⟩:=Mg; rw [h] at hi; cases hi),fun i hi=>?_⟩
    obtain ⟨q1,oi,oh,vA⟩:=n8 L i hi
    have gh:i < l.length:=(List.getElem?_eq_some_iff.1 oh).1
    have vz:L.getD i false=false:=getD_both q1
    have vy:i < m:=by
     rcases Nat.lt_or_ge i m with h | h
     ·exact h
     ·have hj:=FG i h gh j0 SV
      have:=ju L hL i j0 (fun o' cb=>by have:o'=oi:=Option.some.inj (cb.symm.trans oh); subst this; exact vA) hj
      rw [GB] at this; cases this
    unfold wpOp
    rw [show (l.toArray)[i]? = some oi by simpa using oh]
    simp only []
    rw [A6 (by rw [g1]; exact hd)]
    rcases main i oi vy oh vz vA with ⟨hw,h⟩ | ⟨hw,h⟩
    ·rw [if_pos hw]
     exact .inl (h.wp fun v w' hv=>hv)
    ·rw [if_neg (by rw [hw]; exact Bool.false_ne_true)]
     exact h
 refine head _ _ a _ (fun j=>if j=l.length then H else []) ⟨by simp,?_⟩ ?_ ?_ h1 h2 ⟨an.nil (an.drew _ _),fun _=>⟨an.drew _ _,by simp⟩,fun b hb=>by simpa using hb,?_,?_,?_,?_,?_,?_⟩
 ·intro j o ho hj
  rw [getD_replicate_false] at hj; cases hj
 ·intro j hj
  rw [getD_replicate_false] at hj; cases hj
 ·simp
 ·intro j hj
  rw [getD_replicate_false] at hj; cases hj
 ·intro j hj
  rw [getD_replicate_false] at hj; cases hj
 ·intro j hj
  rw [getD_replicate_false] at hj; cases hj
 ·intro t _
  rw [h3]
 ·intro j hj
  rw [getD_replicate_false] at hj; cases hj
 ·intro i j hi
  rw [getD_replicate_false] at hi; cases hi
end
end Go.Li
namespace Go.Dk
open Go Go.Li
section
variable {R S:Type} {P:Program} {cx:Cx R} {K:dj R S} {l tail:LO} {base fr:Fr} {w:World} {Z:Nat→Prop}
theorem Qm {mt id:Nat} {U:LL} {Wl:QE} (hU:((List.range mt).all fun i=>(U.getD i []).all fun u=>Nat.beq u l.length || ((bz l).getD i []).contains u)=true) (hh:oK l mt base=true) (hd:df cx.n l=true) (hA:A4 l mt=true) (yo:mt≤l.length) (ht:tail=l.drop mt) {i:Nat} {sl:LQ} {ms:MM} {Γ:QE} {m:Option (Out S R)} (Wm:DL ms=true) (tS:Fw U sl ms=true)
  (h:∀ x:qk ms,D P cx (.p (B6 sl (mF ms x)) (Fv ms x) base Γ fun fr Γ=>.tg true (DJ tail) l tail K Γ fr m)):L7 P cx K l mt U Wl id base (.a [] [] i sl ms Γ m):=by
 rintro ⟨_,h2,h3⟩ B o ho r0 w0 H Z ha hs ⟨S',hl,hR,hO⟩
 have hi:i=mt:=by
  have:=congrArg List.length h2
  simp at this
  omega
 subst hl
 obtain ⟨F,Hd,⟨BQ,Dg,yn,Dh⟩,hS,hG⟩:=hs
 refine Uc (N:=Z) (S:=S') (U:=U) (H:=H) hd hA yo hi yn hU (fun b hb=>⟨hG.tv b hb,fun h=>hG.apart b (List.mem_append_left _ h) hb⟩) (fun i s hs=>hR.s i s hs) (fun j hj=>hO j (by omega)) ?_
 intro g r w hI
 have L8:∀ k j,j∈U.getD k []→∀ a∈ms,a.j≠j:=by
  intro k j hj
  unfold Fw at tS
  rw [List.getD_eq_getElem?_getD] at hj
  cases hk:U[k]? with
  | none=>rw [hk] at hj; exact absurd hj List.not_mem_nil
  | some us=>
   rw [hk] at hj
   have h1:=List.all_eq_true.1 (List.all_eq_true.1 tS us (List.mem_of_getElem? hk)) j hj
   intro a ha he
   have:=List.all_eq_true.1 h1 a ha
   rw [he,Nat.beq_refl] at this
   cases this
 have hD:∀ j,j < mt→(∀ k,j ∉ U.getD k [])→yk l S' j g r w:=fun j hj hn=>hI.done j hj fun k _=>hn k
 have bc:∀ a∈ms,a.j < mt:=fun a ha=>hi ▸ hR.lt ha
 obtain ⟨x,hx,vv,Wo⟩:=SR (g:=g) (r:=r) (w:=w) Wm hR.d (fun a ha b hb nu=>hI.xA _ _ (bc a ha) (bc b hb) nu) fun a ha=>by
  have:=hR.H6 (S2:=[]) ha (by rw [List.append_nil]; exact hD a.j (bc a ha) (fun k hk=>L8 k _ hk a ha rfl))
  exact this
 have Ek:=List.nodup_append.1 hG.nd
 have mw:∀ b∈A0 g ms,w0.heap.size≤b∨b∈H:=fun b hb=>by
  obtain ⟨a,h1,h2⟩:=DN hb
  exact (hI.fresh a.j (bc a h1) b h2).1.imp (fun h=>h) (·.1)
 have fl:=ur.stay hS hG hI.lq
 obtain ⟨Vo,Vr,Wp,NQ,vv⟩:=vv
 obtain ⟨F',hp,gv⟩:=vv.build (fl.mono (fun _ h=>.inl h) fun _ h=>h)
 have Il:Gd B Z (A0 g ms++F) w:=by
  refine ⟨zp Wo Ek.2.1 fun b hb hF=>(mw b hb).elim (fun h=>Nat.lt_irrefl _ (Nat.lt_of_lt_of_le (hS.lt b hF) h)) (fun h=>Ek.2.2 b h b hF rfl),?_,fun b hb=>Nat.lt_of_lt_of_le (hG.tv b hb) hI.lq.size,?_,hG.x9,hG.yc,hG.lq.then hI.lq fun b hb=>hG.low b (List.mem_append_left _ hb)⟩
  ·intro b hb hz
   rcases List.mem_append.1 hb with hb | hb
   ·exact (mw b hb).elim (fun h=>Nat.lt_irrefl _ (Nat.lt_of_lt_of_le (hG.tv b hz) h)) (fun h=>hG.apart b (List.mem_append_left _ h) hz)
   ·exact hG.apart b (List.mem_append_right _ hb) hz
  ·intro b hb
   rcases List.mem_append.1 hb with hb | hb
   ·exact (mw b hb).elim (fun h=>.inr (Nat.le_trans hG.lq.size h)) (fun h=>hG.low b (List.mem_append_left _ h))
   ·exact hG.low b (List.mem_append_right _ hb)
 have Qf:cu r ((B6 sl (mF ms x)).reverse++base):=by
  refine rm (Ij (fun p hp=>?_) hx) (mf hh ha hI.other)
  exact hR.BN (S2:=[]) hp fun j _ hj=>(by rw [List.append_nil]; exact hI.uF j (hi ▸ hj))
 have:=(h x).sound B o ho r w Qf ⟨_,F',gv,((Il.perm (KM Wp)).freeze NQ).perm hp⟩
 rw [ht] at this
 exact this
theorem ZA {id:Nat} (hd:QE) (mt:Nat) (U as:LL) {ops:LO} {Γ Γ1:QE} {fr:Fr} {m:Option (Out S R)}
  (hB:(P.follows .mixedOrders && df cx.n l && A4 l mt && Nat.ble mt l.length && (r9 l U mt == as) && ((List.range mt).all fun i=>(U.getD i []).all fun u=>Nat.beq u l.length || ((bz l).getD i []).contains u))=true)
  (ho:ops=l.take mt) (ht:tail=l.drop mt) (hf:Kp (AS ops) none fr base) (hh:oK l mt base=true) (he:EO Γ hd Γ1) (Im:OW Γ hd)
  (h:AD true P cx K l tail base U hd (.a as ops 0 [] [] Γ1 m)):Bx (nq P cx (.dr id l K Γ fr m)):=by
 simp only [Bool.and_eq_true] at hB
 obtain ⟨⟨⟨⟨⟨b1,b2⟩,b3⟩,b5⟩,b6⟩,b7⟩:=hB
 rw [na]
 intro B o hm r w ha hs
 obtain ⟨Z,F,hS,hG⟩:=hs
 obtain ⟨Fd,F',h1,h2,h3⟩:=he.sound hS
 have Io:SA Z w hd [] Fd:=by
  have:=(HO.hl Im hS h1).front (Γ:=[]) (F:=[]) rfl
  simpa using this
 have hX:ur B Z hd Γ1 Fd w:=⟨F',Fd,⟨Io,fun b hb=>⟨hb,Io.lt b hb⟩,Io.lt,(List.nodup_append.1 (hG.perm h3).nd).1⟩,h2,hG.perm h3⟩
 refine o3.W b1 ?_
 refine AD.sound (id:=id) hh (fun _ _ _ _ _ _ hs he h=>Qm b7 hh b2 b3 (Nat.le_of_ble_eq_true b5) ht hs he h) h
  ⟨by rw [List.drop_zero]; exact (eq_of_beq b6).symm,by rw [List.drop_zero]; exact ho,Nat.zero_le _⟩ B o hm r w Fd Z (hf.sound ha) hX ⟨[],rfl,⟨fun _ h=>absurd h List.not_mem_nil,fun _ h=>absurd h List.not_mem_nil,fun i s h=>by simp at h,List.nodup_nil,fun _ _ _ h1 h2=>El l (Mf b3) h1 h2⟩,fun j hj=>absurd hj (Nat.not_lt_zero j)⟩
theorem acF {id:Nat} (mt:Nat) (U as:LL) {ops:LO} {Γ:QE} {fr:Fr} {m:Option (Out S R)}
  (hB:(P.follows .mixedOrders && df cx.n l && A4 l mt && Nat.ble mt l.length && (r9 l U mt == as) && ((List.range mt).all fun i=>(U.getD i []).all fun u=>Nat.beq u l.length || ((bz l).getD i []).contains u))=true)
  (ho:ops=l.take mt) (ht:tail=l.drop mt) (hf:Kp (AS ops) none fr base) (hh:oK l mt base=true)
  (h:AD true P cx K l tail base U [] (.a as ops 0 [] [] Γ m)):Bx (nq P cx (.dr id l K Γ fr m)):=ZA [] mt U as hB ho ht hf hh .nil .nil h
end
end Go.Dk
namespace Go.Dk
open Go Go.Li
def B0:Value→Option Nat
 | .slice (some a) _ _=>some a.block
 | _=>none
def NF {α:Type} (E:ai α):Prop:=∀ {h:Array Obj} {cs:LV} {x:α} {f:LN},E.rep h cs x f→f=[]
theorem NF.i {k:IntKind}:NF (aL k):=zm
theorem NF.l {α:Type} {E:ai α} (hE:NF E) {h:Array Obj}:∀ {xs:List α} {cs:LV} {f:LN},dv E h cs xs f→f=[]:=by
 intro xs
 induction xs with
 | nil=>rintro cs f ⟨_,rfl⟩; rfl
 | cons x xs ih=>
  rintro cs f ⟨c,iz,f1,f2,rfl,rfl,h1,h2⟩
  rw [hE h1,ih h2]; rfl
structure Good {α:Type} (A:Value→α→Prop) (f:LN):Prop where
 sub:∀ u y b,A u y→B0 u=some b→b∈f
 one:∀ u y u' y' b,A u y→A u' y'→B0 u=some b→B0 u'=some b→y=y'
inductive BR {α:Type}:{β:Type}→ai β→((Value→List α→Prop)→ai β)→Prop
 | row {e:TI} {E:ai α}:BR (aI e E) (fun A=>uW A (aI e E))
 | step {β:Type} {e:TI} {T:ai β} {T':(Value→List α→Prop)→ai β} (h:BR T T'):BR (aI e T) (fun A=>bG (T' A))
section
variable {α β:Type} {T:ai β} {T':(Value→List α→Prop)→ai β} {A A':Value→List α→Prop} {f:LN} {hp:Array Obj}
theorem BR.size (h:BR T T'):(T' A).size=T.size:=by
 cases h <;> rfl
theorem BR.mono (h:BR T T') (hA:∀ u y,A u y→A' u y):Le (T' A) (T' A'):=by
 induction h with
 | row=>exact ⟨rfl,fun h=>⟨h.1.imp fun v g=>⟨g.1,hA _ _ g.2⟩,h.2⟩⟩
 | step _ ih=>exact ih.Kl
theorem BR.ZB {e:TI} (ho:∀ {cs:LV} {x:β} {f:LN},T.rep hp cs x f→f.Nodup→∃ A,Good A f∧(T' A).rep hp cs x f) (hm:∀ {A A':Value→List α→Prop},(∀ u y,A u y→A' u y)→Le (T' A) (T' A')) :
  ∀ {xs:List β} {cs:LV} {f:LN},dv T hp cs xs f→f.Nodup→∃ A,Good A f∧dv (T' A) hp cs xs f:=by
 have _:=e
 intro xs
 induction xs with
 | nil=>rintro cs f ⟨rfl,rfl⟩ _; exact ⟨fun _ _=>False,⟨fun _ _ _ h=>h.elim,fun _ _ _ _ _ h=>h.elim⟩,rfl,rfl⟩
 | cons x xs ih=>
  rintro cs f ⟨c,iz,f1,f2,rfl,rfl,h1,h2⟩ hn
  obtain ⟨n1,n2,n3⟩:=List.nodup_append.1 hn
  obtain ⟨A1,g1,r1⟩:=ho h1 n1
  obtain ⟨A2,g2,r2⟩:=ih h2 n2
  refine ⟨fun u y=>A1 u y∨A2 u y,⟨fun u y b h hb=>?_,fun u y u' y' b h h' hb cq=>?_⟩,c,iz,f1,f2,rfl,rfl,(hm fun _ _=>.inl).le r1,wc (hm fun _ _=>.inr) r2⟩
  ·exact h.elim (fun h=>List.mem_append_left _ (g1.sub u y b h hb)) (fun h=>List.mem_append_right _ (g2.sub u y b h hb))
  ·rcases h with h | h <;> rcases h' with h' | h'
   ·exact g1.one u y u' y' b h h' hb cq
   ·exact absurd rfl (n3 b (g1.sub _ _ _ h hb) b (g2.sub _ _ _ h' cq))
   ·exact absurd rfl (n3 b (g1.sub _ _ _ h' cq) b (g2.sub _ _ _ h hb))
   ·exact g2.one u y u' y' b h h' hb cq
theorem BR.opened (h:BR T T'):∀ {cs:LV} {x:β} {f:LN},T.rep hp cs x f→f.Nodup→∃ A,Good A f∧(T' A).rep hp cs x f:=by
 induction h with
 | @row e E=>
  intro cs x f hr _
  obtain ⟨base,cap,rfl,gx⟩:=id hr
  refine ⟨fun u y=>u = .slice base x.length cap∧y=x,⟨?_,?_⟩,⟨_,rfl,rfl,rfl⟩,hr⟩
  ·rintro u y b ⟨rfl,rfl⟩ hb
   rcases gx with ⟨rfl,_⟩ | ⟨b0,cur,f',rfl,_,rfl,_⟩
   ·cases hb
   ·cases hb; exact List.mem_cons_self
  ·rintro u y u' y' b ⟨_,rfl⟩ ⟨_,rfl⟩ _ _; rfl
 | @step β e T T' ho ih=>
  intro cs x f hr hn
  obtain ⟨base,cap,rfl,gx⟩:=hr
  rcases gx with ⟨rfl,_,rfl,rfl⟩ | ⟨b,cur,f',rfl,hg,rfl,h3,h4,h5,h6⟩
  ·exact ⟨fun _ _=>False,⟨fun _ _ _ h=>h.elim,fun _ _ _ _ _ h=>h.elim⟩,none,cap,rfl,.inl ⟨rfl,rfl⟩⟩
  ·obtain ⟨A,g1,g2⟩:=BR.ZB (e:=e) ih (fun hA=>ho.mono hA) h6 (List.nodup_cons.1 hn).2
   refine ⟨A,⟨fun u y b h hb=>List.mem_cons_of_mem _ (g1.sub u y b h hb),g1.one⟩,_,cap,rfl,.inr ⟨b,0,cur,e,(0,0),f',rfl,hg,rfl,?_⟩⟩
   rw [List.drop_zero,ho.size]
   exact g2
end
section
variable {α:Type} {e e':TI} {E:ai α} {A:Value→List α→Prop} {ft f:LN} {hp:Array Obj}
theorem Mh (nf:NF E) (hA:Good A ft):∀ {ys:List (List α)} {us:LV} {g:LN},dv (uW A (aI e' E)) hp us ys g→ys.Nodup→
  dv (aI e' E) hp us ys g∧g.Nodup∧∀ b∈g,b∈ft∧∃ u y,A u y∧B0 u=some b∧y∈ys:=by
 intro ys
 induction ys with
 | nil=>rintro us g ⟨rfl,rfl⟩ _; exact ⟨⟨rfl,rfl⟩,List.nodup_nil,fun b hb=>absurd hb List.not_mem_nil⟩
 | cons y ys ih=>
  rintro us g ⟨c,iz,g1,g2,rfl,rfl,⟨⟨u,rfl,hu⟩,hr⟩,h2⟩ hn
  obtain ⟨n1,n2⟩:=List.nodup_cons.1 hn
  obtain ⟨a1,a2,a3⟩:=ih h2 n2
  refine ⟨⟨[u],iz,g1,g2,rfl,rfl,hr,a1⟩,?_,?_⟩
  ·obtain ⟨base,cap,hv,gx⟩:=hr
   obtain rfl:u = .slice base y.length cap:=by simpa using hv
   rcases gx with ⟨_,_,_,rfl⟩ | ⟨b,cur,f',rfl,_,rfl,_,_,_,h6⟩
   ·exact a2
   ·rw [nf.l h6]
    refine List.nodup_cons.2 ⟨fun hb=>?_,a2⟩
    obtain ⟨_,u',y',h7,h8,h9⟩:=a3 b hb
    rw [hA.one _ _ _ _ b hu h7 rfl h8] at n1
    exact n1 h9
  ·intro b hb
   rcases List.mem_append.1 hb with hb | hb
   ·obtain ⟨base,cap,hv,gx⟩:=hr
    obtain rfl:u = .slice base y.length cap:=by simpa using hv
    rcases gx with ⟨_,_,_,rfl⟩ | ⟨b0,cur,f',rfl,_,rfl,_,_,_,h6⟩
    ·cases hb
    ·rw [nf.l h6,List.mem_singleton] at hb
     subst hb
     exact ⟨hA.sub _ _ _ hu rfl,_,y,hu,rfl,by simp⟩
   ·obtain ⟨b1,u',y',b2,b3,b4⟩:=a3 b hb
    exact ⟨b1,u',y',b2,b3,by simp [b4]⟩
theorem NZ {Z:Nat→Prop} {w:World} {v:Value} {ys:List (List α)} (nf:NF E) (hA:Good A ft) (ho:rf Z w f (.om e (uW A (aI e' E)) v ys)) (hn:ys.Nodup) (hf:f.Nodup) (hz:∀ b∈f,¬ Z b) :
  ∃ g,(∀ b∈g,b∈ft)∧(aI e (aI e' E)).rep w.heap [v] ys (f++g)∧(f++g).Nodup:=by
 obtain ⟨us,g,h1,h2,h3,_⟩:=ho
 obtain ⟨a1,a2,a3⟩:=Mh nf hA h2 hn
 have hl:us.length=ys.length:=by have:=ks a1; rw [this]; exact Nat.mul_one _
 refine ⟨g,fun b hb=>(a3 b hb).1,?_,List.nodup_append.2 ⟨hf,a2,fun b hb c hc=>fun e=>hz b hb (h3 b (e ▸ hc))⟩⟩
 obtain ⟨base,cap,hv,hr⟩:=h1
 obtain rfl:v = .slice base us.length cap:=by simpa using hv
 rw [hl]
 rcases hr with ⟨rfl,rfl,rfl,rfl⟩ | ⟨b,cur,f',rfl,hg,rfl,c1,c2,c3,c4⟩
 ·cases ys with
  | cons y ys=>simp at hl
  | nil=>obtain ⟨_,rfl⟩:=a1; exact ⟨none,0,rfl,.inl ⟨rfl,rfl,rfl,rfl⟩⟩
 ·obtain ⟨c5,rfl⟩:=AP c4
  refine ⟨_,cap,rfl,.inr ⟨b,cur,g,rfl,hg,rfl,by rw [← hl]; exact c1,c2,c3,?_⟩⟩
  have e1:(aI e' E).size=tG.size:=rfl
  rw [e1,← hl,c5]
  exact a1
end
section
variable {P:Program} {R:Type} {cx:Cx R}
theorem af {S S1 α β:Type} [DecidableEq (List α)] (k t0:Nat) (φ:S1→Value→Fr) (KR:S1→List (List α)) (v0:Value) (f2:Fr) {e e':TI} {E:ai α} {T:ai β} {T':(Value→List α→Prop)→ai β} {vs:Value} {x:β} {gq:List KI} {kb:Kb R S} {c:Code} {s0:S1} {body:S1→Option (Out S1 R)} {f:S1→Option (Out S R)} {Γ Γ1 Γ2:QE} {fr:Fr}
  (ho:BR T T') (nf:NF E) (ha:sg fr (φ s0 v0)) (hf:sg fr f2) (hz:KR s0=[]) (hv:look fr t0=some vs) (h1:dh Γ (.own T vs x) Γ1) (h2:∀ A:Value→List α→Prop,dh Γ1 (.om e (uW A (aI e' E)) v0 []) Γ2)
  (hb:∀ (A:Value→List α→Prop) s v,D P cx (.p (φ s v) [.om e (uW A (aI e' E)) v (KR s)] f2 [.rd false (T' A) vs x] fun fr Γ=>.c ⟨[],.loop Value k (fun s v=>[.om e (uW A (aI e' E)) v (KR s)]) φ [.rd false (T' A) vs x] f2⟩ c Γ fr (body s)))
  (hk:∀ s v,D P cx (.p (φ s v) [.own (aI e (aI e' E)) v (KR s)] f2 [] fun fr Γ=>.mn ⟨gq,kb⟩ Γ fr (f s))) :
  Bx (nq P cx (.bk true k ⟨gq,kb⟩ (.loop c) Γ fr (ae (ab k (af body s0)) fun s=>WK (KR s)>>=fun _=>f s))):=by
 have _:=hv
 rw [na]
 intro B o N0 r w qj ry
 obtain ⟨Z,F,hS,hG⟩:=ry
 obtain ⟨ft,F1,tJ,hT,fl⟩:=h1.sound hS
 have KS:=hG.perm tJ
 obtain ⟨n1,n2,n3⟩:=List.nodup_append.1 KS.nd
 obtain ⟨A,hA,hR⟩:=ho.opened (hp:=w.heap) hT n1
 obtain ⟨fo,F2,o9,hO,gv⟩:=(h2 A).sound fl
 have Iy:∀ b∈ft,b < w.heap.size:=ai.lt _ hT
 have hfz:∀ b∈ft,¬ Z b:=fun b hb=>KS.apart b (List.mem_append_left _ hb)
 have SX:∀ b∈fo,b∈F1:=fun b hb=>o9.mem_iff.1 (List.mem_append_left _ hb)
 have tK:fo.Nodup:=(List.nodup_append.1 (o9.nodup_iff.2 n2)).1
 refine LR (T:=TT P cx B) (LI B (fun s v=>[.om e (uW A (aI e' E)) v (KR s)]) φ [.rd false (T' A) vs x] f2) N0
  ⟨v0,rm (ha.all qj) (hf.sound qj),fun b=>Z b∨b∈ft,fo,⟨fo,[],(List.append_nil _).symm,by rw [hz]; exact hO.mono fun _=>.inl,⟨ft,hR,fun b hb=>.inr hb⟩,rfl⟩,tK,fun b hb=>?_,fun b hb=>hb.elim (hG.tv b) (Iy b),fun b hb=>KS.low b (List.mem_append_right _ (SX b hb)),fun b h=>.inl (hG.x9 b h),fun b hb=>hb.elim (hG.yc b) fun hb=>.inr (KS.low b (List.mem_append_left _ hb)),hG.lq⟩ ?_ ?_ ?_
 ·rintro (h | h)
  ·exact KS.apart b (List.mem_append_right _ (SX b hb)) h
  ·exact n3 b h b (SX b hb) rfl
 ·intro x r w he hx
  subst he
  exact wM hx
 ·rintro s r w ⟨v,h1,h2⟩ o ho
  exact (hb A s v).sound B o ho r w h1 h2
 ·rintro s r w' ⟨v,a1,Z2,Fl,HY,nt⟩ hm
  obtain ⟨_,hn,hm⟩:=bind_some hm
  replace hn:=Qn hn
  obtain ⟨f',F',rfl,wP,ZC⟩:=HY
  have Ej:F'=[]:=ZC.2
  subst Ej
  rw [List.append_nil] at nt
  obtain ⟨g,s1,s2,s3⟩:=NZ nf hA wP hn nt.nd nt.apart
  refine (hk s v).sound B o hm r w' a1 ⟨B.Z,f'++g,⟨f'++g,[],(List.append_nil _).symm,s2,rfl⟩,s3,fun b hb hz=>?_,fun b hz=>nt.tv b (nt.x9 b hz),fun b hb=>?_,fun _ h=>h,fun _ h=>.inl h,nt.lq⟩
  ·rcases List.mem_append.1 hb with hb | hb
   ·exact nt.apart b hb (nt.x9 b hz)
   ·exact hfz b (s1 b hb) (hG.x9 b hz)
  ·rcases List.mem_append.1 hb with hb | hb
   ·exact nt.low b hb
   ·exact KS.low b (List.mem_append_left _ (s1 b hb))
end
end Go.Dk
namespace Go.Dk
open Go Go.Li
section
variable {R:Type} {P:Program} {cx:Cx R} {B:Bs} {M:Type} {all l:LO} {rk:RK R M} {fr:Fr} {w:World} {Z:Nat→Prop} {F cur:LN} {Γ Γ1 Γ2 Γ3:QE}
theorem D.of {J:Jd R} (h:nq P cx J):D P cx J:=.inj (by rw [na]; exact h)
theorem SY {Δ : List av} (h : FO Δ) : ∀ {Fd : List Nat}, HL Z w Δ Fd → ∀ e ∈ Δ, fact Z w [] e := by
  induction h with
  | nil => intro Fd _ e he; cases he
  | rd _ ih =>
    intro Fd hl e he
    cases hl with
    | own h _ => exact h.elim
    | fact h k => rcases List.mem_cons.1 he with rfl | he
                  · exact h
                  · exact ih k e he
  | aw _ ih =>
    intro Fd hl e he
    cases hl with
    | own h _ => exact h.elim
    | fact h k => rcases List.mem_cons.1 he with rfl | he
                  · exact h
                  · exact ih k e he
theorem WM {α:Type} (S:ai α) {d:Nat} {t e n bt ty:TI} {m:Option M} [ht:Ag P t e n bt]
  (h:∀ v,D P cx (.o false all l rk (.own (aI e (jg n)) v [] :: .rd false (uC S) (.bool true) ([],[]) :: Γ) ((d,v) :: fr) m)):D P cx (.e false (.buildSlice t 0 #[]) (some d) ty all l rk Γ fr m):=by
 refine D.of ?_
 intro B o ho r w ha hs pos ag g
 obtain ⟨h1,i,z,h2,_⟩:=ht.h
 obtain ⟨v,w',f,hr,hC,hO⟩:=AY (E:=jg n) (r:=r) (w:=w) (d:=some d) (ty:=ty) (pos:=pos) (ag:=ag) (g:=none) h1 h2
 refine fx (WL.val rfl hr ((h v).sound B o ho _ w' (au ha) ?_))
 obtain ⟨Z,F,hS,hg⟩:=hs
 have hf:fact Z w [] (.rd false (uC S) (.bool true) ([],[])):=⟨[],⟨rfl,rfl,fun _ h=>absurd h List.not_mem_nil⟩,fun _ h=>absurd h List.not_mem_nil⟩
 exact St.put (f:=[]) (SA.fact hS hf) hg hC hO.1 hO.2.1 fun b hb=>.inr ((hO.2.2 b hb).resolve_left List.not_mem_nil)
theorem WN {α:Type} {S:ai α} {q:Bool} {d n e:Nat} {x:OO} {v:Value} {us:List (List Value)} {xs:List α} {t ty bt:TI} {m:Option M} [ht:Ag P t e n bt] (hx:bj fr x=some v) (h1:dh Γ (.own (aI e (jg n)) v us) Γ1) (hg:In (.rd false (uC S) (.bool true) (us,xs)) Γ)
  (h:D P cx (.o q all l rk Γ ((d,.int .i64 (xs.length:Int)) :: fr) m)):D P cx (.e q (.call ⟨.builtin .len,#[x],#[t]⟩) (some d) ty all l rk Γ fr m):=by
 refine D.of ?_
 intro B o ho r w ha hs pos ag g
 obtain ⟨q1,_⟩:=ht.h
 obtain ⟨Z,F,hS,hG⟩:=@_root_.id _ hs
 obtain ⟨f,F1,_,hO,_⟩:=h1.sound hS
 obtain ⟨k,hk,_⟩:=hg.rd hS []
 obtain ⟨base,cap,hv,_⟩:=hO
 obtain rfl:v = .slice base us.length cap:=by simpa using hv
 have hl:us.length=xs.length:=Ac hk.2.1
 exact ca (v:=.int .i64 (xs.length:Int)) (fun w' _=>by rw [← hl]; exact wN q1 (aY ha hx)) (h.sound B o ho _ w (au ha) hs)
theorem ixS {α V:Type} {S:ai α} {cl:α→V→List Value} {en:α→V→List av} {q:Bool} {d n e:Nat} {x y:OO} {v:Value} {us:List (List Value)} {xs:List α} {k:IntKind} {j:Int} {t ty bt:TI} {f:α→Option M} [ht:Ag P t e n bt] (hx:bj fr x=some v) (hy:bj fr y=some (.int k j))
  (h1:dh Γ (.own (aI e (jg n)) v us) Γ1) (hg:In (.rd false (uC S) (.bool true) (us,xs)) Γ) (hs:Gn S V cl en)
  (h:∀ z u,D P cx (.p [] (.rd false (BL us j) (.bool true) (cl z u) :: en z u) fr Γ fun fr Γ=>.o q all l rk Γ ((d,.pointer (some (cw v n j))) :: fr) (f z))):D P cx (.e q (.indexAddr t x y) (some d) ty all l rk Γ fr (idx xs j>>=f)):=by
 refine D.of ?_
 intro B o ho r w ha fh pos ag g
 replace hs:SO S V cl en:=by cases hs; assumption
 obtain ⟨z,hz,ho⟩:=bind_some ho
 replace hz:=r7 hz
 obtain ⟨q1,i,_,q2,_,_,q3,_⟩:=ht.h
 obtain ⟨Z,F,hS,hG⟩:=fh
 obtain ⟨f0,F1,_,hO,_⟩:=h1.sound hS
 obtain ⟨g0,hk,um⟩:=hg.rd hS []
 obtain ⟨c,g1,e1,e2,e3⟩:=Ea j.toNat hk.2.1 hz.2
 obtain ⟨u,rfl,tS⟩:=hs.op e2
 have hlen:us.length=xs.length:=Ac hk.2.1
 have bc:j.toNat < xs.length:=(List.getElem?_eq_some_iff.1 hz.2).1
 have hv:∃ a c,v = .slice (some a) us.length c:=by
  obtain ⟨base,cap,hv,hr⟩:=hO
  obtain rfl:v = .slice base us.length cap:=by simpa using hv
  rcases hr with ⟨_,_,rfl,_⟩ | ⟨b,cur,f',rfl,_⟩
  ·rw [← hlen] at bc; simp at bc
  ·exact ⟨_,_,rfl⟩
 obtain ⟨a,c',rfl⟩:=hv
 have de:HL Z w (.rd false (BL us j) (.bool true) (cl z u) :: en z u) []:=.fact ⟨[],⟨rfl,⟨hz.1,e1⟩,rfl⟩,fun _ h=>absurd h List.not_mem_nil⟩ (wi (tS Z fun b hb=>um b (e3 b hb)))
 obtain ⟨F',hp,gv⟩:=de.build hS
 refine ca (v:=.pointer (some (cw (.slice (some a) us.length c') n j))) (fun w' hC=>?_) ((h z u).sound B o ho _ w (au ha) ⟨Z,F',gv,hG.perm (by simpa using hp)⟩)
 rw [me q1 q2 (aY ha hx) (aY ha hy) hz.1 (by omega),q3]
 rfl
theorem WO {q:Bool} {d n off e:Nat} {x:OO} {v u:Value} {us:List (List Value)} {j:Int} {cs:LV} {ty:TI} {m:Option M} (h1:dh Γ (.own (aI e (jg n)) v us) Γ1) (hp:In (.rd false (BL us j) (.bool true) cs) Γ) (hc:cs[off]? = some u)
  (k:D P cx (.o q all l rk Γ ((d,u) :: fr) m)):D P cx (.la ((cw v n j).add off) none q ty x d all l rk Γ fr m):=by
 refine D.of ?_
 intro ht hx B o ho r w ha hs t pos ag g
 obtain ⟨Z,F,hS,_⟩:=@_root_.id _ hs
 obtain ⟨f,F1,_,hO,_⟩:=h1.sound hS
 obtain ⟨_,⟨_,⟨hj,hu⟩,_⟩,_⟩:=hp.rd hS []
 exact ca (Ld ht ((zq hO hj hu).2.2 off u hc) (aY ha hx)) (k.sound B o ho _ w (au ha) hs)
theorem WQ {q:Bool} {d n e:Nat} {x:OO} {v u:Value} {us:List (List Value)} {j:Int} {cs:LV} {ty:TI} {m:Option M} (h1:dh Γ (.own (aI e (jg n)) v us) Γ1) (hp:In (.rd false (BL us j) (.bool true) cs) Γ) (hc:cs[0]? = some u)
  (k:D P cx (.o q all l rk Γ ((d,u) :: fr) m)):D P cx (.la (cw v n j) none q ty x d all l rk Γ fr m):=by
 have e:(cw v n j).add 0=cw v n j:=rfl
 rw [← e]
 exact WO h1 hp hc k
theorem lsS {q:Bool} {d n e:Nat} {x:OO} {v:Value} {us:List (List Value)} {j:Int} {cs:LV} {ty:TI} {m:Option M} (h1:dh Γ (.own (aI e (jg n)) v us) Γ1) (hp:In (.rd false (BL us j) (.bool true) cs) Γ)
  (k:D P cx (.o q all l rk Γ ((d,.agg cs.toArray) :: fr) m)):D P cx (.la (cw v n j) (some n) q ty x d all l rk Γ fr m):=by
 refine D.of ?_
 intro ht hx B o ho r w ha hs t pos ag g
 obtain ⟨Z,F,hS,_⟩:=@_root_.id _ hs
 obtain ⟨f,F1,_,hO,_⟩:=h1.sound hS
 obtain ⟨_,⟨_,⟨hj,hu⟩,_⟩,_⟩:=hp.rd hS []
 obtain ⟨e1,_,e3⟩:=zq hO hj hu
 exact ca (Lg ht (fun i u hi=>e3 i u hi) (aY ha hx) e1) (k.sound B o ho _ w (au ha) hs)
theorem WR {α V:Type} {S:ai α} {cl:α→V→List Value} {en:α→V→List av} (y:α) {u:V} {d b n e bt:Nat} {s x:OO} {sv:Value} {us:List (List Value)} {xs:List α} {cs:LV} {t et ty:TI} {f:Unit→Option M} [ht:Ag P t e n bt]
  (hs:bj fr s=some sv) (hx:bj fr x=some (.slice (some ⟨b,0,none⟩) 1 1)) (h0:dh Γ (.row b cs et) Γ1) (h1:dh Γ1 (.own (aI e (jg n)) sv us) Γ2) (hg:In (.rd false (uC S) (.bool true) (us,xs)) Γ2) (pg:Gn S V cl en) (_hv:vh V u) (hc:cs=cl y u) (ho:we Γ cs) (hn:cs.length=n) (WS:FO (en y u)) (hf:EF Γ2 (en y u) Γ3)
  (h:∀ v,D P cx (.o false all l rk (.own (aI e (jg n)) v (us++[cs]) :: .rd false (uC S) (.bool true) (us++[cs],xs++[y]) :: Γ3) ((d,v) :: fr) (f ()))):D P cx (.e false (.call ⟨.builtin .append,#[s,x],#[t,t]⟩) (some d) ty all l rk Γ fr (fits bt (xs.length+1)>>=f)):=by
 refine D.of ?_
 intro B o cb r w ha fh pos ag g
 have FH:SO S V cl en:=by cases pg; assumption
 obtain ⟨_,hu,cb⟩:=bind_some cb
 obtain ⟨b1,b2⟩:=rq hu
 obtain ⟨q1,i,z,q2,q3,q4,q5,q6,_⟩:=ht.h
 obtain ⟨Z,F,hS,hG⟩:=fh
 have Hp:=ho.one hS
 obtain ⟨n0,F0,vp,⟨rfl,bg⟩,xz⟩:=h0.sound hS
 obtain ⟨k,F1,hp,hO,fl⟩:=h1.sound xz
 obtain ⟨Fd,F2,Zn,WT,gv,o9⟩:=hf.sound fl
 obtain ⟨g0,hk,um⟩:=hg.rd fl []
 have hlen:us.length=xs.length:=Ac hk.2.1
 have td:((k++F1)++[b]).Perm F:=(List.perm_append_comm.trans (hp.append_left [b])).trans vp
 have nt:Gd B Z (k++F1) w:=Gd.left (F':=[b]) (hG.perm td)
 have u2:((k++F2)++(Fd++Zn)).Perm (k++F1):=by
  rw [List.append_assoc]
  refine List.Perm.append_left k (.trans ?_ o9)
  rw [← List.append_assoc]
  exact (List.perm_append_comm (l₁:=F2) (l₂:=Fd)).append_right Zn
 have qi:Gd B Z ((k++F2)++(Fd++Zn)) w:=nt.perm u2
 have bc:∀ b∈Fd++Zn,b < w.heap.size:=fun b hb=>by
  have h3:b∈k++F1:=u2.mem_iff.1 (List.mem_append_right _ hb)
  rcases List.mem_append.1 h3 with h3 | h3
  ·exact ai.lt _ hO b h3
  ·exact fl.lt b h3
 have Il:Gd B (sk Z (Fd++Zn)) (k++F2) w:=qi.freeze bc
 have Er:∀ b,sk Z Zn b→sk Z (Fd++Zn) b:=fun b hb=>hb.imp id fun h=>List.mem_append_right _ h
 obtain ⟨g1,zg,Es⟩:=FH.cl (x:=y) (v:=u) (Z:=sk Z (Fd++Zn)) (w:=w) (SY WS (WT.mono Er))
 have hdk:tx [] k:=fun _ h=>absurd h List.not_mem_nil
 have hE:dv (jg n) w.heap cs [cs] []:=⟨cs,[],[],[],by simp,by simp,⟨rfl,hn,Hp,rfl⟩,rfl,rfl⟩
 obtain ⟨v,w',f',kz,hC,ed,dk,du⟩:=rz (E:=jg n) (d:=some d) (ty:=ty) (pos:=pos) (ag:=ag) (g:=none) (k:=[]) (ys:=[cs]) (news:=cs) q1 q2 q3 (by rw [q5]; rfl) (by rw [q4]; rfl) (aY ha hs) hO (List.nodup_append.1 nt.nd).1 (aY ha hx) (fun i u hi=>bg.at i u hi) hE hdk (by simp) (by rw [q6,hlen]; exact b1) (by rw [hlen]; exact b2)
 refine fx (WL.val rfl kz ((h v).sound B o cb _ w' (au ha) ?_))
 have WU:fact (sk Z (Fd++Zn)) w [] (.rd false (uC S) (.bool true) (us++[cs],xs++[y])):=by
  rw [hc]
  refine ⟨g0++g1,⟨rfl,Vq zg hk.2.1,fun b hb=>?_⟩,fun b hb=>?_⟩
  ·rcases List.mem_append.1 hb with hb | hb
   ·exact hk.2.2 b hb
   ·exact S.lt zg b hb
  ·rcases List.mem_append.1 hb with hb | hb
   ·exact .inl (um b hb)
   ·exact Es b hb
 exact St.put (SA.fact (gv.mono Er fun _ h=>h) WU) Il hC ed (du List.nodup_nil) fun b hb=>(dk b hb).imp id fun h=>h.resolve_left List.not_mem_nil
theorem Ud {n:Nat} {h:Array Obj}:∀ {us:List (List Value)} {cs:LV} {f:LN},dv (jg n) h cs us f→∀ c∈us,c.length=n∧∀ v∈c,v.oneCell'=true:=by
 intro us
 induction us with
 | nil=>intro cs f _ c hc; cases hc
 | cons a us ih=>
  rintro cs f ⟨c',iz,f1,f2,rfl,rfl,⟨rfl,h1,h2,rfl⟩,h3⟩ c hc
  rcases List.mem_cons.1 hc with rfl | hc
  ·exact ⟨h1,h2⟩
  ·exact ih h3 c hc
theorem Ue {n:Nat} {h:Array Obj}:∀ {us:List (List Value)},(∀ c∈us,c.length=n∧∀ v∈c,v.oneCell'=true)→dv (jg n) h us.flatten us []:=by
 intro us
 induction us with
 | nil=>intro _; exact ⟨rfl,rfl⟩
 | cons a us ih=>
  intro hc
  have h1:=hc a (by simp)
  exact ⟨a,us.flatten,[],[],by simp,rfl,⟨rfl,h1.1,h1.2,rfl⟩,ih fun c hm=>hc c (by simp [hm])⟩
theorem J4 {n:Nat} {c:LV}:∀ {us:List (List Value)} {j:Nat},(∀ x∈us,x.length=n)→j < us.length→(us.set j c).flatten=us.flatten.take (j * n)++c++us.flatten.drop (j * n+n)∧j * n+n≤us.flatten.length:=by
 intro us
 induction us with
 | nil=>intro j _ hj; simp at hj
 | cons a us ih=>
  intro j hl hj
  have ha:a.length=n:=hl a (by simp)
  cases j with
  | zero=>refine ⟨?_,by simp [ha]⟩; simp [← ha]
  | succ j=>
   obtain ⟨h1,h2⟩:=ih (j:=j) (fun x hx=>hl x (by simp [hx])) (by simpa using hj)
   have e:(j+1) * n=n+j * n:=by rw [Nat.add_mul,Nat.one_mul,Nat.add_comm]
   refine ⟨?_,by rw [e,List.flatten_cons,List.length_append,ha]; omega⟩
   rw [List.set_cons_succ,List.flatten_cons,List.flatten_cons,h1,e,List.take_append,List.drop_append,ha]
   have e1:List.take (n+j * n) a=a:=List.take_of_length_le (by omega)
   have e2:List.drop (n+j * n+n) a=[]:=List.drop_eq_nil_of_le (by omega)
   rw [e1,e2,show n+j * n - n=j * n by omega,show n+j * n+n - n=j * n+n by omega]
   simp
theorem stS {α V:Type} {S:ai α} {cl:α→V→List Value} {en:α→V→List av} (y:α) {u:V} {n e:Nat} {x0 y0:OO} {v:Value} {j:Int} {us:List (List Value)} {xs:List α} {cs c0:LV} {t ty:TI} {m:Option M}
  (h1:dh Γ (.own (aI e (jg n)) v us) Γ1) (hp:In (.rd false (BL us j) (.bool true) c0) Γ) (hg:In (.rd false (uC S) (.bool true) (us,xs)) Γ1) (pg:Gn S V cl en) (_hv:vh V u) (hc:cs=cl y u) (ho:we Γ cs) (hn:cs.length=n) (WS:FO (en y u)) (hf:EF Γ1 (en y u) Γ2)
  (h:D P cx (.o false all l rk (.own (aI e (jg n)) v (us.set j.toNat cs) :: .rd false (uC S) (.bool true) (us.set j.toNat cs,xs.set j.toNat y) :: Γ2) fr m)):D P cx (.st (cw v n j) (.agg cs.toArray) n t x0 y0 ty all l rk Γ fr m):=by
 refine D.of ?_
 intro hT hx hy B o cb r w ha fh pos ag g
 have FH:SO S V cl en:=by cases pg; assumption
 obtain ⟨i,q1,q2⟩:=hT
 obtain ⟨Z,F,hS,hG⟩:=fh
 have Hp:=ho.one hS
 obtain ⟨_,⟨_,⟨hj,hu⟩,_⟩,_⟩:=hp.rd hS []
 obtain ⟨k,F1,tJ,hO,fl⟩:=h1.sound hS
 obtain ⟨Fd,F2,Zn,WT,gv,o9⟩:=hf.sound fl
 obtain ⟨g0,hk,um⟩:=hg.rd fl []
 have nt:Gd B Z (k++F1) w:=hG.perm tJ
 have u2:((k++F2)++(Fd++Zn)).Perm (k++F1):=by
  rw [List.append_assoc]
  refine List.Perm.append_left k (.trans ?_ o9)
  rw [← List.append_assoc]
  exact (List.perm_append_comm (l₁:=F2) (l₂:=Fd)).append_right Zn
 have qi:Gd B Z ((k++F2)++(Fd++Zn)) w:=nt.perm u2
 have bc:∀ b∈Fd++Zn,b < w.heap.size:=fun b hb=>by
  have h3:b∈k++F1:=u2.mem_iff.1 (List.mem_append_right _ hb)
  rcases List.mem_append.1 h3 with h3 | h3
  ·exact ai.lt _ hO b h3
  ·exact fl.lt b h3
 have Il:Gd B (sk Z (Fd++Zn)) (k++F2) w:=qi.freeze bc
 have Er:∀ b,sk Z Zn b→sk Z (Fd++Zn) b:=fun b hb=>hb.imp id fun h=>List.mem_append_right _ h
 obtain ⟨g1,zg,Es⟩:=FH.cl (x:=y) (v:=u) (Z:=sk Z (Fd++Zn)) (w:=w) (SY WS (WT.mono Er))
 obtain ⟨g2,HB,hgb⟩:=Nf (c:=cs) (by rw [hc]; exact zg) j.toNat hk.2.1
 have WU:fact (sk Z (Fd++Zn)) w [] (.rd false (uC S) (.bool true) (us.set j.toNat cs,xs.set j.toNat y)):=by
  refine ⟨g2,⟨rfl,HB,fun b hb=>?_⟩,fun b hb=>?_⟩
  ·exact (hgb b hb).elim (hk.2.2 b) (S.lt zg b)
  ·exact (hgb b hb).elim (fun h=>.inl (um b h)) (Es b)
 have Ci:j.toNat < us.length:=(List.getElem?_eq_some_iff.1 hu).1
 obtain ⟨base,cap,ma,hr⟩:=hO
 obtain rfl:v = .slice base us.length cap:=by simpa using ma
 rcases hr with ⟨_,_,rfl,_⟩ | ⟨b,cur,f',rfl,h2,rfl,h4,h5,h6,h3⟩
 ·simp at Ci
 ·obtain ⟨hcf,uG⟩:=Hz h3
  subst uG
  have de:=Ud h3
  obtain ⟨e1,e2⟩:=J4 (c:=cs) (fun x hx=>(de x hx).1) Ci
  have bg:Row w b cur.toList e:=by unfold Row; simpa using h2
  have WV:cur.toList=us.flatten++cur.toList.drop (us.length * n):=by
   rw [← hcf]; exact (List.take_append_drop _ _).symm
  have x8:cw (.slice (some ⟨b,0,none⟩) us.length cap) n j = ⟨b,j.toNat * n,none⟩:=by
   simp only [cw,jr,Nat.zero_add]
  rw [x8] at hx
  have hle:j.toNat * n+cs.length≤cur.toList.length:=by
   rw [hn,WV,List.length_append]; omega
  have kz:=wD (P:=P) (d:=none) (ty:=ty) (pos:=pos) (ag:=ag) (gg:=none) q1 (by rw [hn,q2]) bg hle (aY ha hx) (y:=y0) (by rw [aY ha hy]; rfl) Hp
  refine fx (WL.skip rfl kz (h.sound B o cb _ _ ha ?_))
  have A7:cur.toList.take (j.toNat * n)++cs++cur.toList.drop (j.toNat * n+cs.length)=(us.set j.toNat cs).flatten++cur.toList.drop (us.length * n):=by
   rw [hn,e1]
   conv=>lhs; rw [WV]
   rw [List.take_append_of_le_length (by omega),List.drop_append_of_le_length (by omega)]
   simp
  have tc:=setRow_heap w b cur (cur.toList.take (j.toNat * n)++cs++cur.toList.drop (j.toNat * n+cs.length)).toArray e _ h2
  refine St.put (f:=[b]) (f':=[b]) (SA.fact (gv.mono Er fun _ h=>h) WU) Il ⟨rfl,rfl,rfl,Nat.le_refl _,by simp,fun j' _ iH=>setRow_other w b j' _ fun h=>iH (by simp [h])⟩ ?_ (by simp) (fun b hb=>.inl hb)
  refine ⟨_,cap,by rw [List.length_set],.inr ⟨b,_,[],rfl,tc,rfl,by rw [List.length_set]; exact h4,h5,?_,?_⟩⟩
  ·rw [← h6]
   simp only [List.size_toArray,A7]
   have e3:(us.set j.toNat cs).flatten.length=us.flatten.length:=by
    rw [e1]; simp only [List.length_append,List.length_take,List.length_drop,hn]; omega
   rw [List.length_append,e3,← List.length_append,← WV,Array.length_toList]
  ·rw [List.toList_toArray,A7,List.length_set]
   have SZ:(us.set j.toNat cs).flatten.length=us.length * n:=by
    have e3:(us.set j.toNat cs).flatten.length=us.flatten.length:=by
     rw [e1]; simp only [List.length_append,List.length_take,List.length_drop,hn]; omega
    rw [e3]
    have:=ks h3
    rw [hcf] at this
    exact this
   show dv (jg n) _ (List.take (us.length * n) _) _ _
   rw [List.take_append_of_le_length (by omega),List.take_of_length_le (by omega)]
   refine Ue fun c hm=>?_
   rcases List.mem_or_eq_of_mem_set hm with hm | rfl
   ·exact de c hm
   ·exact ⟨hn,Hp⟩
theorem wu {α:Type} {E:ai α} {d n:Nat} {t e ty:TI} {ps:List (Nat×Operand)} {us:LV} {xs:List α} {m:Option M} [hz:Kx P t e] (hl:xj Γ fr 0 ps us) (hn:us.length=n) (hb:(Nat.ble 1 n && Nat.ble n 16777216)=true) (hx:HF Γ E us xs Γ1) (hE:E.size=1)
  (h:∀ v,D P cx (.o false all l rk (.own (aI e E) v xs :: Γ1) ((d,v) :: fr) m)):D P cx (.e false (.buildSlice t n ps.toArray) (some d) ty all l rk Γ fr m):=by
 refine D.of ?_
 intro B o ho r w ha hs pos ag g
 obtain ⟨Z,F,hS,hg⟩:=hs
 refine fx (WL.val rfl (hl.op ha hS ⟨hz.h⟩ hn hb) ((h _).sound B o ho _ _ (au ha) ?_))
 obtain ⟨e1,f,F2,o9,hr,gv⟩:=hx.sound hS
 have HJ:n≤16777216:=by
  rw [Bool.and_eq_true] at hb
  exact Nat.le_of_ble_eq_true hb.2
 have hC:an [] w (w.alloc (.cells us.toArray e)):=an.alloc _ _ _
 have kp:Gd B Z (f++F2) w:=hg.perm o9
 have bc:∀ b∈f,b < w.heap.size:=nh hr
 have A7:=heap_alloc_new w (.cells us.toArray e)
 have gx:dv E (w.alloc (.cells us.toArray e)).heap us xs f:=j9 hr fun b hb=>hC.block b (bc b hb) (fun h=>absurd h List.not_mem_nil)
 refine St.put (f:=f) (f':=w.heap.size :: f) gv kp (an.mono hC fun _ h=>absurd h List.not_mem_nil) ⟨_,n,by rw [← hn,e1],.inr ⟨w.heap.size,us.toArray,f,rfl,A7,rfl,by rw [← hn,e1]; exact Nat.le_refl _,Nat.le_trans HJ (by decide),by rw [hE,Nat.mul_one]; simp [hn],?_⟩⟩ ?_ ?_
 ·rw [hE,Nat.mul_one,List.toList_toArray,← e1,List.take_length]
  exact gx
 ·exact List.nodup_cons.2 ⟨fun hm=>Nat.lt_irrefl _ (bc _ hm),(List.nodup_append.1 kp.nd).1⟩
 ·intro b hb
  rcases List.mem_cons.1 hb with rfl | hb
  ·exact .inr (Nat.le_refl _)
  ·exact .inl hb
theorem apR {α:Type} {d b:Nat} {s x:OO} {v u yv:Value} {j:Int} {y:α} {z:List α} {xs:List (List α)} {t e e' et ty:TI} {E E':ai α} {z0:α} {bt:Nat} {o1 o2:Bool} {Γx:QE} {f:Unit→Option M} [hT:uq P t α e E z0 bt] (hs:bj fr s=some u) (hx:bj fr x=some (.slice (some ⟨b,0,none⟩) 1 1)) (hl:Loc Γ u (.row v j)) (h0:dh Γ (.row b [yv] et) Γ1) (hz:si Γ u o1 o2 E' z uX Γx) (h1:dh Γ1 (.own (aI e' (aI e E)) v xs) Γ2) (hr:RT (aI e E) (bG E')) (hy:Db Γ2 E yv y Γ3)
  (h:∀ v',D P cx (.o false all l rk (.own (aI e E) v' (z++[y]) :: .own (vr e' (aI e E) j.toNat) v xs :: Γ3) ((d,v') :: fr) (f ()))):D P cx (.e false (.call ⟨.builtin .append,#[s,x],#[t,t]⟩) (some d) ty all l rk Γ fr (fits bt (z.length+1)>>=f)):=by
 refine D.of ?_
 intro B o cb r w ha fh pos ag g
 obtain ⟨_,hu,cb⟩:=bind_some cb
 obtain ⟨b1,b2⟩:=rq hu
 obtain ⟨q1,q2,i,zz,q3,q4,q5,q6,q7,_⟩:=hT.h
 obtain ⟨Z,F,hS,hG⟩:=fh
 obtain ⟨j0,j1,ke⟩:=Loc.row hl rfl hS
 obtain ⟨dx,_,⟨⟨gz,um,_⟩,_⟩,_⟩:=hz.sound hS
 obtain ⟨n0,F0,vp,⟨rfl,bg⟩,xz⟩:=h0.sound hS
 obtain ⟨fm,F1,tJ,hO,fl⟩:=h1.sound xz
 obtain ⟨ky,F2,o9,KL,gv⟩:=hy.sound fl
 rw [uN hO] at j1
 obtain ⟨k,gm,a1,a2,a3⟩:=HZ rfl hO (List.getElem?_eq_getElem j1) ke
 have Wj:xs[j.toNat]=z:=hr.vX (hr.le.le a1) um
 rw [Wj] at a1
 have td:((k++ky)++(gm++F2)).Perm (fm++F1):=by
  have e1:((k++gm)++(ky++F2)).Perm (fm++F1):=(a2.append_right _).trans (o9.append_left fm)
  refine .trans ?_ e1
  rw [List.append_assoc,List.append_assoc]
  refine List.Perm.append_left k ?_
  rw [← List.append_assoc,← List.append_assoc]
  exact List.perm_append_comm.append_right F2
 have nt:Gd B Z ((k++ky)++(gm++F2)) w:=Gd.left (F':=[b]) (hG.perm (((td.append_right [b]).trans (List.perm_append_comm.trans (tJ.append_left [b]))).trans vp))
 have du:=(List.nodup_append.1 nt.nd).1
 have yg:=List.nodup_append.1 du
 obtain ⟨v',w',f',kz,hC,ed,dk,Ii⟩:=rz (E:=E) (d:=some d) (ty:=ty) (pos:=pos) (ag:=ag) (g:=none) (k:=ky) (ys:=[y]) (news:=[yv]) q1 q3 q4 (by rw [q5,q2]) (by rw [cells_one q6,q2]; rfl) (aY ha hs) a1 yg.1 (aY ha hx) (fun i u hi=>bg.at i u hi) (tE KL) (fun b hb hm=>yg.2.2 b hm b hb rfl) (by simp) (by rw [q7]; exact b1) b2
 refine fx (WL.val rfl kz ((h v').sound B o cb _ w' (au ha) ?_))
 have hSh:SA Z w (.own (vr e' (aI e E) j.toNat) v xs :: Γ3) [] (gm++F2):=SA.cons gv (e:=.own (vr e' (aI e E) j.toNat) v xs) a3
 refine St.put hSh nt (hC.mono fun b hb=>List.mem_append_left _ hb) ed (Ii yg.2.1) fun b hb=>?_
 rcases dk b hb with h | h | h
 ·exact .inl (List.mem_append_left _ h)
 ·exact .inl (List.mem_append_right _ h)
 ·exact .inr h
theorem ixH {α:Type} {q:Bool} {d j0:Nat} {x y:OO} {v:Value} {k:IntKind} {j:Int} {xs:List α} {t e ty:TI} {E:ai α} {f:α→Option M} [ht:yd P t] (hx:bj fr x=some v) (hy:bj fr y=some (.int k j)) (h1:dh Γ (.own (vr e E j0) v xs) Γ1)
  (h:∀ z,D P cx (.o q all l rk Γ ((d,.pointer (some (cw v 1 j))) :: fr) (f z))):D P cx (.e q (.indexAddr t x y) (some d) ty all l rk Γ fr (idx xs j>>=f)):=by
 refine D.of ?_
 intro B o ho r w ha hs pos ag g
 obtain ⟨z,hz,ho⟩:=bind_some ho
 replace hz:=r7 hz
 obtain ⟨e',i,q1,q2,q3⟩:=ht.h
 obtain ⟨Z,F,hS,_⟩:=@_root_.id _ hs
 obtain ⟨f0,F1,_,⟨b,cap,cur,f1,f2,p,c0,qq,hv,_⟩,_⟩:=h1.sound hS
 obtain rfl:v = .slice (some ⟨b,0,none⟩) xs.length cap:=by simpa using hv
 have bc:j.toNat < xs.length:=(List.getElem?_eq_some_iff.1 hz.2).1
 have Iz:=hz.1
 refine ca (v:=.pointer (some (cw (.slice (some ⟨b,0,none⟩) xs.length cap) 1 j))) (fun w' hC=>?_) ((h z).sound B o ho _ w (au ha) hs)
 rw [me q1 q2 (aY ha hx) (aY ha hy) hz.1 (by omega),q3]
 rfl
theorem stR {α:Type} {x0 y0:OO} {v u:Value} {j:Int} {z:α} {xs:List α} {t e ty:TI} {E:ai α} {m:Option M} (h1:dh Γ (.own E u z) Γ1) (h2:dh Γ1 (.own (vr e E j.toNat) v xs) Γ2)
  (h:D P cx (.o false all l rk (.own (aI e E) v (xs.set j.toNat z) :: Γ2) fr m)):D P cx (.st (cw v 1 j) u 1 t x0 y0 ty all l rk Γ fr m):=by
 refine D.of ?_
 intro hT hx hy B o cb r w ha fh pos ag g
 obtain ⟨i,q1,q2⟩:=hT
 obtain ⟨Z,F,hS,hG⟩:=fh
 obtain ⟨k,F1,tJ,hK,fl⟩:=h1.sound hS
 obtain ⟨gm,F2,o9,hM,gv⟩:=h2.sound fl
 have u2:((gm++k)++F2).Perm F:=by
  refine .trans ?_ tJ
  refine .trans ?_ (o9.append_left k)
  rw [← List.append_assoc k gm F2]
  exact List.perm_append_comm.append_right F2
 have nt:Gd B Z ((gm++k)++F2) w:=hG.perm u2
 have du:=(List.nodup_append.1 nt.nd).1
 obtain ⟨b,cap,cur,f1,f2,p,c0,qq,hv,g1,rfl,⟨g2,g3,g4,g5⟩,g6,⟨g7,g8⟩,g9,g10⟩:=hM
 obtain rfl:v = .slice (some ⟨b,0,none⟩) xs.length cap:=by simpa using hv
 have x8:cw (.slice (some ⟨b,0,none⟩) xs.length cap) 1 j = ⟨b,j.toNat,none⟩:=by
  simp only [cw,jr,Nat.zero_add,Nat.mul_one]
 rw [x8] at hx
 have bg:Row w b cur.toList e:=by unfold Row; simpa using g1
 have Vl:∀ i∈(f1++f2)++k,i≠b:=by
  intro i hi he
  subst he
  have e1:((i :: (f1++f2))++k)=i :: ((f1++f2)++k):=rfl
  rw [e1] at du
  exact (List.nodup_cons.1 du).1 hi
 refine fx (WL.HW q1 q2 bg (by rw [Array.length_toList,g4]; omega) (aY ha hx) (aY ha hy) (E.one hK u (by simp)) fun w' hC vq=>h.sound B o cb _ w' ha ?_)
 have S0:∀ i∈(f1++f2)++k,i < w.heap.size→w'.heap[i]? = w.heap[i]?:=fun i hi hl=>hC.block i hl fun hm=>Vl i hi (by simpa using hm)
 have hK':E.rep w'.heap [u] z k:=E.congr hK fun i hi=>S0 i (List.mem_append_right _ hi) (E.lt hK i hi)
 have Ng:=g10 w'.heap (fun i hi=>S0 i (List.mem_append_left _ hi) (g9 i hi)) u z k hK'
 refine St.put (f:=(b :: (f1++f2))++k) (f':=b :: (f1++k++f2)) gv nt (hC.mono fun i hi=>by rw [List.mem_singleton.1 hi]; simp) ⟨_,cap,by rw [List.length_set],.inr ⟨b,_,f1++k++f2,rfl,vq,rfl,by rw [List.length_set]; exact g2,g3,?_,?_⟩⟩ ?_ ?_
 ·rw [g5]; simp [g4]
 ·have tc:((cur.toList.set j.toNat u).take xs.length)=p++[u]++qq:=by
   rw [List.take_set,g6,← g7]
   simp
  rw [List.length_set,g5,Nat.mul_one]
  simpa [tc] using Ng
 ·have Ih:(b :: (f1++k++f2)).Perm ((b :: (f1++f2))++k):=by
   rw [List.cons_append]
   refine List.Perm.cons b ?_
   rw [List.append_assoc,List.append_assoc]
   exact List.Perm.append_left f1 List.perm_append_comm
  exact Ih.nodup_iff.2 du
 ·intro i hi
  refine .inl ?_
  rcases List.mem_cons.1 hi with rfl | hi
  ·simp
  ·rcases List.mem_append.1 hi with hi | hi
   ·rcases List.mem_append.1 hi with hi | hi <;> simp [hi]
   ·simp [hi]
theorem xJ {S S1 V W:Type} (k:Nat) (Δ:S1→V→W→List av) (φ:S1→V→W→Fr) (v0:V) (w0:W) (f2:Fr) {gq:List KI} {kb:Kb R S} {c:Code} {s0:S1} {body:S1→Option (Out S1 R)} {f:S1→Option (Out S R)}
  (ha:sg fr (φ s0 v0 w0)) (hf:sg fr f2) (h0:EO Γ (Δ s0 v0 w0) Γ1) (hn:OW Γ (Δ s0 v0 w0)) (hs:jz Γ1 Γ2)
  (hb:∀ s v w,D P cx (.p (φ s v w) (Δ s v w) f2 Γ2 fun fr Γ=>.c ⟨[],.loop (V×W) k (fun s v=>Δ s v.1 v.2) (fun s v=>φ s v.1 v.2) Γ2 f2⟩ c Γ fr (body s)))
  (hk:∀ s v w,D P cx (.p (φ s v w) (Δ s v w) f2 Γ2 fun fr Γ=>.mn ⟨gq,kb⟩ Γ fr (f s))):Bx (nq P cx (.bk true k ⟨gq,kb⟩ (.loop c) Γ fr (ae (ab k (Li.af body s0)) f))):=
 loop k (fun s v=>Δ s v.1 v.2) (fun s v=>φ s v.1 v.2) (v0,w0) f2 ha hf h0 hn hs (fun s v=>hb s v.1 v.2) (fun s v=>hk s v.1 v.2)
def IB {α:Type} (v:Value) (_:List α):Prop:=∃ a n c,v = .slice a n c∧n≤c
theorem Le.cap {α:Type} {T E:ai α} (hl:Le T E) (e:TI):Le (aI e T) (uW IB (bG E)):=by
 refine ⟨rfl,fun {h cs x f} hr=>⟨?_,(Le.own hl e).le hr⟩⟩
 obtain ⟨base,cap,rfl,hr⟩:=hr
 refine ⟨_,rfl,_,_,_,rfl,?_⟩
 rcases hr with ⟨_,_,rfl,_⟩ | ⟨_,_,_,_,_,_,h,_⟩
 ·exact Nat.zero_le _
 ·exact h
theorem Uf {α:Type} {T E:ai α} {e e2:TI} {v:Value} {xs:List (List α)} {f:LN} {h:Array Obj} (hl:Le T E) (hO:(aI e (aI e2 T)).rep h [v] xs f) :
  ∃ fo fz us,(fo++fz).Perm f∧(aI e tG).rep h [v] us fo∧dv (uW IB (bG E)) h us xs fz:=by
 obtain ⟨base,cap,hv,hr⟩:=hO
 rcases hr with ⟨rfl,rfl,rfl,rfl⟩ | ⟨b,cur,f',rfl,h2,rfl,h4,h5,h6,h3⟩
 ·exact ⟨[],[],[],.refl _,⟨none,0,by simpa using hv,.inl ⟨rfl,rfl,rfl,rfl⟩⟩,rfl,rfl⟩
 ·have h7:=ks h3
  have h8:(aI e2 T).size=1:=rfl
  rw [h8,Nat.mul_one] at h6 h3 h7
  try rw [Nat.mul_one] at h7
  refine ⟨[b],f',cur.toList.take xs.length,.refl _,⟨_,cap,by rw [h7]; exact hv,.inr ⟨b,cur,[],rfl,h2,rfl,by rw [h7]; exact h4,h5,by rw [h6]; exact (Nat.mul_one _).symm,?_⟩⟩,wc (Le.cap hl e2) h3⟩
  have h9:tG.size=1:=rfl
  rw [h9,Nat.mul_one,h7]
  exact Dm (DP h3)
theorem St.frz {α:Type} {T E:ai α} {e e2:TI} {v:Value} {xs:List (List α)} (hs:St B Γ w) (h1:EO Γ [.own (aI e (aI e2 T)) v xs] Γ1) (hr:RT T E):St B (.om e (uW IB (bG E)) v xs :: Γ1) w:=by
 obtain ⟨Z,F,hS,hG⟩:=hs
 obtain ⟨_,F1,hH,fl,hp⟩:=h1.sound hS
 obtain ⟨f,hO,hp⟩ : ∃ f,(aI e (aI e2 T)).rep w.heap [v] xs f∧(f++F1).Perm F:=by
  cases hH with
  | own h k=>cases k; exact ⟨_,h,by simpa using hp⟩
 obtain ⟨fo,fz,us,hf,ho,hl⟩:=Uf hr.le hO
 have u2:((fo++F1)++fz).Perm F:=by
  refine .trans ?_ hp
  refine .trans ?_ (hf.append_right F1)
  rw [List.append_assoc,List.append_assoc]
  exact List.Perm.append_left fo List.perm_append_comm
 have qi:=Gd.freeze (hG.perm u2) fun b hb=>hS.lt b (u2.mem_iff.1 (List.mem_append_right _ hb))
 exact ⟨sk Z fz,fo++F1,SA.cons (fl.mono (fun _ h=>.inl h) fun _ h=>h) ⟨us,fz,ho,hl,fun b hb=>.inr hb,rfl⟩,qi⟩
theorem ZD {S:Type} {id:Nat} (k:Nat) {K:dj R S} {l ops tl0:LO} {α:Type} {T E:ai α} {e e2:TI} {v:Value} {xs:List (List α)} {m:Option (Out S R)} (hB:(P.follows .mixedOrders && df cx.n l && ((l.take k).all fun o=>yh o.op) && Region.lexTailB .any l.toArray k)=true) (ho:ops=l.take k) (ht:tl0=l.drop k)
  (h1:EO Γ [.own (aI e (aI e2 T)) v xs] Γ1) (hr:RT T E) (h:D P cx (.o true l ops (.h l tl0 K) (.om e (uW IB (bG E)) v xs :: Γ1) fr m)):Bx (nq P cx (.dr id l K Γ fr m)):=by
 have h2:=tail (id:=id) k hB ho ht h
 rw [na] at h2 ⊢
 exact fun B o cb r w ha hs=>h2 B o cb r w ha (hs.frz h1 hr)
theorem N1 {α:Type} {E:ai α} {h:Array Obj}:∀ {xs:List α} {cs:LV} {f:LN} (n:Nat),dv E h cs xs f→∃ f3,dv E h (cs.drop (n * E.size)) (xs.drop n) f3∧∀ b∈f3,b∈f:=by
 intro xs
 induction xs with
 | nil=>rintro cs f n ⟨rfl,rfl⟩; exact ⟨[],by simpa using ⟨rfl,rfl⟩,fun _ h=>h⟩
 | cons x xs ih=>
  rintro cs f n ⟨c,ds,f1,f2,rfl,rfl,h1,h2⟩
  cases n with
  | zero=>exact ⟨f1++f2,by simpa using ⟨c,ds,f1,f2,rfl,rfl,h1,h2⟩,fun _ h=>h⟩
  | succ n=>
   obtain ⟨f3,h3,h4⟩:=ih n h2
   refine ⟨f3,?_,fun b hb=>List.mem_append_right _ (h4 b hb)⟩
   have e:(n+1) * E.size=c.length+n * E.size:=by rw [E.len h1,Nat.add_mul,Nat.one_mul,Nat.add_comm]
   rw [e,List.drop_append,List.drop_of_length_le (by omega),List.nil_append,List.drop_succ_cons]
   simpa using h3
theorem slT {α:Type} {q:Bool} {d:Nat} {x lo:OO} {v:Value} {k:IntKind} {j:Int} {E:ai α} {xs:List α} {t ty:TI} {f:List α→Option M} [ht:yd P t] (hx:bj fr x=some v) (hy:bj fr lo=some (.int k j)) (hr:In (.rd false (uW IB (bG E)) v xs) Γ) (hE:E.size=1)
  (h:∀ v' ys,D P cx (.o q all l rk (.rd false (bG E) v' ys :: Γ) ((d,v') :: fr) (f ys))):D P cx (.e q (.slice t x (some lo) none none) (some d) ty all l rk Γ fr (tl xs j>>=f)):=by
 refine D.of ?_
 intro B o ho r w ha hs pos ag g
 obtain ⟨ys,hys,ho⟩:=bind_some ho
 obtain ⟨h0,h1,rfl⟩:=Ug hys
 obtain ⟨e,i,q1,q2,q3⟩:=ht.h
 obtain ⟨Z,F,hS,hG⟩:=hs
 obtain ⟨g0,⟨⟨v0,hv0,a0,n0,c0,WW,hc⟩,base,cap,hv,gx⟩,um⟩:=hr.rd hS []
 obtain rfl:v = .slice base xs.length cap:=by simpa using hv
 obtain rfl:Value.slice base xs.length cap=v0:=by simpa using hv0
 obtain ⟨rfl,rfl,rfl⟩ : base=a0∧xs.length=n0∧cap=c0:=by simpa using WW
 have hlen:(xs.drop j.toNat).length=xs.length - j.toNat:=List.length_drop
 have hf:fact Z w [] (.rd false (bG E) (sliced base j.toNat xs.length cap 1) (xs.drop j.toNat)):=by
  by_cases hj:j.toNat=xs.length
  ·refine ⟨[],⟨_,cap - j.toNat,by unfold sliced; rw [hlen],.inl ⟨by rw [hj]; simp,rfl⟩⟩,fun _ h=>absurd h List.not_mem_nil⟩
  ·rcases gx with ⟨rfl,_⟩ | ⟨b,off,cur,e',fz,f',rfl,g1,rfl,g2⟩
   ·exfalso; simp at h1 hj; omega
   ·have jx : ¬ (cap=j.toNat):=by omega
    obtain ⟨f3,ed,dk⟩:=N1 j.toNat g2
    refine ⟨b :: f3,⟨some ⟨b,off+j.toNat,none⟩,cap - j.toNat,?_,.inr ⟨b,off+j.toNat,cur,e',fz,f3,rfl,g1,rfl,?_⟩⟩,fun i hi=>?_⟩
    ·unfold sliced
     rw [hlen,if_neg jx]
     simp [jr]
    ·rw [hE,Nat.mul_one] at ed ⊢
     rw [Nat.mul_one,List.drop_take,List.drop_drop] at ed
     rw [hlen]
     exact ed
    ·rcases List.mem_cons.1 hi with rfl | hi
     ·exact um _ (by simp)
     ·exact um _ (List.mem_cons_of_mem _ (dk i hi))
 refine ca (v:=sliced base j.toNat xs.length cap 1) (fun w' _=>?_) ((h _ _).sound B o ho _ w (au ha) ⟨Z,F,SA.fact hS hf,hG⟩)
 have q4:P.elem t=e:=by simp [Program.elem,q1]
 have vm:(sizeOf (P.elem t)).run P w' = .ok 1 w':=by rw [q4]; simp [sizeOf,typeInfo,q2,q3]
 simp [execOp,aY ha hx,aY ha hy,run_sliceAt_slice w' t _ _ _ _ (by rw [q4]; exact q1),run_slice_l (P:=P) w' t base xs.length cap (by rw [q4]; exact q1) k j h0 h1,vm,Result.andThen]
theorem stN {α:Type} {x y:OO} {v u:Value} {j:Int} {z:List α} {xs:List (List α)} {E:ai α} {Q:Value→List α→Prop} {t e ty:TI} {Γx:QE} {m:Option M} (h0:Rg v j Γ) (h1:si Γ u false false E z uX Γx) (h2:dh Γ (.om e (uW Q (bG E)) v xs) Γ1)
  (h:D P cx (.o false all l rk (.om e (bG E) v (xs.set j.toNat z) :: Γ1) fr m)):D P cx (.sl .om v j u t x y ty all l rk Γ fr m):=by
 refine D.of ?_
 intro hT hx hy _ B o ho r w ha hs pos ag g
 obtain ⟨i,hi,vm⟩:=hT
 obtain ⟨Z,F,hS,hg⟩:=hs
 obtain ⟨j0,j1⟩:=h0.sound hS
 obtain ⟨dx,_,⟨⟨k,hk,HT⟩,_⟩,_⟩:=h1.sound hS
 obtain ⟨n,F1,hp,⟨us,gg,hO,hr0,um,NB⟩,fl⟩:=h2.sound hS
 have hle:Le (uW Q (bG E)) (bG E):=⟨rfl,fun h=>h.2⟩
 have hr:dv (bG E) w.heap us xs gg:=wc hle hr0
 replace NB:(bG E).size=1:=rfl
 have kp:=hg.perm hp
 have du:=List.nodup_append.1 kp.nd
 have HU:∀ b∈k,Z b:=fun b hb=>(HT b hb).elim (fun h=>h) (fun h=>h)
 have NC:∀ b∈n,¬ Z b:=fun b hb=>kp.apart b (List.mem_append_left _ hb)
 have hl:us.length=xs.length:=by have:=ks hr; rw [NB,Nat.mul_one] at this; exact this
 have Hy:xi v=us.length:=uN hO
 rw [Hy,hl] at j1
 refine fx (SJ.store (E:=bG E) (G:=n) (B:=w.heap.size) (g:=gg) (k:=k) hi vm ⟨us,⟨hO,du.1,fun b hb=>.inl hb⟩,hr,NB⟩ (List.getElem?_eq_getElem j1) (aY ha hx) (aY ha hy) hk (fun b hb hm=>NC b hm (HU b hb)) (fun b hb hm=>NC b hm (um b hb)) fun w' g' hC sY np=>?_)
 obtain ⟨VM,cb,gx,PZ⟩:=sY
 exact h.sound B o ho _ w' ha (St.put fl kp hC ⟨VM,_,cb.1,gx,(fun b hb=>(np b hb).elim (um b) (HU b)),PZ⟩ cb.2.1 fun b hb=>.inl hb)
theorem St.aoR {B:Bs} {Γ Δ Γ1 Γ2 Γ3:QE} {w:World} (h:St B Γ w) (h0:EF Γ Δ Γ1) (h1:EO Γ1 Γ2 Γ3) (h2:MF Γ none Γ2):St B (Δ.reverse++Γ2) w:=by
 obtain ⟨Z,F,hs,hg⟩:=h
 obtain ⟨Fd,F',Zn,a1,a2,a3⟩:=h0.sound hs
 obtain ⟨VD,F3,c1,c2,c3⟩:=h1.sound a2
 obtain ⟨F2,b1,b2⟩:=HL.build a1 (h2.sound (hs.left (f:=Zn)) (dx:=[]) (by rintro e he; cases he) c1)
 refine St.of (F':=Fd++VD) b2 (Gd.left (F':=F3) ((Gd.freeze (hg.perm a3) fun b hb=>hs.lt b (a3.mem_iff.1 (List.mem_append_right _ hb))).perm ?_)) b1
 rw [List.append_assoc]
 exact c3.append_left Fd
theorem join {S S1 V:Type} {t k:Nat} {b:Bool} (Δ:S1→V→List av) (φ:S1→V→Fr) (v0:V) (f2:Fr) {gq:List KI} {kb:Kb R S} {x y:Code} {s0:S1} {m0:Option (Out S1 R)} {f:S1→Option (Out S R)}
   (_ha:sg fr (φ s0 v0)) (_hf:sg fr f2) (_h0:EO Γ (Δ s0 v0) Γ1) (_hs:jz Γ1 Γ2)
   (hb:D P cx (.cd b ⟨[],.loop V k Δ φ Γ2 f2⟩ x y Γ fr m0)) (hk:∀ s v,D P cx (.p (φ s v) (Δ s v) f2 Γ2 fun fr Γ=>.n ⟨gq,kb⟩ Γ fr (f s))):D P cx (.cd b ⟨gq,kb⟩ x y Γ fr (jn t s0 m0 f)):=by
 refine .inj (Sz ?_)
 intro B o ho r w qj ry
 replace ho:ae m0 f=some o:=ho
 cases hm:m0 with
 | none=>rw [hm] at ho; cases ho
 | some o0=>
  have h1:=hb.sound B o0 hm r w qj ry
  rw [hm] at ho
  have hq:∀ e r w,nb P cx B ⟨[],.loop V k Δ φ Γ2 f2⟩ o0 e r w→nb P cx B ⟨gq,kb⟩ o e r w:=by
   intro e r w hp
   cases o0 with
   | norm s=>
    cases e with
    | normal=>obtain ⟨v,a1,a2⟩:=hp; exact (hk s v).sound B o ho r w a1 a2
    | _=>exact hp.elim
   | exit j s=>cases ho
   | ret y=>
    cases ho
    cases e with
    | ret=>exact wM hp
    | _=>exact hp.elim
  exact ⟨fun h=>vC (h1.1 h) hq,fun h=>vC (h1.2 h) hq⟩
theorem WX {S:Type} {t:Nat} {K:dj R S} {ops:LO} {m:Option (Out S R)} (_ht:Ed ops=some t) (h:D P cx (.o false ops ops (.s K) Γ fr m)):D P cx (.rw false ops K Γ fr m):=.rwu h
theorem uH {S:Type} {b:Bool} {t:Nat} {K:dj R S} {x y:Code} {m1 m2:Option (Out S R)} (hl:look fr t=some (.bool b)) (h1:D P cx (.c K x Γ ((t,.bool true) :: fr) m1)) (h2:D P cx (.c K y Γ ((t,.bool false) :: fr) m2)):D P cx (.cd b K x y Γ fr (bif b then m1 else m2)):=by
 refine D.of ?_
 have hc:∀ {r:NV},cu r fr→∀ c,b=c→cu r ((t,.bool c) :: fr):=by
  intro r ha c hb s u hs
  unfold look at hs
  cases ry:Nat.beq s t with
  | true=>
   rw [ry] at hs
   cases hs
   obtain rfl:=Nat.eq_of_beq_eq_true ry
   rw [← hb]
   exact ha _ _ hl
  | false=>rw [ry] at hs; exact ha _ _ hs
 exact fun B o ho r w ha hs=>⟨fun h=>h1.sound B o (by rw [h] at ho; exact ho) r w (hc ha _ h) hs,fun h=>h2.sound B o (by rw [h] at ho; exact ho) r w (hc ha _ h) hs⟩
class mx {α:Type} (S:ai α) (V:outParam Type) (cl:outParam (α→V→List Value)) (en:outParam (α→V→List av)):Prop where
 ow:∀ x v,tO (en x v)=true
 op:∀ {w:World} {cs:LV} {x:α} {g:LN},S.rep w.heap cs x g→∃ v,cs=cl x v∧∀ Z:Nat→Prop,HL Z w (en x v) g
 cl:∀ {w:World} {x:α} {v:V} {Z:Nat→Prop} {g:LN},HL Z w (en x v) g→S.rep w.heap (cl x v) x g
theorem mx.i {k:IntKind}:mx (aL k) Unit (fun x _=>[.int k x]) (fun _ _=>[]):=
 ⟨fun _ _=>rfl,fun h=>⟨(),h.1,fun _=>by rw [h.2]; exact .nil⟩,fun h=>by cases h; exact ⟨rfl,rfl⟩⟩
theorem mx.s {α:Type} {e:TI} {E:ai α}:mx (aI e E) Value (fun _ v=>[v]) (fun x v=>[.own (aI e E) v x]):=by
 refine ⟨fun _ _=>rfl,fun {w cs x g} h=>?_,fun {w x v Z g} h=>?_⟩
 ·obtain ⟨base,cap,rfl,hr⟩:=h
  refine ⟨_,rfl,fun Z=>?_⟩
  have:=HL.own (Z:=Z) (w:=w) (e:=.own (aI e E) (.slice base x.length cap) x) (f:=g) ⟨base,cap,rfl,hr⟩ .nil
  rwa [List.append_nil] at this
 ·cases h with
  | own h k=>cases k; rw [List.append_nil]; exact h
  | fact h _=>exact h.elim
theorem mx.ip {β V:Type} {k:IntKind} {B:ai β} {cl:β→V→List Value} {en:β→V→List av} (h:mx B V cl en):mx (fy (aL k) B) V (fun x v=>.int k x.1 :: cl x.2 v) (fun x v=>en x.2 v):=by
 refine ⟨fun x v=>h.ow x.2 v,fun {w cs x g} hr=>?_,fun {w x v Z g} he=>?_⟩
 ·obtain ⟨c1,c2,f1,f2,rfl,rfl,⟨rfl,rfl⟩,h2⟩:=hr
  obtain ⟨v,rfl,hv⟩:=h.op h2
  exact ⟨v,rfl,hv⟩
 ·exact ⟨[_],_,[],g,rfl,rfl,⟨rfl,rfl⟩,h.cl he⟩
theorem mx.sp {α β V:Type} {e:TI} {E:ai α} {B:ai β} {cl:β→V→List Value} {en:β→V→List av} (h:mx B V cl en):mx (fy (aI e E) B) (Value×V) (fun x v=>v.1 :: cl x.2 v.2) (fun x v=>.own (aI e E) v.1 x.1 :: en x.2 v.2):=by
 refine ⟨fun x v=>h.ow x.2 v.2,fun {w cs x g} hr=>?_,fun {w x v Z g} he=>?_⟩
 ·obtain ⟨c1,c2,f1,f2,rfl,rfl,h1,h2⟩:=hr
  obtain ⟨base,cap,rfl,zg⟩:=h1
  obtain ⟨v,rfl,hv⟩:=h.op h2
  exact ⟨(_,v),rfl,fun Z=>.own ⟨base,cap,rfl,zg⟩ (hv Z)⟩
 ·cases he with
  | own h1 k=>
   obtain ⟨base,cap,hb,zg⟩:=h1
   exact ⟨[_],_,_,_,rfl,rfl,⟨base,cap,hb,zg⟩,h.cl k⟩
  | fact h1 _=>exact h1.elim
theorem mx.mp {α β V:Type} {f:β→α} {A:ai α} {cl:α→V→List Value} {en:α→V→List av} (h:mx A V cl en):mx (wa f A) V (fun y v=>cl (f y) v) (fun y v=>en (f y) v):=
 ⟨fun y v=>h.ow (f y) v,fun hr=>h.op hr,fun he=>h.cl he⟩
inductive Qo {α:Type} (S:ai α) (V:Type) (cl:α→V→List Value) (en:α→V→List av):Prop
 | mk [h:mx S V cl en]:Qo S V cl en
theorem ZE:∀ {Δ:QE} {F:LN},tO Δ=true→HO Z w Δ F→HL Z w Δ F:=by
 intro Δ
 induction Δ with
 | nil=>intro F _ h; cases h; exact .nil
 | cons e Δ ih=>
  intro F ho h
  cases e with
  | own T v x=>cases h with | own h k=>exact .own h (ih ho k)
  | row b cs t=>cases h with | own h k=>exact .own h (ih ho k)
  | _=>exact absurd ho (by simp [tO])
theorem S3 {α:Type} (S:ai α) {d:Nat} {t e n bt ty:TI} {m:Option M} [ht:Ag P t e n bt]
  (h:∀ v,D P cx (.o false all l rk (.own (aI e S) v [] :: Γ) ((d,v) :: fr) m)):D P cx (.e false (.buildSlice t 0 #[]) (some d) ty all l rk Γ fr m):=by
 refine D.of ?_
 intro B o ho r w ha hs pos ag g
 obtain ⟨h1,i,z,h2,_⟩:=ht.h
 obtain ⟨v,w',f,hr,hC,hO⟩:=AY (E:=S) (r:=r) (w:=w) (d:=some d) (ty:=ty) (pos:=pos) (ag:=ag) (g:=none) h1 h2
 refine fx (WL.val rfl hr ((h v).sound B o ho _ w' (au ha) ?_))
 obtain ⟨Z,F,hS,hg⟩:=hs
 exact St.put (f:=[]) hS hg hC hO.1 hO.2.1 fun b hb=>.inr ((hO.2.2 b hb).resolve_left List.not_mem_nil)
theorem WY {α:Type} {S:ai α} {q:Bool} {d n e:Nat} {x:OO} {v:Value} {xs:List α} {t ty bt:TI} {m:Option M} [ht:Ag P t e n bt] (hx:bj fr x=some v) (h1:dh Γ (.own (aI e S) v xs) Γ1)
  (h:D P cx (.o q all l rk Γ ((d,.int .i64 (xs.length:Int)) :: fr) m)):D P cx (.e q (.call ⟨.builtin .len,#[x],#[t]⟩) (some d) ty all l rk Γ fr m):=by
 refine D.of ?_
 intro B o ho r w ha hs pos ag g
 obtain ⟨q1,_⟩:=ht.h
 obtain ⟨Z,F,hS,hG⟩:=@_root_.id _ hs
 obtain ⟨f,F1,_,hO,_⟩:=h1.sound hS
 obtain ⟨base,cap,hv,_⟩:=hO
 obtain rfl:v = .slice base xs.length cap:=by simpa using hv
 exact ca (v:=.int .i64 (xs.length:Int)) (fun w' _=>wN q1 (aY ha hx)) (h.sound B o ho _ w (au ha) hs)
theorem Qp {α:Type} {S:ai α} {n:Nat} {hp:Array Obj} (hn:S.size=n):∀ {xs:List α} {cs:LV} {f:LN},dv S hp cs xs f→∃ us,us.length=xs.length∧dv (jg n) hp cs us []∧∀ (j:Nat) (x:α),xs[j]? = some x→∃ c f0 f1 f2,us[j]? = some c∧f=f0++f1++f2∧S.rep hp c x f1:=by
 intro xs
 induction xs with
 | nil=>rintro cs f ⟨rfl,rfl⟩; exact ⟨[],rfl,⟨rfl,rfl⟩,fun j x hj=>by simp at hj⟩
 | cons y xs ih=>
  rintro cs f ⟨c,iz,f1,f2,rfl,rfl,h1,h2⟩
  obtain ⟨us,hl,hr,hg⟩:=ih h2
  refine ⟨c :: us,by simp [hl],⟨c,iz,[],[],rfl,rfl,⟨rfl,by rw [S.len h1,hn],S.one h1,rfl⟩,hr⟩,fun j x hj=>?_⟩
  cases j with
  | zero=>simp at hj; subst hj; exact ⟨c,[],f1,f2,rfl,by simp,h1⟩
  | succ j=>
   obtain ⟨c',g0,g1,g2,a1,rfl,a3⟩:=hg j x (by simpa using hj)
   exact ⟨c',f1++g0,g1,g2,by simpa using a1,by simp,a3⟩
theorem ixO {α V:Type} {S:ai α} {cl:α→V→List Value} {en:α→V→List av} {q:Bool} {d n e:Nat} {x y:OO} {v:Value} {xs:List α} {k:IntKind} {j:Int} {t ty bt:TI} {f:α→Option M} [ht:Ag P t e n bt] (hx:bj fr x=some v) (hy:bj fr y=some (.int k j))
  (h1:dh Γ (.own (aI e S) v xs) Γ1) (hs:Qo S V cl en) (hn:S.size=n)
  (h:∀ z u us,D P cx (.p [] (.own (aI e (jg n)) v us :: .rd false (BL us j) (.bool true) (cl z u) :: en z u) fr Γ1 fun fr Γ=>.o q all l rk Γ ((d,.pointer (some (cw v n j))) :: fr) (f z))):D P cx (.e q (.indexAddr t x y) (some d) ty all l rk Γ fr (idx xs j>>=f)):=by
 refine D.of ?_
 intro B o ho r w ha fh pos ag g
 replace hs:mx S V cl en:=by cases hs; assumption
 obtain ⟨z,hz,ho⟩:=bind_some ho
 replace hz:=r7 hz
 obtain ⟨q1,i,_,q2,_,_,q3,_⟩:=ht.h
 obtain ⟨Z,F,hS,hG⟩:=fh
 obtain ⟨f0,F1,hp,hO,fl⟩:=h1.sound hS
 have bc:j.toNat < xs.length:=(List.getElem?_eq_some_iff.1 hz.2).1
 obtain ⟨base,cap,hv,hr⟩:=hO
 obtain rfl:v = .slice base xs.length cap:=by simpa using hv
 rcases hr with ⟨_,_,rfl,_⟩ | ⟨b,cur,f',rfl,ke,rfl,hle,acG,vm,ed⟩
 ·simp at bc
 ·obtain ⟨us,hl,hru,hg⟩:=Qp hn ed
  obtain ⟨c,g0,g1,g2,a1,rfl,a3⟩:=hg _ _ hz.2
  obtain ⟨u,rfl,tS⟩:=hs.op a3
  have A7:(aI e (jg n)).rep w.heap [.slice (some ⟨b,0,none⟩) xs.length cap] us [b]:=
   ⟨_,cap,by rw [hl],.inr ⟨b,cur,[],rfl,ke,rfl,by rw [hl]; exact hle,acG,by rw [vm,hn]; rfl,by rw [hl,show (jg n).size=S.size from hn.symm]; exact hru⟩⟩
  have de:HL Z w (.own (aI e (jg n)) (.slice (some ⟨b,0,none⟩) xs.length cap) us :: .rd false (BL us j) (.bool true) (cl z u) :: en z u) ([b]++g1):=.own A7 (.fact ⟨[],⟨rfl,⟨hz.1,a1⟩,rfl⟩,fun _ h=>absurd h List.not_mem_nil⟩ (tS Z))
  obtain ⟨F',xy,gv⟩:=de.build fl
  have td:(F'++(g0++g2)).Perm F:=by
   refine .trans ?_ hp
   refine (xy.append_right _).trans ?_
   rw [List.cons_append,List.cons_append,List.cons_append,List.nil_append,List.cons_append]
   refine List.Perm.cons b ?_
   have e1:(g1++F1++(g0++g2)).Perm ((g0++g2)++(g1++F1)):=List.perm_append_comm
   refine e1.trans ?_
   rw [List.append_assoc,List.append_assoc,List.append_assoc]
   refine List.Perm.append_left g0 ?_
   rw [← List.append_assoc,← List.append_assoc]
   exact List.perm_append_comm.append_right F1
  refine ca (v:=.pointer (some (cw (.slice (some ⟨b,0,none⟩) xs.length cap) n j))) (fun w' hC=>?_) ((h z u us).sound B o ho _ w (au ha) ⟨Z,F',gv,Gd.left (hG.perm td)⟩)
  rw [me q1 q2 (aY ha hx) (aY ha hy) hz.1 (by omega),q3]
  rfl
theorem WZ {α V:Type} {S:ai α} {cl:α→V→List Value} {en:α→V→List av} (y:α) {u:V} {d b n e bt:Nat} {s x:OO} {sv:Value} {xs:List α} {cs:LV} {t et ty:TI} {f:Unit→Option M} [ht:Ag P t e n bt]
  (hs:bj fr s=some sv) (hx:bj fr x=some (.slice (some ⟨b,0,none⟩) 1 1)) (h0:dh Γ (.row b cs et) Γ1) (h1:dh Γ1 (.own (aI e S) sv xs) Γ2) (pg:Qo S V cl en) (_hv:vh V u) (hc:cs=cl y u) (hn:S.size=n) (he:EO Γ2 (en y u) Γ3)
  (h:∀ v,D P cx (.o false all l rk (.own (aI e S) v (xs++[y]) :: Γ3) ((d,v) :: fr) (f ()))):D P cx (.e false (.call ⟨.builtin .append,#[s,x],#[t,t]⟩) (some d) ty all l rk Γ fr (fits bt (xs.length+1)>>=f)):=by
 refine D.of ?_
 intro B o cb r w ha fh pos ag g
 have FH:mx S V cl en:=by cases pg; assumption
 obtain ⟨_,hu,cb⟩:=bind_some cb
 obtain ⟨b1,b2⟩:=rq hu
 obtain ⟨q1,i,z,q2,q3,q4,q5,q6,_⟩:=ht.h
 obtain ⟨Z,F,hS,hG⟩:=fh
 obtain ⟨n0,F0,vp,⟨rfl,bg⟩,xz⟩:=h0.sound hS
 obtain ⟨k,F1,hp,hO,fl⟩:=h1.sound xz
 obtain ⟨Fd,F2,hho,gv,o9⟩:=he.sound fl
 have hy:S.rep w.heap (cl y u) y Fd:=FH.cl (ZE (FH.ow y u) hho)
 have td:(((k++Fd)++F2)++[b]).Perm F:=by
  refine .trans ?_ vp
  refine List.perm_append_comm.trans ?_
  refine List.Perm.append_left [b] ?_
  rw [List.append_assoc]
  exact (o9.append_left k).trans hp
 have nt:Gd B Z ((k++Fd)++F2) w:=Gd.left (F':=[b]) (hG.perm td)
 have du:=(List.nodup_append.1 nt.nd).1
 have yg:=List.nodup_append.1 du
 subst hc
 obtain ⟨v,w',f',kz,hC,ed,dk,Ii⟩:=rz (E:=S) (d:=some d) (ty:=ty) (pos:=pos) (ag:=ag) (g:=none) (k:=Fd) (ys:=[y]) (news:=cl y u) q1 q2 q3 (by rw [q5,hn]) (by rw [q4,hn]) (aY ha hs) hO yg.1 (aY ha hx) (fun i u hi=>bg.at i u hi) (tE hy) (fun b hb hm=>yg.2.2 b hm b hb rfl) (by simp) (by rw [q6]; exact b1) b2
 refine fx (WL.val rfl kz ((h v).sound B o cb _ w' (au ha) ?_))
 refine St.put gv nt (hC.mono fun b hb=>List.mem_append_left _ hb) ed (Ii yg.2.1) fun b hb=>?_
 rcases dk b hb with h | h | h
 ·exact .inl (List.mem_append_left _ h)
 ·exact .inl (List.mem_append_right _ h)
 ·exact .inr h
end
end Go.Dk
namespace Go.Dk
open Go Go.Li
section
variable {P:Program} {n:Nat} {l:LO} {Q:Exit→(Nat→Value)→World→Prop} {S:World→Prop}
def Hw (P:Program) (n:Nat) (l:LO) (Q:Exit→(Nat→Value)→World→Prop) (S:World→Prop) (k:Nat) (L:Array Bool) (r:NV) (w:World):Prop:=
 ∀ a:Act,a.tmps.size=n→a.defers=[]→cn a=r→wpAnyH P .any l.toArray (fun e a' w'=>a'.tmps.size=n∧a'.defers=[]∧Q e (cn a') w') S k L a w
theorem Et {i:Nat} {o:Oper} {a:Act} (hd:df n l=true) (hi:l[i]? = some o) (h1:a.tmps.size=n):∀ k,o.dst=some k→k < a.tmps.size:=by
 intro k hk
 have hm:o∈l:=List.mem_of_getElem? hi
 simp only [df,List.all_eq_true] at hd
 have:=hd o hm
 rw [hk] at this
 rw [h1]
 exact Nat.lt_of_succ_le (Nat.le_of_ble_eq_true this)
theorem Hw.take {k i:Nat} {L:Array Bool} {o:Oper} {v:Value} {r:NV} {w:World} (hd:df n l=true) (hi:l[i]? = some o) (hs:Region.noSelect l.toArray=true) (hf:Region.free .any l.toArray L i=true) (hr:(Region.ready .any l.toArray L).contains i=true)
  (hp:∀ c r w,¬ Q (.panic c) r w) (hg:o.guard=none) (hy:∀ w,S w→(execOp (ev r) o).run P w = .ok (.value v) w) (hS:S w) (h:Hw P n l Q S k (L.setIfInBounds i true) (gf r o.dst v) w):Hw P n l Q S (k+1) L r w:=by
 intro a h1 h2 h3
 refine wpAnyH_take (v:=v) (by simpa using hi) hs hf hr (fun c a w h=>(hp _ _ _ h.2.2).elim) (.inl ⟨uD hg,fun w hw=>?_⟩) hS (h _ (by rw [lh]; exact h1) (by rw [jc]; exact h2) (by rw [mg (Et hd hi h1),h3]))
 rw [tf,h3]
 exact hy w hw
theorem Hw.step {k i:Nat} {L:Array Bool} {o:Oper} {r:NV} {w w':World} (hd:df n l=true) (hi:l[i]? = some o) (hr:Region.ready .any l.toArray L=[i]) (hg:o.guard=none) (hy:(execOp (ev r) o).run P w = .ok .skip w') (hS:S w') (h:Hw P n l Q S k (L.setIfInBounds i true) (gf r o.dst undef) w'):Hw P n l Q S (k+1) L r w:=by
 intro a h1 h2 h3
 refine wpAnyH_all hr (by simp) fun j hj=>?_
 obtain rfl:j=i:=by simpa using hj
 unfold wpOp
 rw [show (l.toArray)[j]? = some o by simpa using hi]
 simp only []
 rw [if_pos (uD hg)]
 refine .inl ?_
 unfold Oper.wp
 rw [tf,h3,hy]
 exact ⟨hS,h _ (by rw [lh]; exact h1) (by rw [jc]; exact h2) (by rw [mg (Et hd hi h1),h3])⟩
theorem Hw.done {k:Nat} {L:Array Bool} {r:NV} {w:World} (hr:Region.ready .any l.toArray L=[]) (h:Q .normal r w):Hw P n l Q S k L r w:=
 fun _ h1 h2 h3=>wpAnyH_done hr ⟨h1,h2,by rw [h3]; exact h⟩ k
theorem Hw.start {r:NV} {w:World} (h:Hw P n l Q S l.length (Array.replicate l.length false) r { w with drawn:=w.drawn+1 }):o3 P n l Q r w:=
 fun a h1 h2 h3=>wpAny_of_held _ _ _ _ (h a h1 h2 h3)
def Cm (P:Program) (S:World→Prop):List Oper→(Nat→Value)→((Nat→Value)→Prop)→Prop
 | [],r,K=>K r
 | o :: l,r,K=>o.guard=none∧∃ v,(∀ w,S w→(execOp (ev r) o).run P w = .ok (.value v) w)∧Cm P S l (gf r o.dst v) K
def FI (l:LO):List Nat→Array Bool→Bool
 | [],L=>(Region.ready .any l.toArray L).isEmpty
 | i :: ss,L=>Nat.blt i l.length && (Region.ready .any l.toArray L == [i]) && FI l ss (L.setIfInBounds i true)
def Qq (l:LO) (ss:LN):List Nat→Array Bool→Bool
 | [],L=>FI l ss L
 | i :: qs,L=>Nat.blt i l.length && (Region.ready .any l.toArray L).contains i && Region.free .any l.toArray L i && Qq l ss qs (L.setIfInBounds i true)
def pick (l:LO) (is:LN):List Oper:=is.map fun i=>l.getD i default
theorem CU {i:Nat} (h:Nat.blt i l.length=true):l[i]? = some (l.getD i default):=by
 have h1:i < l.length:=Nat.lt_of_succ_le (Nat.le_of_ble_eq_true h)
 rw [List.getD_eq_getElem?_getD,List.getElem?_eq_getElem h1]; rfl
theorem Hw.quiet (hd:df n l=true) (hs:Region.noSelect l.toArray=true) (hp:∀ c r w,¬ Q (.panic c) r w) {ss:LN} {w:World} (hS:S w) {K:(Nat→Value)→Prop} (h:∀ L r,FI l ss L=true→K r→Hw P n l Q S ss.length L r w) :
  ∀ (qs:LN) (L:Array Bool) (r:NV),Qq l ss qs L=true→Cm P S (pick l qs) r K→Hw P n l Q S (qs.length+ss.length) L r w:=by
 intro qs
 induction qs with
 | nil=>intro L r hc hv; rw [List.length_nil,Nat.zero_add]; exact h L r hc hv
 | cons i qs ih=>
  intro L r hc hv
  unfold Qq at hc
  simp only [Bool.and_eq_true] at hc
  obtain ⟨⟨⟨c1,c2⟩,c3⟩,c4⟩:=hc
  obtain ⟨hg,v,h1,h2⟩:=hv
  have:=Hw.take hd (CU c1) hs c3 c2 hp hg h1 hS (ih _ _ c4 h2)
  rwa [show qs.length+ss.length+1=(i :: qs).length+ss.length by simp; omega] at this
end
inductive JQ
 | q (ops:LO) (fr:Fr)
 | la (a:Addr) (lk:Option Nat) (t:TI) (x:OO) (d:Nat) (ty:TI) (pos:String) (ag:Array Edge) (ops:LO) (fr:Fr)
inductive QA (P:Program) (Γ:QE):JQ→Fr→Prop
 | nil {fr:Fr}:QA P Γ (.q [] fr) fr
 | ld {d:Nat} {t ty:TI} {x:OO} {lk:Option Nat} {a:Addr} {pos:String} {ag:Array Edge} {ops:LO} {fr oq:Fr} [ht:LK P t lk] (hx:bj fr x=some (.pointer (some a))) (h:QA P Γ (.la a lk t x d ty pos ag ops fr) oq):QA P Γ (.q (⟨some d,.load t x,ty,pos,ag,none⟩ :: ops) fr) oq
 | val {d:Nat} {op:Op} {ty:TI} {u:Value} {pos:String} {ag:Array Edge} {ops:LO} {fr oq:Fr} (hv:VQ P Γ fr op u) (h:QA P Γ (.q ops ((d,u) :: fr)) oq):QA P Γ (.q (⟨some d,op,ty,pos,ag,none⟩ :: ops) fr) oq
 | lc {d:Nat} {t ty:TI} {x:OO} {a:Addr} {u:Value} {pos:String} {ag:Array Edge} {ops:LO} {fr oq:Fr} (h:wb Γ a u) (k:QA P Γ (.q ops ((d,u) :: fr)) oq):QA P Γ (.la a none t x d ty pos ag ops fr) oq
 | ls {d n:Nat} {t ty:TI} {x:OO} {a:Addr} {ds:LV} {pos:String} {ag:Array Edge} {ops:LO} {fr oq:Fr} (h:wg Γ a n ds) (k:QA P Γ (.q ops ((d,.agg ds.toArray) :: fr)) oq):QA P Γ (.la a (some n) t x d ty pos ag ops fr) oq
inductive RO (fr:Fr):List Oper→List av→List (Nat×List Value×TypeId)→List av→Prop
 | nil {Γ:QE}:RO fr [] Γ [] Γ
 | cons {t ty e:TI} {x y:OO} {b:Nat} {cs:LV} {pos:String} {ag:Array Edge} {ops:LO} {Γ Γ1 Γ2:QE} {rs:List (Nat×List Value×TypeId)} (hx:bj fr x=some (.pointer (some ⟨b,0,none⟩))) (h:dh Γ (.row b cs e) Γ1) (k:RO fr ops Γ1 rs Γ2):RO fr (⟨none,.store t x y,ty,pos,ag,none⟩ :: ops) Γ ((b,cs,e) :: rs) Γ2
inductive SQ (P:Program) (Γ:QE) (fr:Fr):List Oper→List (Nat×List Value×TypeId)→List (Nat×List Value×TypeId)→Prop
 | nil:SQ P Γ fr [] [] []
 | cons {n:Nat} {t ty e:TI} {x y:OO} {b:Nat} {u:Value} {us cs ds:LV} {pos:String} {ag:Array Edge} {ops:LO} {rs vD:List (Nat×List Value×TypeId)} [ht:vi P t n] (hx:bj fr x=some (.pointer (some ⟨b,0,none⟩))) (hy:bj fr y=some u) (hc:tR Γ u us) (hn:us.length=n) (hs:uM us 0 cs ds) (ho:we Γ us) (k:SQ P Γ fr ops rs vD) :
   SQ P Γ fr (⟨none,.store t x y,ty,pos,ag,none⟩ :: ops) ((b,cs,e) :: rs) ((b,ds,e) :: vD)
def Mi:List (Nat×List Value×TypeId)→List av
 | []=>[]
 | (b,cs,e) :: l=>.row b cs e :: Mi l
def Rows (w:World) (rs:List (Nat×List Value×TypeId)):Prop:=∀ p∈rs,Row w p.1 p.2.1 p.2.2
section
variable {P:Program} {Γ Γ2:QE} {S:World→Prop} {Z:Nat→Prop}
def acH (P:Program) (S:World→Prop):JQ→Fr→Prop
 | .q ops fr,oq=>∀ r,cu r fr→Cm P S ops r fun r'=>cu r' oq
 | .la a lk t x d ty pos ag ops fr,oq=>(match lk with | none=>NA P t | some n=>AG P t n)→bj fr x=some (.pointer (some a))→∀ r,cu r fr→Cm P S (⟨some d,.load t x,ty,pos,ag,none⟩ :: ops) r fun r'=>cu r' oq
theorem QA.sound {J:JQ} {oq:Fr} (hS:∀ w,S w→∃ cur F,SA Z w Γ cur F) (h:QA P Γ J oq):acH P S J oq:=by
 induction h with
 | nil=>exact fun r h=>h
 | @ld d t ty x lk a pos ag ops fr oq ht hx _ ih=>exact fun r ha=>ih ht.h hx r ha
 | @val d op ty u pos ag ops fr oq hv _ ih=>
  intro r ha
  refine ⟨rfl,u,fun w hw=>?_,ih _ (au ha)⟩
  obtain ⟨cur,F,h⟩:=hS w hw
  exact hv.sound h ha (some d) ty pos ag none w (an.refl _ _)
 | @lc d t ty x a u pos ag ops fr oq h _ ih=>
  intro ht hx r ha
  refine ⟨rfl,u,fun w hw=>?_,ih _ (au ha)⟩
  obtain ⟨cur,F,hs⟩:=hS w hw
  exact Ld ht (h.sound hs) (aY ha hx) w (an.refl _ _)
 | @ls d n t ty x a ds pos ag ops fr oq h _ ih=>
  intro ht hx r ha
  refine ⟨rfl,_,fun w hw=>?_,ih _ (au ha)⟩
  obtain ⟨cur,F,hs⟩:=hS w hw
  obtain ⟨h1,h2⟩:=h.sound hs
  exact Lg ht h1 (aY ha hx) h2 w (an.refl _ _)
theorem RO.sound {fr:Fr} {ops:LO} {rs:List (Nat×List Value×TypeId)} {w:World} (h:RO fr ops Γ rs Γ2):∀ {F:LN},SA Z w Γ [] F→∃ F2,(rs.map (·.1)++F2).Perm F∧Rows w rs∧SA Z w Γ2 [] F2:=by
 induction h with
 | nil=>intro F h; exact ⟨F,.refl _,fun _ h=>absurd h List.not_mem_nil,h⟩
 | @cons t ty e x y b cs pos ag ops Γ Γ1 Γ2 rs hx h _ ih=>
  intro F hS
  obtain ⟨f,F1,hp,⟨rfl,bg⟩,fl⟩:=h.sound hS
  obtain ⟨F2,o9,hr,gv⟩:=ih fl
  refine ⟨F2,?_,fun p hp=>?_,gv⟩
  ·exact .trans (List.Perm.cons b o9) hp
  ·rcases List.mem_cons.1 hp with rfl | hp
   ·exact bg
   ·exact hr p hp
theorem SQ.sound {n:Nat} {l:LO} {Q:Exit→(Nat→Value)→World→Prop} {fr:Fr} {ops:LO} {rs vD:List (Nat×List Value×TypeId)} {F2:LN} {w0:World} {r:NV} {F:LN} (hd:df n l=true) (ha:cu r fr) (Eu:∀ w,an F w0 w→SA Z w Γ2 [] F2) (h:SQ P Γ2 fr ops rs vD) :
  ∀ (ss:LN) (L:Array Bool) (w:World),ops=pick l ss→FI l ss L=true→an F w0 w→Rows w rs→(rs.map (·.1)).Nodup→(∀ b∈rs.map (·.1),b∈F)→(∀ w',an (rs.map (·.1)) w w'→Rows w' vD→Q .normal r w')→Hw P n l Q (an F w0) ss.length L r w:=by
 induction h with
 | nil=>
  intro ss L w ho hc hC hR hn hF hk
  cases ss with
  | cons i ss=>cases ho
  | nil=>
   exact Hw.done (by simpa [FI] using hc) (hk w (an.refl _ _) hR)
 | @cons n' t ty e x y b u us cs ds pos ag ops rs vD ht hx hy Dl hn IC hon _ ih=>
  intro ss L w ho hc hC hR du hF hk
  cases ss with
  | nil=>cases ho
  | cons i ss=>
   unfold FI at hc
   simp only [Bool.and_eq_true] at hc
   obtain ⟨⟨c1,c2⟩,c3⟩:=hc
   have cb:l.getD i default = ⟨none,.store t x y,ty,pos,ag,none⟩∧ops=pick l ss:=by
    unfold pick at ho
    rw [List.map_cons,List.cons.injEq] at ho
    exact ⟨ho.1.symm,ho.2⟩
   have hi:=CU c1
   rw [cb.1] at hi
   obtain ⟨ti,q1,q2⟩:=ht.h
   have bg:Row w b cs e:=hR (b,cs,e) (by simp)
   obtain ⟨e1,e2⟩:=IC.eq
   have hSw:=Eu w hC
   have kz:=wD (P:=P) (d:=none) (ty:=ty) (pos:=pos) (ag:=ag) (gg:=none) q1 (by rw [hn,q2]) bg e1 (aY ha hx) (y:=y) (by rw [aY ha hy]; exact Dl.eq hSw) (hon.one hSw)
   have vq:=setRow_heap w b cs.toArray (cs.take 0++us++cs.drop (0+us.length)).toArray e _ bg
   have Cn:an [b] w (w.setRow b (cs.take 0++us++cs.drop (0+us.length)).toArray):=⟨rfl,rfl,rfl,Nat.le_refl _,by simp,fun j _ hj=>setRow_other w b j _ fun h=>hj (by simp [h])⟩
   have uw:=hC.trans (Cn.mono fun b' cq=>by rw [List.mem_singleton.1 cq]; exact hF b (by simp))
   rw [List.map_cons,List.nodup_cons] at du
   refine Hw.step hd hi (by simpa using c2) rfl kz uw (ih ss _ _ cb.2 c3 uw (fun p hp=>(hR p (List.mem_cons_of_mem _ hp)).e7 Cn fun hb=>du.1 ?_) du.2 (fun b' cq=>hF b' (by simp at cq ⊢; exact .inr cq)) fun w' H8 hR'=>?_)
   ·rw [← List.mem_singleton.1 hb]; exact List.mem_map_of_mem (f:=fun q=>q.1) hp
   ·refine hk w' ((Cn.mono (by simp)).trans (H8.mono fun b' cq=>List.mem_cons_of_mem _ cq)) fun p hp=>?_
    rcases List.mem_cons.1 hp with rfl | hp
    ·refine Row.e7 (F:=rs.map (·.1)) ?_ H8 du.1
     rw [e2]
     exact vq
    ·exact hR' p hp
theorem SQ.fst {fr:Fr} {ops:LO} {rs vD:List (Nat×List Value×TypeId)} (h:SQ P Γ fr ops rs vD):vD.map (·.1)=rs.map (·.1):=by
 induction h with
 | nil=>rfl
 | cons _ _ _ _ _ _ _ ih=>simp only [List.map_cons,ih]
end
section
variable {R S:Type} {P:Program} {cx:Cx R} {K:dj R S} {l:LO}
end
theorem Hw.all {P:Program} {n k:Nat} {l:LO} {Q:Exit→(Nat→Value)→World→Prop} {S:World→Prop} {L:Array Bool} {rs:LN} {r:NV} {w:World} (hd:df n l=true) (hr:Region.ready .any l.toArray L=rs) (jx:rs≠[])
  (h:∀ i∈rs,∃ o,l[i]? = some o∧o.guard=none∧∃ v w',((execOp (ev r) o).run P w = .ok (.value v) w'∨(execOp (ev r) o).run P w = .ok .skip w'∧v=undef)∧S w'∧Hw P n l Q S k (L.setIfInBounds i true) (gf r o.dst v) w'):Hw P n l Q S (k+1) L r w:=by
 intro a h1 h2 h3
 refine wpAnyH_all hr jx fun j hj=>?_
 obtain ⟨o,hi,hg,v,w',hy,hS,hk⟩:=h j hj
 unfold wpOp
 rw [show (l.toArray)[j]? = some o by simpa using hi]
 simp only []
 rw [if_pos (uD hg)]
 refine .inl ?_
 unfold Oper.wp
 rw [tf,h3]
 rcases hy with hy | ⟨hy,rfl⟩
 ·rw [hy]
  exact ⟨hS,hk _ (by rw [lh]; exact h1) (by rw [jc]; exact h2) (by rw [mg (Et hd hi h1),h3])⟩
 ·rw [hy]
  exact ⟨hS,hk _ (by rw [lh]; exact h1) (by rw [jc]; exact h2) (by rw [mg (Et hd hi h1),h3])⟩
def on (L:Array Bool) (i:Nat):Array Bool:=L.setIfInBounds i true
def n8 (l:LO) (L:Array Bool) (rs:LN):Bool:=Region.ready .any l.toArray L == rs
def Mj (l:LO) (a1 a2 s1 s2:Nat) (L:Array Bool):Bool:=
 (Nat.blt a1 l.length && Nat.blt a2 l.length && Nat.blt s1 l.length && Nat.blt s2 l.length) && (n8 l L [a1,a2] && n8 l (on L a2) [a1]) && (n8 l (on (on L a1) a2) [s1] && n8 l (on (on L a2) a1) [s1]) &&
  (n8 l (on (on (on L a1) a2) s1) [s2] && n8 l (on (on (on L a2) a1) s1) [s2]) && (n8 l (on (on (on (on L a1) a2) s1) s2) [] && n8 l (on (on (on (on L a2) a1) s1) s2) []) &&
  (n8 l (on L a1) [a2] || (n8 l (on L a1) [a2,s1] && (n8 l (on (on L a1) s1) [a2] && (n8 l (on (on (on L a1) s1) a2) [s2] && n8 l (on (on (on (on L a1) s1) a2) s2) []))))
def Mk (l:LO) (a1 a2 s1 s2:Nat):List Nat→Array Bool→Bool
 | [],L=>Mj l a1 a2 s1 s2 L
 | i :: qs,L=>Nat.blt i l.length && (Region.ready .any l.toArray L).contains i && Region.free .any l.toArray L i && Mk l a1 a2 s1 s2 qs (L.setIfInBounds i true)
theorem Hw.W0 {P:Program} {n a1 a2 s1 s2 m:Nat} {l:LO} {Q:Exit→(Nat→Value)→World→Prop} {S:World→Prop} (hd:df n l=true) (hs:Region.noSelect l.toArray=true) (hp:∀ c r w,¬ Q (.panic c) r w) {w:World} (hS:S w) {K:(Nat→Value)→Prop} (h:∀ L r,Mj l a1 a2 s1 s2 L=true→K r→Hw P n l Q S m L r w) :
  ∀ (qs:LN) (L:Array Bool) (r:NV),Mk l a1 a2 s1 s2 qs L=true→Cm P S (pick l qs) r K→Hw P n l Q S (qs.length+m) L r w:=by
 intro qs
 induction qs with
 | nil=>intro L r hc hv; rw [List.length_nil,Nat.zero_add]; exact h L r hc hv
 | cons i qs ih=>
  intro L r hc hv
  unfold Mk at hc
  simp only [Bool.and_eq_true] at hc
  obtain ⟨⟨⟨c1,c2⟩,c3⟩,c4⟩:=hc
  obtain ⟨hg,v,h1,h2⟩:=hv
  have:=Hw.take hd (CU c1) hs c3 c2 hp hg h1 hS (ih _ _ c4 h2)
  rwa [show qs.length+m+1=(i :: qs).length+m by simp; omega] at this
inductive A8 (P:Program) (Γ:QE) (fr:Fr) (d:Nat):Oper→Oper→TypeId→List Value→Prop
 | mk {t ty W1:TI} {y:OO} {u:Value} {n:Nat} {us cs ds:LV} {pos Qr:String} {ag Qs:Array Edge} [hz:ye P t cs] [ht:vi P t n] (hn:look fr d=none) (hy:bj fr y=some u) (hc:tR Γ u us) (hl:us.length=n) (hs:uM us 0 cs ds) (ho:we Γ us) :
   A8 P Γ fr d ⟨some d,.alloc t,ty,pos,ag,none⟩ ⟨none,.store t (.tmp d) y,W1,Qr,Qs,none⟩ t ds
section
variable {P:Program} {Γ:QE} {Z:Nat→Prop} {fr:Fr} {w:World} {cur F:LN}
theorem A8.alloc {d:Nat} {oa os:Oper} {t:TI} {ds:LV} (h:A8 P Γ fr d oa os t ds) (r:NV) (w:World):oa.guard=none∧oa.dst=some d∧look fr d=none∧∃ cs w',(execOp (ev r) oa).run P w = .ok (.value (.pointer (some ⟨w.heap.size,0,none⟩))) w'∧an [] w w'∧Row w' w.heap.size cs t∧
  ∀ (r':NV) (w1:World) (b:Nat) cur F,SA Z w1 Γ cur F→cu r' fr→r' d = .pointer (some ⟨b,0,none⟩)→Row w1 b cs t→∃ w2,(execOp (ev r') os).run P w1 = .ok .skip w2∧an [b] w1 w2∧Row w2 b ds t:=by
 cases h with
 | @mk t ty W1 y u n us cs ds pos Qr ag Qs hz ht hn hy hc hl hs ho=>
  obtain ⟨i',z,t1,t2,t3⟩:=hz.h
  refine ⟨rfl,rfl,hn,z.cells.toList,_,DQ t1 t2,an.alloc _ _ _,?_,?_⟩
  ·have:=heap_alloc_new w (.cells z.cells t (0,0))
   unfold Row
   simpa using this
  ·intro r' w1 b cur F hS ha hr bg
   rw [t3] at bg
   obtain ⟨ti,q1,q2⟩:=ht.h
   obtain ⟨e1,e2⟩:=hs.eq
   have kz:=wD (P:=P) (d:=none) (ty:=W1) (pos:=Qr) (ag:=Qs) (gg:=none) q1 (by rw [hl,q2]) bg e1 (x:=.tmp d) hr (y:=y) (by rw [aY ha hy]; exact hc.eq hS) (ho.one hS)
   refine ⟨_,kz,⟨rfl,rfl,rfl,Nat.le_refl _,by simp,fun j _ hj=>setRow_other w1 b j _ fun h=>hj (by simp [h])⟩,?_⟩
   have vq:=setRow_heap w1 b cs.toArray (cs.take 0++us++cs.drop (0+us.length)).toArray t _ bg
   rw [e2]
   exact vq
theorem A8.st {d:Nat} {oa os:Oper} {t:TI} {ds:LV} (h:A8 P Γ fr d oa os t ds):os.guard=none∧os.dst=none:=by
 cases h; exact ⟨rfl,rfl⟩
theorem ID {r:NV} {d:Nat} {v:Value}:xw r d v d=v:=by unfold xw; rw [Nat.beq_refl]; rfl
theorem S4 {r:NV} {d t:Nat} {v:Value} (h:t≠d):xw r d v t=r t:=by
 unfold xw
 cases hb:Nat.beq t d with
 | true=>exact absurd (Nat.eq_of_beq_eq_true hb) h
 | false=>rfl
theorem Am {r:NV} {d:Nat} {v:Value} (hn:look fr d=none) (ha:cu r fr):cu (xw r d v) fr:=by
 intro t u hl
 have jx:t≠d:=fun h=>by rw [h,hn] at hl; cases hl
 rw [S4 jx]
 exact ha t u hl
theorem yw {l:LO} {L:Array Bool} {rs:LN} (h:n8 l L rs=true):Region.ready .any l.toArray L=rs:=by
 unfold n8 at h
 simpa using h
variable {n:Nat} {l:LO} {Q:Exit→(Nat→Value)→World→Prop} {w0:World} {F2:LN} {a1 a2 s1 s2 d1 d2:Nat} {IE GD GF GG:Oper} {t1 t2:TI} {GH GI:LV} {L:Array Bool} {r:NV}
theorem tree (hd:df n l=true) (Eu:∀ w,an [] w0 w→SA Z w Γ [] F2) (B1:A8 P Γ fr d1 IE GF t1 GH) (B2:A8 P Γ fr d2 GD GG t2 GI) (jx:d1≠d2) (i1:l[a1]? = some IE) (i2:l[a2]? = some GD) (j1:l[s1]? = some GF) (j2:l[s2]? = some GG)
  (fin:∀ b1 b2 r w,w0.heap.size≤b1→w0.heap.size≤b2→b1≠b2→an [] w0 w→cu r fr→r d1 = .pointer (some ⟨b1,0,none⟩)→r d2 = .pointer (some ⟨b2,0,none⟩)→Row w b1 GH t1→Row w b2 GI t2→Q .normal r w)
  (hc:Mj l a1 a2 s1 s2 L=true) (hS:an [] w0 w) (ha:cu r fr):Hw P n l Q (an [] w0) 4 L r w:=by
 unfold Mj at hc
 simp only [Bool.and_eq_true,Bool.or_eq_true] at hc
 obtain ⟨⟨⟨⟨⟨_,c1,c3⟩,c4,c5⟩,c7,c8⟩,W2,W3⟩,cc⟩:=hc
 obtain ⟨rs,c2,hn,hr⟩ : ∃ rs,n8 l (on L a1) rs=true∧rs≠[]∧∀ i∈rs,i=a2∨i=s1∧n8 l (on (on L a1) s1) [a2]=true∧n8 l (on (on (on L a1) s1) a2) [s2]=true∧n8 l (on (on (on (on L a1) s1) a2) s2) []=true:=by
  rcases cc with c | ⟨c,c6,c9,N2⟩
  ·exact ⟨_,c,by simp,fun i hi=>.inl (List.mem_singleton.1 hi)⟩
  ·exact ⟨_,c,by simp,fun i hi=>(List.mem_cons.1 hi).imp id fun hi=>⟨List.mem_singleton.1 hi,c6,c9,N2⟩⟩
 have g1:=(B1.st).1
 have g2:=(B2.st).1
 have e1:=(B1.st).2
 have e2:=(B2.st).2
 have last:∀ {L:Array Bool} {b1 b2:Nat} {zt:LV} {r:NV} {w:World},n8 l L [s2]=true→n8 l (on L s2) []=true→w0.heap.size≤b1→w0.heap.size≤b2→b1≠b2→an [] w0 w→cu r fr→r d1 = .pointer (some ⟨b1,0,none⟩)→r d2 = .pointer (some ⟨b2,0,none⟩)→Row w b1 GH t1→Row w b2 zt t2→
   (∀ (r':NV) (w1:World) (b:Nat) cur F,SA Z w1 Γ cur F→cu r' fr→r' d2 = .pointer (some ⟨b,0,none⟩)→Row w1 b zt t2→∃ w2,(execOp (ev r') GG).run P w1 = .ok .skip w2∧an [b] w1 w2∧Row w2 b GI t2)→Hw P n l Q (an [] w0) 1 L r w:=by
  intro L b1 b2 zt r w k1 k2 h1 h2 h3 hS ha p1 p2 r1 r2 st
  obtain ⟨w2,kz,hC,hr⟩:=st r w b2 [] F2 (Eu w hS) ha p2 r2
  have gv:an [] w0 w2:=hS.then hC fun i hi=>.inr (by rw [List.mem_singleton.1 hi]; exact h2)
  refine Hw.all hd (yw k1) (by simp) fun i hi=>?_
  rw [List.mem_singleton.1 hi]
  refine ⟨GG,j2,g2,undef,w2,.inr ⟨kz,rfl⟩,gv,?_⟩
  rw [e2]
  exact Hw.done (yw k2) (fin b1 b2 r w2 h1 h2 h3 gv ha p1 p2 (r1.e7 hC (by simpa using h3)) hr)
 have two:∀ {L:Array Bool} {b1 b2:Nat} {N3 zt:LV} {r:NV} {w:World},n8 l L [s1]=true→n8 l (on L s1) [s2]=true→n8 l (on (on L s1) s2) []=true→w0.heap.size≤b1→w0.heap.size≤b2→b1≠b2→an [] w0 w→cu r fr→r d1 = .pointer (some ⟨b1,0,none⟩)→r d2 = .pointer (some ⟨b2,0,none⟩)→Row w b1 N3 t1→Row w b2 zt t2→
   (∀ (r':NV) (w1:World) (b:Nat) cur F,SA Z w1 Γ cur F→cu r' fr→r' d1 = .pointer (some ⟨b,0,none⟩)→Row w1 b N3 t1→∃ w2,(execOp (ev r') GF).run P w1 = .ok .skip w2∧an [b] w1 w2∧Row w2 b GH t1)→
   (∀ (r':NV) (w1:World) (b:Nat) cur F,SA Z w1 Γ cur F→cu r' fr→r' d2 = .pointer (some ⟨b,0,none⟩)→Row w1 b zt t2→∃ w2,(execOp (ev r') GG).run P w1 = .ok .skip w2∧an [b] w1 w2∧Row w2 b GI t2)→Hw P n l Q (an [] w0) 2 L r w:=by
  intro L b1 b2 N3 zt r w k1 k2 k3 h1 h2 h3 hS ha p1 p2 r1 r2 Gq IF
  obtain ⟨w2,kz,hC,hr⟩:=Gq r w b1 [] F2 (Eu w hS) ha p1 r1
  have gv:an [] w0 w2:=hS.then hC fun i hi=>.inr (by rw [List.mem_singleton.1 hi]; exact h1)
  refine Hw.all hd (yw k1) (by simp) fun i hi=>?_
  rw [List.mem_singleton.1 hi]
  refine ⟨GF,j1,g1,undef,w2,.inr ⟨kz,rfl⟩,gv,?_⟩
  rw [e1]
  exact last k2 k3 h1 h2 h3 gv ha p1 p2 hr (r2.e7 hC (by simpa using Ne.symm h3)) IF
 refine Hw.all hd (yw c1) (by simp) fun i hi=>?_
 rcases List.mem_cons.1 hi with rfl | hi
 ·-- the first is made first
  obtain ⟨gd,dd,dn,N3,w1,kz,hC,bg,Gq⟩:=B1.alloc r w
  have fl:an [] w0 w1:=hS.trans hC
  have vE:w0.heap.size≤w.heap.size:=hS.size
  have lt1:=bg.lt
  have N4:=Am (v:=.pointer (some ⟨w.heap.size,0,none⟩)) dn ha
  refine ⟨IE,i1,gd,_,w1,.inl kz,fl,?_⟩
  rw [dd]
  refine Hw.all hd (yw c2) hn fun i hi=>?_
  rcases hr i hi with rfl | ⟨rfl,c6,c9,N2⟩
  ·obtain ⟨W4,W5,W6,zt,w2,AW,uw,Ml,IF⟩:=B2.alloc (gf r (some d1) (.pointer (some ⟨w.heap.size,0,none⟩))) w1
   refine ⟨GD,i2,W4,_,w2,.inl AW,fl.trans uw,?_⟩
   rw [W5]
   exact two (b1:=w.heap.size) (b2:=w1.heap.size) c4 c7 W2 vE (by omega) (by omega) (fl.trans uw) (Am W6 N4) (by show xw _ d2 _ d1=_; rw [S4 jx]; exact ID) (by exact ID) (bg.jy uw) Ml Gq IF
  ·obtain ⟨w2,AW,uw,S5⟩:=Gq _ w1 w.heap.size [] F2 (Eu w1 fl) N4 ID bg
   have gv:an [] w0 w2:=fl.then uw fun i hi=>.inr (by rw [List.mem_singleton.1 hi]; exact vE)
   refine ⟨GF,j1,g1,undef,w2,.inr ⟨AW,rfl⟩,gv,?_⟩
   rw [e1]
   refine Hw.all hd (yw c6) (by simp) fun i hi=>?_
   rw [List.mem_singleton.1 hi]
   obtain ⟨gd3,dd3,dn3,zt,w3,ZF,W7,ZG,IF⟩:=B2.alloc (gf (gf r (some d1) (.pointer (some ⟨w.heap.size,0,none⟩))) none undef) w2
   have sz:w1.heap.size≤w2.heap.size:=uw.size
   refine ⟨GD,i2,gd3,_,w3,.inl ZF,gv.trans W7,?_⟩
   rw [dd3]
   exact last (b1:=w.heap.size) (b2:=w2.heap.size) c9 N2 vE (by omega) (by omega) (gv.trans W7) (Am dn3 N4) (by show xw _ d2 _ d1=_; rw [S4 jx]; exact ID) ID (S5.jy W7) ZG IF
 ·rw [List.mem_singleton.1 hi]
  obtain ⟨gd,dd,dn,zt,w1,kz,hC,bg,IF⟩:=B2.alloc r w
  have fl:an [] w0 w1:=hS.trans hC
  have vE:w0.heap.size≤w.heap.size:=hS.size
  have lt1:=bg.lt
  have N4:=Am (v:=.pointer (some ⟨w.heap.size,0,none⟩)) dn ha
  refine ⟨GD,i2,gd,_,w1,.inl kz,fl,?_⟩
  rw [dd]
  refine Hw.all hd (yw c3) (by simp) fun i hi=>?_
  rw [List.mem_singleton.1 hi]
  obtain ⟨W4,W5,W6,N3,w2,AW,uw,Ml,Gq⟩:=B1.alloc (gf r (some d2) (.pointer (some ⟨w.heap.size,0,none⟩))) w1
  refine ⟨IE,i1,W4,_,w2,.inl AW,fl.trans uw,?_⟩
  rw [W5]
  exact two (b1:=w1.heap.size) (b2:=w.heap.size) c5 c8 W3 (by omega) vE (by omega) (fl.trans uw) (Am W6 N4) ID (by show xw _ d1 _ d2=_; rw [S4 (Ne.symm jx)]; exact ID) Ml (bg.jy uw) Gq IF
end
section
variable {R S:Type} {P:Program} {cx:Cx R} {K:dj R S} {l:LO}
theorem acI {id:Nat} (qs:LN) (a1 a2 s1 s2 d1 d2:Nat) {W8:LO} {Γ:QE} {fr oq:Fr} {IE GD GF GG:Oper} {t1 t2:TI} {GH GI:LV} {m:Option (Out S R)}
  (hB:(P.follows .mixedOrders && df cx.n l && Region.noSelect l.toArray && Mk l a1 a2 s1 s2 qs (Array.replicate l.length false) && Nat.beq l.length (qs.length+4) && !(Nat.beq d1 d2))=true)
  (hq:W8=pick l qs) (e1:l[a1]? = some IE) (e2:l[a2]? = some GD) (e3:l[s1]? = some GF) (e4:l[s2]? = some GG) (h2:QA P Γ (.q W8 fr) oq) (B1:A8 P Γ oq d1 IE GF t1 GH) (B2:A8 P Γ oq d2 GD GG t2 GI)
  (h:∀ b1 b2,D P cx (.p [(d1,.pointer (some ⟨b1,0,none⟩)),(d2,.pointer (some ⟨b2,0,none⟩))] [.row b1 GH t1,.row b2 GI t2] oq Γ fun fr Γ=>.n K Γ fr m)):Bx (nq P cx (.dr id l K Γ fr m)):=by
 simp only [Bool.and_eq_true] at hB
 obtain ⟨⟨⟨⟨⟨b1,b2⟩,b3⟩,b4⟩,b5⟩,b6⟩:=hB
 rw [na]
 intro B o ho r w ha ry
 obtain ⟨Z,F,hS,hG⟩:=ry
 have jx:d1≠d2:=fun hd=>by rw [hd,Nat.beq_refl] at b6; cases b6
 refine o3.W b1 (Hw.start (S:=an [] { w with drawn:=w.drawn+1 }) ?_)
 have hCd:an [] w { w with drawn:=w.drawn+1 }:=an.drew _ _
 have Eu:∀ w',an [] { w with drawn:=w.drawn+1 } w'→SA Z w' Γ [] F:=fun w' hC=>(hS.jy hCd).jy hC
 rw [show l.length=qs.length+4 from Nat.eq_of_beq_eq_true b5] at b4 ⊢
 subst hq
 refine Hw.W0 (K:=fun r'=>cu r' oq) b2 b3 (fun c r w h=>zV c h) (an.refl _ _) (fun L r' hc gx=>?_) qs _ r b4 (QA.sound (fun w' hC=>⟨[],F,Eu w' hC⟩) h2 r ha)
 refine tree b2 Eu B1 B2 jx e1 e2 e3 e4 (fun c1 c2 r2 w2 k1 k2 k3 hC ha2 p1 p2 r1 rr2=>?_) hc (an.refl _ _) gx
 have uw:an [] w w2:=hCd.trans hC
 replace k1:w.heap.size≤c1:=k1
 replace k2:w.heap.size≤c2:=k2
 have BQ:HL Z w2 [.row c1 GH t1,.row c2 GI t2] ([c1]++([c2]++[])):=.own (f:=[c1]) ⟨rfl,r1⟩ (.own (f:=[c2]) ⟨rfl,rr2⟩ .nil)
 obtain ⟨F3,q1,q2⟩:=HL.build BQ (Eu w2 hC)
 have bc:∀ b∈F,b < w.heap.size:=fun b hb=>hS.lt b hb
 have np:Gd B Z (([c1]++([c2]++[]))++F) w2:=by
  refine ⟨?_,?_,fun b hb=>Nat.lt_of_lt_of_le (hG.tv b hb) uw.size,?_,hG.x9,hG.yc,hG.lq.then uw fun i hi=>nomatch hi⟩
  ·refine List.nodup_append.2 ⟨by simpa using k3,hG.nd,fun a N5 b hb nu=>?_⟩
   have:=bc b hb
   rcases List.mem_cons.1 N5 with rfl | N5
   ·omega
   ·have:a=c2:=by simpa using N5
    omega
  ·intro b hb hz
   rcases List.mem_append.1 hb with hb | hb
   ·have:=hG.tv b hz
    rcases List.mem_cons.1 hb with rfl | hb
    ·omega
    ·have:b=c2:=by simpa using hb
     omega
   ·exact hG.apart b hb hz
  ·intro b hb
   have hz:=hG.lq.size
   rcases List.mem_append.1 hb with hb | hb
   ·rcases List.mem_cons.1 hb with rfl | hb
    ·exact .inr (by omega)
    ·have:b=c2:=by simpa using hb
     exact .inr (by omega)
   ·exact hG.low b hb
 refine (h c1 c2).sound B o ho r2 w2 ?_ ⟨Z,F3,q2,np.perm q1⟩
 exact rm (g:=[(d1,.pointer (some ⟨c1,0,none⟩)),(d2,.pointer (some ⟨c2,0,none⟩))]) (fun p hp=>by
  rcases List.mem_cons.1 hp with rfl | hp
  ·exact p1
  ·rw [List.mem_singleton.1 hp]; exact p2) ha2
end
end Go.Dk
namespace Go.Dk
open Go Go.Li
def W9 (i:Nat) (o:Oper):Oper:=⟨o.dst,o.op,o.type,o.pos,o.after.push ⟨i,.data⟩,o.guard⟩
def u3 (i:Nat):Nat→List Oper→List Oper
 | _,[]=>[]
 | 0,o :: l=>W9 i o :: l
 | j+1,o :: l=>o :: u3 i j l
theorem FK (i:Nat):∀ (j:Nat) (l:LO),(u3 i j l).length=l.length
 | _,[]=>by cases ‹Nat› <;> rfl
 | 0,_ :: _=>rfl
 | j+1,o :: l=>by unfold u3; rw [List.length_cons,List.length_cons,FK i j l]
theorem CV (i:Nat):∀ (j:Nat) (l:LO) (k:Nat),(u3 i j l)[k]? = (l[k]?).map fun o=>if k=j then W9 i o else o
 | 0,[],k=>by simp [u3]
 | j+1,[],k=>by simp [u3]
 | 0,o :: l,0=>by simp [u3]
 | 0,o :: l,k+1=>by simp [u3]
 | j+1,o :: l,0=>by simp [u3]
 | j+1,o :: l,k+1=>by
  unfold u3
  rw [List.getElem?_cons_succ,List.getElem?_cons_succ,CV i j l k]
  simp
section
variable {P:Program} {l:LO} {Q:Exit→Act→World→Prop} {i j:Nat}
theorem J5 (tmps:Array Value):yielded (u3 i j l).toArray tmps=yielded l.toArray tmps:=by
 funext k
 simp only [yielded]
 rw [List.getElem?_toArray,List.getElem?_toArray,CV]
 cases l[k]? with
 | none=>rfl
 | some o=>
  simp only [Option.map_some,Option.bind_some]
  by_cases h:k=j
  ·rw [if_pos h]; rfl
  ·rw [if_neg h]
theorem IG {k:Nat} {K:Act→World→Prop} {a:Act} {w:World}:wpOp P (u3 i j l).toArray Q k K a w=wpOp P l.toArray Q k K a w:=by
 unfold wpOp
 rw [J5,List.getElem?_toArray,List.getElem?_toArray,CV]
 cases l[k]? with
 | none=>rfl
 | some o=>
  simp only [Option.map_some]
  by_cases h:k=j
  ·rw [if_pos h]; rfl
  ·rw [if_neg h]
theorem GJ {L:Array Bool} (hL:L.getD i false=true):Region.ready .any (u3 i j l).toArray L=Region.ready .any l.toArray L:=by
 unfold Region.ready
 rw [List.size_toArray,List.size_toArray,FK]
 refine List.filter_congr fun k _=>?_
 rw [List.getElem?_toArray,List.getElem?_toArray,CV]
 cases l[k]? with
 | none=>rfl
 | some o=>
  simp only [Option.map_some]
  by_cases h:k=j
  ·rw [if_pos h]
   simp only [W9,Array.all_push,hL,Bool.or_true,Bool.and_true]
  ·rw [if_neg h]
theorem GK:∀ (fuel:Nat) (L:Array Bool) (a:Act) (w:World),L.getD i false=true→wpAny P .any (u3 i j l).toArray Q fuel L a w→wpAny P .any l.toArray Q fuel L a w
 | 0,L,a,w,hL,h=>by
  unfold wpAny at h ⊢
  rw [GJ hL] at h
  exact h
 | fuel+1,L,a,w,hL,h=>by
  unfold wpAny at h ⊢
  rw [GJ hL] at h
  refine ⟨h.1,fun k hk=>?_⟩
  have h2:=h.2 k hk
  rw [IG] at h2
  exact wpOp_mono (fun a' w' h'=>GK fuel _ a' w' (getD_set_true hL) h') h2
end
def Xa:Oper→Bool
 | ⟨some _,.move _,_,_,_,none⟩=>true
 | _=>false
def Mm:List (Nat×Nat)→List Oper→Bool
 | [],_=>true
 | (i,j) :: zs,l=>!(Nat.beq i j) && Nat.blt i l.length && Xa (l.getD i default) && Region.noSelect l.toArray && Region.free .any l.toArray (Array.replicate l.length false) i && (Region.ready .any l.toArray (Array.replicate l.length false)).contains i && (Region.ready .any (u3 i j l).toArray (Array.replicate l.length false)).contains i && Mm zs (u3 i j l)
def Qt:List (Nat×Nat)→List Oper→List Oper
 | [],l=>l
 | (i,j) :: zs,l=>Qt zs (u3 i j l)
section
variable {P:Program} {n:Nat} {Q:Exit→(Nat→Value)→World→Prop} {r:NV} {w w0:World}
theorem Uh {o:Oper} (h:Xa o=true) (a:Act):o.guard=none∧∃ v,(∀ w,(execOp a.eval o).run P w = .ok (.value v) w)∧∀ w,¬ o.asks P a w:=by
 obtain ⟨d,op,ty,pos,ag,g⟩:=o
 cases d <;> cases op <;> cases g <;> first | (cases h; done) | skip
 refine ⟨rfl,_,fun w=>rfl,fun w ha=>?_⟩
 have h1:=ha.1
 exact absurd (show noRoomEvent∈(#[]:Array _) from h1) (by simp)
theorem o3.acJ {i j:Nat} {l:LO} (h1:(!(Nat.beq i j) && Nat.blt i l.length && Xa (l.getD i default) && Region.noSelect l.toArray && Region.free .any l.toArray (Array.replicate l.length false) i && (Region.ready .any l.toArray (Array.replicate l.length false)).contains i && (Region.ready .any (u3 i j l).toArray (Array.replicate l.length false)).contains i)=true)
  (hp:∀ c r w,¬ Q (.panic c) r w) (h:o3 P n (u3 i j l) Q r w):o3 P n l Q r w:=by
 simp only [Bool.and_eq_true] at h1
 obtain ⟨⟨⟨⟨⟨⟨c1,c2⟩,c3⟩,c4⟩,c5⟩,c6⟩,c7⟩:=h1
 have jx:i≠j:=fun e=>by rw [e,Nat.beq_refl] at c1; cases c1
 have hi:=CU c2
 have bc:i < l.length:=Nat.lt_of_succ_le (Nat.le_of_ble_eq_true c2)
 intro a g1 g2 g3
 have H:=h a g1 g2 g3
 obtain ⟨hg,v,hv,hn⟩:=Uh (P:=P) c3 a
 rw [List.size_toArray,FK] at H
 rw [List.size_toArray]
 obtain ⟨f,hf⟩ : ∃ f,l.length=f+1:=⟨l.length - 1,by omega⟩
 have hw:Region.wanted (l.getD i default) (yielded l.toArray a.tmps)=true:=uD hg
 refine (congrArg (fun k=>wpAny P .any l.toArray _ k _ a _) hf).mpr ?_
 refine wpAny_take (by simpa using hi) c4 (by simpa using c5) (by simpa using c6) (fun c a w h=>(hp _ _ _ h.2.2).elim) (.inl ⟨hw,hv⟩) ?_
 refine GK (i:=i) (j:=j) f _ _ _ ?_ ?_
 ·have:i < (Array.replicate l.length false).size:=by simpa using bc
  simp [Array.getD,bc]
 ·have H2:=(congrArg (fun k=>wpAny P .any (u3 i j l).toArray (fun e a' w'=>a'.tmps.size=n∧a'.defers=[]∧Q e (cn a') w') k (Array.replicate l.length false) a { w with drawn:=w.drawn+1 }) hf).mp H
  have H3:=H2.2 i (by simpa using c7)
  rw [IG] at H3
  unfold wpOp at H3
  rw [show (l.toArray)[i]? = some (l.getD i default) by simpa using hi] at H3
  simp only [] at H3
  rw [if_pos hw] at H3
  rcases H3 with H3 | H3
  ·unfold Oper.wp at H3
   rw [hv] at H3
   exact H3
  ·exact absurd H3.1 (hn _)
theorem o3.S6:∀ (zs:List (Nat×Nat)) {l:LO},Mm zs l=true→(∀ c r w,¬ Q (.panic c) r w)→o3 P n (Qt zs l) Q r w→o3 P n l Q r w
 | [],_,_,_,h=>h
 | (i,j) :: zs,l,hc,hp,h=>by
  unfold Mm at hc
  rw [Bool.and_eq_true] at hc
  exact o3.acJ hc.1 hp (o3.S6 zs hc.2 hp h)
theorem N6 (k:Nat) {l:LO} (hd:df n l=true) (hp:((l.take k).all fun o=>yh o.op)=true) (hB:Region.lexTailB .any l.toArray k=true)
  (h:QL P (an [] w) l (l.take k) r fun r'=>∀ w',an [] w w'→WL P l (l.drop k) r' w' (Q .normal)):o3 P n l Q r w:=by
 intro a h1 h2 h3
 have Cn:an [] w { w with drawn:=w.drawn+1 }:=an.drew _ _
 have ry:wpStill P l.toArray { w with drawn:=w.drawn+1 } (fun a'=>wpList P l.toArray (fun e a' w'=>a'.tmps.size=n∧a'.defers=[]∧Q e (cn a') w') (l.drop k) a' { w with drawn:=w.drawn+1 }) (l.take k) a:=by
  refine QL.still (n:=n) (C:=an [] w) Cn hd (l.take k) a (A9 hd fun o ho=>List.mem_of_mem_take ho) hp h1 h2 (by rw [h3]; exact h) _ ?_
  intro a' g1 g2 g3
  exact WL.list hd _ _ _ (A9 hd fun o ho=>List.mem_of_mem_drop ho) g1 g2 (g3 _ Cn)
 unfold Region.lexTailB at hB
 simp only [Bool.and_eq_true,decide_eq_true_eq,List.size_toArray] at hB
 obtain ⟨⟨⟨⟨acK,hn⟩,hs⟩,hc⟩,Ql⟩:=hB
 have S7:(l.take k).length=k:=by rw [List.length_take]; omega
 have acL:HeadInv .any l.toArray k (Array.replicate l.length false):=
  ⟨by simp,fun j oj _ hl=>(by rw [getD_replicate_false] at hl; cases hl),fun t _ ht=>getD_in (by simpa using ht) (getD_replicate_false _ _)⟩
 have H:=wpAnyL_lex (md:=.any) (g:=l.length - k) acK hs hc (by simpa using hn) (l.take k) 0 _ a (fun j hj=>by
  rw [S7] at hj
  rw [List.getElem?_take_of_lt hj,Nat.zero_add,List.getElem?_toArray]) (by rw [S7,Nat.zero_add]) acL (by rw [S7]; exact Ql) ry
 have H2:=wpAny_of_head (Q':=fun e a' w'=>a'.tmps.size=n∧a'.defers=[]∧Q e (cn a') w') (g:=l.length - k) (fun L a' hL=>by
  have H3:=wpAny_of_seq (md:=.any) (Q':=fun e a' w'=>a'.tmps.size=n∧a'.defers=[]∧Q e (cn a') w') (l.drop k) k L a' { w with drawn:=w.drawn+1 } (fun j=>by rw [List.getElem?_drop,List.getElem?_toArray]) (by rw [List.length_drop]; exact hL.1) hL.2
  rwa [List.length_drop] at H3) _ _ _ H
 rw [S7,show k+(l.length - k)=l.length by omega] at H2
 rw [List.size_toArray]
 exact H2
end
section
variable {R S:Type} {P:Program} {cx:Cx R} {K:dj R S}
theorem Hq {id:Nat} (zs:List (Nat×Nat)) (k:Nat) {l l' ops tl:LO} {Γ:QE} {fr:Fr} {m:Option (Out S R)} (hl:l'=Qt zs l) (hB:(P.follows .mixedOrders && Mm zs l && df cx.n l' && ((l'.take k).all fun o=>yh o.op) && Region.lexTailB .any l'.toArray k)=true) (ho:ops=l'.take k) (ht:tl=l'.drop k)
  (h:D P cx (.o true l' ops (.h l' tl K) Γ fr m)):Bx (nq P cx (.dr id l K Γ fr m)):=by
 simp only [Bool.and_eq_true] at hB
 obtain ⟨⟨⟨⟨h1,h2⟩,h3⟩,h4⟩,h5⟩:=hB
 subst ho ht hl
 rw [na]
 intro B o ho r w ha hs
 exact o3.W h1 (o3.S6 zs h2 (fun c r w h=>zV c h) (N6 k h3 h4 h5 (h.sound B o ho r w ha hs)))
end
end Go.Dk
namespace Go.Dk
open Go Go.Li
section
variable {B:Bs} {P:Program} {Z Z':Nat→Prop} {w:World} {Fd F1:LN}
end
section
variable {P:Program} {S:World→Prop}
theorem Cm.mono {K K':(Nat→Value)→Prop} (hk:∀ r,K r→K' r):∀ {ops:LO} {r:NV},Cm P S ops r K→Cm P S ops r K'
 | [],_,h=>hk _ h
 | _ :: _,_,⟨hg,v,h1,h2⟩=>⟨hg,v,h1,Cm.mono hk h2⟩
end
inductive QX {R S:Type} (P:Program) (cx:Cx R) (K:dj R S) (uP:LO) (rs:List (Nat×List Value×TypeId)) (pe:QE):List av→List av→List Oper→Fr→Option (Out S R)→Prop
 | pe {e:av} {Δ Γ:QE} {ops:LO} {fr:Fr} {m:Option (Out S R)} (h:QX P cx K uP rs pe Δ (e :: Γ) ops fr m):QX P cx K uP rs pe (e :: Δ) Γ ops fr m
 | nil {Γ:QE} {fr:Fr} {m:Option (Out S R)} {vD:List (Nat×List Value×TypeId)} (h:SQ P Γ fr uP rs vD) (k:D P cx (.p [] pe fr Γ fun fr Γ=>.p [] (Mi vD) fr Γ fun fr Γ=>.n K Γ fr m)):QX P cx K uP rs pe [] Γ [] fr m
 | Np {d n:Nat} {t ty:TI} {x:OO} {a:Addr} {ds:LV} {pos:String} {ag:Array Edge} {ops:LO} {Γ:QE} {fr:Fr} {m:Option (Out S R)} [ht:LK P t (some n)] (hx:bj fr x=some (.pointer (some a))) (hw:wg Γ a n ds) (h:QX P cx K uP rs pe [] Γ ops ((d,.agg ds.toArray) :: fr) m) :
   QX P cx K uP rs pe [] Γ (⟨some d,.load t x,ty,pos,ag,none⟩ :: ops) fr m
 | HH {α V:Type} {d n:Nat} {x y:OO} {v:Value} {k:IntKind} {j:Int} {t ty:TI} {S':ai α} {cl:α→V→List Value} {en:α→V→List av} {xs:List α} {pos:String} {ag:Array Edge} {ops:LO} {Γ Γx:QE} {fr:Fr} {f:α→Option (Out S R)} [ht:Ec P t n] (hx:bj fr x=some v) (hy:bj fr y=some (.int k j))
   (hr:si Γ v false false (my S') xs uX Γx) (hs:Gn S' V cl en) (hn:S'.size=n) (h:∀ z u,QX P cx K uP rs pe (.aw (cw v n j) (cl z u) :: en z u) Γ ops ((d,.pointer (some (cw v n j))) :: fr) (f z)) :
   QX P cx K uP rs pe [] Γ (⟨some d,.indexAddr t x y,ty,pos,ag,none⟩ :: ops) fr (idx xs j>>=f)
 | lc {d:Nat} {t ty:TI} {x:OO} {a:Addr} {u:Value} {pos:String} {ag:Array Edge} {ops:LO} {Γ:QE} {fr:Fr} {m:Option (Out S R)} [ht:LK P t none] (hx:bj fr x=some (.pointer (some a))) (hw:wb Γ a u) (h:QX P cx K uP rs pe [] Γ ops ((d,u) :: fr) m) :
   QX P cx K uP rs pe [] Γ (⟨some d,.load t x,ty,pos,ag,none⟩ :: ops) fr m
 | val {d:Nat} {op:Op} {ty:TI} {u:Value} {pos:String} {ag:Array Edge} {ops:LO} {Γ:QE} {fr:Fr} {m:Option (Out S R)} (hv:VQ P Γ fr op u) (h:QX P cx K uP rs pe [] Γ ops ((d,u) :: fr) m):QX P cx K uP rs pe [] Γ (⟨some d,op,ty,pos,ag,none⟩ :: ops) fr m
section
variable {R S:Type} {P:Program} {cx:Cx R} {K:dj R S} {uP:LO} {rs:List (Nat×List Value×TypeId)} {pe:QE} {Z:Nat→Prop}
theorem QX.sound {w0:World} {H:LN} (hz:∀ b∈H,¬ Z b) {Δ Γ:QE} {ops:LO} {fr:Fr} {m:Option (Out S R)} (h:QX P cx K uP rs pe Δ Γ ops fr m):∀ {o:Out S R} {F:LN},m=some o→(∀ b∈H,b ∉ F)→SA Z w0 (Δ.reverse++Γ) [] F→∀ r,cu r fr→
  Cm P (an H w0) ops r fun r'=>∃ Γ' oq vD m' F',F'.Perm F∧m'=some o∧cu r' oq∧SA Z w0 Γ' [] F'∧SQ P Γ' oq uP rs vD∧D P cx (.p [] pe oq Γ' fun fr Γ=>.p [] (Mi vD) fr Γ fun fr Γ=>.n K Γ fr m'):=by
 induction h with
 | @pe e Δ Γ ops fr m _ ih=>
  intro o F hm hF hS r ha
  refine ih hm hF ?_ r ha
  rw [List.reverse_cons,List.append_assoc] at hS
  exact hS
 | @nil Γ fr m vD h k=>exact fun hm hF hS r ha=>⟨Γ,fr,vD,m,_,.refl _,hm,ha,hS,h,k⟩
 | @val d op ty u pos ag ops Γ fr m hv _ ih=>
  intro o F hm hF hS r ha
  refine ⟨rfl,u,fun w hC=>?_,ih hm hF hS _ (au ha)⟩
  exact hv.sound ((SA.e7 hC hz (fun _ _=>List.not_mem_nil) hF hS)) ha (some d) ty pos ag none w (an.refl _ _)
 | @Np d n t ty x a ds pos ag ops Γ fr m ht hx hw _ ih=>
  intro o F hm hF hS r ha
  refine ⟨rfl,_,fun w hC=>?_,ih hm hF hS _ (au ha)⟩
  obtain ⟨h1,h2⟩:=hw.sound (SA.e7 hC hz (fun _ _=>List.not_mem_nil) hF hS)
  exact Lg ht.h h1 (aY ha hx) h2 w (an.refl _ _)
 | @lc d t ty x a u pos ag ops Γ fr m ht hx hw _ ih=>
  intro o F hm hF hS r ha
  refine ⟨rfl,u,fun w hC=>?_,ih hm hF hS _ (au ha)⟩
  exact Ld ht.h (hw.sound (SA.e7 hC hz (fun _ _=>List.not_mem_nil) hF hS)) (aY ha hx) w (an.refl _ _)
 | @HH α V d n x y v k j t ty S' cl en xs pos ag ops Γ Γx fr f ht hx hy hr pg hn _ ih=>
  intro o F hm hF hS r ha
  replace pg:SO S' V cl en:=by cases pg; assumption
  obtain ⟨z,IH,hm⟩:=bind_some hm
  replace IH:=r7 IH
  obtain ⟨e,i,h1,h2,h3⟩:=ht.h
  obtain ⟨dx,_,⟨⟨f0,Gt,vZ⟩,_⟩,_⟩:=hr.sound hS
  have hZ:∀ b∈f0,Z b:=fun b hb=>(vZ b hb).elim id id
  obtain ⟨⟨a,c,hv⟩,bc,cs,f1,ed,Nz,ke⟩:=wk Gt j IH.1 IH.2
  have tP:(my S').size=n:=hn
  rw [tP] at ke
  obtain ⟨u,rfl,tS⟩:=pg.op ed.2
  have hblk:Z (cw v n j).block:=by
   obtain ⟨base,cap,ma,gx⟩:=Gt
   rcases gx with ⟨rfl,_⟩ | ⟨b,off,cr,e',fz,f',rfl,_,rfl,_⟩
   ·simp at bc; omega
   ·obtain rfl:v = .slice (some ⟨b,off,none⟩) xs.length cap:=by simpa using ma
    have:(cw (.slice (some ⟨b,off,none⟩) xs.length cap) n j).block=b:=by unfold cw; rw [wL]
    rw [this]; exact hZ b (by simp)
  have HS:fact Z w0 [] (.aw (cw v n j) (cl z u)):=⟨fun i u' hi=>ke i u' hi,fun _=>hblk⟩
  have de:HL Z w0 (.aw (cw v n j) (cl z u) :: en z u) []:=.fact HS (wi (tS Z fun b hb=>hZ b (Nz b hb)))
  obtain ⟨F',hp,gv⟩:=de.build hS
  have hpF:F'.Perm F:=by simpa using hp
  refine ⟨rfl,.pointer (some (cw v n j)),fun w hC=>?_,?_⟩
  ·rw [me h1 h2 ((aY ha hx).trans hv) (aY ha hy) IH.1 (by omega),h3,hv]
   rfl
  ·have hq:=ih z u (F:=F') hm (fun b hb h=>hF b hb (hpF.mem_iff.1 h)) gv _ (au ha)
   refine Cm.mono ?_ hq
   rintro r' ⟨Γ',oq,vD,m',F3,q0,q1,q2,q3,q4,q5⟩
   exact ⟨Γ',oq,vD,m',F3,q0.trans hpF,q1,q2,q3,q4,q5⟩
end
theorem FO.hl {Z:Nat→Prop} {w:World} {Δ:QE} (h:FO Δ):∀ {F:LN},HL Z w Δ F→F=[]:=by
 induction h with
 | nil=>intro F h; cases h; rfl
 | rd _ ih=>intro F h; cases h with | own h k=>exact h.elim | fact h k=>exact ih k
 | aw _ ih=>intro F h; cases h with | own h k=>exact h.elim | fact h k=>exact ih k
section
variable {P:Program} {n:Nat} {l:LO} {Q:Exit→(Nat→Value)→World→Prop} {S:World→Prop}
end
section
variable {R S:Type} {P:Program} {cx:Cx R} {K:dj R S} {l:LO}
end
theorem St.acM {α:Type} {E:ai α} {T:ai (List α)} {v:Value} {x:List α} {B:Bs} {Γ Γ1:QE} {w:World} (h1:dh Γ (.own T v x) Γ1) (hr:RT T (bG E)) (hs:St B Γ w):St B (.rd false (bG E) v x :: Γ1) w:=by
 obtain ⟨Z,F,hS,hG⟩:=hs
 obtain ⟨f,F',hp,_,gv⟩:=(Eb.own (E:=E) h1 hr).sound hS
 have o9:(F'++f).Perm F:=List.perm_append_comm.trans hp
 exact ⟨_,F',gv,Gd.freeze (hG.perm o9) fun b hb=>hS.lt b (hp.mem_iff.1 (List.mem_append_left _ hb))⟩
section
variable {R:Type} {P:Program} {cx:Cx R}
theorem acN {M α β:Type} {d b:Nat} {s x:OO} {sv u:Value} {T:ai (List β)} {E1:ai β} {y:List β} {t e e' ty:TI} {E:ai α} {bt:Nat} {all l:LO} {rk:RK R M} {Γ Γ1:QE} {fr:Fr} {m:Option M} (h1:dh Γ (.own T u y) Γ1) (hr:RT T (bG E1))
  (h:D P cx (.Nh false e' E e t bt u b sv s x d ty all l rk (.rd false (bG E1) u y :: Γ1) fr m)):D P cx (.ap (aI e' E) e t bt u b sv s x d ty all l rk Γ fr m):=by
 refine D.of ?_
 intro q1 q2 q3 B o ho r w ha hs
 exact h.sound q1 q2 q3 B o ho r w ha (St.acM h1 hr hs)
end
end Go.Dk
namespace Go.Li
open Go
section
variable {P:Program} {n:Nat} {Q:Exit→(Nat→Value)→World→Prop} {r:NV} {w:World} {R:Type}
theorem Ui {c:Code} (hg:∀ l r w,¬ Q (.goto l) r w) (h:W P n c Q r w):W P n (.scope c) Q r w:=by
 intro a h1 h2 h3
 refine wp_scope_straight (wp_mono (h a h1 h2 h3) ?_)
 rintro e a' w' ⟨g1,g2,g3⟩
 cases e
 case goto l=>exact hg _ _ _ g3
 all_goals exact ⟨g1,g2,g3⟩
theorem Uj {l:Nat} (h:Q .normal r w):W P n (.label l) Q r w:=fun a h1 h2 h3=>wp_label ⟨h1,h2,by rw [h3]; exact h⟩
end
end Go.Li
namespace Go.Dk
open Go Go.Li
section
variable {R:Type} {P:Program} {cx:Cx R} {S:Type}
theorem Mn {B:Bs} {b:Kb R S} {o:Out S R} {l:Nat} {r:NV} {w:World} : ¬ Hk P cx B b o (.goto l) r w:=by
 cases b <;> cases o <;> exact fun h=>h
theorem Mo {n l:Nat} {Q:Exit→(Nat→Value)→World→Prop} {r:NV} {w:World} (h : ¬ Q (.goto l) r w):∀ gq,¬ AR P n Q gq (.goto l) r w:=by
 intro gq
 induction gq with
 | nil=>exact h
 | cons a gq ih=>cases a <;> exact ih
theorem acO {K:dj R S} {c:Code} {b e:Nat} {cs:LV} {Γ Γ1:QE} {fr:Fr} {m:Option (Out S R)} (h1:dh Γ (.row b cs e) Γ1) (h:D P cx (.c K c (.aw ⟨b,0,none⟩ cs :: Γ1) fr m)):D P cx (.c K c Γ fr m):=by
 refine D.of ?_
 intro B o ho r w ha hs
 refine h.sound B o ho r w ha ?_
 obtain ⟨Z,F,hS,hG⟩:=hs
 obtain ⟨f,F1,hp,⟨rfl,bg⟩,fl⟩:=h1.sound hS
 have u2:(F1++[b]).Perm F:=List.perm_append_comm.trans hp
 have qi:=Gd.freeze (hG.perm u2) fun c hc=>by rw [List.mem_singleton.1 hc]; exact bg.lt
 exact ⟨sk Z [b],F1,SA.fact (fl.mono (fun _ h=>.inl h) fun _ h=>h) ⟨bg.at,fun _=>.inr (by simp)⟩,qi⟩
theorem ZH {M:Type} {all l:LO} {rk:RK R M} {b e:Nat} {cs:LV} {Γ Γ1:QE} {fr:Fr} {m:Option M} (h1:dh Γ (.row b cs e) Γ1) (h:D P cx (.o false all l rk (.aw ⟨b,0,none⟩ cs :: Γ1) fr m)):D P cx (.o false all l rk Γ fr m):=by
 refine D.of ?_
 intro B o ho r w ha hs
 refine h.sound B o ho r w ha ?_
 obtain ⟨Z,F,hS,hG⟩:=hs
 obtain ⟨f,F1,hp,⟨rfl,bg⟩,fl⟩:=h1.sound hS
 have u2:(F1++[b]).Perm F:=List.perm_append_comm.trans hp
 have qi:=Gd.freeze (hG.perm u2) fun c hc=>by rw [List.mem_singleton.1 hc]; exact bg.lt
 exact ⟨sk Z [b],F1,SA.fact (fl.mono (fun _ h=>.inl h) fun _ h=>h) ⟨bg.at,fun _=>.inr (by simp)⟩,qi⟩
theorem ZI {M α:Type} {all l:LO} {rk:RK R M} {T E:ai α} {v:Value} {y:α} {Γ Γ1:QE} {fr:Fr} {m:Option M} (h1:dh Γ (.own T v y) Γ1) (hr:RT T E) (h:D P cx (.o false all l rk (.rd false E v y :: Γ1) fr m)):D P cx (.o false all l rk Γ fr m):=by
 refine D.of ?_
 intro B o ho r w ha hs
 refine h.sound B o ho r w ha ?_
 obtain ⟨Z,F,hS,hG⟩:=hs
 obtain ⟨f,F1,hp,hO,fl⟩:=h1.sound hS
 have u2:(F1++f).Perm F:=List.perm_append_comm.trans hp
 have qi:=Gd.freeze (hG.perm u2) fun c hc=>ai.lt _ hO c hc
 exact ⟨sk Z f,F1,SA.fact (fl.mono (fun _ h=>.inl h) fun _ h=>h) ⟨f,hr.le.le hO,fun c hc=>.inr hc⟩,qi⟩
theorem ZJ {M α:Type} {T E:ai α} (d:Nat) {op:Op} {ty:TI} {pos:String} {ag:Array Edge} {all l:LO} {rk:RK R M} {v:Value} {y:α} {Γ Γ1:QE} {fr:Fr} {m:Option M} (h1:dh Γ (.own T v y) Γ1) (hr:RT T E) (h:D P cx (.e false op (some d) ty all l rk (.rd false E v y :: Γ1) fr m)):D P cx (.o false all (⟨some d,op,ty,pos,ag,none⟩ :: l) rk Γ fr m):=
 ZI h1 hr (.plain h)
theorem N8 {S1 V W A:Type} (k:Nat) (a0:A) (Δ:A→S1→V→W→List av) (φ:A→S1→V→W→Fr) (v0:V) (w0:W) (f2:Fr) {gq:List KI} {kb:Kb R S} {c:Code} {s0:S1} {body:S1→Option (Out S1 R)} {f:S1→Option (Out S R)} {Γ Γ1 Γ2:QE} {fr:Fr}
  (ha:sg fr (φ a0 s0 v0 w0)) (hf:sg fr f2) (h0:EO Γ (Δ a0 s0 v0 w0) Γ1) (hn:OW Γ (Δ a0 s0 v0 w0)) (hs:jz Γ1 Γ2)
  (hb:∀ s v w,D P cx (.p (φ a0 s v w) (Δ a0 s v w) f2 Γ2 fun fr Γ=>.c ⟨[],.loop (V×W) k (fun s v=>Δ a0 s v.1 v.2) (fun s v=>φ a0 s v.1 v.2) Γ2 f2⟩ c Γ fr (body s)))
  (hk:∀ s v w,D P cx (.p (φ a0 s v w) (Δ a0 s v w) f2 Γ2 fun fr Γ=>.mn ⟨gq,kb⟩ Γ fr (f s))):Bx (nq P cx (.bk true k ⟨gq,kb⟩ (.loop c) Γ fr (ae (ab k (Li.af body s0)) f))):=
 xJ k (Δ a0) (φ a0) v0 w0 f2 ha hf h0 hn hs hb hk
theorem scp {K:dj R S} {c:Code} {Γ:QE} {fr:Fr} {m:Option (Out S R)} (h:D P cx (.c K c Γ fr m)):Bx (nq P cx (.c K (.scope c) Γ fr m)):=by
 rw [na]
 exact fun B o ho r w ha hs=>Ui (fun l r w=>Mo Mn _) (h.sound B o ho r w ha hs)
theorem ny {K:dj R S} {l:Nat} {Γ:QE} {fr:Fr} {m:Option (Out S R)} (h:D P cx (.n K Γ fr m)):Bx (nq P cx (.c K (.label l) Γ fr m)):=by
 rw [na]
 exact fun B o ho r w ha hs=>Uj (h.sound B o ho r w ha hs)
section
variable {S1 V:Type} {k j:Nat} {Δ:S1→V→List av} {φ:S1→V→Fr} {Γ2 Γ Γ1 Γ3:QE} {f2 fr:Fr} {s:S1} {v:V} (hv:vh V v) (ha:sg fr (φ s v)) (hf:sg fr f2) (h0:EO Γ (Δ s v) Γ1) (hw:OW Γ (Δ s v)) (h1:EO Γ1 Γ2 Γ3) (h2:MF Γ none Γ2)
include hv ha hf h0 hw h1 h2
theorem nlx:Bx (nq P cx (.n ⟨[],.lx V k j Δ φ Γ2 f2⟩ Γ fr (some (.norm s)))):=by
 have _:=hv
 rw [na]
 intro B o ho r w qj hs
 cases ho
 exact ⟨v,rm (ha.all qj) (hf.sound qj),hs.again h0 hw h1 h2⟩
theorem xlx:Bx (nq P cx (.x k ⟨[],.lx V k j Δ φ Γ2 f2⟩ Γ fr (some (.exit k s)))):=by
 have _:=hv
 rw [na]
 intro B o ho r w qj hs
 cases ho
 refine ⟨rfl,?_⟩
 show (bif Nat.beq k k then _ else _)
 rw [show Nat.beq k k=true from Nat.beq_refl k]
 exact ⟨v,rm (ha.all qj) (hf.sound qj),hs.again h0 hw h1 h2⟩
theorem xlo (hj:Nat.beq j k=false):Bx (nq P cx (.x j ⟨[],.lx V k j Δ φ Γ2 f2⟩ Γ fr (some (.exit j s)))):=by
 have _:=hv
 rw [na]
 intro B o ho r w qj hs
 cases ho
 refine ⟨rfl,?_⟩
 show (bif Nat.beq j k then _ else bif Nat.beq j j then _ else _)
 rw [hj,show Nat.beq j j=true from Nat.beq_refl j]
 exact ⟨v,rm (ha.all qj) (hf.sound qj),hs.again h0 hw h1 h2⟩
end
theorem S8 {S1 V:Type} (k j:Nat) (Δ:S1→V→List av) (φ:S1→V→Fr) (v0:V) (f2:Fr) {gq:List KI} {kb:Kb R S} {c:Code} {s0:S1} {body:S1→Option (Out S1 R)} {f g:S1→Option (Out S R)} {Γ Γ1 Γ2:QE} {fr:Fr}
   (hj:Nat.beq j k=false) (ha:sg fr (φ s0 v0)) (hf:sg fr f2) (h0:EO Γ (Δ s0 v0) Γ1) (hn:OW Γ (Δ s0 v0)) (hs:jz Γ1 Γ2)
   (hb:∀ s v,D P cx (.p (φ s v) (Δ s v) f2 Γ2 fun fr Γ=>.c ⟨[],.lx V k j Δ φ Γ2 f2⟩ c Γ fr (body s)))
   (hk:∀ s v,D P cx (.p (φ s v) (Δ s v) f2 Γ2 fun fr Γ=>.mn ⟨gq,kb⟩ Γ fr (f s)))
   (hg:∀ s v,D P cx (.p (φ s v) (Δ s v) f2 Γ2 fun fr Γ=>.x j ⟨gq,kb⟩ Γ fr (g s))):Bx (nq P cx (.bk true k ⟨gq,kb⟩ (.loop c) Γ fr (GL k j (Li.af body s0) f g))):=by
 rw [na]
 intro B o ho r w qj ry
 cases hl:Li.af body s0 with
 | none=>rw [hl] at ho; cases ho
 | some o1=>
  rw [hl] at ho
  refine vC (II (N:=LI B Δ φ Γ2 f2) (X:=fun i s r w=>bif Nat.beq i j then LI B Δ φ Γ2 f2 s r w else False) (T:=TT P cx B) (KT (LI B Δ φ Γ2 f2) (fun s r w ⟨v,h1,h2⟩ o ho=>(hb s v).sound B o ho r w h1 h2) hl ⟨v0,rm (ha.all qj) (hf.sound qj),ry.enter h0 hn hs⟩)) ?_
  intro e r' w' hq
  cases o1 with
  | norm s=>cases ho
  | ret z=>cases ho; cases e <;> first | exact hq.elim | exact wM hq
  | exit i s=>
   unfold GL at ho
   dsimp only at ho
   unfold FL at hq
   dsimp only at hq
   cases hi:Nat.beq i k with
   | true=>
    rw [hi] at ho hq
    cases e <;> first | exact hq.elim | skip
    obtain ⟨v,h1,h2⟩:=hq
    exact (hk s v).sound B o ho r' w' h1 h2
   | false=>
    rw [hi] at ho hq
    cases s8:Nat.beq i j with
    | false=>rw [s8] at ho; cases ho
    | true=>
     rw [s8] at ho
     cases e with
     | exit i'=>
      obtain ⟨rfl,hq⟩:=hq
      rw [s8] at hq
      obtain ⟨v,h1,h2⟩:=hq
      obtain rfl:=Nat.eq_of_beq_eq_true s8
      exact (hg s v).sound B o ho r' w' h1 h2
     | _=>exact hq.elim
end
abbrev rI:Value→List Int→av:=.rd false (bG (aL .i64))
abbrev rJ:Value→List (List Int)→av:=.rd false (bG (bG (aL .i64)))
class FE (p:Prop):Prop where
 u:True
instance {o:Bool} {a b:QE}:FE (ER o a b):=⟨trivial⟩
instance {a:QE} {b:LV}:FE (we a b):=⟨trivial⟩
instance {a b c:QE}:FE (EF a b c):=⟨trivial⟩
instance {a b c:QE}:FE (EO a b c):=⟨trivial⟩
instance {a b:QE}:FE (EP a b):=⟨trivial⟩
instance {a c d:LV} {b:Nat}:FE (uM a b c d):=⟨trivial⟩
instance {a b:Nat} {c d:LV}:FE (vj a b c d):=⟨trivial⟩
instance {a:LN} {b:Option (Bool×Nat×Value)} {c d:Fr}:FE (Kp a b c d):=⟨trivial⟩
instance {V:Type} {v:V}:FE (vh V v):=⟨trivial⟩
instance {a:QE} {b:Addr} {c:Nat} {d:LV}:FE (wg a b c d):=⟨trivial⟩
theorem fe {p:Prop} [FE p] (h:p):p:=h
end Go.Dk
namespace Go.Dk
open Go Go.Li
theorem Uk {P:Program} {g:FuncId} {vs:LV} {Δ:QE} {β:Type} {m:Option β} {ow:Bool} {rt:β→Unit→List Value} (hc:Ct P g ow m vs Δ rt (fun _ _=>[])) {w:World} (hl:HL (fun b=>b < w.heap.size) w Δ []) {y:β} (hy:m=some y) :
  Calls P g vs.toArray w fun e w'=>e = .returned (tH (rt y ()))∧an [] w w':=by
 rw [tI] at hc
 refine (hc.2 w _ [] hl List.nodup_nil (fun _ h=>absurd h List.not_mem_nil) (fun _ h=>h) y hy).mono ?_
 rintro e w' ⟨_,he,Z,F,_,hg⟩
 exact ⟨he,hg.lq⟩
theorem Ul {w:World} {α:Type} {T:ai α} {v:Value} {x:α} {f:LN} (h:T.rep w.heap [v] x f):fact (fun b=>b < w.heap.size) w [] (.rd false T v x):=⟨f,h,fun b hb=>T.lt h b hb⟩
end Go.Dk
