/- A region that draws its order: its head in any order, whatever it holds, its tail quiet and behind all of the head. No condition. -/
import Derived.Test.YtbhhmalgcnhniaaGreatDg
import Derived.Deep.Quiet
import Derived.Laws.Slices
import Derived.OrdersHeld
import Derived.Scope
namespace Go.Li
open Go
section
variable {P:Program} {n:Nat} {Q:Exit→(Nat→Value)→World→Prop} {r0:NV} {w0:World} {l:LO} {S:List ir}
def yG (l:LO) (m:Nat):Bool:=
 ((List.range l.length).all fun i=>((l.getD i default).after.toList.filter (Region.binds .any)).all fun e=>Nat.blt e.on i) &&
 ((List.range l.length).all fun i=>Nat.blt i m || (List.range m).all fun j=>((cb l).getD i []).contains j) &&
 z6 ((l.take m).filterMap (·.dst)) && Region.noSelect l.toArray && Region.lexFrom .any l.toArray (l.length - m) m (List.replicate m true++List.replicate (l.length - m) false).toArray
theorem JF {m:Nat} (h:yG l m=true):∀ (i:Nat) (o:Oper),l[i]? = some o→∀ e∈o.after.toList.filter (Region.binds .any),e.on < i:=by
 simp only [yG,Bool.and_eq_true,List.all_eq_true,List.mem_range] at h
 intro i o ho e he
 have hi:i < l.length:=(List.getElem?_eq_some_iff.1 ho).1
 have:=h.1.1.1.1 i hi e (by rw [List.getD_eq_getElem?_getD,ho]; exact he)
 exact Nat.lt_of_succ_le (Nat.le_of_ble_eq_true this)
theorem Rm {m:Nat} {U:LL} {H:LN} {N:Nat→Prop} (hd:dp n l=true) (hA:yG l m=true) (F8:m≤l.length)
  (hS:S.length=m)
  (hH:∀ b∈H,b < w0.heap.size) (hU:((List.range m).all fun i=>(U.getD i []).all fun u=>Nat.beq u l.length || ((cb l).getD i []).contains u)=true)
  (hN:∀ b,N b→b < w0.heap.size∧b ∉ H)
  (qi:∀ (i:Nat) (s:ir),S[i]? = some s→∀ f F (w w':World) (r r':NV) v,ao F w w'→(∀ b∈f,b ∉ F)→(∀ b∈F,¬ N b)→(∀ j∈(cb l).getD i [],∀ t,bw l j=some t→r' t=r t)→s.V f w r v→s.V f w' r' v)
  (Ob:∀ i,i < m→kh P l m S U r0 w0 H i)
  (next:∀ g r w,vM l m S U r0 w0 H (fun j=>j < m) g r w→QL P (ao [] w) l (l.drop m) r fun r'=>∀ w',ao [] w w'→Q .normal r' w') :
  nv P n l Q r0 w0:=by
 simp only [yG,Bool.and_eq_true,List.all_eq_true,List.mem_range,Bool.or_eq_true] at hA
 obtain ⟨⟨⟨⟨Tz,TA⟩,TB⟩,Ql⟩,Oc⟩:=hA
 have vm:∀ (i:Nat) (o:Oper),l[i]? = some o→∀ e∈o.after.toList.filter (Region.binds .any),e.on < i:=by
  intro i o ho e he
  have hi:i < l.length:=(List.getElem?_eq_some_iff.1 ho).1
  have:=Tz i hi e (by rw [List.getD_eq_getElem?_getD,ho]; exact he)
  exact Nat.lt_of_succ_le (Nat.le_of_ble_eq_true this)
 have DL:∀ i,m≤i→i < l.length→∀ j,j < m→j∈(cb l).getD i []:=by
  intro i h1 h2 j hj
  rcases TA i h2 with h | h
  ·exact absurd (Nat.lt_of_succ_le (Nat.le_of_ble_eq_true h)) (Nat.not_lt.2 h1)
  ·have:=h j hj
   simpa using this
 have TC:∀ i,i < m→∀ u∈U.getD i [],u=l.length∨u∈(cb l).getD i []:=by
  intro i hi u hu
  simp only [List.all_eq_true,List.mem_range] at hU
  have:=hU i hi u hu
  simpa using this
 have dw:=Ek _ (xu TB)
 have pY:=z7 l vm
 intro a h1 h2 h3
 let Cl (L:Array Bool):Prop:=L.size=l.length∧∀ j o,l[j]? = some o→L.getD j false=true→∀ e∈o.after.toList.filter (Region.binds .any),L.getD e.on false=true
 have jr:∀ L,Cl L→∀ i j,(∀ o,l[i]? = some o→∀ e∈o.after.toList.filter (Region.binds .any),L.getD e.on false=true)→j∈(cb l).getD i []→L.getD j false=true:=by
  intro L hL i
  induction i using Nat.strongRecOn with
  | _ i ih=>
   intro j hi hj
   obtain ⟨_,o,ho,e,he,Gc⟩:=pY i j hj
   have hl:=hi o ho e he
   rcases Gc with rfl | Gc
   ·exact hl
   ·exact ih e.on (vm i o ho e he) j (fun o' cj e' rC=>hL.2 _ _ cj hl e' rC) Gc
 have mz:∀ L i,i∈Region.ready .any l.toArray L→L.getD i true=false∧∃ o,l[i]? = some o∧∀ e∈o.after.toList.filter (Region.binds .any),L.getD e.on false=true:=by
  intro L i hi
  obtain ⟨g1,o,ho,cq⟩:=mem_ready.1 hi
  refine ⟨g1,o,by simpa using ho,fun e he=>?_⟩
  have:=List.mem_filter.1 he
  exact cq e (by simpa using this.1) this.2
 have CH:∀ L i o,L.size=l.length→l[i]? = some o→L.getD i false=false→(∀ e∈o.after.toList.filter (Region.binds .any),L.getD e.on false=true)→i∈Region.ready .any l.toArray L:=by
  intro L i o hs ho hu cq
  refine mem_ready.2 ⟨?_,o,by simpa using ho,fun e he hb=>cq e (List.mem_filter.2 ⟨by simpa using he,hb⟩)⟩
  have hi:i < L.size:=by rw [hs]; exact (List.getElem?_eq_some_iff.1 ho).1
  simp [hi] at hu ⊢; exact hu
 have EX:∀ L i o,Cl L→l[i]? = some o→(∀ e∈o.after.toList.filter (Region.binds .any),L.getD e.on false=true)→Cl (L.setIfInBounds i true):=by
  intro L i o hL ho cq
  refine ⟨by rw [Array.size_setIfInBounds]; exact hL.1,fun j o' cj hj e he=>?_⟩
  by_cases qJ:i=j
  ·subst qJ
   have:o'=o:=Option.some.inj (cj.symm.trans ho)
   subst this
   exact getD_set_true (cq e he)
  ·rw [getD_set_ne false qJ] at hj
   exact getD_set_true (hL.2 j o' cj hj e he)
 have getSet:∀ (L:Array Bool) i j,L.size=l.length→i < l.length→((L.setIfInBounds i true).getD j false=true↔j=i∨L.getD j false=true):=by
  intro L i j hs hi
  by_cases qJ:i=j
  ·subst qJ
   simp [hs,hi]
  ·rw [getD_set_ne false qJ]
   constructor
   ·exact .inr
   ·rintro (h | h)
    ·exact absurd h.symm qJ
    ·exact h
 have Ge:∀ (L:Array Bool) i,L.size=l.length→i < l.length→L.getD i false=false→(L.setIfInBounds i true).toList.count false+1=L.toList.count false:=by
  intro L i hs hi hu
  have r6:i < L.toList.length:=by simpa [hs] using hi
  have Bw:L.toList[i]=false:=by
   rw [Array.getElem_toList]
   simp [hs,hi] at hu
   exact hu
  rw [Array.toList_setIfInBounds,List.count_set r6,Bw]
  have:0 < L.toList.count false:=List.count_pos_iff.2 (by rw [← Bw]; exact List.getElem_mem r6)
  rw [if_pos (by rfl),if_neg (by decide)]
  omega
 have j6:dp n (l.drop m)=true:=by
  simp only [dp,List.all_eq_true] at hd ⊢
  exact fun o ho=>hd o (List.mem_of_mem_drop ho)
 have tail:∀ (fuel:Nat) (L:Array Bool) (a:Act) (w:World),Cl L→(∀ j,L.getD j false=true↔j < m)→L.toList.count false=fuel→a.tmps.size=n→a.defers=[]→
   (QL P (ao [] w) l (l.drop m) (cn a) fun r'=>∀ w',ao [] w w'→Q .normal r' w')→wpAny P .any l.toArray (fun e a' w'=>a'.tmps.size=n∧a'.defers=[]∧Q e (cn a') w') fuel L a w:=by
  intro fuel L a w hL iT hf g1 g2 hq
  have X9:L=(List.replicate m true++List.replicate (l.length - m) false).toArray:=by
   apply Array.ext
   ·simp [hL.1]; omega
   ·intro i hi hj
    have h1:=iT i
    simp only [Array.getD_eq_getD_getElem?,Array.getElem?_eq_getElem hi,Option.getD_some] at h1
    have e:(List.replicate m true++List.replicate (l.length - m) false).toArray[i]'hj=decide (i < m):=by
     simp only [List.getElem_toArray,List.getElem_append,List.getElem_replicate,List.length_replicate]
     split
     ·rename_i h; simp [h]
     ·rename_i h; simp [h]
    rw [e]
    cases hb:L[i] with
    | false=>exact (decide_eq_false fun h=>by have:=h1.2 h; rw [hb] at this; cases this).symm
    | true=>exact (decide_eq_true (h1.1 hb)).symm
  have TD:fuel=l.length - m:=by
   rw [← hf,X9]
   simp [List.count_append,List.count_replicate]
  have q1:=QL.wpQuiet (n:=n) (l:=l) (l.drop m) a hd j6 g1 g2 hq
  have q2:=wpAnyQ_lex (md:=.any) Ql (l.drop m) m L a (fun j=>by simp [List.getElem?_drop]) (by rw [X9,List.length_drop]; exact Oc) q1
  refine wpAny_of_quiet (C:=ao [] w) (Q:=fun a'=>a'.tmps.size=n∧a'.defers=[]∧∀ w',ao [] w w'→Q .normal (cn a') w') (fun a' w' xH hh=>⟨hh.1,hh.2.1,hh.2.2 w' xH⟩) _ _ _ _ (ao.refl _ _) ?_
  rw [TD,← List.length_drop]
  exact q2
 have head:∀ (fuel:Nat) (L:Array Bool) (a:Act) (w:World) (g:Nat→List Nat),Cl L→(∀ j,L.getD j false=true→j < m)→L.toList.count false=fuel→a.tmps.size=n→a.defers=[]→
   vM l m S U r0 w0 H (fun j=>L.getD j false=true) g (cn a) w→wpAny P .any l.toArray (fun e a' w'=>a'.tmps.size=n∧a'.defers=[]∧Q e (cn a') w') fuel L a w:=by
  intro fuel
  induction fuel with
  | zero=>
   intro L a w g hL tk hf g1 g2 inv
   have cq:∀ j,j < l.length→L.getD j false=true:=by
    intro j hj
    cases hb:L.getD j false with
    | true=>rfl
    | false=>have:=Ge L j hL.1 hj hb; omega
   have iT:∀ j,L.getD j false=true↔j < m:=fun j=>⟨tk j,fun h=>cq j (by omega)⟩
   refine tail 0 L a w hL iT hf g1 g2 (next g _ _ ?_)
   exact ⟨inv.lq,fun hk=>inv.z8 fun k vP=>hk k ((iT k).1 vP),inv.vg,fun j hj=>inv.vd j ((iT j).2 hj),fun j hj hk=>inv.done j ((iT j).2 hj) (fun k vP=>hk k ((iT k).1 vP)),fun j hj=>inv.rW j ((iT j).2 hj),inv.other,fun j hj b hb=>⟨(inv.fresh j ((iT j).2 hj) b hb).1.imp (fun h=>h) fun h=>⟨h.1,h.2.imp fun k hk=>⟨(iT k).1 hk.1,hk.2⟩⟩,(inv.fresh j ((iT j).2 hj) b hb).2⟩,fun i j hi hj=>inv.vh i j ((iT i).2 hi) ((iT j).2 hj)⟩
  | succ fuel ih=>
   intro L a w g hL tk hf g1 g2 inv
   by_cases cq:∀ j,j < m→L.getD j false=true
   ·have iT:∀ j,L.getD j false=true↔j < m:=fun j=>⟨tk j,cq j⟩
    refine tail _ L a w hL iT hf g1 g2 (next g _ _ ?_)
    exact ⟨inv.lq,fun hk=>inv.z8 fun k vP=>hk k ((iT k).1 vP),inv.vg,fun j hj=>inv.vd j ((iT j).2 hj),fun j hj hk=>inv.done j ((iT j).2 hj) (fun k vP=>hk k ((iT k).1 vP)),fun j hj=>inv.rW j ((iT j).2 hj),inv.other,fun j hj b hb=>⟨(inv.fresh j ((iT j).2 hj) b hb).1.imp (fun h=>h) fun h=>⟨h.1,h.2.imp fun k hk=>⟨(iT k).1 hk.1,hk.2⟩⟩,(inv.fresh j ((iT j).2 hj) b hb).2⟩,fun i j hi hj=>inv.vh i j ((iT i).2 hi) ((iT j).2 hj)⟩
   ·obtain ⟨j0,Qm,El⟩ : ∃ j,j < m∧L.getD j false=false:=by
     apply Classical.byContradiction
     intro qW
     apply cq
     intro j hj
     cases hb:L.getD j false with
     | true=>rfl
     | false=>exact absurd ⟨j,hj,hb⟩ qW
    have JG:∃ i,i∈Region.ready .any l.toArray L:=by
     have:∀ k,(∃ j,j < k∧j < m∧L.getD j false=false)→∃ i,i∈Region.ready .any l.toArray L:=by
      intro k
      induction k with
      | zero=>rintro ⟨j,h,_⟩; omega
      | succ k Cy=>
       rintro ⟨j,Lx,Aa,qX⟩
       by_cases u9:∃ j,j < k∧j < m∧L.getD j false=false
       ·exact Cy u9
       ·obtain rfl:j=k:=by
         apply Classical.byContradiction
         intro h
         exact u9 ⟨j,by omega,Aa,qX⟩
        have Em:j < l.length:=by omega
        refine ⟨j,CH L j l[j] hL.1 (List.getElem?_eq_getElem Em) qX fun e he=>?_⟩
        have av:=vm j _ (List.getElem?_eq_getElem Em) e he
        cases hb:L.getD e.on false with
        | true=>rfl
        | false=>exact absurd ⟨e.on,av,by omega,hb⟩ u9
     exact this (j0+1) ⟨j0,by omega,Qm,El⟩
    have main:∀ i oi,i < m→l[i]? = some oi→L.getD i false=false→(∀ e∈oi.after.toList.filter (Region.binds .any),L.getD e.on false=true)→
      (Region.wanted oi (yl l (cn a))=true∧ig P oi (cn a) w fun v w'=>wpAny P .any l.toArray (fun e a' w'=>a'.tmps.size=n∧a'.defers=[]∧Q e (cn a') w') fuel (L.setIfInBounds i true) (a.put oi.dst v) w')∨
      (Region.wanted oi (yl l (cn a))=false∧wpAny P .any l.toArray (fun e a' w'=>a'.tmps.size=n∧a'.defers=[]∧Q e (cn a') w') fuel (L.setIfInBounds i true) (a.put oi.dst undef) w):=by
     intro i oi tn na tu tv
     have gn:i < l.length:=(List.getElem?_eq_some_iff.1 na).1
     have mq:∀ o,l[i]? = some o→∀ e∈o.after.toList.filter (Region.binds .any),L.getD e.on false=true:=fun o' cj=>by
      have:o'=oi:=Option.some.inj (cj.symm.trans na)
      subst this; exact tv
     obtain ⟨s,hs⟩ : ∃ s,S[i]? = some s:=⟨S[i]'(by omega),List.getElem?_eq_getElem (by omega)⟩
     have hc:=Ge L i hL.1 gn tu
     have vQ:=EX L i oi hL na tv
     have TE:∀ j,(L.setIfInBounds i true).getD j false=true→j < m:=by
      intro j hj
      rcases (getSet L i j hL.1 gn).1 hj with rfl | hj
      ·exact tn
      ·exact tk j hj
     have CI:∀ k,L.getD k false=true→k≠i∧i ∉ (cb l).getD k []:=by
      intro k hk
      refine ⟨fun h=>(by rw [h,tu] at hk; cases hk),fun qb=>?_⟩
      have:=jr L hL k i (fun o' cj e' rC=>hL.2 k o' cj hk e' rC) qb
      rw [tu] at this; cases this
     have ow:=Ob i tn oi s na hs g (cn a) w inv.lq (fun hV=>by
       have qW:∀ k,L.getD k false=true→l.length ∉ U.getD k []:=fun k hk Gf=>by
        simp only [yD,List.all_eq_true,List.mem_range,Bool.or_eq_true,Bool.not_eq_true',List.contains_eq_mem,decide_eq_false_iff_not,decide_eq_true_eq] at hV
        rcases hV k (tk k hk) with (h | h) | h
        ·exact h Gf
        ·exact (CI k hk).1 (Nat.eq_of_beq_eq_true h)
        ·exact (CI k hk).2 h
       have h0:=inv.z8 qW
       exact ⟨h0.1,h0.2,fun j hj b hb=>(inv.fresh j (jr L hL i j mq hj) b hb).1.elim (fun h=>h) fun h=>absurd h.2.choose_spec.2 (qW _ h.2.choose_spec.1)⟩) (fun j hj=>inv.rW j (jr L hL i j mq hj)) (fun j hj=>by
       simp only [sf,Bool.and_eq_true,List.all_eq_true,List.mem_range,Bool.or_eq_true,Bool.not_eq_true',List.contains_eq_mem,decide_eq_false_iff_not,decide_eq_true_eq] at hj
       refine inv.done j (jr L hL i j mq hj.1) fun k hk Lx=>?_
       rcases hj.2 k (tk k hk) with (h | h) | h
       ·exact h Lx
       ·exact (CI k hk).1 (Nat.eq_of_beq_eq_true h)
       ·exact (CI k hk).2 h) inv.other
      (fun i' r6 j' ja=>inv.vh i' j' (jr L hL i i' mq r6) (jr L hL i j' mq ja))
      (fun j hj b hb=>⟨(inv.fresh j (jr L hL i j mq hj) b hb).1.imp (fun h=>h) (·.1),(inv.fresh j (jr L hL i j mq hj) b hb).2⟩)
     have hblk:∀ b∈qh g (U.getD i []),(∃ u,u∈U.getD i []∧L.getD u false=true∧b∈g u)∨(l.length∈U.getD i []∧b∈g l.length):=by
      intro b hb
      obtain ⟨u,hu,gy⟩:=List.mem_flatMap.1 hb
      rcases TC i tn u hu with rfl | h
      ·exact .inr ⟨hu,gy⟩
      ·exact .inl ⟨u,hu,jr L hL i u mq h,gy⟩
     have En:∀ k',oi.dst=some k'→k' < a.tmps.size:=by
      intro k' rU
      have qb:oi∈l:=List.mem_of_getElem? na
      simp only [dp,List.all_eq_true] at hd
      have:=hd oi qb
      rw [rU] at this
      rw [g1]
      exact Nat.lt_of_succ_le (Nat.le_of_ble_eq_true this)
     have xI:bw l i=oi.dst:=by unfold bw; rw [na]; rfl
     have qa:∀ v t,(oi.dst≠some t)→cn (a.put oi.dst v) t=cn a t:=by
      intro v t ht
      rw [l7 En]
      cases vR:oi.dst with
      | none=>rfl
      | some d=>
       show (bif Nat.beq t d then v else cn a t)=cn a t
       cases hb:Nat.beq t d with
       | false=>rfl
       | true=>exact absurd (by rw [vR,Nat.eq_of_beq_eq_true hb]) ht
     have Gg:∀ v d,oi.dst=some d→cn (a.put oi.dst v) d=v:=by
      intro v d vR
      rw [l7 En,vR]
      show (bif Nat.beq d d then v else cn a d)=v
      rw [Nat.beq_refl]; rfl
     have step:∀ v w' f,ao (qh g (U.getD i [])) w w'→(∀ b∈f,(b∈qh g (U.getD i [])∨w.heap.size≤b)∧b < w'.heap.size)→(if s.b then s.V f w' (cn a) v else v=undef)→
       wpAny P .any l.toArray (fun e a' w'=>a'.tmps.size=n∧a'.defers=[]∧Q e (cn a') w') fuel (L.setIfInBounds i true) (a.put oi.dst v) w':=by
      intro v w' f hC uE hV
      have rP:∀ j',j' < m→j'≠i→∀ t,bw l j'=some t→cn (a.put oi.dst v) t=cn a t:=by
       intro j' ja iv t ht
       refine qa v t fun h=>iv (dw j' i t ?_ ?_)
       ·rw [ll ja]; exact ht
       ·rw [ll tn,xI]; exact h
      have Ly:∀ b∈qh g (U.getD i []),¬ N b:=fun b hb hn=>by
       rcases hblk b hb with ⟨u,_,oq,gy⟩ | ⟨_,gy⟩
       ·rcases (inv.fresh u oq b gy).1 with h | h
        ·have:=(hN b hn).1; omega
        ·exact (hN b hn).2 h.1
       ·exact (hN b hn).2 (inv.vg b gy)
      refine ih _ _ _ (fun j=>if j=i then f else if j∈U.getD i [] then [] else g j) vQ TE (by omega) (by rw [kn]; exact g1) (by rw [jb]; exact g2)
       ⟨inv.lq.then hC fun b hb=>(by
        rcases hblk b hb with ⟨u,_,oq,gy⟩ | ⟨_,gy⟩
        ·exact (inv.fresh u oq b gy).1.elim .inr fun h=>.inl h.1
        ·exact .inl (inv.vg b gy)),fun qW=>?_,?_,fun j hj=>?_,?_,fun j hj d sM sj qK=>?_,?_,?_,?_⟩
      ·have uD:l.length ∉ U.getD i []:=qW i ((getSet L i i hL.1 gn).2 (.inl rfl))
       have h0:=inv.z8 fun k hk=>qW k ((getSet L i k hL.1 gn).2 (.inr hk))
       refine ⟨h0.1.then hC fun b hb=>?_,?_⟩
       ·rcases hblk b hb with ⟨u,_,oq,gy⟩ | ⟨h,_⟩
        ·exact (inv.fresh u oq b gy).1.elim .inr fun ⟨_,k,hk,Gf⟩=>absurd Gf (qW k ((getSet L i k hL.1 gn).2 (.inr hk)))
        ·exact absurd h uD
       ·show (if l.length=i then f else if l.length∈U.getD i [] then [] else g l.length)=H
        rw [if_neg (by omega),if_neg uD]
        exact h0.2
      ·intro b hb
       have bz:b∈(if l.length=i then f else if l.length∈U.getD i [] then [] else g l.length):=hb
       rw [if_neg (by omega)] at bz
       split at bz
       ·cases bz
       ·exact inv.vg b bz
      ·intro b hb hv
       have ks:b∈(if l.length=i then f else if l.length∈U.getD i [] then [] else g l.length):=hv
       rw [if_neg (by omega)] at ks
       split at ks
       ·cases ks
       ·rename_i TF
        have bz:b∈(if j=i then f else if j∈U.getD i [] then [] else g j):=hb
        split at bz
        ·rcases (uE b bz).1 with h | h
         ·rcases hblk b h with ⟨u,_,oq,gy⟩ | ⟨h,_⟩
          ·exact inv.vd u oq b gy ks
          ·exact TF h
         ·have h1:=hH b (inv.vg b ks)
          have h2:=inv.lq.size
          omega
        ·rename_i lu
         split at bz
         ·cases bz
         ·exact inv.vd j (((getSet L i j hL.1 gn).1 hj).resolve_left lu) b bz ks
      ·intro j hj vS
       refine ⟨fun d sM=>?_,fun TG sj qK Lz=>?_⟩
       rotate_left
       ·by_cases lu:j=i
        ·subst lu
         rw [hs] at qK
         cases qK
         rw [if_pos Lz] at hV
         refine ⟨v,?_⟩
         simp only [if_pos]
         exact qi j s hs _ [] w' w' (cn a) _ v (ao.refl _ _) (fun _ _ h=>nomatch h) (fun _ h=>nomatch h) (fun j' ja t ht=>rP j' (by have:=(pY j j' ja).1; omega) (by have:=(pY j j' ja).1; omega) t ht) hV
        ·have mr:=((getSet L i j hL.1 gn).1 hj).resolve_left lu
         have qX:j ∉ U.getD i []:=vS i ((getSet L i i hL.1 gn).2 (.inl rfl))
         obtain ⟨x,hx⟩:=(inv.done j mr (fun k hk=>vS k ((getSet L i k hL.1 gn).2 (.inr hk)))).2 TG sj qK Lz
         have kz:(fun j=>if j=i then f else if j∈U.getD i [] then [] else g j) j=g j:=by
          show (if j=i then f else if j∈U.getD i [] then [] else g j)=g j
          rw [if_neg lu,if_neg qX]
         rw [kz]
         refine ⟨x,qi j sj qK _ _ _ _ (cn a) _ _ hC (fun b bz Gh=>?_) Ly (fun j' ja t ht=>rP j' (by have:=(pY j j' ja).1; have:=tk j mr; omega) (fun h=>?_) t ht) hx⟩
         ·rcases hblk b Gh with ⟨u,Ab,oq,gy⟩ | ⟨_,gy⟩
          ·exact inv.vh j u mr oq (fun h=>qX (h ▸ Ab)) b bz gy
          ·exact inv.vd j mr b bz gy
         ·subst h
          have:=jr L hL j j' (fun o' cj e' rC=>hL.2 j o' cj mr e' rC) ja
          rw [tu] at this; cases this
       by_cases lu:j=i
       ·subst lu
        rw [hs]
        simp only [if_pos]
        rw [xI] at sM
        rw [Gg v d sM]
        split
        ·rename_i hb
         rw [if_pos hb] at hV
         exact qi j s hs _ [] w' w' (cn a) _ v (ao.refl _ _) (fun _ _ h=>nomatch h) (fun _ h=>nomatch h) (fun j' ja t ht=>rP j' (by have:=(pY j j' ja).1; omega) (by have:=(pY j j' ja).1; omega) t ht) hV
        ·rename_i hb
         rw [if_neg hb] at hV
         exact hV
       ·have mr:=((getSet L i j hL.1 gn).1 hj).resolve_left lu
        have Aa:=tk j mr
        have qX:j ∉ U.getD i []:=vS i ((getSet L i i hL.1 gn).2 (.inl rfl))
        have vR:oi.dst≠some d:=by
         intro h
         apply lu
         refine dw j i d ?_ ?_
         ·rw [ll Aa]; exact sM
         ·rw [ll tn,xI]; exact h
        have:=(inv.done j mr (fun k hk=>vS k ((getSet L i k hL.1 gn).2 (.inr hk)))).1 d sM
        rw [qa v d vR]
        have kz:(fun j=>if j=i then f else if j∈U.getD i [] then [] else g j) j=g j:=by
         show (if j=i then f else if j∈U.getD i [] then [] else g j)=g j
         rw [if_neg lu,if_neg qX]
        rw [kz]
        cases qK:S[j]? with
        | none=>trivial
        | some sj=>
         rw [qK] at this
         simp only [] at this ⊢
         split
         ·rename_i hb
          rw [if_pos hb] at this
          refine qi j sj qK _ _ _ _ (cn a) _ _ hC (fun b bz Gh=>?_) Ly (fun j' ja t ht=>rP j' (by have:=(pY j j' ja).1; omega) (fun h=>?_) t ht) this
          rotate_left
          ·subst h
           have:=jr L hL j j' (fun o' cj e' rC=>hL.2 j o' cj mr e' rC) ja
           rw [tu] at this; cases this
          rcases hblk b Gh with ⟨u,Ab,oq,gy⟩ | ⟨_,gy⟩
          ·exact inv.vh j u mr oq (fun h=>qX (h ▸ Ab)) b bz gy
          ·exact inv.vd j mr b bz gy
         ·rename_i hb
          rw [if_neg hb] at this
          exact this
      ·by_cases lu:j=i
       ·subst lu
        rw [hs] at qK
        cases qK
        rw [xI] at sM
        rw [Gg v d sM]
        split
        ·rename_i hb
         rw [if_pos hb] at hV
         exact ⟨f,w',qi j s hs _ [] w' w' (cn a) _ v (ao.refl _ _) (fun _ _ h=>nomatch h) (fun _ h=>nomatch h) (fun j' ja t ht=>rP j' (by have:=(pY j j' ja).1; omega) (by have:=(pY j j' ja).1; omega) t ht) hV⟩
        ·rename_i hb
         rw [if_neg hb] at hV
         exact hV
       ·have mr:=((getSet L i j hL.1 gn).1 hj).resolve_left lu
        have Aa:=tk j mr
        have vR:oi.dst≠some d:=by
         intro h
         apply lu
         refine dw j i d ?_ ?_
         ·rw [ll Aa]; exact sM
         ·rw [ll tn,xI]; exact h
        have:=inv.rW j mr d sM sj qK
        rw [qa v d vR]
        split
        ·rename_i hb
         rw [if_pos hb] at this
         obtain ⟨f1,w1,h1⟩:=this
         refine ⟨f1,w1,qi j sj qK _ [] w1 w1 (cn a) _ _ (ao.refl _ _) (fun _ _ h=>nomatch h) (fun _ h=>nomatch h) (fun j' ja t ht=>rP j' (by have:=(pY j j' ja).1; omega) (fun h=>?_) t ht) h1⟩
         subst h
         have:=jr L hL j j' (fun o' cj e' rC=>hL.2 j o' cj mr e' rC) ja
         rw [tu] at this; cases this
        ·rename_i hb
         rw [if_neg hb] at this
         exact this
      ·intro t ht
       rw [qa v t (fun h=>ht i tn (by rw [xI]; exact h))]
       exact inv.other t ht
      ·intro j hj b hb
       by_cases lu:j=i
       ·simp only [if_pos lu] at hb
        have hh:=uE b hb
        have r9:=inv.lq.size
        rcases hh.1 with h | h
        ·rcases hblk b h with ⟨u,_,oq,gy⟩ | ⟨hv,gy⟩
         ·exact ⟨(inv.fresh u oq b gy).1.imp (fun h=>h) fun h=>⟨h.1,h.2.imp fun k hk=>⟨(getSet L i k hL.1 gn).2 (.inr hk.1),hk.2⟩⟩,hh.2⟩
         ·exact ⟨.inr ⟨inv.vg b gy,i,(getSet L i i hL.1 gn).2 (.inl rfl),hv⟩,hh.2⟩
        ·exact ⟨.inl (by omega),hh.2⟩
       ·have mr:=((getSet L i j hL.1 gn).1 hj).resolve_left lu
        simp only [if_neg lu] at hb
        split at hb
        ·cases hb
        ·have h1:=inv.fresh j mr b hb
         have h2:=hC.size
         exact ⟨h1.1.imp (fun h=>h) fun h=>⟨h.1,h.2.imp fun k hk=>⟨(getSet L i k hL.1 gn).2 (.inr hk.1),hk.2⟩⟩,by omega⟩
      ·have ue:∀ j',(L.setIfInBounds i true).getD j' false=true→j'≠i→∀ b∈f,b ∉ (if j'∈U.getD i [] then [] else g j'):=by
        intro j' ja e2 b hb bz
        have Gi:=((getSet L i j' hL.1 gn).1 ja).resolve_left e2
        split at bz
        ·cases bz
        ·rename_i qX
         rcases (uE b hb).1 with h | h
         ·rcases hblk b h with ⟨u,Ab,oq,gy⟩ | ⟨_,gy⟩
          ·exact inv.vh u j' oq Gi (fun h=>qX (h ▸ Ab)) b gy bz
          ·exact inv.vd j' Gi b bz gy
         ·have:=inv.fresh j' Gi b bz
          omega
       intro i' j' r6 ja iv b hb bz
       by_cases e1:i'=i
       ·have e2:j'≠i:=fun h=>iv (e1.trans h.symm)
        simp only [if_pos e1] at hb
        simp only [if_neg e2] at bz
        exact ue j' ja e2 b hb bz
       ·simp only [if_neg e1] at hb
        by_cases e2:j'=i
        ·simp only [if_pos e2] at bz
         exact ue i' r6 e1 b bz hb
        ·simp only [if_neg e2] at bz
         split at hb
         ·cases hb
         ·split at bz
          ·cases bz
          ·exact inv.vh i' j' (((getSet L i i' hL.1 gn).1 r6).resolve_left e1) (((getSet L i j' hL.1 gn).1 ja).resolve_left e2) iv b hb bz
     cases hb:s.b with
     | true=>
      rw [if_pos hb] at ow
      refine .inl ⟨ow.1,qA ow.2 ?_⟩
      rintro v w' ⟨hC,f,uE,hV⟩
      exact step v w' f hC uE (by rw [if_pos hb]; exact hV)
     | false=>
      rw [if_neg (by rw [hb]; exact Bool.false_ne_true)] at ow
      exact .inr ⟨ow,step undef w [] (ao.refl _ _) (fun b h=>nomatch h) (by rw [if_neg (by rw [hb]; exact Bool.false_ne_true)])⟩
    refine ⟨fun h=>(by obtain ⟨i,hi⟩:=JG; rw [h] at hi; cases hi),fun i hi=>?_⟩
    obtain ⟨q1,oi,na,tv⟩:=mz L i hi
    have gn:i < l.length:=(List.getElem?_eq_some_iff.1 na).1
    have tu:L.getD i false=false:=getD_both q1
    have tn:i < m:=by
     rcases Nat.lt_or_ge i m with h | h
     ·exact h
     ·have hj:=DL i h gn j0 Qm
      have:=jr L hL i j0 (fun o' cj=>by have:o'=oi:=Option.some.inj (cj.symm.trans na); subst this; exact tv) hj
      rw [El] at this; cases this
    unfold wpOp
    rw [show (l.toArray)[i]? = some oi by simpa using na]
    simp only []
    rw [yH (by rw [g1]; exact hd)]
    rcases main i oi tn na tu tv with ⟨hw,h⟩ | ⟨hw,h⟩
    ·rw [if_pos hw]
     exact .inl (h.wp fun v w' hv=>hv)
    ·rw [if_neg (by rw [hw]; exact Bool.false_ne_true)]
     exact h
 refine head _ _ a _ (fun j=>if j=l.length then H else []) ⟨by simp,?_⟩ ?_ ?_ h1 h2 ⟨ao.nil (ao.drew _ _),fun _=>⟨ao.drew _ _,by simp⟩,fun b hb=>by simpa using hb,?_,?_,?_,?_,?_,?_⟩
 ·intro j o ho hj
  rw [getD_replicate_false] at hj; cases hj
 ·intro j hj
  rw [getD_replicate_false] at hj; cases hj
 ·simp
 ·intro j hj
  rw [getD_replicate_false] at hj; cases hj
 ·intro j hj
  rw [getD_replicate_false] at hj; cases hj
 ·intro j hj
  rw [getD_replicate_false] at hj; cases hj
 ·intro t _
  rw [h3]
 ·intro j hj
  rw [getD_replicate_false] at hj; cases hj
 ·intro i j hi
  rw [getD_replicate_false] at hi; cases hi
end
end Go.Li
namespace Go.Dk
open Go Go.Li
section
variable {R S:Type} {P:Program} {cx:Cx R} {K:dk R S} {l tail:LO} {base fr:Fr} {w:World} {Z:Nat→Prop}
theorem Od {mt id:Nat} {U:LL} {Lr:QE} (hU:((List.range mt).all fun i=>(U.getD i []).all fun u=>Nat.beq u l.length || ((cb l).getD i []).contains u)=true) (hh:mm l mt base=true) (hd:dp cx.n l=true) (hA:yG l mt=true) (F8:mt≤l.length) (ht:tail=l.drop mt) {i:Nat} {sl:LQ} {ms:MM} {Γ:QE} {m:Option (Out S R)} (Ls:zR ms=true) (o5:BU U sl ms=true)
  (h:∀ x:o6 ms,D P cx (.p (yy sl (mF ms x)) (BS ms x) base Γ fun fr Γ=>.tg true (zM tail) l tail K Γ fr m)):JB P cx K l l mt U Lr id base (.a [] [] i sl ms Γ m):=by
 rintro ⟨_,h2,h3⟩ B o ho r0 w0 H Z ha hs ⟨S',hl,hR,hO⟩
 have hi:i=mt:=by
  have:=congrArg List.length h2
  simp at this
  omega
 subst hl
 obtain ⟨F,Hd,⟨zU,zV,u7,zW⟩,hS,hG⟩:=hs
 refine Rm (N:=Z) (S:=S') (U:=U) (H:=H) hd hA F8 hi u7 hU (fun b hb=>⟨hG.ri b hb,fun h=>hG.apart b (List.mem_append_left _ h) hb⟩) (fun i s hs=>hR.s i s hs) (fun j hj=>hO j (by omega)) ?_
 intro g r w hI
 have JC:∀ k j,j∈U.getD k []→∀ a∈ms,a.j≠j:=by
  intro k j hj
  unfold BU at o5
  rw [Bool.and_eq_true] at o5
  rw [List.getD_eq_getElem?_getD] at hj
  cases hk:U[k]? with
  | none=>rw [hk] at hj; exact absurd hj List.not_mem_nil
  | some us=>
   rw [hk] at hj
   have h1:=List.all_eq_true.1 (List.all_eq_true.1 o5.1 us (List.mem_of_getElem? hk)) j hj
   intro a ha he
   have:=List.all_eq_true.1 h1 a ha
   rw [he,Nat.beq_refl] at this
   cases this
 have hD:∀ j,j < mt→(∀ k,j ∉ U.getD k [])→vL l S' j g r w:=fun j hj hn=>hI.done j hj fun k _=>hn k
 have av:∀ a∈ms,a.j < mt:=fun a ha=>hi ▸ hR.lt ha
 obtain ⟨x,hx,tj,Tk⟩:=Qh (g:=g) (r:=r) (w:=w) Ls hR.d (fun a ha b hb mi=>hI.vh _ _ (av a ha) (av b hb) mi) fun a ha=>by
  have:=hR.FI (S2:=[]) ha (by rw [List.append_nil]; exact hD a.j (av a ha) (fun k hk=>JC k _ hk a ha rfl))
  exact this
 have CE:=List.nodup_append.1 hG.nd
 have qa:∀ b∈yE g ms,w0.heap.size≤b∨b∈H:=fun b hb=>by
  obtain ⟨a,h1,h2⟩:=BW hb
  exact (hI.fresh a.j (av a h1) b h2).1.imp (fun h=>h) (·.1)
 have fl:=rA.stay hS hG hI.lq
 obtain ⟨Vo,Vr,Tl,Tn,tj⟩:=tj
 obtain ⟨F',hp,gw⟩:=tj.build (fl.mono (fun _ h=>.inl h) fun _ h=>h)
 have F6:Gd B Z (yE g ms++F) w:=by
  refine ⟨wZ Tk CE.2.1 fun b hb hF=>(qa b hb).elim (fun h=>Nat.lt_irrefl _ (Nat.lt_of_lt_of_le (hS.lt b hF) h)) (fun h=>CE.2.2 b h b hF rfl),?_,fun b hb=>Nat.lt_of_lt_of_le (hG.ri b hb) hI.lq.size,?_,hG.wO,hG.xp,hG.lq.then hI.lq fun b hb=>hG.low b (List.mem_append_left _ hb)⟩
  ·intro b hb hz
   rcases List.mem_append.1 hb with hb | hb
   ·exact (qa b hb).elim (fun h=>Nat.lt_irrefl _ (Nat.lt_of_lt_of_le (hG.ri b hz) h)) (fun h=>hG.apart b (List.mem_append_left _ h) hz)
   ·exact hG.apart b (List.mem_append_right _ hb) hz
  ·intro b hb
   rcases List.mem_append.1 hb with hb | hb
   ·exact (qa b hb).elim (fun h=>.inr (Nat.le_trans hG.lq.size h)) (fun h=>hG.low b (List.mem_append_left _ h))
   ·exact hG.low b (List.mem_append_right _ hb)
 have N5:cw r ((yy sl (mF ms x)).reverse++base):=by
  refine tX (F5 (fun p hp=>?_) hx) (l6 hh ha hI.other)
  exact hR.zx (S2:=[]) hp fun j _ hj=>(by rw [List.append_nil]; exact hI.rW j (hi ▸ hj))
 have:=(h x).sound B o ho r w N5 ⟨_,F',gw,((F6.perm (It Tl)).freeze Tn).perm hp⟩
 rw [ht] at this
 exact this
theorem Xd {id:Nat} (hd:QE) (mt:Nat) (U as:LL) {ops:LO} {Γ Γ1:QE} {fr:Fr} {m:Option (Out S R)}
  (hB:(P.follows .mixedOrders && dp cx.n l && yG l mt && Nat.ble mt l.length && (ml l U mt == as) && ((List.range mt).all fun i=>(U.getD i []).all fun u=>Nat.beq u l.length || ((cb l).getD i []).contains u))=true)
  (ho:ops=l.take mt) (ht:tail=l.drop mt) (hf:Kp (yq ops) none fr base) (hh:mm l mt base=true) (he:EO Γ hd Γ1) (F9:OW Γ hd)
  (h:AD true P cx K l tail base U hd (.a as ops 0 [] [] Γ1 m)):Bx (p9 P cx (.dr id l K Γ fr m)):=by
 simp only [Bool.and_eq_true] at hB
 obtain ⟨⟨⟨⟨⟨b1,b2⟩,b3⟩,b5⟩,b6⟩,b7⟩:=hB
 rw [qy]
 intro B o hm r w ha hs
 obtain ⟨Z,F,hS,hG⟩:=hs
 obtain ⟨Fd,F',h1,h2,h3⟩:=he.sound hS
 have Ga:SA Z w hd [] Fd:=by
  have:=(HO.hl F9 hS h1).front (Γ:=[]) (F:=[]) rfl
  simpa using this
 have hX:rA B Z hd Γ1 Fd w:=⟨F',Fd,⟨Ga,fun b hb=>⟨hb,Ga.lt b hb⟩,Ga.lt,(List.nodup_append.1 (hG.perm h3).nd).1⟩,h2,hG.perm h3⟩
 refine nv.W b1 ?_
 refine AD.sound (id:=id) hh (fun _ _ _ _ _ _ hs he h=>Od b7 hh b2 b3 (Nat.le_of_ble_eq_true b5) ht hs he h) h
  ⟨by rw [List.drop_zero]; exact (eq_of_beq b6).symm,by rw [List.drop_zero]; exact ho,Nat.zero_le _⟩ B o hm r w Fd Z (hf.sound ha) hX ⟨[],rfl,⟨fun _ h=>absurd h List.not_mem_nil,fun _ h=>absurd h List.not_mem_nil,fun i s h=>by simp at h,List.nodup_nil,fun _ _ _ h1 h2=>CF l (JF b3) h1 h2⟩,fun j hj=>absurd hj (Nat.not_lt_zero j)⟩
theorem ZL {id:Nat} (mt:Nat) (U as:LL) {ops:LO} {Γ:QE} {fr:Fr} {m:Option (Out S R)}
  (hB:(P.follows .mixedOrders && dp cx.n l && yG l mt && Nat.ble mt l.length && (ml l U mt == as) && ((List.range mt).all fun i=>(U.getD i []).all fun u=>Nat.beq u l.length || ((cb l).getD i []).contains u))=true)
  (ho:ops=l.take mt) (ht:tail=l.drop mt) (hf:Kp (yq ops) none fr base) (hh:mm l mt base=true)
  (h:AD true P cx K l tail base U [] (.a as ops 0 [] [] Γ m)):Bx (p9 P cx (.dr id l K Γ fr m)):=Xd [] mt U as hB ho ht hf hh .nil .nil h
end
end Go.Dk
namespace Go.Dk
open Go Go.Li
def zL:Value→Option Nat
 | .slice (some a) _ _=>some a.block
 | _=>none
def NF {α:Type} (E:ai α):Prop:=∀ {h:Array Obj} {cs:LV} {x:α} {f:LN},E.rep h cs x f→f=[]
theorem NF.i {k:IntKind}:NF (aM k):=wV
theorem NF.l {α:Type} {E:ai α} (hE:NF E) {h:Array Obj}:∀ {xs:List α} {cs:LV} {f:LN},dj E h cs xs f→f=[]:=by
 intro xs
 induction xs with
 | nil=>rintro cs f ⟨_,rfl⟩; rfl
 | cons x xs ih=>
  rintro cs f ⟨c,kp,f1,f2,rfl,rfl,h1,h2⟩
  rw [hE h1,ih h2]; rfl
structure Good {α:Type} (A:Value→α→Prop) (f:LN):Prop where
 sub:∀ u y b,A u y→zL u=some b→b∈f
 one:∀ u y u' y' b,A u y→A u' y'→zL u=some b→zL u'=some b→y=y'
inductive zA {α:Type}:{β:Type}→ai β→((Value→List α→Prop)→ai β)→Prop
 | row {e:TI} {E:ai α}:zA (aJ e E) (fun A=>sF A (aJ e E))
 | step {β:Type} {e:TI} {T:ai β} {T':(Value→List α→Prop)→ai β} (h:zA T T'):zA (aJ e T) (fun A=>bF (T' A))
section
variable {α β:Type} {T:ai β} {T':(Value→List α→Prop)→ai β} {A A':Value→List α→Prop} {f:LN} {hp:Array Obj}
theorem zA.size (h:zA T T'):(T' A).size=T.size:=by
 cases h <;> rfl
theorem zA.mono (h:zA T T') (hA:∀ u y,A u y→A' u y):Le (T' A) (T' A'):=by
 induction h with
 | row=>exact ⟨rfl,fun h=>⟨h.1.imp fun v g=>⟨g.1,hA _ _ g.2⟩,h.2⟩⟩
 | step _ ih=>exact ih.HZ
theorem zA.Xe {e:TI} (ho:∀ {cs:LV} {x:β} {f:LN},T.rep hp cs x f→f.Nodup→∃ A,Good A f∧(T' A).rep hp cs x f) (hm:∀ {A A':Value→List α→Prop},(∀ u y,A u y→A' u y)→Le (T' A) (T' A')) :
  ∀ {xs:List β} {cs:LV} {f:LN},dj T hp cs xs f→f.Nodup→∃ A,Good A f∧dj (T' A) hp cs xs f:=by
 have _:=e
 intro xs
 induction xs with
 | nil=>rintro cs f ⟨rfl,rfl⟩ _; exact ⟨fun _ _=>False,⟨fun _ _ _ h=>h.elim,fun _ _ _ _ _ h=>h.elim⟩,rfl,rfl⟩
 | cons x xs ih=>
  rintro cs f ⟨c,kp,f1,f2,rfl,rfl,h1,h2⟩ hn
  obtain ⟨n1,n2,n3⟩:=List.nodup_append.1 hn
  obtain ⟨A1,g1,r1⟩:=ho h1 n1
  obtain ⟨A2,g2,r2⟩:=ih h2 n2
  refine ⟨fun u y=>A1 u y∨A2 u y,⟨fun u y b h hb=>?_,fun u y u' y' b h h' hb bz=>?_⟩,c,kp,f1,f2,rfl,rfl,(hm fun _ _=>.inl).le r1,tR (hm fun _ _=>.inr) r2⟩
  ·exact h.elim (fun h=>List.mem_append_left _ (g1.sub u y b h hb)) (fun h=>List.mem_append_right _ (g2.sub u y b h hb))
  ·rcases h with h | h <;> rcases h' with h' | h'
   ·exact g1.one u y u' y' b h h' hb bz
   ·exact absurd rfl (n3 b (g1.sub _ _ _ h hb) b (g2.sub _ _ _ h' bz))
   ·exact absurd rfl (n3 b (g1.sub _ _ _ h' bz) b (g2.sub _ _ _ h hb))
   ·exact g2.one u y u' y' b h h' hb bz
theorem zA.opened (h:zA T T'):∀ {cs:LV} {x:β} {f:LN},T.rep hp cs x f→f.Nodup→∃ A,Good A f∧(T' A).rep hp cs x f:=by
 induction h with
 | @row e E=>
  intro cs x f hr _
  obtain ⟨base,cap,rfl,fw⟩:=id hr
  refine ⟨fun u y=>u = .slice base x.length cap∧y=x,⟨?_,?_⟩,⟨_,rfl,rfl,rfl⟩,hr⟩
  ·rintro u y b ⟨rfl,rfl⟩ hb
   rcases fw with ⟨rfl,_⟩ | ⟨b0,cur,f',rfl,_,rfl,_⟩
   ·cases hb
   ·cases hb; exact List.mem_cons_self
  ·rintro u y u' y' b ⟨_,rfl⟩ ⟨_,rfl⟩ _ _; rfl
 | @step β e T T' ho ih=>
  intro cs x f hr hn
  obtain ⟨base,cap,rfl,fw⟩:=hr
  rcases fw with ⟨rfl,_,rfl,rfl⟩ | ⟨b,cur,f',rfl,hg,rfl,h3,h4,h5,h6⟩
  ·exact ⟨fun _ _=>False,⟨fun _ _ _ h=>h.elim,fun _ _ _ _ _ h=>h.elim⟩,none,cap,rfl,.inl ⟨rfl,rfl⟩⟩
  ·obtain ⟨A,g1,g2⟩:=zA.Xe (e:=e) ih (fun hA=>ho.mono hA) h6 (List.nodup_cons.1 hn).2
   refine ⟨A,⟨fun u y b h hb=>List.mem_cons_of_mem _ (g1.sub u y b h hb),g1.one⟩,_,cap,rfl,.inr ⟨b,0,cur,e,(0,0),f',rfl,hg,rfl,h3,?_⟩⟩
   rw [List.drop_zero,ho.size]
   exact g2
end
section
variable {α:Type} {e e':TI} {E:ai α} {A:Value→List α→Prop} {ft f:LN} {hp:Array Obj}
theorem JH (nf:NF E) (hA:Good A ft):∀ {ys:List (List α)} {us:LV} {g:LN},dj (sF A (aJ e' E)) hp us ys g→ys.Nodup→
  dj (aJ e' E) hp us ys g∧g.Nodup∧∀ b∈g,b∈ft∧∃ u y,A u y∧zL u=some b∧y∈ys:=by
 intro ys
 induction ys with
 | nil=>rintro us g ⟨rfl,rfl⟩ _; exact ⟨⟨rfl,rfl⟩,List.nodup_nil,fun b hb=>absurd hb List.not_mem_nil⟩
 | cons y ys ih=>
  rintro us g ⟨c,kp,g1,g2,rfl,rfl,⟨⟨u,rfl,hu⟩,hr⟩,h2⟩ hn
  obtain ⟨n1,n2⟩:=List.nodup_cons.1 hn
  obtain ⟨a1,a2,a3⟩:=ih h2 n2
  refine ⟨⟨[u],kp,g1,g2,rfl,rfl,hr,a1⟩,?_,?_⟩
  ·obtain ⟨base,cap,hv,fw⟩:=hr
   obtain rfl:u = .slice base y.length cap:=by simpa using hv
   rcases fw with ⟨_,_,_,rfl⟩ | ⟨b,cur,f',rfl,_,rfl,_,_,_,h6⟩
   ·exact a2
   ·rw [nf.l h6]
    refine List.nodup_cons.2 ⟨fun hb=>?_,a2⟩
    obtain ⟨_,u',y',h7,h8,h9⟩:=a3 b hb
    rw [hA.one _ _ _ _ b hu h7 rfl h8] at n1
    exact n1 h9
  ·intro b hb
   rcases List.mem_append.1 hb with hb | hb
   ·obtain ⟨base,cap,hv,fw⟩:=hr
    obtain rfl:u = .slice base y.length cap:=by simpa using hv
    rcases fw with ⟨_,_,_,rfl⟩ | ⟨b0,cur,f',rfl,_,rfl,_,_,_,h6⟩
    ·cases hb
    ·rw [nf.l h6,List.mem_singleton] at hb
     subst hb
     exact ⟨hA.sub _ _ _ hu rfl,_,y,hu,rfl,by simp⟩
   ·obtain ⟨b1,u',y',b2,b3,b4⟩:=a3 b hb
    exact ⟨b1,u',y',b2,b3,by simp [b4]⟩
theorem LA {Z:Nat→Prop} {w:World} {v:Value} {ys:List (List α)} (nf:NF E) (hA:Good A ft) (ho:pd Z w f (.om e (sF A (aJ e' E)) v ys)) (hn:ys.Nodup) (hf:f.Nodup) (hz:∀ b∈f,¬ Z b) :
  ∃ g,(∀ b∈g,b∈ft)∧(aJ e (aJ e' E)).rep w.heap [v] ys (f++g)∧(f++g).Nodup:=by
 obtain ⟨us,g,h1,h2,h3,_⟩:=ho
 obtain ⟨a1,a2,a3⟩:=JH nf hA h2 hn
 have hl:us.length=ys.length:=by have:=ke a1; rw [this]; exact Nat.mul_one _
 refine ⟨g,fun b hb=>(a3 b hb).1,?_,List.nodup_append.2 ⟨hf,a2,fun b hb c hc=>fun e=>hz b hb (h3 b (e ▸ hc))⟩⟩
 obtain ⟨base,cap,hv,hr⟩:=h1
 obtain rfl:v = .slice base us.length cap:=by simpa using hv
 rw [hl]
 rcases hr with ⟨rfl,rfl,rfl,rfl⟩ | ⟨b,cur,f',rfl,hg,rfl,c1,c2,c3,c4⟩
 ·cases ys with
  | cons y ys=>simp at hl
  | nil=>obtain ⟨_,rfl⟩:=a1; exact ⟨none,0,rfl,.inl ⟨rfl,rfl,rfl,rfl⟩⟩
 ·obtain ⟨c5,rfl⟩:=yo c4
  refine ⟨_,cap,rfl,.inr ⟨b,cur,g,rfl,hg,rfl,by rw [← hl]; exact c1,c2,c3,?_⟩⟩
  have e1:(aJ e' E).size=qN.size:=rfl
  rw [e1,← hl,c5]
  exact a1
end
section
variable {P:Program} {R:Type} {cx:Cx R}
theorem aj {S S1 α β:Type} [DecidableEq (List α)] (k t0:Nat) (φ:S1→Value→Fr) (Iv:S1→List (List α)) (v0:Value) (f2:Fr) {e e':TI} {E:ai α} {T:ai β} {T':(Value→List α→Prop)→ai β} {vs:Value} {x:β} {jk:List KI} {kb:Kb R S} {c:Code} {s0:S1} {body:S1→Option (Out S1 R)} {f:S1→Option (Out S R)} {Γ Γ1 Γ2:QE} {fr:Fr}
  (ho:zA T T') (nf:NF E) (ha:qS fr (φ s0 v0)) (hf:qS fr f2) (hz:Iv s0=[]) (hv:look fr t0=some vs) (h1:ep Γ (.own T vs x) Γ1) (h2:∀ A:Value→List α→Prop,ep Γ1 (.om e (sF A (aJ e' E)) v0 []) Γ2)
  (hb:∀ (A:Value→List α→Prop) s v,D P cx (.p (φ s v) [.om e (sF A (aJ e' E)) v (Iv s)] f2 [.rd false (T' A) vs x] fun fr Γ=>.c ⟨[],.loop Value k (fun s v=>[.om e (sF A (aJ e' E)) v (Iv s)]) φ [.rd false (T' A) vs x] f2⟩ c Γ fr (body s)))
  (hk:∀ s v,D P cx (.p (φ s v) [.own (aJ e (aJ e' E)) v (Iv s)] f2 [] fun fr Γ=>.mn ⟨jk,kb⟩ Γ fr (f s))) :
  Bx (p9 P cx (.bk true k ⟨jk,kb⟩ (.loop c) Γ fr (ae (ab k (aj body s0)) fun s=>TH (Iv s)>>=fun _=>f s))):=by
 have _:=hv
 rw [qy]
 intro B o LB r w sa qI
 obtain ⟨Z,F,hS,hG⟩:=qI
 obtain ⟨ft,F1,rV,hT,fl⟩:=h1.sound hS
 have Iw:=hG.perm rV
 obtain ⟨n1,n2,n3⟩:=List.nodup_append.1 Iw.nd
 obtain ⟨A,hA,hR⟩:=ho.opened (hp:=w.heap) hT n1
 obtain ⟨fo,F2,po,hO,gw⟩:=(h2 A).sound fl
 have TJ:∀ b∈ft,b < w.heap.size:=ai.lt _ hT
 have hfz:∀ b∈ft,¬ Z b:=fun b hb=>Iw.apart b (List.mem_append_left _ hb)
 have TK:∀ b∈fo,b∈F1:=fun b hb=>po.mem_iff.1 (List.mem_append_left _ hb)
 have qW:fo.Nodup:=(List.nodup_append.1 (po.nodup_iff.2 n2)).1
 refine Jm (T:=TT P cx B) (LI B (fun s v=>[.om e (sF A (aJ e' E)) v (Iv s)]) φ [.rd false (T' A) vs x] f2) LB
  ⟨v0,tX (ha.all sa) (hf.sound sa),fun b=>Z b∨b∈ft,fo,⟨fo,[],(List.append_nil _).symm,by rw [hz]; exact hO.mono fun _=>.inl,⟨ft,hR,fun b hb=>.inr hb⟩,rfl⟩,qW,fun b hb=>?_,fun b hb=>hb.elim (hG.ri b) (TJ b),fun b hb=>Iw.low b (List.mem_append_right _ (TK b hb)),fun b h=>.inl (hG.wO b h),fun b hb=>hb.elim (hG.xp b) fun hb=>.inr (Iw.low b (List.mem_append_left _ hb)),hG.lq⟩ ?_ ?_ ?_
 ·rintro (h | h)
  ·exact Iw.apart b (List.mem_append_right _ (TK b hb)) h
  ·exact n3 b h b (TK b hb) rfl
 ·intro x r w he hx
  subst he
  exact wP hx
 ·rintro s r w ⟨v,h1,h2⟩ o ho
  exact (hb A s v).sound B o ho r w h1 h2
 ·rintro s r w' ⟨v,a1,Z2,Fl,Fx,mj⟩ hm
  obtain ⟨_,hn,hm⟩:=bind_some hm
  replace hn:=Oe hn
  obtain ⟨f',F',rfl,uG,Xf⟩:=Fx
  have zY:F'=[]:=Xf.2
  subst zY
  rw [List.append_nil] at mj
  obtain ⟨g,s1,s2,s3⟩:=LA nf hA uG hn mj.nd mj.apart
  refine (hk s v).sound B o hm r w' a1 ⟨B.Z,f'++g,⟨f'++g,[],(List.append_nil _).symm,s2,rfl⟩,s3,fun b hb hz=>?_,fun b hz=>mj.ri b (mj.wO b hz),fun b hb=>?_,fun _ h=>h,fun _ h=>.inl h,mj.lq⟩
  ·rcases List.mem_append.1 hb with hb | hb
   ·exact mj.apart b hb (mj.wO b hz)
   ·exact hfz b (s1 b hb) (hG.wO b hz)
  ·rcases List.mem_append.1 hb with hb | hb
   ·exact mj.low b hb
   ·exact Iw.low b (List.mem_append_left _ (s1 b hb))
end
end Go.Dk
namespace Go.Dk
open Go Go.Li
section
variable {R:Type} {P:Program} {cx:Cx R} {B:Bs} {M:Type} {all l:LO} {rk:RK R M} {fr:Fr} {w:World} {Z:Nat→Prop} {F cur:LN} {Γ Γ1 Γ2 Γ3:QE}
theorem D.of {J:Jd R} (h:p9 P cx J):D P cx J:=.inj (by rw [qy]; exact h)
theorem Qn {Δ : List ay} (h : FO Δ) : ∀ {Fd : List Nat}, HL Z w Δ Fd → ∀ e ∈ Δ, fact Z w [] e := by
  induction h with
  | nil => intro Fd _ e he; cases he
  | rd _ ih =>
    intro Fd hl e he
    cases hl with
    | own h _ => exact h.elim
    | fact h k => rcases List.mem_cons.1 he with rfl | he
                  · exact h
                  · exact ih k e he
  | bn _ ih =>
    intro Fd hl e he
    cases hl with
    | own h _ => exact h.elim
    | fact h k => rcases List.mem_cons.1 he with rfl | he
                  · exact h
                  · exact ih k e he
theorem lgS {α:Type} (S:ai α) {d:Nat} {t e n bt ty:TI} {m:Option M} [ht:zN P t e n bt]
  (h:∀ v,D P cx (.o false all l rk (.own (aJ e (jx n)) v [] :: .rd false (uA S) (.bool true) ([],[]) :: Γ) ((d,v) :: fr) m)):D P cx (.e false (.buildSlice t 0 #[]) (some d) ty all l rk Γ fr m):=by
 refine D.of ?_
 intro B o ho r w ha hs pos ah g
 obtain ⟨h1,i,z,h2,_⟩:=ht.h
 obtain ⟨v,w',f,hr,hC,hO⟩:=yC (E:=jx n) (r:=r) (w:=w) (d:=some d) (ty:=ty) (pos:=pos) (ah:=ah) (g:=none) h1 h2
 refine fx (WL.val rfl hr ((h v).sound B o ho _ w' (aw ha) ?_))
 obtain ⟨Z,F,hS,hg⟩:=hs
 have hf:fact Z w [] (.rd false (uA S) (.bool true) ([],[])):=⟨[],⟨rfl,rfl,fun _ h=>absurd h List.not_mem_nil⟩,fun _ h=>absurd h List.not_mem_nil⟩
 exact St.put (f:=[]) (SA.fact hS hf) hg hC hO.1 hO.2.1 fun b hb=>.inr ((hO.2.2 b hb).resolve_left List.not_mem_nil)
theorem lnS {α:Type} {S:ai α} {q:Bool} {d n e:Nat} {x:OO} {v:Value} {us:List (List Value)} {xs:List α} {t ty bt:TI} {m:Option M} [ht:zN P t e n bt] (hx:bp fr x=some v) (h1:ep Γ (.own (aJ e (jx n)) v us) Γ1) (hg:In (.rd false (uA S) (.bool true) (us,xs)) Γ)
  (h:D P cx (.o q all l rk Γ ((d,.int .i64 (xs.length:Int)) :: fr) m)):D P cx (.e q (.call ⟨.builtin .len,#[x],#[t]⟩) (some d) ty all l rk Γ fr m):=by
 refine D.of ?_
 intro B o ho r w ha hs pos ah g
 obtain ⟨q1,_⟩:=ht.h
 obtain ⟨Z,F,hS,hG⟩:=@_root_.id _ hs
 obtain ⟨f,F1,_,hO,_⟩:=h1.sound hS
 obtain ⟨k,hk,_⟩:=hg.rd hS []
 obtain ⟨base,cap,hv,_⟩:=hO
 obtain rfl:v = .slice base us.length cap:=by simpa using hv
 have hl:us.length=xs.length:=zK hk.2.1
 exact cg (v:=.int .i64 (xs.length:Int)) (fun w' _=>by rw [← hl]; exact vI q1 (aR ha hx)) (h.sound B o ho _ w (aw ha) hs)
theorem ixS {α V:Type} {S:ai α} {cl:α→V→List Value} {en:α→V→List ay} {q:Bool} {d n e:Nat} {x y:OO} {v:Value} {us:List (List Value)} {xs:List α} {k:IntKind} {j:Int} {t ty bt:TI} {f:α→Option M} [ht:zN P t e n bt] (hx:bp fr x=some v) (hy:bp fr y=some (.int k j))
  (h1:ep Γ (.own (aJ e (jx n)) v us) Γ1) (hg:In (.rd false (uA S) (.bool true) (us,xs)) Γ) (hs:Ea S V cl en)
  (h:∀ z u,D P cx (.p [] (.rd false (zv us j) (.bool true) (cl z u) :: en z u) fr Γ fun fr Γ=>.o q all l rk Γ ((d,.pointer (some (cy v n j))) :: fr) (f z))):D P cx (.e q (.indexAddr t x y) (some d) ty all l rk Γ fr (idx xs j>>=f)):=by
 refine D.of ?_
 intro B o ho r w ha fc pos ah g
 replace hs:SO S V cl en:=by cases hs; assumption
 obtain ⟨z,hz,ho⟩:=bind_some ho
 replace hz:=n7 hz
 obtain ⟨q1,i,_,q2,_,_,q3,_⟩:=ht.h
 obtain ⟨Z,F,hS,hG⟩:=fc
 obtain ⟨f0,F1,_,hO,_⟩:=h1.sound hS
 obtain ⟨g0,hk,td⟩:=hg.rd hS []
 obtain ⟨c,g1,e1,e2,e3⟩:=Cq j.toNat hk.2.1 hz.2
 obtain ⟨u,rfl,o5⟩:=hs.op e2
 have hlen:us.length=xs.length:=zK hk.2.1
 have av:j.toNat < xs.length:=(List.getElem?_eq_some_iff.1 hz.2).1
 have hv:∃ a c,v = .slice (some a) us.length c:=by
  obtain ⟨base,cap,hv,hr⟩:=hO
  obtain rfl:v = .slice base us.length cap:=by simpa using hv
  rcases hr with ⟨_,_,rfl,_⟩ | ⟨b,cur,f',rfl,_⟩
  ·rw [← hlen] at av; simp at av
  ·exact ⟨_,_,rfl⟩
 obtain ⟨a,c',rfl⟩:=hv
 have cq:HL Z w (.rd false (zv us j) (.bool true) (cl z u) :: en z u) []:=.fact ⟨[],⟨rfl,⟨hz.1,e1⟩,rfl⟩,fun _ h=>absurd h List.not_mem_nil⟩ (tZ (o5 Z fun b hb=>td b (e3 b hb)))
 obtain ⟨F',hp,gw⟩:=cq.build hS
 refine cg (v:=.pointer (some (cy (.slice (some a) us.length c') n j))) (fun w' hC=>?_) ((h z u).sound B o ho _ w (aw ha) ⟨Z,F',gw,hG.perm (by simpa using hp)⟩)
 rw [l5 q1 q2 (aR ha hx) (aR ha hy) hz.1 (by omega),q3]
 rfl
theorem TL {q:Bool} {d n off e:Nat} {x:OO} {v u:Value} {us:List (List Value)} {j:Int} {cs:LV} {ty:TI} {m:Option M} (h1:ep Γ (.own (aJ e (jx n)) v us) Γ1) (hp:In (.rd false (zv us j) (.bool true) cs) Γ) (hc:cs[off]? = some u)
  (k:D P cx (.o q all l rk Γ ((d,u) :: fr) m)):D P cx (.la ((cy v n j).add off) none q ty x d all l rk Γ fr m):=by
 refine D.of ?_
 intro ht hx B o ho r w ha hs t pos ah g
 obtain ⟨Z,F,hS,_⟩:=@_root_.id _ hs
 obtain ⟨f,F1,_,hO,_⟩:=h1.sound hS
 obtain ⟨_,⟨_,⟨hj,hu⟩,_⟩,_⟩:=hp.rd hS []
 exact cg (Ld ht ((w4 hO hj hu).2.2 off u hc) (aR ha hx)) (k.sound B o ho _ w (aw ha) hs)
theorem TM {q:Bool} {d n e:Nat} {x:OO} {v u:Value} {us:List (List Value)} {j:Int} {cs:LV} {ty:TI} {m:Option M} (h1:ep Γ (.own (aJ e (jx n)) v us) Γ1) (hp:In (.rd false (zv us j) (.bool true) cs) Γ) (hc:cs[0]? = some u)
  (k:D P cx (.o q all l rk Γ ((d,u) :: fr) m)):D P cx (.la (cy v n j) none q ty x d all l rk Γ fr m):=by
 have e:(cy v n j).add 0=cy v n j:=rfl
 rw [← e]
 exact TL h1 hp hc k
theorem Ya {q:Bool} {d n e:Nat} {x:OO} {v:Value} {us:List (List Value)} {j:Int} {cs:LV} {ty:TI} {m:Option M} (h1:ep Γ (.own (aJ e (jx n)) v us) Γ1) (hp:In (.rd false (zv us j) (.bool true) cs) Γ)
  (k:D P cx (.o q all l rk Γ ((d,.agg cs.toArray) :: fr) m)):D P cx (.la (cy v n j) (some n) q ty x d all l rk Γ fr m):=by
 refine D.of ?_
 intro ht hx B o ho r w ha hs t pos ah g
 obtain ⟨Z,F,hS,_⟩:=@_root_.id _ hs
 obtain ⟨f,F1,_,hO,_⟩:=h1.sound hS
 obtain ⟨_,⟨_,⟨hj,hu⟩,_⟩,_⟩:=hp.rd hS []
 obtain ⟨e1,_,e3⟩:=w4 hO hj hu
 exact cg (Lg ht (fun i u hi=>e3 i u hi) (aR ha hx) e1) (k.sound B o ho _ w (aw ha) hs)
theorem apS {α V:Type} {S:ai α} {cl:α→V→List Value} {en:α→V→List ay} (y:α) {u:V} {d b n e bt:Nat} {s x:OO} {sv:Value} {us:List (List Value)} {xs:List α} {cs:LV} {t et ty:TI} {f:Unit→Option M} [ht:zN P t e n bt]
  (hs:bp fr s=some sv) (hx:bp fr x=some (.slice (some ⟨b,0,none⟩) 1 1)) (h0:ep Γ (.row b cs et) Γ1) (h1:ep Γ1 (.own (aJ e (jx n)) sv us) Γ2) (hg:In (.rd false (uA S) (.bool true) (us,xs)) Γ2) (p8:Ea S V cl en) (_hv:tc V u) (hc:cs=cl y u) (ho:tT Γ cs) (hn:cs.length=n) (TN:FO (en y u)) (hf:EF Γ2 (en y u) Γ3)
  (h:∀ v,D P cx (.o false all l rk (.own (aJ e (jx n)) v (us++[cs]) :: .rd false (uA S) (.bool true) (us++[cs],xs++[y]) :: Γ3) ((d,v) :: fr) (f ()))):D P cx (.e false (.call ⟨.builtin .append,#[s,x],#[t,t]⟩) (some d) ty all l rk Γ fr (fits bt (xs.length+1)>>=f)):=by
 refine D.of ?_
 intro B o cj r w ha fc pos ah g
 have DM:SO S V cl en:=by cases p8; assumption
 obtain ⟨_,hu,cj⟩:=bind_some cj
 obtain ⟨b1,b2⟩:=qp hu
 obtain ⟨q1,i,z,q2,q3,q4,q5,q6,_⟩:=ht.h
 obtain ⟨Z,F,hS,hG⟩:=fc
 have EY:=ho.one hS
 obtain ⟨n0,F0,uC,⟨rfl,bc⟩,xC⟩:=h0.sound hS
 obtain ⟨k,F1,hp,hO,fl⟩:=h1.sound xC
 obtain ⟨Fd,F2,Zn,TO,gw,po⟩:=hf.sound fl
 obtain ⟨g0,hk,td⟩:=hg.rd fl []
 have hlen:us.length=xs.length:=zK hk.2.1
 have qz:((k++F1)++[b]).Perm F:=(List.perm_append_comm.trans (hp.append_left [b])).trans uC
 have mj:Gd B Z (k++F1) w:=Gd.left (F':=[b]) (hG.perm qz)
 have wW:((k++F2)++(Fd++Zn)).Perm (k++F1):=by
  rw [List.append_assoc]
  refine List.Perm.append_left k (.trans ?_ po)
  rw [← List.append_assoc]
  exact (List.perm_append_comm (l₁:=F2) (l₂:=Fd)).append_right Zn
 have qG:Gd B Z ((k++F2)++(Fd++Zn)) w:=mj.perm wW
 have av:∀ b∈Fd++Zn,b < w.heap.size:=fun b hb=>by
  have h3:b∈k++F1:=wW.mem_iff.1 (List.mem_append_right _ hb)
  rcases List.mem_append.1 h3 with h3 | h3
  ·exact ai.lt _ hO b h3
  ·exact fl.lt b h3
 have F6:Gd B (qE Z (Fd++Zn)) (k++F2) w:=qG.freeze av
 have CJ:∀ b,qE Z Zn b→qE Z (Fd++Zn) b:=fun b hb=>hb.imp id fun h=>List.mem_append_right _ h
 obtain ⟨g1,wN,zB⟩:=DM.cl (x:=y) (v:=u) (Z:=qE Z (Fd++Zn)) (w:=w) (Qn TN (TO.mono CJ))
 have hdk:qH [] k:=fun _ h=>absurd h List.not_mem_nil
 have hE:dj (jx n) w.heap cs [cs] []:=⟨cs,[],[],[],by simp,by simp,⟨rfl,hn,EY,rfl⟩,rfl,rfl⟩
 obtain ⟨v,w',f',km,hC,dq,du,dw⟩:=pt (E:=jx n) (d:=some d) (ty:=ty) (pos:=pos) (ah:=ah) (g:=none) (k:=[]) (ys:=[cs]) (news:=cs) q1 q2 q3 (by rw [q5]; rfl) (by rw [q4]; rfl) (aR ha hs) hO (List.nodup_append.1 mj.nd).1 (aR ha hx) (fun i u hi=>bc.at i u hi) hE hdk (by simp) (by rw [q6,hlen]; exact b1) (by rw [hlen]; exact b2)
 refine fx (WL.val rfl km ((h v).sound B o cj _ w' (aw ha) ?_))
 have TP:fact (qE Z (Fd++Zn)) w [] (.rd false (uA S) (.bool true) (us++[cs],xs++[y])):=by
  rw [hc]
  refine ⟨g0++g1,⟨rfl,Sk wN hk.2.1,fun b hb=>?_⟩,fun b hb=>?_⟩
  ·rcases List.mem_append.1 hb with hb | hb
   ·exact hk.2.2 b hb
   ·exact S.lt wN b hb
  ·rcases List.mem_append.1 hb with hb | hb
   ·exact .inl (td b hb)
   ·exact zB b hb
 exact St.put (SA.fact (gw.mono CJ fun _ h=>h) TP) F6 hC dq (dw List.nodup_nil) fun b hb=>(du b hb).imp id fun h=>h.resolve_left List.not_mem_nil
theorem Ro {n:Nat} {h:Array Obj}:∀ {us:List (List Value)} {cs:LV} {f:LN},dj (jx n) h cs us f→∀ c∈us,c.length=n∧∀ v∈c,v.oneCell'=true:=by
 intro us
 induction us with
 | nil=>intro cs f _ c hc; cases hc
 | cons a us ih=>
  rintro cs f ⟨c',kp,f1,f2,rfl,rfl,⟨rfl,h1,h2,rfl⟩,h3⟩ c hc
  rcases List.mem_cons.1 hc with rfl | hc
  ·exact ⟨h1,h2⟩
  ·exact ih h3 c hc
theorem Rp {n:Nat} {h:Array Obj}:∀ {us:List (List Value)},(∀ c∈us,c.length=n∧∀ v∈c,v.oneCell'=true)→dj (jx n) h us.flatten us []:=by
 intro us
 induction us with
 | nil=>intro _; exact ⟨rfl,rfl⟩
 | cons a us ih=>
  intro hc
  have h1:=hc a (by simp)
  exact ⟨a,us.flatten,[],[],by simp,rfl,⟨rfl,h1.1,h1.2,rfl⟩,ih fun c hm=>hc c (by simp [hm])⟩
theorem HG {n:Nat} {c:LV}:∀ {us:List (List Value)} {j:Nat},(∀ x∈us,x.length=n)→j < us.length→(us.set j c).flatten=us.flatten.take (j * n)++c++us.flatten.drop (j * n+n)∧j * n+n≤us.flatten.length:=by
 intro us
 induction us with
 | nil=>intro j _ hj; simp at hj
 | cons a us ih=>
  intro j hl hj
  have ha:a.length=n:=hl a (by simp)
  cases j with
  | zero=>refine ⟨?_,by simp [ha]⟩; simp [← ha]
  | succ j=>
   obtain ⟨h1,h2⟩:=ih (j:=j) (fun x hx=>hl x (by simp [hx])) (by simpa using hj)
   have e:(j+1) * n=n+j * n:=by rw [Nat.add_mul,Nat.one_mul,Nat.add_comm]
   refine ⟨?_,by rw [e,List.flatten_cons,List.length_append,ha]; omega⟩
   rw [List.set_cons_succ,List.flatten_cons,List.flatten_cons,h1,e,List.take_append,List.drop_append,ha]
   have e1:List.take (n+j * n) a=a:=List.take_of_length_le (by omega)
   have e2:List.drop (n+j * n+n) a=[]:=List.drop_eq_nil_of_le (by omega)
   rw [e1,e2,show n+j * n - n=j * n by omega,show n+j * n+n - n=j * n+n by omega]
   simp
theorem stS {α V:Type} {S:ai α} {cl:α→V→List Value} {en:α→V→List ay} (y:α) {u:V} {n e:Nat} {x0 y0:OO} {v:Value} {j:Int} {us:List (List Value)} {xs:List α} {cs c0:LV} {t ty:TI} {m:Option M}
  (h1:ep Γ (.own (aJ e (jx n)) v us) Γ1) (hp:In (.rd false (zv us j) (.bool true) c0) Γ) (hg:In (.rd false (uA S) (.bool true) (us,xs)) Γ1) (p8:Ea S V cl en) (_hv:tc V u) (hc:cs=cl y u) (ho:tT Γ cs) (hn:cs.length=n) (TN:FO (en y u)) (hf:EF Γ1 (en y u) Γ2)
  (h:D P cx (.o false all l rk (.own (aJ e (jx n)) v (us.set j.toNat cs) :: .rd false (uA S) (.bool true) (us.set j.toNat cs,xs.set j.toNat y) :: Γ2) fr m)):D P cx (.st (cy v n j) (.agg cs.toArray) n t x0 y0 ty all l rk Γ fr m):=by
 refine D.of ?_
 intro hT hx hy B o cj r w ha fc pos ah g
 have DM:SO S V cl en:=by cases p8; assumption
 obtain ⟨i,q1,q2⟩:=hT
 obtain ⟨Z,F,hS,hG⟩:=fc
 have EY:=ho.one hS
 obtain ⟨_,⟨_,⟨hj,hu⟩,_⟩,_⟩:=hp.rd hS []
 obtain ⟨k,F1,rV,hO,fl⟩:=h1.sound hS
 obtain ⟨Fd,F2,Zn,TO,gw,po⟩:=hf.sound fl
 obtain ⟨g0,hk,td⟩:=hg.rd fl []
 have mj:Gd B Z (k++F1) w:=hG.perm rV
 have wW:((k++F2)++(Fd++Zn)).Perm (k++F1):=by
  rw [List.append_assoc]
  refine List.Perm.append_left k (.trans ?_ po)
  rw [← List.append_assoc]
  exact (List.perm_append_comm (l₁:=F2) (l₂:=Fd)).append_right Zn
 have qG:Gd B Z ((k++F2)++(Fd++Zn)) w:=mj.perm wW
 have av:∀ b∈Fd++Zn,b < w.heap.size:=fun b hb=>by
  have h3:b∈k++F1:=wW.mem_iff.1 (List.mem_append_right _ hb)
  rcases List.mem_append.1 h3 with h3 | h3
  ·exact ai.lt _ hO b h3
  ·exact fl.lt b h3
 have F6:Gd B (qE Z (Fd++Zn)) (k++F2) w:=qG.freeze av
 have CJ:∀ b,qE Z Zn b→qE Z (Fd++Zn) b:=fun b hb=>hb.imp id fun h=>List.mem_append_right _ h
 obtain ⟨g1,wN,zB⟩:=DM.cl (x:=y) (v:=u) (Z:=qE Z (Fd++Zn)) (w:=w) (Qn TN (TO.mono CJ))
 obtain ⟨g2,E7,Yb⟩:=KU (c:=cs) (by rw [hc]; exact wN) j.toNat hk.2.1
 have TP:fact (qE Z (Fd++Zn)) w [] (.rd false (uA S) (.bool true) (us.set j.toNat cs,xs.set j.toNat y)):=by
  refine ⟨g2,⟨rfl,E7,fun b hb=>?_⟩,fun b hb=>?_⟩
  ·exact (Yb b hb).elim (hk.2.2 b) (S.lt wN b)
  ·exact (Yb b hb).elim (fun h=>.inl (td b h)) (zB b)
 have Em:j.toNat < us.length:=(List.getElem?_eq_some_iff.1 hu).1
 obtain ⟨base,cap,ks,hr⟩:=hO
 obtain rfl:v = .slice base us.length cap:=by simpa using ks
 rcases hr with ⟨_,_,rfl,_⟩ | ⟨b,cur,f',rfl,h2,rfl,h4,h5,h6,h3⟩
 ·simp at Em
 ·obtain ⟨Yc,uE⟩:=E5 h3
  subst uE
  have cq:=Ro h3
  obtain ⟨e1,e2⟩:=HG (c:=cs) (fun x hx=>(cq x hx).1) Em
  have bc:Row w b cur.toList e:=by unfold Row; simpa using h2
  have TQ:cur.toList=us.flatten++cur.toList.drop (us.length * n):=by
   rw [← Yc]; exact (List.take_append_drop _ _).symm
  have vG:cy (.slice (some ⟨b,0,none⟩) us.length cap) n j = ⟨b,j.toNat * n,none⟩:=by
   simp only [cy,jg,Nat.zero_add]
  rw [vG] at hx
  have hle:j.toNat * n+cs.length≤cur.toList.length:=by
   rw [hn,TQ,List.length_append]; omega
  have km:=uk (P:=P) (d:=none) (ty:=ty) (pos:=pos) (ah:=ah) (gg:=none) q1 (by rw [hn,q2]) bc hle (aR ha hx) (y:=y0) (by rw [aR ha hy]; rfl) EY
  refine fx (WL.skip rfl km (h.sound B o cj _ _ ha ?_))
  have vT:cur.toList.take (j.toNat * n)++cs++cur.toList.drop (j.toNat * n+cs.length)=(us.set j.toNat cs).flatten++cur.toList.drop (us.length * n):=by
   rw [hn,e1]
   conv=>lhs; rw [TQ]
   rw [List.take_append_of_le_length (by omega),List.drop_append_of_le_length (by omega)]
   simp
  have s6:=setRow_heap w b cur (cur.toList.take (j.toNat * n)++cs++cur.toList.drop (j.toNat * n+cs.length)).toArray e _ h2
  refine St.put (f:=[b]) (f':=[b]) (SA.fact (gw.mono CJ fun _ h=>h) TP) F6 ⟨rfl,rfl,rfl,Nat.le_refl _,by simp,fun j' _ ja=>setRow_other w b j' _ fun h=>ja (by simp [h])⟩ ?_ (by simp) (fun b hb=>.inl hb)
  refine ⟨_,cap,by rw [List.length_set],.inr ⟨b,_,[],rfl,s6,rfl,by rw [List.length_set]; exact h4,h5,?_,?_⟩⟩
  ·rw [← h6]
   simp only [List.size_toArray,vT]
   have e3:(us.set j.toNat cs).flatten.length=us.flatten.length:=by
    rw [e1]; simp only [List.length_append,List.length_take,List.length_drop,hn]; omega
   rw [List.length_append,e3,← List.length_append,← TQ,Array.length_toList]
  ·rw [List.toList_toArray,vT,List.length_set]
   have aki:(us.set j.toNat cs).flatten.length=us.length * n:=by
    have e3:(us.set j.toNat cs).flatten.length=us.flatten.length:=by
     rw [e1]; simp only [List.length_append,List.length_take,List.length_drop,hn]; omega
    rw [e3]
    have:=ke h3
    rw [Yc] at this
    exact this
   show dj (jx n) _ (List.take (us.length * n) _) _ _
   rw [List.take_append_of_le_length (by omega),List.take_of_length_le (by omega)]
   refine Rp fun c hm=>?_
   rcases List.mem_or_eq_of_mem_set hm with hm | rfl
   ·exact cq c hm
   ·exact ⟨hn,EY⟩
theorem sq {α:Type} {E:ai α} {d n:Nat} {t e ty:TI} {ps:List (Nat×Operand)} {us:LV} {xs:List α} {m:Option M} [hz:Ib P t e] (hl:tV Γ fr 0 ps us) (hn:us.length=n) (hb:(Nat.ble 1 n && Nat.ble n 16777216)=true) (hx:Fc Γ E us xs Γ1) (hE:E.size=1)
  (h:∀ v,D P cx (.o false all l rk (.own (aJ e E) v xs :: Γ1) ((d,v) :: fr) m)):D P cx (.e false (.buildSlice t n ps.toArray) (some d) ty all l rk Γ fr m):=by
 refine D.of ?_
 intro B o ho r w ha hs pos ah g
 obtain ⟨Z,F,hS,hg⟩:=hs
 refine fx (WL.val rfl (hl.op ha hS ⟨hz.h⟩ hn hb) ((h _).sound B o ho _ _ (aw ha) ?_))
 obtain ⟨e1,f,F2,po,hr,gw⟩:=hx.sound hS
 have Fh:n≤16777216:=by
  rw [Bool.and_eq_true] at hb
  exact Nat.le_of_ble_eq_true hb.2
 have hC:ao [] w (w.alloc (.cells us.toArray e)):=ao.alloc _ _ _
 have kz:Gd B Z (f++F2) w:=hg.perm po
 have av:∀ b∈f,b < w.heap.size:=mc hr
 have vT:=heap_alloc_new w (.cells us.toArray e)
 have fw:dj E (w.alloc (.cells us.toArray e)).heap us xs f:=j7 hr fun b hb=>hC.block b (av b hb) (fun h=>absurd h List.not_mem_nil)
 refine St.put (f:=f) (f':=w.heap.size :: f) gw kz (ao.mono hC fun _ h=>absurd h List.not_mem_nil) ⟨_,n,by rw [← hn,e1],.inr ⟨w.heap.size,us.toArray,f,rfl,vT,rfl,by rw [← hn,e1]; exact Nat.le_refl _,Nat.le_trans Fh (by decide),by rw [hE,Nat.mul_one]; simp [hn],?_⟩⟩ ?_ ?_
 ·rw [hE,Nat.mul_one,List.toList_toArray,← e1,List.take_length]
  exact fw
 ·exact List.nodup_cons.2 ⟨fun hm=>Nat.lt_irrefl _ (av _ hm),(List.nodup_append.1 kz.nd).1⟩
 ·intro b hb
  rcases List.mem_cons.1 hb with rfl | hb
  ·exact .inr (Nat.le_refl _)
  ·exact .inl hb
theorem Yd {α:Type} {d b:Nat} {s x:OO} {v u yv:Value} {j:Int} {y:α} {z:List α} {xs:List (List α)} {t e e' et ty:TI} {E E':ai α} {z0:α} {bt:Nat} {o1 o2:Bool} {Γx:QE} {f:Unit→Option M} [hT:sH P t α e E z0 bt] (hs:bp fr s=some u) (hx:bp fr x=some (.slice (some ⟨b,0,none⟩) 1 1)) (hl:Loc Γ u (.row v j)) (h0:ep Γ (.row b [yv] et) Γ1) (hz:p7 Γ u o1 o2 E' z s8 Γx) (h1:ep Γ1 (.own (aJ e' (aJ e E)) v xs) Γ2) (hr:RT (aJ e E) (bF E')) (hy:Br Γ2 E yv y Γ3)
  (h:∀ v',D P cx (.o false all l rk (.own (aJ e E) v' (z++[y]) :: .own (th e' (aJ e E) j.toNat) v xs :: Γ3) ((d,v') :: fr) (f ()))):D P cx (.e false (.call ⟨.builtin .append,#[s,x],#[t,t]⟩) (some d) ty all l rk Γ fr (fits bt (z.length+1)>>=f)):=by
 refine D.of ?_
 intro B o cj r w ha fc pos ah g
 obtain ⟨_,hu,cj⟩:=bind_some cj
 obtain ⟨b1,b2⟩:=qp hu
 obtain ⟨q1,q2,i,zz,q3,q4,q5,q6,q7,_⟩:=hT.h
 obtain ⟨Z,F,hS,hG⟩:=fc
 obtain ⟨j0,j1,j8⟩:=Loc.row hl rfl hS
 obtain ⟨dv,_,⟨⟨gz,td,_⟩,_⟩,_⟩:=hz.sound hS
 obtain ⟨n0,F0,uC,⟨rfl,bc⟩,xC⟩:=h0.sound hS
 obtain ⟨fm,F1,rV,hO,fl⟩:=h1.sound xC
 obtain ⟨ky,F2,po,Th,gw⟩:=hy.sound fl
 rw [sm hO] at j1
 obtain ⟨k,gm,a1,a2,a3⟩:=FB rfl hO (List.getElem?_eq_getElem j1) j8
 have FZ:xs[j.toNat]=z:=hr.tJ (hr.le.le a1) td
 rw [FZ] at a1
 have qz:((k++ky)++(gm++F2)).Perm (fm++F1):=by
  have e1:((k++gm)++(ky++F2)).Perm (fm++F1):=(a2.append_right _).trans (po.append_left fm)
  refine .trans ?_ e1
  rw [List.append_assoc,List.append_assoc]
  refine List.Perm.append_left k ?_
  rw [← List.append_assoc,← List.append_assoc]
  exact List.perm_append_comm.append_right F2
 have mj:Gd B Z ((k++ky)++(gm++F2)) w:=Gd.left (F':=[b]) (hG.perm (((qz.append_right [b]).trans (List.perm_append_comm.trans (rV.append_left [b]))).trans uC))
 have dw:=(List.nodup_append.1 mj.nd).1
 have vJ:=List.nodup_append.1 dw
 obtain ⟨v',w',f',km,hC,dq,du,F4⟩:=pt (E:=E) (d:=some d) (ty:=ty) (pos:=pos) (ah:=ah) (g:=none) (k:=ky) (ys:=[y]) (news:=[yv]) q1 q3 q4 (by rw [q5,q2]) (by rw [cells_one q6,q2]; rfl) (aR ha hs) a1 vJ.1 (aR ha hx) (fun i u hi=>bc.at i u hi) (qM Th) (fun b hb hm=>vJ.2.2 b hm b hb rfl) (by simp) (by rw [q7]; exact b1) b2
 refine fx (WL.val rfl km ((h v').sound B o cj _ w' (aw ha) ?_))
 have hSh:SA Z w (.own (th e' (aJ e E) j.toNat) v xs :: Γ3) [] (gm++F2):=SA.cons gw (e:=.own (th e' (aJ e E) j.toNat) v xs) a3
 refine St.put hSh mj (hC.mono fun b hb=>List.mem_append_left _ hb) dq (F4 vJ.2.1) fun b hb=>?_
 rcases du b hb with h | h | h
 ·exact .inl (List.mem_append_left _ h)
 ·exact .inl (List.mem_append_right _ h)
 ·exact .inr h
theorem ixH {α:Type} {q:Bool} {d j0:Nat} {x y:OO} {v:Value} {k:IntKind} {j:Int} {xs:List α} {t e ty:TI} {E:ai α} {f:α→Option M} [ht:vf P t] (hx:bp fr x=some v) (hy:bp fr y=some (.int k j)) (h1:ep Γ (.own (th e E j0) v xs) Γ1)
  (h:∀ z,D P cx (.o q all l rk Γ ((d,.pointer (some (cy v 1 j))) :: fr) (f z))):D P cx (.e q (.indexAddr t x y) (some d) ty all l rk Γ fr (idx xs j>>=f)):=by
 refine D.of ?_
 intro B o ho r w ha hs pos ah g
 obtain ⟨z,hz,ho⟩:=bind_some ho
 replace hz:=n7 hz
 obtain ⟨e',i,q1,q2,q3⟩:=ht.h
 obtain ⟨Z,F,hS,_⟩:=@_root_.id _ hs
 obtain ⟨f0,F1,_,⟨b,cap,cur,f1,f2,p,c0,qq,hv,_⟩,_⟩:=h1.sound hS
 obtain rfl:v = .slice (some ⟨b,0,none⟩) xs.length cap:=by simpa using hv
 have av:j.toNat < xs.length:=(List.getElem?_eq_some_iff.1 hz.2).1
 have CK:=hz.1
 refine cg (v:=.pointer (some (cy (.slice (some ⟨b,0,none⟩) xs.length cap) 1 j))) (fun w' hC=>?_) ((h z).sound B o ho _ w (aw ha) hs)
 rw [l5 q1 q2 (aR ha hx) (aR ha hy) hz.1 (by omega),q3]
 rfl
theorem stR {α:Type} {x0 y0:OO} {v u:Value} {j:Int} {z:α} {xs:List α} {t e ty:TI} {E:ai α} {m:Option M} (h1:ep Γ (.own E u z) Γ1) (h2:ep Γ1 (.own (th e E j.toNat) v xs) Γ2)
  (h:D P cx (.o false all l rk (.own (aJ e E) v (xs.set j.toNat z) :: Γ2) fr m)):D P cx (.st (cy v 1 j) u 1 t x0 y0 ty all l rk Γ fr m):=by
 refine D.of ?_
 intro hT hx hy B o cj r w ha fc pos ah g
 obtain ⟨i,q1,q2⟩:=hT
 obtain ⟨Z,F,hS,hG⟩:=fc
 obtain ⟨k,F1,rV,hK,fl⟩:=h1.sound hS
 obtain ⟨gm,F2,po,hM,gw⟩:=h2.sound fl
 have wW:((gm++k)++F2).Perm F:=by
  refine .trans ?_ rV
  refine .trans ?_ (po.append_left k)
  rw [← List.append_assoc k gm F2]
  exact List.perm_append_comm.append_right F2
 have mj:Gd B Z ((gm++k)++F2) w:=hG.perm wW
 have dw:=(List.nodup_append.1 mj.nd).1
 obtain ⟨b,cap,cur,f1,f2,p,c0,qq,hv,g1,rfl,⟨g2,g3,g4,g5⟩,g6,⟨g7,g8⟩,g9,g10⟩:=hM
 obtain rfl:v = .slice (some ⟨b,0,none⟩) xs.length cap:=by simpa using hv
 have vG:cy (.slice (some ⟨b,0,none⟩) xs.length cap) 1 j = ⟨b,j.toNat,none⟩:=by
  simp only [cy,jg,Nat.zero_add,Nat.mul_one]
 rw [vG] at hx
 have bc:Row w b cur.toList e:=by unfold Row; simpa using g1
 have Sg:∀ i∈(f1++f2)++k,i≠b:=by
  intro i hi he
  subst he
  have e1:((i :: (f1++f2))++k)=i :: ((f1++f2)++k):=rfl
  rw [e1] at dw
  exact (List.nodup_cons.1 dw).1 hi
 refine fx (WL.Fv q1 q2 bc (by rw [Array.length_toList,g4]; omega) (aR ha hx) (aR ha hy) (E.one hK u (by simp)) fun w' hC tf=>h.sound B o cj _ w' ha ?_)
 have Qo:∀ i∈(f1++f2)++k,i < w.heap.size→w'.heap[i]? = w.heap[i]?:=fun i hi hl=>hC.block i hl fun hm=>Sg i hi (by simpa using hm)
 have hK':E.rep w'.heap [u] z k:=E.congr hK fun i hi=>Qo i (List.mem_append_right _ hi) (E.lt hK i hi)
 have KV:=g10 w'.heap (fun i hi=>Qo i (List.mem_append_left _ hi) (g9 i hi)) u z k hK'
 refine St.put (f:=(b :: (f1++f2))++k) (f':=b :: (f1++k++f2)) gw mj (hC.mono fun i hi=>by rw [List.mem_singleton.1 hi]; simp) ⟨_,cap,by rw [List.length_set],.inr ⟨b,_,f1++k++f2,rfl,tf,rfl,by rw [List.length_set]; exact g2,g3,?_,?_⟩⟩ ?_ ?_
 ·rw [g5]; simp [g4]
 ·have s6:((cur.toList.set j.toNat u).take xs.length)=p++[u]++qq:=by
   rw [List.take_set,g6,← g7]
   simp
  rw [List.length_set,g5,Nat.mul_one]
  simpa [s6] using KV
 ·have FX:(b :: (f1++k++f2)).Perm ((b :: (f1++f2))++k):=by
   rw [List.cons_append]
   refine List.Perm.cons b ?_
   rw [List.append_assoc,List.append_assoc]
   exact List.Perm.append_left f1 List.perm_append_comm
  exact FX.nodup_iff.2 dw
 ·intro i hi
  refine .inl ?_
  rcases List.mem_cons.1 hi with rfl | hi
  ·simp
  ·rcases List.mem_append.1 hi with hi | hi
   ·rcases List.mem_append.1 hi with hi | hi <;> simp [hi]
   ·simp [hi]
theorem CL {S S1 V W:Type} (k:Nat) (Δ:S1→V→W→List ay) (φ:S1→V→W→Fr) (v0:V) (w0:W) (f2:Fr) {jk:List KI} {kb:Kb R S} {c:Code} {s0:S1} {body:S1→Option (Out S1 R)} {f:S1→Option (Out S R)}
  (ha:qS fr (φ s0 v0 w0)) (hf:qS fr f2) (h0:EO Γ (Δ s0 v0 w0) Γ1) (hn:OW Γ (Δ s0 v0 w0)) (hs:kq Γ1 Γ2)
  (hb:∀ s v w,D P cx (.p (φ s v w) (Δ s v w) f2 Γ2 fun fr Γ=>.c ⟨[],.loop (V×W) k (fun s v=>Δ s v.1 v.2) (fun s v=>φ s v.1 v.2) Γ2 f2⟩ c Γ fr (body s)))
  (hk:∀ s v w,D P cx (.p (φ s v w) (Δ s v w) f2 Γ2 fun fr Γ=>.mn ⟨jk,kb⟩ Γ fr (f s))):Bx (p9 P cx (.bk true k ⟨jk,kb⟩ (.loop c) Γ fr (ae (ab k (Li.aj body s0)) f))):=
 loop k (fun s v=>Δ s v.1 v.2) (fun s v=>φ s v.1 v.2) (v0,w0) f2 ha hf h0 hn hs (fun s v=>hb s v.1 v.2) (fun s v=>hk s v.1 v.2)
def Gj {α:Type} (v:Value) (_:List α):Prop:=∃ a n c,v = .slice a n c∧n≤c
theorem Le.cap {α:Type} {T E:ai α} (hl:Le T E) (e:TI):Le (aJ e T) (sF Gj (bF E)):=by
 refine ⟨rfl,fun {h cs x f} hr=>⟨?_,(Le.own hl e).le hr⟩⟩
 obtain ⟨base,cap,rfl,hr⟩:=hr
 refine ⟨_,rfl,_,_,_,rfl,?_⟩
 rcases hr with ⟨_,_,rfl,_⟩ | ⟨_,_,_,_,_,_,h,_⟩
 ·exact Nat.zero_le _
 ·exact h
theorem Rq {α:Type} {T E:ai α} {e e2:TI} {v:Value} {xs:List (List α)} {f:LN} {h:Array Obj} (hl:Le T E) (hO:(aJ e (aJ e2 T)).rep h [v] xs f) :
  ∃ fo fz us,(fo++fz).Perm f∧(aJ e qN).rep h [v] us fo∧dj (sF Gj (bF E)) h us xs fz:=by
 obtain ⟨base,cap,hv,hr⟩:=hO
 rcases hr with ⟨rfl,rfl,rfl,rfl⟩ | ⟨b,cur,f',rfl,h2,rfl,h4,h5,h6,h3⟩
 ·exact ⟨[],[],[],.refl _,⟨none,0,by simpa using hv,.inl ⟨rfl,rfl,rfl,rfl⟩⟩,rfl,rfl⟩
 ·have h7:=ke h3
  have h8:(aJ e2 T).size=1:=rfl
  rw [h8,Nat.mul_one] at h6 h3 h7
  try rw [Nat.mul_one] at h7
  refine ⟨[b],f',cur.toList.take xs.length,.refl _,⟨_,cap,by rw [h7]; exact hv,.inr ⟨b,cur,[],rfl,h2,rfl,by rw [h7]; exact h4,h5,by rw [h6]; exact (Nat.mul_one _).symm,?_⟩⟩,tR (Le.cap hl e2) h3⟩
  have h9:qN.size=1:=rfl
  rw [h9,Nat.mul_one,h7]
  exact By (BX h3)
theorem St.frz {α:Type} {T E:ai α} {e e2:TI} {v:Value} {xs:List (List α)} (hs:St B Γ w) (h1:EO Γ [.own (aJ e (aJ e2 T)) v xs] Γ1) (hr:RT T E):St B (.om e (sF Gj (bF E)) v xs :: Γ1) w:=by
 obtain ⟨Z,F,hS,hG⟩:=hs
 obtain ⟨_,F1,hH,fl,hp⟩:=h1.sound hS
 obtain ⟨f,hO,hp⟩ : ∃ f,(aJ e (aJ e2 T)).rep w.heap [v] xs f∧(f++F1).Perm F:=by
  cases hH with
  | own h k=>cases k; exact ⟨_,h,by simpa using hp⟩
 obtain ⟨fo,fz,us,hf,ho,hl⟩:=Rq hr.le hO
 have wW:((fo++F1)++fz).Perm F:=by
  refine .trans ?_ hp
  refine .trans ?_ (hf.append_right F1)
  rw [List.append_assoc,List.append_assoc]
  exact List.Perm.append_left fo List.perm_append_comm
 have qG:=Gd.freeze (hG.perm wW) fun b hb=>hS.lt b (wW.mem_iff.1 (List.mem_append_right _ hb))
 exact ⟨qE Z fz,fo++F1,SA.cons (fl.mono (fun _ h=>.inl h) fun _ h=>h) ⟨us,fz,ho,hl,fun b hb=>.inr hb,rfl⟩,qG⟩
theorem Xg {S:Type} {id:Nat} (k:Nat) {K:dk R S} {l ops Ye:LO} {α:Type} {T E:ai α} {e e2:TI} {v:Value} {xs:List (List α)} {m:Option (Out S R)} (hB:(P.follows .mixedOrders && dp cx.n l && ((l.take k).all fun o=>vK o.op) && Region.lexTailB .any l.toArray k)=true) (ho:ops=l.take k) (ht:Ye=l.drop k)
  (h1:EO Γ [.own (aJ e (aJ e2 T)) v xs] Γ1) (hr:RT T E) (h:D P cx (.o true l ops (.h l Ye K) (.om e (sF Gj (bF E)) v xs :: Γ1) fr m)):Bx (p9 P cx (.dr id l K Γ fr m)):=by
 have h2:=tail (id:=id) k hB ho ht h
 rw [qy] at h2 ⊢
 exact fun B o cj r w ha hs=>h2 B o cj r w ha (hs.frz h1 hr)
theorem LC {α:Type} {E:ai α} {h:Array Obj}:∀ {xs:List α} {cs:LV} {f:LN} (n:Nat),dj E h cs xs f→∃ f3,dj E h (cs.drop (n * E.size)) (xs.drop n) f3∧∀ b∈f3,b∈f:=by
 intro xs
 induction xs with
 | nil=>rintro cs f n ⟨rfl,rfl⟩; exact ⟨[],by simpa using ⟨rfl,rfl⟩,fun _ h=>h⟩
 | cons x xs ih=>
  rintro cs f n ⟨c,ds,f1,f2,rfl,rfl,h1,h2⟩
  cases n with
  | zero=>exact ⟨f1++f2,by simpa using ⟨c,ds,f1,f2,rfl,rfl,h1,h2⟩,fun _ h=>h⟩
  | succ n=>
   obtain ⟨f3,h3,h4⟩:=ih n h2
   refine ⟨f3,?_,fun b hb=>List.mem_append_right _ (h4 b hb)⟩
   have e:(n+1) * E.size=c.length+n * E.size:=by rw [E.len h1,Nat.add_mul,Nat.one_mul,Nat.add_comm]
   rw [e,List.drop_append,List.drop_of_length_le (by omega),List.nil_append,List.drop_succ_cons]
   simpa using h3
theorem slT {α:Type} {q:Bool} {d:Nat} {x lo:OO} {v:Value} {k:IntKind} {j:Int} {E:ai α} {xs:List α} {t ty:TI} {f:List α→Option M} [ht:vf P t] (hx:bp fr x=some v) (hy:bp fr lo=some (.int k j)) (hr:In (.rd false (sF Gj (bF E)) v xs) Γ) (hE:E.size=1)
  (h:∀ v' ys,D P cx (.o q all l rk (.rd false (bF E) v' ys :: Γ) ((d,v') :: fr) (f ys))):D P cx (.e q (.slice t x (some lo) none none) (some d) ty all l rk Γ fr (tl xs j>>=f)):=by
 refine D.of ?_
 intro B o ho r w ha hs pos ah g
 obtain ⟨ys,TR,ho⟩:=bind_some ho
 obtain ⟨h0,h1,rfl⟩:=Rs TR
 obtain ⟨e,i,q1,q2,q3⟩:=ht.h
 obtain ⟨Z,F,hS,hG⟩:=hs
 obtain ⟨g0,⟨⟨v0,hv0,a0,n0,c0,hv1,hc⟩,base,cap,hv,fw⟩,td⟩:=hr.rd hS []
 obtain rfl:v = .slice base xs.length cap:=by simpa using hv
 obtain rfl:Value.slice base xs.length cap=v0:=by simpa using hv0
 obtain ⟨rfl,rfl,rfl⟩ : base=a0∧xs.length=n0∧cap=c0:=by simpa using hv1
 have hlen:(xs.drop j.toNat).length=xs.length - j.toNat:=List.length_drop
 have hf:fact Z w [] (.rd false (bF E) (sliced base j.toNat xs.length cap 1) (xs.drop j.toNat)):=by
  by_cases hj:j.toNat=xs.length
  ·refine ⟨[],⟨_,cap - j.toNat,by unfold sliced; rw [hlen],.inl ⟨by rw [hj]; simp,rfl⟩⟩,fun _ h=>absurd h List.not_mem_nil⟩
  ·rcases fw with ⟨rfl,_⟩ | ⟨b,off,cur,e',fz,f',rfl,g1,rfl,_,g2⟩
   ·exfalso; simp at h1 hj; omega
   ·have iv : ¬ (cap=j.toNat):=by omega
    obtain ⟨f3,dq,du⟩:=LC j.toNat g2
    refine ⟨b :: f3,⟨some ⟨b,off+j.toNat,none⟩,cap - j.toNat,?_,.inr ⟨b,off+j.toNat,cur,e',fz,f3,rfl,g1,rfl,by omega,?_⟩⟩,fun i hi=>?_⟩
    ·unfold sliced
     rw [hlen,if_neg iv]
     simp [jg]
    ·rw [hE,Nat.mul_one] at dq ⊢
     rw [Nat.mul_one,List.drop_take,List.drop_drop] at dq
     rw [hlen]
     exact dq
    ·rcases List.mem_cons.1 hi with rfl | hi
     ·exact td _ (by simp)
     ·exact td _ (List.mem_cons_of_mem _ (du i hi))
 refine cg (v:=sliced base j.toNat xs.length cap 1) (fun w' _=>?_) ((h _ _).sound B o ho _ w (aw ha) ⟨Z,F,SA.fact hS hf,hG⟩)
 have q4:P.elem t=e:=by simp [Program.elem,q1]
 have r9:(sizeOf (P.elem t)).run P w' = .ok 1 w':=by rw [q4]; simp [sizeOf,typeInfo,q2,q3]
 simp [execOp,aR ha hx,aR ha hy,run_sliceAt_slice w' t _ _ _ _ (by rw [q4]; exact q1),run_slice_l (P:=P) w' t base xs.length cap (by rw [q4]; exact q1) k j h0 h1,r9,Result.andThen]
theorem slX {α:Type} {q o:Bool} {d:Nat} {x hi:OO} {v:Value} {k:IntKind} {j:Int} {E:ai α} {xs:List α} {t ty:TI} {f:List α→Option M} {Γ':Value→List α→List ay} [ht:vf P t] (hx:bp fr x=some v) (hy:bp fr hi=some (.int k j)) (hr:∀ v' ys,p7 Γ v o o E xs (.rd o (bF E) v' ys) (Γ' v' ys)) (hE:E.size=1)
  (h:∀ v' ys,D P cx (.o q all l rk (Γ' v' ys) ((d,v') :: fr) (f ys))):D P cx (.e q (.slice t x none (some hi) none) (some d) ty all l rk Γ fr (DN xs 0 j>>=f)):=by
 refine D.of ?_
 intro B oo ho r w ha hs pos ah g
 obtain ⟨ys,TR,ho⟩:=bind_some ho
 obtain ⟨_,h0,h1,rfl⟩:=LD TR
 obtain ⟨e,i,q1,q2,q3⟩:=ht.h
 obtain ⟨Z,F,hS,hG⟩:=hs
 obtain ⟨base,cap,rfl,FN⟩ : ∃ base cap,v = .slice base xs.length cap∧xs.length≤cap:=by
  obtain ⟨_,_,⟨⟨g0,⟨base,cap,hv,fw⟩,_⟩,_⟩,_⟩:=(hr v xs).sound hS
  refine ⟨base,cap,by simpa using hv,?_⟩
  rcases fw with ⟨rfl,_⟩ | ⟨_,_,_,_,_,_,_,_,_,hc,_⟩
  ·exact Nat.zero_le _
  ·exact hc
 obtain ⟨dv,_,⟨⟨g0,hg0,sL⟩,_⟩,sn⟩:=(hr (sliced base 0 j.toNat cap 1) ((xs.drop (0:Int).toNat).take (j.toNat - (0:Int).toNat))).sound hS
 have hf:=N2 (a:=0) (b:=j.toNat) hE hg0 (fun i hi=>(sL i hi).elim (fun h=>h) fun h=>h) (Nat.zero_le _) (by omega) FN
 refine cg (v:=sliced base 0 j.toNat cap 1) (fun w' _=>?_) ((h _ _).sound B oo ho _ w (aw ha) ⟨Z,F,sn hf,hG⟩)
 have q4:P.elem t=e:=by simp [Program.elem,q1]
 have r9:(sizeOf (P.elem t)).run P w' = .ok 1 w':=by rw [q4]; simp [sizeOf,typeInfo,q2,q3]
 simp [execOp,aR ha hx,aR ha hy,run_sliceAt_slice w' t _ _ _ _ (by rw [q4]; exact q1),run_slice_h (P:=P) w' t base xs.length cap (by rw [q4]; exact q1) k j h0 (by omega),r9,Result.andThen]
theorem lkq {κ υ:Type} {q:Bool} {d:Nat} {x y:OO} {v:Value} {t ty:TI} {bq:BEq κ} {ek:κ→Value} {eu:υ→Value} {xs:List (κ×υ)} {a:κ} {z0:υ} {m:Option M} [ht:Fa P t κ υ bq ek eu] [hz:P8 P t υ eu z0] (hx:bp fr x=some v) (hy:bp fr y=some (ek a)) (hr:Bt ek eu Γ v xs)
  (h:D P cx (.o q all l rk Γ ((d,eu ((ie xs a).getD z0)) :: fr) m)):D P cx (.e q (.lookup t x y false) (some d) ty all l rk Γ fr m):=by
 refine D.of ?_
 intro B o ho r w ha hs pos ah g
 obtain ⟨Z,F,hS,_⟩:=id hs
 exact cg ((VQ.Qb (z0:=z0) hx hy hr).sound hS ha _ _ _ _ _) (h.sound B o ho _ w (aw ha) hs)
theorem stN {α:Type} {x y:OO} {v u:Value} {j:Int} {z:List α} {xs:List (List α)} {E:ai α} {Q:Value→List α→Prop} {t e ty:TI} {Γx:QE} {m:Option M} (h0:Rg v j Γ) (h1:p7 Γ u false false E z s8 Γx) (h2:ep Γ (.om e (sF Q (bF E)) v xs) Γ1)
  (h:D P cx (.o false all l rk (.om e (bF E) v (xs.set j.toNat z) :: Γ1) fr m)):D P cx (.sl .om v j u t x y ty all l rk Γ fr m):=by
 refine D.of ?_
 intro hT hx hy _ B o ho r w ha hs pos ah g
 obtain ⟨i,hi,r9⟩:=hT
 obtain ⟨Z,F,hS,hg⟩:=hs
 obtain ⟨j0,j1⟩:=h0.sound hS
 obtain ⟨dv,_,⟨⟨k,hk,hkz⟩,_⟩,_⟩:=h1.sound hS
 obtain ⟨n,F1,hp,⟨us,gg,hO,hr0,td,TS⟩,fl⟩:=h2.sound hS
 have hle:Le (sF Q (bF E)) (bF E):=⟨rfl,fun h=>h.2⟩
 have hr:dj (bF E) w.heap us xs gg:=tR hle hr0
 replace TS:(bF E).size=1:=rfl
 have kz:=hg.perm hp
 have dw:=List.nodup_append.1 kz.nd
 have TU:∀ b∈k,Z b:=fun b hb=>(hkz b hb).elim (fun h=>h) (fun h=>h)
 have Yf:∀ b∈n,¬ Z b:=fun b hb=>kz.apart b (List.mem_append_left _ hb)
 have hl:us.length=xs.length:=by have:=ke hr; rw [TS,Nat.mul_one] at this; exact this
 have KS:u5 v=us.length:=sm hO
 rw [KS,hl] at j1
 refine fx (TV.store (E:=bF E) (G:=n) (B:=w.heap.size) (g:=gg) (k:=k) hi r9 ⟨us,⟨hO,dw.1,fun b hb=>.inl hb⟩,hr,TS⟩ (List.getElem?_eq_getElem j1) (aR ha hx) (aR ha hy) hk (fun b hb hm=>Yf b hm (TU b hb)) (fun b hb hm=>Yf b hm (td b hb)) fun w' g' hC qU nq=>?_)
 obtain ⟨us',cj,fw,ZM⟩:=qU
 exact h.sound B o ho _ w' ha (St.put fl kz hC ⟨us',_,cj.1,fw,(fun b hb=>(nq b hb).elim (td b) (TU b)),ZM⟩ cj.2.1 fun b hb=>.inl hb)
theorem St.aly {B:Bs} {Γ Δ Γ1 Γ2 Γ3:QE} {w:World} (h:St B Γ w) (h0:EF Γ Δ Γ1) (h1:EO Γ1 Γ2 Γ3) (h2:MF Γ none Γ2):St B (Δ.reverse++Γ2) w:=by
 obtain ⟨Z,F,hs,hg⟩:=h
 obtain ⟨Fd,F',Zn,a1,a2,a3⟩:=h0.sound hs
 obtain ⟨SD,F3,c1,c2,c3⟩:=h1.sound a2
 obtain ⟨F2,b1,b2⟩:=HL.build a1 (h2.sound (hs.left (f:=Zn)) (dv:=[]) (by rintro e he; cases he) c1)
 refine St.of (F':=Fd++SD) b2 (Gd.left (F':=F3) ((Gd.freeze (hg.perm a3) fun b hb=>hs.lt b (a3.mem_iff.1 (List.mem_append_right _ hb))).perm ?_)) b1
 rw [List.append_assoc]
 exact c3.append_left Fd
theorem join {S S1 V:Type} {t k:Nat} {b:Bool} (Δ:S1→V→List ay) (φ:S1→V→Fr) (v0:V) (f2:Fr) {jk:List KI} {kb:Kb R S} {x y:Code} {s0:S1} {m0:Option (Out S1 R)} {f:S1→Option (Out S R)}
   (_ha:qS fr (φ s0 v0)) (_hf:qS fr f2) (_h0:EO Γ (Δ s0 v0) Γ1) (_hs:kq Γ1 Γ2)
   (hb:D P cx (.cd b ⟨[],.loop V k Δ φ Γ2 f2⟩ x y Γ fr m0)) (hk:∀ s v,D P cx (.p (φ s v) (Δ s v) f2 Γ2 fun fr Γ=>.n ⟨jk,kb⟩ Γ fr (f s))):D P cx (.cd b ⟨jk,kb⟩ x y Γ fr (jn t s0 m0 f)):=by
 refine .inj (bxi ?_)
 intro B o ho r w sa qI
 replace ho:ae m0 f=some o:=ho
 cases hm:m0 with
 | none=>rw [hm] at ho; cases ho
 | some o0=>
  have h1:=hb.sound B o0 hm r w sa qI
  rw [hm] at ho
  have hq:∀ e r w,l4 P cx B ⟨[],.loop V k Δ φ Γ2 f2⟩ o0 e r w→l4 P cx B ⟨jk,kb⟩ o e r w:=by
   intro e r w hp
   cases o0 with
   | norm s=>
    cases e with
    | normal=>obtain ⟨v,a1,a2⟩:=hp; exact (hk s v).sound B o ho r w a1 a2
    | _=>exact hp.elim
   | exit j s=>cases ho
   | ret y=>
    cases ho
    cases e with
    | ret=>exact wP hp
    | _=>exact hp.elim
  exact ⟨fun h=>uH (h1.1 h) hq,fun h=>uH (h1.2 h) hq⟩
theorem Eo {S:Type} {t:Nat} {K:dk R S} {ops:LO} {m:Option (Out S R)} (_ht:Cu ops=some t) (h:D P cx (.o false ops ops (.s K) Γ fr m)):D P cx (.rw false ops K Γ fr m):=.XL h
theorem rX {S:Type} {b:Bool} {t:Nat} {K:dk R S} {x y:Code} {m1 m2:Option (Out S R)} (hl:look fr t=some (.bool b)) (h1:D P cx (.c K x Γ ((t,.bool true) :: fr) m1)) (h2:D P cx (.c K y Γ ((t,.bool false) :: fr) m2)):D P cx (.cd b K x y Γ fr (bif b then m1 else m2)):=by
 refine D.of ?_
 have hc:∀ {r:NV},cw r fr→∀ c,b=c→cw r ((t,.bool c) :: fr):=by
  intro r ha c hb s u hs
  unfold look at hs
  cases qI:Nat.beq s t with
  | true=>
   rw [qI] at hs
   cases hs
   obtain rfl:=Nat.eq_of_beq_eq_true qI
   rw [← hb]
   exact ha _ _ hl
  | false=>rw [qI] at hs; exact ha _ _ hs
 exact fun B o ho r w ha hs=>⟨fun h=>h1.sound B o (by rw [h] at ho; exact ho) r w (hc ha _ h) hs,fun h=>h2.sound B o (by rw [h] at ho; exact ho) r w (hc ha _ h) hs⟩
class o9 {α:Type} (S:ai α) (V:outParam Type) (cl:outParam (α→V→List Value)) (en:outParam (α→V→List ay)):Prop where
 ow:∀ x v,rj (en x v)=true
 op:∀ {w:World} {cs:LV} {x:α} {g:LN},S.rep w.heap cs x g→∃ v,cs=cl x v∧∀ Z:Nat→Prop,HL Z w (en x v) g
 cl:∀ {w:World} {x:α} {v:V} {Z:Nat→Prop} {g:LN},HL Z w (en x v) g→S.rep w.heap (cl x v) x g
theorem o9.i {k:IntKind}:o9 (aM k) Unit (fun x _=>[.int k x]) (fun _ _=>[]):=
 ⟨fun _ _=>rfl,fun h=>⟨(),h.1,fun _=>by rw [h.2]; exact .nil⟩,fun h=>by cases h; exact ⟨rfl,rfl⟩⟩
theorem o9.s {α:Type} {e:TI} {E:ai α}:o9 (aJ e E) Value (fun _ v=>[v]) (fun x v=>[.own (aJ e E) v x]):=by
 refine ⟨fun _ _=>rfl,fun {w cs x g} h=>?_,fun {w x v Z g} h=>?_⟩
 ·obtain ⟨base,cap,rfl,hr⟩:=h
  refine ⟨_,rfl,fun Z=>?_⟩
  have:=HL.own (Z:=Z) (w:=w) (e:=.own (aJ e E) (.slice base x.length cap) x) (f:=g) ⟨base,cap,rfl,hr⟩ .nil
  rwa [List.append_nil] at this
 ·cases h with
  | own h k=>cases k; rw [List.append_nil]; exact h
  | fact h _=>exact h.elim
theorem o9.ip {β V:Type} {k:IntKind} {B:ai β} {cl:β→V→List Value} {en:β→V→List ay} (h:o9 B V cl en):o9 (iq (aM k) B) V (fun x v=>.int k x.1 :: cl x.2 v) (fun x v=>en x.2 v):=by
 refine ⟨fun x v=>h.ow x.2 v,fun {w cs x g} hr=>?_,fun {w x v Z g} he=>?_⟩
 ·obtain ⟨c1,c2,f1,f2,rfl,rfl,⟨rfl,rfl⟩,h2⟩:=hr
  obtain ⟨v,rfl,hv⟩:=h.op h2
  exact ⟨v,rfl,hv⟩
 ·exact ⟨[_],_,[],g,rfl,rfl,⟨rfl,rfl⟩,h.cl he⟩
theorem o9.sp {α β V:Type} {e:TI} {E:ai α} {B:ai β} {cl:β→V→List Value} {en:β→V→List ay} (h:o9 B V cl en):o9 (iq (aJ e E) B) (Value×V) (fun x v=>v.1 :: cl x.2 v.2) (fun x v=>.own (aJ e E) v.1 x.1 :: en x.2 v.2):=by
 refine ⟨fun x v=>h.ow x.2 v.2,fun {w cs x g} hr=>?_,fun {w x v Z g} he=>?_⟩
 ·obtain ⟨c1,c2,f1,f2,rfl,rfl,h1,h2⟩:=hr
  obtain ⟨base,cap,rfl,wN⟩:=h1
  obtain ⟨v,rfl,hv⟩:=h.op h2
  exact ⟨(_,v),rfl,fun Z=>.own ⟨base,cap,rfl,wN⟩ (hv Z)⟩
 ·cases he with
  | own h1 k=>
   obtain ⟨base,cap,hb,wN⟩:=h1
   exact ⟨[_],_,_,_,rfl,rfl,⟨base,cap,hb,wN⟩,h.cl k⟩
  | fact h1 _=>exact h1.elim
theorem o9.mp {α β V:Type} {f:β→α} {A:ai α} {cl:α→V→List Value} {en:α→V→List ay} (h:o9 A V cl en):o9 (yn f A) V (fun y v=>cl (f y) v) (fun y v=>en (f y) v):=
 ⟨fun y v=>h.ow (f y) v,fun hr=>h.op hr,fun he=>h.cl he⟩
inductive Of {α:Type} (S:ai α) (V:Type) (cl:α→V→List Value) (en:α→V→List ay):Prop
 | mk [h:o9 S V cl en]:Of S V cl en
theorem Xh:∀ {Δ:QE} {F:LN},rj Δ=true→HO Z w Δ F→HL Z w Δ F:=by
 intro Δ
 induction Δ with
 | nil=>intro F _ h; cases h; exact .nil
 | cons e Δ ih=>
  intro F ho h
  cases e with
  | own T v x=>cases h with | own h k=>exact .own h (ih ho k)
  | row b cs t=>cases h with | own h k=>exact .own h (ih ho k)
  | _=>exact absurd ho (by simp [rj])
theorem Yg {α:Type} (S:ai α) {d:Nat} {t e n bt ty:TI} {m:Option M} [ht:zN P t e n bt]
  (h:∀ v,D P cx (.o false all l rk (.own (aJ e S) v [] :: Γ) ((d,v) :: fr) m)):D P cx (.e false (.buildSlice t 0 #[]) (some d) ty all l rk Γ fr m):=by
 refine D.of ?_
 intro B o ho r w ha hs pos ah g
 obtain ⟨h1,i,z,h2,_⟩:=ht.h
 obtain ⟨v,w',f,hr,hC,hO⟩:=yC (E:=S) (r:=r) (w:=w) (d:=some d) (ty:=ty) (pos:=pos) (ah:=ah) (g:=none) h1 h2
 refine fx (WL.val rfl hr ((h v).sound B o ho _ w' (aw ha) ?_))
 obtain ⟨Z,F,hS,hg⟩:=hs
 exact St.put (f:=[]) hS hg hC hO.1 hO.2.1 fun b hb=>.inr ((hO.2.2 b hb).resolve_left List.not_mem_nil)
theorem Yh {α:Type} {S:ai α} {q:Bool} {d n e:Nat} {x:OO} {v:Value} {xs:List α} {t ty bt:TI} {m:Option M} [ht:zN P t e n bt] (hx:bp fr x=some v) (h1:ep Γ (.own (aJ e S) v xs) Γ1)
  (h:D P cx (.o q all l rk Γ ((d,.int .i64 (xs.length:Int)) :: fr) m)):D P cx (.e q (.call ⟨.builtin .len,#[x],#[t]⟩) (some d) ty all l rk Γ fr m):=by
 refine D.of ?_
 intro B o ho r w ha hs pos ah g
 obtain ⟨q1,_⟩:=ht.h
 obtain ⟨Z,F,hS,hG⟩:=@_root_.id _ hs
 obtain ⟨f,F1,_,hO,_⟩:=h1.sound hS
 obtain ⟨base,cap,hv,_⟩:=hO
 obtain rfl:v = .slice base xs.length cap:=by simpa using hv
 exact cg (v:=.int .i64 (xs.length:Int)) (fun w' _=>vI q1 (aR ha hx)) (h.sound B o ho _ w (aw ha) hs)
theorem Og {α:Type} {S:ai α} {n:Nat} {hp:Array Obj} (hn:S.size=n):∀ {xs:List α} {cs:LV} {f:LN},dj S hp cs xs f→∃ us,us.length=xs.length∧dj (jx n) hp cs us []∧∀ (j:Nat) (x:α),xs[j]? = some x→∃ c f0 f1 f2,us[j]? = some c∧f=f0++f1++f2∧S.rep hp c x f1:=by
 intro xs
 induction xs with
 | nil=>rintro cs f ⟨rfl,rfl⟩; exact ⟨[],rfl,⟨rfl,rfl⟩,fun j x hj=>by simp at hj⟩
 | cons y xs ih=>
  rintro cs f ⟨c,kp,f1,f2,rfl,rfl,h1,h2⟩
  obtain ⟨us,hl,hr,hg⟩:=ih h2
  refine ⟨c :: us,by simp [hl],⟨c,kp,[],[],rfl,rfl,⟨rfl,by rw [S.len h1,hn],S.one h1,rfl⟩,hr⟩,fun j x hj=>?_⟩
  cases j with
  | zero=>simp at hj; subst hj; exact ⟨c,[],f1,f2,rfl,by simp,h1⟩
  | succ j=>
   obtain ⟨c',g0,g1,g2,a1,rfl,a3⟩:=hg j x (by simpa using hj)
   exact ⟨c',f1++g0,g1,g2,by simpa using a1,by simp,a3⟩
theorem ixO {α V:Type} {S:ai α} {cl:α→V→List Value} {en:α→V→List ay} {q:Bool} {d n e:Nat} {x y:OO} {v:Value} {xs:List α} {k:IntKind} {j:Int} {t ty bt:TI} {f:α→Option M} [ht:zN P t e n bt] (hx:bp fr x=some v) (hy:bp fr y=some (.int k j))
  (h1:ep Γ (.own (aJ e S) v xs) Γ1) (hs:Of S V cl en) (hn:S.size=n)
  (h:∀ z u us,D P cx (.p [] (.own (aJ e (jx n)) v us :: .rd false (zv us j) (.bool true) (cl z u) :: en z u) fr Γ1 fun fr Γ=>.o q all l rk Γ ((d,.pointer (some (cy v n j))) :: fr) (f z))):D P cx (.e q (.indexAddr t x y) (some d) ty all l rk Γ fr (idx xs j>>=f)):=by
 refine D.of ?_
 intro B o ho r w ha fc pos ah g
 replace hs:o9 S V cl en:=by cases hs; assumption
 obtain ⟨z,hz,ho⟩:=bind_some ho
 replace hz:=n7 hz
 obtain ⟨q1,i,_,q2,_,_,q3,_⟩:=ht.h
 obtain ⟨Z,F,hS,hG⟩:=fc
 obtain ⟨f0,F1,hp,hO,fl⟩:=h1.sound hS
 have av:j.toNat < xs.length:=(List.getElem?_eq_some_iff.1 hz.2).1
 obtain ⟨base,cap,hv,hr⟩:=hO
 obtain rfl:v = .slice base xs.length cap:=by simpa using hv
 rcases hr with ⟨_,_,rfl,_⟩ | ⟨b,cur,f',rfl,j8,rfl,hle,ZN,r9,dq⟩
 ·simp at av
 ·obtain ⟨us,hl,hru,hg⟩:=Og hn dq
  obtain ⟨c,g0,g1,g2,a1,rfl,a3⟩:=hg _ _ hz.2
  obtain ⟨u,rfl,o5⟩:=hs.op a3
  have vT:(aJ e (jx n)).rep w.heap [.slice (some ⟨b,0,none⟩) xs.length cap] us [b]:=
   ⟨_,cap,by rw [hl],.inr ⟨b,cur,[],rfl,j8,rfl,by rw [hl]; exact hle,ZN,by rw [r9,hn]; rfl,by rw [hl,show (jx n).size=S.size from hn.symm]; exact hru⟩⟩
  have cq:HL Z w (.own (aJ e (jx n)) (.slice (some ⟨b,0,none⟩) xs.length cap) us :: .rd false (zv us j) (.bool true) (cl z u) :: en z u) ([b]++g1):=.own vT (.fact ⟨[],⟨rfl,⟨hz.1,a1⟩,rfl⟩,fun _ h=>absurd h List.not_mem_nil⟩ (o5 Z))
  obtain ⟨F',tK,gw⟩:=cq.build fl
  have qz:(F'++(g0++g2)).Perm F:=by
   refine .trans ?_ hp
   refine (tK.append_right _).trans ?_
   rw [List.cons_append,List.cons_append,List.cons_append,List.nil_append,List.cons_append]
   refine List.Perm.cons b ?_
   have e1:(g1++F1++(g0++g2)).Perm ((g0++g2)++(g1++F1)):=List.perm_append_comm
   refine e1.trans ?_
   rw [List.append_assoc,List.append_assoc,List.append_assoc]
   refine List.Perm.append_left g0 ?_
   rw [← List.append_assoc,← List.append_assoc]
   exact List.perm_append_comm.append_right F1
  refine cg (v:=.pointer (some (cy (.slice (some ⟨b,0,none⟩) xs.length cap) n j))) (fun w' hC=>?_) ((h z u us).sound B o ho _ w (aw ha) ⟨Z,F',gw,Gd.left (hG.perm qz)⟩)
  rw [l5 q1 q2 (aR ha hx) (aR ha hy) hz.1 (by omega),q3]
  rfl
theorem apO {α V:Type} {S:ai α} {cl:α→V→List Value} {en:α→V→List ay} (y:α) {u:V} {d b n e bt:Nat} {s x:OO} {sv:Value} {xs:List α} {cs:LV} {t et ty:TI} {f:Unit→Option M} [ht:zN P t e n bt]
  (hs:bp fr s=some sv) (hx:bp fr x=some (.slice (some ⟨b,0,none⟩) 1 1)) (h0:ep Γ (.row b cs et) Γ1) (h1:ep Γ1 (.own (aJ e S) sv xs) Γ2) (p8:Of S V cl en) (_hv:tc V u) (hc:cs=cl y u) (hn:S.size=n) (he:EO Γ2 (en y u) Γ3)
  (h:∀ v,D P cx (.o false all l rk (.own (aJ e S) v (xs++[y]) :: Γ3) ((d,v) :: fr) (f ()))):D P cx (.e false (.call ⟨.builtin .append,#[s,x],#[t,t]⟩) (some d) ty all l rk Γ fr (fits bt (xs.length+1)>>=f)):=by
 refine D.of ?_
 intro B o cj r w ha fc pos ah g
 have DM:o9 S V cl en:=by cases p8; assumption
 obtain ⟨_,hu,cj⟩:=bind_some cj
 obtain ⟨b1,b2⟩:=qp hu
 obtain ⟨q1,i,z,q2,q3,q4,q5,q6,_⟩:=ht.h
 obtain ⟨Z,F,hS,hG⟩:=fc
 obtain ⟨n0,F0,uC,⟨rfl,bc⟩,xC⟩:=h0.sound hS
 obtain ⟨k,F1,hp,hO,fl⟩:=h1.sound xC
 obtain ⟨Fd,F2,hho,gw,po⟩:=he.sound fl
 have hy:S.rep w.heap (cl y u) y Fd:=DM.cl (Xh (DM.ow y u) hho)
 have qz:(((k++Fd)++F2)++[b]).Perm F:=by
  refine .trans ?_ uC
  refine List.perm_append_comm.trans ?_
  refine List.Perm.append_left [b] ?_
  rw [List.append_assoc]
  exact (po.append_left k).trans hp
 have mj:Gd B Z ((k++Fd)++F2) w:=Gd.left (F':=[b]) (hG.perm qz)
 have dw:=(List.nodup_append.1 mj.nd).1
 have vJ:=List.nodup_append.1 dw
 subst hc
 obtain ⟨v,w',f',km,hC,dq,du,F4⟩:=pt (E:=S) (d:=some d) (ty:=ty) (pos:=pos) (ah:=ah) (g:=none) (k:=Fd) (ys:=[y]) (news:=cl y u) q1 q2 q3 (by rw [q5,hn]) (by rw [q4,hn]) (aR ha hs) hO vJ.1 (aR ha hx) (fun i u hi=>bc.at i u hi) (qM hy) (fun b hb hm=>vJ.2.2 b hm b hb rfl) (by simp) (by rw [q6]; exact b1) b2
 refine fx (WL.val rfl km ((h v).sound B o cj _ w' (aw ha) ?_))
 refine St.put gw mj (hC.mono fun b hb=>List.mem_append_left _ hb) dq (F4 vJ.2.1) fun b hb=>?_
 rcases du b hb with h | h | h
 ·exact .inl (List.mem_append_left _ h)
 ·exact .inl (List.mem_append_right _ h)
 ·exact .inr h
end
end Go.Dk
namespace Go.Dk
open Go Go.Li
section
variable {P:Program} {n:Nat} {l:LO} {Q:Exit→(Nat→Value)→World→Prop} {S:World→Prop}
def Hw (P:Program) (n:Nat) (l:LO) (Q:Exit→(Nat→Value)→World→Prop) (S:World→Prop) (k:Nat) (L:Array Bool) (r:NV) (w:World):Prop:=
 ∀ a:Act,a.tmps.size=n→a.defers=[]→cn a=r→wpAnyH P .any l.toArray (fun e a' w'=>a'.tmps.size=n∧a'.defers=[]∧Q e (cn a') w') S k L a w
theorem CM {i:Nat} {o:Oper} {a:Act} (hd:dp n l=true) (hi:l[i]? = some o) (h1:a.tmps.size=n):∀ k,o.dst=some k→k < a.tmps.size:=by
 intro k hk
 have hm:o∈l:=List.mem_of_getElem? hi
 simp only [dp,List.all_eq_true] at hd
 have:=hd o hm
 rw [hk] at this
 rw [h1]
 exact Nat.lt_of_succ_le (Nat.le_of_ble_eq_true this)
theorem Hw.take {k i:Nat} {L:Array Bool} {o:Oper} {v:Value} {r:NV} {w:World} (hd:dp n l=true) (hi:l[i]? = some o) (hs:Region.noSelect l.toArray=true) (hf:Region.free .any l.toArray L i=true) (hr:(Region.ready .any l.toArray L).contains i=true)
  (hp:∀ c r w,¬ Q (.panic c) r w) (hg:o.guard=none) (hy:∀ w,S w→(execOp (ev r) o).run P w = .ok (.value v) w) (hS:S w) (h:Hw P n l Q S k (L.setIfInBounds i true) (gh r o.dst v) w):Hw P n l Q S (k+1) L r w:=by
 intro a h1 h2 h3
 refine wpAnyH_take (v:=v) (by simpa using hi) hs hf hr (fun c a w h=>(hp _ _ _ h.2.2).elim) (.inl ⟨r8 hg,fun w hw=>?_⟩) hS (h _ (by rw [kn]; exact h1) (by rw [jb]; exact h2) (by rw [l7 (CM hd hi h1),h3]))
 rw [qB,h3]
 exact hy w hw
theorem Hw.step {k i:Nat} {L:Array Bool} {o:Oper} {r:NV} {w w':World} (hd:dp n l=true) (hi:l[i]? = some o) (hr:Region.ready .any l.toArray L=[i]) (hg:o.guard=none) (hy:(execOp (ev r) o).run P w = .ok .skip w') (hS:S w') (h:Hw P n l Q S k (L.setIfInBounds i true) (gh r o.dst undef) w'):Hw P n l Q S (k+1) L r w:=by
 intro a h1 h2 h3
 refine wpAnyH_all hr (by simp) fun j hj=>?_
 obtain rfl:j=i:=by simpa using hj
 unfold wpOp
 rw [show (l.toArray)[j]? = some o by simpa using hi]
 simp only []
 rw [if_pos (r8 hg)]
 refine .inl ?_
 unfold Oper.wp
 rw [qB,h3,hy]
 exact ⟨hS,h _ (by rw [kn]; exact h1) (by rw [jb]; exact h2) (by rw [l7 (CM hd hi h1),h3])⟩
theorem Hw.done {k:Nat} {L:Array Bool} {r:NV} {w:World} (hr:Region.ready .any l.toArray L=[]) (h:Q .normal r w):Hw P n l Q S k L r w:=
 fun _ h1 h2 h3=>wpAnyH_done hr ⟨h1,h2,by rw [h3]; exact h⟩ k
theorem Hw.start {r:NV} {w:World} (h:Hw P n l Q S l.length (Array.replicate l.length false) r { w with drawn:=w.drawn+1 }):nv P n l Q r w:=
 fun a h1 h2 h3=>wpAny_of_held _ _ _ _ (h a h1 h2 h3)
def Bz (P:Program) (S:World→Prop):List Oper→(Nat→Value)→((Nat→Value)→Prop)→Prop
 | [],r,K=>K r
 | o :: l,r,K=>o.guard=none∧∃ v,(∀ w,S w→(execOp (ev r) o).run P w = .ok (.value v) w)∧Bz P S l (gh r o.dst v) K
def Oh (l:LO) (e:Array Bool→Bool):List Nat→Array Bool→Bool
 | [],L=>e L
 | i :: ss,L=>Nat.blt i l.length && (Region.ready .any l.toArray L == [i]) && Oh l e ss (L.setIfInBounds i true)
def Oi (l:LO) (e:Array Bool→Bool):List Nat→Array Bool→Bool
 | [],L=>e L
 | i :: qs,L=>Nat.blt i l.length && (Region.ready .any l.toArray L).contains i && Region.free .any l.toArray L i && Oi l e qs (L.setIfInBounds i true)
def pick (l:LO) (is:LN):List Oper:=is.map fun i=>l.getD i default
theorem DO {i:Nat} (h:Nat.blt i l.length=true):l[i]? = some (l.getD i default):=by
 have h1:i < l.length:=Nat.lt_of_succ_le (Nat.le_of_ble_eq_true h)
 rw [List.getD_eq_getElem?_getD,List.getElem?_eq_getElem h1]; rfl
theorem Hw.quiet (hd:dp n l=true) (hs:Region.noSelect l.toArray=true) (hp:∀ c r w,¬ Q (.panic c) r w) {e:Array Bool→Bool} {m:Nat} {w:World} (hS:S w) {K:(Nat→Value)→Prop} (h:∀ L r,e L=true→K r→Hw P n l Q S m L r w) :
  ∀ (qs:LN) (L:Array Bool) (r:NV),Oi l e qs L=true→Bz P S (pick l qs) r K→Hw P n l Q S (qs.length+m) L r w:=by
 intro qs
 induction qs with
 | nil=>intro L r hc hv; rw [List.length_nil,Nat.zero_add]; exact h L r hc hv
 | cons i qs ih=>
  intro L r hc hv
  unfold Oi at hc
  simp only [Bool.and_eq_true] at hc
  obtain ⟨⟨⟨c1,c2⟩,c3⟩,c4⟩:=hc
  obtain ⟨hg,v,h1,h2⟩:=hv
  have:=Hw.take hd (DO c1) hs c3 c2 hp hg h1 hS (ih _ _ c4 h2)
  rwa [show qs.length+m+1=(i :: qs).length+m by simp; omega] at this
end
inductive JQ
 | q (ops:LO) (fr:Fr)
 | la (a:Addr) (lk:Option Nat) (t:TI) (x:OO) (d:Nat) (ty:TI) (pos:String) (ah:Array Edge) (ops:LO) (fr:Fr)
inductive QA (P:Program) (Γ:QE):JQ→Fr→Prop
 | nil {fr:Fr}:QA P Γ (.q [] fr) fr
 | ld {d:Nat} {t ty:TI} {x:OO} {lk:Option Nat} {a:Addr} {pos:String} {ah:Array Edge} {ops:LO} {fr qc:Fr} [ht:LK P t lk] (hx:bp fr x=some (.pointer (some a))) (h:QA P Γ (.la a lk t x d ty pos ah ops fr) qc):QA P Γ (.q (⟨some d,.load t x,ty,pos,ah,none⟩ :: ops) fr) qc
 | val {d:Nat} {op:Op} {ty:TI} {u:Value} {pos:String} {ah:Array Edge} {ops:LO} {fr qc:Fr} (hv:VQ P Γ fr op u) (h:QA P Γ (.q ops ((d,u) :: fr)) qc):QA P Γ (.q (⟨some d,op,ty,pos,ah,none⟩ :: ops) fr) qc
 | lc {d:Nat} {t ty:TI} {x:OO} {a:Addr} {u:Value} {pos:String} {ah:Array Edge} {ops:LO} {fr qc:Fr} (h:tQ Γ a u) (k:QA P Γ (.q ops ((d,u) :: fr)) qc):QA P Γ (.la a none t x d ty pos ah ops fr) qc
 | ls {d n:Nat} {t ty:TI} {x:OO} {a:Addr} {ds:LV} {pos:String} {ah:Array Edge} {ops:LO} {fr qc:Fr} (h:tU Γ a n ds) (k:QA P Γ (.q ops ((d,.agg ds.toArray) :: fr)) qc):QA P Γ (.la a (some n) t x d ty pos ah ops fr) qc
inductive RO (fr:Fr):List Oper→List ay→List (Nat×List Value×TypeId)→List ay→Prop
 | nil {Γ:QE}:RO fr [] Γ [] Γ
 | cons {t ty e:TI} {x y:OO} {b:Nat} {cs:LV} {pos:String} {ah:Array Edge} {ops:LO} {Γ Γ1 Γ2:QE} {rs:List (Nat×List Value×TypeId)} (hx:bp fr x=some (.pointer (some ⟨b,0,none⟩))) (h:ep Γ (.row b cs e) Γ1) (k:RO fr ops Γ1 rs Γ2):RO fr (⟨none,.store t x y,ty,pos,ah,none⟩ :: ops) Γ ((b,cs,e) :: rs) Γ2
inductive SQ (P:Program) (Γ:QE) (fr:Fr):List Oper→List (Nat×List Value×TypeId)→List (Nat×List Value×TypeId)→Prop
 | nil:SQ P Γ fr [] [] []
 | cons {n:Nat} {t ty e:TI} {x y:OO} {b:Nat} {u:Value} {us cs ds:LV} {pos:String} {ah:Array Edge} {ops:LO} {rs tw:List (Nat×List Value×TypeId)} [ht:wS P t n] (hx:bp fr x=some (.pointer (some ⟨b,0,none⟩))) (hy:bp fr y=some u) (hc:rn Γ u us) (hn:us.length=n) (hs:sk us 0 cs ds) (ho:tT Γ us) (k:SQ P Γ fr ops rs tw) :
   SQ P Γ fr (⟨none,.store t x y,ty,pos,ah,none⟩ :: ops) ((b,cs,e) :: rs) ((b,ds,e) :: tw)
def JI:List (Nat×List Value×TypeId)→List ay
 | []=>[]
 | (b,cs,e) :: l=>.row b cs e :: JI l
def Rows (w:World) (rs:List (Nat×List Value×TypeId)):Prop:=∀ p∈rs,Row w p.1 p.2.1 p.2.2
section
variable {P:Program} {Γ Γ2:QE} {S:World→Prop} {Z:Nat→Prop}
def ZO (P:Program) (S:World→Prop):JQ→Fr→Prop
 | .q ops fr,qc=>∀ r,cw r fr→Bz P S ops r fun r'=>cw r' qc
 | .la a lk t x d ty pos ah ops fr,qc=>(match lk with | none=>NA P t | some n=>AG P t n)→bp fr x=some (.pointer (some a))→∀ r,cw r fr→Bz P S (⟨some d,.load t x,ty,pos,ah,none⟩ :: ops) r fun r'=>cw r' qc
theorem QA.sound {J:JQ} {qc:Fr} (hS:∀ w,S w→∃ cur F,SA Z w Γ cur F) (h:QA P Γ J qc):ZO P S J qc:=by
 induction h with
 | nil=>exact fun r h=>h
 | @ld d t ty x lk a pos ah ops fr qc ht hx _ ih=>exact fun r ha=>ih ht.h hx r ha
 | @val d op ty u pos ah ops fr qc hv _ ih=>
  intro r ha
  refine ⟨rfl,u,fun w hw=>?_,ih _ (aw ha)⟩
  obtain ⟨cur,F,h⟩:=hS w hw
  exact hv.sound h ha (some d) ty pos ah none w (ao.refl _ _)
 | @lc d t ty x a u pos ah ops fr qc h _ ih=>
  intro ht hx r ha
  refine ⟨rfl,u,fun w hw=>?_,ih _ (aw ha)⟩
  obtain ⟨cur,F,hs⟩:=hS w hw
  exact Ld ht (h.sound hs) (aR ha hx) w (ao.refl _ _)
 | @ls d n t ty x a ds pos ah ops fr qc h _ ih=>
  intro ht hx r ha
  refine ⟨rfl,_,fun w hw=>?_,ih _ (aw ha)⟩
  obtain ⟨cur,F,hs⟩:=hS w hw
  obtain ⟨h1,h2⟩:=h.sound hs
  exact Lg ht h1 (aR ha hx) h2 w (ao.refl _ _)
theorem RO.sound {fr:Fr} {ops:LO} {rs:List (Nat×List Value×TypeId)} {w:World} (h:RO fr ops Γ rs Γ2):∀ {F:LN},SA Z w Γ [] F→∃ F2,(rs.map (·.1)++F2).Perm F∧Rows w rs∧SA Z w Γ2 [] F2:=by
 induction h with
 | nil=>intro F h; exact ⟨F,.refl _,fun _ h=>absurd h List.not_mem_nil,h⟩
 | @cons t ty e x y b cs pos ah ops Γ Γ1 Γ2 rs hx h _ ih=>
  intro F hS
  obtain ⟨f,F1,hp,⟨rfl,bc⟩,fl⟩:=h.sound hS
  obtain ⟨F2,po,hr,gw⟩:=ih fl
  refine ⟨F2,?_,fun p hp=>?_,gw⟩
  ·exact .trans (List.Perm.cons b po) hp
  ·rcases List.mem_cons.1 hp with rfl | hp
   ·exact bc
   ·exact hr p hp
theorem SQ.sound {n m:Nat} {e:Array Bool→Bool} {l:LO} {Q:Exit→(Nat→Value)→World→Prop} {fr:Fr} {ops:LO} {rs tw:List (Nat×List Value×TypeId)} {F2:LN} {w0:World} {r:NV} {F:LN} (hd:dp n l=true) (ha:cw r fr) (LF:∀ w,ao F w0 w→SA Z w Γ2 [] F2) (h:SQ P Γ2 fr ops rs tw) :
  ∀ (ss:LN) (L:Array Bool) (w:World),ops=pick l ss→Oh l e ss L=true→ao F w0 w→Rows w rs→(rs.map (·.1)).Nodup→(∀ b∈rs.map (·.1),b∈F)→(∀ L w',e L=true→ao F w0 w'→ao (rs.map (·.1)) w w'→Rows w' tw→Hw P n l Q (ao F w0) m L r w')→Hw P n l Q (ao F w0) (ss.length+m) L r w:=by
 induction h with
 | nil=>
  intro ss L w ho hc hC hR hn hF hk
  cases ss with
  | cons i ss=>cases ho
  | nil=>
   rw [List.length_nil,Nat.zero_add]; exact hk L w hc hC (ao.refl _ _) hR
 | @cons n' t ty e' x y b u us cs ds pos ah ops rs tw ht hx hy vQ hn hsg hon _ ih=>
  intro ss L w ho hc hC hR dw hF hk
  cases ss with
  | nil=>cases ho
  | cons i ss=>
   unfold Oh at hc
   simp only [Bool.and_eq_true] at hc
   obtain ⟨⟨c1,c2⟩,c3⟩:=hc
   have cj:l.getD i default = ⟨none,.store t x y,ty,pos,ah,none⟩∧ops=pick l ss:=by
    unfold pick at ho
    rw [List.map_cons,List.cons.injEq] at ho
    exact ⟨ho.1.symm,ho.2⟩
   have hi:=DO c1
   rw [cj.1] at hi
   obtain ⟨ti,q1,q2⟩:=ht.h
   have bc:Row w b cs e':=hR (b,cs,e') (by simp)
   obtain ⟨e1,e2⟩:=hsg.eq
   have Yi:=LF w hC
   have km:=uk (P:=P) (d:=none) (ty:=ty) (pos:=pos) (ah:=ah) (gg:=none) q1 (by rw [hn,q2]) bc e1 (aR ha hx) (y:=y) (by rw [aR ha hy]; exact vQ.eq Yi) (hon.one Yi)
   have tf:=setRow_heap w b cs.toArray (cs.take 0++us++cs.drop (0+us.length)).toArray e' _ bc
   have Ac:ao [b] w (w.setRow b (cs.take 0++us++cs.drop (0+us.length)).toArray):=⟨rfl,rfl,rfl,Nat.le_refl _,by simp,fun j _ hj=>setRow_other w b j _ fun h=>hj (by simp [h])⟩
   have xJ:=hC.trans (Ac.mono fun b' bz=>by rw [List.mem_singleton.1 bz]; exact hF b (by simp))
   rw [List.map_cons,List.nodup_cons] at dw
   rw [show (i :: ss).length+m=ss.length+m+1 by simp; omega]
   refine Hw.step hd hi (by simpa using c2) rfl km xJ (ih ss _ _ cj.2 c3 xJ (fun p hp=>(hR p (List.mem_cons_of_mem _ hp)).ee Ac fun hb=>dw.1 ?_) dw.2 (fun b' bz=>hF b' (by simp at bz ⊢; exact .inr bz)) fun L' w' he zY FL hR'=>?_)
   ·rw [← List.mem_singleton.1 hb]; exact List.mem_map_of_mem (f:=fun q=>q.1) hp
   ·refine hk L' w' he zY ((Ac.mono (by simp)).trans (FL.mono fun b' bz=>List.mem_cons_of_mem _ bz)) fun p hp=>?_
    rcases List.mem_cons.1 hp with rfl | hp
    ·refine Row.ee (F:=rs.map (·.1)) ?_ FL dw.1
     rw [e2]
     exact tf
    ·exact hR' p hp
theorem SQ.fst {fr:Fr} {ops:LO} {rs tw:List (Nat×List Value×TypeId)} (h:SQ P Γ fr ops rs tw):tw.map (·.1)=rs.map (·.1):=by
 induction h with
 | nil=>rfl
 | cons _ _ _ _ _ _ _ ih=>simp only [List.map_cons,ih]
end
section
variable {R S:Type} {P:Program} {cx:Cx R} {K:dk R S} {l:LO}
end
theorem Hw.all {P:Program} {n k:Nat} {l:LO} {Q:Exit→(Nat→Value)→World→Prop} {S:World→Prop} {L:Array Bool} {rs:LN} {r:NV} {w:World} (hd:dp n l=true) (hr:Region.ready .any l.toArray L=rs) (iv:rs≠[])
  (h:∀ i∈rs,∃ o,l[i]? = some o∧o.guard=none∧∃ v w',((execOp (ev r) o).run P w = .ok (.value v) w'∨(execOp (ev r) o).run P w = .ok .skip w'∧v=undef)∧S w'∧Hw P n l Q S k (L.setIfInBounds i true) (gh r o.dst v) w'):Hw P n l Q S (k+1) L r w:=by
 intro a h1 h2 h3
 refine wpAnyH_all hr iv fun j hj=>?_
 obtain ⟨o,hi,hg,v,w',hy,hS,hk⟩:=h j hj
 unfold wpOp
 rw [show (l.toArray)[j]? = some o by simpa using hi]
 simp only []
 rw [if_pos (r8 hg)]
 refine .inl ?_
 unfold Oper.wp
 rw [qB,h3]
 rcases hy with hy | ⟨hy,rfl⟩
 ·rw [hy]
  exact ⟨hS,hk _ (by rw [kn]; exact h1) (by rw [jb]; exact h2) (by rw [l7 (CM hd hi h1),h3])⟩
 ·rw [hy]
  exact ⟨hS,hk _ (by rw [kn]; exact h1) (by rw [jb]; exact h2) (by rw [l7 (CM hd hi h1),h3])⟩
def on (L:Array Bool) (i:Nat):Array Bool:=L.setIfInBounds i true
def mz (l:LO) (L:Array Bool) (rs:LN):Bool:=Region.ready .any l.toArray L == rs
def TW (l:LO) (a1 a2 s1 s2:Nat) (L:Array Bool):Bool:=
 (Nat.blt a1 l.length && Nat.blt a2 l.length && Nat.blt s1 l.length && Nat.blt s2 l.length) && (mz l L [a1,a2] && mz l (on L a2) [a1]) && (mz l (on (on L a1) a2) [s1] && mz l (on (on L a2) a1) [s1]) &&
  (mz l (on (on (on L a1) a2) s1) [s2] && mz l (on (on (on L a2) a1) s1) [s2]) && (mz l (on (on (on (on L a1) a2) s1) s2) [] && mz l (on (on (on (on L a2) a1) s1) s2) []) &&
  (mz l (on L a1) [a2] || (mz l (on L a1) [a2,s1] && (mz l (on (on L a1) s1) [a2] && (mz l (on (on (on L a1) s1) a2) [s2] && mz l (on (on (on (on L a1) s1) a2) s2) []))))
inductive BZ (P:Program) (Γ:QE) (fr:Fr) (d:Nat):Oper→Oper→TypeId→List Value→Prop
 | mk {t ty TX:TI} {y:OO} {u:Value} {n:Nat} {us cs ds:LV} {pos Oj:String} {ah Ol:Array Edge} [hz:Cr P t cs] [ht:wS P t n] (hn:look fr d=none) (hy:bp fr y=some u) (hc:rn Γ u us) (hl:us.length=n) (hs:sk us 0 cs ds) (ho:tT Γ us) :
   BZ P Γ fr d ⟨some d,.alloc t,ty,pos,ah,none⟩ ⟨none,.store t (.tmp d) y,TX,Oj,Ol,none⟩ t ds
section
variable {P:Program} {Γ:QE} {Z:Nat→Prop} {fr:Fr} {w:World} {cur F:LN}
theorem BZ.alloc {d:Nat} {oa os:Oper} {t:TI} {ds:LV} (h:BZ P Γ fr d oa os t ds) (r:NV) (w:World):oa.guard=none∧oa.dst=some d∧look fr d=none∧∃ cs w',(execOp (ev r) oa).run P w = .ok (.value (.pointer (some ⟨w.heap.size,0,none⟩))) w'∧ao [] w w'∧Row w' w.heap.size cs t∧
  ∀ (r':NV) (w1:World) (b:Nat) cur F,SA Z w1 Γ cur F→cw r' fr→r' d = .pointer (some ⟨b,0,none⟩)→Row w1 b cs t→∃ w2,(execOp (ev r') os).run P w1 = .ok .skip w2∧ao [b] w1 w2∧Row w2 b ds t:=by
 cases h with
 | @mk t ty TX y u n us cs ds pos Oj ah Ol hz ht hn hy hc hl hs ho=>
  obtain ⟨i',z,t1,t2,t3⟩:=hz.h
  refine ⟨rfl,rfl,hn,z.cells.toList,_,B0 t1 t2,ao.alloc _ _ _,?_,?_⟩
  ·have:=heap_alloc_new w (.cells z.cells t (0,0))
   unfold Row
   simpa using this
  ·intro r' w1 b cur F hS ha hr bc
   rw [t3] at bc
   obtain ⟨ti,q1,q2⟩:=ht.h
   obtain ⟨e1,e2⟩:=hs.eq
   have km:=uk (P:=P) (d:=none) (ty:=TX) (pos:=Oj) (ah:=Ol) (gg:=none) q1 (by rw [hl,q2]) bc e1 (x:=.tmp d) hr (y:=y) (by rw [aR ha hy]; exact hc.eq hS) (ho.one hS)
   refine ⟨_,km,⟨rfl,rfl,rfl,Nat.le_refl _,by simp,fun j _ hj=>setRow_other w1 b j _ fun h=>hj (by simp [h])⟩,?_⟩
   have tf:=setRow_heap w1 b cs.toArray (cs.take 0++us++cs.drop (0+us.length)).toArray t _ bc
   rw [e2]
   exact tf
theorem BZ.st {d:Nat} {oa os:Oper} {t:TI} {ds:LV} (h:BZ P Γ fr d oa os t ds):os.guard=none∧os.dst=none:=by
 cases h; exact ⟨rfl,rfl⟩
theorem Gk {r:NV} {d:Nat} {v:Value}:ve r d v d=v:=by unfold ve; rw [Nat.beq_refl]; rfl
theorem Qp {r:NV} {d t:Nat} {v:Value} (h:t≠d):ve r d v t=r t:=by
 unfold ve
 cases hb:Nat.beq t d with
 | true=>exact absurd (Nat.eq_of_beq_eq_true hb) h
 | false=>rfl
theorem xK {r:NV} {d:Nat} {v:Value} (hn:look fr d=none) (ha:cw r fr):cw (ve r d v) fr:=by
 intro t u hl
 have iv:t≠d:=fun h=>by rw [h,hn] at hl; cases hl
 rw [Qp iv]
 exact ha t u hl
theorem vU {l:LO} {L:Array Bool} {rs:LN} (h:mz l L rs=true):Region.ready .any l.toArray L=rs:=by
 unfold mz at h
 simpa using h
variable {n:Nat} {l:LO} {Q:Exit→(Nat→Value)→World→Prop} {w0:World} {F2:LN} {a1 a2 s1 s2 d1 d2:Nat} {Qq LG LH LJ:Oper} {t1 t2:TI} {Qr Qs:LV} {L:Array Bool} {r:NV}
theorem tree (hd:dp n l=true) (LF:∀ w,ao [] w0 w→SA Z w Γ [] F2) (B1:BZ P Γ fr d1 Qq LH t1 Qr) (B2:BZ P Γ fr d2 LG LJ t2 Qs) (iv:d1≠d2) (i1:l[a1]? = some Qq) (i2:l[a2]? = some LG) (j1:l[s1]? = some LH) (j2:l[s2]? = some LJ)
  (fin:∀ b1 b2 r w,w0.heap.size≤b1→w0.heap.size≤b2→b1≠b2→ao [] w0 w→cw r fr→r d1 = .pointer (some ⟨b1,0,none⟩)→r d2 = .pointer (some ⟨b2,0,none⟩)→Row w b1 Qr t1→Row w b2 Qs t2→Q .normal r w)
  (hc:TW l a1 a2 s1 s2 L=true) (hS:ao [] w0 w) (ha:cw r fr):Hw P n l Q (ao [] w0) 4 L r w:=by
 unfold TW at hc
 simp only [Bool.and_eq_true,Bool.or_eq_true] at hc
 obtain ⟨⟨⟨⟨⟨_,c1,c3⟩,c4,c5⟩,c7,c8⟩,c10,c11⟩,cc⟩:=hc
 obtain ⟨rs,c2,hn,hr⟩ : ∃ rs,mz l (on L a1) rs=true∧rs≠[]∧∀ i∈rs,i=a2∨i=s1∧mz l (on (on L a1) s1) [a2]=true∧mz l (on (on (on L a1) s1) a2) [s2]=true∧mz l (on (on (on (on L a1) s1) a2) s2) []=true:=by
  rcases cc with c | ⟨c,c6,c9,TY⟩
  ·exact ⟨_,c,by simp,fun i hi=>.inl (List.mem_singleton.1 hi)⟩
  ·exact ⟨_,c,by simp,fun i hi=>(List.mem_cons.1 hi).imp id fun hi=>⟨List.mem_singleton.1 hi,c6,c9,TY⟩⟩
 have g1:=(B1.st).1
 have g2:=(B2.st).1
 have e1:=(B1.st).2
 have e2:=(B2.st).2
 have last:∀ {L:Array Bool} {b1 b2:Nat} {BA:LV} {r:NV} {w:World},mz l L [s2]=true→mz l (on L s2) []=true→w0.heap.size≤b1→w0.heap.size≤b2→b1≠b2→ao [] w0 w→cw r fr→r d1 = .pointer (some ⟨b1,0,none⟩)→r d2 = .pointer (some ⟨b2,0,none⟩)→Row w b1 Qr t1→Row w b2 BA t2→
   (∀ (r':NV) (w1:World) (b:Nat) cur F,SA Z w1 Γ cur F→cw r' fr→r' d2 = .pointer (some ⟨b,0,none⟩)→Row w1 b BA t2→∃ w2,(execOp (ev r') LJ).run P w1 = .ok .skip w2∧ao [b] w1 w2∧Row w2 b Qs t2)→Hw P n l Q (ao [] w0) 1 L r w:=by
  intro L b1 b2 BA r w k1 k2 h1 h2 h3 hS ha p1 p2 r1 r2 st
  obtain ⟨w2,km,hC,hr⟩:=st r w b2 [] F2 (LF w hS) ha p2 r2
  have gw:ao [] w0 w2:=hS.then hC fun i hi=>.inr (by rw [List.mem_singleton.1 hi]; exact h2)
  refine Hw.all hd (vU k1) (by simp) fun i hi=>?_
  rw [List.mem_singleton.1 hi]
  refine ⟨LJ,j2,g2,undef,w2,.inr ⟨km,rfl⟩,gw,?_⟩
  rw [e2]
  exact Hw.done (vU k2) (fin b1 b2 r w2 h1 h2 h3 gw ha p1 p2 (r1.ee hC (by simpa using h3)) hr)
 have two:∀ {L:Array Bool} {b1 b2:Nat} {LM BA:LV} {r:NV} {w:World},mz l L [s1]=true→mz l (on L s1) [s2]=true→mz l (on (on L s1) s2) []=true→w0.heap.size≤b1→w0.heap.size≤b2→b1≠b2→ao [] w0 w→cw r fr→r d1 = .pointer (some ⟨b1,0,none⟩)→r d2 = .pointer (some ⟨b2,0,none⟩)→Row w b1 LM t1→Row w b2 BA t2→
   (∀ (r':NV) (w1:World) (b:Nat) cur F,SA Z w1 Γ cur F→cw r' fr→r' d1 = .pointer (some ⟨b,0,none⟩)→Row w1 b LM t1→∃ w2,(execOp (ev r') LH).run P w1 = .ok .skip w2∧ao [b] w1 w2∧Row w2 b Qr t1)→
   (∀ (r':NV) (w1:World) (b:Nat) cur F,SA Z w1 Γ cur F→cw r' fr→r' d2 = .pointer (some ⟨b,0,none⟩)→Row w1 b BA t2→∃ w2,(execOp (ev r') LJ).run P w1 = .ok .skip w2∧ao [b] w1 w2∧Row w2 b Qs t2)→Hw P n l Q (ao [] w0) 2 L r w:=by
  intro L b1 b2 LM BA r w k1 k2 k3 h1 h2 h3 hS ha p1 p2 r1 r2 Eb Gl
  obtain ⟨w2,km,hC,hr⟩:=Eb r w b1 [] F2 (LF w hS) ha p1 r1
  have gw:ao [] w0 w2:=hS.then hC fun i hi=>.inr (by rw [List.mem_singleton.1 hi]; exact h1)
  refine Hw.all hd (vU k1) (by simp) fun i hi=>?_
  rw [List.mem_singleton.1 hi]
  refine ⟨LH,j1,g1,undef,w2,.inr ⟨km,rfl⟩,gw,?_⟩
  rw [e1]
  exact last k2 k3 h1 h2 h3 gw ha p1 p2 hr (r2.ee hC (by simpa using Ne.symm h3)) Gl
 refine Hw.all hd (vU c1) (by simp) fun i hi=>?_
 rcases List.mem_cons.1 hi with rfl | hi
 ·-- the first is made first
  obtain ⟨gd,dd,dn,LM,w1,km,hC,bc,Eb⟩:=B1.alloc r w
  have fl:ao [] w0 w1:=hS.trans hC
  have Gm:w0.heap.size≤w.heap.size:=hS.size
  have Yj:=bc.lt
  have Ae:=xK (v:=.pointer (some ⟨w.heap.size,0,none⟩)) dn ha
  refine ⟨Qq,i1,gd,_,w1,.inl km,fl,?_⟩
  rw [dd]
  refine Hw.all hd (vU c2) hn fun i hi=>?_
  rcases hr i hi with rfl | ⟨rfl,c6,c9,TY⟩
  ·obtain ⟨TZ,T0,T1,BA,w2,yA,xJ,JJ,Gl⟩:=B2.alloc (gh r (some d1) (.pointer (some ⟨w.heap.size,0,none⟩))) w1
   refine ⟨LG,i2,TZ,_,w2,.inl yA,fl.trans xJ,?_⟩
   rw [T0]
   exact two (b1:=w.heap.size) (b2:=w1.heap.size) c4 c7 c10 Gm (by omega) (by omega) (fl.trans xJ) (xK T1 Ae) (by show ve _ d2 _ d1=_; rw [Qp iv]; exact Gk) (by exact Gk) (bc.ko xJ) JJ Eb Gl
  ·obtain ⟨w2,yA,xJ,Qt⟩:=Eb _ w1 w.heap.size [] F2 (LF w1 fl) Ae Gk bc
   have gw:ao [] w0 w2:=fl.then xJ fun i hi=>.inr (by rw [List.mem_singleton.1 hi]; exact Gm)
   refine ⟨LH,j1,g1,undef,w2,.inr ⟨yA,rfl⟩,gw,?_⟩
   rw [e1]
   refine Hw.all hd (vU c6) (by simp) fun i hi=>?_
   rw [List.mem_singleton.1 hi]
   obtain ⟨gd3,dd3,dn3,BA,w3,Xi,T2,Xj,Gl⟩:=B2.alloc (gh (gh r (some d1) (.pointer (some ⟨w.heap.size,0,none⟩))) none undef) w2
   have sz:w1.heap.size≤w2.heap.size:=xJ.size
   refine ⟨LG,i2,gd3,_,w3,.inl Xi,gw.trans T2,?_⟩
   rw [dd3]
   exact last (b1:=w.heap.size) (b2:=w2.heap.size) c9 TY Gm (by omega) (by omega) (gw.trans T2) (xK dn3 Ae) (by show ve _ d2 _ d1=_; rw [Qp iv]; exact Gk) Gk (Qt.ko T2) Xj Gl
 ·rw [List.mem_singleton.1 hi]
  obtain ⟨gd,dd,dn,BA,w1,km,hC,bc,Gl⟩:=B2.alloc r w
  have fl:ao [] w0 w1:=hS.trans hC
  have Gm:w0.heap.size≤w.heap.size:=hS.size
  have Yj:=bc.lt
  have Ae:=xK (v:=.pointer (some ⟨w.heap.size,0,none⟩)) dn ha
  refine ⟨LG,i2,gd,_,w1,.inl km,fl,?_⟩
  rw [dd]
  refine Hw.all hd (vU c3) (by simp) fun i hi=>?_
  rw [List.mem_singleton.1 hi]
  obtain ⟨TZ,T0,T1,LM,w2,yA,xJ,JJ,Eb⟩:=B1.alloc (gh r (some d2) (.pointer (some ⟨w.heap.size,0,none⟩))) w1
  refine ⟨Qq,i1,TZ,_,w2,.inl yA,fl.trans xJ,?_⟩
  rw [T0]
  exact two (b1:=w1.heap.size) (b2:=w.heap.size) c5 c8 c11 (by omega) Gm (by omega) (fl.trans xJ) (xK T1 Ae) Gk (by show ve _ d1 _ d2=_; rw [Qp (Ne.symm iv)]; exact Gk) JJ (bc.ko xJ) Eb Gl
end
section
variable {R S:Type} {P:Program} {cx:Cx R} {K:dk R S} {l:LO}
end
end Go.Dk
namespace Go.Dk
open Go Go.Li
def T3 (i:Nat) (o:Oper):Oper:=⟨o.dst,o.op,o.type,o.pos,o.after.push ⟨i,.data⟩,o.guard⟩
def sN (i:Nat):Nat→List Oper→List Oper
 | _,[]=>[]
 | 0,o :: l=>T3 i o :: l
 | j+1,o :: l=>o :: sN i j l
theorem DP (i:Nat):∀ (j:Nat) (l:LO),(sN i j l).length=l.length
 | _,[]=>by cases ‹Nat› <;> rfl
 | 0,_ :: _=>rfl
 | j+1,o :: l=>by unfold sN; rw [List.length_cons,List.length_cons,DP i j l]
theorem AX (i:Nat):∀ (j:Nat) (l:LO) (k:Nat),(sN i j l)[k]? = (l[k]?).map fun o=>if k=j then T3 i o else o
 | 0,[],k=>by simp [sN]
 | j+1,[],k=>by simp [sN]
 | 0,o :: l,0=>by simp [sN]
 | 0,o :: l,k+1=>by simp [sN]
 | j+1,o :: l,0=>by simp [sN]
 | j+1,o :: l,k+1=>by
  unfold sN
  rw [List.getElem?_cons_succ,List.getElem?_cons_succ,AX i j l k]
  simp
section
variable {P:Program} {l:LO} {Q:Exit→Act→World→Prop} {i j:Nat}
theorem HH (tmps:Array Value):yielded (sN i j l).toArray tmps=yielded l.toArray tmps:=by
 funext k
 simp only [yielded]
 rw [List.getElem?_toArray,List.getElem?_toArray,AX]
 cases l[k]? with
 | none=>rfl
 | some o=>
  simp only [Option.map_some,Option.bind_some]
  by_cases h:k=j
  ·rw [if_pos h]; rfl
  ·rw [if_neg h]
theorem Gp {k:Nat} {K:Act→World→Prop} {a:Act} {w:World}:wpOp P (sN i j l).toArray Q k K a w=wpOp P l.toArray Q k K a w:=by
 unfold wpOp
 rw [HH,List.getElem?_toArray,List.getElem?_toArray,AX]
 cases l[k]? with
 | none=>rfl
 | some o=>
  simp only [Option.map_some]
  by_cases h:k=j
  ·rw [if_pos h]; rfl
  ·rw [if_neg h]
theorem Ep {L:Array Bool} (hL:L.getD i false=true):Region.ready .any (sN i j l).toArray L=Region.ready .any l.toArray L:=by
 unfold Region.ready
 rw [List.size_toArray,List.size_toArray,DP]
 refine List.filter_congr fun k _=>?_
 rw [List.getElem?_toArray,List.getElem?_toArray,AX]
 cases l[k]? with
 | none=>rfl
 | some o=>
  simp only [Option.map_some]
  by_cases h:k=j
  ·rw [if_pos h]
   simp only [T3,Array.all_push,hL,Bool.or_true,Bool.and_true]
  ·rw [if_neg h]
theorem Er:∀ (fuel:Nat) (L:Array Bool) (a:Act) (w:World),L.getD i false=true→wpAny P .any (sN i j l).toArray Q fuel L a w→wpAny P .any l.toArray Q fuel L a w
 | 0,L,a,w,hL,h=>by
  unfold wpAny at h ⊢
  rw [Ep hL] at h
  exact h
 | fuel+1,L,a,w,hL,h=>by
  unfold wpAny at h ⊢
  rw [Ep hL] at h
  refine ⟨h.1,fun k hk=>?_⟩
  have h2:=h.2 k hk
  rw [Gp] at h2
  exact wpOp_mono (fun a' w' h'=>Er fuel _ a' w' (getD_set_true hL) h') h2
end
def T4:Oper→Bool
 | ⟨some _,.move _,_,_,_,none⟩=>true
 | _=>false
def JK:List (Nat×Nat)→List Oper→Bool
 | [],_=>true
 | (i,j) :: zs,l=>!(Nat.beq i j) && Nat.blt i l.length && T4 (l.getD i default) && Region.noSelect l.toArray && Region.free .any l.toArray (Array.replicate l.length false) i && (Region.ready .any l.toArray (Array.replicate l.length false)).contains i && (Region.ready .any (sN i j l).toArray (Array.replicate l.length false)).contains i && JK zs (sN i j l)
def Om:List (Nat×Nat)→List Oper→List Oper
 | [],l=>l
 | (i,j) :: zs,l=>Om zs (sN i j l)
section
variable {P:Program} {n:Nat} {Q:Exit→(Nat→Value)→World→Prop} {r:NV} {w w0:World}
theorem Ru {o:Oper} (h:T4 o=true) (a:Act):o.guard=none∧∃ v,(∀ w,(execOp a.eval o).run P w = .ok (.value v) w)∧∀ w,¬ o.asks P a w:=by
 obtain ⟨d,op,ty,pos,ah,g⟩:=o
 cases d <;> cases op <;> cases g <;> first | (cases h; done) | skip
 refine ⟨rfl,_,fun w=>rfl,fun w ha=>?_⟩
 have h1:=ha.1
 exact absurd (show noRoomEvent∈(#[]:Array _) from h1) (by simp)
theorem nv.ZP {i j:Nat} {l:LO} (h1:(!(Nat.beq i j) && Nat.blt i l.length && T4 (l.getD i default) && Region.noSelect l.toArray && Region.free .any l.toArray (Array.replicate l.length false) i && (Region.ready .any l.toArray (Array.replicate l.length false)).contains i && (Region.ready .any (sN i j l).toArray (Array.replicate l.length false)).contains i)=true)
  (hp:∀ c r w,¬ Q (.panic c) r w) (h:nv P n (sN i j l) Q r w):nv P n l Q r w:=by
 simp only [Bool.and_eq_true] at h1
 obtain ⟨⟨⟨⟨⟨⟨c1,c2⟩,c3⟩,c4⟩,c5⟩,c6⟩,c7⟩:=h1
 have iv:i≠j:=fun e=>by rw [e,Nat.beq_refl] at c1; cases c1
 have hi:=DO c2
 have av:i < l.length:=Nat.lt_of_succ_le (Nat.le_of_ble_eq_true c2)
 intro a g1 g2 g3
 have H:=h a g1 g2 g3
 obtain ⟨hg,v,hv,hn⟩:=Ru (P:=P) c3 a
 rw [List.size_toArray,DP] at H
 rw [List.size_toArray]
 obtain ⟨f,hf⟩ : ∃ f,l.length=f+1:=⟨l.length - 1,by omega⟩
 have hw:Region.wanted (l.getD i default) (yielded l.toArray a.tmps)=true:=r8 hg
 refine (congrArg (fun k=>wpAny P .any l.toArray _ k _ a _) hf).mpr ?_
 refine wpAny_take (by simpa using hi) c4 (by simpa using c5) (by simpa using c6) (fun c a w h=>(hp _ _ _ h.2.2).elim) (.inl ⟨hw,hv⟩) ?_
 refine Er (i:=i) (j:=j) f _ _ _ ?_ ?_
 ·have:i < (Array.replicate l.length false).size:=by simpa using av
  simp [Array.getD,av]
 ·have H2:=(congrArg (fun k=>wpAny P .any (sN i j l).toArray (fun e a' w'=>a'.tmps.size=n∧a'.defers=[]∧Q e (cn a') w') k (Array.replicate l.length false) a { w with drawn:=w.drawn+1 }) hf).mp H
  have H3:=H2.2 i (by simpa using c7)
  rw [Gp] at H3
  unfold wpOp at H3
  rw [show (l.toArray)[i]? = some (l.getD i default) by simpa using hi] at H3
  simp only [] at H3
  rw [if_pos hw] at H3
  rcases H3 with H3 | H3
  ·unfold Oper.wp at H3
   rw [hv] at H3
   exact H3
  ·exact absurd H3.1 (hn _)
theorem nv.Qu:∀ (zs:List (Nat×Nat)) {l:LO},JK zs l=true→(∀ c r w,¬ Q (.panic c) r w)→nv P n (Om zs l) Q r w→nv P n l Q r w
 | [],_,_,_,h=>h
 | (i,j) :: zs,l,hc,hp,h=>by
  unfold JK at hc
  rw [Bool.and_eq_true] at hc
  exact nv.ZP hc.1 hp (nv.Qu zs hc.2 hp h)
theorem LP (k:Nat) {l:LO} (hd:dp n l=true) (hp:((l.take k).all fun o=>vK o.op)=true) (hB:Region.lexTailB .any l.toArray k=true)
  (h:QL P (ao [] w) l (l.take k) r fun r'=>∀ w',ao [] w w'→WL P l (l.drop k) r' w' (Q .normal)):nv P n l Q r w:=by
 intro a h1 h2 h3
 have Ac:ao [] w { w with drawn:=w.drawn+1 }:=ao.drew _ _
 have qI:wpStill P l.toArray { w with drawn:=w.drawn+1 } (fun a'=>wpList P l.toArray (fun e a' w'=>a'.tmps.size=n∧a'.defers=[]∧Q e (cn a') w') (l.drop k) a' { w with drawn:=w.drawn+1 }) (l.take k) a:=by
  refine QL.still (n:=n) (C:=ao [] w) Ac hd (l.take k) a (yI hd fun o ho=>List.mem_of_mem_take ho) hp h1 h2 (by rw [h3]; exact h) _ ?_
  intro a' g1 g2 g3
  exact WL.list hd _ _ _ (yI hd fun o ho=>List.mem_of_mem_drop ho) g1 g2 (g3 _ Ac)
 unfold Region.lexTailB at hB
 simp only [Bool.and_eq_true,decide_eq_true_eq,List.size_toArray] at hB
 obtain ⟨⟨⟨⟨ZQ,hn⟩,hs⟩,hc⟩,Oc⟩:=hB
 have Qv:(l.take k).length=k:=by rw [List.length_take]; omega
 have ZR:HeadInv .any l.toArray k (Array.replicate l.length false):=
  ⟨by simp,fun j oj _ hl=>(by rw [getD_replicate_false] at hl; cases hl),fun t _ ht=>getD_in (by simpa using ht) (getD_replicate_false _ _)⟩
 have H:=wpAnyL_lex (md:=.any) (g:=l.length - k) ZQ hs hc (by simpa using hn) (l.take k) 0 _ a (fun j hj=>by
  rw [Qv] at hj
  rw [List.getElem?_take_of_lt hj,Nat.zero_add,List.getElem?_toArray]) (by rw [Qv,Nat.zero_add]) ZR (by rw [Qv]; exact Oc) qI
 have H2:=wpAny_of_head (Q':=fun e a' w'=>a'.tmps.size=n∧a'.defers=[]∧Q e (cn a') w') (g:=l.length - k) (fun L a' hL=>by
  have H3:=wpAny_of_seq (md:=.any) (Q':=fun e a' w'=>a'.tmps.size=n∧a'.defers=[]∧Q e (cn a') w') (l.drop k) k L a' { w with drawn:=w.drawn+1 } (fun j=>by rw [List.getElem?_drop,List.getElem?_toArray]) (by rw [List.length_drop]; exact hL.1) hL.2
  rwa [List.length_drop] at H3) _ _ _ H
 rw [Qv,show k+(l.length - k)=l.length by omega] at H2
 rw [List.size_toArray]
 exact H2
end
section
variable {R S:Type} {P:Program} {cx:Cx R} {K:dk R S}
theorem Xk {id:Nat} (zs:List (Nat×Nat)) (k:Nat) {l l' ops tl:LO} {Γ:QE} {fr:Fr} {m:Option (Out S R)} (hl:l'=Om zs l) (hB:(P.follows .mixedOrders && JK zs l && dp cx.n l' && ((l'.take k).all fun o=>vK o.op) && Region.lexTailB .any l'.toArray k)=true) (ho:ops=l'.take k) (ht:tl=l'.drop k)
  (h:D P cx (.o true l' ops (.h l' tl K) Γ fr m)):Bx (p9 P cx (.dr id l K Γ fr m)):=by
 simp only [Bool.and_eq_true] at hB
 obtain ⟨⟨⟨⟨h1,h2⟩,h3⟩,h4⟩,h5⟩:=hB
 subst ho ht hl
 rw [qy]
 intro B o ho r w ha hs
 exact nv.W h1 (nv.Qu zs h2 (fun c r w h=>Bv c h) (LP k h3 h4 h5 (h.sound B o ho r w ha hs)))
end
end Go.Dk
namespace Go.Dk
open Go Go.Li
section
variable {B:Bs} {P:Program} {Z Z':Nat→Prop} {w:World} {Fd F1:LN}
end
section
variable {P:Program} {S:World→Prop}
theorem Bz.mono {K K':(Nat→Value)→Prop} (hk:∀ r,K r→K' r):∀ {ops:LO} {r:NV},Bz P S ops r K→Bz P S ops r K'
 | [],_,h=>hk _ h
 | _ :: _,_,⟨hg,v,h1,h2⟩=>⟨hg,v,h1,Bz.mono hk h2⟩
end
inductive QX {R S:Type} (P:Program) (cx:Cx R) (K:dk R S) (sr:LO) (rs:List (Nat×List Value×TypeId)) (pe:QE):List ay→List ay→List Oper→Fr→Option (Out S R)→Prop
 | pe {e:ay} {Δ Γ:QE} {ops:LO} {fr:Fr} {m:Option (Out S R)} (h:QX P cx K sr rs pe Δ (e :: Γ) ops fr m):QX P cx K sr rs pe (e :: Δ) Γ ops fr m
 | nil {Γ:QE} {fr:Fr} {m:Option (Out S R)} {tw:List (Nat×List Value×TypeId)} (h:SQ P Γ fr sr rs tw) (k:D P cx (.p [] pe fr Γ fun fr Γ=>.p [] (JI tw) fr Γ fun fr Γ=>.n K Γ fr m)):QX P cx K sr rs pe [] Γ [] fr m
 | K3 {d n:Nat} {t ty:TI} {x:OO} {a:Addr} {ds:LV} {pos:String} {ah:Array Edge} {ops:LO} {Γ:QE} {fr:Fr} {m:Option (Out S R)} [ht:LK P t (some n)] (hx:bp fr x=some (.pointer (some a))) (hw:tU Γ a n ds) (h:QX P cx K sr rs pe [] Γ ops ((d,.agg ds.toArray) :: fr) m) :
   QX P cx K sr rs pe [] Γ (⟨some d,.load t x,ty,pos,ah,none⟩ :: ops) fr m
 | Fe {α V:Type} {d n:Nat} {x y:OO} {v:Value} {k:IntKind} {j:Int} {t ty:TI} {S':ai α} {cl:α→V→List Value} {en:α→V→List ay} {xs:List α} {pos:String} {ah:Array Edge} {ops:LO} {Γ Γx:QE} {fr:Fr} {f:α→Option (Out S R)} [ht:Ic P t n] (hx:bp fr x=some v) (hy:bp fr y=some (.int k j))
   (hr:p7 Γ v false false (qx S') xs s8 Γx) (hs:Ea S' V cl en) (hn:S'.size=n) (h:∀ z u,QX P cx K sr rs pe (.bn (cy v n j) (cl z u) :: en z u) Γ ops ((d,.pointer (some (cy v n j))) :: fr) (f z)) :
   QX P cx K sr rs pe [] Γ (⟨some d,.indexAddr t x y,ty,pos,ah,none⟩ :: ops) fr (idx xs j>>=f)
 | lc {d:Nat} {t ty:TI} {x:OO} {a:Addr} {u:Value} {pos:String} {ah:Array Edge} {ops:LO} {Γ:QE} {fr:Fr} {m:Option (Out S R)} [ht:LK P t none] (hx:bp fr x=some (.pointer (some a))) (hw:tQ Γ a u) (h:QX P cx K sr rs pe [] Γ ops ((d,u) :: fr) m) :
   QX P cx K sr rs pe [] Γ (⟨some d,.load t x,ty,pos,ah,none⟩ :: ops) fr m
 | val {d:Nat} {op:Op} {ty:TI} {u:Value} {pos:String} {ah:Array Edge} {ops:LO} {Γ:QE} {fr:Fr} {m:Option (Out S R)} (hv:VQ P Γ fr op u) (h:QX P cx K sr rs pe [] Γ ops ((d,u) :: fr) m):QX P cx K sr rs pe [] Γ (⟨some d,op,ty,pos,ah,none⟩ :: ops) fr m
section
variable {R S:Type} {P:Program} {cx:Cx R} {K:dk R S} {sr:LO} {rs:List (Nat×List Value×TypeId)} {pe:QE} {Z:Nat→Prop}
theorem QX.sound {w0:World} {H:LN} (hz:∀ b∈H,¬ Z b) {Δ Γ:QE} {ops:LO} {fr:Fr} {m:Option (Out S R)} (h:QX P cx K sr rs pe Δ Γ ops fr m):∀ {o:Out S R} {F:LN},m=some o→(∀ b∈H,b ∉ F)→SA Z w0 (Δ.reverse++Γ) [] F→∀ r,cw r fr→
  Bz P (ao H w0) ops r fun r'=>∃ Γ' qc tw m' F',F'.Perm F∧m'=some o∧cw r' qc∧SA Z w0 Γ' [] F'∧SQ P Γ' qc sr rs tw∧D P cx (.p [] pe qc Γ' fun fr Γ=>.p [] (JI tw) fr Γ fun fr Γ=>.n K Γ fr m'):=by
 induction h with
 | @pe e Δ Γ ops fr m _ ih=>
  intro o F hm hF hS r ha
  refine ih hm hF ?_ r ha
  rw [List.reverse_cons,List.append_assoc] at hS
  exact hS
 | @nil Γ fr m tw h k=>exact fun hm hF hS r ha=>⟨Γ,fr,tw,m,_,.refl _,hm,ha,hS,h,k⟩
 | @val d op ty u pos ah ops Γ fr m hv _ ih=>
  intro o F hm hF hS r ha
  refine ⟨rfl,u,fun w hC=>?_,ih hm hF hS _ (aw ha)⟩
  exact hv.sound ((SA.ee hC hz (fun _ _=>List.not_mem_nil) hF hS)) ha (some d) ty pos ah none w (ao.refl _ _)
 | @K3 d n t ty x a ds pos ah ops Γ fr m ht hx hw _ ih=>
  intro o F hm hF hS r ha
  refine ⟨rfl,_,fun w hC=>?_,ih hm hF hS _ (aw ha)⟩
  obtain ⟨h1,h2⟩:=hw.sound (SA.ee hC hz (fun _ _=>List.not_mem_nil) hF hS)
  exact Lg ht.h h1 (aR ha hx) h2 w (ao.refl _ _)
 | @lc d t ty x a u pos ah ops Γ fr m ht hx hw _ ih=>
  intro o F hm hF hS r ha
  refine ⟨rfl,u,fun w hC=>?_,ih hm hF hS _ (aw ha)⟩
  exact Ld ht.h (hw.sound (SA.ee hC hz (fun _ _=>List.not_mem_nil) hF hS)) (aR ha hx) w (ao.refl _ _)
 | @Fe α V d n x y v k j t ty S' cl en xs pos ah ops Γ Γx fr f ht hx hy hr p8 hn _ ih=>
  intro o F hm hF hS r ha
  replace p8:SO S' V cl en:=by cases p8; assumption
  obtain ⟨z,Gq,hm⟩:=bind_some hm
  replace Gq:=n7 Gq
  obtain ⟨e,i,h1,h2,h3⟩:=ht.h
  obtain ⟨dv,_,⟨⟨f0,Ee,sL⟩,_⟩,_⟩:=hr.sound hS
  have hZ:∀ b∈f0,Z b:=fun b hb=>(sL b hb).elim id id
  obtain ⟨⟨a,c,hv⟩,av,cs,f1,dq,Lc,j8⟩:=ub Ee j Gq.1 Gq.2
  have r7:(qx S').size=n:=hn
  rw [r7] at j8
  obtain ⟨u,rfl,o5⟩:=p8.op dq.2
  have hblk:Z (cy v n j).block:=by
   obtain ⟨base,cap,ks,fw⟩:=Ee
   rcases fw with ⟨rfl,_⟩ | ⟨b,off,cr,e',fz,f',rfl,_,rfl,_⟩
   ·simp at av; omega
   ·obtain rfl:v = .slice (some ⟨b,off,none⟩) xs.length cap:=by simpa using ks
    have:(cy (.slice (some ⟨b,off,none⟩) xs.length cap) n j).block=b:=by unfold cy; rw [uz]
    rw [this]; exact hZ b (by simp)
  have Ft:fact Z w0 [] (.bn (cy v n j) (cl z u)):=⟨fun i u' hi=>j8 i u' hi,fun _=>hblk⟩
  have cq:HL Z w0 (.bn (cy v n j) (cl z u) :: en z u) []:=.fact Ft (tZ (o5 Z fun b hb=>hZ b (Lc b hb)))
  obtain ⟨F',hp,gw⟩:=cq.build hS
  have Yk:F'.Perm F:=by simpa using hp
  refine ⟨rfl,.pointer (some (cy v n j)),fun w hC=>?_,?_⟩
  ·rw [l5 h1 h2 ((aR ha hx).trans hv) (aR ha hy) Gq.1 (by omega),h3,hv]
   rfl
  ·have hq:=ih z u (F:=F') hm (fun b hb h=>hF b hb (Yk.mem_iff.1 h)) gw _ (aw ha)
   refine Bz.mono ?_ hq
   rintro r' ⟨Γ',qc,tw,m',F3,q0,q1,q2,q3,q4,q5⟩
   exact ⟨Γ',qc,tw,m',F3,q0.trans Yk,q1,q2,q3,q4,q5⟩
end
theorem FO.hl {Z:Nat→Prop} {w:World} {Δ:QE} (h:FO Δ):∀ {F:LN},HL Z w Δ F→F=[]:=by
 induction h with
 | nil=>intro F h; cases h; rfl
 | rd _ ih=>intro F h; cases h with | own h k=>exact h.elim | fact h k=>exact ih k
 | bn _ ih=>intro F h; cases h with | own h k=>exact h.elim | fact h k=>exact ih k
section
variable {P:Program} {n:Nat} {l:LO} {Q:Exit→(Nat→Value)→World→Prop} {S:World→Prop}
end
section
variable {R S:Type} {P:Program} {cx:Cx R} {K:dk R S} {l:LO}
end
section
variable {R:Type} {P:Program} {cx:Cx R}
end
end Go.Dk
namespace Go.Li
open Go
section
variable {P:Program} {n:Nat} {Q:Exit→(Nat→Value)→World→Prop} {r:NV} {w:World} {R:Type}
theorem Rv {l:Nat} (h:Q .normal r w):W P n (.label l) Q r w:=fun a h1 h2 h3=>wp_label ⟨h1,h2,by rw [h3]; exact h⟩
end
end Go.Li
namespace Go.Dk
open Go Go.Li
section
variable {R:Type} {P:Program} {cx:Cx R} {S:Type}
theorem nb {K:dk R S} {l:Nat} {Γ:QE} {fr:Fr} {m:Option (Out S R)} (h:D P cx (.n K Γ fr m)):Bx (p9 P cx (.c K (.label l) Γ fr m)):=by
 rw [qy]
 exact fun B o ho r w ha hs=>Rv (h.sound B o ho r w ha hs)
section
variable {S1 V:Type} {k j:Nat} {Δ:S1→V→List ay} {φ:S1→V→Fr} {Γ2 Γ Γ1 Γ3:QE} {f2 fr:Fr} {s:S1} {v:V} (hv:tc V v) (ha:qS fr (φ s v)) (hf:qS fr f2) (h0:EO Γ (Δ s v) Γ1) (hw:OW Γ (Δ s v)) (h1:EO Γ1 Γ2 Γ3) (h2:MF Γ none Γ2)
include hv ha hf h0 hw h1 h2
end
end
abbrev rI:Value→List Int→ay:=.rd false (bF (aM .i64))
abbrev rJ:Value→List (List Int)→ay:=.rd false (bF (bF (aM .i64)))
class FE (p:Prop):Prop where
 u:True
instance {o:Bool} {a b:QE}:FE (ER o a b):=⟨trivial⟩
instance {a:QE} {b:LV}:FE (tT a b):=⟨trivial⟩
instance {a b c:QE}:FE (EF a b c):=⟨trivial⟩
instance {a b c:QE}:FE (EO a b c):=⟨trivial⟩
instance {a b:QE}:FE (EP a b):=⟨trivial⟩
instance {a c d:LV} {b:Nat}:FE (sk a b c d):=⟨trivial⟩
instance {a b:Nat} {c d:LV}:FE (te a b c d):=⟨trivial⟩
instance {a:LN} {b:Option (Bool×Nat×Value)} {c d:Fr}:FE (Kp a b c d):=⟨trivial⟩
instance {V:Type} {v:V}:FE (tc V v):=⟨trivial⟩
instance {a:QE} {b:Addr} {c:Nat} {d:LV}:FE (tU a b c d):=⟨trivial⟩
theorem fe {p:Prop} [FE p] (h:p):p:=h
section
variable {R:Type} {P:Program} {cx:Cx R} {fr:Fr}
end
end Go.Dk
namespace Go.Dk
open Go Go.Li
theorem Rw {P:Program} {g:FuncId} {vs:LV} {Δ:QE} {β:Type} {m:Option β} {ow:Bool} {rt:β→Unit→List Value} (hc:Ct P g ow m vs Δ rt (fun _ _=>[])) {w:World} (hl:HL (fun b=>b < w.heap.size) w Δ []) {y:β} (hy:m=some y) :
  Calls P g vs.toArray w fun e w'=>e = .returned (qO (rt y ()))∧ao [] w w':=by
 rw [se] at hc
 refine (hc.2 w _ [] hl List.nodup_nil (fun _ h=>absurd h List.not_mem_nil) (fun _ h=>h) y hy).mono ?_
 rintro e w' ⟨_,he,Z,F,_,hg⟩
 exact ⟨he,hg.lq⟩
theorem Rx {w:World} {α:Type} {T:ai α} {v:Value} {x:α} {f:LN} (h:T.rep w.heap [v] x f):fact (fun b=>b < w.heap.size) w [] (.rd false T v x):=⟨f,h,fun b hb=>T.lt h b hb⟩
end Go.Dk
