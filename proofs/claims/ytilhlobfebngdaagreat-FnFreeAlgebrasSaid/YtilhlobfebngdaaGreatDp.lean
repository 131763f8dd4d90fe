/- A region that draws its order: its head in any order, whatever it holds, its tail quiet and behind all of the head. No condition. -/
import Derived.Test.YtilhlobfebngdaaGreatDg
import Derived.Deep.Quiet
import Derived.Laws.Slices
import Derived.OrdersHeld
import Derived.Scope
namespace Go.Li
open Go
section
variable {P:Program} {n:Nat} {Q:Exit→(Nat→Value)→World→Prop} {r0:NV} {w0:World} {l:LO} {S:List fv}
def Br (l:LO) (m:Nat):Bool:=
 ((List.range l.length).all fun i=>((l.getD i default).after.toList.filter (Region.binds .any)).all fun e=>Nat.blt e.on i) &&
 ((List.range l.length).all fun i=>Nat.blt i m || (List.range m).all fun j=>((cc l).getD i []).contains j) &&
 Cw ((l.take m).filterMap (·.dst)) && Region.noSelect l.toArray && Region.lexFrom .any l.toArray (l.length - m) m (List.replicate m true++List.replicate (l.length - m) false).toArray
theorem Mx {m:Nat} (h:Br l m=true):∀ (i:Nat) (o:Oper),l[i]? = some o→∀ e∈o.after.toList.filter (Region.binds .any),e.on < i:=by
 simp only [Br,Bool.and_eq_true,List.all_eq_true,List.mem_range] at h
 intro i o ho e he
 have hi:i < l.length:=(List.getElem?_eq_some_iff.1 ho).1
 have:=h.1.1.1.1 i hi e (by rw [List.getD_eq_getElem?_getD,ho]; exact he)
 exact Nat.lt_of_succ_le (Nat.le_of_ble_eq_true this)
theorem Ui {m:Nat} {U:LL} {H:LN} {N:Nat→Prop} (hd:dj n l=true) (hA:Br l m=true) (GY:m≤l.length)
  (hS:S.length=m)
  (hH:∀ b∈H,b < w0.heap.size) (hU:((List.range m).all fun i=>(U.getD i []).all fun u=>Nat.beq u l.length || ((cc l).getD i []).contains u)=true)
  (hN:∀ b,N b→b < w0.heap.size∧b ∉ H)
  (qw:∀ (i:Nat) (s:fv),S[i]? = some s→∀ f F (w w':World) (r r':NV) v,ay F w w'→(∀ b∈f,b ∉ F)→(∀ b∈F,¬ N b)→(∀ j∈(cc l).getD i [],∀ t,bw l j=some t→r' t=r t)→s.V f w r v→s.V f w' r' v)
  (Qd:∀ i,i < m→iH P l m S U r0 w0 H i)
  (next:∀ g r w,yE l m S U r0 w0 H (fun j=>j < m) g r w→QL P (ay [] w) l (l.drop m) r fun r'=>∀ w',ay [] w w'→Q .normal r' w') :
  mx P n l Q r0 w0:=by
 simp only [Br,Bool.and_eq_true,List.all_eq_true,List.mem_range,Bool.or_eq_true] at hA
 obtain ⟨⟨⟨⟨Wl,Wm⟩,Wn⟩,SU⟩,Qe⟩:=hA
 have x6:∀ (i:Nat) (o:Oper),l[i]? = some o→∀ e∈o.after.toList.filter (Region.binds .any),e.on < i:=by
  intro i o ho e he
  have hi:i < l.length:=(List.getElem?_eq_some_iff.1 ho).1
  have:=Wl i hi e (by rw [List.getD_eq_getElem?_getD,ho]; exact he)
  exact Nat.lt_of_succ_le (Nat.le_of_ble_eq_true this)
 have Gb:∀ i,m≤i→i < l.length→∀ j,j < m→j∈(cc l).getD i []:=by
  intro i h1 h2 j hj
  rcases Wm i h2 with h | h
  ·exact absurd (Nat.lt_of_succ_le (Nat.le_of_ble_eq_true h)) (Nat.not_lt.2 h1)
  ·have:=h j hj
   simpa using this
 have Wo:∀ i,i < m→∀ u∈U.getD i [],u=l.length∨u∈(cc l).getD i []:=by
  intro i hi u hu
  simp only [List.all_eq_true,List.mem_range] at hU
  have:=hU i hi u hu
  simpa using this
 have dx:=G0 _ (Aj Wn)
 have qd:=Cy l x6
 intro a h1 h2 h3
 let Cl (L:Array Bool):Prop:=L.size=l.length∧∀ j o,l[j]? = some o→L.getD j false=true→∀ e∈o.after.toList.filter (Region.binds .any),L.getD e.on false=true
 have ji:∀ L,Cl L→∀ i j,(∀ o,l[i]? = some o→∀ e∈o.after.toList.filter (Region.binds .any),L.getD e.on false=true)→j∈(cc l).getD i []→L.getD j false=true:=by
  intro L hL i
  induction i using Nat.strongRecOn with
  | _ i ih=>
   intro j hi hj
   obtain ⟨_,o,ho,e,he,IU⟩:=qd i j hj
   have hl:=hi o ho e he
   rcases IU with rfl | IU
   ·exact hl
   ·exact ih e.on (x6 i o ho e he) j (fun o' ch e' vo=>hL.2 _ _ ch hl e' vo) IU
 have DP:∀ L i,i∈Region.ready .any l.toArray L→L.getD i true=false∧∃ o,l[i]? = some o∧∀ e∈o.after.toList.filter (Region.binds .any),L.getD e.on false=true:=by
  intro L i hi
  obtain ⟨g1,o,ho,ew⟩:=mem_ready.1 hi
  refine ⟨g1,o,by simpa using ho,fun e he=>?_⟩
  have:=List.mem_filter.1 he
  exact ew e (by simpa using this.1) this.2
 have EV:∀ L i o,L.size=l.length→l[i]? = some o→L.getD i false=false→(∀ e∈o.after.toList.filter (Region.binds .any),L.getD e.on false=true)→i∈Region.ready .any l.toArray L:=by
  intro L i o hs ho hu ew
  refine mem_ready.2 ⟨?_,o,by simpa using ho,fun e he hb=>ew e (List.mem_filter.2 ⟨by simpa using he,hb⟩)⟩
  have hi:i < L.size:=by rw [hs]; exact (List.getElem?_eq_some_iff.1 ho).1
  simp [hi] at hu ⊢; exact hu
 have HH:∀ L i o,Cl L→l[i]? = some o→(∀ e∈o.after.toList.filter (Region.binds .any),L.getD e.on false=true)→Cl (L.setIfInBounds i true):=by
  intro L i o hL ho ew
  refine ⟨by rw [Array.size_setIfInBounds]; exact hL.1,fun j o' ch hj e he=>?_⟩
  by_cases wm:i=j
  ·subst wm
   have:o'=o:=Option.some.inj (ch.symm.trans ho)
   subst this
   exact getD_set_true (ew e he)
  ·rw [getD_set_ne false wm] at hj
   exact getD_set_true (hL.2 j o' ch hj e he)
 have getSet:∀ (L:Array Bool) i j,L.size=l.length→i < l.length→((L.setIfInBounds i true).getD j false=true↔j=i∨L.getD j false=true):=by
  intro L i j hs hi
  by_cases wm:i=j
  ·subst wm
   simp [hs,hi]
  ·rw [getD_set_ne false wm]
   constructor
   ·exact .inr
   ·rintro (h | h)
    ·exact absurd h.symm wm
    ·exact h
 have IV:∀ (L:Array Bool) i,L.size=l.length→i < l.length→L.getD i false=false→(L.setIfInBounds i true).toList.count false+1=L.toList.count false:=by
  intro L i hs hi hu
  have vk:i < L.toList.length:=by simpa [hs] using hi
  have DQ:L.toList[i]=false:=by
   rw [Array.getElem_toList]
   simp [hs,hi] at hu
   exact hu
  rw [Array.toList_setIfInBounds,List.count_set vk,DQ]
  have:0 < L.toList.count false:=List.count_pos_iff.2 (by rw [← DQ]; exact List.getElem_mem vk)
  rw [if_pos (by rfl),if_neg (by decide)]
  omega
 have jh:dj n (l.drop m)=true:=by
  simp only [dj,List.all_eq_true] at hd ⊢
  exact fun o ho=>hd o (List.mem_of_mem_drop ho)
 have tail:∀ (fuel:Nat) (L:Array Bool) (a:Act) (w:World),Cl L→(∀ j,L.getD j false=true↔j < m)→L.toList.count false=fuel→a.tmps.size=n→a.defers=[]→
   (QL P (ay [] w) l (l.drop m) (cn a) fun r'=>∀ w',ay [] w w'→Q .normal r' w')→wpAny P .any l.toArray (fun e a' w'=>a'.tmps.size=n∧a'.defers=[]∧Q e (cn a') w') fuel L a w:=by
  intro fuel L a w hL ib hf g1 g2 hq
  have hLe:L=(List.replicate m true++List.replicate (l.length - m) false).toArray:=by
   apply Array.ext
   ·simp [hL.1]; omega
   ·intro i hi hj
    have h1:=ib i
    simp only [Array.getD_eq_getD_getElem?,Array.getElem?_eq_getElem hi,Option.getD_some] at h1
    have e:(List.replicate m true++List.replicate (l.length - m) false).toArray[i]'hj=decide (i < m):=by
     simp only [List.getElem_toArray,List.getElem_append,List.getElem_replicate,List.length_replicate]
     split
     ·rename_i h; simp [h]
     ·rename_i h; simp [h]
    rw [e]
    cases hb:L[i] with
    | false=>exact (decide_eq_false fun h=>by have:=h1.2 h; rw [hb] at this; cases this).symm
    | true=>exact (decide_eq_true (h1.1 hb)).symm
  have Wp:fuel=l.length - m:=by
   rw [← hf,hLe]
   simp [List.count_append,List.count_replicate]
  have q1:=QL.wpQuiet (n:=n) (l:=l) (l.drop m) a hd jh g1 g2 hq
  have q2:=wpAnyQ_lex (md:=.any) SU (l.drop m) m L a (fun j=>by simp [List.getElem?_drop]) (by rw [hLe,List.length_drop]; exact Qe) q1
  refine wpAny_of_quiet (C:=ay [] w) (Q:=fun a'=>a'.tmps.size=n∧a'.defers=[]∧∀ w',ay [] w w'→Q .normal (cn a') w') (fun a' w' Cz hh=>⟨hh.1,hh.2.1,hh.2.2 w' Cz⟩) _ _ _ _ (ay.refl _ _) ?_
  rw [Wp,← List.length_drop]
  exact q2
 have head:∀ (fuel:Nat) (L:Array Bool) (a:Act) (w:World) (g:Nat→List Nat),Cl L→(∀ j,L.getD j false=true→j < m)→L.toList.count false=fuel→a.tmps.size=n→a.defers=[]→
   yE l m S U r0 w0 H (fun j=>L.getD j false=true) g (cn a) w→wpAny P .any l.toArray (fun e a' w'=>a'.tmps.size=n∧a'.defers=[]∧Q e (cn a') w') fuel L a w:=by
  intro fuel
  induction fuel with
  | zero=>
   intro L a w g hL vK hf g1 g2 inv
   have ew:∀ j,j < l.length→L.getD j false=true:=by
    intro j hj
    cases hb:L.getD j false with
    | true=>rfl
    | false=>have:=IV L j hL.1 hj hb; omega
   have ib:∀ j,L.getD j false=true↔j < m:=fun j=>⟨vK j,fun h=>ew j (by omega)⟩
   refine tail 0 L a w hL ib hf g1 g2 (next g _ _ ?_)
   exact ⟨inv.ly,fun hk=>inv.CA fun k yH=>hk k ((ib k).1 yH),inv.vg,fun j hj=>inv.vd j ((ib j).2 hj),fun j hj hk=>inv.done j ((ib j).2 hj) (fun k yH=>hk k ((ib k).1 yH)),fun j hj=>inv.uh j ((ib j).2 hj),inv.other,fun j hj b hb=>⟨(inv.fresh j ((ib j).2 hj) b hb).1.imp (fun h=>h) fun h=>⟨h.1,h.2.imp fun k hk=>⟨(ib k).1 hk.1,hk.2⟩⟩,(inv.fresh j ((ib j).2 hj) b hb).2⟩,fun i j hi hj=>inv.xQ i j ((ib i).2 hi) ((ib j).2 hj)⟩
  | succ fuel ih=>
   intro L a w g hL vK hf g1 g2 inv
   by_cases ew:∀ j,j < m→L.getD j false=true
   ·have ib:∀ j,L.getD j false=true↔j < m:=fun j=>⟨vK j,ew j⟩
    refine tail _ L a w hL ib hf g1 g2 (next g _ _ ?_)
    exact ⟨inv.ly,fun hk=>inv.CA fun k yH=>hk k ((ib k).1 yH),inv.vg,fun j hj=>inv.vd j ((ib j).2 hj),fun j hj hk=>inv.done j ((ib j).2 hj) (fun k yH=>hk k ((ib k).1 yH)),fun j hj=>inv.uh j ((ib j).2 hj),inv.other,fun j hj b hb=>⟨(inv.fresh j ((ib j).2 hj) b hb).1.imp (fun h=>h) fun h=>⟨h.1,h.2.imp fun k hk=>⟨(ib k).1 hk.1,hk.2⟩⟩,(inv.fresh j ((ib j).2 hj) b hb).2⟩,fun i j hi hj=>inv.xQ i j ((ib i).2 hi) ((ib j).2 hj)⟩
   ·obtain ⟨j0,SV,G3⟩ : ∃ j,j < m∧L.getD j false=false:=by
     apply Classical.byContradiction
     intro sk
     apply ew
     intro j hj
     cases hb:L.getD j false with
     | true=>rfl
     | false=>exact absurd ⟨j,hj,hb⟩ sk
    have My:∃ i,i∈Region.ready .any l.toArray L:=by
     have:∀ k,(∃ j,j < k∧j < m∧L.getD j false=false)→∃ i,i∈Region.ready .any l.toArray L:=by
      intro k
      induction k with
      | zero=>rintro ⟨j,h,_⟩; omega
      | succ k EM=>
       rintro ⟨j,Od,CB,sn⟩
       by_cases Ef:∃ j,j < k∧j < m∧L.getD j false=false
       ·exact EM Ef
       ·obtain rfl:j=k:=by
         apply Classical.byContradiction
         intro h
         exact Ef ⟨j,by omega,CB,sn⟩
        have EW:j < l.length:=by omega
        refine ⟨j,EV L j l[j] hL.1 (List.getElem?_eq_getElem EW) sn fun e he=>?_⟩
        have bp:=x6 j _ (List.getElem?_eq_getElem EW) e he
        cases hb:L.getD e.on false with
        | true=>rfl
        | false=>exact absurd ⟨e.on,bp,by omega,hb⟩ Ef
     exact this (j0+1) ⟨j0,by omega,SV,G3⟩
    have main:∀ i oi,i < m→l[i]? = some oi→L.getD i false=false→(∀ e∈oi.after.toList.filter (Region.binds .any),L.getD e.on false=true)→
      (Region.wanted oi (yl l (cn a))=true∧fw P oi (cn a) w fun v w'=>wpAny P .any l.toArray (fun e a' w'=>a'.tmps.size=n∧a'.defers=[]∧Q e (cn a') w') fuel (L.setIfInBounds i true) (a.put oi.dst v) w')∨
      (Region.wanted oi (yl l (cn a))=false∧wpAny P .any l.toArray (fun e a' w'=>a'.tmps.size=n∧a'.defers=[]∧Q e (cn a') w') fuel (L.setIfInBounds i true) (a.put oi.dst undef) w):=by
     intro i oi vL nj vM vN
     have fq:i < l.length:=(List.getElem?_eq_some_iff.1 nj).1
     have my:∀ o,l[i]? = some o→∀ e∈o.after.toList.filter (Region.binds .any),L.getD e.on false=true:=fun o' ch=>by
      have:o'=oi:=Option.some.inj (ch.symm.trans nj)
      subst this; exact vN
     obtain ⟨s,hs⟩ : ∃ s,S[i]? = some s:=⟨S[i]'(by omega),List.getElem?_eq_getElem (by omega)⟩
     have hc:=IV L i hL.1 fq vM
     have DR:=HH L i oi hL nj vN
     have Wq:∀ j,(L.setIfInBounds i true).getD j false=true→j < m:=by
      intro j hj
      rcases (getSet L i j hL.1 fq).1 hj with rfl | hj
      ·exact vL
      ·exact vK j hj
     have EX:∀ k,L.getD k false=true→k≠i∧i ∉ (cc l).getD k []:=by
      intro k hk
      refine ⟨fun h=>(by rw [h,vM] at hk; cases hk),fun wk=>?_⟩
      have:=ji L hL k i (fun o' ch e' vo=>hL.2 k o' ch hk e' vo) wk
      rw [vM] at this; cases this
     have ow:=Qd i vL oi s nj hs g (cn a) w inv.ly (fun hV=>by
       have sk:∀ k,L.getD k false=true→l.length ∉ U.getD k []:=fun k hk IW=>by
        simp only [wY,List.all_eq_true,List.mem_range,Bool.or_eq_true,Bool.not_eq_true',List.contains_eq_mem,decide_eq_false_iff_not,decide_eq_true_eq] at hV
        rcases hV k (vK k hk) with (h | h) | h
        ·exact h IW
        ·exact (EX k hk).1 (Nat.eq_of_beq_eq_true h)
        ·exact (EX k hk).2 h
       have h0:=inv.CA sk
       exact ⟨h0.1,h0.2,fun j hj b hb=>(inv.fresh j (ji L hL i j my hj) b hb).1.elim (fun h=>h) fun h=>absurd h.2.choose_spec.2 (sk _ h.2.choose_spec.1)⟩) (fun j hj=>inv.uh j (ji L hL i j my hj)) (fun j hj=>by
       simp only [rq,Bool.and_eq_true,List.all_eq_true,List.mem_range,Bool.or_eq_true,Bool.not_eq_true',List.contains_eq_mem,decide_eq_false_iff_not,decide_eq_true_eq] at hj
       refine inv.done j (ji L hL i j my hj.1) fun k hk Od=>?_
       rcases hj.2 k (vK k hk) with (h | h) | h
       ·exact h Od
       ·exact (EX k hk).1 (Nat.eq_of_beq_eq_true h)
       ·exact (EX k hk).2 h) inv.other
      (fun i' vk j' ik=>inv.xQ i' j' (ji L hL i i' my vk) (ji L hL i j' my ik))
      (fun j hj b hb=>⟨(inv.fresh j (ji L hL i j my hj) b hb).1.imp (fun h=>h) (·.1),(inv.fresh j (ji L hL i j my hj) b hb).2⟩)
     have hblk:∀ b∈qu g (U.getD i []),(∃ u,u∈U.getD i []∧L.getD u false=true∧b∈g u)∨(l.length∈U.getD i []∧b∈g l.length):=by
      intro b hb
      obtain ⟨u,hu,gf⟩:=List.mem_flatMap.1 hb
      rcases Wo i vL u hu with rfl | h
      ·exact .inr ⟨hu,gf⟩
      ·exact .inl ⟨u,hu,ji L hL i u my h,gf⟩
     have G4:∀ k',oi.dst=some k'→k' < a.tmps.size:=by
      intro k' yC
      have wk:oi∈l:=List.mem_of_getElem? nj
      simp only [dj,List.all_eq_true] at hd
      have:=hd oi wk
      rw [yC] at this
      rw [g1]
      exact Nat.lt_of_succ_le (Nat.le_of_ble_eq_true this)
     have Ax:bw l i=oi.dst:=by unfold bw; rw [nj]; rfl
     have qk:∀ v t,(oi.dst≠some t)→cn (a.put oi.dst v) t=cn a t:=by
      intro v t ht
      rw [l7 G4]
      cases yI:oi.dst with
      | none=>rfl
      | some d=>
       show (bif Nat.beq t d then v else cn a t)=cn a t
       cases hb:Nat.beq t d with
       | false=>rfl
       | true=>exact absurd (by rw [yI,Nat.eq_of_beq_eq_true hb]) ht
     have IX:∀ v d,oi.dst=some d→cn (a.put oi.dst v) d=v:=by
      intro v d yI
      rw [l7 G4,yI]
      show (bif Nat.beq d d then v else cn a d)=v
      rw [Nat.beq_refl]; rfl
     have step:∀ v w' f,ay (qu g (U.getD i [])) w w'→(∀ b∈f,(b∈qu g (U.getD i [])∨w.heap.size≤b)∧b < w'.heap.size)→(if s.b then s.V f w' (cn a) v else v=undef)→
       wpAny P .any l.toArray (fun e a' w'=>a'.tmps.size=n∧a'.defers=[]∧Q e (cn a') w') fuel (L.setIfInBounds i true) (a.put oi.dst v) w':=by
      intro v w' f hC xg hV
      have tz:∀ j',j' < m→j'≠i→∀ t,bw l j'=some t→cn (a.put oi.dst v) t=cn a t:=by
       intro j' ik q9 t ht
       refine qk v t fun h=>q9 (dx j' i t ?_ ?_)
       ·rw [lg ik]; exact ht
       ·rw [lg vL,Ax]; exact h
      have Oe:∀ b∈qu g (U.getD i []),¬ N b:=fun b hb hn=>by
       rcases hblk b hb with ⟨u,_,o3,gf⟩ | ⟨_,gf⟩
       ·rcases (inv.fresh u o3 b gf).1 with h | h
        ·have:=(hN b hn).1; omega
        ·exact (hN b hn).2 h.1
       ·exact (hN b hn).2 (inv.vg b gf)
      refine ih _ _ _ (fun j=>if j=i then f else if j∈U.getD i [] then [] else g j) DR Wq (by omega) (by rw [j8]; exact g1) (by rw [ic]; exact g2)
       ⟨inv.ly.then hC fun b hb=>(by
        rcases hblk b hb with ⟨u,_,o3,gf⟩ | ⟨_,gf⟩
        ·exact (inv.fresh u o3 b gf).1.elim .inr fun h=>.inl h.1
        ·exact .inl (inv.vg b gf)),fun sk=>?_,?_,fun j hj=>?_,?_,fun j hj d p4 sj r9=>?_,?_,?_,?_⟩
      ·have xf:l.length ∉ U.getD i []:=sk i ((getSet L i i hL.1 fq).2 (.inl rfl))
       have h0:=inv.CA fun k hk=>sk k ((getSet L i k hL.1 fq).2 (.inr hk))
       refine ⟨h0.1.then hC fun b hb=>?_,?_⟩
       ·rcases hblk b hb with ⟨u,_,o3,gf⟩ | ⟨h,_⟩
        ·exact (inv.fresh u o3 b gf).1.elim .inr fun ⟨_,k,hk,IW⟩=>absurd IW (sk k ((getSet L i k hL.1 fq).2 (.inr hk)))
        ·exact absurd h xf
       ·show (if l.length=i then f else if l.length∈U.getD i [] then [] else g l.length)=H
        rw [if_neg (by omega),if_neg xf]
        exact h0.2
      ·intro b hb
       have cu:b∈(if l.length=i then f else if l.length∈U.getD i [] then [] else g l.length):=hb
       rw [if_neg (by omega)] at cu
       split at cu
       ·cases cu
       ·exact inv.vg b cu
      ·intro b hb hv
       have n7:b∈(if l.length=i then f else if l.length∈U.getD i [] then [] else g l.length):=hv
       rw [if_neg (by omega)] at n7
       split at n7
       ·cases n7
       ·rename_i Wr
        have cu:b∈(if j=i then f else if j∈U.getD i [] then [] else g j):=hb
        split at cu
        ·rcases (xg b cu).1 with h | h
         ·rcases hblk b h with ⟨u,_,o3,gf⟩ | ⟨h,_⟩
          ·exact inv.vd u o3 b gf n7
          ·exact Wr h
         ·have h1:=hH b (inv.vg b n7)
          have h2:=inv.ly.size
          omega
        ·rename_i lq
         split at cu
         ·cases cu
         ·exact inv.vd j (((getSet L i j hL.1 fq).1 hj).resolve_left lq) b cu n7
      ·intro j hj yJ
       refine ⟨fun d p4=>?_,fun Ws sj r9 Of=>?_⟩
       rotate_left
       ·by_cases lq:j=i
        ·subst lq
         rw [hs] at r9
         cases r9
         rw [if_pos Of] at hV
         refine ⟨v,?_⟩
         simp only [if_pos]
         exact qw j s hs _ [] w' w' (cn a) _ v (ay.refl _ _) (fun _ _ h=>nomatch h) (fun _ h=>nomatch h) (fun j' ik t ht=>tz j' (by have:=(qd j j' ik).1; omega) (by have:=(qd j j' ik).1; omega) t ht) hV
        ·have lh:=((getSet L i j hL.1 fq).1 hj).resolve_left lq
         have sn:j ∉ U.getD i []:=yJ i ((getSet L i i hL.1 fq).2 (.inl rfl))
         obtain ⟨x,hx⟩:=(inv.done j lh (fun k hk=>yJ k ((getSet L i k hL.1 fq).2 (.inr hk)))).2 Ws sj r9 Of
         have lz:(fun j=>if j=i then f else if j∈U.getD i [] then [] else g j) j=g j:=by
          show (if j=i then f else if j∈U.getD i [] then [] else g j)=g j
          rw [if_neg lq,if_neg sn]
         rw [lz]
         refine ⟨x,qw j sj r9 _ _ _ _ (cn a) _ _ hC (fun b cu IY=>?_) Oe (fun j' ik t ht=>tz j' (by have:=(qd j j' ik).1; have:=vK j lh; omega) (fun h=>?_) t ht) hx⟩
         ·rcases hblk b IY with ⟨u,CC,o3,gf⟩ | ⟨_,gf⟩
          ·exact inv.xQ j u lh o3 (fun h=>sn (h ▸ CC)) b cu gf
          ·exact inv.vd j lh b cu gf
         ·subst h
          have:=ji L hL j j' (fun o' ch e' vo=>hL.2 j o' ch lh e' vo) ik
          rw [vM] at this; cases this
       by_cases lq:j=i
       ·subst lq
        rw [hs]
        simp only [if_pos]
        rw [Ax] at p4
        rw [IX v d p4]
        split
        ·rename_i hb
         rw [if_pos hb] at hV
         exact qw j s hs _ [] w' w' (cn a) _ v (ay.refl _ _) (fun _ _ h=>nomatch h) (fun _ h=>nomatch h) (fun j' ik t ht=>tz j' (by have:=(qd j j' ik).1; omega) (by have:=(qd j j' ik).1; omega) t ht) hV
        ·rename_i hb
         rw [if_neg hb] at hV
         exact hV
       ·have lh:=((getSet L i j hL.1 fq).1 hj).resolve_left lq
        have CB:=vK j lh
        have sn:j ∉ U.getD i []:=yJ i ((getSet L i i hL.1 fq).2 (.inl rfl))
        have yI:oi.dst≠some d:=by
         intro h
         apply lq
         refine dx j i d ?_ ?_
         ·rw [lg CB]; exact p4
         ·rw [lg vL,Ax]; exact h
        have:=(inv.done j lh (fun k hk=>yJ k ((getSet L i k hL.1 fq).2 (.inr hk)))).1 d p4
        rw [qk v d yI]
        have lz:(fun j=>if j=i then f else if j∈U.getD i [] then [] else g j) j=g j:=by
         show (if j=i then f else if j∈U.getD i [] then [] else g j)=g j
         rw [if_neg lq,if_neg sn]
        rw [lz]
        cases r9:S[j]? with
        | none=>trivial
        | some sj=>
         rw [r9] at this
         simp only [] at this ⊢
         split
         ·rename_i hb
          rw [if_pos hb] at this
          refine qw j sj r9 _ _ _ _ (cn a) _ _ hC (fun b cu IY=>?_) Oe (fun j' ik t ht=>tz j' (by have:=(qd j j' ik).1; omega) (fun h=>?_) t ht) this
          rotate_left
          ·subst h
           have:=ji L hL j j' (fun o' ch e' vo=>hL.2 j o' ch lh e' vo) ik
           rw [vM] at this; cases this
          rcases hblk b IY with ⟨u,CC,o3,gf⟩ | ⟨_,gf⟩
          ·exact inv.xQ j u lh o3 (fun h=>sn (h ▸ CC)) b cu gf
          ·exact inv.vd j lh b cu gf
         ·rename_i hb
          rw [if_neg hb] at this
          exact this
      ·by_cases lq:j=i
       ·subst lq
        rw [hs] at r9
        cases r9
        rw [Ax] at p4
        rw [IX v d p4]
        split
        ·rename_i hb
         rw [if_pos hb] at hV
         exact ⟨f,w',qw j s hs _ [] w' w' (cn a) _ v (ay.refl _ _) (fun _ _ h=>nomatch h) (fun _ h=>nomatch h) (fun j' ik t ht=>tz j' (by have:=(qd j j' ik).1; omega) (by have:=(qd j j' ik).1; omega) t ht) hV⟩
        ·rename_i hb
         rw [if_neg hb] at hV
         exact hV
       ·have lh:=((getSet L i j hL.1 fq).1 hj).resolve_left lq
        have CB:=vK j lh
        have yI:oi.dst≠some d:=by
         intro h
         apply lq
         refine dx j i d ?_ ?_
         ·rw [lg CB]; exact p4
         ·rw [lg vL,Ax]; exact h
        have:=inv.uh j lh d p4 sj r9
        rw [qk v d yI]
        split
        ·rename_i hb
         rw [if_pos hb] at this
         obtain ⟨f1,w1,h1⟩:=this
         refine ⟨f1,w1,qw j sj r9 _ [] w1 w1 (cn a) _ _ (ay.refl _ _) (fun _ _ h=>nomatch h) (fun _ h=>nomatch h) (fun j' ik t ht=>tz j' (by have:=(qd j j' ik).1; omega) (fun h=>?_) t ht) h1⟩
         subst h
         have:=ji L hL j j' (fun o' ch e' vo=>hL.2 j o' ch lh e' vo) ik
         rw [vM] at this; cases this
        ·rename_i hb
         rw [if_neg hb] at this
         exact this
      ·intro t ht
       rw [qk v t (fun h=>ht i vL (by rw [Ax]; exact h))]
       exact inv.other t ht
      ·intro j hj b hb
       by_cases lq:j=i
       ·simp only [if_pos lq] at hb
        have hh:=xg b hb
        have xe:=inv.ly.size
        rcases hh.1 with h | h
        ·rcases hblk b h with ⟨u,_,o3,gf⟩ | ⟨hv,gf⟩
         ·exact ⟨(inv.fresh u o3 b gf).1.imp (fun h=>h) fun h=>⟨h.1,h.2.imp fun k hk=>⟨(getSet L i k hL.1 fq).2 (.inr hk.1),hk.2⟩⟩,hh.2⟩
         ·exact ⟨.inr ⟨inv.vg b gf,i,(getSet L i i hL.1 fq).2 (.inl rfl),hv⟩,hh.2⟩
        ·exact ⟨.inl (by omega),hh.2⟩
       ·have lh:=((getSet L i j hL.1 fq).1 hj).resolve_left lq
        simp only [if_neg lq] at hb
        split at hb
        ·cases hb
        ·have h1:=inv.fresh j lh b hb
         have h2:=hC.size
         exact ⟨h1.1.imp (fun h=>h) fun h=>⟨h.1,h.2.imp fun k hk=>⟨(getSet L i k hL.1 fq).2 (.inr hk.1),hk.2⟩⟩,by omega⟩
      ·have wJ:∀ j',(L.setIfInBounds i true).getD j' false=true→j'≠i→∀ b∈f,b ∉ (if j'∈U.getD i [] then [] else g j'):=by
        intro j' ik e2 b hb cu
        have IZ:=((getSet L i j' hL.1 fq).1 ik).resolve_left e2
        split at cu
        ·cases cu
        ·rename_i sn
         rcases (xg b hb).1 with h | h
         ·rcases hblk b h with ⟨u,CC,o3,gf⟩ | ⟨_,gf⟩
          ·exact inv.xQ u j' o3 IZ (fun h=>sn (h ▸ CC)) b gf cu
          ·exact inv.vd j' IZ b cu gf
         ·have:=inv.fresh j' IZ b cu
          omega
       intro i' j' vk ik q9 b hb cu
       by_cases e1:i'=i
       ·have e2:j'≠i:=fun h=>q9 (e1.trans h.symm)
        simp only [if_pos e1] at hb
        simp only [if_neg e2] at cu
        exact wJ j' ik e2 b hb cu
       ·simp only [if_neg e1] at hb
        by_cases e2:j'=i
        ·simp only [if_pos e2] at cu
         exact wJ i' vk e1 b cu hb
        ·simp only [if_neg e2] at cu
         split at hb
         ·cases hb
         ·split at cu
          ·cases cu
          ·exact inv.xQ i' j' (((getSet L i i' hL.1 fq).1 vk).resolve_left e1) (((getSet L i j' hL.1 fq).1 ik).resolve_left e2) q9 b hb cu
     cases hb:s.b with
     | true=>
      rw [if_pos hb] at ow
      refine .inl ⟨ow.1,qc ow.2 ?_⟩
      rintro v w' ⟨hC,f,xg,hV⟩
      exact step v w' f hC xg (by rw [if_pos hb]; exact hV)
     | false=>
      rw [if_neg (by rw [hb]; exact Bool.false_ne_true)] at ow
      exact .inr ⟨ow,step undef w [] (ay.refl _ _) (fun b h=>nomatch h) (by rw [if_neg (by rw [hb]; exact Bool.false_ne_true)])⟩
    refine ⟨fun h=>(by obtain ⟨i,hi⟩:=My; rw [h] at hi; cases hi),fun i hi=>?_⟩
    obtain ⟨q1,oi,nj,vN⟩:=DP L i hi
    have fq:i < l.length:=(List.getElem?_eq_some_iff.1 nj).1
    have vM:L.getD i false=false:=getD_both q1
    have vL:i < m:=by
     rcases Nat.lt_or_ge i m with h | h
     ·exact h
     ·have hj:=Gb i h fq j0 SV
      have:=ji L hL i j0 (fun o' ch=>by have:o'=oi:=Option.some.inj (ch.symm.trans nj); subst this; exact vN) hj
      rw [G3] at this; cases this
    unfold wpOp
    rw [show (l.toArray)[i]? = some oi by simpa using nj]
    simp only []
    rw [Bt (by rw [g1]; exact hd)]
    rcases main i oi vL nj vM vN with ⟨hw,h⟩ | ⟨hw,h⟩
    ·rw [if_pos hw]
     exact .inl (h.wp fun v w' hv=>hv)
    ·rw [if_neg (by rw [hw]; exact Bool.false_ne_true)]
     exact h
 refine head _ _ a _ (fun j=>if j=l.length then H else []) ⟨by simp,?_⟩ ?_ ?_ h1 h2 ⟨ay.nil (ay.drew _ _),fun _=>⟨ay.drew _ _,by simp⟩,fun b hb=>by simpa using hb,?_,?_,?_,?_,?_,?_⟩
 ·intro j o ho hj
  rw [getD_replicate_false] at hj; cases hj
 ·intro j hj
  rw [getD_replicate_false] at hj; cases hj
 ·simp
 ·intro j hj
  rw [getD_replicate_false] at hj; cases hj
 ·intro j hj
  rw [getD_replicate_false] at hj; cases hj
 ·intro j hj
  rw [getD_replicate_false] at hj; cases hj
 ·intro t _
  rw [h3]
 ·intro j hj
  rw [getD_replicate_false] at hj; cases hj
 ·intro i j hi
  rw [getD_replicate_false] at hi; cases hi
end
end Go.Li
namespace Go.Dk
open Go Go.Li
section
variable {R S:Type} {P:Program} {cx:Cx R} {K:dq R S} {l tail:LO} {base fr:Fr} {w:World} {Z:Nat→Prop}
theorem Qf {mt id:Nat} {U:LL} {IK:QE} (hU:((List.range mt).all fun i=>(U.getD i []).all fun u=>Nat.beq u l.length || ((cc l).getD i []).contains u)=true) (hh:l6 l mt base=true) (hd:dj cx.n l=true) (hA:Br l mt=true) (GY:mt≤l.length) (ht:tail=l.drop mt) {i:Nat} {sl:LQ} {ms:MM} {Γ:QE} {m:Option (Out S R)} (IL:Bd ms=true) (pj:Ag U sl ms=true)
  (h:∀ x:nv ms,D P cx (.p (Af sl (mF ms x)) (Cm ms x) base Γ fun fr Γ=>.tg true (Bb tail) l tail K Γ fr m)):IG P cx K l l mt U IK id base (.a [] [] i sl ms Γ m):=by
 rintro ⟨_,h2,h3⟩ B o ho r0 w0 H Z ha hs ⟨S',hl,hR,hO⟩
 have hi:i=mt:=by
  have:=congrArg List.length h2
  simp at this
  omega
 subst hl
 obtain ⟨F,Hd,⟨Cs,Cu,wI,Cv⟩,hS,hG⟩:=hs
 refine Ui (N:=Z) (S:=S') (U:=U) (H:=H) hd hA GY hi wI hU (fun b hb=>⟨hG.sy b hb,fun h=>hG.apart b (List.mem_append_left _ h) hb⟩) (fun i s hs=>hR.s i s hs) (fun j hj=>hO j (by omega)) ?_
 intro g r w hI
 have Mp:∀ k j,j∈U.getD k []→∀ a∈ms,a.j≠j:=by
  intro k j hj
  unfold Ag at pj
  rw [Bool.and_eq_true] at pj
  rw [List.getD_eq_getElem?_getD] at hj
  cases hk:U[k]? with
  | none=>rw [hk] at hj; exact absurd hj List.not_mem_nil
  | some us=>
   rw [hk] at hj
   have h1:=List.all_eq_true.1 (List.all_eq_true.1 pj.1 us (List.mem_of_getElem? hk)) j hj
   intro a ha he
   have:=List.all_eq_true.1 h1 a ha
   rw [he,Nat.beq_refl] at this
   cases this
 have hD:∀ j,j < mt→(∀ k,j ∉ U.getD k [])→vJ l S' j g r w:=fun j hj hn=>hI.done j hj fun k _=>hn k
 have bp:∀ a∈ms,a.j < mt:=fun a ha=>hi ▸ hR.lt ha
 obtain ⟨x,hx,qv,V0⟩:=SN (g:=g) (r:=r) (w:=w) IL hR.d (fun a ha b hb xi=>hI.xQ _ _ (bp a ha) (bp b hb) xi) fun a ha=>by
  have:=hR.Iv (S2:=[]) ha (by rw [List.append_nil]; exact hD a.j (bp a ha) (fun k hk=>Mp k _ hk a ha rfl))
  exact this
 have ET:=List.nodup_append.1 hG.nd
 have qk:∀ b∈Bp g ms,w0.heap.size≤b∨b∈H:=fun b hb=>by
  obtain ⟨a,h1,h2⟩:=Ed hb
  exact (hI.fresh a.j (bp a h1) b h2).1.imp (fun h=>h) (·.1)
 have jc:=ui.stay hS hG hI.ly
 obtain ⟨Vo,Vr,V1,V2,qv⟩:=qv
 obtain ⟨F',hp,jo⟩:=qv.build (jc.mono (fun _ h=>.inl h) fun _ h=>h)
 have IN:Gd B Z (Bp g ms++F) w:=by
  refine ⟨zL V0 ET.2.1 fun b hb hF=>(qk b hb).elim (fun h=>Nat.lt_irrefl _ (Nat.lt_of_lt_of_le (hS.lt b hF) h)) (fun h=>ET.2.2 b h b hF rfl),?_,fun b hb=>Nat.lt_of_lt_of_le (hG.sy b hb) hI.ly.size,?_,hG.zy,hG.Ab,hG.ly.then hI.ly fun b hb=>hG.low b (List.mem_append_left _ hb)⟩
  ·intro b hb hz
   rcases List.mem_append.1 hb with hb | hb
   ·exact (qk b hb).elim (fun h=>Nat.lt_irrefl _ (Nat.lt_of_lt_of_le (hG.sy b hz) h)) (fun h=>hG.apart b (List.mem_append_left _ h) hz)
   ·exact hG.apart b (List.mem_append_right _ hb) hz
  ·intro b hb
   rcases List.mem_append.1 hb with hb | hb
   ·exact (qk b hb).elim (fun h=>.inr (Nat.le_trans hG.ly.size h)) (fun h=>hG.low b (List.mem_append_left _ h))
   ·exact hG.low b (List.mem_append_right _ hb)
 have P8:di r ((Af sl (mF ms x)).reverse++base):=by
  refine wB (II (fun p hp=>?_) hx) (mj hh ha hI.other)
  exact hR.zJ (S2:=[]) hp fun j _ hj=>(by rw [List.append_nil]; exact hI.uh j (hi ▸ hj))
 have:=(h x).sound B o ho r w P8 ⟨_,F',jo,((IN.perm (Lj V1)).freeze V2).perm hp⟩
 rw [ht] at this
 exact this
theorem Zw {id:Nat} (hd:QE) (mt:Nat) (U as:LL) {ops:LO} {Γ Γ1:QE} {fr:Fr} {m:Option (Out S R)}
  (hB:(P.follows .mixedOrders && dj cx.n l && Br l mt && Nat.ble mt l.length && (kp l U mt == as) && ((List.range mt).all fun i=>(U.getD i []).all fun u=>Nat.beq u l.length || ((cc l).getD i []).contains u))=true)
  (ho:ops=l.take mt) (ht:tail=l.drop mt) (hf:Kp (yy ops) none fr base) (hh:l6 l mt base=true) (he:EO Γ hd Γ1) (IP:OW Γ hd)
  (h:AD true P cx K l tail base U hd (.a as ops 0 [] [] Γ1 m)):Bx (qj P cx (.dr id l K Γ fr m)):=by
 simp only [Bool.and_eq_true] at hB
 obtain ⟨⟨⟨⟨⟨b1,b2⟩,b3⟩,b5⟩,b6⟩,b7⟩:=hB
 rw [rm]
 intro B o hm r w ha hs
 obtain ⟨Z,F,hS,hG⟩:=hs
 obtain ⟨Fd,F',h1,h2,h3⟩:=he.sound hS
 have IQ:SA Z w hd [] Fd:=by
  have:=(HO.hl IP hS h1).front (Γ:=[]) (F:=[]) rfl
  simpa using this
 have hX:ui B Z hd Γ1 Fd w:=⟨F',Fd,⟨IQ,fun b hb=>⟨hb,IQ.lt b hb⟩,IQ.lt,(List.nodup_append.1 (hG.perm h3).nd).1⟩,h2,hG.perm h3⟩
 refine mx.W b1 ?_
 refine AD.sound (id:=id) hh (fun _ _ _ _ _ _ hs he h=>Qf b7 hh b2 b3 (Nat.le_of_ble_eq_true b5) ht hs he h) h
  ⟨by rw [List.drop_zero]; exact (eq_of_beq b6).symm,by rw [List.drop_zero]; exact ho,Nat.zero_le _⟩ B o hm r w Fd Z (hf.sound ha) hX ⟨[],rfl,⟨fun _ h=>absurd h List.not_mem_nil,fun _ h=>absurd h List.not_mem_nil,fun i s h=>by simp at h,List.nodup_nil,fun _ _ _ h1 h2=>Bq l (Mx b3) h1 h2⟩,fun j hj=>absurd hj (Nat.not_lt_zero j)⟩
theorem Wt {id:Nat} (mt:Nat) (U as:LL) {ops:LO} {Γ:QE} {fr:Fr} {m:Option (Out S R)}
  (hB:(P.follows .mixedOrders && dj cx.n l && Br l mt && Nat.ble mt l.length && (kp l U mt == as) && ((List.range mt).all fun i=>(U.getD i []).all fun u=>Nat.beq u l.length || ((cc l).getD i []).contains u))=true)
  (ho:ops=l.take mt) (ht:tail=l.drop mt) (hf:Kp (yy ops) none fr base) (hh:l6 l mt base=true)
  (h:AD true P cx K l tail base U [] (.a as ops 0 [] [] Γ m)):Bx (qj P cx (.dr id l K Γ fr m)):=Zw [] mt U as hB ho ht hf hh .nil .nil h
end
end Go.Dk
namespace Go.Dk
open Go Go.Li
def Cg:Value→Option Nat
 | .slice (some a) _ _=>some a.block
 | _=>none
def NF {α:Type} (E:an α):Prop:=∀ {h:Array Obj} {cs:LV} {x:α} {f:LN},E.rep h cs x f→f=[]
theorem NF.i {k:IntKind}:NF (aN k):=zH
theorem NF.l {α:Type} {E:an α} (hE:NF E) {h:Array Obj}:∀ {xs:List α} {cs:LV} {f:LN},dt E h cs xs f→f=[]:=by
 intro xs
 induction xs with
 | nil=>rintro cs f ⟨_,rfl⟩; rfl
 | cons x xs ih=>
  rintro cs f ⟨c,j9,f1,f2,rfl,rfl,h1,h2⟩
  rw [hE h1,ih h2]; rfl
structure Good {α:Type} (A:Value→α→Prop) (f:LN):Prop where
 sub:∀ u y b,A u y→Cg u=some b→b∈f
 one:∀ u y u' y' b,A u y→A u' y'→Cg u=some b→Cg u'=some b→y=y'
inductive B8 {α:Type}:{β:Type}→an β→((Value→List α→Prop)→an β)→Prop
 | row {e:TI} {E:an α}:B8 (aL e E) (fun A=>vh A (aL e E))
 | step {β:Type} {e:TI} {T:an β} {T':(Value→List α→Prop)→an β} (h:B8 T T'):B8 (aL e T) (fun A=>bH (T' A))
section
variable {α β:Type} {T:an β} {T':(Value→List α→Prop)→an β} {A A':Value→List α→Prop} {f:LN} {hp:Array Obj}
theorem B8.size (h:B8 T T'):(T' A).size=T.size:=by
 cases h <;> rfl
theorem B8.mono (h:B8 T T') (hA:∀ u y,A u y→A' u y):Le (T' A) (T' A'):=by
 induction h with
 | row=>exact ⟨rfl,fun h=>⟨h.1.imp fun v g=>⟨g.1,hA _ _ g.2⟩,h.2⟩⟩
 | step _ ih=>exact ih.KS
theorem B8.Zx {e:TI} (ho:∀ {cs:LV} {x:β} {f:LN},T.rep hp cs x f→f.Nodup→∃ A,Good A f∧(T' A).rep hp cs x f) (hm:∀ {A A':Value→List α→Prop},(∀ u y,A u y→A' u y)→Le (T' A) (T' A')) :
  ∀ {xs:List β} {cs:LV} {f:LN},dt T hp cs xs f→f.Nodup→∃ A,Good A f∧dt (T' A) hp cs xs f:=by
 have _:=e
 intro xs
 induction xs with
 | nil=>rintro cs f ⟨rfl,rfl⟩ _; exact ⟨fun _ _=>False,⟨fun _ _ _ h=>h.elim,fun _ _ _ _ _ h=>h.elim⟩,rfl,rfl⟩
 | cons x xs ih=>
  rintro cs f ⟨c,j9,f1,f2,rfl,rfl,h1,h2⟩ hn
  obtain ⟨n1,n2,n3⟩:=List.nodup_append.1 hn
  obtain ⟨A1,g1,r1⟩:=ho h1 n1
  obtain ⟨A2,g2,r2⟩:=ih h2 n2
  refine ⟨fun u y=>A1 u y∨A2 u y,⟨fun u y b h hb=>?_,fun u y u' y' b h h' hb cu=>?_⟩,c,j9,f1,f2,rfl,rfl,(hm fun _ _=>.inl).le r1,wu (hm fun _ _=>.inr) r2⟩
  ·exact h.elim (fun h=>List.mem_append_left _ (g1.sub u y b h hb)) (fun h=>List.mem_append_right _ (g2.sub u y b h hb))
  ·rcases h with h | h <;> rcases h' with h' | h'
   ·exact g1.one u y u' y' b h h' hb cu
   ·exact absurd rfl (n3 b (g1.sub _ _ _ h hb) b (g2.sub _ _ _ h' cu))
   ·exact absurd rfl (n3 b (g1.sub _ _ _ h' cu) b (g2.sub _ _ _ h hb))
   ·exact g2.one u y u' y' b h h' hb cu
theorem B8.opened (h:B8 T T'):∀ {cs:LV} {x:β} {f:LN},T.rep hp cs x f→f.Nodup→∃ A,Good A f∧(T' A).rep hp cs x f:=by
 induction h with
 | @row e E=>
  intro cs x f hr _
  obtain ⟨base,cap,rfl,ig⟩:=id hr
  refine ⟨fun u y=>u = .slice base x.length cap∧y=x,⟨?_,?_⟩,⟨_,rfl,rfl,rfl⟩,hr⟩
  ·rintro u y b ⟨rfl,rfl⟩ hb
   rcases ig with ⟨rfl,_⟩ | ⟨b0,cur,f',rfl,_,rfl,_⟩
   ·cases hb
   ·cases hb; exact List.mem_cons_self
  ·rintro u y u' y' b ⟨_,rfl⟩ ⟨_,rfl⟩ _ _; rfl
 | @step β e T T' ho ih=>
  intro cs x f hr hn
  obtain ⟨base,cap,rfl,ig⟩:=hr
  rcases ig with ⟨rfl,_,rfl,rfl⟩ | ⟨b,cur,f',rfl,hg,rfl,h3,h4,h5,h6⟩
  ·exact ⟨fun _ _=>False,⟨fun _ _ _ h=>h.elim,fun _ _ _ _ _ h=>h.elim⟩,none,cap,rfl,.inl ⟨rfl,rfl⟩⟩
  ·obtain ⟨A,g1,g2⟩:=B8.Zx (e:=e) ih (fun hA=>ho.mono hA) h6 (List.nodup_cons.1 hn).2
   refine ⟨A,⟨fun u y b h hb=>List.mem_cons_of_mem _ (g1.sub u y b h hb),g1.one⟩,_,cap,rfl,.inr ⟨b,0,cur,e,(0,0),f',rfl,hg,rfl,h3,?_⟩⟩
   rw [List.drop_zero,ho.size]
   exact g2
end
section
variable {α:Type} {e e':TI} {E:an α} {A:Value→List α→Prop} {ft f:LN} {hp:Array Obj}
theorem Mz (nf:NF E) (hA:Good A ft):∀ {ys:List (List α)} {us:LV} {g:LN},dt (vh A (aL e' E)) hp us ys g→ys.Nodup→
  dt (aL e' E) hp us ys g∧g.Nodup∧∀ b∈g,b∈ft∧∃ u y,A u y∧Cg u=some b∧y∈ys:=by
 intro ys
 induction ys with
 | nil=>rintro us g ⟨rfl,rfl⟩ _; exact ⟨⟨rfl,rfl⟩,List.nodup_nil,fun b hb=>absurd hb List.not_mem_nil⟩
 | cons y ys ih=>
  rintro us g ⟨c,j9,g1,g2,rfl,rfl,⟨⟨u,rfl,hu⟩,hr⟩,h2⟩ hn
  obtain ⟨n1,n2⟩:=List.nodup_cons.1 hn
  obtain ⟨a1,a2,a3⟩:=ih h2 n2
  refine ⟨⟨[u],j9,g1,g2,rfl,rfl,hr,a1⟩,?_,?_⟩
  ·obtain ⟨base,cap,hv,ig⟩:=hr
   obtain rfl:u = .slice base y.length cap:=by simpa using hv
   rcases ig with ⟨_,_,_,rfl⟩ | ⟨b,cur,f',rfl,_,rfl,_,_,_,h6⟩
   ·exact a2
   ·rw [nf.l h6]
    refine List.nodup_cons.2 ⟨fun hb=>?_,a2⟩
    obtain ⟨_,u',y',h7,h8,h9⟩:=a3 b hb
    rw [hA.one _ _ _ _ b hu h7 rfl h8] at n1
    exact n1 h9
  ·intro b hb
   rcases List.mem_append.1 hb with hb | hb
   ·obtain ⟨base,cap,hv,ig⟩:=hr
    obtain rfl:u = .slice base y.length cap:=by simpa using hv
    rcases ig with ⟨_,_,_,rfl⟩ | ⟨b0,cur,f',rfl,_,rfl,_,_,_,h6⟩
    ·cases hb
    ·rw [nf.l h6,List.mem_singleton] at hb
     subst hb
     exact ⟨hA.sub _ _ _ hu rfl,_,y,hu,rfl,by simp⟩
   ·obtain ⟨b1,u',y',b2,b3,b4⟩:=a3 b hb
    exact ⟨b1,u',y',b2,b3,by simp [b4]⟩
theorem Og {Z:Nat→Prop} {w:World} {v:Value} {ys:List (List α)} (nf:NF E) (hA:Good A ft) (ho:pq Z w f (.om e (vh A (aL e' E)) v ys)) (hn:ys.Nodup) (hf:f.Nodup) (hz:∀ b∈f,¬ Z b) :
  ∃ g,(∀ b∈g,b∈ft)∧(aL e (aL e' E)).rep w.heap [v] ys (f++g)∧(f++g).Nodup:=by
 obtain ⟨us,g,h1,h2,h3,_⟩:=ho
 obtain ⟨a1,a2,a3⟩:=Mz nf hA h2 hn
 have hl:us.length=ys.length:=by have:=j7 a1; rw [this]; exact Nat.mul_one _
 refine ⟨g,fun b hb=>(a3 b hb).1,?_,List.nodup_append.2 ⟨hf,a2,fun b hb c hc=>fun e=>hz b hb (h3 b (e ▸ hc))⟩⟩
 obtain ⟨base,cap,hv,hr⟩:=h1
 obtain rfl:v = .slice base us.length cap:=by simpa using hv
 rw [hl]
 rcases hr with ⟨rfl,rfl,rfl,rfl⟩ | ⟨b,cur,f',rfl,hg,rfl,c1,c2,c3,c4⟩
 ·cases ys with
  | cons y ys=>simp at hl
  | nil=>obtain ⟨_,rfl⟩:=a1; exact ⟨none,0,rfl,.inl ⟨rfl,rfl,rfl,rfl⟩⟩
 ·obtain ⟨c5,rfl⟩:=A8 c4
  refine ⟨_,cap,rfl,.inr ⟨b,cur,g,rfl,hg,rfl,by rw [← hl]; exact c1,c2,c3,?_⟩⟩
  have e1:(aL e' E).size=se.size:=rfl
  rw [e1,← hl,c5]
  exact a1
end
section
variable {P:Program} {R:Type} {cx:Cx R}
theorem aj {S S1 α β:Type} [DecidableEq (List α)] (k t0:Nat) (φ:S1→Value→Fr) (Lm:S1→List (List α)) (v0:Value) (f2:Fr) {e e':TI} {E:an α} {T:an β} {T':(Value→List α→Prop)→an β} {vs:Value} {x:β} {iz:List KI} {kb:Kb R S} {c:Code} {s0:S1} {body:S1→Option (Out S1 R)} {f:S1→Option (Out S R)} {Γ Γ1 Γ2:QE} {fr:Fr}
  (ho:B8 T T') (nf:NF E) (ha:sg fr (φ s0 v0)) (hf:sg fr f2) (hz:Lm s0=[]) (hv:look fr t0=some vs) (h1:ee Γ (.own T vs x) Γ1) (h2:∀ A:Value→List α→Prop,ee Γ1 (.om e (vh A (aL e' E)) v0 []) Γ2)
  (hb:∀ (A:Value→List α→Prop) s v,D P cx (.p (φ s v) [.om e (vh A (aL e' E)) v (Lm s)] f2 [.rd false (T' A) vs x] fun fr Γ=>.c ⟨[],.loop Value k (fun s v=>[.om e (vh A (aL e' E)) v (Lm s)]) φ [.rd false (T' A) vs x] f2⟩ c Γ fr (body s)))
  (hk:∀ s v,D P cx (.p (φ s v) [.own (aL e (aL e' E)) v (Lm s)] f2 [] fun fr Γ=>.mn ⟨iz,kb⟩ Γ fr (f s))) :
  Bx (qj P cx (.bk true k ⟨iz,kb⟩ (.loop c) Γ fr (ah (ae k (aj body s0)) fun s=>Wu (Lm s)>>=fun _=>f s))):=by
 have _:=hv
 rw [rm]
 intro B o Oh r w vF s8
 obtain ⟨Z,F,hS,hG⟩:=s8
 obtain ⟨ft,F1,vn,hT,jc⟩:=h1.sound hS
 have Lo:=hG.perm vn
 obtain ⟨n1,n2,n3⟩:=List.nodup_append.1 Lo.nd
 obtain ⟨A,hA,hR⟩:=ho.opened (hp:=w.heap) hT n1
 obtain ⟨fo,F2,n5,hO,jo⟩:=(h2 A).sound jc
 have I0:∀ b∈ft,b < w.heap.size:=an.lt _ hT
 have hfz:∀ b∈ft,¬ Z b:=fun b hb=>Lo.apart b (List.mem_append_left _ hb)
 have I1:∀ b∈fo,b∈F1:=fun b hb=>n5.mem_iff.1 (List.mem_append_left _ hb)
 have sk:fo.Nodup:=(List.nodup_append.1 (n5.nodup_iff.2 n2)).1
 refine Md (T:=TT P cx B) (LI B (fun s v=>[.om e (vh A (aL e' E)) v (Lm s)]) φ [.rd false (T' A) vs x] f2) Oh
  ⟨v0,wB (ha.all vF) (hf.sound vF),fun b=>Z b∨b∈ft,fo,⟨fo,[],(List.append_nil _).symm,by rw [hz]; exact hO.mono fun _=>.inl,⟨ft,hR,fun b hb=>.inr hb⟩,rfl⟩,sk,fun b hb=>?_,fun b hb=>hb.elim (hG.sy b) (I0 b),fun b hb=>Lo.low b (List.mem_append_right _ (I1 b hb)),fun b h=>.inl (hG.zy b h),fun b hb=>hb.elim (hG.Ab b) fun hb=>.inr (Lo.low b (List.mem_append_left _ hb)),hG.ly⟩ ?_ ?_ ?_
 ·rintro (h | h)
  ·exact Lo.apart b (List.mem_append_right _ (I1 b hb)) h
  ·exact n3 b h b (I1 b hb) rfl
 ·intro x r w he hx
  subst he
  exact zA hx
 ·rintro s r w ⟨v,h1,h2⟩ o ho
  exact (hb A s v).sound B o ho r w h1 h2
 ·rintro s r w' ⟨v,a1,Z2,Fl,Io,nu⟩ hm
  obtain ⟨_,hn,hm⟩:=bind_some hm
  replace hn:=Qh hn
  obtain ⟨f',F',rfl,sa,Zy⟩:=Io
  have IB:F'=[]:=Zy.2
  subst IB
  rw [List.append_nil] at nu
  obtain ⟨g,s1,s2,s3⟩:=Og nf hA sa hn nu.nd nu.apart
  refine (hk s v).sound B o hm r w' a1 ⟨B.Z,f'++g,⟨f'++g,[],(List.append_nil _).symm,s2,rfl⟩,s3,fun b hb hz=>?_,fun b hz=>nu.sy b (nu.zy b hz),fun b hb=>?_,fun _ h=>h,fun _ h=>.inl h,nu.ly⟩
  ·rcases List.mem_append.1 hb with hb | hb
   ·exact nu.apart b hb (nu.zy b hz)
   ·exact hfz b (s1 b hb) (hG.zy b hz)
  ·rcases List.mem_append.1 hb with hb | hb
   ·exact nu.low b hb
   ·exact Lo.low b (List.mem_append_left _ (s1 b hb))
end
end Go.Dk
namespace Go.Dk
open Go Go.Li
section
variable {R:Type} {P:Program} {cx:Cx R} {B:Bs} {M:Type} {all l:LO} {rk:RK R M} {fr:Fr} {w:World} {Z:Nat→Prop} {F cur:LN} {Γ Γ1 Γ2 Γ3:QE}
theorem D.of {J:Jd R} (h:qj P cx J):D P cx J:=.inj (by rw [rm]; exact h)
theorem SX {Δ : List aX} (h : FO Δ) : ∀ {Fd : List Nat}, HL Z w Δ Fd → ∀ e ∈ Δ, fact Z w [] e := by
  induction h with
  | nil => intro Fd _ e he; cases he
  | rd _ ih =>
    intro Fd hl e he
    cases hl with
    | own h _ => exact h.elim
    | fact h k => rcases List.mem_cons.1 he with rfl | he
                  · exact h
                  · exact ih k e he
  | bn _ ih =>
    intro Fd hl e he
    cases hl with
    | own h _ => exact h.elim
    | fact h k => rcases List.mem_cons.1 he with rfl | he
                  · exact h
                  · exact ih k e he
theorem lgS {α:Type} (S:an α) {d:Nat} {t e n bt ty:TI} {m:Option M} [ht:B4 P t e n bt]
  (h:∀ v,D P cx (.o false all l rk (.own (aL e (jm n)) v [] :: .rd false (xa S) (.bool true) ([],[]) :: Γ) ((d,v) :: fr) m)):D P cx (.e false (.buildSlice t 0 #[]) (some d) ty all l rk Γ fr m):=by
 refine D.of ?_
 intro B o ho r w ha hs pos ai g
 obtain ⟨h1,i,z,h2,_⟩:=ht.h
 obtain ⟨v,w',f,hr,hC,hO⟩:=Bo (E:=jm n) (r:=r) (w:=w) (d:=some d) (ty:=ty) (pos:=pos) (ai:=ai) (g:=none) h1 h2
 refine fy (WL.val rfl hr ((h v).sound B o ho _ w' (ba ha) ?_))
 obtain ⟨Z,F,hS,hg⟩:=hs
 have hf:fact Z w [] (.rd false (xa S) (.bool true) ([],[])):=⟨[],⟨rfl,rfl,fun _ h=>absurd h List.not_mem_nil⟩,fun _ h=>absurd h List.not_mem_nil⟩
 exact St.put (f:=[]) (SA.fact hS hf) hg hC hO.1 hO.2.1 fun b hb=>.inr ((hO.2.2 b hb).resolve_left List.not_mem_nil)
theorem lnS {α:Type} {S:an α} {q:Bool} {d n e:Nat} {x:OO} {v:Value} {us:List (List Value)} {xs:List α} {t ty bt:TI} {m:Option M} [ht:B4 P t e n bt] (hx:cb fr x=some v) (h1:ee Γ (.own (aL e (jm n)) v us) Γ1) (hg:In (.rd false (xa S) (.bool true) (us,xs)) Γ)
  (h:D P cx (.o q all l rk Γ ((d,.int .i64 (xs.length:Int)) :: fr) m)):D P cx (.e q (.call ⟨.builtin .len,#[x],#[t]⟩) (some d) ty all l rk Γ fr m):=by
 refine D.of ?_
 intro B o ho r w ha hs pos ai g
 obtain ⟨q1,_⟩:=ht.h
 obtain ⟨Z,F,hS,hG⟩:=@_root_.id _ hs
 obtain ⟨f,F1,_,hO,_⟩:=h1.sound hS
 obtain ⟨k,hk,_⟩:=hg.rd hS []
 obtain ⟨base,cap,hv,_⟩:=hO
 obtain rfl:v = .slice base us.length cap:=by simpa using hv
 have hl:us.length=xs.length:=Cf hk.2.1
 exact dh (v:=.int .i64 (xs.length:Int)) (fun w' _=>by rw [← hl]; exact yB q1 (bI ha hx)) (h.sound B o ho _ w (ba ha) hs)
theorem ixS {α V:Type} {S:an α} {cl:α→V→List Value} {en:α→V→List aX} {q:Bool} {d n e:Nat} {x y:OO} {v:Value} {us:List (List Value)} {xs:List α} {k:IntKind} {j:Int} {t ty bt:TI} {f:α→Option M} [ht:B4 P t e n bt] (hx:cb fr x=some v) (hy:cb fr y=some (.int k j))
  (h1:ee Γ (.own (aL e (jm n)) v us) Γ1) (hg:In (.rd false (xa S) (.bool true) (us,xs)) Γ) (hs:GK S V cl en)
  (h:∀ z u,D P cx (.p [] (.rd false (B2 us j) (.bool true) (cl z u) :: en z u) fr Γ fun fr Γ=>.o q all l rk Γ ((d,.pointer (some (dg v n j))) :: fr) (f z))):D P cx (.e q (.indexAddr t x y) (some d) ty all l rk Γ fr (idx xs j>>=f)):=by
 refine D.of ?_
 intro B o ho r w ha eh pos ai g
 replace hs:SO S V cl en:=by cases hs; assumption
 obtain ⟨z,hz,ho⟩:=bind_some ho
 replace hz:=qa hz
 obtain ⟨q1,i,_,q2,_,_,q3,_⟩:=ht.h
 obtain ⟨Z,F,hS,hG⟩:=eh
 obtain ⟨f0,F1,_,hO,_⟩:=h1.sound hS
 obtain ⟨g0,hk,ug⟩:=hg.rd hS []
 obtain ⟨c,g1,e1,e2,e3⟩:=EE j.toNat hk.2.1 hz.2
 obtain ⟨u,rfl,pj⟩:=hs.op e2
 have hlen:us.length=xs.length:=Cf hk.2.1
 have bp:j.toNat < xs.length:=(List.getElem?_eq_some_iff.1 hz.2).1
 have hv:∃ a c,v = .slice (some a) us.length c:=by
  obtain ⟨base,cap,hv,hr⟩:=hO
  obtain rfl:v = .slice base us.length cap:=by simpa using hv
  rcases hr with ⟨_,_,rfl,_⟩ | ⟨b,cur,f',rfl,_⟩
  ·rw [← hlen] at bp; simp at bp
  ·exact ⟨_,_,rfl⟩
 obtain ⟨a,c',rfl⟩:=hv
 have ew:HL Z w (.rd false (B2 us j) (.bool true) (cl z u) :: en z u) []:=.fact ⟨[],⟨rfl,⟨hz.1,e1⟩,rfl⟩,fun _ h=>absurd h List.not_mem_nil⟩ (wD (pj Z fun b hb=>ug b (e3 b hb)))
 obtain ⟨F',hp,jo⟩:=ew.build hS
 refine dh (v:=.pointer (some (dg (.slice (some a) us.length c') n j))) (fun w' hC=>?_) ((h z u).sound B o ho _ w (ba ha) ⟨Z,F',jo,hG.perm (by simpa using hp)⟩)
 rw [l5 q1 q2 (bI ha hx) (bI ha hy) hz.1 (by omega),q3]
 rfl
theorem SY {q:Bool} {d n off e:Nat} {x:OO} {v u:Value} {us:List (List Value)} {j:Int} {cs:LV} {ty:TI} {m:Option M} (h1:ee Γ (.own (aL e (jm n)) v us) Γ1) (hp:In (.rd false (B2 us j) (.bool true) cs) Γ) (hc:cs[off]? = some u)
  (k:D P cx (.o q all l rk Γ ((d,u) :: fr) m)):D P cx (.la ((dg v n j).add off) none q ty x d all l rk Γ fr m):=by
 refine D.of ?_
 intro ht hx B o ho r w ha hs t pos ai g
 obtain ⟨Z,F,hS,_⟩:=@_root_.id _ hs
 obtain ⟨f,F1,_,hO,_⟩:=h1.sound hS
 obtain ⟨_,⟨_,⟨hj,hu⟩,_⟩,_⟩:=hp.rd hS []
 exact dh (Ld ht ((zM hO hj hu).2.2 off u hc) (bI ha hx)) (k.sound B o ho _ w (ba ha) hs)
theorem Qi {q:Bool} {d n e:Nat} {x:OO} {v u:Value} {us:List (List Value)} {j:Int} {cs:LV} {ty:TI} {m:Option M} (h1:ee Γ (.own (aL e (jm n)) v us) Γ1) (hp:In (.rd false (B2 us j) (.bool true) cs) Γ) (hc:cs[0]? = some u)
  (k:D P cx (.o q all l rk Γ ((d,u) :: fr) m)):D P cx (.la (dg v n j) none q ty x d all l rk Γ fr m):=by
 have e:(dg v n j).add 0=dg v n j:=rfl
 rw [← e]
 exact SY h1 hp hc k
theorem Wv {q:Bool} {d n e:Nat} {x:OO} {v:Value} {us:List (List Value)} {j:Int} {cs:LV} {ty:TI} {m:Option M} (h1:ee Γ (.own (aL e (jm n)) v us) Γ1) (hp:In (.rd false (B2 us j) (.bool true) cs) Γ)
  (k:D P cx (.o q all l rk Γ ((d,.agg cs.toArray) :: fr) m)):D P cx (.la (dg v n j) (some n) q ty x d all l rk Γ fr m):=by
 refine D.of ?_
 intro ht hx B o ho r w ha hs t pos ai g
 obtain ⟨Z,F,hS,_⟩:=@_root_.id _ hs
 obtain ⟨f,F1,_,hO,_⟩:=h1.sound hS
 obtain ⟨_,⟨_,⟨hj,hu⟩,_⟩,_⟩:=hp.rd hS []
 obtain ⟨e1,_,e3⟩:=zM hO hj hu
 exact dh (Lg ht (fun i u hi=>e3 i u hi) (bI ha hx) e1) (k.sound B o ho _ w (ba ha) hs)
theorem apS {α V:Type} {S:an α} {cl:α→V→List Value} {en:α→V→List aX} (y:α) {u:V} {d b n e bt:Nat} {s x:OO} {sv:Value} {us:List (List Value)} {xs:List α} {cs:LV} {t et ty:TI} {f:Unit→Option M} [ht:B4 P t e n bt]
  (hs:cb fr s=some sv) (hx:cb fr x=some (.slice (some ⟨b,0,none⟩) 1 1)) (h0:ee Γ (.row b cs et) Γ1) (h1:ee Γ1 (.own (aL e (jm n)) sv us) Γ2) (hg:In (.rd false (xa S) (.bool true) (us,xs)) Γ2) (qi:GK S V cl en) (_hv:vD V u) (hc:cs=cl y u) (ho:wx Γ cs) (hn:cs.length=n) (Ww:FO (en y u)) (hf:EF Γ2 (en y u) Γ3)
  (h:∀ v,D P cx (.o false all l rk (.own (aL e (jm n)) v (us++[cs]) :: .rd false (xa S) (.bool true) (us++[cs],xs++[y]) :: Γ3) ((d,v) :: fr) (f ()))):D P cx (.e false (.call ⟨.builtin .append,#[s,x],#[t,t]⟩) (some d) ty all l rk Γ fr (fits bt (xs.length+1)>>=f)):=by
 refine D.of ?_
 intro B o ch r w ha eh pos ai g
 have Gc:SO S V cl en:=by cases qi; assumption
 obtain ⟨_,hu,ch⟩:=bind_some ch
 obtain ⟨b1,b2⟩:=p3 hu
 obtain ⟨q1,i,z,q2,q3,q4,q5,q6,_⟩:=ht.h
 obtain ⟨Z,F,hS,hG⟩:=eh
 have HI:=ho.one hS
 obtain ⟨n0,F0,vG,⟨rfl,bj⟩,xP⟩:=h0.sound hS
 obtain ⟨k,F1,hp,hO,jc⟩:=h1.sound xP
 obtain ⟨Fd,F2,Zn,SZ,jo,n5⟩:=hf.sound jc
 obtain ⟨g0,hk,ug⟩:=hg.rd jc []
 have hlen:us.length=xs.length:=Cf hk.2.1
 have rn:((k++F1)++[b]).Perm F:=(List.perm_append_comm.trans (hp.append_left [b])).trans vG
 have nu:Gd B Z (k++F1) w:=Gd.left (F':=[b]) (hG.perm rn)
 have B5:((k++F2)++(Fd++Zn)).Perm (k++F1):=by
  rw [List.append_assoc]
  refine List.Perm.append_left k (.trans ?_ n5)
  rw [← List.append_assoc]
  exact (List.perm_append_comm (l₁:=F2) (l₂:=Fd)).append_right Zn
 have r8:Gd B Z ((k++F2)++(Fd++Zn)) w:=nu.perm B5
 have bp:∀ b∈Fd++Zn,b < w.heap.size:=fun b hb=>by
  have h3:b∈k++F1:=B5.mem_iff.1 (List.mem_append_right _ hb)
  rcases List.mem_append.1 h3 with h3 | h3
  ·exact an.lt _ hO b h3
  ·exact jc.lt b h3
 have IN:Gd B (r6 Z (Fd++Zn)) (k++F2) w:=r8.freeze bp
 have EY:∀ b,r6 Z Zn b→r6 Z (Fd++Zn) b:=fun b hb=>hb.imp id fun h=>List.mem_append_right _ h
 obtain ⟨g1,vB,EZ⟩:=Gc.cl (x:=y) (v:=u) (Z:=r6 Z (Fd++Zn)) (w:=w) (SX Ww (SZ.mono EY))
 have hdk:si [] k:=fun _ h=>absurd h List.not_mem_nil
 have hE:dt (jm n) w.heap cs [cs] []:=⟨cs,[],[],[],by simp,by simp,⟨rfl,hn,HI,rfl⟩,rfl,rfl⟩
 obtain ⟨v,w',f',nm,hC,ei,ed,dx⟩:=p5 (E:=jm n) (d:=some d) (ty:=ty) (pos:=pos) (ai:=ai) (g:=none) (k:=[]) (ys:=[cs]) (news:=cs) q1 q2 q3 (by rw [q5]; rfl) (by rw [q4]; rfl) (bI ha hs) hO (List.nodup_append.1 nu.nd).1 (bI ha hx) (fun i u hi=>bj.at i u hi) hE hdk (by simp) (by rw [q6,hlen]; exact b1) (by rw [hlen]; exact b2)
 refine fy (WL.val rfl nm ((h v).sound B o ch _ w' (ba ha) ?_))
 have Wx:fact (r6 Z (Fd++Zn)) w [] (.rd false (xa S) (.bool true) (us++[cs],xs++[y])):=by
  rw [hc]
  refine ⟨g0++g1,⟨rfl,Ve vB hk.2.1,fun b hb=>?_⟩,fun b hb=>?_⟩
  ·rcases List.mem_append.1 hb with hb | hb
   ·exact hk.2.2 b hb
   ·exact S.lt vB b hb
  ·rcases List.mem_append.1 hb with hb | hb
   ·exact .inl (ug b hb)
   ·exact EZ b hb
 exact St.put (SA.fact (jo.mono EY fun _ h=>h) Wx) IN hC ei (dx List.nodup_nil) fun b hb=>(ed b hb).imp id fun h=>h.resolve_left List.not_mem_nil
theorem Uj {n:Nat} {h:Array Obj}:∀ {us:List (List Value)} {cs:LV} {f:LN},dt (jm n) h cs us f→∀ c∈us,c.length=n∧∀ v∈c,v.oneCell'=true:=by
 intro us
 induction us with
 | nil=>intro cs f _ c hc; cases hc
 | cons a us ih=>
  rintro cs f ⟨c',j9,f1,f2,rfl,rfl,⟨rfl,h1,h2,rfl⟩,h3⟩ c hc
  rcases List.mem_cons.1 hc with rfl | hc
  ·exact ⟨h1,h2⟩
  ·exact ih h3 c hc
theorem Uk {n:Nat} {h:Array Obj}:∀ {us:List (List Value)},(∀ c∈us,c.length=n∧∀ v∈c,v.oneCell'=true)→dt (jm n) h us.flatten us []:=by
 intro us
 induction us with
 | nil=>intro _; exact ⟨rfl,rfl⟩
 | cons a us ih=>
  intro hc
  have h1:=hc a (by simp)
  exact ⟨a,us.flatten,[],[],by simp,rfl,⟨rfl,h1.1,h1.2,rfl⟩,ih fun c hm=>hc c (by simp [hm])⟩
theorem Kz {n:Nat} {c:LV}:∀ {us:List (List Value)} {j:Nat},(∀ x∈us,x.length=n)→j < us.length→(us.set j c).flatten=us.flatten.take (j * n)++c++us.flatten.drop (j * n+n)∧j * n+n≤us.flatten.length:=by
 intro us
 induction us with
 | nil=>intro j _ hj; simp at hj
 | cons a us ih=>
  intro j hl hj
  have ha:a.length=n:=hl a (by simp)
  cases j with
  | zero=>refine ⟨?_,by simp [ha]⟩; simp [← ha]
  | succ j=>
   obtain ⟨h1,h2⟩:=ih (j:=j) (fun x hx=>hl x (by simp [hx])) (by simpa using hj)
   have e:(j+1) * n=n+j * n:=by rw [Nat.add_mul,Nat.one_mul,Nat.add_comm]
   refine ⟨?_,by rw [e,List.flatten_cons,List.length_append,ha]; omega⟩
   rw [List.set_cons_succ,List.flatten_cons,List.flatten_cons,h1,e,List.take_append,List.drop_append,ha]
   have e1:List.take (n+j * n) a=a:=List.take_of_length_le (by omega)
   have e2:List.drop (n+j * n+n) a=[]:=List.drop_eq_nil_of_le (by omega)
   rw [e1,e2,show n+j * n - n=j * n by omega,show n+j * n+n - n=j * n+n by omega]
   simp
theorem stS {α V:Type} {S:an α} {cl:α→V→List Value} {en:α→V→List aX} (y:α) {u:V} {n e:Nat} {x0 y0:OO} {v:Value} {j:Int} {us:List (List Value)} {xs:List α} {cs c0:LV} {t ty:TI} {m:Option M}
  (h1:ee Γ (.own (aL e (jm n)) v us) Γ1) (hp:In (.rd false (B2 us j) (.bool true) c0) Γ) (hg:In (.rd false (xa S) (.bool true) (us,xs)) Γ1) (qi:GK S V cl en) (_hv:vD V u) (hc:cs=cl y u) (ho:wx Γ cs) (hn:cs.length=n) (Ww:FO (en y u)) (hf:EF Γ1 (en y u) Γ2)
  (h:D P cx (.o false all l rk (.own (aL e (jm n)) v (us.set j.toNat cs) :: .rd false (xa S) (.bool true) (us.set j.toNat cs,xs.set j.toNat y) :: Γ2) fr m)):D P cx (.st (dg v n j) (.agg cs.toArray) n t x0 y0 ty all l rk Γ fr m):=by
 refine D.of ?_
 intro hT hx hy B o ch r w ha eh pos ai g
 have Gc:SO S V cl en:=by cases qi; assumption
 obtain ⟨i,q1,q2⟩:=hT
 obtain ⟨Z,F,hS,hG⟩:=eh
 have HI:=ho.one hS
 obtain ⟨_,⟨_,⟨hj,hu⟩,_⟩,_⟩:=hp.rd hS []
 obtain ⟨k,F1,vn,hO,jc⟩:=h1.sound hS
 obtain ⟨Fd,F2,Zn,SZ,jo,n5⟩:=hf.sound jc
 obtain ⟨g0,hk,ug⟩:=hg.rd jc []
 have nu:Gd B Z (k++F1) w:=hG.perm vn
 have B5:((k++F2)++(Fd++Zn)).Perm (k++F1):=by
  rw [List.append_assoc]
  refine List.Perm.append_left k (.trans ?_ n5)
  rw [← List.append_assoc]
  exact (List.perm_append_comm (l₁:=F2) (l₂:=Fd)).append_right Zn
 have r8:Gd B Z ((k++F2)++(Fd++Zn)) w:=nu.perm B5
 have bp:∀ b∈Fd++Zn,b < w.heap.size:=fun b hb=>by
  have h3:b∈k++F1:=B5.mem_iff.1 (List.mem_append_right _ hb)
  rcases List.mem_append.1 h3 with h3 | h3
  ·exact an.lt _ hO b h3
  ·exact jc.lt b h3
 have IN:Gd B (r6 Z (Fd++Zn)) (k++F2) w:=r8.freeze bp
 have EY:∀ b,r6 Z Zn b→r6 Z (Fd++Zn) b:=fun b hb=>hb.imp id fun h=>List.mem_append_right _ h
 obtain ⟨g1,vB,EZ⟩:=Gc.cl (x:=y) (v:=u) (Z:=r6 Z (Fd++Zn)) (w:=w) (SX Ww (SZ.mono EY))
 obtain ⟨g2,xO,hgb⟩:=NC (c:=cs) (by rw [hc]; exact vB) j.toNat hk.2.1
 have Wx:fact (r6 Z (Fd++Zn)) w [] (.rd false (xa S) (.bool true) (us.set j.toNat cs,xs.set j.toNat y)):=by
  refine ⟨g2,⟨rfl,xO,fun b hb=>?_⟩,fun b hb=>?_⟩
  ·exact (hgb b hb).elim (hk.2.2 b) (S.lt vB b)
  ·exact (hgb b hb).elim (fun h=>.inl (ug b h)) (EZ b)
 have EW:j.toNat < us.length:=(List.getElem?_eq_some_iff.1 hu).1
 obtain ⟨base,cap,n7,hr⟩:=hO
 obtain rfl:v = .slice base us.length cap:=by simpa using n7
 rcases hr with ⟨_,_,rfl,_⟩ | ⟨b,cur,f',rfl,h2,rfl,h4,h5,h6,h3⟩
 ·simp at EW
 ·obtain ⟨hcf,xg⟩:=HT h3
  subst xg
  have ew:=Uj h3
  obtain ⟨e1,e2⟩:=Kz (c:=cs) (fun x hx=>(ew x hx).1) EW
  have bj:Row w b cur.toList e:=by unfold Row; simpa using h2
  have Wy:cur.toList=us.flatten++cur.toList.drop (us.length * n):=by
   rw [← hcf]; exact (List.take_append_drop _ _).symm
  have A4:dg (.slice (some ⟨b,0,none⟩) us.length cap) n j = ⟨b,j.toNat * n,none⟩:=by
   simp only [dg,jr,Nat.zero_add]
  rw [A4] at hx
  have hle:j.toNat * n+cs.length≤cur.toList.length:=by
   rw [hn,Wy,List.length_append]; omega
  have nm:=wX (P:=P) (d:=none) (ty:=ty) (pos:=pos) (ai:=ai) (gg:=none) q1 (by rw [hn,q2]) bj hle (bI ha hx) (y:=y0) (by rw [bI ha hy]; rfl) HI
  refine fy (WL.skip rfl nm (h.sound B o ch _ _ ha ?_))
  have Bv:cur.toList.take (j.toNat * n)++cs++cur.toList.drop (j.toNat * n+cs.length)=(us.set j.toNat cs).flatten++cur.toList.drop (us.length * n):=by
   rw [hn,e1]
   conv=>lhs; rw [Wy]
   rw [List.take_append_of_le_length (by omega),List.drop_append_of_le_length (by omega)]
   simp
  have A5:=setRow_heap w b cur (cur.toList.take (j.toNat * n)++cs++cur.toList.drop (j.toNat * n+cs.length)).toArray e _ h2
  refine St.put (f:=[b]) (f':=[b]) (SA.fact (jo.mono EY fun _ h=>h) Wx) IN ⟨rfl,rfl,rfl,Nat.le_refl _,by simp,fun j' _ ik=>setRow_other w b j' _ fun h=>ik (by simp [h])⟩ ?_ (by simp) (fun b hb=>.inl hb)
  refine ⟨_,cap,by rw [List.length_set],.inr ⟨b,_,[],rfl,A5,rfl,by rw [List.length_set]; exact h4,h5,?_,?_⟩⟩
  ·rw [← h6]
   simp only [List.size_toArray,Bv]
   have e3:(us.set j.toNat cs).flatten.length=us.flatten.length:=by
    rw [e1]; simp only [List.length_append,List.length_take,List.length_drop,hn]; omega
   rw [List.length_append,e3,← List.length_append,← Wy,Array.length_toList]
  ·rw [List.toList_toArray,Bv,List.length_set]
   have anv:(us.set j.toNat cs).flatten.length=us.length * n:=by
    have e3:(us.set j.toNat cs).flatten.length=us.flatten.length:=by
     rw [e1]; simp only [List.length_append,List.length_take,List.length_drop,hn]; omega
    rw [e3]
    have:=j7 h3
    rw [hcf] at this
    exact this
   show dt (jm n) _ (List.take (us.length * n) _) _ _
   rw [List.take_append_of_le_length (by omega),List.take_of_length_le (by omega)]
   refine Uk fun c hm=>?_
   rcases List.mem_or_eq_of_mem_set hm with hm | rfl
   ·exact ew c hm
   ·exact ⟨hn,HI⟩
theorem xL {α:Type} {E:an α} {d n:Nat} {t e ty:TI} {ps:List (Nat×Operand)} {us:LV} {xs:List α} {m:Option M} [hz:NI P t e] (hl:wz Γ fr 0 ps us) (hn:us.length=n) (hb:(Nat.ble 1 n && Nat.ble n 16777216)=true) (hx:H6 Γ E us xs Γ1) (hE:E.size=1)
  (h:∀ v,D P cx (.o false all l rk (.own (aL e E) v xs :: Γ1) ((d,v) :: fr) m)):D P cx (.e false (.buildSlice t n ps.toArray) (some d) ty all l rk Γ fr m):=by
 refine D.of ?_
 intro B o ho r w ha hs pos ai g
 obtain ⟨Z,F,hS,hg⟩:=hs
 refine fy (WL.val rfl (hl.op ha hS ⟨hz.h⟩ hn hb) ((h _).sound B o ho _ _ (ba ha) ?_))
 obtain ⟨e1,f,F2,n5,hr,jo⟩:=hx.sound hS
 have Ia:n≤16777216:=by
  rw [Bool.and_eq_true] at hb
  exact Nat.le_of_ble_eq_true hb.2
 have hC:ay [] w (w.alloc (.cells us.toArray e)):=ay.alloc _ _ _
 have lz:Gd B Z (f++F2) w:=hg.perm n5
 have bp:∀ b∈f,b < w.heap.size:=mi hr
 have Bv:=heap_alloc_new w (.cells us.toArray e)
 have ig:dt E (w.alloc (.cells us.toArray e)).heap us xs f:=j5 hr fun b hb=>hC.block b (bp b hb) (fun h=>absurd h List.not_mem_nil)
 refine St.put (f:=f) (f':=w.heap.size :: f) jo lz (ay.mono hC fun _ h=>absurd h List.not_mem_nil) ⟨_,n,by rw [← hn,e1],.inr ⟨w.heap.size,us.toArray,f,rfl,Bv,rfl,by rw [← hn,e1]; exact Nat.le_refl _,Nat.le_trans Ia (by decide),by rw [hE,Nat.mul_one]; simp [hn],?_⟩⟩ ?_ ?_
 ·rw [hE,Nat.mul_one,List.toList_toArray,← e1,List.take_length]
  exact ig
 ·exact List.nodup_cons.2 ⟨fun hm=>Nat.lt_irrefl _ (bp _ hm),(List.nodup_append.1 lz.nd).1⟩
 ·intro b hb
  rcases List.mem_cons.1 hb with rfl | hb
  ·exact .inr (Nat.le_refl _)
  ·exact .inl hb
theorem apR {α:Type} {d b:Nat} {s x:OO} {v u yv:Value} {j:Int} {y:α} {z:List α} {xs:List (List α)} {t e e' et ty:TI} {E E':an α} {z0:α} {bt:Nat} {o1 o2:Bool} {Γx:QE} {f:Unit→Option M} [hT:ux P t α e E z0 bt] (hs:cb fr s=some u) (hx:cb fr x=some (.slice (some ⟨b,0,none⟩) 1 1)) (hl:Loc Γ u (.row v j)) (h0:ee Γ (.row b [yv] et) Γ1) (hz:qh Γ u o1 o2 E' z vi Γx) (h1:ee Γ1 (.own (aL e' (aL e E)) v xs) Γ2) (hr:RT (aL e E) (bH E')) (hy:DL Γ2 E yv y Γ3)
  (h:∀ v',D P cx (.o false all l rk (.own (aL e E) v' (z++[y]) :: .own (vI e' (aL e E) j.toNat) v xs :: Γ3) ((d,v') :: fr) (f ()))):D P cx (.e false (.call ⟨.builtin .append,#[s,x],#[t,t]⟩) (some d) ty all l rk Γ fr (fits bt (z.length+1)>>=f)):=by
 refine D.of ?_
 intro B o ch r w ha eh pos ai g
 obtain ⟨_,hu,ch⟩:=bind_some ch
 obtain ⟨b1,b2⟩:=p3 hu
 obtain ⟨q1,q2,i,zz,q3,q4,q5,q6,q7,_⟩:=hT.h
 obtain ⟨Z,F,hS,hG⟩:=eh
 obtain ⟨j0,j1,kz⟩:=Loc.row hl rfl hS
 obtain ⟨dv,_,⟨⟨gz,ug,_⟩,_⟩,_⟩:=hz.sound hS
 obtain ⟨n0,F0,vG,⟨rfl,bj⟩,xP⟩:=h0.sound hS
 obtain ⟨fm,F1,vn,hO,jc⟩:=h1.sound xP
 obtain ⟨ky,F2,n5,VW,jo⟩:=hy.sound jc
 rw [wC hO] at j1
 obtain ⟨k,gm,a1,a2,a3⟩:=Ip rfl hO (List.getElem?_eq_getElem j1) kz
 have VY:xs[j.toNat]=z:=hr.wh (hr.le.le a1) ug
 rw [VY] at a1
 have rn:((k++ky)++(gm++F2)).Perm (fm++F1):=by
  have e1:((k++gm)++(ky++F2)).Perm (fm++F1):=(a2.append_right _).trans (n5.append_left fm)
  refine .trans ?_ e1
  rw [List.append_assoc,List.append_assoc]
  refine List.Perm.append_left k ?_
  rw [← List.append_assoc,← List.append_assoc]
  exact List.perm_append_comm.append_right F2
 have nu:Gd B Z ((k++ky)++(gm++F2)) w:=Gd.left (F':=[b]) (hG.perm (((rn.append_right [b]).trans (List.perm_append_comm.trans (vn.append_left [b]))).trans vG))
 have dx:=(List.nodup_append.1 nu.nd).1
 have Cj:=List.nodup_append.1 dx
 obtain ⟨v',w',f',nm,hC,ei,ed,IF⟩:=p5 (E:=E) (d:=some d) (ty:=ty) (pos:=pos) (ai:=ai) (g:=none) (k:=ky) (ys:=[y]) (news:=[yv]) q1 q3 q4 (by rw [q5,q2]) (by rw [cells_one q6,q2]; rfl) (bI ha hs) a1 Cj.1 (bI ha hx) (fun i u hi=>bj.at i u hi) (sb VW) (fun b hb hm=>Cj.2.2 b hm b hb rfl) (by simp) (by rw [q7]; exact b1) b2
 refine fy (WL.val rfl nm ((h v').sound B o ch _ w' (ba ha) ?_))
 have hSh:SA Z w (.own (vI e' (aL e E) j.toNat) v xs :: Γ3) [] (gm++F2):=SA.cons jo (e:=.own (vI e' (aL e E) j.toNat) v xs) a3
 refine St.put hSh nu (hC.mono fun b hb=>List.mem_append_left _ hb) ei (IF Cj.2.1) fun b hb=>?_
 rcases ed b hb with h | h | h
 ·exact .inl (List.mem_append_left _ h)
 ·exact .inl (List.mem_append_right _ h)
 ·exact .inr h
theorem ixH {α:Type} {q:Bool} {d j0:Nat} {x y:OO} {v:Value} {k:IntKind} {j:Int} {xs:List α} {t e ty:TI} {E:an α} {f:α→Option M} [ht:yx P t] (hx:cb fr x=some v) (hy:cb fr y=some (.int k j)) (h1:ee Γ (.own (vI e E j0) v xs) Γ1)
  (h:∀ z,D P cx (.o q all l rk Γ ((d,.pointer (some (dg v 1 j))) :: fr) (f z))):D P cx (.e q (.indexAddr t x y) (some d) ty all l rk Γ fr (idx xs j>>=f)):=by
 refine D.of ?_
 intro B o ho r w ha hs pos ai g
 obtain ⟨z,hz,ho⟩:=bind_some ho
 replace hz:=qa hz
 obtain ⟨e',i,q1,q2,q3⟩:=ht.h
 obtain ⟨Z,F,hS,_⟩:=@_root_.id _ hs
 obtain ⟨f0,F1,_,⟨b,cap,cur,f1,f2,p,c0,qq,hv,_⟩,_⟩:=h1.sound hS
 obtain rfl:v = .slice (some ⟨b,0,none⟩) xs.length cap:=by simpa using hv
 have bp:j.toNat < xs.length:=(List.getElem?_eq_some_iff.1 hz.2).1
 have I2:=hz.1
 refine dh (v:=.pointer (some (dg (.slice (some ⟨b,0,none⟩) xs.length cap) 1 j))) (fun w' hC=>?_) ((h z).sound B o ho _ w (ba ha) hs)
 rw [l5 q1 q2 (bI ha hx) (bI ha hy) hz.1 (by omega),q3]
 rfl
theorem stR {α:Type} {x0 y0:OO} {v u:Value} {j:Int} {z:α} {xs:List α} {t e ty:TI} {E:an α} {m:Option M} (h1:ee Γ (.own E u z) Γ1) (h2:ee Γ1 (.own (vI e E j.toNat) v xs) Γ2)
  (h:D P cx (.o false all l rk (.own (aL e E) v (xs.set j.toNat z) :: Γ2) fr m)):D P cx (.st (dg v 1 j) u 1 t x0 y0 ty all l rk Γ fr m):=by
 refine D.of ?_
 intro hT hx hy B o ch r w ha eh pos ai g
 obtain ⟨i,q1,q2⟩:=hT
 obtain ⟨Z,F,hS,hG⟩:=eh
 obtain ⟨k,F1,vn,hK,jc⟩:=h1.sound hS
 obtain ⟨gm,F2,n5,hM,jo⟩:=h2.sound jc
 have B5:((gm++k)++F2).Perm F:=by
  refine .trans ?_ vn
  refine .trans ?_ (n5.append_left k)
  rw [← List.append_assoc k gm F2]
  exact List.perm_append_comm.append_right F2
 have nu:Gd B Z ((gm++k)++F2) w:=hG.perm B5
 have dx:=(List.nodup_append.1 nu.nd).1
 obtain ⟨b,cap,cur,f1,f2,p,c0,qq,hv,g1,rfl,⟨g2,g3,g4,g5⟩,g6,⟨g7,g8⟩,g9,g10⟩:=hM
 obtain rfl:v = .slice (some ⟨b,0,none⟩) xs.length cap:=by simpa using hv
 have A4:dg (.slice (some ⟨b,0,none⟩) xs.length cap) 1 j = ⟨b,j.toNat,none⟩:=by
  simp only [dg,jr,Nat.zero_add,Nat.mul_one]
 rw [A4] at hx
 have bj:Row w b cur.toList e:=by unfold Row; simpa using g1
 have U8:∀ i∈(f1++f2)++k,i≠b:=by
  intro i hi he
  subst he
  have e1:((i :: (f1++f2))++k)=i :: ((f1++f2)++k):=rfl
  rw [e1] at dx
  exact (List.nodup_cons.1 dx).1 hi
 refine fy (WL.Im q1 q2 bj (by rw [Array.length_toList,g4]; omega) (bI ha hx) (bI ha hy) (E.one hK u (by simp)) fun w' hC vH=>h.sound B o ch _ w' ha ?_)
 have S4:∀ i∈(f1++f2)++k,i < w.heap.size→w'.heap[i]? = w.heap[i]?:=fun i hi hl=>hC.block i hl fun hm=>U8 i hi (by simpa using hm)
 have hK':E.rep w'.heap [u] z k:=E.congr hK fun i hi=>S4 i (List.mem_append_right _ hi) (E.lt hK i hi)
 have HW:=g10 w'.heap (fun i hi=>S4 i (List.mem_append_left _ hi) (g9 i hi)) u z k hK'
 refine St.put (f:=(b :: (f1++f2))++k) (f':=b :: (f1++k++f2)) jo nu (hC.mono fun i hi=>by rw [List.mem_singleton.1 hi]; simp) ⟨_,cap,by rw [List.length_set],.inr ⟨b,_,f1++k++f2,rfl,vH,rfl,by rw [List.length_set]; exact g2,g3,?_,?_⟩⟩ ?_ ?_
 ·rw [g5]; simp [g4]
 ·have A5:((cur.toList.set j.toNat u).take xs.length)=p++[u]++qq:=by
   rw [List.take_set,g6,← g7]
   simp
  rw [List.length_set,g5,Nat.mul_one]
  simpa [A5] using HW
 ·have IE:(b :: (f1++k++f2)).Perm ((b :: (f1++f2))++k):=by
   rw [List.cons_append]
   refine List.Perm.cons b ?_
   rw [List.append_assoc,List.append_assoc]
   exact List.Perm.append_left f1 List.perm_append_comm
  exact IE.nodup_iff.2 dx
 ·intro i hi
  refine .inl ?_
  rcases List.mem_cons.1 hi with rfl | hi
  ·simp
  ·rcases List.mem_append.1 hi with hi | hi
   ·rcases List.mem_append.1 hi with hi | hi <;> simp [hi]
   ·simp [hi]
theorem E0 {S S1 V W:Type} (k:Nat) (Δ:S1→V→W→List aX) (φ:S1→V→W→Fr) (v0:V) (w0:W) (f2:Fr) {iz:List KI} {kb:Kb R S} {c:Code} {s0:S1} {body:S1→Option (Out S1 R)} {f:S1→Option (Out S R)}
  (ha:sg fr (φ s0 v0 w0)) (hf:sg fr f2) (h0:EO Γ (Δ s0 v0 w0) Γ1) (hn:OW Γ (Δ s0 v0 w0)) (hs:kh Γ1 Γ2)
  (hb:∀ s v w,D P cx (.p (φ s v w) (Δ s v w) f2 Γ2 fun fr Γ=>.c ⟨[],.loop (V×W) k (fun s v=>Δ s v.1 v.2) (fun s v=>φ s v.1 v.2) Γ2 f2⟩ c Γ fr (body s)))
  (hk:∀ s v w,D P cx (.p (φ s v w) (Δ s v w) f2 Γ2 fun fr Γ=>.mn ⟨iz,kb⟩ Γ fr (f s))):Bx (qj P cx (.bk true k ⟨iz,kb⟩ (.loop c) Γ fr (ah (ae k (Li.aj body s0)) f))):=
 loop k (fun s v=>Δ s v.1 v.2) (fun s v=>φ s v.1 v.2) (v0,w0) f2 ha hf h0 hn hs (fun s v=>hb s v.1 v.2) (fun s v=>hk s v.1 v.2)
def I3 {α:Type} (v:Value) (_:List α):Prop:=∃ a n c,v = .slice a n c∧n≤c
theorem Le.cap {α:Type} {T E:an α} (hl:Le T E) (e:TI):Le (aL e T) (vh I3 (bH E)):=by
 refine ⟨rfl,fun {h cs x f} hr=>⟨?_,(Le.own hl e).le hr⟩⟩
 obtain ⟨base,cap,rfl,hr⟩:=hr
 refine ⟨_,rfl,_,_,_,rfl,?_⟩
 rcases hr with ⟨_,_,rfl,_⟩ | ⟨_,_,_,_,_,_,h,_⟩
 ·exact Nat.zero_le _
 ·exact h
theorem Ul {α:Type} {T E:an α} {e e2:TI} {v:Value} {xs:List (List α)} {f:LN} {h:Array Obj} (hl:Le T E) (hO:(aL e (aL e2 T)).rep h [v] xs f) :
  ∃ fo fz us,(fo++fz).Perm f∧(aL e se).rep h [v] us fo∧dt (vh I3 (bH E)) h us xs fz:=by
 obtain ⟨base,cap,hv,hr⟩:=hO
 rcases hr with ⟨rfl,rfl,rfl,rfl⟩ | ⟨b,cur,f',rfl,h2,rfl,h4,h5,h6,h3⟩
 ·exact ⟨[],[],[],.refl _,⟨none,0,by simpa using hv,.inl ⟨rfl,rfl,rfl,rfl⟩⟩,rfl,rfl⟩
 ·have h7:=j7 h3
  have h8:(aL e2 T).size=1:=rfl
  rw [h8,Nat.mul_one] at h6 h3 h7
  try rw [Nat.mul_one] at h7
  refine ⟨[b],f',cur.toList.take xs.length,.refl _,⟨_,cap,by rw [h7]; exact hv,.inr ⟨b,cur,[],rfl,h2,rfl,by rw [h7]; exact h4,h5,by rw [h6]; exact (Nat.mul_one _).symm,?_⟩⟩,wu (Le.cap hl e2) h3⟩
  have h9:se.size=1:=rfl
  rw [h9,Nat.mul_one,h7]
  exact DS (Eg h3)
theorem St.frz {α:Type} {T E:an α} {e e2:TI} {v:Value} {xs:List (List α)} (hs:St B Γ w) (h1:EO Γ [.own (aL e (aL e2 T)) v xs] Γ1) (hr:RT T E):St B (.om e (vh I3 (bH E)) v xs :: Γ1) w:=by
 obtain ⟨Z,F,hS,hG⟩:=hs
 obtain ⟨_,F1,hH,jc,hp⟩:=h1.sound hS
 obtain ⟨f,hO,hp⟩ : ∃ f,(aL e (aL e2 T)).rep w.heap [v] xs f∧(f++F1).Perm F:=by
  cases hH with
  | own h k=>cases k; exact ⟨_,h,by simpa using hp⟩
 obtain ⟨fo,fz,us,hf,ho,hl⟩:=Ul hr.le hO
 have B5:((fo++F1)++fz).Perm F:=by
  refine .trans ?_ hp
  refine .trans ?_ (hf.append_right F1)
  rw [List.append_assoc,List.append_assoc]
  exact List.Perm.append_left fo List.perm_append_comm
 have r8:=Gd.freeze (hG.perm B5) fun b hb=>hS.lt b (B5.mem_iff.1 (List.mem_append_right _ hb))
 exact ⟨r6 Z fz,fo++F1,SA.cons (jc.mono (fun _ h=>.inl h) fun _ h=>h) ⟨us,fz,ho,hl,fun b hb=>.inr hb,rfl⟩,r8⟩
theorem Zz {S:Type} {id:Nat} (k:Nat) {K:dq R S} {l ops tl0:LO} {α:Type} {T E:an α} {e e2:TI} {v:Value} {xs:List (List α)} {m:Option (Out S R)} (hB:(P.follows .mixedOrders && dj cx.n l && ((l.take k).all fun o=>yD o.op) && Region.lexTailB .any l.toArray k)=true) (ho:ops=l.take k) (ht:tl0=l.drop k)
  (h1:EO Γ [.own (aL e (aL e2 T)) v xs] Γ1) (hr:RT T E) (h:D P cx (.o true l ops (.h l tl0 K) (.om e (vh I3 (bH E)) v xs :: Γ1) fr m)):Bx (qj P cx (.dr id l K Γ fr m)):=by
 have h2:=tail (id:=id) k hB ho ht h
 rw [rm] at h2 ⊢
 exact fun B o ch r w ha hs=>h2 B o ch r w ha (hs.frz h1 hr)
theorem Oi {α:Type} {E:an α} {h:Array Obj}:∀ {xs:List α} {cs:LV} {f:LN} (n:Nat),dt E h cs xs f→∃ f3,dt E h (cs.drop (n * E.size)) (xs.drop n) f3∧∀ b∈f3,b∈f:=by
 intro xs
 induction xs with
 | nil=>rintro cs f n ⟨rfl,rfl⟩; exact ⟨[],by simpa using ⟨rfl,rfl⟩,fun _ h=>h⟩
 | cons x xs ih=>
  rintro cs f n ⟨c,ds,f1,f2,rfl,rfl,h1,h2⟩
  cases n with
  | zero=>exact ⟨f1++f2,by simpa using ⟨c,ds,f1,f2,rfl,rfl,h1,h2⟩,fun _ h=>h⟩
  | succ n=>
   obtain ⟨f3,h3,h4⟩:=ih n h2
   refine ⟨f3,?_,fun b hb=>List.mem_append_right _ (h4 b hb)⟩
   have e:(n+1) * E.size=c.length+n * E.size:=by rw [E.len h1,Nat.add_mul,Nat.one_mul,Nat.add_comm]
   rw [e,List.drop_append,List.drop_of_length_le (by omega),List.nil_append,List.drop_succ_cons]
   simpa using h3
theorem slT {α:Type} {q:Bool} {d:Nat} {x lo:OO} {v:Value} {k:IntKind} {j:Int} {E:an α} {xs:List α} {t ty:TI} {f:List α→Option M} [ht:yx P t] (hx:cb fr x=some v) (hy:cb fr lo=some (.int k j)) (hr:In (.rd false (vh I3 (bH E)) v xs) Γ) (hE:E.size=1)
  (h:∀ v' ys,D P cx (.o q all l rk (.rd false (bH E) v' ys :: Γ) ((d,v') :: fr) (f ys))):D P cx (.e q (.slice t x (some lo) none none) (some d) ty all l rk Γ fr (tl xs j>>=f)):=by
 refine D.of ?_
 intro B o ho r w ha hs pos ai g
 obtain ⟨ys,CD,ho⟩:=bind_some ho
 obtain ⟨h0,h1,rfl⟩:=Um CD
 obtain ⟨e,i,q1,q2,q3⟩:=ht.h
 obtain ⟨Z,F,hS,hG⟩:=hs
 obtain ⟨g0,⟨⟨v0,hv0,a0,n0,c0,Oj,hc⟩,base,cap,hv,ig⟩,ug⟩:=hr.rd hS []
 obtain rfl:v = .slice base xs.length cap:=by simpa using hv
 obtain rfl:Value.slice base xs.length cap=v0:=by simpa using hv0
 obtain ⟨rfl,rfl,rfl⟩ : base=a0∧xs.length=n0∧cap=c0:=by simpa using Oj
 have hlen:(xs.drop j.toNat).length=xs.length - j.toNat:=List.length_drop
 have hf:fact Z w [] (.rd false (bH E) (sliced base j.toNat xs.length cap 1) (xs.drop j.toNat)):=by
  by_cases hj:j.toNat=xs.length
  ·refine ⟨[],⟨_,cap - j.toNat,by unfold sliced; rw [hlen],.inl ⟨by rw [hj]; simp,rfl⟩⟩,fun _ h=>absurd h List.not_mem_nil⟩
  ·rcases ig with ⟨rfl,_⟩ | ⟨b,off,cur,e',fz,f',rfl,g1,rfl,_,g2⟩
   ·exfalso; simp at h1 hj; omega
   ·have q9 : ¬ (cap=j.toNat):=by omega
    obtain ⟨f3,ei,ed⟩:=Oi j.toNat g2
    refine ⟨b :: f3,⟨some ⟨b,off+j.toNat,none⟩,cap - j.toNat,?_,.inr ⟨b,off+j.toNat,cur,e',fz,f3,rfl,g1,rfl,by omega,?_⟩⟩,fun i hi=>?_⟩
    ·unfold sliced
     rw [hlen,if_neg q9]
     simp [jr]
    ·rw [hE,Nat.mul_one] at ei ⊢
     rw [Nat.mul_one,List.drop_take,List.drop_drop] at ei
     rw [hlen]
     exact ei
    ·rcases List.mem_cons.1 hi with rfl | hi
     ·exact ug _ (by simp)
     ·exact ug _ (List.mem_cons_of_mem _ (ed i hi))
 refine dh (v:=sliced base j.toNat xs.length cap 1) (fun w' _=>?_) ((h _ _).sound B o ho _ w (ba ha) ⟨Z,F,SA.fact hS hf,hG⟩)
 have q4:P.elem t=e:=by simp [Program.elem,q1]
 have xe:(sizeOf (P.elem t)).run P w' = .ok 1 w':=by rw [q4]; simp [sizeOf,typeInfo,q2,q3]
 simp [execOp,bI ha hx,bI ha hy,run_sliceAt_slice w' t _ _ _ _ (by rw [q4]; exact q1),run_slice_l (P:=P) w' t base xs.length cap (by rw [q4]; exact q1) k j h0 h1,xe,Result.andThen]
theorem stN {α:Type} {x y:OO} {v u:Value} {j:Int} {z:List α} {xs:List (List α)} {E:an α} {Q:Value→List α→Prop} {t e ty:TI} {Γx:QE} {m:Option M} (h0:Rg v j Γ) (h1:qh Γ u false false E z vi Γx) (h2:ee Γ (.om e (vh Q (bH E)) v xs) Γ1)
  (h:D P cx (.o false all l rk (.om e (bH E) v (xs.set j.toNat z) :: Γ1) fr m)):D P cx (.sl .om v j u t x y ty all l rk Γ fr m):=by
 refine D.of ?_
 intro hT hx hy _ B o ho r w ha hs pos ai g
 obtain ⟨i,hi,xe⟩:=hT
 obtain ⟨Z,F,hS,hg⟩:=hs
 obtain ⟨j0,j1⟩:=h0.sound hS
 obtain ⟨dv,_,⟨⟨k,hk,Ik⟩,_⟩,_⟩:=h1.sound hS
 obtain ⟨n,F1,hp,⟨us,gg,hO,Wz,ug,NS⟩,jc⟩:=h2.sound hS
 have hle:Le (vh Q (bH E)) (bH E):=⟨rfl,fun h=>h.2⟩
 have hr:dt (bH E) w.heap us xs gg:=wu hle Wz
 replace NS:(bH E).size=1:=rfl
 have lz:=hg.perm hp
 have dx:=List.nodup_append.1 lz.nd
 have Il:∀ b∈k,Z b:=fun b hb=>(Ik b hb).elim (fun h=>h) (fun h=>h)
 have NT:∀ b∈n,¬ Z b:=fun b hb=>lz.apart b (List.mem_append_left _ hb)
 have hl:us.length=xs.length:=by have:=j7 hr; rw [NS,Nat.mul_one] at this; exact this
 have Nz:xF v=us.length:=wC hO
 rw [Nz,hl] at j1
 refine fy (SF.store (E:=bH E) (G:=n) (B:=w.heap.size) (g:=gg) (k:=k) hi xe ⟨us,⟨hO,dx.1,fun b hb=>.inl hb⟩,hr,NS⟩ (List.getElem?_eq_getElem j1) (bI ha hx) (bI ha hy) hk (fun b hb hm=>NT b hm (Il b hb)) (fun b hb hm=>NT b hm (ug b hb)) fun w' g' hC s7 ox=>?_)
 obtain ⟨Vy,ch,ig,PU⟩:=s7
 exact h.sound B o ho _ w' ha (St.put jc lz hC ⟨Vy,_,ch.1,ig,(fun b hb=>(ox b hb).elim (ug b) (Il b)),PU⟩ ch.2.1 fun b hb=>.inl hb)
theorem St.apU {B:Bs} {Γ Δ Γ1 Γ2 Γ3:QE} {w:World} (h:St B Γ w) (h0:EF Γ Δ Γ1) (h1:EO Γ1 Γ2 Γ3) (h2:MF Γ none Γ2):St B (Δ.reverse++Γ2) w:=by
 obtain ⟨Z,F,hs,hg⟩:=h
 obtain ⟨Fd,F',Zn,a1,a2,a3⟩:=h0.sound hs
 obtain ⟨Vs,F3,c1,c2,c3⟩:=h1.sound a2
 obtain ⟨F2,b1,b2⟩:=HL.build a1 (h2.sound (hs.left (f:=Zn)) (dv:=[]) (by rintro e he; cases he) c1)
 refine St.of (F':=Fd++Vs) b2 (Gd.left (F':=F3) ((Gd.freeze (hg.perm a3) fun b hb=>hs.lt b (a3.mem_iff.1 (List.mem_append_right _ hb))).perm ?_)) b1
 rw [List.append_assoc]
 exact c3.append_left Fd
theorem join {S S1 V:Type} {t k:Nat} {b:Bool} (Δ:S1→V→List aX) (φ:S1→V→Fr) (v0:V) (f2:Fr) {iz:List KI} {kb:Kb R S} {x y:Code} {s0:S1} {m0:Option (Out S1 R)} {f:S1→Option (Out S R)}
   (_ha:sg fr (φ s0 v0)) (_hf:sg fr f2) (_h0:EO Γ (Δ s0 v0) Γ1) (_hs:kh Γ1 Γ2)
   (hb:D P cx (.cd b ⟨[],.loop V k Δ φ Γ2 f2⟩ x y Γ fr m0)) (hk:∀ s v,D P cx (.p (φ s v) (Δ s v) f2 Γ2 fun fr Γ=>.n ⟨iz,kb⟩ Γ fr (f s))):D P cx (.cd b ⟨iz,kb⟩ x y Γ fr (jn t s0 m0 f)):=by
 refine .inj (bxi ?_)
 intro B o ho r w vF s8
 replace ho:ah m0 f=some o:=ho
 cases hm:m0 with
 | none=>rw [hm] at ho; cases ho
 | some o0=>
  have h1:=hb.sound B o0 hm r w vF s8
  rw [hm] at ho
  have hq:∀ e r w,lu P cx B ⟨[],.loop V k Δ φ Γ2 f2⟩ o0 e r w→lu P cx B ⟨iz,kb⟩ o e r w:=by
   intro e r w hp
   cases o0 with
   | norm s=>
    cases e with
    | normal=>obtain ⟨v,a1,a2⟩:=hp; exact (hk s v).sound B o ho r w a1 a2
    | _=>exact hp.elim
   | exit j s=>cases ho
   | ret y=>
    cases ho
    cases e with
    | ret=>exact zA hp
    | _=>exact hp.elim
  exact ⟨fun h=>xj (h1.1 h) hq,fun h=>xj (h1.2 h) hq⟩
theorem Lp {S:Type} {t:Nat} {K:dq R S} {ops:LO} {m:Option (Out S R)} (_ht:EH ops=some t) (h:D P cx (.o false ops ops (.s K) Γ fr m)):D P cx (.rw false ops K Γ fr m):=.Z8 h
theorem uW {S:Type} {b:Bool} {t:Nat} {K:dq R S} {x y:Code} {m1 m2:Option (Out S R)} (hl:look fr t=some (.bool b)) (h1:D P cx (.c K x Γ ((t,.bool true) :: fr) m1)) (h2:D P cx (.c K y Γ ((t,.bool false) :: fr) m2)):D P cx (.cd b K x y Γ fr (bif b then m1 else m2)):=by
 refine D.of ?_
 have hc:∀ {r:NV},di r fr→∀ c,b=c→di r ((t,.bool c) :: fr):=by
  intro r ha c hb s u hs
  unfold look at hs
  cases s8:Nat.beq s t with
  | true=>
   rw [s8] at hs
   cases hs
   obtain rfl:=Nat.eq_of_beq_eq_true s8
   rw [← hb]
   exact ha _ _ hl
  | false=>rw [s8] at hs; exact ha _ _ hs
 exact fun B o ho r w ha hs=>⟨fun h=>h1.sound B o (by rw [h] at ho; exact ho) r w (hc ha _ h) hs,fun h=>h2.sound B o (by rw [h] at ho; exact ho) r w (hc ha _ h) hs⟩
class j4 {α:Type} (S:an α) (V:outParam Type) (cl:outParam (α→V→List Value)) (en:outParam (α→V→List aX)):Prop where
 ow:∀ x v,ur (en x v)=true
 op:∀ {w:World} {cs:LV} {x:α} {g:LN},S.rep w.heap cs x g→∃ v,cs=cl x v∧∀ Z:Nat→Prop,HL Z w (en x v) g
 cl:∀ {w:World} {x:α} {v:V} {Z:Nat→Prop} {g:LN},HL Z w (en x v) g→S.rep w.heap (cl x v) x g
theorem j4.i {k:IntKind}:j4 (aN k) Unit (fun x _=>[.int k x]) (fun _ _=>[]):=
 ⟨fun _ _=>rfl,fun h=>⟨(),h.1,fun _=>by rw [h.2]; exact .nil⟩,fun h=>by cases h; exact ⟨rfl,rfl⟩⟩
theorem j4.s {α:Type} {e:TI} {E:an α}:j4 (aL e E) Value (fun _ v=>[v]) (fun x v=>[.own (aL e E) v x]):=by
 refine ⟨fun _ _=>rfl,fun {w cs x g} h=>?_,fun {w x v Z g} h=>?_⟩
 ·obtain ⟨base,cap,rfl,hr⟩:=h
  refine ⟨_,rfl,fun Z=>?_⟩
  have:=HL.own (Z:=Z) (w:=w) (e:=.own (aL e E) (.slice base x.length cap) x) (f:=g) ⟨base,cap,rfl,hr⟩ .nil
  rwa [List.append_nil] at this
 ·cases h with
  | own h k=>cases k; rw [List.append_nil]; exact h
  | fact h _=>exact h.elim
theorem j4.ip {β V:Type} {k:IntKind} {B:an β} {cl:β→V→List Value} {en:β→V→List aX} (h:j4 B V cl en):j4 (bo (aN k) B) V (fun x v=>.int k x.1 :: cl x.2 v) (fun x v=>en x.2 v):=by
 refine ⟨fun x v=>h.ow x.2 v,fun {w cs x g} hr=>?_,fun {w x v Z g} he=>?_⟩
 ·obtain ⟨c1,c2,f1,f2,rfl,rfl,⟨rfl,rfl⟩,h2⟩:=hr
  obtain ⟨v,rfl,hv⟩:=h.op h2
  exact ⟨v,rfl,hv⟩
 ·exact ⟨[_],_,[],g,rfl,rfl,⟨rfl,rfl⟩,h.cl he⟩
theorem j4.sp {α β V:Type} {e:TI} {E:an α} {B:an β} {cl:β→V→List Value} {en:β→V→List aX} (h:j4 B V cl en):j4 (bo (aL e E) B) (Value×V) (fun x v=>v.1 :: cl x.2 v.2) (fun x v=>.own (aL e E) v.1 x.1 :: en x.2 v.2):=by
 refine ⟨fun x v=>h.ow x.2 v.2,fun {w cs x g} hr=>?_,fun {w x v Z g} he=>?_⟩
 ·obtain ⟨c1,c2,f1,f2,rfl,rfl,h1,h2⟩:=hr
  obtain ⟨base,cap,rfl,vB⟩:=h1
  obtain ⟨v,rfl,hv⟩:=h.op h2
  exact ⟨(_,v),rfl,fun Z=>.own ⟨base,cap,rfl,vB⟩ (hv Z)⟩
 ·cases he with
  | own h1 k=>
   obtain ⟨base,cap,hb,vB⟩:=h1
   exact ⟨[_],_,_,_,rfl,rfl,⟨base,cap,hb,vB⟩,h.cl k⟩
  | fact h1 _=>exact h1.elim
theorem j4.mp {α β V:Type} {f:β→α} {A:an α} {cl:α→V→List Value} {en:α→V→List aX} (h:j4 A V cl en):j4 (xH f A) V (fun y v=>cl (f y) v) (fun y v=>en (f y) v):=
 ⟨fun y v=>h.ow (f y) v,fun hr=>h.op hr,fun he=>h.cl he⟩
inductive Qj {α:Type} (S:an α) (V:Type) (cl:α→V→List Value) (en:α→V→List aX):Prop
 | mk [h:j4 S V cl en]:Qj S V cl en
theorem ZA:∀ {Δ:QE} {F:LN},ur Δ=true→HO Z w Δ F→HL Z w Δ F:=by
 intro Δ
 induction Δ with
 | nil=>intro F _ h; cases h; exact .nil
 | cons e Δ ih=>
  intro F ho h
  cases e with
  | own T v x=>cases h with | own h k=>exact .own h (ih ho k)
  | row b cs t=>cases h with | own h k=>exact .own h (ih ho k)
  | _=>exact absurd ho (by simp [ur])
theorem WA {α:Type} (S:an α) {d:Nat} {t e n bt ty:TI} {m:Option M} [ht:B4 P t e n bt]
  (h:∀ v,D P cx (.o false all l rk (.own (aL e S) v [] :: Γ) ((d,v) :: fr) m)):D P cx (.e false (.buildSlice t 0 #[]) (some d) ty all l rk Γ fr m):=by
 refine D.of ?_
 intro B o ho r w ha hs pos ai g
 obtain ⟨h1,i,z,h2,_⟩:=ht.h
 obtain ⟨v,w',f,hr,hC,hO⟩:=Bo (E:=S) (r:=r) (w:=w) (d:=some d) (ty:=ty) (pos:=pos) (ai:=ai) (g:=none) h1 h2
 refine fy (WL.val rfl hr ((h v).sound B o ho _ w' (ba ha) ?_))
 obtain ⟨Z,F,hS,hg⟩:=hs
 exact St.put (f:=[]) hS hg hC hO.1 hO.2.1 fun b hb=>.inr ((hO.2.2 b hb).resolve_left List.not_mem_nil)
theorem S5 {α:Type} {S:an α} {q:Bool} {d n e:Nat} {x:OO} {v:Value} {xs:List α} {t ty bt:TI} {m:Option M} [ht:B4 P t e n bt] (hx:cb fr x=some v) (h1:ee Γ (.own (aL e S) v xs) Γ1)
  (h:D P cx (.o q all l rk Γ ((d,.int .i64 (xs.length:Int)) :: fr) m)):D P cx (.e q (.call ⟨.builtin .len,#[x],#[t]⟩) (some d) ty all l rk Γ fr m):=by
 refine D.of ?_
 intro B o ho r w ha hs pos ai g
 obtain ⟨q1,_⟩:=ht.h
 obtain ⟨Z,F,hS,hG⟩:=@_root_.id _ hs
 obtain ⟨f,F1,_,hO,_⟩:=h1.sound hS
 obtain ⟨base,cap,hv,_⟩:=hO
 obtain rfl:v = .slice base xs.length cap:=by simpa using hv
 exact dh (v:=.int .i64 (xs.length:Int)) (fun w' _=>yB q1 (bI ha hx)) (h.sound B o ho _ w (ba ha) hs)
theorem Qk {α:Type} {S:an α} {n:Nat} {hp:Array Obj} (hn:S.size=n):∀ {xs:List α} {cs:LV} {f:LN},dt S hp cs xs f→∃ us,us.length=xs.length∧dt (jm n) hp cs us []∧∀ (j:Nat) (x:α),xs[j]? = some x→∃ c f0 f1 f2,us[j]? = some c∧f=f0++f1++f2∧S.rep hp c x f1:=by
 intro xs
 induction xs with
 | nil=>rintro cs f ⟨rfl,rfl⟩; exact ⟨[],rfl,⟨rfl,rfl⟩,fun j x hj=>by simp at hj⟩
 | cons y xs ih=>
  rintro cs f ⟨c,j9,f1,f2,rfl,rfl,h1,h2⟩
  obtain ⟨us,hl,hr,hg⟩:=ih h2
  refine ⟨c :: us,by simp [hl],⟨c,j9,[],[],rfl,rfl,⟨rfl,by rw [S.len h1,hn],S.one h1,rfl⟩,hr⟩,fun j x hj=>?_⟩
  cases j with
  | zero=>simp at hj; subst hj; exact ⟨c,[],f1,f2,rfl,by simp,h1⟩
  | succ j=>
   obtain ⟨c',g0,g1,g2,a1,rfl,a3⟩:=hg j x (by simpa using hj)
   exact ⟨c',f1++g0,g1,g2,by simpa using a1,by simp,a3⟩
theorem ixO {α V:Type} {S:an α} {cl:α→V→List Value} {en:α→V→List aX} {q:Bool} {d n e:Nat} {x y:OO} {v:Value} {xs:List α} {k:IntKind} {j:Int} {t ty bt:TI} {f:α→Option M} [ht:B4 P t e n bt] (hx:cb fr x=some v) (hy:cb fr y=some (.int k j))
  (h1:ee Γ (.own (aL e S) v xs) Γ1) (hs:Qj S V cl en) (hn:S.size=n)
  (h:∀ z u us,D P cx (.p [] (.own (aL e (jm n)) v us :: .rd false (B2 us j) (.bool true) (cl z u) :: en z u) fr Γ1 fun fr Γ=>.o q all l rk Γ ((d,.pointer (some (dg v n j))) :: fr) (f z))):D P cx (.e q (.indexAddr t x y) (some d) ty all l rk Γ fr (idx xs j>>=f)):=by
 refine D.of ?_
 intro B o ho r w ha eh pos ai g
 replace hs:j4 S V cl en:=by cases hs; assumption
 obtain ⟨z,hz,ho⟩:=bind_some ho
 replace hz:=qa hz
 obtain ⟨q1,i,_,q2,_,_,q3,_⟩:=ht.h
 obtain ⟨Z,F,hS,hG⟩:=eh
 obtain ⟨f0,F1,hp,hO,jc⟩:=h1.sound hS
 have bp:j.toNat < xs.length:=(List.getElem?_eq_some_iff.1 hz.2).1
 obtain ⟨base,cap,hv,hr⟩:=hO
 obtain rfl:v = .slice base xs.length cap:=by simpa using hv
 rcases hr with ⟨_,_,rfl,_⟩ | ⟨b,cur,f',rfl,kz,rfl,hle,ab7,xe,ei⟩
 ·simp at bp
 ·obtain ⟨us,hl,hru,hg⟩:=Qk hn ei
  obtain ⟨c,g0,g1,g2,a1,rfl,a3⟩:=hg _ _ hz.2
  obtain ⟨u,rfl,pj⟩:=hs.op a3
  have Bv:(aL e (jm n)).rep w.heap [.slice (some ⟨b,0,none⟩) xs.length cap] us [b]:=
   ⟨_,cap,by rw [hl],.inr ⟨b,cur,[],rfl,kz,rfl,by rw [hl]; exact hle,ab7,by rw [xe,hn]; rfl,by rw [hl,show (jm n).size=S.size from hn.symm]; exact hru⟩⟩
  have ew:HL Z w (.own (aL e (jm n)) (.slice (some ⟨b,0,none⟩) xs.length cap) us :: .rd false (B2 us j) (.bool true) (cl z u) :: en z u) ([b]++g1):=.own Bv (.fact ⟨[],⟨rfl,⟨hz.1,a1⟩,rfl⟩,fun _ h=>absurd h List.not_mem_nil⟩ (pj Z))
  obtain ⟨F',zF,jo⟩:=ew.build jc
  have rn:(F'++(g0++g2)).Perm F:=by
   refine .trans ?_ hp
   refine (zF.append_right _).trans ?_
   rw [List.cons_append,List.cons_append,List.cons_append,List.nil_append,List.cons_append]
   refine List.Perm.cons b ?_
   have e1:(g1++F1++(g0++g2)).Perm ((g0++g2)++(g1++F1)):=List.perm_append_comm
   refine e1.trans ?_
   rw [List.append_assoc,List.append_assoc,List.append_assoc]
   refine List.Perm.append_left g0 ?_
   rw [← List.append_assoc,← List.append_assoc]
   exact List.perm_append_comm.append_right F1
  refine dh (v:=.pointer (some (dg (.slice (some ⟨b,0,none⟩) xs.length cap) n j))) (fun w' hC=>?_) ((h z u us).sound B o ho _ w (ba ha) ⟨Z,F',jo,Gd.left (hG.perm rn)⟩)
  rw [l5 q1 q2 (bI ha hx) (bI ha hy) hz.1 (by omega),q3]
  rfl
theorem apO {α V:Type} {S:an α} {cl:α→V→List Value} {en:α→V→List aX} (y:α) {u:V} {d b n e bt:Nat} {s x:OO} {sv:Value} {xs:List α} {cs:LV} {t et ty:TI} {f:Unit→Option M} [ht:B4 P t e n bt]
  (hs:cb fr s=some sv) (hx:cb fr x=some (.slice (some ⟨b,0,none⟩) 1 1)) (h0:ee Γ (.row b cs et) Γ1) (h1:ee Γ1 (.own (aL e S) sv xs) Γ2) (qi:Qj S V cl en) (_hv:vD V u) (hc:cs=cl y u) (hn:S.size=n) (he:EO Γ2 (en y u) Γ3)
  (h:∀ v,D P cx (.o false all l rk (.own (aL e S) v (xs++[y]) :: Γ3) ((d,v) :: fr) (f ()))):D P cx (.e false (.call ⟨.builtin .append,#[s,x],#[t,t]⟩) (some d) ty all l rk Γ fr (fits bt (xs.length+1)>>=f)):=by
 refine D.of ?_
 intro B o ch r w ha eh pos ai g
 have Gc:j4 S V cl en:=by cases qi; assumption
 obtain ⟨_,hu,ch⟩:=bind_some ch
 obtain ⟨b1,b2⟩:=p3 hu
 obtain ⟨q1,i,z,q2,q3,q4,q5,q6,_⟩:=ht.h
 obtain ⟨Z,F,hS,hG⟩:=eh
 obtain ⟨n0,F0,vG,⟨rfl,bj⟩,xP⟩:=h0.sound hS
 obtain ⟨k,F1,hp,hO,jc⟩:=h1.sound xP
 obtain ⟨Fd,F2,hho,jo,n5⟩:=he.sound jc
 have hy:S.rep w.heap (cl y u) y Fd:=Gc.cl (ZA (Gc.ow y u) hho)
 have rn:(((k++Fd)++F2)++[b]).Perm F:=by
  refine .trans ?_ vG
  refine List.perm_append_comm.trans ?_
  refine List.Perm.append_left [b] ?_
  rw [List.append_assoc]
  exact (n5.append_left k).trans hp
 have nu:Gd B Z ((k++Fd)++F2) w:=Gd.left (F':=[b]) (hG.perm rn)
 have dx:=(List.nodup_append.1 nu.nd).1
 have Cj:=List.nodup_append.1 dx
 subst hc
 obtain ⟨v,w',f',nm,hC,ei,ed,IF⟩:=p5 (E:=S) (d:=some d) (ty:=ty) (pos:=pos) (ai:=ai) (g:=none) (k:=Fd) (ys:=[y]) (news:=cl y u) q1 q2 q3 (by rw [q5,hn]) (by rw [q4,hn]) (bI ha hs) hO Cj.1 (bI ha hx) (fun i u hi=>bj.at i u hi) (sb hy) (fun b hb hm=>Cj.2.2 b hm b hb rfl) (by simp) (by rw [q6]; exact b1) b2
 refine fy (WL.val rfl nm ((h v).sound B o ch _ w' (ba ha) ?_))
 refine St.put jo nu (hC.mono fun b hb=>List.mem_append_left _ hb) ei (IF Cj.2.1) fun b hb=>?_
 rcases ed b hb with h | h | h
 ·exact .inl (List.mem_append_left _ h)
 ·exact .inl (List.mem_append_right _ h)
 ·exact .inr h
end
end Go.Dk
namespace Go.Dk
open Go Go.Li
section
variable {P:Program} {n:Nat} {l:LO} {Q:Exit→(Nat→Value)→World→Prop} {S:World→Prop}
def Hw (P:Program) (n:Nat) (l:LO) (Q:Exit→(Nat→Value)→World→Prop) (S:World→Prop) (k:Nat) (L:Array Bool) (r:NV) (w:World):Prop:=
 ∀ a:Act,a.tmps.size=n→a.defers=[]→cn a=r→wpAnyH P .any l.toArray (fun e a' w'=>a'.tmps.size=n∧a'.defers=[]∧Q e (cn a') w') S k L a w
theorem E2 {i:Nat} {o:Oper} {a:Act} (hd:dj n l=true) (hi:l[i]? = some o) (h1:a.tmps.size=n):∀ k,o.dst=some k→k < a.tmps.size:=by
 intro k hk
 have hm:o∈l:=List.mem_of_getElem? hi
 simp only [dj,List.all_eq_true] at hd
 have:=hd o hm
 rw [hk] at this
 rw [h1]
 exact Nat.lt_of_succ_le (Nat.le_of_ble_eq_true this)
theorem Hw.take {k i:Nat} {L:Array Bool} {o:Oper} {v:Value} {r:NV} {w:World} (hd:dj n l=true) (hi:l[i]? = some o) (hs:Region.noSelect l.toArray=true) (hf:Region.free .any l.toArray L i=true) (hr:(Region.ready .any l.toArray L).contains i=true)
  (hp:∀ c r w,¬ Q (.panic c) r w) (hg:o.guard=none) (hy:∀ w,S w→(execOp (ev r) o).run P w = .ok (.value v) w) (hS:S w) (h:Hw P n l Q S k (L.setIfInBounds i true) (gw r o.dst v) w):Hw P n l Q S (k+1) L r w:=by
 intro a h1 h2 h3
 refine wpAnyH_take (v:=v) (by simpa using hi) hs hf hr (fun c a w h=>(hp _ _ _ h.2.2).elim) (.inl ⟨uw hg,fun w hw=>?_⟩) hS (h _ (by rw [j8]; exact h1) (by rw [ic]; exact h2) (by rw [l7 (E2 hd hi h1),h3]))
 rw [ru,h3]
 exact hy w hw
theorem Hw.step {k i:Nat} {L:Array Bool} {o:Oper} {r:NV} {w w':World} (hd:dj n l=true) (hi:l[i]? = some o) (hr:Region.ready .any l.toArray L=[i]) (hg:o.guard=none) (hy:(execOp (ev r) o).run P w = .ok .skip w') (hS:S w') (h:Hw P n l Q S k (L.setIfInBounds i true) (gw r o.dst undef) w'):Hw P n l Q S (k+1) L r w:=by
 intro a h1 h2 h3
 refine wpAnyH_all hr (by simp) fun j hj=>?_
 obtain rfl:j=i:=by simpa using hj
 unfold wpOp
 rw [show (l.toArray)[j]? = some o by simpa using hi]
 simp only []
 rw [if_pos (uw hg)]
 refine .inl ?_
 unfold Oper.wp
 rw [ru,h3,hy]
 exact ⟨hS,h _ (by rw [j8]; exact h1) (by rw [ic]; exact h2) (by rw [l7 (E2 hd hi h1),h3])⟩
theorem Hw.done {k:Nat} {L:Array Bool} {r:NV} {w:World} (hr:Region.ready .any l.toArray L=[]) (h:Q .normal r w):Hw P n l Q S k L r w:=
 fun _ h1 h2 h3=>wpAnyH_done hr ⟨h1,h2,by rw [h3]; exact h⟩ k
theorem Hw.start {r:NV} {w:World} (h:Hw P n l Q S l.length (Array.replicate l.length false) r { w with drawn:=w.drawn+1 }):mx P n l Q r w:=
 fun a h1 h2 h3=>wpAny_of_held _ _ _ _ (h a h1 h2 h3)
def DU (P:Program) (S:World→Prop):List Oper→(Nat→Value)→((Nat→Value)→Prop)→Prop
 | [],r,K=>K r
 | o :: l,r,K=>o.guard=none∧∃ v,(∀ w,S w→(execOp (ev r) o).run P w = .ok (.value v) w)∧DU P S l (gw r o.dst v) K
def Ge (l:LO):List Nat→Array Bool→Bool
 | [],L=>(Region.ready .any l.toArray L).isEmpty
 | i :: ss,L=>Nat.blt i l.length && (Region.ready .any l.toArray L == [i]) && Ge l ss (L.setIfInBounds i true)
def Ql (l:LO) (ss:LN):List Nat→Array Bool→Bool
 | [],L=>Ge l ss L
 | i :: qs,L=>Nat.blt i l.length && (Region.ready .any l.toArray L).contains i && Region.free .any l.toArray L i && Ql l ss qs (L.setIfInBounds i true)
def pick (l:LO) (is:LN):List Oper:=is.map fun i=>l.getD i default
theorem Gf {i:Nat} (h:Nat.blt i l.length=true):l[i]? = some (l.getD i default):=by
 have h1:i < l.length:=Nat.lt_of_succ_le (Nat.le_of_ble_eq_true h)
 rw [List.getD_eq_getElem?_getD,List.getElem?_eq_getElem h1]; rfl
theorem Hw.quiet (hd:dj n l=true) (hs:Region.noSelect l.toArray=true) (hp:∀ c r w,¬ Q (.panic c) r w) {ss:LN} {w:World} (hS:S w) {K:(Nat→Value)→Prop} (h:∀ L r,Ge l ss L=true→K r→Hw P n l Q S ss.length L r w) :
  ∀ (qs:LN) (L:Array Bool) (r:NV),Ql l ss qs L=true→DU P S (pick l qs) r K→Hw P n l Q S (qs.length+ss.length) L r w:=by
 intro qs
 induction qs with
 | nil=>intro L r hc hv; rw [List.length_nil,Nat.zero_add]; exact h L r hc hv
 | cons i qs ih=>
  intro L r hc hv
  unfold Ql at hc
  simp only [Bool.and_eq_true] at hc
  obtain ⟨⟨⟨c1,c2⟩,c3⟩,c4⟩:=hc
  obtain ⟨hg,v,h1,h2⟩:=hv
  have:=Hw.take hd (Gf c1) hs c3 c2 hp hg h1 hS (ih _ _ c4 h2)
  rwa [show qs.length+ss.length+1=(i :: qs).length+ss.length by simp; omega] at this
end
inductive JQ
 | q (ops:LO) (fr:Fr)
 | la (a:Addr) (lk:Option Nat) (t:TI) (x:OO) (d:Nat) (ty:TI) (pos:String) (ai:Array Edge) (ops:LO) (fr:Fr)
inductive QA (P:Program) (Γ:QE):JQ→Fr→Prop
 | nil {fr:Fr}:QA P Γ (.q [] fr) fr
 | ld {d:Nat} {t ty:TI} {x:OO} {lk:Option Nat} {a:Addr} {pos:String} {ai:Array Edge} {ops:LO} {fr ql:Fr} [ht:LK P t lk] (hx:cb fr x=some (.pointer (some a))) (h:QA P Γ (.la a lk t x d ty pos ai ops fr) ql):QA P Γ (.q (⟨some d,.load t x,ty,pos,ai,none⟩ :: ops) fr) ql
 | val {d:Nat} {op:Op} {ty:TI} {u:Value} {pos:String} {ai:Array Edge} {ops:LO} {fr ql:Fr} (hv:VQ P Γ fr op u) (h:QA P Γ (.q ops ((d,u) :: fr)) ql):QA P Γ (.q (⟨some d,op,ty,pos,ai,none⟩ :: ops) fr) ql
 | lc {d:Nat} {t ty:TI} {x:OO} {a:Addr} {u:Value} {pos:String} {ai:Array Edge} {ops:LO} {fr ql:Fr} (h:wq Γ a u) (k:QA P Γ (.q ops ((d,u) :: fr)) ql):QA P Γ (.la a none t x d ty pos ai ops fr) ql
 | ls {d n:Nat} {t ty:TI} {x:OO} {a:Addr} {ds:LV} {pos:String} {ai:Array Edge} {ops:LO} {fr ql:Fr} (h:wy Γ a n ds) (k:QA P Γ (.q ops ((d,.agg ds.toArray) :: fr)) ql):QA P Γ (.la a (some n) t x d ty pos ai ops fr) ql
inductive RO (fr:Fr):List Oper→List aX→List (Nat×List Value×TypeId)→List aX→Prop
 | nil {Γ:QE}:RO fr [] Γ [] Γ
 | cons {t ty e:TI} {x y:OO} {b:Nat} {cs:LV} {pos:String} {ai:Array Edge} {ops:LO} {Γ Γ1 Γ2:QE} {rs:List (Nat×List Value×TypeId)} (hx:cb fr x=some (.pointer (some ⟨b,0,none⟩))) (h:ee Γ (.row b cs e) Γ1) (k:RO fr ops Γ1 rs Γ2):RO fr (⟨none,.store t x y,ty,pos,ai,none⟩ :: ops) Γ ((b,cs,e) :: rs) Γ2
inductive SQ (P:Program) (Γ:QE) (fr:Fr):List Oper→List (Nat×List Value×TypeId)→List (Nat×List Value×TypeId)→Prop
 | nil:SQ P Γ fr [] [] []
 | cons {n:Nat} {t ty e:TI} {x y:OO} {b:Nat} {u:Value} {us cs ds:LV} {pos:String} {ai:Array Edge} {ops:LO} {rs vO:List (Nat×List Value×TypeId)} [ht:xd P t n] (hx:cb fr x=some (.pointer (some ⟨b,0,none⟩))) (hy:cb fr y=some u) (hc:s6 Γ u us) (hn:us.length=n) (hs:u5 us 0 cs ds) (ho:wx Γ us) (k:SQ P Γ fr ops rs vO) :
   SQ P Γ fr (⟨none,.store t x y,ty,pos,ai,none⟩ :: ops) ((b,cs,e) :: rs) ((b,ds,e) :: vO)
def MA:List (Nat×List Value×TypeId)→List aX
 | []=>[]
 | (b,cs,e) :: l=>.row b cs e :: MA l
def Rows (w:World) (rs:List (Nat×List Value×TypeId)):Prop:=∀ p∈rs,Row w p.1 p.2.1 p.2.2
section
variable {P:Program} {Γ Γ2:QE} {S:World→Prop} {Z:Nat→Prop}
def ab8 (P:Program) (S:World→Prop):JQ→Fr→Prop
 | .q ops fr,ql=>∀ r,di r fr→DU P S ops r fun r'=>di r' ql
 | .la a lk t x d ty pos ai ops fr,ql=>(match lk with | none=>NA P t | some n=>AG P t n)→cb fr x=some (.pointer (some a))→∀ r,di r fr→DU P S (⟨some d,.load t x,ty,pos,ai,none⟩ :: ops) r fun r'=>di r' ql
theorem QA.sound {J:JQ} {ql:Fr} (hS:∀ w,S w→∃ cur F,SA Z w Γ cur F) (h:QA P Γ J ql):ab8 P S J ql:=by
 induction h with
 | nil=>exact fun r h=>h
 | @ld d t ty x lk a pos ai ops fr ql ht hx _ ih=>exact fun r ha=>ih ht.h hx r ha
 | @val d op ty u pos ai ops fr ql hv _ ih=>
  intro r ha
  refine ⟨rfl,u,fun w hw=>?_,ih _ (ba ha)⟩
  obtain ⟨cur,F,h⟩:=hS w hw
  exact hv.sound h ha (some d) ty pos ai none w (ay.refl _ _)
 | @lc d t ty x a u pos ai ops fr ql h _ ih=>
  intro ht hx r ha
  refine ⟨rfl,u,fun w hw=>?_,ih _ (ba ha)⟩
  obtain ⟨cur,F,hs⟩:=hS w hw
  exact Ld ht (h.sound hs) (bI ha hx) w (ay.refl _ _)
 | @ls d n t ty x a ds pos ai ops fr ql h _ ih=>
  intro ht hx r ha
  refine ⟨rfl,_,fun w hw=>?_,ih _ (ba ha)⟩
  obtain ⟨cur,F,hs⟩:=hS w hw
  obtain ⟨h1,h2⟩:=h.sound hs
  exact Lg ht h1 (bI ha hx) h2 w (ay.refl _ _)
theorem RO.sound {fr:Fr} {ops:LO} {rs:List (Nat×List Value×TypeId)} {w:World} (h:RO fr ops Γ rs Γ2):∀ {F:LN},SA Z w Γ [] F→∃ F2,(rs.map (·.1)++F2).Perm F∧Rows w rs∧SA Z w Γ2 [] F2:=by
 induction h with
 | nil=>intro F h; exact ⟨F,.refl _,fun _ h=>absurd h List.not_mem_nil,h⟩
 | @cons t ty e x y b cs pos ai ops Γ Γ1 Γ2 rs hx h _ ih=>
  intro F hS
  obtain ⟨f,F1,hp,⟨rfl,bj⟩,jc⟩:=h.sound hS
  obtain ⟨F2,n5,hr,jo⟩:=ih jc
  refine ⟨F2,?_,fun p hp=>?_,jo⟩
  ·exact .trans (List.Perm.cons b n5) hp
  ·rcases List.mem_cons.1 hp with rfl | hp
   ·exact bj
   ·exact hr p hp
theorem SQ.sound {n:Nat} {l:LO} {Q:Exit→(Nat→Value)→World→Prop} {fr:Fr} {ops:LO} {rs vO:List (Nat×List Value×TypeId)} {F2:LN} {w0:World} {r:NV} {F:LN} (hd:dj n l=true) (ha:di r fr) (hSA:∀ w,ay F w0 w→SA Z w Γ2 [] F2) (h:SQ P Γ2 fr ops rs vO) :
  ∀ (ss:LN) (L:Array Bool) (w:World),ops=pick l ss→Ge l ss L=true→ay F w0 w→Rows w rs→(rs.map (·.1)).Nodup→(∀ b∈rs.map (·.1),b∈F)→(∀ w',ay (rs.map (·.1)) w w'→Rows w' vO→Q .normal r w')→Hw P n l Q (ay F w0) ss.length L r w:=by
 induction h with
 | nil=>
  intro ss L w ho hc hC hR hn hF hk
  cases ss with
  | cons i ss=>cases ho
  | nil=>
   exact Hw.done (by simpa [Ge] using hc) (hk w (ay.refl _ _) hR)
 | @cons n' t ty e x y b u us cs ds pos ai ops rs vO ht hx hy DR hn hsg hon _ ih=>
  intro ss L w ho hc hC hR dx hF hk
  cases ss with
  | nil=>cases ho
  | cons i ss=>
   unfold Ge at hc
   simp only [Bool.and_eq_true] at hc
   obtain ⟨⟨c1,c2⟩,c3⟩:=hc
   have ch:l.getD i default = ⟨none,.store t x y,ty,pos,ai,none⟩∧ops=pick l ss:=by
    unfold pick at ho
    rw [List.map_cons,List.cons.injEq] at ho
    exact ⟨ho.1.symm,ho.2⟩
   have hi:=Gf c1
   rw [ch.1] at hi
   obtain ⟨ti,q1,q2⟩:=ht.h
   have bj:Row w b cs e:=hR (b,cs,e) (by simp)
   obtain ⟨e1,e2⟩:=hsg.eq
   have hSw:=hSA w hC
   have nm:=wX (P:=P) (d:=none) (ty:=ty) (pos:=pos) (ai:=ai) (gg:=none) q1 (by rw [hn,q2]) bj e1 (bI ha hx) (y:=y) (by rw [bI ha hy]; exact DR.eq hSw) (hon.one hSw)
   have vH:=setRow_heap w b cs.toArray (cs.take 0++us++cs.drop (0+us.length)).toArray e _ bj
   have CE:ay [b] w (w.setRow b (cs.take 0++us++cs.drop (0+us.length)).toArray):=⟨rfl,rfl,rfl,Nat.le_refl _,by simp,fun j _ hj=>setRow_other w b j _ fun h=>hj (by simp [h])⟩
   have hC2:=hC.trans (CE.mono fun b' cu=>by rw [List.mem_singleton.1 cu]; exact hF b (by simp))
   rw [List.map_cons,List.nodup_cons] at dx
   refine Hw.step hd hi (by simpa using c2) rfl nm hC2 (ih ss _ _ ch.2 c3 hC2 (fun p hp=>(hR p (List.mem_cons_of_mem _ hp)).fk CE fun hb=>dx.1 ?_) dx.2 (fun b' cu=>hF b' (by simp at cu ⊢; exact .inr cu)) fun w' Iw hR'=>?_)
   ·rw [← List.mem_singleton.1 hb]; exact List.mem_map_of_mem (f:=fun q=>q.1) hp
   ·refine hk w' ((CE.mono (by simp)).trans (Iw.mono fun b' cu=>List.mem_cons_of_mem _ cu)) fun p hp=>?_
    rcases List.mem_cons.1 hp with rfl | hp
    ·refine Row.fk (F:=rs.map (·.1)) ?_ Iw dx.1
     rw [e2]
     exact vH
    ·exact hR' p hp
theorem SQ.fst {fr:Fr} {ops:LO} {rs vO:List (Nat×List Value×TypeId)} (h:SQ P Γ fr ops rs vO):vO.map (·.1)=rs.map (·.1):=by
 induction h with
 | nil=>rfl
 | cons _ _ _ _ _ _ _ ih=>simp only [List.map_cons,ih]
end
section
variable {R S:Type} {P:Program} {cx:Cx R} {K:dq R S} {l:LO}
end
theorem Hw.all {P:Program} {n k:Nat} {l:LO} {Q:Exit→(Nat→Value)→World→Prop} {S:World→Prop} {L:Array Bool} {rs:LN} {r:NV} {w:World} (hd:dj n l=true) (hr:Region.ready .any l.toArray L=rs) (q9:rs≠[])
  (h:∀ i∈rs,∃ o,l[i]? = some o∧o.guard=none∧∃ v w',((execOp (ev r) o).run P w = .ok (.value v) w'∨(execOp (ev r) o).run P w = .ok .skip w'∧v=undef)∧S w'∧Hw P n l Q S k (L.setIfInBounds i true) (gw r o.dst v) w'):Hw P n l Q S (k+1) L r w:=by
 intro a h1 h2 h3
 refine wpAnyH_all hr q9 fun j hj=>?_
 obtain ⟨o,hi,hg,v,w',hy,hS,hk⟩:=h j hj
 unfold wpOp
 rw [show (l.toArray)[j]? = some o by simpa using hi]
 simp only []
 rw [if_pos (uw hg)]
 refine .inl ?_
 unfold Oper.wp
 rw [ru,h3]
 rcases hy with hy | ⟨hy,rfl⟩
 ·rw [hy]
  exact ⟨hS,hk _ (by rw [j8]; exact h1) (by rw [ic]; exact h2) (by rw [l7 (E2 hd hi h1),h3])⟩
 ·rw [hy]
  exact ⟨hS,hk _ (by rw [j8]; exact h1) (by rw [ic]; exact h2) (by rw [l7 (E2 hd hi h1),h3])⟩
def on (L:Array Bool) (i:Nat):Array Bool:=L.setIfInBounds i true
def DP (l:LO) (L:Array Bool) (rs:LN):Bool:=Region.ready .any l.toArray L == rs
inductive I4 (P:Program) (Γ:QE) (fr:Fr) (d:Nat):Oper→Oper→TypeId→List Value→Prop
 | mk {t ty WB:TI} {y:OO} {u:Value} {n:Nat} {us cs ds:LV} {pos Qm:String} {ai Qn:Array Edge} [hz:Ch P t cs] [ht:xd P t n] (hn:look fr d=none) (hy:cb fr y=some u) (hc:s6 Γ u us) (hl:us.length=n) (hs:u5 us 0 cs ds) (ho:wx Γ us) :
   I4 P Γ fr d ⟨some d,.alloc t,ty,pos,ai,none⟩ ⟨none,.store t (.tmp d) y,WB,Qm,Qn,none⟩ t ds
section
variable {P:Program} {Γ:QE} {Z:Nat→Prop} {fr:Fr} {w:World} {cur F:LN}
theorem I4.alloc {d:Nat} {oa os:Oper} {t:TI} {ds:LV} (h:I4 P Γ fr d oa os t ds) (r:NV) (w:World):oa.guard=none∧oa.dst=some d∧look fr d=none∧∃ cs w',(execOp (ev r) oa).run P w = .ok (.value (.pointer (some ⟨w.heap.size,0,none⟩))) w'∧ay [] w w'∧Row w' w.heap.size cs t∧
  ∀ (r':NV) (w1:World) (b:Nat) cur F,SA Z w1 Γ cur F→di r' fr→r' d = .pointer (some ⟨b,0,none⟩)→Row w1 b cs t→∃ w2,(execOp (ev r') os).run P w1 = .ok .skip w2∧ay [b] w1 w2∧Row w2 b ds t:=by
 cases h with
 | @mk t ty WB y u n us cs ds pos Qm ai Qn hz ht hn hy hc hl hs ho=>
  obtain ⟨i',z,t1,t2,t3⟩:=hz.h
  refine ⟨rfl,rfl,hn,z.cells.toList,_,Eh t1 t2,ay.alloc _ _ _,?_,?_⟩
  ·have:=heap_alloc_new w (.cells z.cells t (0,0))
   unfold Row
   simpa using this
  ·intro r' w1 b cur F hS ha hr bj
   rw [t3] at bj
   obtain ⟨ti,q1,q2⟩:=ht.h
   obtain ⟨e1,e2⟩:=hs.eq
   have nm:=wX (P:=P) (d:=none) (ty:=WB) (pos:=Qm) (ai:=Qn) (gg:=none) q1 (by rw [hl,q2]) bj e1 (x:=.tmp d) hr (y:=y) (by rw [bI ha hy]; exact hc.eq hS) (ho.one hS)
   refine ⟨_,nm,⟨rfl,rfl,rfl,Nat.le_refl _,by simp,fun j _ hj=>setRow_other w1 b j _ fun h=>hj (by simp [h])⟩,?_⟩
   have vH:=setRow_heap w1 b cs.toArray (cs.take 0++us++cs.drop (0+us.length)).toArray t _ bj
   rw [e2]
   exact vH
theorem I4.st {d:Nat} {oa os:Oper} {t:TI} {ds:LV} (h:I4 P Γ fr d oa os t ds):os.guard=none∧os.dst=none:=by
 cases h; exact ⟨rfl,rfl⟩
variable {n:Nat} {l:LO} {Q:Exit→(Nat→Value)→World→Prop} {w0:World} {F2:LN} {a1 a2 s1 s2 d1 d2:Nat} {oa1 oa2 os1 os2:Oper} {t1 t2:TI} {ds1 ds2:LV} {L:Array Bool} {r:NV}
end
section
variable {R S:Type} {P:Program} {cx:Cx R} {K:dq R S} {l:LO}
end
end Go.Dk
namespace Go.Dk
open Go Go.Li
def WC (i:Nat) (o:Oper):Oper:=⟨o.dst,o.op,o.type,o.pos,o.after.push ⟨i,.data⟩,o.guard⟩
def vp (i:Nat):Nat→List Oper→List Oper
 | _,[]=>[]
 | 0,o :: l=>WC i o :: l
 | j+1,o :: l=>o :: vp i j l
theorem Gg (i:Nat):∀ (j:Nat) (l:LO),(vp i j l).length=l.length
 | _,[]=>by cases ‹Nat› <;> rfl
 | 0,_ :: _=>rfl
 | j+1,o :: l=>by unfold vp; rw [List.length_cons,List.length_cons,Gg i j l]
theorem Dn (i:Nat):∀ (j:Nat) (l:LO) (k:Nat),(vp i j l)[k]? = (l[k]?).map fun o=>if k=j then WC i o else o
 | 0,[],k=>by simp [vp]
 | j+1,[],k=>by simp [vp]
 | 0,o :: l,0=>by simp [vp]
 | 0,o :: l,k+1=>by simp [vp]
 | j+1,o :: l,0=>by simp [vp]
 | j+1,o :: l,k+1=>by
  unfold vp
  rw [List.getElem?_cons_succ,List.getElem?_cons_succ,Dn i j l k]
  simp
section
variable {P:Program} {l:LO} {Q:Exit→Act→World→Prop} {i j:Nat}
theorem KA (tmps:Array Value):yielded (vp i j l).toArray tmps=yielded l.toArray tmps:=by
 funext k
 simp only [yielded]
 rw [List.getElem?_toArray,List.getElem?_toArray,Dn]
 cases l[k]? with
 | none=>rfl
 | some o=>
  simp only [Option.map_some,Option.bind_some]
  by_cases h:k=j
  ·rw [if_pos h]; rfl
  ·rw [if_neg h]
theorem I5 {k:Nat} {K:Act→World→Prop} {a:Act} {w:World}:wpOp P (vp i j l).toArray Q k K a w=wpOp P l.toArray Q k K a w:=by
 unfold wpOp
 rw [KA,List.getElem?_toArray,List.getElem?_toArray,Dn]
 cases l[k]? with
 | none=>rfl
 | some o=>
  simp only [Option.map_some]
  by_cases h:k=j
  ·rw [if_pos h]; rfl
  ·rw [if_neg h]
theorem G5 {L:Array Bool} (hL:L.getD i false=true):Region.ready .any (vp i j l).toArray L=Region.ready .any l.toArray L:=by
 unfold Region.ready
 rw [List.size_toArray,List.size_toArray,Gg]
 refine List.filter_congr fun k _=>?_
 rw [List.getElem?_toArray,List.getElem?_toArray,Dn]
 cases l[k]? with
 | none=>rfl
 | some o=>
  simp only [Option.map_some]
  by_cases h:k=j
  ·rw [if_pos h]
   simp only [WC,Array.all_push,hL,Bool.or_true,Bool.and_true]
  ·rw [if_neg h]
theorem G6:∀ (fuel:Nat) (L:Array Bool) (a:Act) (w:World),L.getD i false=true→wpAny P .any (vp i j l).toArray Q fuel L a w→wpAny P .any l.toArray Q fuel L a w
 | 0,L,a,w,hL,h=>by
  unfold wpAny at h ⊢
  rw [G5 hL] at h
  exact h
 | fuel+1,L,a,w,hL,h=>by
  unfold wpAny at h ⊢
  rw [G5 hL] at h
  refine ⟨h.1,fun k hk=>?_⟩
  have h2:=h.2 k hk
  rw [I5] at h2
  exact wpOp_mono (fun a' w' h'=>G6 fuel _ a' w' (getD_set_true hL) h') h2
end
def WD:Oper→Bool
 | ⟨some _,.move _,_,_,_,none⟩=>true
 | _=>false
def MB:List (Nat×Nat)→List Oper→Bool
 | [],_=>true
 | (i,j) :: zs,l=>!(Nat.beq i j) && Nat.blt i l.length && WD (l.getD i default) && Region.noSelect l.toArray && Region.free .any l.toArray (Array.replicate l.length false) i && (Region.ready .any l.toArray (Array.replicate l.length false)).contains i && (Region.ready .any (vp i j l).toArray (Array.replicate l.length false)).contains i && MB zs (vp i j l)
def Qo:List (Nat×Nat)→List Oper→List Oper
 | [],l=>l
 | (i,j) :: zs,l=>Qo zs (vp i j l)
section
variable {P:Program} {n:Nat} {Q:Exit→(Nat→Value)→World→Prop} {r:NV} {w w0:World}
theorem Un {o:Oper} (h:WD o=true) (a:Act):o.guard=none∧∃ v,(∀ w,(execOp a.eval o).run P w = .ok (.value v) w)∧∀ w,¬ o.asks P a w:=by
 obtain ⟨d,op,ty,pos,ai,g⟩:=o
 cases d <;> cases op <;> cases g <;> first | (cases h; done) | skip
 refine ⟨rfl,_,fun w=>rfl,fun w ha=>?_⟩
 have h1:=ha.1
 exact absurd (show noRoomEvent∈(#[]:Array _) from h1) (by simp)
theorem mx.ab9 {i j:Nat} {l:LO} (h1:(!(Nat.beq i j) && Nat.blt i l.length && WD (l.getD i default) && Region.noSelect l.toArray && Region.free .any l.toArray (Array.replicate l.length false) i && (Region.ready .any l.toArray (Array.replicate l.length false)).contains i && (Region.ready .any (vp i j l).toArray (Array.replicate l.length false)).contains i)=true)
  (hp:∀ c r w,¬ Q (.panic c) r w) (h:mx P n (vp i j l) Q r w):mx P n l Q r w:=by
 simp only [Bool.and_eq_true] at h1
 obtain ⟨⟨⟨⟨⟨⟨c1,c2⟩,c3⟩,c4⟩,c5⟩,c6⟩,c7⟩:=h1
 have q9:i≠j:=fun e=>by rw [e,Nat.beq_refl] at c1; cases c1
 have hi:=Gf c2
 have bp:i < l.length:=Nat.lt_of_succ_le (Nat.le_of_ble_eq_true c2)
 intro a g1 g2 g3
 have H:=h a g1 g2 g3
 obtain ⟨hg,v,hv,hn⟩:=Un (P:=P) c3 a
 rw [List.size_toArray,Gg] at H
 rw [List.size_toArray]
 obtain ⟨f,hf⟩ : ∃ f,l.length=f+1:=⟨l.length - 1,by omega⟩
 have hw:Region.wanted (l.getD i default) (yielded l.toArray a.tmps)=true:=uw hg
 refine (congrArg (fun k=>wpAny P .any l.toArray _ k _ a _) hf).mpr ?_
 refine wpAny_take (by simpa using hi) c4 (by simpa using c5) (by simpa using c6) (fun c a w h=>(hp _ _ _ h.2.2).elim) (.inl ⟨hw,hv⟩) ?_
 refine G6 (i:=i) (j:=j) f _ _ _ ?_ ?_
 ·have:i < (Array.replicate l.length false).size:=by simpa using bp
  simp [Array.getD,bp]
 ·have H2:=(congrArg (fun k=>wpAny P .any (vp i j l).toArray (fun e a' w'=>a'.tmps.size=n∧a'.defers=[]∧Q e (cn a') w') k (Array.replicate l.length false) a { w with drawn:=w.drawn+1 }) hf).mp H
  have H3:=H2.2 i (by simpa using c7)
  rw [I5] at H3
  unfold wpOp at H3
  rw [show (l.toArray)[i]? = some (l.getD i default) by simpa using hi] at H3
  simp only [] at H3
  rw [if_pos hw] at H3
  rcases H3 with H3 | H3
  ·unfold Oper.wp at H3
   rw [hv] at H3
   exact H3
  ·exact absurd H3.1 (hn _)
theorem mx.S6:∀ (zs:List (Nat×Nat)) {l:LO},MB zs l=true→(∀ c r w,¬ Q (.panic c) r w)→mx P n (Qo zs l) Q r w→mx P n l Q r w
 | [],_,_,_,h=>h
 | (i,j) :: zs,l,hc,hp,h=>by
  unfold MB at hc
  rw [Bool.and_eq_true] at hc
  exact mx.ab9 hc.1 hp (mx.S6 zs hc.2 hp h)
theorem Ol (k:Nat) {l:LO} (hd:dj n l=true) (hp:((l.take k).all fun o=>yD o.op)=true) (hB:Region.lexTailB .any l.toArray k=true)
  (h:QL P (ay [] w) l (l.take k) r fun r'=>∀ w',ay [] w w'→WL P l (l.drop k) r' w' (Q .normal)):mx P n l Q r w:=by
 intro a h1 h2 h3
 have CE:ay [] w { w with drawn:=w.drawn+1 }:=ay.drew _ _
 have s8:wpStill P l.toArray { w with drawn:=w.drawn+1 } (fun a'=>wpList P l.toArray (fun e a' w'=>a'.tmps.size=n∧a'.defers=[]∧Q e (cn a') w') (l.drop k) a' { w with drawn:=w.drawn+1 }) (l.take k) a:=by
  refine QL.still (n:=n) (C:=ay [] w) CE hd (l.take k) a (By hd fun o ho=>List.mem_of_mem_take ho) hp h1 h2 (by rw [h3]; exact h) _ ?_
  intro a' g1 g2 g3
  exact WL.list hd _ _ _ (By hd fun o ho=>List.mem_of_mem_drop ho) g1 g2 (g3 _ CE)
 unfold Region.lexTailB at hB
 simp only [Bool.and_eq_true,decide_eq_true_eq,List.size_toArray] at hB
 obtain ⟨⟨⟨⟨aca,hn⟩,hs⟩,hc⟩,Qe⟩:=hB
 have S7:(l.take k).length=k:=by rw [List.length_take]; omega
 have acb:HeadInv .any l.toArray k (Array.replicate l.length false):=
  ⟨by simp,fun j oj _ hl=>(by rw [getD_replicate_false] at hl; cases hl),fun t _ ht=>getD_in (by simpa using ht) (getD_replicate_false _ _)⟩
 have H:=wpAnyL_lex (md:=.any) (g:=l.length - k) aca hs hc (by simpa using hn) (l.take k) 0 _ a (fun j hj=>by
  rw [S7] at hj
  rw [List.getElem?_take_of_lt hj,Nat.zero_add,List.getElem?_toArray]) (by rw [S7,Nat.zero_add]) acb (by rw [S7]; exact Qe) s8
 have H2:=wpAny_of_head (Q':=fun e a' w'=>a'.tmps.size=n∧a'.defers=[]∧Q e (cn a') w') (g:=l.length - k) (fun L a' hL=>by
  have H3:=wpAny_of_seq (md:=.any) (Q':=fun e a' w'=>a'.tmps.size=n∧a'.defers=[]∧Q e (cn a') w') (l.drop k) k L a' { w with drawn:=w.drawn+1 } (fun j=>by rw [List.getElem?_drop,List.getElem?_toArray]) (by rw [List.length_drop]; exact hL.1) hL.2
  rwa [List.length_drop] at H3) _ _ _ H
 rw [S7,show k+(l.length - k)=l.length by omega] at H2
 rw [List.size_toArray]
 exact H2
end
section
variable {R S:Type} {P:Program} {cx:Cx R} {K:dq R S}
theorem S8 {id:Nat} (zs:List (Nat×Nat)) (k:Nat) {l l' ops tl:LO} {Γ:QE} {fr:Fr} {m:Option (Out S R)} (hl:l'=Qo zs l) (hB:(P.follows .mixedOrders && MB zs l && dj cx.n l' && ((l'.take k).all fun o=>yD o.op) && Region.lexTailB .any l'.toArray k)=true) (ho:ops=l'.take k) (ht:tl=l'.drop k)
  (h:D P cx (.o true l' ops (.h l' tl K) Γ fr m)):Bx (qj P cx (.dr id l K Γ fr m)):=by
 simp only [Bool.and_eq_true] at hB
 obtain ⟨⟨⟨⟨h1,h2⟩,h3⟩,h4⟩,h5⟩:=hB
 subst ho ht hl
 rw [rm]
 intro B o ho r w ha hs
 exact mx.W h1 (mx.S6 zs h2 (fun c r w h=>Ai c h) (Ol k h3 h4 h5 (h.sound B o ho r w ha hs)))
end
end Go.Dk
namespace Go.Dk
open Go Go.Li
section
variable {B:Bs} {P:Program} {Z Z':Nat→Prop} {w:World} {Fd F1:LN}
end
section
variable {P:Program} {S:World→Prop}
theorem DU.mono {K K':(Nat→Value)→Prop} (hk:∀ r,K r→K' r):∀ {ops:LO} {r:NV},DU P S ops r K→DU P S ops r K'
 | [],_,h=>hk _ h
 | _ :: _,_,⟨hg,v,h1,h2⟩=>⟨hg,v,h1,DU.mono hk h2⟩
end
inductive QX {R S:Type} (P:Program) (cx:Cx R) (K:dq R S) (u6:LO) (rs:List (Nat×List Value×TypeId)) (pe:QE):List aX→List aX→List Oper→Fr→Option (Out S R)→Prop
 | pe {e:aX} {Δ Γ:QE} {ops:LO} {fr:Fr} {m:Option (Out S R)} (h:QX P cx K u6 rs pe Δ (e :: Γ) ops fr m):QX P cx K u6 rs pe (e :: Δ) Γ ops fr m
 | nil {Γ:QE} {fr:Fr} {m:Option (Out S R)} {vO:List (Nat×List Value×TypeId)} (h:SQ P Γ fr u6 rs vO) (k:D P cx (.p [] pe fr Γ fun fr Γ=>.p [] (MA vO) fr Γ fun fr Γ=>.n K Γ fr m)):QX P cx K u6 rs pe [] Γ [] fr m
 | NL {d n:Nat} {t ty:TI} {x:OO} {a:Addr} {ds:LV} {pos:String} {ai:Array Edge} {ops:LO} {Γ:QE} {fr:Fr} {m:Option (Out S R)} [ht:LK P t (some n)] (hx:cb fr x=some (.pointer (some a))) (hw:wy Γ a n ds) (h:QX P cx K u6 rs pe [] Γ ops ((d,.agg ds.toArray) :: fr) m) :
   QX P cx K u6 rs pe [] Γ (⟨some d,.load t x,ty,pos,ai,none⟩ :: ops) fr m
 | H8 {α V:Type} {d n:Nat} {x y:OO} {v:Value} {k:IntKind} {j:Int} {t ty:TI} {S':an α} {cl:α→V→List Value} {en:α→V→List aX} {xs:List α} {pos:String} {ai:Array Edge} {ops:LO} {Γ Γx:QE} {fr:Fr} {f:α→Option (Out S R)} [ht:H0 P t n] (hx:cb fr x=some v) (hy:cb fr y=some (.int k j))
   (hr:qh Γ v false false (rj S') xs vi Γx) (hs:GK S' V cl en) (hn:S'.size=n) (h:∀ z u,QX P cx K u6 rs pe (.bn (dg v n j) (cl z u) :: en z u) Γ ops ((d,.pointer (some (dg v n j))) :: fr) (f z)) :
   QX P cx K u6 rs pe [] Γ (⟨some d,.indexAddr t x y,ty,pos,ai,none⟩ :: ops) fr (idx xs j>>=f)
 | lc {d:Nat} {t ty:TI} {x:OO} {a:Addr} {u:Value} {pos:String} {ai:Array Edge} {ops:LO} {Γ:QE} {fr:Fr} {m:Option (Out S R)} [ht:LK P t none] (hx:cb fr x=some (.pointer (some a))) (hw:wq Γ a u) (h:QX P cx K u6 rs pe [] Γ ops ((d,u) :: fr) m) :
   QX P cx K u6 rs pe [] Γ (⟨some d,.load t x,ty,pos,ai,none⟩ :: ops) fr m
 | val {d:Nat} {op:Op} {ty:TI} {u:Value} {pos:String} {ai:Array Edge} {ops:LO} {Γ:QE} {fr:Fr} {m:Option (Out S R)} (hv:VQ P Γ fr op u) (h:QX P cx K u6 rs pe [] Γ ops ((d,u) :: fr) m):QX P cx K u6 rs pe [] Γ (⟨some d,op,ty,pos,ai,none⟩ :: ops) fr m
section
variable {R S:Type} {P:Program} {cx:Cx R} {K:dq R S} {u6:LO} {rs:List (Nat×List Value×TypeId)} {pe:QE} {Z:Nat→Prop}
theorem QX.sound {w0:World} {H:LN} (hz:∀ b∈H,¬ Z b) {Δ Γ:QE} {ops:LO} {fr:Fr} {m:Option (Out S R)} (h:QX P cx K u6 rs pe Δ Γ ops fr m):∀ {o:Out S R} {F:LN},m=some o→(∀ b∈H,b ∉ F)→SA Z w0 (Δ.reverse++Γ) [] F→∀ r,di r fr→
  DU P (ay H w0) ops r fun r'=>∃ Γ' ql vO m' F',F'.Perm F∧m'=some o∧di r' ql∧SA Z w0 Γ' [] F'∧SQ P Γ' ql u6 rs vO∧D P cx (.p [] pe ql Γ' fun fr Γ=>.p [] (MA vO) fr Γ fun fr Γ=>.n K Γ fr m'):=by
 induction h with
 | @pe e Δ Γ ops fr m _ ih=>
  intro o F hm hF hS r ha
  refine ih hm hF ?_ r ha
  rw [List.reverse_cons,List.append_assoc] at hS
  exact hS
 | @nil Γ fr m vO h k=>exact fun hm hF hS r ha=>⟨Γ,fr,vO,m,_,.refl _,hm,ha,hS,h,k⟩
 | @val d op ty u pos ai ops Γ fr m hv _ ih=>
  intro o F hm hF hS r ha
  refine ⟨rfl,u,fun w hC=>?_,ih hm hF hS _ (ba ha)⟩
  exact hv.sound ((SA.fk hC hz (fun _ _=>List.not_mem_nil) hF hS)) ha (some d) ty pos ai none w (ay.refl _ _)
 | @NL d n t ty x a ds pos ai ops Γ fr m ht hx hw _ ih=>
  intro o F hm hF hS r ha
  refine ⟨rfl,_,fun w hC=>?_,ih hm hF hS _ (ba ha)⟩
  obtain ⟨h1,h2⟩:=hw.sound (SA.fk hC hz (fun _ _=>List.not_mem_nil) hF hS)
  exact Lg ht.h h1 (bI ha hx) h2 w (ay.refl _ _)
 | @lc d t ty x a u pos ai ops Γ fr m ht hx hw _ ih=>
  intro o F hm hF hS r ha
  refine ⟨rfl,u,fun w hC=>?_,ih hm hF hS _ (ba ha)⟩
  exact Ld ht.h (hw.sound (SA.fk hC hz (fun _ _=>List.not_mem_nil) hF hS)) (bI ha hx) w (ay.refl _ _)
 | @H8 α V d n x y v k j t ty S' cl en xs pos ai ops Γ Γx fr f ht hx hy hr qi hn _ ih=>
  intro o F hm hF hS r ha
  replace qi:SO S' V cl en:=by cases qi; assumption
  obtain ⟨z,Om,hm⟩:=bind_some hm
  replace Om:=qa Om
  obtain ⟨e,i,h1,h2,h3⟩:=ht.h
  obtain ⟨dv,_,⟨⟨f0,GN,zG⟩,_⟩,_⟩:=hr.sound hS
  have hZ:∀ b∈f0,Z b:=fun b hb=>(zG b hb).elim id id
  obtain ⟨⟨a,c,hv⟩,bp,cs,f1,ei,NR,kz⟩:=wF GN j Om.1 Om.2
  have xc:(rj S').size=n:=hn
  rw [xc] at kz
  obtain ⟨u,rfl,pj⟩:=qi.op ei.2
  have hblk:Z (dg v n j).block:=by
   obtain ⟨base,cap,n7,ig⟩:=GN
   rcases ig with ⟨rfl,_⟩ | ⟨b,off,cr,e',fz,f',rfl,_,rfl,_⟩
   ·simp at bp; omega
   ·obtain rfl:v = .slice (some ⟨b,off,none⟩) xs.length cap:=by simpa using n7
    have:(dg (.slice (some ⟨b,off,none⟩) xs.length cap) n j).block=b:=by unfold dg; rw [w9]
    rw [this]; exact hZ b (by simp)
  have Ii:fact Z w0 [] (.bn (dg v n j) (cl z u)):=⟨fun i u' hi=>kz i u' hi,fun _=>hblk⟩
  have ew:HL Z w0 (.bn (dg v n j) (cl z u) :: en z u) []:=.fact Ii (wD (pj Z fun b hb=>hZ b (NR b hb)))
  obtain ⟨F',hp,jo⟩:=ew.build hS
  have hpF:F'.Perm F:=by simpa using hp
  refine ⟨rfl,.pointer (some (dg v n j)),fun w hC=>?_,?_⟩
  ·rw [l5 h1 h2 ((bI ha hx).trans hv) (bI ha hy) Om.1 (by omega),h3,hv]
   rfl
  ·have hq:=ih z u (F:=F') hm (fun b hb h=>hF b hb (hpF.mem_iff.1 h)) jo _ (ba ha)
   refine DU.mono ?_ hq
   rintro r' ⟨Γ',ql,vO,m',F3,q0,q1,q2,q3,q4,q5⟩
   exact ⟨Γ',ql,vO,m',F3,q0.trans hpF,q1,q2,q3,q4,q5⟩
end
theorem FO.hl {Z:Nat→Prop} {w:World} {Δ:QE} (h:FO Δ):∀ {F:LN},HL Z w Δ F→F=[]:=by
 induction h with
 | nil=>intro F h; cases h; rfl
 | rd _ ih=>intro F h; cases h with | own h k=>exact h.elim | fact h k=>exact ih k
 | bn _ ih=>intro F h; cases h with | own h k=>exact h.elim | fact h k=>exact ih k
section
variable {P:Program} {n:Nat} {l:LO} {Q:Exit→(Nat→Value)→World→Prop} {S:World→Prop}
end
section
variable {R S:Type} {P:Program} {cx:Cx R} {K:dq R S} {l:LO}
end
theorem St.acd {α:Type} {E:an α} {T:an (List α)} {v:Value} {x:List α} {B:Bs} {Γ Γ1:QE} {w:World} (h1:ee Γ (.own T v x) Γ1) (hr:RT T (bH E)) (hs:St B Γ w):St B (.rd false (bH E) v x :: Γ1) w:=by
 obtain ⟨Z,F,hS,hG⟩:=hs
 obtain ⟨f,F',hp,_,jo⟩:=(EG.own (E:=E) h1 hr).sound hS
 have n5:(F'++f).Perm F:=List.perm_append_comm.trans hp
 exact ⟨_,F',jo,Gd.freeze (hG.perm n5) fun b hb=>hS.lt b (hp.mem_iff.1 (List.mem_append_left _ hb))⟩
section
variable {R:Type} {P:Program} {cx:Cx R}
theorem ace {M α β:Type} {d b:Nat} {s x:OO} {sv u:Value} {T:an (List β)} {E1:an β} {y:List β} {t e e' ty:TI} {E:an α} {bt:Nat} {all l:LO} {rk:RK R M} {Γ Γ1:QE} {fr:Fr} {m:Option M} (h1:ee Γ (.own T u y) Γ1) (hr:RT T (bH E1))
  (h:D P cx (.ND false e' E e t bt u b sv s x d ty all l rk (.rd false (bH E1) u y :: Γ1) fr m)):D P cx (.ap (aL e' E) e t bt u b sv s x d ty all l rk Γ fr m):=by
 refine D.of ?_
 intro q1 q2 q3 B o ho r w ha hs
 exact h.sound q1 q2 q3 B o ho r w ha (St.acd h1 hr hs)
end
end Go.Dk
namespace Go.Li
open Go
section
variable {P:Program} {n:Nat} {Q:Exit→(Nat→Value)→World→Prop} {r:NV} {w:World} {R:Type}
end
end Go.Li
namespace Go.Dk
open Go Go.Li
section
variable {R:Type} {P:Program} {cx:Cx R} {S:Type}
section
variable {S1 V:Type} {k j:Nat} {Δ:S1→V→List aX} {φ:S1→V→Fr} {Γ2 Γ Γ1 Γ3:QE} {f2 fr:Fr} {s:S1} {v:V} (hv:vD V v) (ha:sg fr (φ s v)) (hf:sg fr f2) (h0:EO Γ (Δ s v) Γ1) (hw:OW Γ (Δ s v)) (h1:EO Γ1 Γ2 Γ3) (h2:MF Γ none Γ2)
include hv ha hf h0 hw h1 h2
end
end
abbrev rI:Value→List Int→aX:=.rd false (bH (aN .i64))
abbrev rJ:Value→List (List Int)→aX:=.rd false (bH (bH (aN .i64)))
class FE (p:Prop):Prop where
 u:True
instance {o:Bool} {a b:QE}:FE (ER o a b):=⟨trivial⟩
instance {a:QE} {b:LV}:FE (wx a b):=⟨trivial⟩
instance {a b c:QE}:FE (EF a b c):=⟨trivial⟩
instance {a b c:QE}:FE (EO a b c):=⟨trivial⟩
instance {a b:QE}:FE (EP a b):=⟨trivial⟩
instance {a c d:LV} {b:Nat}:FE (u5 a b c d):=⟨trivial⟩
instance {a b:Nat} {c d:LV}:FE (vE a b c d):=⟨trivial⟩
instance {a:LN} {b:Option (Bool×Nat×Value)} {c d:Fr}:FE (Kp a b c d):=⟨trivial⟩
instance {V:Type} {v:V}:FE (vD V v):=⟨trivial⟩
instance {a:QE} {b:Addr} {c:Nat} {d:LV}:FE (wy a b c d):=⟨trivial⟩
theorem fe {p:Prop} [FE p] (h:p):p:=h
end Go.Dk
namespace Go.Dk
open Go Go.Li
def yK (j:Nat) (b:Bool) (o:Oper):Oper:=
 match o.guard with
 | none=>o
 | some (j',p)=>bif Nat.beq j' j && (p == b) then ⟨o.dst,o.op,o.type,o.pos,o.after,none⟩ else o
def mz (j:Nat) (b:Bool) (l:LO):List Oper:=l.map (yK j b)
def I6 (l:LO) (j:Nat):Bool:=(List.range l.length).all fun i=>match (l.getD i default).guard with | none=>true | some (j',_)=>Nat.beq j' j && ((cc l).getD i []).contains j
section
variable {j:Nat} {b:Bool} {l:LO}
theorem Qp (o:Oper):(yK j b o).dst=o.dst:=by
 unfold yK
 split
 ·rfl
 ·cases Nat.beq _ j && (_ == b) <;> rfl
theorem MC (o:Oper):(yK j b o).after=o.after:=by
 unfold yK
 split
 ·rfl
 ·cases Nat.beq _ j && (_ == b) <;> rfl
theorem Qq {P:Program} {o:Oper} {r:NV} {w:World} {K:Value→World→Prop}:fw P (yK j b o) r w K=fw P o r w K:=by
 obtain ⟨d,op,ty,pos,ai,g⟩:=o
 unfold yK
 split
 ·rfl
 ·cases Nat.beq _ j && (_ == b) <;> rfl
theorem Lq (i:Nat):(mz j b l)[i]? = (l[i]?).map (yK j b):=by unfold mz; rw [List.getElem?_map]
theorem ua:(mz j b l).length=l.length:=by unfold mz; rw [List.length_map]
theorem ym (i:Nat):bw (mz j b l) i=bw l i:=by
 unfold bw
 rw [Lq]
 cases l[i]? with
 | none=>rfl
 | some o=>exact Qp o
theorem u7:cc (mz j b l)=cc l:=by
 unfold cc mz
 rw [List.foldl_map]
 congr 1
 funext acc o
 unfold lr
 rw [MC]
theorem WE (r:NV):yl (mz j b l) r=yl l r:=by
 funext i
 have h:=ym (j:=j) (b:=b) (l:=l) i
 unfold bw at h
 unfold yl
 rw [h]
theorem I7 {S:List fv} {k:Nat} {g:Nat→List Nat} {r:NV} {w:World}:vJ (mz j b l) S k g r w=vJ l S k g r w:=by unfold vJ; rw [ym]
theorem Gh {S:List fv} {k:Nat} {r:NV}:Old (mz j b l) S k r=Old l S k r:=by unfold Old; rw [ym]
theorem G7 {U:LL} {m i k:Nat}:rq (mz j b l) U m i k=rq l U m i k:=by unfold rq; rw [u7]
theorem Oo {U:LL} {m i:Nat}:wY (mz j b l) U m i=wY l U m i:=by unfold wY; rw [u7,ua]
theorem Qr {U:LL} {m:Nat}:kp (mz j b l) U m=kp l U m:=by
 unfold kp
 rw [ua]
 refine List.map_congr_left fun i _=>?_
 congr 1
 funext k
 exact G7
theorem iH.pas {P:Program} {m:Nat} {S:List fv} {U:LL} {r0:NV} {w0:World} {H:LN} {i d:Nat} (h:iH P (mz j b l) m S U r0 w0 H i) (hg:I6 l j=true) (hd:bw l j=some d)
  (hk:j∈(cc l).getD i []→∀ r,(∀ k∈(cc l).getD i [],Old l S k r)→r d = .bool b):iH P l m S U r0 w0 H i:=by
 intro o s ho hs g r w hC hV lj hn kn p4 hf
 unfold iH at h
 simp only [u7,ua,Oo,G7,I7,Gh,ym,WE] at h
 have h2:=h (yK j b o) s (by rw [Lq,ho]; rfl) hs g r w hC hV lj hn kn p4 hf
 rw [Qq] at h2
 have hgo:match o.guard with | none=>True | some (j',_)=>j'=j∧j∈(cc l).getD i []:=by
  unfold I6 at hg
  rw [List.all_eq_true] at hg
  have hi:=(List.getElem?_eq_some_iff.1 ho).1
  have:=hg i (List.mem_range.2 hi)
  rw [List.getD_eq_getElem?_getD,ho] at this
  simp only [Option.getD_some] at this
  revert this
  cases o.guard with
  | none=>exact fun _=>trivial
  | some q=>
   intro this
   simp only [Bool.and_eq_true] at this
   exact ⟨Nat.eq_of_beq_eq_true this.1,by simpa using this.2⟩
 have hw:Region.wanted o (yl l r)=Region.wanted (yK j b o) (yl l r):=by
  obtain ⟨d',op,ty,pos,ai,gd⟩:=o
  cases gd with
  | none=>rfl
  | some q=>
   obtain ⟨j',p⟩:=q
   obtain ⟨rfl,s9⟩ : j'=j∧j∈(cc l).getD i []:=hgo
   unfold yK
   dsimp only
   rw [Nat.beq_refl,Bool.true_and]
   cases hp:p == b with
   | false=>rfl
   | true=>
    obtain rfl:p=b:=eq_of_beq hp
    unfold Region.wanted
    dsimp only [cond_true]
    rw [Ma hd,hk s9 r lj]
    simp
 rw [hw]
 exact h2
end
section
variable {R S:Type} {P:Program} {cx:Cx R} {K:dq R S} {l:LO} {base fr:Fr} {w:World} {Z:Nat→Prop}
def mark (j d:Nat) (b:Bool):List Nat:=[j+1000000,d+1000000,(bif b then 1 else 0)+1000000]
theorem Qs {U:LL} {sl:LQ} {ms:MM} {j d:Nat} {b:Bool} (h:Ag (U++[mark j d b]) sl ms=true):(j,d,.bool b)∈sl:=by
 unfold Ag at h
 rw [Bool.and_eq_true] at h
 have h2:=h.2
 unfold gdB at h2
 have e:(U++[mark j d b]).getLastD []=mark j d b:=by simp [List.getLastD_eq_getLast?]
 rw [e] at h2
 have e2:Nat.ble 1000000 ((mark j d b).headD 0)=true:=Nat.ble_eq_true_of_le (by show 1000000≤j+1000000; omega)
 rw [e2,cond_true] at h2
 unfold SH mark at h2
 dsimp only at h2
 rw [Nat.add_sub_cancel,Nat.add_sub_cancel] at h2
 have:=GR h2
 have e3:Nat.beq ((bif b then 1 else 0)+1000000) 1000001=b:=by cases b <;> rfl
 rwa [e3] at this
theorem Qt {id j d:Nat} {b:Bool} {U:LL} {IK:QE} (hU:((List.range l.length).all fun i=>((U++[mark j d b]).getD i []).all fun u=>Nat.beq u l.length || ((cc l).getD i []).contains u)=true) (hh:l6 (mz j b l) l.length base=true) (hd:dj cx.n l=true) (hA:xK l l.length []=true) (hZ:DO l l.length []=true) (hg:I6 l j=true) (p4:bw l j=some d) {i:Nat} {sl:LQ} {ms:MM} {Γ:QE} {m:Option (Out S R)} (IL:Bd ms=true) (pj:Ag (U++[mark j d b]) sl ms=true)
  (h:∀ x:nv ms,D P cx (.p (Af sl (mF ms x)) (Cm ms x) base Γ fun fr Γ=>.tg false (Bb []) (mz j b l) [] K Γ fr m)):IG P cx K (mz j b l) l l.length (U++[mark j d b]) IK id base (.a [] [] i sl ms Γ m):=by
 rintro ⟨_,h2,h3⟩ B o ho r0 w0 H Z ha hs ⟨S',hl,hR,hO⟩
 have hi:S'.length=l.length:=by
  have:=congrArg List.length h2
  simp [ua] at this
  omega
 have V3:=hs
 obtain ⟨F,Hd,⟨Cs,Cu,wI,Cv⟩,hS,hG⟩:=hs
 have hm:=Qs pj
 have hO2:∀ k,k < l.length→iH P l l.length S' (U++[mark j d b]) r0 w0 H k:=fun k hk=>by
  refine iH.pas (hO k (by omega)) hg p4 fun s9 r hr=>?_
  refine hR.zJ (S2:=[]) hm fun q hq _=>?_
  rw [List.append_nil,Gh]
  rw [u7] at hq
  refine hr q (hq.elim (fun e=>e ▸ s9) fun e=>?_)
  have:=hR.t k q j
  rw [u7] at this
  exact this e s9
 refine N8 (N:=Z) (S:=S') (U:=U++[mark j d b]) (H:=H) hd hA hZ (fun c r w h=>Ai c h) (Nat.le_refl _) hi wI hU (fun b hb=>⟨hG.sy b hb,fun h=>hG.apart b (List.mem_append_left _ h) hb⟩) (fun i s hs=>?_) hO2 ?_
 ·have:=hR.s i s hs
  unfold NW at this
  rw [u7] at this
  simp only [ym] at this
  exact this
 intro g r w hI
 rw [List.drop_length]
 refine IJ (tail:=[]) hh IL pj h ho ha V3 hi hR g r w ?_
 obtain ⟨i1,i2,i3,i4,i5,i6,i7,i8,i9⟩:=hI
 exact ⟨i1,fun hk=>by rw [ua] at hk ⊢; exact i2 hk,by rw [ua]; exact i3,by rw [ua]; exact i4,fun k hk hn=>by rw [I7]; exact i5 k hk hn,fun k hk=>by rw [Gh]; exact i6 k hk,fun t ht=>i7 t fun k hk=>by rw [← ym (j:=j) (b:=b)]; exact ht k hk,by rw [ua]; exact i8,i9⟩
theorem S9 {id j d:Nat} {b:Bool} (U as:LL) {Γ:QE} {m:Option (Out S R)}
  (hB:(dj cx.n l && xK l l.length [] && DO l l.length [] && I6 l j && (kp l (U++[mark j d b]) l.length == as) && ((List.range l.length).all fun i=>((U++[mark j d b]).getD i []).all fun u=>Nat.beq u l.length || ((cc l).getD i []).contains u))=true)
  (p4:bw l j=some d) (hf:Kp (yy l) none fr base) (hh:l6 (mz j b l) l.length base=true)
  (h:AD false P cx K (mz j b l) [] base (U++[mark j d b]) [] (.a as (mz j b l) 0 [] [] Γ m)):∀ B o,m=some o→∀ r w,di r fr→St B Γ w→mx P cx.n l (lu P cx B K o) r w:=by
 simp only [Bool.and_eq_true] at hB
 obtain ⟨⟨⟨⟨⟨b2,b3⟩,b4⟩,b5⟩,b6⟩,b7⟩:=hB
 intro B o hm r w ha hs
 obtain ⟨Z,F,hS,hG⟩:=hs
 have hX:ui B Z [] Γ [] w:=⟨F,[],⟨rfl,fun b hb=>absurd hb List.not_mem_nil,fun b hb=>absurd hb List.not_mem_nil,List.nodup_nil⟩,hS,hG⟩
 refine AD.sound (id:=id) (mt:=l.length) hh (fun _ _ _ _ _ _ hs he h=>Qt b7 hh b2 b3 b4 b5 p4 hs he h) h
  ⟨by rw [List.drop_zero,Qr]; exact (eq_of_beq b6).symm,by rw [List.drop_zero,← ua (j:=j) (b:=b),List.take_length],Nat.zero_le _⟩ B o hm r w [] Z (hf.sound ha) hX ⟨[],rfl,⟨fun _ h=>absurd h List.not_mem_nil,fun _ h=>absurd h List.not_mem_nil,fun i s h=>by simp at h,List.nodup_nil,fun _ _ _ h1 h2=>by rw [u7] at h1 h2 ⊢; exact Bq l (GZ b3) h1 h2⟩,fun j hj=>absurd hj (Nat.not_lt_zero j)⟩
theorem acf {id:Nat} (j d:Nat) (U as:LL) {Γ:QE} {m1 m2:Option (Out S R)}
  (hB:(P.follows .mixedOrders && dj cx.n l && xK l l.length [] && DO l l.length [] && I6 l j && (kp l (U++[mark j d true]) l.length == as) && (kp l (U++[mark j d false]) l.length == as) && ((List.range l.length).all fun i=>((U++[mark j d true]).getD i []).all fun u=>Nat.beq u l.length || ((cc l).getD i []).contains u) && ((List.range l.length).all fun i=>((U++[mark j d false]).getD i []).all fun u=>Nat.beq u l.length || ((cc l).getD i []).contains u))=true)
  (p4:bw l j=some d) (hf:Kp (yy l) none fr base) (WG:l6 (mz j true l) l.length base=true) (Ci:l6 (mz j false l) l.length base=true)
  (h1:AD false P cx K (mz j true l) [] base (U++[mark j d true]) [] (.a as (mz j true l) 0 [] [] Γ m1)) (h2:AD false P cx K (mz j false l) [] base (U++[mark j d false]) [] (.a as (mz j false l) 0 [] [] Γ m2)):Bx (qj P cx (.dr id l K Γ fr (orE m1 m2))):=by
 simp only [Bool.and_eq_true] at hB
 obtain ⟨⟨⟨⟨⟨⟨⟨⟨b0,b2⟩,b3⟩,b4⟩,b5⟩,b6⟩,b6'⟩,b7⟩,b7'⟩:=hB
 rw [rm]
 intro B o ho r w ha hs
 refine mx.W b0 ?_
 cases hm:m1 with
 | some o'=>
  have e:o'=o:=by rw [hm] at ho; exact Option.some.inj ho
  exact S9 (id:=id) U as (by simp only [Bool.and_eq_true]; exact ⟨⟨⟨⟨⟨b2,b3⟩,b4⟩,b5⟩,b6⟩,b7⟩) p4 hf WG h1 B o (by rw [hm,e]) r w ha hs
 | none=>exact S9 (id:=id) U as (by simp only [Bool.and_eq_true]; exact ⟨⟨⟨⟨⟨b2,b3⟩,b4⟩,b5⟩,b6'⟩,b7'⟩) p4 hf Ci h2 B o (by rw [hm] at ho; exact ho) r w ha hs
end
end Go.Dk
namespace Go.Dk
open Go Go.Li
theorem Uo {P:Program} {g:FuncId} {vs:LV} {Δ:QE} {β:Type} {m:Option β} {ow:Bool} {rt:β→Unit→List Value} (hc:Ct P g ow m vs Δ rt (fun _ _=>[])) {w:World} (hl:HL (fun b=>b < w.heap.size) w Δ []) {y:β} (hy:m=some y) :
  Calls P g vs.toArray w fun e w'=>e = .returned (um (rt y ()))∧ay [] w w':=by
 rw [u2] at hc
 refine (hc.2 w _ [] hl List.nodup_nil (fun _ h=>absurd h List.not_mem_nil) (fun _ h=>h) y hy).mono ?_
 rintro e w' ⟨_,he,Z,F,_,hg⟩
 exact ⟨he,hg.ly⟩
theorem Up {w:World} {α:Type} {T:an α} {v:Value} {x:α} {f:LN} (h:T.rep w.heap [v] x f):fact (fun b=>b < w.heap.size) w [] (.rd false T v x):=⟨f,h,fun b hb=>T.lt h b hb⟩
end Go.Dk
