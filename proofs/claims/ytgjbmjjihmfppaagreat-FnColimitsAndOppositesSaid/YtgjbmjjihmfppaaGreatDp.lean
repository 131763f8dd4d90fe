/- A region that draws its order: its head in any order, whatever it holds, its tail quiet and behind all of the head. No condition. -/
import Derived.Test.YtgjbmjjihmfppaaGreatDg
import Derived.Deep.Quiet
import Derived.Laws.Slices
import Derived.OrdersHeld
import Derived.Scope
namespace Go.Li
open Go
section
variable {P:Program} {n:Nat} {Q:Exit→(Nat→Value)→World→Prop} {r0:NV} {w0:World} {l:LO} {S:List iy}
def AL (l:LO) (m:Nat):Bool:=
 ((List.range l.length).all fun i=>((l.getD i default).after.toList.filter (Region.binds .any)).all fun e=>Nat.blt e.on i) &&
 ((List.range l.length).all fun i=>Nat.blt i m || (List.range m).all fun j=>((cf l).getD i []).contains j) &&
 BV ((l.take m).filterMap (·.dst)) && Region.noSelect l.toArray && Region.lexFrom .any l.toArray (l.length - m) m (List.replicate m true++List.replicate (l.length - m) false).toArray
theorem LF {m:Nat} (h:AL l m=true):∀ (i:Nat) (o:Oper),l[i]? = some o→∀ e∈o.after.toList.filter (Region.binds .any),e.on < i:=by
 simp only [AL,Bool.and_eq_true,List.all_eq_true,List.mem_range] at h
 intro i o ho e he
 have hi:i < l.length:=(List.getElem?_eq_some_iff.1 ho).1
 have:=h.1.1.1.1 i hi e (by rw [List.getD_eq_getElem?_getD,ho]; exact he)
 exact Nat.lt_of_succ_le (Nat.le_of_ble_eq_true this)
theorem TF {m:Nat} {U:LL} {H:LN} {N:Nat→Prop} (hd:de n l=true) (hA:AL l m=true) (HY:m≤l.length)
  (hS:S.length=m)
  (hH:∀ b∈H,b < w0.heap.size) (hU:((List.range m).all fun i=>(U.getD i []).all fun u=>Nat.beq u l.length || ((cf l).getD i []).contains u)=true)
  (hN:∀ b,N b→b < w0.heap.size∧b ∉ H)
  (sa:∀ (i:Nat) (s:iy),S[i]? = some s→∀ f F (w w':World) (r r':NV) v,an F w w'→(∀ b∈f,b ∉ F)→(∀ b∈F,¬ N b)→(∀ j∈(cf l).getD i [],∀ t,bz l j=some t→r' t=r t)→s.V f w r v→s.V f w' r' v)
  (PR:∀ i,i < m→lj P l m S U r0 w0 H i)
  (next:∀ g r w,AM l m S U r0 w0 H (fun j=>j < m) g r w→QL P (an [] w) l (l.drop m) r fun r'=>∀ w',an [] w w'→Q .normal r' w') :
  nb P n l Q r0 w0:=by
 simp only [AL,Bool.and_eq_true,List.all_eq_true,List.mem_range,Bool.or_eq_true] at hA
 obtain ⟨⟨⟨⟨VK,VL⟩,VM⟩,Se⟩,PS⟩:=hA
 have xF:∀ (i:Nat) (o:Oper),l[i]? = some o→∀ e∈o.after.toList.filter (Region.binds .any),e.on < i:=by
  intro i o ho e he
  have hi:i < l.length:=(List.getElem?_eq_some_iff.1 ho).1
  have:=VK i hi e (by rw [List.getD_eq_getElem?_getD,ho]; exact he)
  exact Nat.lt_of_succ_le (Nat.le_of_ble_eq_true this)
 have Fj:∀ i,m≤i→i < l.length→∀ j,j < m→j∈(cf l).getD i []:=by
  intro i h1 h2 j hj
  rcases VL i h2 with h | h
  ·exact absurd (Nat.lt_of_succ_le (Nat.le_of_ble_eq_true h)) (Nat.not_lt.2 h1)
  ·have:=h j hj
   simpa using this
 have VN:∀ i,i < m→∀ u∈U.getD i [],u=l.length∨u∈(cf l).getD i []:=by
  intro i hi u hu
  simp only [List.all_eq_true,List.mem_range] at hU
  have:=hU i hi u hu
  simpa using this
 have da:=Gb _ (zB VM)
 have rn:=BW l xF
 intro a h1 h2 h3
 let Cl (L:Array Bool):Prop:=L.size=l.length∧∀ j o,l[j]? = some o→L.getD j false=true→∀ e∈o.after.toList.filter (Region.binds .any),L.getD e.on false=true
 have jw:∀ L,Cl L→∀ i j,(∀ o,l[i]? = some o→∀ e∈o.after.toList.filter (Region.binds .any),L.getD e.on false=true)→j∈(cf l).getD i []→L.getD j false=true:=by
  intro L hL i
  induction i using Nat.strongRecOn with
  | _ i ih=>
   intro j hi hj
   obtain ⟨_,o,ho,e,he,H7⟩:=rn i j hj
   have hl:=hi o ho e he
   rcases H7 with rfl | H7
   ·exact hl
   ·exact ih e.on (xF i o ho e he) j (fun o' cg e' uO=>hL.2 _ _ cg hl e' uO) H7
 have np:∀ L i,i∈Region.ready .any l.toArray L→L.getD i true=false∧∃ o,l[i]? = some o∧∀ e∈o.after.toList.filter (Region.binds .any),L.getD e.on false=true:=by
  intro L i hi
  obtain ⟨g1,o,ho,du⟩:=mem_ready.1 hi
  refine ⟨g1,o,by simpa using ho,fun e he=>?_⟩
  have:=List.mem_filter.1 he
  exact du e (by simpa using this.1) this.2
 have Ee:∀ L i o,L.size=l.length→l[i]? = some o→L.getD i false=false→(∀ e∈o.after.toList.filter (Region.binds .any),L.getD e.on false=true)→i∈Region.ready .any l.toArray L:=by
  intro L i o hs ho hu du
  refine mem_ready.2 ⟨?_,o,by simpa using ho,fun e he hb=>du e (List.mem_filter.2 ⟨by simpa using he,hb⟩)⟩
  have hi:i < L.size:=by rw [hs]; exact (List.getElem?_eq_some_iff.1 ho).1
  simp [hi] at hu ⊢; exact hu
 have G7:∀ L i o,Cl L→l[i]? = some o→(∀ e∈o.after.toList.filter (Region.binds .any),L.getD e.on false=true)→Cl (L.setIfInBounds i true):=by
  intro L i o hL ho du
  refine ⟨by rw [Array.size_setIfInBounds]; exact hL.1,fun j o' cg hj e he=>?_⟩
  by_cases tG:i=j
  ·subst tG
   have:o'=o:=Option.some.inj (cg.symm.trans ho)
   subst this
   exact getD_set_true (du e he)
  ·rw [getD_set_ne false tG] at hj
   exact getD_set_true (hL.2 j o' cg hj e he)
 have getSet:∀ (L:Array Bool) i j,L.size=l.length→i < l.length→((L.setIfInBounds i true).getD j false=true↔j=i∨L.getD j false=true):=by
  intro L i j hs hi
  by_cases tG:i=j
  ·subst tG
   simp [hs,hi]
  ·rw [getD_set_ne false tG]
   constructor
   ·exact .inr
   ·rintro (h | h)
    ·exact absurd h.symm tG
    ·exact h
 have H8:∀ (L:Array Bool) i,L.size=l.length→i < l.length→L.getD i false=false→(L.setIfInBounds i true).toList.count false+1=L.toList.count false:=by
  intro L i hs hi hu
  have uJ:i < L.toList.length:=by simpa [hs] using hi
  have Dc:L.toList[i]=false:=by
   rw [Array.getElem_toList]
   simp [hs,hi] at hu
   exact hu
  rw [Array.toList_setIfInBounds,List.count_set uJ,Dc]
  have:0 < L.toList.count false:=List.count_pos_iff.2 (by rw [← Dc]; exact List.getElem_mem uJ)
  rw [if_pos (by rfl),if_neg (by decide)]
  omega
 have jh:de n (l.drop m)=true:=by
  simp only [de,List.all_eq_true] at hd ⊢
  exact fun o ho=>hd o (List.mem_of_mem_drop ho)
 have tail:∀ (fuel:Nat) (L:Array Bool) (a:Act) (w:World),Cl L→(∀ j,L.getD j false=true↔j < m)→L.toList.count false=fuel→a.tmps.size=n→a.defers=[]→
   (QL P (an [] w) l (l.drop m) (cn a) fun r'=>∀ w',an [] w w'→Q .normal r' w')→wpAny P .any l.toArray (fun e a' w'=>a'.tmps.size=n∧a'.defers=[]∧Q e (cn a') w') fuel L a w:=by
  intro fuel L a w hL ja hf g1 g2 hq
  have Z8:L=(List.replicate m true++List.replicate (l.length - m) false).toArray:=by
   apply Array.ext
   ·simp [hL.1]; omega
   ·intro i hi hj
    have h1:=ja i
    simp only [Array.getD_eq_getD_getElem?,Array.getElem?_eq_getElem hi,Option.getD_some] at h1
    have e:(List.replicate m true++List.replicate (l.length - m) false).toArray[i]'hj=decide (i < m):=by
     simp only [List.getElem_toArray,List.getElem_append,List.getElem_replicate,List.length_replicate]
     split
     ·rename_i h; simp [h]
     ·rename_i h; simp [h]
    rw [e]
    cases hb:L[i] with
    | false=>exact (decide_eq_false fun h=>by have:=h1.2 h; rw [hb] at this; cases this).symm
    | true=>exact (decide_eq_true (h1.1 hb)).symm
  have VO:fuel=l.length - m:=by
   rw [← hf,Z8]
   simp [List.count_append,List.count_replicate]
  have q1:=QL.wpQuiet (n:=n) (l:=l) (l.drop m) a hd jh g1 g2 hq
  have q2:=wpAnyQ_lex (md:=.any) Se (l.drop m) m L a (fun j=>by simp [List.getElem?_drop]) (by rw [Z8,List.length_drop]; exact PS) q1
  refine wpAny_of_quiet (C:=an [] w) (Q:=fun a'=>a'.tmps.size=n∧a'.defers=[]∧∀ w',an [] w w'→Q .normal (cn a') w') (fun a' w' BX hh=>⟨hh.1,hh.2.1,hh.2.2 w' BX⟩) _ _ _ _ (an.refl _ _) ?_
  rw [VO,← List.length_drop]
  exact q2
 have head:∀ (fuel:Nat) (L:Array Bool) (a:Act) (w:World) (g:Nat→List Nat),Cl L→(∀ j,L.getD j false=true→j < m)→L.toList.count false=fuel→a.tmps.size=n→a.defers=[]→
   AM l m S U r0 w0 H (fun j=>L.getD j false=true) g (cn a) w→wpAny P .any l.toArray (fun e a' w'=>a'.tmps.size=n∧a'.defers=[]∧Q e (cn a') w') fuel L a w:=by
  intro fuel
  induction fuel with
  | zero=>
   intro L a w g hL vf hf g1 g2 inv
   have du:∀ j,j < l.length→L.getD j false=true:=by
    intro j hj
    cases hb:L.getD j false with
    | true=>rfl
    | false=>have:=H8 L j hL.1 hj hb; omega
   have ja:∀ j,L.getD j false=true↔j < m:=fun j=>⟨vf j,fun h=>du j (by omega)⟩
   refine tail 0 L a w hL ja hf g1 g2 (next g _ _ ?_)
   exact ⟨inv.jk,fun hk=>inv.BY fun k yd=>hk k ((ja k).1 yd),inv.vg,fun j hj=>inv.vd j ((ja j).2 hj),fun j hj hk=>inv.done j ((ja j).2 hj) (fun k yd=>hk k ((ja k).1 yd)),fun j hj=>inv.ui j ((ja j).2 hj),inv.other,fun j hj b hb=>⟨(inv.fresh j ((ja j).2 hj) b hb).1.imp (fun h=>h) fun h=>⟨h.1,h.2.imp fun k hk=>⟨(ja k).1 hk.1,hk.2⟩⟩,(inv.fresh j ((ja j).2 hj) b hb).2⟩,fun i j hi hj=>inv.xx i j ((ja i).2 hi) ((ja j).2 hj)⟩
  | succ fuel ih=>
   intro L a w g hL vf hf g1 g2 inv
   by_cases du:∀ j,j < m→L.getD j false=true
   ·have ja:∀ j,L.getD j false=true↔j < m:=fun j=>⟨vf j,du j⟩
    refine tail _ L a w hL ja hf g1 g2 (next g _ _ ?_)
    exact ⟨inv.jk,fun hk=>inv.BY fun k yd=>hk k ((ja k).1 yd),inv.vg,fun j hj=>inv.vd j ((ja j).2 hj),fun j hj hk=>inv.done j ((ja j).2 hj) (fun k yd=>hk k ((ja k).1 yd)),fun j hj=>inv.ui j ((ja j).2 hj),inv.other,fun j hj b hb=>⟨(inv.fresh j ((ja j).2 hj) b hb).1.imp (fun h=>h) fun h=>⟨h.1,h.2.imp fun k hk=>⟨(ja k).1 hk.1,hk.2⟩⟩,(inv.fresh j ((ja j).2 hj) b hb).2⟩,fun i j hi hj=>inv.xx i j ((ja i).2 hi) ((ja j).2 hj)⟩
   ·obtain ⟨j0,Sf,Gc⟩ : ∃ j,j < m∧L.getD j false=false:=by
     apply Classical.byContradiction
     intro tj
     apply du
     intro j hj
     cases hb:L.getD j false with
     | true=>rfl
     | false=>exact absurd ⟨j,hj,hb⟩ tj
    have LG:∃ i,i∈Region.ready .any l.toArray L:=by
     have:∀ k,(∃ j,j < k∧j < m∧L.getD j false=false)→∃ i,i∈Region.ready .any l.toArray L:=by
      intro k
      induction k with
      | zero=>rintro ⟨j,h,_⟩; omega
      | succ k D5=>
       rintro ⟨j,Ny,BZ,tk⟩
       by_cases td:∃ j,j < k∧j < m∧L.getD j false=false
       ·exact D5 td
       ·obtain rfl:j=k:=by
         apply Classical.byContradiction
         intro h
         exact td ⟨j,by omega,BZ,tk⟩
        have B0:j < l.length:=by omega
        refine ⟨j,Ee L j l[j] hL.1 (List.getElem?_eq_getElem B0) tk fun e he=>?_⟩
        have bm:=xF j _ (List.getElem?_eq_getElem B0) e he
        cases hb:L.getD e.on false with
        | true=>rfl
        | false=>exact absurd ⟨e.on,bm,by omega,hb⟩ td
     exact this (j0+1) ⟨j0,by omega,Sf,Gc⟩
    have main:∀ i oi,i < m→l[i]? = some oi→L.getD i false=false→(∀ e∈oi.after.toList.filter (Region.binds .any),L.getD e.on false=true)→
      (Region.wanted oi (yl l (cn a))=true∧gq P oi (cn a) w fun v w'=>wpAny P .any l.toArray (fun e a' w'=>a'.tmps.size=n∧a'.defers=[]∧Q e (cn a') w') fuel (L.setIfInBounds i true) (a.put oi.dst v) w')∨
      (Region.wanted oi (yl l (cn a))=false∧wpAny P .any l.toArray (fun e a' w'=>a'.tmps.size=n∧a'.defers=[]∧Q e (cn a') w') fuel (L.setIfInBounds i true) (a.put oi.dst undef) w):=by
     intro i oi vh n4 vi vj
     have gj:i < l.length:=(List.getElem?_eq_some_iff.1 n4).1
     have nt:∀ o,l[i]? = some o→∀ e∈o.after.toList.filter (Region.binds .any),L.getD e.on false=true:=fun o' cg=>by
      have:o'=oi:=Option.some.inj (cg.symm.trans n4)
      subst this; exact vj
     obtain ⟨s,hs⟩ : ∃ s,S[i]? = some s:=⟨S[i]'(by omega),List.getElem?_eq_getElem (by omega)⟩
     have hc:=H8 L i hL.1 gj vi
     have Dd:=G7 L i oi hL n4 vj
     have B3:∀ j,(L.setIfInBounds i true).getD j false=true→j < m:=by
      intro j hj
      rcases (getSet L i j hL.1 gj).1 hj with rfl | hj
      ·exact vh
      ·exact vf j hj
     have Ef:∀ k,L.getD k false=true→k≠i∧i ∉ (cf l).getD k []:=by
      intro k hk
      refine ⟨fun h=>(by rw [h,vi] at hk; cases hk),fun vL=>?_⟩
      have:=jw L hL k i (fun o' cg e' uO=>hL.2 k o' cg hk e' uO) vL
      rw [vi] at this; cases this
     have ow:=PR i vh oi s n4 hs g (cn a) w inv.jk (fun hV=>by
       have tj:∀ k,L.getD k false=true→l.length ∉ U.getD k []:=fun k hk H9=>by
        simp only [AI,List.all_eq_true,List.mem_range,Bool.or_eq_true,Bool.not_eq_true',List.contains_eq_mem,decide_eq_false_iff_not,decide_eq_true_eq] at hV
        rcases hV k (vf k hk) with (h | h) | h
        ·exact h H9
        ·exact (Ef k hk).1 (Nat.eq_of_beq_eq_true h)
        ·exact (Ef k hk).2 h
       have h0:=inv.BY tj
       exact ⟨h0.1,h0.2,fun j hj b hb=>(inv.fresh j (jw L hL i j nt hj) b hb).1.elim (fun h=>h) fun h=>absurd h.2.choose_spec.2 (tj _ h.2.choose_spec.1)⟩) (fun j hj=>inv.ui j (jw L hL i j nt hj)) (fun j hj=>by
       simp only [vc,Bool.and_eq_true,List.all_eq_true,List.mem_range,Bool.or_eq_true,Bool.not_eq_true',List.contains_eq_mem,decide_eq_false_iff_not,decide_eq_true_eq] at hj
       refine inv.done j (jw L hL i j nt hj.1) fun k hk Ny=>?_
       rcases hj.2 k (vf k hk) with (h | h) | h
       ·exact h Ny
       ·exact (Ef k hk).1 (Nat.eq_of_beq_eq_true h)
       ·exact (Ef k hk).2 h) inv.other
      (fun i' uJ j' iz=>inv.xx i' j' (jw L hL i i' nt uJ) (jw L hL i j' nt iz))
      (fun j hj b hb=>⟨(inv.fresh j (jw L hL i j nt hj) b hb).1.imp (fun h=>h) (·.1),(inv.fresh j (jw L hL i j nt hj) b hb).2⟩)
     have hblk:∀ b∈qj g (U.getD i []),(∃ u,u∈U.getD i []∧L.getD u false=true∧b∈g u)∨(l.length∈U.getD i []∧b∈g l.length):=by
      intro b hb
      obtain ⟨u,hu,ib⟩:=List.mem_flatMap.1 hb
      rcases VN i vh u hu with rfl | h
      ·exact .inr ⟨hu,ib⟩
      ·exact .inl ⟨u,hu,jw L hL i u nt h,ib⟩
     have Ge:∀ k',oi.dst=some k'→k' < a.tmps.size:=by
      intro k' x6
      have vL:oi∈l:=List.mem_of_getElem? n4
      simp only [de,List.all_eq_true] at hd
      have:=hd oi vL
      rw [x6] at this
      rw [g1]
      exact Nat.lt_of_succ_le (Nat.le_of_ble_eq_true this)
     have zP:bz l i=oi.dst:=by unfold bz; rw [n4]; rfl
     have qx:∀ v t,(oi.dst≠some t)→cn (a.put oi.dst v) t=cn a t:=by
      intro v t ht
      rw [l7 Ge]
      cases ye:oi.dst with
      | none=>rfl
      | some d=>
       show (bif Nat.beq t d then v else cn a t)=cn a t
       cases hb:Nat.beq t d with
       | false=>rfl
       | true=>exact absurd (by rw [ye,Nat.eq_of_beq_eq_true hb]) ht
     have Ia:∀ v d,oi.dst=some d→cn (a.put oi.dst v) d=v:=by
      intro v d ye
      rw [l7 Ge,ye]
      show (bif Nat.beq d d then v else cn a d)=v
      rw [Nat.beq_refl]; rfl
     have step:∀ v w' f,an (qj g (U.getD i [])) w w'→(∀ b∈f,(b∈qj g (U.getD i [])∨w.heap.size≤b)∧b < w'.heap.size)→(if s.b then s.V f w' (cn a) v else v=undef)→
       wpAny P .any l.toArray (fun e a' w'=>a'.tmps.size=n∧a'.defers=[]∧Q e (cn a') w') fuel (L.setIfInBounds i true) (a.put oi.dst v) w':=by
      intro v w' f hC ve hV
      have tQ:∀ j',j' < m→j'≠i→∀ t,bz l j'=some t→cn (a.put oi.dst v) t=cn a t:=by
       intro j' iz nq t ht
       refine qx v t fun h=>nq (da j' i t ?_ ?_)
       ·rw [lq iz]; exact ht
       ·rw [lq vh,zP]; exact h
      have Nz:∀ b∈qj g (U.getD i []),¬ N b:=fun b hb hn=>by
       rcases hblk b hb with ⟨u,_,p6,ib⟩ | ⟨_,ib⟩
       ·rcases (inv.fresh u p6 b ib).1 with h | h
        ·have:=(hN b hn).1; omega
        ·exact (hN b hn).2 h.1
       ·exact (hN b hn).2 (inv.vg b ib)
      refine ih _ _ _ (fun j=>if j=i then f else if j∈U.getD i [] then [] else g j) Dd B3 (by omega) (by rw [j8]; exact g1) (by rw [ik]; exact g2)
       ⟨inv.jk.then hC fun b hb=>(by
        rcases hblk b hb with ⟨u,_,p6,ib⟩ | ⟨_,ib⟩
        ·exact (inv.fresh u p6 b ib).1.elim .inr fun h=>.inl h.1
        ·exact .inl (inv.vg b ib)),fun tj=>?_,?_,fun j hj=>?_,?_,fun j hj d vl sj sU=>?_,?_,?_,?_⟩
      ·have ya:l.length ∉ U.getD i []:=tj i ((getSet L i i hL.1 gj).2 (.inl rfl))
       have h0:=inv.BY fun k hk=>tj k ((getSet L i k hL.1 gj).2 (.inr hk))
       refine ⟨h0.1.then hC fun b hb=>?_,?_⟩
       ·rcases hblk b hb with ⟨u,_,p6,ib⟩ | ⟨h,_⟩
        ·exact (inv.fresh u p6 b ib).1.elim .inr fun ⟨_,k,hk,H9⟩=>absurd H9 (tj k ((getSet L i k hL.1 gj).2 (.inr hk)))
        ·exact absurd h ya
       ·show (if l.length=i then f else if l.length∈U.getD i [] then [] else g l.length)=H
        rw [if_neg (by omega),if_neg ya]
        exact h0.2
      ·intro b hb
       have cw:b∈(if l.length=i then f else if l.length∈U.getD i [] then [] else g l.length):=hb
       rw [if_neg (by omega)] at cw
       split at cw
       ·cases cw
       ·exact inv.vg b cw
      ·intro b hb hv
       have o9:b∈(if l.length=i then f else if l.length∈U.getD i [] then [] else g l.length):=hv
       rw [if_neg (by omega)] at o9
       split at o9
       ·cases o9
       ·rename_i VP
        have cw:b∈(if j=i then f else if j∈U.getD i [] then [] else g j):=hb
        split at cw
        ·rcases (ve b cw).1 with h | h
         ·rcases hblk b h with ⟨u,_,p6,ib⟩ | ⟨h,_⟩
          ·exact inv.vd u p6 b ib o9
          ·exact VP h
         ·have h1:=hH b (inv.vg b o9)
          have h2:=inv.jk.size
          omega
        ·rename_i l9
         split at cw
         ·cases cw
         ·exact inv.vd j (((getSet L i j hL.1 gj).1 hj).resolve_left l9) b cw o9
      ·intro j hj zQ
       refine ⟨fun d vl=>?_,fun VR sj sU NB=>?_⟩
       rotate_left
       ·by_cases l9:j=i
        ·subst l9
         rw [hs] at sU
         cases sU
         rw [if_pos NB] at hV
         refine ⟨v,?_⟩
         simp only [if_pos]
         exact sa j s hs _ [] w' w' (cn a) _ v (an.refl _ _) (fun _ _ h=>nomatch h) (fun _ h=>nomatch h) (fun j' iz t ht=>tQ j' (by have:=(rn j j' iz).1; omega) (by have:=(rn j j' iz).1; omega) t ht) hV
        ·have nu:=((getSet L i j hL.1 gj).1 hj).resolve_left l9
         have tk:j ∉ U.getD i []:=zQ i ((getSet L i i hL.1 gj).2 (.inl rfl))
         obtain ⟨x,hx⟩:=(inv.done j nu (fun k hk=>zQ k ((getSet L i k hL.1 gj).2 (.inr hk)))).2 VR sj sU NB
         have jm:(fun j=>if j=i then f else if j∈U.getD i [] then [] else g j) j=g j:=by
          show (if j=i then f else if j∈U.getD i [] then [] else g j)=g j
          rw [if_neg l9,if_neg tk]
         rw [jm]
         refine ⟨x,sa j sj sU _ _ _ _ (cn a) _ _ hC (fun b cw Ib=>?_) Nz (fun j' iz t ht=>tQ j' (by have:=(rn j j' iz).1; have:=vf j nu; omega) (fun h=>?_) t ht) hx⟩
         ·rcases hblk b Ib with ⟨u,B4,p6,ib⟩ | ⟨_,ib⟩
          ·exact inv.xx j u nu p6 (fun h=>tk (h ▸ B4)) b cw ib
          ·exact inv.vd j nu b cw ib
         ·subst h
          have:=jw L hL j j' (fun o' cg e' uO=>hL.2 j o' cg nu e' uO) iz
          rw [vi] at this; cases this
       by_cases l9:j=i
       ·subst l9
        rw [hs]
        simp only [if_pos]
        rw [zP] at vl
        rw [Ia v d vl]
        split
        ·rename_i hb
         rw [if_pos hb] at hV
         exact sa j s hs _ [] w' w' (cn a) _ v (an.refl _ _) (fun _ _ h=>nomatch h) (fun _ h=>nomatch h) (fun j' iz t ht=>tQ j' (by have:=(rn j j' iz).1; omega) (by have:=(rn j j' iz).1; omega) t ht) hV
        ·rename_i hb
         rw [if_neg hb] at hV
         exact hV
       ·have nu:=((getSet L i j hL.1 gj).1 hj).resolve_left l9
        have BZ:=vf j nu
        have tk:j ∉ U.getD i []:=zQ i ((getSet L i i hL.1 gj).2 (.inl rfl))
        have ye:oi.dst≠some d:=by
         intro h
         apply l9
         refine da j i d ?_ ?_
         ·rw [lq BZ]; exact vl
         ·rw [lq vh,zP]; exact h
        have:=(inv.done j nu (fun k hk=>zQ k ((getSet L i k hL.1 gj).2 (.inr hk)))).1 d vl
        rw [qx v d ye]
        have jm:(fun j=>if j=i then f else if j∈U.getD i [] then [] else g j) j=g j:=by
         show (if j=i then f else if j∈U.getD i [] then [] else g j)=g j
         rw [if_neg l9,if_neg tk]
        rw [jm]
        cases sU:S[j]? with
        | none=>trivial
        | some sj=>
         rw [sU] at this
         simp only [] at this ⊢
         split
         ·rename_i hb
          rw [if_pos hb] at this
          refine sa j sj sU _ _ _ _ (cn a) _ _ hC (fun b cw Ib=>?_) Nz (fun j' iz t ht=>tQ j' (by have:=(rn j j' iz).1; omega) (fun h=>?_) t ht) this
          rotate_left
          ·subst h
           have:=jw L hL j j' (fun o' cg e' uO=>hL.2 j o' cg nu e' uO) iz
           rw [vi] at this; cases this
          rcases hblk b Ib with ⟨u,B4,p6,ib⟩ | ⟨_,ib⟩
          ·exact inv.xx j u nu p6 (fun h=>tk (h ▸ B4)) b cw ib
          ·exact inv.vd j nu b cw ib
         ·rename_i hb
          rw [if_neg hb] at this
          exact this
      ·by_cases l9:j=i
       ·subst l9
        rw [hs] at sU
        cases sU
        rw [zP] at vl
        rw [Ia v d vl]
        split
        ·rename_i hb
         rw [if_pos hb] at hV
         exact ⟨f,w',sa j s hs _ [] w' w' (cn a) _ v (an.refl _ _) (fun _ _ h=>nomatch h) (fun _ h=>nomatch h) (fun j' iz t ht=>tQ j' (by have:=(rn j j' iz).1; omega) (by have:=(rn j j' iz).1; omega) t ht) hV⟩
        ·rename_i hb
         rw [if_neg hb] at hV
         exact hV
       ·have nu:=((getSet L i j hL.1 gj).1 hj).resolve_left l9
        have BZ:=vf j nu
        have ye:oi.dst≠some d:=by
         intro h
         apply l9
         refine da j i d ?_ ?_
         ·rw [lq BZ]; exact vl
         ·rw [lq vh,zP]; exact h
        have:=inv.ui j nu d vl sj sU
        rw [qx v d ye]
        split
        ·rename_i hb
         rw [if_pos hb] at this
         obtain ⟨f1,w1,h1⟩:=this
         refine ⟨f1,w1,sa j sj sU _ [] w1 w1 (cn a) _ _ (an.refl _ _) (fun _ _ h=>nomatch h) (fun _ h=>nomatch h) (fun j' iz t ht=>tQ j' (by have:=(rn j j' iz).1; omega) (fun h=>?_) t ht) h1⟩
         subst h
         have:=jw L hL j j' (fun o' cg e' uO=>hL.2 j o' cg nu e' uO) iz
         rw [vi] at this; cases this
        ·rename_i hb
         rw [if_neg hb] at this
         exact this
      ·intro t ht
       rw [qx v t (fun h=>ht i vh (by rw [zP]; exact h))]
       exact inv.other t ht
      ·intro j hj b hb
       by_cases l9:j=i
       ·simp only [if_pos l9] at hb
        have hh:=ve b hb
        have uh:=inv.jk.size
        rcases hh.1 with h | h
        ·rcases hblk b h with ⟨u,_,p6,ib⟩ | ⟨hv,ib⟩
         ·exact ⟨(inv.fresh u p6 b ib).1.imp (fun h=>h) fun h=>⟨h.1,h.2.imp fun k hk=>⟨(getSet L i k hL.1 gj).2 (.inr hk.1),hk.2⟩⟩,hh.2⟩
         ·exact ⟨.inr ⟨inv.vg b ib,i,(getSet L i i hL.1 gj).2 (.inl rfl),hv⟩,hh.2⟩
        ·exact ⟨.inl (by omega),hh.2⟩
       ·have nu:=((getSet L i j hL.1 gj).1 hj).resolve_left l9
        simp only [if_neg l9] at hb
        split at hb
        ·cases hb
        ·have h1:=inv.fresh j nu b hb
         have h2:=hC.size
         exact ⟨h1.1.imp (fun h=>h) fun h=>⟨h.1,h.2.imp fun k hk=>⟨(getSet L i k hL.1 gj).2 (.inr hk.1),hk.2⟩⟩,by omega⟩
      ·have ux:∀ j',(L.setIfInBounds i true).getD j' false=true→j'≠i→∀ b∈f,b ∉ (if j'∈U.getD i [] then [] else g j'):=by
        intro j' iz e2 b hb cw
        have Ic:=((getSet L i j' hL.1 gj).1 iz).resolve_left e2
        split at cw
        ·cases cw
        ·rename_i tk
         rcases (ve b hb).1 with h | h
         ·rcases hblk b h with ⟨u,B4,p6,ib⟩ | ⟨_,ib⟩
          ·exact inv.xx u j' p6 Ic (fun h=>tk (h ▸ B4)) b ib cw
          ·exact inv.vd j' Ic b cw ib
         ·have:=inv.fresh j' Ic b cw
          omega
       intro i' j' uJ iz nq b hb cw
       by_cases e1:i'=i
       ·have e2:j'≠i:=fun h=>nq (e1.trans h.symm)
        simp only [if_pos e1] at hb
        simp only [if_neg e2] at cw
        exact ux j' iz e2 b hb cw
       ·simp only [if_neg e1] at hb
        by_cases e2:j'=i
        ·simp only [if_pos e2] at cw
         exact ux i' uJ e1 b cw hb
        ·simp only [if_neg e2] at cw
         split at hb
         ·cases hb
         ·split at cw
          ·cases cw
          ·exact inv.xx i' j' (((getSet L i i' hL.1 gj).1 uJ).resolve_left e1) (((getSet L i j' hL.1 gj).1 iz).resolve_left e2) nq b hb cw
     cases hb:s.b with
     | true=>
      rw [if_pos hb] at ow
      refine .inl ⟨ow.1,rm ow.2 ?_⟩
      rintro v w' ⟨hC,f,ve,hV⟩
      exact step v w' f hC ve (by rw [if_pos hb]; exact hV)
     | false=>
      rw [if_neg (by rw [hb]; exact Bool.false_ne_true)] at ow
      exact .inr ⟨ow,step undef w [] (an.refl _ _) (fun b h=>nomatch h) (by rw [if_neg (by rw [hb]; exact Bool.false_ne_true)])⟩
    refine ⟨fun h=>(by obtain ⟨i,hi⟩:=LG; rw [h] at hi; cases hi),fun i hi=>?_⟩
    obtain ⟨q1,oi,n4,vj⟩:=np L i hi
    have gj:i < l.length:=(List.getElem?_eq_some_iff.1 n4).1
    have vi:L.getD i false=false:=getD_both q1
    have vh:i < m:=by
     rcases Nat.lt_or_ge i m with h | h
     ·exact h
     ·have hj:=Fj i h gj j0 Sf
      have:=jw L hL i j0 (fun o' cg=>by have:o'=oi:=Option.some.inj (cg.symm.trans n4); subst this; exact vj) hj
      rw [Gc] at this; cases this
    unfold wpOp
    rw [show (l.toArray)[i]? = some oi by simpa using n4]
    simp only []
    rw [AN (by rw [g1]; exact hd)]
    rcases main i oi vh n4 vi vj with ⟨hw,h⟩ | ⟨hw,h⟩
    ·rw [if_pos hw]
     exact .inl (h.wp fun v w' hv=>hv)
    ·rw [if_neg (by rw [hw]; exact Bool.false_ne_true)]
     exact h
 refine head _ _ a _ (fun j=>if j=l.length then H else []) ⟨by simp,?_⟩ ?_ ?_ h1 h2 ⟨an.nil (an.drew _ _),fun _=>⟨an.drew _ _,by simp⟩,fun b hb=>by simpa using hb,?_,?_,?_,?_,?_,?_⟩
 ·intro j o ho hj
  rw [getD_replicate_false] at hj; cases hj
 ·intro j hj
  rw [getD_replicate_false] at hj; cases hj
 ·simp
 ·intro j hj
  rw [getD_replicate_false] at hj; cases hj
 ·intro j hj
  rw [getD_replicate_false] at hj; cases hj
 ·intro j hj
  rw [getD_replicate_false] at hj; cases hj
 ·intro t _
  rw [h3]
 ·intro j hj
  rw [getD_replicate_false] at hj; cases hj
 ·intro i j hi
  rw [getD_replicate_false] at hi; cases hi
end
end Go.Li
namespace Go.Dk
open Go Go.Li
section
variable {R S:Type} {P:Program} {cx:Cx R} {K:dk R S} {l tail:LO} {base fr:Fr} {w:World} {Z:Nat→Prop}
theorem PT {mt id:Nat} {U:LL} {Vp:QE} (hU:((List.range mt).all fun i=>(U.getD i []).all fun u=>Nat.beq u l.length || ((cf l).getD i []).contains u)=true) (hh:nr l mt base=true) (hd:de cx.n l=true) (hA:AL l mt=true) (HY:mt≤l.length) (ht:tail=l.drop mt) {i:Nat} {sl:LQ} {ms:MM} {Γ:QE} {m:Option (Out S R)} (Vq:Dv ms=true) (tB:Fb U sl ms=true)
  (h:∀ x:oK ms,D P cx (.p (BO sl (mF ms x)) (E9 ms x) base Γ fun fr Γ=>.tg true (Ds tail) l tail K Γ fr m)):Lv P cx K l mt U Vp id base (.a [] [] i sl ms Γ m):=by
 rintro ⟨_,h2,h3⟩ B o ho r0 w0 H Z ha hs ⟨S',hl,hR,hO⟩
 have hi:i=mt:=by
  have:=congrArg List.length h2
  simp at this
  omega
 subst hl
 obtain ⟨F,Hd,⟨xw,Bz,xf,BA⟩,hS,hG⟩:=hs
 refine TF (N:=Z) (S:=S') (U:=U) (H:=H) hd hA HY hi xf hU (fun b hb=>⟨hG.nz b hb,fun h=>hG.apart b (List.mem_append_left _ h) hb⟩) (fun i s hs=>hR.s i s hs) (fun j hj=>hO j (by omega)) ?_
 intro g r w hI
 have Lw:∀ k j,j∈U.getD k []→∀ a∈ms,a.j≠j:=by
  intro k j hj
  unfold Fb at tB
  rw [List.getD_eq_getElem?_getD] at hj
  cases hk:U[k]? with
  | none=>rw [hk] at hj; exact absurd hj List.not_mem_nil
  | some us=>
   rw [hk] at hj
   have h1:=List.all_eq_true.1 (List.all_eq_true.1 tB us (List.mem_of_getElem? hk)) j hj
   intro a ha he
   have:=List.all_eq_true.1 h1 a ha
   rw [he,Nat.beq_refl] at this
   cases this
 have hD:∀ j,j < mt→(∀ k,j ∉ U.getD k [])→x9 l S' j g r w:=fun j hj hn=>hI.done j hj fun k _=>hn k
 have bm:∀ a∈ms,a.j < mt:=fun a ha=>hi ▸ hR.lt ha
 obtain ⟨x,hx,uM,Vt⟩:=R8 (g:=g) (r:=r) (w:=w) Vq hR.d (fun a ha b hb py=>hI.xx _ _ (bm a ha) (bm b hb) py) fun a ha=>by
  have:=hR.HK (S2:=[]) ha (by rw [List.append_nil]; exact hD a.j (bm a ha) (fun k hk=>Lw k _ hk a ha rfl))
  exact this
 have Eb:=List.nodup_append.1 hG.nd
 have qx:∀ b∈AJ g ms,w0.heap.size≤b∨b∈H:=fun b hb=>by
  obtain ⟨a,h1,h2⟩:=Dy hb
  exact (hI.fresh a.j (bm a h1) b h2).1.imp (fun h=>h) (·.1)
 have ez:=th.stay hS hG hI.jk
 obtain ⟨Vo,Vr,Vu,Vv,uM⟩:=uM
 obtain ⟨F',hp,fc⟩:=uM.build (ez.mono (fun _ h=>.inl h) fun _ h=>h)
 have wL:Gd B Z (AJ g ms++F) w:=by
  refine ⟨wK Vt Eb.2.1 fun b hb hF=>(qx b hb).elim (fun h=>Nat.lt_irrefl _ (Nat.lt_of_lt_of_le (hS.lt b hF) h)) (fun h=>Eb.2.2 b h b hF rfl),?_,fun b hb=>Nat.lt_of_lt_of_le (hG.nz b hb) hI.jk.size,?_,hG.uH,hG.uc,hG.jk.then hI.jk fun b hb=>hG.low b (List.mem_append_left _ hb)⟩
  ·intro b hb hz
   rcases List.mem_append.1 hb with hb | hb
   ·exact (qx b hb).elim (fun h=>Nat.lt_irrefl _ (Nat.lt_of_lt_of_le (hG.nz b hz) h)) (fun h=>hG.apart b (List.mem_append_left _ h) hz)
   ·exact hG.apart b (List.mem_append_right _ hb) hz
  ·intro b hb
   rcases List.mem_append.1 hb with hb | hb
   ·exact (qx b hb).elim (fun h=>.inr (Nat.le_trans hG.jk.size h)) (fun h=>hG.low b (List.mem_append_left _ h))
   ·exact hG.low b (List.mem_append_right _ hb)
 have PL:cu r ((BO sl (mF ms x)).reverse++base):=by
  refine qo (HW (fun p hp=>?_) hx) (l6 hh ha hI.other)
  exact hR.zL (S2:=[]) hp fun j _ hj=>(by rw [List.append_nil]; exact hI.ui j (hi ▸ hj))
 have:=(h x).sound B o ho r w PL ⟨_,F',fc,((wL.perm (KC Vu)).freeze Vv).perm hp⟩
 rw [ht] at this
 exact this
theorem Y8 {id:Nat} (hd:QE) (mt:Nat) (U as:LL) {ops:LO} {Γ Γ1:QE} {fr:Fr} {m:Option (Out S R)}
  (hB:(P.follows .mixedOrders && de cx.n l && AL l mt && Nat.ble mt l.length && (rj l U mt == as) && ((List.range mt).all fun i=>(U.getD i []).all fun u=>Nat.beq u l.length || ((cf l).getD i []).contains u))=true)
  (ho:ops=l.take mt) (ht:tail=l.drop mt) (hf:Kp (Aw ops) none fr base) (hh:nr l mt base=true) (he:EO Γ hd Γ1) (HZ:OW Γ hd)
  (h:AD true P cx K l tail base U hd (.a as ops 0 [] [] Γ1 m)):Bx (me P cx (.dr id l K Γ fr m)):=by
 simp only [Bool.and_eq_true] at hB
 obtain ⟨⟨⟨⟨⟨b1,b2⟩,b3⟩,b5⟩,b6⟩,b7⟩:=hB
 rw [mc]
 intro B o hm r w ha hs
 obtain ⟨Z,F,hS,hG⟩:=hs
 obtain ⟨Fd,F',h1,h2,h3⟩:=he.sound hS
 have H0:SA Z w hd [] Fd:=by
  have:=(HO.hl HZ hS h1).front (Γ:=[]) (F:=[]) rfl
  simpa using this
 have hX:th B Z hd Γ1 Fd w:=⟨F',Fd,⟨H0,fun b hb=>⟨hb,H0.lt b hb⟩,H0.lt,(List.nodup_append.1 (hG.perm h3).nd).1⟩,h2,hG.perm h3⟩
 refine nb.W b1 ?_
 refine AD.sound (id:=id) hh (fun _ _ _ _ _ _ hs he h=>PT b7 hh b2 b3 (Nat.le_of_ble_eq_true b5) ht hs he h) h
  ⟨by rw [List.drop_zero]; exact (eq_of_beq b6).symm,by rw [List.drop_zero]; exact ho,Nat.zero_le _⟩ B o hm r w Fd Z (hf.sound ha) hX ⟨[],rfl,⟨fun _ h=>absurd h List.not_mem_nil,fun _ h=>absurd h List.not_mem_nil,fun i s h=>by simp at h,List.nodup_nil,fun _ _ _ h1 h2=>Ec l (LF b3) h1 h2⟩,fun j hj=>absurd hj (Nat.not_lt_zero j)⟩
theorem abT {id:Nat} (mt:Nat) (U as:LL) {ops:LO} {Γ:QE} {fr:Fr} {m:Option (Out S R)}
  (hB:(P.follows .mixedOrders && de cx.n l && AL l mt && Nat.ble mt l.length && (rj l U mt == as) && ((List.range mt).all fun i=>(U.getD i []).all fun u=>Nat.beq u l.length || ((cf l).getD i []).contains u))=true)
  (ho:ops=l.take mt) (ht:tail=l.drop mt) (hf:Kp (Aw ops) none fr base) (hh:nr l mt base=true)
  (h:AD true P cx K l tail base U [] (.a as ops 0 [] [] Γ m)):Bx (me P cx (.dr id l K Γ fr m)):=Y8 [] mt U as hB ho ht hf hh .nil .nil h
end
end Go.Dk
namespace Go.Dk
open Go Go.Li
def BM:Value→Option Nat
 | .slice (some a) _ _=>some a.block
 | _=>none
def NF {α:Type} (E:ag α):Prop:=∀ {h:Array Obj} {cs:LV} {x:α} {f:LN},E.rep h cs x f→f=[]
theorem NF.i {k:IntKind}:NF (aM k):=yW
theorem NF.l {α:Type} {E:ag α} (hE:NF E) {h:Array Obj}:∀ {xs:List α} {cs:LV} {f:LN},dw E h cs xs f→f=[]:=by
 intro xs
 induction xs with
 | nil=>rintro cs f ⟨_,rfl⟩; rfl
 | cons x xs ih=>
  rintro cs f ⟨c,gy,f1,f2,rfl,rfl,h1,h2⟩
  rw [hE h1,ih h2]; rfl
structure Good {α:Type} (A:Value→α→Prop) (f:LN):Prop where
 sub:∀ u y b,A u y→BM u=some b→b∈f
 one:∀ u y u' y' b,A u y→A u' y'→BM u=some b→BM u'=some b→y=y'
inductive BB {α:Type}:{β:Type}→ag β→((Value→List α→Prop)→ag β)→Prop
 | row {e:TI} {E:ag α}:BB (aJ e E) (fun A=>uG A (aJ e E))
 | step {β:Type} {e:TI} {T:ag β} {T':(Value→List α→Prop)→ag β} (h:BB T T'):BB (aJ e T) (fun A=>bJ (T' A))
section
variable {α β:Type} {T:ag β} {T':(Value→List α→Prop)→ag β} {A A':Value→List α→Prop} {f:LN} {hp:Array Obj}
theorem BB.size (h:BB T T'):(T' A).size=T.size:=by
 cases h <;> rfl
theorem BB.mono (h:BB T T') (hA:∀ u y,A u y→A' u y):Le (T' A) (T' A'):=by
 induction h with
 | row=>exact ⟨rfl,fun h=>⟨h.1.imp fun v g=>⟨g.1,hA _ _ g.2⟩,h.2⟩⟩
 | step _ ih=>exact ih.Kd
theorem BB.Y9 {e:TI} (ho:∀ {cs:LV} {x:β} {f:LN},T.rep hp cs x f→f.Nodup→∃ A,Good A f∧(T' A).rep hp cs x f) (hm:∀ {A A':Value→List α→Prop},(∀ u y,A u y→A' u y)→Le (T' A) (T' A')) :
  ∀ {xs:List β} {cs:LV} {f:LN},dw T hp cs xs f→f.Nodup→∃ A,Good A f∧dw (T' A) hp cs xs f:=by
 have _:=e
 intro xs
 induction xs with
 | nil=>rintro cs f ⟨rfl,rfl⟩ _; exact ⟨fun _ _=>False,⟨fun _ _ _ h=>h.elim,fun _ _ _ _ _ h=>h.elim⟩,rfl,rfl⟩
 | cons x xs ih=>
  rintro cs f ⟨c,gy,f1,f2,rfl,rfl,h1,h2⟩ hn
  obtain ⟨n1,n2,n3⟩:=List.nodup_append.1 hn
  obtain ⟨A1,g1,r1⟩:=ho h1 n1
  obtain ⟨A2,g2,r2⟩:=ih h2 n2
  refine ⟨fun u y=>A1 u y∨A2 u y,⟨fun u y b h hb=>?_,fun u y u' y' b h h' hb cw=>?_⟩,c,gy,f1,f2,rfl,rfl,(hm fun _ _=>.inl).le r1,vO (hm fun _ _=>.inr) r2⟩
  ·exact h.elim (fun h=>List.mem_append_left _ (g1.sub u y b h hb)) (fun h=>List.mem_append_right _ (g2.sub u y b h hb))
  ·rcases h with h | h <;> rcases h' with h' | h'
   ·exact g1.one u y u' y' b h h' hb cw
   ·exact absurd rfl (n3 b (g1.sub _ _ _ h hb) b (g2.sub _ _ _ h' cw))
   ·exact absurd rfl (n3 b (g1.sub _ _ _ h' cw) b (g2.sub _ _ _ h hb))
   ·exact g2.one u y u' y' b h h' hb cw
theorem BB.opened (h:BB T T'):∀ {cs:LV} {x:β} {f:LN},T.rep hp cs x f→f.Nodup→∃ A,Good A f∧(T' A).rep hp cs x f:=by
 induction h with
 | @row e E=>
  intro cs x f hr _
  obtain ⟨base,cap,rfl,fh⟩:=id hr
  refine ⟨fun u y=>u = .slice base x.length cap∧y=x,⟨?_,?_⟩,⟨_,rfl,rfl,rfl⟩,hr⟩
  ·rintro u y b ⟨rfl,rfl⟩ hb
   rcases fh with ⟨rfl,_⟩ | ⟨b0,cur,f',rfl,_,rfl,_⟩
   ·cases hb
   ·cases hb; exact List.mem_cons_self
  ·rintro u y u' y' b ⟨_,rfl⟩ ⟨_,rfl⟩ _ _; rfl
 | @step β e T T' ho ih=>
  intro cs x f hr hn
  obtain ⟨base,cap,rfl,fh⟩:=hr
  rcases fh with ⟨rfl,_,rfl,rfl⟩ | ⟨b,cur,f',rfl,hg,rfl,h3,h4,h5,h6⟩
  ·exact ⟨fun _ _=>False,⟨fun _ _ _ h=>h.elim,fun _ _ _ _ _ h=>h.elim⟩,none,cap,rfl,.inl ⟨rfl,rfl⟩⟩
  ·obtain ⟨A,g1,g2⟩:=BB.Y9 (e:=e) ih (fun hA=>ho.mono hA) h6 (List.nodup_cons.1 hn).2
   refine ⟨A,⟨fun u y b h hb=>List.mem_cons_of_mem _ (g1.sub u y b h hb),g1.one⟩,_,cap,rfl,.inr ⟨b,0,cur,e,(0,0),f',rfl,hg,rfl,?_⟩⟩
   rw [List.drop_zero,ho.size]
   exact g2
end
section
variable {α:Type} {e e':TI} {E:ag α} {A:Value→List α→Prop} {ft f:LN} {hp:Array Obj}
theorem LH (nf:NF E) (hA:Good A ft):∀ {ys:List (List α)} {us:LV} {g:LN},dw (uG A (aJ e' E)) hp us ys g→ys.Nodup→
  dw (aJ e' E) hp us ys g∧g.Nodup∧∀ b∈g,b∈ft∧∃ u y,A u y∧BM u=some b∧y∈ys:=by
 intro ys
 induction ys with
 | nil=>rintro us g ⟨rfl,rfl⟩ _; exact ⟨⟨rfl,rfl⟩,List.nodup_nil,fun b hb=>absurd hb List.not_mem_nil⟩
 | cons y ys ih=>
  rintro us g ⟨c,gy,g1,g2,rfl,rfl,⟨⟨u,rfl,hu⟩,hr⟩,h2⟩ hn
  obtain ⟨n1,n2⟩:=List.nodup_cons.1 hn
  obtain ⟨a1,a2,a3⟩:=ih h2 n2
  refine ⟨⟨[u],gy,g1,g2,rfl,rfl,hr,a1⟩,?_,?_⟩
  ·obtain ⟨base,cap,hv,fh⟩:=hr
   obtain rfl:u = .slice base y.length cap:=by simpa using hv
   rcases fh with ⟨_,_,_,rfl⟩ | ⟨b,cur,f',rfl,_,rfl,_,_,_,h6⟩
   ·exact a2
   ·rw [nf.l h6]
    refine List.nodup_cons.2 ⟨fun hb=>?_,a2⟩
    obtain ⟨_,u',y',h7,h8,h9⟩:=a3 b hb
    rw [hA.one _ _ _ _ b hu h7 rfl h8] at n1
    exact n1 h9
  ·intro b hb
   rcases List.mem_append.1 hb with hb | hb
   ·obtain ⟨base,cap,hv,fh⟩:=hr
    obtain rfl:u = .slice base y.length cap:=by simpa using hv
    rcases fh with ⟨_,_,_,rfl⟩ | ⟨b0,cur,f',rfl,_,rfl,_,_,_,h6⟩
    ·cases hb
    ·rw [nf.l h6,List.mem_singleton] at hb
     subst hb
     exact ⟨hA.sub _ _ _ hu rfl,_,y,hu,rfl,by simp⟩
   ·obtain ⟨b1,u',y',b2,b3,b4⟩:=a3 b hb
    exact ⟨b1,u',y',b2,b3,by simp [b4]⟩
theorem NC {Z:Nat→Prop} {w:World} {v:Value} {ys:List (List α)} (nf:NF E) (hA:Good A ft) (ho:mz Z w f (.om e (uG A (aJ e' E)) v ys)) (hn:ys.Nodup) (hf:f.Nodup) (hz:∀ b∈f,¬ Z b) :
  ∃ g,(∀ b∈g,b∈ft)∧(aJ e (aJ e' E)).rep w.heap [v] ys (f++g)∧(f++g).Nodup:=by
 obtain ⟨us,g,h1,h2,h3,_⟩:=ho
 obtain ⟨a1,a2,a3⟩:=LH nf hA h2 hn
 have hl:us.length=ys.length:=by have:=kz a1; rw [this]; exact Nat.mul_one _
 refine ⟨g,fun b hb=>(a3 b hb).1,?_,List.nodup_append.2 ⟨hf,a2,fun b hb c hc=>fun e=>hz b hb (h3 b (e ▸ hc))⟩⟩
 obtain ⟨base,cap,hv,hr⟩:=h1
 obtain rfl:v = .slice base us.length cap:=by simpa using hv
 rw [hl]
 rcases hr with ⟨rfl,rfl,rfl,rfl⟩ | ⟨b,cur,f',rfl,hg,rfl,c1,c2,c3,c4⟩
 ·cases ys with
  | cons y ys=>simp at hl
  | nil=>obtain ⟨_,rfl⟩:=a1; exact ⟨none,0,rfl,.inl ⟨rfl,rfl,rfl,rfl⟩⟩
 ·obtain ⟨c5,rfl⟩:=Ar c4
  refine ⟨_,cap,rfl,.inr ⟨b,cur,g,rfl,hg,rfl,by rw [← hl]; exact c1,c2,c3,?_⟩⟩
  have e1:(aJ e' E).size=tc.size:=rfl
  rw [e1,← hl,c5]
  exact a1
end
section
variable {P:Program} {R:Type} {cx:Cx R}
theorem ai {S S1 α β:Type} [DecidableEq (List α)] (k t0:Nat) (φ:S1→Value→Fr) (KE:S1→List (List α)) (v0:Value) (f2:Fr) {e e':TI} {E:ag α} {T:ag β} {T':(Value→List α→Prop)→ag β} {vs:Value} {x:β} {gu:List KI} {kb:Kb R S} {c:Code} {s0:S1} {body:S1→Option (Out S1 R)} {f:S1→Option (Out S R)} {Γ Γ1 Γ2:QE} {fr:Fr}
  (ho:BB T T') (nf:NF E) (ha:r3 fr (φ s0 v0)) (hf:r3 fr f2) (hz:KE s0=[]) (hv:look fr t0=some vs) (h1:di Γ (.own T vs x) Γ1) (h2:∀ A:Value→List α→Prop,di Γ1 (.om e (uG A (aJ e' E)) v0 []) Γ2)
  (hb:∀ (A:Value→List α→Prop) s v,D P cx (.p (φ s v) [.om e (uG A (aJ e' E)) v (KE s)] f2 [.rd false (T' A) vs x] fun fr Γ=>.c ⟨[],.loop Value k (fun s v=>[.om e (uG A (aJ e' E)) v (KE s)]) φ [.rd false (T' A) vs x] f2⟩ c Γ fr (body s)))
  (hk:∀ s v,D P cx (.p (φ s v) [.own (aJ e (aJ e' E)) v (KE s)] f2 [] fun fr Γ=>.mn ⟨gu,kb⟩ Γ fr (f s))) :
  Bx (me P cx (.bk true k ⟨gu,kb⟩ (.loop c) Γ fr (ah (ae k (ai body s0)) fun s=>VS (KE s)>>=fun _=>f s))):=by
 have _:=hv
 rw [mc]
 intro B o ND r w pw oy
 obtain ⟨Z,F,hS,hG⟩:=oy
 obtain ⟨ft,F1,sf,hT,ez⟩:=h1.sound hS
 have KF:=hG.perm sf
 obtain ⟨n1,n2,n3⟩:=List.nodup_append.1 KF.nd
 obtain ⟨A,hA,hR⟩:=ho.opened (hp:=w.heap) hT n1
 obtain ⟨fo,F2,ox,hO,fc⟩:=(h2 A).sound ez
 have Gf:∀ b∈ft,b < w.heap.size:=ag.lt _ hT
 have VT:∀ b∈ft,¬ Z b:=fun b hb=>KF.apart b (List.mem_append_left _ hb)
 have Sg:∀ b∈fo,b∈F1:=fun b hb=>ox.mem_iff.1 (List.mem_append_left _ hb)
 have tj:fo.Nodup:=(List.nodup_append.1 (ox.nodup_iff.2 n2)).1
 refine Ll (T:=TT P cx B) (LI B (fun s v=>[.om e (uG A (aJ e' E)) v (KE s)]) φ [.rd false (T' A) vs x] f2) ND
  ⟨v0,qo (ha.all pw) (hf.sound pw),fun b=>Z b∨b∈ft,fo,⟨fo,[],(List.append_nil _).symm,by rw [hz]; exact hO.mono fun _=>.inl,⟨ft,hR,fun b hb=>.inr hb⟩,rfl⟩,tj,fun b hb=>?_,fun b hb=>hb.elim (hG.nz b) (Gf b),fun b hb=>KF.low b (List.mem_append_right _ (Sg b hb)),fun b h=>.inl (hG.uH b h),fun b hb=>hb.elim (hG.uc b) fun hb=>.inr (KF.low b (List.mem_append_left _ hb)),hG.jk⟩ ?_ ?_ ?_
 ·rintro (h | h)
  ·exact KF.apart b (List.mem_append_right _ (Sg b hb)) h
  ·exact n3 b h b (Sg b hb) rfl
 ·intro x r w he hx
  subst he
  exact wI hx
 ·rintro s r w ⟨v,h1,h2⟩ o ho
  exact (hb A s v).sound B o ho r w h1 h2
 ·rintro s r w' ⟨v,a1,Z2,Fl,HE,jv⟩ hm
  obtain ⟨_,hn,hm⟩:=bind_some hm
  replace hn:=PU hn
  obtain ⟨f',F',rfl,wM,Za⟩:=HE
  have BS:F'=[]:=Za.2
  subst BS
  rw [List.append_nil] at jv
  obtain ⟨g,s1,s2,s3⟩:=NC nf hA wM hn jv.nd jv.apart
  refine (hk s v).sound B o hm r w' a1 ⟨B.Z,f'++g,⟨f'++g,[],(List.append_nil _).symm,s2,rfl⟩,s3,fun b hb hz=>?_,fun b hz=>jv.nz b (jv.uH b hz),fun b hb=>?_,fun _ h=>h,fun _ h=>.inl h,jv.jk⟩
  ·rcases List.mem_append.1 hb with hb | hb
   ·exact jv.apart b hb (jv.uH b hz)
   ·exact VT b (s1 b hb) (hG.uH b hz)
  ·rcases List.mem_append.1 hb with hb | hb
   ·exact jv.low b hb
   ·exact KF.low b (List.mem_append_left _ (s1 b hb))
end
end Go.Dk
namespace Go.Dk
open Go Go.Li
section
variable {R:Type} {P:Program} {cx:Cx R} {B:Bs} {M:Type} {all l:LO} {rk:RK R M} {fr:Fr} {w:World} {Z:Nat→Prop} {F cur:LN} {Γ Γ1 Γ2 Γ3:QE}
theorem D.of {J:Jd R} (h:me P cx J):D P cx J:=.inj (by rw [mc]; exact h)
theorem Sh {Δ : List aw} (h : FO Δ) : ∀ {Fd : List Nat}, HL Z w Δ Fd → ∀ e ∈ Δ, fact Z w [] e := by
  induction h with
  | nil => intro Fd _ e he; cases he
  | rd _ ih =>
    intro Fd hl e he
    cases hl with
    | own h _ => exact h.elim
    | fact h k => rcases List.mem_cons.1 he with rfl | he
                  · exact h
                  · exact ih k e he
  | au _ ih =>
    intro Fd hl e he
    cases hl with
    | own h _ => exact h.elim
    | fact h k => rcases List.mem_cons.1 he with rfl | he
                  · exact h
                  · exact ih k e he
theorem VU {α:Type} (S:ag α) {d:Nat} {t e n bt ty:TI} {m:Option M} [ht:Bv P t e n bt]
  (h:∀ v,D P cx (.o false all l rk (.own (aJ e (ee n)) v [] :: .rd false (qt S) (.bool true) ([],[]) :: Γ) ((d,v) :: fr) m)):D P cx (.e false (.buildSlice t 0 #[]) (some d) ty all l rk Γ fr m):=by
 refine D.of ?_
 intro B o ho r w ha hs pos af g
 obtain ⟨h1,i,z,h2,_⟩:=ht.h
 obtain ⟨v,w',f,hr,hC,hO⟩:=AH (E:=ee n) (r:=r) (w:=w) (d:=some d) (ty:=ty) (pos:=pos) (af:=af) (g:=none) h1 h2
 refine e7 (WL.val rfl hr ((h v).sound B o ho _ w' (ay ha) ?_))
 obtain ⟨Z,F,hS,hg⟩:=hs
 have hf:fact Z w [] (.rd false (qt S) (.bool true) ([],[])):=⟨[],⟨rfl,rfl,fun _ h=>absurd h List.not_mem_nil⟩,fun _ h=>absurd h List.not_mem_nil⟩
 exact St.put (f:=[]) (SA.fact hS hf) hg hC hO.1 hO.2.1 fun b hb=>.inr ((hO.2.2 b hb).resolve_left List.not_mem_nil)
theorem VV {α:Type} {S:ag α} {q:Bool} {d n e:Nat} {x:OO} {v:Value} {us:List (List Value)} {xs:List α} {t ty bt:TI} {m:Option M} [ht:Bv P t e n bt] (hx:bp fr x=some v) (h1:di Γ (.own (aJ e (ee n)) v us) Γ1) (hg:In (.rd false (qt S) (.bool true) (us,xs)) Γ)
  (h:D P cx (.o q all l rk Γ ((d,.int .i64 (xs.length:Int)) :: fr) m)):D P cx (.e q (.call ⟨.builtin .len,#[x],#[t]⟩) (some d) ty all l rk Γ fr m):=by
 refine D.of ?_
 intro B o ho r w ha hs pos af g
 obtain ⟨q1,_⟩:=ht.h
 obtain ⟨Z,F,hS,hG⟩:=@_root_.id _ hs
 obtain ⟨f,F1,_,hO,_⟩:=h1.sound hS
 obtain ⟨k,hk,_⟩:=hg.rd hS []
 obtain ⟨base,cap,hv,_⟩:=hO
 obtain rfl:v = .slice base us.length cap:=by simpa using hv
 have hl:us.length=xs.length:=zJ hk.2.1
 exact cq (v:=.int .i64 (xs.length:Int)) (fun w' _=>by rw [← hl]; exact u9 q1 (aT ha hx)) (h.sound B o ho _ w (ay ha) hs)
theorem Z9 {α V:Type} {S:ag α} {cl:α→V→List Value} {en:α→V→List aw} {q:Bool} {d n e:Nat} {x y:OO} {v:Value} {us:List (List Value)} {xs:List α} {k:IntKind} {j:Int} {t ty bt:TI} {f:α→Option M} [ht:Bv P t e n bt] (hx:bp fr x=some v) (hy:bp fr y=some (.int k j))
  (h1:di Γ (.own (aJ e (ee n)) v us) Γ1) (hg:In (.rd false (qt S) (.bool true) (us,xs)) Γ) (hs:FY S V cl en)
  (h:∀ z u,D P cx (.p [] (.rd false (Bq us j) (.bool true) (cl z u) :: en z u) fr Γ fun fr Γ=>.o q all l rk Γ ((d,.pointer (some (dc v n j))) :: fr) (f z))):D P cx (.e q (.indexAddr t x y) (some d) ty all l rk Γ fr (idx xs j>>=f)):=by
 refine D.of ?_
 intro B o ho r w ha ep pos af g
 replace hs:SO S V cl en:=by cases hs; assumption
 obtain ⟨z,hz,ho⟩:=bind_some ho
 replace hz:=rh hz
 obtain ⟨q1,i,_,q2,_,_,q3,_⟩:=ht.h
 obtain ⟨Z,F,hS,hG⟩:=ep
 obtain ⟨f0,F1,_,hO,_⟩:=h1.sound hS
 obtain ⟨g0,hk,se⟩:=hg.rd hS []
 obtain ⟨c,g1,e1,e2,e3⟩:=DY j.toNat hk.2.1 hz.2
 obtain ⟨u,rfl,tB⟩:=hs.op e2
 have hlen:us.length=xs.length:=zJ hk.2.1
 have bm:j.toNat < xs.length:=(List.getElem?_eq_some_iff.1 hz.2).1
 have hv:∃ a c,v = .slice (some a) us.length c:=by
  obtain ⟨base,cap,hv,hr⟩:=hO
  obtain rfl:v = .slice base us.length cap:=by simpa using hv
  rcases hr with ⟨_,_,rfl,_⟩ | ⟨b,cur,f',rfl,_⟩
  ·rw [← hlen] at bm; simp at bm
  ·exact ⟨_,_,rfl⟩
 obtain ⟨a,c',rfl⟩:=hv
 have du:HL Z w (.rd false (Bq us j) (.bool true) (cl z u) :: en z u) []:=.fact ⟨[],⟨rfl,⟨hz.1,e1⟩,rfl⟩,fun _ h=>absurd h List.not_mem_nil⟩ (vT (tB Z fun b hb=>se b (e3 b hb)))
 obtain ⟨F',hp,fc⟩:=du.build hS
 refine cq (v:=.pointer (some (dc (.slice (some a) us.length c') n j))) (fun w' hC=>?_) ((h z u).sound B o ho _ w (ay ha) ⟨Z,F',fc,hG.perm (by simpa using hp)⟩)
 rw [mf q1 q2 (aT ha hx) (aT ha hy) hz.1 (by omega),q3]
 rfl
theorem NG {q:Bool} {d n off e:Nat} {x:OO} {v u:Value} {us:List (List Value)} {j:Int} {cs:LV} {ty:TI} {m:Option M} (h1:di Γ (.own (aJ e (ee n)) v us) Γ1) (hp:In (.rd false (Bq us j) (.bool true) cs) Γ) (hc:cs[off]? = some u)
  (k:D P cx (.o q all l rk Γ ((d,u) :: fr) m)):D P cx (.la ((dc v n j).add off) none q ty x d all l rk Γ fr m):=by
 refine D.of ?_
 intro ht hx B o ho r w ha hs t pos af g
 obtain ⟨Z,F,hS,_⟩:=@_root_.id _ hs
 obtain ⟨f,F1,_,hO,_⟩:=h1.sound hS
 obtain ⟨_,⟨_,⟨hj,hu⟩,_⟩,_⟩:=hp.rd hS []
 exact cq (Ld ht ((yZ hO hj hu).2.2 off u hc) (aT ha hx)) (k.sound B o ho _ w (ay ha) hs)
theorem LJ {q:Bool} {d n e:Nat} {x:OO} {v u:Value} {us:List (List Value)} {j:Int} {cs:LV} {ty:TI} {m:Option M} (h1:di Γ (.own (aJ e (ee n)) v us) Γ1) (hp:In (.rd false (Bq us j) (.bool true) cs) Γ) (hc:cs[0]? = some u)
  (k:D P cx (.o q all l rk Γ ((d,u) :: fr) m)):D P cx (.la (dc v n j) none q ty x d all l rk Γ fr m):=by
 have e:(dc v n j).add 0=dc v n j:=rfl
 rw [← e]
 exact NG h1 hp hc k
theorem NH {q:Bool} {d n e:Nat} {x:OO} {v:Value} {us:List (List Value)} {j:Int} {cs:LV} {ty:TI} {m:Option M} (h1:di Γ (.own (aJ e (ee n)) v us) Γ1) (hp:In (.rd false (Bq us j) (.bool true) cs) Γ)
  (k:D P cx (.o q all l rk Γ ((d,.agg cs.toArray) :: fr) m)):D P cx (.la (dc v n j) (some n) q ty x d all l rk Γ fr m):=by
 refine D.of ?_
 intro ht hx B o ho r w ha hs t pos af g
 obtain ⟨Z,F,hS,_⟩:=@_root_.id _ hs
 obtain ⟨f,F1,_,hO,_⟩:=h1.sound hS
 obtain ⟨_,⟨_,⟨hj,hu⟩,_⟩,_⟩:=hp.rd hS []
 obtain ⟨e1,_,e3⟩:=yZ hO hj hu
 exact cq (Lg ht (fun i u hi=>e3 i u hi) (aT ha hx) e1) (k.sound B o ho _ w (ay ha) hs)
theorem Si {α V:Type} {S:ag α} {cl:α→V→List Value} {en:α→V→List aw} (y:α) {u:V} {d b n e bt:Nat} {s x:OO} {sv:Value} {us:List (List Value)} {xs:List α} {cs:LV} {t et ty:TI} {f:Unit→Option M} [ht:Bv P t e n bt]
  (hs:bp fr s=some sv) (hx:bp fr x=some (.slice (some ⟨b,0,none⟩) 1 1)) (h0:di Γ (.row b cs et) Γ1) (h1:di Γ1 (.own (aJ e (ee n)) sv us) Γ2) (hg:In (.rd false (qt S) (.bool true) (us,xs)) Γ2) (nn:FY S V cl en) (_hv:u5 V u) (hc:cs=cl y u) (ho:vP Γ cs) (hn:cs.length=n) (VW:FO (en y u)) (hf:EF Γ2 (en y u) Γ3)
  (h:∀ v,D P cx (.o false all l rk (.own (aJ e (ee n)) v (us++[cs]) :: .rd false (qt S) (.bool true) (us++[cs],xs++[y]) :: Γ3) ((d,v) :: fr) (f ()))):D P cx (.e false (.call ⟨.builtin .append,#[s,x],#[t,t]⟩) (some d) ty all l rk Γ fr (fits bt (xs.length+1)>>=f)):=by
 refine D.of ?_
 intro B o cg r w ha ep pos af g
 have Fk:SO S V cl en:=by cases nn; assumption
 obtain ⟨_,hu,cg⟩:=bind_some cg
 obtain ⟨b1,b2⟩:=qw hu
 obtain ⟨q1,i,z,q2,q3,q4,q5,q6,_⟩:=ht.h
 obtain ⟨Z,F,hS,hG⟩:=ep
 have G8:=ho.one hS
 obtain ⟨n0,F0,tC,⟨rfl,bg⟩,va⟩:=h0.sound hS
 obtain ⟨k,F1,hp,hO,ez⟩:=h1.sound va
 obtain ⟨Fd,F2,Zn,VX,fc,ox⟩:=hf.sound ez
 obtain ⟨g0,hk,se⟩:=hg.rd ez []
 have hlen:us.length=xs.length:=zJ hk.2.1
 have o5:((k++F1)++[b]).Perm F:=(List.perm_append_comm.trans (hp.append_left [b])).trans tC
 have jv:Gd B Z (k++F1) w:=Gd.left (F':=[b]) (hG.perm o5)
 have xu:((k++F2)++(Fd++Zn)).Perm (k++F1):=by
  rw [List.append_assoc]
  refine List.Perm.append_left k (.trans ?_ ox)
  rw [← List.append_assoc]
  exact (List.perm_append_comm (l₁:=F2) (l₂:=Fd)).append_right Zn
 have j4:Gd B Z ((k++F2)++(Fd++Zn)) w:=jv.perm xu
 have bm:∀ b∈Fd++Zn,b < w.heap.size:=fun b hb=>by
  have h3:b∈k++F1:=xu.mem_iff.1 (List.mem_append_right _ hb)
  rcases List.mem_append.1 h3 with h3 | h3
  ·exact ag.lt _ hO b h3
  ·exact ez.lt b h3
 have wL:Gd B (r4 Z (Fd++Zn)) (k++F2) w:=j4.freeze bm
 have Eg:∀ b,r4 Z Zn b→r4 Z (Fd++Zn) b:=fun b hb=>hb.imp id fun h=>List.mem_append_right _ h
 obtain ⟨g1,yQ,Eh⟩:=Fk.cl (x:=y) (v:=u) (Z:=r4 Z (Fd++Zn)) (w:=w) (Sh VW (VX.mono Eg))
 have hdk:sS [] k:=fun _ h=>absurd h List.not_mem_nil
 have hE:dw (ee n) w.heap cs [cs] []:=⟨cs,[],[],[],by simp,by simp,⟨rfl,hn,G8,rfl⟩,rfl,rfl⟩
 obtain ⟨v,w',f',lg,hC,ei,dg,da⟩:=qy (E:=ee n) (d:=some d) (ty:=ty) (pos:=pos) (af:=af) (g:=none) (k:=[]) (ys:=[cs]) (news:=cs) q1 q2 q3 (by rw [q5]; rfl) (by rw [q4]; rfl) (aT ha hs) hO (List.nodup_append.1 jv.nd).1 (aT ha hx) (fun i u hi=>bg.at i u hi) hE hdk (by simp) (by rw [q6,hlen]; exact b1) (by rw [hlen]; exact b2)
 refine e7 (WL.val rfl lg ((h v).sound B o cg _ w' (ay ha) ?_))
 have VY:fact (r4 Z (Fd++Zn)) w [] (.rd false (qt S) (.bool true) (us++[cs],xs++[y])):=by
  rw [hc]
  refine ⟨g0++g1,⟨rfl,UB yQ hk.2.1,fun b hb=>?_⟩,fun b hb=>?_⟩
  ·rcases List.mem_append.1 hb with hb | hb
   ·exact hk.2.2 b hb
   ·exact S.lt yQ b hb
  ·rcases List.mem_append.1 hb with hb | hb
   ·exact .inl (se b hb)
   ·exact Eh b hb
 exact St.put (SA.fact (fc.mono Eg fun _ h=>h) VY) wL hC ei (da List.nodup_nil) fun b hb=>(dg b hb).imp id fun h=>h.resolve_left List.not_mem_nil
theorem TG {n:Nat} {h:Array Obj}:∀ {us:List (List Value)} {cs:LV} {f:LN},dw (ee n) h cs us f→∀ c∈us,c.length=n∧∀ v∈c,v.oneCell'=true:=by
 intro us
 induction us with
 | nil=>intro cs f _ c hc; cases hc
 | cons a us ih=>
  rintro cs f ⟨c',gy,f1,f2,rfl,rfl,⟨rfl,h1,h2,rfl⟩,h3⟩ c hc
  rcases List.mem_cons.1 hc with rfl | hc
  ·exact ⟨h1,h2⟩
  ·exact ih h3 c hc
theorem TH {n:Nat} {h:Array Obj}:∀ {us:List (List Value)},(∀ c∈us,c.length=n∧∀ v∈c,v.oneCell'=true)→dw (ee n) h us.flatten us []:=by
 intro us
 induction us with
 | nil=>intro _; exact ⟨rfl,rfl⟩
 | cons a us ih=>
  intro hc
  have h1:=hc a (by simp)
  exact ⟨a,us.flatten,[],[],by simp,rfl,⟨rfl,h1.1,h1.2,rfl⟩,ih fun c hm=>hc c (by simp [hm])⟩
theorem JS {n:Nat} {c:LV}:∀ {us:List (List Value)} {j:Nat},(∀ x∈us,x.length=n)→j < us.length→(us.set j c).flatten=us.flatten.take (j * n)++c++us.flatten.drop (j * n+n)∧j * n+n≤us.flatten.length:=by
 intro us
 induction us with
 | nil=>intro j _ hj; simp at hj
 | cons a us ih=>
  intro j hl hj
  have ha:a.length=n:=hl a (by simp)
  cases j with
  | zero=>refine ⟨?_,by simp [ha]⟩; simp [← ha]
  | succ j=>
   obtain ⟨h1,h2⟩:=ih (j:=j) (fun x hx=>hl x (by simp [hx])) (by simpa using hj)
   have e:(j+1) * n=n+j * n:=by rw [Nat.add_mul,Nat.one_mul,Nat.add_comm]
   refine ⟨?_,by rw [e,List.flatten_cons,List.length_append,ha]; omega⟩
   rw [List.set_cons_succ,List.flatten_cons,List.flatten_cons,h1,e,List.take_append,List.drop_append,ha]
   have e1:List.take (n+j * n) a=a:=List.take_of_length_le (by omega)
   have e2:List.drop (n+j * n+n) a=[]:=List.drop_eq_nil_of_le (by omega)
   rw [e1,e2,show n+j * n - n=j * n by omega,show n+j * n+n - n=j * n+n by omega]
   simp
theorem stS {α V:Type} {S:ag α} {cl:α→V→List Value} {en:α→V→List aw} (y:α) {u:V} {n e:Nat} {x0 y0:OO} {v:Value} {j:Int} {us:List (List Value)} {xs:List α} {cs c0:LV} {t ty:TI} {m:Option M}
  (h1:di Γ (.own (aJ e (ee n)) v us) Γ1) (hp:In (.rd false (Bq us j) (.bool true) c0) Γ) (hg:In (.rd false (qt S) (.bool true) (us,xs)) Γ1) (nn:FY S V cl en) (_hv:u5 V u) (hc:cs=cl y u) (ho:vP Γ cs) (hn:cs.length=n) (VW:FO (en y u)) (hf:EF Γ1 (en y u) Γ2)
  (h:D P cx (.o false all l rk (.own (aJ e (ee n)) v (us.set j.toNat cs) :: .rd false (qt S) (.bool true) (us.set j.toNat cs,xs.set j.toNat y) :: Γ2) fr m)):D P cx (.st (dc v n j) (.agg cs.toArray) n t x0 y0 ty all l rk Γ fr m):=by
 refine D.of ?_
 intro hT hx hy B o cg r w ha ep pos af g
 have Fk:SO S V cl en:=by cases nn; assumption
 obtain ⟨i,q1,q2⟩:=hT
 obtain ⟨Z,F,hS,hG⟩:=ep
 have G8:=ho.one hS
 obtain ⟨_,⟨_,⟨hj,hu⟩,_⟩,_⟩:=hp.rd hS []
 obtain ⟨k,F1,sf,hO,ez⟩:=h1.sound hS
 obtain ⟨Fd,F2,Zn,VX,fc,ox⟩:=hf.sound ez
 obtain ⟨g0,hk,se⟩:=hg.rd ez []
 have jv:Gd B Z (k++F1) w:=hG.perm sf
 have xu:((k++F2)++(Fd++Zn)).Perm (k++F1):=by
  rw [List.append_assoc]
  refine List.Perm.append_left k (.trans ?_ ox)
  rw [← List.append_assoc]
  exact (List.perm_append_comm (l₁:=F2) (l₂:=Fd)).append_right Zn
 have j4:Gd B Z ((k++F2)++(Fd++Zn)) w:=jv.perm xu
 have bm:∀ b∈Fd++Zn,b < w.heap.size:=fun b hb=>by
  have h3:b∈k++F1:=xu.mem_iff.1 (List.mem_append_right _ hb)
  rcases List.mem_append.1 h3 with h3 | h3
  ·exact ag.lt _ hO b h3
  ·exact ez.lt b h3
 have wL:Gd B (r4 Z (Fd++Zn)) (k++F2) w:=j4.freeze bm
 have Eg:∀ b,r4 Z Zn b→r4 Z (Fd++Zn) b:=fun b hb=>hb.imp id fun h=>List.mem_append_right _ h
 obtain ⟨g1,yQ,Eh⟩:=Fk.cl (x:=y) (v:=u) (Z:=r4 Z (Fd++Zn)) (w:=w) (Sh VW (VX.mono Eg))
 obtain ⟨g2,RW,hgb⟩:=MU (c:=cs) (by rw [hc]; exact yQ) j.toNat hk.2.1
 have VY:fact (r4 Z (Fd++Zn)) w [] (.rd false (qt S) (.bool true) (us.set j.toNat cs,xs.set j.toNat y)):=by
  refine ⟨g2,⟨rfl,RW,fun b hb=>?_⟩,fun b hb=>?_⟩
  ·exact (hgb b hb).elim (hk.2.2 b) (S.lt yQ b)
  ·exact (hgb b hb).elim (fun h=>.inl (se b h)) (Eh b)
 have B0:j.toNat < us.length:=(List.getElem?_eq_some_iff.1 hu).1
 obtain ⟨base,cap,o9,hr⟩:=hO
 obtain rfl:v = .slice base us.length cap:=by simpa using o9
 rcases hr with ⟨_,_,rfl,_⟩ | ⟨b,cur,f',rfl,h2,rfl,h4,h5,h6,h3⟩
 ·simp at B0
 ·obtain ⟨hcf,ve⟩:=Hh h3
  subst ve
  have du:=TG h3
  obtain ⟨e1,e2⟩:=JS (c:=cs) (fun x hx=>(du x hx).1) B0
  have bg:Row w b cur.toList e:=by unfold Row; simpa using h2
  have VZ:cur.toList=us.flatten++cur.toList.drop (us.length * n):=by
   rw [← hcf]; exact (List.take_append_drop _ _).symm
  have xU:dc (.slice (some ⟨b,0,none⟩) us.length cap) n j = ⟨b,j.toNat * n,none⟩:=by
   simp only [dc,jq,Nat.zero_add]
  rw [xU] at hx
  have hle:j.toNat * n+cs.length≤cur.toList.length:=by
   rw [hn,VZ,List.length_append]; omega
  have lg:=wm (P:=P) (d:=none) (ty:=ty) (pos:=pos) (af:=af) (gg:=none) q1 (by rw [hn,q2]) bg hle (aT ha hx) (y:=y0) (by rw [aT ha hy]; rfl) G8
  refine e7 (WL.skip rfl lg (h.sound B o cg _ _ ha ?_))
  have AO:cur.toList.take (j.toNat * n)++cs++cur.toList.drop (j.toNat * n+cs.length)=(us.set j.toNat cs).flatten++cur.toList.drop (us.length * n):=by
   rw [hn,e1]
   conv=>lhs; rw [VZ]
   rw [List.take_append_of_le_length (by omega),List.drop_append_of_le_length (by omega)]
   simp
  have sn:=setRow_heap w b cur (cur.toList.take (j.toNat * n)++cs++cur.toList.drop (j.toNat * n+cs.length)).toArray e _ h2
  refine St.put (f:=[b]) (f':=[b]) (SA.fact (fc.mono Eg fun _ h=>h) VY) wL ⟨rfl,rfl,rfl,Nat.le_refl _,by simp,fun j' _ iz=>setRow_other w b j' _ fun h=>iz (by simp [h])⟩ ?_ (by simp) (fun b hb=>.inl hb)
  refine ⟨_,cap,by rw [List.length_set],.inr ⟨b,_,[],rfl,sn,rfl,by rw [List.length_set]; exact h4,h5,?_,?_⟩⟩
  ·rw [← h6]
   simp only [List.size_toArray,AO]
   have e3:(us.set j.toNat cs).flatten.length=us.flatten.length:=by
    rw [e1]; simp only [List.length_append,List.length_take,List.length_drop,hn]; omega
   rw [List.length_append,e3,← List.length_append,← VZ,Array.length_toList]
  ·rw [List.toList_toArray,AO,List.length_set]
   have ama:(us.set j.toNat cs).flatten.length=us.length * n:=by
    have e3:(us.set j.toNat cs).flatten.length=us.flatten.length:=by
     rw [e1]; simp only [List.length_append,List.length_take,List.length_drop,hn]; omega
    rw [e3]
    have:=kz h3
    rw [hcf] at this
    exact this
   show dw (ee n) _ (List.take (us.length * n) _) _ _
   rw [List.take_append_of_le_length (by omega),List.take_of_length_le (by omega)]
   refine TH fun c hm=>?_
   rcases List.mem_or_eq_of_mem_set hm with hm | rfl
   ·exact du c hm
   ·exact ⟨hn,G8⟩
theorem zC {α:Type} {E:ag α} {d n:Nat} {t e ty:TI} {ps:List (Nat×Operand)} {us:LV} {xs:List α} {m:Option M} [hz:Kr P t e] (hl:vR Γ fr 0 ps us) (hn:us.length=n) (hb:(Nat.ble 1 n && Nat.ble n 16777216)=true) (hx:Ho Γ E us xs Γ1) (hE:E.size=1)
  (h:∀ v,D P cx (.o false all l rk (.own (aJ e E) v xs :: Γ1) ((d,v) :: fr) m)):D P cx (.e false (.buildSlice t n ps.toArray) (some d) ty all l rk Γ fr m):=by
 refine D.of ?_
 intro B o ho r w ha hs pos af g
 obtain ⟨Z,F,hS,hg⟩:=hs
 refine e7 (WL.val rfl (hl.op ha hS ⟨hz.h⟩ hn hb) ((h _).sound B o ho _ _ (ay ha) ?_))
 obtain ⟨e1,f,F2,ox,hr,fc⟩:=hx.sound hS
 have Hr:n≤16777216:=by
  rw [Bool.and_eq_true] at hb
  exact Nat.le_of_ble_eq_true hb.2
 have hC:an [] w (w.alloc (.cells us.toArray e)):=an.alloc _ _ _
 have jm:Gd B Z (f++F2) w:=hg.perm ox
 have bm:∀ b∈f,b < w.heap.size:=my hr
 have AO:=heap_alloc_new w (.cells us.toArray e)
 have fh:dw E (w.alloc (.cells us.toArray e)).heap us xs f:=kn hr fun b hb=>hC.block b (bm b hb) (fun h=>absurd h List.not_mem_nil)
 refine St.put (f:=f) (f':=w.heap.size :: f) fc jm (an.mono hC fun _ h=>absurd h List.not_mem_nil) ⟨_,n,by rw [← hn,e1],.inr ⟨w.heap.size,us.toArray,f,rfl,AO,rfl,by rw [← hn,e1]; exact Nat.le_refl _,Nat.le_trans Hr (by decide),by rw [hE,Nat.mul_one]; simp [hn],?_⟩⟩ ?_ ?_
 ·rw [hE,Nat.mul_one,List.toList_toArray,← e1,List.take_length]
  exact fh
 ·exact List.nodup_cons.2 ⟨fun hm=>Nat.lt_irrefl _ (bm _ hm),(List.nodup_append.1 jm.nd).1⟩
 ·intro b hb
  rcases List.mem_cons.1 hb with rfl | hb
  ·exact .inr (Nat.le_refl _)
  ·exact .inl hb
theorem apR {α:Type} {d b:Nat} {s x:OO} {v u yv:Value} {j:Int} {y:α} {z:List α} {xs:List (List α)} {t e e' et ty:TI} {E E':ag α} {z0:α} {bt:Nat} {o1 o2:Bool} {Γx:QE} {f:Unit→Option M} [hT:tX P t α e E z0 bt] (hs:bp fr s=some u) (hx:bp fr x=some (.slice (some ⟨b,0,none⟩) 1 1)) (hl:Loc Γ u (.row v j)) (h0:di Γ (.row b [yv] et) Γ1) (hz:qp Γ u o1 o2 E' z uf Γx) (h1:di Γ1 (.own (aJ e' (aJ e E)) v xs) Γ2) (hr:RT (aJ e E) (bJ E')) (hy:C4 Γ2 E yv y Γ3)
  (h:∀ v',D P cx (.o false all l rk (.own (aJ e E) v' (z++[y]) :: .own (vb e' (aJ e E) j.toNat) v xs :: Γ3) ((d,v') :: fr) (f ()))):D P cx (.e false (.call ⟨.builtin .append,#[s,x],#[t,t]⟩) (some d) ty all l rk Γ fr (fits bt (z.length+1)>>=f)):=by
 refine D.of ?_
 intro B o cg r w ha ep pos af g
 obtain ⟨_,hu,cg⟩:=bind_some cg
 obtain ⟨b1,b2⟩:=qw hu
 obtain ⟨q1,q2,i,zz,q3,q4,q5,q6,q7,_⟩:=hT.h
 obtain ⟨Z,F,hS,hG⟩:=ep
 obtain ⟨j0,j1,ko⟩:=Loc.row hl rfl hS
 obtain ⟨dx,_,⟨⟨gz,se,_⟩,_⟩,_⟩:=hz.sound hS
 obtain ⟨n0,F0,tC,⟨rfl,bg⟩,va⟩:=h0.sound hS
 obtain ⟨fm,F1,sf,hO,ez⟩:=h1.sound va
 obtain ⟨ky,F2,ox,Vl,fc⟩:=hy.sound ez
 rw [tA hO] at j1
 obtain ⟨k,gm,a1,a2,a3⟩:=HF rfl hO (List.getElem?_eq_getElem j1) ko
 have Vn:xs[j.toNat]=z:=hr.vG (hr.le.le a1) se
 rw [Vn] at a1
 have o5:((k++ky)++(gm++F2)).Perm (fm++F1):=by
  have e1:((k++gm)++(ky++F2)).Perm (fm++F1):=(a2.append_right _).trans (ox.append_left fm)
  refine .trans ?_ e1
  rw [List.append_assoc,List.append_assoc]
  refine List.Perm.append_left k ?_
  rw [← List.append_assoc,← List.append_assoc]
  exact List.perm_append_comm.append_right F2
 have jv:Gd B Z ((k++ky)++(gm++F2)) w:=Gd.left (F':=[b]) (hG.perm (((o5.append_right [b]).trans (List.perm_append_comm.trans (sf.append_left [b]))).trans tC))
 have da:=(List.nodup_append.1 jv.nd).1
 have x7:=List.nodup_append.1 da
 obtain ⟨v',w',f',lg,hC,ei,dg,HU⟩:=qy (E:=E) (d:=some d) (ty:=ty) (pos:=pos) (af:=af) (g:=none) (k:=ky) (ys:=[y]) (news:=[yv]) q1 q3 q4 (by rw [q5,q2]) (by rw [cells_one q6,q2]; rfl) (aT ha hs) a1 x7.1 (aT ha hx) (fun i u hi=>bg.at i u hi) (s8 Vl) (fun b hb hm=>x7.2.2 b hm b hb rfl) (by simp) (by rw [q7]; exact b1) b2
 refine e7 (WL.val rfl lg ((h v').sound B o cg _ w' (ay ha) ?_))
 have hSh:SA Z w (.own (vb e' (aJ e E) j.toNat) v xs :: Γ3) [] (gm++F2):=SA.cons fc (e:=.own (vb e' (aJ e E) j.toNat) v xs) a3
 refine St.put hSh jv (hC.mono fun b hb=>List.mem_append_left _ hb) ei (HU x7.2.1) fun b hb=>?_
 rcases dg b hb with h | h | h
 ·exact .inl (List.mem_append_left _ h)
 ·exact .inl (List.mem_append_right _ h)
 ·exact .inr h
theorem ixH {α:Type} {q:Bool} {d j0:Nat} {x y:OO} {v:Value} {k:IntKind} {j:Int} {xs:List α} {t e ty:TI} {E:ag α} {f:α→Option M} [ht:yT P t] (hx:bp fr x=some v) (hy:bp fr y=some (.int k j)) (h1:di Γ (.own (vb e E j0) v xs) Γ1)
  (h:∀ z,D P cx (.o q all l rk Γ ((d,.pointer (some (dc v 1 j))) :: fr) (f z))):D P cx (.e q (.indexAddr t x y) (some d) ty all l rk Γ fr (idx xs j>>=f)):=by
 refine D.of ?_
 intro B o ho r w ha hs pos af g
 obtain ⟨z,hz,ho⟩:=bind_some ho
 replace hz:=rh hz
 obtain ⟨e',i,q1,q2,q3⟩:=ht.h
 obtain ⟨Z,F,hS,_⟩:=@_root_.id _ hs
 obtain ⟨f0,F1,_,⟨b,cap,cur,f1,f2,p,c0,qq,hv,_⟩,_⟩:=h1.sound hS
 obtain rfl:v = .slice (some ⟨b,0,none⟩) xs.length cap:=by simpa using hv
 have bm:j.toNat < xs.length:=(List.getElem?_eq_some_iff.1 hz.2).1
 have Ie:=hz.1
 refine cq (v:=.pointer (some (dc (.slice (some ⟨b,0,none⟩) xs.length cap) 1 j))) (fun w' hC=>?_) ((h z).sound B o ho _ w (ay ha) hs)
 rw [mf q1 q2 (aT ha hx) (aT ha hy) hz.1 (by omega),q3]
 rfl
theorem stR {α:Type} {x0 y0:OO} {v u:Value} {j:Int} {z:α} {xs:List α} {t e ty:TI} {E:ag α} {m:Option M} (h1:di Γ (.own E u z) Γ1) (h2:di Γ1 (.own (vb e E j.toNat) v xs) Γ2)
  (h:D P cx (.o false all l rk (.own (aJ e E) v (xs.set j.toNat z) :: Γ2) fr m)):D P cx (.st (dc v 1 j) u 1 t x0 y0 ty all l rk Γ fr m):=by
 refine D.of ?_
 intro hT hx hy B o cg r w ha ep pos af g
 obtain ⟨i,q1,q2⟩:=hT
 obtain ⟨Z,F,hS,hG⟩:=ep
 obtain ⟨k,F1,sf,hK,ez⟩:=h1.sound hS
 obtain ⟨gm,F2,ox,hM,fc⟩:=h2.sound ez
 have xu:((gm++k)++F2).Perm F:=by
  refine .trans ?_ sf
  refine .trans ?_ (ox.append_left k)
  rw [← List.append_assoc k gm F2]
  exact List.perm_append_comm.append_right F2
 have jv:Gd B Z ((gm++k)++F2) w:=hG.perm xu
 have da:=(List.nodup_append.1 jv.nd).1
 obtain ⟨b,cap,cur,f1,f2,p,c0,qq,hv,g1,rfl,⟨g2,g3,g4,g5⟩,g6,⟨g7,g8⟩,g9,g10⟩:=hM
 obtain rfl:v = .slice (some ⟨b,0,none⟩) xs.length cap:=by simpa using hv
 have xU:dc (.slice (some ⟨b,0,none⟩) xs.length cap) 1 j = ⟨b,j.toNat,none⟩:=by
  simp only [dc,jq,Nat.zero_add,Nat.mul_one]
 rw [xU] at hx
 have bg:Row w b cur.toList e:=by unfold Row; simpa using g1
 have Uw:∀ i∈(f1++f2)++k,i≠b:=by
  intro i hi he
  subst he
  have e1:((i :: (f1++f2))++k)=i :: ((f1++f2)++k):=rfl
  rw [e1] at da
  exact (List.nodup_cons.1 da).1 hi
 refine e7 (WL.HC q1 q2 bg (by rw [Array.length_toList,g4]; omega) (aT ha hx) (aT ha hy) (E.one hK u (by simp)) fun w' hC tf=>h.sound B o cg _ w' ha ?_)
 have Sj:∀ i∈(f1++f2)++k,i < w.heap.size→w'.heap[i]? = w.heap[i]?:=fun i hi hl=>hC.block i hl fun hm=>Uw i hi (by simpa using hm)
 have hK':E.rep w'.heap [u] z k:=E.congr hK fun i hi=>Sj i (List.mem_append_right _ hi) (E.lt hK i hi)
 have MW:=g10 w'.heap (fun i hi=>Sj i (List.mem_append_left _ hi) (g9 i hi)) u z k hK'
 refine St.put (f:=(b :: (f1++f2))++k) (f':=b :: (f1++k++f2)) fc jv (hC.mono fun i hi=>by rw [List.mem_singleton.1 hi]; simp) ⟨_,cap,by rw [List.length_set],.inr ⟨b,_,f1++k++f2,rfl,tf,rfl,by rw [List.length_set]; exact g2,g3,?_,?_⟩⟩ ?_ ?_
 ·rw [g5]; simp [g4]
 ·have sn:((cur.toList.set j.toNat u).take xs.length)=p++[u]++qq:=by
   rw [List.take_set,g6,← g7]
   simp
  rw [List.length_set,g5,Nat.mul_one]
  simpa [sn] using MW
 ·have C9:(b :: (f1++k++f2)).Perm ((b :: (f1++f2))++k):=by
   rw [List.cons_append]
   refine List.Perm.cons b ?_
   rw [List.append_assoc,List.append_assoc]
   exact List.Perm.append_left f1 List.perm_append_comm
  exact C9.nodup_iff.2 da
 ·intro i hi
  refine .inl ?_
  rcases List.mem_cons.1 hi with rfl | hi
  ·simp
  ·rcases List.mem_append.1 hi with hi | hi
   ·rcases List.mem_append.1 hi with hi | hi <;> simp [hi]
   ·simp [hi]
theorem wq {S S1 V W:Type} (k:Nat) (Δ:S1→V→W→List aw) (φ:S1→V→W→Fr) (v0:V) (w0:W) (f2:Fr) {gu:List KI} {kb:Kb R S} {c:Code} {s0:S1} {body:S1→Option (Out S1 R)} {f:S1→Option (Out S R)}
  (ha:r3 fr (φ s0 v0 w0)) (hf:r3 fr f2) (h0:EO Γ (Δ s0 v0 w0) Γ1) (hn:OW Γ (Δ s0 v0 w0)) (hs:j5 Γ1 Γ2)
  (hb:∀ s v w,D P cx (.p (φ s v w) (Δ s v w) f2 Γ2 fun fr Γ=>.c ⟨[],.loop (V×W) k (fun s v=>Δ s v.1 v.2) (fun s v=>φ s v.1 v.2) Γ2 f2⟩ c Γ fr (body s)))
  (hk:∀ s v w,D P cx (.p (φ s v w) (Δ s v w) f2 Γ2 fun fr Γ=>.mn ⟨gu,kb⟩ Γ fr (f s))):Bx (me P cx (.bk true k ⟨gu,kb⟩ (.loop c) Γ fr (ah (ae k (Li.ai body s0)) f))):=
 loop k (fun s v=>Δ s v.1 v.2) (fun s v=>φ s v.1 v.2) (v0,w0) f2 ha hf h0 hn hs (fun s v=>hb s v.1 v.2) (fun s v=>hk s v.1 v.2)
def Ig {α:Type} (v:Value) (_:List α):Prop:=∃ a n c,v = .slice a n c∧n≤c
theorem Le.cap {α:Type} {T E:ag α} (hl:Le T E) (e:TI):Le (aJ e T) (uG Ig (bJ E)):=by
 refine ⟨rfl,fun {h cs x f} hr=>⟨?_,(Le.own hl e).le hr⟩⟩
 obtain ⟨base,cap,rfl,hr⟩:=hr
 refine ⟨_,rfl,_,_,_,rfl,?_⟩
 rcases hr with ⟨_,_,rfl,_⟩ | ⟨_,_,_,_,_,_,h,_⟩
 ·exact Nat.zero_le _
 ·exact h
theorem TJ {α:Type} {T E:ag α} {e e2:TI} {v:Value} {xs:List (List α)} {f:LN} {h:Array Obj} (hl:Le T E) (hO:(aJ e (aJ e2 T)).rep h [v] xs f) :
  ∃ fo fz us,(fo++fz).Perm f∧(aJ e tc).rep h [v] us fo∧dw (uG Ig (bJ E)) h us xs fz:=by
 obtain ⟨base,cap,hv,hr⟩:=hO
 rcases hr with ⟨rfl,rfl,rfl,rfl⟩ | ⟨b,cur,f',rfl,h2,rfl,h4,h5,h6,h3⟩
 ·exact ⟨[],[],[],.refl _,⟨none,0,by simpa using hv,.inl ⟨rfl,rfl,rfl,rfl⟩⟩,rfl,rfl⟩
 ·have h7:=kz h3
  have h8:(aJ e2 T).size=1:=rfl
  rw [h8,Nat.mul_one] at h6 h3 h7
  try rw [Nat.mul_one] at h7
  refine ⟨[b],f',cur.toList.take xs.length,.refl _,⟨_,cap,by rw [h7]; exact hv,.inr ⟨b,cur,[],rfl,h2,rfl,by rw [h7]; exact h4,h5,by rw [h6]; exact (Nat.mul_one _).symm,?_⟩⟩,vO (Le.cap hl e2) h3⟩
  have h9:tc.size=1:=rfl
  rw [h9,Nat.mul_one,h7]
  exact De (DA h3)
theorem St.frz {α:Type} {T E:ag α} {e e2:TI} {v:Value} {xs:List (List α)} (hs:St B Γ w) (h1:EO Γ [.own (aJ e (aJ e2 T)) v xs] Γ1) (hr:RT T E):St B (.om e (uG Ig (bJ E)) v xs :: Γ1) w:=by
 obtain ⟨Z,F,hS,hG⟩:=hs
 obtain ⟨_,F1,hH,ez,hp⟩:=h1.sound hS
 obtain ⟨f,hO,hp⟩ : ∃ f,(aJ e (aJ e2 T)).rep w.heap [v] xs f∧(f++F1).Perm F:=by
  cases hH with
  | own h k=>cases k; exact ⟨_,h,by simpa using hp⟩
 obtain ⟨fo,fz,us,hf,ho,hl⟩:=TJ hr.le hO
 have xu:((fo++F1)++fz).Perm F:=by
  refine .trans ?_ hp
  refine .trans ?_ (hf.append_right F1)
  rw [List.append_assoc,List.append_assoc]
  exact List.Perm.append_left fo List.perm_append_comm
 have j4:=Gd.freeze (hG.perm xu) fun b hb=>hS.lt b (xu.mem_iff.1 (List.mem_append_right _ hb))
 exact ⟨r4 Z fz,fo++F1,SA.cons (ez.mono (fun _ h=>.inl h) fun _ h=>h) ⟨us,fz,ho,hl,fun b hb=>.inr hb,rfl⟩,j4⟩
theorem Zb {S:Type} {id:Nat} (k:Nat) {K:dk R S} {l ops tl0:LO} {α:Type} {T E:ag α} {e e2:TI} {v:Value} {xs:List (List α)} {m:Option (Out S R)} (hB:(P.follows .mixedOrders && de cx.n l && ((l.take k).all fun o=>x8 o.op) && Region.lexTailB .any l.toArray k)=true) (ho:ops=l.take k) (ht:tl0=l.drop k)
  (h1:EO Γ [.own (aJ e (aJ e2 T)) v xs] Γ1) (hr:RT T E) (h:D P cx (.o true l ops (.h l tl0 K) (.om e (uG Ig (bJ E)) v xs :: Γ1) fr m)):Bx (me P cx (.dr id l K Γ fr m)):=by
 have h2:=tail (id:=id) k hB ho ht h
 rw [mc] at h2 ⊢
 exact fun B o cg r w ha hs=>h2 B o cg r w ha (hs.frz h1 hr)
theorem NI {α:Type} {E:ag α} {h:Array Obj}:∀ {xs:List α} {cs:LV} {f:LN} (n:Nat),dw E h cs xs f→∃ f3,dw E h (cs.drop (n * E.size)) (xs.drop n) f3∧∀ b∈f3,b∈f:=by
 intro xs
 induction xs with
 | nil=>rintro cs f n ⟨rfl,rfl⟩; exact ⟨[],by simpa using ⟨rfl,rfl⟩,fun _ h=>h⟩
 | cons x xs ih=>
  rintro cs f n ⟨c,ds,f1,f2,rfl,rfl,h1,h2⟩
  cases n with
  | zero=>exact ⟨f1++f2,by simpa using ⟨c,ds,f1,f2,rfl,rfl,h1,h2⟩,fun _ h=>h⟩
  | succ n=>
   obtain ⟨f3,h3,h4⟩:=ih n h2
   refine ⟨f3,?_,fun b hb=>List.mem_append_right _ (h4 b hb)⟩
   have e:(n+1) * E.size=c.length+n * E.size:=by rw [E.len h1,Nat.add_mul,Nat.one_mul,Nat.add_comm]
   rw [e,List.drop_append,List.drop_of_length_le (by omega),List.nil_append,List.drop_succ_cons]
   simpa using h3
theorem slT {α:Type} {q:Bool} {d:Nat} {x lo:OO} {v:Value} {k:IntKind} {j:Int} {E:ag α} {xs:List α} {t ty:TI} {f:List α→Option M} [ht:yT P t] (hx:bp fr x=some v) (hy:bp fr lo=some (.int k j)) (hr:In (.rd false (uG Ig (bJ E)) v xs) Γ) (hE:E.size=1)
  (h:∀ v' ys,D P cx (.o q all l rk (.rd false (bJ E) v' ys :: Γ) ((d,v') :: fr) (f ys))):D P cx (.e q (.slice t x (some lo) none none) (some d) ty all l rk Γ fr (tl xs j>>=f)):=by
 refine D.of ?_
 intro B o ho r w ha hs pos af g
 obtain ⟨ys,hys,ho⟩:=bind_some ho
 obtain ⟨h0,h1,rfl⟩:=TK hys
 obtain ⟨e,i,q1,q2,q3⟩:=ht.h
 obtain ⟨Z,F,hS,hG⟩:=hs
 obtain ⟨g0,⟨⟨v0,hv0,a0,n0,c0,V0,hc⟩,base,cap,hv,fh⟩,se⟩:=hr.rd hS []
 obtain rfl:v = .slice base xs.length cap:=by simpa using hv
 obtain rfl:Value.slice base xs.length cap=v0:=by simpa using hv0
 obtain ⟨rfl,rfl,rfl⟩ : base=a0∧xs.length=n0∧cap=c0:=by simpa using V0
 have hlen:(xs.drop j.toNat).length=xs.length - j.toNat:=List.length_drop
 have hf:fact Z w [] (.rd false (bJ E) (sliced base j.toNat xs.length cap 1) (xs.drop j.toNat)):=by
  by_cases hj:j.toNat=xs.length
  ·refine ⟨[],⟨_,cap - j.toNat,by unfold sliced; rw [hlen],.inl ⟨by rw [hj]; simp,rfl⟩⟩,fun _ h=>absurd h List.not_mem_nil⟩
  ·rcases fh with ⟨rfl,_⟩ | ⟨b,off,cur,e',fz,f',rfl,g1,rfl,g2⟩
   ·exfalso; simp at h1 hj; omega
   ·have nq : ¬ (cap=j.toNat):=by omega
    obtain ⟨f3,ei,dg⟩:=NI j.toNat g2
    refine ⟨b :: f3,⟨some ⟨b,off+j.toNat,none⟩,cap - j.toNat,?_,.inr ⟨b,off+j.toNat,cur,e',fz,f3,rfl,g1,rfl,?_⟩⟩,fun i hi=>?_⟩
    ·unfold sliced
     rw [hlen,if_neg nq]
     simp [jq]
    ·rw [hE,Nat.mul_one] at ei ⊢
     rw [Nat.mul_one,List.drop_take,List.drop_drop] at ei
     rw [hlen]
     exact ei
    ·rcases List.mem_cons.1 hi with rfl | hi
     ·exact se _ (by simp)
     ·exact se _ (List.mem_cons_of_mem _ (dg i hi))
 refine cq (v:=sliced base j.toNat xs.length cap 1) (fun w' _=>?_) ((h _ _).sound B o ho _ w (ay ha) ⟨Z,F,SA.fact hS hf,hG⟩)
 have q4:P.elem t=e:=by simp [Program.elem,q1]
 have uh:(sizeOf (P.elem t)).run P w' = .ok 1 w':=by rw [q4]; simp [sizeOf,typeInfo,q2,q3]
 simp [execOp,aT ha hx,aT ha hy,run_sliceAt_slice w' t _ _ _ _ (by rw [q4]; exact q1),run_slice_l (P:=P) w' t base xs.length cap (by rw [q4]; exact q1) k j h0 h1,uh,Result.andThen]
theorem stN {α:Type} {x y:OO} {v u:Value} {j:Int} {z:List α} {xs:List (List α)} {E:ag α} {Q:Value→List α→Prop} {t e ty:TI} {Γx:QE} {m:Option M} (h0:Rg v j Γ) (h1:qp Γ u false false E z uf Γx) (h2:di Γ (.om e (uG Q (bJ E)) v xs) Γ1)
  (h:D P cx (.o false all l rk (.om e (bJ E) v (xs.set j.toNat z) :: Γ1) fr m)):D P cx (.sl .om v j u t x y ty all l rk Γ fr m):=by
 refine D.of ?_
 intro hT hx hy _ B o ho r w ha hs pos af g
 obtain ⟨i,hi,uh⟩:=hT
 obtain ⟨Z,F,hS,hg⟩:=hs
 obtain ⟨j0,j1⟩:=h0.sound hS
 obtain ⟨dx,_,⟨⟨k,hk,HA⟩,_⟩,_⟩:=h1.sound hS
 obtain ⟨n,F1,hp,⟨us,gg,hO,hr0,se,Nb⟩,ez⟩:=h2.sound hS
 have hle:Le (uG Q (bJ E)) (bJ E):=⟨rfl,fun h=>h.2⟩
 have hr:dw (bJ E) w.heap us xs gg:=vO hle hr0
 replace Nb:(bJ E).size=1:=rfl
 have jm:=hg.perm hp
 have da:=List.nodup_append.1 jm.nd
 have HB:∀ b∈k,Z b:=fun b hb=>(HA b hb).elim (fun h=>h) (fun h=>h)
 have Nc:∀ b∈n,¬ Z b:=fun b hb=>jm.apart b (List.mem_append_left _ hb)
 have hl:us.length=xs.length:=by have:=kz hr; rw [Nb,Nat.mul_one] at this; exact this
 have Kg:xd v=us.length:=tA hO
 rw [Kg,hl] at j1
 refine e7 (R2.store (E:=bJ E) (G:=n) (B:=w.heap.size) (g:=gg) (k:=k) hi uh ⟨us,⟨hO,da.1,fun b hb=>.inl hb⟩,hr,Nb⟩ (List.getElem?_eq_getElem j1) (aT ha hx) (aT ha hy) hk (fun b hb hm=>Nc b hm (HB b hb)) (fun b hb hm=>Nc b hm (se b hb)) fun w' g' hC qv ju=>?_)
 obtain ⟨U0,cg,fh,Pv⟩:=qv
 exact h.sound B o ho _ w' ha (St.put ez jm hC ⟨U0,_,cg.1,fh,(fun b hb=>(ju b hb).elim (se b) (HB b)),Pv⟩ cg.2.1 fun b hb=>.inl hb)
theorem St.aok {B:Bs} {Γ Δ Γ1 Γ2 Γ3:QE} {w:World} (h:St B Γ w) (h0:EF Γ Δ Γ1) (h1:EO Γ1 Γ2 Γ3) (h2:MF Γ none Γ2):St B (Δ.reverse++Γ2) w:=by
 obtain ⟨Z,F,hs,hg⟩:=h
 obtain ⟨Fd,F',Zn,a1,a2,a3⟩:=h0.sound hs
 obtain ⟨UO,F3,c1,c2,c3⟩:=h1.sound a2
 obtain ⟨F2,b1,b2⟩:=HL.build a1 (h2.sound (hs.left (f:=Zn)) (dx:=[]) (by rintro e he; cases he) c1)
 refine St.of (F':=Fd++UO) b2 (Gd.left (F':=F3) ((Gd.freeze (hg.perm a3) fun b hb=>hs.lt b (a3.mem_iff.1 (List.mem_append_right _ hb))).perm ?_)) b1
 rw [List.append_assoc]
 exact c3.append_left Fd
theorem join {S S1 V:Type} {t k:Nat} {b:Bool} (Δ:S1→V→List aw) (φ:S1→V→Fr) (v0:V) (f2:Fr) {gu:List KI} {kb:Kb R S} {x y:Code} {s0:S1} {m0:Option (Out S1 R)} {f:S1→Option (Out S R)}
   (_ha:r3 fr (φ s0 v0)) (_hf:r3 fr f2) (_h0:EO Γ (Δ s0 v0) Γ1) (_hs:j5 Γ1 Γ2)
   (hb:D P cx (.cd b ⟨[],.loop V k Δ φ Γ2 f2⟩ x y Γ fr m0)) (hk:∀ s v,D P cx (.p (φ s v) (Δ s v) f2 Γ2 fun fr Γ=>.n ⟨gu,kb⟩ Γ fr (f s))):D P cx (.cd b ⟨gu,kb⟩ x y Γ fr (jn t s0 m0 f)):=by
 refine .inj (bxi ?_)
 intro B o ho r w pw oy
 replace ho:ah m0 f=some o:=ho
 cases hm:m0 with
 | none=>rw [hm] at ho; cases ho
 | some o0=>
  have h1:=hb.sound B o0 hm r w pw oy
  rw [hm] at ho
  have hq:∀ e r w,mx P cx B ⟨[],.loop V k Δ φ Γ2 f2⟩ o0 e r w→mx P cx B ⟨gu,kb⟩ o e r w:=by
   intro e r w hp
   cases o0 with
   | norm s=>
    cases e with
    | normal=>obtain ⟨v,a1,a2⟩:=hp; exact (hk s v).sound B o ho r w a1 a2
    | _=>exact hp.elim
   | exit j s=>cases ho
   | ret y=>
    cases ho
    cases e with
    | ret=>exact wI hp
    | _=>exact hp.elim
  exact ⟨fun h=>vm (h1.1 h) hq,fun h=>vm (h1.2 h) hq⟩
theorem Sk {S:Type} {t:Nat} {K:dk R S} {ops:LO} {m:Option (Out S R)} (_ht:D1 ops=some t) (h:D P cx (.o false ops ops (.s K) Γ fr m)):D P cx (.rw false ops K Γ fr m):=.ZG h
theorem uP {S:Type} {b:Bool} {t:Nat} {K:dk R S} {x y:Code} {m1 m2:Option (Out S R)} (hl:look fr t=some (.bool b)) (h1:D P cx (.c K x Γ ((t,.bool true) :: fr) m1)) (h2:D P cx (.c K y Γ ((t,.bool false) :: fr) m2)):D P cx (.cd b K x y Γ fr (bif b then m1 else m2)):=by
 refine D.of ?_
 have hc:∀ {r:NV},cu r fr→∀ c,b=c→cu r ((t,.bool c) :: fr):=by
  intro r ha c hb s u hs
  unfold look at hs
  cases oy:Nat.beq s t with
  | true=>
   rw [oy] at hs
   cases hs
   obtain rfl:=Nat.eq_of_beq_eq_true oy
   rw [← hb]
   exact ha _ _ hl
  | false=>rw [oy] at hs; exact ha _ _ hs
 exact fun B o ho r w ha hs=>⟨fun h=>h1.sound B o (by rw [h] at ho; exact ho) r w (hc ha _ h) hs,fun h=>h2.sound B o (by rw [h] at ho; exact ho) r w (hc ha _ h) hs⟩
class n5 {α:Type} (S:ag α) (V:outParam Type) (cl:outParam (α→V→List Value)) (en:outParam (α→V→List aw)):Prop where
 ow:∀ x v,sQ (en x v)=true
 op:∀ {w:World} {cs:LV} {x:α} {g:LN},S.rep w.heap cs x g→∃ v,cs=cl x v∧∀ Z:Nat→Prop,HL Z w (en x v) g
 cl:∀ {w:World} {x:α} {v:V} {Z:Nat→Prop} {g:LN},HL Z w (en x v) g→S.rep w.heap (cl x v) x g
theorem n5.i {k:IntKind}:n5 (aM k) Unit (fun x _=>[.int k x]) (fun _ _=>[]):=
 ⟨fun _ _=>rfl,fun h=>⟨(),h.1,fun _=>by rw [h.2]; exact .nil⟩,fun h=>by cases h; exact ⟨rfl,rfl⟩⟩
theorem n5.s {α:Type} {e:TI} {E:ag α}:n5 (aJ e E) Value (fun _ v=>[v]) (fun x v=>[.own (aJ e E) v x]):=by
 refine ⟨fun _ _=>rfl,fun {w cs x g} h=>?_,fun {w x v Z g} h=>?_⟩
 ·obtain ⟨base,cap,rfl,hr⟩:=h
  refine ⟨_,rfl,fun Z=>?_⟩
  have:=HL.own (Z:=Z) (w:=w) (e:=.own (aJ e E) (.slice base x.length cap) x) (f:=g) ⟨base,cap,rfl,hr⟩ .nil
  rwa [List.append_nil] at this
 ·cases h with
  | own h k=>cases k; rw [List.append_nil]; exact h
  | fact h _=>exact h.elim
theorem n5.ip {β V:Type} {k:IntKind} {B:ag β} {cl:β→V→List Value} {en:β→V→List aw} (h:n5 B V cl en):n5 (gx (aM k) B) V (fun x v=>.int k x.1 :: cl x.2 v) (fun x v=>en x.2 v):=by
 refine ⟨fun x v=>h.ow x.2 v,fun {w cs x g} hr=>?_,fun {w x v Z g} he=>?_⟩
 ·obtain ⟨c1,c2,f1,f2,rfl,rfl,⟨rfl,rfl⟩,h2⟩:=hr
  obtain ⟨v,rfl,hv⟩:=h.op h2
  exact ⟨v,rfl,hv⟩
 ·exact ⟨[_],_,[],g,rfl,rfl,⟨rfl,rfl⟩,h.cl he⟩
theorem n5.sp {α β V:Type} {e:TI} {E:ag α} {B:ag β} {cl:β→V→List Value} {en:β→V→List aw} (h:n5 B V cl en):n5 (gx (aJ e E) B) (Value×V) (fun x v=>v.1 :: cl x.2 v.2) (fun x v=>.own (aJ e E) v.1 x.1 :: en x.2 v.2):=by
 refine ⟨fun x v=>h.ow x.2 v.2,fun {w cs x g} hr=>?_,fun {w x v Z g} he=>?_⟩
 ·obtain ⟨c1,c2,f1,f2,rfl,rfl,h1,h2⟩:=hr
  obtain ⟨base,cap,rfl,yQ⟩:=h1
  obtain ⟨v,rfl,hv⟩:=h.op h2
  exact ⟨(_,v),rfl,fun Z=>.own ⟨base,cap,rfl,yQ⟩ (hv Z)⟩
 ·cases he with
  | own h1 k=>
   obtain ⟨base,cap,hb,yQ⟩:=h1
   exact ⟨[_],_,_,_,rfl,rfl,⟨base,cap,hb,yQ⟩,h.cl k⟩
  | fact h1 _=>exact h1.elim
theorem n5.mp {α β V:Type} {f:β→α} {A:ag α} {cl:α→V→List Value} {en:α→V→List aw} (h:n5 A V cl en):n5 (xW f A) V (fun y v=>cl (f y) v) (fun y v=>en (f y) v):=
 ⟨fun y v=>h.ow (f y) v,fun hr=>h.op hr,fun he=>h.cl he⟩
inductive PV {α:Type} (S:ag α) (V:Type) (cl:α→V→List Value) (en:α→V→List aw):Prop
 | mk [h:n5 S V cl en]:PV S V cl en
theorem Zd:∀ {Δ:QE} {F:LN},sQ Δ=true→HO Z w Δ F→HL Z w Δ F:=by
 intro Δ
 induction Δ with
 | nil=>intro F _ h; cases h; exact .nil
 | cons e Δ ih=>
  intro F ho h
  cases e with
  | own T v x=>cases h with | own h k=>exact .own h (ih ho k)
  | row b cs t=>cases h with | own h k=>exact .own h (ih ho k)
  | _=>exact absurd ho (by simp [sQ])
theorem V1 {α:Type} (S:ag α) {d:Nat} {t e n bt ty:TI} {m:Option M} [ht:Bv P t e n bt]
  (h:∀ v,D P cx (.o false all l rk (.own (aJ e S) v [] :: Γ) ((d,v) :: fr) m)):D P cx (.e false (.buildSlice t 0 #[]) (some d) ty all l rk Γ fr m):=by
 refine D.of ?_
 intro B o ho r w ha hs pos af g
 obtain ⟨h1,i,z,h2,_⟩:=ht.h
 obtain ⟨v,w',f,hr,hC,hO⟩:=AH (E:=S) (r:=r) (w:=w) (d:=some d) (ty:=ty) (pos:=pos) (af:=af) (g:=none) h1 h2
 refine e7 (WL.val rfl hr ((h v).sound B o ho _ w' (ay ha) ?_))
 obtain ⟨Z,F,hS,hg⟩:=hs
 exact St.put (f:=[]) hS hg hC hO.1 hO.2.1 fun b hb=>.inr ((hO.2.2 b hb).resolve_left List.not_mem_nil)
theorem NJ {α:Type} {S:ag α} {q:Bool} {d n e:Nat} {x:OO} {v:Value} {xs:List α} {t ty bt:TI} {m:Option M} [ht:Bv P t e n bt] (hx:bp fr x=some v) (h1:di Γ (.own (aJ e S) v xs) Γ1)
  (h:D P cx (.o q all l rk Γ ((d,.int .i64 (xs.length:Int)) :: fr) m)):D P cx (.e q (.call ⟨.builtin .len,#[x],#[t]⟩) (some d) ty all l rk Γ fr m):=by
 refine D.of ?_
 intro B o ho r w ha hs pos af g
 obtain ⟨q1,_⟩:=ht.h
 obtain ⟨Z,F,hS,hG⟩:=@_root_.id _ hs
 obtain ⟨f,F1,_,hO,_⟩:=h1.sound hS
 obtain ⟨base,cap,hv,_⟩:=hO
 obtain rfl:v = .slice base xs.length cap:=by simpa using hv
 exact cq (v:=.int .i64 (xs.length:Int)) (fun w' _=>u9 q1 (aT ha hx)) (h.sound B o ho _ w (ay ha) hs)
theorem PW {α:Type} {S:ag α} {n:Nat} {hp:Array Obj} (hn:S.size=n):∀ {xs:List α} {cs:LV} {f:LN},dw S hp cs xs f→∃ us,us.length=xs.length∧dw (ee n) hp cs us []∧∀ (j:Nat) (x:α),xs[j]? = some x→∃ c f0 f1 f2,us[j]? = some c∧f=f0++f1++f2∧S.rep hp c x f1:=by
 intro xs
 induction xs with
 | nil=>rintro cs f ⟨rfl,rfl⟩; exact ⟨[],rfl,⟨rfl,rfl⟩,fun j x hj=>by simp at hj⟩
 | cons y xs ih=>
  rintro cs f ⟨c,gy,f1,f2,rfl,rfl,h1,h2⟩
  obtain ⟨us,hl,hr,hg⟩:=ih h2
  refine ⟨c :: us,by simp [hl],⟨c,gy,[],[],rfl,rfl,⟨rfl,by rw [S.len h1,hn],S.one h1,rfl⟩,hr⟩,fun j x hj=>?_⟩
  cases j with
  | zero=>simp at hj; subst hj; exact ⟨c,[],f1,f2,rfl,by simp,h1⟩
  | succ j=>
   obtain ⟨c',g0,g1,g2,a1,rfl,a3⟩:=hg j x (by simpa using hj)
   exact ⟨c',f1++g0,g1,g2,by simpa using a1,by simp,a3⟩
theorem V2 {α V:Type} {S:ag α} {cl:α→V→List Value} {en:α→V→List aw} {q:Bool} {d n e:Nat} {x y:OO} {v:Value} {xs:List α} {k:IntKind} {j:Int} {t ty bt:TI} {f:α→Option M} [ht:Bv P t e n bt] (hx:bp fr x=some v) (hy:bp fr y=some (.int k j))
  (h1:di Γ (.own (aJ e S) v xs) Γ1) (hs:PV S V cl en) (hn:S.size=n)
  (h:∀ z u us,D P cx (.p [] (.own (aJ e (ee n)) v us :: .rd false (Bq us j) (.bool true) (cl z u) :: en z u) fr Γ1 fun fr Γ=>.o q all l rk Γ ((d,.pointer (some (dc v n j))) :: fr) (f z))):D P cx (.e q (.indexAddr t x y) (some d) ty all l rk Γ fr (idx xs j>>=f)):=by
 refine D.of ?_
 intro B o ho r w ha ep pos af g
 replace hs:n5 S V cl en:=by cases hs; assumption
 obtain ⟨z,hz,ho⟩:=bind_some ho
 replace hz:=rh hz
 obtain ⟨q1,i,_,q2,_,_,q3,_⟩:=ht.h
 obtain ⟨Z,F,hS,hG⟩:=ep
 obtain ⟨f0,F1,hp,hO,ez⟩:=h1.sound hS
 have bm:j.toNat < xs.length:=(List.getElem?_eq_some_iff.1 hz.2).1
 obtain ⟨base,cap,hv,hr⟩:=hO
 obtain rfl:v = .slice base xs.length cap:=by simpa using hv
 rcases hr with ⟨_,_,rfl,_⟩ | ⟨b,cur,f',rfl,ko,rfl,hle,abU,uh,ei⟩
 ·simp at bm
 ·obtain ⟨us,hl,hru,hg⟩:=PW hn ei
  obtain ⟨c,g0,g1,g2,a1,rfl,a3⟩:=hg _ _ hz.2
  obtain ⟨u,rfl,tB⟩:=hs.op a3
  have AO:(aJ e (ee n)).rep w.heap [.slice (some ⟨b,0,none⟩) xs.length cap] us [b]:=
   ⟨_,cap,by rw [hl],.inr ⟨b,cur,[],rfl,ko,rfl,by rw [hl]; exact hle,abU,by rw [uh,hn]; rfl,by rw [hl,show (ee n).size=S.size from hn.symm]; exact hru⟩⟩
  have du:HL Z w (.own (aJ e (ee n)) (.slice (some ⟨b,0,none⟩) xs.length cap) us :: .rd false (Bq us j) (.bool true) (cl z u) :: en z u) ([b]++g1):=.own AO (.fact ⟨[],⟨rfl,⟨hz.1,a1⟩,rfl⟩,fun _ h=>absurd h List.not_mem_nil⟩ (tB Z))
  obtain ⟨F',uL,fc⟩:=du.build ez
  have o5:(F'++(g0++g2)).Perm F:=by
   refine .trans ?_ hp
   refine (uL.append_right _).trans ?_
   rw [List.cons_append,List.cons_append,List.cons_append,List.nil_append,List.cons_append]
   refine List.Perm.cons b ?_
   have e1:(g1++F1++(g0++g2)).Perm ((g0++g2)++(g1++F1)):=List.perm_append_comm
   refine e1.trans ?_
   rw [List.append_assoc,List.append_assoc,List.append_assoc]
   refine List.Perm.append_left g0 ?_
   rw [← List.append_assoc,← List.append_assoc]
   exact List.perm_append_comm.append_right F1
  refine cq (v:=.pointer (some (dc (.slice (some ⟨b,0,none⟩) xs.length cap) n j))) (fun w' hC=>?_) ((h z u us).sound B o ho _ w (ay ha) ⟨Z,F',fc,Gd.left (hG.perm o5)⟩)
  rw [mf q1 q2 (aT ha hx) (aT ha hy) hz.1 (by omega),q3]
  rfl
theorem apO {α V:Type} {S:ag α} {cl:α→V→List Value} {en:α→V→List aw} (y:α) {u:V} {d b n e bt:Nat} {s x:OO} {sv:Value} {xs:List α} {cs:LV} {t et ty:TI} {f:Unit→Option M} [ht:Bv P t e n bt]
  (hs:bp fr s=some sv) (hx:bp fr x=some (.slice (some ⟨b,0,none⟩) 1 1)) (h0:di Γ (.row b cs et) Γ1) (h1:di Γ1 (.own (aJ e S) sv xs) Γ2) (nn:PV S V cl en) (_hv:u5 V u) (hc:cs=cl y u) (hn:S.size=n) (he:EO Γ2 (en y u) Γ3)
  (h:∀ v,D P cx (.o false all l rk (.own (aJ e S) v (xs++[y]) :: Γ3) ((d,v) :: fr) (f ()))):D P cx (.e false (.call ⟨.builtin .append,#[s,x],#[t,t]⟩) (some d) ty all l rk Γ fr (fits bt (xs.length+1)>>=f)):=by
 refine D.of ?_
 intro B o cg r w ha ep pos af g
 have Fk:n5 S V cl en:=by cases nn; assumption
 obtain ⟨_,hu,cg⟩:=bind_some cg
 obtain ⟨b1,b2⟩:=qw hu
 obtain ⟨q1,i,z,q2,q3,q4,q5,q6,_⟩:=ht.h
 obtain ⟨Z,F,hS,hG⟩:=ep
 obtain ⟨n0,F0,tC,⟨rfl,bg⟩,va⟩:=h0.sound hS
 obtain ⟨k,F1,hp,hO,ez⟩:=h1.sound va
 obtain ⟨Fd,F2,hho,fc,ox⟩:=he.sound ez
 have hy:S.rep w.heap (cl y u) y Fd:=Fk.cl (Zd (Fk.ow y u) hho)
 have o5:(((k++Fd)++F2)++[b]).Perm F:=by
  refine .trans ?_ tC
  refine List.perm_append_comm.trans ?_
  refine List.Perm.append_left [b] ?_
  rw [List.append_assoc]
  exact (ox.append_left k).trans hp
 have jv:Gd B Z ((k++Fd)++F2) w:=Gd.left (F':=[b]) (hG.perm o5)
 have da:=(List.nodup_append.1 jv.nd).1
 have x7:=List.nodup_append.1 da
 subst hc
 obtain ⟨v,w',f',lg,hC,ei,dg,HU⟩:=qy (E:=S) (d:=some d) (ty:=ty) (pos:=pos) (af:=af) (g:=none) (k:=Fd) (ys:=[y]) (news:=cl y u) q1 q2 q3 (by rw [q5,hn]) (by rw [q4,hn]) (aT ha hs) hO x7.1 (aT ha hx) (fun i u hi=>bg.at i u hi) (s8 hy) (fun b hb hm=>x7.2.2 b hm b hb rfl) (by simp) (by rw [q6]; exact b1) b2
 refine e7 (WL.val rfl lg ((h v).sound B o cg _ w' (ay ha) ?_))
 refine St.put fc jv (hC.mono fun b hb=>List.mem_append_left _ hb) ei (HU x7.2.1) fun b hb=>?_
 rcases dg b hb with h | h | h
 ·exact .inl (List.mem_append_left _ h)
 ·exact .inl (List.mem_append_right _ h)
 ·exact .inr h
end
end Go.Dk
namespace Go.Dk
open Go Go.Li
section
variable {P:Program} {n:Nat} {l:LO} {Q:Exit→(Nat→Value)→World→Prop} {S:World→Prop}
def Hw (P:Program) (n:Nat) (l:LO) (Q:Exit→(Nat→Value)→World→Prop) (S:World→Prop) (k:Nat) (L:Array Bool) (r:NV) (w:World):Prop:=
 ∀ a:Act,a.tmps.size=n→a.defers=[]→cn a=r→wpAnyH P .any l.toArray (fun e a' w'=>a'.tmps.size=n∧a'.defers=[]∧Q e (cn a') w') S k L a w
theorem B5 {i:Nat} {o:Oper} {a:Act} (hd:de n l=true) (hi:l[i]? = some o) (h1:a.tmps.size=n):∀ k,o.dst=some k→k < a.tmps.size:=by
 intro k hk
 have hm:o∈l:=List.mem_of_getElem? hi
 simp only [de,List.all_eq_true] at hd
 have:=hd o hm
 rw [hk] at this
 rw [h1]
 exact Nat.lt_of_succ_le (Nat.le_of_ble_eq_true this)
theorem Hw.take {k i:Nat} {L:Array Bool} {o:Oper} {v:Value} {r:NV} {w:World} (hd:de n l=true) (hi:l[i]? = some o) (hs:Region.noSelect l.toArray=true) (hf:Region.free .any l.toArray L i=true) (hr:(Region.ready .any l.toArray L).contains i=true)
  (hp:∀ c r w,¬ Q (.panic c) r w) (hg:o.guard=none) (hy:∀ w,S w→(execOp (ev r) o).run P w = .ok (.value v) w) (hS:S w) (h:Hw P n l Q S k (L.setIfInBounds i true) (fl r o.dst v) w):Hw P n l Q S (k+1) L r w:=by
 intro a h1 h2 h3
 refine wpAnyH_take (v:=v) (by simpa using hi) hs hf hr (fun c a w h=>(hp _ _ _ h.2.2).elim) (.inl ⟨sZ hg,fun w hw=>?_⟩) hS (h _ (by rw [j8]; exact h1) (by rw [ik]; exact h2) (by rw [l7 (B5 hd hi h1),h3]))
 rw [su,h3]
 exact hy w hw
theorem Hw.step {k i:Nat} {L:Array Bool} {o:Oper} {r:NV} {w w':World} (hd:de n l=true) (hi:l[i]? = some o) (hr:Region.ready .any l.toArray L=[i]) (hg:o.guard=none) (hy:(execOp (ev r) o).run P w = .ok .skip w') (hS:S w') (h:Hw P n l Q S k (L.setIfInBounds i true) (fl r o.dst undef) w'):Hw P n l Q S (k+1) L r w:=by
 intro a h1 h2 h3
 refine wpAnyH_all hr (by simp) fun j hj=>?_
 obtain rfl:j=i:=by simpa using hj
 unfold wpOp
 rw [show (l.toArray)[j]? = some o by simpa using hi]
 simp only []
 rw [if_pos (sZ hg)]
 refine .inl ?_
 unfold Oper.wp
 rw [su,h3,hy]
 exact ⟨hS,h _ (by rw [j8]; exact h1) (by rw [ik]; exact h2) (by rw [l7 (B5 hd hi h1),h3])⟩
theorem Hw.done {k:Nat} {L:Array Bool} {r:NV} {w:World} (hr:Region.ready .any l.toArray L=[]) (h:Q .normal r w):Hw P n l Q S k L r w:=
 fun _ h1 h2 h3=>wpAnyH_done hr ⟨h1,h2,by rw [h3]; exact h⟩ k
theorem Hw.start {r:NV} {w:World} (h:Hw P n l Q S l.length (Array.replicate l.length false) r { w with drawn:=w.drawn+1 }):nb P n l Q r w:=
 fun a h1 h2 h3=>wpAny_of_held _ _ _ _ (h a h1 h2 h3)
def BC (P:Program) (S:World→Prop):List Oper→(Nat→Value)→((Nat→Value)→Prop)→Prop
 | [],r,K=>K r
 | o :: l,r,K=>o.guard=none∧∃ v,(∀ w,S w→(execOp (ev r) o).run P w = .ok (.value v) w)∧BC P S l (fl r o.dst v) K
def B6 (l:LO):List Nat→Array Bool→Bool
 | [],L=>(Region.ready .any l.toArray L).isEmpty
 | i :: ss,L=>Nat.blt i l.length && (Region.ready .any l.toArray L == [i]) && B6 l ss (L.setIfInBounds i true)
def LM (l:LO) (ss:LN):List Nat→Array Bool→Bool
 | [],L=>B6 l ss L
 | i :: qs,L=>Nat.blt i l.length && (Region.ready .any l.toArray L).contains i && Region.free .any l.toArray L i && LM l ss qs (L.setIfInBounds i true)
def pick (l:LO) (is:LN):List Oper:=is.map fun i=>l.getD i default
theorem zR {i:Nat} (h:Nat.blt i l.length=true):l[i]? = some (l.getD i default):=by
 have h1:i < l.length:=Nat.lt_of_succ_le (Nat.le_of_ble_eq_true h)
 rw [List.getD_eq_getElem?_getD,List.getElem?_eq_getElem h1]; rfl
theorem Hw.quiet (hd:de n l=true) (hs:Region.noSelect l.toArray=true) (hp:∀ c r w,¬ Q (.panic c) r w) {ss:LN} {w:World} (hS:S w) {K:(Nat→Value)→Prop} (h:∀ L r,B6 l ss L=true→K r→Hw P n l Q S ss.length L r w) :
  ∀ (qs:LN) (L:Array Bool) (r:NV),LM l ss qs L=true→BC P S (pick l qs) r K→Hw P n l Q S (qs.length+ss.length) L r w:=by
 intro qs
 induction qs with
 | nil=>intro L r hc hv; rw [List.length_nil,Nat.zero_add]; exact h L r hc hv
 | cons i qs ih=>
  intro L r hc hv
  unfold LM at hc
  simp only [Bool.and_eq_true] at hc
  obtain ⟨⟨⟨c1,c2⟩,c3⟩,c4⟩:=hc
  obtain ⟨hg,v,h1,h2⟩:=hv
  have:=Hw.take hd (zR c1) hs c3 c2 hp hg h1 hS (ih _ _ c4 h2)
  rwa [show qs.length+ss.length+1=(i :: qs).length+ss.length by simp; omega] at this
end
inductive JQ
 | q (ops:LO) (fr:Fr)
 | la (a:Addr) (lk:Option Nat) (t:TI) (x:OO) (d:Nat) (ty:TI) (pos:String) (af:Array Edge) (ops:LO) (fr:Fr)
inductive QA (P:Program) (Γ:QE):JQ→Fr→Prop
 | nil {fr:Fr}:QA P Γ (.q [] fr) fr
 | ld {d:Nat} {t ty:TI} {x:OO} {lk:Option Nat} {a:Addr} {pos:String} {af:Array Edge} {ops:LO} {fr mb:Fr} [ht:LK P t lk] (hx:bp fr x=some (.pointer (some a))) (h:QA P Γ (.la a lk t x d ty pos af ops fr) mb):QA P Γ (.q (⟨some d,.load t x,ty,pos,af,none⟩ :: ops) fr) mb
 | val {d:Nat} {op:Op} {ty:TI} {u:Value} {pos:String} {af:Array Edge} {ops:LO} {fr mb:Fr} (hv:VQ P Γ fr op u) (h:QA P Γ (.q ops ((d,u) :: fr)) mb):QA P Γ (.q (⟨some d,op,ty,pos,af,none⟩ :: ops) fr) mb
 | lc {d:Nat} {t ty:TI} {x:OO} {a:Addr} {u:Value} {pos:String} {af:Array Edge} {ops:LO} {fr mb:Fr} (h:vN Γ a u) (k:QA P Γ (.q ops ((d,u) :: fr)) mb):QA P Γ (.la a none t x d ty pos af ops fr) mb
 | ls {d n:Nat} {t ty:TI} {x:OO} {a:Addr} {ds:LV} {pos:String} {af:Array Edge} {ops:LO} {fr mb:Fr} (h:vQ Γ a n ds) (k:QA P Γ (.q ops ((d,.agg ds.toArray) :: fr)) mb):QA P Γ (.la a (some n) t x d ty pos af ops fr) mb
inductive RO (fr:Fr):List Oper→List aw→List (Nat×List Value×TypeId)→List aw→Prop
 | nil {Γ:QE}:RO fr [] Γ [] Γ
 | cons {t ty e:TI} {x y:OO} {b:Nat} {cs:LV} {pos:String} {af:Array Edge} {ops:LO} {Γ Γ1 Γ2:QE} {rs:List (Nat×List Value×TypeId)} (hx:bp fr x=some (.pointer (some ⟨b,0,none⟩))) (h:di Γ (.row b cs e) Γ1) (k:RO fr ops Γ1 rs Γ2):RO fr (⟨none,.store t x y,ty,pos,af,none⟩ :: ops) Γ ((b,cs,e) :: rs) Γ2
inductive SQ (P:Program) (Γ:QE) (fr:Fr):List Oper→List (Nat×List Value×TypeId)→List (Nat×List Value×TypeId)→Prop
 | nil:SQ P Γ fr [] [] []
 | cons {n:Nat} {t ty e:TI} {x y:OO} {b:Nat} {u:Value} {us cs ds:LV} {pos:String} {af:Array Edge} {ops:LO} {rs tH:List (Nat×List Value×TypeId)} [ht:vH P t n] (hx:bp fr x=some (.pointer (some ⟨b,0,none⟩))) (hy:bp fr y=some u) (hc:tx Γ u us) (hn:us.length=n) (hs:uw us 0 cs ds) (ho:vP Γ us) (k:SQ P Γ fr ops rs tH) :
   SQ P Γ fr (⟨none,.store t x y,ty,pos,af,none⟩ :: ops) ((b,cs,e) :: rs) ((b,ds,e) :: tH)
def Ei:List (Nat×List Value×TypeId)→List aw
 | []=>[]
 | (b,cs,e) :: l=>.row b cs e :: Ei l
def Rows (w:World) (rs:List (Nat×List Value×TypeId)):Prop:=∀ p∈rs,Row w p.1 p.2.1 p.2.2
section
variable {P:Program} {Γ Γ2:QE} {S:World→Prop} {Z:Nat→Prop}
def abV (P:Program) (S:World→Prop):JQ→Fr→Prop
 | .q ops fr,mb=>∀ r,cu r fr→BC P S ops r fun r'=>cu r' mb
 | .la a lk t x d ty pos af ops fr,mb=>(match lk with | none=>NA P t | some n=>AG P t n)→bp fr x=some (.pointer (some a))→∀ r,cu r fr→BC P S (⟨some d,.load t x,ty,pos,af,none⟩ :: ops) r fun r'=>cu r' mb
theorem QA.sound {J:JQ} {mb:Fr} (hS:∀ w,S w→∃ cur F,SA Z w Γ cur F) (h:QA P Γ J mb):abV P S J mb:=by
 induction h with
 | nil=>exact fun r h=>h
 | @ld d t ty x lk a pos af ops fr mb ht hx _ ih=>exact fun r ha=>ih ht.h hx r ha
 | @val d op ty u pos af ops fr mb hv _ ih=>
  intro r ha
  refine ⟨rfl,u,fun w hw=>?_,ih _ (ay ha)⟩
  obtain ⟨cur,F,h⟩:=hS w hw
  exact hv.sound h ha (some d) ty pos af none w (an.refl _ _)
 | @lc d t ty x a u pos af ops fr mb h _ ih=>
  intro ht hx r ha
  refine ⟨rfl,u,fun w hw=>?_,ih _ (ay ha)⟩
  obtain ⟨cur,F,hs⟩:=hS w hw
  exact Ld ht (h.sound hs) (aT ha hx) w (an.refl _ _)
 | @ls d n t ty x a ds pos af ops fr mb h _ ih=>
  intro ht hx r ha
  refine ⟨rfl,_,fun w hw=>?_,ih _ (ay ha)⟩
  obtain ⟨cur,F,hs⟩:=hS w hw
  obtain ⟨h1,h2⟩:=h.sound hs
  exact Lg ht h1 (aT ha hx) h2 w (an.refl _ _)
theorem RO.sound {fr:Fr} {ops:LO} {rs:List (Nat×List Value×TypeId)} {w:World} (h:RO fr ops Γ rs Γ2):∀ {F:LN},SA Z w Γ [] F→∃ F2,(rs.map (·.1)++F2).Perm F∧Rows w rs∧SA Z w Γ2 [] F2:=by
 induction h with
 | nil=>intro F h; exact ⟨F,.refl _,fun _ h=>absurd h List.not_mem_nil,h⟩
 | @cons t ty e x y b cs pos af ops Γ Γ1 Γ2 rs hx h _ ih=>
  intro F hS
  obtain ⟨f,F1,hp,⟨rfl,bg⟩,ez⟩:=h.sound hS
  obtain ⟨F2,ox,hr,fc⟩:=ih ez
  refine ⟨F2,?_,fun p hp=>?_,fc⟩
  ·exact .trans (List.Perm.cons b ox) hp
  ·rcases List.mem_cons.1 hp with rfl | hp
   ·exact bg
   ·exact hr p hp
theorem SQ.sound {n:Nat} {l:LO} {Q:Exit→(Nat→Value)→World→Prop} {fr:Fr} {ops:LO} {rs tH:List (Nat×List Value×TypeId)} {F2:LN} {w0:World} {r:NV} {F:LN} (hd:de n l=true) (ha:cu r fr) (wN:∀ w,an F w0 w→SA Z w Γ2 [] F2) (h:SQ P Γ2 fr ops rs tH) :
  ∀ (ss:LN) (L:Array Bool) (w:World),ops=pick l ss→B6 l ss L=true→an F w0 w→Rows w rs→(rs.map (·.1)).Nodup→(∀ b∈rs.map (·.1),b∈F)→(∀ w',an (rs.map (·.1)) w w'→Rows w' tH→Q .normal r w')→Hw P n l Q (an F w0) ss.length L r w:=by
 induction h with
 | nil=>
  intro ss L w ho hc hC hR hn hF hk
  cases ss with
  | cons i ss=>cases ho
  | nil=>
   exact Hw.done (by simpa [B6] using hc) (hk w (an.refl _ _) hR)
 | @cons n' t ty e x y b u us cs ds pos af ops rs tH ht hx hy Dd hn Ih hon _ ih=>
  intro ss L w ho hc hC hR da hF hk
  cases ss with
  | nil=>cases ho
  | cons i ss=>
   unfold B6 at hc
   simp only [Bool.and_eq_true] at hc
   obtain ⟨⟨c1,c2⟩,c3⟩:=hc
   have cg:l.getD i default = ⟨none,.store t x y,ty,pos,af,none⟩∧ops=pick l ss:=by
    unfold pick at ho
    rw [List.map_cons,List.cons.injEq] at ho
    exact ⟨ho.1.symm,ho.2⟩
   have hi:=zR c1
   rw [cg.1] at hi
   obtain ⟨ti,q1,q2⟩:=ht.h
   have bg:Row w b cs e:=hR (b,cs,e) (by simp)
   obtain ⟨e1,e2⟩:=Ih.eq
   have hSw:=wN w hC
   have lg:=wm (P:=P) (d:=none) (ty:=ty) (pos:=pos) (af:=af) (gg:=none) q1 (by rw [hn,q2]) bg e1 (aT ha hx) (y:=y) (by rw [aT ha hy]; exact Dd.eq hSw) (hon.one hSw)
   have tf:=setRow_heap w b cs.toArray (cs.take 0++us++cs.drop (0+us.length)).toArray e _ bg
   have B7:an [b] w (w.setRow b (cs.take 0++us++cs.drop (0+us.length)).toArray):=⟨rfl,rfl,rfl,Nat.le_refl _,by simp,fun j _ hj=>setRow_other w b j _ fun h=>hj (by simp [h])⟩
   have tY:=hC.trans (B7.mono fun b' cw=>by rw [List.mem_singleton.1 cw]; exact hF b (by simp))
   rw [List.map_cons,List.nodup_cons] at da
   refine Hw.step hd hi (by simpa using c2) rfl lg tY (ih ss _ _ cg.2 c3 tY (fun p hp=>(hR p (List.mem_cons_of_mem _ hp)).ef B7 fun hb=>da.1 ?_) da.2 (fun b' cw=>hF b' (by simp at cw ⊢; exact .inr cw)) fun w' HM Ii=>?_)
   ·rw [← List.mem_singleton.1 hb]; exact List.mem_map_of_mem (f:=fun q=>q.1) hp
   ·refine hk w' ((B7.mono (by simp)).trans (HM.mono fun b' cw=>List.mem_cons_of_mem _ cw)) fun p hp=>?_
    rcases List.mem_cons.1 hp with rfl | hp
    ·refine Row.ef (F:=rs.map (·.1)) ?_ HM da.1
     rw [e2]
     exact tf
    ·exact Ii p hp
theorem SQ.fst {fr:Fr} {ops:LO} {rs tH:List (Nat×List Value×TypeId)} (h:SQ P Γ fr ops rs tH):tH.map (·.1)=rs.map (·.1):=by
 induction h with
 | nil=>rfl
 | cons _ _ _ _ _ _ _ ih=>simp only [List.map_cons,ih]
theorem DB {w:World}:∀ {rs:List (Nat×List Value×TypeId)},Rows w rs→HL Z w (Ei rs) (rs.map (·.1))
 | [],_=>.nil
 | (b,cs,e) :: l,h=>.own (f:=[b]) (e:=.row b cs e) ⟨rfl,h (b,cs,e) (by simp)⟩ (DB fun p hp=>h p (List.mem_cons_of_mem _ hp))
end
section
variable {R S:Type} {P:Program} {cx:Cx R} {K:dk R S} {l:LO}
theorem anyS {id:Nat} (qs ss:LN) {yf nh:LO} {Γ Γ1:QE} {fr mb:Fr} {rs tH:List (Nat×List Value×TypeId)} {m:Option (Out S R)}
  (hB:(P.follows .mixedOrders && de cx.n l && Region.noSelect l.toArray && LM l ss qs (Array.replicate l.length false) && Nat.beq l.length (qs.length+ss.length))=true)
  (hq:yf=pick l qs) (hs:nh=pick l ss) (h1:RO fr nh Γ rs Γ1) (h2:QA P Γ1 (.q yf fr) mb) (h3:SQ P Γ1 mb nh rs tH)
  (h:D P cx (.p [] (Ei tH) mb Γ1 fun fr Γ=>.n K Γ fr m)):Bx (me P cx (.dr id l K Γ fr m)):=by
 simp only [Bool.and_eq_true] at hB
 obtain ⟨⟨⟨⟨b1,b2⟩,b3⟩,b4⟩,b5⟩:=hB
 rw [mc]
 intro B o ho r w ha oy
 obtain ⟨Z,F,hS,hG⟩:=oy
 obtain ⟨F2,hp,hR,fc⟩:=h1.sound hS
 have jv:=hG.perm hp
 have da:=List.nodup_append.1 jv.nd
 refine nb.W b1 (Hw.start (S:=an (rs.map (·.1)) { w with drawn:=w.drawn+1 }) ?_)
 have B8:an [] w { w with drawn:=w.drawn+1 }:=an.drew _ _
 have wN:∀ w',an (rs.map (·.1)) { w with drawn:=w.drawn+1 } w'→SA Z w' Γ1 [] F2:=fun w' hC=>(fc.iw B8).ef hC (fun b hb=>jv.apart b (List.mem_append_left _ hb)) (fun b _=>List.not_mem_nil) (fun b hb hm=>da.2.2 b hb b hm rfl)
 rw [show l.length=qs.length+ss.length from Nat.eq_of_beq_eq_true b5] at b4 ⊢
 subst hq hs
 refine Hw.quiet (K:=fun r'=>cu r' mb) b2 b3 (fun c r w h=>s9 c h) (an.refl _ _) (fun L r' hc fh=>?_) qs _ r b4 (QA.sound (fun w' hC=>⟨[],F2,wN w' hC⟩) h2 r ha)
 refine SQ.sound b2 fh wN h3 ss L _ rfl hc (an.refl _ _) (fun p hp=>(hR p hp).iw B8) da.1 (fun b hb=>hb) fun w' hC Ii=>?_
 obtain ⟨F3,e1,e2⟩:=HL.build (DB Ii) (wN w' hC)
 have tY:an (rs.map (·.1)) w w':=(B8.mono fun b hb=>absurd hb List.not_mem_nil).trans hC
 rw [h3.fst] at e1
 have td:∀ b∈rs.map (·.1),b∈B.G∨B.w.heap.size≤b:=fun b hb=>jv.low b (List.mem_append_left _ hb)
 have ju:Gd B Z (rs.map (·.1)++F2) w':=⟨jv.nd,jv.apart,fun b hb=>Nat.lt_of_lt_of_le (jv.nz b hb) tY.size,jv.low,jv.uH,jv.uc,jv.jk.then tY td⟩
 exact h.sound B o ho r' w' (by simpa using fh) ⟨Z,F3,e2,ju.perm e1⟩
end
theorem Hw.all {P:Program} {n k:Nat} {l:LO} {Q:Exit→(Nat→Value)→World→Prop} {S:World→Prop} {L:Array Bool} {rs:LN} {r:NV} {w:World} (hd:de n l=true) (hr:Region.ready .any l.toArray L=rs) (nq:rs≠[])
  (h:∀ i∈rs,∃ o,l[i]? = some o∧o.guard=none∧∃ v w',((execOp (ev r) o).run P w = .ok (.value v) w'∨(execOp (ev r) o).run P w = .ok .skip w'∧v=undef)∧S w'∧Hw P n l Q S k (L.setIfInBounds i true) (fl r o.dst v) w'):Hw P n l Q S (k+1) L r w:=by
 intro a h1 h2 h3
 refine wpAnyH_all hr nq fun j hj=>?_
 obtain ⟨o,hi,hg,v,w',hy,hS,hk⟩:=h j hj
 unfold wpOp
 rw [show (l.toArray)[j]? = some o by simpa using hi]
 simp only []
 rw [if_pos (sZ hg)]
 refine .inl ?_
 unfold Oper.wp
 rw [su,h3]
 rcases hy with hy | ⟨hy,rfl⟩
 ·rw [hy]
  exact ⟨hS,hk _ (by rw [j8]; exact h1) (by rw [ik]; exact h2) (by rw [l7 (B5 hd hi h1),h3])⟩
 ·rw [hy]
  exact ⟨hS,hk _ (by rw [j8]; exact h1) (by rw [ik]; exact h2) (by rw [l7 (B5 hd hi h1),h3])⟩
def on (L:Array Bool) (i:Nat):Array Bool:=L.setIfInBounds i true
def np (l:LO) (L:Array Bool) (rs:LN):Bool:=Region.ready .any l.toArray L == rs
def LP (l:LO) (a1 a2 s1 s2:Nat) (L:Array Bool):Bool:=
 (Nat.blt a1 l.length && Nat.blt a2 l.length && Nat.blt s1 l.length && Nat.blt s2 l.length) && (np l L [a1,a2] && np l (on L a2) [a1]) && (np l (on (on L a1) a2) [s1] && np l (on (on L a2) a1) [s1]) &&
  (np l (on (on (on L a1) a2) s1) [s2] && np l (on (on (on L a2) a1) s1) [s2]) && (np l (on (on (on (on L a1) a2) s1) s2) [] && np l (on (on (on (on L a2) a1) s1) s2) []) &&
  (np l (on L a1) [a2] || (np l (on L a1) [a2,s1] && (np l (on (on L a1) s1) [a2] && (np l (on (on (on L a1) s1) a2) [s2] && np l (on (on (on (on L a1) s1) a2) s2) []))))
def LR (l:LO) (a1 a2 s1 s2:Nat):List Nat→Array Bool→Bool
 | [],L=>LP l a1 a2 s1 s2 L
 | i :: qs,L=>Nat.blt i l.length && (Region.ready .any l.toArray L).contains i && Region.free .any l.toArray L i && LR l a1 a2 s1 s2 qs (L.setIfInBounds i true)
theorem Hw.V3 {P:Program} {n a1 a2 s1 s2 m:Nat} {l:LO} {Q:Exit→(Nat→Value)→World→Prop} {S:World→Prop} (hd:de n l=true) (hs:Region.noSelect l.toArray=true) (hp:∀ c r w,¬ Q (.panic c) r w) {w:World} (hS:S w) {K:(Nat→Value)→Prop} (h:∀ L r,LP l a1 a2 s1 s2 L=true→K r→Hw P n l Q S m L r w) :
  ∀ (qs:LN) (L:Array Bool) (r:NV),LR l a1 a2 s1 s2 qs L=true→BC P S (pick l qs) r K→Hw P n l Q S (qs.length+m) L r w:=by
 intro qs
 induction qs with
 | nil=>intro L r hc hv; rw [List.length_nil,Nat.zero_add]; exact h L r hc hv
 | cons i qs ih=>
  intro L r hc hv
  unfold LR at hc
  simp only [Bool.and_eq_true] at hc
  obtain ⟨⟨⟨c1,c2⟩,c3⟩,c4⟩:=hc
  obtain ⟨hg,v,h1,h2⟩:=hv
  have:=Hw.take hd (zR c1) hs c3 c2 hp hg h1 hS (ih _ _ c4 h2)
  rwa [show qs.length+m+1=(i :: qs).length+m by simp; omega] at this
inductive AP (P:Program) (Γ:QE) (fr:Fr) (d:Nat):Oper→Oper→TypeId→List Value→Prop
 | mk {t ty V4:TI} {y:OO} {u:Value} {n:Nat} {us cs ds:LV} {pos PX:String} {af PY:Array Edge} [hz:yU P t cs] [ht:vH P t n] (hn:look fr d=none) (hy:bp fr y=some u) (hc:tx Γ u us) (hl:us.length=n) (hs:uw us 0 cs ds) (ho:vP Γ us) :
   AP P Γ fr d ⟨some d,.alloc t,ty,pos,af,none⟩ ⟨none,.store t (.tmp d) y,V4,PX,PY,none⟩ t ds
section
variable {P:Program} {Γ:QE} {Z:Nat→Prop} {fr:Fr} {w:World} {cur F:LN}
theorem AP.alloc {d:Nat} {oa os:Oper} {t:TI} {ds:LV} (h:AP P Γ fr d oa os t ds) (r:NV) (w:World):oa.guard=none∧oa.dst=some d∧look fr d=none∧∃ cs w',(execOp (ev r) oa).run P w = .ok (.value (.pointer (some ⟨w.heap.size,0,none⟩))) w'∧an [] w w'∧Row w' w.heap.size cs t∧
  ∀ (r':NV) (w1:World) (b:Nat) cur F,SA Z w1 Γ cur F→cu r' fr→r' d = .pointer (some ⟨b,0,none⟩)→Row w1 b cs t→∃ w2,(execOp (ev r') os).run P w1 = .ok .skip w2∧an [b] w1 w2∧Row w2 b ds t:=by
 cases h with
 | @mk t ty V4 y u n us cs ds pos PX af PY hz ht hn hy hc hl hs ho=>
  obtain ⟨i',z,t1,t2,t3⟩:=hz.h
  refine ⟨rfl,rfl,hn,z.cells.toList,_,DC t1 t2,an.alloc _ _ _,?_,?_⟩
  ·have:=heap_alloc_new w (.cells z.cells t (0,0))
   unfold Row
   simpa using this
  ·intro r' w1 b cur F hS ha hr bg
   rw [t3] at bg
   obtain ⟨ti,q1,q2⟩:=ht.h
   obtain ⟨e1,e2⟩:=hs.eq
   have lg:=wm (P:=P) (d:=none) (ty:=V4) (pos:=PX) (af:=PY) (gg:=none) q1 (by rw [hl,q2]) bg e1 (x:=.tmp d) hr (y:=y) (by rw [aT ha hy]; exact hc.eq hS) (ho.one hS)
   refine ⟨_,lg,⟨rfl,rfl,rfl,Nat.le_refl _,by simp,fun j _ hj=>setRow_other w1 b j _ fun h=>hj (by simp [h])⟩,?_⟩
   have tf:=setRow_heap w1 b cs.toArray (cs.take 0++us++cs.drop (0+us.length)).toArray t _ bg
   rw [e2]
   exact tf
theorem AP.st {d:Nat} {oa os:Oper} {t:TI} {ds:LV} (h:AP P Γ fr d oa os t ds):os.guard=none∧os.dst=none:=by
 cases h; exact ⟨rfl,rfl⟩
theorem Ij {r:NV} {d:Nat} {v:Value}:xq r d v d=v:=by unfold xq; rw [Nat.beq_refl]; rfl
theorem Sl {r:NV} {d t:Nat} {v:Value} (h:t≠d):xq r d v t=r t:=by
 unfold xq
 cases hb:Nat.beq t d with
 | true=>exact absurd (Nat.eq_of_beq_eq_true hb) h
 | false=>rfl
theorem zS {r:NV} {d:Nat} {v:Value} (hn:look fr d=none) (ha:cu r fr):cu (xq r d v) fr:=by
 intro t u hl
 have nq:t≠d:=fun h=>by rw [h,hn] at hl; cases hl
 rw [Sl nq]
 exact ha t u hl
theorem wO {l:LO} {L:Array Bool} {rs:LN} (h:np l L rs=true):Region.ready .any l.toArray L=rs:=by
 unfold np at h
 simpa using h
variable {n:Nat} {l:LO} {Q:Exit→(Nat→Value)→World→Prop} {w0:World} {F2:LN} {a1 a2 s1 s2 d1 d2:Nat} {Ik Gg Gh Gi:Oper} {t1 t2:TI} {Gj Gk:LV} {L:Array Bool} {r:NV}
theorem tree (hd:de n l=true) (wN:∀ w,an [] w0 w→SA Z w Γ [] F2) (B1:AP P Γ fr d1 Ik Gh t1 Gj) (B2:AP P Γ fr d2 Gg Gi t2 Gk) (nq:d1≠d2) (i1:l[a1]? = some Ik) (i2:l[a2]? = some Gg) (j1:l[s1]? = some Gh) (j2:l[s2]? = some Gi)
  (fin:∀ b1 b2 r w,w0.heap.size≤b1→w0.heap.size≤b2→b1≠b2→an [] w0 w→cu r fr→r d1 = .pointer (some ⟨b1,0,none⟩)→r d2 = .pointer (some ⟨b2,0,none⟩)→Row w b1 Gj t1→Row w b2 Gk t2→Q .normal r w)
  (hc:LP l a1 a2 s1 s2 L=true) (hS:an [] w0 w) (ha:cu r fr):Hw P n l Q (an [] w0) 4 L r w:=by
 unfold LP at hc
 simp only [Bool.and_eq_true,Bool.or_eq_true] at hc
 obtain ⟨⟨⟨⟨⟨_,c1,c3⟩,c4,c5⟩,c7,c8⟩,c10,c11⟩,cc⟩:=hc
 obtain ⟨rs,c2,hn,hr⟩ : ∃ rs,np l (on L a1) rs=true∧rs≠[]∧∀ i∈rs,i=a2∨i=s1∧np l (on (on L a1) s1) [a2]=true∧np l (on (on (on L a1) s1) a2) [s2]=true∧np l (on (on (on (on L a1) s1) a2) s2) []=true:=by
  rcases cc with c | ⟨c,c6,c9,V5⟩
  ·exact ⟨_,c,by simp,fun i hi=>.inl (List.mem_singleton.1 hi)⟩
  ·exact ⟨_,c,by simp,fun i hi=>(List.mem_cons.1 hi).imp id fun hi=>⟨List.mem_singleton.1 hi,c6,c9,V5⟩⟩
 have g1:=(B1.st).1
 have g2:=(B2.st).1
 have e1:=(B1.st).2
 have e2:=(B2.st).2
 have last:∀ {L:Array Bool} {b1 b2:Nat} {y4:LV} {r:NV} {w:World},np l L [s2]=true→np l (on L s2) []=true→w0.heap.size≤b1→w0.heap.size≤b2→b1≠b2→an [] w0 w→cu r fr→r d1 = .pointer (some ⟨b1,0,none⟩)→r d2 = .pointer (some ⟨b2,0,none⟩)→Row w b1 Gj t1→Row w b2 y4 t2→
   (∀ (r':NV) (w1:World) (b:Nat) cur F,SA Z w1 Γ cur F→cu r' fr→r' d2 = .pointer (some ⟨b,0,none⟩)→Row w1 b y4 t2→∃ w2,(execOp (ev r') Gi).run P w1 = .ok .skip w2∧an [b] w1 w2∧Row w2 b Gk t2)→Hw P n l Q (an [] w0) 1 L r w:=by
  intro L b1 b2 y4 r w k1 k2 h1 h2 h3 hS ha p1 p2 r1 r2 st
  obtain ⟨w2,lg,hC,hr⟩:=st r w b2 [] F2 (wN w hS) ha p2 r2
  have fc:an [] w0 w2:=hS.then hC fun i hi=>.inr (by rw [List.mem_singleton.1 hi]; exact h2)
  refine Hw.all hd (wO k1) (by simp) fun i hi=>?_
  rw [List.mem_singleton.1 hi]
  refine ⟨Gi,j2,g2,undef,w2,.inr ⟨lg,rfl⟩,fc,?_⟩
  rw [e2]
  exact Hw.done (wO k2) (fin b1 b2 r w2 h1 h2 h3 fc ha p1 p2 (r1.ef hC (by simpa using h3)) hr)
 have two:∀ {L:Array Bool} {b1 b2:Nat} {NK y4:LV} {r:NV} {w:World},np l L [s1]=true→np l (on L s1) [s2]=true→np l (on (on L s1) s2) []=true→w0.heap.size≤b1→w0.heap.size≤b2→b1≠b2→an [] w0 w→cu r fr→r d1 = .pointer (some ⟨b1,0,none⟩)→r d2 = .pointer (some ⟨b2,0,none⟩)→Row w b1 NK t1→Row w b2 y4 t2→
   (∀ (r':NV) (w1:World) (b:Nat) cur F,SA Z w1 Γ cur F→cu r' fr→r' d1 = .pointer (some ⟨b,0,none⟩)→Row w1 b NK t1→∃ w2,(execOp (ev r') Gh).run P w1 = .ok .skip w2∧an [b] w1 w2∧Row w2 b Gj t1)→
   (∀ (r':NV) (w1:World) (b:Nat) cur F,SA Z w1 Γ cur F→cu r' fr→r' d2 = .pointer (some ⟨b,0,none⟩)→Row w1 b y4 t2→∃ w2,(execOp (ev r') Gi).run P w1 = .ok .skip w2∧an [b] w1 w2∧Row w2 b Gk t2)→Hw P n l Q (an [] w0) 2 L r w:=by
  intro L b1 b2 NK y4 r w k1 k2 k3 h1 h2 h3 hS ha p1 p2 r1 r2 FZ Il
  obtain ⟨w2,lg,hC,hr⟩:=FZ r w b1 [] F2 (wN w hS) ha p1 r1
  have fc:an [] w0 w2:=hS.then hC fun i hi=>.inr (by rw [List.mem_singleton.1 hi]; exact h1)
  refine Hw.all hd (wO k1) (by simp) fun i hi=>?_
  rw [List.mem_singleton.1 hi]
  refine ⟨Gh,j1,g1,undef,w2,.inr ⟨lg,rfl⟩,fc,?_⟩
  rw [e1]
  exact last k2 k3 h1 h2 h3 fc ha p1 p2 hr (r2.ef hC (by simpa using Ne.symm h3)) Il
 refine Hw.all hd (wO c1) (by simp) fun i hi=>?_
 rcases List.mem_cons.1 hi with rfl | hi
 ·-- the first is made first
  obtain ⟨gd,dd,dn,NK,w1,lg,hC,bg,FZ⟩:=B1.alloc r w
  have ez:an [] w0 w1:=hS.trans hC
  have B9:w0.heap.size≤w.heap.size:=hS.size
  have lt1:=bg.lt
  have NL:=zS (v:=.pointer (some ⟨w.heap.size,0,none⟩)) dn ha
  refine ⟨Ik,i1,gd,_,w1,.inl lg,ez,?_⟩
  rw [dd]
  refine Hw.all hd (wO c2) hn fun i hi=>?_
  rcases hr i hi with rfl | ⟨rfl,c6,c9,V5⟩
  ·obtain ⟨V6,V7,V8,y4,w2,AE,tY,LS,Il⟩:=B2.alloc (fl r (some d1) (.pointer (some ⟨w.heap.size,0,none⟩))) w1
   refine ⟨Gg,i2,V6,_,w2,.inl AE,ez.trans tY,?_⟩
   rw [V7]
   exact two (b1:=w.heap.size) (b2:=w1.heap.size) c4 c7 c10 B9 (by omega) (by omega) (ez.trans tY) (zS V8 NL) (by show xq _ d2 _ d1=_; rw [Sl nq]; exact Ij) (by exact Ij) (bg.iw tY) LS FZ Il
  ·obtain ⟨w2,AE,tY,KG⟩:=FZ _ w1 w.heap.size [] F2 (wN w1 ez) NL Ij bg
   have fc:an [] w0 w2:=ez.then tY fun i hi=>.inr (by rw [List.mem_singleton.1 hi]; exact B9)
   refine ⟨Gh,j1,g1,undef,w2,.inr ⟨AE,rfl⟩,fc,?_⟩
   rw [e1]
   refine Hw.all hd (wO c6) (by simp) fun i hi=>?_
   rw [List.mem_singleton.1 hi]
   obtain ⟨gd3,dd3,dn3,y4,w3,Ze,Gl,Zf,Il⟩:=B2.alloc (fl (fl r (some d1) (.pointer (some ⟨w.heap.size,0,none⟩))) none undef) w2
   have sz:w1.heap.size≤w2.heap.size:=tY.size
   refine ⟨Gg,i2,gd3,_,w3,.inl Ze,fc.trans Gl,?_⟩
   rw [dd3]
   exact last (b1:=w.heap.size) (b2:=w2.heap.size) c9 V5 B9 (by omega) (by omega) (fc.trans Gl) (zS dn3 NL) (by show xq _ d2 _ d1=_; rw [Sl nq]; exact Ij) Ij (KG.iw Gl) Zf Il
 ·rw [List.mem_singleton.1 hi]
  obtain ⟨gd,dd,dn,y4,w1,lg,hC,bg,Il⟩:=B2.alloc r w
  have ez:an [] w0 w1:=hS.trans hC
  have B9:w0.heap.size≤w.heap.size:=hS.size
  have lt1:=bg.lt
  have NL:=zS (v:=.pointer (some ⟨w.heap.size,0,none⟩)) dn ha
  refine ⟨Gg,i2,gd,_,w1,.inl lg,ez,?_⟩
  rw [dd]
  refine Hw.all hd (wO c3) (by simp) fun i hi=>?_
  rw [List.mem_singleton.1 hi]
  obtain ⟨V6,V7,V8,NK,w2,AE,tY,LS,FZ⟩:=B1.alloc (fl r (some d2) (.pointer (some ⟨w.heap.size,0,none⟩))) w1
  refine ⟨Ik,i1,V6,_,w2,.inl AE,ez.trans tY,?_⟩
  rw [V7]
  exact two (b1:=w1.heap.size) (b2:=w.heap.size) c5 c8 c11 (by omega) B9 (by omega) (ez.trans tY) (zS V8 NL) Ij (by show xq _ d1 _ d2=_; rw [Sl (Ne.symm nq)]; exact Ij) LS (bg.iw tY) FZ Il
end
section
variable {R S:Type} {P:Program} {cx:Cx R} {K:dk R S} {l:LO}
theorem abW {id:Nat} (qs:LN) (a1 a2 s1 s2 d1 d2:Nat) {yf:LO} {Γ:QE} {fr mb:Fr} {Ik Gg Gh Gi:Oper} {t1 t2:TI} {Gj Gk:LV} {m:Option (Out S R)}
  (hB:(P.follows .mixedOrders && de cx.n l && Region.noSelect l.toArray && LR l a1 a2 s1 s2 qs (Array.replicate l.length false) && Nat.beq l.length (qs.length+4) && !(Nat.beq d1 d2))=true)
  (hq:yf=pick l qs) (e1:l[a1]? = some Ik) (e2:l[a2]? = some Gg) (e3:l[s1]? = some Gh) (e4:l[s2]? = some Gi) (h2:QA P Γ (.q yf fr) mb) (B1:AP P Γ mb d1 Ik Gh t1 Gj) (B2:AP P Γ mb d2 Gg Gi t2 Gk)
  (h:∀ b1 b2,D P cx (.p [(d1,.pointer (some ⟨b1,0,none⟩)),(d2,.pointer (some ⟨b2,0,none⟩))] [.row b1 Gj t1,.row b2 Gk t2] mb Γ fun fr Γ=>.n K Γ fr m)):Bx (me P cx (.dr id l K Γ fr m)):=by
 simp only [Bool.and_eq_true] at hB
 obtain ⟨⟨⟨⟨⟨b1,b2⟩,b3⟩,b4⟩,b5⟩,b6⟩:=hB
 rw [mc]
 intro B o ho r w ha oy
 obtain ⟨Z,F,hS,hG⟩:=oy
 have nq:d1≠d2:=fun hd=>by rw [hd,Nat.beq_refl] at b6; cases b6
 refine nb.W b1 (Hw.start (S:=an [] { w with drawn:=w.drawn+1 }) ?_)
 have B8:an [] w { w with drawn:=w.drawn+1 }:=an.drew _ _
 have wN:∀ w',an [] { w with drawn:=w.drawn+1 } w'→SA Z w' Γ [] F:=fun w' hC=>(hS.iw B8).iw hC
 rw [show l.length=qs.length+4 from Nat.eq_of_beq_eq_true b5] at b4 ⊢
 subst hq
 refine Hw.V3 (K:=fun r'=>cu r' mb) b2 b3 (fun c r w h=>s9 c h) (an.refl _ _) (fun L r' hc fh=>?_) qs _ r b4 (QA.sound (fun w' hC=>⟨[],F,wN w' hC⟩) h2 r ha)
 refine tree b2 wN B1 B2 nq e1 e2 e3 e4 (fun c1 c2 r2 w2 k1 k2 k3 hC ha2 p1 p2 r1 rr2=>?_) hc (an.refl _ _) fh
 have tY:an [] w w2:=B8.trans hC
 replace k1:w.heap.size≤c1:=k1
 replace k2:w.heap.size≤c2:=k2
 have xw:HL Z w2 [.row c1 Gj t1,.row c2 Gk t2] ([c1]++([c2]++[])):=.own (f:=[c1]) ⟨rfl,r1⟩ (.own (f:=[c2]) ⟨rfl,rr2⟩ .nil)
 obtain ⟨F3,q1,q2⟩:=HL.build xw (wN w2 hC)
 have bm:∀ b∈F,b < w.heap.size:=fun b hb=>hS.lt b hb
 have ju:Gd B Z (([c1]++([c2]++[]))++F) w2:=by
  refine ⟨?_,?_,fun b hb=>Nat.lt_of_lt_of_le (hG.nz b hb) tY.size,?_,hG.uH,hG.uc,hG.jk.then tY fun i hi=>nomatch hi⟩
  ·refine List.nodup_append.2 ⟨by simpa using k3,hG.nd,fun a NM b hb py=>?_⟩
   have:=bm b hb
   rcases List.mem_cons.1 NM with rfl | NM
   ·omega
   ·have:a=c2:=by simpa using NM
    omega
  ·intro b hb hz
   rcases List.mem_append.1 hb with hb | hb
   ·have:=hG.nz b hz
    rcases List.mem_cons.1 hb with rfl | hb
    ·omega
    ·have:b=c2:=by simpa using hb
     omega
   ·exact hG.apart b hb hz
  ·intro b hb
   have hz:=hG.jk.size
   rcases List.mem_append.1 hb with hb | hb
   ·rcases List.mem_cons.1 hb with rfl | hb
    ·exact .inr (by omega)
    ·have:b=c2:=by simpa using hb
     exact .inr (by omega)
   ·exact hG.low b hb
 refine (h c1 c2).sound B o ho r2 w2 ?_ ⟨Z,F3,q2,ju.perm q1⟩
 exact qo (g:=[(d1,.pointer (some ⟨c1,0,none⟩)),(d2,.pointer (some ⟨c2,0,none⟩))]) (fun p hp=>by
  rcases List.mem_cons.1 hp with rfl | hp
  ·exact p1
  ·rw [List.mem_singleton.1 hp]; exact p2) ha2
end
end Go.Dk
namespace Go.Dk
open Go Go.Li
def V9 (i:Nat) (o:Oper):Oper:=⟨o.dst,o.op,o.type,o.pos,o.after.push ⟨i,.data⟩,o.guard⟩
def uQ (i:Nat):Nat→List Oper→List Oper
 | _,[]=>[]
 | 0,o :: l=>V9 i o :: l
 | j+1,o :: l=>o :: uQ i j l
theorem Fm (i:Nat):∀ (j:Nat) (l:LO),(uQ i j l).length=l.length
 | _,[]=>by cases ‹Nat› <;> rfl
 | 0,_ :: _=>rfl
 | j+1,o :: l=>by unfold uQ; rw [List.length_cons,List.length_cons,Fm i j l]
theorem CH (i:Nat):∀ (j:Nat) (l:LO) (k:Nat),(uQ i j l)[k]? = (l[k]?).map fun o=>if k=j then V9 i o else o
 | 0,[],k=>by simp [uQ]
 | j+1,[],k=>by simp [uQ]
 | 0,o :: l,0=>by simp [uQ]
 | 0,o :: l,k+1=>by simp [uQ]
 | j+1,o :: l,0=>by simp [uQ]
 | j+1,o :: l,k+1=>by
  unfold uQ
  rw [List.getElem?_cons_succ,List.getElem?_cons_succ,CH i j l k]
  simp
section
variable {P:Program} {l:LO} {Q:Exit→Act→World→Prop} {i j:Nat}
theorem JT (tmps:Array Value):yielded (uQ i j l).toArray tmps=yielded l.toArray tmps:=by
 funext k
 simp only [yielded]
 rw [List.getElem?_toArray,List.getElem?_toArray,CH]
 cases l[k]? with
 | none=>rfl
 | some o=>
  simp only [Option.map_some,Option.bind_some]
  by_cases h:k=j
  ·rw [if_pos h]; rfl
  ·rw [if_neg h]
theorem Im {k:Nat} {K:Act→World→Prop} {a:Act} {w:World}:wpOp P (uQ i j l).toArray Q k K a w=wpOp P l.toArray Q k K a w:=by
 unfold wpOp
 rw [JT,List.getElem?_toArray,List.getElem?_toArray,CH]
 cases l[k]? with
 | none=>rfl
 | some o=>
  simp only [Option.map_some]
  by_cases h:k=j
  ·rw [if_pos h]; rfl
  ·rw [if_neg h]
theorem Gn {L:Array Bool} (hL:L.getD i false=true):Region.ready .any (uQ i j l).toArray L=Region.ready .any l.toArray L:=by
 unfold Region.ready
 rw [List.size_toArray,List.size_toArray,Fm]
 refine List.filter_congr fun k _=>?_
 rw [List.getElem?_toArray,List.getElem?_toArray,CH]
 cases l[k]? with
 | none=>rfl
 | some o=>
  simp only [Option.map_some]
  by_cases h:k=j
  ·rw [if_pos h]
   simp only [V9,Array.all_push,hL,Bool.or_true,Bool.and_true]
  ·rw [if_neg h]
theorem Gp:∀ (fuel:Nat) (L:Array Bool) (a:Act) (w:World),L.getD i false=true→wpAny P .any (uQ i j l).toArray Q fuel L a w→wpAny P .any l.toArray Q fuel L a w
 | 0,L,a,w,hL,h=>by
  unfold wpAny at h ⊢
  rw [Gn hL] at h
  exact h
 | fuel+1,L,a,w,hL,h=>by
  unfold wpAny at h ⊢
  rw [Gn hL] at h
  refine ⟨h.1,fun k hk=>?_⟩
  have h2:=h.2 k hk
  rw [Im] at h2
  exact wpOp_mono (fun a' w' h'=>Gp fuel _ a' w' (getD_set_true hL) h') h2
end
def Wd:Oper→Bool
 | ⟨some _,.move _,_,_,_,none⟩=>true
 | _=>false
def LU:List (Nat×Nat)→List Oper→Bool
 | [],_=>true
 | (i,j) :: zs,l=>!(Nat.beq i j) && Nat.blt i l.length && Wd (l.getD i default) && Region.noSelect l.toArray && Region.free .any l.toArray (Array.replicate l.length false) i && (Region.ready .any l.toArray (Array.replicate l.length false)).contains i && (Region.ready .any (uQ i j l).toArray (Array.replicate l.length false)).contains i && LU zs (uQ i j l)
def PZ:List (Nat×Nat)→List Oper→List Oper
 | [],l=>l
 | (i,j) :: zs,l=>PZ zs (uQ i j l)
section
variable {P:Program} {n:Nat} {Q:Exit→(Nat→Value)→World→Prop} {r:NV} {w w0:World}
theorem TL {o:Oper} (h:Wd o=true) (a:Act):o.guard=none∧∃ v,(∀ w,(execOp a.eval o).run P w = .ok (.value v) w)∧∀ w,¬ o.asks P a w:=by
 obtain ⟨d,op,ty,pos,af,g⟩:=o
 cases d <;> cases op <;> cases g <;> first | (cases h; done) | skip
 refine ⟨rfl,_,fun w=>rfl,fun w ha=>?_⟩
 have h1:=ha.1
 exact absurd (show noRoomEvent∈(#[]:Array _) from h1) (by simp)
theorem nb.abX {i j:Nat} {l:LO} (h1:(!(Nat.beq i j) && Nat.blt i l.length && Wd (l.getD i default) && Region.noSelect l.toArray && Region.free .any l.toArray (Array.replicate l.length false) i && (Region.ready .any l.toArray (Array.replicate l.length false)).contains i && (Region.ready .any (uQ i j l).toArray (Array.replicate l.length false)).contains i)=true)
  (hp:∀ c r w,¬ Q (.panic c) r w) (h:nb P n (uQ i j l) Q r w):nb P n l Q r w:=by
 simp only [Bool.and_eq_true] at h1
 obtain ⟨⟨⟨⟨⟨⟨c1,c2⟩,c3⟩,c4⟩,c5⟩,c6⟩,c7⟩:=h1
 have nq:i≠j:=fun e=>by rw [e,Nat.beq_refl] at c1; cases c1
 have hi:=zR c2
 have bm:i < l.length:=Nat.lt_of_succ_le (Nat.le_of_ble_eq_true c2)
 intro a g1 g2 g3
 have H:=h a g1 g2 g3
 obtain ⟨hg,v,hv,hn⟩:=TL (P:=P) c3 a
 rw [List.size_toArray,Fm] at H
 rw [List.size_toArray]
 obtain ⟨f,hf⟩ : ∃ f,l.length=f+1:=⟨l.length - 1,by omega⟩
 have hw:Region.wanted (l.getD i default) (yielded l.toArray a.tmps)=true:=sZ hg
 refine (congrArg (fun k=>wpAny P .any l.toArray _ k _ a _) hf).mpr ?_
 refine wpAny_take (by simpa using hi) c4 (by simpa using c5) (by simpa using c6) (fun c a w h=>(hp _ _ _ h.2.2).elim) (.inl ⟨hw,hv⟩) ?_
 refine Gp (i:=i) (j:=j) f _ _ _ ?_ ?_
 ·have:i < (Array.replicate l.length false).size:=by simpa using bm
  simp [Array.getD,bm]
 ·have H2:=(congrArg (fun k=>wpAny P .any (uQ i j l).toArray (fun e a' w'=>a'.tmps.size=n∧a'.defers=[]∧Q e (cn a') w') k (Array.replicate l.length false) a { w with drawn:=w.drawn+1 }) hf).mp H
  have H3:=H2.2 i (by simpa using c7)
  rw [Im] at H3
  unfold wpOp at H3
  rw [show (l.toArray)[i]? = some (l.getD i default) by simpa using hi] at H3
  simp only [] at H3
  rw [if_pos hw] at H3
  rcases H3 with H3 | H3
  ·unfold Oper.wp at H3
   rw [hv] at H3
   exact H3
  ·exact absurd H3.1 (hn _)
theorem nb.Sm:∀ (zs:List (Nat×Nat)) {l:LO},LU zs l=true→(∀ c r w,¬ Q (.panic c) r w)→nb P n (PZ zs l) Q r w→nb P n l Q r w
 | [],_,_,_,h=>h
 | (i,j) :: zs,l,hc,hp,h=>by
  unfold LU at hc
  rw [Bool.and_eq_true] at hc
  exact nb.abX hc.1 hp (nb.Sm zs hc.2 hp h)
theorem NN (k:Nat) {l:LO} (hd:de n l=true) (hp:((l.take k).all fun o=>x8 o.op)=true) (hB:Region.lexTailB .any l.toArray k=true)
  (h:QL P (an [] w) l (l.take k) r fun r'=>∀ w',an [] w w'→WL P l (l.drop k) r' w' (Q .normal)):nb P n l Q r w:=by
 intro a h1 h2 h3
 have B7:an [] w { w with drawn:=w.drawn+1 }:=an.drew _ _
 have oy:wpStill P l.toArray { w with drawn:=w.drawn+1 } (fun a'=>wpList P l.toArray (fun e a' w'=>a'.tmps.size=n∧a'.defers=[]∧Q e (cn a') w') (l.drop k) a' { w with drawn:=w.drawn+1 }) (l.take k) a:=by
  refine QL.still (n:=n) (C:=an [] w) B7 hd (l.take k) a (AQ hd fun o ho=>List.mem_of_mem_take ho) hp h1 h2 (by rw [h3]; exact h) _ ?_
  intro a' g1 g2 g3
  exact WL.list hd _ _ _ (AQ hd fun o ho=>List.mem_of_mem_drop ho) g1 g2 (g3 _ B7)
 unfold Region.lexTailB at hB
 simp only [Bool.and_eq_true,decide_eq_true_eq,List.size_toArray] at hB
 obtain ⟨⟨⟨⟨abY,hn⟩,hs⟩,hc⟩,PS⟩:=hB
 have Sn:(l.take k).length=k:=by rw [List.length_take]; omega
 have abZ:HeadInv .any l.toArray k (Array.replicate l.length false):=
  ⟨by simp,fun j oj _ hl=>(by rw [getD_replicate_false] at hl; cases hl),fun t _ ht=>getD_in (by simpa using ht) (getD_replicate_false _ _)⟩
 have H:=wpAnyL_lex (md:=.any) (g:=l.length - k) abY hs hc (by simpa using hn) (l.take k) 0 _ a (fun j hj=>by
  rw [Sn] at hj
  rw [List.getElem?_take_of_lt hj,Nat.zero_add,List.getElem?_toArray]) (by rw [Sn,Nat.zero_add]) abZ (by rw [Sn]; exact PS) oy
 have H2:=wpAny_of_head (Q':=fun e a' w'=>a'.tmps.size=n∧a'.defers=[]∧Q e (cn a') w') (g:=l.length - k) (fun L a' hL=>by
  have H3:=wpAny_of_seq (md:=.any) (Q':=fun e a' w'=>a'.tmps.size=n∧a'.defers=[]∧Q e (cn a') w') (l.drop k) k L a' { w with drawn:=w.drawn+1 } (fun j=>by rw [List.getElem?_drop,List.getElem?_toArray]) (by rw [List.length_drop]; exact hL.1) hL.2
  rwa [List.length_drop] at H3) _ _ _ H
 rw [Sn,show k+(l.length - k)=l.length by omega] at H2
 rw [List.size_toArray]
 exact H2
end
section
variable {R S:Type} {P:Program} {cx:Cx R} {K:dk R S}
theorem Sp {id:Nat} (zs:List (Nat×Nat)) (k:Nat) {l l' ops tl:LO} {Γ:QE} {fr:Fr} {m:Option (Out S R)} (hl:l'=PZ zs l) (hB:(P.follows .mixedOrders && LU zs l && de cx.n l' && ((l'.take k).all fun o=>x8 o.op) && Region.lexTailB .any l'.toArray k)=true) (ho:ops=l'.take k) (ht:tl=l'.drop k)
  (h:D P cx (.o true l' ops (.h l' tl K) Γ fr m)):Bx (me P cx (.dr id l K Γ fr m)):=by
 simp only [Bool.and_eq_true] at hB
 obtain ⟨⟨⟨⟨h1,h2⟩,h3⟩,h4⟩,h5⟩:=hB
 subst ho ht hl
 rw [mc]
 intro B o ho r w ha hs
 exact nb.W h1 (nb.Sm zs h2 (fun c r w h=>s9 c h) (NN k h3 h4 h5 (h.sound B o ho r w ha hs)))
end
end Go.Dk
namespace Go.Dk
open Go Go.Li
section
variable {B:Bs} {P:Program} {Z Z':Nat→Prop} {w:World} {Fd F1:LN}
theorem LW {f:FuncId} {ow:Bool} {vs:LV} {Δ:QE} {β V:Type} {mo:Option β} {rt:β→V→List Value} {ps:β→V→List aw} {y:β} (hc:RS P f ow vs Δ β V mo rt ps) (hl:HL Z' w Δ Fd) (bm:∀ b∈F1,b < w.heap.size) (j4:Gd B Z (Fd++F1) w)
  (hz:∀ b,Z b→Z' b) (Hu:∀ b,Z' b→Z b∨b∈F1) (hm:∀ v,sQ (ps y v)=true) (hy:mo=some y) :
  Calls P f vs.toArray w fun e w'=>∃ v F2,e = .returned (pr (rt y v))∧an Fd w w'∧HL Z w' (ps y v) F2∧Gd B Z (F2++F1) w':=by
 have da:=List.nodup_append.1 j4.nd
 refine (hc.2 w Z' Fd hl da.1 (fun b hb UP=>(Hu b UP).elim (j4.apart b (List.mem_append_left _ hb)) (fun h=>da.2.2 b hb b h rfl)) (fun b hb=>(Hu b hb).elim (j4.nz b) (bm b)) y hy).mono ?_
 rintro e w' ⟨v,he,Z2,F2,qf,ju⟩
 have hC:an Fd w w':=ju.jk
 refine ⟨v,F2,he,hC,xZ (hm v) qf,?_⟩
 refine ⟨List.nodup_append.2 ⟨ju.nd,da.2.1,?_⟩,?_,fun b hb=>Nat.lt_of_lt_of_le (j4.nz b hb) hC.size,?_,j4.uH,j4.uc,?_⟩
 ·rintro b hb c BL rfl
  rcases ju.low b hb with h | h
  ·exact da.2.2 b h b BL rfl
  ·exact absurd (bm b BL) (Nat.not_lt.2 h)
 ·intro b hb hz3
  rcases List.mem_append.1 hb with hb | hb
  ·exact ju.apart b hb (ju.uH b (hz b hz3))
  ·exact j4.apart b (List.mem_append_right _ hb) hz3
 ·intro b hb
  rcases List.mem_append.1 hb with hb | hb
  ·rcases ju.low b hb with h | h
   ·exact j4.low b (List.mem_append_left _ h)
   ·exact .inr (Nat.le_trans j4.jk.size h)
  ·exact j4.low b (List.mem_append_right _ hb)
 ·exact j4.jk.then hC fun i hi=>j4.low i (List.mem_append_left _ hi)
end
section
variable {P:Program} {S:World→Prop}
theorem BC.mono {K K':(Nat→Value)→Prop} (hk:∀ r,K r→K' r):∀ {ops:LO} {r:NV},BC P S ops r K→BC P S ops r K'
 | [],_,h=>hk _ h
 | _ :: _,_,⟨hg,v,h1,h2⟩=>⟨hg,v,h1,BC.mono hk h2⟩
end
inductive QX {R S:Type} (P:Program) (cx:Cx R) (K:dk R S) (nh:LO) (rs:List (Nat×List Value×TypeId)) (pe:QE):List aw→List aw→List Oper→Fr→Option (Out S R)→Prop
 | pe {e:aw} {Δ Γ:QE} {ops:LO} {fr:Fr} {m:Option (Out S R)} (h:QX P cx K nh rs pe Δ (e :: Γ) ops fr m):QX P cx K nh rs pe (e :: Δ) Γ ops fr m
 | nil {Γ:QE} {fr:Fr} {m:Option (Out S R)} {tH:List (Nat×List Value×TypeId)} (h:SQ P Γ fr nh rs tH) (k:D P cx (.p [] pe fr Γ fun fr Γ=>.p [] (Ei tH) fr Γ fun fr Γ=>.n K Γ fr m)):QX P cx K nh rs pe [] Γ [] fr m
 | M4 {d n:Nat} {t ty:TI} {x:OO} {a:Addr} {ds:LV} {pos:String} {af:Array Edge} {ops:LO} {Γ:QE} {fr:Fr} {m:Option (Out S R)} [ht:LK P t (some n)] (hx:bp fr x=some (.pointer (some a))) (hw:vQ Γ a n ds) (h:QX P cx K nh rs pe [] Γ ops ((d,.agg ds.toArray) :: fr) m) :
   QX P cx K nh rs pe [] Γ (⟨some d,.load t x,ty,pos,af,none⟩ :: ops) fr m
 | Hp {α V:Type} {d n:Nat} {x y:OO} {v:Value} {k:IntKind} {j:Int} {t ty:TI} {S':ag α} {cl:α→V→List Value} {en:α→V→List aw} {xs:List α} {pos:String} {af:Array Edge} {ops:LO} {Γ Γx:QE} {fr:Fr} {f:α→Option (Out S R)} [ht:D0 P t n] (hx:bp fr x=some v) (hy:bp fr y=some (.int k j))
   (hr:qp Γ v false false (iq S') xs uf Γx) (hs:FY S' V cl en) (hn:S'.size=n) (h:∀ z u,QX P cx K nh rs pe (.au (dc v n j) (cl z u) :: en z u) Γ ops ((d,.pointer (some (dc v n j))) :: fr) (f z)) :
   QX P cx K nh rs pe [] Γ (⟨some d,.indexAddr t x y,ty,pos,af,none⟩ :: ops) fr (idx xs j>>=f)
 | lc {d:Nat} {t ty:TI} {x:OO} {a:Addr} {u:Value} {pos:String} {af:Array Edge} {ops:LO} {Γ:QE} {fr:Fr} {m:Option (Out S R)} [ht:LK P t none] (hx:bp fr x=some (.pointer (some a))) (hw:vN Γ a u) (h:QX P cx K nh rs pe [] Γ ops ((d,u) :: fr) m) :
   QX P cx K nh rs pe [] Γ (⟨some d,.load t x,ty,pos,af,none⟩ :: ops) fr m
 | val {d:Nat} {op:Op} {ty:TI} {u:Value} {pos:String} {af:Array Edge} {ops:LO} {Γ:QE} {fr:Fr} {m:Option (Out S R)} (hv:VQ P Γ fr op u) (h:QX P cx K nh rs pe [] Γ ops ((d,u) :: fr) m):QX P cx K nh rs pe [] Γ (⟨some d,op,ty,pos,af,none⟩ :: ops) fr m
section
variable {R S:Type} {P:Program} {cx:Cx R} {K:dk R S} {nh:LO} {rs:List (Nat×List Value×TypeId)} {pe:QE} {Z:Nat→Prop}
theorem QX.sound {w0:World} {H:LN} (hz:∀ b∈H,¬ Z b) {Δ Γ:QE} {ops:LO} {fr:Fr} {m:Option (Out S R)} (h:QX P cx K nh rs pe Δ Γ ops fr m):∀ {o:Out S R} {F:LN},m=some o→(∀ b∈H,b ∉ F)→SA Z w0 (Δ.reverse++Γ) [] F→∀ r,cu r fr→
  BC P (an H w0) ops r fun r'=>∃ Γ' mb tH m' F',F'.Perm F∧m'=some o∧cu r' mb∧SA Z w0 Γ' [] F'∧SQ P Γ' mb nh rs tH∧D P cx (.p [] pe mb Γ' fun fr Γ=>.p [] (Ei tH) fr Γ fun fr Γ=>.n K Γ fr m'):=by
 induction h with
 | @pe e Δ Γ ops fr m _ ih=>
  intro o F hm hF hS r ha
  refine ih hm hF ?_ r ha
  rw [List.reverse_cons,List.append_assoc] at hS
  exact hS
 | @nil Γ fr m tH h k=>exact fun hm hF hS r ha=>⟨Γ,fr,tH,m,_,.refl _,hm,ha,hS,h,k⟩
 | @val d op ty u pos af ops Γ fr m hv _ ih=>
  intro o F hm hF hS r ha
  refine ⟨rfl,u,fun w hC=>?_,ih hm hF hS _ (ay ha)⟩
  exact hv.sound ((SA.ef hC hz (fun _ _=>List.not_mem_nil) hF hS)) ha (some d) ty pos af none w (an.refl _ _)
 | @M4 d n t ty x a ds pos af ops Γ fr m ht hx hw _ ih=>
  intro o F hm hF hS r ha
  refine ⟨rfl,_,fun w hC=>?_,ih hm hF hS _ (ay ha)⟩
  obtain ⟨h1,h2⟩:=hw.sound (SA.ef hC hz (fun _ _=>List.not_mem_nil) hF hS)
  exact Lg ht.h h1 (aT ha hx) h2 w (an.refl _ _)
 | @lc d t ty x a u pos af ops Γ fr m ht hx hw _ ih=>
  intro o F hm hF hS r ha
  refine ⟨rfl,u,fun w hC=>?_,ih hm hF hS _ (ay ha)⟩
  exact Ld ht.h (hw.sound (SA.ef hC hz (fun _ _=>List.not_mem_nil) hF hS)) (aT ha hx) w (an.refl _ _)
 | @Hp α V d n x y v k j t ty S' cl en xs pos af ops Γ Γx fr f ht hx hy hr nn hn _ ih=>
  intro o F hm hF hS r ha
  replace nn:SO S' V cl en:=by cases nn; assumption
  obtain ⟨z,NO,hm⟩:=bind_some hm
  replace NO:=rh NO
  obtain ⟨e,i,h1,h2,h3⟩:=ht.h
  obtain ⟨dx,_,⟨⟨f0,C5,vJ⟩,_⟩,_⟩:=hr.sound hS
  have hZ:∀ b∈f0,Z b:=fun b hb=>(vJ b hb).elim id id
  obtain ⟨⟨a,c,hv⟩,bm,cs,f1,ei,Na,ko⟩:=tP C5 j NO.1 NO.2
  have wH:(iq S').size=n:=hn
  rw [wH] at ko
  obtain ⟨u,rfl,tB⟩:=nn.op ei.2
  have hblk:Z (dc v n j).block:=by
   obtain ⟨base,cap,o9,fh⟩:=C5
   rcases fh with ⟨rfl,_⟩ | ⟨b,off,cr,e',fz,f',rfl,_,rfl,_⟩
   ·simp at bm; omega
   ·obtain rfl:v = .slice (some ⟨b,off,none⟩) xs.length cap:=by simpa using o9
    have:(dc (.slice (some ⟨b,off,none⟩) xs.length cap) n j).block=b:=by unfold dc; rw [wG]
    rw [this]; exact hZ b (by simp)
  have Hy:fact Z w0 [] (.au (dc v n j) (cl z u)):=⟨fun i u' hi=>ko i u' hi,fun _=>hblk⟩
  have du:HL Z w0 (.au (dc v n j) (cl z u) :: en z u) []:=.fact Hy (vT (tB Z fun b hb=>hZ b (Na b hb)))
  obtain ⟨F',hp,fc⟩:=du.build hS
  have hpF:F'.Perm F:=by simpa using hp
  refine ⟨rfl,.pointer (some (dc v n j)),fun w hC=>?_,?_⟩
  ·rw [mf h1 h2 ((aT ha hx).trans hv) (aT ha hy) NO.1 (by omega),h3,hv]
   rfl
  ·have hq:=ih z u (F:=F') hm (fun b hb h=>hF b hb (hpF.mem_iff.1 h)) fc _ (ay ha)
   refine BC.mono ?_ hq
   rintro r' ⟨Γ',mb,tH,m',F3,q0,q1,q2,q3,q4,q5⟩
   exact ⟨Γ',mb,tH,m',F3,q0.trans hpF,q1,q2,q3,q4,q5⟩
end
inductive We (P:Program) (f:FuncId):Prop
 | mk [h:bn P f]:We P f
theorem FO.hl {Z:Nat→Prop} {w:World} {Δ:QE} (h:FO Δ):∀ {F:LN},HL Z w Δ F→F=[]:=by
 induction h with
 | nil=>intro F h; cases h; rfl
 | rd _ ih=>intro F h; cases h with | own h k=>exact h.elim | fact h k=>exact ih k
 | au _ ih=>intro F h; cases h with | own h k=>exact h.elim | fact h k=>exact ih k
def DD (l:LO) (nx:Array Bool→Bool):List Nat→Array Bool→Bool
 | [],L=>nx L
 | i :: qs,L=>Nat.blt i l.length && (Region.ready .any l.toArray L).contains i && Region.free .any l.toArray L i && DD l nx qs (L.setIfInBounds i true)
section
variable {P:Program} {n:Nat} {l:LO} {Q:Exit→(Nat→Value)→World→Prop} {S:World→Prop}
theorem Hw.NP {nx:Array Bool→Bool} {m:Nat} (hd:de n l=true) (hs:Region.noSelect l.toArray=true) (hp:∀ c r w,¬ Q (.panic c) r w) {w:World} (hS:S w) {K:(Nat→Value)→Prop} (h:∀ L r,nx L=true→K r→Hw P n l Q S m L r w) :
  ∀ (qs:LN) (L:Array Bool) (r:NV),DD l nx qs L=true→BC P S (pick l qs) r K→Hw P n l Q S (qs.length+m) L r w:=by
 intro qs
 induction qs with
 | nil=>intro L r hc hv; rw [List.length_nil,Nat.zero_add]; exact h L r hc hv
 | cons i qs ih=>
  intro L r hc hv
  unfold DD at hc
  simp only [Bool.and_eq_true] at hc
  obtain ⟨⟨⟨c1,c2⟩,c3⟩,c4⟩:=hc
  obtain ⟨hg,v,h1,h2⟩:=hv
  have:=Hw.take hd (zR c1) hs c3 c2 hp hg h1 hS (ih _ _ c4 h2)
  rwa [show qs.length+m+1=(i :: qs).length+m by simp; omega] at this
theorem Hw.Zg {k i:Nat} {L:Array Bool} {o:Oper} {r:NV} {w:World} (hd:de n l=true) (hi:l[i]? = some o) (hr:Region.ready .any l.toArray L=[i]) (hg:o.guard=none) (hy:gq P o r w fun v w'=>S w'∧Hw P n l Q S k (L.setIfInBounds i true) (fl r o.dst v) w'):Hw P n l Q S (k+1) L r w:=by
 intro a h1 h2 h3
 refine wpAnyH_all hr (by simp) fun j hj=>?_
 obtain rfl:j=i:=by simpa using hj
 unfold wpOp
 rw [show (l.toArray)[j]? = some o by simpa using hi]
 simp only []
 rw [if_pos (sZ hg)]
 refine .inl (gq.wp (K:=fun v w'=>S w'∧Hw P n l Q S k (L.setIfInBounds j true) (fl r o.dst v) w') (by rw [h3]; exact hy) fun v w' hv=>⟨hv.1,hv.2 _ (by rw [j8]; exact h1) (by rw [ik]; exact h2) (by rw [l7 (B5 hd hi h1),h3])⟩)
end
section
variable {R S:Type} {P:Program} {cx:Cx R} {K:dk R S} {l:LO}
theorem ab0 {id:Nat} (q1:LN) (c:Nat) (q2 ss:LN) (fz:QE) (e:TI) {yf Ej nh:LO} {d:Nat} {f:FuncId} {xs:List Operand} {au:Array TypeId} {ty:TI} {pos:String} {af:Array Edge} {Γ Γz Γa Γ1 Δ:QE} {b:Nat} {cs:LV} {fr Gq:Fr} {vs:LV} {rs:List (Nat×List Value×TypeId)} {β V:Type} {mo:Option β} {rt:β→V→List Value} {ps:β→V→List aw} {g:β→Option (Out S R)}
  (hB:(P.follows .mixedOrders && de cx.n l && Region.noSelect l.toArray && DD l (fun L=>np l L [c] && DD l (fun L=>B6 l ss L) q2 (L.setIfInBounds c true)) q1 (Array.replicate l.length false) && Nat.beq l.length (q1.length+(q2.length+ss.length+1)))=true)
  (hz:EF Γ fz Γz) (VT:FO fz) (h0:di Γz (.row b cs e) Γa) (hs:nh=pick l ss) (h3:RO fr nh Γa rs Γ1) (hq:yf=pick l q1) (h2:QA P Γ1 (.q yf fr) Gq)
  (hc:l[c]? = some ⟨some d,.call ⟨.value (.func f),xs.toArray,au⟩,ty,pos,af,none⟩) (hf:We P f) (hx:uZ Gq xs=some vs) (uN:Ct P f true mo vs Δ rt ps) (h5:EO [.row b cs e] Δ []) (h6:ER true Γ1 Δ) (Da:Ej=pick l q2)
  (k:∀ y v,QX P cx K nh rs (ps y v) [] Γ1 Ej ((d,pr (rt y v)) :: Gq) (g y)):Bx (me P cx (.dr id l K Γ fr (mo>>=g))):=by
 simp only [Bool.and_eq_true] at hB
 obtain ⟨⟨⟨⟨b1,b2⟩,b3⟩,b4⟩,b5⟩:=hB
 rw [mc]
 intro B o ho r w ha oy
 obtain ⟨y,hy,ho⟩:=bind_some ho
 obtain ⟨Z0,F0,va,hG0⟩:=oy
 obtain ⟨Fd,Fz,Zn,za,hSz,tC⟩:=hz.sound va
 obtain rfl:=VT.hl za
 rw [List.nil_append] at tC
 have hGz:Gd B (r4 Z0 Zn) Fz w:=Gd.freeze (hG0.perm tC) fun x hx=>va.lt x (tC.mem_iff.1 (List.mem_append_right _ hx))
 generalize r4 Z0 Zn=Z at hSz hGz za
 obtain ⟨f0,Fa,hpa,⟨rfl,bg⟩,hSa⟩:=h0.sound hSz
 obtain ⟨F1,sf,hR,ez⟩:=h3.sound hSa
 have o5:([b]++(rs.map (·.1)++F1)).Perm Fz:=(sf.append_left [b]).trans hpa
 have hG:=hGz.perm o5
 have da:=List.nodup_append.1 hG.nd
 have Wh:=List.nodup_append.1 da.2.1
 have B8:an [] w { w with drawn:=w.drawn+1 }:=an.drew _ _
 have jv:Gd B Z ([b]++(rs.map (·.1)++F1)) { w with drawn:=w.drawn+1 }:=⟨hG.nd,hG.apart,hG.nz,hG.low,hG.uH,hG.uc,hG.jk.trans (B8.mono fun _ h=>nomatch h)⟩
 have tf:=bg.iw B8
 have Io:=ez.iw B8
 have Ii:Rows { w with drawn:=w.drawn+1 } rs:=fun p hp=>(hR p hp).iw B8
 refine nb.W b1 (Hw.start (S:=an ([b]++rs.map (·.1)) { w with drawn:=w.drawn+1 }) ?_)
 generalize { w with drawn:=w.drawn+1 } = w0 at jv tf Io Ii
 have Wi:∀ x∈[b]++rs.map (·.1),¬ Z x:=fun x hx=>hG.apart x (by rw [← List.append_assoc]; exact List.mem_append_left _ hx)
 have hHF:∀ x∈[b]++rs.map (·.1),x ∉ F1:=fun x hx hm=>by
  rcases List.mem_append.1 hx with hx | hx
  ·exact da.2.2 x hx x (List.mem_append_right _ hm) rfl
  ·exact Wh.2.2 x hx x hm rfl
 have wN:∀ {G:QE} {F:LN},F.Perm F1→SA Z w0 G [] F→∀ w',an ([b]++rs.map (·.1)) w0 w'→SA Z w' G [] F:=fun hp h w' hC=>h.ef hC Wi (fun _ _=>List.not_mem_nil) fun x hx hm=>hHF x hx (hp.mem_iff.1 hm)
 rw [show l.length=q1.length+(q2.length+ss.length+1) from Nat.eq_of_beq_eq_true b5] at b4 ⊢
 subst hq hs Da
 refine Hw.NP (K:=fun r'=>cu r' Gq) b2 b3 (fun c r w h=>s9 c h) (an.refl _ _) (fun L r' hL fh=>?_) q1 _ r b4 (QA.sound (fun w' hC=>⟨[],F1,wN (.refl _) Io w' hC⟩) h2 r ha)
 simp only [Bool.and_eq_true] at hL
 obtain ⟨fn, cc, f1, f2, f3⟩ : ∃ fn c, P.funcs[f]? = some fn ∧ fn.body = some c ∧ (fn.name == "runtime.NumGoroutine") = false := by cases hf with | mk => rename_i h; exact h.h
 refine Hw.Zg b2 hc (wO hL.1) rfl ?_
 unfold gq
 rw [Du f1 f2 f3,sY fh hx]
 rw [r6] at uN
 obtain ⟨Fd,F',k1,k2,k3⟩:=h5.sound (Z:=Z) (w:=w0) (F:=[b]) (by have:=(HL.own (Z:=Z) (w:=w0) (f:=[b]) (e:=.row b cs e) ⟨rfl,tf⟩ .nil).front (Γ:=[]) (F:=[]) rfl; simpa using this)
 have BS:F'=[]:=by cases k2; rfl
 subst BS
 rw [List.append_nil] at k3
 have j4:Gd B Z (Fd++(rs.map (·.1)++F1)) w0:=jv.perm (k3.append_right _)
 have xw:HL (fun x=>Z x∨x∈F1) w0 Δ Fd:=h6.sound (fun _ h=>.inl h) (fun _ _ h=>.inr h) Io k1
 refine (LW uN xw (F1:=rs.map (·.1)++F1) (fun x hx=>?_) j4 (fun _ h=>.inl h) (fun x hx=>hx.imp (fun h=>h) fun h=>List.mem_append_right _ h) (uN.1 rfl y) hy).mono ?_
 ·rcases List.mem_append.1 hx with hx | hx
  ·obtain ⟨p,hp,rfl⟩:=List.mem_map.1 hx
   exact (Ii p hp).lt
  ·exact Io.lt x hx
 rintro e' w2 ⟨v,F2,he,tY,hps,wL⟩
 have hFd:Fd=[b]:=List.perm_singleton.1 k3
 subst hFd
 have LX:an ([b]++rs.map (·.1)) w0 w2:=tY.mono fun x hx=>List.mem_append_left _ hx
 refine ⟨_,he,LX,?_⟩
 have hR2:Rows w2 rs:=fun p hp=>(Ii p hp).ef tY fun hb=>da.2.2 b (by simp) p.1 (List.mem_append_left _ (List.mem_map_of_mem (f:=fun q=>q.1) hp)) (List.mem_singleton.1 hb).symm
 refine Hw.NP b2 b3 (fun c r w h=>s9 c h) LX (fun L2 r2 Ns KG=>?_) q2 _ _ hL.2 (QX.sound Wi (k y v) ho hHF Io _ (ay fh))
 obtain ⟨Γ',mb,tH,m',F3,p0,p1,p2,p3,p4,p5⟩:=KG
 refine SQ.sound b2 p2 (fun w' hC=>wN p0 p3 w' hC) p4 ss L2 w2 rfl Ns LX hR2 Wh.1 (fun x hx=>List.mem_append_right _ hx) fun w3 Gl hR3=>?_
 have ab1:=List.nodup_append.1 wL.nd
 have ab2:HL Z w3 (ps y v) F2:=hps.R5 Gl (fun x hx=>Wi x (List.mem_append_right _ hx)) fun x hx hm=>ab1.2.2 x hx x (List.mem_append_left _ hm) rfl
 have ab3:an ([b]++rs.map (·.1)) w0 w3:=LX.trans (Gl.mono fun x hx=>List.mem_append_right _ hx)
 obtain ⟨Fa1,s1,s2⟩:=ab2.build (wN p0 p3 w3 ab3)
 obtain ⟨Fa2,s3,s4⟩:=(DB hR3).build s2
 rw [p4.fst] at s3
 have ju:Gd B Z (F2++(rs.map (·.1)++F1)) w3:=⟨wL.nd,wL.apart,fun x hx=>Nat.lt_of_lt_of_le (wL.nz x hx) Gl.size,wL.low,wL.uH,wL.uc,wL.jk.then Gl fun x hx=>wL.low x (List.mem_append_right _ (List.mem_append_left _ hx))⟩
 refine p5.sound B o p1 r2 w3 (by simpa using p2) ⟨Z,Fa2,s4,ju.perm ?_⟩
 refine s3.trans ((s1.append_left _).trans ?_)
 refine ((p0.append_left F2).append_left (rs.map (·.1))).trans ?_
 rw [← List.append_assoc,← List.append_assoc]
 exact List.perm_append_comm.append_right F1
theorem Zh {id:Nat} (q1:LN) (c:Nat) (q2 ss:LN) (tz:Nat) {α:Type} (E:ag α) (e:TI) {zv:Value} {zx:List α} {yf Ej nh:LO} {d:Nat} {f:FuncId} {xs:List Operand} {au:Array TypeId} {ty:TI} {pos:String} {af:Array Edge} {Γ Γz Γa Γ1 Δ:QE} {b:Nat} {cs:LV} {fr Gq:Fr} {vs:LV} {rs:List (Nat×List Value×TypeId)} {β V:Type} {mo:Option β} {rt:β→V→List Value} {ps:β→V→List aw} {g:β→Option (Out S R)}
  (hB:(P.follows .mixedOrders && de cx.n l && Region.noSelect l.toArray && DD l (fun L=>np l L [c] && DD l (fun L=>B6 l ss L) q2 (L.setIfInBounds c true)) q1 (Array.replicate l.length false) && Nat.beq l.length (q1.length+(q2.length+ss.length+1)))=true)
  (_hzv:look fr tz=some zv) (hz:EF Γ [.rd false (bJ E) zv zx] Γz) (h0:di Γz (.row b cs e) Γa) (hs:nh=pick l ss) (h3:RO fr nh Γa rs Γ1) (hq:yf=pick l q1) (h2:QA P Γ1 (.q yf fr) Gq)
  (hc:l[c]? = some ⟨some d,.call ⟨.value (.func f),xs.toArray,au⟩,ty,pos,af,none⟩) (hf:We P f) (hx:uZ Gq xs=some vs) (uN:Ct P f true mo vs Δ rt ps) (h5:EO [.row b cs e] Δ []) (h6:ER true Γ1 Δ) (Da:Ej=pick l q2)
  (k:∀ y v,QX P cx K nh rs (ps y v) [] Γ1 Ej ((d,pr (rt y v)) :: Gq) (g y)):Bx (me P cx (.dr id l K Γ fr (mo>>=g))):=
 ab0 (id:=id) q1 c q2 ss [.rd false (bJ E) zv zx] e hB hz (.rd .nil) h0 hs h3 hq h2 hc hf hx uN h5 h6 Da k
end
theorem St.ab4 {α:Type} {E:ag α} {T:ag (List α)} {v:Value} {x:List α} {B:Bs} {Γ Γ1:QE} {w:World} (h1:di Γ (.own T v x) Γ1) (hr:RT T (bJ E)) (hs:St B Γ w):St B (.rd false (bJ E) v x :: Γ1) w:=by
 obtain ⟨Z,F,hS,hG⟩:=hs
 obtain ⟨f,F',hp,_,fc⟩:=(DZ.own (E:=E) h1 hr).sound hS
 have ox:(F'++f).Perm F:=List.perm_append_comm.trans hp
 exact ⟨_,F',fc,Gd.freeze (hG.perm ox) fun b hb=>hS.lt b (hp.mem_iff.1 (List.mem_append_left _ hb))⟩
section
variable {R:Type} {P:Program} {cx:Cx R}
theorem ab5 {M α β:Type} {d b:Nat} {s x:OO} {sv u:Value} {T:ag (List β)} {E1:ag β} {y:List β} {t e e' ty:TI} {E:ag α} {bt:Nat} {all l:LO} {rk:RK R M} {Γ Γ1:QE} {fr:Fr} {m:Option M} (h1:di Γ (.own T u y) Γ1) (hr:RT T (bJ E1))
  (h:D P cx (.MX false e' E e t bt u b sv s x d ty all l rk (.rd false (bJ E1) u y :: Γ1) fr m)):D P cx (.ap (aJ e' E) e t bt u b sv s x d ty all l rk Γ fr m):=by
 refine D.of ?_
 intro q1 q2 q3 B o ho r w ha hs
 exact h.sound q1 q2 q3 B o ho r w ha (St.ab4 h1 hr hs)
end
end Go.Dk
namespace Go.Li
open Go
section
variable {P:Program} {n:Nat} {Q:Exit→(Nat→Value)→World→Prop} {r:NV} {w:World} {R:Type}
theorem TM {c:Code} (hg:∀ l r w,¬ Q (.goto l) r w) (h:W P n c Q r w):W P n (.scope c) Q r w:=by
 intro a h1 h2 h3
 refine wp_scope_straight (wp_mono (h a h1 h2 h3) ?_)
 rintro e a' w' ⟨g1,g2,g3⟩
 cases e
 case goto l=>exact hg _ _ _ g3
 all_goals exact ⟨g1,g2,g3⟩
theorem TN {l:Nat} (h:Q .normal r w):W P n (.label l) Q r w:=fun a h1 h2 h3=>wp_label ⟨h1,h2,by rw [h3]; exact h⟩
end
end Go.Li
namespace Go.Dk
open Go Go.Li
section
variable {R:Type} {P:Program} {cx:Cx R} {S:Type}
theorem LY {B:Bs} {b:Kb R S} {o:Out S R} {l:Nat} {r:NV} {w:World} : ¬ G0 P cx B b o (.goto l) r w:=by
 cases b <;> cases o <;> exact fun h=>h
theorem LZ {n l:Nat} {Q:Exit→(Nat→Value)→World→Prop} {r:NV} {w:World} (h : ¬ Q (.goto l) r w):∀ gu,¬ Au P n Q gu (.goto l) r w:=by
 intro gu
 induction gu with
 | nil=>exact h
 | cons a gu ih=>cases a <;> exact ih
theorem Wj {K:dk R S} {c:Code} {b e:Nat} {cs:LV} {Γ Γ1:QE} {fr:Fr} {m:Option (Out S R)} (h1:di Γ (.row b cs e) Γ1) (h:D P cx (.c K c (.au ⟨b,0,none⟩ cs :: Γ1) fr m)):D P cx (.c K c Γ fr m):=by
 refine D.of ?_
 intro B o ho r w ha hs
 refine h.sound B o ho r w ha ?_
 obtain ⟨Z,F,hS,hG⟩:=hs
 obtain ⟨f,F1,hp,⟨rfl,bg⟩,ez⟩:=h1.sound hS
 have xu:(F1++[b]).Perm F:=List.perm_append_comm.trans hp
 have j4:=Gd.freeze (hG.perm xu) fun c hc=>by rw [List.mem_singleton.1 hc]; exact bg.lt
 exact ⟨r4 Z [b],F1,SA.fact (ez.mono (fun _ h=>.inl h) fun _ h=>h) ⟨bg.at,fun _=>.inr (by simp)⟩,j4⟩
theorem rgs {K:dk R S} {ops:LO} {Γ:QE} {fr:Fr} {m:Option (Out S R)} (h:D P cx (.rg false true ops K Γ fr m)):D P cx (.rg true true ops K Γ fr m):=D.of (show me P cx _ from h.sound)
theorem NQ {S1 V W A:Type} (k:Nat) (a0:A) (Δ:A→S1→V→W→List aw) (φ:A→S1→V→W→Fr) (v0:V) (w0:W) (f2:Fr) {gu:List KI} {kb:Kb R S} {c:Code} {s0:S1} {body:S1→Option (Out S1 R)} {f:S1→Option (Out S R)} {Γ Γ1 Γ2:QE} {fr:Fr}
  (ha:r3 fr (φ a0 s0 v0 w0)) (hf:r3 fr f2) (h0:EO Γ (Δ a0 s0 v0 w0) Γ1) (hn:OW Γ (Δ a0 s0 v0 w0)) (hs:j5 Γ1 Γ2)
  (hb:∀ s v w,D P cx (.p (φ a0 s v w) (Δ a0 s v w) f2 Γ2 fun fr Γ=>.c ⟨[],.loop (V×W) k (fun s v=>Δ a0 s v.1 v.2) (fun s v=>φ a0 s v.1 v.2) Γ2 f2⟩ c Γ fr (body s)))
  (hk:∀ s v w,D P cx (.p (φ a0 s v w) (Δ a0 s v w) f2 Γ2 fun fr Γ=>.mn ⟨gu,kb⟩ Γ fr (f s))):Bx (me P cx (.bk true k ⟨gu,kb⟩ (.loop c) Γ fr (ah (ae k (Li.ai body s0)) f))):=
 wq k (Δ a0) (φ a0) v0 w0 f2 ha hf h0 hn hs hb hk
theorem scp {K:dk R S} {c:Code} {Γ:QE} {fr:Fr} {m:Option (Out S R)} (h:D P cx (.c K c Γ fr m)):Bx (me P cx (.c K (.scope c) Γ fr m)):=by
 rw [mc]
 exact fun B o ho r w ha hs=>TM (fun l r w=>LZ LY _) (h.sound B o ho r w ha hs)
theorem lab {K:dk R S} {l:Nat} {Γ:QE} {fr:Fr} {m:Option (Out S R)} (h:D P cx (.n K Γ fr m)):Bx (me P cx (.c K (.label l) Γ fr m)):=by
 rw [mc]
 exact fun B o ho r w ha hs=>TN (h.sound B o ho r w ha hs)
section
variable {S1 V:Type} {k j:Nat} {Δ:S1→V→List aw} {φ:S1→V→Fr} {Γ2 Γ Γ1 Γ3:QE} {f2 fr:Fr} {s:S1} {v:V} (hv:u5 V v) (ha:r3 fr (φ s v)) (hf:r3 fr f2) (h0:EO Γ (Δ s v) Γ1) (hw:OW Γ (Δ s v)) (h1:EO Γ1 Γ2 Γ3) (h2:MF Γ none Γ2)
include hv ha hf h0 hw h1 h2
theorem nlx:Bx (me P cx (.n ⟨[],.lx V k j Δ φ Γ2 f2⟩ Γ fr (some (.norm s)))):=by
 have _:=hv
 rw [mc]
 intro B o ho r w pw hs
 cases ho
 exact ⟨v,qo (ha.all pw) (hf.sound pw),hs.again h0 hw h1 h2⟩
theorem xlx:Bx (me P cx (.x k ⟨[],.lx V k j Δ φ Γ2 f2⟩ Γ fr (some (.exit k s)))):=by
 have _:=hv
 rw [mc]
 intro B o ho r w pw hs
 cases ho
 refine ⟨rfl,?_⟩
 show (bif Nat.beq k k then _ else _)
 rw [show Nat.beq k k=true from Nat.beq_refl k]
 exact ⟨v,qo (ha.all pw) (hf.sound pw),hs.again h0 hw h1 h2⟩
theorem xlo (hj:Nat.beq j k=false):Bx (me P cx (.x j ⟨[],.lx V k j Δ φ Γ2 f2⟩ Γ fr (some (.exit j s)))):=by
 have _:=hv
 rw [mc]
 intro B o ho r w pw hs
 cases ho
 refine ⟨rfl,?_⟩
 show (bif Nat.beq j k then _ else bif Nat.beq j j then _ else _)
 rw [hj,show Nat.beq j j=true from Nat.beq_refl j]
 exact ⟨v,qo (ha.all pw) (hf.sound pw),hs.again h0 hw h1 h2⟩
end
theorem Sr {S1 V:Type} (k j:Nat) (Δ:S1→V→List aw) (φ:S1→V→Fr) (v0:V) (f2:Fr) {gu:List KI} {kb:Kb R S} {c:Code} {s0:S1} {body:S1→Option (Out S1 R)} {f g:S1→Option (Out S R)} {Γ Γ1 Γ2:QE} {fr:Fr}
   (hj:Nat.beq j k=false) (ha:r3 fr (φ s0 v0)) (hf:r3 fr f2) (h0:EO Γ (Δ s0 v0) Γ1) (hn:OW Γ (Δ s0 v0)) (hs:j5 Γ1 Γ2)
   (hb:∀ s v,D P cx (.p (φ s v) (Δ s v) f2 Γ2 fun fr Γ=>.c ⟨[],.lx V k j Δ φ Γ2 f2⟩ c Γ fr (body s)))
   (hk:∀ s v,D P cx (.p (φ s v) (Δ s v) f2 Γ2 fun fr Γ=>.mn ⟨gu,kb⟩ Γ fr (f s)))
   (hg:∀ s v,D P cx (.p (φ s v) (Δ s v) f2 Γ2 fun fr Γ=>.x j ⟨gu,kb⟩ Γ fr (g s))):Bx (me P cx (.bk true k ⟨gu,kb⟩ (.loop c) Γ fr (Gr k j (Li.ai body s0) f g))):=by
 rw [mc]
 intro B o ho r w pw oy
 cases hl:Li.ai body s0 with
 | none=>rw [hl] at ho; cases ho
 | some o1=>
  rw [hl] at ho
  refine vm (Ip (N:=LI B Δ φ Γ2 f2) (X:=fun i s r w=>bif Nat.beq i j then LI B Δ φ Γ2 f2 s r w else False) (T:=TT P cx B) (KH (LI B Δ φ Γ2 f2) (fun s r w ⟨v,h1,h2⟩ o ho=>(hb s v).sound B o ho r w h1 h2) hl ⟨v0,qo (ha.all pw) (hf.sound pw),oy.enter h0 hn hs⟩)) ?_
  intro e r' w' hq
  cases o1 with
  | norm s=>cases ho
  | ret z=>cases ho; cases e <;> first | exact hq.elim | exact wI hq
  | exit i s=>
   unfold Gr at ho
   dsimp only at ho
   unfold Fq at hq
   dsimp only at hq
   cases hi:Nat.beq i k with
   | true=>
    rw [hi] at ho hq
    cases e <;> first | exact hq.elim | skip
    obtain ⟨v,h1,h2⟩:=hq
    exact (hk s v).sound B o ho r' w' h1 h2
   | false=>
    rw [hi] at ho hq
    cases tG:Nat.beq i j with
    | false=>rw [tG] at ho; cases ho
    | true=>
     rw [tG] at ho
     cases e with
     | exit i'=>
      obtain ⟨rfl,hq⟩:=hq
      rw [tG] at hq
      obtain ⟨v,h1,h2⟩:=hq
      obtain rfl:=Nat.eq_of_beq_eq_true tG
      exact (hg s v).sound B o ho r' w' h1 h2
     | _=>exact hq.elim
end
abbrev rI:Value→List Int→aw:=.rd false (bJ (aM .i64))
abbrev rJ:Value→List (List Int)→aw:=.rd false (bJ (bJ (aM .i64)))
class FE (p:Prop):Prop where
 u:True
instance {o:Bool} {a b:QE}:FE (ER o a b):=⟨trivial⟩
instance {a:QE} {b:LV}:FE (vP a b):=⟨trivial⟩
instance {a b c:QE}:FE (EF a b c):=⟨trivial⟩
instance {a b c:QE}:FE (EO a b c):=⟨trivial⟩
instance {a b:QE}:FE (EP a b):=⟨trivial⟩
instance {a c d:LV} {b:Nat}:FE (uw a b c d):=⟨trivial⟩
instance {a b:Nat} {c d:LV}:FE (u6 a b c d):=⟨trivial⟩
instance {a:LN} {b:Option (Bool×Nat×Value)} {c d:Fr}:FE (Kp a b c d):=⟨trivial⟩
instance {V:Type} {v:V}:FE (u5 V v):=⟨trivial⟩
instance {a:QE} {b:Addr} {c:Nat} {d:LV}:FE (vQ a b c d):=⟨trivial⟩
theorem fe {p:Prop} [FE p] (h:p):p:=h
end Go.Dk
namespace Go.Dk
open Go Go.Li
set_option linter.unusedVariables false
set_option linter.unusedSectionVars false
set_option linter.unusedSimpArgs false
section
variable {κ α:Type} [BEq κ]
inductive uj (T:ag α) (h:Array Obj):Option κ→List (κ×Value×α)→List Nat→Prop
 | nil {sk:Option κ}:uj T h sk [] []
 | row {sk:Option κ} {a:κ} {v:Value} {x:α} {U:List (κ×Value×α)} {f1 f2:LN} (hs:∀ b,sk=some b→(a == b)=false) (hr:T.rep h [v] x f1) (k:uj T h sk U f2):uj T h sk ((a,v,x) :: U) (f1++f2)
 | out {a b:κ} {v:Value} {x:α} {U:List (κ×Value×α)} {f:LN} (hb:(a == b)=true) (k:uj T h none U f):uj T h (some b) ((a,v,x) :: U) f
variable {T:ag α} {h h':Array Obj} {sk:Option κ} {U:List (κ×Value×α)} {f:LN}
theorem uj.congr (hb:uj T h sk U f):(∀ b∈f,h'[b]? = h[b]?)→uj T h' sk U f:=by
 induction hb with
 | nil=>exact fun _=>.nil
 | row hs hr _ ih=>exact fun e=>.row hs (T.congr hr fun b hb=>e b (List.mem_append_left _ hb)) (ih fun b hb=>e b (List.mem_append_right _ hb))
 | out hb _ ih=>exact fun e=>.out hb (ih e)
theorem uj.lt (hb:uj T h sk U f):∀ b∈f,b < h.size:=by
 induction hb with
 | nil=>exact fun b hb=>absurd hb List.not_mem_nil
 | row hs hr _ ih=>exact fun b hb=>(List.mem_append.1 hb).elim (T.lt hr b) (ih b)
 | out hb _ ih=>exact ih
theorem uj.take (hb:uj T h sk U f):sk=none→∀ b:κ,(jz U b=none∧uj T h (some b) U f)∨∃ v x f1 f2,jz U b=some (v,x)∧T.rep h [v] x f1∧uj T h (some b) U f2∧(f1++f2).Perm f:=by
 induction hb with
 | nil=>exact fun _ b=>.inl ⟨rfl,.nil⟩
 | out hb _ _=>intro h; cases h
 | @row sk a v x U f1 f2 hs hr k ih=>
  intro hk b
  subst hk
  cases py:(a == b) with
  | true=>exact .inr ⟨v,x,f1,f2,by unfold jz; rw [py]; rfl,hr,.out py k,.refl _⟩
  | false=>
   rcases ih rfl b with ⟨g1,g3⟩ | ⟨v',x',wP,f2',g1,g3,g4,g5⟩
   ·exact .inl ⟨by unfold jz; rw [py]; exact g1,.row (fun c hc=>by cases hc; exact py) hr g3⟩
   ·refine .inr ⟨v',x',wP,f1++f2',by unfold jz; rw [py]; exact g1,g3,.row (fun c hc=>by cases hc; exact py) hr g4,?_⟩
    refine .trans ?_ (g5.append_left f1)
    rw [← List.append_assoc,← List.append_assoc]
    exact List.perm_append_comm.append_right _
theorem uj.put (hb:uj T h sk U f):∀ {b:κ} {v:Value} {x:α} {g:LN},sk=some b→T.rep h [v] x g→∃ k,k.Perm (g++f)∧uj T h none (qm U b (v,x)) k:=by
 induction hb with
 | nil=>exact fun _ hr=>⟨_,.refl _,.row (fun _ h=>by cases h) hr .nil⟩
 | @out a b v x U f py k _=>
  intro b' v' x' g hk hr
  cases hk
  refine ⟨g++f,.refl _,?_⟩
  unfold qm
  rw [py]
  exact .row (fun _ h=>by cases h) hr k
 | @row sk a v x U f1 f2 hs hr k ih=>
  intro b v' x' g hk fh
  obtain ⟨k',hp,P1⟩:=ih hk fh
  refine ⟨f1++k',?_,?_⟩
  ·refine (hp.append_left f1).trans ?_
   rw [← List.append_assoc,← List.append_assoc]
   exact List.perm_append_comm.append_right _
  ·unfold qm
   rw [hs b hk]
   exact .row (fun _ h=>by cases h) hr P1
theorem uj.close (hb:uj T h sk U f):∀ {b:κ} {z:Value×α} {g:LN},sk=some b→T.rep h [((jz U b).getD z).1] ((jz U b).getD z).2 g→∃ k l,(k++l).Perm (g++f)∧uj T h none U k:=by
 induction hb with
 | nil=>exact fun {_ _ g} _ _=>⟨[],g,by simp,.nil⟩
 | @out a b v x U f py k _=>
  intro b' z g hk hr
  cases hk
  unfold jz at hr
  rw [py] at hr
  exact ⟨g++f,[],by simp,.row (fun _ h=>by cases h) hr k⟩
 | @row sk a v x U f1 f2 hs hr k ih=>
  intro b z g hk fh
  unfold jz at fh
  rw [hs b hk] at fh
  obtain ⟨k',l',hp,P1⟩:=ih hk fh
  refine ⟨f1++k',l',?_,.row (fun _ h=>by cases h) hr P1⟩
  rw [List.append_assoc]
  refine (hp.append_left f1).trans ?_
  rw [← List.append_assoc,← List.append_assoc]
  exact List.perm_append_comm.append_right _
def zT (ek:κ→Value) (T:ag α) (sk:Option κ):ag (List (κ×Value×α)) where
 size:=1
 rep h cs x f:=∃ f1 f2,f=f1++f2∧(Bw ek (Prod.fst:Value×α→Value)).rep h cs x f1∧uj T h sk x f2
 len:=fun ⟨_,_,_,h,_⟩=>(Bw ek _).len h
 one:=fun ⟨_,_,_,h,_⟩=>(Bw ek _).one h
 congr:=by
  rintro h h' cs x f ⟨f1,f2,rfl,h1,h2⟩ hb
  exact ⟨f1,f2,rfl,(Bw ek _).congr h1 fun b hm=>hb b (List.mem_append_left _ hm),h2.congr fun b hm=>hb b (List.mem_append_right _ hm)⟩
 lt:=by
  rintro h cs x f ⟨f1,f2,rfl,h1,h2⟩ b hb
  exact (List.mem_append.1 hb).elim ((Bw ek _).lt h1 b) (h2.lt b)
end
section
variable {κ α:Type} [BEq κ]
inductive Gm (S:ag α) (h:Array Obj):List (κ×Value×List (List Value))→List (κ×List α)→List Nat→Prop
 | nil:Gm S h [] [] []
 | row {a:κ} {v:Value} {us:List (List Value)} {xs:List α} {U:List (κ×Value×List (List Value))} {X:List (κ×List α)} {f1 f2:LN} (hr:(qt S).rep h [.bool true] (us,xs) f1) (k:Gm S h U X f2):Gm S h ((a,v,us) :: U) ((a,xs) :: X) (f1++f2)
variable {S:ag α} {h h':Array Obj} {U:List (κ×Value×List (List Value))} {X:List (κ×List α)} {g:LN}
theorem Gm.congr (hg:Gm S h U X g):(∀ b∈g,h'[b]? = h[b]?)→Gm S h' U X g:=by
 induction hg with
 | nil=>exact fun _=>.nil
 | row hr _ ih=>exact fun e=>.row ((qt S).congr hr fun b hm=>e b (List.mem_append_left _ hm)) (ih fun b hm=>e b (List.mem_append_right _ hm))
theorem Gm.lt (hg:Gm S h U X g):∀ b∈g,b < h.size:=by
 induction hg with
 | nil=>exact fun b hb=>absurd hb List.not_mem_nil
 | row hr _ ih=>exact fun b hb=>(List.mem_append.1 hb).elim ((qt S).lt hr b) (ih b)
def Iq (S:ag α):ag (List (κ×Value×List (List Value))×List (κ×List α)) where
 size:=1
 rep h cs x f:=cs=[.bool true]∧Gm S h x.1 x.2 f
 len:=by rintro h cs x f ⟨rfl,_⟩; rfl
 one:=by rintro h cs x f ⟨rfl,_⟩ v hv; simp at hv; subst hv; rfl
 congr:=fun h hb=>⟨h.1,h.2.congr hb⟩
 lt:=fun h=>h.2.lt
theorem Gm.get (hg:Gm S h U X g) (b:κ) (z:Value):∃ g1,(qt S).rep h [.bool true] (((jz U b).getD (z,[])).2,(jz X b).getD []) g1∧∀ c∈g1,c∈g:=by
 induction hg with
 | nil=>exact ⟨[],⟨rfl,rfl,fun _ h=>absurd h List.not_mem_nil⟩,fun _ h=>absurd h List.not_mem_nil⟩
 | @row a v us xs U X f1 f2 hr k ih=>
  unfold jz
  cases py:(a == b) with
  | true=>exact ⟨f1,hr,fun c hc=>List.mem_append_left _ hc⟩
  | false=>
   obtain ⟨g1,h1,h2⟩:=ih
   exact ⟨g1,h1,fun c hc=>List.mem_append_right _ (h2 c hc)⟩
theorem Gm.put (hg:Gm S h U X g) (b:κ) (v:Value) {us:List (List Value)} {xs:List α} {f:LN} (fh:(qt S).rep h [.bool true] (us,xs) f):∃ k,Gm S h (qm U b (v,us)) (qm X b xs) k∧∀ c∈k,c∈f∨c∈g:=by
 induction hg with
 | nil=>exact ⟨_,.row fh .nil,fun c hc=>by simpa using hc⟩
 | @row a v us xs U X f1 f2 hr k ih=>
  unfold qm
  cases py:(a == b) with
  | true=>exact ⟨_,.row fh k,fun c hc=>(List.mem_append.1 hc).imp id fun h=>List.mem_append_right _ h⟩
  | false=>
   obtain ⟨k',h1,h2⟩:=ih
   refine ⟨_,.row hr h1,fun c hc=>?_⟩
   rcases List.mem_append.1 hc with h | h
   ·exact .inr (List.mem_append_left _ h)
   ·exact (h2 c h).imp id fun h=>List.mem_append_right _ h
end
section
variable {κ υ:Type} [BEq κ] {ek:κ→Value} {uk:υ→Value} {kd:TypeDesc}
variable {P:Program} {r:NV} {w:World} {d:Option Nat} {ty:TI} {pos:String} {af:Array Edge} {g:Option (Nat×Bool)}
theorem L5 {t kt vt:TI} {x k:OO} {y:List (κ×υ)} {f:LN} {a:κ} {z:υ} {i:TypeInfo} (hk:Ky ek kd) (ht:P.underlying t=some (.map kt vt)) (Ir:P.underlying kt=some kd) (hi:P.info? vt=some i) (hz:i.zero=some (uk z))
  (hr:(Bw ek uk).rep w.heap [Li.ev r x] y f) (ha:Li.ev r k=ek a) :
  (execOp (Li.ev r) ⟨d,.lookup t x k false,ty,pos,af,g⟩).run P w = .ok (.value (uk ((jz y a).getD z))) w:=by
 obtain ⟨i0,es,ck,h1,rfl,h2,h3⟩:=hr
 obtain h1:Li.ev r x = .map (some i0):=by simpa using h1
 have hc:=MapKept.run_checkKey (P:=P) (w:=w) Ir (hk.key a) es.isEmpty 9999
 have hzv:(zeroValue vt).run P w = .ok (uk z) w:=by simp [zeroValue,typeInfo,hi,hz]
 rcases KJ hk a es.toList y 0 h3 with ⟨g0,g1,_⟩ | ⟨j,e,v',g0,g1,g2,_⟩
 ·have hf:=MapKept.run_findKey (P:=P) (w:=w) Ir g1
  rw [g0]
  simp [execOp,Instr.lookup,h1,ha,qz ht,MapKept.run_getObj_map h2,hc,hf,hzv,Result.andThen]
 ·have hf:=MapKept.run_findKey (P:=P) (w:=w) Ir g2
  rw [g0]
  simp [execOp,Instr.lookup,h1,ha,qz ht,MapKept.run_getObj_map h2,hc,hf,g1,Result.andThen]
theorem P3 {t kt vt:TI} {x:OO} {y:List (κ×υ)} {f:LN} (ht:P.underlying t=some (.map kt vt)) (hr:(Bw ek uk).rep w.heap [Li.ev r x] y f) :
  ∃ i ck,f=[i]∧(execOp (Li.ev r) ⟨d,.call ⟨.builtin .clear,#[x],#[t]⟩,ty,pos,af,g⟩).run P w = .ok (.value (.tuple #[])) { w with heap:=w.heap.setIfInBounds i (.map #[] ck) }∧(Bw ek uk).rep (w.heap.setIfInBounds i (.map #[] ck)) [Li.ev r x] [] [i]:=by
 obtain ⟨i,es,ck,h1,rfl,h2,h3⟩:=hr
 obtain h1:Li.ev r x = .map (some i):=by simpa using h1
 refine ⟨i,ck,rfl,?_,i,_,_,by rw [h1],rfl,(MapKept.heap_set h2).1,rfl⟩
 simp [execOp,resolve,invoke,builtin,Builtin.clear_,h1,qz ht,MapKept.run_getObj_map h2,MapKept.run_setObj_map _ h2,Result.andThen]
end
section
variable {R:Type} {P:Program} {cx:Cx R} {M:Type} {all l:LO} {rk:RK R M} {fr:Fr} {Γ Γ1 Γ2:QE} {κ:Type} {bq:BEq κ} {ek:κ→Value} {e n:Nat} {t ty:TI} {v:Value} {a:κ} {U:List (κ×Value×List (List Value))} {m:Option M}
class Nx (P:Program) (t:TI) (κ:outParam Type) (bq:outParam (BEq κ)) (ek:outParam (κ→Value)):Prop where
 h:∃ kt vt kd i,P.underlying t=some (.map kt vt)∧P.underlying kt=some kd∧Ky ek kd∧P.info? vt=some i∧i.zero=some (.slice none 0 0)
def xh {κ:Type} [BEq κ] (U:List (κ×Value×List (List Value))) (a:κ):Value×List (List Value):=(jz U a).getD (.slice none 0 0,[])
theorem mkR {α:Type} (S:ag α) (e n:Nat) {d:Nat} [ht:Nx P t κ bq ek]
  (h:∀ v,D P cx (.o false all l rk (.own (zT ek (aJ e (ee n)) none) v [] :: .rd false (Iq (κ:=κ) S) (.bool true) ([],[]) :: Γ) ((d,v) :: fr) m)):D P cx (.e false (.makeMap t none) (some d) ty all l rk Γ fr m):=by
 refine D.of ?_
 intro B o ho r w ha hs pos af g
 refine e7 (WL.val rfl L6 ((h _).sound B o ho _ _ (ay ha) (St.new ?_ (f':=[w.heap.size]) (an.alloc _ _ _) (fun _=>⟨[w.heap.size],[],rfl,⟨w.heap.size,#[],0,rfl,rfl,(MapKept.heap_alloc w _).1,rfl⟩,.nil⟩) (by simp) (vV (Nat.le_refl _)))))
 obtain ⟨Z,F,hS,hG⟩:=hs
 exact ⟨Z,F,SA.fact hS (show fact Z w [] (.rd false (Iq (κ:=κ) S) (.bool true) ([],[])) from ⟨[],⟨rfl,.nil⟩,fun _ h=>absurd h List.not_mem_nil⟩),hG⟩
theorem lkR {α:Type} {S:ag α} {q:Bool} {d:Nat} {x y:OO} {X:List (κ×List α)} [ht:Nx P t κ bq ek] (hx:bp fr x=some v) (hy:bp fr y=some (ek a))
  (h1:di Γ (.own (zT ek (aJ e (ee n)) none) v U) Γ1) (hg:In (.rd false (Iq S) (.bool true) (U,X)) Γ)
  (h:D P cx (.o q all l rk (.own (aJ e (ee n)) (xh U a).1 (xh U a).2 :: .own (zT ek (aJ e (ee n)) (some a)) v U :: .rd false (qt S) (.bool true) ((xh U a).2,(jz X a).getD []) :: Γ1) ((d,(xh U a).1) :: fr) m)):D P cx (.e q (.lookup t x y false) (some d) ty all l rk Γ fr m):=by
 refine D.of ?_
 intro B o ho r w ha hs pos af g
 obtain ⟨kt,vt,kd,i,q1,q2,q3,q4,q5⟩:=ht.h
 obtain ⟨Z,F,hS,hG⟩:=hs
 obtain ⟨g0,hk,se⟩:=hg.rd hS []
 obtain ⟨f,F1,hp,⟨fm,f,rfl,hm,hB⟩,ez⟩:=h1.sound hS
 refine cq (v:=(xh U a).1) (fun w' hC=>L5 (ek:=ek) (uk:=(Prod.fst:Value×List (List Value)→Value)) (z:=(.slice none 0 0,[])) q3 q1 q2 q4 q5 (by rw [aT ha hx]; exact ag.ef _ hm hC fun _ _=>List.not_mem_nil) (aT ha hy)) (h.sound B o ho _ w (ay ha) ?_)
 obtain ⟨g1,e1,e2⟩:=hk.2.get a (.slice none 0 0)
 have fc:=SA.fact ez (e:=.rd false (qt S) (.bool true) ((xh U a).2,(jz X a).getD [])) ⟨g1,e1,fun b hb=>se b (e2 b hb)⟩
 rcases hB.take rfl a with ⟨k1,k3⟩ | ⟨v',x',f1,f2,k1,k3,k4,k5⟩
 ·have hr:xh U a=(.slice none 0 0,[]):=by unfold xh; rw [k1]; rfl
  rw [hr] at fc
  rw [hr]
  exact ⟨Z,[]++((fm++f)++F1),SA.cons (SA.cons fc (show mz Z w (fm++f) (.own (zT ek (aJ e (ee n)) (some a)) v U) from ⟨fm,f,rfl,hm,k3⟩)) (show mz Z w [] (.own (aJ e (ee n)) (.slice none 0 0) []) from ⟨none,0,rfl,.inl ⟨rfl,rfl,rfl,rfl⟩⟩),hG.perm hp⟩
 ·have hr:xh U a=(v',x'):=by unfold xh; rw [k1]; rfl
  rw [hr] at fc
  rw [hr]
  refine ⟨Z,f1++((fm++f2)++F1),SA.cons (SA.cons fc (show mz Z w (fm++f2) (.own (zT ek (aJ e (ee n)) (some a)) v U) from ⟨fm,f2,rfl,hm,k4⟩)) (show mz Z w f1 (.own (aJ e (ee n)) v' x') from k3),hG.perm (.trans ?_ hp)⟩
  rw [← List.append_assoc,← List.append_assoc]
  refine List.Perm.append_right F1 (.trans ?_ (k5.append_left fm))
  rw [← List.append_assoc]
  exact List.perm_append_comm.append_right _
theorem puR {α:Type} {S:ag α} {x y z:OO} {v':Value} {X:List (κ×List α)} {us:List (List Value)} {xs:List α} [ht:Nx P t κ bq ek] (hx:bp fr x=some v) (hy:bp fr y=some (ek a)) (hz:bp fr z=some v')
  (h0:di Γ (.own (aJ e (ee n)) v' us) Γ1) (h1:di Γ1 (.own (zT ek (aJ e (ee n)) (some a)) v U) Γ2) (hg:In (.rd false (Iq S) (.bool true) (U,X)) Γ) (jm:In (.rd false (qt S) (.bool true) (us,xs)) Γ)
  (h:D P cx (.o false all l rk (.own (zT ek (aJ e (ee n)) none) v (qm U a (v',us)) :: .rd false (Iq S) (.bool true) (qm U a (v',us),qm X a xs) :: Γ2) fr m)):D P cx (.e false (.mapUpdate t x y z) none ty all l rk Γ fr m):=by
 refine D.of ?_
 intro B o ho r w ha hs pos af g
 obtain ⟨kt,vt,kd,i,q1,q2,q3,q4,q5⟩:=ht.h
 obtain ⟨Z,F,hS,hG⟩:=hs
 obtain ⟨g0,hk,se⟩:=hg.rd hS []
 obtain ⟨g1,hk1,ab6⟩:=jm.rd hS []
 obtain ⟨f,F1,hp,hO,ez⟩:=h0.sound hS
 obtain ⟨f',F2,uL,⟨fm,f',rfl,hM,hB⟩,fc⟩:=h1.sound ez
 obtain ⟨i,es,ck,rfl,e1,e2⟩:=NR (P:=P) (d:=none) (ty:=ty) (pos:=pos) (af:=af) (g:=none) (ek:=ek) (uk:=(Prod.fst:Value×List (List Value)→Value)) (a:=a) (b:=(v',us)) (x:=x) (k:=y) (v:=z) (r:=r) q3 q1 q2 (by rw [aT ha hx]; exact hM) (aT ha hy) (aT ha hz)
 rw [aT ha hx] at e2
 obtain ⟨fb,NS,Ss⟩:=hB.put rfl hO
 obtain ⟨gg,UQ,hgs⟩:=hk.2.put a v' hk1
 have o5:(([i]++fb)++F2).Perm F:=by
  refine .trans ?_ hp
  refine .trans ?_ (uL.append_left f)
  show List.Perm _ (f++(([i]++f')++F2))
  rw [← List.append_assoc f]
  refine List.Perm.append_right F2 (.trans (NS.append_left [i]) ?_)
  rw [← List.append_assoc,← List.append_assoc]
  exact List.perm_append_comm.append_right _
 have j4:=hG.perm o5
 have da:=(List.nodup_append.1 (List.nodup_append.1 j4.nd).1)
 refine e7 (WL.skip rfl e1 (h.sound B o ho _ _ ha (St.put (f:=[i]++fb) (f':=[i]++fb) (SA.fact fc (e:=.rd false (Iq S) (.bool true) (qm U a (v',us),qm X a xs)) ⟨gg,⟨rfl,UQ⟩,fun b hb=>(hgs b hb).elim (ab6 b) (se b)⟩) j4 ?_ ⟨[i],fb,rfl,e2,Ss.congr fun b hb=>?_⟩ (List.nodup_append.1 j4.nd).1 fun b hb=>.inl hb)))
 ·exact (an.setObj _ _ _).mono fun b hb=>List.mem_append_left _ hb
 ·exact (an.setObj w i _).block b (Ss.lt b hb) fun hm=>da.2.2 i (by simp) b hb (List.mem_singleton.1 hm).symm
theorem clR (d:Nat) {op:Op} {pos:String} {af:Array Edge} (h0:di Γ (.own (aJ e (ee n)) (xh U a).1 (xh U a).2) Γ1) (h1:di Γ1 (.own (zT ek (aJ e (ee n)) (some a)) v U) Γ2)
  (h:D P cx (.e false op (some d) ty all l rk (.own (zT ek (aJ e (ee n)) none) v U :: Γ2) fr m)):D P cx (.o false all (⟨some d,op,ty,pos,af,none⟩ :: l) rk Γ fr m):=by
 refine D.of ?_
 intro B o ho r w ha hs
 refine (D.plain h).sound B o ho r w ha ?_
 obtain ⟨Z,F,hS,hG⟩:=hs
 obtain ⟨f,F1,hp,hO,ez⟩:=h0.sound hS
 obtain ⟨f',F2,uL,⟨fm,f',rfl,hM,hB⟩,fc⟩:=h1.sound ez
 obtain ⟨k,j,hpk,Ss⟩:=hB.close rfl hO
 refine ⟨Z,(fm++k)++F2,SA.cons fc (show mz Z w (fm++k) (.own (zT ek (aJ e (ee n)) none) v U) from ⟨fm,k,rfl,hM,Ss⟩),Gd.left (F':=j) (hG.perm ?_)⟩
 refine .trans ?_ hp
 refine .trans ?_ (uL.append_left f)
 show List.Perm _ (f++((fm++f')++F2))
 rw [← List.append_assoc f]
 refine .trans ?_ (List.Perm.append_right F2 (.trans (hpk.append_left fm) ?_))
 ·rw [List.append_assoc,← List.append_assoc fm,List.append_assoc (fm++k)]
  exact List.perm_append_comm.append_left _
 ·rw [← List.append_assoc,← List.append_assoc]
  exact List.perm_append_comm.append_right _
theorem crR {x:OO} [ht:Nx P t κ bq ek] (hx:bp fr x=some v) (h2:di Γ (.own (zT ek (aJ e (ee n)) none) v U) Γ1)
  (h:D P cx (.o false all l rk (.own (zT ek (aJ e (ee n)) none) v [] :: Γ1) fr m)):D P cx (.e false (.call ⟨.builtin .clear,#[x],#[t]⟩) none ty all l rk Γ fr m):=by
 refine D.of ?_
 intro B o ho r w ha hs pos af g
 obtain ⟨kt,vt,kd,i,q1,q2,q3,q4,q5⟩:=ht.h
 obtain ⟨Z,F,hS,hG⟩:=hs
 obtain ⟨f,F3,Su,⟨fm,f',rfl,hM,hB⟩,hS3⟩:=h2.sound hS
 obtain ⟨i,ck,rfl,e1,e2⟩:=P3 (P:=P) (d:=none) (ty:=ty) (pos:=pos) (af:=af) (g:=none) (ek:=ek) (uk:=(Prod.fst:Value×List (List Value)→Value)) (x:=x) (r:=r) q1 (by rw [aT ha hx]; exact hM)
 rw [aT ha hx] at e2
 have j4:Gd B Z ([i]++F3) w:=Gd.left (F':=f') (hG.perm (by
  refine .trans ?_ Su
  rw [List.append_assoc,List.append_assoc]
  exact List.perm_append_comm.append_left _))
 exact e7 (WL.val rfl e1 (h.sound B o ho _ _ ha (St.put (f:=[i]) (f':=[i]) hS3 j4 (an.setObj _ _ _) ⟨[i],[],rfl,e2,.nil⟩ (by simp) fun b hb=>.inl hb)))
end
end Go.Dk
namespace Go.Dk
open Go Go.Li
theorem TO {P:Program} {g:FuncId} {vs:LV} {Δ:QE} {β:Type} {m:Option β} {ow:Bool} {rt:β→Unit→List Value} (hc:Ct P g ow m vs Δ rt (fun _ _=>[])) {w:World} (hl:HL (fun b=>b < w.heap.size) w Δ []) {y:β} (hy:m=some y) :
  Calls P g vs.toArray w fun e w'=>e = .returned (pr (rt y ()))∧an [] w w':=by
 rw [r6] at hc
 refine (hc.2 w _ [] hl List.nodup_nil (fun _ h=>absurd h List.not_mem_nil) (fun _ h=>h) y hy).mono ?_
 rintro e w' ⟨_,he,Z,F,_,hg⟩
 exact ⟨he,hg.jk⟩
theorem TP {w:World} {α:Type} {T:ag α} {v:Value} {x:α} {f:LN} (h:T.rep w.heap [v] x f):fact (fun b=>b < w.heap.size) w [] (.rd false T v x):=⟨f,h,fun b hb=>T.lt h b hb⟩
end Go.Dk
