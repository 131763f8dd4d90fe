/- A region that draws its order: its head in any order, whatever it holds, its tail quiet and behind all of the head. No condition. -/
import Derived.Test.YtilhlobfebngdaaGreatDg
import Derived.Deep.Quiet
import Derived.Laws.Slices
import Derived.OrdersHeld
import Derived.Scope
namespace Go.Li
open Go
section
variable {P:Program} {n:Nat} {Q:Exit→(Nat→Value)→World→Prop} {r0:NV} {w0:World} {l:LO} {S:List gp}
def Cn (l:LO) (m:Nat):Bool:=
 ((List.range l.length).all fun i=>((l.getD i default).after.toList.filter (Region.binds .any)).all fun e=>Nat.blt e.on i) &&
 ((List.range l.length).all fun i=>Nat.blt i m || (List.range m).all fun j=>((b9 l).getD i []).contains j) &&
 DD ((l.take m).filterMap (·.dst)) && Region.noSelect l.toArray && Region.lexFrom .any l.toArray (l.length - m) m (List.replicate m true++List.replicate (l.length - m) false).toArray
theorem Oi {m:Nat} (h:Cn l m=true):∀ (i:Nat) (o:Oper),l[i]? = some o→∀ e∈o.after.toList.filter (Region.binds .any),e.on < i:=by
 simp only [Cn,Bool.and_eq_true,List.all_eq_true,List.mem_range] at h
 intro i o ho e he
 have hi:i < l.length:=(List.getElem?_eq_some_iff.1 ho).1
 have:=h.1.1.1.1 i hi e (by rw [List.getD_eq_getElem?_getD,ho]; exact he)
 exact Nat.lt_of_succ_le (Nat.le_of_ble_eq_true this)
theorem WA {m:Nat} {U:LL} {H:LN} {N:Nat→Prop} (hd:di n l=true) (hA:Cn l m=true) (Iq:m≤l.length)
  (hS:S.length=m)
  (hH:∀ b∈H,b < w0.heap.size) (hU:((List.range m).all fun i=>(U.getD i []).all fun u=>Nat.beq u l.length || ((b9 l).getD i []).contains u)=true)
  (hN:∀ b,N b→b < w0.heap.size∧b ∉ H)
  (r7:∀ (i:Nat) (s:gp),S[i]? = some s→∀ f F (w w':World) (r r':NV) v,aq F w w'→(∀ b∈f,b ∉ F)→(∀ b∈F,¬ N b)→(∀ j∈(b9 l).getD i [],∀ t,br l j=some t→r' t=r t)→s.V f w r v→s.V f w' r' v)
  (Ss:∀ i,i < m→jg P l m S U r0 w0 H i)
  (next:∀ g r w,zL l m S U r0 w0 H (fun j=>j < m) g r w→QL P (aq [] w) l (l.drop m) r fun r'=>∀ w',aq [] w w'→Q .normal r' w') :
  nb P n l Q r0 w0:=by
 simp only [Cn,Bool.and_eq_true,List.all_eq_true,List.mem_range,Bool.or_eq_true] at hA
 obtain ⟨⟨⟨⟨YA,YB⟩,YC⟩,U7⟩,Su⟩:=hA
 have yX:∀ (i:Nat) (o:Oper),l[i]? = some o→∀ e∈o.after.toList.filter (Region.binds .any),e.on < i:=by
  intro i o ho e he
  have hi:i < l.length:=(List.getElem?_eq_some_iff.1 ho).1
  have:=YA i hi e (by rw [List.getD_eq_getElem?_getD,ho]; exact he)
  exact Nat.lt_of_succ_le (Nat.le_of_ble_eq_true this)
 have HB:∀ i,m≤i→i < l.length→∀ j,j < m→j∈(b9 l).getD i []:=by
  intro i h1 h2 j hj
  rcases YB i h2 with h | h
  ·exact absurd (Nat.lt_of_succ_le (Nat.le_of_ble_eq_true h)) (Nat.not_lt.2 h1)
  ·have:=h j hj
   simpa using this
 have YD:∀ i,i < m→∀ u∈U.getD i [],u=l.length∨u∈(b9 l).getD i []:=by
  intro i hi u hu
  simp only [List.all_eq_true,List.mem_range] at hU
  have:=hU i hi u hu
  simpa using this
 have dp:=Is _ (BB YC)
 have qx:=DE l yX
 intro a h1 h2 h3
 let Cl (L:Array Bool):Prop:=L.size=l.length∧∀ j o,l[j]? = some o→L.getD j false=true→∀ e∈o.after.toList.filter (Region.binds .any),L.getD e.on false=true
 have jv:∀ L,Cl L→∀ i j,(∀ o,l[i]? = some o→∀ e∈o.after.toList.filter (Region.binds .any),L.getD e.on false=true)→j∈(b9 l).getD i []→L.getD j false=true:=by
  intro L hL i
  induction i using Nat.strongRecOn with
  | _ i ih=>
   intro j hi hj
   obtain ⟨_,o,ho,e,he,Kg⟩:=qx i j hj
   have hl:=hi o ho e he
   rcases Kg with rfl | Kg
   ·exact hl
   ·exact ih e.on (yX i o ho e he) j (fun o' cj e' wo=>hL.2 _ _ cj hl e' wo) Kg
 have E5:∀ L i,i∈Region.ready .any l.toArray L→L.getD i true=false∧∃ o,l[i]? = some o∧∀ e∈o.after.toList.filter (Region.binds .any),L.getD e.on false=true:=by
  intro L i hi
  obtain ⟨g1,o,ho,fq⟩:=mem_ready.1 hi
  refine ⟨g1,o,by simpa using ho,fun e he=>?_⟩
  have:=List.mem_filter.1 he
  exact fq e (by simpa using this.1) this.2
 have Gi:∀ L i o,L.size=l.length→l[i]? = some o→L.getD i false=false→(∀ e∈o.after.toList.filter (Region.binds .any),L.getD e.on false=true)→i∈Region.ready .any l.toArray L:=by
  intro L i o hs ho hu fq
  refine mem_ready.2 ⟨?_,o,by simpa using ho,fun e he hb=>fq e (List.mem_filter.2 ⟨by simpa using he,hb⟩)⟩
  have hi:i < L.size:=by rw [hs]; exact (List.getElem?_eq_some_iff.1 ho).1
  simp [hi] at hu ⊢; exact hu
 have Jb:∀ L i o,Cl L→l[i]? = some o→(∀ e∈o.after.toList.filter (Region.binds .any),L.getD e.on false=true)→Cl (L.setIfInBounds i true):=by
  intro L i o hL ho fq
  refine ⟨by rw [Array.size_setIfInBounds]; exact hL.1,fun j o' cj hj e he=>?_⟩
  by_cases xn:i=j
  ·subst xn
   have:o'=o:=Option.some.inj (cj.symm.trans ho)
   subst this
   exact getD_set_true (fq e he)
  ·rw [getD_set_ne false xn] at hj
   exact getD_set_true (hL.2 j o' cj hj e he)
 have getSet:∀ (L:Array Bool) i j,L.size=l.length→i < l.length→((L.setIfInBounds i true).getD j false=true↔j=i∨L.getD j false=true):=by
  intro L i j hs hi
  by_cases xn:i=j
  ·subst xn
   simp [hs,hi]
  ·rw [getD_set_ne false xn]
   constructor
   ·exact .inr
   ·rintro (h | h)
    ·exact absurd h.symm xn
    ·exact h
 have Kh:∀ (L:Array Bool) i,L.size=l.length→i < l.length→L.getD i false=false→(L.setIfInBounds i true).toList.count false+1=L.toList.count false:=by
  intro L i hs hi hu
  have wj:i < L.toList.length:=by simpa [hs] using hi
  have E6:L.toList[i]=false:=by
   rw [Array.getElem_toList]
   simp [hs,hi] at hu
   exact hu
  rw [Array.toList_setIfInBounds,List.count_set wj,E6]
  have:0 < L.toList.count false:=List.count_pos_iff.2 (by rw [← E6]; exact List.getElem_mem wj)
  rw [if_pos (by rfl),if_neg (by decide)]
  omega
 have ju:di n (l.drop m)=true:=by
  simp only [di,List.all_eq_true] at hd ⊢
  exact fun o ho=>hd o (List.mem_of_mem_drop ho)
 have tail:∀ (fuel:Nat) (L:Array Bool) (a:Act) (w:World),Cl L→(∀ j,L.getD j false=true↔j < m)→L.toList.count false=fuel→a.tmps.size=n→a.defers=[]→
   (QL P (aq [] w) l (l.drop m) (cq a) fun r'=>∀ w',aq [] w w'→Q .normal r' w')→wpAny P .any l.toArray (fun e a' w'=>a'.tmps.size=n∧a'.defers=[]∧Q e (cq a') w') fuel L a w:=by
  intro fuel L a w hL iz hf g1 g2 hq
  have hLe:L=(List.replicate m true++List.replicate (l.length - m) false).toArray:=by
   apply Array.ext
   ·simp [hL.1]; omega
   ·intro i hi hj
    have h1:=iz i
    simp only [Array.getD_eq_getD_getElem?,Array.getElem?_eq_getElem hi,Option.getD_some] at h1
    have e:(List.replicate m true++List.replicate (l.length - m) false).toArray[i]'hj=decide (i < m):=by
     simp only [List.getElem_toArray,List.getElem_append,List.getElem_replicate,List.length_replicate]
     split
     ·rename_i h; simp [h]
     ·rename_i h; simp [h]
    rw [e]
    cases hb:L[i] with
    | false=>exact (decide_eq_false fun h=>by have:=h1.2 h; rw [hb] at this; cases this).symm
    | true=>exact (decide_eq_true (h1.1 hb)).symm
  have YE:fuel=l.length - m:=by
   rw [← hf,hLe]
   simp [List.count_append,List.count_replicate]
  have q1:=QL.wpQuiet (n:=n) (l:=l) (l.drop m) a hd ju g1 g2 hq
  have q2:=wpAnyQ_lex (md:=.any) U7 (l.drop m) m L a (fun j=>by simp [List.getElem?_drop]) (by rw [hLe,List.length_drop]; exact Su) q1
  refine wpAny_of_quiet (C:=aq [] w) (Q:=fun a'=>a'.tmps.size=n∧a'.defers=[]∧∀ w',aq [] w w'→Q .normal (cq a') w') (fun a' w' DF hh=>⟨hh.1,hh.2.1,hh.2.2 w' DF⟩) _ _ _ _ (aq.refl _ _) ?_
  rw [YE,← List.length_drop]
  exact q2
 have head:∀ (fuel:Nat) (L:Array Bool) (a:Act) (w:World) (g:Nat→List Nat),Cl L→(∀ j,L.getD j false=true→j < m)→L.toList.count false=fuel→a.tmps.size=n→a.defers=[]→
   zL l m S U r0 w0 H (fun j=>L.getD j false=true) g (cq a) w→wpAny P .any l.toArray (fun e a' w'=>a'.tmps.size=n∧a'.defers=[]∧Q e (cq a') w') fuel L a w:=by
  intro fuel
  induction fuel with
  | zero=>
   intro L a w g hL wR hf g1 g2 inv
   have fq:∀ j,j < l.length→L.getD j false=true:=by
    intro j hj
    cases hb:L.getD j false with
    | true=>rfl
    | false=>have:=Kh L j hL.1 hj hb; omega
   have iz:∀ j,L.getD j false=true↔j < m:=fun j=>⟨wR j,fun h=>fq j (by omega)⟩
   refine tail 0 L a w hL iz hf g1 g2 (next g _ _ ?_)
   exact ⟨inv.ly,fun hk=>inv.DG fun k zO=>hk k ((iz k).1 zO),inv.vg,fun j hj=>inv.vd j ((iz j).2 hj),fun j hj hk=>inv.done j ((iz j).2 hj) (fun k zO=>hk k ((iz k).1 zO)),fun j hj=>inv.vm j ((iz j).2 hj),inv.other,fun j hj b hb=>⟨(inv.fresh j ((iz j).2 hj) b hb).1.imp (fun h=>h) fun h=>⟨h.1,h.2.imp fun k hk=>⟨(iz k).1 hk.1,hk.2⟩⟩,(inv.fresh j ((iz j).2 hj) b hb).2⟩,fun i j hi hj=>inv.yP i j ((iz i).2 hi) ((iz j).2 hj)⟩
  | succ fuel ih=>
   intro L a w g hL wR hf g1 g2 inv
   by_cases fq:∀ j,j < m→L.getD j false=true
   ·have iz:∀ j,L.getD j false=true↔j < m:=fun j=>⟨wR j,fq j⟩
    refine tail _ L a w hL iz hf g1 g2 (next g _ _ ?_)
    exact ⟨inv.ly,fun hk=>inv.DG fun k zO=>hk k ((iz k).1 zO),inv.vg,fun j hj=>inv.vd j ((iz j).2 hj),fun j hj hk=>inv.done j ((iz j).2 hj) (fun k zO=>hk k ((iz k).1 zO)),fun j hj=>inv.vm j ((iz j).2 hj),inv.other,fun j hj b hb=>⟨(inv.fresh j ((iz j).2 hj) b hb).1.imp (fun h=>h) fun h=>⟨h.1,h.2.imp fun k hk=>⟨(iz k).1 hk.1,hk.2⟩⟩,(inv.fresh j ((iz j).2 hj) b hb).2⟩,fun i j hi hj=>inv.yP i j ((iz i).2 hi) ((iz j).2 hj)⟩
   ·obtain ⟨j0,U8,It⟩ : ∃ j,j < m∧L.getD j false=false:=by
     apply Classical.byContradiction
     intro ue
     apply fq
     intro j hj
     cases hb:L.getD j false with
     | true=>rfl
     | false=>exact absurd ⟨j,hj,hb⟩ ue
    have Oj:∃ i,i∈Region.ready .any l.toArray L:=by
     have:∀ k,(∃ j,j < k∧j < m∧L.getD j false=false)→∃ i,i∈Region.ready .any l.toArray L:=by
      intro k
      induction k with
      | zero=>rintro ⟨j,h,_⟩; omega
      | succ k F9=>
       rintro ⟨j,PV,DH,uf⟩
       by_cases xL:∃ j,j < k∧j < m∧L.getD j false=false
       ·exact F9 xL
       ·obtain rfl:j=k:=by
         apply Classical.byContradiction
         intro h
         exact xL ⟨j,by omega,DH,uf⟩
        have Gj:j < l.length:=by omega
        refine ⟨j,Gi L j l[j] hL.1 (List.getElem?_eq_getElem Gj) uf fun e he=>?_⟩
        have bn:=yX j _ (List.getElem?_eq_getElem Gj) e he
        cases hb:L.getD e.on false with
        | true=>rfl
        | false=>exact absurd ⟨e.on,bn,by omega,hb⟩ xL
     exact this (j0+1) ⟨j0,by omega,U8,It⟩
    have main:∀ i oi,i < m→l[i]? = some oi→L.getD i false=false→(∀ e∈oi.after.toList.filter (Region.binds .any),L.getD e.on false=true)→
      (Region.wanted oi (yl l (cq a))=true∧gn P oi (cq a) w fun v w'=>wpAny P .any l.toArray (fun e a' w'=>a'.tmps.size=n∧a'.defers=[]∧Q e (cq a') w') fuel (L.setIfInBounds i true) (a.put oi.dst v) w')∨
      (Region.wanted oi (yl l (cq a))=false∧wpAny P .any l.toArray (fun e a' w'=>a'.tmps.size=n∧a'.defers=[]∧Q e (cq a') w') fuel (L.setIfInBounds i true) (a.put oi.dst undef) w):=by
     intro i oi wS n9 wT wU
     have gj:i < l.length:=(List.getElem?_eq_some_iff.1 n9).1
     have nu:∀ o,l[i]? = some o→∀ e∈o.after.toList.filter (Region.binds .any),L.getD e.on false=true:=fun o' cj=>by
      have:o'=oi:=Option.some.inj (cj.symm.trans n9)
      subst this; exact wU
     obtain ⟨s,hs⟩ : ∃ s,S[i]? = some s:=⟨S[i]'(by omega),List.getElem?_eq_getElem (by omega)⟩
     have hc:=Kh L i hL.1 gj wT
     have BL:=Jb L i oi hL n9 wU
     have YF:∀ j,(L.setIfInBounds i true).getD j false=true→j < m:=by
      intro j hj
      rcases (getSet L i j hL.1 gj).1 hj with rfl | hj
      ·exact wS
      ·exact wR j hj
     have Gk:∀ k,L.getD k false=true→k≠i∧i ∉ (b9 l).getD k []:=by
      intro k hk
      refine ⟨fun h=>(by rw [h,wT] at hk; cases hk),fun xm=>?_⟩
      have:=jv L hL k i (fun o' cj e' wo=>hL.2 k o' cj hk e' wo) xm
      rw [wT] at this; cases this
     have ow:=Ss i wS oi s n9 hs g (cq a) w inv.ly (fun hV=>by
       have ue:∀ k,L.getD k false=true→l.length ∉ U.getD k []:=fun k hk Ki=>by
        simp only [xX,List.all_eq_true,List.mem_range,Bool.or_eq_true,Bool.not_eq_true',List.contains_eq_mem,decide_eq_false_iff_not,decide_eq_true_eq] at hV
        rcases hV k (wR k hk) with (h | h) | h
        ·exact h Ki
        ·exact (Gk k hk).1 (Nat.eq_of_beq_eq_true h)
        ·exact (Gk k hk).2 h
       have h0:=inv.DG ue
       exact ⟨h0.1,h0.2,fun j hj b hb=>(inv.fresh j (jv L hL i j nu hj) b hb).1.elim (fun h=>h) fun h=>absurd h.2.choose_spec.2 (ue _ h.2.choose_spec.1)⟩) (fun j hj=>inv.vm j (jv L hL i j nu hj)) (fun j hj=>by
       simp only [sw,Bool.and_eq_true,List.all_eq_true,List.mem_range,Bool.or_eq_true,Bool.not_eq_true',List.contains_eq_mem,decide_eq_false_iff_not,decide_eq_true_eq] at hj
       refine inv.done j (jv L hL i j nu hj.1) fun k hk PV=>?_
       rcases hj.2 k (wR k hk) with (h | h) | h
       ·exact h PV
       ·exact (Gk k hk).1 (Nat.eq_of_beq_eq_true h)
       ·exact (Gk k hk).2 h) inv.other
      (fun i' wj j' ja=>inv.yP i' j' (jv L hL i i' nu wj) (jv L hL i j' nu ja))
      (fun j hj b hb=>⟨(inv.fresh j (jv L hL i j nu hj) b hb).1.imp (fun h=>h) (·.1),(inv.fresh j (jv L hL i j nu hj) b hb).2⟩)
     have hblk:∀ b∈r6 g (U.getD i []),(∃ u,u∈U.getD i []∧L.getD u false=true∧b∈g u)∨(l.length∈U.getD i []∧b∈g l.length):=by
      intro b hb
      obtain ⟨u,hu,gw⟩:=List.mem_flatMap.1 hb
      rcases YD i wS u hu with rfl | h
      ·exact .inr ⟨hu,gw⟩
      ·exact .inl ⟨u,hu,jv L hL i u nu h,gw⟩
     have Iu:∀ k',oi.dst=some k'→k' < a.tmps.size:=by
      intro k' zG
      have xm:oi∈l:=List.mem_of_getElem? n9
      simp only [di,List.all_eq_true] at hd
      have:=hd oi xm
      rw [zG] at this
      rw [g1]
      exact Nat.lt_of_succ_le (Nat.le_of_ble_eq_true this)
     have BM:br l i=oi.dst:=by unfold br; rw [n9]; rfl
     have rh:∀ v t,(oi.dst≠some t)→cq (a.put oi.dst v) t=cq a t:=by
      intro v t ht
      rw [mg Iu]
      cases zP:oi.dst with
      | none=>rfl
      | some d=>
       show (bif Nat.beq t d then v else cq a t)=cq a t
       cases hb:Nat.beq t d with
       | false=>rfl
       | true=>exact absurd (by rw [zP,Nat.eq_of_beq_eq_true hb]) ht
     have Kj:∀ v d,oi.dst=some d→cq (a.put oi.dst v) d=v:=by
      intro v d zP
      rw [mg Iu,zP]
      show (bif Nat.beq d d then v else cq a d)=v
      rw [Nat.beq_refl]; rfl
     have step:∀ v w' f,aq (r6 g (U.getD i [])) w w'→(∀ b∈f,(b∈r6 g (U.getD i [])∨w.heap.size≤b)∧b < w'.heap.size)→(if s.b then s.V f w' (cq a) v else v=undef)→
       wpAny P .any l.toArray (fun e a' w'=>a'.tmps.size=n∧a'.defers=[]∧Q e (cq a') w') fuel (L.setIfInBounds i true) (a.put oi.dst v) w':=by
      intro v w' f hC wP hV
      have u7:∀ j',j' < m→j'≠i→∀ t,br l j'=some t→cq (a.put oi.dst v) t=cq a t:=by
       intro j' ja rb t ht
       refine rh v t fun h=>rb (dp j' i t ?_ ?_)
       ·rw [lv ja]; exact ht
       ·rw [lv wS,BM]; exact h
      have PW:∀ b∈r6 g (U.getD i []),¬ N b:=fun b hb hn=>by
       rcases hblk b hb with ⟨u,_,pq,gw⟩ | ⟨_,gw⟩
       ·rcases (inv.fresh u pq b gw).1 with h | h
        ·have:=(hN b hn).1; omega
        ·exact (hN b hn).2 h.1
       ·exact (hN b hn).2 (inv.vg b gw)
      refine ih _ _ _ (fun j=>if j=i then f else if j∈U.getD i [] then [] else g j) BL YF (by omega) (by rw [lg]; exact g1) (by rw [iH]; exact g2)
       ⟨inv.ly.then hC fun b hb=>(by
        rcases hblk b hb with ⟨u,_,pq,gw⟩ | ⟨_,gw⟩
        ·exact (inv.fresh u pq b gw).1.elim .inr fun h=>.inl h.1
        ·exact .inl (inv.vg b gw)),fun ue=>?_,?_,fun j hj=>?_,?_,fun j hj d qk sj te=>?_,?_,?_,?_⟩
      ·have yf:l.length ∉ U.getD i []:=ue i ((getSet L i i hL.1 gj).2 (.inl rfl))
       have h0:=inv.DG fun k hk=>ue k ((getSet L i k hL.1 gj).2 (.inr hk))
       refine ⟨h0.1.then hC fun b hb=>?_,?_⟩
       ·rcases hblk b hb with ⟨u,_,pq,gw⟩ | ⟨h,_⟩
        ·exact (inv.fresh u pq b gw).1.elim .inr fun ⟨_,k,hk,Ki⟩=>absurd Ki (ue k ((getSet L i k hL.1 gj).2 (.inr hk)))
        ·exact absurd h yf
       ·show (if l.length=i then f else if l.length∈U.getD i [] then [] else g l.length)=H
        rw [if_neg (by omega),if_neg yf]
        exact h0.2
      ·intro b hb
       have cu:b∈(if l.length=i then f else if l.length∈U.getD i [] then [] else g l.length):=hb
       rw [if_neg (by omega)] at cu
       split at cu
       ·cases cu
       ·exact inv.vg b cu
      ·intro b hb hv
       have mb:b∈(if l.length=i then f else if l.length∈U.getD i [] then [] else g l.length):=hv
       rw [if_neg (by omega)] at mb
       split at mb
       ·cases mb
       ·rename_i YG
        have cu:b∈(if j=i then f else if j∈U.getD i [] then [] else g j):=hb
        split at cu
        ·rcases (wP b cu).1 with h | h
         ·rcases hblk b h with ⟨u,_,pq,gw⟩ | ⟨h,_⟩
          ·exact inv.vd u pq b gw mb
          ·exact YG h
         ·have h1:=hH b (inv.vg b mb)
          have h2:=inv.ly.size
          omega
        ·rename_i l6
         split at cu
         ·cases cu
         ·exact inv.vd j (((getSet L i j hL.1 gj).1 hj).resolve_left l6) b cu mb
      ·intro j hj zQ
       refine ⟨fun d qk=>?_,fun YH sj te PX=>?_⟩
       rotate_left
       ·by_cases l6:j=i
        ·subst l6
         rw [hs] at te
         cases te
         rw [if_pos PX] at hV
         refine ⟨v,?_⟩
         simp only [if_pos]
         exact r7 j s hs _ [] w' w' (cq a) _ v (aq.refl _ _) (fun _ _ h=>nomatch h) (fun _ h=>nomatch h) (fun j' ja t ht=>u7 j' (by have:=(qx j j' ja).1; omega) (by have:=(qx j j' ja).1; omega) t ht) hV
        ·have lz:=((getSet L i j hL.1 gj).1 hj).resolve_left l6
         have uf:j ∉ U.getD i []:=zQ i ((getSet L i i hL.1 gj).2 (.inl rfl))
         obtain ⟨x,hx⟩:=(inv.done j lz (fun k hk=>zQ k ((getSet L i k hL.1 gj).2 (.inr hk)))).2 YH sj te PX
         have kn:(fun j=>if j=i then f else if j∈U.getD i [] then [] else g j) j=g j:=by
          show (if j=i then f else if j∈U.getD i [] then [] else g j)=g j
          rw [if_neg l6,if_neg uf]
         rw [kn]
         refine ⟨x,r7 j sj te _ _ _ _ (cq a) _ _ hC (fun b cu Kk=>?_) PW (fun j' ja t ht=>u7 j' (by have:=(qx j j' ja).1; have:=wR j lz; omega) (fun h=>?_) t ht) hx⟩
         ·rcases hblk b Kk with ⟨u,DI,pq,gw⟩ | ⟨_,gw⟩
          ·exact inv.yP j u lz pq (fun h=>uf (h ▸ DI)) b cu gw
          ·exact inv.vd j lz b cu gw
         ·subst h
          have:=jv L hL j j' (fun o' cj e' wo=>hL.2 j o' cj lz e' wo) ja
          rw [wT] at this; cases this
       by_cases l6:j=i
       ·subst l6
        rw [hs]
        simp only [if_pos]
        rw [BM] at qk
        rw [Kj v d qk]
        split
        ·rename_i hb
         rw [if_pos hb] at hV
         exact r7 j s hs _ [] w' w' (cq a) _ v (aq.refl _ _) (fun _ _ h=>nomatch h) (fun _ h=>nomatch h) (fun j' ja t ht=>u7 j' (by have:=(qx j j' ja).1; omega) (by have:=(qx j j' ja).1; omega) t ht) hV
        ·rename_i hb
         rw [if_neg hb] at hV
         exact hV
       ·have lz:=((getSet L i j hL.1 gj).1 hj).resolve_left l6
        have DH:=wR j lz
        have uf:j ∉ U.getD i []:=zQ i ((getSet L i i hL.1 gj).2 (.inl rfl))
        have zP:oi.dst≠some d:=by
         intro h
         apply l6
         refine dp j i d ?_ ?_
         ·rw [lv DH]; exact qk
         ·rw [lv wS,BM]; exact h
        have:=(inv.done j lz (fun k hk=>zQ k ((getSet L i k hL.1 gj).2 (.inr hk)))).1 d qk
        rw [rh v d zP]
        have kn:(fun j=>if j=i then f else if j∈U.getD i [] then [] else g j) j=g j:=by
         show (if j=i then f else if j∈U.getD i [] then [] else g j)=g j
         rw [if_neg l6,if_neg uf]
        rw [kn]
        cases te:S[j]? with
        | none=>trivial
        | some sj=>
         rw [te] at this
         simp only [] at this ⊢
         split
         ·rename_i hb
          rw [if_pos hb] at this
          refine r7 j sj te _ _ _ _ (cq a) _ _ hC (fun b cu Kk=>?_) PW (fun j' ja t ht=>u7 j' (by have:=(qx j j' ja).1; omega) (fun h=>?_) t ht) this
          rotate_left
          ·subst h
           have:=jv L hL j j' (fun o' cj e' wo=>hL.2 j o' cj lz e' wo) ja
           rw [wT] at this; cases this
          rcases hblk b Kk with ⟨u,DI,pq,gw⟩ | ⟨_,gw⟩
          ·exact inv.yP j u lz pq (fun h=>uf (h ▸ DI)) b cu gw
          ·exact inv.vd j lz b cu gw
         ·rename_i hb
          rw [if_neg hb] at this
          exact this
      ·by_cases l6:j=i
       ·subst l6
        rw [hs] at te
        cases te
        rw [BM] at qk
        rw [Kj v d qk]
        split
        ·rename_i hb
         rw [if_pos hb] at hV
         exact ⟨f,w',r7 j s hs _ [] w' w' (cq a) _ v (aq.refl _ _) (fun _ _ h=>nomatch h) (fun _ h=>nomatch h) (fun j' ja t ht=>u7 j' (by have:=(qx j j' ja).1; omega) (by have:=(qx j j' ja).1; omega) t ht) hV⟩
        ·rename_i hb
         rw [if_neg hb] at hV
         exact hV
       ·have lz:=((getSet L i j hL.1 gj).1 hj).resolve_left l6
        have DH:=wR j lz
        have zP:oi.dst≠some d:=by
         intro h
         apply l6
         refine dp j i d ?_ ?_
         ·rw [lv DH]; exact qk
         ·rw [lv wS,BM]; exact h
        have:=inv.vm j lz d qk sj te
        rw [rh v d zP]
        split
        ·rename_i hb
         rw [if_pos hb] at this
         obtain ⟨f1,w1,h1⟩:=this
         refine ⟨f1,w1,r7 j sj te _ [] w1 w1 (cq a) _ _ (aq.refl _ _) (fun _ _ h=>nomatch h) (fun _ h=>nomatch h) (fun j' ja t ht=>u7 j' (by have:=(qx j j' ja).1; omega) (fun h=>?_) t ht) h1⟩
         subst h
         have:=jv L hL j j' (fun o' cj e' wo=>hL.2 j o' cj lz e' wo) ja
         rw [wT] at this; cases this
        ·rename_i hb
         rw [if_neg hb] at this
         exact this
      ·intro t ht
       rw [rh v t (fun h=>ht i wS (by rw [BM]; exact h))]
       exact inv.other t ht
      ·intro j hj b hb
       by_cases l6:j=i
       ·simp only [if_pos l6] at hb
        have hh:=wP b hb
        have wJ:=inv.ly.size
        rcases hh.1 with h | h
        ·rcases hblk b h with ⟨u,_,pq,gw⟩ | ⟨hv,gw⟩
         ·exact ⟨(inv.fresh u pq b gw).1.imp (fun h=>h) fun h=>⟨h.1,h.2.imp fun k hk=>⟨(getSet L i k hL.1 gj).2 (.inr hk.1),hk.2⟩⟩,hh.2⟩
         ·exact ⟨.inr ⟨inv.vg b gw,i,(getSet L i i hL.1 gj).2 (.inl rfl),hv⟩,hh.2⟩
        ·exact ⟨.inl (by omega),hh.2⟩
       ·have lz:=((getSet L i j hL.1 gj).1 hj).resolve_left l6
        simp only [if_neg l6] at hb
        split at hb
        ·cases hb
        ·have h1:=inv.fresh j lz b hb
         have h2:=hC.size
         exact ⟨h1.1.imp (fun h=>h) fun h=>⟨h.1,h.2.imp fun k hk=>⟨(getSet L i k hL.1 gj).2 (.inr hk.1),hk.2⟩⟩,by omega⟩
      ·have vW:∀ j',(L.setIfInBounds i true).getD j' false=true→j'≠i→∀ b∈f,b ∉ (if j'∈U.getD i [] then [] else g j'):=by
        intro j' ja e2 b hb cu
        have Kl:=((getSet L i j' hL.1 gj).1 ja).resolve_left e2
        split at cu
        ·cases cu
        ·rename_i uf
         rcases (wP b hb).1 with h | h
         ·rcases hblk b h with ⟨u,DI,pq,gw⟩ | ⟨_,gw⟩
          ·exact inv.yP u j' pq Kl (fun h=>uf (h ▸ DI)) b gw cu
          ·exact inv.vd j' Kl b cu gw
         ·have:=inv.fresh j' Kl b cu
          omega
       intro i' j' wj ja rb b hb cu
       by_cases e1:i'=i
       ·have e2:j'≠i:=fun h=>rb (e1.trans h.symm)
        simp only [if_pos e1] at hb
        simp only [if_neg e2] at cu
        exact vW j' ja e2 b hb cu
       ·simp only [if_neg e1] at hb
        by_cases e2:j'=i
        ·simp only [if_pos e2] at cu
         exact vW i' wj e1 b cu hb
        ·simp only [if_neg e2] at cu
         split at hb
         ·cases hb
         ·split at cu
          ·cases cu
          ·exact inv.yP i' j' (((getSet L i i' hL.1 gj).1 wj).resolve_left e1) (((getSet L i j' hL.1 gj).1 ja).resolve_left e2) rb b hb cu
     cases hb:s.b with
     | true=>
      rw [if_pos hb] at ow
      refine .inl ⟨ow.1,qw ow.2 ?_⟩
      rintro v w' ⟨hC,f,wP,hV⟩
      exact step v w' f hC wP (by rw [if_pos hb]; exact hV)
     | false=>
      rw [if_neg (by rw [hb]; exact Bool.false_ne_true)] at ow
      exact .inr ⟨ow,step undef w [] (aq.refl _ _) (fun b h=>nomatch h) (by rw [if_neg (by rw [hb]; exact Bool.false_ne_true)])⟩
    refine ⟨fun h=>(by obtain ⟨i,hi⟩:=Oj; rw [h] at hi; cases hi),fun i hi=>?_⟩
    obtain ⟨q1,oi,n9,wU⟩:=E5 L i hi
    have gj:i < l.length:=(List.getElem?_eq_some_iff.1 n9).1
    have wT:L.getD i false=false:=getD_both q1
    have wS:i < m:=by
     rcases Nat.lt_or_ge i m with h | h
     ·exact h
     ·have hj:=HB i h gj j0 U8
      have:=jv L hL i j0 (fun o' cj=>by have:o'=oi:=Option.some.inj (cj.symm.trans n9); subst this; exact wU) hj
      rw [It] at this; cases this
    unfold wpOp
    rw [show (l.toArray)[i]? = some oi by simpa using n9]
    simp only []
    rw [Co (by rw [g1]; exact hd)]
    rcases main i oi wS n9 wT wU with ⟨hw,h⟩ | ⟨hw,h⟩
    ·rw [if_pos hw]
     exact .inl (h.wp fun v w' hv=>hv)
    ·rw [if_neg (by rw [hw]; exact Bool.false_ne_true)]
     exact h
 refine head _ _ a _ (fun j=>if j=l.length then H else []) ⟨by simp,?_⟩ ?_ ?_ h1 h2 ⟨aq.nil (aq.drew _ _),fun _=>⟨aq.drew _ _,by simp⟩,fun b hb=>by simpa using hb,?_,?_,?_,?_,?_,?_⟩
 ·intro j o ho hj
  rw [getD_replicate_false] at hj; cases hj
 ·intro j hj
  rw [getD_replicate_false] at hj; cases hj
 ·simp
 ·intro j hj
  rw [getD_replicate_false] at hj; cases hj
 ·intro j hj
  rw [getD_replicate_false] at hj; cases hj
 ·intro j hj
  rw [getD_replicate_false] at hj; cases hj
 ·intro t _
  rw [h3]
 ·intro j hj
  rw [getD_replicate_false] at hj; cases hj
 ·intro i j hi
  rw [getD_replicate_false] at hi; cases hi
end
end Go.Li
namespace Go.Dk
open Go Go.Li
section
variable {R S:Type} {P:Program} {cx:Cx R} {K:dq R S} {l tail:LO} {base fr:Fr} {w:World} {Z:Nat→Prop}
theorem Sw {mt id:Nat} {U:LL} {J9:QE} (hU:((List.range mt).all fun i=>(U.getD i []).all fun u=>Nat.beq u l.length || ((b9 l).getD i []).contains u)=true) (hh:ma l mt base=true) (hd:di cx.n l=true) (hA:Cn l mt=true) (Iq:mt≤l.length) (ht:tail=l.drop mt) {i:Nat} {sl:LQ} {ms:MM} {Γ:QE} {m:Option (Out S R)} (Ka:Cg ms=true) (p7:By U sl ms=true)
  (h:∀ x:nr ms,D P cx (.p (Bv sl (mF ms x)) (Dv ms x) base Γ fun fr Γ=>.tg true (Ce tail) l tail K Γ fr m)):J5 P cx K l l mt U J9 id base (.a [] [] i sl ms Γ m):=by
 rintro ⟨_,h2,h3⟩ B o ho r0 w0 H Z ha hs ⟨S',hl,hR,hO⟩
 have hi:i=mt:=by
  have:=congrArg List.length h2
  simp at this
  omega
 subst hl
 obtain ⟨F,Hd,⟨C6,C7,wQ,C8⟩,hS,hG⟩:=hs
 refine WA (N:=Z) (S:=S') (U:=U) (H:=H) hd hA Iq hi wQ hU (fun b hb=>⟨hG.tb b hb,fun h=>hG.apart b (List.mem_append_left _ h) hb⟩) (fun i s hs=>hR.s i s hs) (fun j hj=>hO j (by omega)) ?_
 intro g r w hI
 have N9:∀ k j,j∈U.getD k []→∀ a∈ms,a.j≠j:=by
  intro k j hj
  unfold By at p7
  rw [Bool.and_eq_true] at p7
  rw [List.getD_eq_getElem?_getD] at hj
  cases hk:U[k]? with
  | none=>rw [hk] at hj; exact absurd hj List.not_mem_nil
  | some us=>
   rw [hk] at hj
   have h1:=List.all_eq_true.1 (List.all_eq_true.1 p7.1 us (List.mem_of_getElem? hk)) j hj
   intro a ha he
   have:=List.all_eq_true.1 h1 a ha
   rw [he,Nat.beq_refl] at this
   cases this
 have hD:∀ j,j < mt→(∀ k,j ∉ U.getD k [])→wO l S' j g r w:=fun j hj hn=>hI.done j hj fun k _=>hn k
 have bn:∀ a∈ms,a.j < mt:=fun a ha=>hi ▸ hR.lt ha
 obtain ⟨x,hx,qm,Yh⟩:=U1 (g:=g) (r:=r) (w:=w) Ka hR.d (fun a ha b hb yh=>hI.yP _ _ (bn a ha) (bn b hb) yh) fun a ha=>by
  have:=hR.JR (S2:=[]) ha (by rw [List.append_nil]; exact hD a.j (bn a ha) (fun k hk=>N9 k _ hk a ha rfl))
  exact this
 have Ge:=List.nodup_append.1 hG.nd
 have rh:∀ b∈Ck g ms,w0.heap.size≤b∨b∈H:=fun b hb=>by
  obtain ⟨a,h1,h2⟩:=Ft hb
  exact (hI.fresh a.j (bn a h1) b h2).1.imp (fun h=>h) (·.1)
 have iy:=ud.stay hS hG hI.ly
 obtain ⟨Vo,Vr,Yi,Yj,qm⟩:=qm
 obtain ⟨F',hp,jd⟩:=qm.build (iy.mono (fun _ h=>.inl h) fun _ h=>h)
 have Kc:Gd B Z (Ck g ms++F) w:=by
  refine ⟨AP Yh Ge.2.1 fun b hb hF=>(rh b hb).elim (fun h=>Nat.lt_irrefl _ (Nat.lt_of_lt_of_le (hS.lt b hF) h)) (fun h=>Ge.2.2 b h b hF rfl),?_,fun b hb=>Nat.lt_of_lt_of_le (hG.tb b hb) hI.ly.size,?_,hG.zx,hG.zy,hG.ly.then hI.ly fun b hb=>hG.low b (List.mem_append_left _ hb)⟩
  ·intro b hb hz
   rcases List.mem_append.1 hb with hb | hb
   ·exact (rh b hb).elim (fun h=>Nat.lt_irrefl _ (Nat.lt_of_lt_of_le (hG.tb b hz) h)) (fun h=>hG.apart b (List.mem_append_left _ h) hz)
   ·exact hG.apart b (List.mem_append_right _ hb) hz
  ·intro b hb
   rcases List.mem_append.1 hb with hb | hb
   ·exact (rh b hb).elim (fun h=>.inr (Nat.le_trans hG.ly.size h)) (fun h=>hG.low b (List.mem_append_left _ h))
   ·exact hG.low b (List.mem_append_right _ hb)
 have Sk:dg r ((Bv sl (mF ms x)).reverse++base):=by
  refine xB (J7 (fun p hp=>?_) hx) (mf hh ha hI.other)
  exact hR.zJ (S2:=[]) hp fun j _ hj=>(by rw [List.append_nil]; exact hI.vm j (hi ▸ hj))
 have:=(h x).sound B o ho r w Sk ⟨_,F',jd,((Kc.perm (MX Yi)).freeze Yj).perm hp⟩
 rw [ht] at this
 exact this
theorem acd {id:Nat} (hd:QE) (mt:Nat) (U as:LL) {ops:LO} {Γ Γ1:QE} {fr:Fr} {m:Option (Out S R)}
  (hB:(P.follows .mixedOrders && di cx.n l && Cn l mt && Nat.ble mt l.length && (lq l U mt == as) && ((List.range mt).all fun i=>(U.getD i []).all fun u=>Nat.beq u l.length || ((b9 l).getD i []).contains u))=true)
  (ho:ops=l.take mt) (ht:tail=l.drop mt) (hf:Kp (zC ops) none fr base) (hh:ma l mt base=true) (he:EO Γ hd Γ1) (Kd:OW Γ hd)
  (h:AD true P cx K l tail base U hd (.a as ops 0 [] [] Γ1 m)):Bx (qi P cx (.dr id l K Γ fr m)):=by
 simp only [Bool.and_eq_true] at hB
 obtain ⟨⟨⟨⟨⟨b1,b2⟩,b3⟩,b5⟩,b6⟩,b7⟩:=hB
 rw [rq]
 intro B o hm r w ha hs
 obtain ⟨Z,F,hS,hG⟩:=hs
 obtain ⟨Fd,F',h1,h2,h3⟩:=he.sound hS
 have Ke:SA Z w hd [] Fd:=by
  have:=(HO.hl Kd hS h1).front (Γ:=[]) (F:=[]) rfl
  simpa using this
 have hX:ud B Z hd Γ1 Fd w:=⟨F',Fd,⟨Ke,fun b hb=>⟨hb,Ke.lt b hb⟩,Ke.lt,(List.nodup_append.1 (hG.perm h3).nd).1⟩,h2,hG.perm h3⟩
 refine nb.W b1 ?_
 refine AD.sound (id:=id) hh (fun _ _ _ _ _ _ hs he h=>Sw b7 hh b2 b3 (Nat.le_of_ble_eq_true b5) ht hs he h) h
  ⟨by rw [List.drop_zero]; exact (eq_of_beq b6).symm,by rw [List.drop_zero]; exact ho,Nat.zero_le _⟩ B o hm r w Fd Z (hf.sound ha) hX ⟨[],rfl,⟨fun _ h=>absurd h List.not_mem_nil,fun _ h=>absurd h List.not_mem_nil,fun i s h=>by simp at h,List.nodup_nil,fun _ _ _ h1 h2=>Cm l (Oi b3) h1 h2⟩,fun j hj=>absurd hj (Nat.not_lt_zero j)⟩
theorem YI {id:Nat} (mt:Nat) (U as:LL) {ops:LO} {Γ:QE} {fr:Fr} {m:Option (Out S R)}
  (hB:(P.follows .mixedOrders && di cx.n l && Cn l mt && Nat.ble mt l.length && (lq l U mt == as) && ((List.range mt).all fun i=>(U.getD i []).all fun u=>Nat.beq u l.length || ((b9 l).getD i []).contains u))=true)
  (ho:ops=l.take mt) (ht:tail=l.drop mt) (hf:Kp (zC ops) none fr base) (hh:ma l mt base=true)
  (h:AD true P cx K l tail base U [] (.a as ops 0 [] [] Γ m)):Bx (qi P cx (.dr id l K Γ fr m)):=acd [] mt U as hB ho ht hf hh .nil .nil h
end
end Go.Dk
namespace Go.Dk
open Go Go.Li
def Dq:Value→Option Nat
 | .slice (some a) _ _=>some a.block
 | _=>none
def NF {α:Type} (E:ai α):Prop:=∀ {h:Array Obj} {cs:LV} {x:α} {f:LN},E.rep h cs x f→f=[]
theorem NF.i {k:IntKind}:NF (aL k):=AM
theorem NF.l {α:Type} {E:ai α} (hE:NF E) {h:Array Obj}:∀ {xs:List α} {cs:LV} {f:LN},dv E h cs xs f→f=[]:=by
 intro xs
 induction xs with
 | nil=>rintro cs f ⟨_,rfl⟩; rfl
 | cons x xs ih=>
  rintro cs f ⟨c,lh,f1,f2,rfl,rfl,h1,h2⟩
  rw [hE h1,ih h2]; rfl
structure Good {α:Type} (A:Value→α→Prop) (f:LN):Prop where
 sub:∀ u y b,A u y→Dq u=some b→b∈f
 one:∀ u y u' y' b,A u y→A u' y'→Dq u=some b→Dq u'=some b→y=y'
inductive C9 {α:Type}:{β:Type}→ai β→((Value→List α→Prop)→ai β)→Prop
 | row {e:TI} {E:ai α}:C9 (aI e E) (fun A=>wh A (aI e E))
 | step {β:Type} {e:TI} {T:ai β} {T':(Value→List α→Prop)→ai β} (h:C9 T T'):C9 (aI e T) (fun A=>bE (T' A))
section
variable {α β:Type} {T:ai β} {T':(Value→List α→Prop)→ai β} {A A':Value→List α→Prop} {f:LN} {hp:Array Obj}
theorem C9.size (h:C9 T T'):(T' A).size=T.size:=by
 cases h <;> rfl
theorem C9.mono (h:C9 T T') (hA:∀ u y,A u y→A' u y):Le (T' A) (T' A'):=by
 induction h with
 | row=>exact ⟨rfl,fun h=>⟨h.1.imp fun v g=>⟨g.1,hA _ _ g.2⟩,h.2⟩⟩
 | step _ ih=>exact ih.Mz
theorem C9.ace {e:TI} (ho:∀ {cs:LV} {x:β} {f:LN},T.rep hp cs x f→f.Nodup→∃ A,Good A f∧(T' A).rep hp cs x f) (hm:∀ {A A':Value→List α→Prop},(∀ u y,A u y→A' u y)→Le (T' A) (T' A')) :
  ∀ {xs:List β} {cs:LV} {f:LN},dv T hp cs xs f→f.Nodup→∃ A,Good A f∧dv (T' A) hp cs xs f:=by
 have _:=e
 intro xs
 induction xs with
 | nil=>rintro cs f ⟨rfl,rfl⟩ _; exact ⟨fun _ _=>False,⟨fun _ _ _ h=>h.elim,fun _ _ _ _ _ h=>h.elim⟩,rfl,rfl⟩
 | cons x xs ih=>
  rintro cs f ⟨c,lh,f1,f2,rfl,rfl,h1,h2⟩ hn
  obtain ⟨n1,n2,n3⟩:=List.nodup_append.1 hn
  obtain ⟨A1,g1,r1⟩:=ho h1 n1
  obtain ⟨A2,g2,r2⟩:=ih h2 n2
  refine ⟨fun u y=>A1 u y∨A2 u y,⟨fun u y b h hb=>?_,fun u y u' y' b h h' hb cu=>?_⟩,c,lh,f1,f2,rfl,rfl,(hm fun _ _=>.inl).le r1,xu (hm fun _ _=>.inr) r2⟩
  ·exact h.elim (fun h=>List.mem_append_left _ (g1.sub u y b h hb)) (fun h=>List.mem_append_right _ (g2.sub u y b h hb))
  ·rcases h with h | h <;> rcases h' with h' | h'
   ·exact g1.one u y u' y' b h h' hb cu
   ·exact absurd rfl (n3 b (g1.sub _ _ _ h hb) b (g2.sub _ _ _ h' cu))
   ·exact absurd rfl (n3 b (g1.sub _ _ _ h' cu) b (g2.sub _ _ _ h hb))
   ·exact g2.one u y u' y' b h h' hb cu
theorem C9.opened (h:C9 T T'):∀ {cs:LV} {x:β} {f:LN},T.rep hp cs x f→f.Nodup→∃ A,Good A f∧(T' A).rep hp cs x f:=by
 induction h with
 | @row e E=>
  intro cs x f hr _
  obtain ⟨base,cap,rfl,ik⟩:=id hr
  refine ⟨fun u y=>u = .slice base x.length cap∧y=x,⟨?_,?_⟩,⟨_,rfl,rfl,rfl⟩,hr⟩
  ·rintro u y b ⟨rfl,rfl⟩ hb
   rcases ik with ⟨rfl,_⟩ | ⟨b0,cur,f',rfl,_,rfl,_⟩
   ·cases hb
   ·cases hb; exact List.mem_cons_self
  ·rintro u y u' y' b ⟨_,rfl⟩ ⟨_,rfl⟩ _ _; rfl
 | @step β e T T' ho ih=>
  intro cs x f hr hn
  obtain ⟨base,cap,rfl,ik⟩:=hr
  rcases ik with ⟨rfl,_,rfl,rfl⟩ | ⟨b,cur,f',rfl,hg,rfl,h3,h4,h5,h6⟩
  ·exact ⟨fun _ _=>False,⟨fun _ _ _ h=>h.elim,fun _ _ _ _ _ h=>h.elim⟩,none,cap,rfl,.inl ⟨rfl,rfl⟩⟩
  ·obtain ⟨A,g1,g2⟩:=C9.ace (e:=e) ih (fun hA=>ho.mono hA) h6 (List.nodup_cons.1 hn).2
   refine ⟨A,⟨fun u y b h hb=>List.mem_cons_of_mem _ (g1.sub u y b h hb),g1.one⟩,_,cap,rfl,.inr ⟨b,0,cur,e,(0,0),f',rfl,hg,rfl,h3,?_⟩⟩
   rw [List.drop_zero,ho.size]
   exact g2
end
section
variable {α:Type} {e e':TI} {E:ai α} {A:Value→List α→Prop} {ft f:LN} {hp:Array Obj}
theorem Ol (nf:NF E) (hA:Good A ft):∀ {ys:List (List α)} {us:LV} {g:LN},dv (wh A (aI e' E)) hp us ys g→ys.Nodup→
  dv (aI e' E) hp us ys g∧g.Nodup∧∀ b∈g,b∈ft∧∃ u y,A u y∧Dq u=some b∧y∈ys:=by
 intro ys
 induction ys with
 | nil=>rintro us g ⟨rfl,rfl⟩ _; exact ⟨⟨rfl,rfl⟩,List.nodup_nil,fun b hb=>absurd hb List.not_mem_nil⟩
 | cons y ys ih=>
  rintro us g ⟨c,lh,g1,g2,rfl,rfl,⟨⟨u,rfl,hu⟩,hr⟩,h2⟩ hn
  obtain ⟨n1,n2⟩:=List.nodup_cons.1 hn
  obtain ⟨a1,a2,a3⟩:=ih h2 n2
  refine ⟨⟨[u],lh,g1,g2,rfl,rfl,hr,a1⟩,?_,?_⟩
  ·obtain ⟨base,cap,hv,ik⟩:=hr
   obtain rfl:u = .slice base y.length cap:=by simpa using hv
   rcases ik with ⟨_,_,_,rfl⟩ | ⟨b,cur,f',rfl,_,rfl,_,_,_,h6⟩
   ·exact a2
   ·rw [nf.l h6]
    refine List.nodup_cons.2 ⟨fun hb=>?_,a2⟩
    obtain ⟨_,u',y',h7,h8,h9⟩:=a3 b hb
    rw [hA.one _ _ _ _ b hu h7 rfl h8] at n1
    exact n1 h9
  ·intro b hb
   rcases List.mem_append.1 hb with hb | hb
   ·obtain ⟨base,cap,hv,ik⟩:=hr
    obtain rfl:u = .slice base y.length cap:=by simpa using hv
    rcases ik with ⟨_,_,_,rfl⟩ | ⟨b0,cur,f',rfl,_,rfl,_,_,_,h6⟩
    ·cases hb
    ·rw [nf.l h6,List.mem_singleton] at hb
     subst hb
     exact ⟨hA.sub _ _ _ hu rfl,_,y,hu,rfl,by simp⟩
   ·obtain ⟨b1,u',y',b2,b3,b4⟩:=a3 b hb
    exact ⟨b1,u',y',b2,b3,by simp [b4]⟩
theorem PY {Z:Nat→Prop} {w:World} {v:Value} {ys:List (List α)} (nf:NF E) (hA:Good A ft) (ho:p9 Z w f (.om e (wh A (aI e' E)) v ys)) (hn:ys.Nodup) (hf:f.Nodup) (hz:∀ b∈f,¬ Z b) :
  ∃ g,(∀ b∈g,b∈ft)∧(aI e (aI e' E)).rep w.heap [v] ys (f++g)∧(f++g).Nodup:=by
 obtain ⟨us,g,h1,h2,h3,_⟩:=ho
 obtain ⟨a1,a2,a3⟩:=Ol nf hA h2 hn
 have hl:us.length=ys.length:=by have:=ks a1; rw [this]; exact Nat.mul_one _
 refine ⟨g,fun b hb=>(a3 b hb).1,?_,List.nodup_append.2 ⟨hf,a2,fun b hb c hc=>fun e=>hz b hb (h3 b (e ▸ hc))⟩⟩
 obtain ⟨base,cap,hv,hr⟩:=h1
 obtain rfl:v = .slice base us.length cap:=by simpa using hv
 rw [hl]
 rcases hr with ⟨rfl,rfl,rfl,rfl⟩ | ⟨b,cur,f',rfl,hg,rfl,c1,c2,c3,c4⟩
 ·cases ys with
  | cons y ys=>simp at hl
  | nil=>obtain ⟨_,rfl⟩:=a1; exact ⟨none,0,rfl,.inl ⟨rfl,rfl,rfl,rfl⟩⟩
 ·obtain ⟨c5,rfl⟩:=Cc c4
  refine ⟨_,cap,rfl,.inr ⟨b,cur,g,rfl,hg,rfl,by rw [← hl]; exact c1,c2,c3,?_⟩⟩
  have e1:(aI e' E).size=tx.size:=rfl
  rw [e1,← hl,c5]
  exact a1
end
section
variable {P:Program} {R:Type} {cx:Cx R}
theorem ah {S S1 α β:Type} [DecidableEq (List α)] (k t0:Nat) (φ:S1→Value→Fr) (M3:S1→List (List α)) (v0:Value) (f2:Fr) {e e':TI} {E:ai α} {T:ai β} {T':(Value→List α→Prop)→ai β} {vs:Value} {x:β} {ji:List KI} {kb:Kb R S} {c:Code} {s0:S1} {body:S1→Option (Out S1 R)} {f:S1→Option (Out S R)} {Γ Γ1 Γ2:QE} {fr:Fr}
  (ho:C9 T T') (nf:NF E) (ha:uc fr (φ s0 v0)) (hf:uc fr f2) (hz:M3 s0=[]) (hv:look fr t0=some vs) (h1:ed Γ (.own T vs x) Γ1) (h2:∀ A:Value→List α→Prop,ed Γ1 (.om e (wh A (aI e' E)) v0 []) Γ2)
  (hb:∀ (A:Value→List α→Prop) s v,D P cx (.p (φ s v) [.om e (wh A (aI e' E)) v (M3 s)] f2 [.rd false (T' A) vs x] fun fr Γ=>.c ⟨[],.loop Value k (fun s v=>[.om e (wh A (aI e' E)) v (M3 s)]) φ [.rd false (T' A) vs x] f2⟩ c Γ fr (body s)))
  (hk:∀ s v,D P cx (.p (φ s v) [.own (aI e (aI e' E)) v (M3 s)] f2 [] fun fr Γ=>.mn ⟨ji,kb⟩ Γ fr (f s))) :
  Bx (qi P cx (.bk true k ⟨ji,kb⟩ (.loop c) Γ fr (af (ae k (ah body s0)) fun s=>YJ (M3 s)>>=fun _=>f s))):=by
 have _:=hv
 rw [rq]
 intro B o PZ r w wK rz
 obtain ⟨Z,F,hS,hG⟩:=rz
 obtain ⟨ft,F1,vk,hT,iy⟩:=h1.sound hS
 have M4:=hG.perm vk
 obtain ⟨n1,n2,n3⟩:=List.nodup_append.1 M4.nd
 obtain ⟨A,hA,hR⟩:=ho.opened (hp:=w.heap) hT n1
 obtain ⟨fo,F2,n7,hO,jd⟩:=(h2 A).sound iy
 have Km:∀ b∈ft,b < w.heap.size:=ai.lt _ hT
 have hfz:∀ b∈ft,¬ Z b:=fun b hb=>M4.apart b (List.mem_append_left _ hb)
 have Kn:∀ b∈fo,b∈F1:=fun b hb=>n7.mem_iff.1 (List.mem_append_left _ hb)
 have ue:fo.Nodup:=(List.nodup_append.1 (n7.nodup_iff.2 n2)).1
 refine NX (T:=TT P cx B) (LI B (fun s v=>[.om e (wh A (aI e' E)) v (M3 s)]) φ [.rd false (T' A) vs x] f2) PZ
  ⟨v0,xB (ha.all wK) (hf.sound wK),fun b=>Z b∨b∈ft,fo,⟨fo,[],(List.append_nil _).symm,by rw [hz]; exact hO.mono fun _=>.inl,⟨ft,hR,fun b hb=>.inr hb⟩,rfl⟩,ue,fun b hb=>?_,fun b hb=>hb.elim (hG.tb b) (Km b),fun b hb=>M4.low b (List.mem_append_right _ (Kn b hb)),fun b h=>.inl (hG.zx b h),fun b hb=>hb.elim (hG.zy b) fun hb=>.inr (M4.low b (List.mem_append_left _ hb)),hG.ly⟩ ?_ ?_ ?_
 ·rintro (h | h)
  ·exact M4.apart b (List.mem_append_right _ (Kn b hb)) h
  ·exact n3 b h b (Kn b hb) rfl
 ·intro x r w he hx
  subst he
  exact AF hx
 ·rintro s r w ⟨v,h1,h2⟩ o ho
  exact (hb A s v).sound B o ho r w h1 h2
 ·rintro s r w' ⟨v,a1,Z2,Fl,JJ,j8⟩ hm
  obtain ⟨_,hn,hm⟩:=bind_some hm
  replace hn:=Sx hn
  obtain ⟨f',F',rfl,tf,acf⟩:=JJ
  have DA:F'=[]:=acf.2
  subst DA
  rw [List.append_nil] at j8
  obtain ⟨g,s1,s2,s3⟩:=PY nf hA tf hn j8.nd j8.apart
  refine (hk s v).sound B o hm r w' a1 ⟨B.Z,f'++g,⟨f'++g,[],(List.append_nil _).symm,s2,rfl⟩,s3,fun b hb hz=>?_,fun b hz=>j8.tb b (j8.zx b hz),fun b hb=>?_,fun _ h=>h,fun _ h=>.inl h,j8.ly⟩
  ·rcases List.mem_append.1 hb with hb | hb
   ·exact j8.apart b hb (j8.zx b hz)
   ·exact hfz b (s1 b hb) (hG.zx b hz)
  ·rcases List.mem_append.1 hb with hb | hb
   ·exact j8.low b hb
   ·exact M4.low b (List.mem_append_left _ (s1 b hb))
end
end Go.Dk
namespace Go.Dk
open Go Go.Li
section
variable {R:Type} {P:Program} {cx:Cx R} {B:Bs} {M:Type} {all l:LO} {rk:RK R M} {fr:Fr} {w:World} {Z:Nat→Prop} {F cur:LN} {Γ Γ1 Γ2 Γ3:QE}
theorem D.of {J:Jd R} (h:qi P cx J):D P cx J:=.inj (by rw [rq]; exact h)
theorem U9 {Δ : List av} (h : FO Δ) : ∀ {Fd : List Nat}, HL Z w Δ Fd → ∀ e ∈ Δ, fact Z w [] e := by
  induction h with
  | nil => intro Fd _ e he; cases he
  | rd _ ih =>
    intro Fd hl e he
    cases hl with
    | own h _ => exact h.elim
    | fact h k => rcases List.mem_cons.1 he with rfl | he
                  · exact h
                  · exact ih k e he
  | bc _ ih =>
    intro Fd hl e he
    cases hl with
    | own h _ => exact h.elim
    | fact h k => rcases List.mem_cons.1 he with rfl | he
                  · exact h
                  · exact ih k e he
theorem lgS {α:Type} (S:ai α) {d:Nat} {t e n bt ty:TI} {m:Option M} [ht:C3 P t e n bt]
  (h:∀ v,D P cx (.o false all l rk (.own (aI e (jx n)) v [] :: .rd false (yc S) (.bool true) ([],[]) :: Γ) ((d,v) :: fr) m)):D P cx (.e false (.buildSlice t 0 #[]) (some d) ty all l rk Γ fr m):=by
 refine D.of ?_
 intro B o ho r w ha hs pos ag g
 obtain ⟨h1,i,z,h2,_⟩:=ht.h
 obtain ⟨v,w',f,hr,hC,hO⟩:=Cj (E:=jx n) (r:=r) (w:=w) (d:=some d) (ty:=ty) (pos:=pos) (ag:=ag) (g:=none) h1 h2
 refine fw (WL.val rfl hr ((h v).sound B o ho _ w' (aw ha) ?_))
 obtain ⟨Z,F,hS,hg⟩:=hs
 have hf:fact Z w [] (.rd false (yc S) (.bool true) ([],[])):=⟨[],⟨rfl,rfl,fun _ h=>absurd h List.not_mem_nil⟩,fun _ h=>absurd h List.not_mem_nil⟩
 exact St.put (f:=[]) (SA.fact hS hf) hg hC hO.1 hO.2.1 fun b hb=>.inr ((hO.2.2 b hb).resolve_left List.not_mem_nil)
theorem lnS {α:Type} {S:ai α} {q:Bool} {d n e:Nat} {x:OO} {v:Value} {us:List (List Value)} {xs:List α} {t ty bt:TI} {m:Option M} [ht:C3 P t e n bt] (hx:bp fr x=some v) (h1:ed Γ (.own (aI e (jx n)) v us) Γ1) (hg:In (.rd false (yc S) (.bool true) (us,xs)) Γ)
  (h:D P cx (.o q all l rk Γ ((d,.int .i64 (xs.length:Int)) :: fr) m)):D P cx (.e q (.call ⟨.builtin .len,#[x],#[t]⟩) (some d) ty all l rk Γ fr m):=by
 refine D.of ?_
 intro B o ho r w ha hs pos ag g
 obtain ⟨q1,_⟩:=ht.h
 obtain ⟨Z,F,hS,hG⟩:=@_root_.id _ hs
 obtain ⟨f,F1,_,hO,_⟩:=h1.sound hS
 obtain ⟨k,hk,_⟩:=hg.rd hS []
 obtain ⟨base,cap,hv,_⟩:=hO
 obtain rfl:v = .slice base us.length cap:=by simpa using hv
 have hl:us.length=xs.length:=Dp hk.2.1
 exact cw (v:=.int .i64 (xs.length:Int)) (fun w' _=>by rw [← hl]; exact zF q1 (bD ha hx)) (h.sound B o ho _ w (aw ha) hs)
theorem ixS {α V:Type} {S:ai α} {cl:α→V→List Value} {en:α→V→List av} {q:Bool} {d n e:Nat} {x y:OO} {v:Value} {us:List (List Value)} {xs:List α} {k:IntKind} {j:Int} {t ty bt:TI} {f:α→Option M} [ht:C3 P t e n bt] (hx:bp fr x=some v) (hy:bp fr y=some (.int k j))
  (h1:ed Γ (.own (aI e (jx n)) v us) Γ1) (hg:In (.rd false (yc S) (.bool true) (us,xs)) Γ) (hs:Ie S V cl en)
  (h:∀ z u,D P cx (.p [] (.rd false (C1 us j) (.bool true) (cl z u) :: en z u) fr Γ fun fr Γ=>.o q all l rk Γ ((d,.pointer (some (db v n j))) :: fr) (f z))):D P cx (.e q (.indexAddr t x y) (some d) ty all l rk Γ fr (idx xs j>>=f)):=by
 refine D.of ?_
 intro B o ho r w ha fi pos ag g
 replace hs:SO S V cl en:=by cases hs; assumption
 obtain ⟨z,hz,ho⟩:=bind_some ho
 replace hz:=qv hz
 obtain ⟨q1,i,_,q2,_,_,q3,_⟩:=ht.h
 obtain ⟨Z,F,hS,hG⟩:=fi
 obtain ⟨f0,F1,_,hO,_⟩:=h1.sound hS
 obtain ⟨g0,hk,vh⟩:=hg.rd hS []
 obtain ⟨c,g1,e1,e2,e3⟩:=FZ j.toNat hk.2.1 hz.2
 obtain ⟨u,rfl,p7⟩:=hs.op e2
 have hlen:us.length=xs.length:=Dp hk.2.1
 have bn:j.toNat < xs.length:=(List.getElem?_eq_some_iff.1 hz.2).1
 have hv:∃ a c,v = .slice (some a) us.length c:=by
  obtain ⟨base,cap,hv,hr⟩:=hO
  obtain rfl:v = .slice base us.length cap:=by simpa using hv
  rcases hr with ⟨_,_,rfl,_⟩ | ⟨b,cur,f',rfl,_⟩
  ·rw [← hlen] at bn; simp at bn
  ·exact ⟨_,_,rfl⟩
 obtain ⟨a,c',rfl⟩:=hv
 have fq:HL Z w (.rd false (C1 us j) (.bool true) (cl z u) :: en z u) []:=.fact ⟨[],⟨rfl,⟨hz.1,e1⟩,rfl⟩,fun _ h=>absurd h List.not_mem_nil⟩ (xE (p7 Z fun b hb=>vh b (e3 b hb)))
 obtain ⟨F',hp,jd⟩:=fq.build hS
 refine cw (v:=.pointer (some (db (.slice (some a) us.length c') n j))) (fun w' hC=>?_) ((h z u).sound B o ho _ w (aw ha) ⟨Z,F',jd,hG.perm (by simpa using hp)⟩)
 rw [me q1 q2 (bD ha hx) (bD ha hy) hz.1 (by omega),q3]
 rfl
theorem Va {q:Bool} {d n off e:Nat} {x:OO} {v u:Value} {us:List (List Value)} {j:Int} {cs:LV} {ty:TI} {m:Option M} (h1:ed Γ (.own (aI e (jx n)) v us) Γ1) (hp:In (.rd false (C1 us j) (.bool true) cs) Γ) (hc:cs[off]? = some u)
  (k:D P cx (.o q all l rk Γ ((d,u) :: fr) m)):D P cx (.la ((db v n j).add off) none q ty x d all l rk Γ fr m):=by
 refine D.of ?_
 intro ht hx B o ho r w ha hs t pos ag g
 obtain ⟨Z,F,hS,_⟩:=@_root_.id _ hs
 obtain ⟨f,F1,_,hO,_⟩:=h1.sound hS
 obtain ⟨_,⟨_,⟨hj,hu⟩,_⟩,_⟩:=hp.rd hS []
 exact cw (Ld ht ((AQ hO hj hu).2.2 off u hc) (bD ha hx)) (k.sound B o ho _ w (aw ha) hs)
theorem Sy {q:Bool} {d n e:Nat} {x:OO} {v u:Value} {us:List (List Value)} {j:Int} {cs:LV} {ty:TI} {m:Option M} (h1:ed Γ (.own (aI e (jx n)) v us) Γ1) (hp:In (.rd false (C1 us j) (.bool true) cs) Γ) (hc:cs[0]? = some u)
  (k:D P cx (.o q all l rk Γ ((d,u) :: fr) m)):D P cx (.la (db v n j) none q ty x d all l rk Γ fr m):=by
 have e:(db v n j).add 0=db v n j:=rfl
 rw [← e]
 exact Va h1 hp hc k
theorem YK {q:Bool} {d n e:Nat} {x:OO} {v:Value} {us:List (List Value)} {j:Int} {cs:LV} {ty:TI} {m:Option M} (h1:ed Γ (.own (aI e (jx n)) v us) Γ1) (hp:In (.rd false (C1 us j) (.bool true) cs) Γ)
  (k:D P cx (.o q all l rk Γ ((d,.agg cs.toArray) :: fr) m)):D P cx (.la (db v n j) (some n) q ty x d all l rk Γ fr m):=by
 refine D.of ?_
 intro ht hx B o ho r w ha hs t pos ag g
 obtain ⟨Z,F,hS,_⟩:=@_root_.id _ hs
 obtain ⟨f,F1,_,hO,_⟩:=h1.sound hS
 obtain ⟨_,⟨_,⟨hj,hu⟩,_⟩,_⟩:=hp.rd hS []
 obtain ⟨e1,_,e3⟩:=AQ hO hj hu
 exact cw (Lg ht (fun i u hi=>e3 i u hi) (bD ha hx) e1) (k.sound B o ho _ w (aw ha) hs)
theorem apS {α V:Type} {S:ai α} {cl:α→V→List Value} {en:α→V→List av} (y:α) {u:V} {d b n e bt:Nat} {s x:OO} {sv:Value} {us:List (List Value)} {xs:List α} {cs:LV} {t et ty:TI} {f:Unit→Option M} [ht:C3 P t e n bt]
  (hs:bp fr s=some sv) (hx:bp fr x=some (.slice (some ⟨b,0,none⟩) 1 1)) (h0:ed Γ (.row b cs et) Γ1) (h1:ed Γ1 (.own (aI e (jx n)) sv us) Γ2) (hg:In (.rd false (yc S) (.bool true) (us,xs)) Γ2) (q9:Ie S V cl en) (_hv:wH V u) (hc:cs=cl y u) (ho:xx Γ cs) (hn:cs.length=n) (YL:FO (en y u)) (hf:EF Γ2 (en y u) Γ3)
  (h:∀ v,D P cx (.o false all l rk (.own (aI e (jx n)) v (us++[cs]) :: .rd false (yc S) (.bool true) (us++[cs],xs++[y]) :: Γ3) ((d,v) :: fr) (f ()))):D P cx (.e false (.call ⟨.builtin .append,#[s,x],#[t,t]⟩) (some d) ty all l rk Γ fr (fits bt (xs.length+1)>>=f)):=by
 refine D.of ?_
 intro B o cj r w ha fi pos ag g
 have HC:SO S V cl en:=by cases q9; assumption
 obtain ⟨_,hu,cj⟩:=bind_some cj
 obtain ⟨b1,b2⟩:=qj hu
 obtain ⟨q1,i,z,q2,q3,q4,q5,q6,_⟩:=ht.h
 obtain ⟨Z,F,hS,hG⟩:=fi
 have Jc:=ho.one hS
 obtain ⟨n0,F0,wL,⟨rfl,bd⟩,yN⟩:=h0.sound hS
 obtain ⟨k,F1,hp,hO,iy⟩:=h1.sound yN
 obtain ⟨Fd,F2,Zn,Vb,jd,n7⟩:=hf.sound iy
 obtain ⟨g0,hk,vh⟩:=hg.rd iy []
 have hlen:us.length=xs.length:=Dp hk.2.1
 have su:((k++F1)++[b]).Perm F:=(List.perm_append_comm.trans (hp.append_left [b])).trans wL
 have j8:Gd B Z (k++F1) w:=Gd.left (F':=[b]) (hG.perm su)
 have yO:((k++F2)++(Fd++Zn)).Perm (k++F1):=by
  rw [List.append_assoc]
  refine List.Perm.append_left k (.trans ?_ n7)
  rw [← List.append_assoc]
  exact (List.perm_append_comm (l₁:=F2) (l₂:=Fd)).append_right Zn
 have ry:Gd B Z ((k++F2)++(Fd++Zn)) w:=j8.perm yO
 have bn:∀ b∈Fd++Zn,b < w.heap.size:=fun b hb=>by
  have h3:b∈k++F1:=yO.mem_iff.1 (List.mem_append_right _ hb)
  rcases List.mem_append.1 h3 with h3 | h3
  ·exact ai.lt _ hO b h3
  ·exact iy.lt b h3
 have Kc:Gd B (se Z (Fd++Zn)) (k++F2) w:=ry.freeze bn
 have Gl:∀ b,se Z Zn b→se Z (Fd++Zn) b:=fun b hb=>hb.imp id fun h=>List.mem_append_right _ h
 obtain ⟨g1,AE,Gm⟩:=HC.cl (x:=y) (v:=u) (Z:=se Z (Fd++Zn)) (w:=w) (U9 YL (Vb.mono Gl))
 have hdk:td [] k:=fun _ h=>absurd h List.not_mem_nil
 have hE:dv (jx n) w.heap cs [cs] []:=⟨cs,[],[],[],by simp,by simp,⟨rfl,hn,Jc,rfl⟩,rfl,rfl⟩
 obtain ⟨v,w',f',oh,hC,fc,dx,dp⟩:=ql (E:=jx n) (d:=some d) (ty:=ty) (pos:=pos) (ag:=ag) (g:=none) (k:=[]) (ys:=[cs]) (news:=cs) q1 q2 q3 (by rw [q5]; rfl) (by rw [q4]; rfl) (bD ha hs) hO (List.nodup_append.1 j8.nd).1 (bD ha hx) (fun i u hi=>bd.at i u hi) hE hdk (by simp) (by rw [q6,hlen]; exact b1) (by rw [hlen]; exact b2)
 refine fw (WL.val rfl oh ((h v).sound B o cj _ w' (aw ha) ?_))
 have YM:fact (se Z (Fd++Zn)) w [] (.rd false (yc S) (.bool true) (us++[cs],xs++[y])):=by
  rw [hc]
  refine ⟨g0++g1,⟨rfl,Xx AE hk.2.1,fun b hb=>?_⟩,fun b hb=>?_⟩
  ·rcases List.mem_append.1 hb with hb | hb
   ·exact hk.2.2 b hb
   ·exact S.lt AE b hb
  ·rcases List.mem_append.1 hb with hb | hb
   ·exact .inl (vh b hb)
   ·exact Gm b hb
 exact St.put (SA.fact (jd.mono Gl fun _ h=>h) YM) Kc hC fc (dp List.nodup_nil) fun b hb=>(dx b hb).imp id fun h=>h.resolve_left List.not_mem_nil
theorem WB {n:Nat} {h:Array Obj}:∀ {us:List (List Value)} {cs:LV} {f:LN},dv (jx n) h cs us f→∀ c∈us,c.length=n∧∀ v∈c,v.oneCell'=true:=by
 intro us
 induction us with
 | nil=>intro cs f _ c hc; cases hc
 | cons a us ih=>
  rintro cs f ⟨c',lh,f1,f2,rfl,rfl,⟨rfl,h1,h2,rfl⟩,h3⟩ c hc
  rcases List.mem_cons.1 hc with rfl | hc
  ·exact ⟨h1,h2⟩
  ·exact ih h3 c hc
theorem WC {n:Nat} {h:Array Obj}:∀ {us:List (List Value)},(∀ c∈us,c.length=n∧∀ v∈c,v.oneCell'=true)→dv (jx n) h us.flatten us []:=by
 intro us
 induction us with
 | nil=>intro _; exact ⟨rfl,rfl⟩
 | cons a us ih=>
  intro hc
  have h1:=hc a (by simp)
  exact ⟨a,us.flatten,[],[],by simp,rfl,⟨rfl,h1.1,h1.2,rfl⟩,ih fun c hm=>hc c (by simp [hm])⟩
theorem Mg {n:Nat} {c:LV}:∀ {us:List (List Value)} {j:Nat},(∀ x∈us,x.length=n)→j < us.length→(us.set j c).flatten=us.flatten.take (j * n)++c++us.flatten.drop (j * n+n)∧j * n+n≤us.flatten.length:=by
 intro us
 induction us with
 | nil=>intro j _ hj; simp at hj
 | cons a us ih=>
  intro j hl hj
  have ha:a.length=n:=hl a (by simp)
  cases j with
  | zero=>refine ⟨?_,by simp [ha]⟩; simp [← ha]
  | succ j=>
   obtain ⟨h1,h2⟩:=ih (j:=j) (fun x hx=>hl x (by simp [hx])) (by simpa using hj)
   have e:(j+1) * n=n+j * n:=by rw [Nat.add_mul,Nat.one_mul,Nat.add_comm]
   refine ⟨?_,by rw [e,List.flatten_cons,List.length_append,ha]; omega⟩
   rw [List.set_cons_succ,List.flatten_cons,List.flatten_cons,h1,e,List.take_append,List.drop_append,ha]
   have e1:List.take (n+j * n) a=a:=List.take_of_length_le (by omega)
   have e2:List.drop (n+j * n+n) a=[]:=List.drop_eq_nil_of_le (by omega)
   rw [e1,e2,show n+j * n - n=j * n by omega,show n+j * n+n - n=j * n+n by omega]
   simp
theorem stS {α V:Type} {S:ai α} {cl:α→V→List Value} {en:α→V→List av} (y:α) {u:V} {n e:Nat} {x0 y0:OO} {v:Value} {j:Int} {us:List (List Value)} {xs:List α} {cs c0:LV} {t ty:TI} {m:Option M}
  (h1:ed Γ (.own (aI e (jx n)) v us) Γ1) (hp:In (.rd false (C1 us j) (.bool true) c0) Γ) (hg:In (.rd false (yc S) (.bool true) (us,xs)) Γ1) (q9:Ie S V cl en) (_hv:wH V u) (hc:cs=cl y u) (ho:xx Γ cs) (hn:cs.length=n) (YL:FO (en y u)) (hf:EF Γ1 (en y u) Γ2)
  (h:D P cx (.o false all l rk (.own (aI e (jx n)) v (us.set j.toNat cs) :: .rd false (yc S) (.bool true) (us.set j.toNat cs,xs.set j.toNat y) :: Γ2) fr m)):D P cx (.st (db v n j) (.agg cs.toArray) n t x0 y0 ty all l rk Γ fr m):=by
 refine D.of ?_
 intro hT hx hy B o cj r w ha fi pos ag g
 have HC:SO S V cl en:=by cases q9; assumption
 obtain ⟨i,q1,q2⟩:=hT
 obtain ⟨Z,F,hS,hG⟩:=fi
 have Jc:=ho.one hS
 obtain ⟨_,⟨_,⟨hj,hu⟩,_⟩,_⟩:=hp.rd hS []
 obtain ⟨k,F1,vk,hO,iy⟩:=h1.sound hS
 obtain ⟨Fd,F2,Zn,Vb,jd,n7⟩:=hf.sound iy
 obtain ⟨g0,hk,vh⟩:=hg.rd iy []
 have j8:Gd B Z (k++F1) w:=hG.perm vk
 have yO:((k++F2)++(Fd++Zn)).Perm (k++F1):=by
  rw [List.append_assoc]
  refine List.Perm.append_left k (.trans ?_ n7)
  rw [← List.append_assoc]
  exact (List.perm_append_comm (l₁:=F2) (l₂:=Fd)).append_right Zn
 have ry:Gd B Z ((k++F2)++(Fd++Zn)) w:=j8.perm yO
 have bn:∀ b∈Fd++Zn,b < w.heap.size:=fun b hb=>by
  have h3:b∈k++F1:=yO.mem_iff.1 (List.mem_append_right _ hb)
  rcases List.mem_append.1 h3 with h3 | h3
  ·exact ai.lt _ hO b h3
  ·exact iy.lt b h3
 have Kc:Gd B (se Z (Fd++Zn)) (k++F2) w:=ry.freeze bn
 have Gl:∀ b,se Z Zn b→se Z (Fd++Zn) b:=fun b hb=>hb.imp id fun h=>List.mem_append_right _ h
 obtain ⟨g1,AE,Gm⟩:=HC.cl (x:=y) (v:=u) (Z:=se Z (Fd++Zn)) (w:=w) (U9 YL (Vb.mono Gl))
 obtain ⟨g2,yM,hgb⟩:=Pn (c:=cs) (by rw [hc]; exact AE) j.toNat hk.2.1
 have YM:fact (se Z (Fd++Zn)) w [] (.rd false (yc S) (.bool true) (us.set j.toNat cs,xs.set j.toNat y)):=by
  refine ⟨g2,⟨rfl,yM,fun b hb=>?_⟩,fun b hb=>?_⟩
  ·exact (hgb b hb).elim (hk.2.2 b) (S.lt AE b)
  ·exact (hgb b hb).elim (fun h=>.inl (vh b h)) (Gm b)
 have Gj:j.toNat < us.length:=(List.getElem?_eq_some_iff.1 hu).1
 obtain ⟨base,cap,mb,hr⟩:=hO
 obtain rfl:v = .slice base us.length cap:=by simpa using mb
 rcases hr with ⟨_,_,rfl,_⟩ | ⟨b,cur,f',rfl,h2,rfl,h4,h5,h6,h3⟩
 ·simp at Gj
 ·obtain ⟨hcf,wP⟩:=Jk h3
  subst wP
  have fq:=WB h3
  obtain ⟨e1,e2⟩:=Mg (c:=cs) (fun x hx=>(fq x hx).1) Gj
  have bd:Row w b cur.toList e:=by unfold Row; simpa using h2
  have YN:cur.toList=us.flatten++cur.toList.drop (us.length * n):=by
   rw [← hcf]; exact (List.take_append_drop _ _).symm
  have zw:db (.slice (some ⟨b,0,none⟩) us.length cap) n j = ⟨b,j.toNat * n,none⟩:=by
   simp only [db,jr,Nat.zero_add]
  rw [zw] at hx
  have hle:j.toNat * n+cs.length≤cur.toList.length:=by
   rw [hn,YN,List.length_append]; omega
  have oh:=xW (P:=P) (d:=none) (ty:=ty) (pos:=pos) (ag:=ag) (gg:=none) q1 (by rw [hn,q2]) bd hle (bD ha hx) (y:=y0) (by rw [bD ha hy]; rfl) Jc
  refine fw (WL.skip rfl oh (h.sound B o cj _ _ ha ?_))
  have Cp:cur.toList.take (j.toNat * n)++cs++cur.toList.drop (j.toNat * n+cs.length)=(us.set j.toNat cs).flatten++cur.toList.drop (us.length * n):=by
   rw [hn,e1]
   conv=>lhs; rw [YN]
   rw [List.take_append_of_le_length (by omega),List.drop_append_of_le_length (by omega)]
   simp
  have wE:=setRow_heap w b cur (cur.toList.take (j.toNat * n)++cs++cur.toList.drop (j.toNat * n+cs.length)).toArray e _ h2
  refine St.put (f:=[b]) (f':=[b]) (SA.fact (jd.mono Gl fun _ h=>h) YM) Kc ⟨rfl,rfl,rfl,Nat.le_refl _,by simp,fun j' _ ja=>setRow_other w b j' _ fun h=>ja (by simp [h])⟩ ?_ (by simp) (fun b hb=>.inl hb)
  refine ⟨_,cap,by rw [List.length_set],.inr ⟨b,_,[],rfl,wE,rfl,by rw [List.length_set]; exact h4,h5,?_,?_⟩⟩
  ·rw [← h6]
   simp only [List.size_toArray,Cp]
   have e3:(us.set j.toNat cs).flatten.length=us.flatten.length:=by
    rw [e1]; simp only [List.length_append,List.length_take,List.length_drop,hn]; omega
   rw [List.length_append,e3,← List.length_append,← YN,Array.length_toList]
  ·rw [List.toList_toArray,Cp,List.length_set]
   have aq7:(us.set j.toNat cs).flatten.length=us.length * n:=by
    have e3:(us.set j.toNat cs).flatten.length=us.flatten.length:=by
     rw [e1]; simp only [List.length_append,List.length_take,List.length_drop,hn]; omega
    rw [e3]
    have:=ks h3
    rw [hcf] at this
    exact this
   show dv (jx n) _ (List.take (us.length * n) _) _ _
   rw [List.take_append_of_le_length (by omega),List.take_of_length_le (by omega)]
   refine WC fun c hm=>?_
   rcases List.mem_or_eq_of_mem_set hm with hm | rfl
   ·exact fq c hm
   ·exact ⟨hn,Jc⟩
theorem xM {α:Type} {E:ai α} {d n:Nat} {t e ty:TI} {ps:List (Nat×Operand)} {us:LV} {xs:List α} {m:Option M} [hz:MK P t e] (hl:xz Γ fr 0 ps us) (hn:us.length=n) (hb:(Nat.ble 1 n && Nat.ble n 16777216)=true) (hx:Ju Γ E us xs Γ1) (hE:E.size=1)
  (h:∀ v,D P cx (.o false all l rk (.own (aI e E) v xs :: Γ1) ((d,v) :: fr) m)):D P cx (.e false (.buildSlice t n ps.toArray) (some d) ty all l rk Γ fr m):=by
 refine D.of ?_
 intro B o ho r w ha hs pos ag g
 obtain ⟨Z,F,hS,hg⟩:=hs
 refine fw (WL.val rfl (hl.op ha hS ⟨hz.h⟩ hn hb) ((h _).sound B o ho _ _ (aw ha) ?_))
 obtain ⟨e1,f,F2,n7,hr,jd⟩:=hx.sound hS
 have Jx:n≤16777216:=by
  rw [Bool.and_eq_true] at hb
  exact Nat.le_of_ble_eq_true hb.2
 have hC:aq [] w (w.alloc (.cells us.toArray e)):=aq.alloc _ _ _
 have kn:Gd B Z (f++F2) w:=hg.perm n7
 have bn:∀ b∈f,b < w.heap.size:=mz hr
 have Cp:=heap_alloc_new w (.cells us.toArray e)
 have ik:dv E (w.alloc (.cells us.toArray e)).heap us xs f:=kj hr fun b hb=>hC.block b (bn b hb) (fun h=>absurd h List.not_mem_nil)
 refine St.put (f:=f) (f':=w.heap.size :: f) jd kn (aq.mono hC fun _ h=>absurd h List.not_mem_nil) ⟨_,n,by rw [← hn,e1],.inr ⟨w.heap.size,us.toArray,f,rfl,Cp,rfl,by rw [← hn,e1]; exact Nat.le_refl _,Nat.le_trans Jx (by decide),by rw [hE,Nat.mul_one]; simp [hn],?_⟩⟩ ?_ ?_
 ·rw [hE,Nat.mul_one,List.toList_toArray,← e1,List.take_length]
  exact ik
 ·exact List.nodup_cons.2 ⟨fun hm=>Nat.lt_irrefl _ (bn _ hm),(List.nodup_append.1 kn.nd).1⟩
 ·intro b hb
  rcases List.mem_cons.1 hb with rfl | hb
  ·exact .inr (Nat.le_refl _)
  ·exact .inl hb
theorem apR {α:Type} {d b:Nat} {s x:OO} {v u yv:Value} {j:Int} {y:α} {z:List α} {xs:List (List α)} {t e e' et ty:TI} {E E':ai α} {z0:α} {bt:Nat} {o1 o2:Bool} {Γx:QE} {f:Unit→Option M} [hT:vi P t α e E z0 bt] (hs:bp fr s=some u) (hx:bp fr x=some (.slice (some ⟨b,0,none⟩) 1 1)) (hl:Loc Γ u (.row v j)) (h0:ed Γ (.row b [yv] et) Γ1) (hz:qh Γ u o1 o2 E' z vv Γx) (h1:ed Γ1 (.own (aI e' (aI e E)) v xs) Γ2) (hr:RT (aI e E) (bE E')) (hy:EZ Γ2 E yv y Γ3)
  (h:∀ v',D P cx (.o false all l rk (.own (aI e E) v' (z++[y]) :: .own (wN e' (aI e E) j.toNat) v xs :: Γ3) ((d,v') :: fr) (f ()))):D P cx (.e false (.call ⟨.builtin .append,#[s,x],#[t,t]⟩) (some d) ty all l rk Γ fr (fits bt (z.length+1)>>=f)):=by
 refine D.of ?_
 intro B o cj r w ha fi pos ag g
 obtain ⟨_,hu,cj⟩:=bind_some cj
 obtain ⟨b1,b2⟩:=qj hu
 obtain ⟨q1,q2,i,zz,q3,q4,q5,q6,q7,_⟩:=hT.h
 obtain ⟨Z,F,hS,hG⟩:=fi
 obtain ⟨j0,j1,km⟩:=Loc.row hl rfl hS
 obtain ⟨dw,_,⟨⟨gz,vh,_⟩,_⟩,_⟩:=hz.sound hS
 obtain ⟨n0,F0,wL,⟨rfl,bd⟩,yN⟩:=h0.sound hS
 obtain ⟨fm,F1,vk,hO,iy⟩:=h1.sound yN
 obtain ⟨ky,F2,n7,Yd,jd⟩:=hy.sound iy
 rw [vU hO] at j1
 obtain ⟨k,gm,a1,a2,a3⟩:=JK rfl hO (List.getElem?_eq_getElem j1) km
 have Yf:xs[j.toNat]=z:=hr.xh (hr.le.le a1) vh
 rw [Yf] at a1
 have su:((k++ky)++(gm++F2)).Perm (fm++F1):=by
  have e1:((k++gm)++(ky++F2)).Perm (fm++F1):=(a2.append_right _).trans (n7.append_left fm)
  refine .trans ?_ e1
  rw [List.append_assoc,List.append_assoc]
  refine List.Perm.append_left k ?_
  rw [← List.append_assoc,← List.append_assoc]
  exact List.perm_append_comm.append_right F2
 have j8:Gd B Z ((k++ky)++(gm++F2)) w:=Gd.left (F':=[b]) (hG.perm (((su.append_right [b]).trans (List.perm_append_comm.trans (vk.append_left [b]))).trans wL))
 have dp:=(List.nodup_append.1 j8.nd).1
 have zH:=List.nodup_append.1 dp
 obtain ⟨v',w',f',oh,hC,fc,dx,J4⟩:=ql (E:=E) (d:=some d) (ty:=ty) (pos:=pos) (ag:=ag) (g:=none) (k:=ky) (ys:=[y]) (news:=[yv]) q1 q3 q4 (by rw [q5,q2]) (by rw [cells_one q6,q2]; rfl) (bD ha hs) a1 zH.1 (bD ha hx) (fun i u hi=>bd.at i u hi) (tv Yd) (fun b hb hm=>zH.2.2 b hm b hb rfl) (by simp) (by rw [q7]; exact b1) b2
 refine fw (WL.val rfl oh ((h v').sound B o cj _ w' (aw ha) ?_))
 have hSh:SA Z w (.own (wN e' (aI e E) j.toNat) v xs :: Γ3) [] (gm++F2):=SA.cons jd (e:=.own (wN e' (aI e E) j.toNat) v xs) a3
 refine St.put hSh j8 (hC.mono fun b hb=>List.mem_append_left _ hb) fc (J4 zH.2.1) fun b hb=>?_
 rcases dx b hb with h | h | h
 ·exact .inl (List.mem_append_left _ h)
 ·exact .inl (List.mem_append_right _ h)
 ·exact .inr h
theorem ixH {α:Type} {q:Bool} {d j0:Nat} {x y:OO} {v:Value} {k:IntKind} {j:Int} {xs:List α} {t e ty:TI} {E:ai α} {f:α→Option M} [ht:zA P t] (hx:bp fr x=some v) (hy:bp fr y=some (.int k j)) (h1:ed Γ (.own (wN e E j0) v xs) Γ1)
  (h:∀ z,D P cx (.o q all l rk Γ ((d,.pointer (some (db v 1 j))) :: fr) (f z))):D P cx (.e q (.indexAddr t x y) (some d) ty all l rk Γ fr (idx xs j>>=f)):=by
 refine D.of ?_
 intro B o ho r w ha hs pos ag g
 obtain ⟨z,hz,ho⟩:=bind_some ho
 replace hz:=qv hz
 obtain ⟨e',i,q1,q2,q3⟩:=ht.h
 obtain ⟨Z,F,hS,_⟩:=@_root_.id _ hs
 obtain ⟨f0,F1,_,⟨b,cap,cur,f1,f2,p,c0,qq,hv,_⟩,_⟩:=h1.sound hS
 obtain rfl:v = .slice (some ⟨b,0,none⟩) xs.length cap:=by simpa using hv
 have bn:j.toNat < xs.length:=(List.getElem?_eq_some_iff.1 hz.2).1
 have Ko:=hz.1
 refine cw (v:=.pointer (some (db (.slice (some ⟨b,0,none⟩) xs.length cap) 1 j))) (fun w' hC=>?_) ((h z).sound B o ho _ w (aw ha) hs)
 rw [me q1 q2 (bD ha hx) (bD ha hy) hz.1 (by omega),q3]
 rfl
theorem stR {α:Type} {x0 y0:OO} {v u:Value} {j:Int} {z:α} {xs:List α} {t e ty:TI} {E:ai α} {m:Option M} (h1:ed Γ (.own E u z) Γ1) (h2:ed Γ1 (.own (wN e E j.toNat) v xs) Γ2)
  (h:D P cx (.o false all l rk (.own (aI e E) v (xs.set j.toNat z) :: Γ2) fr m)):D P cx (.st (db v 1 j) u 1 t x0 y0 ty all l rk Γ fr m):=by
 refine D.of ?_
 intro hT hx hy B o cj r w ha fi pos ag g
 obtain ⟨i,q1,q2⟩:=hT
 obtain ⟨Z,F,hS,hG⟩:=fi
 obtain ⟨k,F1,vk,hK,iy⟩:=h1.sound hS
 obtain ⟨gm,F2,n7,hM,jd⟩:=h2.sound iy
 have yO:((gm++k)++F2).Perm F:=by
  refine .trans ?_ vk
  refine .trans ?_ (n7.append_left k)
  rw [← List.append_assoc k gm F2]
  exact List.perm_append_comm.append_right F2
 have j8:Gd B Z ((gm++k)++F2) w:=hG.perm yO
 have dp:=(List.nodup_append.1 j8.nd).1
 obtain ⟨b,cap,cur,f1,f2,p,c0,qq,hv,g1,rfl,⟨g2,g3,g4,g5⟩,g6,⟨g7,g8⟩,g9,g10⟩:=hM
 obtain rfl:v = .slice (some ⟨b,0,none⟩) xs.length cap:=by simpa using hv
 have zw:db (.slice (some ⟨b,0,none⟩) xs.length cap) 1 j = ⟨b,j.toNat,none⟩:=by
  simp only [db,jr,Nat.zero_add,Nat.mul_one]
 rw [zw] at hx
 have bd:Row w b cur.toList e:=by unfold Row; simpa using g1
 have Xr:∀ i∈(f1++f2)++k,i≠b:=by
  intro i hi he
  subst he
  have e1:((i :: (f1++f2))++k)=i :: ((f1++f2)++k):=rfl
  rw [e1] at dp
  exact (List.nodup_cons.1 dp).1 hi
 refine fw (WL.JH q1 q2 bd (by rw [Array.length_toList,g4]; omega) (bD ha hx) (bD ha hy) (E.one hK u (by simp)) fun w' hC wM=>h.sound B o cj _ w' ha ?_)
 have Vc:∀ i∈(f1++f2)++k,i < w.heap.size→w'.heap[i]? = w.heap[i]?:=fun i hi hl=>hC.block i hl fun hm=>Xr i hi (by simpa using hm)
 have hK':E.rep w'.heap [u] z k:=E.congr hK fun i hi=>Vc i (List.mem_append_right _ hi) (E.lt hK i hi)
 have Jm:=g10 w'.heap (fun i hi=>Vc i (List.mem_append_left _ hi) (g9 i hi)) u z k hK'
 refine St.put (f:=(b :: (f1++f2))++k) (f':=b :: (f1++k++f2)) jd j8 (hC.mono fun i hi=>by rw [List.mem_singleton.1 hi]; simp) ⟨_,cap,by rw [List.length_set],.inr ⟨b,_,f1++k++f2,rfl,wM,rfl,by rw [List.length_set]; exact g2,g3,?_,?_⟩⟩ ?_ ?_
 ·rw [g5]; simp [g4]
 ·have wE:((cur.toList.set j.toNat u).take xs.length)=p++[u]++qq:=by
   rw [List.take_set,g6,← g7]
   simp
  rw [List.length_set,g5,Nat.mul_one]
  simpa [wE] using Jm
 ·have J3:(b :: (f1++k++f2)).Perm ((b :: (f1++f2))++k):=by
   rw [List.cons_append]
   refine List.Perm.cons b ?_
   rw [List.append_assoc,List.append_assoc]
   exact List.Perm.append_left f1 List.perm_append_comm
  exact J3.nodup_iff.2 dp
 ·intro i hi
  refine .inl ?_
  rcases List.mem_cons.1 hi with rfl | hi
  ·simp
  ·rcases List.mem_append.1 hi with hi | hi
   ·rcases List.mem_append.1 hi with hi | hi <;> simp [hi]
   ·simp [hi]
theorem Gn {S S1 V W:Type} (k:Nat) (Δ:S1→V→W→List av) (φ:S1→V→W→Fr) (v0:V) (w0:W) (f2:Fr) {ji:List KI} {kb:Kb R S} {c:Code} {s0:S1} {body:S1→Option (Out S1 R)} {f:S1→Option (Out S R)}
  (ha:uc fr (φ s0 v0 w0)) (hf:uc fr f2) (h0:EO Γ (Δ s0 v0 w0) Γ1) (hn:OW Γ (Δ s0 v0 w0)) (hs:lj Γ1 Γ2)
  (hb:∀ s v w,D P cx (.p (φ s v w) (Δ s v w) f2 Γ2 fun fr Γ=>.c ⟨[],.loop (V×W) k (fun s v=>Δ s v.1 v.2) (fun s v=>φ s v.1 v.2) Γ2 f2⟩ c Γ fr (body s)))
  (hk:∀ s v w,D P cx (.p (φ s v w) (Δ s v w) f2 Γ2 fun fr Γ=>.mn ⟨ji,kb⟩ Γ fr (f s))):Bx (qi P cx (.bk true k ⟨ji,kb⟩ (.loop c) Γ fr (af (ae k (Li.ah body s0)) f))):=
 loop k (fun s v=>Δ s v.1 v.2) (fun s v=>φ s v.1 v.2) (v0,w0) f2 ha hf h0 hn hs (fun s v=>hb s v.1 v.2) (fun s v=>hk s v.1 v.2)
def Kr {α:Type} (v:Value) (_:List α):Prop:=∃ a n c,v = .slice a n c∧n≤c
theorem Le.cap {α:Type} {T E:ai α} (hl:Le T E) (e:TI):Le (aI e T) (wh Kr (bE E)):=by
 refine ⟨rfl,fun {h cs x f} hr=>⟨?_,(Le.own hl e).le hr⟩⟩
 obtain ⟨base,cap,rfl,hr⟩:=hr
 refine ⟨_,rfl,_,_,_,rfl,?_⟩
 rcases hr with ⟨_,_,rfl,_⟩ | ⟨_,_,_,_,_,_,h,_⟩
 ·exact Nat.zero_le _
 ·exact h
theorem WD {α:Type} {T E:ai α} {e e2:TI} {v:Value} {xs:List (List α)} {f:LN} {h:Array Obj} (hl:Le T E) (hO:(aI e (aI e2 T)).rep h [v] xs f) :
  ∃ fo fz us,(fo++fz).Perm f∧(aI e tx).rep h [v] us fo∧dv (wh Kr (bE E)) h us xs fz:=by
 obtain ⟨base,cap,hv,hr⟩:=hO
 rcases hr with ⟨rfl,rfl,rfl,rfl⟩ | ⟨b,cur,f',rfl,h2,rfl,h4,h5,h6,h3⟩
 ·exact ⟨[],[],[],.refl _,⟨none,0,by simpa using hv,.inl ⟨rfl,rfl,rfl,rfl⟩⟩,rfl,rfl⟩
 ·have h7:=ks h3
  have h8:(aI e2 T).size=1:=rfl
  rw [h8,Nat.mul_one] at h6 h3 h7
  try rw [Nat.mul_one] at h7
  refine ⟨[b],f',cur.toList.take xs.length,.refl _,⟨_,cap,by rw [h7]; exact hv,.inr ⟨b,cur,[],rfl,h2,rfl,by rw [h7]; exact h4,h5,by rw [h6]; exact (Nat.mul_one _).symm,?_⟩⟩,xu (Le.cap hl e2) h3⟩
  have h9:tx.size=1:=rfl
  rw [h9,Nat.mul_one,h7]
  exact E7 (Fv h3)
theorem St.frz {α:Type} {T E:ai α} {e e2:TI} {v:Value} {xs:List (List α)} (hs:St B Γ w) (h1:EO Γ [.own (aI e (aI e2 T)) v xs] Γ1) (hr:RT T E):St B (.om e (wh Kr (bE E)) v xs :: Γ1) w:=by
 obtain ⟨Z,F,hS,hG⟩:=hs
 obtain ⟨_,F1,hH,iy,hp⟩:=h1.sound hS
 obtain ⟨f,hO,hp⟩ : ∃ f,(aI e (aI e2 T)).rep w.heap [v] xs f∧(f++F1).Perm F:=by
  cases hH with
  | own h k=>cases k; exact ⟨_,h,by simpa using hp⟩
 obtain ⟨fo,fz,us,hf,ho,hl⟩:=WD hr.le hO
 have yO:((fo++F1)++fz).Perm F:=by
  refine .trans ?_ hp
  refine .trans ?_ (hf.append_right F1)
  rw [List.append_assoc,List.append_assoc]
  exact List.Perm.append_left fo List.perm_append_comm
 have ry:=Gd.freeze (hG.perm yO) fun b hb=>hS.lt b (yO.mem_iff.1 (List.mem_append_right _ hb))
 exact ⟨se Z fz,fo++F1,SA.cons (iy.mono (fun _ h=>.inl h) fun _ h=>h) ⟨us,fz,ho,hl,fun b hb=>.inr hb,rfl⟩,ry⟩
theorem acg {S:Type} {id:Nat} (k:Nat) {K:dq R S} {l ops tl0:LO} {α:Type} {T E:ai α} {e e2:TI} {v:Value} {xs:List (List α)} {m:Option (Out S R)} (hB:(P.follows .mixedOrders && di cx.n l && ((l.take k).all fun o=>zI o.op) && Region.lexTailB .any l.toArray k)=true) (ho:ops=l.take k) (ht:tl0=l.drop k)
  (h1:EO Γ [.own (aI e (aI e2 T)) v xs] Γ1) (hr:RT T E) (h:D P cx (.o true l ops (.h l tl0 K) (.om e (wh Kr (bE E)) v xs :: Γ1) fr m)):Bx (qi P cx (.dr id l K Γ fr m)):=by
 have h2:=tail (id:=id) k hB ho ht h
 rw [rq] at h2 ⊢
 exact fun B o cj r w ha hs=>h2 B o cj r w ha (hs.frz h1 hr)
theorem P1 {α:Type} {E:ai α} {h:Array Obj}:∀ {xs:List α} {cs:LV} {f:LN} (n:Nat),dv E h cs xs f→∃ f3,dv E h (cs.drop (n * E.size)) (xs.drop n) f3∧∀ b∈f3,b∈f:=by
 intro xs
 induction xs with
 | nil=>rintro cs f n ⟨rfl,rfl⟩; exact ⟨[],by simpa using ⟨rfl,rfl⟩,fun _ h=>h⟩
 | cons x xs ih=>
  rintro cs f n ⟨c,ds,f1,f2,rfl,rfl,h1,h2⟩
  cases n with
  | zero=>exact ⟨f1++f2,by simpa using ⟨c,ds,f1,f2,rfl,rfl,h1,h2⟩,fun _ h=>h⟩
  | succ n=>
   obtain ⟨f3,h3,h4⟩:=ih n h2
   refine ⟨f3,?_,fun b hb=>List.mem_append_right _ (h4 b hb)⟩
   have e:(n+1) * E.size=c.length+n * E.size:=by rw [E.len h1,Nat.add_mul,Nat.one_mul,Nat.add_comm]
   rw [e,List.drop_append,List.drop_of_length_le (by omega),List.nil_append,List.drop_succ_cons]
   simpa using h3
theorem slT {α:Type} {q:Bool} {d:Nat} {x lo:OO} {v:Value} {k:IntKind} {j:Int} {E:ai α} {xs:List α} {t ty:TI} {f:List α→Option M} [ht:zA P t] (hx:bp fr x=some v) (hy:bp fr lo=some (.int k j)) (hr:In (.rd false (wh Kr (bE E)) v xs) Γ) (hE:E.size=1)
  (h:∀ v' ys,D P cx (.o q all l rk (.rd false (bE E) v' ys :: Γ) ((d,v') :: fr) (f ys))):D P cx (.e q (.slice t x (some lo) none none) (some d) ty all l rk Γ fr (tl xs j>>=f)):=by
 refine D.of ?_
 intro B o ho r w ha hs pos ag g
 obtain ⟨ys,DJ,ho⟩:=bind_some ho
 obtain ⟨h0,h1,rfl⟩:=WE DJ
 obtain ⟨e,i,q1,q2,q3⟩:=ht.h
 obtain ⟨Z,F,hS,hG⟩:=hs
 obtain ⟨g0,⟨⟨v0,hv0,a0,n0,c0,P3,hc⟩,base,cap,hv,ik⟩,vh⟩:=hr.rd hS []
 obtain rfl:v = .slice base xs.length cap:=by simpa using hv
 obtain rfl:Value.slice base xs.length cap=v0:=by simpa using hv0
 obtain ⟨rfl,rfl,rfl⟩ : base=a0∧xs.length=n0∧cap=c0:=by simpa using P3
 have hlen:(xs.drop j.toNat).length=xs.length - j.toNat:=List.length_drop
 have hf:fact Z w [] (.rd false (bE E) (sliced base j.toNat xs.length cap 1) (xs.drop j.toNat)):=by
  by_cases hj:j.toNat=xs.length
  ·refine ⟨[],⟨_,cap - j.toNat,by unfold sliced; rw [hlen],.inl ⟨by rw [hj]; simp,rfl⟩⟩,fun _ h=>absurd h List.not_mem_nil⟩
  ·rcases ik with ⟨rfl,_⟩ | ⟨b,off,cur,e',fz,f',rfl,g1,rfl,_,g2⟩
   ·exfalso; simp at h1 hj; omega
   ·have rb : ¬ (cap=j.toNat):=by omega
    obtain ⟨f3,fc,dx⟩:=P1 j.toNat g2
    refine ⟨b :: f3,⟨some ⟨b,off+j.toNat,none⟩,cap - j.toNat,?_,.inr ⟨b,off+j.toNat,cur,e',fz,f3,rfl,g1,rfl,by omega,?_⟩⟩,fun i hi=>?_⟩
    ·unfold sliced
     rw [hlen,if_neg rb]
     simp [jr]
    ·rw [hE,Nat.mul_one] at fc ⊢
     rw [Nat.mul_one,List.drop_take,List.drop_drop] at fc
     rw [hlen]
     exact fc
    ·rcases List.mem_cons.1 hi with rfl | hi
     ·exact vh _ (by simp)
     ·exact vh _ (List.mem_cons_of_mem _ (dx i hi))
 refine cw (v:=sliced base j.toNat xs.length cap 1) (fun w' _=>?_) ((h _ _).sound B o ho _ w (aw ha) ⟨Z,F,SA.fact hS hf,hG⟩)
 have q4:P.elem t=e:=by simp [Program.elem,q1]
 have wJ:(sizeOf (P.elem t)).run P w' = .ok 1 w':=by rw [q4]; simp [sizeOf,typeInfo,q2,q3]
 simp [execOp,bD ha hx,bD ha hy,run_sliceAt_slice w' t _ _ _ _ (by rw [q4]; exact q1),run_slice_l (P:=P) w' t base xs.length cap (by rw [q4]; exact q1) k j h0 h1,wJ,Result.andThen]
theorem lkq {κ υ:Type} {q:Bool} {d:Nat} {x y:OO} {v:Value} {t ty:TI} {bq:BEq κ} {ek:κ→Value} {eu:υ→Value} {xs:List (κ×υ)} {a:κ} {z0:υ} {m:Option M} [ht:Pr P t κ υ bq ek eu] [hz:XA P t υ eu z0] (hx:bp fr x=some v) (hy:bp fr y=some (ek a)) (hr:Ig ek eu Γ v xs)
  (h:D P cx (.o q all l rk Γ ((d,eu ((vV xs a).getD z0)) :: fr) m)):D P cx (.e q (.lookup t x y false) (some d) ty all l rk Γ fr m):=by
 refine D.of ?_
 intro B o ho r w ha hs pos ag g
 obtain ⟨Z,F,hS,_⟩:=id hs
 exact cw ((VQ.lkp (z0:=z0) hx hy hr).sound hS ha _ _ _ _ _) (h.sound B o ho _ w (aw ha) hs)
theorem stN {α:Type} {x y:OO} {v u:Value} {j:Int} {z:List α} {xs:List (List α)} {E:ai α} {Q:Value→List α→Prop} {t e ty:TI} {Γx:QE} {m:Option M} (h0:Rg v j Γ) (h1:qh Γ u false false E z vv Γx) (h2:ed Γ (.om e (wh Q (bE E)) v xs) Γ1)
  (h:D P cx (.o false all l rk (.om e (bE E) v (xs.set j.toNat z) :: Γ1) fr m)):D P cx (.sl .om v j u t x y ty all l rk Γ fr m):=by
 refine D.of ?_
 intro hT hx hy _ B o ho r w ha hs pos ag g
 obtain ⟨i,hi,wJ⟩:=hT
 obtain ⟨Z,F,hS,hg⟩:=hs
 obtain ⟨j0,j1⟩:=h0.sound hS
 obtain ⟨dw,_,⟨⟨k,hk,JF⟩,_⟩,_⟩:=h1.sound hS
 obtain ⟨n,F1,hp,⟨us,gg,hO,YO,vh,PD⟩,iy⟩:=h2.sound hS
 have hle:Le (wh Q (bE E)) (bE E):=⟨rfl,fun h=>h.2⟩
 have hr:dv (bE E) w.heap us xs gg:=xu hle YO
 replace PD:(bE E).size=1:=rfl
 have kn:=hg.perm hp
 have dp:=List.nodup_append.1 kn.nd
 have JG:∀ b∈k,Z b:=fun b hb=>(JF b hb).elim (fun h=>h) (fun h=>h)
 have PE:∀ b∈n,¬ Z b:=fun b hb=>kn.apart b (List.mem_append_left _ hb)
 have hl:us.length=xs.length:=by have:=ks hr; rw [PD,Nat.mul_one] at this; exact this
 have Pl:yC v=us.length:=vU hO
 rw [Pl,hl] at j1
 refine fw (UT.store (E:=bE E) (G:=n) (B:=w.heap.size) (g:=gg) (k:=k) hi wJ ⟨us,⟨hO,dp.1,fun b hb=>.inl hb⟩,hr,PD⟩ (List.getElem?_eq_getElem j1) (bD ha hx) (bD ha hy) hk (fun b hb hm=>PE b hm (JG b hb)) (fun b hb hm=>PE b hm (vh b hb)) fun w' g' hC sf mw=>?_)
 obtain ⟨XQ,cj,ik,R6⟩:=sf
 exact h.sound B o ho _ w' ha (St.put iy kn hC ⟨XQ,_,cj.1,ik,(fun b hb=>(mw b hb).elim (vh b) (JG b)),R6⟩ cj.2.1 fun b hb=>.inl hb)
theorem St.atC {B:Bs} {Γ Δ Γ1 Γ2 Γ3:QE} {w:World} (h:St B Γ w) (h0:EF Γ Δ Γ1) (h1:EO Γ1 Γ2 Γ3) (h2:MF Γ none Γ2):St B (Δ.reverse++Γ2) w:=by
 obtain ⟨Z,F,hs,hg⟩:=h
 obtain ⟨Fd,F',Zn,a1,a2,a3⟩:=h0.sound hs
 obtain ⟨XK,F3,c1,c2,c3⟩:=h1.sound a2
 obtain ⟨F2,b1,b2⟩:=HL.build a1 (h2.sound (hs.left (f:=Zn)) (dw:=[]) (by rintro e he; cases he) c1)
 refine St.of (F':=Fd++XK) b2 (Gd.left (F':=F3) ((Gd.freeze (hg.perm a3) fun b hb=>hs.lt b (a3.mem_iff.1 (List.mem_append_right _ hb))).perm ?_)) b1
 rw [List.append_assoc]
 exact c3.append_left Fd
theorem join {S S1 V:Type} {t k:Nat} {b:Bool} (Δ:S1→V→List av) (φ:S1→V→Fr) (v0:V) (f2:Fr) {ji:List KI} {kb:Kb R S} {x y:Code} {s0:S1} {m0:Option (Out S1 R)} {f:S1→Option (Out S R)}
   (_ha:uc fr (φ s0 v0)) (_hf:uc fr f2) (_h0:EO Γ (Δ s0 v0) Γ1) (_hs:lj Γ1 Γ2)
   (hb:D P cx (.cd b ⟨[],.loop V k Δ φ Γ2 f2⟩ x y Γ fr m0)) (hk:∀ s v,D P cx (.p (φ s v) (Δ s v) f2 Γ2 fun fr Γ=>.n ⟨ji,kb⟩ Γ fr (f s))):D P cx (.cd b ⟨ji,kb⟩ x y Γ fr (jn t s0 m0 f)):=by
 refine .inj (bxi ?_)
 intro B o ho r w wK rz
 replace ho:af m0 f=some o:=ho
 cases hm:m0 with
 | none=>rw [hm] at ho; cases ho
 | some o0=>
  have h1:=hb.sound B o0 hm r w wK rz
  rw [hm] at ho
  have hq:∀ e r w,l8 P cx B ⟨[],.loop V k Δ φ Γ2 f2⟩ o0 e r w→l8 P cx B ⟨ji,kb⟩ o e r w:=by
   intro e r w hp
   cases o0 with
   | norm s=>
    cases e with
    | normal=>obtain ⟨v,a1,a2⟩:=hp; exact (hk s v).sound B o ho r w a1 a2
    | _=>exact hp.elim
   | exit j s=>cases ho
   | ret y=>
    cases ho
    cases e with
    | ret=>exact AF hp
    | _=>exact hp.elim
  exact ⟨fun h=>yi (h1.1 h) hq,fun h=>yi (h1.2 h) hq⟩
theorem M5 {S:Type} {t:Nat} {K:dq R S} {ops:LO} {m:Option (Out S R)} (_ht:F5 ops=some t) (h:D P cx (.o false ops ops (.s K) Γ fr m)):D P cx (.rw false ops K Γ fr m):=.rwu h
theorem uo {S:Type} {b:Bool} {t:Nat} {K:dq R S} {x y:Code} {m1 m2:Option (Out S R)} (hl:look fr t=some (.bool b)) (h1:D P cx (.c K x Γ ((t,.bool true) :: fr) m1)) (h2:D P cx (.c K y Γ ((t,.bool false) :: fr) m2)):D P cx (.cd b K x y Γ fr (bif b then m1 else m2)):=by
 refine D.of ?_
 have hc:∀ {r:NV},dg r fr→∀ c,b=c→dg r ((t,.bool c) :: fr):=by
  intro r ha c hb s u hs
  unfold look at hs
  cases rz:Nat.beq s t with
  | true=>
   rw [rz] at hs
   cases hs
   obtain rfl:=Nat.eq_of_beq_eq_true rz
   rw [← hb]
   exact ha _ _ hl
  | false=>rw [rz] at hs; exact ha _ _ hs
 exact fun B o ho r w ha hs=>⟨fun h=>h1.sound B o (by rw [h] at ho; exact ho) r w (hc ha _ h) hs,fun h=>h2.sound B o (by rw [h] at ho; exact ho) r w (hc ha _ h) hs⟩
class j9 {α:Type} (S:ai α) (V:outParam Type) (cl:outParam (α→V→List Value)) (en:outParam (α→V→List av)):Prop where
 ow:∀ x v,uj (en x v)=true
 op:∀ {w:World} {cs:LV} {x:α} {g:LN},S.rep w.heap cs x g→∃ v,cs=cl x v∧∀ Z:Nat→Prop,HL Z w (en x v) g
 cl:∀ {w:World} {x:α} {v:V} {Z:Nat→Prop} {g:LN},HL Z w (en x v) g→S.rep w.heap (cl x v) x g
theorem j9.i {k:IntKind}:j9 (aL k) Unit (fun x _=>[.int k x]) (fun _ _=>[]):=
 ⟨fun _ _=>rfl,fun h=>⟨(),h.1,fun _=>by rw [h.2]; exact .nil⟩,fun h=>by cases h; exact ⟨rfl,rfl⟩⟩
theorem j9.s {α:Type} {e:TI} {E:ai α}:j9 (aI e E) Value (fun _ v=>[v]) (fun x v=>[.own (aI e E) v x]):=by
 refine ⟨fun _ _=>rfl,fun {w cs x g} h=>?_,fun {w x v Z g} h=>?_⟩
 ·obtain ⟨base,cap,rfl,hr⟩:=h
  refine ⟨_,rfl,fun Z=>?_⟩
  have:=HL.own (Z:=Z) (w:=w) (e:=.own (aI e E) (.slice base x.length cap) x) (f:=g) ⟨base,cap,rfl,hr⟩ .nil
  rwa [List.append_nil] at this
 ·cases h with
  | own h k=>cases k; rw [List.append_nil]; exact h
  | fact h _=>exact h.elim
theorem j9.ip {β V:Type} {k:IntKind} {B:ai β} {cl:β→V→List Value} {en:β→V→List av} (h:j9 B V cl en):j9 (bo (aL k) B) V (fun x v=>.int k x.1 :: cl x.2 v) (fun x v=>en x.2 v):=by
 refine ⟨fun x v=>h.ow x.2 v,fun {w cs x g} hr=>?_,fun {w x v Z g} he=>?_⟩
 ·obtain ⟨c1,c2,f1,f2,rfl,rfl,⟨rfl,rfl⟩,h2⟩:=hr
  obtain ⟨v,rfl,hv⟩:=h.op h2
  exact ⟨v,rfl,hv⟩
 ·exact ⟨[_],_,[],g,rfl,rfl,⟨rfl,rfl⟩,h.cl he⟩
theorem j9.sp {α β V:Type} {e:TI} {E:ai α} {B:ai β} {cl:β→V→List Value} {en:β→V→List av} (h:j9 B V cl en):j9 (bo (aI e E) B) (Value×V) (fun x v=>v.1 :: cl x.2 v.2) (fun x v=>.own (aI e E) v.1 x.1 :: en x.2 v.2):=by
 refine ⟨fun x v=>h.ow x.2 v.2,fun {w cs x g} hr=>?_,fun {w x v Z g} he=>?_⟩
 ·obtain ⟨c1,c2,f1,f2,rfl,rfl,h1,h2⟩:=hr
  obtain ⟨base,cap,rfl,AE⟩:=h1
  obtain ⟨v,rfl,hv⟩:=h.op h2
  exact ⟨(_,v),rfl,fun Z=>.own ⟨base,cap,rfl,AE⟩ (hv Z)⟩
 ·cases he with
  | own h1 k=>
   obtain ⟨base,cap,hb,AE⟩:=h1
   exact ⟨[_],_,_,_,rfl,rfl,⟨base,cap,hb,AE⟩,h.cl k⟩
  | fact h1 _=>exact h1.elim
theorem j9.mp {α β V:Type} {f:β→α} {A:ai α} {cl:α→V→List Value} {en:α→V→List av} (h:j9 A V cl en):j9 (yE f A) V (fun y v=>cl (f y) v) (fun y v=>en (f y) v):=
 ⟨fun y v=>h.ow (f y) v,fun hr=>h.op hr,fun he=>h.cl he⟩
inductive Sz {α:Type} (S:ai α) (V:Type) (cl:α→V→List Value) (en:α→V→List av):Prop
 | mk [h:j9 S V cl en]:Sz S V cl en
theorem ach:∀ {Δ:QE} {F:LN},uj Δ=true→HO Z w Δ F→HL Z w Δ F:=by
 intro Δ
 induction Δ with
 | nil=>intro F _ h; cases h; exact .nil
 | cons e Δ ih=>
  intro F ho h
  cases e with
  | own T v x=>cases h with | own h k=>exact .own h (ih ho k)
  | row b cs t=>cases h with | own h k=>exact .own h (ih ho k)
  | _=>exact absurd ho (by simp [uj])
theorem YP {α:Type} (S:ai α) {d:Nat} {t e n bt ty:TI} {m:Option M} [ht:C3 P t e n bt]
  (h:∀ v,D P cx (.o false all l rk (.own (aI e S) v [] :: Γ) ((d,v) :: fr) m)):D P cx (.e false (.buildSlice t 0 #[]) (some d) ty all l rk Γ fr m):=by
 refine D.of ?_
 intro B o ho r w ha hs pos ag g
 obtain ⟨h1,i,z,h2,_⟩:=ht.h
 obtain ⟨v,w',f,hr,hC,hO⟩:=Cj (E:=S) (r:=r) (w:=w) (d:=some d) (ty:=ty) (pos:=pos) (ag:=ag) (g:=none) h1 h2
 refine fw (WL.val rfl hr ((h v).sound B o ho _ w' (aw ha) ?_))
 obtain ⟨Z,F,hS,hg⟩:=hs
 exact St.put (f:=[]) hS hg hC hO.1 hO.2.1 fun b hb=>.inr ((hO.2.2 b hb).resolve_left List.not_mem_nil)
theorem Vd {α:Type} {S:ai α} {q:Bool} {d n e:Nat} {x:OO} {v:Value} {xs:List α} {t ty bt:TI} {m:Option M} [ht:C3 P t e n bt] (hx:bp fr x=some v) (h1:ed Γ (.own (aI e S) v xs) Γ1)
  (h:D P cx (.o q all l rk Γ ((d,.int .i64 (xs.length:Int)) :: fr) m)):D P cx (.e q (.call ⟨.builtin .len,#[x],#[t]⟩) (some d) ty all l rk Γ fr m):=by
 refine D.of ?_
 intro B o ho r w ha hs pos ag g
 obtain ⟨q1,_⟩:=ht.h
 obtain ⟨Z,F,hS,hG⟩:=@_root_.id _ hs
 obtain ⟨f,F1,_,hO,_⟩:=h1.sound hS
 obtain ⟨base,cap,hv,_⟩:=hO
 obtain rfl:v = .slice base xs.length cap:=by simpa using hv
 exact cw (v:=.int .i64 (xs.length:Int)) (fun w' _=>zF q1 (bD ha hx)) (h.sound B o ho _ w (aw ha) hs)
theorem SB {α:Type} {S:ai α} {n:Nat} {hp:Array Obj} (hn:S.size=n):∀ {xs:List α} {cs:LV} {f:LN},dv S hp cs xs f→∃ us,us.length=xs.length∧dv (jx n) hp cs us []∧∀ (j:Nat) (x:α),xs[j]? = some x→∃ c f0 f1 f2,us[j]? = some c∧f=f0++f1++f2∧S.rep hp c x f1:=by
 intro xs
 induction xs with
 | nil=>rintro cs f ⟨rfl,rfl⟩; exact ⟨[],rfl,⟨rfl,rfl⟩,fun j x hj=>by simp at hj⟩
 | cons y xs ih=>
  rintro cs f ⟨c,lh,f1,f2,rfl,rfl,h1,h2⟩
  obtain ⟨us,hl,hr,hg⟩:=ih h2
  refine ⟨c :: us,by simp [hl],⟨c,lh,[],[],rfl,rfl,⟨rfl,by rw [S.len h1,hn],S.one h1,rfl⟩,hr⟩,fun j x hj=>?_⟩
  cases j with
  | zero=>simp at hj; subst hj; exact ⟨c,[],f1,f2,rfl,by simp,h1⟩
  | succ j=>
   obtain ⟨c',g0,g1,g2,a1,rfl,a3⟩:=hg j x (by simpa using hj)
   exact ⟨c',f1++g0,g1,g2,by simpa using a1,by simp,a3⟩
theorem ixO {α V:Type} {S:ai α} {cl:α→V→List Value} {en:α→V→List av} {q:Bool} {d n e:Nat} {x y:OO} {v:Value} {xs:List α} {k:IntKind} {j:Int} {t ty bt:TI} {f:α→Option M} [ht:C3 P t e n bt] (hx:bp fr x=some v) (hy:bp fr y=some (.int k j))
  (h1:ed Γ (.own (aI e S) v xs) Γ1) (hs:Sz S V cl en) (hn:S.size=n)
  (h:∀ z u us,D P cx (.p [] (.own (aI e (jx n)) v us :: .rd false (C1 us j) (.bool true) (cl z u) :: en z u) fr Γ1 fun fr Γ=>.o q all l rk Γ ((d,.pointer (some (db v n j))) :: fr) (f z))):D P cx (.e q (.indexAddr t x y) (some d) ty all l rk Γ fr (idx xs j>>=f)):=by
 refine D.of ?_
 intro B o ho r w ha fi pos ag g
 replace hs:j9 S V cl en:=by cases hs; assumption
 obtain ⟨z,hz,ho⟩:=bind_some ho
 replace hz:=qv hz
 obtain ⟨q1,i,_,q2,_,_,q3,_⟩:=ht.h
 obtain ⟨Z,F,hS,hG⟩:=fi
 obtain ⟨f0,F1,hp,hO,iy⟩:=h1.sound hS
 have bn:j.toNat < xs.length:=(List.getElem?_eq_some_iff.1 hz.2).1
 obtain ⟨base,cap,hv,hr⟩:=hO
 obtain rfl:v = .slice base xs.length cap:=by simpa using hv
 rcases hr with ⟨_,_,rfl,_⟩ | ⟨b,cur,f',rfl,km,rfl,hle,ae9,wJ,fc⟩
 ·simp at bn
 ·obtain ⟨us,hl,hru,hg⟩:=SB hn fc
  obtain ⟨c,g0,g1,g2,a1,rfl,a3⟩:=hg _ _ hz.2
  obtain ⟨u,rfl,p7⟩:=hs.op a3
  have Cp:(aI e (jx n)).rep w.heap [.slice (some ⟨b,0,none⟩) xs.length cap] us [b]:=
   ⟨_,cap,by rw [hl],.inr ⟨b,cur,[],rfl,km,rfl,by rw [hl]; exact hle,ae9,by rw [wJ,hn]; rfl,by rw [hl,show (jx n).size=S.size from hn.symm]; exact hru⟩⟩
  have fq:HL Z w (.own (aI e (jx n)) (.slice (some ⟨b,0,none⟩) xs.length cap) us :: .rd false (C1 us j) (.bool true) (cl z u) :: en z u) ([b]++g1):=.own Cp (.fact ⟨[],⟨rfl,⟨hz.1,a1⟩,rfl⟩,fun _ h=>absurd h List.not_mem_nil⟩ (p7 Z))
  obtain ⟨F',AL,jd⟩:=fq.build iy
  have su:(F'++(g0++g2)).Perm F:=by
   refine .trans ?_ hp
   refine (AL.append_right _).trans ?_
   rw [List.cons_append,List.cons_append,List.cons_append,List.nil_append,List.cons_append]
   refine List.Perm.cons b ?_
   have e1:(g1++F1++(g0++g2)).Perm ((g0++g2)++(g1++F1)):=List.perm_append_comm
   refine e1.trans ?_
   rw [List.append_assoc,List.append_assoc,List.append_assoc]
   refine List.Perm.append_left g0 ?_
   rw [← List.append_assoc,← List.append_assoc]
   exact List.perm_append_comm.append_right F1
  refine cw (v:=.pointer (some (db (.slice (some ⟨b,0,none⟩) xs.length cap) n j))) (fun w' hC=>?_) ((h z u us).sound B o ho _ w (aw ha) ⟨Z,F',jd,Gd.left (hG.perm su)⟩)
  rw [me q1 q2 (bD ha hx) (bD ha hy) hz.1 (by omega),q3]
  rfl
theorem apO {α V:Type} {S:ai α} {cl:α→V→List Value} {en:α→V→List av} (y:α) {u:V} {d b n e bt:Nat} {s x:OO} {sv:Value} {xs:List α} {cs:LV} {t et ty:TI} {f:Unit→Option M} [ht:C3 P t e n bt]
  (hs:bp fr s=some sv) (hx:bp fr x=some (.slice (some ⟨b,0,none⟩) 1 1)) (h0:ed Γ (.row b cs et) Γ1) (h1:ed Γ1 (.own (aI e S) sv xs) Γ2) (q9:Sz S V cl en) (_hv:wH V u) (hc:cs=cl y u) (hn:S.size=n) (he:EO Γ2 (en y u) Γ3)
  (h:∀ v,D P cx (.o false all l rk (.own (aI e S) v (xs++[y]) :: Γ3) ((d,v) :: fr) (f ()))):D P cx (.e false (.call ⟨.builtin .append,#[s,x],#[t,t]⟩) (some d) ty all l rk Γ fr (fits bt (xs.length+1)>>=f)):=by
 refine D.of ?_
 intro B o cj r w ha fi pos ag g
 have HC:j9 S V cl en:=by cases q9; assumption
 obtain ⟨_,hu,cj⟩:=bind_some cj
 obtain ⟨b1,b2⟩:=qj hu
 obtain ⟨q1,i,z,q2,q3,q4,q5,q6,_⟩:=ht.h
 obtain ⟨Z,F,hS,hG⟩:=fi
 obtain ⟨n0,F0,wL,⟨rfl,bd⟩,yN⟩:=h0.sound hS
 obtain ⟨k,F1,hp,hO,iy⟩:=h1.sound yN
 obtain ⟨Fd,F2,hho,jd,n7⟩:=he.sound iy
 have hy:S.rep w.heap (cl y u) y Fd:=HC.cl (ach (HC.ow y u) hho)
 have su:(((k++Fd)++F2)++[b]).Perm F:=by
  refine .trans ?_ wL
  refine List.perm_append_comm.trans ?_
  refine List.Perm.append_left [b] ?_
  rw [List.append_assoc]
  exact (n7.append_left k).trans hp
 have j8:Gd B Z ((k++Fd)++F2) w:=Gd.left (F':=[b]) (hG.perm su)
 have dp:=(List.nodup_append.1 j8.nd).1
 have zH:=List.nodup_append.1 dp
 subst hc
 obtain ⟨v,w',f',oh,hC,fc,dx,J4⟩:=ql (E:=S) (d:=some d) (ty:=ty) (pos:=pos) (ag:=ag) (g:=none) (k:=Fd) (ys:=[y]) (news:=cl y u) q1 q2 q3 (by rw [q5,hn]) (by rw [q4,hn]) (bD ha hs) hO zH.1 (bD ha hx) (fun i u hi=>bd.at i u hi) (tv hy) (fun b hb hm=>zH.2.2 b hm b hb rfl) (by simp) (by rw [q6]; exact b1) b2
 refine fw (WL.val rfl oh ((h v).sound B o cj _ w' (aw ha) ?_))
 refine St.put jd j8 (hC.mono fun b hb=>List.mem_append_left _ hb) fc (J4 zH.2.1) fun b hb=>?_
 rcases dx b hb with h | h | h
 ·exact .inl (List.mem_append_left _ h)
 ·exact .inl (List.mem_append_right _ h)
 ·exact .inr h
end
end Go.Dk
namespace Go.Dk
open Go Go.Li
section
variable {P:Program} {n:Nat} {l:LO} {Q:Exit→(Nat→Value)→World→Prop} {S:World→Prop}
def Hw (P:Program) (n:Nat) (l:LO) (Q:Exit→(Nat→Value)→World→Prop) (S:World→Prop) (k:Nat) (L:Array Bool) (r:NV) (w:World):Prop:=
 ∀ a:Act,a.tmps.size=n→a.defers=[]→cq a=r→wpAnyH P .any l.toArray (fun e a' w'=>a'.tmps.size=n∧a'.defers=[]∧Q e (cq a') w') S k L a w
theorem Gp {i:Nat} {o:Oper} {a:Act} (hd:di n l=true) (hi:l[i]? = some o) (h1:a.tmps.size=n):∀ k,o.dst=some k→k < a.tmps.size:=by
 intro k hk
 have hm:o∈l:=List.mem_of_getElem? hi
 simp only [di,List.all_eq_true] at hd
 have:=hd o hm
 rw [hk] at this
 rw [h1]
 exact Nat.lt_of_succ_le (Nat.le_of_ble_eq_true this)
theorem Hw.take {k i:Nat} {L:Array Bool} {o:Oper} {v:Value} {r:NV} {w:World} (hd:di n l=true) (hi:l[i]? = some o) (hs:Region.noSelect l.toArray=true) (hf:Region.free .any l.toArray L i=true) (hr:(Region.ready .any l.toArray L).contains i=true)
  (hp:∀ c r w,¬ Q (.panic c) r w) (hg:o.guard=none) (hy:∀ w,S w→(execOp (ev r) o).run P w = .ok (.value v) w) (hS:S w) (h:Hw P n l Q S k (L.setIfInBounds i true) (ic r o.dst v) w):Hw P n l Q S (k+1) L r w:=by
 intro a h1 h2 h3
 refine wpAnyH_take (v:=v) (by simpa using hi) hs hf hr (fun c a w h=>(hp _ _ _ h.2.2).elim) (.inl ⟨vw hg,fun w hw=>?_⟩) hS (h _ (by rw [lg]; exact h1) (by rw [iH]; exact h2) (by rw [mg (Gp hd hi h1),h3]))
 rw [sx,h3]
 exact hy w hw
theorem Hw.step {k i:Nat} {L:Array Bool} {o:Oper} {r:NV} {w w':World} (hd:di n l=true) (hi:l[i]? = some o) (hr:Region.ready .any l.toArray L=[i]) (hg:o.guard=none) (hy:(execOp (ev r) o).run P w = .ok .skip w') (hS:S w') (h:Hw P n l Q S k (L.setIfInBounds i true) (ic r o.dst undef) w'):Hw P n l Q S (k+1) L r w:=by
 intro a h1 h2 h3
 refine wpAnyH_all hr (by simp) fun j hj=>?_
 obtain rfl:j=i:=by simpa using hj
 unfold wpOp
 rw [show (l.toArray)[j]? = some o by simpa using hi]
 simp only []
 rw [if_pos (vw hg)]
 refine .inl ?_
 unfold Oper.wp
 rw [sx,h3,hy]
 exact ⟨hS,h _ (by rw [lg]; exact h1) (by rw [iH]; exact h2) (by rw [mg (Gp hd hi h1),h3])⟩
theorem Hw.done {k:Nat} {L:Array Bool} {r:NV} {w:World} (hr:Region.ready .any l.toArray L=[]) (h:Q .normal r w):Hw P n l Q S k L r w:=
 fun _ h1 h2 h3=>wpAnyH_done hr ⟨h1,h2,by rw [h3]; exact h⟩ k
theorem Hw.start {r:NV} {w:World} (h:Hw P n l Q S l.length (Array.replicate l.length false) r { w with drawn:=w.drawn+1 }):nb P n l Q r w:=
 fun a h1 h2 h3=>wpAny_of_held _ _ _ _ (h a h1 h2 h3)
def E8 (P:Program) (S:World→Prop):List Oper→(Nat→Value)→((Nat→Value)→Prop)→Prop
 | [],r,K=>K r
 | o :: l,r,K=>o.guard=none∧∃ v,(∀ w,S w→(execOp (ev r) o).run P w = .ok (.value v) w)∧E8 P S l (ic r o.dst v) K
def Om (l:LO) (e:Array Bool→Bool):List Nat→Array Bool→Bool
 | [],L=>e L
 | i :: ss,L=>Nat.blt i l.length && (Region.ready .any l.toArray L == [i]) && Om l e ss (L.setIfInBounds i true)
def Ks (l:LO) (e:Array Bool→Bool):List Nat→Array Bool→Bool
 | [],L=>e L
 | i :: qs,L=>Nat.blt i l.length && (Region.ready .any l.toArray L).contains i && Region.free .any l.toArray L i && Ks l e qs (L.setIfInBounds i true)
def YQ (l:LO) (L:Array Bool):Bool:=(Region.ready .any l.toArray L).isEmpty
def pick (l:LO) (is:LN):List Oper:=is.map fun i=>l.getD i default
theorem HD {i:Nat} (h:Nat.blt i l.length=true):l[i]? = some (l.getD i default):=by
 have h1:i < l.length:=Nat.lt_of_succ_le (Nat.le_of_ble_eq_true h)
 rw [List.getD_eq_getElem?_getD,List.getElem?_eq_getElem h1]; rfl
theorem Hw.quiet (hd:di n l=true) (hs:Region.noSelect l.toArray=true) (hp:∀ c r w,¬ Q (.panic c) r w) {e:Array Bool→Bool} {m:Nat} {w:World} (hS:S w) {K:(Nat→Value)→Prop} (h:∀ L r,e L=true→K r→Hw P n l Q S m L r w) :
  ∀ (qs:LN) (L:Array Bool) (r:NV),Ks l e qs L=true→E8 P S (pick l qs) r K→Hw P n l Q S (qs.length+m) L r w:=by
 intro qs
 induction qs with
 | nil=>intro L r hc hv; rw [List.length_nil,Nat.zero_add]; exact h L r hc hv
 | cons i qs ih=>
  intro L r hc hv
  unfold Ks at hc
  simp only [Bool.and_eq_true] at hc
  obtain ⟨⟨⟨c1,c2⟩,c3⟩,c4⟩:=hc
  obtain ⟨hg,v,h1,h2⟩:=hv
  have:=Hw.take hd (HD c1) hs c3 c2 hp hg h1 hS (ih _ _ c4 h2)
  rwa [show qs.length+m+1=(i :: qs).length+m by simp; omega] at this
end
inductive JQ
 | q (ops:LO) (fr:Fr)
 | la (a:Addr) (lk:Option Nat) (t:TI) (x:OO) (d:Nat) (ty:TI) (pos:String) (ag:Array Edge) (ops:LO) (fr:Fr)
inductive QA (P:Program) (Γ:QE):JQ→Fr→Prop
 | nil {fr:Fr}:QA P Γ (.q [] fr) fr
 | ld {d:Nat} {t ty:TI} {x:OO} {lk:Option Nat} {a:Addr} {pos:String} {ag:Array Edge} {ops:LO} {fr o5:Fr} [ht:LK P t lk] (hx:bp fr x=some (.pointer (some a))) (h:QA P Γ (.la a lk t x d ty pos ag ops fr) o5):QA P Γ (.q (⟨some d,.load t x,ty,pos,ag,none⟩ :: ops) fr) o5
 | val {d:Nat} {op:Op} {ty:TI} {u:Value} {pos:String} {ag:Array Edge} {ops:LO} {fr o5:Fr} (hv:VQ P Γ fr op u) (h:QA P Γ (.q ops ((d,u) :: fr)) o5):QA P Γ (.q (⟨some d,op,ty,pos,ag,none⟩ :: ops) fr) o5
 | lc {d:Nat} {t ty:TI} {x:OO} {a:Addr} {u:Value} {pos:String} {ag:Array Edge} {ops:LO} {fr o5:Fr} (h:xr Γ a u) (k:QA P Γ (.q ops ((d,u) :: fr)) o5):QA P Γ (.la a none t x d ty pos ag ops fr) o5
 | ls {d n:Nat} {t ty:TI} {x:OO} {a:Addr} {ds:LV} {pos:String} {ag:Array Edge} {ops:LO} {fr o5:Fr} (h:xy Γ a n ds) (k:QA P Γ (.q ops ((d,.agg ds.toArray) :: fr)) o5):QA P Γ (.la a (some n) t x d ty pos ag ops fr) o5
inductive RO (fr:Fr):List Oper→List av→List (Nat×List Value×TypeId)→List av→Prop
 | nil {Γ:QE}:RO fr [] Γ [] Γ
 | cons {t ty e:TI} {x y:OO} {b:Nat} {cs:LV} {pos:String} {ag:Array Edge} {ops:LO} {Γ Γ1 Γ2:QE} {rs:List (Nat×List Value×TypeId)} (hx:bp fr x=some (.pointer (some ⟨b,0,none⟩))) (h:ed Γ (.row b cs e) Γ1) (k:RO fr ops Γ1 rs Γ2):RO fr (⟨none,.store t x y,ty,pos,ag,none⟩ :: ops) Γ ((b,cs,e) :: rs) Γ2
inductive SQ (P:Program) (Γ:QE) (fr:Fr):List Oper→List (Nat×List Value×TypeId)→List (Nat×List Value×TypeId)→Prop
 | nil:SQ P Γ fr [] [] []
 | cons {n:Nat} {t ty e:TI} {x y:OO} {b:Nat} {u:Value} {us cs ds:LV} {pos:String} {ag:Array Edge} {ops:LO} {rs vo:List (Nat×List Value×TypeId)} [ht:wk P t n] (hx:bp fr x=some (.pointer (some ⟨b,0,none⟩))) (hy:bp fr y=some u) (hc:um Γ u us) (hn:us.length=n) (hs:vT us 0 cs ds) (ho:xx Γ us) (k:SQ P Γ fr ops rs vo) :
   SQ P Γ fr (⟨none,.store t x y,ty,pos,ag,none⟩ :: ops) ((b,cs,e) :: rs) ((b,ds,e) :: vo)
def Gq:List (Nat×List Value×TypeId)→List av
 | []=>[]
 | (b,cs,e) :: l=>.row b cs e :: Gq l
def Rows (w:World) (rs:List (Nat×List Value×TypeId)):Prop:=∀ p∈rs,Row w p.1 p.2.1 p.2.2
section
variable {P:Program} {Γ Γ2:QE} {S:World→Prop} {Z:Nat→Prop}
def afa (P:Program) (S:World→Prop):JQ→Fr→Prop
 | .q ops fr,o5=>∀ r,dg r fr→E8 P S ops r fun r'=>dg r' o5
 | .la a lk t x d ty pos ag ops fr,o5=>(match lk with | none=>NA P t | some n=>AG P t n)→bp fr x=some (.pointer (some a))→∀ r,dg r fr→E8 P S (⟨some d,.load t x,ty,pos,ag,none⟩ :: ops) r fun r'=>dg r' o5
theorem QA.sound {J:JQ} {o5:Fr} (hS:∀ w,S w→∃ cur F,SA Z w Γ cur F) (h:QA P Γ J o5):afa P S J o5:=by
 induction h with
 | nil=>exact fun r h=>h
 | @ld d t ty x lk a pos ag ops fr o5 ht hx _ ih=>exact fun r ha=>ih ht.h hx r ha
 | @val d op ty u pos ag ops fr o5 hv _ ih=>
  intro r ha
  refine ⟨rfl,u,fun w hw=>?_,ih _ (aw ha)⟩
  obtain ⟨cur,F,h⟩:=hS w hw
  exact hv.sound h ha (some d) ty pos ag none w (aq.refl _ _)
 | @lc d t ty x a u pos ag ops fr o5 h _ ih=>
  intro ht hx r ha
  refine ⟨rfl,u,fun w hw=>?_,ih _ (aw ha)⟩
  obtain ⟨cur,F,hs⟩:=hS w hw
  exact Ld ht (h.sound hs) (bD ha hx) w (aq.refl _ _)
 | @ls d n t ty x a ds pos ag ops fr o5 h _ ih=>
  intro ht hx r ha
  refine ⟨rfl,_,fun w hw=>?_,ih _ (aw ha)⟩
  obtain ⟨cur,F,hs⟩:=hS w hw
  obtain ⟨h1,h2⟩:=h.sound hs
  exact Lg ht h1 (bD ha hx) h2 w (aq.refl _ _)
theorem RO.sound {fr:Fr} {ops:LO} {rs:List (Nat×List Value×TypeId)} {w:World} (h:RO fr ops Γ rs Γ2):∀ {F:LN},SA Z w Γ [] F→∃ F2,(rs.map (·.1)++F2).Perm F∧Rows w rs∧SA Z w Γ2 [] F2:=by
 induction h with
 | nil=>intro F h; exact ⟨F,.refl _,fun _ h=>absurd h List.not_mem_nil,h⟩
 | @cons t ty e x y b cs pos ag ops Γ Γ1 Γ2 rs hx h _ ih=>
  intro F hS
  obtain ⟨f,F1,hp,⟨rfl,bd⟩,iy⟩:=h.sound hS
  obtain ⟨F2,n7,hr,jd⟩:=ih iy
  refine ⟨F2,?_,fun p hp=>?_,jd⟩
  ·exact .trans (List.Perm.cons b n7) hp
  ·rcases List.mem_cons.1 hp with rfl | hp
   ·exact bd
   ·exact hr p hp
theorem SQ.sound {n m:Nat} {e:Array Bool→Bool} {l:LO} {Q:Exit→(Nat→Value)→World→Prop} {fr:Fr} {ops:LO} {rs vo:List (Nat×List Value×TypeId)} {F2:LN} {w0:World} {r:NV} {F:LN} (hd:di n l=true) (ha:dg r fr) (M6:∀ w,aq F w0 w→SA Z w Γ2 [] F2) (h:SQ P Γ2 fr ops rs vo) :
  ∀ (ss:LN) (L:Array Bool) (w:World),ops=pick l ss→Om l e ss L=true→aq F w0 w→Rows w rs→(rs.map (·.1)).Nodup→(∀ b∈rs.map (·.1),b∈F)→(∀ L w',e L=true→aq F w0 w'→aq (rs.map (·.1)) w w'→Rows w' vo→Hw P n l Q (aq F w0) m L r w')→Hw P n l Q (aq F w0) (ss.length+m) L r w:=by
 induction h with
 | nil=>
  intro ss L w ho hc hC hR hn hF hk
  cases ss with
  | cons i ss=>cases ho
  | nil=>
   rw [List.length_nil,Nat.zero_add]; exact hk L w hc hC (aq.refl _ _) hR
 | @cons n' t ty e' x y b u us cs ds pos ag ops rs vo ht hx hy BL hn hsg hon _ ih=>
  intro ss L w ho hc hC hR dp hF hk
  cases ss with
  | nil=>cases ho
  | cons i ss=>
   unfold Om at hc
   simp only [Bool.and_eq_true] at hc
   obtain ⟨⟨c1,c2⟩,c3⟩:=hc
   have cj:l.getD i default = ⟨none,.store t x y,ty,pos,ag,none⟩∧ops=pick l ss:=by
    unfold pick at ho
    rw [List.map_cons,List.cons.injEq] at ho
    exact ⟨ho.1.symm,ho.2⟩
   have hi:=HD c1
   rw [cj.1] at hi
   obtain ⟨ti,q1,q2⟩:=ht.h
   have bd:Row w b cs e':=hR (b,cs,e') (by simp)
   obtain ⟨e1,e2⟩:=hsg.eq
   have hSw:=M6 w hC
   have oh:=xW (P:=P) (d:=none) (ty:=ty) (pos:=pos) (ag:=ag) (gg:=none) q1 (by rw [hn,q2]) bd e1 (bD ha hx) (y:=y) (by rw [bD ha hy]; exact BL.eq hSw) (hon.one hSw)
   have wM:=setRow_heap w b cs.toArray (cs.take 0++us++cs.drop (0+us.length)).toArray e' _ bd
   have DK:aq [b] w (w.setRow b (cs.take 0++us++cs.drop (0+us.length)).toArray):=⟨rfl,rfl,rfl,Nat.le_refl _,by simp,fun j _ hj=>setRow_other w b j _ fun h=>hj (by simp [h])⟩
   have P4:=hC.trans (DK.mono fun b' cu=>by rw [List.mem_singleton.1 cu]; exact hF b (by simp))
   rw [List.map_cons,List.nodup_cons] at dp
   rw [show (i :: ss).length+m=ss.length+m+1 by simp; omega]
   refine Hw.step hd hi (by simpa using c2) rfl oh P4 (ih ss _ _ cj.2 c3 P4 (fun p hp=>(hR p (List.mem_cons_of_mem _ hp)).fk DK fun hb=>dp.1 ?_) dp.2 (fun b' cu=>hF b' (by simp at cu ⊢; exact .inr cu)) fun L' w' he DA JT YR=>?_)
   ·rw [← List.mem_singleton.1 hb]; exact List.mem_map_of_mem (f:=fun q=>q.1) hp
   ·refine hk L' w' he DA ((DK.mono (by simp)).trans (JT.mono fun b' cu=>List.mem_cons_of_mem _ cu)) fun p hp=>?_
    rcases List.mem_cons.1 hp with rfl | hp
    ·refine Row.fk (F:=rs.map (·.1)) ?_ JT dp.1
     rw [e2]
     exact wM
    ·exact YR p hp
theorem SQ.fst {fr:Fr} {ops:LO} {rs vo:List (Nat×List Value×TypeId)} (h:SQ P Γ fr ops rs vo):vo.map (·.1)=rs.map (·.1):=by
 induction h with
 | nil=>rfl
 | cons _ _ _ _ _ _ _ ih=>simp only [List.map_cons,ih]
theorem Kt {w:World}:∀ {rs:List (Nat×List Value×TypeId)},Rows w rs→HL Z w (Gq rs) (rs.map (·.1))
 | [],_=>.nil
 | (b,cs,e) :: l,h=>.own (f:=[b]) (e:=.row b cs e) ⟨rfl,h (b,cs,e) (by simp)⟩ (Kt fun p hp=>h p (List.mem_cons_of_mem _ hp))
end
section
variable {R S:Type} {P:Program} {cx:Cx R} {K:dq R S} {l:LO}
theorem anyS {id:Nat} (qs ss ts:LN) {YS sy SC:LO} {Γ Γ1:QE} {fr Ve o5:Fr} {rs vo:List (Nat×List Value×TypeId)} {m:Option (Out S R)}
  (hB:(P.follows .mixedOrders && di cx.n l && Region.noSelect l.toArray && Ks l (Om l (Ks l (YQ l) ts) ss) qs (Array.replicate l.length false) && Nat.beq l.length (qs.length+(ss.length+(ts.length+0))))=true)
  (hq:YS=pick l qs) (hs:sy=pick l ss) (ht:SC=pick l ts) (h1:RO fr sy Γ rs Γ1) (h2:QA P Γ1 (.q YS fr) Ve) (h3:SQ P Γ1 Ve sy rs vo) (h4:QA P Γ1 (.q SC Ve) o5)
  (h:D P cx (.p [] (Gq vo) o5 Γ1 fun fr Γ=>.n K Γ fr m)):Bx (qi P cx (.dr id l K Γ fr m)):=by
 simp only [Bool.and_eq_true] at hB
 obtain ⟨⟨⟨⟨b1,b2⟩,b3⟩,b4⟩,b5⟩:=hB
 rw [rq]
 intro B o ho r w ha rz
 obtain ⟨Z,F,hS,hG⟩:=rz
 obtain ⟨F2,hp,hR,jd⟩:=h1.sound hS
 have j8:=hG.perm hp
 have dp:=List.nodup_append.1 j8.nd
 refine nb.W b1 (Hw.start (S:=aq (rs.map (·.1)) { w with drawn:=w.drawn+1 }) ?_)
 have YT:aq [] w { w with drawn:=w.drawn+1 }:=aq.drew _ _
 have M6:∀ w',aq (rs.map (·.1)) { w with drawn:=w.drawn+1 } w'→SA Z w' Γ1 [] F2:=fun w' hC=>(jd.lu YT).fk hC (fun b hb=>j8.apart b (List.mem_append_left _ hb)) (fun b _=>List.not_mem_nil) (fun b hb hm=>dp.2.2 b hb b hm rfl)
 rw [show l.length=qs.length+(ss.length+(ts.length+0)) from Nat.eq_of_beq_eq_true b5] at b4 ⊢
 subst hq hs ht
 refine Hw.quiet (K:=fun r'=>dg r' Ve) b2 b3 (fun c r w h=>vy c h) (aq.refl _ _) (fun L r' hc ik=>?_) qs _ r b4 (QA.sound (fun w' hC=>⟨[],F2,M6 w' hC⟩) h2 r ha)
 refine SQ.sound b2 ik M6 h3 ss L _ rfl hc (aq.refl _ _) (fun p hp=>(hR p hp).lu YT) dp.1 (fun b hb=>hb) fun L2 w' he hCF hC YR=>?_
 refine Hw.quiet (K:=fun r'=>dg r' o5) b2 b3 (fun c r w h=>vy c h) hCF (fun L3 r3 hc3 hr3=>Hw.done (by simpa [YQ] using hc3) ?_) ts _ r' he (QA.sound (fun w' hC=>⟨[],F2,M6 w' hC⟩) h4 r' ik)
 obtain ⟨F3,e1,e2⟩:=HL.build (Kt YR) (M6 w' hC)
 have P4:aq (rs.map (·.1)) w w':=(YT.mono fun b hb=>absurd hb List.not_mem_nil).trans hC
 rw [h3.fst] at e1
 have xL:∀ b∈rs.map (·.1),b∈B.G∨B.w.heap.size≤b:=fun b hb=>j8.low b (List.mem_append_left _ hb)
 have mw:Gd B Z (rs.map (·.1)++F2) w':=⟨j8.nd,j8.apart,fun b hb=>Nat.lt_of_lt_of_le (j8.tb b hb) P4.size,j8.low,j8.zx,j8.zy,j8.ly.then P4 xL⟩
 exact h.sound B o ho r3 w' (by simpa using hr3) ⟨Z,F3,e2,mw.perm e1⟩
end
theorem Hw.all {P:Program} {n k:Nat} {l:LO} {Q:Exit→(Nat→Value)→World→Prop} {S:World→Prop} {L:Array Bool} {rs:LN} {r:NV} {w:World} (hd:di n l=true) (hr:Region.ready .any l.toArray L=rs) (rb:rs≠[])
  (h:∀ i∈rs,∃ o,l[i]? = some o∧o.guard=none∧∃ v w',((execOp (ev r) o).run P w = .ok (.value v) w'∨(execOp (ev r) o).run P w = .ok .skip w'∧v=undef)∧S w'∧Hw P n l Q S k (L.setIfInBounds i true) (ic r o.dst v) w'):Hw P n l Q S (k+1) L r w:=by
 intro a h1 h2 h3
 refine wpAnyH_all hr rb fun j hj=>?_
 obtain ⟨o,hi,hg,v,w',hy,hS,hk⟩:=h j hj
 unfold wpOp
 rw [show (l.toArray)[j]? = some o by simpa using hi]
 simp only []
 rw [if_pos (vw hg)]
 refine .inl ?_
 unfold Oper.wp
 rw [sx,h3]
 rcases hy with hy | ⟨hy,rfl⟩
 ·rw [hy]
  exact ⟨hS,hk _ (by rw [lg]; exact h1) (by rw [iH]; exact h2) (by rw [mg (Gp hd hi h1),h3])⟩
 ·rw [hy]
  exact ⟨hS,hk _ (by rw [lg]; exact h1) (by rw [iH]; exact h2) (by rw [mg (Gp hd hi h1),h3])⟩
def on (L:Array Bool) (i:Nat):Array Bool:=L.setIfInBounds i true
def E5 (l:LO) (L:Array Bool) (rs:LN):Bool:=Region.ready .any l.toArray L == rs
inductive Ku (P:Program) (Γ:QE) (fr:Fr) (d:Nat):Oper→Oper→TypeId→List Value→Prop
 | mk {t ty YU:TI} {y:OO} {u:Value} {n:Nat} {us cs ds:LV} {pos SD:String} {ag SE:Array Edge} [hz:zB P t cs] [ht:wk P t n] (hn:look fr d=none) (hy:bp fr y=some u) (hc:um Γ u us) (hl:us.length=n) (hs:vT us 0 cs ds) (ho:xx Γ us) :
   Ku P Γ fr d ⟨some d,.alloc t,ty,pos,ag,none⟩ ⟨none,.store t (.tmp d) y,YU,SD,SE,none⟩ t ds
section
variable {P:Program} {Γ:QE} {Z:Nat→Prop} {fr:Fr} {w:World} {cur F:LN}
theorem Ku.alloc {d:Nat} {oa os:Oper} {t:TI} {ds:LV} (h:Ku P Γ fr d oa os t ds) (r:NV) (w:World):oa.guard=none∧oa.dst=some d∧look fr d=none∧∃ cs w',(execOp (ev r) oa).run P w = .ok (.value (.pointer (some ⟨w.heap.size,0,none⟩))) w'∧aq [] w w'∧Row w' w.heap.size cs t∧
  ∀ (r':NV) (w1:World) (b:Nat) cur F,SA Z w1 Γ cur F→dg r' fr→r' d = .pointer (some ⟨b,0,none⟩)→Row w1 b cs t→∃ w2,(execOp (ev r') os).run P w1 = .ok .skip w2∧aq [b] w1 w2∧Row w2 b ds t:=by
 cases h with
 | @mk t ty YU y u n us cs ds pos SD ag SE hz ht hn hy hc hl hs ho=>
  obtain ⟨i',z,t1,t2,t3⟩:=hz.h
  refine ⟨rfl,rfl,hn,z.cells.toList,_,Fw t1 t2,aq.alloc _ _ _,?_,?_⟩
  ·have:=heap_alloc_new w (.cells z.cells t (0,0))
   unfold Row
   simpa using this
  ·intro r' w1 b cur F hS ha hr bd
   rw [t3] at bd
   obtain ⟨ti,q1,q2⟩:=ht.h
   obtain ⟨e1,e2⟩:=hs.eq
   have oh:=xW (P:=P) (d:=none) (ty:=YU) (pos:=SD) (ag:=SE) (gg:=none) q1 (by rw [hl,q2]) bd e1 (x:=.tmp d) hr (y:=y) (by rw [bD ha hy]; exact hc.eq hS) (ho.one hS)
   refine ⟨_,oh,⟨rfl,rfl,rfl,Nat.le_refl _,by simp,fun j _ hj=>setRow_other w1 b j _ fun h=>hj (by simp [h])⟩,?_⟩
   have wM:=setRow_heap w1 b cs.toArray (cs.take 0++us++cs.drop (0+us.length)).toArray t _ bd
   rw [e2]
   exact wM
theorem Ku.st {d:Nat} {oa os:Oper} {t:TI} {ds:LV} (h:Ku P Γ fr d oa os t ds):os.guard=none∧os.dst=none:=by
 cases h; exact ⟨rfl,rfl⟩
variable {n:Nat} {l:LO} {Q:Exit→(Nat→Value)→World→Prop} {w0:World} {F2:LN} {a1 a2 s1 s2 d1 d2:Nat} {oa1 oa2 os1 os2:Oper} {t1 t2:TI} {ds1 ds2:LV} {L:Array Bool} {r:NV}
end
section
variable {R S:Type} {P:Program} {cx:Cx R} {K:dq R S} {l:LO}
end
end Go.Dk
namespace Go.Dk
open Go Go.Li
def YV (i:Nat) (o:Oper):Oper:=⟨o.dst,o.op,o.type,o.pos,o.after.push ⟨i,.data⟩,o.guard⟩
def wq (i:Nat):Nat→List Oper→List Oper
 | _,[]=>[]
 | 0,o :: l=>YV i o :: l
 | j+1,o :: l=>o :: wq i j l
theorem HE (i:Nat):∀ (j:Nat) (l:LO),(wq i j l).length=l.length
 | _,[]=>by cases ‹Nat› <;> rfl
 | 0,_ :: _=>rfl
 | j+1,o :: l=>by unfold wq; rw [List.length_cons,List.length_cons,HE i j l]
theorem Ez (i:Nat):∀ (j:Nat) (l:LO) (k:Nat),(wq i j l)[k]? = (l[k]?).map fun o=>if k=j then YV i o else o
 | 0,[],k=>by simp [wq]
 | j+1,[],k=>by simp [wq]
 | 0,o :: l,0=>by simp [wq]
 | 0,o :: l,k+1=>by simp [wq]
 | j+1,o :: l,0=>by simp [wq]
 | j+1,o :: l,k+1=>by
  unfold wq
  rw [List.getElem?_cons_succ,List.getElem?_cons_succ,Ez i j l k]
  simp
section
variable {P:Program} {l:LO} {Q:Exit→Act→World→Prop} {i j:Nat}
theorem Mh (tmps:Array Value):yielded (wq i j l).toArray tmps=yielded l.toArray tmps:=by
 funext k
 simp only [yielded]
 rw [List.getElem?_toArray,List.getElem?_toArray,Ez]
 cases l[k]? with
 | none=>rfl
 | some o=>
  simp only [Option.map_some,Option.bind_some]
  by_cases h:k=j
  ·rw [if_pos h]; rfl
  ·rw [if_neg h]
theorem Kv {k:Nat} {K:Act→World→Prop} {a:Act} {w:World}:wpOp P (wq i j l).toArray Q k K a w=wpOp P l.toArray Q k K a w:=by
 unfold wpOp
 rw [Mh,List.getElem?_toArray,List.getElem?_toArray,Ez]
 cases l[k]? with
 | none=>rfl
 | some o=>
  simp only [Option.map_some]
  by_cases h:k=j
  ·rw [if_pos h]; rfl
  ·rw [if_neg h]
theorem Iv {L:Array Bool} (hL:L.getD i false=true):Region.ready .any (wq i j l).toArray L=Region.ready .any l.toArray L:=by
 unfold Region.ready
 rw [List.size_toArray,List.size_toArray,HE]
 refine List.filter_congr fun k _=>?_
 rw [List.getElem?_toArray,List.getElem?_toArray,Ez]
 cases l[k]? with
 | none=>rfl
 | some o=>
  simp only [Option.map_some]
  by_cases h:k=j
  ·rw [if_pos h]
   simp only [YV,Array.all_push,hL,Bool.or_true,Bool.and_true]
  ·rw [if_neg h]
theorem Iw:∀ (fuel:Nat) (L:Array Bool) (a:Act) (w:World),L.getD i false=true→wpAny P .any (wq i j l).toArray Q fuel L a w→wpAny P .any l.toArray Q fuel L a w
 | 0,L,a,w,hL,h=>by
  unfold wpAny at h ⊢
  rw [Iv hL] at h
  exact h
 | fuel+1,L,a,w,hL,h=>by
  unfold wpAny at h ⊢
  rw [Iv hL] at h
  refine ⟨h.1,fun k hk=>?_⟩
  have h2:=h.2 k hk
  rw [Kv] at h2
  exact wpOp_mono (fun a' w' h'=>Iw fuel _ a' w' (getD_set_true hL) h') h2
end
def YW:Oper→Bool
 | ⟨some _,.move _,_,_,_,none⟩=>true
 | _=>false
def Oo:List (Nat×Nat)→List Oper→Bool
 | [],_=>true
 | (i,j) :: zs,l=>!(Nat.beq i j) && Nat.blt i l.length && YW (l.getD i default) && Region.noSelect l.toArray && Region.free .any l.toArray (Array.replicate l.length false) i && (Region.ready .any l.toArray (Array.replicate l.length false)).contains i && (Region.ready .any (wq i j l).toArray (Array.replicate l.length false)).contains i && Oo zs (wq i j l)
def SF:List (Nat×Nat)→List Oper→List Oper
 | [],l=>l
 | (i,j) :: zs,l=>SF zs (wq i j l)
section
variable {P:Program} {n:Nat} {Q:Exit→(Nat→Value)→World→Prop} {r:NV} {w w0:World}
theorem WG {o:Oper} (h:YW o=true) (a:Act):o.guard=none∧∃ v,(∀ w,(execOp a.eval o).run P w = .ok (.value v) w)∧∀ w,¬ o.asks P a w:=by
 obtain ⟨d,op,ty,pos,ag,g⟩:=o
 cases d <;> cases op <;> cases g <;> first | (cases h; done) | skip
 refine ⟨rfl,_,fun w=>rfl,fun w ha=>?_⟩
 have h1:=ha.1
 exact absurd (show noRoomEvent∈(#[]:Array _) from h1) (by simp)
theorem nb.afb {i j:Nat} {l:LO} (h1:(!(Nat.beq i j) && Nat.blt i l.length && YW (l.getD i default) && Region.noSelect l.toArray && Region.free .any l.toArray (Array.replicate l.length false) i && (Region.ready .any l.toArray (Array.replicate l.length false)).contains i && (Region.ready .any (wq i j l).toArray (Array.replicate l.length false)).contains i)=true)
  (hp:∀ c r w,¬ Q (.panic c) r w) (h:nb P n (wq i j l) Q r w):nb P n l Q r w:=by
 simp only [Bool.and_eq_true] at h1
 obtain ⟨⟨⟨⟨⟨⟨c1,c2⟩,c3⟩,c4⟩,c5⟩,c6⟩,c7⟩:=h1
 have rb:i≠j:=fun e=>by rw [e,Nat.beq_refl] at c1; cases c1
 have hi:=HD c2
 have bn:i < l.length:=Nat.lt_of_succ_le (Nat.le_of_ble_eq_true c2)
 intro a g1 g2 g3
 have H:=h a g1 g2 g3
 obtain ⟨hg,v,hv,hn⟩:=WG (P:=P) c3 a
 rw [List.size_toArray,HE] at H
 rw [List.size_toArray]
 obtain ⟨f,hf⟩ : ∃ f,l.length=f+1:=⟨l.length - 1,by omega⟩
 have hw:Region.wanted (l.getD i default) (yielded l.toArray a.tmps)=true:=vw hg
 refine (congrArg (fun k=>wpAny P .any l.toArray _ k _ a _) hf).mpr ?_
 refine wpAny_take (by simpa using hi) c4 (by simpa using c5) (by simpa using c6) (fun c a w h=>(hp _ _ _ h.2.2).elim) (.inl ⟨hw,hv⟩) ?_
 refine Iw (i:=i) (j:=j) f _ _ _ ?_ ?_
 ·have:i < (Array.replicate l.length false).size:=by simpa using bn
  simp [Array.getD,bn]
 ·have H2:=(congrArg (fun k=>wpAny P .any (wq i j l).toArray (fun e a' w'=>a'.tmps.size=n∧a'.defers=[]∧Q e (cq a') w') k (Array.replicate l.length false) a { w with drawn:=w.drawn+1 }) hf).mp H
  have H3:=H2.2 i (by simpa using c7)
  rw [Kv] at H3
  unfold wpOp at H3
  rw [show (l.toArray)[i]? = some (l.getD i default) by simpa using hi] at H3
  simp only [] at H3
  rw [if_pos hw] at H3
  rcases H3 with H3 | H3
  ·unfold Oper.wp at H3
   rw [hv] at H3
   exact H3
  ·exact absurd H3.1 (hn _)
theorem nb.Vf:∀ (zs:List (Nat×Nat)) {l:LO},Oo zs l=true→(∀ c r w,¬ Q (.panic c) r w)→nb P n (SF zs l) Q r w→nb P n l Q r w
 | [],_,_,_,h=>h
 | (i,j) :: zs,l,hc,hp,h=>by
  unfold Oo at hc
  rw [Bool.and_eq_true] at hc
  exact nb.afb hc.1 hp (nb.Vf zs hc.2 hp h)
theorem P5 (k:Nat) {l:LO} (hd:di n l=true) (hp:((l.take k).all fun o=>zI o.op)=true) (hB:Region.lexTailB .any l.toArray k=true)
  (h:QL P (aq [] w) l (l.take k) r fun r'=>∀ w',aq [] w w'→WL P l (l.drop k) r' w' (Q .normal)):nb P n l Q r w:=by
 intro a h1 h2 h3
 have DK:aq [] w { w with drawn:=w.drawn+1 }:=aq.drew _ _
 have rz:wpStill P l.toArray { w with drawn:=w.drawn+1 } (fun a'=>wpList P l.toArray (fun e a' w'=>a'.tmps.size=n∧a'.defers=[]∧Q e (cq a') w') (l.drop k) a' { w with drawn:=w.drawn+1 }) (l.take k) a:=by
  refine QL.still (n:=n) (C:=aq [] w) DK hd (l.take k) a (Cq hd fun o ho=>List.mem_of_mem_take ho) hp h1 h2 (by rw [h3]; exact h) _ ?_
  intro a' g1 g2 g3
  exact WL.list hd _ _ _ (Cq hd fun o ho=>List.mem_of_mem_drop ho) g1 g2 (g3 _ DK)
 unfold Region.lexTailB at hB
 simp only [Bool.and_eq_true,decide_eq_true_eq,List.size_toArray] at hB
 obtain ⟨⟨⟨⟨afc,hn⟩,hs⟩,hc⟩,Su⟩:=hB
 have Vg:(l.take k).length=k:=by rw [List.length_take]; omega
 have afd:HeadInv .any l.toArray k (Array.replicate l.length false):=
  ⟨by simp,fun j oj _ hl=>(by rw [getD_replicate_false] at hl; cases hl),fun t _ ht=>getD_in (by simpa using ht) (getD_replicate_false _ _)⟩
 have H:=wpAnyL_lex (md:=.any) (g:=l.length - k) afc hs hc (by simpa using hn) (l.take k) 0 _ a (fun j hj=>by
  rw [Vg] at hj
  rw [List.getElem?_take_of_lt hj,Nat.zero_add,List.getElem?_toArray]) (by rw [Vg,Nat.zero_add]) afd (by rw [Vg]; exact Su) rz
 have H2:=wpAny_of_head (Q':=fun e a' w'=>a'.tmps.size=n∧a'.defers=[]∧Q e (cq a') w') (g:=l.length - k) (fun L a' hL=>by
  have H3:=wpAny_of_seq (md:=.any) (Q':=fun e a' w'=>a'.tmps.size=n∧a'.defers=[]∧Q e (cq a') w') (l.drop k) k L a' { w with drawn:=w.drawn+1 } (fun j=>by rw [List.getElem?_drop,List.getElem?_toArray]) (by rw [List.length_drop]; exact hL.1) hL.2
  rwa [List.length_drop] at H3) _ _ _ H
 rw [Vg,show k+(l.length - k)=l.length by omega] at H2
 rw [List.size_toArray]
 exact H2
end
section
variable {R S:Type} {P:Program} {cx:Cx R} {K:dq R S}
theorem Vh {id:Nat} (zs:List (Nat×Nat)) (k:Nat) {l l' ops tl:LO} {Γ:QE} {fr:Fr} {m:Option (Out S R)} (hl:l'=SF zs l) (hB:(P.follows .mixedOrders && Oo zs l && di cx.n l' && ((l'.take k).all fun o=>zI o.op) && Region.lexTailB .any l'.toArray k)=true) (ho:ops=l'.take k) (ht:tl=l'.drop k)
  (h:D P cx (.o true l' ops (.h l' tl K) Γ fr m)):Bx (qi P cx (.dr id l K Γ fr m)):=by
 simp only [Bool.and_eq_true] at hB
 obtain ⟨⟨⟨⟨h1,h2⟩,h3⟩,h4⟩,h5⟩:=hB
 subst ho ht hl
 rw [rq]
 intro B o ho r w ha hs
 exact nb.W h1 (nb.Vf zs h2 (fun c r w h=>vy c h) (P5 k h3 h4 h5 (h.sound B o ho r w ha hs)))
end
end Go.Dk
namespace Go.Dk
open Go Go.Li
section
variable {B:Bs} {P:Program} {Z Z':Nat→Prop} {w:World} {Fd F1:LN}
end
section
variable {P:Program} {S:World→Prop}
theorem E8.mono {K K':(Nat→Value)→Prop} (hk:∀ r,K r→K' r):∀ {ops:LO} {r:NV},E8 P S ops r K→E8 P S ops r K'
 | [],_,h=>hk _ h
 | _ :: _,_,⟨hg,v,h1,h2⟩=>⟨hg,v,h1,E8.mono hk h2⟩
end
inductive QX {R S:Type} (P:Program) (cx:Cx R) (K:dq R S) (sy:LO) (rs:List (Nat×List Value×TypeId)) (pe:QE):List av→List av→List Oper→Fr→Option (Out S R)→Prop
 | pe {e:av} {Δ Γ:QE} {ops:LO} {fr:Fr} {m:Option (Out S R)} (h:QX P cx K sy rs pe Δ (e :: Γ) ops fr m):QX P cx K sy rs pe (e :: Δ) Γ ops fr m
 | nil {Γ:QE} {fr:Fr} {m:Option (Out S R)} {vo:List (Nat×List Value×TypeId)} (h:SQ P Γ fr sy rs vo) (k:D P cx (.p [] pe fr Γ fun fr Γ=>.p [] (Gq vo) fr Γ fun fr Γ=>.n K Γ fr m)):QX P cx K sy rs pe [] Γ [] fr m
 | Pu {d n:Nat} {t ty:TI} {x:OO} {a:Addr} {ds:LV} {pos:String} {ag:Array Edge} {ops:LO} {Γ:QE} {fr:Fr} {m:Option (Out S R)} [ht:LK P t (some n)] (hx:bp fr x=some (.pointer (some a))) (hw:xy Γ a n ds) (h:QX P cx K sy rs pe [] Γ ops ((d,.agg ds.toArray) :: fr) m) :
   QX P cx K sy rs pe [] Γ (⟨some d,.load t x,ty,pos,ag,none⟩ :: ops) fr m
 | Jv {α V:Type} {d n:Nat} {x y:OO} {v:Value} {k:IntKind} {j:Int} {t ty:TI} {S':ai α} {cl:α→V→List Value} {en:α→V→List av} {xs:List α} {pos:String} {ag:Array Edge} {ops:LO} {Γ Γx:QE} {fr:Fr} {f:α→Option (Out S R)} [ht:Jq P t n] (hx:bp fr x=some v) (hy:bp fr y=some (.int k j))
   (hr:qh Γ v false false (sr S') xs vv Γx) (hs:Ie S' V cl en) (hn:S'.size=n) (h:∀ z u,QX P cx K sy rs pe (.bc (db v n j) (cl z u) :: en z u) Γ ops ((d,.pointer (some (db v n j))) :: fr) (f z)) :
   QX P cx K sy rs pe [] Γ (⟨some d,.indexAddr t x y,ty,pos,ag,none⟩ :: ops) fr (idx xs j>>=f)
 | lc {d:Nat} {t ty:TI} {x:OO} {a:Addr} {u:Value} {pos:String} {ag:Array Edge} {ops:LO} {Γ:QE} {fr:Fr} {m:Option (Out S R)} [ht:LK P t none] (hx:bp fr x=some (.pointer (some a))) (hw:xr Γ a u) (h:QX P cx K sy rs pe [] Γ ops ((d,u) :: fr) m) :
   QX P cx K sy rs pe [] Γ (⟨some d,.load t x,ty,pos,ag,none⟩ :: ops) fr m
 | val {d:Nat} {op:Op} {ty:TI} {u:Value} {pos:String} {ag:Array Edge} {ops:LO} {Γ:QE} {fr:Fr} {m:Option (Out S R)} (hv:VQ P Γ fr op u) (h:QX P cx K sy rs pe [] Γ ops ((d,u) :: fr) m):QX P cx K sy rs pe [] Γ (⟨some d,op,ty,pos,ag,none⟩ :: ops) fr m
section
variable {R S:Type} {P:Program} {cx:Cx R} {K:dq R S} {sy:LO} {rs:List (Nat×List Value×TypeId)} {pe:QE} {Z:Nat→Prop}
theorem QX.sound {w0:World} {H:LN} (hz:∀ b∈H,¬ Z b) {Δ Γ:QE} {ops:LO} {fr:Fr} {m:Option (Out S R)} (h:QX P cx K sy rs pe Δ Γ ops fr m):∀ {o:Out S R} {F:LN},m=some o→(∀ b∈H,b ∉ F)→SA Z w0 (Δ.reverse++Γ) [] F→∀ r,dg r fr→
  E8 P (aq H w0) ops r fun r'=>∃ Γ' o5 vo m' F',F'.Perm F∧m'=some o∧dg r' o5∧SA Z w0 Γ' [] F'∧SQ P Γ' o5 sy rs vo∧D P cx (.p [] pe o5 Γ' fun fr Γ=>.p [] (Gq vo) fr Γ fun fr Γ=>.n K Γ fr m'):=by
 induction h with
 | @pe e Δ Γ ops fr m _ ih=>
  intro o F hm hF hS r ha
  refine ih hm hF ?_ r ha
  rw [List.reverse_cons,List.append_assoc] at hS
  exact hS
 | @nil Γ fr m vo h k=>exact fun hm hF hS r ha=>⟨Γ,fr,vo,m,_,.refl _,hm,ha,hS,h,k⟩
 | @val d op ty u pos ag ops Γ fr m hv _ ih=>
  intro o F hm hF hS r ha
  refine ⟨rfl,u,fun w hC=>?_,ih hm hF hS _ (aw ha)⟩
  exact hv.sound ((SA.fk hC hz (fun _ _=>List.not_mem_nil) hF hS)) ha (some d) ty pos ag none w (aq.refl _ _)
 | @Pu d n t ty x a ds pos ag ops Γ fr m ht hx hw _ ih=>
  intro o F hm hF hS r ha
  refine ⟨rfl,_,fun w hC=>?_,ih hm hF hS _ (aw ha)⟩
  obtain ⟨h1,h2⟩:=hw.sound (SA.fk hC hz (fun _ _=>List.not_mem_nil) hF hS)
  exact Lg ht.h h1 (bD ha hx) h2 w (aq.refl _ _)
 | @lc d t ty x a u pos ag ops Γ fr m ht hx hw _ ih=>
  intro o F hm hF hS r ha
  refine ⟨rfl,u,fun w hC=>?_,ih hm hF hS _ (aw ha)⟩
  exact Ld ht.h (hw.sound (SA.fk hC hz (fun _ _=>List.not_mem_nil) hF hS)) (bD ha hx) w (aq.refl _ _)
 | @Jv α V d n x y v k j t ty S' cl en xs pos ag ops Γ Γx fr f ht hx hy hr q9 hn _ ih=>
  intro o F hm hF hS r ha
  replace q9:SO S' V cl en:=by cases q9; assumption
  obtain ⟨z,Da,hm⟩:=bind_some hm
  replace Da:=qv Da
  obtain ⟨e,i,h1,h2,h3⟩:=ht.h
  obtain ⟨dw,_,⟨⟨f0,E0,xj⟩,_⟩,_⟩:=hr.sound hS
  have hZ:∀ b∈f0,Z b:=fun b hb=>(xj b hb).elim id id
  obtain ⟨⟨a,c,hv⟩,bn,cs,f1,fc,PC,km⟩:=u6 E0 j Da.1 Da.2
  have yd:(sr S').size=n:=hn
  rw [yd] at km
  obtain ⟨u,rfl,p7⟩:=q9.op fc.2
  have hblk:Z (db v n j).block:=by
   obtain ⟨base,cap,mb,ik⟩:=E0
   rcases ik with ⟨rfl,_⟩ | ⟨b,off,cr,e',fz,f',rfl,_,rfl,_⟩
   ·simp at bn; omega
   ·obtain rfl:v = .slice (some ⟨b,off,none⟩) xs.length cap:=by simpa using mb
    have:(db (.slice (some ⟨b,off,none⟩) xs.length cap) n j).block=b:=by unfold db; rw [yb]
    rw [this]; exact hZ b (by simp)
  have JD:fact Z w0 [] (.bc (db v n j) (cl z u)):=⟨fun i u' hi=>km i u' hi,fun _=>hblk⟩
  have fq:HL Z w0 (.bc (db v n j) (cl z u) :: en z u) []:=.fact JD (xE (p7 Z fun b hb=>hZ b (PC b hb)))
  obtain ⟨F',hp,jd⟩:=fq.build hS
  have hpF:F'.Perm F:=by simpa using hp
  refine ⟨rfl,.pointer (some (db v n j)),fun w hC=>?_,?_⟩
  ·rw [me h1 h2 ((bD ha hx).trans hv) (bD ha hy) Da.1 (by omega),h3,hv]
   rfl
  ·have hq:=ih z u (F:=F') hm (fun b hb h=>hF b hb (hpF.mem_iff.1 h)) jd _ (aw ha)
   refine E8.mono ?_ hq
   rintro r' ⟨Γ',o5,vo,m',F3,q0,q1,q2,q3,q4,q5⟩
   exact ⟨Γ',o5,vo,m',F3,q0.trans hpF,q1,q2,q3,q4,q5⟩
end
theorem FO.hl {Z:Nat→Prop} {w:World} {Δ:QE} (h:FO Δ):∀ {F:LN},HL Z w Δ F→F=[]:=by
 induction h with
 | nil=>intro F h; cases h; rfl
 | rd _ ih=>intro F h; cases h with | own h k=>exact h.elim | fact h k=>exact ih k
 | bc _ ih=>intro F h; cases h with | own h k=>exact h.elim | fact h k=>exact ih k
section
variable {P:Program} {n:Nat} {l:LO} {Q:Exit→(Nat→Value)→World→Prop} {S:World→Prop}
end
section
variable {R S:Type} {P:Program} {cx:Cx R} {K:dq R S} {l:LO}
end
theorem St.afe {α:Type} {E:ai α} {T:ai (List α)} {v:Value} {x:List α} {B:Bs} {Γ Γ1:QE} {w:World} (h1:ed Γ (.own T v x) Γ1) (hr:RT T (bE E)) (hs:St B Γ w):St B (.rd false (bE E) v x :: Γ1) w:=by
 obtain ⟨Z,F,hS,hG⟩:=hs
 obtain ⟨f,F',hp,_,jd⟩:=(F4.own (E:=E) h1 hr).sound hS
 have n7:(F'++f).Perm F:=List.perm_append_comm.trans hp
 exact ⟨_,F',jd,Gd.freeze (hG.perm n7) fun b hb=>hS.lt b (hp.mem_iff.1 (List.mem_append_left _ hb))⟩
section
variable {R:Type} {P:Program} {cx:Cx R}
theorem aff {M α β:Type} {d b:Nat} {s x:OO} {sv u:Value} {T:ai (List β)} {E1:ai β} {y:List β} {t e e' ty:TI} {E:ai α} {bt:Nat} {all l:LO} {rk:RK R M} {Γ Γ1:QE} {fr:Fr} {m:Option M} (h1:ed Γ (.own T u y) Γ1) (hr:RT T (bE E1))
  (h:D P cx (.Po false e' E e t bt u b sv s x d ty all l rk (.rd false (bE E1) u y :: Γ1) fr m)):D P cx (.ap (aI e' E) e t bt u b sv s x d ty all l rk Γ fr m):=by
 refine D.of ?_
 intro q1 q2 q3 B o ho r w ha hs
 exact h.sound q1 q2 q3 B o ho r w ha (St.afe h1 hr hs)
end
end Go.Dk
namespace Go.Li
open Go
section
variable {P:Program} {n:Nat} {Q:Exit→(Nat→Value)→World→Prop} {r:NV} {w:World} {R:Type}
end
end Go.Li
namespace Go.Dk
open Go Go.Li
section
variable {R:Type} {P:Program} {cx:Cx R} {S:Type}
theorem aci {M α:Type} {all l:LO} {rk:RK R M} {T E:ai α} {v:Value} {y:α} {Γ Γ1:QE} {fr:Fr} {m:Option M} (h1:ed Γ (.own T v y) Γ1) (hl:Le T E) (h:D P cx (.o false all l rk (.rd false E v y :: Γ1) fr m)):D P cx (.o false all l rk Γ fr m):=by
 refine D.of ?_
 intro B o ho r w ha hs
 refine h.sound B o ho r w ha ?_
 obtain ⟨Z,F,hS,hG⟩:=hs
 obtain ⟨f,F1,hp,hO,iy⟩:=h1.sound hS
 have yO:(F1++f).Perm F:=List.perm_append_comm.trans hp
 have ry:=Gd.freeze (hG.perm yO) fun c hc=>ai.lt _ hO c hc
 exact ⟨se Z f,F1,SA.fact (iy.mono (fun _ h=>.inl h) fun _ h=>h) ⟨f,hl.le hO,fun c hc=>.inr hc⟩,ry⟩
theorem acj {M α:Type} {T:ai α} (d:Nat) {op:Op} {ty:TI} {pos:String} {ag:Array Edge} {all l:LO} {rk:RK R M} {v:Value} {y:α} {Γ Γ1:QE} {fr:Fr} {m:Option M} (h1:ed Γ (.own T v y) Γ1) (h:D P cx (.e false op (some d) ty all l rk (.rd false T v y :: Γ1) fr m)):D P cx (.o false all (⟨some d,op,ty,pos,ag,none⟩ :: l) rk Γ fr m):=
 aci h1 (Le.refl _) (.plain h)
section
variable {S1 V:Type} {k j:Nat} {Δ:S1→V→List av} {φ:S1→V→Fr} {Γ2 Γ Γ1 Γ3:QE} {f2 fr:Fr} {s:S1} {v:V} (hv:wH V v) (ha:uc fr (φ s v)) (hf:uc fr f2) (h0:EO Γ (Δ s v) Γ1) (hw:OW Γ (Δ s v)) (h1:EO Γ1 Γ2 Γ3) (h2:MF Γ none Γ2)
include hv ha hf h0 hw h1 h2
end
end
abbrev rI:Value→List Int→av:=.rd false (bE (aL .i64))
abbrev rJ:Value→List (List Int)→av:=.rd false (bE (bE (aL .i64)))
class FE (p:Prop):Prop where
 u:True
instance {o:Bool} {a b:QE}:FE (ER o a b):=⟨trivial⟩
instance {a:QE} {b:LV}:FE (xx a b):=⟨trivial⟩
instance {a b c:QE}:FE (EF a b c):=⟨trivial⟩
instance {a b c:QE}:FE (EO a b c):=⟨trivial⟩
instance {a b:QE}:FE (EP a b):=⟨trivial⟩
instance {a c d:LV} {b:Nat}:FE (vT a b c d):=⟨trivial⟩
instance {a b:Nat} {c d:LV}:FE (wI a b c d):=⟨trivial⟩
instance {a:LN} {b:Option (Bool×Nat×Value)} {c d:Fr}:FE (Kp a b c d):=⟨trivial⟩
instance {V:Type} {v:V}:FE (wH V v):=⟨trivial⟩
instance {a:QE} {b:Addr} {c:Nat} {d:LV}:FE (xy a b c d):=⟨trivial⟩
theorem fe {p:Prop} [FE p] (h:p):p:=h
end Go.Dk
namespace Go.Dk
open Go Go.Li
def zR (j:Nat) (b:Bool) (o:Oper):Oper:=
 match o.guard with
 | none=>o
 | some (j',p)=>bif Nat.beq j' j && (p == b) then ⟨o.dst,o.op,o.type,o.pos,o.after,none⟩ else o
def nv (j:Nat) (b:Bool) (l:LO):List Oper:=l.map (zR j b)
def Kw (l:LO) (j:Nat):Bool:=(List.range l.length).all fun i=>match (l.getD i default).guard with | none=>true | some (j',_)=>Nat.beq j' j && ((b9 l).getD i []).contains j
section
variable {j:Nat} {b:Bool} {l:LO}
theorem SG (o:Oper):(zR j b o).dst=o.dst:=by
 unfold zR
 split
 ·rfl
 ·cases Nat.beq _ j && (_ == b) <;> rfl
theorem Oq (o:Oper):(zR j b o).after=o.after:=by
 unfold zR
 split
 ·rfl
 ·cases Nat.beq _ j && (_ == b) <;> rfl
theorem SH {P:Program} {o:Oper} {r:NV} {w:World} {K:Value→World→Prop}:gn P (zR j b o) r w K=gn P o r w K:=by
 obtain ⟨d,op,ty,pos,ag,g⟩:=o
 unfold zR
 split
 ·rfl
 ·cases Nat.beq _ j && (_ == b) <;> rfl
theorem M8 (i:Nat):(nv j b l)[i]? = (l[i]?).map (zR j b):=by unfold nv; rw [List.getElem?_map]
theorem u9:(nv j b l).length=l.length:=by unfold nv; rw [List.length_map]
theorem zj (i:Nat):br (nv j b l) i=br l i:=by
 unfold br
 rw [M8]
 cases l[i]? with
 | none=>rfl
 | some o=>exact SG o
theorem vX:b9 (nv j b l)=b9 l:=by
 unfold b9 nv
 rw [List.foldl_map]
 congr 1
 funext acc o
 unfold l7
 rw [Oq]
theorem YX (r:NV):yl (nv j b l) r=yl l r:=by
 funext i
 have h:=zj (j:=j) (b:=b) (l:=l) i
 unfold br at h
 unfold yl
 rw [h]
theorem Kx {S:List gp} {k:Nat} {g:Nat→List Nat} {r:NV} {w:World}:wO (nv j b l) S k g r w=wO l S k g r w:=by unfold wO; rw [zj]
theorem HF {S:List gp} {k:Nat} {r:NV}:Old (nv j b l) S k r=Old l S k r:=by unfold Old; rw [zj]
theorem Iy {U:LL} {m i k:Nat}:sw (nv j b l) U m i k=sw l U m i k:=by unfold sw; rw [vX]
theorem P6 {U:LL} {m i:Nat}:xX (nv j b l) U m i=xX l U m i:=by unfold xX; rw [vX,u9]
theorem SI {U:LL} {m:Nat}:lq (nv j b l) U m=lq l U m:=by
 unfold lq
 rw [u9]
 refine List.map_congr_left fun i _=>?_
 congr 1
 funext k
 exact Iy
theorem jg.pas {P:Program} {m:Nat} {S:List gp} {U:LL} {r0:NV} {w0:World} {H:LN} {i d:Nat} (h:jg P (nv j b l) m S U r0 w0 H i) (hg:Kw l j=true) (hd:br l j=some d)
  (hk:j∈(b9 l).getD i []→∀ r,(∀ k∈(b9 l).getD i [],Old l S k r)→r d = .bool b):jg P l m S U r0 w0 H i:=by
 intro o s ho hs g r w hC hV kz hn kp qk hf
 unfold jg at h
 simp only [vX,u9,P6,Iy,Kx,HF,zj,YX] at h
 have h2:=h (zR j b o) s (by rw [M8,ho]; rfl) hs g r w hC hV kz hn kp qk hf
 rw [SH] at h2
 have hgo:match o.guard with | none=>True | some (j',_)=>j'=j∧j∈(b9 l).getD i []:=by
  unfold Kw at hg
  rw [List.all_eq_true] at hg
  have hi:=(List.getElem?_eq_some_iff.1 ho).1
  have:=hg i (List.mem_range.2 hi)
  rw [List.getD_eq_getElem?_getD,ho] at this
  simp only [Option.getD_some] at this
  revert this
  cases o.guard with
  | none=>exact fun _=>trivial
  | some q=>
   intro this
   simp only [Bool.and_eq_true] at this
   exact ⟨Nat.eq_of_beq_eq_true this.1,by simpa using this.2⟩
 have hw:Region.wanted o (yl l r)=Region.wanted (zR j b o) (yl l r):=by
  obtain ⟨d',op,ty,pos,ag,gd⟩:=o
  cases gd with
  | none=>rfl
  | some q=>
   obtain ⟨j',p⟩:=q
   obtain ⟨rfl,zK⟩ : j'=j∧j∈(b9 l).getD i []:=hgo
   unfold zR
   dsimp only
   rw [Nat.beq_refl,Bool.true_and]
   cases hp:p == b with
   | false=>rfl
   | true=>
    obtain rfl:p=b:=eq_of_beq hp
    unfold Region.wanted
    dsimp only [cond_true]
    rw [NS hd,hk zK r kz]
    simp
 rw [hw]
 exact h2
end
section
variable {R S:Type} {P:Program} {cx:Cx R} {K:dq R S} {l:LO} {base fr:Fr} {w:World} {Z:Nat→Prop}
def mark (j d:Nat) (b:Bool):List Nat:=[j+1000000,d+1000000,(bif b then 1 else 0)+1000000]
theorem SJ {U:LL} {sl:LQ} {ms:MM} {j d:Nat} {b:Bool} (h:By (U++[mark j d b]) sl ms=true):(j,d,.bool b)∈sl:=by
 unfold By at h
 rw [Bool.and_eq_true] at h
 have h2:=h.2
 unfold gdB at h2
 have e:(U++[mark j d b]).getLastD []=mark j d b:=by simp [List.getLastD_eq_getLast?]
 rw [e] at h2
 have e2:Nat.ble 1000000 ((mark j d b).headD 0)=true:=Nat.ble_eq_true_of_le (by show 1000000≤j+1000000; omega)
 rw [e2,cond_true] at h2
 unfold UW mark at h2
 dsimp only at h2
 rw [Nat.add_sub_cancel,Nat.add_sub_cancel] at h2
 have:=Im h2
 have e3:Nat.beq ((bif b then 1 else 0)+1000000) 1000001=b:=by cases b <;> rfl
 rwa [e3] at this
theorem SK {id j d:Nat} {b:Bool} {U:LL} {J9:QE} (hU:((List.range l.length).all fun i=>((U++[mark j d b]).getD i []).all fun u=>Nat.beq u l.length || ((b9 l).getD i []).contains u)=true) (hh:ma (nv j b l) l.length base=true) (hd:di cx.n l=true) (hA:yH l l.length []=true) (hZ:E4 l l.length []=true) (hg:Kw l j=true) (qk:br l j=some d) {i:Nat} {sl:LQ} {ms:MM} {Γ:QE} {m:Option (Out S R)} (Ka:Cg ms=true) (p7:By (U++[mark j d b]) sl ms=true)
  (h:∀ x:nr ms,D P cx (.p (Bv sl (mF ms x)) (Dv ms x) base Γ fun fr Γ=>.tg false (Ce []) (nv j b l) [] K Γ fr m)):J5 P cx K (nv j b l) l l.length (U++[mark j d b]) J9 id base (.a [] [] i sl ms Γ m):=by
 rintro ⟨_,h2,h3⟩ B o ho r0 w0 H Z ha hs ⟨S',hl,hR,hO⟩
 have hi:S'.length=l.length:=by
  have:=congrArg List.length h2
  simp [u9] at this
  omega
 have Yk:=hs
 obtain ⟨F,Hd,⟨C6,C7,wQ,C8⟩,hS,hG⟩:=hs
 have hm:=SJ p7
 have P7:∀ k,k < l.length→jg P l l.length S' (U++[mark j d b]) r0 w0 H k:=fun k hk=>by
  refine jg.pas (hO k (by omega)) hg qk fun zK r hr=>?_
  refine hR.zJ (S2:=[]) hm fun q hq _=>?_
  rw [List.append_nil,HF]
  rw [vX] at hq
  refine hr q (hq.elim (fun e=>e ▸ zK) fun e=>?_)
  have:=hR.t k q j
  rw [vX] at this
  exact this e zK
 refine PS (N:=Z) (S:=S') (U:=U++[mark j d b]) (H:=H) hd hA hZ (fun c r w h=>vy c h) (Nat.le_refl _) hi wQ hU (fun b hb=>⟨hG.tb b hb,fun h=>hG.apart b (List.mem_append_left _ h) hb⟩) (fun i s hs=>?_) P7 ?_
 ·have:=hR.s i s hs
  unfold PG at this
  rw [vX] at this
  simp only [zj] at this
  exact this
 intro g r w hI
 rw [List.drop_length]
 refine J8 (tail:=[]) hh Ka p7 h ho ha Yk hi hR g r w ?_
 obtain ⟨i1,i2,i3,i4,i5,i6,i7,i8,i9⟩:=hI
 exact ⟨i1,fun hk=>by rw [u9] at hk ⊢; exact i2 hk,by rw [u9]; exact i3,by rw [u9]; exact i4,fun k hk hn=>by rw [Kx]; exact i5 k hk hn,fun k hk=>by rw [HF]; exact i6 k hk,fun t ht=>i7 t fun k hk=>by rw [← zj (j:=j) (b:=b)]; exact ht k hk,by rw [u9]; exact i8,i9⟩
theorem Vi {id j d:Nat} {b:Bool} (U as:LL) {Γ:QE} {m:Option (Out S R)}
  (hB:(di cx.n l && yH l l.length [] && E4 l l.length [] && Kw l j && (lq l (U++[mark j d b]) l.length == as) && ((List.range l.length).all fun i=>((U++[mark j d b]).getD i []).all fun u=>Nat.beq u l.length || ((b9 l).getD i []).contains u))=true)
  (qk:br l j=some d) (hf:Kp (zC l) none fr base) (hh:ma (nv j b l) l.length base=true)
  (h:AD false P cx K (nv j b l) [] base (U++[mark j d b]) [] (.a as (nv j b l) 0 [] [] Γ m)):∀ B o,m=some o→∀ r w,dg r fr→St B Γ w→nb P cx.n l (l8 P cx B K o) r w:=by
 simp only [Bool.and_eq_true] at hB
 obtain ⟨⟨⟨⟨⟨b2,b3⟩,b4⟩,b5⟩,b6⟩,b7⟩:=hB
 intro B o hm r w ha hs
 obtain ⟨Z,F,hS,hG⟩:=hs
 have hX:ud B Z [] Γ [] w:=⟨F,[],⟨rfl,fun b hb=>absurd hb List.not_mem_nil,fun b hb=>absurd hb List.not_mem_nil,List.nodup_nil⟩,hS,hG⟩
 refine AD.sound (id:=id) (mt:=l.length) hh (fun _ _ _ _ _ _ hs he h=>SK b7 hh b2 b3 b4 b5 qk hs he h) h
  ⟨by rw [List.drop_zero,SI]; exact (eq_of_beq b6).symm,by rw [List.drop_zero,← u9 (j:=j) (b:=b),List.take_length],Nat.zero_le _⟩ B o hm r w [] Z (hf.sound ha) hX ⟨[],rfl,⟨fun _ h=>absurd h List.not_mem_nil,fun _ h=>absurd h List.not_mem_nil,fun i s h=>by simp at h,List.nodup_nil,fun _ _ _ h1 h2=>by rw [vX] at h1 h2 ⊢; exact Cm l (Ir b3) h1 h2⟩,fun j hj=>absurd hj (Nat.not_lt_zero j)⟩
theorem afg {id:Nat} (j d:Nat) (U as:LL) {Γ:QE} {m1 m2:Option (Out S R)}
  (hB:(P.follows .mixedOrders && di cx.n l && yH l l.length [] && E4 l l.length [] && Kw l j && (lq l (U++[mark j d true]) l.length == as) && (lq l (U++[mark j d false]) l.length == as) && ((List.range l.length).all fun i=>((U++[mark j d true]).getD i []).all fun u=>Nat.beq u l.length || ((b9 l).getD i []).contains u) && ((List.range l.length).all fun i=>((U++[mark j d false]).getD i []).all fun u=>Nat.beq u l.length || ((b9 l).getD i []).contains u))=true)
  (qk:br l j=some d) (hf:Kp (zC l) none fr base) (YY:ma (nv j true l) l.length base=true) (Ds:ma (nv j false l) l.length base=true)
  (h1:AD false P cx K (nv j true l) [] base (U++[mark j d true]) [] (.a as (nv j true l) 0 [] [] Γ m1)) (h2:AD false P cx K (nv j false l) [] base (U++[mark j d false]) [] (.a as (nv j false l) 0 [] [] Γ m2)):Bx (qi P cx (.dr id l K Γ fr (orE m1 m2))):=by
 simp only [Bool.and_eq_true] at hB
 obtain ⟨⟨⟨⟨⟨⟨⟨⟨b0,b2⟩,b3⟩,b4⟩,b5⟩,b6⟩,b6'⟩,b7⟩,b7'⟩:=hB
 rw [rq]
 intro B o ho r w ha hs
 refine nb.W b0 ?_
 cases hm:m1 with
 | some o'=>
  have e:o'=o:=by rw [hm] at ho; exact Option.some.inj ho
  exact Vi (id:=id) U as (by simp only [Bool.and_eq_true]; exact ⟨⟨⟨⟨⟨b2,b3⟩,b4⟩,b5⟩,b6⟩,b7⟩) qk hf YY h1 B o (by rw [hm,e]) r w ha hs
 | none=>exact Vi (id:=id) U as (by simp only [Bool.and_eq_true]; exact ⟨⟨⟨⟨⟨b2,b3⟩,b4⟩,b5⟩,b6'⟩,b7'⟩) qk hf Ds h2 B o (by rw [hm] at ho; exact ho) r w ha hs
end
end Go.Dk
namespace Go.Dk
open Go Go.Li
theorem WH {P:Program} {g:FuncId} {vs:LV} {Δ:QE} {β:Type} {m:Option β} {ow:Bool} {rt:β→Unit→List Value} (hc:Ct P g ow m vs Δ rt (fun _ _=>[])) {w:World} (hl:HL (fun b=>b < w.heap.size) w Δ []) {y:β} (hy:m=some y) :
  Calls P g vs.toArray w fun e w'=>e = .returned (tz (rt y ()))∧aq [] w w':=by
 rw [u5] at hc
 refine (hc.2 w _ [] hl List.nodup_nil (fun _ h=>absurd h List.not_mem_nil) (fun _ h=>h) y hy).mono ?_
 rintro e w' ⟨_,he,Z,F,_,hg⟩
 exact ⟨he,hg.ly⟩
theorem WI {w:World} {α:Type} {T:ai α} {v:Value} {x:α} {f:LN} (h:T.rep w.heap [v] x f):fact (fun b=>b < w.heap.size) w [] (.rd false T v x):=⟨f,h,fun b hb=>T.lt h b hb⟩
end Go.Dk
