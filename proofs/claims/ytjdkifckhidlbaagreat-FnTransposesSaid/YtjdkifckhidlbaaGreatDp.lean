/- A region that draws its order: its head in any order, whatever it holds, its tail quiet and behind all of the head. No condition. -/
import Derived.Test.YtjdkifckhidlbaaGreatDg
import Derived.Deep.Quiet
import Derived.Laws.Slices
import Derived.OrdersHeld
import Derived.Scope
namespace Go.Li
open Go
section
variable {P:Program} {n:Nat} {Q:Exit→(Nat→Value)→World→Prop} {r0:NV} {w0:World} {l:LO} {S:List fc}
def yx (l:LO) (m:Nat):Bool:=
 ((List.range l.length).all fun i=>((l.getD i default).after.toList.filter (Region.binds .any)).all fun e=>Nat.blt e.on i) &&
 ((List.range l.length).all fun i=>Nat.blt i m || (List.range m).all fun j=>((bo l).getD i []).contains j) &&
 zy ((l.take m).filterMap (·.dst)) && Region.noSelect l.toArray && Region.lexFrom .any l.toArray (l.length - m) m (List.replicate m true++List.replicate (l.length - m) false).toArray
theorem Iy {m:Nat} (h:yx l m=true):∀ (i:Nat) (o:Oper),l[i]? = some o→∀ e∈o.after.toList.filter (Region.binds .any),e.on < i:=by
 simp only [yx,Bool.and_eq_true,List.all_eq_true,List.mem_range] at h
 intro i o ho e he
 have hi:i < l.length:=(List.getElem?_eq_some_iff.1 ho).1
 have:=h.1.1.1.1 i hi e (by rw [List.getD_eq_getElem?_getD,ho]; exact he)
 exact Nat.lt_of_succ_le (Nat.le_of_ble_eq_true this)
theorem Pt {m:Nat} {U:LL} {H:LN} {N:Nat→Prop} (hd:db n l=true) (hA:yx l m=true) (Ds:m≤l.length)
  (hS:S.length=m)
  (hH:∀ b∈H,b < w0.heap.size) (hU:((List.range m).all fun i=>(U.getD i []).all fun u=>Nat.beq u l.length || ((bo l).getD i []).contains u)=true)
  (hN:∀ b,N b→b < w0.heap.size∧b ∉ H)
  (qo:∀ (i:Nat) (s:fc),S[i]? = some s→∀ f F (w w':World) (r r':NV) v,av F w w'→(∀ b∈f,b ∉ F)→(∀ b∈F,¬ N b)→(∀ j∈(bo l).getD i [],∀ t,bm l j=some t→r' t=r t)→s.V f w r v→s.V f w' r' v)
  (L8:∀ i,i < m→jb P l m S U r0 w0 H i)
  (next:∀ g r w,vR l m S U r0 w0 H (fun j=>j < m) g r w→QL P (av [] w) l (l.drop m) r fun r'=>∀ w',av [] w w'→Q .normal r' w') :
  mh P n l Q r0 w0:=by
 simp only [yx,Bool.and_eq_true,List.all_eq_true,List.mem_range,Bool.or_eq_true] at hA
 obtain ⟨⟨⟨⟨Rp,Rq⟩,Rs⟩,Om⟩,L9⟩:=hA
 have vu:∀ (i:Nat) (o:Oper),l[i]? = some o→∀ e∈o.after.toList.filter (Region.binds .any),e.on < i:=by
  intro i o ho e he
  have hi:i < l.length:=(List.getElem?_eq_some_iff.1 ho).1
  have:=Rp i hi e (by rw [List.getD_eq_getElem?_getD,ho]; exact he)
  exact Nat.lt_of_succ_le (Nat.le_of_ble_eq_true this)
 have CH:∀ i,m≤i→i < l.length→∀ j,j < m→j∈(bo l).getD i []:=by
  intro i h1 h2 j hj
  rcases Rq i h2 with h | h
  ·exact absurd (Nat.lt_of_succ_le (Nat.le_of_ble_eq_true h)) (Nat.not_lt.2 h1)
  ·have:=h j hj
   simpa using this
 have Ru:∀ i,i < m→∀ u∈U.getD i [],u=l.length∨u∈(bo l).getD i []:=by
  intro i hi u hu
  simp only [List.all_eq_true,List.mem_range] at hU
  have:=hU i hi u hu
  simpa using this
 have dp:=Dv _ (xn Rs)
 have p5:=zA l vu
 intro a h1 h2 h3
 let Cl (L:Array Bool):Prop:=L.size=l.length∧∀ j o,l[j]? = some o→L.getD j false=true→∀ e∈o.after.toList.filter (Region.binds .any),L.getD e.on false=true
 have iH:∀ L,Cl L→∀ i j,(∀ o,l[i]? = some o→∀ e∈o.after.toList.filter (Region.binds .any),L.getD e.on false=true)→j∈(bo l).getD i []→L.getD j false=true:=by
  intro L hL i
  induction i using Nat.strongRecOn with
  | _ i ih=>
   intro j hi hj
   obtain ⟨_,o,ho,e,he,Ff⟩:=p5 i j hj
   have hl:=hi o ho e he
   rcases Ff with rfl | Ff
   ·exact hl
   ·exact ih e.on (vu i o ho e he) j (fun o' b9 e' sY=>hL.2 _ _ b9 hl e' sY) Ff
 have AM:∀ L i,i∈Region.ready .any l.toArray L→L.getD i true=false∧∃ o,l[i]? = some o∧∀ e∈o.after.toList.filter (Region.binds .any),L.getD e.on false=true:=by
  intro L i hi
  obtain ⟨g1,o,ho,dv⟩:=mem_ready.1 hi
  refine ⟨g1,o,by simpa using ho,fun e he=>?_⟩
  have:=List.mem_filter.1 he
  exact dv e (by simpa using this.1) this.2
 have BT:∀ L i o,L.size=l.length→l[i]? = some o→L.getD i false=false→(∀ e∈o.after.toList.filter (Region.binds .any),L.getD e.on false=true)→i∈Region.ready .any l.toArray L:=by
  intro L i o hs ho hu dv
  refine mem_ready.2 ⟨?_,o,by simpa using ho,fun e he hb=>dv e (List.mem_filter.2 ⟨by simpa using he,hb⟩)⟩
  have hi:i < L.size:=by rw [hs]; exact (List.getElem?_eq_some_iff.1 ho).1
  simp [hi] at hu ⊢; exact hu
 have D6:∀ L i o,Cl L→l[i]? = some o→(∀ e∈o.after.toList.filter (Region.binds .any),L.getD e.on false=true)→Cl (L.setIfInBounds i true):=by
  intro L i o hL ho dv
  refine ⟨by rw [Array.size_setIfInBounds]; exact hL.1,fun j o' b9 hj e he=>?_⟩
  by_cases xD:i=j
  ·subst xD
   have:o'=o:=Option.some.inj (b9.symm.trans ho)
   subst this
   exact getD_set_true (dv e he)
  ·rw [getD_set_ne false xD] at hj
   exact getD_set_true (hL.2 j o' b9 hj e he)
 have getSet:∀ (L:Array Bool) i j,L.size=l.length→i < l.length→((L.setIfInBounds i true).getD j false=true↔j=i∨L.getD j false=true):=by
  intro L i j hs hi
  by_cases xD:i=j
  ·subst xD
   simp [hs,hi]
  ·rw [getD_set_ne false xD]
   constructor
   ·exact .inr
   ·rintro (h | h)
    ·exact absurd h.symm xD
    ·exact h
 have Fg:∀ (L:Array Bool) i,L.size=l.length→i < l.length→L.getD i false=false→(L.setIfInBounds i true).toList.count false+1=L.toList.count false:=by
  intro L i hs hi hu
  have sU:i < L.toList.length:=by simpa [hs] using hi
  have AN:L.toList[i]=false:=by
   rw [Array.getElem_toList]
   simp [hs,hi] at hu
   exact hu
  rw [Array.toList_setIfInBounds,List.count_set sU,AN]
  have:0 < L.toList.count false:=List.count_pos_iff.2 (by rw [← AN]; exact List.getElem_mem sU)
  rw [if_pos (by rfl),if_neg (by decide)]
  omega
 have iz:db n (l.drop m)=true:=by
  simp only [db,List.all_eq_true] at hd ⊢
  exact fun o ho=>hd o (List.mem_of_mem_drop ho)
 have tail:∀ (fuel:Nat) (L:Array Bool) (a:Act) (w:World),Cl L→(∀ j,L.getD j false=true↔j < m)→L.toList.count false=fuel→a.tmps.size=n→a.defers=[]→
   (QL P (av [] w) l (l.drop m) (cg a) fun r'=>∀ w',av [] w w'→Q .normal r' w')→wpAny P .any l.toArray (fun e a' w'=>a'.tmps.size=n∧a'.defers=[]∧Q e (cg a') w') fuel L a w:=by
  intro fuel L a w hL ib hf g1 g2 hq
  have Wq:L=(List.replicate m true++List.replicate (l.length - m) false).toArray:=by
   apply Array.ext
   ·simp [hL.1]; omega
   ·intro i hi hj
    have h1:=ib i
    simp only [Array.getD_eq_getD_getElem?,Array.getElem?_eq_getElem hi,Option.getD_some] at h1
    have e:(List.replicate m true++List.replicate (l.length - m) false).toArray[i]'hj=decide (i < m):=by
     simp only [List.getElem_toArray,List.getElem_append,List.getElem_replicate,List.length_replicate]
     split
     ·rename_i h; simp [h]
     ·rename_i h; simp [h]
    rw [e]
    cases hb:L[i] with
    | false=>exact (decide_eq_false fun h=>by have:=h1.2 h; rw [hb] at this; cases this).symm
    | true=>exact (decide_eq_true (h1.1 hb)).symm
  have Rv:fuel=l.length - m:=by
   rw [← hf,Wq]
   simp [List.count_append,List.count_replicate]
  have q1:=QL.wpQuiet (n:=n) (l:=l) (l.drop m) a hd iz g1 g2 hq
  have q2:=wpAnyQ_lex (md:=.any) Om (l.drop m) m L a (fun j=>by simp [List.getElem?_drop]) (by rw [Wq,List.length_drop]; exact L9) q1
  refine wpAny_of_quiet (C:=av [] w) (Q:=fun a'=>a'.tmps.size=n∧a'.defers=[]∧∀ w',av [] w w'→Q .normal (cg a') w') (fun a' w' zB hh=>⟨hh.1,hh.2.1,hh.2.2 w' zB⟩) _ _ _ _ (av.refl _ _) ?_
  rw [Rv,← List.length_drop]
  exact q2
 have head:∀ (fuel:Nat) (L:Array Bool) (a:Act) (w:World) (g:Nat→List Nat),Cl L→(∀ j,L.getD j false=true→j < m)→L.toList.count false=fuel→a.tmps.size=n→a.defers=[]→
   vR l m S U r0 w0 H (fun j=>L.getD j false=true) g (cg a) w→wpAny P .any l.toArray (fun e a' w'=>a'.tmps.size=n∧a'.defers=[]∧Q e (cg a') w') fuel L a w:=by
  intro fuel
  induction fuel with
  | zero=>
   intro L a w g hL tz hf g1 g2 inv
   have dv:∀ j,j < l.length→L.getD j false=true:=by
    intro j hj
    cases hb:L.getD j false with
    | true=>rfl
    | false=>have:=Fg L j hL.1 hj hb; omega
   have ib:∀ j,L.getD j false=true↔j < m:=fun j=>⟨tz j,fun h=>dv j (by omega)⟩
   refine tail 0 L a w hL ib hf g1 g2 (next g _ _ ?_)
   exact ⟨inv.lj,fun hk=>inv.zC fun k vS=>hk k ((ib k).1 vS),inv.vg,fun j hj=>inv.vd j ((ib j).2 hj),fun j hj hk=>inv.done j ((ib j).2 hj) (fun k vS=>hk k ((ib k).1 vS)),fun j hj=>inv.sd j ((ib j).2 hj),inv.other,fun j hj b hb=>⟨(inv.fresh j ((ib j).2 hj) b hb).1.imp (fun h=>h) fun h=>⟨h.1,h.2.imp fun k hk=>⟨(ib k).1 hk.1,hk.2⟩⟩,(inv.fresh j ((ib j).2 hj) b hb).2⟩,fun i j hi hj=>inv.vn i j ((ib i).2 hi) ((ib j).2 hj)⟩
  | succ fuel ih=>
   intro L a w g hL tz hf g1 g2 inv
   by_cases dv:∀ j,j < m→L.getD j false=true
   ·have ib:∀ j,L.getD j false=true↔j < m:=fun j=>⟨tz j,dv j⟩
    refine tail _ L a w hL ib hf g1 g2 (next g _ _ ?_)
    exact ⟨inv.lj,fun hk=>inv.zC fun k vS=>hk k ((ib k).1 vS),inv.vg,fun j hj=>inv.vd j ((ib j).2 hj),fun j hj hk=>inv.done j ((ib j).2 hj) (fun k vS=>hk k ((ib k).1 vS)),fun j hj=>inv.sd j ((ib j).2 hj),inv.other,fun j hj b hb=>⟨(inv.fresh j ((ib j).2 hj) b hb).1.imp (fun h=>h) fun h=>⟨h.1,h.2.imp fun k hk=>⟨(ib k).1 hk.1,hk.2⟩⟩,(inv.fresh j ((ib j).2 hj) b hb).2⟩,fun i j hi hj=>inv.vn i j ((ib i).2 hi) ((ib j).2 hj)⟩
   ·obtain ⟨j0,On,xE⟩ : ∃ j,j < m∧L.getD j false=false:=by
     apply Classical.byContradiction
     intro rR
     apply dv
     intro j hj
     cases hb:L.getD j false with
     | true=>rfl
     | false=>exact absurd ⟨j,hj,hb⟩ rR
    have Iz:∃ i,i∈Region.ready .any l.toArray L:=by
     have:∀ k,(∃ j,j < k∧j < m∧L.getD j false=false)→∃ i,i∈Region.ready .any l.toArray L:=by
      intro k
      induction k with
      | zero=>rintro ⟨j,h,_⟩; omega
      | succ k BP=>
       rintro ⟨j,JZ,zD,rS⟩
       by_cases Bi:∃ j,j < k∧j < m∧L.getD j false=false
       ·exact BP Bi
       ·obtain rfl:j=k:=by
         apply Classical.byContradiction
         intro h
         exact Bi ⟨j,by omega,zD,rS⟩
        have Dw:j < l.length:=by omega
        refine ⟨j,BT L j l[j] hL.1 (List.getElem?_eq_getElem Dw) rS fun e he=>?_⟩
        have bh:=vu j _ (List.getElem?_eq_getElem Dw) e he
        cases hb:L.getD e.on false with
        | true=>rfl
        | false=>exact absurd ⟨e.on,bh,by omega,hb⟩ Bi
     exact this (j0+1) ⟨j0,by omega,On,xE⟩
    have main:∀ i oi,i < m→l[i]? = some oi→L.getD i false=false→(∀ e∈oi.after.toList.filter (Region.binds .any),L.getD e.on false=true)→
      (Region.wanted oi (yl l (cg a))=true∧fk P oi (cg a) w fun v w'=>wpAny P .any l.toArray (fun e a' w'=>a'.tmps.size=n∧a'.defers=[]∧Q e (cg a') w') fuel (L.setIfInBounds i true) (a.put oi.dst v) w')∨
      (Region.wanted oi (yl l (cg a))=false∧wpAny P .any l.toArray (fun e a' w'=>a'.tmps.size=n∧a'.defers=[]∧Q e (cg a') w') fuel (L.setIfInBounds i true) (a.put oi.dst undef) w):=by
     intro i oi tA mx tB tC
     have ei:i < l.length:=(List.getElem?_eq_some_iff.1 mx).1
     have mi:∀ o,l[i]? = some o→∀ e∈o.after.toList.filter (Region.binds .any),L.getD e.on false=true:=fun o' b9=>by
      have:o'=oi:=Option.some.inj (b9.symm.trans mx)
      subst this; exact tC
     obtain ⟨s,hs⟩ : ∃ s,S[i]? = some s:=⟨S[i]'(by omega),List.getElem?_eq_getElem (by omega)⟩
     have hc:=Fg L i hL.1 ei tB
     have AO:=D6 L i oi hL mx tC
     have Rw:∀ j,(L.setIfInBounds i true).getD j false=true→j < m:=by
      intro j hj
      rcases (getSet L i j hL.1 ei).1 hj with rfl | hj
      ·exact tA
      ·exact tz j hj
     have BU:∀ k,L.getD k false=true→k≠i∧i ∉ (bo l).getD k []:=by
      intro k hk
      refine ⟨fun h=>(by rw [h,tB] at hk; cases hk),fun tU=>?_⟩
      have:=iH L hL k i (fun o' b9 e' sY=>hL.2 k o' b9 hk e' sY) tU
      rw [tB] at this; cases this
     have ow:=L8 i tA oi s mx hs g (cg a) w inv.lj (fun hV=>by
       have rR:∀ k,L.getD k false=true→l.length ∉ U.getD k []:=fun k hk Fh=>by
        simp only [uB,List.all_eq_true,List.mem_range,Bool.or_eq_true,Bool.not_eq_true',List.contains_eq_mem,decide_eq_false_iff_not,decide_eq_true_eq] at hV
        rcases hV k (tz k hk) with (h | h) | h
        ·exact h Fh
        ·exact (BU k hk).1 (Nat.eq_of_beq_eq_true h)
        ·exact (BU k hk).2 h
       have h0:=inv.zC rR
       exact ⟨h0.1,h0.2,fun j hj b hb=>(inv.fresh j (iH L hL i j mi hj) b hb).1.elim (fun h=>h) fun h=>absurd h.2.choose_spec.2 (rR _ h.2.choose_spec.1)⟩) (fun j hj=>inv.sd j (iH L hL i j mi hj)) (fun j hj=>by
       simp only [rf,Bool.and_eq_true,List.all_eq_true,List.mem_range,Bool.or_eq_true,Bool.not_eq_true',List.contains_eq_mem,decide_eq_false_iff_not,decide_eq_true_eq] at hj
       refine inv.done j (iH L hL i j mi hj.1) fun k hk JZ=>?_
       rcases hj.2 k (tz k hk) with (h | h) | h
       ·exact h JZ
       ·exact (BU k hk).1 (Nat.eq_of_beq_eq_true h)
       ·exact (BU k hk).2 h) inv.other
      (fun i' sU j' ig=>inv.vn i' j' (iH L hL i i' mi sU) (iH L hL i j' mi ig))
      (fun j hj b hb=>⟨(inv.fresh j (iH L hL i j mi hj) b hb).1.imp (fun h=>h) (·.1),(inv.fresh j (iH L hL i j mi hj) b hb).2⟩)
     have hblk:∀ b∈ql g (U.getD i []),(∃ u,u∈U.getD i []∧L.getD u false=true∧b∈g u)∨(l.length∈U.getD i []∧b∈g l.length):=by
      intro b hb
      obtain ⟨u,hu,fq⟩:=List.mem_flatMap.1 hb
      rcases Ru i tA u hu with rfl | h
      ·exact .inr ⟨hu,fq⟩
      ·exact .inl ⟨u,hu,iH L hL i u mi h,fq⟩
     have Dx:∀ k',oi.dst=some k'→k' < a.tmps.size:=by
      intro k' zl
      have tU:oi∈l:=List.mem_of_getElem? mx
      simp only [db,List.all_eq_true] at hd
      have:=hd oi tU
      rw [zl] at this
      rw [g1]
      exact Nat.lt_of_succ_le (Nat.le_of_ble_eq_true this)
     have xF:bm l i=oi.dst:=by unfold bm; rw [mx]; rfl
     have qc:∀ v t,(oi.dst≠some t)→cg (a.put oi.dst v) t=cg a t:=by
      intro v t ht
      rw [lv Dx]
      cases vT:oi.dst with
      | none=>rfl
      | some d=>
       show (bif Nat.beq t d then v else cg a t)=cg a t
       cases hb:Nat.beq t d with
       | false=>rfl
       | true=>exact absurd (by rw [vT,Nat.eq_of_beq_eq_true hb]) ht
     have Fi:∀ v d,oi.dst=some d→cg (a.put oi.dst v) d=v:=by
      intro v d vT
      rw [lv Dx,vT]
      show (bif Nat.beq d d then v else cg a d)=v
      rw [Nat.beq_refl]; rfl
     have step:∀ v w' f,av (ql g (U.getD i [])) w w'→(∀ b∈f,(b∈ql g (U.getD i [])∨w.heap.size≤b)∧b < w'.heap.size)→(if s.b then s.V f w' (cg a) v else v=undef)→
       wpAny P .any l.toArray (fun e a' w'=>a'.tmps.size=n∧a'.defers=[]∧Q e (cg a') w') fuel (L.setIfInBounds i true) (a.put oi.dst v) w':=by
      intro v w' f hC vQ hV
      have r8:∀ j',j' < m→j'≠i→∀ t,bm l j'=some t→cg (a.put oi.dst v) t=cg a t:=by
       intro j' ig rN t ht
       refine qc v t fun h=>rN (dp j' i t ?_ ?_)
       ·rw [km ig]; exact ht
       ·rw [km tA,xF]; exact h
      have J3:∀ b∈ql g (U.getD i []),¬ N b:=fun b hb hn=>by
       rcases hblk b hb with ⟨u,_,oh,fq⟩ | ⟨_,fq⟩
       ·rcases (inv.fresh u oh b fq).1 with h | h
        ·have:=(hN b hn).1; omega
        ·exact (hN b hn).2 h.1
       ·exact (hN b hn).2 (inv.vg b fq)
      refine ih _ _ _ (fun j=>if j=i then f else if j∈U.getD i [] then [] else g j) AO Rw (by omega) (by rw [jy]; exact g1) (by rw [ic]; exact g2)
       ⟨inv.lj.then hC fun b hb=>(by
        rcases hblk b hb with ⟨u,_,oh,fq⟩ | ⟨_,fq⟩
        ·exact (inv.fresh u oh b fq).1.elim .inr fun h=>.inl h.1
        ·exact .inl (inv.vg b fq)),fun rR=>?_,?_,fun j hj=>?_,?_,fun j hj d pq sj rA=>?_,?_,?_,?_⟩
      ·have uS:l.length ∉ U.getD i []:=rR i ((getSet L i i hL.1 ei).2 (.inl rfl))
       have h0:=inv.zC fun k hk=>rR k ((getSet L i k hL.1 ei).2 (.inr hk))
       refine ⟨h0.1.then hC fun b hb=>?_,?_⟩
       ·rcases hblk b hb with ⟨u,_,oh,fq⟩ | ⟨h,_⟩
        ·exact (inv.fresh u oh b fq).1.elim .inr fun ⟨_,k,hk,Fh⟩=>absurd Fh (rR k ((getSet L i k hL.1 ei).2 (.inr hk)))
        ·exact absurd h uS
       ·show (if l.length=i then f else if l.length∈U.getD i [] then [] else g l.length)=H
        rw [if_neg (by omega),if_neg uS]
        exact h0.2
      ·intro b hb
       have cf:b∈(if l.length=i then f else if l.length∈U.getD i [] then [] else g l.length):=hb
       rw [if_neg (by omega)] at cf
       split at cf
       ·cases cf
       ·exact inv.vg b cf
      ·intro b hb hv
       have nr:b∈(if l.length=i then f else if l.length∈U.getD i [] then [] else g l.length):=hv
       rw [if_neg (by omega)] at nr
       split at nr
       ·cases nr
       ·rename_i Rx
        have cf:b∈(if j=i then f else if j∈U.getD i [] then [] else g j):=hb
        split at cf
        ·rcases (vQ b cf).1 with h | h
         ·rcases hblk b h with ⟨u,_,oh,fq⟩ | ⟨h,_⟩
          ·exact inv.vd u oh b fq nr
          ·exact Rx h
         ·have h1:=hH b (inv.vg b nr)
          have h2:=inv.lj.size
          omega
        ·rename_i kp
         split at cf
         ·cases cf
         ·exact inv.vd j (((getSet L i j hL.1 ei).1 hj).resolve_left kp) b cf nr
      ·intro j hj vU
       refine ⟨fun d pq=>?_,fun Ry sj rA J4=>?_⟩
       rotate_left
       ·by_cases kp:j=i
        ·subst kp
         rw [hs] at rA
         cases rA
         rw [if_pos J4] at hV
         refine ⟨v,?_⟩
         simp only [if_pos]
         exact qo j s hs _ [] w' w' (cg a) _ v (av.refl _ _) (fun _ _ h=>nomatch h) (fun _ h=>nomatch h) (fun j' ig t ht=>r8 j' (by have:=(p5 j j' ig).1; omega) (by have:=(p5 j j' ig).1; omega) t ht) hV
        ·have mj:=((getSet L i j hL.1 ei).1 hj).resolve_left kp
         have rS:j ∉ U.getD i []:=vU i ((getSet L i i hL.1 ei).2 (.inl rfl))
         obtain ⟨x,hx⟩:=(inv.done j mj (fun k hk=>vU k ((getSet L i k hL.1 ei).2 (.inr hk)))).2 Ry sj rA J4
         have mg:(fun j=>if j=i then f else if j∈U.getD i [] then [] else g j) j=g j:=by
          show (if j=i then f else if j∈U.getD i [] then [] else g j)=g j
          rw [if_neg kp,if_neg rS]
         rw [mg]
         refine ⟨x,qo j sj rA _ _ _ _ (cg a) _ _ hC (fun b cf BV=>?_) J3 (fun j' ig t ht=>r8 j' (by have:=(p5 j j' ig).1; have:=tz j mj; omega) (fun h=>?_) t ht) hx⟩
         ·rcases hblk b BV with ⟨u,zE,oh,fq⟩ | ⟨_,fq⟩
          ·exact inv.vn j u mj oh (fun h=>rS (h ▸ zE)) b cf fq
          ·exact inv.vd j mj b cf fq
         ·subst h
          have:=iH L hL j j' (fun o' b9 e' sY=>hL.2 j o' b9 mj e' sY) ig
          rw [tB] at this; cases this
       by_cases kp:j=i
       ·subst kp
        rw [hs]
        simp only [if_pos]
        rw [xF] at pq
        rw [Fi v d pq]
        split
        ·rename_i hb
         rw [if_pos hb] at hV
         exact qo j s hs _ [] w' w' (cg a) _ v (av.refl _ _) (fun _ _ h=>nomatch h) (fun _ h=>nomatch h) (fun j' ig t ht=>r8 j' (by have:=(p5 j j' ig).1; omega) (by have:=(p5 j j' ig).1; omega) t ht) hV
        ·rename_i hb
         rw [if_neg hb] at hV
         exact hV
       ·have mj:=((getSet L i j hL.1 ei).1 hj).resolve_left kp
        have zD:=tz j mj
        have rS:j ∉ U.getD i []:=vU i ((getSet L i i hL.1 ei).2 (.inl rfl))
        have vT:oi.dst≠some d:=by
         intro h
         apply kp
         refine dp j i d ?_ ?_
         ·rw [km zD]; exact pq
         ·rw [km tA,xF]; exact h
        have:=(inv.done j mj (fun k hk=>vU k ((getSet L i k hL.1 ei).2 (.inr hk)))).1 d pq
        rw [qc v d vT]
        have mg:(fun j=>if j=i then f else if j∈U.getD i [] then [] else g j) j=g j:=by
         show (if j=i then f else if j∈U.getD i [] then [] else g j)=g j
         rw [if_neg kp,if_neg rS]
        rw [mg]
        cases rA:S[j]? with
        | none=>trivial
        | some sj=>
         rw [rA] at this
         simp only [] at this ⊢
         split
         ·rename_i hb
          rw [if_pos hb] at this
          refine qo j sj rA _ _ _ _ (cg a) _ _ hC (fun b cf BV=>?_) J3 (fun j' ig t ht=>r8 j' (by have:=(p5 j j' ig).1; omega) (fun h=>?_) t ht) this
          rotate_left
          ·subst h
           have:=iH L hL j j' (fun o' b9 e' sY=>hL.2 j o' b9 mj e' sY) ig
           rw [tB] at this; cases this
          rcases hblk b BV with ⟨u,zE,oh,fq⟩ | ⟨_,fq⟩
          ·exact inv.vn j u mj oh (fun h=>rS (h ▸ zE)) b cf fq
          ·exact inv.vd j mj b cf fq
         ·rename_i hb
          rw [if_neg hb] at this
          exact this
      ·by_cases kp:j=i
       ·subst kp
        rw [hs] at rA
        cases rA
        rw [xF] at pq
        rw [Fi v d pq]
        split
        ·rename_i hb
         rw [if_pos hb] at hV
         exact ⟨f,w',qo j s hs _ [] w' w' (cg a) _ v (av.refl _ _) (fun _ _ h=>nomatch h) (fun _ h=>nomatch h) (fun j' ig t ht=>r8 j' (by have:=(p5 j j' ig).1; omega) (by have:=(p5 j j' ig).1; omega) t ht) hV⟩
        ·rename_i hb
         rw [if_neg hb] at hV
         exact hV
       ·have mj:=((getSet L i j hL.1 ei).1 hj).resolve_left kp
        have zD:=tz j mj
        have vT:oi.dst≠some d:=by
         intro h
         apply kp
         refine dp j i d ?_ ?_
         ·rw [km zD]; exact pq
         ·rw [km tA,xF]; exact h
        have:=inv.sd j mj d pq sj rA
        rw [qc v d vT]
        split
        ·rename_i hb
         rw [if_pos hb] at this
         obtain ⟨f1,w1,h1⟩:=this
         refine ⟨f1,w1,qo j sj rA _ [] w1 w1 (cg a) _ _ (av.refl _ _) (fun _ _ h=>nomatch h) (fun _ h=>nomatch h) (fun j' ig t ht=>r8 j' (by have:=(p5 j j' ig).1; omega) (fun h=>?_) t ht) h1⟩
         subst h
         have:=iH L hL j j' (fun o' b9 e' sY=>hL.2 j o' b9 mj e' sY) ig
         rw [tB] at this; cases this
        ·rename_i hb
         rw [if_neg hb] at this
         exact this
      ·intro t ht
       rw [qc v t (fun h=>ht i tA (by rw [xF]; exact h))]
       exact inv.other t ht
      ·intro j hj b hb
       by_cases kp:j=i
       ·simp only [if_pos kp] at hb
        have hh:=vQ b hb
        have uO:=inv.lj.size
        rcases hh.1 with h | h
        ·rcases hblk b h with ⟨u,_,oh,fq⟩ | ⟨hv,fq⟩
         ·exact ⟨(inv.fresh u oh b fq).1.imp (fun h=>h) fun h=>⟨h.1,h.2.imp fun k hk=>⟨(getSet L i k hL.1 ei).2 (.inr hk.1),hk.2⟩⟩,hh.2⟩
         ·exact ⟨.inr ⟨inv.vg b fq,i,(getSet L i i hL.1 ei).2 (.inl rfl),hv⟩,hh.2⟩
        ·exact ⟨.inl (by omega),hh.2⟩
       ·have mj:=((getSet L i j hL.1 ei).1 hj).resolve_left kp
        simp only [if_neg kp] at hb
        split at hb
        ·cases hb
        ·have h1:=inv.fresh j mj b hb
         have h2:=hC.size
         exact ⟨h1.1.imp (fun h=>h) fun h=>⟨h.1,h.2.imp fun k hk=>⟨(getSet L i k hL.1 ei).2 (.inr hk.1),hk.2⟩⟩,by omega⟩
      ·have vV:∀ j',(L.setIfInBounds i true).getD j' false=true→j'≠i→∀ b∈f,b ∉ (if j'∈U.getD i [] then [] else g j'):=by
        intro j' ig e2 b hb cf
        have Fj:=((getSet L i j' hL.1 ei).1 ig).resolve_left e2
        split at cf
        ·cases cf
        ·rename_i rS
         rcases (vQ b hb).1 with h | h
         ·rcases hblk b h with ⟨u,zE,oh,fq⟩ | ⟨_,fq⟩
          ·exact inv.vn u j' oh Fj (fun h=>rS (h ▸ zE)) b fq cf
          ·exact inv.vd j' Fj b cf fq
         ·have:=inv.fresh j' Fj b cf
          omega
       intro i' j' sU ig rN b hb cf
       by_cases e1:i'=i
       ·have e2:j'≠i:=fun h=>rN (e1.trans h.symm)
        simp only [if_pos e1] at hb
        simp only [if_neg e2] at cf
        exact vV j' ig e2 b hb cf
       ·simp only [if_neg e1] at hb
        by_cases e2:j'=i
        ·simp only [if_pos e2] at cf
         exact vV i' sU e1 b cf hb
        ·simp only [if_neg e2] at cf
         split at hb
         ·cases hb
         ·split at cf
          ·cases cf
          ·exact inv.vn i' j' (((getSet L i i' hL.1 ei).1 sU).resolve_left e1) (((getSet L i j' hL.1 ei).1 ig).resolve_left e2) rN b hb cf
     cases hb:s.b with
     | true=>
      rw [if_pos hb] at ow
      refine .inl ⟨ow.1,rh ow.2 ?_⟩
      rintro v w' ⟨hC,f,vQ,hV⟩
      exact step v w' f hC vQ (by rw [if_pos hb]; exact hV)
     | false=>
      rw [if_neg (by rw [hb]; exact Bool.false_ne_true)] at ow
      exact .inr ⟨ow,step undef w [] (av.refl _ _) (fun b h=>nomatch h) (by rw [if_neg (by rw [hb]; exact Bool.false_ne_true)])⟩
    refine ⟨fun h=>(by obtain ⟨i,hi⟩:=Iz; rw [h] at hi; cases hi),fun i hi=>?_⟩
    obtain ⟨q1,oi,mx,tC⟩:=AM L i hi
    have ei:i < l.length:=(List.getElem?_eq_some_iff.1 mx).1
    have tB:L.getD i false=false:=getD_both q1
    have tA:i < m:=by
     rcases Nat.lt_or_ge i m with h | h
     ·exact h
     ·have hj:=CH i h ei j0 On
      have:=iH L hL i j0 (fun o' b9=>by have:o'=oi:=Option.some.inj (b9.symm.trans mx); subst this; exact tC) hj
      rw [xE] at this; cases this
    unfold wpOp
    rw [show (l.toArray)[i]? = some oi by simpa using mx]
    simp only []
    rw [yy (by rw [g1]; exact hd)]
    rcases main i oi tA mx tB tC with ⟨hw,h⟩ | ⟨hw,h⟩
    ·rw [if_pos hw]
     exact .inl (h.wp fun v w' hv=>hv)
    ·rw [if_neg (by rw [hw]; exact Bool.false_ne_true)]
     exact h
 refine head _ _ a _ (fun j=>if j=l.length then H else []) ⟨by simp,?_⟩ ?_ ?_ h1 h2 ⟨av.nil (av.drew _ _),fun _=>⟨av.drew _ _,by simp⟩,fun b hb=>by simpa using hb,?_,?_,?_,?_,?_,?_⟩
 ·intro j o ho hj
  rw [getD_replicate_false] at hj; cases hj
 ·intro j hj
  rw [getD_replicate_false] at hj; cases hj
 ·simp
 ·intro j hj
  rw [getD_replicate_false] at hj; cases hj
 ·intro j hj
  rw [getD_replicate_false] at hj; cases hj
 ·intro j hj
  rw [getD_replicate_false] at hj; cases hj
 ·intro t _
  rw [h3]
 ·intro j hj
  rw [getD_replicate_false] at hj; cases hj
 ·intro i j hi
  rw [getD_replicate_false] at hi; cases hi
end
end Go.Li
namespace Go.Dk
open Go Go.Li
section
variable {R S:Type} {P:Program} {cx:Cx R} {K:df R S} {l tail:LO} {base fr:Fr} {w:World} {Z:Nat→Prop}
theorem Ma {mt id:Nat} {U:LL} {E6:QE} (hU:((List.range mt).all fun i=>(U.getD i []).all fun u=>Nat.beq u l.length || ((bo l).getD i []).contains u)=true) (hh:lu l mt base=true) (hd:db cx.n l=true) (hA:yx l mt=true) (Ds:mt≤l.length) (ht:tail=l.drop mt) {i:Nat} {sl:LQ} {ms:MM} {Γ:QE} {m:Option (Out S R)} (E7:yn ms=true) (o7:xk U sl ms=true)
  (h:∀ x:qi ms,D P cx (.p (xj sl (mF ms x)) (zq ms x) base Γ fun fr Γ=>.tg true (yj tail) l tail K Γ fr m)):EZ P cx K l l mt U E6 id base (.a [] [] i sl ms Γ m):=by
 rintro ⟨_,h2,h3⟩ B o ho r0 w0 H Z ha hs ⟨S',hl,hR,hO⟩
 have hi:i=mt:=by
  have:=congrArg List.length h2
  simp at this
  omega
 subst hl
 obtain ⟨F,Hd,⟨zv,zw,uj,zx⟩,hS,hG⟩:=hs
 refine Pt (N:=Z) (S:=S') (U:=U) (H:=H) hd hA Ds hi uj hU (fun b hb=>⟨hG.rV b hb,fun h=>hG.apart b (List.mem_append_left _ h) hb⟩) (fun i s hs=>hR.s i s hs) (fun j hj=>hO j (by omega)) ?_
 intro g r w hI
 have Iq:∀ k j,j∈U.getD k []→∀ a∈ms,a.j≠j:=by
  intro k j hj
  unfold xk at o7
  rw [Bool.and_eq_true] at o7
  rw [List.getD_eq_getElem?_getD] at hj
  cases hk:U[k]? with
  | none=>rw [hk] at hj; exact absurd hj List.not_mem_nil
  | some us=>
   rw [hk] at hj
   have h1:=List.all_eq_true.1 (List.all_eq_true.1 o7.1 us (List.mem_of_getElem? hk)) j hj
   intro a ha he
   have:=List.all_eq_true.1 h1 a ha
   rw [he,Nat.beq_refl] at this
   cases this
 have hD:∀ j,j < mt→(∀ k,j ∉ U.getD k [])→tx l S' j g r w:=fun j hj hn=>hI.done j hj fun k _=>hn k
 have bh:∀ a∈ms,a.j < mt:=fun a ha=>hi ▸ hR.lt ha
 obtain ⟨x,hx,qm,Q6⟩:=Oi (g:=g) (r:=r) (w:=w) E7 hR.d (fun a ha b hb uU=>hI.vn _ _ (bh a ha) (bh b hb) uU) fun a ha=>by
  have:=hR.EM (S2:=[]) ha (by rw [List.append_nil]; exact hD a.j (bh a ha) (fun k hk=>Iq k _ hk a ha rfl))
  exact this
 have BR:=List.nodup_append.1 hG.nd
 have qc:∀ b∈yr g ms,w0.heap.size≤b∨b∈H:=fun b hb=>by
  obtain ⟨a,h1,h2⟩:=Bf hb
  exact (hI.fresh a.j (bh a h1) b h2).1.imp (fun h=>h) (·.1)
 have jc:=se.stay hS hG hI.lj
 obtain ⟨Vo,Vr,Q7,Q8,qm⟩:=qm
 obtain ⟨F',hp,jq⟩:=qm.build (jc.mono (fun _ h=>.inl h) fun _ h=>h)
 have E8:Gd B Z (yr g ms++F) w:=by
  refine ⟨wW Q6 BR.2.1 fun b hb hF=>(qc b hb).elim (fun h=>Nat.lt_irrefl _ (Nat.lt_of_lt_of_le (hS.lt b hF) h)) (fun h=>BR.2.2 b h b hF rfl),?_,fun b hb=>Nat.lt_of_lt_of_le (hG.rV b hb) hI.lj.size,?_,hG.wK,hG.xh,hG.lj.then hI.lj fun b hb=>hG.low b (List.mem_append_left _ hb)⟩
  ·intro b hb hz
   rcases List.mem_append.1 hb with hb | hb
   ·exact (qc b hb).elim (fun h=>Nat.lt_irrefl _ (Nat.lt_of_lt_of_le (hG.rV b hz) h)) (fun h=>hG.apart b (List.mem_append_left _ h) hz)
   ·exact hG.apart b (List.mem_append_right _ hb) hz
  ·intro b hb
   rcases List.mem_append.1 hb with hb | hb
   ·exact (qc b hb).elim (fun h=>.inr (Nat.le_trans hG.lj.size h)) (fun h=>hG.low b (List.mem_append_left _ h))
   ·exact hG.low b (List.mem_append_right _ hb)
 have LZ:c9 r ((xj sl (mF ms x)).reverse++base):=by
  refine ud (E4 (fun p hp=>?_) hx) (mb hh ha hI.other)
  exact hR.zr (S2:=[]) hp fun j _ hj=>(by rw [List.append_nil]; exact hI.sd j (hi ▸ hj))
 have:=(h x).sound B o ho r w LZ ⟨_,F',jq,((E8.perm (Hx Q7)).freeze Q8).perm hp⟩
 rw [ht] at this
 exact this
theorem UY {id:Nat} (hd:QE) (mt:Nat) (U as:LL) {ops:LO} {Γ Γ1:QE} {fr:Fr} {m:Option (Out S R)}
  (hB:(P.follows .mixedOrders && db cx.n l && yx l mt && Nat.ble mt l.length && (j7 l U mt == as) && ((List.range mt).all fun i=>(U.getD i []).all fun u=>Nat.beq u l.length || ((bo l).getD i []).contains u))=true)
  (ho:ops=l.take mt) (ht:tail=l.drop mt) (hf:Kp (vN ops) none fr base) (hh:lu l mt base=true) (he:EO Γ hd Γ1) (E9:OW Γ hd)
  (h:AD true P cx K l tail base U hd (.a as ops 0 [] [] Γ1 m)):Bx (qb P cx (.dr id l K Γ fr m)):=by
 simp only [Bool.and_eq_true] at hB
 obtain ⟨⟨⟨⟨⟨b1,b2⟩,b3⟩,b5⟩,b6⟩,b7⟩:=hB
 rw [qz]
 intro B o hm r w ha hs
 obtain ⟨Z,F,hS,hG⟩:=hs
 obtain ⟨Fd,F',h1,h2,h3⟩:=he.sound hS
 have Fb:SA Z w hd [] Fd:=by
  have:=(HO.hl E9 hS h1).front (Γ:=[]) (F:=[]) rfl
  simpa using this
 have hX:se B Z hd Γ1 Fd w:=⟨F',Fd,⟨Fb,fun b hb=>⟨hb,Fb.lt b hb⟩,Fb.lt,(List.nodup_append.1 (hG.perm h3).nd).1⟩,h2,hG.perm h3⟩
 refine mh.W b1 ?_
 refine AD.sound (id:=id) hh (fun _ _ _ _ _ _ hs he h=>Ma b7 hh b2 b3 (Nat.le_of_ble_eq_true b5) ht hs he h) h
  ⟨by rw [List.drop_zero]; exact (eq_of_beq b6).symm,by rw [List.drop_zero]; exact ho,Nat.zero_le _⟩ B o hm r w Fd Z (hf.sound ha) hX ⟨[],rfl,⟨fun _ h=>absurd h List.not_mem_nil,fun _ h=>absurd h List.not_mem_nil,fun i s h=>by simp at h,List.nodup_nil,fun _ _ _ h1 h2=>yt l (Iy b3) h1 h2⟩,fun j hj=>absurd hj (Nat.not_lt_zero j)⟩
theorem Mb {id:Nat} (mt:Nat) (U as:LL) {ops:LO} {Γ:QE} {fr:Fr} {m:Option (Out S R)}
  (hB:(P.follows .mixedOrders && db cx.n l && yx l mt && Nat.ble mt l.length && (j7 l U mt == as) && ((List.range mt).all fun i=>(U.getD i []).all fun u=>Nat.beq u l.length || ((bo l).getD i []).contains u))=true)
  (ho:ops=l.take mt) (ht:tail=l.drop mt) (hf:Kp (vN ops) none fr base) (hh:lu l mt base=true)
  (h:AD true P cx K l tail base U [] (.a as ops 0 [] [] Γ m)):Bx (qb P cx (.dr id l K Γ fr m)):=UY [] mt U as hB ho ht hf hh .nil .nil h
end
end Go.Dk
namespace Go.Dk
open Go Go.Li
def zi:Value→Option Nat
 | .slice (some a) _ _=>some a.block
 | _=>none
def NF {α:Type} (E:ai α):Prop:=∀ {h:Array Obj} {cs:LV} {x:α} {f:LN},E.rep h cs x f→f=[]
theorem NF.i {k:IntKind}:NF (aN k):=wS
theorem NF.l {α:Type} {E:ai α} (hE:NF E) {h:Array Obj}:∀ {xs:List α} {cs:LV} {f:LN},dg E h cs xs f→f=[]:=by
 intro xs
 induction xs with
 | nil=>rintro cs f ⟨_,rfl⟩; rfl
 | cons x xs ih=>
  rintro cs f ⟨c,j4,f1,f2,rfl,rfl,h1,h2⟩
  rw [hE h1,ih h2]; rfl
structure Good {α:Type} (A:Value→α→Prop) (f:LN):Prop where
 sub:∀ u y b,A u y→zi u=some b→b∈f
 one:∀ u y u' y' b,A u y→A u' y'→zi u=some b→zi u'=some b→y=y'
inductive zb {α:Type}:{β:Type}→ai β→((Value→List α→Prop)→ai β)→Prop
 | row {e:TI} {E:ai α}:zb (aL e E) (fun A=>sR A (aL e E))
 | step {β:Type} {e:TI} {T:ai β} {T':(Value→List α→Prop)→ai β} (h:zb T T'):zb (aL e T) (fun A=>bT (T' A))
section
variable {α β:Type} {T:ai β} {T':(Value→List α→Prop)→ai β} {A A':Value→List α→Prop} {f:LN} {hp:Array Obj}
theorem zb.size (h:zb T T'):(T' A).size=T.size:=by
 cases h <;> rfl
theorem zb.mono (h:zb T T') (hA:∀ u y,A u y→A' u y):Le (T' A) (T' A'):=by
 induction h with
 | row=>exact ⟨rfl,fun h=>⟨h.1.imp fun v g=>⟨g.1,hA _ _ g.2⟩,h.2⟩⟩
 | step _ ih=>exact ih.G8
theorem zb.UZ {e:TI} (ho:∀ {cs:LV} {x:β} {f:LN},T.rep hp cs x f→f.Nodup→∃ A,Good A f∧(T' A).rep hp cs x f) (hm:∀ {A A':Value→List α→Prop},(∀ u y,A u y→A' u y)→Le (T' A) (T' A')) :
  ∀ {xs:List β} {cs:LV} {f:LN},dg T hp cs xs f→f.Nodup→∃ A,Good A f∧dg (T' A) hp cs xs f:=by
 have _:=e
 intro xs
 induction xs with
 | nil=>rintro cs f ⟨rfl,rfl⟩ _; exact ⟨fun _ _=>False,⟨fun _ _ _ h=>h.elim,fun _ _ _ _ _ h=>h.elim⟩,rfl,rfl⟩
 | cons x xs ih=>
  rintro cs f ⟨c,j4,f1,f2,rfl,rfl,h1,h2⟩ hn
  obtain ⟨n1,n2,n3⟩:=List.nodup_append.1 hn
  obtain ⟨A1,g1,r1⟩:=ho h1 n1
  obtain ⟨A2,g2,r2⟩:=ih h2 n2
  refine ⟨fun u y=>A1 u y∨A2 u y,⟨fun u y b h hb=>?_,fun u y u' y' b h h' hb cf=>?_⟩,c,j4,f1,f2,rfl,rfl,(hm fun _ _=>.inl).le r1,tY (hm fun _ _=>.inr) r2⟩
  ·exact h.elim (fun h=>List.mem_append_left _ (g1.sub u y b h hb)) (fun h=>List.mem_append_right _ (g2.sub u y b h hb))
  ·rcases h with h | h <;> rcases h' with h' | h'
   ·exact g1.one u y u' y' b h h' hb cf
   ·exact absurd rfl (n3 b (g1.sub _ _ _ h hb) b (g2.sub _ _ _ h' cf))
   ·exact absurd rfl (n3 b (g1.sub _ _ _ h' cf) b (g2.sub _ _ _ h hb))
   ·exact g2.one u y u' y' b h h' hb cf
theorem zb.opened (h:zb T T'):∀ {cs:LV} {x:β} {f:LN},T.rep hp cs x f→f.Nodup→∃ A,Good A f∧(T' A).rep hp cs x f:=by
 induction h with
 | @row e E=>
  intro cs x f hr _
  obtain ⟨base,cap,rfl,gw⟩:=id hr
  refine ⟨fun u y=>u = .slice base x.length cap∧y=x,⟨?_,?_⟩,⟨_,rfl,rfl,rfl⟩,hr⟩
  ·rintro u y b ⟨rfl,rfl⟩ hb
   rcases gw with ⟨rfl,_⟩ | ⟨b0,cur,f',rfl,_,rfl,_⟩
   ·cases hb
   ·cases hb; exact List.mem_cons_self
  ·rintro u y u' y' b ⟨_,rfl⟩ ⟨_,rfl⟩ _ _; rfl
 | @step β e T T' ho ih=>
  intro cs x f hr hn
  obtain ⟨base,cap,rfl,gw⟩:=hr
  rcases gw with ⟨rfl,_,rfl,rfl⟩ | ⟨b,cur,f',rfl,hg,rfl,h3,h4,h5,h6⟩
  ·exact ⟨fun _ _=>False,⟨fun _ _ _ h=>h.elim,fun _ _ _ _ _ h=>h.elim⟩,none,cap,rfl,.inl ⟨rfl,rfl⟩⟩
  ·obtain ⟨A,g1,g2⟩:=zb.UZ (e:=e) ih (fun hA=>ho.mono hA) h6 (List.nodup_cons.1 hn).2
   refine ⟨A,⟨fun u y b h hb=>List.mem_cons_of_mem _ (g1.sub u y b h hb),g1.one⟩,_,cap,rfl,.inr ⟨b,0,cur,e,(0,0),f',rfl,hg,rfl,?_⟩⟩
   rw [List.drop_zero,ho.size]
   exact g2
end
section
variable {α:Type} {e e':TI} {E:ai α} {A:Value→List α→Prop} {ft f:LN} {hp:Array Obj}
theorem IB (nf:NF E) (hA:Good A ft):∀ {ys:List (List α)} {us:LV} {g:LN},dg (sR A (aL e' E)) hp us ys g→ys.Nodup→
  dg (aL e' E) hp us ys g∧g.Nodup∧∀ b∈g,b∈ft∧∃ u y,A u y∧zi u=some b∧y∈ys:=by
 intro ys
 induction ys with
 | nil=>rintro us g ⟨rfl,rfl⟩ _; exact ⟨⟨rfl,rfl⟩,List.nodup_nil,fun b hb=>absurd hb List.not_mem_nil⟩
 | cons y ys ih=>
  rintro us g ⟨c,j4,g1,g2,rfl,rfl,⟨⟨u,rfl,hu⟩,hr⟩,h2⟩ hn
  obtain ⟨n1,n2⟩:=List.nodup_cons.1 hn
  obtain ⟨a1,a2,a3⟩:=ih h2 n2
  refine ⟨⟨[u],j4,g1,g2,rfl,rfl,hr,a1⟩,?_,?_⟩
  ·obtain ⟨base,cap,hv,gw⟩:=hr
   obtain rfl:u = .slice base y.length cap:=by simpa using hv
   rcases gw with ⟨_,_,_,rfl⟩ | ⟨b,cur,f',rfl,_,rfl,_,_,_,h6⟩
   ·exact a2
   ·rw [nf.l h6]
    refine List.nodup_cons.2 ⟨fun hb=>?_,a2⟩
    obtain ⟨_,u',y',h7,h8,h9⟩:=a3 b hb
    rw [hA.one _ _ _ _ b hu h7 rfl h8] at n1
    exact n1 h9
  ·intro b hb
   rcases List.mem_append.1 hb with hb | hb
   ·obtain ⟨base,cap,hv,gw⟩:=hr
    obtain rfl:u = .slice base y.length cap:=by simpa using hv
    rcases gw with ⟨_,_,_,rfl⟩ | ⟨b0,cur,f',rfl,_,rfl,_,_,_,h6⟩
    ·cases hb
    ·rw [nf.l h6,List.mem_singleton] at hb
     subst hb
     exact ⟨hA.sub _ _ _ hu rfl,_,y,hu,rfl,by simp⟩
   ·obtain ⟨b1,u',y',b2,b3,b4⟩:=a3 b hb
    exact ⟨b1,u',y',b2,b3,by simp [b4]⟩
theorem J5 {Z:Nat→Prop} {w:World} {v:Value} {ys:List (List α)} (nf:NF E) (hA:Good A ft) (ho:pg Z w f (.om e (sR A (aL e' E)) v ys)) (hn:ys.Nodup) (hf:f.Nodup) (hz:∀ b∈f,¬ Z b) :
  ∃ g,(∀ b∈g,b∈ft)∧(aL e (aL e' E)).rep w.heap [v] ys (f++g)∧(f++g).Nodup:=by
 obtain ⟨us,g,h1,h2,h3,_⟩:=ho
 obtain ⟨a1,a2,a3⟩:=IB nf hA h2 hn
 have hl:us.length=ys.length:=by have:=jx a1; rw [this]; exact Nat.mul_one _
 refine ⟨g,fun b hb=>(a3 b hb).1,?_,List.nodup_append.2 ⟨hf,a2,fun b hb c hc=>fun e=>hz b hb (h3 b (e ▸ hc))⟩⟩
 obtain ⟨base,cap,hv,hr⟩:=h1
 obtain rfl:v = .slice base us.length cap:=by simpa using hv
 rw [hl]
 rcases hr with ⟨rfl,rfl,rfl,rfl⟩ | ⟨b,cur,f',rfl,hg,rfl,c1,c2,c3,c4⟩
 ·cases ys with
  | cons y ys=>simp at hl
  | nil=>obtain ⟨_,rfl⟩:=a1; exact ⟨none,0,rfl,.inl ⟨rfl,rfl,rfl,rfl⟩⟩
 ·obtain ⟨c5,rfl⟩:=yg c4
  refine ⟨_,cap,rfl,.inr ⟨b,cur,g,rfl,hg,rfl,by rw [← hl]; exact c1,c2,c3,?_⟩⟩
  have e1:(aL e' E).size=rF.size:=rfl
  rw [e1,← hl,c5]
  exact a1
end
section
variable {P:Program} {R:Type} {cx:Cx R}
theorem aj {S S1 α β:Type} [DecidableEq (List α)] (k t0:Nat) (φ:S1→Value→Fr) (HB:S1→List (List α)) (v0:Value) (f2:Fr) {e e':TI} {E:ai α} {T:ai β} {T':(Value→List α→Prop)→ai β} {vs:Value} {x:β} {iw:List KI} {kb:Kb R S} {c:Code} {s0:S1} {body:S1→Option (Out S1 R)} {f:S1→Option (Out S R)} {Γ Γ1 Γ2:QE} {fr:Fr}
  (ho:zb T T') (nf:NF E) (ha:rM fr (φ s0 v0)) (hf:rM fr f2) (hz:HB s0=[]) (hv:look fr t0=some vs) (h1:ed Γ (.own T vs x) Γ1) (h2:∀ A:Value→List α→Prop,ed Γ1 (.om e (sR A (aL e' E)) v0 []) Γ2)
  (hb:∀ (A:Value→List α→Prop) s v,D P cx (.p (φ s v) [.om e (sR A (aL e' E)) v (HB s)] f2 [.rd false (T' A) vs x] fun fr Γ=>.c ⟨[],.loop Value k (fun s v=>[.om e (sR A (aL e' E)) v (HB s)]) φ [.rd false (T' A) vs x] f2⟩ c Γ fr (body s)))
  (hk:∀ s v,D P cx (.p (φ s v) [.own (aL e (aL e' E)) v (HB s)] f2 [] fun fr Γ=>.mn ⟨iw,kb⟩ Γ fr (f s))) :
  Bx (qb P cx (.bk true k ⟨iw,kb⟩ (.loop c) Γ fr (ah (af k (aj body s0)) fun s=>Rz (HB s)>>=fun _=>f s))):=by
 have _:=hv
 rw [qz]
 intro B o J6 r w uQ sx
 obtain ⟨Z,F,hS,hG⟩:=sx
 obtain ⟨ft,F1,sX,hT,jc⟩:=h1.sound hS
 have HC:=hG.perm sX
 obtain ⟨n1,n2,n3⟩:=List.nodup_append.1 HC.nd
 obtain ⟨A,hA,hR⟩:=ho.opened (hp:=w.heap) hT n1
 obtain ⟨fo,F2,qg,hO,jq⟩:=(h2 A).sound jc
 have Oo:∀ b∈ft,b < w.heap.size:=ai.lt _ hT
 have hfz:∀ b∈ft,¬ Z b:=fun b hb=>HC.apart b (List.mem_append_left _ hb)
 have RA:∀ b∈fo,b∈F1:=fun b hb=>qg.mem_iff.1 (List.mem_append_left _ hb)
 have rR:fo.Nodup:=(List.nodup_append.1 (qg.nodup_iff.2 n2)).1
 refine Ie (T:=TT P cx B) (LI B (fun s v=>[.om e (sR A (aL e' E)) v (HB s)]) φ [.rd false (T' A) vs x] f2) J6
  ⟨v0,ud (ha.all uQ) (hf.sound uQ),fun b=>Z b∨b∈ft,fo,⟨fo,[],(List.append_nil _).symm,by rw [hz]; exact hO.mono fun _=>.inl,⟨ft,hR,fun b hb=>.inr hb⟩,rfl⟩,rR,fun b hb=>?_,fun b hb=>hb.elim (hG.rV b) (Oo b),fun b hb=>HC.low b (List.mem_append_right _ (RA b hb)),fun b h=>.inl (hG.wK b h),fun b hb=>hb.elim (hG.xh b) fun hb=>.inr (HC.low b (List.mem_append_left _ hb)),hG.lj⟩ ?_ ?_ ?_
 ·rintro (h | h)
  ·exact HC.apart b (List.mem_append_right _ (RA b hb)) h
  ·exact n3 b h b (RA b hb) rfl
 ·intro x r w he hx
  subst he
  exact wL hx
 ·rintro s r w ⟨v,h1,h2⟩ o ho
  exact (hb A s v).sound B o ho r w h1 h2
 ·rintro s r w' ⟨v,a1,Z2,Fl,EC,nj⟩ hm
  obtain ⟨_,hn,hm⟩:=bind_some hm
  replace hn:=Mc hn
  obtain ⟨f',F',rfl,uV,U0⟩:=EC
  have EU:F'=[]:=U0.2
  subst EU
  rw [List.append_nil] at nj
  obtain ⟨g,s1,s2,s3⟩:=J5 nf hA uV hn nj.nd nj.apart
  refine (hk s v).sound B o hm r w' a1 ⟨B.Z,f'++g,⟨f'++g,[],(List.append_nil _).symm,s2,rfl⟩,s3,fun b hb hz=>?_,fun b hz=>nj.rV b (nj.wK b hz),fun b hb=>?_,fun _ h=>h,fun _ h=>.inl h,nj.lj⟩
  ·rcases List.mem_append.1 hb with hb | hb
   ·exact nj.apart b hb (nj.wK b hz)
   ·exact hfz b (s1 b hb) (hG.wK b hz)
  ·rcases List.mem_append.1 hb with hb | hb
   ·exact nj.low b hb
   ·exact HC.low b (List.mem_append_left _ (s1 b hb))
end
end Go.Dk
namespace Go.Dk
open Go Go.Li
section
variable {R:Type} {P:Program} {cx:Cx R} {B:Bs} {M:Type} {all l:LO} {rk:RK R M} {fr:Fr} {w:World} {Z:Nat→Prop} {F cur:LN} {Γ Γ1 Γ2 Γ3:QE}
theorem D.of {J:Jd R} (h:qb P cx J):D P cx J:=.inj (by rw [qz]; exact h)
theorem Oq {Δ : List aw} (h : FO Δ) : ∀ {Fd : List Nat}, HL Z w Δ Fd → ∀ e ∈ Δ, fact Z w [] e := by
  induction h with
  | nil => intro Fd _ e he; cases he
  | rd _ ih =>
    intro Fd hl e he
    cases hl with
    | own h _ => exact h.elim
    | fact h k => rcases List.mem_cons.1 he with rfl | he
                  · exact h
                  · exact ih k e he
  | bd _ ih =>
    intro Fd hl e he
    cases hl with
    | own h _ => exact h.elim
    | fact h k => rcases List.mem_cons.1 he with rfl | he
                  · exact h
                  · exact ih k e he
theorem lgS {α:Type} (S:ai α) {d:Nat} {t e n bt ty:TI} {m:Option M} [ht:zk P t e n bt]
  (h:∀ v,D P cx (.o false all l rk (.own (aL e (ja n)) v [] :: .rd false (uM S) (.bool true) ([],[]) :: Γ) ((d,v) :: fr) m)):D P cx (.e false (.buildSlice t 0 #[]) (some d) ty all l rk Γ fr m):=by
 refine D.of ?_
 intro B o ho r w ha hs pos ag g
 obtain ⟨h1,i,z,h2,_⟩:=ht.h
 obtain ⟨v,w',f,hr,hC,hO⟩:=yq (E:=ja n) (r:=r) (w:=w) (d:=some d) (ty:=ty) (pos:=pos) (ag:=ag) (g:=none) h1 h2
 refine fx (WL.val rfl hr ((h v).sound B o ho _ w' (ay ha) ?_))
 obtain ⟨Z,F,hS,hg⟩:=hs
 have hf:fact Z w [] (.rd false (uM S) (.bool true) ([],[])):=⟨[],⟨rfl,rfl,fun _ h=>absurd h List.not_mem_nil⟩,fun _ h=>absurd h List.not_mem_nil⟩
 exact St.put (f:=[]) (SA.fact hS hf) hg hC hO.1 hO.2.1 fun b hb=>.inr ((hO.2.2 b hb).resolve_left List.not_mem_nil)
theorem lnS {α:Type} {S:ai α} {q:Bool} {d n e:Nat} {x:OO} {v:Value} {us:List (List Value)} {xs:List α} {t ty bt:TI} {m:Option M} [ht:zk P t e n bt] (hx:bp fr x=some v) (h1:ed Γ (.own (aL e (ja n)) v us) Γ1) (hg:In (.rd false (uM S) (.bool true) (us,xs)) Γ)
  (h:D P cx (.o q all l rk Γ ((d,.int .i64 (xs.length:Int)) :: fr) m)):D P cx (.e q (.call ⟨.builtin .len,#[x],#[t]⟩) (some d) ty all l rk Γ fr m):=by
 refine D.of ?_
 intro B o ho r w ha hs pos ag g
 obtain ⟨q1,_⟩:=ht.h
 obtain ⟨Z,F,hS,hG⟩:=@_root_.id _ hs
 obtain ⟨f,F1,_,hO,_⟩:=h1.sound hS
 obtain ⟨k,hk,_⟩:=hg.rd hS []
 obtain ⟨base,cap,hv,_⟩:=hO
 obtain rfl:v = .slice base us.length cap:=by simpa using hv
 have hl:us.length=xs.length:=zh hk.2.1
 exact cu (v:=.int .i64 (xs.length:Int)) (fun w' _=>by rw [← hl]; exact xz q1 (bI ha hx)) (h.sound B o ho _ w (ay ha) hs)
theorem ixS {α V:Type} {S:ai α} {cl:α→V→List Value} {en:α→V→List aw} {q:Bool} {d n e:Nat} {x y:OO} {v:Value} {us:List (List Value)} {xs:List α} {k:IntKind} {j:Int} {t ty bt:TI} {f:α→Option M} [ht:zk P t e n bt] (hx:bp fr x=some v) (hy:bp fr y=some (.int k j))
  (h1:ed Γ (.own (aL e (ja n)) v us) Γ1) (hg:In (.rd false (uM S) (.bool true) (us,xs)) Γ) (hs:De S V cl en)
  (h:∀ z u,D P cx (.p [] (.rd false (yX us j) (.bool true) (cl z u) :: en z u) fr Γ fun fr Γ=>.o q all l rk Γ ((d,.pointer (some (cq v n j))) :: fr) (f z))):D P cx (.e q (.indexAddr t x y) (some d) ty all l rk Γ fr (idx xs j>>=f)):=by
 refine D.of ?_
 intro B o ho r w ha dx pos ag g
 replace hs:SO S V cl en:=by cases hs; assumption
 obtain ⟨z,hz,ho⟩:=bind_some ho
 replace hz:=p4 hz
 obtain ⟨q1,i,_,q2,_,_,q3,_⟩:=ht.h
 obtain ⟨Z,F,hS,hG⟩:=dx
 obtain ⟨f0,F1,_,hO,_⟩:=h1.sound hS
 obtain ⟨g0,hk,tj⟩:=hg.rd hS []
 obtain ⟨c,g1,e1,e2,e3⟩:=BJ j.toNat hk.2.1 hz.2
 obtain ⟨u,rfl,o7⟩:=hs.op e2
 have hlen:us.length=xs.length:=zh hk.2.1
 have bh:j.toNat < xs.length:=(List.getElem?_eq_some_iff.1 hz.2).1
 have hv:∃ a c,v = .slice (some a) us.length c:=by
  obtain ⟨base,cap,hv,hr⟩:=hO
  obtain rfl:v = .slice base us.length cap:=by simpa using hv
  rcases hr with ⟨_,_,rfl,_⟩ | ⟨b,cur,f',rfl,_⟩
  ·rw [← hlen] at bh; simp at bh
  ·exact ⟨_,_,rfl⟩
 obtain ⟨a,c',rfl⟩:=hv
 have dv:HL Z w (.rd false (yX us j) (.bool true) (cl z u) :: en z u) []:=.fact ⟨[],⟨rfl,⟨hz.1,e1⟩,rfl⟩,fun _ h=>absurd h List.not_mem_nil⟩ (uf (o7 Z fun b hb=>tj b (e3 b hb)))
 obtain ⟨F',hp,jq⟩:=dv.build hS
 refine cu (v:=.pointer (some (cq (.slice (some a) us.length c') n j))) (fun w' hC=>?_) ((h z u).sound B o ho _ w (ay ha) ⟨Z,F',jq,hG.perm (by simpa using hp)⟩)
 rw [lq q1 q2 (bI ha hx) (bI ha hy) hz.1 (by omega),q3]
 rfl
theorem RB {q:Bool} {d n off e:Nat} {x:OO} {v u:Value} {us:List (List Value)} {j:Int} {cs:LV} {ty:TI} {m:Option M} (h1:ed Γ (.own (aL e (ja n)) v us) Γ1) (hp:In (.rd false (yX us j) (.bool true) cs) Γ) (hc:cs[off]? = some u)
  (k:D P cx (.o q all l rk Γ ((d,u) :: fr) m)):D P cx (.la ((cq v n j).add off) none q ty x d all l rk Γ fr m):=by
 refine D.of ?_
 intro ht hx B o ho r w ha hs t pos ag g
 obtain ⟨Z,F,hS,_⟩:=@_root_.id _ hs
 obtain ⟨f,F1,_,hO,_⟩:=h1.sound hS
 obtain ⟨_,⟨_,⟨hj,hu⟩,_⟩,_⟩:=hp.rd hS []
 exact cu (Ld ht ((wX hO hj hu).2.2 off u hc) (bI ha hx)) (k.sound B o ho _ w (ay ha) hs)
theorem RC {q:Bool} {d n e:Nat} {x:OO} {v u:Value} {us:List (List Value)} {j:Int} {cs:LV} {ty:TI} {m:Option M} (h1:ed Γ (.own (aL e (ja n)) v us) Γ1) (hp:In (.rd false (yX us j) (.bool true) cs) Γ) (hc:cs[0]? = some u)
  (k:D P cx (.o q all l rk Γ ((d,u) :: fr) m)):D P cx (.la (cq v n j) none q ty x d all l rk Γ fr m):=by
 have e:(cq v n j).add 0=cq v n j:=rfl
 rw [← e]
 exact RB h1 hp hc k
theorem Wr {q:Bool} {d n e:Nat} {x:OO} {v:Value} {us:List (List Value)} {j:Int} {cs:LV} {ty:TI} {m:Option M} (h1:ed Γ (.own (aL e (ja n)) v us) Γ1) (hp:In (.rd false (yX us j) (.bool true) cs) Γ)
  (k:D P cx (.o q all l rk Γ ((d,.agg cs.toArray) :: fr) m)):D P cx (.la (cq v n j) (some n) q ty x d all l rk Γ fr m):=by
 refine D.of ?_
 intro ht hx B o ho r w ha hs t pos ag g
 obtain ⟨Z,F,hS,_⟩:=@_root_.id _ hs
 obtain ⟨f,F1,_,hO,_⟩:=h1.sound hS
 obtain ⟨_,⟨_,⟨hj,hu⟩,_⟩,_⟩:=hp.rd hS []
 obtain ⟨e1,_,e3⟩:=wX hO hj hu
 exact cu (Lg ht (fun i u hi=>e3 i u hi) (bI ha hx) e1) (k.sound B o ho _ w (ay ha) hs)
theorem apS {α V:Type} {S:ai α} {cl:α→V→List Value} {en:α→V→List aw} (y:α) {u:V} {d b n e bt:Nat} {s x:OO} {sv:Value} {us:List (List Value)} {xs:List α} {cs:LV} {t et ty:TI} {f:Unit→Option M} [ht:zk P t e n bt]
  (hs:bp fr s=some sv) (hx:bp fr x=some (.slice (some ⟨b,0,none⟩) 1 1)) (h0:ed Γ (.row b cs et) Γ1) (h1:ed Γ1 (.own (aL e (ja n)) sv us) Γ2) (hg:In (.rd false (uM S) (.bool true) (us,xs)) Γ2) (qa:De S V cl en) (_hv:tS V u) (hc:cs=cl y u) (ho:tZ Γ cs) (hn:cs.length=n) (RD:FO (en y u)) (hf:EF Γ2 (en y u) Γ3)
  (h:∀ v,D P cx (.o false all l rk (.own (aL e (ja n)) v (us++[cs]) :: .rd false (uM S) (.bool true) (us++[cs],xs++[y]) :: Γ3) ((d,v) :: fr) (f ()))):D P cx (.e false (.call ⟨.builtin .append,#[s,x],#[t,t]⟩) (some d) ty all l rk Γ fr (fits bt (xs.length+1)>>=f)):=by
 refine D.of ?_
 intro B o b9 r w ha dx pos ag g
 have CI:SO S V cl en:=by cases qa; assumption
 obtain ⟨_,hu,b9⟩:=bind_some b9
 obtain ⟨b1,b2⟩:=qt hu
 obtain ⟨q1,i,z,q2,q3,q4,q5,q6,_⟩:=ht.h
 obtain ⟨Z,F,hS,hG⟩:=dx
 have D8:=ho.one hS
 obtain ⟨n0,F0,uR,⟨rfl,bg⟩,xA⟩:=h0.sound hS
 obtain ⟨k,F1,hp,hO,jc⟩:=h1.sound xA
 obtain ⟨Fd,F2,Zn,RE,jq,qg⟩:=hf.sound jc
 obtain ⟨g0,hk,tj⟩:=hg.rd jc []
 have hlen:us.length=xs.length:=zh hk.2.1
 have q9:((k++F1)++[b]).Perm F:=(List.perm_append_comm.trans (hp.append_left [b])).trans uR
 have nj:Gd B Z (k++F1) w:=Gd.left (F':=[b]) (hG.perm q9)
 have y4:((k++F2)++(Fd++Zn)).Perm (k++F1):=by
  rw [List.append_assoc]
  refine List.Perm.append_left k (.trans ?_ qg)
  rw [← List.append_assoc]
  exact (List.perm_append_comm (l₁:=F2) (l₂:=Fd)).append_right Zn
 have rz:Gd B Z ((k++F2)++(Fd++Zn)) w:=nj.perm y4
 have bh:∀ b∈Fd++Zn,b < w.heap.size:=fun b hb=>by
  have h3:b∈k++F1:=y4.mem_iff.1 (List.mem_append_right _ hb)
  rcases List.mem_append.1 h3 with h3 | h3
  ·exact ai.lt _ hO b h3
  ·exact jc.lt b h3
 have E8:Gd B (ru Z (Fd++Zn)) (k++F2) w:=rz.freeze bh
 have BW:∀ b,ru Z Zn b→ru Z (Fd++Zn) b:=fun b hb=>hb.imp id fun h=>List.mem_append_right _ h
 obtain ⟨g1,wJ,BX⟩:=CI.cl (x:=y) (v:=u) (Z:=ru Z (Fd++Zn)) (w:=w) (Oq RD (RE.mono BW))
 have hdk:rP [] k:=fun _ h=>absurd h List.not_mem_nil
 have hE:dg (ja n) w.heap cs [cs] []:=⟨cs,[],[],[],by simp,by simp,⟨rfl,hn,D8,rfl⟩,rfl,rfl⟩
 obtain ⟨v,w',f',na,hC,du,dt,dp⟩:=pr (E:=ja n) (d:=some d) (ty:=ty) (pos:=pos) (ag:=ag) (g:=none) (k:=[]) (ys:=[cs]) (news:=cs) q1 q2 q3 (by rw [q5]; rfl) (by rw [q4]; rfl) (bI ha hs) hO (List.nodup_append.1 nj.nd).1 (bI ha hx) (fun i u hi=>bg.at i u hi) hE hdk (by simp) (by rw [q6,hlen]; exact b1) (by rw [hlen]; exact b2)
 refine fx (WL.val rfl na ((h v).sound B o b9 _ w' (ay ha) ?_))
 have RF:fact (ru Z (Fd++Zn)) w [] (.rd false (uM S) (.bool true) (us++[cs],xs++[y])):=by
  rw [hc]
  refine ⟨g0++g1,⟨rfl,Ql wJ hk.2.1,fun b hb=>?_⟩,fun b hb=>?_⟩
  ·rcases List.mem_append.1 hb with hb | hb
   ·exact hk.2.2 b hb
   ·exact S.lt wJ b hb
  ·rcases List.mem_append.1 hb with hb | hb
   ·exact .inl (tj b hb)
   ·exact BX b hb
 exact St.put (SA.fact (jq.mono BW fun _ h=>h) RF) E8 hC du (dp List.nodup_nil) fun b hb=>(dt b hb).imp id fun h=>h.resolve_left List.not_mem_nil
theorem Pu {n:Nat} {h:Array Obj}:∀ {us:List (List Value)} {cs:LV} {f:LN},dg (ja n) h cs us f→∀ c∈us,c.length=n∧∀ v∈c,v.oneCell'=true:=by
 intro us
 induction us with
 | nil=>intro cs f _ c hc; cases hc
 | cons a us ih=>
  rintro cs f ⟨c',j4,f1,f2,rfl,rfl,⟨rfl,h1,h2,rfl⟩,h3⟩ c hc
  rcases List.mem_cons.1 hc with rfl | hc
  ·exact ⟨h1,h2⟩
  ·exact ih h3 c hc
theorem Pv {n:Nat} {h:Array Obj}:∀ {us:List (List Value)},(∀ c∈us,c.length=n∧∀ v∈c,v.oneCell'=true)→dg (ja n) h us.flatten us []:=by
 intro us
 induction us with
 | nil=>intro _; exact ⟨rfl,rfl⟩
 | cons a us ih=>
  intro hc
  have h1:=hc a (by simp)
  exact ⟨a,us.flatten,[],[],by simp,rfl,⟨rfl,h1.1,h1.2,rfl⟩,ih fun c hm=>hc c (by simp [hm])⟩
theorem GQ {n:Nat} {c:LV}:∀ {us:List (List Value)} {j:Nat},(∀ x∈us,x.length=n)→j < us.length→(us.set j c).flatten=us.flatten.take (j * n)++c++us.flatten.drop (j * n+n)∧j * n+n≤us.flatten.length:=by
 intro us
 induction us with
 | nil=>intro j _ hj; simp at hj
 | cons a us ih=>
  intro j hl hj
  have ha:a.length=n:=hl a (by simp)
  cases j with
  | zero=>refine ⟨?_,by simp [ha]⟩; simp [← ha]
  | succ j=>
   obtain ⟨h1,h2⟩:=ih (j:=j) (fun x hx=>hl x (by simp [hx])) (by simpa using hj)
   have e:(j+1) * n=n+j * n:=by rw [Nat.add_mul,Nat.one_mul,Nat.add_comm]
   refine ⟨?_,by rw [e,List.flatten_cons,List.length_append,ha]; omega⟩
   rw [List.set_cons_succ,List.flatten_cons,List.flatten_cons,h1,e,List.take_append,List.drop_append,ha]
   have e1:List.take (n+j * n) a=a:=List.take_of_length_le (by omega)
   have e2:List.drop (n+j * n+n) a=[]:=List.drop_eq_nil_of_le (by omega)
   rw [e1,e2,show n+j * n - n=j * n by omega,show n+j * n+n - n=j * n+n by omega]
   simp
theorem stS {α V:Type} {S:ai α} {cl:α→V→List Value} {en:α→V→List aw} (y:α) {u:V} {n e:Nat} {x0 y0:OO} {v:Value} {j:Int} {us:List (List Value)} {xs:List α} {cs c0:LV} {t ty:TI} {m:Option M}
  (h1:ed Γ (.own (aL e (ja n)) v us) Γ1) (hp:In (.rd false (yX us j) (.bool true) c0) Γ) (hg:In (.rd false (uM S) (.bool true) (us,xs)) Γ1) (qa:De S V cl en) (_hv:tS V u) (hc:cs=cl y u) (ho:tZ Γ cs) (hn:cs.length=n) (RD:FO (en y u)) (hf:EF Γ1 (en y u) Γ2)
  (h:D P cx (.o false all l rk (.own (aL e (ja n)) v (us.set j.toNat cs) :: .rd false (uM S) (.bool true) (us.set j.toNat cs,xs.set j.toNat y) :: Γ2) fr m)):D P cx (.st (cq v n j) (.agg cs.toArray) n t x0 y0 ty all l rk Γ fr m):=by
 refine D.of ?_
 intro hT hx hy B o b9 r w ha dx pos ag g
 have CI:SO S V cl en:=by cases qa; assumption
 obtain ⟨i,q1,q2⟩:=hT
 obtain ⟨Z,F,hS,hG⟩:=dx
 have D8:=ho.one hS
 obtain ⟨_,⟨_,⟨hj,hu⟩,_⟩,_⟩:=hp.rd hS []
 obtain ⟨k,F1,sX,hO,jc⟩:=h1.sound hS
 obtain ⟨Fd,F2,Zn,RE,jq,qg⟩:=hf.sound jc
 obtain ⟨g0,hk,tj⟩:=hg.rd jc []
 have nj:Gd B Z (k++F1) w:=hG.perm sX
 have y4:((k++F2)++(Fd++Zn)).Perm (k++F1):=by
  rw [List.append_assoc]
  refine List.Perm.append_left k (.trans ?_ qg)
  rw [← List.append_assoc]
  exact (List.perm_append_comm (l₁:=F2) (l₂:=Fd)).append_right Zn
 have rz:Gd B Z ((k++F2)++(Fd++Zn)) w:=nj.perm y4
 have bh:∀ b∈Fd++Zn,b < w.heap.size:=fun b hb=>by
  have h3:b∈k++F1:=y4.mem_iff.1 (List.mem_append_right _ hb)
  rcases List.mem_append.1 h3 with h3 | h3
  ·exact ai.lt _ hO b h3
  ·exact jc.lt b h3
 have E8:Gd B (ru Z (Fd++Zn)) (k++F2) w:=rz.freeze bh
 have BW:∀ b,ru Z Zn b→ru Z (Fd++Zn) b:=fun b hb=>hb.imp id fun h=>List.mem_append_right _ h
 obtain ⟨g1,wJ,BX⟩:=CI.cl (x:=y) (v:=u) (Z:=ru Z (Fd++Zn)) (w:=w) (Oq RD (RE.mono BW))
 obtain ⟨g2,vl,Ws⟩:=Jt (c:=cs) (by rw [hc]; exact wJ) j.toNat hk.2.1
 have RF:fact (ru Z (Fd++Zn)) w [] (.rd false (uM S) (.bool true) (us.set j.toNat cs,xs.set j.toNat y)):=by
  refine ⟨g2,⟨rfl,vl,fun b hb=>?_⟩,fun b hb=>?_⟩
  ·exact (Ws b hb).elim (hk.2.2 b) (S.lt wJ b)
  ·exact (Ws b hb).elim (fun h=>.inl (tj b h)) (BX b)
 have Dw:j.toNat < us.length:=(List.getElem?_eq_some_iff.1 hu).1
 obtain ⟨base,cap,nr,hr⟩:=hO
 obtain rfl:v = .slice base us.length cap:=by simpa using nr
 rcases hr with ⟨_,_,rfl,_⟩ | ⟨b,cur,f',rfl,h2,rfl,h4,h5,h6,h3⟩
 ·simp at Dw
 ·obtain ⟨Wt,vQ⟩:=Eh h3
  subst vQ
  have dv:=Pu h3
  obtain ⟨e1,e2⟩:=GQ (c:=cs) (fun x hx=>(dv x hx).1) Dw
  have bg:Row w b cur.toList e:=by unfold Row; simpa using h2
  have RG:cur.toList=us.flatten++cur.toList.drop (us.length * n):=by
   rw [← Wt]; exact (List.take_append_drop _ _).symm
  have yd:cq (.slice (some ⟨b,0,none⟩) us.length cap) n j = ⟨b,j.toNat * n,none⟩:=by
   simp only [cq,jd,Nat.zero_add]
  rw [yd] at hx
  have hle:j.toNat * n+cs.length≤cur.toList.length:=by
   rw [hn,RG,List.length_append]; omega
  have na:=uA (P:=P) (d:=none) (ty:=ty) (pos:=pos) (ag:=ag) (gg:=none) q1 (by rw [hn,q2]) bg hle (bI ha hx) (y:=y0) (by rw [bI ha hy]; rfl) D8
  refine fx (WL.skip rfl na (h.sound B o b9 _ _ ha ?_))
  have yz:cur.toList.take (j.toNat * n)++cs++cur.toList.drop (j.toNat * n+cs.length)=(us.set j.toNat cs).flatten++cur.toList.drop (us.length * n):=by
   rw [hn,e1]
   conv=>lhs; rw [RG]
   rw [List.take_append_of_le_length (by omega),List.drop_append_of_le_length (by omega)]
   simp
  have ye:=setRow_heap w b cur (cur.toList.take (j.toNat * n)++cs++cur.toList.drop (j.toNat * n+cs.length)).toArray e _ h2
  refine St.put (f:=[b]) (f':=[b]) (SA.fact (jq.mono BW fun _ h=>h) RF) E8 ⟨rfl,rfl,rfl,Nat.le_refl _,by simp,fun j' _ ig=>setRow_other w b j' _ fun h=>ig (by simp [h])⟩ ?_ (by simp) (fun b hb=>.inl hb)
  refine ⟨_,cap,by rw [List.length_set],.inr ⟨b,_,[],rfl,ye,rfl,by rw [List.length_set]; exact h4,h5,?_,?_⟩⟩
  ·rw [← h6]
   simp only [List.size_toArray,yz]
   have e3:(us.set j.toNat cs).flatten.length=us.flatten.length:=by
    rw [e1]; simp only [List.length_append,List.length_take,List.length_drop,hn]; omega
   rw [List.length_append,e3,← List.length_append,← RG,Array.length_toList]
  ·rw [List.toList_toArray,yz,List.length_set]
   have aja:(us.set j.toNat cs).flatten.length=us.length * n:=by
    have e3:(us.set j.toNat cs).flatten.length=us.flatten.length:=by
     rw [e1]; simp only [List.length_append,List.length_take,List.length_drop,hn]; omega
    rw [e3]
    have:=jx h3
    rw [Wt] at this
    exact this
   show dg (ja n) _ (List.take (us.length * n) _) _ _
   rw [List.take_append_of_le_length (by omega),List.take_of_length_le (by omega)]
   refine Pv fun c hm=>?_
   rcases List.mem_or_eq_of_mem_set hm with hm | rfl
   ·exact dv c hm
   ·exact ⟨hn,D8⟩
theorem xo {α:Type} {E:ai α} {d n:Nat} {t e ty:TI} {ps:List (Nat×Operand)} {us:LV} {xs:List α} {m:Option M} [hz:Jw P t e] (hl:uc Γ fr 0 ps us) (hn:us.length=n) (hb:(Nat.ble 1 n && Nat.ble n 16777216)=true) (hx:En Γ E us xs Γ1) (hE:E.size=1)
  (h:∀ v,D P cx (.o false all l rk (.own (aL e E) v xs :: Γ1) ((d,v) :: fr) m)):D P cx (.e false (.buildSlice t n ps.toArray) (some d) ty all l rk Γ fr m):=by
 refine D.of ?_
 intro B o ho r w ha hs pos ag g
 obtain ⟨Z,F,hS,hg⟩:=hs
 refine fx (WL.val rfl (hl.op ha hS ⟨hz.h⟩ hn hb) ((h _).sound B o ho _ _ (ay ha) ?_))
 obtain ⟨e1,f,F2,qg,hr,jq⟩:=hx.sound hS
 have Es:n≤16777216:=by
  rw [Bool.and_eq_true] at hb
  exact Nat.le_of_ble_eq_true hb.2
 have hC:av [] w (w.alloc (.cells us.toArray e)):=av.alloc _ _ _
 have mg:Gd B Z (f++F2) w:=hg.perm qg
 have bh:∀ b∈f,b < w.heap.size:=ma hr
 have yz:=heap_alloc_new w (.cells us.toArray e)
 have gw:dg E (w.alloc (.cells us.toArray e)).heap us xs f:=jr hr fun b hb=>hC.block b (bh b hb) (fun h=>absurd h List.not_mem_nil)
 refine St.put (f:=f) (f':=w.heap.size :: f) jq mg (av.mono hC fun _ h=>absurd h List.not_mem_nil) ⟨_,n,by rw [← hn,e1],.inr ⟨w.heap.size,us.toArray,f,rfl,yz,rfl,by rw [← hn,e1]; exact Nat.le_refl _,Nat.le_trans Es (by decide),by rw [hE,Nat.mul_one]; simp [hn],?_⟩⟩ ?_ ?_
 ·rw [hE,Nat.mul_one,List.toList_toArray,← e1,List.take_length]
  exact gw
 ·exact List.nodup_cons.2 ⟨fun hm=>Nat.lt_irrefl _ (bh _ hm),(List.nodup_append.1 mg.nd).1⟩
 ·intro b hb
  rcases List.mem_cons.1 hb with rfl | hb
  ·exact .inr (Nat.le_refl _)
  ·exact .inl hb
theorem Wu {α:Type} {d b:Nat} {s x:OO} {v u yv:Value} {j:Int} {y:α} {z:List α} {xs:List (List α)} {t e e' et ty:TI} {E E':ai α} {z0:α} {bt:Nat} {o1 o2:Bool} {Γx:QE} {f:Unit→Option M} [hT:tk P t α e E z0 bt] (hs:bp fr s=some u) (hx:bp fr x=some (.slice (some ⟨b,0,none⟩) 1 1)) (hl:Loc Γ u (.row v j)) (h0:ed Γ (.row b [yv] et) Γ1) (hz:qf Γ u o1 o2 E' z tf Γx) (h1:ed Γ1 (.own (aL e' (aL e E)) v xs) Γ2) (hr:RT (aL e E) (bT E')) (hy:AI Γ2 E yv y Γ3)
  (h:∀ v',D P cx (.o false all l rk (.own (aL e E) v' (z++[y]) :: .own (tv e' (aL e E) j.toNat) v xs :: Γ3) ((d,v') :: fr) (f ()))):D P cx (.e false (.call ⟨.builtin .append,#[s,x],#[t,t]⟩) (some d) ty all l rk Γ fr (fits bt (z.length+1)>>=f)):=by
 refine D.of ?_
 intro B o b9 r w ha dx pos ag g
 obtain ⟨_,hu,b9⟩:=bind_some b9
 obtain ⟨b1,b2⟩:=qt hu
 obtain ⟨q1,q2,i,zz,q3,q4,q5,q6,q7,_⟩:=hT.h
 obtain ⟨Z,F,hS,hG⟩:=dx
 obtain ⟨j0,j1,kj⟩:=Loc.row hl rfl hS
 obtain ⟨dh,_,⟨⟨gz,tj,_⟩,_⟩,_⟩:=hz.sound hS
 obtain ⟨n0,F0,uR,⟨rfl,bg⟩,xA⟩:=h0.sound hS
 obtain ⟨fm,F1,sX,hO,jc⟩:=h1.sound xA
 obtain ⟨ky,F2,qg,Q2,jq⟩:=hy.sound jc
 rw [ue hO] at j1
 obtain ⟨k,gm,a1,a2,a3⟩:=EG rfl hO (List.getElem?_eq_getElem j1) kj
 have Q3:xs[j.toNat]=z:=hr.uL (hr.le.le a1) tj
 rw [Q3] at a1
 have q9:((k++ky)++(gm++F2)).Perm (fm++F1):=by
  have e1:((k++gm)++(ky++F2)).Perm (fm++F1):=(a2.append_right _).trans (qg.append_left fm)
  refine .trans ?_ e1
  rw [List.append_assoc,List.append_assoc]
  refine List.Perm.append_left k ?_
  rw [← List.append_assoc,← List.append_assoc]
  exact List.perm_append_comm.append_right F2
 have nj:Gd B Z ((k++ky)++(gm++F2)) w:=Gd.left (F':=[b]) (hG.perm (((q9.append_right [b]).trans (List.perm_append_comm.trans (sX.append_left [b]))).trans uR))
 have dp:=(List.nodup_append.1 nj.nd).1
 have zn:=List.nodup_append.1 dp
 obtain ⟨v',w',f',na,hC,du,dt,EY⟩:=pr (E:=E) (d:=some d) (ty:=ty) (pos:=pos) (ag:=ag) (g:=none) (k:=ky) (ys:=[y]) (news:=[yv]) q1 q3 q4 (by rw [q5,q2]) (by rw [cells_one q6,q2]; rfl) (bI ha hs) a1 zn.1 (bI ha hx) (fun i u hi=>bg.at i u hi) (rD Q2) (fun b hb hm=>zn.2.2 b hm b hb rfl) (by simp) (by rw [q7]; exact b1) b2
 refine fx (WL.val rfl na ((h v').sound B o b9 _ w' (ay ha) ?_))
 have hSh:SA Z w (.own (tv e' (aL e E) j.toNat) v xs :: Γ3) [] (gm++F2):=SA.cons jq (e:=.own (tv e' (aL e E) j.toNat) v xs) a3
 refine St.put hSh nj (hC.mono fun b hb=>List.mem_append_left _ hb) du (EY zn.2.1) fun b hb=>?_
 rcases dt b hb with h | h | h
 ·exact .inl (List.mem_append_left _ h)
 ·exact .inl (List.mem_append_right _ h)
 ·exact .inr h
theorem ixH {α:Type} {q:Bool} {d j0:Nat} {x y:OO} {v:Value} {k:IntKind} {j:Int} {xs:List α} {t e ty:TI} {E:ai α} {f:α→Option M} [ht:xy P t] (hx:bp fr x=some v) (hy:bp fr y=some (.int k j)) (h1:ed Γ (.own (tv e E j0) v xs) Γ1)
  (h:∀ z,D P cx (.o q all l rk Γ ((d,.pointer (some (cq v 1 j))) :: fr) (f z))):D P cx (.e q (.indexAddr t x y) (some d) ty all l rk Γ fr (idx xs j>>=f)):=by
 refine D.of ?_
 intro B o ho r w ha hs pos ag g
 obtain ⟨z,hz,ho⟩:=bind_some ho
 replace hz:=p4 hz
 obtain ⟨e',i,q1,q2,q3⟩:=ht.h
 obtain ⟨Z,F,hS,_⟩:=@_root_.id _ hs
 obtain ⟨f0,F1,_,⟨b,cap,cur,f1,f2,p,c0,qq,hv,_⟩,_⟩:=h1.sound hS
 obtain rfl:v = .slice (some ⟨b,0,none⟩) xs.length cap:=by simpa using hv
 have bh:j.toNat < xs.length:=(List.getElem?_eq_some_iff.1 hz.2).1
 have Fk:=hz.1
 refine cu (v:=.pointer (some (cq (.slice (some ⟨b,0,none⟩) xs.length cap) 1 j))) (fun w' hC=>?_) ((h z).sound B o ho _ w (ay ha) hs)
 rw [lq q1 q2 (bI ha hx) (bI ha hy) hz.1 (by omega),q3]
 rfl
theorem stR {α:Type} {x0 y0:OO} {v u:Value} {j:Int} {z:α} {xs:List α} {t e ty:TI} {E:ai α} {m:Option M} (h1:ed Γ (.own E u z) Γ1) (h2:ed Γ1 (.own (tv e E j.toNat) v xs) Γ2)
  (h:D P cx (.o false all l rk (.own (aL e E) v (xs.set j.toNat z) :: Γ2) fr m)):D P cx (.st (cq v 1 j) u 1 t x0 y0 ty all l rk Γ fr m):=by
 refine D.of ?_
 intro hT hx hy B o b9 r w ha dx pos ag g
 obtain ⟨i,q1,q2⟩:=hT
 obtain ⟨Z,F,hS,hG⟩:=dx
 obtain ⟨k,F1,sX,hK,jc⟩:=h1.sound hS
 obtain ⟨gm,F2,qg,hM,jq⟩:=h2.sound jc
 have y4:((gm++k)++F2).Perm F:=by
  refine .trans ?_ sX
  refine .trans ?_ (qg.append_left k)
  rw [← List.append_assoc k gm F2]
  exact List.perm_append_comm.append_right F2
 have nj:Gd B Z ((gm++k)++F2) w:=hG.perm y4
 have dp:=(List.nodup_append.1 nj.nd).1
 obtain ⟨b,cap,cur,f1,f2,p,c0,qq,hv,g1,rfl,⟨g2,g3,g4,g5⟩,g6,⟨g7,g8⟩,g9,g10⟩:=hM
 obtain rfl:v = .slice (some ⟨b,0,none⟩) xs.length cap:=by simpa using hv
 have yd:cq (.slice (some ⟨b,0,none⟩) xs.length cap) 1 j = ⟨b,j.toNat,none⟩:=by
  simp only [cq,jd,Nat.zero_add,Nat.mul_one]
 rw [yd] at hx
 have bg:Row w b cur.toList e:=by unfold Row; simpa using g1
 have Qf:∀ i∈(f1++f2)++k,i≠b:=by
  intro i hi he
  subst he
  have e1:((i :: (f1++f2))++k)=i :: ((f1++f2)++k):=rfl
  rw [e1] at dp
  exact (List.nodup_cons.1 dp).1 hi
 refine fx (WL.EB q1 q2 bg (by rw [Array.length_toList,g4]; omega) (bI ha hx) (bI ha hy) (E.one hK u (by simp)) fun w' hC tu=>h.sound B o b9 _ w' ha ?_)
 have Ot:∀ i∈(f1++f2)++k,i < w.heap.size→w'.heap[i]? = w.heap[i]?:=fun i hi hl=>hC.block i hl fun hm=>Qf i hi (by simpa using hm)
 have hK':E.rep w'.heap [u] z k:=E.congr hK fun i hi=>Ot i (List.mem_append_right _ hi) (E.lt hK i hi)
 have yZ:=g10 w'.heap (fun i hi=>Ot i (List.mem_append_left _ hi) (g9 i hi)) u z k hK'
 refine St.put (f:=(b :: (f1++f2))++k) (f':=b :: (f1++k++f2)) jq nj (hC.mono fun i hi=>by rw [List.mem_singleton.1 hi]; simp) ⟨_,cap,by rw [List.length_set],.inr ⟨b,_,f1++k++f2,rfl,tu,rfl,by rw [List.length_set]; exact g2,g3,?_,?_⟩⟩ ?_ ?_
 ·rw [g5]; simp [g4]
 ·have ye:((cur.toList.set j.toNat u).take xs.length)=p++[u]++qq:=by
   rw [List.take_set,g6,← g7]
   simp
  rw [List.length_set,g5,Nat.mul_one]
  simpa [ye] using yZ
 ·have EX:(b :: (f1++k++f2)).Perm ((b :: (f1++f2))++k):=by
   rw [List.cons_append]
   refine List.Perm.cons b ?_
   rw [List.append_assoc,List.append_assoc]
   exact List.Perm.append_left f1 List.perm_append_comm
  exact EX.nodup_iff.2 dp
 ·intro i hi
  refine .inl ?_
  rcases List.mem_cons.1 hi with rfl | hi
  ·simp
  ·rcases List.mem_append.1 hi with hi | hi
   ·rcases List.mem_append.1 hi with hi | hi <;> simp [hi]
   ·simp [hi]
theorem BY {S S1 V W:Type} (k:Nat) (Δ:S1→V→W→List aw) (φ:S1→V→W→Fr) (v0:V) (w0:W) (f2:Fr) {iw:List KI} {kb:Kb R S} {c:Code} {s0:S1} {body:S1→Option (Out S1 R)} {f:S1→Option (Out S R)}
  (ha:rM fr (φ s0 v0 w0)) (hf:rM fr f2) (h0:EO Γ (Δ s0 v0 w0) Γ1) (hn:OW Γ (Δ s0 v0 w0)) (hs:j5 Γ1 Γ2)
  (hb:∀ s v w,D P cx (.p (φ s v w) (Δ s v w) f2 Γ2 fun fr Γ=>.c ⟨[],.loop (V×W) k (fun s v=>Δ s v.1 v.2) (fun s v=>φ s v.1 v.2) Γ2 f2⟩ c Γ fr (body s)))
  (hk:∀ s v w,D P cx (.p (φ s v w) (Δ s v w) f2 Γ2 fun fr Γ=>.mn ⟨iw,kb⟩ Γ fr (f s))):Bx (qb P cx (.bk true k ⟨iw,kb⟩ (.loop c) Γ fr (ah (af k (Li.aj body s0)) f))):=
 loop k (fun s v=>Δ s v.1 v.2) (fun s v=>φ s v.1 v.2) (v0,w0) f2 ha hf h0 hn hs (fun s v=>hb s v.1 v.2) (fun s v=>hk s v.1 v.2)
def Fm {α:Type} (v:Value) (_:List α):Prop:=∃ a n c,v = .slice a n c∧n≤c
theorem Le.cap {α:Type} {T E:ai α} (hl:Le T E) (e:TI):Le (aL e T) (sR Fm (bT E)):=by
 refine ⟨rfl,fun {h cs x f} hr=>⟨?_,(Le.own hl e).le hr⟩⟩
 obtain ⟨base,cap,rfl,hr⟩:=hr
 refine ⟨_,rfl,_,_,_,rfl,?_⟩
 rcases hr with ⟨_,_,rfl,_⟩ | ⟨_,_,_,_,_,_,h,_⟩
 ·exact Nat.zero_le _
 ·exact h
theorem Pw {α:Type} {T E:ai α} {e e2:TI} {v:Value} {xs:List (List α)} {f:LN} {h:Array Obj} (hl:Le T E) (hO:(aL e (aL e2 T)).rep h [v] xs f) :
  ∃ fo fz us,(fo++fz).Perm f∧(aL e rF).rep h [v] us fo∧dg (sR Fm (bT E)) h us xs fz:=by
 obtain ⟨base,cap,hv,hr⟩:=hO
 rcases hr with ⟨rfl,rfl,rfl,rfl⟩ | ⟨b,cur,f',rfl,h2,rfl,h4,h5,h6,h3⟩
 ·exact ⟨[],[],[],.refl _,⟨none,0,by simpa using hv,.inl ⟨rfl,rfl,rfl,rfl⟩⟩,rfl,rfl⟩
 ·have h7:=jx h3
  have h8:(aL e2 T).size=1:=rfl
  rw [h8,Nat.mul_one] at h6 h3 h7
  try rw [Nat.mul_one] at h7
  refine ⟨[b],f',cur.toList.take xs.length,.refl _,⟨_,cap,by rw [h7]; exact hv,.inr ⟨b,cur,[],rfl,h2,rfl,by rw [h7]; exact h4,h5,by rw [h6]; exact (Nat.mul_one _).symm,?_⟩⟩,tY (Le.cap hl e2) h3⟩
  have h9:rF.size=1:=rfl
  rw [h9,Nat.mul_one,h7]
  exact AP (Bj h3)
theorem St.frz {α:Type} {T E:ai α} {e e2:TI} {v:Value} {xs:List (List α)} (hs:St B Γ w) (h1:EO Γ [.own (aL e (aL e2 T)) v xs] Γ1) (hr:RT T E):St B (.om e (sR Fm (bT E)) v xs :: Γ1) w:=by
 obtain ⟨Z,F,hS,hG⟩:=hs
 obtain ⟨_,F1,hH,jc,hp⟩:=h1.sound hS
 obtain ⟨f,hO,hp⟩ : ∃ f,(aL e (aL e2 T)).rep w.heap [v] xs f∧(f++F1).Perm F:=by
  cases hH with
  | own h k=>cases k; exact ⟨_,h,by simpa using hp⟩
 obtain ⟨fo,fz,us,hf,ho,hl⟩:=Pw hr.le hO
 have y4:((fo++F1)++fz).Perm F:=by
  refine .trans ?_ hp
  refine .trans ?_ (hf.append_right F1)
  rw [List.append_assoc,List.append_assoc]
  exact List.Perm.append_left fo List.perm_append_comm
 have rz:=Gd.freeze (hG.perm y4) fun b hb=>hS.lt b (y4.mem_iff.1 (List.mem_append_right _ hb))
 exact ⟨ru Z fz,fo++F1,SA.cons (jc.mono (fun _ h=>.inl h) fun _ h=>h) ⟨us,fz,ho,hl,fun b hb=>.inr hb,rfl⟩,rz⟩
theorem U1 {S:Type} {id:Nat} (k:Nat) {K:df R S} {l ops Wv:LO} {α:Type} {T E:ai α} {e e2:TI} {v:Value} {xs:List (List α)} {m:Option (Out S R)} (hB:(P.follows .mixedOrders && db cx.n l && ((l.take k).all fun o=>vP o.op) && Region.lexTailB .any l.toArray k)=true) (ho:ops=l.take k) (ht:Wv=l.drop k)
  (h1:EO Γ [.own (aL e (aL e2 T)) v xs] Γ1) (hr:RT T E) (h:D P cx (.o true l ops (.h l Wv K) (.om e (sR Fm (bT E)) v xs :: Γ1) fr m)):Bx (qb P cx (.dr id l K Γ fr m)):=by
 have h2:=tail (id:=id) k hB ho ht h
 rw [qz] at h2 ⊢
 exact fun B o b9 r w ha hs=>h2 B o b9 r w ha (hs.frz h1 hr)
theorem J7 {α:Type} {E:ai α} {h:Array Obj}:∀ {xs:List α} {cs:LV} {f:LN} (n:Nat),dg E h cs xs f→∃ f3,dg E h (cs.drop (n * E.size)) (xs.drop n) f3∧∀ b∈f3,b∈f:=by
 intro xs
 induction xs with
 | nil=>rintro cs f n ⟨rfl,rfl⟩; exact ⟨[],by simpa using ⟨rfl,rfl⟩,fun _ h=>h⟩
 | cons x xs ih=>
  rintro cs f n ⟨c,ds,f1,f2,rfl,rfl,h1,h2⟩
  cases n with
  | zero=>exact ⟨f1++f2,by simpa using ⟨c,ds,f1,f2,rfl,rfl,h1,h2⟩,fun _ h=>h⟩
  | succ n=>
   obtain ⟨f3,h3,h4⟩:=ih n h2
   refine ⟨f3,?_,fun b hb=>List.mem_append_right _ (h4 b hb)⟩
   have e:(n+1) * E.size=c.length+n * E.size:=by rw [E.len h1,Nat.add_mul,Nat.one_mul,Nat.add_comm]
   rw [e,List.drop_append,List.drop_of_length_le (by omega),List.nil_append,List.drop_succ_cons]
   simpa using h3
theorem slT {α:Type} {q:Bool} {d:Nat} {x lo:OO} {v:Value} {k:IntKind} {j:Int} {E:ai α} {xs:List α} {t ty:TI} {f:List α→Option M} [ht:xy P t] (hx:bp fr x=some v) (hy:bp fr lo=some (.int k j)) (hr:In (.rd false (sR Fm (bT E)) v xs) Γ) (hE:E.size=1)
  (h:∀ v' ys,D P cx (.o q all l rk (.rd false (bT E) v' ys :: Γ) ((d,v') :: fr) (f ys))):D P cx (.e q (.slice t x (some lo) none none) (some d) ty all l rk Γ fr (tl xs j>>=f)):=by
 refine D.of ?_
 intro B o ho r w ha hs pos ag g
 obtain ⟨ys,zF,ho⟩:=bind_some ho
 obtain ⟨h0,h1,rfl⟩:=Px zF
 obtain ⟨e,i,q1,q2,q3⟩:=ht.h
 obtain ⟨Z,F,hS,hG⟩:=hs
 obtain ⟨g0,⟨⟨v0,hv0,a0,n0,c0,hv1,hc⟩,base,cap,hv,gw⟩,tj⟩:=hr.rd hS []
 obtain rfl:v = .slice base xs.length cap:=by simpa using hv
 obtain rfl:Value.slice base xs.length cap=v0:=by simpa using hv0
 obtain ⟨rfl,rfl,rfl⟩ : base=a0∧xs.length=n0∧cap=c0:=by simpa using hv1
 have hlen:(xs.drop j.toNat).length=xs.length - j.toNat:=List.length_drop
 have hf:fact Z w [] (.rd false (bT E) (sliced base j.toNat xs.length cap 1) (xs.drop j.toNat)):=by
  by_cases hj:j.toNat=xs.length
  ·refine ⟨[],⟨_,cap - j.toNat,by unfold sliced; rw [hlen],.inl ⟨by rw [hj]; simp,rfl⟩⟩,fun _ h=>absurd h List.not_mem_nil⟩
  ·rcases gw with ⟨rfl,_⟩ | ⟨b,off,cur,e',fz,f',rfl,g1,rfl,g2⟩
   ·exfalso; simp at h1 hj; omega
   ·have rN : ¬ (cap=j.toNat):=by omega
    obtain ⟨f3,du,dt⟩:=J7 j.toNat g2
    refine ⟨b :: f3,⟨some ⟨b,off+j.toNat,none⟩,cap - j.toNat,?_,.inr ⟨b,off+j.toNat,cur,e',fz,f3,rfl,g1,rfl,?_⟩⟩,fun i hi=>?_⟩
    ·unfold sliced
     rw [hlen,if_neg rN]
     simp [jd]
    ·rw [hE,Nat.mul_one] at du ⊢
     rw [Nat.mul_one,List.drop_take,List.drop_drop] at du
     rw [hlen]
     exact du
    ·rcases List.mem_cons.1 hi with rfl | hi
     ·exact tj _ (by simp)
     ·exact tj _ (List.mem_cons_of_mem _ (dt i hi))
 refine cu (v:=sliced base j.toNat xs.length cap 1) (fun w' _=>?_) ((h _ _).sound B o ho _ w (ay ha) ⟨Z,F,SA.fact hS hf,hG⟩)
 have q4:P.elem t=e:=by simp [Program.elem,q1]
 have uO:(sizeOf (P.elem t)).run P w' = .ok 1 w':=by rw [q4]; simp [sizeOf,typeInfo,q2,q3]
 simp [execOp,bI ha hx,bI ha hy,run_sliceAt_slice w' t _ _ _ _ (by rw [q4]; exact q1),run_slice_l (P:=P) w' t base xs.length cap (by rw [q4]; exact q1) k j h0 h1,uO,Result.andThen]
theorem stN {α:Type} {x y:OO} {v u:Value} {j:Int} {z:List α} {xs:List (List α)} {E:ai α} {Q:Value→List α→Prop} {t e ty:TI} {Γx:QE} {m:Option M} (h0:Rg v j Γ) (h1:qf Γ u false false E z tf Γx) (h2:ed Γ (.om e (sR Q (bT E)) v xs) Γ1)
  (h:D P cx (.o false all l rk (.om e (bT E) v (xs.set j.toNat z) :: Γ1) fr m)):D P cx (.sl .om v j u t x y ty all l rk Γ fr m):=by
 refine D.of ?_
 intro hT hx hy _ B o ho r w ha hs pos ag g
 obtain ⟨i,hi,uO⟩:=hT
 obtain ⟨Z,F,hS,hg⟩:=hs
 obtain ⟨j0,j1⟩:=h0.sound hS
 obtain ⟨dh,_,⟨⟨k,hk,hkz⟩,_⟩,_⟩:=h1.sound hS
 obtain ⟨n,F1,hp,⟨us,gg,hO,hr0,tj,RH⟩,jc⟩:=h2.sound hS
 have hle:Le (sR Q (bT E)) (bT E):=⟨rfl,fun h=>h.2⟩
 have hr:dg (bT E) w.heap us xs gg:=tY hle hr0
 replace RH:(bT E).size=1:=rfl
 have mg:=hg.perm hp
 have dp:=List.nodup_append.1 mg.nd
 have RI:∀ b∈k,Z b:=fun b hb=>(hkz b hb).elim (fun h=>h) (fun h=>h)
 have Ww:∀ b∈n,¬ Z b:=fun b hb=>mg.apart b (List.mem_append_left _ hb)
 have hl:us.length=xs.length:=by have:=jx hr; rw [RH,Nat.mul_one] at this; exact this
 have Js:vc v=us.length:=ue hO
 rw [Js,hl] at j1
 refine fx (RJ.store (E:=bT E) (G:=n) (B:=w.heap.size) (g:=gg) (k:=k) hi uO ⟨us,⟨hO,dp.1,fun b hb=>.inl hb⟩,hr,RH⟩ (List.getElem?_eq_getElem j1) (bI ha hx) (bI ha hy) hk (fun b hb hm=>Ww b hm (RI b hb)) (fun b hb hm=>Ww b hm (tj b hb)) fun w' g' hC sw po=>?_)
 obtain ⟨us',b9,gw,XI⟩:=sw
 exact h.sound B o ho _ w' ha (St.put jc mg hC ⟨us',_,b9.1,gw,(fun b hb=>(po b hb).elim (tj b) (RI b)),XI⟩ b9.2.1 fun b hb=>.inl hb)
theorem St.aku {B:Bs} {Γ Δ Γ1 Γ2 Γ3:QE} {w:World} (h:St B Γ w) (h0:EF Γ Δ Γ1) (h1:EO Γ1 Γ2 Γ3) (h2:MF Γ none Γ2):St B (Δ.reverse++Γ2) w:=by
 obtain ⟨Z,F,hs,hg⟩:=h
 obtain ⟨Fd,F',Zn,a1,a2,a3⟩:=h0.sound hs
 obtain ⟨Qy,F3,c1,c2,c3⟩:=h1.sound a2
 obtain ⟨F2,b1,b2⟩:=HL.build a1 (h2.sound (hs.left (f:=Zn)) (dh:=[]) (by rintro e he; cases he) c1)
 refine St.of (F':=Fd++Qy) b2 (Gd.left (F':=F3) ((Gd.freeze (hg.perm a3) fun b hb=>hs.lt b (a3.mem_iff.1 (List.mem_append_right _ hb))).perm ?_)) b1
 rw [List.append_assoc]
 exact c3.append_left Fd
theorem join {S S1 V:Type} {t k:Nat} {b:Bool} (Δ:S1→V→List aw) (φ:S1→V→Fr) (v0:V) (f2:Fr) {iw:List KI} {kb:Kb R S} {x y:Code} {s0:S1} {m0:Option (Out S1 R)} {f:S1→Option (Out S R)}
   (_ha:rM fr (φ s0 v0)) (_hf:rM fr f2) (_h0:EO Γ (Δ s0 v0) Γ1) (_hs:j5 Γ1 Γ2)
   (hb:D P cx (.cd b ⟨[],.loop V k Δ φ Γ2 f2⟩ x y Γ fr m0)) (hk:∀ s v,D P cx (.p (φ s v) (Δ s v) f2 Γ2 fun fr Γ=>.n ⟨iw,kb⟩ Γ fr (f s))):D P cx (.cd b ⟨iw,kb⟩ x y Γ fr (jn t s0 m0 f)):=by
 refine .inj (bxi ?_)
 intro B o ho r w uQ sx
 replace ho:ah m0 f=some o:=ho
 cases hm:m0 with
 | none=>rw [hm] at ho; cases ho
 | some o0=>
  have h1:=hb.sound B o0 hm r w uQ sx
  rw [hm] at ho
  have hq:∀ e r w,kz P cx B ⟨[],.loop V k Δ φ Γ2 f2⟩ o0 e r w→kz P cx B ⟨iw,kb⟩ o e r w:=by
   intro e r w hp
   cases o0 with
   | norm s=>
    cases e with
    | normal=>obtain ⟨v,a1,a2⟩:=hp; exact (hk s v).sound B o ho r w a1 a2
    | _=>exact hp.elim
   | exit j s=>cases ho
   | ret y=>
    cases ho
    cases e with
    | ret=>exact wL hp
    | _=>exact hp.elim
  exact ⟨fun h=>xG (h1.1 h) hq,fun h=>xG (h1.2 h) hq⟩
theorem Ou {S:Type} {t:Nat} {K:df R S} {ops:LO} {m:Option (Out S R)} (_ht:BK ops=some t) (h:D P cx (.o false ops ops (.s K) Γ fr m)):D P cx (.rw false ops K Γ fr m):=.VV h
theorem sZ {S:Type} {b:Bool} {t:Nat} {K:df R S} {x y:Code} {m1 m2:Option (Out S R)} (hl:look fr t=some (.bool b)) (h1:D P cx (.c K x Γ ((t,.bool true) :: fr) m1)) (h2:D P cx (.c K y Γ ((t,.bool false) :: fr) m2)):D P cx (.cd b K x y Γ fr (bif b then m1 else m2)):=by
 refine D.of ?_
 have hc:∀ {r:NV},c9 r fr→∀ c,b=c→c9 r ((t,.bool c) :: fr):=by
  intro r ha c hb s u hs
  unfold look at hs
  cases sx:Nat.beq s t with
  | true=>
   rw [sx] at hs
   cases hs
   obtain rfl:=Nat.eq_of_beq_eq_true sx
   rw [← hb]
   exact ha _ _ hl
  | false=>rw [sx] at hs; exact ha _ _ hs
 exact fun B o ho r w ha hs=>⟨fun h=>h1.sound B o (by rw [h] at ho; exact ho) r w (hc ha _ h) hs,fun h=>h2.sound B o (by rw [h] at ho; exact ho) r w (hc ha _ h) hs⟩
class pd {α:Type} (S:ai α) (V:outParam Type) (cl:outParam (α→V→List Value)) (en:outParam (α→V→List aw)):Prop where
 ow:∀ x v,sS (en x v)=true
 op:∀ {w:World} {cs:LV} {x:α} {g:LN},S.rep w.heap cs x g→∃ v,cs=cl x v∧∀ Z:Nat→Prop,HL Z w (en x v) g
 cl:∀ {w:World} {x:α} {v:V} {Z:Nat→Prop} {g:LN},HL Z w (en x v) g→S.rep w.heap (cl x v) x g
theorem pd.i {k:IntKind}:pd (aN k) Unit (fun x _=>[.int k x]) (fun _ _=>[]):=
 ⟨fun _ _=>rfl,fun h=>⟨(),h.1,fun _=>by rw [h.2]; exact .nil⟩,fun h=>by cases h; exact ⟨rfl,rfl⟩⟩
theorem pd.s {α:Type} {e:TI} {E:ai α}:pd (aL e E) Value (fun _ v=>[v]) (fun x v=>[.own (aL e E) v x]):=by
 refine ⟨fun _ _=>rfl,fun {w cs x g} h=>?_,fun {w x v Z g} h=>?_⟩
 ·obtain ⟨base,cap,rfl,hr⟩:=h
  refine ⟨_,rfl,fun Z=>?_⟩
  have:=HL.own (Z:=Z) (w:=w) (e:=.own (aL e E) (.slice base x.length cap) x) (f:=g) ⟨base,cap,rfl,hr⟩ .nil
  rwa [List.append_nil] at this
 ·cases h with
  | own h k=>cases k; rw [List.append_nil]; exact h
  | fact h _=>exact h.elim
theorem pd.ip {β V:Type} {k:IntKind} {B:ai β} {cl:β→V→List Value} {en:β→V→List aw} (h:pd B V cl en):pd (ch (aN k) B) V (fun x v=>.int k x.1 :: cl x.2 v) (fun x v=>en x.2 v):=by
 refine ⟨fun x v=>h.ow x.2 v,fun {w cs x g} hr=>?_,fun {w x v Z g} he=>?_⟩
 ·obtain ⟨c1,c2,f1,f2,rfl,rfl,⟨rfl,rfl⟩,h2⟩:=hr
  obtain ⟨v,rfl,hv⟩:=h.op h2
  exact ⟨v,rfl,hv⟩
 ·exact ⟨[_],_,[],g,rfl,rfl,⟨rfl,rfl⟩,h.cl he⟩
theorem pd.sp {α β V:Type} {e:TI} {E:ai α} {B:ai β} {cl:β→V→List Value} {en:β→V→List aw} (h:pd B V cl en):pd (ch (aL e E) B) (Value×V) (fun x v=>v.1 :: cl x.2 v.2) (fun x v=>.own (aL e E) v.1 x.1 :: en x.2 v.2):=by
 refine ⟨fun x v=>h.ow x.2 v.2,fun {w cs x g} hr=>?_,fun {w x v Z g} he=>?_⟩
 ·obtain ⟨c1,c2,f1,f2,rfl,rfl,h1,h2⟩:=hr
  obtain ⟨base,cap,rfl,wJ⟩:=h1
  obtain ⟨v,rfl,hv⟩:=h.op h2
  exact ⟨(_,v),rfl,fun Z=>.own ⟨base,cap,rfl,wJ⟩ (hv Z)⟩
 ·cases he with
  | own h1 k=>
   obtain ⟨base,cap,hb,wJ⟩:=h1
   exact ⟨[_],_,_,_,rfl,rfl,⟨base,cap,hb,wJ⟩,h.cl k⟩
  | fact h1 _=>exact h1.elim
theorem pd.mp {α β V:Type} {f:β→α} {A:ai α} {cl:α→V→List Value} {en:α→V→List aw} (h:pd A V cl en):pd (xf f A) V (fun y v=>cl (f y) v) (fun y v=>en (f y) v):=
 ⟨fun y v=>h.ow (f y) v,fun hr=>h.op hr,fun he=>h.cl he⟩
inductive Md {α:Type} (S:ai α) (V:Type) (cl:α→V→List Value) (en:α→V→List aw):Prop
 | mk [h:pd S V cl en]:Md S V cl en
theorem U2:∀ {Δ:QE} {F:LN},sS Δ=true→HO Z w Δ F→HL Z w Δ F:=by
 intro Δ
 induction Δ with
 | nil=>intro F _ h; cases h; exact .nil
 | cons e Δ ih=>
  intro F ho h
  cases e with
  | own T v x=>cases h with | own h k=>exact .own h (ih ho k)
  | row b cs t=>cases h with | own h k=>exact .own h (ih ho k)
  | _=>exact absurd ho (by simp [sS])
theorem lgO {α:Type} (S:ai α) {d:Nat} {t e n bt ty:TI} {m:Option M} [ht:zk P t e n bt]
  (h:∀ v,D P cx (.o false all l rk (.own (aL e S) v [] :: Γ) ((d,v) :: fr) m)):D P cx (.e false (.buildSlice t 0 #[]) (some d) ty all l rk Γ fr m):=by
 refine D.of ?_
 intro B o ho r w ha hs pos ag g
 obtain ⟨h1,i,z,h2,_⟩:=ht.h
 obtain ⟨v,w',f,hr,hC,hO⟩:=yq (E:=S) (r:=r) (w:=w) (d:=some d) (ty:=ty) (pos:=pos) (ag:=ag) (g:=none) h1 h2
 refine fx (WL.val rfl hr ((h v).sound B o ho _ w' (ay ha) ?_))
 obtain ⟨Z,F,hS,hg⟩:=hs
 exact St.put (f:=[]) hS hg hC hO.1 hO.2.1 fun b hb=>.inr ((hO.2.2 b hb).resolve_left List.not_mem_nil)
theorem Wx {α:Type} {S:ai α} {q:Bool} {d n e:Nat} {x:OO} {v:Value} {xs:List α} {t ty bt:TI} {m:Option M} [ht:zk P t e n bt] (hx:bp fr x=some v) (h1:ed Γ (.own (aL e S) v xs) Γ1)
  (h:D P cx (.o q all l rk Γ ((d,.int .i64 (xs.length:Int)) :: fr) m)):D P cx (.e q (.call ⟨.builtin .len,#[x],#[t]⟩) (some d) ty all l rk Γ fr m):=by
 refine D.of ?_
 intro B o ho r w ha hs pos ag g
 obtain ⟨q1,_⟩:=ht.h
 obtain ⟨Z,F,hS,hG⟩:=@_root_.id _ hs
 obtain ⟨f,F1,_,hO,_⟩:=h1.sound hS
 obtain ⟨base,cap,hv,_⟩:=hO
 obtain rfl:v = .slice base xs.length cap:=by simpa using hv
 exact cu (v:=.int .i64 (xs.length:Int)) (fun w' _=>xz q1 (bI ha hx)) (h.sound B o ho _ w (ay ha) hs)
theorem Me {α:Type} {S:ai α} {n:Nat} {hp:Array Obj} (hn:S.size=n):∀ {xs:List α} {cs:LV} {f:LN},dg S hp cs xs f→∃ us,us.length=xs.length∧dg (ja n) hp cs us []∧∀ (j:Nat) (x:α),xs[j]? = some x→∃ c f0 f1 f2,us[j]? = some c∧f=f0++f1++f2∧S.rep hp c x f1:=by
 intro xs
 induction xs with
 | nil=>rintro cs f ⟨rfl,rfl⟩; exact ⟨[],rfl,⟨rfl,rfl⟩,fun j x hj=>by simp at hj⟩
 | cons y xs ih=>
  rintro cs f ⟨c,j4,f1,f2,rfl,rfl,h1,h2⟩
  obtain ⟨us,hl,hr,hg⟩:=ih h2
  refine ⟨c :: us,by simp [hl],⟨c,j4,[],[],rfl,rfl,⟨rfl,by rw [S.len h1,hn],S.one h1,rfl⟩,hr⟩,fun j x hj=>?_⟩
  cases j with
  | zero=>simp at hj; subst hj; exact ⟨c,[],f1,f2,rfl,by simp,h1⟩
  | succ j=>
   obtain ⟨c',g0,g1,g2,a1,rfl,a3⟩:=hg j x (by simpa using hj)
   exact ⟨c',f1++g0,g1,g2,by simpa using a1,by simp,a3⟩
theorem ixO {α V:Type} {S:ai α} {cl:α→V→List Value} {en:α→V→List aw} {q:Bool} {d n e:Nat} {x y:OO} {v:Value} {xs:List α} {k:IntKind} {j:Int} {t ty bt:TI} {f:α→Option M} [ht:zk P t e n bt] (hx:bp fr x=some v) (hy:bp fr y=some (.int k j))
  (h1:ed Γ (.own (aL e S) v xs) Γ1) (hs:Md S V cl en) (hn:S.size=n)
  (h:∀ z u us,D P cx (.p [] (.own (aL e (ja n)) v us :: .rd false (yX us j) (.bool true) (cl z u) :: en z u) fr Γ1 fun fr Γ=>.o q all l rk Γ ((d,.pointer (some (cq v n j))) :: fr) (f z))):D P cx (.e q (.indexAddr t x y) (some d) ty all l rk Γ fr (idx xs j>>=f)):=by
 refine D.of ?_
 intro B o ho r w ha dx pos ag g
 replace hs:pd S V cl en:=by cases hs; assumption
 obtain ⟨z,hz,ho⟩:=bind_some ho
 replace hz:=p4 hz
 obtain ⟨q1,i,_,q2,_,_,q3,_⟩:=ht.h
 obtain ⟨Z,F,hS,hG⟩:=dx
 obtain ⟨f0,F1,hp,hO,jc⟩:=h1.sound hS
 have bh:j.toNat < xs.length:=(List.getElem?_eq_some_iff.1 hz.2).1
 obtain ⟨base,cap,hv,hr⟩:=hO
 obtain rfl:v = .slice base xs.length cap:=by simpa using hv
 rcases hr with ⟨_,_,rfl,_⟩ | ⟨b,cur,f',rfl,kj,rfl,hle,XJ,uO,du⟩
 ·simp at bh
 ·obtain ⟨us,hl,hru,hg⟩:=Me hn du
  obtain ⟨c,g0,g1,g2,a1,rfl,a3⟩:=hg _ _ hz.2
  obtain ⟨u,rfl,o7⟩:=hs.op a3
  have yz:(aL e (ja n)).rep w.heap [.slice (some ⟨b,0,none⟩) xs.length cap] us [b]:=
   ⟨_,cap,by rw [hl],.inr ⟨b,cur,[],rfl,kj,rfl,by rw [hl]; exact hle,XJ,by rw [uO,hn]; rfl,by rw [hl,show (ja n).size=S.size from hn.symm]; exact hru⟩⟩
  have dv:HL Z w (.own (aL e (ja n)) (.slice (some ⟨b,0,none⟩) xs.length cap) us :: .rd false (yX us j) (.bool true) (cl z u) :: en z u) ([b]++g1):=.own yz (.fact ⟨[],⟨rfl,⟨hz.1,a1⟩,rfl⟩,fun _ h=>absurd h List.not_mem_nil⟩ (o7 Z))
  obtain ⟨F',wQ,jq⟩:=dv.build jc
  have q9:(F'++(g0++g2)).Perm F:=by
   refine .trans ?_ hp
   refine (wQ.append_right _).trans ?_
   rw [List.cons_append,List.cons_append,List.cons_append,List.nil_append,List.cons_append]
   refine List.Perm.cons b ?_
   have e1:(g1++F1++(g0++g2)).Perm ((g0++g2)++(g1++F1)):=List.perm_append_comm
   refine e1.trans ?_
   rw [List.append_assoc,List.append_assoc,List.append_assoc]
   refine List.Perm.append_left g0 ?_
   rw [← List.append_assoc,← List.append_assoc]
   exact List.perm_append_comm.append_right F1
  refine cu (v:=.pointer (some (cq (.slice (some ⟨b,0,none⟩) xs.length cap) n j))) (fun w' hC=>?_) ((h z u us).sound B o ho _ w (ay ha) ⟨Z,F',jq,Gd.left (hG.perm q9)⟩)
  rw [lq q1 q2 (bI ha hx) (bI ha hy) hz.1 (by omega),q3]
  rfl
theorem apO {α V:Type} {S:ai α} {cl:α→V→List Value} {en:α→V→List aw} (y:α) {u:V} {d b n e bt:Nat} {s x:OO} {sv:Value} {xs:List α} {cs:LV} {t et ty:TI} {f:Unit→Option M} [ht:zk P t e n bt]
  (hs:bp fr s=some sv) (hx:bp fr x=some (.slice (some ⟨b,0,none⟩) 1 1)) (h0:ed Γ (.row b cs et) Γ1) (h1:ed Γ1 (.own (aL e S) sv xs) Γ2) (qa:Md S V cl en) (_hv:tS V u) (hc:cs=cl y u) (hn:S.size=n) (he:EO Γ2 (en y u) Γ3)
  (h:∀ v,D P cx (.o false all l rk (.own (aL e S) v (xs++[y]) :: Γ3) ((d,v) :: fr) (f ()))):D P cx (.e false (.call ⟨.builtin .append,#[s,x],#[t,t]⟩) (some d) ty all l rk Γ fr (fits bt (xs.length+1)>>=f)):=by
 refine D.of ?_
 intro B o b9 r w ha dx pos ag g
 have CI:pd S V cl en:=by cases qa; assumption
 obtain ⟨_,hu,b9⟩:=bind_some b9
 obtain ⟨b1,b2⟩:=qt hu
 obtain ⟨q1,i,z,q2,q3,q4,q5,q6,_⟩:=ht.h
 obtain ⟨Z,F,hS,hG⟩:=dx
 obtain ⟨n0,F0,uR,⟨rfl,bg⟩,xA⟩:=h0.sound hS
 obtain ⟨k,F1,hp,hO,jc⟩:=h1.sound xA
 obtain ⟨Fd,F2,hho,jq,qg⟩:=he.sound jc
 have hy:S.rep w.heap (cl y u) y Fd:=CI.cl (U2 (CI.ow y u) hho)
 have q9:(((k++Fd)++F2)++[b]).Perm F:=by
  refine .trans ?_ uR
  refine List.perm_append_comm.trans ?_
  refine List.Perm.append_left [b] ?_
  rw [List.append_assoc]
  exact (qg.append_left k).trans hp
 have nj:Gd B Z ((k++Fd)++F2) w:=Gd.left (F':=[b]) (hG.perm q9)
 have dp:=(List.nodup_append.1 nj.nd).1
 have zn:=List.nodup_append.1 dp
 subst hc
 obtain ⟨v,w',f',na,hC,du,dt,EY⟩:=pr (E:=S) (d:=some d) (ty:=ty) (pos:=pos) (ag:=ag) (g:=none) (k:=Fd) (ys:=[y]) (news:=cl y u) q1 q2 q3 (by rw [q5,hn]) (by rw [q4,hn]) (bI ha hs) hO zn.1 (bI ha hx) (fun i u hi=>bg.at i u hi) (rD hy) (fun b hb hm=>zn.2.2 b hm b hb rfl) (by simp) (by rw [q6]; exact b1) b2
 refine fx (WL.val rfl na ((h v).sound B o b9 _ w' (ay ha) ?_))
 refine St.put jq nj (hC.mono fun b hb=>List.mem_append_left _ hb) du (EY zn.2.1) fun b hb=>?_
 rcases dt b hb with h | h | h
 ·exact .inl (List.mem_append_left _ h)
 ·exact .inl (List.mem_append_right _ h)
 ·exact .inr h
end
end Go.Dk
namespace Go.Dk
open Go Go.Li
section
variable {P:Program} {n:Nat} {l:LO} {Q:Exit→(Nat→Value)→World→Prop} {S:World→Prop}
def Hw (P:Program) (n:Nat) (l:LO) (Q:Exit→(Nat→Value)→World→Prop) (S:World→Prop) (k:Nat) (L:Array Bool) (r:NV) (w:World):Prop:=
 ∀ a:Act,a.tmps.size=n→a.defers=[]→cg a=r→wpAnyH P .any l.toArray (fun e a' w'=>a'.tmps.size=n∧a'.defers=[]∧Q e (cg a') w') S k L a w
theorem BZ {i:Nat} {o:Oper} {a:Act} (hd:db n l=true) (hi:l[i]? = some o) (h1:a.tmps.size=n):∀ k,o.dst=some k→k < a.tmps.size:=by
 intro k hk
 have hm:o∈l:=List.mem_of_getElem? hi
 simp only [db,List.all_eq_true] at hd
 have:=hd o hm
 rw [hk] at this
 rw [h1]
 exact Nat.lt_of_succ_le (Nat.le_of_ble_eq_true this)
theorem Hw.take {k i:Nat} {L:Array Bool} {o:Oper} {v:Value} {r:NV} {w:World} (hd:db n l=true) (hi:l[i]? = some o) (hs:Region.noSelect l.toArray=true) (hf:Region.free .any l.toArray L i=true) (hr:(Region.ready .any l.toArray L).contains i=true)
  (hp:∀ c r w,¬ Q (.panic c) r w) (hg:o.guard=none) (hy:∀ w,S w→(execOp (ev r) o).run P w = .ok (.value v) w) (hS:S w) (h:Hw P n l Q S k (L.setIfInBounds i true) (gq r o.dst v) w):Hw P n l Q S (k+1) L r w:=by
 intro a h1 h2 h3
 refine wpAnyH_take (v:=v) (by simpa using hi) hs hf hr (fun c a w h=>(hp _ _ _ h.2.2).elim) (.inl ⟨sr hg,fun w hw=>?_⟩) hS (h _ (by rw [jy]; exact h1) (by rw [ic]; exact h2) (by rw [lv (BZ hd hi h1),h3]))
 rw [ri,h3]
 exact hy w hw
theorem Hw.step {k i:Nat} {L:Array Bool} {o:Oper} {r:NV} {w w':World} (hd:db n l=true) (hi:l[i]? = some o) (hr:Region.ready .any l.toArray L=[i]) (hg:o.guard=none) (hy:(execOp (ev r) o).run P w = .ok .skip w') (hS:S w') (h:Hw P n l Q S k (L.setIfInBounds i true) (gq r o.dst undef) w'):Hw P n l Q S (k+1) L r w:=by
 intro a h1 h2 h3
 refine wpAnyH_all hr (by simp) fun j hj=>?_
 obtain rfl:j=i:=by simpa using hj
 unfold wpOp
 rw [show (l.toArray)[j]? = some o by simpa using hi]
 simp only []
 rw [if_pos (sr hg)]
 refine .inl ?_
 unfold Oper.wp
 rw [ri,h3,hy]
 exact ⟨hS,h _ (by rw [jy]; exact h1) (by rw [ic]; exact h2) (by rw [lv (BZ hd hi h1),h3])⟩
theorem Hw.done {k:Nat} {L:Array Bool} {r:NV} {w:World} (hr:Region.ready .any l.toArray L=[]) (h:Q .normal r w):Hw P n l Q S k L r w:=
 fun _ h1 h2 h3=>wpAnyH_done hr ⟨h1,h2,by rw [h3]; exact h⟩ k
theorem Hw.start {r:NV} {w:World} (h:Hw P n l Q S l.length (Array.replicate l.length false) r { w with drawn:=w.drawn+1 }):mh P n l Q r w:=
 fun a h1 h2 h3=>wpAny_of_held _ _ _ _ (h a h1 h2 h3)
def AQ (P:Program) (S:World→Prop):List Oper→(Nat→Value)→((Nat→Value)→Prop)→Prop
 | [],r,K=>K r
 | o :: l,r,K=>o.guard=none∧∃ v,(∀ w,S w→(execOp (ev r) o).run P w = .ok (.value v) w)∧AQ P S l (gq r o.dst v) K
def CJ (l:LO):List Nat→Array Bool→Bool
 | [],L=>(Region.ready .any l.toArray L).isEmpty
 | i :: ss,L=>Nat.blt i l.length && (Region.ready .any l.toArray L == [i]) && CJ l ss (L.setIfInBounds i true)
def Mf (l:LO) (ss:LN):List Nat→Array Bool→Bool
 | [],L=>CJ l ss L
 | i :: qs,L=>Nat.blt i l.length && (Region.ready .any l.toArray L).contains i && Region.free .any l.toArray L i && Mf l ss qs (L.setIfInBounds i true)
def pick (l:LO) (is:LN):List Oper:=is.map fun i=>l.getD i default
theorem CK {i:Nat} (h:Nat.blt i l.length=true):l[i]? = some (l.getD i default):=by
 have h1:i < l.length:=Nat.lt_of_succ_le (Nat.le_of_ble_eq_true h)
 rw [List.getD_eq_getElem?_getD,List.getElem?_eq_getElem h1]; rfl
theorem Hw.quiet (hd:db n l=true) (hs:Region.noSelect l.toArray=true) (hp:∀ c r w,¬ Q (.panic c) r w) {ss:LN} {w:World} (hS:S w) {K:(Nat→Value)→Prop} (h:∀ L r,CJ l ss L=true→K r→Hw P n l Q S ss.length L r w) :
  ∀ (qs:LN) (L:Array Bool) (r:NV),Mf l ss qs L=true→AQ P S (pick l qs) r K→Hw P n l Q S (qs.length+ss.length) L r w:=by
 intro qs
 induction qs with
 | nil=>intro L r hc hv; rw [List.length_nil,Nat.zero_add]; exact h L r hc hv
 | cons i qs ih=>
  intro L r hc hv
  unfold Mf at hc
  simp only [Bool.and_eq_true] at hc
  obtain ⟨⟨⟨c1,c2⟩,c3⟩,c4⟩:=hc
  obtain ⟨hg,v,h1,h2⟩:=hv
  have:=Hw.take hd (CK c1) hs c3 c2 hp hg h1 hS (ih _ _ c4 h2)
  rwa [show qs.length+ss.length+1=(i :: qs).length+ss.length by simp; omega] at this
end
inductive JQ
 | q (ops:LO) (fr:Fr)
 | la (a:Addr) (lk:Option Nat) (t:TI) (x:OO) (d:Nat) (ty:TI) (pos:String) (ag:Array Edge) (ops:LO) (fr:Fr)
inductive QA (P:Program) (Γ:QE):JQ→Fr→Prop
 | nil {fr:Fr}:QA P Γ (.q [] fr) fr
 | ld {d:Nat} {t ty:TI} {x:OO} {lk:Option Nat} {a:Addr} {pos:String} {ag:Array Edge} {ops:LO} {fr qd:Fr} [ht:LK P t lk] (hx:bp fr x=some (.pointer (some a))) (h:QA P Γ (.la a lk t x d ty pos ag ops fr) qd):QA P Γ (.q (⟨some d,.load t x,ty,pos,ag,none⟩ :: ops) fr) qd
 | val {d:Nat} {op:Op} {ty:TI} {u:Value} {pos:String} {ag:Array Edge} {ops:LO} {fr qd:Fr} (hv:VQ P Γ fr op u) (h:QA P Γ (.q ops ((d,u) :: fr)) qd):QA P Γ (.q (⟨some d,op,ty,pos,ag,none⟩ :: ops) fr) qd
 | lc {d:Nat} {t ty:TI} {x:OO} {a:Addr} {u:Value} {pos:String} {ag:Array Edge} {ops:LO} {fr qd:Fr} (h:tX Γ a u) (k:QA P Γ (.q ops ((d,u) :: fr)) qd):QA P Γ (.la a none t x d ty pos ag ops fr) qd
 | ls {d n:Nat} {t ty:TI} {x:OO} {a:Addr} {ds:LV} {pos:String} {ag:Array Edge} {ops:LO} {fr qd:Fr} (h:ua Γ a n ds) (k:QA P Γ (.q ops ((d,.agg ds.toArray) :: fr)) qd):QA P Γ (.la a (some n) t x d ty pos ag ops fr) qd
inductive RO (fr:Fr):List Oper→List aw→List (Nat×List Value×TypeId)→List aw→Prop
 | nil {Γ:QE}:RO fr [] Γ [] Γ
 | cons {t ty e:TI} {x y:OO} {b:Nat} {cs:LV} {pos:String} {ag:Array Edge} {ops:LO} {Γ Γ1 Γ2:QE} {rs:List (Nat×List Value×TypeId)} (hx:bp fr x=some (.pointer (some ⟨b,0,none⟩))) (h:ed Γ (.row b cs e) Γ1) (k:RO fr ops Γ1 rs Γ2):RO fr (⟨none,.store t x y,ty,pos,ag,none⟩ :: ops) Γ ((b,cs,e) :: rs) Γ2
inductive SQ (P:Program) (Γ:QE) (fr:Fr):List Oper→List (Nat×List Value×TypeId)→List (Nat×List Value×TypeId)→Prop
 | nil:SQ P Γ fr [] [] []
 | cons {n:Nat} {t ty e:TI} {x y:OO} {b:Nat} {u:Value} {us cs ds:LV} {pos:String} {ag:Array Edge} {ops:LO} {rs tD:List (Nat×List Value×TypeId)} [ht:vm P t n] (hx:bp fr x=some (.pointer (some ⟨b,0,none⟩))) (hy:bp fr y=some u) (hc:rX Γ u us) (hn:us.length=n) (hs:sG us 0 cs ds) (ho:tZ Γ us) (k:SQ P Γ fr ops rs tD) :
   SQ P Γ fr (⟨none,.store t x y,ty,pos,ag,none⟩ :: ops) ((b,cs,e) :: rs) ((b,ds,e) :: tD)
def IC:List (Nat×List Value×TypeId)→List aw
 | []=>[]
 | (b,cs,e) :: l=>.row b cs e :: IC l
def Rows (w:World) (rs:List (Nat×List Value×TypeId)):Prop:=∀ p∈rs,Row w p.1 p.2.1 p.2.2
section
variable {P:Program} {Γ Γ2:QE} {S:World→Prop} {Z:Nat→Prop}
def XK (P:Program) (S:World→Prop):JQ→Fr→Prop
 | .q ops fr,qd=>∀ r,c9 r fr→AQ P S ops r fun r'=>c9 r' qd
 | .la a lk t x d ty pos ag ops fr,qd=>(match lk with | none=>NA P t | some n=>AG P t n)→bp fr x=some (.pointer (some a))→∀ r,c9 r fr→AQ P S (⟨some d,.load t x,ty,pos,ag,none⟩ :: ops) r fun r'=>c9 r' qd
theorem QA.sound {J:JQ} {qd:Fr} (hS:∀ w,S w→∃ cur F,SA Z w Γ cur F) (h:QA P Γ J qd):XK P S J qd:=by
 induction h with
 | nil=>exact fun r h=>h
 | @ld d t ty x lk a pos ag ops fr qd ht hx _ ih=>exact fun r ha=>ih ht.h hx r ha
 | @val d op ty u pos ag ops fr qd hv _ ih=>
  intro r ha
  refine ⟨rfl,u,fun w hw=>?_,ih _ (ay ha)⟩
  obtain ⟨cur,F,h⟩:=hS w hw
  exact hv.sound h ha (some d) ty pos ag none w (av.refl _ _)
 | @lc d t ty x a u pos ag ops fr qd h _ ih=>
  intro ht hx r ha
  refine ⟨rfl,u,fun w hw=>?_,ih _ (ay ha)⟩
  obtain ⟨cur,F,hs⟩:=hS w hw
  exact Ld ht (h.sound hs) (bI ha hx) w (av.refl _ _)
 | @ls d n t ty x a ds pos ag ops fr qd h _ ih=>
  intro ht hx r ha
  refine ⟨rfl,_,fun w hw=>?_,ih _ (ay ha)⟩
  obtain ⟨cur,F,hs⟩:=hS w hw
  obtain ⟨h1,h2⟩:=h.sound hs
  exact Lg ht h1 (bI ha hx) h2 w (av.refl _ _)
theorem RO.sound {fr:Fr} {ops:LO} {rs:List (Nat×List Value×TypeId)} {w:World} (h:RO fr ops Γ rs Γ2):∀ {F:LN},SA Z w Γ [] F→∃ F2,(rs.map (·.1)++F2).Perm F∧Rows w rs∧SA Z w Γ2 [] F2:=by
 induction h with
 | nil=>intro F h; exact ⟨F,.refl _,fun _ h=>absurd h List.not_mem_nil,h⟩
 | @cons t ty e x y b cs pos ag ops Γ Γ1 Γ2 rs hx h _ ih=>
  intro F hS
  obtain ⟨f,F1,hp,⟨rfl,bg⟩,jc⟩:=h.sound hS
  obtain ⟨F2,qg,hr,jq⟩:=ih jc
  refine ⟨F2,?_,fun p hp=>?_,jq⟩
  ·exact .trans (List.Perm.cons b qg) hp
  ·rcases List.mem_cons.1 hp with rfl | hp
   ·exact bg
   ·exact hr p hp
theorem SQ.sound {n:Nat} {l:LO} {Q:Exit→(Nat→Value)→World→Prop} {fr:Fr} {ops:LO} {rs tD:List (Nat×List Value×TypeId)} {F2:LN} {w0:World} {r:NV} {F:LN} (hd:db n l=true) (ha:c9 r fr) (hSA:∀ w,av F w0 w→SA Z w Γ2 [] F2) (h:SQ P Γ2 fr ops rs tD) :
  ∀ (ss:LN) (L:Array Bool) (w:World),ops=pick l ss→CJ l ss L=true→av F w0 w→Rows w rs→(rs.map (·.1)).Nodup→(∀ b∈rs.map (·.1),b∈F)→(∀ w',av (rs.map (·.1)) w w'→Rows w' tD→Q .normal r w')→Hw P n l Q (av F w0) ss.length L r w:=by
 induction h with
 | nil=>
  intro ss L w ho hc hC hR hn hF hk
  cases ss with
  | cons i ss=>cases ho
  | nil=>
   exact Hw.done (by simpa [CJ] using hc) (hk w (av.refl _ _) hR)
 | @cons n' t ty e x y b u us cs ds pos ag ops rs tD ht hx hy AO hn hsg hon _ ih=>
  intro ss L w ho hc hC hR dp hF hk
  cases ss with
  | nil=>cases ho
  | cons i ss=>
   unfold CJ at hc
   simp only [Bool.and_eq_true] at hc
   obtain ⟨⟨c1,c2⟩,c3⟩:=hc
   have b9:l.getD i default = ⟨none,.store t x y,ty,pos,ag,none⟩∧ops=pick l ss:=by
    unfold pick at ho
    rw [List.map_cons,List.cons.injEq] at ho
    exact ⟨ho.1.symm,ho.2⟩
   have hi:=CK c1
   rw [b9.1] at hi
   obtain ⟨ti,q1,q2⟩:=ht.h
   have bg:Row w b cs e:=hR (b,cs,e) (by simp)
   obtain ⟨e1,e2⟩:=hsg.eq
   have Wy:=hSA w hC
   have na:=uA (P:=P) (d:=none) (ty:=ty) (pos:=pos) (ag:=ag) (gg:=none) q1 (by rw [hn,q2]) bg e1 (bI ha hx) (y:=y) (by rw [bI ha hy]; exact AO.eq Wy) (hon.one Wy)
   have tu:=setRow_heap w b cs.toArray (cs.take 0++us++cs.drop (0+us.length)).toArray e _ bg
   have zG:av [b] w (w.setRow b (cs.take 0++us++cs.drop (0+us.length)).toArray):=⟨rfl,rfl,rfl,Nat.le_refl _,by simp,fun j _ hj=>setRow_other w b j _ fun h=>hj (by simp [h])⟩
   have Wz:=hC.trans (zG.mono fun b' cf=>by rw [List.mem_singleton.1 cf]; exact hF b (by simp))
   rw [List.map_cons,List.nodup_cons] at dp
   refine Hw.step hd hi (by simpa using c2) rfl na Wz (ih ss _ _ b9.2 c3 Wz (fun p hp=>(hR p (List.mem_cons_of_mem _ hp)).ee zG fun hb=>dp.1 ?_) dp.2 (fun b' cf=>hF b' (by simp at cf ⊢; exact .inr cf)) fun w' EN hR'=>?_)
   ·rw [← List.mem_singleton.1 hb]; exact List.mem_map_of_mem (f:=fun q=>q.1) hp
   ·refine hk w' ((zG.mono (by simp)).trans (EN.mono fun b' cf=>List.mem_cons_of_mem _ cf)) fun p hp=>?_
    rcases List.mem_cons.1 hp with rfl | hp
    ·refine Row.ee (F:=rs.map (·.1)) ?_ EN dp.1
     rw [e2]
     exact tu
    ·exact hR' p hp
theorem SQ.fst {fr:Fr} {ops:LO} {rs tD:List (Nat×List Value×TypeId)} (h:SQ P Γ fr ops rs tD):tD.map (·.1)=rs.map (·.1):=by
 induction h with
 | nil=>rfl
 | cons _ _ _ _ _ _ _ ih=>simp only [List.map_cons,ih]
end
section
variable {R S:Type} {P:Program} {cx:Cx R} {K:df R S} {l:LO}
end
theorem Hw.all {P:Program} {n k:Nat} {l:LO} {Q:Exit→(Nat→Value)→World→Prop} {S:World→Prop} {L:Array Bool} {rs:LN} {r:NV} {w:World} (hd:db n l=true) (hr:Region.ready .any l.toArray L=rs) (rN:rs≠[])
  (h:∀ i∈rs,∃ o,l[i]? = some o∧o.guard=none∧∃ v w',((execOp (ev r) o).run P w = .ok (.value v) w'∨(execOp (ev r) o).run P w = .ok .skip w'∧v=undef)∧S w'∧Hw P n l Q S k (L.setIfInBounds i true) (gq r o.dst v) w'):Hw P n l Q S (k+1) L r w:=by
 intro a h1 h2 h3
 refine wpAnyH_all hr rN fun j hj=>?_
 obtain ⟨o,hi,hg,v,w',hy,hS,hk⟩:=h j hj
 unfold wpOp
 rw [show (l.toArray)[j]? = some o by simpa using hi]
 simp only []
 rw [if_pos (sr hg)]
 refine .inl ?_
 unfold Oper.wp
 rw [ri,h3]
 rcases hy with hy | ⟨hy,rfl⟩
 ·rw [hy]
  exact ⟨hS,hk _ (by rw [jy]; exact h1) (by rw [ic]; exact h2) (by rw [lv (BZ hd hi h1),h3])⟩
 ·rw [hy]
  exact ⟨hS,hk _ (by rw [jy]; exact h1) (by rw [ic]; exact h2) (by rw [lv (BZ hd hi h1),h3])⟩
def on (L:Array Bool) (i:Nat):Array Bool:=L.setIfInBounds i true
def AM (l:LO) (L:Array Bool) (rs:LN):Bool:=Region.ready .any l.toArray L == rs
inductive Fq (P:Program) (Γ:QE) (fr:Fr) (d:Nat):Oper→Oper→TypeId→List Value→Prop
 | mk {t ty RL:TI} {y:OO} {u:Value} {n:Nat} {us cs ds:LV} {pos Mg:String} {ag Mh:Array Edge} [hz:AH P t cs] [ht:vm P t n] (hn:look fr d=none) (hy:bp fr y=some u) (hc:rX Γ u us) (hl:us.length=n) (hs:sG us 0 cs ds) (ho:tZ Γ us) :
   Fq P Γ fr d ⟨some d,.alloc t,ty,pos,ag,none⟩ ⟨none,.store t (.tmp d) y,RL,Mg,Mh,none⟩ t ds
section
variable {P:Program} {Γ:QE} {Z:Nat→Prop} {fr:Fr} {w:World} {cur F:LN}
theorem Fq.alloc {d:Nat} {oa os:Oper} {t:TI} {ds:LV} (h:Fq P Γ fr d oa os t ds) (r:NV) (w:World):oa.guard=none∧oa.dst=some d∧look fr d=none∧∃ cs w',(execOp (ev r) oa).run P w = .ok (.value (.pointer (some ⟨w.heap.size,0,none⟩))) w'∧av [] w w'∧Row w' w.heap.size cs t∧
  ∀ (r':NV) (w1:World) (b:Nat) cur F,SA Z w1 Γ cur F→c9 r' fr→r' d = .pointer (some ⟨b,0,none⟩)→Row w1 b cs t→∃ w2,(execOp (ev r') os).run P w1 = .ok .skip w2∧av [b] w1 w2∧Row w2 b ds t:=by
 cases h with
 | @mk t ty RL y u n us cs ds pos Mg ag Mh hz ht hn hy hc hl hs ho=>
  obtain ⟨i',z,t1,t2,t3⟩:=hz.h
  refine ⟨rfl,rfl,hn,z.cells.toList,_,Bo t1 t2,av.alloc _ _ _,?_,?_⟩
  ·have:=heap_alloc_new w (.cells z.cells t (0,0))
   unfold Row
   simpa using this
  ·intro r' w1 b cur F hS ha hr bg
   rw [t3] at bg
   obtain ⟨ti,q1,q2⟩:=ht.h
   obtain ⟨e1,e2⟩:=hs.eq
   have na:=uA (P:=P) (d:=none) (ty:=RL) (pos:=Mg) (ag:=Mh) (gg:=none) q1 (by rw [hl,q2]) bg e1 (x:=.tmp d) hr (y:=y) (by rw [bI ha hy]; exact hc.eq hS) (ho.one hS)
   refine ⟨_,na,⟨rfl,rfl,rfl,Nat.le_refl _,by simp,fun j _ hj=>setRow_other w1 b j _ fun h=>hj (by simp [h])⟩,?_⟩
   have tu:=setRow_heap w1 b cs.toArray (cs.take 0++us++cs.drop (0+us.length)).toArray t _ bg
   rw [e2]
   exact tu
theorem Fq.st {d:Nat} {oa os:Oper} {t:TI} {ds:LV} (h:Fq P Γ fr d oa os t ds):os.guard=none∧os.dst=none:=by
 cases h; exact ⟨rfl,rfl⟩
variable {n:Nat} {l:LO} {Q:Exit→(Nat→Value)→World→Prop} {w0:World} {F2:LN} {a1 a2 s1 s2 d1 d2:Nat} {oa1 oa2 os1 os2:Oper} {t1 t2:TI} {ds1 ds2:LV} {L:Array Bool} {r:NV}
end
section
variable {R S:Type} {P:Program} {cx:Cx R} {K:df R S} {l:LO}
end
end Go.Dk
namespace Go.Dk
open Go Go.Li
def RM (i:Nat) (o:Oper):Oper:=⟨o.dst,o.op,o.type,o.pos,o.after.push ⟨i,.data⟩,o.guard⟩
def s6 (i:Nat):Nat→List Oper→List Oper
 | _,[]=>[]
 | 0,o :: l=>RM i o :: l
 | j+1,o :: l=>o :: s6 i j l
theorem CL (i:Nat):∀ (j:Nat) (l:LO),(s6 i j l).length=l.length
 | _,[]=>by cases ‹Nat› <;> rfl
 | 0,_ :: _=>rfl
 | j+1,o :: l=>by unfold s6; rw [List.length_cons,List.length_cons,CL i j l]
theorem Ak (i:Nat):∀ (j:Nat) (l:LO) (k:Nat),(s6 i j l)[k]? = (l[k]?).map fun o=>if k=j then RM i o else o
 | 0,[],k=>by simp [s6]
 | j+1,[],k=>by simp [s6]
 | 0,o :: l,0=>by simp [s6]
 | 0,o :: l,k+1=>by simp [s6]
 | j+1,o :: l,0=>by simp [s6]
 | j+1,o :: l,k+1=>by
  unfold s6
  rw [List.getElem?_cons_succ,List.getElem?_cons_succ,Ak i j l k]
  simp
section
variable {P:Program} {l:LO} {Q:Exit→Act→World→Prop} {i j:Nat}
theorem GR (tmps:Array Value):yielded (s6 i j l).toArray tmps=yielded l.toArray tmps:=by
 funext k
 simp only [yielded]
 rw [List.getElem?_toArray,List.getElem?_toArray,Ak]
 cases l[k]? with
 | none=>rfl
 | some o=>
  simp only [Option.map_some,Option.bind_some]
  by_cases h:k=j
  ·rw [if_pos h]; rfl
  ·rw [if_neg h]
theorem Ft {k:Nat} {K:Act→World→Prop} {a:Act} {w:World}:wpOp P (s6 i j l).toArray Q k K a w=wpOp P l.toArray Q k K a w:=by
 unfold wpOp
 rw [GR,List.getElem?_toArray,List.getElem?_toArray,Ak]
 cases l[k]? with
 | none=>rfl
 | some o=>
  simp only [Option.map_some]
  by_cases h:k=j
  ·rw [if_pos h]; rfl
  ·rw [if_neg h]
theorem Dy {L:Array Bool} (hL:L.getD i false=true):Region.ready .any (s6 i j l).toArray L=Region.ready .any l.toArray L:=by
 unfold Region.ready
 rw [List.size_toArray,List.size_toArray,CL]
 refine List.filter_congr fun k _=>?_
 rw [List.getElem?_toArray,List.getElem?_toArray,Ak]
 cases l[k]? with
 | none=>rfl
 | some o=>
  simp only [Option.map_some]
  by_cases h:k=j
  ·rw [if_pos h]
   simp only [RM,Array.all_push,hL,Bool.or_true,Bool.and_true]
  ·rw [if_neg h]
theorem Dz:∀ (fuel:Nat) (L:Array Bool) (a:Act) (w:World),L.getD i false=true→wpAny P .any (s6 i j l).toArray Q fuel L a w→wpAny P .any l.toArray Q fuel L a w
 | 0,L,a,w,hL,h=>by
  unfold wpAny at h ⊢
  rw [Dy hL] at h
  exact h
 | fuel+1,L,a,w,hL,h=>by
  unfold wpAny at h ⊢
  rw [Dy hL] at h
  refine ⟨h.1,fun k hk=>?_⟩
  have h2:=h.2 k hk
  rw [Ft] at h2
  exact wpOp_mono (fun a' w' h'=>Dz fuel _ a' w' (getD_set_true hL) h') h2
end
def RN:Oper→Bool
 | ⟨some _,.move _,_,_,_,none⟩=>true
 | _=>false
def ID:List (Nat×Nat)→List Oper→Bool
 | [],_=>true
 | (i,j) :: zs,l=>!(Nat.beq i j) && Nat.blt i l.length && RN (l.getD i default) && Region.noSelect l.toArray && Region.free .any l.toArray (Array.replicate l.length false) i && (Region.ready .any l.toArray (Array.replicate l.length false)).contains i && (Region.ready .any (s6 i j l).toArray (Array.replicate l.length false)).contains i && ID zs (s6 i j l)
def Mi:List (Nat×Nat)→List Oper→List Oper
 | [],l=>l
 | (i,j) :: zs,l=>Mi zs (s6 i j l)
section
variable {P:Program} {n:Nat} {Q:Exit→(Nat→Value)→World→Prop} {r:NV} {w w0:World}
theorem Py {o:Oper} (h:RN o=true) (a:Act):o.guard=none∧∃ v,(∀ w,(execOp a.eval o).run P w = .ok (.value v) w)∧∀ w,¬ o.asks P a w:=by
 obtain ⟨d,op,ty,pos,ag,g⟩:=o
 cases d <;> cases op <;> cases g <;> first | (cases h; done) | skip
 refine ⟨rfl,_,fun w=>rfl,fun w ha=>?_⟩
 have h1:=ha.1
 exact absurd (show noRoomEvent∈(#[]:Array _) from h1) (by simp)
theorem mh.XL {i j:Nat} {l:LO} (h1:(!(Nat.beq i j) && Nat.blt i l.length && RN (l.getD i default) && Region.noSelect l.toArray && Region.free .any l.toArray (Array.replicate l.length false) i && (Region.ready .any l.toArray (Array.replicate l.length false)).contains i && (Region.ready .any (s6 i j l).toArray (Array.replicate l.length false)).contains i)=true)
  (hp:∀ c r w,¬ Q (.panic c) r w) (h:mh P n (s6 i j l) Q r w):mh P n l Q r w:=by
 simp only [Bool.and_eq_true] at h1
 obtain ⟨⟨⟨⟨⟨⟨c1,c2⟩,c3⟩,c4⟩,c5⟩,c6⟩,c7⟩:=h1
 have rN:i≠j:=fun e=>by rw [e,Nat.beq_refl] at c1; cases c1
 have hi:=CK c2
 have bh:i < l.length:=Nat.lt_of_succ_le (Nat.le_of_ble_eq_true c2)
 intro a g1 g2 g3
 have H:=h a g1 g2 g3
 obtain ⟨hg,v,hv,hn⟩:=Py (P:=P) c3 a
 rw [List.size_toArray,CL] at H
 rw [List.size_toArray]
 obtain ⟨f,hf⟩ : ∃ f,l.length=f+1:=⟨l.length - 1,by omega⟩
 have hw:Region.wanted (l.getD i default) (yielded l.toArray a.tmps)=true:=sr hg
 refine (congrArg (fun k=>wpAny P .any l.toArray _ k _ a _) hf).mpr ?_
 refine wpAny_take (by simpa using hi) c4 (by simpa using c5) (by simpa using c6) (fun c a w h=>(hp _ _ _ h.2.2).elim) (.inl ⟨hw,hv⟩) ?_
 refine Dz (i:=i) (j:=j) f _ _ _ ?_ ?_
 ·have:i < (Array.replicate l.length false).size:=by simpa using bh
  simp [Array.getD,bh]
 ·have H2:=(congrArg (fun k=>wpAny P .any (s6 i j l).toArray (fun e a' w'=>a'.tmps.size=n∧a'.defers=[]∧Q e (cg a') w') k (Array.replicate l.length false) a { w with drawn:=w.drawn+1 }) hf).mp H
  have H3:=H2.2 i (by simpa using c7)
  rw [Ft] at H3
  unfold wpOp at H3
  rw [show (l.toArray)[i]? = some (l.getD i default) by simpa using hi] at H3
  simp only [] at H3
  rw [if_pos hw] at H3
  rcases H3 with H3 | H3
  ·unfold Oper.wp at H3
   rw [hv] at H3
   exact H3
  ·exact absurd H3.1 (hn _)
theorem mh.Ov:∀ (zs:List (Nat×Nat)) {l:LO},ID zs l=true→(∀ c r w,¬ Q (.panic c) r w)→mh P n (Mi zs l) Q r w→mh P n l Q r w
 | [],_,_,_,h=>h
 | (i,j) :: zs,l,hc,hp,h=>by
  unfold ID at hc
  rw [Bool.and_eq_true] at hc
  exact mh.XL hc.1 hp (mh.Ov zs hc.2 hp h)
theorem J8 (k:Nat) {l:LO} (hd:db n l=true) (hp:((l.take k).all fun o=>vP o.op)=true) (hB:Region.lexTailB .any l.toArray k=true)
  (h:QL P (av [] w) l (l.take k) r fun r'=>∀ w',av [] w w'→WL P l (l.drop k) r' w' (Q .normal)):mh P n l Q r w:=by
 intro a h1 h2 h3
 have zG:av [] w { w with drawn:=w.drawn+1 }:=av.drew _ _
 have sx:wpStill P l.toArray { w with drawn:=w.drawn+1 } (fun a'=>wpList P l.toArray (fun e a' w'=>a'.tmps.size=n∧a'.defers=[]∧Q e (cg a') w') (l.drop k) a' { w with drawn:=w.drawn+1 }) (l.take k) a:=by
  refine QL.still (n:=n) (C:=av [] w) zG hd (l.take k) a (yA hd fun o ho=>List.mem_of_mem_take ho) hp h1 h2 (by rw [h3]; exact h) _ ?_
  intro a' g1 g2 g3
  exact WL.list hd _ _ _ (yA hd fun o ho=>List.mem_of_mem_drop ho) g1 g2 (g3 _ zG)
 unfold Region.lexTailB at hB
 simp only [Bool.and_eq_true,decide_eq_true_eq,List.size_toArray] at hB
 obtain ⟨⟨⟨⟨XM,hn⟩,hs⟩,hc⟩,L9⟩:=hB
 have Ow:(l.take k).length=k:=by rw [List.length_take]; omega
 have XN:HeadInv .any l.toArray k (Array.replicate l.length false):=
  ⟨by simp,fun j oj _ hl=>(by rw [getD_replicate_false] at hl; cases hl),fun t _ ht=>getD_in (by simpa using ht) (getD_replicate_false _ _)⟩
 have H:=wpAnyL_lex (md:=.any) (g:=l.length - k) XM hs hc (by simpa using hn) (l.take k) 0 _ a (fun j hj=>by
  rw [Ow] at hj
  rw [List.getElem?_take_of_lt hj,Nat.zero_add,List.getElem?_toArray]) (by rw [Ow,Nat.zero_add]) XN (by rw [Ow]; exact L9) sx
 have H2:=wpAny_of_head (Q':=fun e a' w'=>a'.tmps.size=n∧a'.defers=[]∧Q e (cg a') w') (g:=l.length - k) (fun L a' hL=>by
  have H3:=wpAny_of_seq (md:=.any) (Q':=fun e a' w'=>a'.tmps.size=n∧a'.defers=[]∧Q e (cg a') w') (l.drop k) k L a' { w with drawn:=w.drawn+1 } (fun j=>by rw [List.getElem?_drop,List.getElem?_toArray]) (by rw [List.length_drop]; exact hL.1) hL.2
  rwa [List.length_drop] at H3) _ _ _ H
 rw [Ow,show k+(l.length - k)=l.length by omega] at H2
 rw [List.size_toArray]
 exact H2
end
section
variable {R S:Type} {P:Program} {cx:Cx R} {K:df R S}
theorem U3 {id:Nat} (zs:List (Nat×Nat)) (k:Nat) {l l' ops tl:LO} {Γ:QE} {fr:Fr} {m:Option (Out S R)} (hl:l'=Mi zs l) (hB:(P.follows .mixedOrders && ID zs l && db cx.n l' && ((l'.take k).all fun o=>vP o.op) && Region.lexTailB .any l'.toArray k)=true) (ho:ops=l'.take k) (ht:tl=l'.drop k)
  (h:D P cx (.o true l' ops (.h l' tl K) Γ fr m)):Bx (qb P cx (.dr id l K Γ fr m)):=by
 simp only [Bool.and_eq_true] at hB
 obtain ⟨⟨⟨⟨h1,h2⟩,h3⟩,h4⟩,h5⟩:=hB
 subst ho ht hl
 rw [qz]
 intro B o ho r w ha hs
 exact mh.W h1 (mh.Ov zs h2 (fun c r w h=>xm c h) (J8 k h3 h4 h5 (h.sound B o ho r w ha hs)))
end
end Go.Dk
namespace Go.Dk
open Go Go.Li
section
variable {B:Bs} {P:Program} {Z Z':Nat→Prop} {w:World} {Fd F1:LN}
end
section
variable {P:Program} {S:World→Prop}
theorem AQ.mono {K K':(Nat→Value)→Prop} (hk:∀ r,K r→K' r):∀ {ops:LO} {r:NV},AQ P S ops r K→AQ P S ops r K'
 | [],_,h=>hk _ h
 | _ :: _,_,⟨hg,v,h1,h2⟩=>⟨hg,v,h1,AQ.mono hk h2⟩
end
inductive QX {R S:Type} (P:Program) (cx:Cx R) (K:df R S) (sI:LO) (rs:List (Nat×List Value×TypeId)) (pe:QE):List aw→List aw→List Oper→Fr→Option (Out S R)→Prop
 | pe {e:aw} {Δ Γ:QE} {ops:LO} {fr:Fr} {m:Option (Out S R)} (h:QX P cx K sI rs pe Δ (e :: Γ) ops fr m):QX P cx K sI rs pe (e :: Δ) Γ ops fr m
 | nil {Γ:QE} {fr:Fr} {m:Option (Out S R)} {tD:List (Nat×List Value×TypeId)} (h:SQ P Γ fr sI rs tD) (k:D P cx (.p [] pe fr Γ fun fr Γ=>.p [] (IC tD) fr Γ fun fr Γ=>.n K Γ fr m)):QX P cx K sI rs pe [] Γ [] fr m
 | JB {d n:Nat} {t ty:TI} {x:OO} {a:Addr} {ds:LV} {pos:String} {ag:Array Edge} {ops:LO} {Γ:QE} {fr:Fr} {m:Option (Out S R)} [ht:LK P t (some n)] (hx:bp fr x=some (.pointer (some a))) (hw:ua Γ a n ds) (h:QX P cx K sI rs pe [] Γ ops ((d,.agg ds.toArray) :: fr) m) :
   QX P cx K sI rs pe [] Γ (⟨some d,.load t x,ty,pos,ag,none⟩ :: ops) fr m
 | Eo {α V:Type} {d n:Nat} {x y:OO} {v:Value} {k:IntKind} {j:Int} {t ty:TI} {S':ai α} {cl:α→V→List Value} {en:α→V→List aw} {xs:List α} {pos:String} {ag:Array Edge} {ops:LO} {Γ Γx:QE} {fr:Fr} {f:α→Option (Out S R)} [ht:Hj P t n] (hx:bp fr x=some v) (hy:bp fr y=some (.int k j))
   (hr:qf Γ v false false (rG S') xs tf Γx) (hs:De S' V cl en) (hn:S'.size=n) (h:∀ z u,QX P cx K sI rs pe (.bd (cq v n j) (cl z u) :: en z u) Γ ops ((d,.pointer (some (cq v n j))) :: fr) (f z)) :
   QX P cx K sI rs pe [] Γ (⟨some d,.indexAddr t x y,ty,pos,ag,none⟩ :: ops) fr (idx xs j>>=f)
 | lc {d:Nat} {t ty:TI} {x:OO} {a:Addr} {u:Value} {pos:String} {ag:Array Edge} {ops:LO} {Γ:QE} {fr:Fr} {m:Option (Out S R)} [ht:LK P t none] (hx:bp fr x=some (.pointer (some a))) (hw:tX Γ a u) (h:QX P cx K sI rs pe [] Γ ops ((d,u) :: fr) m) :
   QX P cx K sI rs pe [] Γ (⟨some d,.load t x,ty,pos,ag,none⟩ :: ops) fr m
 | val {d:Nat} {op:Op} {ty:TI} {u:Value} {pos:String} {ag:Array Edge} {ops:LO} {Γ:QE} {fr:Fr} {m:Option (Out S R)} (hv:VQ P Γ fr op u) (h:QX P cx K sI rs pe [] Γ ops ((d,u) :: fr) m):QX P cx K sI rs pe [] Γ (⟨some d,op,ty,pos,ag,none⟩ :: ops) fr m
section
variable {R S:Type} {P:Program} {cx:Cx R} {K:df R S} {sI:LO} {rs:List (Nat×List Value×TypeId)} {pe:QE} {Z:Nat→Prop}
theorem QX.sound {w0:World} {H:LN} (hz:∀ b∈H,¬ Z b) {Δ Γ:QE} {ops:LO} {fr:Fr} {m:Option (Out S R)} (h:QX P cx K sI rs pe Δ Γ ops fr m):∀ {o:Out S R} {F:LN},m=some o→(∀ b∈H,b ∉ F)→SA Z w0 (Δ.reverse++Γ) [] F→∀ r,c9 r fr→
  AQ P (av H w0) ops r fun r'=>∃ Γ' qd tD m' F',F'.Perm F∧m'=some o∧c9 r' qd∧SA Z w0 Γ' [] F'∧SQ P Γ' qd sI rs tD∧D P cx (.p [] pe qd Γ' fun fr Γ=>.p [] (IC tD) fr Γ fun fr Γ=>.n K Γ fr m'):=by
 induction h with
 | @pe e Δ Γ ops fr m _ ih=>
  intro o F hm hF hS r ha
  refine ih hm hF ?_ r ha
  rw [List.reverse_cons,List.append_assoc] at hS
  exact hS
 | @nil Γ fr m tD h k=>exact fun hm hF hS r ha=>⟨Γ,fr,tD,m,_,.refl _,hm,ha,hS,h,k⟩
 | @val d op ty u pos ag ops Γ fr m hv _ ih=>
  intro o F hm hF hS r ha
  refine ⟨rfl,u,fun w hC=>?_,ih hm hF hS _ (ay ha)⟩
  exact hv.sound ((SA.ee hC hz (fun _ _=>List.not_mem_nil) hF hS)) ha (some d) ty pos ag none w (av.refl _ _)
 | @JB d n t ty x a ds pos ag ops Γ fr m ht hx hw _ ih=>
  intro o F hm hF hS r ha
  refine ⟨rfl,_,fun w hC=>?_,ih hm hF hS _ (ay ha)⟩
  obtain ⟨h1,h2⟩:=hw.sound (SA.ee hC hz (fun _ _=>List.not_mem_nil) hF hS)
  exact Lg ht.h h1 (bI ha hx) h2 w (av.refl _ _)
 | @lc d t ty x a u pos ag ops Γ fr m ht hx hw _ ih=>
  intro o F hm hF hS r ha
  refine ⟨rfl,u,fun w hC=>?_,ih hm hF hS _ (ay ha)⟩
  exact Ld ht.h (hw.sound (SA.ee hC hz (fun _ _=>List.not_mem_nil) hF hS)) (bI ha hx) w (av.refl _ _)
 | @Eo α V d n x y v k j t ty S' cl en xs pos ag ops Γ Γx fr f ht hx hy hr qa hn _ ih=>
  intro o F hm hF hS r ha
  replace qa:SO S' V cl en:=by cases qa; assumption
  obtain ⟨z,J9,hm⟩:=bind_some hm
  replace J9:=p4 J9
  obtain ⟨e,i,h1,h2,h3⟩:=ht.h
  obtain ⟨dh,_,⟨⟨f0,Dh,wR⟩,_⟩,_⟩:=hr.sound hS
  have hZ:∀ b∈f0,Z b:=fun b hb=>(wR b hb).elim id id
  obtain ⟨⟨a,c,hv⟩,bh,cs,f1,du,JH,kj⟩:=uh Dh j J9.1 J9.2
  have uN:(rG S').size=n:=hn
  rw [uN] at kj
  obtain ⟨u,rfl,o7⟩:=qa.op du.2
  have hblk:Z (cq v n j).block:=by
   obtain ⟨base,cap,nr,gw⟩:=Dh
   rcases gw with ⟨rfl,_⟩ | ⟨b,off,cr,e',fz,f',rfl,_,rfl,_⟩
   ·simp at bh; omega
   ·obtain rfl:v = .slice (some ⟨b,off,none⟩) xs.length cap:=by simpa using nr
    have:(cq (.slice (some ⟨b,off,none⟩) xs.length cap) n j).block=b:=by unfold cq; rw [uK]
    rw [this]; exact hZ b (by simp)
  have Ez:fact Z w0 [] (.bd (cq v n j) (cl z u)):=⟨fun i u' hi=>kj i u' hi,fun _=>hblk⟩
  have dv:HL Z w0 (.bd (cq v n j) (cl z u) :: en z u) []:=.fact Ez (uf (o7 Z fun b hb=>hZ b (JH b hb)))
  obtain ⟨F',hp,jq⟩:=dv.build hS
  have WA:F'.Perm F:=by simpa using hp
  refine ⟨rfl,.pointer (some (cq v n j)),fun w hC=>?_,?_⟩
  ·rw [lq h1 h2 ((bI ha hx).trans hv) (bI ha hy) J9.1 (by omega),h3,hv]
   rfl
  ·have hq:=ih z u (F:=F') hm (fun b hb h=>hF b hb (WA.mem_iff.1 h)) jq _ (ay ha)
   refine AQ.mono ?_ hq
   rintro r' ⟨Γ',qd,tD,m',F3,q0,q1,q2,q3,q4,q5⟩
   exact ⟨Γ',qd,tD,m',F3,q0.trans WA,q1,q2,q3,q4,q5⟩
end
theorem FO.hl {Z:Nat→Prop} {w:World} {Δ:QE} (h:FO Δ):∀ {F:LN},HL Z w Δ F→F=[]:=by
 induction h with
 | nil=>intro F h; cases h; rfl
 | rd _ ih=>intro F h; cases h with | own h k=>exact h.elim | fact h k=>exact ih k
 | bd _ ih=>intro F h; cases h with | own h k=>exact h.elim | fact h k=>exact ih k
section
variable {P:Program} {n:Nat} {l:LO} {Q:Exit→(Nat→Value)→World→Prop} {S:World→Prop}
end
section
variable {R S:Type} {P:Program} {cx:Cx R} {K:df R S} {l:LO}
end
section
variable {R:Type} {P:Program} {cx:Cx R}
end
end Go.Dk
namespace Go.Li
open Go
section
variable {P:Program} {n:Nat} {Q:Exit→(Nat→Value)→World→Prop} {r:NV} {w:World} {R:Type}
end
end Go.Li
namespace Go.Dk
open Go Go.Li
section
variable {R:Type} {P:Program} {cx:Cx R} {S:Type}
section
variable {S1 V:Type} {k j:Nat} {Δ:S1→V→List aw} {φ:S1→V→Fr} {Γ2 Γ Γ1 Γ3:QE} {f2 fr:Fr} {s:S1} {v:V} (hv:tS V v) (ha:rM fr (φ s v)) (hf:rM fr f2) (h0:EO Γ (Δ s v) Γ1) (hw:OW Γ (Δ s v)) (h1:EO Γ1 Γ2 Γ3) (h2:MF Γ none Γ2)
include hv ha hf h0 hw h1 h2
end
end
abbrev rI:Value→List Int→aw:=.rd false (bT (aN .i64))
abbrev rJ:Value→List (List Int)→aw:=.rd false (bT (bT (aN .i64)))
class FE (p:Prop):Prop where
 u:True
instance {o:Bool} {a b:QE}:FE (ER o a b):=⟨trivial⟩
instance {a:QE} {b:LV}:FE (tZ a b):=⟨trivial⟩
instance {a b c:QE}:FE (EF a b c):=⟨trivial⟩
instance {a b c:QE}:FE (EO a b c):=⟨trivial⟩
instance {a b:QE}:FE (EP a b):=⟨trivial⟩
instance {a c d:LV} {b:Nat}:FE (sG a b c d):=⟨trivial⟩
instance {a b:Nat} {c d:LV}:FE (tn a b c d):=⟨trivial⟩
instance {a:LN} {b:Option (Bool×Nat×Value)} {c d:Fr}:FE (Kp a b c d):=⟨trivial⟩
instance {V:Type} {v:V}:FE (tS V v):=⟨trivial⟩
instance {a:QE} {b:Addr} {c:Nat} {d:LV}:FE (ua a b c d):=⟨trivial⟩
theorem fe {p:Prop} [FE p] (h:p):p:=h
end Go.Dk
namespace Go.Dk
open Go Go.Li
def vW (j:Nat) (b:Bool) (o:Oper):Oper:=
 match o.guard with
 | none=>o
 | some (j',p)=>bif Nat.beq j' j && (p == b) then ⟨o.dst,o.op,o.type,o.pos,o.after,none⟩ else o
def ml (j:Nat) (b:Bool) (l:LO):List Oper:=l.map (vW j b)
def Fu (l:LO) (j:Nat):Bool:=(List.range l.length).all fun i=>match (l.getD i default).guard with | none=>true | some (j',_)=>Nat.beq j' j && ((bo l).getD i []).contains j
section
variable {j:Nat} {b:Bool} {l:LO}
theorem Mj (o:Oper):(vW j b o).dst=o.dst:=by
 unfold vW
 split
 ·rfl
 ·cases Nat.beq _ j && (_ == b) <;> rfl
theorem IE (o:Oper):(vW j b o).after=o.after:=by
 unfold vW
 split
 ·rfl
 ·cases Nat.beq _ j && (_ == b) <;> rfl
theorem Mk {P:Program} {o:Oper} {r:NV} {w:World} {K:Value→World→Prop}:fk P (vW j b o) r w K=fk P o r w K:=by
 obtain ⟨d,op,ty,pos,ag,g⟩:=o
 unfold vW
 split
 ·rfl
 ·cases Nat.beq _ j && (_ == b) <;> rfl
theorem HD (i:Nat):(ml j b l)[i]? = (l[i]?).map (vW j b):=by unfold ml; rw [List.getElem?_map]
theorem r9:(ml j b l).length=l.length:=by unfold ml; rw [List.length_map]
theorem vH (i:Nat):bm (ml j b l) i=bm l i:=by
 unfold bm
 rw [HD]
 cases l[i]? with
 | none=>rfl
 | some o=>exact Mj o
theorem sJ:bo (ml j b l)=bo l:=by
 unfold bo ml
 rw [List.foldl_map]
 congr 1
 funext acc o
 unfold kq
 rw [IE]
theorem RP (r:NV):yl (ml j b l) r=yl l r:=by
 funext i
 have h:=vH (j:=j) (b:=b) (l:=l) i
 unfold bm at h
 unfold yl
 rw [h]
theorem Fv {S:List fc} {k:Nat} {g:Nat→List Nat} {r:NV} {w:World}:tx (ml j b l) S k g r w=tx l S k g r w:=by unfold tx; rw [vH]
theorem CM {S:List fc} {k:Nat} {r:NV}:Old (ml j b l) S k r=Old l S k r:=by unfold Old; rw [vH]
theorem DA {U:LL} {m i k:Nat}:rf (ml j b l) U m i k=rf l U m i k:=by unfold rf; rw [sJ]
theorem Ka {U:LL} {m i:Nat}:uB (ml j b l) U m i=uB l U m i:=by unfold uB; rw [sJ,r9]
theorem Ml {U:LL} {m:Nat}:j7 (ml j b l) U m=j7 l U m:=by
 unfold j7
 rw [r9]
 refine List.map_congr_left fun i _=>?_
 congr 1
 funext k
 exact DA
theorem jb.pas {P:Program} {m:Nat} {S:List fc} {U:LL} {r0:NV} {w0:World} {H:LN} {i d:Nat} (h:jb P (ml j b l) m S U r0 w0 H i) (hg:Fu l j=true) (hd:bm l j=some d)
  (hk:j∈(bo l).getD i []→∀ r,(∀ k∈(bo l).getD i [],Old l S k r)→r d = .bool b):jb P l m S U r0 w0 H i:=by
 intro o s ho hs g r w hC hV l6 hn ll pq hf
 unfold jb at h
 simp only [sJ,r9,Ka,DA,Fv,CM,vH,RP] at h
 have h2:=h (vW j b o) s (by rw [HD,ho]; rfl) hs g r w hC hV l6 hn ll pq hf
 rw [Mk] at h2
 have hgo:match o.guard with | none=>True | some (j',_)=>j'=j∧j∈(bo l).getD i []:=by
  unfold Fu at hg
  rw [List.all_eq_true] at hg
  have hi:=(List.getElem?_eq_some_iff.1 ho).1
  have:=hg i (List.mem_range.2 hi)
  rw [List.getD_eq_getElem?_getD,ho] at this
  simp only [Option.getD_some] at this
  revert this
  cases o.guard with
  | none=>exact fun _=>trivial
  | some q=>
   intro this
   simp only [Bool.and_eq_true] at this
   exact ⟨Nat.eq_of_beq_eq_true this.1,by simpa using this.2⟩
 have hw:Region.wanted o (yl l r)=Region.wanted (vW j b o) (yl l r):=by
  obtain ⟨d',op,ty,pos,ag,gd⟩:=o
  cases gd with
  | none=>rfl
  | some q=>
   obtain ⟨j',p⟩:=q
   obtain ⟨rfl,wU⟩ : j'=j∧j∈(bo l).getD i []:=hgo
   unfold vW
   dsimp only
   rw [Nat.beq_refl,Bool.true_and]
   cases hp:p == b with
   | false=>rfl
   | true=>
    obtain rfl:p=b:=eq_of_beq hp
    unfold Region.wanted
    dsimp only [cond_true]
    rw [Ia hd,hk wU r l6]
    simp
 rw [hw]
 exact h2
end
section
variable {R S:Type} {P:Program} {cx:Cx R} {K:df R S} {l:LO} {base fr:Fr} {w:World} {Z:Nat→Prop}
def mark (j d:Nat) (b:Bool):List Nat:=[j+1000000,d+1000000,(bif b then 1 else 0)+1000000]
theorem Mm {U:LL} {sl:LQ} {ms:MM} {j d:Nat} {b:Bool} (h:xk (U++[mark j d b]) sl ms=true):(j,d,.bool b)∈sl:=by
 unfold xk at h
 rw [Bool.and_eq_true] at h
 have h2:=h.2
 unfold V3 at h2
 have e:(U++[mark j d b]).getLastD []=mark j d b:=by simp [List.getLastD_eq_getLast?]
 rw [e] at h2
 have e2:Nat.ble 1000000 ((mark j d b).headD 0)=true:=Nat.ble_eq_true_of_le (by show 1000000≤j+1000000; omega)
 rw [e2,cond_true] at h2
 unfold Of mark at h2
 dsimp only at h2
 rw [Nat.add_sub_cancel,Nat.add_sub_cancel] at h2
 have:=Dl h2
 have e3:Nat.beq ((bif b then 1 else 0)+1000000) 1000001=b:=by cases b <;> rfl
 rwa [e3] at this
theorem Mn {id j d:Nat} {b:Bool} {U:LL} {E6:QE} (hU:((List.range l.length).all fun i=>((U++[mark j d b]).getD i []).all fun u=>Nat.beq u l.length || ((bo l).getD i []).contains u)=true) (hh:lu (ml j b l) l.length base=true) (hd:db cx.n l=true) (hA:vi l l.length []=true) (hZ:AL l l.length []=true) (hg:Fu l j=true) (pq:bm l j=some d) {i:Nat} {sl:LQ} {ms:MM} {Γ:QE} {m:Option (Out S R)} (E7:yn ms=true) (o7:xk (U++[mark j d b]) sl ms=true)
  (h:∀ x:qi ms,D P cx (.p (xj sl (mF ms x)) (zq ms x) base Γ fun fr Γ=>.tg false (yj []) (ml j b l) [] K Γ fr m)):EZ P cx K (ml j b l) l l.length (U++[mark j d b]) E6 id base (.a [] [] i sl ms Γ m):=by
 rintro ⟨_,h2,h3⟩ B o ho r0 w0 H Z ha hs ⟨S',hl,hR,hO⟩
 have hi:S'.length=l.length:=by
  have:=congrArg List.length h2
  simp [r9] at this
  omega
 have Q9:=hs
 obtain ⟨F,Hd,⟨zv,zw,uj,zx⟩,hS,hG⟩:=hs
 have hm:=Mm o7
 have hO2:∀ k,k < l.length→jb P l l.length S' (U++[mark j d b]) r0 w0 H k:=fun k hk=>by
  refine jb.pas (hO k (by omega)) hg pq fun wU r hr=>?_
  refine hR.zr (S2:=[]) hm fun q hq _=>?_
  rw [List.append_nil,CM]
  rw [sJ] at hq
  refine hr q (hq.elim (fun e=>e ▸ wU) fun e=>?_)
  have:=hR.t k q j
  rw [sJ] at this
  exact this e wU
 refine JV (N:=Z) (S:=S') (U:=U++[mark j d b]) (H:=H) hd hA hZ (fun c r w h=>xm c h) (Nat.le_refl _) hi uj hU (fun b hb=>⟨hG.rV b hb,fun h=>hG.apart b (List.mem_append_left _ h) hb⟩) (fun i s hs=>?_) hO2 ?_
 ·have:=hR.s i s hs
  unfold JK at this
  rw [sJ] at this
  simp only [vH] at this
  exact this
 intro g r w hI
 rw [List.drop_length]
 refine E5 (tail:=[]) hh E7 o7 h ho ha Q9 hi hR g r w ?_
 obtain ⟨i1,i2,i3,i4,i5,i6,i7,i8,i9⟩:=hI
 exact ⟨i1,fun hk=>by rw [r9] at hk ⊢; exact i2 hk,by rw [r9]; exact i3,by rw [r9]; exact i4,fun k hk hn=>by rw [Fv]; exact i5 k hk hn,fun k hk=>by rw [CM]; exact i6 k hk,fun t ht=>i7 t fun k hk=>by rw [← vH (j:=j) (b:=b)]; exact ht k hk,by rw [r9]; exact i8,i9⟩
theorem Ox {id j d:Nat} {b:Bool} (U as:LL) {Γ:QE} {m:Option (Out S R)}
  (hB:(db cx.n l && vi l l.length [] && AL l l.length [] && Fu l j && (j7 l (U++[mark j d b]) l.length == as) && ((List.range l.length).all fun i=>((U++[mark j d b]).getD i []).all fun u=>Nat.beq u l.length || ((bo l).getD i []).contains u))=true)
  (pq:bm l j=some d) (hf:Kp (vN l) none fr base) (hh:lu (ml j b l) l.length base=true)
  (h:AD false P cx K (ml j b l) [] base (U++[mark j d b]) [] (.a as (ml j b l) 0 [] [] Γ m)):∀ B o,m=some o→∀ r w,c9 r fr→St B Γ w→mh P cx.n l (kz P cx B K o) r w:=by
 simp only [Bool.and_eq_true] at hB
 obtain ⟨⟨⟨⟨⟨b2,b3⟩,b4⟩,b5⟩,b6⟩,b7⟩:=hB
 intro B o hm r w ha hs
 obtain ⟨Z,F,hS,hG⟩:=hs
 have hX:se B Z [] Γ [] w:=⟨F,[],⟨rfl,fun b hb=>absurd hb List.not_mem_nil,fun b hb=>absurd hb List.not_mem_nil,List.nodup_nil⟩,hS,hG⟩
 refine AD.sound (id:=id) (mt:=l.length) hh (fun _ _ _ _ _ _ hs he h=>Mn b7 hh b2 b3 b4 b5 pq hs he h) h
  ⟨by rw [List.drop_zero,Ml]; exact (eq_of_beq b6).symm,by rw [List.drop_zero,← r9 (j:=j) (b:=b),List.take_length],Nat.zero_le _⟩ B o hm r w [] Z (hf.sound ha) hX ⟨[],rfl,⟨fun _ h=>absurd h List.not_mem_nil,fun _ h=>absurd h List.not_mem_nil,fun i s h=>by simp at h,List.nodup_nil,fun _ _ _ h1 h2=>by rw [sJ] at h1 h2 ⊢; exact yt l (Du b3) h1 h2⟩,fun j hj=>absurd hj (Nat.not_lt_zero j)⟩
theorem XO {id:Nat} (j d:Nat) (U as:LL) {Γ:QE} {m1 m2:Option (Out S R)}
  (hB:(P.follows .mixedOrders && db cx.n l && vi l l.length [] && AL l l.length [] && Fu l j && (j7 l (U++[mark j d true]) l.length == as) && (j7 l (U++[mark j d false]) l.length == as) && ((List.range l.length).all fun i=>((U++[mark j d true]).getD i []).all fun u=>Nat.beq u l.length || ((bo l).getD i []).contains u) && ((List.range l.length).all fun i=>((U++[mark j d false]).getD i []).all fun u=>Nat.beq u l.length || ((bo l).getD i []).contains u))=true)
  (pq:bm l j=some d) (hf:Kp (vN l) none fr base) (RQ:lu (ml j true l) l.length base=true) (zm:lu (ml j false l) l.length base=true)
  (h1:AD false P cx K (ml j true l) [] base (U++[mark j d true]) [] (.a as (ml j true l) 0 [] [] Γ m1)) (h2:AD false P cx K (ml j false l) [] base (U++[mark j d false]) [] (.a as (ml j false l) 0 [] [] Γ m2)):Bx (qb P cx (.dr id l K Γ fr (WB m1 m2))):=by
 simp only [Bool.and_eq_true] at hB
 obtain ⟨⟨⟨⟨⟨⟨⟨⟨b0,b2⟩,b3⟩,b4⟩,b5⟩,b6⟩,b6'⟩,b7⟩,b7'⟩:=hB
 rw [qz]
 intro B o ho r w ha hs
 refine mh.W b0 ?_
 cases hm:m1 with
 | some o'=>
  have e:o'=o:=by rw [hm] at ho; exact Option.some.inj ho
  exact Ox (id:=id) U as (by simp only [Bool.and_eq_true]; exact ⟨⟨⟨⟨⟨b2,b3⟩,b4⟩,b5⟩,b6⟩,b7⟩) pq hf RQ h1 B o (by rw [hm,e]) r w ha hs
 | none=>exact Ox (id:=id) U as (by simp only [Bool.and_eq_true]; exact ⟨⟨⟨⟨⟨b2,b3⟩,b4⟩,b5⟩,b6'⟩,b7'⟩) pq hf zm h2 B o (by rw [hm] at ho; exact ho) r w ha hs
end
end Go.Dk
namespace Go.Dk
open Go Go.Li
theorem Pz {P:Program} {g:FuncId} {vs:LV} {Δ:QE} {β:Type} {m:Option β} {ow:Bool} {rt:β→Unit→List Value} (hc:Ct P g ow m vs Δ rt (fun _ _=>[])) {w:World} (hl:HL (fun b=>b < w.heap.size) w Δ []) {y:β} (hy:m=some y) :
  Calls P g vs.toArray w fun e w'=>e = .returned (sF (rt y ()))∧av [] w w':=by
 rw [uz] at hc
 refine (hc.2 w _ [] hl List.nodup_nil (fun _ h=>absurd h List.not_mem_nil) (fun _ h=>h) y hy).mono ?_
 rintro e w' ⟨_,he,Z,F,_,hg⟩
 exact ⟨he,hg.lj⟩
theorem PB {w:World} {α:Type} {T:ai α} {v:Value} {x:α} {f:LN} (h:T.rep w.heap [v] x f):fact (fun b=>b < w.heap.size) w [] (.rd false T v x):=⟨f,h,fun b hb=>T.lt h b hb⟩
end Go.Dk
