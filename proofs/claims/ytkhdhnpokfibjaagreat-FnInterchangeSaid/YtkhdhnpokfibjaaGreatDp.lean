/- A region that draws its order: its head in any order, whatever it holds, its tail quiet and behind all of the head. No condition. -/
import Derived.Test.YtkhdhnpokfibjaaGreatDg
import Derived.Deep.Quiet
import Derived.Laws.Slices
import Derived.OrdersHeld
namespace Go.Li
open Go
section
variable {P:Program} {n:Nat} {Q:Exit→(Nat→Value)→World→Prop} {r0:Nat→Value} {w0:World} {l:List Oper} {S:List Gives}
def anyqB (l:List Oper) (m:Nat):Bool:=
 ((List.range l.length).all fun i=>((l.getD i default).after.toList.filter (Region.binds .any)).all fun e=>Nat.blt e.on i) &&
 ((List.range l.length).all fun i=>Nat.blt i m || (List.range m).all fun j=>((ancs l).getD i []).contains j) &&
 nodupB ((l.take m).filterMap (·.dst)) && Region.noSelect l.toArray && Region.lexFrom .any l.toArray (l.length - m) m (List.replicate m true++List.replicate (l.length - m) false).toArray
theorem anyqB_back {m:Nat} (h:anyqB l m=true):∀ (i:Nat) (o:Oper),l[i]? = some o→∀ e∈o.after.toList.filter (Region.binds .any),e.on < i:=by
 simp only [anyqB,Bool.and_eq_true,List.all_eq_true,List.mem_range] at h
 intro i o ho e he
 have hi:i < l.length:=(List.getElem?_eq_some_iff.1 ho).1
 have:=h.1.1.1.1 i hi e (by rw [List.getD_eq_getElem?_getD,ho]; exact he)
 exact Nat.lt_of_succ_le (Nat.le_of_ble_eq_true this)
theorem W_anyqC {m:Nat} {U:List (List Nat)} {H:List Nat} {N:Nat→Prop} (hd:dstOk n l=true) (hA:anyqB l m=true) (hml:m≤l.length)
  (hS:S.length=m)
  (hH:∀ b∈H,b < w0.heap.size) (hU:((List.range m).all fun i=>(U.getD i []).all fun u=>Nat.beq u l.length || ((ancs l).getD i []).contains u)=true)
  (hN:∀ b,N b→b < w0.heap.size∧b ∉ H)
  (stable:∀ (i:Nat) (s:Gives),S[i]? = some s→∀ f F (w w':World) (r r':Nat→Value) v,Chg F w w'→(∀ b∈f,b ∉ F)→(∀ b∈F,¬ N b)→(∀ j∈(ancs l).getD i [],∀ t,dstAt l j=some t→r' t=r t)→s.V f w r v→s.V f w' r' v)
  (owes:∀ i,i < m→Owes P l m S U r0 w0 H i)
  (next:∀ g r w,HeadInv' l m S U r0 w0 H (fun j=>j < m) g r w→QL P (Chg [] w) l (l.drop m) r fun r'=>∀ w',Chg [] w w'→Q .normal r' w') :
  AnyW P n l Q r0 w0:=by
 simp only [anyqB,Bool.and_eq_true,List.all_eq_true,List.mem_range,Bool.or_eq_true] at hA
 obtain ⟨⟨⟨⟨hA1,hA2⟩,hA3⟩,hns⟩,hlex⟩:=hA
 have hback:∀ (i:Nat) (o:Oper),l[i]? = some o→∀ e∈o.after.toList.filter (Region.binds .any),e.on < i:=by
  intro i o ho e he
  have hi:i < l.length:=(List.getElem?_eq_some_iff.1 ho).1
  have:=hA1 i hi e (by rw [List.getD_eq_getElem?_getD,ho]; exact he)
  exact Nat.lt_of_succ_le (Nat.le_of_ble_eq_true this)
 have hbig:∀ i,m≤i→i < l.length→∀ j,j < m→j∈(ancs l).getD i []:=by
  intro i h1 h2 j hj
  rcases hA2 i h2 with h | h
  ·exact absurd (Nat.lt_of_succ_le (Nat.le_of_ble_eq_true h)) (Nat.not_lt.2 h1)
  ·have:=h j hj
   simpa using this
 have hUs:∀ i,i < m→∀ u∈U.getD i [],u=l.length∨u∈(ancs l).getD i []:=by
  intro i hi u hu
  simp only [List.all_eq_true,List.mem_range] at hU
  have:=hU i hi u hu
  simpa using this
 have hnd:=nodup_dst _ (nodupB_spec hA3)
 have hanc:=ancs_back l hback
 intro a h1 h2 h3
 let Cl (L:Array Bool):Prop:=L.size=l.length∧∀ j o,l[j]? = some o→L.getD j false=true→∀ e∈o.after.toList.filter (Region.binds .any),L.getD e.on false=true
 have clAnc:∀ L,Cl L→∀ i j,(∀ o,l[i]? = some o→∀ e∈o.after.toList.filter (Region.binds .any),L.getD e.on false=true)→j∈(ancs l).getD i []→L.getD j false=true:=by
  intro L hL i
  induction i using Nat.strongRecOn with
  | _ i ih=>
   intro j hi hj
   obtain ⟨_,o,ho,e,he,hje⟩:=hanc i j hj
   have hl:=hi o ho e he
   rcases hje with rfl | hje
   ·exact hl
   ·exact ih e.on (hback i o ho e he) j (fun o' ho' e' he'=>hL.2 _ _ ho' hl e' he') hje
 have rdy:∀ L i,i∈Region.ready .any l.toArray L→L.getD i true=false∧∃ o,l[i]? = some o∧∀ e∈o.after.toList.filter (Region.binds .any),L.getD e.on false=true:=by
  intro L i hi
  obtain ⟨g1,o,ho,hall⟩:=mem_ready.1 hi
  refine ⟨g1,o,by simpa using ho,fun e he=>?_⟩
  have:=List.mem_filter.1 he
  exact hall e (by simpa using this.1) this.2
 have rdyMk:∀ L i o,L.size=l.length→l[i]? = some o→L.getD i false=false→(∀ e∈o.after.toList.filter (Region.binds .any),L.getD e.on false=true)→i∈Region.ready .any l.toArray L:=by
  intro L i o hs ho hu hall
  refine mem_ready.2 ⟨?_,o,by simpa using ho,fun e he hb=>hall e (List.mem_filter.2 ⟨by simpa using he,hb⟩)⟩
  have hi:i < L.size:=by rw [hs]; exact (List.getElem?_eq_some_iff.1 ho).1
  simp [hi] at hu ⊢; exact hu
 have clSet:∀ L i o,Cl L→l[i]? = some o→(∀ e∈o.after.toList.filter (Region.binds .any),L.getD e.on false=true)→Cl (L.setIfInBounds i true):=by
  intro L i o hL ho hall
  refine ⟨by rw [Array.size_setIfInBounds]; exact hL.1,fun j o' ho' hj e he=>?_⟩
  by_cases hij:i=j
  ·subst hij
   have:o'=o:=Option.some.inj (ho'.symm.trans ho)
   subst this
   exact getD_set_true (hall e he)
  ·rw [getD_set_ne false hij] at hj
   exact getD_set_true (hL.2 j o' ho' hj e he)
 have getSet:∀ (L:Array Bool) i j,L.size=l.length→i < l.length→((L.setIfInBounds i true).getD j false=true↔j=i∨L.getD j false=true):=by
  intro L i j hs hi
  by_cases hij:i=j
  ·subst hij
   simp [hs,hi]
  ·rw [getD_set_ne false hij]
   constructor
   ·exact .inr
   ·rintro (h | h)
    ·exact absurd h.symm hij
    ·exact h
 have cnt:∀ (L:Array Bool) i,L.size=l.length→i < l.length→L.getD i false=false→(L.setIfInBounds i true).toList.count false+1=L.toList.count false:=by
  intro L i hs hi hu
  have hi':i < L.toList.length:=by simpa [hs] using hi
  have hu':L.toList[i]=false:=by
   rw [Array.getElem_toList]
   simp [hs,hi] at hu
   exact hu
  rw [Array.toList_setIfInBounds,List.count_set hi',hu']
  have:0 < L.toList.count false:=List.count_pos_iff.2 (by rw [← hu']; exact List.getElem_mem hi')
  rw [if_pos (by rfl),if_neg (by decide)]
  omega
 have hd':dstOk n (l.drop m)=true:=by
  simp only [dstOk,List.all_eq_true] at hd ⊢
  exact fun o ho=>hd o (List.mem_of_mem_drop ho)
 have tail:∀ (fuel:Nat) (L:Array Bool) (a:Act) (w:World),Cl L→(∀ j,L.getD j false=true↔j < m)→L.toList.count false=fuel→a.tmps.size=n→a.defers=[]→
   (QL P (Chg [] w) l (l.drop m) (rho a) fun r'=>∀ w',Chg [] w w'→Q .normal r' w')→wpAny P .any l.toArray (fun e a' w'=>a'.tmps.size=n∧a'.defers=[]∧Q e (rho a') w') fuel L a w:=by
  intro fuel L a w hL hLk hf g1 g2 hq
  have hLe:L=(List.replicate m true++List.replicate (l.length - m) false).toArray:=by
   apply Array.ext
   ·simp [hL.1]; omega
   ·intro i hi hj
    have h1:=hLk i
    simp only [Array.getD_eq_getD_getElem?,Array.getElem?_eq_getElem hi,Option.getD_some] at h1
    have e:(List.replicate m true++List.replicate (l.length - m) false).toArray[i]'hj=decide (i < m):=by
     simp only [List.getElem_toArray,List.getElem_append,List.getElem_replicate,List.length_replicate]
     split
     ·rename_i h; simp [h]
     ·rename_i h; simp [h]
    rw [e]
    cases hb:L[i] with
    | false=>exact (decide_eq_false fun h=>by have:=h1.2 h; rw [hb] at this; cases this).symm
    | true=>exact (decide_eq_true (h1.1 hb)).symm
  have hcount:fuel=l.length - m:=by
   rw [← hf,hLe]
   simp [List.count_append,List.count_replicate]
  have q1:=QL.wpQuiet (n:=n) (l:=l) (l.drop m) a hd hd' g1 g2 hq
  have q2:=wpAnyQ_lex (md:=.any) hns (l.drop m) m L a (fun j=>by simp [List.getElem?_drop]) (by rw [hLe,List.length_drop]; exact hlex) q1
  refine wpAny_of_quiet (C:=Chg [] w) (Q:=fun a'=>a'.tmps.size=n∧a'.defers=[]∧∀ w',Chg [] w w'→Q .normal (rho a') w') (fun a' w' hw' hh=>⟨hh.1,hh.2.1,hh.2.2 w' hw'⟩) _ _ _ _ (Chg.refl _ _) ?_
  rw [hcount,← List.length_drop]
  exact q2
 have head:∀ (fuel:Nat) (L:Array Bool) (a:Act) (w:World) (g:Nat→List Nat),Cl L→(∀ j,L.getD j false=true→j < m)→L.toList.count false=fuel→a.tmps.size=n→a.defers=[]→
   HeadInv' l m S U r0 w0 H (fun j=>L.getD j false=true) g (rho a) w→wpAny P .any l.toArray (fun e a' w'=>a'.tmps.size=n∧a'.defers=[]∧Q e (rho a') w') fuel L a w:=by
  intro fuel
  induction fuel with
  | zero=>
   intro L a w g hL hLm hf g1 g2 inv
   have hall:∀ j,j < l.length→L.getD j false=true:=by
    intro j hj
    cases hb:L.getD j false with
    | true=>rfl
    | false=>have:=cnt L j hL.1 hj hb; omega
   have hLk:∀ j,L.getD j false=true↔j < m:=fun j=>⟨hLm j,fun h=>hall j (by omega)⟩
   refine tail 0 L a w hL hLk hf g1 g2 (next g _ _ ?_)
   exact ⟨inv.chg,fun hk=>inv.chg0 fun k hkL=>hk k ((hLk k).1 hkL),inv.vg,fun j hj=>inv.vd j ((hLk j).2 hj),fun j hj hk=>inv.done j ((hLk j).2 hj) (fun k hkL=>hk k ((hLk k).1 hkL)),fun j hj=>inv.old j ((hLk j).2 hj),inv.other,fun j hj b hb=>⟨(inv.fresh j ((hLk j).2 hj) b hb).1.imp (fun h=>h) fun h=>⟨h.1,h.2.imp fun k hk=>⟨(hLk k).1 hk.1,hk.2⟩⟩,(inv.fresh j ((hLk j).2 hj) b hb).2⟩,fun i j hi hj=>inv.dis i j ((hLk i).2 hi) ((hLk j).2 hj)⟩
  | succ fuel ih=>
   intro L a w g hL hLm hf g1 g2 inv
   by_cases hall:∀ j,j < m→L.getD j false=true
   ·have hLk:∀ j,L.getD j false=true↔j < m:=fun j=>⟨hLm j,hall j⟩
    refine tail _ L a w hL hLk hf g1 g2 (next g _ _ ?_)
    exact ⟨inv.chg,fun hk=>inv.chg0 fun k hkL=>hk k ((hLk k).1 hkL),inv.vg,fun j hj=>inv.vd j ((hLk j).2 hj),fun j hj hk=>inv.done j ((hLk j).2 hj) (fun k hkL=>hk k ((hLk k).1 hkL)),fun j hj=>inv.old j ((hLk j).2 hj),inv.other,fun j hj b hb=>⟨(inv.fresh j ((hLk j).2 hj) b hb).1.imp (fun h=>h) fun h=>⟨h.1,h.2.imp fun k hk=>⟨(hLk k).1 hk.1,hk.2⟩⟩,(inv.fresh j ((hLk j).2 hj) b hb).2⟩,fun i j hi hj=>inv.dis i j ((hLk i).2 hi) ((hLk j).2 hj)⟩
   ·obtain ⟨j0,hj0,hu0⟩ : ∃ j,j < m∧L.getD j false=false:=by
     apply Classical.byContradiction
     intro hno
     apply hall
     intro j hj
     cases hb:L.getD j false with
     | true=>rfl
     | false=>exact absurd ⟨j,hj,hb⟩ hno
    have hsome:∃ i,i∈Region.ready .any l.toArray L:=by
     have:∀ k,(∃ j,j < k∧j < m∧L.getD j false=false)→∃ i,i∈Region.ready .any l.toArray L:=by
      intro k
      induction k with
      | zero=>rintro ⟨j,h,_⟩; omega
      | succ k ihk=>
       rintro ⟨j,hjk,hjm,hju⟩
       by_cases hlow:∃ j,j < k∧j < m∧L.getD j false=false
       ·exact ihk hlow
       ·obtain rfl:j=k:=by
         apply Classical.byContradiction
         intro h
         exact hlow ⟨j,by omega,hjm,hju⟩
        have hjl:j < l.length:=by omega
        refine ⟨j,rdyMk L j l[j] hL.1 (List.getElem?_eq_getElem hjl) hju fun e he=>?_⟩
        have hlt:=hback j _ (List.getElem?_eq_getElem hjl) e he
        cases hb:L.getD e.on false with
        | true=>rfl
        | false=>exact absurd ⟨e.on,hlt,by omega,hb⟩ hlow
     exact this (j0+1) ⟨j0,by omega,hj0,hu0⟩
    have main:∀ i oi,i < m→l[i]? = some oi→L.getD i false=false→(∀ e∈oi.after.toList.filter (Region.binds .any),L.getD e.on false=true)→
      (Region.wanted oi (yl l (rho a))=true∧OpW P oi (rho a) w fun v w'=>wpAny P .any l.toArray (fun e a' w'=>a'.tmps.size=n∧a'.defers=[]∧Q e (rho a') w') fuel (L.setIfInBounds i true) (a.put oi.dst v) w')∨
      (Region.wanted oi (yl l (rho a))=false∧wpAny P .any l.toArray (fun e a' w'=>a'.tmps.size=n∧a'.defers=[]∧Q e (rho a') w') fuel (L.setIfInBounds i true) (a.put oi.dst undef) w):=by
     intro i oi him hoi hiu hedge
     have hilt:i < l.length:=(List.getElem?_eq_some_iff.1 hoi).1
     have hedge':∀ o,l[i]? = some o→∀ e∈o.after.toList.filter (Region.binds .any),L.getD e.on false=true:=fun o' ho'=>by
      have:o'=oi:=Option.some.inj (ho'.symm.trans hoi)
      subst this; exact hedge
     obtain ⟨s,hs⟩ : ∃ s,S[i]? = some s:=⟨S[i]'(by omega),List.getElem?_eq_getElem (by omega)⟩
     have hc:=cnt L i hL.1 hilt hiu
     have hcl:=clSet L i oi hL hoi hedge
     have hlm:∀ j,(L.setIfInBounds i true).getD j false=true→j < m:=by
      intro j hj
      rcases (getSet L i j hL.1 hilt).1 hj with rfl | hj
      ·exact him
      ·exact hLm j hj
     have hiL:∀ k,L.getD k false=true→k≠i∧i ∉ (ancs l).getD k []:=by
      intro k hk
      refine ⟨fun h=>(by rw [h,hiu] at hk; cases hk),fun hm'=>?_⟩
      have:=clAnc L hL k i (fun o' ho' e' he'=>hL.2 k o' ho' hk e' he') hm'
      rw [hiu] at this; cases this
     have ow:=owes i him oi s hoi hs g (rho a) w inv.chg (fun hV=>by
       have hno:∀ k,L.getD k false=true→l.length ∉ U.getD k []:=fun k hk hkV=>by
        simp only [needV,List.all_eq_true,List.mem_range,Bool.or_eq_true,Bool.not_eq_true',List.contains_eq_mem,decide_eq_false_iff_not,decide_eq_true_eq] at hV
        rcases hV k (hLm k hk) with (h | h) | h
        ·exact h hkV
        ·exact (hiL k hk).1 (Nat.eq_of_beq_eq_true h)
        ·exact (hiL k hk).2 h
       have h0:=inv.chg0 hno
       exact ⟨h0.1,h0.2,fun j hj b hb=>(inv.fresh j (clAnc L hL i j hedge' hj) b hb).1.elim (fun h=>h) fun h=>absurd h.2.choose_spec.2 (hno _ h.2.choose_spec.1)⟩) (fun j hj=>inv.old j (clAnc L hL i j hedge' hj)) (fun j hj=>by
       simp only [needB,Bool.and_eq_true,List.all_eq_true,List.mem_range,Bool.or_eq_true,Bool.not_eq_true',List.contains_eq_mem,decide_eq_false_iff_not,decide_eq_true_eq] at hj
       refine inv.done j (clAnc L hL i j hedge' hj.1) fun k hk hjk=>?_
       rcases hj.2 k (hLm k hk) with (h | h) | h
       ·exact h hjk
       ·exact (hiL k hk).1 (Nat.eq_of_beq_eq_true h)
       ·exact (hiL k hk).2 h) inv.other
      (fun i' hi' j' hj'=>inv.dis i' j' (clAnc L hL i i' hedge' hi') (clAnc L hL i j' hedge' hj'))
      (fun j hj b hb=>⟨(inv.fresh j (clAnc L hL i j hedge' hj) b hb).1.imp (fun h=>h) (·.1),(inv.fresh j (clAnc L hL i j hedge' hj) b hb).2⟩)
     have hblk:∀ b∈blks g (U.getD i []),(∃ u,u∈U.getD i []∧L.getD u false=true∧b∈g u)∨(l.length∈U.getD i []∧b∈g l.length):=by
      intro b hb
      obtain ⟨u,hu,hbu⟩:=List.mem_flatMap.1 hb
      rcases hUs i him u hu with rfl | h
      ·exact .inr ⟨hu,hbu⟩
      ·exact .inl ⟨u,hu,clAnc L hL i u hedge' h,hbu⟩
     have hdo:∀ k',oi.dst=some k'→k' < a.tmps.size:=by
      intro k' hk'
      have hm':oi∈l:=List.mem_of_getElem? hoi
      simp only [dstOk,List.all_eq_true] at hd
      have:=hd oi hm'
      rw [hk'] at this
      rw [g1]
      exact Nat.lt_of_succ_le (Nat.le_of_ble_eq_true this)
     have hdi:dstAt l i=oi.dst:=by unfold dstAt; rw [hoi]; rfl
     have hfr:∀ v t,(oi.dst≠some t)→rho (a.put oi.dst v) t=rho a t:=by
      intro v t ht
      rw [rho_putO hdo]
      cases hdd:oi.dst with
      | none=>rfl
      | some d=>
       show (bif Nat.beq t d then v else rho a t)=rho a t
       cases hb:Nat.beq t d with
       | false=>rfl
       | true=>exact absurd (by rw [hdd,Nat.eq_of_beq_eq_true hb]) ht
     have hfr2:∀ v d,oi.dst=some d→rho (a.put oi.dst v) d=v:=by
      intro v d hdd
      rw [rho_putO hdo,hdd]
      show (bif Nat.beq d d then v else rho a d)=v
      rw [Nat.beq_refl]; rfl
     have step:∀ v w' f,Chg (blks g (U.getD i [])) w w'→(∀ b∈f,(b∈blks g (U.getD i [])∨w.heap.size≤b)∧b < w'.heap.size)→(if s.b then s.V f w' (rho a) v else v=undef)→
       wpAny P .any l.toArray (fun e a' w'=>a'.tmps.size=n∧a'.defers=[]∧Q e (rho a') w') fuel (L.setIfInBounds i true) (a.put oi.dst v) w':=by
      intro v w' f hC hf' hV
      have hslot:∀ j',j' < m→j'≠i→∀ t,dstAt l j'=some t→rho (a.put oi.dst v) t=rho a t:=by
       intro j' hj' hne t ht
       refine hfr v t fun h=>hne (hnd j' i t ?_ ?_)
       ·rw [dstAt_take hj']; exact ht
       ·rw [dstAt_take him,hdi]; exact h
      have hnN:∀ b∈blks g (U.getD i []),¬ N b:=fun b hb hn=>by
       rcases hblk b hb with ⟨u,_,huL,hbu⟩ | ⟨_,hbu⟩
       ·rcases (inv.fresh u huL b hbu).1 with h | h
        ·have:=(hN b hn).1; omega
        ·exact (hN b hn).2 h.1
       ·exact (hN b hn).2 (inv.vg b hbu)
      refine ih _ _ _ (fun j=>if j=i then f else if j∈U.getD i [] then [] else g j) hcl hlm (by omega) (by rw [size_put]; exact g1) (by rw [defers_put]; exact g2)
       ⟨inv.chg.then hC fun b hb=>(by
        rcases hblk b hb with ⟨u,_,huL,hbu⟩ | ⟨_,hbu⟩
        ·exact (inv.fresh u huL b hbu).1.elim .inr fun h=>.inl h.1
        ·exact .inl (inv.vg b hbu)),fun hno=>?_,?_,fun j hj=>?_,?_,fun j hj d hdj sj hsj=>?_,?_,?_,?_⟩
      ·have hi0:l.length ∉ U.getD i []:=hno i ((getSet L i i hL.1 hilt).2 (.inl rfl))
       have h0:=inv.chg0 fun k hk=>hno k ((getSet L i k hL.1 hilt).2 (.inr hk))
       refine ⟨h0.1.then hC fun b hb=>?_,?_⟩
       ·rcases hblk b hb with ⟨u,_,huL,hbu⟩ | ⟨h,_⟩
        ·exact (inv.fresh u huL b hbu).1.elim .inr fun ⟨_,k,hk,hkV⟩=>absurd hkV (hno k ((getSet L i k hL.1 hilt).2 (.inr hk)))
        ·exact absurd h hi0
       ·show (if l.length=i then f else if l.length∈U.getD i [] then [] else g l.length)=H
        rw [if_neg (by omega),if_neg hi0]
        exact h0.2
      ·intro b hb
       have hb':b∈(if l.length=i then f else if l.length∈U.getD i [] then [] else g l.length):=hb
       rw [if_neg (by omega)] at hb'
       split at hb'
       ·cases hb'
       ·exact inv.vg b hb'
      ·intro b hb hv
       have hv':b∈(if l.length=i then f else if l.length∈U.getD i [] then [] else g l.length):=hv
       rw [if_neg (by omega)] at hv'
       split at hv'
       ·cases hv'
       ·rename_i hnv
        have hb':b∈(if j=i then f else if j∈U.getD i [] then [] else g j):=hb
        split at hb'
        ·rcases (hf' b hb').1 with h | h
         ·rcases hblk b h with ⟨u,_,huL,hbu⟩ | ⟨h,_⟩
          ·exact inv.vd u huL b hbu hv'
          ·exact hnv h
         ·have h1:=hH b (inv.vg b hv')
          have h2:=inv.chg.size
          omega
        ·rename_i hji
         split at hb'
         ·cases hb'
         ·exact inv.vd j (((getSet L i j hL.1 hilt).1 hj).resolve_left hji) b hb' hv'
      ·intro j hj hal
       refine ⟨fun d hdj=>?_,fun hdn sj hsj hbj=>?_⟩
       rotate_left
       ·by_cases hji:j=i
        ·subst hji
         rw [hs] at hsj
         cases hsj
         rw [if_pos hbj] at hV
         refine ⟨v,?_⟩
         simp only [if_pos]
         exact stable j s hs _ [] w' w' (rho a) _ v (Chg.refl _ _) (fun _ _ h=>nomatch h) (fun _ h=>nomatch h) (fun j' hj' t ht=>hslot j' (by have:=(hanc j j' hj').1; omega) (by have:=(hanc j j' hj').1; omega) t ht) hV
        ·have hj2:=((getSet L i j hL.1 hilt).1 hj).resolve_left hji
         have hju:j ∉ U.getD i []:=hal i ((getSet L i i hL.1 hilt).2 (.inl rfl))
         obtain ⟨x,hx⟩:=(inv.done j hj2 (fun k hk=>hal k ((getSet L i k hL.1 hilt).2 (.inr hk)))).2 hdn sj hsj hbj
         have hg':(fun j=>if j=i then f else if j∈U.getD i [] then [] else g j) j=g j:=by
          show (if j=i then f else if j∈U.getD i [] then [] else g j)=g j
          rw [if_neg hji,if_neg hju]
         rw [hg']
         refine ⟨x,stable j sj hsj _ _ _ _ (rho a) _ _ hC (fun b hb' hbk=>?_) hnN (fun j' hj' t ht=>hslot j' (by have:=(hanc j j' hj').1; have:=hLm j hj2; omega) (fun h=>?_) t ht) hx⟩
         ·rcases hblk b hbk with ⟨u,huU,huL,hbu⟩ | ⟨_,hbu⟩
          ·exact inv.dis j u hj2 huL (fun h=>hju (h ▸ huU)) b hb' hbu
          ·exact inv.vd j hj2 b hb' hbu
         ·subst h
          have:=clAnc L hL j j' (fun o' ho' e' he'=>hL.2 j o' ho' hj2 e' he') hj'
          rw [hiu] at this; cases this
       by_cases hji:j=i
       ·subst hji
        rw [hs]
        simp only [if_pos]
        rw [hdi] at hdj
        rw [hfr2 v d hdj]
        split
        ·rename_i hb
         rw [if_pos hb] at hV
         exact stable j s hs _ [] w' w' (rho a) _ v (Chg.refl _ _) (fun _ _ h=>nomatch h) (fun _ h=>nomatch h) (fun j' hj' t ht=>hslot j' (by have:=(hanc j j' hj').1; omega) (by have:=(hanc j j' hj').1; omega) t ht) hV
        ·rename_i hb
         rw [if_neg hb] at hV
         exact hV
       ·have hj2:=((getSet L i j hL.1 hilt).1 hj).resolve_left hji
        have hjm:=hLm j hj2
        have hju:j ∉ U.getD i []:=hal i ((getSet L i i hL.1 hilt).2 (.inl rfl))
        have hdd:oi.dst≠some d:=by
         intro h
         apply hji
         refine hnd j i d ?_ ?_
         ·rw [dstAt_take hjm]; exact hdj
         ·rw [dstAt_take him,hdi]; exact h
        have:=(inv.done j hj2 (fun k hk=>hal k ((getSet L i k hL.1 hilt).2 (.inr hk)))).1 d hdj
        rw [hfr v d hdd]
        have hg':(fun j=>if j=i then f else if j∈U.getD i [] then [] else g j) j=g j:=by
         show (if j=i then f else if j∈U.getD i [] then [] else g j)=g j
         rw [if_neg hji,if_neg hju]
        rw [hg']
        cases hsj:S[j]? with
        | none=>trivial
        | some sj=>
         rw [hsj] at this
         simp only [] at this ⊢
         split
         ·rename_i hb
          rw [if_pos hb] at this
          refine stable j sj hsj _ _ _ _ (rho a) _ _ hC (fun b hb' hbk=>?_) hnN (fun j' hj' t ht=>hslot j' (by have:=(hanc j j' hj').1; omega) (fun h=>?_) t ht) this
          rotate_left
          ·subst h
           have:=clAnc L hL j j' (fun o' ho' e' he'=>hL.2 j o' ho' hj2 e' he') hj'
           rw [hiu] at this; cases this
          rcases hblk b hbk with ⟨u,huU,huL,hbu⟩ | ⟨_,hbu⟩
          ·exact inv.dis j u hj2 huL (fun h=>hju (h ▸ huU)) b hb' hbu
          ·exact inv.vd j hj2 b hb' hbu
         ·rename_i hb
          rw [if_neg hb] at this
          exact this
      ·by_cases hji:j=i
       ·subst hji
        rw [hs] at hsj
        cases hsj
        rw [hdi] at hdj
        rw [hfr2 v d hdj]
        split
        ·rename_i hb
         rw [if_pos hb] at hV
         exact ⟨f,w',stable j s hs _ [] w' w' (rho a) _ v (Chg.refl _ _) (fun _ _ h=>nomatch h) (fun _ h=>nomatch h) (fun j' hj' t ht=>hslot j' (by have:=(hanc j j' hj').1; omega) (by have:=(hanc j j' hj').1; omega) t ht) hV⟩
        ·rename_i hb
         rw [if_neg hb] at hV
         exact hV
       ·have hj2:=((getSet L i j hL.1 hilt).1 hj).resolve_left hji
        have hjm:=hLm j hj2
        have hdd:oi.dst≠some d:=by
         intro h
         apply hji
         refine hnd j i d ?_ ?_
         ·rw [dstAt_take hjm]; exact hdj
         ·rw [dstAt_take him,hdi]; exact h
        have:=inv.old j hj2 d hdj sj hsj
        rw [hfr v d hdd]
        split
        ·rename_i hb
         rw [if_pos hb] at this
         obtain ⟨f1,w1,h1⟩:=this
         refine ⟨f1,w1,stable j sj hsj _ [] w1 w1 (rho a) _ _ (Chg.refl _ _) (fun _ _ h=>nomatch h) (fun _ h=>nomatch h) (fun j' hj' t ht=>hslot j' (by have:=(hanc j j' hj').1; omega) (fun h=>?_) t ht) h1⟩
         subst h
         have:=clAnc L hL j j' (fun o' ho' e' he'=>hL.2 j o' ho' hj2 e' he') hj'
         rw [hiu] at this; cases this
        ·rename_i hb
         rw [if_neg hb] at this
         exact this
      ·intro t ht
       rw [hfr v t (fun h=>ht i him (by rw [hdi]; exact h))]
       exact inv.other t ht
      ·intro j hj b hb
       by_cases hji:j=i
       ·simp only [if_pos hji] at hb
        have hh:=hf' b hb
        have hsz:=inv.chg.size
        rcases hh.1 with h | h
        ·rcases hblk b h with ⟨u,_,huL,hbu⟩ | ⟨hv,hbu⟩
         ·exact ⟨(inv.fresh u huL b hbu).1.imp (fun h=>h) fun h=>⟨h.1,h.2.imp fun k hk=>⟨(getSet L i k hL.1 hilt).2 (.inr hk.1),hk.2⟩⟩,hh.2⟩
         ·exact ⟨.inr ⟨inv.vg b hbu,i,(getSet L i i hL.1 hilt).2 (.inl rfl),hv⟩,hh.2⟩
        ·exact ⟨.inl (by omega),hh.2⟩
       ·have hj2:=((getSet L i j hL.1 hilt).1 hj).resolve_left hji
        simp only [if_neg hji] at hb
        split at hb
        ·cases hb
        ·have h1:=inv.fresh j hj2 b hb
         have h2:=hC.size
         exact ⟨h1.1.imp (fun h=>h) fun h=>⟨h.1,h.2.imp fun k hk=>⟨(getSet L i k hL.1 hilt).2 (.inr hk.1),hk.2⟩⟩,by omega⟩
      ·have hone:∀ j',(L.setIfInBounds i true).getD j' false=true→j'≠i→∀ b∈f,b ∉ (if j'∈U.getD i [] then [] else g j'):=by
        intro j' hj' e2 b hb hb'
        have hL':=((getSet L i j' hL.1 hilt).1 hj').resolve_left e2
        split at hb'
        ·cases hb'
        ·rename_i hju
         rcases (hf' b hb).1 with h | h
         ·rcases hblk b h with ⟨u,huU,huL,hbu⟩ | ⟨_,hbu⟩
          ·exact inv.dis u j' huL hL' (fun h=>hju (h ▸ huU)) b hbu hb'
          ·exact inv.vd j' hL' b hb' hbu
         ·have:=inv.fresh j' hL' b hb'
          omega
       intro i' j' hi' hj' hne b hb hb'
       by_cases e1:i'=i
       ·have e2:j'≠i:=fun h=>hne (e1.trans h.symm)
        simp only [if_pos e1] at hb
        simp only [if_neg e2] at hb'
        exact hone j' hj' e2 b hb hb'
       ·simp only [if_neg e1] at hb
        by_cases e2:j'=i
        ·simp only [if_pos e2] at hb'
         exact hone i' hi' e1 b hb' hb
        ·simp only [if_neg e2] at hb'
         split at hb
         ·cases hb
         ·split at hb'
          ·cases hb'
          ·exact inv.dis i' j' (((getSet L i i' hL.1 hilt).1 hi').resolve_left e1) (((getSet L i j' hL.1 hilt).1 hj').resolve_left e2) hne b hb hb'
     cases hb:s.b with
     | true=>
      rw [if_pos hb] at ow
      refine .inl ⟨ow.1,OpW_mono ow.2 ?_⟩
      rintro v w' ⟨hC,f,hf',hV⟩
      exact step v w' f hC hf' (by rw [if_pos hb]; exact hV)
     | false=>
      rw [if_neg (by rw [hb]; exact Bool.false_ne_true)] at ow
      exact .inr ⟨ow,step undef w [] (Chg.refl _ _) (fun b h=>nomatch h) (by rw [if_neg (by rw [hb]; exact Bool.false_ne_true)])⟩
    refine ⟨fun h=>(by obtain ⟨i,hi⟩:=hsome; rw [h] at hi; cases hi),fun i hi=>?_⟩
    obtain ⟨q1,oi,hoi,hedge⟩:=rdy L i hi
    have hilt:i < l.length:=(List.getElem?_eq_some_iff.1 hoi).1
    have hiu:L.getD i false=false:=getD_both q1
    have him:i < m:=by
     rcases Nat.lt_or_ge i m with h | h
     ·exact h
     ·have hj:=hbig i h hilt j0 hj0
      have:=clAnc L hL i j0 (fun o' ho'=>by have:o'=oi:=Option.some.inj (ho'.symm.trans hoi); subst this; exact hedge) hj
      rw [hu0] at this; cases this
    unfold wpOp
    rw [show (l.toArray)[i]? = some oi by simpa using hoi]
    simp only []
    rw [yl_eq (by rw [g1]; exact hd)]
    rcases main i oi him hoi hiu hedge with ⟨hw,h⟩ | ⟨hw,h⟩
    ·rw [if_pos hw]
     exact .inl (h.wp fun v w' hv=>hv)
    ·rw [if_neg (by rw [hw]; exact Bool.false_ne_true)]
     exact h
 refine head _ _ a _ (fun j=>if j=l.length then H else []) ⟨by simp,?_⟩ ?_ ?_ h1 h2 ⟨Chg.nil (Chg.drew _ _),fun _=>⟨Chg.drew _ _,by simp⟩,fun b hb=>by simpa using hb,?_,?_,?_,?_,?_,?_⟩
 ·intro j o ho hj
  rw [getD_replicate_false] at hj; cases hj
 ·intro j hj
  rw [getD_replicate_false] at hj; cases hj
 ·simp
 ·intro j hj
  rw [getD_replicate_false] at hj; cases hj
 ·intro j hj
  rw [getD_replicate_false] at hj; cases hj
 ·intro j hj
  rw [getD_replicate_false] at hj; cases hj
 ·intro t _
  rw [h3]
 ·intro j hj
  rw [getD_replicate_false] at hj; cases hj
 ·intro i j hi
  rw [getD_replicate_false] at hi; cases hi
end
end Go.Li
namespace Go.Dk
open Go Go.Li
section
variable {R S:Type} {P:Program} {cx:Cx R} {K:Kont R S} {l tail:List Oper} {base fr:Fr} {w:World} {Z:Nat→Prop}
theorem nil_finq {mt id:Nat} {U:List (List Nat)} {hdl:List Ent} (hU:((List.range mt).all fun i=>(U.getD i []).all fun u=>Nat.beq u l.length || ((ancs l).getD i []).contains u)=true) (hh:hotB l mt base=true) (hd:dstOk cx.n l=true) (hA:anyqB l mt=true) (hml:mt≤l.length) (ht:tail=l.drop mt) {i:Nat} {sl:List (Nat×Nat×Value)} {ms:List MemD} {Γ:List Ent} {m:Option (Out S R)} (hsa:srcA ms=true) (hen:endB U sl ms=true)
  (h:∀ x:Xof ms,D P cx (.p (allF sl (mF ms x)) (allE ms x) base Γ fun fr Γ=>.tg true (hasG tail) l tail K Γ fr m)):semA P cx K l mt U hdl id base (.a [] [] i sl ms Γ m):=by
 rintro ⟨_,h2,h3⟩ B o ho r0 w0 H Z ha hs ⟨S',hl,hR,hO⟩
 have hi:i=mt:=by
  have:=congrArg List.length h2
  simp at this
  omega
 subst hl
 obtain ⟨F,Hd,⟨hHL,hHd,hHlt,hHn⟩,hS,hG⟩:=hs
 refine W_anyqC (N:=Z) (S:=S') (U:=U) (H:=H) hd hA hml hi hHlt hU (fun b hb=>⟨hG.zlt b hb,fun h=>hG.apart b (List.mem_append_left _ h) hb⟩) (fun i s hs=>hR.s i s hs) (fun j hj=>hO j (by omega)) ?_
 intro g r w hI
 have hused:∀ k j,j∈U.getD k []→∀ a∈ms,a.j≠j:=by
  intro k j hj
  unfold endB at hen
  rw [List.getD_eq_getElem?_getD] at hj
  cases hk:U[k]? with
  | none=>rw [hk] at hj; exact absurd hj List.not_mem_nil
  | some us=>
   rw [hk] at hj
   have h1:=List.all_eq_true.1 (List.all_eq_true.1 hen us (List.mem_of_getElem? hk)) j hj
   intro a ha he
   have:=List.all_eq_true.1 h1 a ha
   rw [he,Nat.beq_refl] at this
   cases this
 have hD:∀ j,j < mt→(∀ k,j ∉ U.getD k [])→Done l S' j g r w:=fun j hj hn=>hI.done j hj fun k _=>hn k
 have hlt:∀ a∈ms,a.j < mt:=fun a ha=>hi ▸ hR.lt ha
 obtain ⟨x,hx,hxl,hxn⟩:=pickA (g:=g) (r:=r) (w:=w) hsa hR.d (fun a ha b hb hab=>hI.dis _ _ (hlt a ha) (hlt b hb) hab) fun a ha=>by
  have:=hR.got (S2:=[]) ha (by rw [List.append_nil]; exact hD a.j (hlt a ha) (fun k hk=>hused k _ hk a ha rfl))
  exact this
 have hndHF:=List.nodup_append.1 hG.nd
 have hfr:∀ b∈allB g ms,w0.heap.size≤b∨b∈H:=fun b hb=>by
  obtain ⟨a,h1,h2⟩:=allB_mem hb
  exact (hI.fresh a.j (hlt a h1) b h2).1.imp (fun h=>h) (·.1)
 have hS1:=StX.stay hS hG hI.chg
 obtain ⟨Vo,Vr,hvp,hvl,hxl⟩:=hxl
 obtain ⟨F',hp,hS2⟩:=hxl.build (hS1.mono (fun _ h=>.inl h) fun _ h=>h)
 have hG3:Gd B Z (allB g ms++F) w:=by
  refine ⟨nodup_app hxn hndHF.2.1 fun b hb hF=>(hfr b hb).elim (fun h=>Nat.lt_irrefl _ (Nat.lt_of_lt_of_le (hS.lt b hF) h)) (fun h=>hndHF.2.2 b h b hF rfl),?_,fun b hb=>Nat.lt_of_lt_of_le (hG.zlt b hb) hI.chg.size,?_,hG.zup,hG.zlow,hG.chg.then hI.chg fun b hb=>hG.low b (List.mem_append_left _ hb)⟩
  ·intro b hb hz
   rcases List.mem_append.1 hb with hb | hb
   ·exact (hfr b hb).elim (fun h=>Nat.lt_irrefl _ (Nat.lt_of_lt_of_le (hG.zlt b hz) h)) (fun h=>hG.apart b (List.mem_append_left _ h) hz)
   ·exact hG.apart b (List.mem_append_right _ hb) hz
  ·intro b hb
   rcases List.mem_append.1 hb with hb | hb
   ·exact (hfr b hb).elim (fun h=>.inr (Nat.le_trans hG.chg.size h)) (fun h=>hG.low b (List.mem_append_left _ h))
   ·exact hG.low b (List.mem_append_right _ hb)
 have hagr:agr r ((allF sl (mF ms x)).reverse++base):=by
  refine agr_rev (allF_all (fun p hp=>?_) hx) (agr_base hh ha hI.other)
  exact hR.see (S2:=[]) hp fun j _ hj=>(by rw [List.append_nil]; exact hI.old j (hi ▸ hj))
 have:=(h x).sound B o ho r w hagr ⟨_,F',hS2,((hG3.perm (perm_vr hvp)).freeze hvl).perm hp⟩
 rw [ht] at this
 exact this
theorem anyqH {id:Nat} (hd:List Ent) (mt:Nat) (U as:List (List Nat)) {ops:List Oper} {Γ Γ1:List Ent} {fr:Fr} {m:Option (Out S R)}
  (hB:(P.follows .mixedOrders && dstOk cx.n l && anyqB l mt && Nat.ble mt l.length && (visl l U mt == as) && ((List.range mt).all fun i=>(U.getD i []).all fun u=>Nat.beq u l.length || ((ancs l).getD i []).contains u))=true)
  (ho:ops=l.take mt) (ht:tail=l.drop mt) (hf:Kp (dsts ops) none fr base) (hh:hotB l mt base=true) (he:EO Γ hd Γ1) (how:OW Γ hd)
  (h:AD true P cx K l tail base U hd (.a as ops 0 [] [] Γ1 m)):Bx (sem P cx (.dr id l K Γ fr m)):=by
 simp only [Bool.and_eq_true] at hB
 obtain ⟨⟨⟨⟨⟨b1,b2⟩,b3⟩,b5⟩,b6⟩,b7⟩:=hB
 rw [bx_eq]
 intro B o hm r w ha hs
 obtain ⟨Z,F,hS,hG⟩:=hs
 obtain ⟨Fd,F',h1,h2,h3⟩:=he.sound hS
 have hSd:SA Z w hd [] Fd:=by
  have:=(HO.hl how hS h1).front (Γ:=[]) (F:=[]) rfl
  simpa using this
 have hX:StX B Z hd Γ1 Fd w:=⟨F',Fd,⟨hSd,fun b hb=>⟨hb,hSd.lt b hb⟩,hSd.lt,(List.nodup_append.1 (hG.perm h3).nd).1⟩,h2,hG.perm h3⟩
 refine AnyW.W b1 ?_
 refine AD.sound (id:=id) hh (fun _ _ _ _ _ _ hs he h=>nil_finq b7 hh b2 b3 (Nat.le_of_ble_eq_true b5) ht hs he h) h
  ⟨by rw [List.drop_zero]; exact (eq_of_beq b6).symm,by rw [List.drop_zero]; exact ho,Nat.zero_le _⟩ B o hm r w Fd Z (hf.sound ha) hX ⟨[],rfl,⟨fun _ h=>absurd h List.not_mem_nil,fun _ h=>absurd h List.not_mem_nil,fun i s h=>by simp at h,List.nodup_nil,fun _ _ _ h1 h2=>ancs_trans l (anyqB_back b3) h1 h2⟩,fun j hj=>absurd hj (Nat.not_lt_zero j)⟩
theorem anyq {id:Nat} (mt:Nat) (U as:List (List Nat)) {ops:List Oper} {Γ:List Ent} {fr:Fr} {m:Option (Out S R)}
  (hB:(P.follows .mixedOrders && dstOk cx.n l && anyqB l mt && Nat.ble mt l.length && (visl l U mt == as) && ((List.range mt).all fun i=>(U.getD i []).all fun u=>Nat.beq u l.length || ((ancs l).getD i []).contains u))=true)
  (ho:ops=l.take mt) (ht:tail=l.drop mt) (hf:Kp (dsts ops) none fr base) (hh:hotB l mt base=true)
  (h:AD true P cx K l tail base U [] (.a as ops 0 [] [] Γ m)):Bx (sem P cx (.dr id l K Γ fr m)):=anyqH [] mt U as hB ho ht hf hh .nil .nil h
end
end Go.Dk
namespace Go.Dk
open Go Go.Li
def blk:Value→Option Nat
 | .slice (some a) _ _=>some a.block
 | _=>none
def NF {α:Type} (E:STy α):Prop:=∀ {h:Array Obj} {cs:List Value} {x:α} {f:List Nat},E.rep h cs x f→f=[]
theorem NF.i {k:IntKind}:NF (aC k):=sInt_nofp
theorem NF.l {α:Type} {E:STy α} (hE:NF E) {h:Array Obj}:∀ {xs:List α} {cs:List Value} {f:List Nat},repL E h cs xs f→f=[]:=by
 intro xs
 induction xs with
 | nil=>rintro cs f ⟨_,rfl⟩; rfl
 | cons x xs ih=>
  rintro cs f ⟨c,cs',f1,f2,rfl,rfl,h1,h2⟩
  rw [hE h1,ih h2]; rfl
structure Good {α:Type} (A:Value→α→Prop) (f:List Nat):Prop where
 sub:∀ u y b,A u y→blk u=some b→b∈f
 one:∀ u y u' y' b,A u y→A u' y'→blk u=some b→blk u'=some b→y=y'
inductive Opn {α:Type}:{β:Type}→STy β→((Value→List α→Prop)→STy β)→Prop
 | row {e:TypeId} {E:STy α}:Opn (aK e E) (fun A=>sIn A (aK e E))
 | step {β:Type} {e:TypeId} {T:STy β} {T':(Value→List α→Prop)→STy β} (h:Opn T T'):Opn (aK e T) (fun A=>aE (T' A))
section
variable {α β:Type} {T:STy β} {T':(Value→List α→Prop)→STy β} {A A':Value→List α→Prop} {f:List Nat} {hp:Array Obj}
theorem Opn.size (h:Opn T T'):(T' A).size=T.size:=by
 cases h <;> rfl
theorem Opn.mono (h:Opn T T') (hA:∀ u y,A u y→A' u y):Le (T' A) (T' A'):=by
 induction h with
 | row=>exact ⟨rfl,fun h=>⟨h.1.imp fun v g=>⟨g.1,hA _ _ g.2⟩,h.2⟩⟩
 | step _ ih=>exact ih.imm
theorem Opn.openL {e:TypeId} (ho:∀ {cs:List Value} {x:β} {f:List Nat},T.rep hp cs x f→f.Nodup→∃ A,Good A f∧(T' A).rep hp cs x f) (hm:∀ {A A':Value→List α→Prop},(∀ u y,A u y→A' u y)→Le (T' A) (T' A')) :
  ∀ {xs:List β} {cs:List Value} {f:List Nat},repL T hp cs xs f→f.Nodup→∃ A,Good A f∧repL (T' A) hp cs xs f:=by
 have _:=e
 intro xs
 induction xs with
 | nil=>rintro cs f ⟨rfl,rfl⟩ _; exact ⟨fun _ _=>False,⟨fun _ _ _ h=>h.elim,fun _ _ _ _ _ h=>h.elim⟩,rfl,rfl⟩
 | cons x xs ih=>
  rintro cs f ⟨c,cs',f1,f2,rfl,rfl,h1,h2⟩ hn
  obtain ⟨n1,n2,n3⟩:=List.nodup_append.1 hn
  obtain ⟨A1,g1,r1⟩:=ho h1 n1
  obtain ⟨A2,g2,r2⟩:=ih h2 n2
  refine ⟨fun u y=>A1 u y∨A2 u y,⟨fun u y b h hb=>?_,fun u y u' y' b h h' hb hb'=>?_⟩,c,cs',f1,f2,rfl,rfl,(hm fun _ _=>.inl).le r1,repL_le (hm fun _ _=>.inr) r2⟩
  ·exact h.elim (fun h=>List.mem_append_left _ (g1.sub u y b h hb)) (fun h=>List.mem_append_right _ (g2.sub u y b h hb))
  ·rcases h with h | h <;> rcases h' with h' | h'
   ·exact g1.one u y u' y' b h h' hb hb'
   ·exact absurd rfl (n3 b (g1.sub _ _ _ h hb) b (g2.sub _ _ _ h' hb'))
   ·exact absurd rfl (n3 b (g1.sub _ _ _ h' hb') b (g2.sub _ _ _ h hb))
   ·exact g2.one u y u' y' b h h' hb hb'
theorem Opn.opened (h:Opn T T'):∀ {cs:List Value} {x:β} {f:List Nat},T.rep hp cs x f→f.Nodup→∃ A,Good A f∧(T' A).rep hp cs x f:=by
 induction h with
 | @row e E=>
  intro cs x f hr _
  obtain ⟨base,cap,rfl,hr'⟩:=id hr
  refine ⟨fun u y=>u = .slice base x.length cap∧y=x,⟨?_,?_⟩,⟨_,rfl,rfl,rfl⟩,hr⟩
  ·rintro u y b ⟨rfl,rfl⟩ hb
   rcases hr' with ⟨rfl,_⟩ | ⟨b0,cur,f',rfl,_,rfl,_⟩
   ·cases hb
   ·cases hb; exact List.mem_cons_self
  ·rintro u y u' y' b ⟨_,rfl⟩ ⟨_,rfl⟩ _ _; rfl
 | @step β e T T' ho ih=>
  intro cs x f hr hn
  obtain ⟨base,cap,rfl,hr'⟩:=hr
  rcases hr' with ⟨rfl,_,rfl,rfl⟩ | ⟨b,cur,f',rfl,hg,rfl,h3,h4,h5,h6⟩
  ·exact ⟨fun _ _=>False,⟨fun _ _ _ h=>h.elim,fun _ _ _ _ _ h=>h.elim⟩,none,cap,rfl,.inl ⟨rfl,rfl⟩⟩
  ·obtain ⟨A,g1,g2⟩:=Opn.openL (e:=e) ih (fun hA=>ho.mono hA) h6 (List.nodup_cons.1 hn).2
   refine ⟨A,⟨fun u y b h hb=>List.mem_cons_of_mem _ (g1.sub u y b h hb),g1.one⟩,_,cap,rfl,.inr ⟨b,0,cur,e,(0,0),f',rfl,hg,rfl,?_⟩⟩
   rw [List.drop_zero,ho.size]
   exact g2
end
section
variable {α:Type} {e e':TypeId} {E:STy α} {A:Value→List α→Prop} {ft f:List Nat} {hp:Array Obj}
theorem close_rows (nf:NF E) (hA:Good A ft):∀ {ys:List (List α)} {us:List Value} {g:List Nat},repL (sIn A (aK e' E)) hp us ys g→ys.Nodup→
  repL (aK e' E) hp us ys g∧g.Nodup∧∀ b∈g,b∈ft∧∃ u y,A u y∧blk u=some b∧y∈ys:=by
 intro ys
 induction ys with
 | nil=>rintro us g ⟨rfl,rfl⟩ _; exact ⟨⟨rfl,rfl⟩,List.nodup_nil,fun b hb=>absurd hb List.not_mem_nil⟩
 | cons y ys ih=>
  rintro us g ⟨c,cs',g1,g2,rfl,rfl,⟨⟨u,rfl,hu⟩,hr⟩,h2⟩ hn
  obtain ⟨n1,n2⟩:=List.nodup_cons.1 hn
  obtain ⟨a1,a2,a3⟩:=ih h2 n2
  refine ⟨⟨[u],cs',g1,g2,rfl,rfl,hr,a1⟩,?_,?_⟩
  ·obtain ⟨base,cap,hv,hr'⟩:=hr
   obtain rfl:u = .slice base y.length cap:=by simpa using hv
   rcases hr' with ⟨_,_,_,rfl⟩ | ⟨b,cur,f',rfl,_,rfl,_,_,_,h6⟩
   ·exact a2
   ·rw [nf.l h6]
    refine List.nodup_cons.2 ⟨fun hb=>?_,a2⟩
    obtain ⟨_,u',y',h7,h8,h9⟩:=a3 b hb
    rw [hA.one _ _ _ _ b hu h7 rfl h8] at n1
    exact n1 h9
  ·intro b hb
   rcases List.mem_append.1 hb with hb | hb
   ·obtain ⟨base,cap,hv,hr'⟩:=hr
    obtain rfl:u = .slice base y.length cap:=by simpa using hv
    rcases hr' with ⟨_,_,_,rfl⟩ | ⟨b0,cur,f',rfl,_,rfl,_,_,_,h6⟩
    ·cases hb
    ·rw [nf.l h6,List.mem_singleton] at hb
     subst hb
     exact ⟨hA.sub _ _ _ hu rfl,_,y,hu,rfl,by simp⟩
   ·obtain ⟨b1,u',y',b2,b3,b4⟩:=a3 b hb
    exact ⟨b1,u',y',b2,b3,by simp [b4]⟩
theorem close_own {Z:Nat→Prop} {w:World} {v:Value} {ys:List (List α)} (nf:NF E) (hA:Good A ft) (ho:owns Z w f (.om e (sIn A (aK e' E)) v ys)) (hn:ys.Nodup) (hf:f.Nodup) (hz:∀ b∈f,¬ Z b) :
  ∃ g,(∀ b∈g,b∈ft)∧(aK e (aK e' E)).rep w.heap [v] ys (f++g)∧(f++g).Nodup:=by
 obtain ⟨us,g,h1,h2,h3,_⟩:=ho
 obtain ⟨a1,a2,a3⟩:=close_rows nf hA h2 hn
 have hl:us.length=ys.length:=by have:=repL_len a1; rw [this]; exact Nat.mul_one _
 refine ⟨g,fun b hb=>(a3 b hb).1,?_,List.nodup_append.2 ⟨hf,a2,fun b hb c hc=>fun e=>hz b hb (h3 b (e ▸ hc))⟩⟩
 obtain ⟨base,cap,hv,hr⟩:=h1
 obtain rfl:v = .slice base us.length cap:=by simpa using hv
 rw [hl]
 rcases hr with ⟨rfl,rfl,rfl,rfl⟩ | ⟨b,cur,f',rfl,hg,rfl,c1,c2,c3,c4⟩
 ·cases ys with
  | cons y ys=>simp at hl
  | nil=>obtain ⟨_,rfl⟩:=a1; exact ⟨none,0,rfl,.inl ⟨rfl,rfl,rfl,rfl⟩⟩
 ·obtain ⟨c5,rfl⟩:=repL_val c4
  refine ⟨_,cap,rfl,.inr ⟨b,cur,g,rfl,hg,rfl,by rw [← hl]; exact c1,c2,c3,?_⟩⟩
  have e1:(aK e' E).size=sVal.size:=rfl
  rw [e1,← hl,c5]
  exact a1
end
section
variable {P:Program} {R:Type} {cx:Cx R}
theorem loopM {S S1 α β:Type} [DecidableEq (List α)] (k t0:Nat) (φ:S1→Value→Fr) (sel:S1→List (List α)) (v0:Value) (f2:Fr) {e e':TypeId} {E:STy α} {T:STy β} {T':(Value→List α→Prop)→STy β} {vs:Value} {x:β} {its:List KI} {kb:Kb R S} {c:Code} {s0:S1} {body:S1→Option (Out S1 R)} {f:S1→Option (Out S R)} {Γ Γ1 Γ2:List Ent} {fr:Fr}
  (ho:Opn T T') (nf:NF E) (ha:Agr fr (φ s0 v0)) (hf:Agr fr f2) (hz:sel s0=[]) (hv:look fr t0=some vs) (h1:Sel Γ (.own T vs x) Γ1) (h2:∀ A:Value→List α→Prop,Sel Γ1 (.om e (sIn A (aK e' E)) v0 []) Γ2)
  (hb:∀ (A:Value→List α→Prop) s v,D P cx (.p (φ s v) [.om e (sIn A (aK e' E)) v (sel s)] f2 [.rd false (T' A) vs x] fun fr Γ=>.c ⟨[],.loop Value k (fun s v=>[.om e (sIn A (aK e' E)) v (sel s)]) φ [.rd false (T' A) vs x] f2⟩ c Γ fr (body s)))
  (hk:∀ s v,D P cx (.p (φ s v) [.own (aK e (aK e' E)) v (sel s)] f2 [] fun fr Γ=>.mn ⟨its,kb⟩ Γ fr (f s))) :
  Bx (sem P cx (.bk true k ⟨its,kb⟩ (.loop c) Γ fr (lbind (blockM k (loopM body s0)) fun s=>ndR (sel s)>>=fun _=>f s))):=by
 have _:=hv
 rw [bx_eq]
 intro B o hoo r w hag hst
 obtain ⟨Z,F,hS,hG⟩:=hst
 obtain ⟨ft,F1,hp1,hT,hS1⟩:=h1.sound hS
 have hG1:=hG.perm hp1
 obtain ⟨n1,n2,n3⟩:=List.nodup_append.1 hG1.nd
 obtain ⟨A,hA,hR⟩:=ho.opened (hp:=w.heap) hT n1
 obtain ⟨fo,F2,hp2,hO,hS2⟩:=(h2 A).sound hS1
 have hfl:∀ b∈ft,b < w.heap.size:=STy.lt _ hT
 have hfz:∀ b∈ft,¬ Z b:=fun b hb=>hG1.apart b (List.mem_append_left _ hb)
 have hm1:∀ b∈fo,b∈F1:=fun b hb=>hp2.mem_iff.1 (List.mem_append_left _ hb)
 have hno:fo.Nodup:=(List.nodup_append.1 (hp2.nodup_iff.2 n2)).1
 refine W_for (T:=TT P cx B) (LI B (fun s v=>[.om e (sIn A (aK e' E)) v (sel s)]) φ [.rd false (T' A) vs x] f2) hoo
  ⟨v0,agr_rev (ha.all hag) (hf.sound hag),fun b=>Z b∨b∈ft,fo,⟨fo,[],(List.append_nil _).symm,by rw [hz]; exact hO.mono fun _=>.inl,⟨ft,hR,fun b hb=>.inr hb⟩,rfl⟩,hno,fun b hb=>?_,fun b hb=>hb.elim (hG.zlt b) (hfl b),fun b hb=>hG1.low b (List.mem_append_right _ (hm1 b hb)),fun b h=>.inl (hG.zup b h),fun b hb=>hb.elim (hG.zlow b) fun hb=>.inr (hG1.low b (List.mem_append_left _ hb)),hG.chg⟩ ?_ ?_ ?_
 ·rintro (h | h)
  ·exact hG1.apart b (List.mem_append_right _ (hm1 b hb)) h
  ·exact n3 b h b (hm1 b hb) rfl
 ·intro x r w he hx
  subst he
  exact postK_ret hx
 ·rintro s r w ⟨v,h1,h2⟩ o ho
  exact (hb A s v).sound B o ho r w h1 h2
 ·rintro s r w' ⟨v,a1,Z2,Fl,hS',hG'⟩ hm
  obtain ⟨_,hn,hm⟩:=bind_some hm
  replace hn:=ndR_some hn
  obtain ⟨f',F',rfl,hom,hrest⟩:=hS'
  have hF':F'=[]:=hrest.2
  subst hF'
  rw [List.append_nil] at hG'
  obtain ⟨g,s1,s2,s3⟩:=close_own nf hA hom hn hG'.nd hG'.apart
  refine (hk s v).sound B o hm r w' a1 ⟨B.Z,f'++g,⟨f'++g,[],(List.append_nil _).symm,s2,rfl⟩,s3,fun b hb hz=>?_,fun b hz=>hG'.zlt b (hG'.zup b hz),fun b hb=>?_,fun _ h=>h,fun _ h=>.inl h,hG'.chg⟩
  ·rcases List.mem_append.1 hb with hb | hb
   ·exact hG'.apart b hb (hG'.zup b hz)
   ·exact hfz b (s1 b hb) (hG.zup b hz)
  ·rcases List.mem_append.1 hb with hb | hb
   ·exact hG'.low b hb
   ·exact hG1.low b (List.mem_append_left _ (s1 b hb))
end
end Go.Dk
namespace Go.Dk
open Go Go.Li
section
variable {R:Type} {P:Program} {cx:Cx R} {B:Bs} {M:Type} {all l:List Oper} {rk:RK R M} {fr:Fr} {w:World} {Z:Nat→Prop} {F cur:List Nat} {Γ Γ1 Γ2 Γ3:List Ent}
theorem D.of {J:Jd R} (h:sem P cx J):D P cx J:=.inj (by rw [bx_eq]; exact h)
theorem hl_rd {Δ : List Ent} (h : FO Δ) : ∀ {Fd : List Nat}, HL Z w Δ Fd → ∀ e ∈ Δ, fact Z w [] e := by
  induction h with
  | nil => intro Fd _ e he; cases he
  | rd _ ih =>
    intro Fd hl e he
    cases hl with
    | own h _ => exact h.elim
    | fact h k => rcases List.mem_cons.1 he with rfl | he
                  · exact h
                  · exact ih k e he
  | ats _ ih =>
    intro Fd hl e he
    cases hl with
    | own h _ => exact h.elim
    | fact h k => rcases List.mem_cons.1 he with rfl | he
                  · exact h
                  · exact ih k e he
theorem lgS {α:Type} (S:STy α) {d:Nat} {t e n bt ty:TypeId} {m:Option M} [ht:SBc P t e n bt]
  (h:∀ v,D P cx (.o false all l rk (.own (aK e (sCel n)) v [] :: .rd false (sGh S) (.bool true) ([],[]) :: Γ) ((d,v) :: fr) m)):D P cx (.e false (.buildSlice t 0 #[]) (some d) ty all l rk Γ fr m):=by
 refine D.of ?_
 intro B o ho r w ha hs pos aft g
 obtain ⟨h1,i,z,h2,_⟩:=ht.h
 obtain ⟨v,w',f,hr,hC,hO⟩:=own_lit0 (E:=sCel n) (r:=r) (w:=w) (d:=some d) (ty:=ty) (pos:=pos) (aft:=aft) (g:=none) h1 h2
 refine erun_wl (WL.val rfl hr ((h v).sound B o ho _ w' (agr_cons ha) ?_))
 obtain ⟨Z,F,hS,hg⟩:=hs
 have hf:fact Z w [] (.rd false (sGh S) (.bool true) ([],[])):=⟨[],⟨rfl,rfl,fun _ h=>absurd h List.not_mem_nil⟩,fun _ h=>absurd h List.not_mem_nil⟩
 exact St.put (f:=[]) (SA.fact hS hf) hg hC hO.1 hO.2.1 fun b hb=>.inr ((hO.2.2 b hb).resolve_left List.not_mem_nil)
theorem lnS {α:Type} {S:STy α} {q:Bool} {d n e:Nat} {x:Operand} {v:Value} {us:List (List Value)} {xs:List α} {t ty bt:TypeId} {m:Option M} [ht:SBc P t e n bt] (hx:opv fr x=some v) (h1:Sel Γ (.own (aK e (sCel n)) v us) Γ1) (hg:In (.rd false (sGh S) (.bool true) (us,xs)) Γ)
  (h:D P cx (.o q all l rk Γ ((d,.int .i64 (xs.length:Int)) :: fr) m)):D P cx (.e q (.call ⟨.builtin .len,#[x],#[t]⟩) (some d) ty all l rk Γ fr m):=by
 refine D.of ?_
 intro B o ho r w ha hs pos aft g
 obtain ⟨q1,_⟩:=ht.h
 obtain ⟨Z,F,hS,hG⟩:=@_root_.id _ hs
 obtain ⟨f,F1,_,hO,_⟩:=h1.sound hS
 obtain ⟨k,hk,_⟩:=hg.rd hS []
 obtain ⟨base,cap,hv,_⟩:=hO
 obtain rfl:v = .slice base us.length cap:=by simpa using hv
 have hl:us.length=xs.length:=gl_len hk.2.1
 exact erun_of (v:=.int .i64 (xs.length:Int)) (fun w' _=>by rw [← hl]; exact op_len q1 (aU ha hx)) (h.sound B o ho _ w (agr_cons ha) hs)
theorem ixS {α V:Type} {S:STy α} {cl:α→V→List Value} {en:α→V→List Ent} {q:Bool} {d n e:Nat} {x y:Operand} {v:Value} {us:List (List Value)} {xs:List α} {k:IntKind} {j:Int} {t ty bt:TypeId} {f:α→Option M} [ht:SBc P t e n bt] (hx:opv fr x=some v) (hy:opv fr y=some (.int k j))
  (h1:Sel Γ (.own (aK e (sCel n)) v us) Γ1) (hg:In (.rd false (sGh S) (.bool true) (us,xs)) Γ) (hs:SOc S V cl en)
  (h:∀ z u,D P cx (.p [] (.rd false (sPu us j) (.bool true) (cl z u) :: en z u) fr Γ fun fr Γ=>.o q all l rk Γ ((d,.pointer (some (elA v n j))) :: fr) (f z))):D P cx (.e q (.indexAddr t x y) (some d) ty all l rk Γ fr (idx xs j>>=f)):=by
 refine D.of ?_
 intro B o ho r w ha hs' pos aft g
 replace hs:SO S V cl en:=by cases hs; assumption
 obtain ⟨z,hz,ho⟩:=bind_some ho
 replace hz:=idx_some hz
 obtain ⟨q1,i,_,q2,_,_,q3,_⟩:=ht.h
 obtain ⟨Z,F,hS,hG⟩:=hs'
 obtain ⟨f0,F1,_,hO,_⟩:=h1.sound hS
 obtain ⟨g0,hk,hgz⟩:=hg.rd hS []
 obtain ⟨c,g1,e1,e2,e3⟩:=gl_get j.toNat hk.2.1 hz.2
 obtain ⟨u,rfl,hen⟩:=hs.op e2
 have hlen:us.length=xs.length:=gl_len hk.2.1
 have hlt:j.toNat < xs.length:=(List.getElem?_eq_some_iff.1 hz.2).1
 have hv:∃ a c,v = .slice (some a) us.length c:=by
  obtain ⟨base,cap,hv,hr⟩:=hO
  obtain rfl:v = .slice base us.length cap:=by simpa using hv
  rcases hr with ⟨_,_,rfl,_⟩ | ⟨b,cur,f',rfl,_⟩
  ·rw [← hlen] at hlt; simp at hlt
  ·exact ⟨_,_,rfl⟩
 obtain ⟨a,c',rfl⟩:=hv
 have hall:HL Z w (.rd false (sPu us j) (.bool true) (cl z u) :: en z u) []:=.fact ⟨[],⟨rfl,⟨hz.1,e1⟩,rfl⟩,fun _ h=>absurd h List.not_mem_nil⟩ (hl_facts (hen Z fun b hb=>hgz b (e3 b hb)))
 obtain ⟨F',hp,hS2⟩:=hall.build hS
 refine erun_of (v:=.pointer (some (elA (.slice (some a) us.length c') n j))) (fun w' hC=>?_) ((h z u).sound B o ho _ w (agr_cons ha) ⟨Z,F',hS2,hG.perm (by simpa using hp)⟩)
 rw [op_indexAddr q1 q2 (aU ha hx) (aU ha hy) hz.1 (by omega),q3]
 rfl
theorem laS {q:Bool} {d n off e:Nat} {x:Operand} {v u:Value} {us:List (List Value)} {j:Int} {cs:List Value} {ty:TypeId} {m:Option M} (h1:Sel Γ (.own (aK e (sCel n)) v us) Γ1) (hp:In (.rd false (sPu us j) (.bool true) cs) Γ) (hc:cs[off]? = some u)
  (k:D P cx (.o q all l rk Γ ((d,u) :: fr) m)):D P cx (.la ((elA v n j).add off) none q ty x d all l rk Γ fr m):=by
 refine D.of ?_
 intro ht hx B o ho r w ha hs t pos aft g
 obtain ⟨Z,F,hS,_⟩:=@_root_.id _ hs
 obtain ⟨f,F1,_,hO,_⟩:=h1.sound hS
 obtain ⟨_,⟨_,⟨hj,hu⟩,_⟩,_⟩:=hp.rd hS []
 exact erun_of (Ld ht ((cel_cells hO hj hu).2.2 off u hc) (aU ha hx)) (k.sound B o ho _ w (agr_cons ha) hs)
theorem laS0 {q:Bool} {d n e:Nat} {x:Operand} {v u:Value} {us:List (List Value)} {j:Int} {cs:List Value} {ty:TypeId} {m:Option M} (h1:Sel Γ (.own (aK e (sCel n)) v us) Γ1) (hp:In (.rd false (sPu us j) (.bool true) cs) Γ) (hc:cs[0]? = some u)
  (k:D P cx (.o q all l rk Γ ((d,u) :: fr) m)):D P cx (.la (elA v n j) none q ty x d all l rk Γ fr m):=by
 have e:(elA v n j).add 0=elA v n j:=rfl
 rw [← e]
 exact laS h1 hp hc k
theorem lsS {q:Bool} {d n e:Nat} {x:Operand} {v:Value} {us:List (List Value)} {j:Int} {cs:List Value} {ty:TypeId} {m:Option M} (h1:Sel Γ (.own (aK e (sCel n)) v us) Γ1) (hp:In (.rd false (sPu us j) (.bool true) cs) Γ)
  (k:D P cx (.o q all l rk Γ ((d,.agg cs.toArray) :: fr) m)):D P cx (.la (elA v n j) (some n) q ty x d all l rk Γ fr m):=by
 refine D.of ?_
 intro ht hx B o ho r w ha hs t pos aft g
 obtain ⟨Z,F,hS,_⟩:=@_root_.id _ hs
 obtain ⟨f,F1,_,hO,_⟩:=h1.sound hS
 obtain ⟨_,⟨_,⟨hj,hu⟩,_⟩,_⟩:=hp.rd hS []
 obtain ⟨e1,_,e3⟩:=cel_cells hO hj hu
 exact erun_of (Lg ht (fun i u hi=>e3 i u hi) (aU ha hx) e1) (k.sound B o ho _ w (agr_cons ha) hs)
theorem apS {α V:Type} {S:STy α} {cl:α→V→List Value} {en:α→V→List Ent} (y:α) {u:V} {d b n e bt:Nat} {s x:Operand} {sv:Value} {us:List (List Value)} {xs:List α} {cs:List Value} {t et ty:TypeId} {f:Unit→Option M} [ht:SBc P t e n bt]
  (hs:opv fr s=some sv) (hx:opv fr x=some (.slice (some ⟨b,0,none⟩) 1 1)) (h0:Sel Γ (.row b cs et) Γ1) (h1:Sel Γ1 (.own (aK e (sCel n)) sv us) Γ2) (hg:In (.rd false (sGh S) (.bool true) (us,xs)) Γ2) (hso:SOc S V cl en) (_hv:MkV V u) (hc:cs=cl y u) (ho:Ones Γ cs) (hn:cs.length=n) (hfo:FO (en y u)) (hf:EF Γ2 (en y u) Γ3)
  (h:∀ v,D P cx (.o false all l rk (.own (aK e (sCel n)) v (us++[cs]) :: .rd false (sGh S) (.bool true) (us++[cs],xs++[y]) :: Γ3) ((d,v) :: fr) (f ()))):D P cx (.e false (.call ⟨.builtin .append,#[s,x],#[t,t]⟩) (some d) ty all l rk Γ fr (fits bt (xs.length+1)>>=f)):=by
 refine D.of ?_
 intro B o ho' r w ha hs' pos aft g
 have hso':SO S V cl en:=by cases hso; assumption
 obtain ⟨_,hu,ho'⟩:=bind_some ho'
 obtain ⟨b1,b2⟩:=fits_some hu
 obtain ⟨q1,i,z,q2,q3,q4,q5,q6,_⟩:=ht.h
 obtain ⟨Z,F,hS,hG⟩:=hs'
 have hones:=ho.one hS
 obtain ⟨n0,F0,hp0,⟨rfl,hrow⟩,hS0⟩:=h0.sound hS
 obtain ⟨k,F1,hp,hO,hS1⟩:=h1.sound hS0
 obtain ⟨Fd,F2,Zn,hhl,hS2,hp2⟩:=hf.sound hS1
 obtain ⟨g0,hk,hgz⟩:=hg.rd hS1 []
 have hlen:us.length=xs.length:=gl_len hk.2.1
 have hperm:((k++F1)++[b]).Perm F:=(List.perm_append_comm.trans (hp.append_left [b])).trans hp0
 have hG':Gd B Z (k++F1) w:=Gd.left (F':=[b]) (hG.perm hperm)
 have hpp:((k++F2)++(Fd++Zn)).Perm (k++F1):=by
  rw [List.append_assoc]
  refine List.Perm.append_left k (.trans ?_ hp2)
  rw [← List.append_assoc]
  exact (List.perm_append_comm (l₁:=F2) (l₂:=Fd)).append_right Zn
 have hG2:Gd B Z ((k++F2)++(Fd++Zn)) w:=hG'.perm hpp
 have hlt:∀ b∈Fd++Zn,b < w.heap.size:=fun b hb=>by
  have h3:b∈k++F1:=hpp.mem_iff.1 (List.mem_append_right _ hb)
  rcases List.mem_append.1 h3 with h3 | h3
  ·exact STy.lt _ hO b h3
  ·exact hS1.lt b h3
 have hG3:Gd B (orZ Z (Fd++Zn)) (k++F2) w:=hG2.freeze hlt
 have hmono:∀ b,orZ Z Zn b→orZ Z (Fd++Zn) b:=fun b hb=>hb.imp id fun h=>List.mem_append_right _ h
 obtain ⟨g1,hr1,hz1⟩:=hso'.cl (x:=y) (v:=u) (Z:=orZ Z (Fd++Zn)) (w:=w) (hl_rd hfo (hhl.mono hmono))
 have hdk:Dis [] k:=fun _ h=>absurd h List.not_mem_nil
 have hE:repL (sCel n) w.heap cs [cs] []:=⟨cs,[],[],[],by simp,by simp,⟨rfl,hn,hones,rfl⟩,rfl,rfl⟩
 obtain ⟨v,w',f',hrun,hC,hrep,hsub,hnd⟩:=own_append (E:=sCel n) (d:=some d) (ty:=ty) (pos:=pos) (aft:=aft) (g:=none) (k:=[]) (ys:=[cs]) (news:=cs) q1 q2 q3 (by rw [q5]; rfl) (by rw [q4]; rfl) (aU ha hs) hO (List.nodup_append.1 hG'.nd).1 (aU ha hx) (fun i u hi=>hrow.at i u hi) hE hdk (by simp) (by rw [q6,hlen]; exact b1) (by rw [hlen]; exact b2)
 refine erun_wl (WL.val rfl hrun ((h v).sound B o ho' _ w' (agr_cons ha) ?_))
 have hgh:fact (orZ Z (Fd++Zn)) w [] (.rd false (sGh S) (.bool true) (us++[cs],xs++[y])):=by
  rw [hc]
  refine ⟨g0++g1,⟨rfl,gl_app hr1 hk.2.1,fun b hb=>?_⟩,fun b hb=>?_⟩
  ·rcases List.mem_append.1 hb with hb | hb
   ·exact hk.2.2 b hb
   ·exact S.lt hr1 b hb
  ·rcases List.mem_append.1 hb with hb | hb
   ·exact .inl (hgz b hb)
   ·exact hz1 b hb
 exact St.put (SA.fact (hS2.mono hmono fun _ h=>h) hgh) hG3 hC hrep (hnd List.nodup_nil) fun b hb=>(hsub b hb).imp id fun h=>h.resolve_left List.not_mem_nil
theorem cel_all {n:Nat} {h:Array Obj}:∀ {us:List (List Value)} {cs:List Value} {f:List Nat},repL (sCel n) h cs us f→∀ c∈us,c.length=n∧∀ v∈c,v.oneCell'=true:=by
 intro us
 induction us with
 | nil=>intro cs f _ c hc; cases hc
 | cons a us ih=>
  rintro cs f ⟨c',cs',f1,f2,rfl,rfl,⟨rfl,h1,h2,rfl⟩,h3⟩ c hc
  rcases List.mem_cons.1 hc with rfl | hc
  ·exact ⟨h1,h2⟩
  ·exact ih h3 c hc
theorem cel_rep {n:Nat} {h:Array Obj}:∀ {us:List (List Value)},(∀ c∈us,c.length=n∧∀ v∈c,v.oneCell'=true)→repL (sCel n) h us.flatten us []:=by
 intro us
 induction us with
 | nil=>intro _; exact ⟨rfl,rfl⟩
 | cons a us ih=>
  intro hc
  have h1:=hc a (by simp)
  exact ⟨a,us.flatten,[],[],by simp,rfl,⟨rfl,h1.1,h1.2,rfl⟩,ih fun c hm=>hc c (by simp [hm])⟩
theorem flatten_set {n:Nat} {c:List Value}:∀ {us:List (List Value)} {j:Nat},(∀ x∈us,x.length=n)→j < us.length→(us.set j c).flatten=us.flatten.take (j * n)++c++us.flatten.drop (j * n+n)∧j * n+n≤us.flatten.length:=by
 intro us
 induction us with
 | nil=>intro j _ hj; simp at hj
 | cons a us ih=>
  intro j hl hj
  have ha:a.length=n:=hl a (by simp)
  cases j with
  | zero=>refine ⟨?_,by simp [ha]⟩; simp [← ha]
  | succ j=>
   obtain ⟨h1,h2⟩:=ih (j:=j) (fun x hx=>hl x (by simp [hx])) (by simpa using hj)
   have e:(j+1) * n=n+j * n:=by rw [Nat.add_mul,Nat.one_mul,Nat.add_comm]
   refine ⟨?_,by rw [e,List.flatten_cons,List.length_append,ha]; omega⟩
   rw [List.set_cons_succ,List.flatten_cons,List.flatten_cons,h1,e,List.take_append,List.drop_append,ha]
   have e1:List.take (n+j * n) a=a:=List.take_of_length_le (by omega)
   have e2:List.drop (n+j * n+n) a=[]:=List.drop_eq_nil_of_le (by omega)
   rw [e1,e2,show n+j * n - n=j * n by omega,show n+j * n+n - n=j * n+n by omega]
   simp
theorem stS {α V:Type} {S:STy α} {cl:α→V→List Value} {en:α→V→List Ent} (y:α) {u:V} {n e:Nat} {x0 y0:Operand} {v:Value} {j:Int} {us:List (List Value)} {xs:List α} {cs c0:List Value} {t ty:TypeId} {m:Option M}
  (h1:Sel Γ (.own (aK e (sCel n)) v us) Γ1) (hp:In (.rd false (sPu us j) (.bool true) c0) Γ) (hg:In (.rd false (sGh S) (.bool true) (us,xs)) Γ1) (hso:SOc S V cl en) (_hv:MkV V u) (hc:cs=cl y u) (ho:Ones Γ cs) (hn:cs.length=n) (hfo:FO (en y u)) (hf:EF Γ1 (en y u) Γ2)
  (h:D P cx (.o false all l rk (.own (aK e (sCel n)) v (us.set j.toNat cs) :: .rd false (sGh S) (.bool true) (us.set j.toNat cs,xs.set j.toNat y) :: Γ2) fr m)):D P cx (.st (elA v n j) (.agg cs.toArray) n t x0 y0 ty all l rk Γ fr m):=by
 refine D.of ?_
 intro hT hx hy B o ho' r w ha hs' pos aft g
 have hso':SO S V cl en:=by cases hso; assumption
 obtain ⟨i,q1,q2⟩:=hT
 obtain ⟨Z,F,hS,hG⟩:=hs'
 have hones:=ho.one hS
 obtain ⟨_,⟨_,⟨hj,hu⟩,_⟩,_⟩:=hp.rd hS []
 obtain ⟨k,F1,hp1,hO,hS1⟩:=h1.sound hS
 obtain ⟨Fd,F2,Zn,hhl,hS2,hp2⟩:=hf.sound hS1
 obtain ⟨g0,hk,hgz⟩:=hg.rd hS1 []
 have hG':Gd B Z (k++F1) w:=hG.perm hp1
 have hpp:((k++F2)++(Fd++Zn)).Perm (k++F1):=by
  rw [List.append_assoc]
  refine List.Perm.append_left k (.trans ?_ hp2)
  rw [← List.append_assoc]
  exact (List.perm_append_comm (l₁:=F2) (l₂:=Fd)).append_right Zn
 have hG2:Gd B Z ((k++F2)++(Fd++Zn)) w:=hG'.perm hpp
 have hlt:∀ b∈Fd++Zn,b < w.heap.size:=fun b hb=>by
  have h3:b∈k++F1:=hpp.mem_iff.1 (List.mem_append_right _ hb)
  rcases List.mem_append.1 h3 with h3 | h3
  ·exact STy.lt _ hO b h3
  ·exact hS1.lt b h3
 have hG3:Gd B (orZ Z (Fd++Zn)) (k++F2) w:=hG2.freeze hlt
 have hmono:∀ b,orZ Z Zn b→orZ Z (Fd++Zn) b:=fun b hb=>hb.imp id fun h=>List.mem_append_right _ h
 obtain ⟨g1,hr1,hz1⟩:=hso'.cl (x:=y) (v:=u) (Z:=orZ Z (Fd++Zn)) (w:=w) (hl_rd hfo (hhl.mono hmono))
 obtain ⟨g2,hgl,hgb⟩:=gl_set (c:=cs) (by rw [hc]; exact hr1) j.toNat hk.2.1
 have hgh:fact (orZ Z (Fd++Zn)) w [] (.rd false (sGh S) (.bool true) (us.set j.toNat cs,xs.set j.toNat y)):=by
  refine ⟨g2,⟨rfl,hgl,fun b hb=>?_⟩,fun b hb=>?_⟩
  ·exact (hgb b hb).elim (hk.2.2 b) (S.lt hr1 b)
  ·exact (hgb b hb).elim (fun h=>.inl (hgz b h)) (hz1 b)
 have hjl:j.toNat < us.length:=(List.getElem?_eq_some_iff.1 hu).1
 obtain ⟨base,cap,hv',hr⟩:=hO
 obtain rfl:v = .slice base us.length cap:=by simpa using hv'
 rcases hr with ⟨_,_,rfl,_⟩ | ⟨b,cur,f',rfl,h2,rfl,h4,h5,h6,h3⟩
 ·simp at hjl
 ·obtain ⟨hcf,hf'⟩:=cel_flat h3
  subst hf'
  have hall:=cel_all h3
  obtain ⟨e1,e2⟩:=flatten_set (c:=cs) (fun x hx=>(hall x hx).1) hjl
  have hrow:Row w b cur.toList e:=by unfold Row; simpa using h2
  have hcz:cur.toList=us.flatten++cur.toList.drop (us.length * n):=by
   rw [← hcf]; exact (List.take_append_drop _ _).symm
  have hadr:elA (.slice (some ⟨b,0,none⟩) us.length cap) n j = ⟨b,j.toNat * n,none⟩:=by
   simp only [elA,addr_add,Nat.zero_add]
  rw [hadr] at hx
  have hle:j.toNat * n+cs.length≤cur.toList.length:=by
   rw [hn,hcz,List.length_append]; omega
  have hrun:=op_storeSeg (P:=P) (d:=none) (ty:=ty) (pos:=pos) (aft:=aft) (gg:=none) q1 (by rw [hn,q2]) hrow hle (aU ha hx) (y:=y0) (by rw [aU ha hy]; rfl) hones
  refine erun_wl (WL.skip rfl hrun (h.sound B o ho' _ _ ha ?_))
  have hnew:cur.toList.take (j.toNat * n)++cs++cur.toList.drop (j.toNat * n+cs.length)=(us.set j.toNat cs).flatten++cur.toList.drop (us.length * n):=by
   rw [hn,e1]
   conv=>lhs; rw [hcz]
   rw [List.take_append_of_le_length (by omega),List.drop_append_of_le_length (by omega)]
   simp
  have hset:=setRow_heap w b cur (cur.toList.take (j.toNat * n)++cs++cur.toList.drop (j.toNat * n+cs.length)).toArray e _ h2
  refine St.put (f:=[b]) (f':=[b]) (SA.fact (hS2.mono hmono fun _ h=>h) hgh) hG3 ⟨rfl,rfl,rfl,Nat.le_refl _,by simp,fun j' _ hj'=>setRow_other w b j' _ fun h=>hj' (by simp [h])⟩ ?_ (by simp) (fun b hb=>.inl hb)
  refine ⟨_,cap,by rw [List.length_set],.inr ⟨b,_,[],rfl,hset,rfl,by rw [List.length_set]; exact h4,h5,?_,?_⟩⟩
  ·rw [← h6]
   simp only [List.size_toArray,hnew]
   have e3:(us.set j.toNat cs).flatten.length=us.flatten.length:=by
    rw [e1]; simp only [List.length_append,List.length_take,List.length_drop,hn]; omega
   rw [List.length_append,e3,← List.length_append,← hcz,Array.length_toList]
  ·rw [List.toList_toArray,hnew,List.length_set]
   have hlen2:(us.set j.toNat cs).flatten.length=us.length * n:=by
    have e3:(us.set j.toNat cs).flatten.length=us.flatten.length:=by
     rw [e1]; simp only [List.length_append,List.length_take,List.length_drop,hn]; omega
    rw [e3]
    have:=repL_len h3
    rw [hcf] at this
    exact this
   show repL (sCel n) _ (List.take (us.length * n) _) _ _
   rw [List.take_append_of_le_length (by omega),List.take_of_length_le (by omega)]
   refine cel_rep fun c hm=>?_
   rcases List.mem_or_eq_of_mem_set hm with hm | rfl
   ·exact hall c hm
   ·exact ⟨hn,hones⟩
theorem litO {α:Type} {E:STy α} {d n:Nat} {t e ty:TypeId} {ps:List (Nat×Operand)} {us:List Value} {xs:List α} {m:Option M} [hz:LUc P t e] (hl:LitD Γ fr 0 ps us) (hn:us.length=n) (hb:(Nat.ble 1 n && Nat.ble n 16777216)=true) (hx:TkL Γ E us xs Γ1) (hE:E.size=1)
  (h:∀ v,D P cx (.o false all l rk (.own (aK e E) v xs :: Γ1) ((d,v) :: fr) m)):D P cx (.e false (.buildSlice t n ps.toArray) (some d) ty all l rk Γ fr m):=by
 refine D.of ?_
 intro B o ho r w ha hs pos aft g
 obtain ⟨Z,F,hS,hg⟩:=hs
 refine erun_wl (WL.val rfl (hl.op ha hS ⟨hz.h⟩ hn hb) ((h _).sound B o ho _ _ (agr_cons ha) ?_))
 obtain ⟨e1,f,F2,hp2,hr,hS2⟩:=hx.sound hS
 have hble:n≤16777216:=by
  rw [Bool.and_eq_true] at hb
  exact Nat.le_of_ble_eq_true hb.2
 have hC:Chg [] w (w.alloc (.cells us.toArray e)):=Chg.alloc _ _ _
 have hg':Gd B Z (f++F2) w:=hg.perm hp2
 have hlt:∀ b∈f,b < w.heap.size:=repL_lt hr
 have hnew:=heap_alloc_new w (.cells us.toArray e)
 have hr':repL E (w.alloc (.cells us.toArray e)).heap us xs f:=repL_congr hr fun b hb=>hC.block b (hlt b hb) (fun h=>absurd h List.not_mem_nil)
 refine St.put (f:=f) (f':=w.heap.size :: f) hS2 hg' (Chg.mono hC fun _ h=>absurd h List.not_mem_nil) ⟨_,n,by rw [← hn,e1],.inr ⟨w.heap.size,us.toArray,f,rfl,hnew,rfl,by rw [← hn,e1]; exact Nat.le_refl _,Nat.le_trans hble (by decide),by rw [hE,Nat.mul_one]; simp [hn],?_⟩⟩ ?_ ?_
 ·rw [hE,Nat.mul_one,List.toList_toArray,← e1,List.take_length]
  exact hr'
 ·exact List.nodup_cons.2 ⟨fun hm=>Nat.lt_irrefl _ (hlt _ hm),(List.nodup_append.1 hg'.nd).1⟩
 ·intro b hb
  rcases List.mem_cons.1 hb with rfl | hb
  ·exact .inr (Nat.le_refl _)
  ·exact .inl hb
theorem apR {α:Type} {d b:Nat} {s x:Operand} {v u yv:Value} {j:Int} {y:α} {z:List α} {xs:List (List α)} {t e e' et ty:TypeId} {E E':STy α} {z0:α} {bt:Nat} {o1 o2:Bool} {Γx:List Ent} {f:Unit→Option M} [hT:STc P t α e E z0 bt] (hs:opv fr s=some u) (hx:opv fr x=some (.slice (some ⟨b,0,none⟩) 1 1)) (hl:Loc Γ u (.row v j)) (h0:Sel Γ (.row b [yv] et) Γ1) (hz:Fnd Γ u o1 o2 E' z noE Γx) (h1:Sel Γ1 (.own (aK e' (aK e E)) v xs) Γ2) (hr:RT (aK e E) (aE E')) (hy:TkE Γ2 E yv y Γ3)
  (h:∀ v',D P cx (.o false all l rk (.own (aK e E) v' (z++[y]) :: .own (sHole e' (aK e E) j.toNat) v xs :: Γ3) ((d,v') :: fr) (f ()))):D P cx (.e false (.call ⟨.builtin .append,#[s,x],#[t,t]⟩) (some d) ty all l rk Γ fr (fits bt (z.length+1)>>=f)):=by
 refine D.of ?_
 intro B o ho' r w ha hs' pos aft g
 obtain ⟨_,hu,ho'⟩:=bind_some ho'
 obtain ⟨b1,b2⟩:=fits_some hu
 obtain ⟨q1,q2,i,zz,q3,q4,q5,q6,q7,_⟩:=hT.h
 obtain ⟨Z,F,hS,hG⟩:=hs'
 obtain ⟨j0,j1,hcell⟩:=Loc.row hl rfl hS
 obtain ⟨cur',_,⟨⟨gz,hgz,_⟩,_⟩,_⟩:=hz.sound hS
 obtain ⟨n0,F0,hp0,⟨rfl,hrow⟩,hS0⟩:=h0.sound hS
 obtain ⟨fm,F1,hp1,hO,hS1⟩:=h1.sound hS0
 obtain ⟨ky,F2,hp2,hky,hS2⟩:=hy.sound hS1
 rw [own_slen hO] at j1
 obtain ⟨k,gm,a1,a2,a3⟩:=own_hole rfl hO (List.getElem?_eq_getElem j1) hcell
 have hzz:xs[j.toNat]=z:=hr.det (hr.le.le a1) hgz
 rw [hzz] at a1
 have hperm:((k++ky)++(gm++F2)).Perm (fm++F1):=by
  have e1:((k++gm)++(ky++F2)).Perm (fm++F1):=(a2.append_right _).trans (hp2.append_left fm)
  refine .trans ?_ e1
  rw [List.append_assoc,List.append_assoc]
  refine List.Perm.append_left k ?_
  rw [← List.append_assoc,← List.append_assoc]
  exact List.perm_append_comm.append_right F2
 have hG':Gd B Z ((k++ky)++(gm++F2)) w:=Gd.left (F':=[b]) (hG.perm (((hperm.append_right [b]).trans (List.perm_append_comm.trans (hp1.append_left [b]))).trans hp0))
 have hnd:=(List.nodup_append.1 hG'.nd).1
 have hnk:=List.nodup_append.1 hnd
 obtain ⟨v',w',f',hrun,hC,hrep,hsub,hnd'⟩:=own_append (E:=E) (d:=some d) (ty:=ty) (pos:=pos) (aft:=aft) (g:=none) (k:=ky) (ys:=[y]) (news:=[yv]) q1 q3 q4 (by rw [q5,q2]) (by rw [cells_one q6,q2]; rfl) (aU ha hs) a1 hnk.1 (aU ha hx) (fun i u hi=>hrow.at i u hi) (repL_single hky) (fun b hb hm=>hnk.2.2 b hm b hb rfl) (by simp) (by rw [q7]; exact b1) b2
 refine erun_wl (WL.val rfl hrun ((h v').sound B o ho' _ w' (agr_cons ha) ?_))
 have hSh:SA Z w (.own (sHole e' (aK e E) j.toNat) v xs :: Γ3) [] (gm++F2):=SA.cons hS2 (e:=.own (sHole e' (aK e E) j.toNat) v xs) a3
 refine St.put hSh hG' (hC.mono fun b hb=>List.mem_append_left _ hb) hrep (hnd' hnk.2.1) fun b hb=>?_
 rcases hsub b hb with h | h | h
 ·exact .inl (List.mem_append_left _ h)
 ·exact .inl (List.mem_append_right _ h)
 ·exact .inr h
theorem ixH {α:Type} {q:Bool} {d j0:Nat} {x y:Operand} {v:Value} {k:IntKind} {j:Int} {xs:List α} {t e ty:TypeId} {E:STy α} {f:α→Option M} [ht:SLc P t] (hx:opv fr x=some v) (hy:opv fr y=some (.int k j)) (h1:Sel Γ (.own (sHole e E j0) v xs) Γ1)
  (h:∀ z,D P cx (.o q all l rk Γ ((d,.pointer (some (elA v 1 j))) :: fr) (f z))):D P cx (.e q (.indexAddr t x y) (some d) ty all l rk Γ fr (idx xs j>>=f)):=by
 refine D.of ?_
 intro B o ho r w ha hs pos aft g
 obtain ⟨z,hz,ho⟩:=bind_some ho
 replace hz:=idx_some hz
 obtain ⟨e',i,q1,q2,q3⟩:=ht.h
 obtain ⟨Z,F,hS,_⟩:=@_root_.id _ hs
 obtain ⟨f0,F1,_,⟨b,cap,cur,f1,f2,p,c0,qq,hv,_⟩,_⟩:=h1.sound hS
 obtain rfl:v = .slice (some ⟨b,0,none⟩) xs.length cap:=by simpa using hv
 have hlt:j.toNat < xs.length:=(List.getElem?_eq_some_iff.1 hz.2).1
 have hz0:=hz.1
 refine erun_of (v:=.pointer (some (elA (.slice (some ⟨b,0,none⟩) xs.length cap) 1 j))) (fun w' hC=>?_) ((h z).sound B o ho _ w (agr_cons ha) hs)
 rw [op_indexAddr q1 q2 (aU ha hx) (aU ha hy) hz.1 (by omega),q3]
 rfl
theorem stR {α:Type} {x0 y0:Operand} {v u:Value} {j:Int} {z:α} {xs:List α} {t e ty:TypeId} {E:STy α} {m:Option M} (h1:Sel Γ (.own E u z) Γ1) (h2:Sel Γ1 (.own (sHole e E j.toNat) v xs) Γ2)
  (h:D P cx (.o false all l rk (.own (aK e E) v (xs.set j.toNat z) :: Γ2) fr m)):D P cx (.st (elA v 1 j) u 1 t x0 y0 ty all l rk Γ fr m):=by
 refine D.of ?_
 intro hT hx hy B o ho' r w ha hs' pos aft g
 obtain ⟨i,q1,q2⟩:=hT
 obtain ⟨Z,F,hS,hG⟩:=hs'
 obtain ⟨k,F1,hp1,hK,hS1⟩:=h1.sound hS
 obtain ⟨gm,F2,hp2,hM,hS2⟩:=h2.sound hS1
 have hpp:((gm++k)++F2).Perm F:=by
  refine .trans ?_ hp1
  refine .trans ?_ (hp2.append_left k)
  rw [← List.append_assoc k gm F2]
  exact List.perm_append_comm.append_right F2
 have hG':Gd B Z ((gm++k)++F2) w:=hG.perm hpp
 have hnd:=(List.nodup_append.1 hG'.nd).1
 obtain ⟨b,cap,cur,f1,f2,p,c0,qq,hv,g1,rfl,⟨g2,g3,g4,g5⟩,g6,⟨g7,g8⟩,g9,g10⟩:=hM
 obtain rfl:v = .slice (some ⟨b,0,none⟩) xs.length cap:=by simpa using hv
 have hadr:elA (.slice (some ⟨b,0,none⟩) xs.length cap) 1 j = ⟨b,j.toNat,none⟩:=by
  simp only [elA,addr_add,Nat.zero_add,Nat.mul_one]
 rw [hadr] at hx
 have hrow:Row w b cur.toList e:=by unfold Row; simpa using g1
 have hbl:∀ i∈(f1++f2)++k,i≠b:=by
  intro i hi he
  subst he
  have e1:((i :: (f1++f2))++k)=i :: ((f1++f2)++k):=rfl
  rw [e1] at hnd
  exact (List.nodup_cons.1 hnd).1 hi
 refine erun_wl (WL.storeRow q1 q2 hrow (by rw [Array.length_toList,g4]; omega) (aU ha hx) (aU ha hy) (E.one hK u (by simp)) fun w' hC hrow'=>h.sound B o ho' _ w' ha ?_)
 have hsame:∀ i∈(f1++f2)++k,i < w.heap.size→w'.heap[i]? = w.heap[i]?:=fun i hi hl=>hC.block i hl fun hm=>hbl i hi (by simpa using hm)
 have hK':E.rep w'.heap [u] z k:=E.congr hK fun i hi=>hsame i (List.mem_append_right _ hi) (E.lt hK i hi)
 have hrl:=g10 w'.heap (fun i hi=>hsame i (List.mem_append_left _ hi) (g9 i hi)) u z k hK'
 refine St.put (f:=(b :: (f1++f2))++k) (f':=b :: (f1++k++f2)) hS2 hG' (hC.mono fun i hi=>by rw [List.mem_singleton.1 hi]; simp) ⟨_,cap,by rw [List.length_set],.inr ⟨b,_,f1++k++f2,rfl,hrow',rfl,by rw [List.length_set]; exact g2,g3,?_,?_⟩⟩ ?_ ?_
 ·rw [g5]; simp [g4]
 ·have hset:((cur.toList.set j.toNat u).take xs.length)=p++[u]++qq:=by
   rw [List.take_set,g6,← g7]
   simp
  rw [List.length_set,g5,Nat.mul_one]
  simpa [hset] using hrl
 ·have hpm:(b :: (f1++k++f2)).Perm ((b :: (f1++f2))++k):=by
   rw [List.cons_append]
   refine List.Perm.cons b ?_
   rw [List.append_assoc,List.append_assoc]
   exact List.Perm.append_left f1 List.perm_append_comm
  exact hpm.nodup_iff.2 hnd
 ·intro i hi
  refine .inl ?_
  rcases List.mem_cons.1 hi with rfl | hi
  ·simp
  ·rcases List.mem_append.1 hi with hi | hi
   ·rcases List.mem_append.1 hi with hi | hi <;> simp [hi]
   ·simp [hi]
theorem loopP {S S1 V W:Type} (k:Nat) (Δ:S1→V→W→List Ent) (φ:S1→V→W→Fr) (v0:V) (w0:W) (f2:Fr) {its:List KI} {kb:Kb R S} {c:Code} {s0:S1} {body:S1→Option (Out S1 R)} {f:S1→Option (Out S R)}
  (ha:Agr fr (φ s0 v0 w0)) (hf:Agr fr f2) (h0:EO Γ (Δ s0 v0 w0) Γ1) (hn:OW Γ (Δ s0 v0 w0)) (hs:Strip Γ1 Γ2)
  (hb:∀ s v w,D P cx (.p (φ s v w) (Δ s v w) f2 Γ2 fun fr Γ=>.c ⟨[],.loop (V×W) k (fun s v=>Δ s v.1 v.2) (fun s v=>φ s v.1 v.2) Γ2 f2⟩ c Γ fr (body s)))
  (hk:∀ s v w,D P cx (.p (φ s v w) (Δ s v w) f2 Γ2 fun fr Γ=>.mn ⟨its,kb⟩ Γ fr (f s))):Bx (sem P cx (.bk true k ⟨its,kb⟩ (.loop c) Γ fr (lbind (blockM k (Li.loopM body s0)) f))):=
 loop k (fun s v=>Δ s v.1 v.2) (fun s v=>φ s v.1 v.2) (v0,w0) f2 ha hf h0 hn hs (fun s v=>hb s v.1 v.2) (fun s v=>hk s v.1 v.2)
def capR {α:Type} (v:Value) (_:List α):Prop:=∃ a n c,v = .slice a n c∧n≤c
theorem Le.cap {α:Type} {T E:STy α} (hl:Le T E) (e:TypeId):Le (aK e T) (sIn capR (aE E)):=by
 refine ⟨rfl,fun {h cs x f} hr=>⟨?_,(Le.own hl e).le hr⟩⟩
 obtain ⟨base,cap,rfl,hr⟩:=hr
 refine ⟨_,rfl,_,_,_,rfl,?_⟩
 rcases hr with ⟨_,_,rfl,_⟩ | ⟨_,_,_,_,_,_,h,_⟩
 ·exact Nat.zero_le _
 ·exact h
theorem own_frz {α:Type} {T E:STy α} {e e2:TypeId} {v:Value} {xs:List (List α)} {f:List Nat} {h:Array Obj} (hl:Le T E) (hO:(aK e (aK e2 T)).rep h [v] xs f) :
  ∃ fo fz us,(fo++fz).Perm f∧(aK e sVal).rep h [v] us fo∧repL (sIn capR (aE E)) h us xs fz:=by
 obtain ⟨base,cap,hv,hr⟩:=hO
 rcases hr with ⟨rfl,rfl,rfl,rfl⟩ | ⟨b,cur,f',rfl,h2,rfl,h4,h5,h6,h3⟩
 ·exact ⟨[],[],[],.refl _,⟨none,0,by simpa using hv,.inl ⟨rfl,rfl,rfl,rfl⟩⟩,rfl,rfl⟩
 ·have h7:=repL_len h3
  have h8:(aK e2 T).size=1:=rfl
  rw [h8,Nat.mul_one] at h6 h3 h7
  try rw [Nat.mul_one] at h7
  refine ⟨[b],f',cur.toList.take xs.length,.refl _,⟨_,cap,by rw [h7]; exact hv,.inr ⟨b,cur,[],rfl,h2,rfl,by rw [h7]; exact h4,h5,by rw [h6]; exact (Nat.mul_one _).symm,?_⟩⟩,repL_le (Le.cap hl e2) h3⟩
  have h9:sVal.size=1:=rfl
  rw [h9,Nat.mul_one,h7]
  exact repL_val_mk (repL_one h3)
theorem St.frz {α:Type} {T E:STy α} {e e2:TypeId} {v:Value} {xs:List (List α)} (hs:St B Γ w) (h1:EO Γ [.own (aK e (aK e2 T)) v xs] Γ1) (hr:RT T E):St B (.om e (sIn capR (aE E)) v xs :: Γ1) w:=by
 obtain ⟨Z,F,hS,hG⟩:=hs
 obtain ⟨_,F1,hH,hS1,hp⟩:=h1.sound hS
 obtain ⟨f,hO,hp⟩ : ∃ f,(aK e (aK e2 T)).rep w.heap [v] xs f∧(f++F1).Perm F:=by
  cases hH with
  | own h k=>cases k; exact ⟨_,h,by simpa using hp⟩
 obtain ⟨fo,fz,us,hf,ho,hl⟩:=own_frz hr.le hO
 have hpp:((fo++F1)++fz).Perm F:=by
  refine .trans ?_ hp
  refine .trans ?_ (hf.append_right F1)
  rw [List.append_assoc,List.append_assoc]
  exact List.Perm.append_left fo List.perm_append_comm
 have hG2:=Gd.freeze (hG.perm hpp) fun b hb=>hS.lt b (hpp.mem_iff.1 (List.mem_append_right _ hb))
 exact ⟨orZ Z fz,fo++F1,SA.cons (hS1.mono (fun _ h=>.inl h) fun _ h=>h) ⟨us,fz,ho,hl,fun b hb=>.inr hb,rfl⟩,hG2⟩
theorem tailF {S:Type} {id:Nat} (k:Nat) {K:Kont R S} {l ops tl0:List Oper} {α:Type} {T E:STy α} {e e2:TypeId} {v:Value} {xs:List (List α)} {m:Option (Out S R)} (hB:(P.follows .mixedOrders && dstOk cx.n l && ((l.take k).all fun o=>plainB o.op) && Region.lexTailB .any l.toArray k)=true) (ho:ops=l.take k) (ht:tl0=l.drop k)
  (h1:EO Γ [.own (aK e (aK e2 T)) v xs] Γ1) (hr:RT T E) (h:D P cx (.o true l ops (.h l tl0 K) (.om e (sIn capR (aE E)) v xs :: Γ1) fr m)):Bx (sem P cx (.dr id l K Γ fr m)):=by
 have h2:=tail (id:=id) k hB ho ht h
 rw [bx_eq] at h2 ⊢
 exact fun B o ho' r w ha hs=>h2 B o ho' r w ha (hs.frz h1 hr)
theorem repL_drop {α:Type} {E:STy α} {h:Array Obj}:∀ {xs:List α} {cs:List Value} {f:List Nat} (n:Nat),repL E h cs xs f→∃ f3,repL E h (cs.drop (n * E.size)) (xs.drop n) f3∧∀ b∈f3,b∈f:=by
 intro xs
 induction xs with
 | nil=>rintro cs f n ⟨rfl,rfl⟩; exact ⟨[],by simpa using ⟨rfl,rfl⟩,fun _ h=>h⟩
 | cons x xs ih=>
  rintro cs f n ⟨c,ds,f1,f2,rfl,rfl,h1,h2⟩
  cases n with
  | zero=>exact ⟨f1++f2,by simpa using ⟨c,ds,f1,f2,rfl,rfl,h1,h2⟩,fun _ h=>h⟩
  | succ n=>
   obtain ⟨f3,h3,h4⟩:=ih n h2
   refine ⟨f3,?_,fun b hb=>List.mem_append_right _ (h4 b hb)⟩
   have e:(n+1) * E.size=c.length+n * E.size:=by rw [E.len h1,Nat.add_mul,Nat.one_mul,Nat.add_comm]
   rw [e,List.drop_append,List.drop_of_length_le (by omega),List.nil_append,List.drop_succ_cons]
   simpa using h3
theorem slT {α:Type} {q:Bool} {d:Nat} {x lo:Operand} {v:Value} {k:IntKind} {j:Int} {E:STy α} {xs:List α} {t ty:TypeId} {f:List α→Option M} [ht:SLc P t] (hx:opv fr x=some v) (hy:opv fr lo=some (.int k j)) (hr:In (.rd false (sIn capR (aE E)) v xs) Γ) (hE:E.size=1)
  (h:∀ v' ys,D P cx (.o q all l rk (.rd false (aE E) v' ys :: Γ) ((d,v') :: fr) (f ys))):D P cx (.e q (.slice t x (some lo) none none) (some d) ty all l rk Γ fr (tl xs j>>=f)):=by
 refine D.of ?_
 intro B o ho r w ha hs pos aft g
 obtain ⟨ys,hys,ho⟩:=bind_some ho
 obtain ⟨h0,h1,rfl⟩:=tl_some hys
 obtain ⟨e,i,q1,q2,q3⟩:=ht.h
 obtain ⟨Z,F,hS,hG⟩:=hs
 obtain ⟨g0,⟨⟨v0,hv0,a0,n0,c0,hv1,hc⟩,base,cap,hv,hr'⟩,hgz⟩:=hr.rd hS []
 obtain rfl:v = .slice base xs.length cap:=by simpa using hv
 obtain rfl:Value.slice base xs.length cap=v0:=by simpa using hv0
 obtain ⟨rfl,rfl,rfl⟩ : base=a0∧xs.length=n0∧cap=c0:=by simpa using hv1
 have hlen:(xs.drop j.toNat).length=xs.length - j.toNat:=List.length_drop
 have hf:fact Z w [] (.rd false (aE E) (sliced base j.toNat xs.length cap 1) (xs.drop j.toNat)):=by
  by_cases hj:j.toNat=xs.length
  ·refine ⟨[],⟨_,cap - j.toNat,by unfold sliced; rw [hlen],.inl ⟨by rw [hj]; simp,rfl⟩⟩,fun _ h=>absurd h List.not_mem_nil⟩
  ·rcases hr' with ⟨rfl,_⟩ | ⟨b,off,cur,e',fz,f',rfl,g1,rfl,g2⟩
   ·exfalso; simp at h1 hj; omega
   ·have hne : ¬ (cap=j.toNat):=by omega
    obtain ⟨f3,hrep,hsub⟩:=repL_drop j.toNat g2
    refine ⟨b :: f3,⟨some ⟨b,off+j.toNat,none⟩,cap - j.toNat,?_,.inr ⟨b,off+j.toNat,cur,e',fz,f3,rfl,g1,rfl,?_⟩⟩,fun i hi=>?_⟩
    ·unfold sliced
     rw [hlen,if_neg hne]
     simp [addr_add]
    ·rw [hE,Nat.mul_one] at hrep ⊢
     rw [Nat.mul_one,List.drop_take,List.drop_drop] at hrep
     rw [hlen]
     exact hrep
    ·rcases List.mem_cons.1 hi with rfl | hi
     ·exact hgz _ (by simp)
     ·exact hgz _ (List.mem_cons_of_mem _ (hsub i hi))
 refine erun_of (v:=sliced base j.toNat xs.length cap 1) (fun w' _=>?_) ((h _ _).sound B o ho _ w (agr_cons ha) ⟨Z,F,SA.fact hS hf,hG⟩)
 have q4:P.elem t=e:=by simp [Program.elem,q1]
 have hsz:(sizeOf (P.elem t)).run P w' = .ok 1 w':=by rw [q4]; simp [sizeOf,typeInfo,q2,q3]
 simp [execOp,aU ha hx,aU ha hy,run_sliceAt_slice w' t _ _ _ _ (by rw [q4]; exact q1),run_slice_l (P:=P) w' t base xs.length cap (by rw [q4]; exact q1) k j h0 h1,hsz,Result.andThen]
theorem stN {α:Type} {x y:Operand} {v u:Value} {j:Int} {z:List α} {xs:List (List α)} {E:STy α} {Q:Value→List α→Prop} {t e ty:TypeId} {Γx:List Ent} {m:Option M} (h0:Rg v j Γ) (h1:Fnd Γ u false false E z noE Γx) (h2:Sel Γ (.om e (sIn Q (aE E)) v xs) Γ1)
  (h:D P cx (.o false all l rk (.om e (aE E) v (xs.set j.toNat z) :: Γ1) fr m)):D P cx (.sl .om v j u t x y ty all l rk Γ fr m):=by
 refine D.of ?_
 intro hT hx hy _ B o ho r w ha hs pos aft g
 obtain ⟨i,hi,hsz⟩:=hT
 obtain ⟨Z,F,hS,hg⟩:=hs
 obtain ⟨j0,j1⟩:=h0.sound hS
 obtain ⟨cur',_,⟨⟨k,hk,hkz⟩,_⟩,_⟩:=h1.sound hS
 obtain ⟨n,F1,hp,⟨us,gg,hO,hr0,hgz,h1s⟩,hS1⟩:=h2.sound hS
 have hle:Le (sIn Q (aE E)) (aE E):=⟨rfl,fun h=>h.2⟩
 have hr:repL (aE E) w.heap us xs gg:=repL_le hle hr0
 replace h1s:(aE E).size=1:=rfl
 have hg':=hg.perm hp
 have hnd:=List.nodup_append.1 hg'.nd
 have hkz':∀ b∈k,Z b:=fun b hb=>(hkz b hb).elim (fun h=>h) (fun h=>h)
 have hzn:∀ b∈n,¬ Z b:=fun b hb=>hg'.apart b (List.mem_append_left _ hb)
 have hl:us.length=xs.length:=by have:=repL_len hr; rw [h1s,Nat.mul_one] at this; exact this
 have hsl:slen v=us.length:=own_slen hO
 rw [hsl,hl] at j1
 refine erun_wl (WLM.store (E:=aE E) (G:=n) (B:=w.heap.size) (g:=gg) (k:=k) hi hsz ⟨us,⟨hO,hnd.1,fun b hb=>.inl hb⟩,hr,h1s⟩ (List.getElem?_eq_getElem j1) (aU ha hx) (aU ha hy) hk (fun b hb hm=>hzn b hm (hkz' b hb)) (fun b hb hm=>hzn b hm (hgz b hb)) fun w' g' hC hO' hg2=>?_)
 obtain ⟨us',ho',hr',hs1'⟩:=hO'
 exact h.sound B o ho _ w' ha (St.put hS1 hg' hC ⟨us',_,ho'.1,hr',(fun b hb=>(hg2 b hb).elim (hgz b) (hkz' b)),hs1'⟩ ho'.2.1 fun b hb=>.inl hb)
theorem St.anew {B:Bs} {Γ Δ Γ1 Γ2 Γ3:List Ent} {w:World} (h:St B Γ w) (h0:EF Γ Δ Γ1) (h1:EO Γ1 Γ2 Γ3) (h2:MF Γ none Γ2):St B (Δ.reverse++Γ2) w:=by
 obtain ⟨Z,F,hs,hg⟩:=h
 obtain ⟨Fd,F',Zn,a1,a2,a3⟩:=h0.sound hs
 obtain ⟨Fd2,F3,c1,c2,c3⟩:=h1.sound a2
 obtain ⟨F2,b1,b2⟩:=HL.build a1 (h2.sound (hs.left (f:=Zn)) (cur':=[]) (by rintro e he; cases he) c1)
 refine St.of (F':=Fd++Fd2) b2 (Gd.left (F':=F3) ((Gd.freeze (hg.perm a3) fun b hb=>hs.lt b (a3.mem_iff.1 (List.mem_append_right _ hb))).perm ?_)) b1
 rw [List.append_assoc]
 exact c3.append_left Fd
theorem join {S S1 V:Type} {t k:Nat} {b:Bool} (Δ:S1→V→List Ent) (φ:S1→V→Fr) (v0:V) (f2:Fr) {its:List KI} {kb:Kb R S} {x y:Code} {s0:S1} {m0:Option (Out S1 R)} {f:S1→Option (Out S R)}
   (_ha:Agr fr (φ s0 v0)) (_hf:Agr fr f2) (_h0:EO Γ (Δ s0 v0) Γ1) (_hs:Strip Γ1 Γ2)
   (hb:D P cx (.cd b ⟨[],.loop V k Δ φ Γ2 f2⟩ x y Γ fr m0)) (hk:∀ s v,D P cx (.p (φ s v) (Δ s v) f2 Γ2 fun fr Γ=>.n ⟨its,kb⟩ Γ fr (f s))):D P cx (.cd b ⟨its,kb⟩ x y Γ fr (jn t s0 m0 f)):=by
 refine .inj (bxi ?_)
 intro B o ho r w hag hst
 replace ho:lbind m0 f=some o:=ho
 cases hm:m0 with
 | none=>rw [hm] at ho; cases ho
 | some o0=>
  have h1:=hb.sound B o0 hm r w hag hst
  rw [hm] at ho
  have hq:∀ e r w,postK P cx B ⟨[],.loop V k Δ φ Γ2 f2⟩ o0 e r w→postK P cx B ⟨its,kb⟩ o e r w:=by
   intro e r w hp
   cases o0 with
   | norm s=>
    cases e with
    | normal=>obtain ⟨v,a1,a2⟩:=hp; exact (hk s v).sound B o ho r w a1 a2
    | _=>exact hp.elim
   | exit j s=>cases ho
   | ret y=>
    cases ho
    cases e with
    | ret=>exact postK_ret hp
    | _=>exact hp.elim
  exact ⟨fun h=>W_mono (h1.1 h) hq,fun h=>W_mono (h1.2 h) hq⟩
theorem rwU {S:Type} {t:Nat} {K:Kont R S} {ops:List Oper} {m:Option (Out S R)} (_ht:lastD ops=some t) (h:D P cx (.o false ops ops (.s K) Γ fr m)):D P cx (.rw false ops K Γ fr m):=.rwu h
theorem cdR {S:Type} {b:Bool} {t:Nat} {K:Kont R S} {x y:Code} {m1 m2:Option (Out S R)} (hl:look fr t=some (.bool b)) (h1:D P cx (.c K x Γ ((t,.bool true) :: fr) m1)) (h2:D P cx (.c K y Γ ((t,.bool false) :: fr) m2)):D P cx (.cd b K x y Γ fr (bif b then m1 else m2)):=by
 refine D.of ?_
 have hc:∀ {r:Nat→Value},agr r fr→∀ c,b=c→agr r ((t,.bool c) :: fr):=by
  intro r ha c hb s u hs
  unfold look at hs
  cases hst:Nat.beq s t with
  | true=>
   rw [hst] at hs
   cases hs
   obtain rfl:=Nat.eq_of_beq_eq_true hst
   rw [← hb]
   exact ha _ _ hl
  | false=>rw [hst] at hs; exact ha _ _ hs
 exact fun B o ho r w ha hs=>⟨fun h=>h1.sound B o (by rw [h] at ho; exact ho) r w (hc ha _ h) hs,fun h=>h2.sound B o (by rw [h] at ho; exact ho) r w (hc ha _ h) hs⟩
theorem ixk {α β:Type} {q:Bool} {d:Nat} {x y:Operand} {v:Value} {k:IntKind} {j:Int} {t ty:TypeId} {o1 o2 p1 p2:Bool} {E:STy α} {E2:STy β} {z:β} {xs:List α} {Γx:List Ent} {m:Option M} [ht:SLc P t] (hx:opv fr x=some v) (hy:opv fr y=some (.int k j)) (hr:Fnd Γ v o1 o2 E xs noE Γx) (hi:In (.ad p1 p2 v j E2 z) Γ) (hE:E.size=1)
  (h:D P cx (.o q all l rk Γ ((d,.pointer (some (elA v 1 j))) :: fr) m)):D P cx (.e q (.indexAddr t x y) (some d) ty all l rk Γ fr m):=by
 refine D.of ?_
 intro B o ho r w ha hs pos aft g
 obtain ⟨Z,F,hS,_⟩:=@_root_.id _ hs
 obtain ⟨_,_,⟨⟨n',hn',_⟩,_⟩,_⟩:=hr.sound hS
 obtain ⟨j0,j1⟩:=hi.ad hS
 obtain ⟨a,c,hv'⟩:=imm_len hn'
 have hlt:j.toNat < xs.length:=by rw [hv'] at j1; exact j1
 exact erun_of (Ix ht.h hn' ⟨j0,List.getElem?_eq_getElem hlt⟩ (aU ha hx) (aU ha hy) hE) (h.sound B o ho _ w (agr_cons ha) hs)
class SOo {α:Type} (S:STy α) (V:outParam Type) (cl:outParam (α→V→List Value)) (en:outParam (α→V→List Ent)):Prop where
 ow:∀ x v,owB (en x v)=true
 op:∀ {w:World} {cs:List Value} {x:α} {g:List Nat},S.rep w.heap cs x g→∃ v,cs=cl x v∧∀ Z:Nat→Prop,HL Z w (en x v) g
 cl:∀ {w:World} {x:α} {v:V} {Z:Nat→Prop} {g:List Nat},HL Z w (en x v) g→S.rep w.heap (cl x v) x g
theorem SOo.i {k:IntKind}:SOo (aC k) Unit (fun x _=>[.int k x]) (fun _ _=>[]):=
 ⟨fun _ _=>rfl,fun h=>⟨(),h.1,fun _=>by rw [h.2]; exact .nil⟩,fun h=>by cases h; exact ⟨rfl,rfl⟩⟩
theorem SOo.s {α:Type} {e:TypeId} {E:STy α}:SOo (aK e E) Value (fun _ v=>[v]) (fun x v=>[.own (aK e E) v x]):=by
 refine ⟨fun _ _=>rfl,fun {w cs x g} h=>?_,fun {w x v Z g} h=>?_⟩
 ·obtain ⟨base,cap,rfl,hr⟩:=h
  refine ⟨_,rfl,fun Z=>?_⟩
  have:=HL.own (Z:=Z) (w:=w) (e:=.own (aK e E) (.slice base x.length cap) x) (f:=g) ⟨base,cap,rfl,hr⟩ .nil
  rwa [List.append_nil] at this
 ·cases h with
  | own h k=>cases k; rw [List.append_nil]; exact h
  | fact h _=>exact h.elim
theorem SOo.ip {β V:Type} {k:IntKind} {B:STy β} {cl:β→V→List Value} {en:β→V→List Ent} (h:SOo B V cl en):SOo (sPair (aC k) B) V (fun x v=>.int k x.1 :: cl x.2 v) (fun x v=>en x.2 v):=by
 refine ⟨fun x v=>h.ow x.2 v,fun {w cs x g} hr=>?_,fun {w x v Z g} he=>?_⟩
 ·obtain ⟨c1,c2,f1,f2,rfl,rfl,⟨rfl,rfl⟩,h2⟩:=hr
  obtain ⟨v,rfl,hv⟩:=h.op h2
  exact ⟨v,rfl,hv⟩
 ·exact ⟨[_],_,[],g,rfl,rfl,⟨rfl,rfl⟩,h.cl he⟩
theorem SOo.sp {α β V:Type} {e:TypeId} {E:STy α} {B:STy β} {cl:β→V→List Value} {en:β→V→List Ent} (h:SOo B V cl en):SOo (sPair (aK e E) B) (Value×V) (fun x v=>v.1 :: cl x.2 v.2) (fun x v=>.own (aK e E) v.1 x.1 :: en x.2 v.2):=by
 refine ⟨fun x v=>h.ow x.2 v.2,fun {w cs x g} hr=>?_,fun {w x v Z g} he=>?_⟩
 ·obtain ⟨c1,c2,f1,f2,rfl,rfl,h1,h2⟩:=hr
  obtain ⟨base,cap,rfl,hr1⟩:=h1
  obtain ⟨v,rfl,hv⟩:=h.op h2
  exact ⟨(_,v),rfl,fun Z=>.own ⟨base,cap,rfl,hr1⟩ (hv Z)⟩
 ·cases he with
  | own h1 k=>
   obtain ⟨base,cap,hb,hr1⟩:=h1
   exact ⟨[_],_,_,_,rfl,rfl,⟨base,cap,hb,hr1⟩,h.cl k⟩
  | fact h1 _=>exact h1.elim
theorem SOo.mp {α β V:Type} {f:β→α} {A:STy α} {cl:α→V→List Value} {en:α→V→List Ent} (h:SOo A V cl en):SOo (sMap f A) V (fun y v=>cl (f y) v) (fun y v=>en (f y) v):=
 ⟨fun y v=>h.ow (f y) v,fun hr=>h.op hr,fun he=>h.cl he⟩
inductive SOoc {α:Type} (S:STy α) (V:Type) (cl:α→V→List Value) (en:α→V→List Ent):Prop
 | mk [h:SOo S V cl en]:SOoc S V cl en
theorem ho_hl:∀ {Δ:List Ent} {F:List Nat},owB Δ=true→HO Z w Δ F→HL Z w Δ F:=by
 intro Δ
 induction Δ with
 | nil=>intro F _ h; cases h; exact .nil
 | cons e Δ ih=>
  intro F ho h
  cases e with
  | own T v x=>cases h with | own h k=>exact .own h (ih ho k)
  | row b cs t=>cases h with | own h k=>exact .own h (ih ho k)
  | _=>exact absurd ho (by simp [owB])
theorem lgO {α:Type} (S:STy α) {d:Nat} {t e n bt ty:TypeId} {m:Option M} [ht:SBc P t e n bt]
  (h:∀ v,D P cx (.o false all l rk (.own (aK e S) v [] :: Γ) ((d,v) :: fr) m)):D P cx (.e false (.buildSlice t 0 #[]) (some d) ty all l rk Γ fr m):=by
 refine D.of ?_
 intro B o ho r w ha hs pos aft g
 obtain ⟨h1,i,z,h2,_⟩:=ht.h
 obtain ⟨v,w',f,hr,hC,hO⟩:=own_lit0 (E:=S) (r:=r) (w:=w) (d:=some d) (ty:=ty) (pos:=pos) (aft:=aft) (g:=none) h1 h2
 refine erun_wl (WL.val rfl hr ((h v).sound B o ho _ w' (agr_cons ha) ?_))
 obtain ⟨Z,F,hS,hg⟩:=hs
 exact St.put (f:=[]) hS hg hC hO.1 hO.2.1 fun b hb=>.inr ((hO.2.2 b hb).resolve_left List.not_mem_nil)
theorem lnO {α:Type} {S:STy α} {q:Bool} {d n e:Nat} {x:Operand} {v:Value} {xs:List α} {t ty bt:TypeId} {m:Option M} [ht:SBc P t e n bt] (hx:opv fr x=some v) (h1:Sel Γ (.own (aK e S) v xs) Γ1)
  (h:D P cx (.o q all l rk Γ ((d,.int .i64 (xs.length:Int)) :: fr) m)):D P cx (.e q (.call ⟨.builtin .len,#[x],#[t]⟩) (some d) ty all l rk Γ fr m):=by
 refine D.of ?_
 intro B o ho r w ha hs pos aft g
 obtain ⟨q1,_⟩:=ht.h
 obtain ⟨Z,F,hS,hG⟩:=@_root_.id _ hs
 obtain ⟨f,F1,_,hO,_⟩:=h1.sound hS
 obtain ⟨base,cap,hv,_⟩:=hO
 obtain rfl:v = .slice base xs.length cap:=by simpa using hv
 exact erun_of (v:=.int .i64 (xs.length:Int)) (fun w' _=>op_len q1 (aU ha hx)) (h.sound B o ho _ w (agr_cons ha) hs)
theorem rows_cel {α:Type} {S:STy α} {n:Nat} {hp:Array Obj} (hn:S.size=n):∀ {xs:List α} {cs:List Value} {f:List Nat},repL S hp cs xs f→∃ us,us.length=xs.length∧repL (sCel n) hp cs us []∧∀ (j:Nat) (x:α),xs[j]? = some x→∃ c f0 f1 f2,us[j]? = some c∧f=f0++f1++f2∧S.rep hp c x f1:=by
 intro xs
 induction xs with
 | nil=>rintro cs f ⟨rfl,rfl⟩; exact ⟨[],rfl,⟨rfl,rfl⟩,fun j x hj=>by simp at hj⟩
 | cons y xs ih=>
  rintro cs f ⟨c,cs',f1,f2,rfl,rfl,h1,h2⟩
  obtain ⟨us,hl,hr,hg⟩:=ih h2
  refine ⟨c :: us,by simp [hl],⟨c,cs',[],[],rfl,rfl,⟨rfl,by rw [S.len h1,hn],S.one h1,rfl⟩,hr⟩,fun j x hj=>?_⟩
  cases j with
  | zero=>simp at hj; subst hj; exact ⟨c,[],f1,f2,rfl,by simp,h1⟩
  | succ j=>
   obtain ⟨c',g0,g1,g2,a1,rfl,a3⟩:=hg j x (by simpa using hj)
   exact ⟨c',f1++g0,g1,g2,by simpa using a1,by simp,a3⟩
theorem ixO {α V:Type} {S:STy α} {cl:α→V→List Value} {en:α→V→List Ent} {q:Bool} {d n e:Nat} {x y:Operand} {v:Value} {xs:List α} {k:IntKind} {j:Int} {t ty bt:TypeId} {f:α→Option M} [ht:SBc P t e n bt] (hx:opv fr x=some v) (hy:opv fr y=some (.int k j))
  (h1:Sel Γ (.own (aK e S) v xs) Γ1) (hs:SOoc S V cl en) (hn:S.size=n)
  (h:∀ z u us,D P cx (.p [] (.own (aK e (sCel n)) v us :: .rd false (sPu us j) (.bool true) (cl z u) :: en z u) fr Γ1 fun fr Γ=>.o q all l rk Γ ((d,.pointer (some (elA v n j))) :: fr) (f z))):D P cx (.e q (.indexAddr t x y) (some d) ty all l rk Γ fr (idx xs j>>=f)):=by
 refine D.of ?_
 intro B o ho r w ha hs' pos aft g
 replace hs:SOo S V cl en:=by cases hs; assumption
 obtain ⟨z,hz,ho⟩:=bind_some ho
 replace hz:=idx_some hz
 obtain ⟨q1,i,_,q2,_,_,q3,_⟩:=ht.h
 obtain ⟨Z,F,hS,hG⟩:=hs'
 obtain ⟨f0,F1,hp,hO,hS1⟩:=h1.sound hS
 have hlt:j.toNat < xs.length:=(List.getElem?_eq_some_iff.1 hz.2).1
 obtain ⟨base,cap,hv,hr⟩:=hO
 obtain rfl:v = .slice base xs.length cap:=by simpa using hv
 rcases hr with ⟨_,_,rfl,_⟩ | ⟨b,cur,f',rfl,hcell,rfl,hle,hmax,hsz,hrep⟩
 ·simp at hlt
 ·obtain ⟨us,hl,hru,hg⟩:=rows_cel hn hrep
  obtain ⟨c,g0,g1,g2,a1,rfl,a3⟩:=hg _ _ hz.2
  obtain ⟨u,rfl,hen⟩:=hs.op a3
  have hnew:(aK e (sCel n)).rep w.heap [.slice (some ⟨b,0,none⟩) xs.length cap] us [b]:=
   ⟨_,cap,by rw [hl],.inr ⟨b,cur,[],rfl,hcell,rfl,by rw [hl]; exact hle,hmax,by rw [hsz,hn]; rfl,by rw [hl,show (sCel n).size=S.size from hn.symm]; exact hru⟩⟩
  have hall:HL Z w (.own (aK e (sCel n)) (.slice (some ⟨b,0,none⟩) xs.length cap) us :: .rd false (sPu us j) (.bool true) (cl z u) :: en z u) ([b]++g1):=.own hnew (.fact ⟨[],⟨rfl,⟨hz.1,a1⟩,rfl⟩,fun _ h=>absurd h List.not_mem_nil⟩ (hen Z))
  obtain ⟨F',hp',hS2⟩:=hall.build hS1
  have hperm:(F'++(g0++g2)).Perm F:=by
   refine .trans ?_ hp
   refine (hp'.append_right _).trans ?_
   rw [List.cons_append,List.cons_append,List.cons_append,List.nil_append,List.cons_append]
   refine List.Perm.cons b ?_
   have e1:(g1++F1++(g0++g2)).Perm ((g0++g2)++(g1++F1)):=List.perm_append_comm
   refine e1.trans ?_
   rw [List.append_assoc,List.append_assoc,List.append_assoc]
   refine List.Perm.append_left g0 ?_
   rw [← List.append_assoc,← List.append_assoc]
   exact List.perm_append_comm.append_right F1
  refine erun_of (v:=.pointer (some (elA (.slice (some ⟨b,0,none⟩) xs.length cap) n j))) (fun w' hC=>?_) ((h z u us).sound B o ho _ w (agr_cons ha) ⟨Z,F',hS2,Gd.left (hG.perm hperm)⟩)
  rw [op_indexAddr q1 q2 (aU ha hx) (aU ha hy) hz.1 (by omega),q3]
  rfl
theorem apO {α V:Type} {S:STy α} {cl:α→V→List Value} {en:α→V→List Ent} (y:α) {u:V} {d b n e bt:Nat} {s x:Operand} {sv:Value} {xs:List α} {cs:List Value} {t et ty:TypeId} {f:Unit→Option M} [ht:SBc P t e n bt]
  (hs:opv fr s=some sv) (hx:opv fr x=some (.slice (some ⟨b,0,none⟩) 1 1)) (h0:Sel Γ (.row b cs et) Γ1) (h1:Sel Γ1 (.own (aK e S) sv xs) Γ2) (hso:SOoc S V cl en) (_hv:MkV V u) (hc:cs=cl y u) (hn:S.size=n) (he:EO Γ2 (en y u) Γ3)
  (h:∀ v,D P cx (.o false all l rk (.own (aK e S) v (xs++[y]) :: Γ3) ((d,v) :: fr) (f ()))):D P cx (.e false (.call ⟨.builtin .append,#[s,x],#[t,t]⟩) (some d) ty all l rk Γ fr (fits bt (xs.length+1)>>=f)):=by
 refine D.of ?_
 intro B o ho' r w ha hs' pos aft g
 have hso':SOo S V cl en:=by cases hso; assumption
 obtain ⟨_,hu,ho'⟩:=bind_some ho'
 obtain ⟨b1,b2⟩:=fits_some hu
 obtain ⟨q1,i,z,q2,q3,q4,q5,q6,_⟩:=ht.h
 obtain ⟨Z,F,hS,hG⟩:=hs'
 obtain ⟨n0,F0,hp0,⟨rfl,hrow⟩,hS0⟩:=h0.sound hS
 obtain ⟨k,F1,hp,hO,hS1⟩:=h1.sound hS0
 obtain ⟨Fd,F2,hho,hS2,hp2⟩:=he.sound hS1
 have hy:S.rep w.heap (cl y u) y Fd:=hso'.cl (ho_hl (hso'.ow y u) hho)
 have hperm:(((k++Fd)++F2)++[b]).Perm F:=by
  refine .trans ?_ hp0
  refine List.perm_append_comm.trans ?_
  refine List.Perm.append_left [b] ?_
  rw [List.append_assoc]
  exact (hp2.append_left k).trans hp
 have hG':Gd B Z ((k++Fd)++F2) w:=Gd.left (F':=[b]) (hG.perm hperm)
 have hnd:=(List.nodup_append.1 hG'.nd).1
 have hnk:=List.nodup_append.1 hnd
 subst hc
 obtain ⟨v,w',f',hrun,hC,hrep,hsub,hnd'⟩:=own_append (E:=S) (d:=some d) (ty:=ty) (pos:=pos) (aft:=aft) (g:=none) (k:=Fd) (ys:=[y]) (news:=cl y u) q1 q2 q3 (by rw [q5,hn]) (by rw [q4,hn]) (aU ha hs) hO hnk.1 (aU ha hx) (fun i u hi=>hrow.at i u hi) (repL_single hy) (fun b hb hm=>hnk.2.2 b hm b hb rfl) (by simp) (by rw [q6]; exact b1) b2
 refine erun_wl (WL.val rfl hrun ((h v).sound B o ho' _ w' (agr_cons ha) ?_))
 refine St.put hS2 hG' (hC.mono fun b hb=>List.mem_append_left _ hb) hrep (hnd' hnk.2.1) fun b hb=>?_
 rcases hsub b hb with h | h | h
 ·exact .inl (List.mem_append_left _ h)
 ·exact .inl (List.mem_append_right _ h)
 ·exact .inr h
end
end Go.Dk
namespace Go.Dk
open Go Go.Li
section
variable {P:Program} {n:Nat} {l:List Oper} {Q:Exit→(Nat→Value)→World→Prop} {S:World→Prop}
def Hw (P:Program) (n:Nat) (l:List Oper) (Q:Exit→(Nat→Value)→World→Prop) (S:World→Prop) (k:Nat) (L:Array Bool) (r:Nat→Value) (w:World):Prop:=
 ∀ a:Act,a.tmps.size=n→a.defers=[]→rho a=r→wpAnyH P .any l.toArray (fun e a' w'=>a'.tmps.size=n∧a'.defers=[]∧Q e (rho a') w') S k L a w
theorem dst_lt {i:Nat} {o:Oper} {a:Act} (hd:dstOk n l=true) (hi:l[i]? = some o) (h1:a.tmps.size=n):∀ k,o.dst=some k→k < a.tmps.size:=by
 intro k hk
 have hm:o∈l:=List.mem_of_getElem? hi
 simp only [dstOk,List.all_eq_true] at hd
 have:=hd o hm
 rw [hk] at this
 rw [h1]
 exact Nat.lt_of_succ_le (Nat.le_of_ble_eq_true this)
theorem Hw.take {k i:Nat} {L:Array Bool} {o:Oper} {v:Value} {r:Nat→Value} {w:World} (hd:dstOk n l=true) (hi:l[i]? = some o) (hs:Region.noSelect l.toArray=true) (hf:Region.free .any l.toArray L i=true) (hr:(Region.ready .any l.toArray L).contains i=true)
  (hp:∀ c r w,¬ Q (.panic c) r w) (hg:o.guard=none) (hy:∀ w,S w→(execOp (ev r) o).run P w = .ok (.value v) w) (hS:S w) (h:Hw P n l Q S k (L.setIfInBounds i true) (updO r o.dst v) w):Hw P n l Q S (k+1) L r w:=by
 intro a h1 h2 h3
 refine wpAnyH_take (v:=v) (by simpa using hi) hs hf hr (fun c a w h=>(hp _ _ _ h.2.2).elim) (.inl ⟨wanted_none hg,fun w hw=>?_⟩) hS (h _ (by rw [size_put]; exact h1) (by rw [defers_put]; exact h2) (by rw [rho_putO (dst_lt hd hi h1),h3]))
 rw [eval_rho,h3]
 exact hy w hw
theorem Hw.step {k i:Nat} {L:Array Bool} {o:Oper} {r:Nat→Value} {w w':World} (hd:dstOk n l=true) (hi:l[i]? = some o) (hr:Region.ready .any l.toArray L=[i]) (hg:o.guard=none) (hy:(execOp (ev r) o).run P w = .ok .skip w') (hS:S w') (h:Hw P n l Q S k (L.setIfInBounds i true) (updO r o.dst undef) w'):Hw P n l Q S (k+1) L r w:=by
 intro a h1 h2 h3
 refine wpAnyH_all hr (by simp) fun j hj=>?_
 obtain rfl:j=i:=by simpa using hj
 unfold wpOp
 rw [show (l.toArray)[j]? = some o by simpa using hi]
 simp only []
 rw [if_pos (wanted_none hg)]
 refine .inl ?_
 unfold Oper.wp
 rw [eval_rho,h3,hy]
 exact ⟨hS,h _ (by rw [size_put]; exact h1) (by rw [defers_put]; exact h2) (by rw [rho_putO (dst_lt hd hi h1),h3])⟩
theorem Hw.done {k:Nat} {L:Array Bool} {r:Nat→Value} {w:World} (hr:Region.ready .any l.toArray L=[]) (h:Q .normal r w):Hw P n l Q S k L r w:=
 fun _ h1 h2 h3=>wpAnyH_done hr ⟨h1,h2,by rw [h3]; exact h⟩ k
theorem Hw.start {r:Nat→Value} {w:World} (h:Hw P n l Q S l.length (Array.replicate l.length false) r { w with drawn:=w.drawn+1 }):AnyW P n l Q r w:=
 fun a h1 h2 h3=>wpAny_of_held _ _ _ _ (h a h1 h2 h3)
def QVs (P:Program) (S:World→Prop):List Oper→(Nat→Value)→((Nat→Value)→Prop)→Prop
 | [],r,K=>K r
 | o :: l,r,K=>o.guard=none∧∃ v,(∀ w,S w→(execOp (ev r) o).run P w = .ok (.value v) w)∧QVs P S l (updO r o.dst v) K
def chkS (l:List Oper):List Nat→Array Bool→Bool
 | [],L=>(Region.ready .any l.toArray L).isEmpty
 | i :: ss,L=>Nat.blt i l.length && (Region.ready .any l.toArray L == [i]) && chkS l ss (L.setIfInBounds i true)
def chkQ (l:List Oper) (ss:List Nat):List Nat→Array Bool→Bool
 | [],L=>chkS l ss L
 | i :: qs,L=>Nat.blt i l.length && (Region.ready .any l.toArray L).contains i && Region.free .any l.toArray L i && chkQ l ss qs (L.setIfInBounds i true)
def pick (l:List Oper) (is:List Nat):List Oper:=is.map fun i=>l.getD i default
theorem at_pick {i:Nat} (h:Nat.blt i l.length=true):l[i]? = some (l.getD i default):=by
 have h1:i < l.length:=Nat.lt_of_succ_le (Nat.le_of_ble_eq_true h)
 rw [List.getD_eq_getElem?_getD,List.getElem?_eq_getElem h1]; rfl
theorem Hw.quiet (hd:dstOk n l=true) (hs:Region.noSelect l.toArray=true) (hp:∀ c r w,¬ Q (.panic c) r w) {ss:List Nat} {w:World} (hS:S w) {K:(Nat→Value)→Prop} (h:∀ L r,chkS l ss L=true→K r→Hw P n l Q S ss.length L r w) :
  ∀ (qs:List Nat) (L:Array Bool) (r:Nat→Value),chkQ l ss qs L=true→QVs P S (pick l qs) r K→Hw P n l Q S (qs.length+ss.length) L r w:=by
 intro qs
 induction qs with
 | nil=>intro L r hc hv; rw [List.length_nil,Nat.zero_add]; exact h L r hc hv
 | cons i qs ih=>
  intro L r hc hv
  unfold chkQ at hc
  simp only [Bool.and_eq_true] at hc
  obtain ⟨⟨⟨c1,c2⟩,c3⟩,c4⟩:=hc
  obtain ⟨hg,v,h1,h2⟩:=hv
  have:=Hw.take hd (at_pick c1) hs c3 c2 hp hg h1 hS (ih _ _ c4 h2)
  rwa [show qs.length+ss.length+1=(i :: qs).length+ss.length by simp; omega] at this
end
inductive JQ
 | q (ops:List Oper) (fr:Fr)
 | la (a:Addr) (lk:Option Nat) (t:TypeId) (x:Operand) (d:Nat) (ty:TypeId) (pos:String) (aft:Array Edge) (ops:List Oper) (fr:Fr)
inductive QA (P:Program) (Γ:List Ent):JQ→Fr→Prop
 | nil {fr:Fr}:QA P Γ (.q [] fr) fr
 | ld {d:Nat} {t ty:TypeId} {x:Operand} {lk:Option Nat} {a:Addr} {pos:String} {aft:Array Edge} {ops:List Oper} {fr fr':Fr} [ht:LK P t lk] (hx:opv fr x=some (.pointer (some a))) (h:QA P Γ (.la a lk t x d ty pos aft ops fr) fr'):QA P Γ (.q (⟨some d,.load t x,ty,pos,aft,none⟩ :: ops) fr) fr'
 | val {d:Nat} {op:Op} {ty:TypeId} {u:Value} {pos:String} {aft:Array Edge} {ops:List Oper} {fr fr':Fr} (hv:VQ P Γ fr op u) (h:QA P Γ (.q ops ((d,u) :: fr)) fr'):QA P Γ (.q (⟨some d,op,ty,pos,aft,none⟩ :: ops) fr) fr'
 | lc {d:Nat} {t ty:TypeId} {x:Operand} {a:Addr} {u:Value} {pos:String} {aft:Array Edge} {ops:List Oper} {fr fr':Fr} (h:FndC Γ a u) (k:QA P Γ (.q ops ((d,u) :: fr)) fr'):QA P Γ (.la a none t x d ty pos aft ops fr) fr'
 | ls {d n:Nat} {t ty:TypeId} {x:Operand} {a:Addr} {ds:List Value} {pos:String} {aft:Array Edge} {ops:List Oper} {fr fr':Fr} (h:FndW Γ a n ds) (k:QA P Γ (.q ops ((d,.agg ds.toArray) :: fr)) fr'):QA P Γ (.la a (some n) t x d ty pos aft ops fr) fr'
inductive RO (fr:Fr):List Oper→List Ent→List (Nat×List Value×TypeId)→List Ent→Prop
 | nil {Γ:List Ent}:RO fr [] Γ [] Γ
 | cons {t ty e:TypeId} {x y:Operand} {b:Nat} {cs:List Value} {pos:String} {aft:Array Edge} {ops:List Oper} {Γ Γ1 Γ2:List Ent} {rs:List (Nat×List Value×TypeId)} (hx:opv fr x=some (.pointer (some ⟨b,0,none⟩))) (h:Sel Γ (.row b cs e) Γ1) (k:RO fr ops Γ1 rs Γ2):RO fr (⟨none,.store t x y,ty,pos,aft,none⟩ :: ops) Γ ((b,cs,e) :: rs) Γ2
inductive SQ (P:Program) (Γ:List Ent) (fr:Fr):List Oper→List (Nat×List Value×TypeId)→List (Nat×List Value×TypeId)→Prop
 | nil:SQ P Γ fr [] [] []
 | cons {n:Nat} {t ty e:TypeId} {x y:Operand} {b:Nat} {u:Value} {us cs ds:List Value} {pos:String} {aft:Array Edge} {ops:List Oper} {rs rs':List (Nat×List Value×TypeId)} [ht:STo P t n] (hx:opv fr x=some (.pointer (some ⟨b,0,none⟩))) (hy:opv fr y=some u) (hc:CellsD Γ u us) (hn:us.length=n) (hs:SegD us 0 cs ds) (ho:Ones Γ us) (k:SQ P Γ fr ops rs rs') :
   SQ P Γ fr (⟨none,.store t x y,ty,pos,aft,none⟩ :: ops) ((b,cs,e) :: rs) ((b,ds,e) :: rs')
def rowsE:List (Nat×List Value×TypeId)→List Ent
 | []=>[]
 | (b,cs,e) :: l=>.row b cs e :: rowsE l
def Rows (w:World) (rs:List (Nat×List Value×TypeId)):Prop:=∀ p∈rs,Row w p.1 p.2.1 p.2.2
section
variable {P:Program} {Γ Γ2:List Ent} {S:World→Prop} {Z:Nat→Prop}
def semQ (P:Program) (S:World→Prop):JQ→Fr→Prop
 | .q ops fr,fr'=>∀ r,agr r fr→QVs P S ops r fun r'=>agr r' fr'
 | .la a lk t x d ty pos aft ops fr,fr'=>(match lk with | none=>NA P t | some n=>AG P t n)→opv fr x=some (.pointer (some a))→∀ r,agr r fr→QVs P S (⟨some d,.load t x,ty,pos,aft,none⟩ :: ops) r fun r'=>agr r' fr'
theorem QA.sound {J:JQ} {fr':Fr} (hS:∀ w,S w→∃ cur F,SA Z w Γ cur F) (h:QA P Γ J fr'):semQ P S J fr':=by
 induction h with
 | nil=>exact fun r h=>h
 | @ld d t ty x lk a pos aft ops fr fr' ht hx _ ih=>exact fun r ha=>ih ht.h hx r ha
 | @val d op ty u pos aft ops fr fr' hv _ ih=>
  intro r ha
  refine ⟨rfl,u,fun w hw=>?_,ih _ (agr_cons ha)⟩
  obtain ⟨cur,F,h⟩:=hS w hw
  exact hv.sound h ha (some d) ty pos aft none w (Chg.refl _ _)
 | @lc d t ty x a u pos aft ops fr fr' h _ ih=>
  intro ht hx r ha
  refine ⟨rfl,u,fun w hw=>?_,ih _ (agr_cons ha)⟩
  obtain ⟨cur,F,hs⟩:=hS w hw
  exact Ld ht (h.sound hs) (aU ha hx) w (Chg.refl _ _)
 | @ls d n t ty x a ds pos aft ops fr fr' h _ ih=>
  intro ht hx r ha
  refine ⟨rfl,_,fun w hw=>?_,ih _ (agr_cons ha)⟩
  obtain ⟨cur,F,hs⟩:=hS w hw
  obtain ⟨h1,h2⟩:=h.sound hs
  exact Lg ht h1 (aU ha hx) h2 w (Chg.refl _ _)
theorem RO.sound {fr:Fr} {ops:List Oper} {rs:List (Nat×List Value×TypeId)} {w:World} (h:RO fr ops Γ rs Γ2):∀ {F:List Nat},SA Z w Γ [] F→∃ F2,(rs.map (·.1)++F2).Perm F∧Rows w rs∧SA Z w Γ2 [] F2:=by
 induction h with
 | nil=>intro F h; exact ⟨F,.refl _,fun _ h=>absurd h List.not_mem_nil,h⟩
 | @cons t ty e x y b cs pos aft ops Γ Γ1 Γ2 rs hx h _ ih=>
  intro F hS
  obtain ⟨f,F1,hp,⟨rfl,hrow⟩,hS1⟩:=h.sound hS
  obtain ⟨F2,hp2,hr,hS2⟩:=ih hS1
  refine ⟨F2,?_,fun p hp=>?_,hS2⟩
  ·exact .trans (List.Perm.cons b hp2) hp
  ·rcases List.mem_cons.1 hp with rfl | hp
   ·exact hrow
   ·exact hr p hp
theorem SQ.sound {n:Nat} {l:List Oper} {Q:Exit→(Nat→Value)→World→Prop} {fr:Fr} {ops:List Oper} {rs rs':List (Nat×List Value×TypeId)} {F2:List Nat} {w0:World} {r:Nat→Value} {F:List Nat} (hd:dstOk n l=true) (ha:agr r fr) (hSA:∀ w,Chg F w0 w→SA Z w Γ2 [] F2) (h:SQ P Γ2 fr ops rs rs') :
  ∀ (ss:List Nat) (L:Array Bool) (w:World),ops=pick l ss→chkS l ss L=true→Chg F w0 w→Rows w rs→(rs.map (·.1)).Nodup→(∀ b∈rs.map (·.1),b∈F)→(∀ w',Chg (rs.map (·.1)) w w'→Rows w' rs'→Q .normal r w')→Hw P n l Q (Chg F w0) ss.length L r w:=by
 induction h with
 | nil=>
  intro ss L w ho hc hC hR hn hF hk
  cases ss with
  | cons i ss=>cases ho
  | nil=>
   exact Hw.done (by simpa [chkS] using hc) (hk w (Chg.refl _ _) hR)
 | @cons n' t ty e x y b u us cs ds pos aft ops rs rs' ht hx hy hcl hn hsg hon _ ih=>
  intro ss L w ho hc hC hR hnd hF hk
  cases ss with
  | nil=>cases ho
  | cons i ss=>
   unfold chkS at hc
   simp only [Bool.and_eq_true] at hc
   obtain ⟨⟨c1,c2⟩,c3⟩:=hc
   have ho':l.getD i default = ⟨none,.store t x y,ty,pos,aft,none⟩∧ops=pick l ss:=by
    unfold pick at ho
    rw [List.map_cons,List.cons.injEq] at ho
    exact ⟨ho.1.symm,ho.2⟩
   have hi:=at_pick c1
   rw [ho'.1] at hi
   obtain ⟨ti,q1,q2⟩:=ht.h
   have hrow:Row w b cs e:=hR (b,cs,e) (by simp)
   obtain ⟨e1,e2⟩:=hsg.eq
   have hSw:=hSA w hC
   have hrun:=op_storeSeg (P:=P) (d:=none) (ty:=ty) (pos:=pos) (aft:=aft) (gg:=none) q1 (by rw [hn,q2]) hrow e1 (aU ha hx) (y:=y) (by rw [aU ha hy]; exact hcl.eq hSw) (hon.one hSw)
   have hrow':=setRow_heap w b cs.toArray (cs.take 0++us++cs.drop (0+us.length)).toArray e _ hrow
   have hC1:Chg [b] w (w.setRow b (cs.take 0++us++cs.drop (0+us.length)).toArray):=⟨rfl,rfl,rfl,Nat.le_refl _,by simp,fun j _ hj=>setRow_other w b j _ fun h=>hj (by simp [h])⟩
   have hC2:=hC.trans (hC1.mono fun b' hb'=>by rw [List.mem_singleton.1 hb']; exact hF b (by simp))
   rw [List.map_cons,List.nodup_cons] at hnd
   refine Hw.step hd hi (by simpa using c2) rfl hrun hC2 (ih ss _ _ ho'.2 c3 hC2 (fun p hp=>(hR p (List.mem_cons_of_mem _ hp)).keep hC1 fun hb=>hnd.1 ?_) hnd.2 (fun b' hb'=>hF b' (by simp at hb' ⊢; exact .inr hb')) fun w' hC' hR'=>?_)
   ·rw [← List.mem_singleton.1 hb]; exact List.mem_map_of_mem (f:=fun q=>q.1) hp
   ·refine hk w' ((hC1.mono (by simp)).trans (hC'.mono fun b' hb'=>List.mem_cons_of_mem _ hb')) fun p hp=>?_
    rcases List.mem_cons.1 hp with rfl | hp
    ·refine Row.keep (F:=rs.map (·.1)) ?_ hC' hnd.1
     rw [e2]
     exact hrow'
    ·exact hR' p hp
theorem SQ.fst {fr:Fr} {ops:List Oper} {rs rs':List (Nat×List Value×TypeId)} (h:SQ P Γ fr ops rs rs'):rs'.map (·.1)=rs.map (·.1):=by
 induction h with
 | nil=>rfl
 | cons _ _ _ _ _ _ _ ih=>simp only [List.map_cons,ih]
theorem rowsE_hl {w:World}:∀ {rs:List (Nat×List Value×TypeId)},Rows w rs→HL Z w (rowsE rs) (rs.map (·.1))
 | [],_=>.nil
 | (b,cs,e) :: l,h=>.own (f:=[b]) (e:=.row b cs e) ⟨rfl,h (b,cs,e) (by simp)⟩ (rowsE_hl fun p hp=>h p (List.mem_cons_of_mem _ hp))
end
section
variable {R S:Type} {P:Program} {cx:Cx R} {K:Kont R S} {l:List Oper}
theorem anyS {id:Nat} (qs ss:List Nat) {qops sops:List Oper} {Γ Γ1:List Ent} {fr fr':Fr} {rs rs':List (Nat×List Value×TypeId)} {m:Option (Out S R)}
  (hB:(P.follows .mixedOrders && dstOk cx.n l && Region.noSelect l.toArray && chkQ l ss qs (Array.replicate l.length false) && Nat.beq l.length (qs.length+ss.length))=true)
  (hq:qops=pick l qs) (hs:sops=pick l ss) (h1:RO fr sops Γ rs Γ1) (h2:QA P Γ1 (.q qops fr) fr') (h3:SQ P Γ1 fr' sops rs rs')
  (h:D P cx (.p [] (rowsE rs') fr' Γ1 fun fr Γ=>.n K Γ fr m)):Bx (sem P cx (.dr id l K Γ fr m)):=by
 simp only [Bool.and_eq_true] at hB
 obtain ⟨⟨⟨⟨b1,b2⟩,b3⟩,b4⟩,b5⟩:=hB
 rw [bx_eq]
 intro B o ho r w ha hst
 obtain ⟨Z,F,hS,hG⟩:=hst
 obtain ⟨F2,hp,hR,hS2⟩:=h1.sound hS
 have hG':=hG.perm hp
 have hnd:=List.nodup_append.1 hG'.nd
 refine AnyW.W b1 (Hw.start (S:=Chg (rs.map (·.1)) { w with drawn:=w.drawn+1 }) ?_)
 have hCd:Chg [] w { w with drawn:=w.drawn+1 }:=Chg.drew _ _
 have hSA:∀ w',Chg (rs.map (·.1)) { w with drawn:=w.drawn+1 } w'→SA Z w' Γ1 [] F2:=fun w' hC=>(hS2.keep0 hCd).keep hC (fun b hb=>hG'.apart b (List.mem_append_left _ hb)) (fun b _=>List.not_mem_nil) (fun b hb hm=>hnd.2.2 b hb b hm rfl)
 rw [show l.length=qs.length+ss.length from Nat.eq_of_beq_eq_true b5] at b4 ⊢
 subst hq hs
 refine Hw.quiet (K:=fun r'=>agr r' fr') b2 b3 (fun c r w h=>postK_panic c h) (Chg.refl _ _) (fun L r' hc hr'=>?_) qs _ r b4 (QA.sound (fun w' hC=>⟨[],F2,hSA w' hC⟩) h2 r ha)
 refine SQ.sound b2 hr' hSA h3 ss L _ rfl hc (Chg.refl _ _) (fun p hp=>(hR p hp).keep0 hCd) hnd.1 (fun b hb=>hb) fun w' hC hR'=>?_
 obtain ⟨F3,e1,e2⟩:=HL.build (rowsE_hl hR') (hSA w' hC)
 have hC2:Chg (rs.map (·.1)) w w':=(hCd.mono fun b hb=>absurd hb List.not_mem_nil).trans hC
 rw [h3.fst] at e1
 have hlow:∀ b∈rs.map (·.1),b∈B.G∨B.w.heap.size≤b:=fun b hb=>hG'.low b (List.mem_append_left _ hb)
 have hg2:Gd B Z (rs.map (·.1)++F2) w':=⟨hG'.nd,hG'.apart,fun b hb=>Nat.lt_of_lt_of_le (hG'.zlt b hb) hC2.size,hG'.low,hG'.zup,hG'.zlow,hG'.chg.then hC2 hlow⟩
 exact h.sound B o ho r' w' (by simpa using hr') ⟨Z,F3,e2,hg2.perm e1⟩
end
theorem Hw.all {P:Program} {n k:Nat} {l:List Oper} {Q:Exit→(Nat→Value)→World→Prop} {S:World→Prop} {L:Array Bool} {rs:List Nat} {r:Nat→Value} {w:World} (hd:dstOk n l=true) (hr:Region.ready .any l.toArray L=rs) (hne:rs≠[])
  (h:∀ i∈rs,∃ o,l[i]? = some o∧o.guard=none∧∃ v w',((execOp (ev r) o).run P w = .ok (.value v) w'∨(execOp (ev r) o).run P w = .ok .skip w'∧v=undef)∧S w'∧Hw P n l Q S k (L.setIfInBounds i true) (updO r o.dst v) w'):Hw P n l Q S (k+1) L r w:=by
 intro a h1 h2 h3
 refine wpAnyH_all hr hne fun j hj=>?_
 obtain ⟨o,hi,hg,v,w',hy,hS,hk⟩:=h j hj
 unfold wpOp
 rw [show (l.toArray)[j]? = some o by simpa using hi]
 simp only []
 rw [if_pos (wanted_none hg)]
 refine .inl ?_
 unfold Oper.wp
 rw [eval_rho,h3]
 rcases hy with hy | ⟨hy,rfl⟩
 ·rw [hy]
  exact ⟨hS,hk _ (by rw [size_put]; exact h1) (by rw [defers_put]; exact h2) (by rw [rho_putO (dst_lt hd hi h1),h3])⟩
 ·rw [hy]
  exact ⟨hS,hk _ (by rw [size_put]; exact h1) (by rw [defers_put]; exact h2) (by rw [rho_putO (dst_lt hd hi h1),h3])⟩
def on (L:Array Bool) (i:Nat):Array Bool:=L.setIfInBounds i true
def rdy (l:List Oper) (L:Array Bool) (rs:List Nat):Bool:=Region.ready .any l.toArray L == rs
inductive BlkD (P:Program) (Γ:List Ent) (fr:Fr) (d:Nat):Oper→Oper→TypeId→List Value→Prop
 | mk {t ty ty2:TypeId} {y:Operand} {u:Value} {n:Nat} {us cs ds:List Value} {pos pos2:String} {aft aft2:Array Edge} [hz:ZVc P t cs] [ht:STo P t n] (hn:look fr d=none) (hy:opv fr y=some u) (hc:CellsD Γ u us) (hl:us.length=n) (hs:SegD us 0 cs ds) (ho:Ones Γ us) :
   BlkD P Γ fr d ⟨some d,.alloc t,ty,pos,aft,none⟩ ⟨none,.store t (.tmp d) y,ty2,pos2,aft2,none⟩ t ds
section
variable {P:Program} {Γ:List Ent} {Z:Nat→Prop} {fr:Fr} {w:World} {cur F:List Nat}
theorem BlkD.alloc {d:Nat} {oa os:Oper} {t:TypeId} {ds:List Value} (h:BlkD P Γ fr d oa os t ds) (r:Nat→Value) (w:World):oa.guard=none∧oa.dst=some d∧look fr d=none∧∃ cs w',(execOp (ev r) oa).run P w = .ok (.value (.pointer (some ⟨w.heap.size,0,none⟩))) w'∧Chg [] w w'∧Row w' w.heap.size cs t∧
  ∀ (r':Nat→Value) (w1:World) (b:Nat) cur F,SA Z w1 Γ cur F→agr r' fr→r' d = .pointer (some ⟨b,0,none⟩)→Row w1 b cs t→∃ w2,(execOp (ev r') os).run P w1 = .ok .skip w2∧Chg [b] w1 w2∧Row w2 b ds t:=by
 cases h with
 | @mk t ty ty2 y u n us cs ds pos pos2 aft aft2 hz ht hn hy hc hl hs ho=>
  obtain ⟨i',z,t1,t2,t3⟩:=hz.h
  refine ⟨rfl,rfl,hn,z.cells.toList,_,op_alloc t1 t2,Chg.alloc _ _ _,?_,?_⟩
  ·have:=heap_alloc_new w (.cells z.cells t (0,0))
   unfold Row
   simpa using this
  ·intro r' w1 b cur F hS ha hr hrow
   rw [t3] at hrow
   obtain ⟨ti,q1,q2⟩:=ht.h
   obtain ⟨e1,e2⟩:=hs.eq
   have hrun:=op_storeSeg (P:=P) (d:=none) (ty:=ty2) (pos:=pos2) (aft:=aft2) (gg:=none) q1 (by rw [hl,q2]) hrow e1 (x:=.tmp d) hr (y:=y) (by rw [aU ha hy]; exact hc.eq hS) (ho.one hS)
   refine ⟨_,hrun,⟨rfl,rfl,rfl,Nat.le_refl _,by simp,fun j _ hj=>setRow_other w1 b j _ fun h=>hj (by simp [h])⟩,?_⟩
   have hrow':=setRow_heap w1 b cs.toArray (cs.take 0++us++cs.drop (0+us.length)).toArray t _ hrow
   rw [e2]
   exact hrow'
theorem BlkD.st {d:Nat} {oa os:Oper} {t:TypeId} {ds:List Value} (h:BlkD P Γ fr d oa os t ds):os.guard=none∧os.dst=none:=by
 cases h; exact ⟨rfl,rfl⟩
theorem rdy_of {l:List Oper} {L:Array Bool} {rs:List Nat} (h:rdy l L rs=true):Region.ready .any l.toArray L=rs:=by
 unfold rdy at h
 simpa using h
variable {n:Nat} {l:List Oper} {Q:Exit→(Nat→Value)→World→Prop} {w0:World} {F2:List Nat} {a1 a2 s1 s2 d1 d2:Nat} {oa1 oa2 os1 os2:Oper} {t1 t2:TypeId} {ds1 ds2:List Value} {L:Array Bool} {r:Nat→Value}
end
section
variable {R S:Type} {P:Program} {cx:Cx R} {K:Kont R S} {l:List Oper}
end
end Go.Dk
namespace Go.Dk
open Go Go.Li
def edO (i:Nat) (o:Oper):Oper:=⟨o.dst,o.op,o.type,o.pos,o.after.push ⟨i,.data⟩,o.guard⟩
def edL (i:Nat):Nat→List Oper→List Oper
 | _,[]=>[]
 | 0,o :: l=>edO i o :: l
 | j+1,o :: l=>o :: edL i j l
theorem edL_len (i:Nat):∀ (j:Nat) (l:List Oper),(edL i j l).length=l.length
 | _,[]=>by cases ‹Nat› <;> rfl
 | 0,_ :: _=>rfl
 | j+1,o :: l=>by unfold edL; rw [List.length_cons,List.length_cons,edL_len i j l]
theorem edL_get (i:Nat):∀ (j:Nat) (l:List Oper) (k:Nat),(edL i j l)[k]? = (l[k]?).map fun o=>if k=j then edO i o else o
 | 0,[],k=>by simp [edL]
 | j+1,[],k=>by simp [edL]
 | 0,o :: l,0=>by simp [edL]
 | 0,o :: l,k+1=>by simp [edL]
 | j+1,o :: l,0=>by simp [edL]
 | j+1,o :: l,k+1=>by
  unfold edL
  rw [List.getElem?_cons_succ,List.getElem?_cons_succ,edL_get i j l k]
  simp
section
variable {P:Program} {l:List Oper} {Q:Exit→Act→World→Prop} {i j:Nat}
theorem edL_yielded (tmps:Array Value):yielded (edL i j l).toArray tmps=yielded l.toArray tmps:=by
 funext k
 simp only [yielded]
 rw [List.getElem?_toArray,List.getElem?_toArray,edL_get]
 cases l[k]? with
 | none=>rfl
 | some o=>
  simp only [Option.map_some,Option.bind_some]
  by_cases h:k=j
  ·rw [if_pos h]; rfl
  ·rw [if_neg h]
theorem edL_wpOp {k:Nat} {K:Act→World→Prop} {a:Act} {w:World}:wpOp P (edL i j l).toArray Q k K a w=wpOp P l.toArray Q k K a w:=by
 unfold wpOp
 rw [edL_yielded,List.getElem?_toArray,List.getElem?_toArray,edL_get]
 cases l[k]? with
 | none=>rfl
 | some o=>
  simp only [Option.map_some]
  by_cases h:k=j
  ·rw [if_pos h]; rfl
  ·rw [if_neg h]
theorem edL_ready {L:Array Bool} (hL:L.getD i false=true):Region.ready .any (edL i j l).toArray L=Region.ready .any l.toArray L:=by
 unfold Region.ready
 rw [List.size_toArray,List.size_toArray,edL_len]
 refine List.filter_congr fun k _=>?_
 rw [List.getElem?_toArray,List.getElem?_toArray,edL_get]
 cases l[k]? with
 | none=>rfl
 | some o=>
  simp only [Option.map_some]
  by_cases h:k=j
  ·rw [if_pos h]
   simp only [edO,Array.all_push,hL,Bool.or_true,Bool.and_true]
  ·rw [if_neg h]
theorem edL_wpAny:∀ (fuel:Nat) (L:Array Bool) (a:Act) (w:World),L.getD i false=true→wpAny P .any (edL i j l).toArray Q fuel L a w→wpAny P .any l.toArray Q fuel L a w
 | 0,L,a,w,hL,h=>by
  unfold wpAny at h ⊢
  rw [edL_ready hL] at h
  exact h
 | fuel+1,L,a,w,hL,h=>by
  unfold wpAny at h ⊢
  rw [edL_ready hL] at h
  refine ⟨h.1,fun k hk=>?_⟩
  have h2:=h.2 k hk
  rw [edL_wpOp] at h2
  exact wpOp_mono (fun a' w' h'=>edL_wpAny fuel _ a' w' (getD_set_true hL) h') h2
end
def mvB:Oper→Bool
 | ⟨some _,.move _,_,_,_,none⟩=>true
 | _=>false
def chkE:List (Nat×Nat)→List Oper→Bool
 | [],_=>true
 | (i,j) :: zs,l=>!(Nat.beq i j) && Nat.blt i l.length && mvB (l.getD i default) && Region.noSelect l.toArray && Region.free .any l.toArray (Array.replicate l.length false) i && (Region.ready .any l.toArray (Array.replicate l.length false)).contains i && (Region.ready .any (edL i j l).toArray (Array.replicate l.length false)).contains i && chkE zs (edL i j l)
def edLs:List (Nat×Nat)→List Oper→List Oper
 | [],l=>l
 | (i,j) :: zs,l=>edLs zs (edL i j l)
section
variable {P:Program} {n:Nat} {Q:Exit→(Nat→Value)→World→Prop} {r:Nat→Value} {w w0:World}
theorem mv_spec {o:Oper} (h:mvB o=true) (a:Act):o.guard=none∧∃ v,(∀ w,(execOp a.eval o).run P w = .ok (.value v) w)∧∀ w,¬ o.asks P a w:=by
 obtain ⟨d,op,ty,pos,aft,g⟩:=o
 cases d <;> cases op <;> cases g <;> first | (cases h; done) | skip
 refine ⟨rfl,_,fun w=>rfl,fun w ha=>?_⟩
 have h1:=ha.1
 exact absurd (show noRoomEvent∈(#[]:Array _) from h1) (by simp)
theorem AnyW.edge {i j:Nat} {l:List Oper} (h1:(!(Nat.beq i j) && Nat.blt i l.length && mvB (l.getD i default) && Region.noSelect l.toArray && Region.free .any l.toArray (Array.replicate l.length false) i && (Region.ready .any l.toArray (Array.replicate l.length false)).contains i && (Region.ready .any (edL i j l).toArray (Array.replicate l.length false)).contains i)=true)
  (hp:∀ c r w,¬ Q (.panic c) r w) (h:AnyW P n (edL i j l) Q r w):AnyW P n l Q r w:=by
 simp only [Bool.and_eq_true] at h1
 obtain ⟨⟨⟨⟨⟨⟨c1,c2⟩,c3⟩,c4⟩,c5⟩,c6⟩,c7⟩:=h1
 have hne:i≠j:=fun e=>by rw [e,Nat.beq_refl] at c1; cases c1
 have hi:=at_pick c2
 have hlt:i < l.length:=Nat.lt_of_succ_le (Nat.le_of_ble_eq_true c2)
 intro a g1 g2 g3
 have H:=h a g1 g2 g3
 obtain ⟨hg,v,hv,hn⟩:=mv_spec (P:=P) c3 a
 rw [List.size_toArray,edL_len] at H
 rw [List.size_toArray]
 obtain ⟨f,hf⟩ : ∃ f,l.length=f+1:=⟨l.length - 1,by omega⟩
 have hw:Region.wanted (l.getD i default) (yielded l.toArray a.tmps)=true:=wanted_none hg
 refine (congrArg (fun k=>wpAny P .any l.toArray _ k _ a _) hf).mpr ?_
 refine wpAny_take (by simpa using hi) c4 (by simpa using c5) (by simpa using c6) (fun c a w h=>(hp _ _ _ h.2.2).elim) (.inl ⟨hw,hv⟩) ?_
 refine edL_wpAny (i:=i) (j:=j) f _ _ _ ?_ ?_
 ·have:i < (Array.replicate l.length false).size:=by simpa using hlt
  simp [Array.getD,hlt]
 ·have H2:=(congrArg (fun k=>wpAny P .any (edL i j l).toArray (fun e a' w'=>a'.tmps.size=n∧a'.defers=[]∧Q e (rho a') w') k (Array.replicate l.length false) a { w with drawn:=w.drawn+1 }) hf).mp H
  have H3:=H2.2 i (by simpa using c7)
  rw [edL_wpOp] at H3
  unfold wpOp at H3
  rw [show (l.toArray)[i]? = some (l.getD i default) by simpa using hi] at H3
  simp only [] at H3
  rw [if_pos hw] at H3
  rcases H3 with H3 | H3
  ·unfold Oper.wp at H3
   rw [hv] at H3
   exact H3
  ·exact absurd H3.1 (hn _)
theorem AnyW.edges:∀ (zs:List (Nat×Nat)) {l:List Oper},chkE zs l=true→(∀ c r w,¬ Q (.panic c) r w)→AnyW P n (edLs zs l) Q r w→AnyW P n l Q r w
 | [],_,_,_,h=>h
 | (i,j) :: zs,l,hc,hp,h=>by
  unfold chkE at hc
  rw [Bool.and_eq_true] at hc
  exact AnyW.edge hc.1 hp (AnyW.edges zs hc.2 hp h)
theorem AnyW_tail (k:Nat) {l:List Oper} (hd:dstOk n l=true) (hp:((l.take k).all fun o=>plainB o.op)=true) (hB:Region.lexTailB .any l.toArray k=true)
  (h:QL P (Chg [] w) l (l.take k) r fun r'=>∀ w',Chg [] w w'→WL P l (l.drop k) r' w' (Q .normal)):AnyW P n l Q r w:=by
 intro a h1 h2 h3
 have hC1:Chg [] w { w with drawn:=w.drawn+1 }:=Chg.drew _ _
 have hst:wpStill P l.toArray { w with drawn:=w.drawn+1 } (fun a'=>wpList P l.toArray (fun e a' w'=>a'.tmps.size=n∧a'.defers=[]∧Q e (rho a') w') (l.drop k) a' { w with drawn:=w.drawn+1 }) (l.take k) a:=by
  refine QL.still (n:=n) (C:=Chg [] w) hC1 hd (l.take k) a (dstOk_of hd fun o ho=>List.mem_of_mem_take ho) hp h1 h2 (by rw [h3]; exact h) _ ?_
  intro a' g1 g2 g3
  exact WL.list hd _ _ _ (dstOk_of hd fun o ho=>List.mem_of_mem_drop ho) g1 g2 (g3 _ hC1)
 unfold Region.lexTailB at hB
 simp only [Bool.and_eq_true,decide_eq_true_eq,List.size_toArray] at hB
 obtain ⟨⟨⟨⟨hsel,hn⟩,hs⟩,hc⟩,hlex⟩:=hB
 have htl:(l.take k).length=k:=by rw [List.length_take]; omega
 have inv0:HeadInv .any l.toArray k (Array.replicate l.length false):=
  ⟨by simp,fun j oj _ hl=>(by rw [getD_replicate_false] at hl; cases hl),fun t _ ht=>getD_in (by simpa using ht) (getD_replicate_false _ _)⟩
 have H:=wpAnyL_lex (md:=.any) (g:=l.length - k) hsel hs hc (by simpa using hn) (l.take k) 0 _ a (fun j hj=>by
  rw [htl] at hj
  rw [List.getElem?_take_of_lt hj,Nat.zero_add,List.getElem?_toArray]) (by rw [htl,Nat.zero_add]) inv0 (by rw [htl]; exact hlex) hst
 have H2:=wpAny_of_head (Q':=fun e a' w'=>a'.tmps.size=n∧a'.defers=[]∧Q e (rho a') w') (g:=l.length - k) (fun L a' hL=>by
  have H3:=wpAny_of_seq (md:=.any) (Q':=fun e a' w'=>a'.tmps.size=n∧a'.defers=[]∧Q e (rho a') w') (l.drop k) k L a' { w with drawn:=w.drawn+1 } (fun j=>by rw [List.getElem?_drop,List.getElem?_toArray]) (by rw [List.length_drop]; exact hL.1) hL.2
  rwa [List.length_drop] at H3) _ _ _ H
 rw [htl,show k+(l.length - k)=l.length by omega] at H2
 rw [List.size_toArray]
 exact H2
end
section
variable {R S:Type} {P:Program} {cx:Cx R} {K:Kont R S}
theorem tailZ {id:Nat} (zs:List (Nat×Nat)) (k:Nat) {l l' ops tl:List Oper} {Γ:List Ent} {fr:Fr} {m:Option (Out S R)} (hl:l'=edLs zs l) (hB:(P.follows .mixedOrders && chkE zs l && dstOk cx.n l' && ((l'.take k).all fun o=>plainB o.op) && Region.lexTailB .any l'.toArray k)=true) (ho:ops=l'.take k) (ht:tl=l'.drop k)
  (h:D P cx (.o true l' ops (.h l' tl K) Γ fr m)):Bx (sem P cx (.dr id l K Γ fr m)):=by
 simp only [Bool.and_eq_true] at hB
 obtain ⟨⟨⟨⟨h1,h2⟩,h3⟩,h4⟩,h5⟩:=hB
 subst ho ht hl
 rw [bx_eq]
 intro B o ho r w ha hs
 exact AnyW.W h1 (AnyW.edges zs h2 (fun c r w h=>postK_panic c h) (AnyW_tail k h3 h4 h5 (h.sound B o ho r w ha hs)))
end
end Go.Dk
namespace Go.Dk
open Go Go.Li
section
variable {B:Bs} {P:Program} {Z Z':Nat→Prop} {w:World} {Fd F1:List Nat}
theorem call_step2 {f:FuncId} {ow:Bool} {vs:List Value} {Δ:List Ent} {β V:Type} {mo:Option β} {rt:β→V→List Value} {ps:β→V→List Ent} {y:β} (hc:CtS P f ow vs Δ β V mo rt ps) (hl:HL Z' w Δ Fd) (hlt:∀ b∈F1,b < w.heap.size) (hG2:Gd B Z (Fd++F1) w)
  (hz:∀ b,Z b→Z' b) (hz2:∀ b,Z' b→Z b∨b∈F1) (hm:∀ v,owB (ps y v)=true) (hy:mo=some y) :
  Calls P f vs.toArray w fun e w'=>∃ v F2,e = .returned (tupv (rt y v))∧Chg Fd w w'∧HL Z w' (ps y v) F2∧Gd B Z (F2++F1) w':=by
 have hnd:=List.nodup_append.1 hG2.nd
 refine (hc.2 w Z' Fd hl hnd.1 (fun b hb hzb=>(hz2 b hzb).elim (hG2.apart b (List.mem_append_left _ hb)) (fun h=>hnd.2.2 b hb b h rfl)) (fun b hb=>(hz2 b hb).elim (hG2.zlt b) (hlt b)) y hy).mono ?_
 rintro e w' ⟨v,he,Z2,F2,hl2,hg2⟩
 have hC:Chg Fd w w':=hg2.chg
 refine ⟨v,F2,he,hC,hl_own (hm v) hl2,?_⟩
 refine ⟨List.nodup_append.2 ⟨hg2.nd,hnd.2.1,?_⟩,?_,fun b hb=>Nat.lt_of_lt_of_le (hG2.zlt b hb) hC.size,?_,hG2.zup,hG2.zlow,?_⟩
 ·rintro b hb c hc' rfl
  rcases hg2.low b hb with h | h
  ·exact hnd.2.2 b h b hc' rfl
  ·exact absurd (hlt b hc') (Nat.not_lt.2 h)
 ·intro b hb hz3
  rcases List.mem_append.1 hb with hb | hb
  ·exact hg2.apart b hb (hg2.zup b (hz b hz3))
  ·exact hG2.apart b (List.mem_append_right _ hb) hz3
 ·intro b hb
  rcases List.mem_append.1 hb with hb | hb
  ·rcases hg2.low b hb with h | h
   ·exact hG2.low b (List.mem_append_left _ h)
   ·exact .inr (Nat.le_trans hG2.chg.size h)
  ·exact hG2.low b (List.mem_append_right _ hb)
 ·exact hG2.chg.then hC fun i hi=>hG2.low i (List.mem_append_left _ hi)
end
section
variable {P:Program} {S:World→Prop}
theorem QVs.mono {K K':(Nat→Value)→Prop} (hk:∀ r,K r→K' r):∀ {ops:List Oper} {r:Nat→Value},QVs P S ops r K→QVs P S ops r K'
 | [],_,h=>hk _ h
 | _ :: _,_,⟨hg,v,h1,h2⟩=>⟨hg,v,h1,QVs.mono hk h2⟩
end
inductive QX {R S:Type} (P:Program) (cx:Cx R) (K:Kont R S) (sops:List Oper) (rs:List (Nat×List Value×TypeId)) (pe:List Ent):List Ent→List Ent→List Oper→Fr→Option (Out S R)→Prop
 | pe {e:Ent} {Δ Γ:List Ent} {ops:List Oper} {fr:Fr} {m:Option (Out S R)} (h:QX P cx K sops rs pe Δ (e :: Γ) ops fr m):QX P cx K sops rs pe (e :: Δ) Γ ops fr m
 | nil {Γ:List Ent} {fr:Fr} {m:Option (Out S R)} {rs':List (Nat×List Value×TypeId)} (h:SQ P Γ fr sops rs rs') (k:D P cx (.p [] pe fr Γ fun fr Γ=>.p [] (rowsE rs') fr Γ fun fr Γ=>.n K Γ fr m)):QX P cx K sops rs pe [] Γ [] fr m
 | las {d n:Nat} {t ty:TypeId} {x:Operand} {a:Addr} {ds:List Value} {pos:String} {aft:Array Edge} {ops:List Oper} {Γ:List Ent} {fr:Fr} {m:Option (Out S R)} [ht:LK P t (some n)] (hx:opv fr x=some (.pointer (some a))) (hw:FndW Γ a n ds) (h:QX P cx K sops rs pe [] Γ ops ((d,.agg ds.toArray) :: fr) m) :
   QX P cx K sops rs pe [] Γ (⟨some d,.load t x,ty,pos,aft,none⟩ :: ops) fr m
 | idxS {α V:Type} {d n:Nat} {x y:Operand} {v:Value} {k:IntKind} {j:Int} {t ty:TypeId} {S':STy α} {cl:α→V→List Value} {en:α→V→List Ent} {xs:List α} {pos:String} {aft:Array Edge} {ops:List Oper} {Γ Γx:List Ent} {fr:Fr} {f:α→Option (Out S R)} [ht:SNc P t n] (hx:opv fr x=some v) (hy:opv fr y=some (.int k j))
   (hr:Fnd Γ v false false (sStr S') xs noE Γx) (hs:SOc S' V cl en) (hn:S'.size=n) (h:∀ z u,QX P cx K sops rs pe (.ats (elA v n j) (cl z u) :: en z u) Γ ops ((d,.pointer (some (elA v n j))) :: fr) (f z)) :
   QX P cx K sops rs pe [] Γ (⟨some d,.indexAddr t x y,ty,pos,aft,none⟩ :: ops) fr (idx xs j>>=f)
 | lc {d:Nat} {t ty:TypeId} {x:Operand} {a:Addr} {u:Value} {pos:String} {aft:Array Edge} {ops:List Oper} {Γ:List Ent} {fr:Fr} {m:Option (Out S R)} [ht:LK P t none] (hx:opv fr x=some (.pointer (some a))) (hw:FndC Γ a u) (h:QX P cx K sops rs pe [] Γ ops ((d,u) :: fr) m) :
   QX P cx K sops rs pe [] Γ (⟨some d,.load t x,ty,pos,aft,none⟩ :: ops) fr m
 | val {d:Nat} {op:Op} {ty:TypeId} {u:Value} {pos:String} {aft:Array Edge} {ops:List Oper} {Γ:List Ent} {fr:Fr} {m:Option (Out S R)} (hv:VQ P Γ fr op u) (h:QX P cx K sops rs pe [] Γ ops ((d,u) :: fr) m):QX P cx K sops rs pe [] Γ (⟨some d,op,ty,pos,aft,none⟩ :: ops) fr m
section
variable {R S:Type} {P:Program} {cx:Cx R} {K:Kont R S} {sops:List Oper} {rs:List (Nat×List Value×TypeId)} {pe:List Ent} {Z:Nat→Prop}
theorem QX.sound {w0:World} {H:List Nat} (hz:∀ b∈H,¬ Z b) {Δ Γ:List Ent} {ops:List Oper} {fr:Fr} {m:Option (Out S R)} (h:QX P cx K sops rs pe Δ Γ ops fr m):∀ {o:Out S R} {F:List Nat},m=some o→(∀ b∈H,b ∉ F)→SA Z w0 (Δ.reverse++Γ) [] F→∀ r,agr r fr→
  QVs P (Chg H w0) ops r fun r'=>∃ Γ' fr' rs' m' F',F'.Perm F∧m'=some o∧agr r' fr'∧SA Z w0 Γ' [] F'∧SQ P Γ' fr' sops rs rs'∧D P cx (.p [] pe fr' Γ' fun fr Γ=>.p [] (rowsE rs') fr Γ fun fr Γ=>.n K Γ fr m'):=by
 induction h with
 | @pe e Δ Γ ops fr m _ ih=>
  intro o F hm hF hS r ha
  refine ih hm hF ?_ r ha
  rw [List.reverse_cons,List.append_assoc] at hS
  exact hS
 | @nil Γ fr m rs' h k=>exact fun hm hF hS r ha=>⟨Γ,fr,rs',m,_,.refl _,hm,ha,hS,h,k⟩
 | @val d op ty u pos aft ops Γ fr m hv _ ih=>
  intro o F hm hF hS r ha
  refine ⟨rfl,u,fun w hC=>?_,ih hm hF hS _ (agr_cons ha)⟩
  exact hv.sound ((SA.keep hC hz (fun _ _=>List.not_mem_nil) hF hS)) ha (some d) ty pos aft none w (Chg.refl _ _)
 | @las d n t ty x a ds pos aft ops Γ fr m ht hx hw _ ih=>
  intro o F hm hF hS r ha
  refine ⟨rfl,_,fun w hC=>?_,ih hm hF hS _ (agr_cons ha)⟩
  obtain ⟨h1,h2⟩:=hw.sound (SA.keep hC hz (fun _ _=>List.not_mem_nil) hF hS)
  exact Lg ht.h h1 (aU ha hx) h2 w (Chg.refl _ _)
 | @lc d t ty x a u pos aft ops Γ fr m ht hx hw _ ih=>
  intro o F hm hF hS r ha
  refine ⟨rfl,u,fun w hC=>?_,ih hm hF hS _ (agr_cons ha)⟩
  exact Ld ht.h (hw.sound (SA.keep hC hz (fun _ _=>List.not_mem_nil) hF hS)) (aU ha hx) w (Chg.refl _ _)
 | @idxS α V d n x y v k j t ty S' cl en xs pos aft ops Γ Γx fr f ht hx hy hr hso hn _ ih=>
  intro o F hm hF hS r ha
  replace hso:SO S' V cl en:=by cases hso; assumption
  obtain ⟨z,hz',hm⟩:=bind_some hm
  replace hz':=idx_some hz'
  obtain ⟨e,i,h1,h2,h3⟩:=ht.h
  obtain ⟨cur',_,⟨⟨f0,hf0,hb0⟩,_⟩,_⟩:=hr.sound hS
  have hZ:∀ b∈f0,Z b:=fun b hb=>(hb0 b hb).elim id id
  obtain ⟨⟨a,c,hv⟩,hlt,cs,f1,hrep,hf1,hcell⟩:=imm_get hf0 j hz'.1 hz'.2
  have hn':(sStr S').size=n:=hn
  rw [hn'] at hcell
  obtain ⟨u,rfl,hen⟩:=hso.op hrep.2
  have hblk:Z (elA v n j).block:=by
   obtain ⟨base,cap,hv',hr'⟩:=hf0
   rcases hr' with ⟨rfl,_⟩ | ⟨b,off,cr,e',fz,f',rfl,_,rfl,_⟩
   ·simp at hlt; omega
   ·obtain rfl:v = .slice (some ⟨b,off,none⟩) xs.length cap:=by simpa using hv'
    have:(elA (.slice (some ⟨b,off,none⟩) xs.length cap) n j).block=b:=by unfold elA; rw [add_block]
    rw [this]; exact hZ b (by simp)
  have hAt:fact Z w0 [] (.ats (elA v n j) (cl z u)):=⟨fun i u' hi=>hcell i u' hi,fun _=>hblk⟩
  have hall:HL Z w0 (.ats (elA v n j) (cl z u) :: en z u) []:=.fact hAt (hl_facts (hen Z fun b hb=>hZ b (hf1 b hb)))
  obtain ⟨F',hp,hS2⟩:=hall.build hS
  have hpF:F'.Perm F:=by simpa using hp
  refine ⟨rfl,.pointer (some (elA v n j)),fun w hC=>?_,?_⟩
  ·rw [op_indexAddr h1 h2 ((aU ha hx).trans hv) (aU ha hy) hz'.1 (by omega),h3,hv]
   rfl
  ·have hq:=ih z u (F:=F') hm (fun b hb h=>hF b hb (hpF.mem_iff.1 h)) hS2 _ (agr_cons ha)
   refine QVs.mono ?_ hq
   rintro r' ⟨Γ',fr',rs',m',F3,q0,q1,q2,q3,q4,q5⟩
   exact ⟨Γ',fr',rs',m',F3,q0.trans hpF,q1,q2,q3,q4,q5⟩
end
inductive FnI (P:Program) (f:FuncId):Prop
 | mk [h:FnC P f]:FnI P f
theorem FO.hl {Z:Nat→Prop} {w:World} {Δ:List Ent} (h:FO Δ):∀ {F:List Nat},HL Z w Δ F→F=[]:=by
 induction h with
 | nil=>intro F h; cases h; rfl
 | rd _ ih=>intro F h; cases h with | own h k=>exact h.elim | fact h k=>exact ih k
 | ats _ ih=>intro F h; cases h with | own h k=>exact h.elim | fact h k=>exact ih k
def chkG (l:List Oper) (nx:Array Bool→Bool):List Nat→Array Bool→Bool
 | [],L=>nx L
 | i :: qs,L=>Nat.blt i l.length && (Region.ready .any l.toArray L).contains i && Region.free .any l.toArray L i && chkG l nx qs (L.setIfInBounds i true)
section
variable {P:Program} {n:Nat} {l:List Oper} {Q:Exit→(Nat→Value)→World→Prop} {S:World→Prop}
theorem Hw.quietG {nx:Array Bool→Bool} {m:Nat} (hd:dstOk n l=true) (hs:Region.noSelect l.toArray=true) (hp:∀ c r w,¬ Q (.panic c) r w) {w:World} (hS:S w) {K:(Nat→Value)→Prop} (h:∀ L r,nx L=true→K r→Hw P n l Q S m L r w) :
  ∀ (qs:List Nat) (L:Array Bool) (r:Nat→Value),chkG l nx qs L=true→QVs P S (pick l qs) r K→Hw P n l Q S (qs.length+m) L r w:=by
 intro qs
 induction qs with
 | nil=>intro L r hc hv; rw [List.length_nil,Nat.zero_add]; exact h L r hc hv
 | cons i qs ih=>
  intro L r hc hv
  unfold chkG at hc
  simp only [Bool.and_eq_true] at hc
  obtain ⟨⟨⟨c1,c2⟩,c3⟩,c4⟩:=hc
  obtain ⟨hg,v,h1,h2⟩:=hv
  have:=Hw.take hd (at_pick c1) hs c3 c2 hp hg h1 hS (ih _ _ c4 h2)
  rwa [show qs.length+m+1=(i :: qs).length+m by simp; omega] at this
theorem Hw.stepW {k i:Nat} {L:Array Bool} {o:Oper} {r:Nat→Value} {w:World} (hd:dstOk n l=true) (hi:l[i]? = some o) (hr:Region.ready .any l.toArray L=[i]) (hg:o.guard=none) (hy:OpW P o r w fun v w'=>S w'∧Hw P n l Q S k (L.setIfInBounds i true) (updO r o.dst v) w'):Hw P n l Q S (k+1) L r w:=by
 intro a h1 h2 h3
 refine wpAnyH_all hr (by simp) fun j hj=>?_
 obtain rfl:j=i:=by simpa using hj
 unfold wpOp
 rw [show (l.toArray)[j]? = some o by simpa using hi]
 simp only []
 rw [if_pos (wanted_none hg)]
 refine .inl (OpW.wp (K:=fun v w'=>S w'∧Hw P n l Q S k (L.setIfInBounds j true) (updO r o.dst v) w') (by rw [h3]; exact hy) fun v w' hv=>⟨hv.1,hv.2 _ (by rw [size_put]; exact h1) (by rw [defers_put]; exact h2) (by rw [rho_putO (dst_lt hd hi h1),h3])⟩)
end
section
variable {R S:Type} {P:Program} {cx:Cx R} {K:Kont R S} {l:List Oper}
theorem anyC {id:Nat} (q1:List Nat) (c:Nat) (q2 ss:List Nat) (fz:List Ent) (e:TypeId) {qops qops2 sops:List Oper} {d:Nat} {f:FuncId} {xs:List Operand} {ats:Array TypeId} {ty:TypeId} {pos:String} {aft:Array Edge} {Γ Γz Γa Γ1 Δ:List Ent} {b:Nat} {cs:List Value} {fr fr1:Fr} {vs:List Value} {rs:List (Nat×List Value×TypeId)} {β V:Type} {mo:Option β} {rt:β→V→List Value} {ps:β→V→List Ent} {g:β→Option (Out S R)}
  (hB:(P.follows .mixedOrders && dstOk cx.n l && Region.noSelect l.toArray && chkG l (fun L=>rdy l L [c] && chkG l (fun L=>chkS l ss L) q2 (L.setIfInBounds c true)) q1 (Array.replicate l.length false) && Nat.beq l.length (q1.length+(q2.length+ss.length+1)))=true)
  (hz:EF Γ fz Γz) (hfz:FO fz) (h0:Sel Γz (.row b cs e) Γa) (hs:sops=pick l ss) (h3:RO fr sops Γa rs Γ1) (hq:qops=pick l q1) (h2:QA P Γ1 (.q qops fr) fr1)
  (hc:l[c]? = some ⟨some d,.call ⟨.value (.func f),xs.toArray,ats⟩,ty,pos,aft,none⟩) (hf:FnI P f) (hx:opvs fr1 xs=some vs) (hct:Ct P f true mo vs Δ rt ps) (h5:EO [.row b cs e] Δ []) (h6:ER true Γ1 Δ) (hq2:qops2=pick l q2)
  (k:∀ y v,QX P cx K sops rs (ps y v) [] Γ1 qops2 ((d,tupv (rt y v)) :: fr1) (g y)):Bx (sem P cx (.dr id l K Γ fr (mo>>=g))):=by
 simp only [Bool.and_eq_true] at hB
 obtain ⟨⟨⟨⟨b1,b2⟩,b3⟩,b4⟩,b5⟩:=hB
 rw [bx_eq]
 intro B o ho r w ha hst
 obtain ⟨y,hy,ho⟩:=bind_some ho
 obtain ⟨Z0,F0,hS0,hG0⟩:=hst
 obtain ⟨Fd,Fz,Zn,hl0,hSz,hp0⟩:=hz.sound hS0
 obtain rfl:=hfz.hl hl0
 rw [List.nil_append] at hp0
 have hGz:Gd B (orZ Z0 Zn) Fz w:=Gd.freeze (hG0.perm hp0) fun x hx=>hS0.lt x (hp0.mem_iff.1 (List.mem_append_right _ hx))
 generalize orZ Z0 Zn=Z at hSz hGz hl0
 obtain ⟨f0,Fa,hpa,⟨rfl,hrow⟩,hSa⟩:=h0.sound hSz
 obtain ⟨F1,hp1,hR,hS1⟩:=h3.sound hSa
 have hperm:([b]++(rs.map (·.1)++F1)).Perm Fz:=(hp1.append_left [b]).trans hpa
 have hG:=hGz.perm hperm
 have hnd:=List.nodup_append.1 hG.nd
 have hnd2:=List.nodup_append.1 hnd.2.1
 have hCd:Chg [] w { w with drawn:=w.drawn+1 }:=Chg.drew _ _
 have hG':Gd B Z ([b]++(rs.map (·.1)++F1)) { w with drawn:=w.drawn+1 }:=⟨hG.nd,hG.apart,hG.zlt,hG.low,hG.zup,hG.zlow,hG.chg.trans (hCd.mono fun _ h=>nomatch h)⟩
 have hrow':=hrow.keep0 hCd
 have hS1':=hS1.keep0 hCd
 have hR':Rows { w with drawn:=w.drawn+1 } rs:=fun p hp=>(hR p hp).keep0 hCd
 refine AnyW.W b1 (Hw.start (S:=Chg ([b]++rs.map (·.1)) { w with drawn:=w.drawn+1 }) ?_)
 generalize { w with drawn:=w.drawn+1 } = w0 at hG' hrow' hS1' hR'
 have hzH:∀ x∈[b]++rs.map (·.1),¬ Z x:=fun x hx=>hG.apart x (by rw [← List.append_assoc]; exact List.mem_append_left _ hx)
 have hHF:∀ x∈[b]++rs.map (·.1),x ∉ F1:=fun x hx hm=>by
  rcases List.mem_append.1 hx with hx | hx
  ·exact hnd.2.2 x hx x (List.mem_append_right _ hm) rfl
  ·exact hnd2.2.2 x hx x hm rfl
 have hSA:∀ {G:List Ent} {F:List Nat},F.Perm F1→SA Z w0 G [] F→∀ w',Chg ([b]++rs.map (·.1)) w0 w'→SA Z w' G [] F:=fun hp h w' hC=>h.keep hC hzH (fun _ _=>List.not_mem_nil) fun x hx hm=>hHF x hx (hp.mem_iff.1 hm)
 rw [show l.length=q1.length+(q2.length+ss.length+1) from Nat.eq_of_beq_eq_true b5] at b4 ⊢
 subst hq hs hq2
 refine Hw.quietG (K:=fun r'=>agr r' fr1) b2 b3 (fun c r w h=>postK_panic c h) (Chg.refl _ _) (fun L r' hL hr'=>?_) q1 _ r b4 (QA.sound (fun w' hC=>⟨[],F1,hSA (.refl _) hS1' w' hC⟩) h2 r ha)
 simp only [Bool.and_eq_true] at hL
 obtain ⟨fn, cc, f1, f2, f3⟩ : ∃ fn c, P.funcs[f]? = some fn ∧ fn.body = some c ∧ (fn.name == "runtime.NumGoroutine") = false := by cases hf with | mk => rename_i h; exact h.h
 refine Hw.stepW b2 hc (rdy_of hL.1) rfl ?_
 unfold OpW
 rw [op_callF f1 f2 f3,opvs_ev hr' hx]
 rw [ct_eq] at hct
 obtain ⟨Fd,F',k1,k2,k3⟩:=h5.sound (Z:=Z) (w:=w0) (F:=[b]) (by have:=(HL.own (Z:=Z) (w:=w0) (f:=[b]) (e:=.row b cs e) ⟨rfl,hrow'⟩ .nil).front (Γ:=[]) (F:=[]) rfl; simpa using this)
 have hF':F'=[]:=by cases k2; rfl
 subst hF'
 rw [List.append_nil] at k3
 have hG2:Gd B Z (Fd++(rs.map (·.1)++F1)) w0:=hG'.perm (k3.append_right _)
 have hHL:HL (fun x=>Z x∨x∈F1) w0 Δ Fd:=h6.sound (fun _ h=>.inl h) (fun _ _ h=>.inr h) hS1' k1
 refine (call_step2 hct hHL (F1:=rs.map (·.1)++F1) (fun x hx=>?_) hG2 (fun _ h=>.inl h) (fun x hx=>hx.imp (fun h=>h) fun h=>List.mem_append_right _ h) (hct.1 rfl y) hy).mono ?_
 ·rcases List.mem_append.1 hx with hx | hx
  ·obtain ⟨p,hp,rfl⟩:=List.mem_map.1 hx
   exact (hR' p hp).lt
  ·exact hS1'.lt x hx
 rintro e' w2 ⟨v,F2,he,hC2,hps,hG3⟩
 have hFd:Fd=[b]:=List.perm_singleton.1 k3
 subst hFd
 have hC2':Chg ([b]++rs.map (·.1)) w0 w2:=hC2.mono fun x hx=>List.mem_append_left _ hx
 refine ⟨_,he,hC2',?_⟩
 have hR2:Rows w2 rs:=fun p hp=>(hR' p hp).keep hC2 fun hb=>hnd.2.2 b (by simp) p.1 (List.mem_append_left _ (List.mem_map_of_mem (f:=fun q=>q.1) hp)) (List.mem_singleton.1 hb).symm
 refine Hw.quietG b2 b3 (fun c r w h=>postK_panic c h) hC2' (fun L2 r2 hL2 hr2=>?_) q2 _ _ hL.2 (QX.sound hzH (k y v) ho hHF hS1' _ (agr_cons hr'))
 obtain ⟨Γ',fr',rs',m',F3,p0,p1,p2,p3,p4,p5⟩:=hr2
 refine SQ.sound b2 p2 (fun w' hC=>hSA p0 p3 w' hC) p4 ss L2 w2 rfl hL2 hC2' hR2 hnd2.1 (fun x hx=>List.mem_append_right _ hx) fun w3 hC3 hR3=>?_
 have hnd3:=List.nodup_append.1 hG3.nd
 have hps3:HL Z w3 (ps y v) F2:=hps.keepZ hC3 (fun x hx=>hzH x (List.mem_append_right _ hx)) fun x hx hm=>hnd3.2.2 x hx x (List.mem_append_left _ hm) rfl
 have hC03:Chg ([b]++rs.map (·.1)) w0 w3:=hC2'.trans (hC3.mono fun x hx=>List.mem_append_right _ hx)
 obtain ⟨Fa1,s1,s2⟩:=hps3.build (hSA p0 p3 w3 hC03)
 obtain ⟨Fa2,s3,s4⟩:=(rowsE_hl hR3).build s2
 rw [p4.fst] at s3
 have hg2:Gd B Z (F2++(rs.map (·.1)++F1)) w3:=⟨hG3.nd,hG3.apart,fun x hx=>Nat.lt_of_lt_of_le (hG3.zlt x hx) hC3.size,hG3.low,hG3.zup,hG3.zlow,hG3.chg.then hC3 fun x hx=>hG3.low x (List.mem_append_right _ (List.mem_append_left _ hx))⟩
 refine p5.sound B o p1 r2 w3 (by simpa using p2) ⟨Z,Fa2,s4,hg2.perm ?_⟩
 refine s3.trans ((s1.append_left _).trans ?_)
 refine ((p0.append_left F2).append_left (rs.map (·.1))).trans ?_
 rw [← List.append_assoc,← List.append_assoc]
 exact List.perm_append_comm.append_right F1
theorem anyC1 {id:Nat} (q1:List Nat) (c:Nat) (q2 ss:List Nat) (tz:Nat) {α:Type} (E:STy α) (e:TypeId) {zv:Value} {zx:List α} {qops qops2 sops:List Oper} {d:Nat} {f:FuncId} {xs:List Operand} {ats:Array TypeId} {ty:TypeId} {pos:String} {aft:Array Edge} {Γ Γz Γa Γ1 Δ:List Ent} {b:Nat} {cs:List Value} {fr fr1:Fr} {vs:List Value} {rs:List (Nat×List Value×TypeId)} {β V:Type} {mo:Option β} {rt:β→V→List Value} {ps:β→V→List Ent} {g:β→Option (Out S R)}
  (hB:(P.follows .mixedOrders && dstOk cx.n l && Region.noSelect l.toArray && chkG l (fun L=>rdy l L [c] && chkG l (fun L=>chkS l ss L) q2 (L.setIfInBounds c true)) q1 (Array.replicate l.length false) && Nat.beq l.length (q1.length+(q2.length+ss.length+1)))=true)
  (_hzv:look fr tz=some zv) (hz:EF Γ [.rd false (aE E) zv zx] Γz) (h0:Sel Γz (.row b cs e) Γa) (hs:sops=pick l ss) (h3:RO fr sops Γa rs Γ1) (hq:qops=pick l q1) (h2:QA P Γ1 (.q qops fr) fr1)
  (hc:l[c]? = some ⟨some d,.call ⟨.value (.func f),xs.toArray,ats⟩,ty,pos,aft,none⟩) (hf:FnI P f) (hx:opvs fr1 xs=some vs) (hct:Ct P f true mo vs Δ rt ps) (h5:EO [.row b cs e] Δ []) (h6:ER true Γ1 Δ) (hq2:qops2=pick l q2)
  (k:∀ y v,QX P cx K sops rs (ps y v) [] Γ1 qops2 ((d,tupv (rt y v)) :: fr1) (g y)):Bx (sem P cx (.dr id l K Γ fr (mo>>=g))):=
 anyC (id:=id) q1 c q2 ss [.rd false (aE E) zv zx] e hB hz (.rd .nil) h0 hs h3 hq h2 hc hf hx hct h5 h6 hq2 k
end
theorem St.frzS {α:Type} {E:STy α} {T:STy (List α)} {v:Value} {x:List α} {B:Bs} {Γ Γ1:List Ent} {w:World} (h1:Sel Γ (.own T v x) Γ1) (hr:RT T (aE E)) (hs:St B Γ w):St B (.rd false (aE E) v x :: Γ1) w:=by
 obtain ⟨Z,F,hS,hG⟩:=hs
 obtain ⟨f,F',hp,_,hS2⟩:=(EFl.own (E:=E) h1 hr).sound hS
 have hp2:(F'++f).Perm F:=List.perm_append_comm.trans hp
 exact ⟨_,F',hS2,Gd.freeze (hG.perm hp2) fun b hb=>hS.lt b (hp.mem_iff.1 (List.mem_append_left _ hb))⟩
section
variable {R:Type} {P:Program} {cx:Cx R}
theorem cdS {S:Type} {t:Nat} {b:Bool} {K:Kont R S} {x y:Code} {Γ:List Ent} {fr:Fr} {m1 m2:Option (Out S R)} (hb:look fr t=some (.bool b)) (h1:D P cx (.c K x Γ fr m1)) (h2:D P cx (.c K y Γ fr m2)):D P cx (.c K (.cond (.tmp t) x y) Γ fr (bif b then m1 else m2)):=.cond hb (.cds h1 h2)
theorem apsF {M α β:Type} {d b:Nat} {s x:Operand} {sv u:Value} {T:STy (List β)} {E1:STy β} {y:List β} {t e e' ty:TypeId} {E:STy α} {bt:Nat} {all l:List Oper} {rk:RK R M} {Γ Γ1:List Ent} {fr:Fr} {m:Option M} (h1:Sel Γ (.own T u y) Γ1) (hr:RT T (aE E1))
  (h:D P cx (.ap2 false e' E e t bt u b sv s x d ty all l rk (.rd false (aE E1) u y :: Γ1) fr m)):D P cx (.ap (aK e' E) e t bt u b sv s x d ty all l rk Γ fr m):=by
 refine D.of ?_
 intro q1 q2 q3 B o ho r w ha hs
 exact h.sound q1 q2 q3 B o ho r w ha (St.frzS h1 hr hs)
end
end Go.Dk
namespace Go.Dk
open Go Go.Li
theorem ct_read {P:Program} {g:FuncId} {vs:List Value} {Δ:List Ent} {β:Type} {m:Option β} {ow:Bool} {rt:β→Unit→List Value} (hc:Ct P g ow m vs Δ rt (fun _ _=>[])) {w:World} (hl:HL (fun b=>b < w.heap.size) w Δ []) {y:β} (hy:m=some y) :
  Calls P g vs.toArray w fun e w'=>e = .returned (tupv (rt y ()))∧Chg [] w w':=by
 rw [ct_eq] at hc
 refine (hc.2 w _ [] hl List.nodup_nil (fun _ h=>absurd h List.not_mem_nil) (fun _ h=>h) y hy).mono ?_
 rintro e w' ⟨_,he,Z,F,_,hg⟩
 exact ⟨he,hg.chg⟩
theorem fact_rd {w:World} {α:Type} {T:STy α} {v:Value} {x:α} {f:List Nat} (h:T.rep w.heap [v] x f):fact (fun b=>b < w.heap.size) w [] (.rd false T v x):=⟨f,h,fun b hb=>T.lt h b hb⟩
end Go.Dk
