/- A region that draws its order: its head in any order, whatever it holds, its tail quiet and behind all of the head. No condition. -/
import Derived.Test.YtgjbmjjihmfppaaGreatDg
import Derived.Deep.Quiet
import Derived.Laws.Slices
import Derived.OrdersHeld
import Derived.Scope
namespace Go.Li
open Go
section
variable {P:Program} {n:Nat} {Q:Exit→(Nat→Value)→World→Prop} {r0:NV} {w0:World} {l:LO} {S:List gx}
def zr (l:LO) (m:Nat):Bool:=
 ((List.range l.length).all fun i=>((l.getD i default).after.toList.filter (Region.binds .any)).all fun e=>Nat.blt e.on i) &&
 ((List.range l.length).all fun i=>Nat.blt i m || (List.range m).all fun j=>((cg l).getD i []).contains j) &&
 AA ((l.take m).filterMap (·.dst)) && Region.noSelect l.toArray && Region.lexFrom .any l.toArray (l.length - m) m (List.replicate m true++List.replicate (l.length - m) false).toArray
theorem Jz {m:Nat} (h:zr l m=true):∀ (i:Nat) (o:Oper),l[i]? = some o→∀ e∈o.after.toList.filter (Region.binds .any),e.on < i:=by
 simp only [zr,Bool.and_eq_true,List.all_eq_true,List.mem_range] at h
 intro i o ho e he
 have hi:i < l.length:=(List.getElem?_eq_some_iff.1 ho).1
 have:=h.1.1.1.1 i hi e (by rw [List.getD_eq_getElem?_getD,ho]; exact he)
 exact Nat.lt_of_succ_le (Nat.le_of_ble_eq_true this)
theorem Ru {m:Nat} {U:LL} {H:LN} {N:Nat→Prop} (hd:dk n l=true) (hA:zr l m=true) (F7:m≤l.length)
  (hS:S.length=m)
  (hH:∀ b∈H,b < w0.heap.size) (hU:((List.range m).all fun i=>(U.getD i []).all fun u=>Nat.beq u l.length || ((cg l).getD i []).contains u)=true)
  (hN:∀ b,N b→b < w0.heap.size∧b ∉ H)
  (ry:∀ (i:Nat) (s:gx),S[i]? = some s→∀ f F (w w':World) (r r':NV) v,ak F w w'→(∀ b∈f,b ∉ F)→(∀ b∈F,¬ N b)→(∀ j∈(cg l).getD i [],∀ t,bn l j=some t→r' t=r t)→s.V f w r v→s.V f w' r' v)
  (NW:∀ i,i < m→je P l m S U r0 w0 H i)
  (next:∀ g r w,zt l m S U r0 w0 H (fun j=>j < m) g r w→QL P (ak [] w) l (l.drop m) r fun r'=>∀ w',ak [] w w'→Q .normal r' w') :
  n8 P n l Q r0 w0:=by
 simp only [zr,Bool.and_eq_true,List.all_eq_true,List.mem_range,Bool.or_eq_true] at hA
 obtain ⟨⟨⟨⟨TU,TV⟩,TW⟩,P8⟩,NX⟩:=hA
 have vW:∀ (i:Nat) (o:Oper),l[i]? = some o→∀ e∈o.after.toList.filter (Region.binds .any),e.on < i:=by
  intro i o ho e he
  have hi:i < l.length:=(List.getElem?_eq_some_iff.1 ho).1
  have:=TU i hi e (by rw [List.getD_eq_getElem?_getD,ho]; exact he)
  exact Nat.lt_of_succ_le (Nat.le_of_ble_eq_true this)
 have DJ:∀ i,m≤i→i < l.length→∀ j,j < m→j∈(cg l).getD i []:=by
  intro i h1 h2 j hj
  rcases TV i h2 with h | h
  ·exact absurd (Nat.lt_of_succ_le (Nat.le_of_ble_eq_true h)) (Nat.not_lt.2 h1)
  ·have:=h j hj
   simpa using this
 have TX:∀ i,i < m→∀ u∈U.getD i [],u=l.length∨u∈(cg l).getD i []:=by
  intro i hi u hu
  simp only [List.all_eq_true,List.mem_range] at hU
  have:=hU i hi u hu
  simpa using this
 have df:=Ek _ (yh TW)
 have rb:=AB l vW
 intro a h1 h2 h3
 let Cl (L:Array Bool):Prop:=L.size=l.length∧∀ j o,l[j]? = some o→L.getD j false=true→∀ e∈o.after.toList.filter (Region.binds .any),L.getD e.on false=true
 have jq:∀ L,Cl L→∀ i j,(∀ o,l[i]? = some o→∀ e∈o.after.toList.filter (Region.binds .any),L.getD e.on false=true)→j∈(cg l).getD i []→L.getD j false=true:=by
  intro L hL i
  induction i using Nat.strongRecOn with
  | _ i ih=>
   intro j hi hj
   obtain ⟨_,o,ho,e,he,Ge⟩:=rb i j hj
   have hl:=hi o ho e he
   rcases Ge with rfl | Ge
   ·exact hl
   ·exact ih e.on (vW i o ho e he) j (fun o' br e' tn=>hL.2 _ _ br hl e' tn) Ge
 have nv:∀ L i,i∈Region.ready .any l.toArray L→L.getD i true=false∧∃ o,l[i]? = some o∧∀ e∈o.after.toList.filter (Region.binds .any),L.getD e.on false=true:=by
  intro L i hi
  obtain ⟨g1,o,ho,ew⟩:=mem_ready.1 hi
  refine ⟨g1,o,by simpa using ho,fun e he=>?_⟩
  have:=List.mem_filter.1 he
  exact ew e (by simpa using this.1) this.2
 have CO:∀ L i o,L.size=l.length→l[i]? = some o→L.getD i false=false→(∀ e∈o.after.toList.filter (Region.binds .any),L.getD e.on false=true)→i∈Region.ready .any l.toArray L:=by
  intro L i o hs ho hu ew
  refine mem_ready.2 ⟨?_,o,by simpa using ho,fun e he hb=>ew e (List.mem_filter.2 ⟨by simpa using he,hb⟩)⟩
  have hi:i < L.size:=by rw [hs]; exact (List.getElem?_eq_some_iff.1 ho).1
  simp [hi] at hu ⊢; exact hu
 have E8:∀ L i o,Cl L→l[i]? = some o→(∀ e∈o.after.toList.filter (Region.binds .any),L.getD e.on false=true)→Cl (L.setIfInBounds i true):=by
  intro L i o hL ho ew
  refine ⟨by rw [Array.size_setIfInBounds]; exact hL.1,fun j o' br hj e he=>?_⟩
  by_cases sf:i=j
  ·subst sf
   have:o'=o:=Option.some.inj (br.symm.trans ho)
   subst this
   exact getD_set_true (ew e he)
  ·rw [getD_set_ne false sf] at hj
   exact getD_set_true (hL.2 j o' br hj e he)
 have getSet:∀ (L:Array Bool) i j,L.size=l.length→i < l.length→((L.setIfInBounds i true).getD j false=true↔j=i∨L.getD j false=true):=by
  intro L i j hs hi
  by_cases sf:i=j
  ·subst sf
   simp [hs,hi]
  ·rw [getD_set_ne false sf]
   constructor
   ·exact .inr
   ·rintro (h | h)
    ·exact absurd h.symm sf
    ·exact h
 have Gf:∀ (L:Array Bool) i,L.size=l.length→i < l.length→L.getD i false=false→(L.setIfInBounds i true).toList.count false+1=L.toList.count false:=by
  intro L i hs hi hu
  have tb:i < L.toList.length:=by simpa [hs] using hi
  have BP:L.toList[i]=false:=by
   rw [Array.getElem_toList]
   simp [hs,hi] at hu
   exact hu
  rw [Array.toList_setIfInBounds,List.count_set tb,BP]
  have:0 < L.toList.count false:=List.count_pos_iff.2 (by rw [← BP]; exact List.getElem_mem tb)
  rw [if_pos (by rfl),if_neg (by decide)]
  omega
 have ib:dk n (l.drop m)=true:=by
  simp only [dk,List.all_eq_true] at hd ⊢
  exact fun o ho=>hd o (List.mem_of_mem_drop ho)
 have tail:∀ (fuel:Nat) (L:Array Bool) (a:Act) (w:World),Cl L→(∀ j,L.getD j false=true↔j < m)→L.toList.count false=fuel→a.tmps.size=n→a.defers=[]→
   (QL P (ak [] w) l (l.drop m) (cy a) fun r'=>∀ w',ak [] w w'→Q .normal r' w')→wpAny P .any l.toArray (fun e a' w'=>a'.tmps.size=n∧a'.defers=[]∧Q e (cy a') w') fuel L a w:=by
  intro fuel L a w hL ik hf g1 g2 hq
  have X1:L=(List.replicate m true++List.replicate (l.length - m) false).toArray:=by
   apply Array.ext
   ·simp [hL.1]; omega
   ·intro i hi hj
    have h1:=ik i
    simp only [Array.getD_eq_getD_getElem?,Array.getElem?_eq_getElem hi,Option.getD_some] at h1
    have e:(List.replicate m true++List.replicate (l.length - m) false).toArray[i]'hj=decide (i < m):=by
     simp only [List.getElem_toArray,List.getElem_append,List.getElem_replicate,List.length_replicate]
     split
     ·rename_i h; simp [h]
     ·rename_i h; simp [h]
    rw [e]
    cases hb:L[i] with
    | false=>exact (decide_eq_false fun h=>by have:=h1.2 h; rw [hb] at this; cases this).symm
    | true=>exact (decide_eq_true (h1.1 hb)).symm
  have TY:fuel=l.length - m:=by
   rw [← hf,X1]
   simp [List.count_append,List.count_replicate]
  have q1:=QL.wpQuiet (n:=n) (l:=l) (l.drop m) a hd ib g1 g2 hq
  have q2:=wpAnyQ_lex (md:=.any) P8 (l.drop m) m L a (fun j=>by simp [List.getElem?_drop]) (by rw [X1,List.length_drop]; exact NX) q1
  refine wpAny_of_quiet (C:=ak [] w) (Q:=fun a'=>a'.tmps.size=n∧a'.defers=[]∧∀ w',ak [] w w'→Q .normal (cy a') w') (fun a' w' AE hh=>⟨hh.1,hh.2.1,hh.2.2 w' AE⟩) _ _ _ _ (ak.refl _ _) ?_
  rw [TY,← List.length_drop]
  exact q2
 have head:∀ (fuel:Nat) (L:Array Bool) (a:Act) (w:World) (g:Nat→List Nat),Cl L→(∀ j,L.getD j false=true→j < m)→L.toList.count false=fuel→a.tmps.size=n→a.defers=[]→
   zt l m S U r0 w0 H (fun j=>L.getD j false=true) g (cy a) w→wpAny P .any l.toArray (fun e a' w'=>a'.tmps.size=n∧a'.defers=[]∧Q e (cy a') w') fuel L a w:=by
  intro fuel
  induction fuel with
  | zero=>
   intro L a w g hL tU hf g1 g2 inv
   have ew:∀ j,j < l.length→L.getD j false=true:=by
    intro j hj
    cases hb:L.getD j false with
    | true=>rfl
    | false=>have:=Gf L j hL.1 hj hb; omega
   have ik:∀ j,L.getD j false=true↔j < m:=fun j=>⟨tU j,fun h=>ew j (by omega)⟩
   refine tail 0 L a w hL ik hf g1 g2 (next g _ _ ?_)
   exact ⟨inv.j4,fun hk=>inv.AF fun k wL=>hk k ((ik k).1 wL),inv.vg,fun j hj=>inv.vd j ((ik j).2 hj),fun j hj hk=>inv.done j ((ik j).2 hj) (fun k wL=>hk k ((ik k).1 wL)),fun j hj=>inv.sO j ((ik j).2 hj),inv.other,fun j hj b hb=>⟨(inv.fresh j ((ik j).2 hj) b hb).1.imp (fun h=>h) fun h=>⟨h.1,h.2.imp fun k hk=>⟨(ik k).1 hk.1,hk.2⟩⟩,(inv.fresh j ((ik j).2 hj) b hb).2⟩,fun i j hi hj=>inv.vL i j ((ik i).2 hi) ((ik j).2 hj)⟩
  | succ fuel ih=>
   intro L a w g hL tU hf g1 g2 inv
   by_cases ew:∀ j,j < m→L.getD j false=true
   ·have ik:∀ j,L.getD j false=true↔j < m:=fun j=>⟨tU j,ew j⟩
    refine tail _ L a w hL ik hf g1 g2 (next g _ _ ?_)
    exact ⟨inv.j4,fun hk=>inv.AF fun k wL=>hk k ((ik k).1 wL),inv.vg,fun j hj=>inv.vd j ((ik j).2 hj),fun j hj hk=>inv.done j ((ik j).2 hj) (fun k wL=>hk k ((ik k).1 wL)),fun j hj=>inv.sO j ((ik j).2 hj),inv.other,fun j hj b hb=>⟨(inv.fresh j ((ik j).2 hj) b hb).1.imp (fun h=>h) fun h=>⟨h.1,h.2.imp fun k hk=>⟨(ik k).1 hk.1,hk.2⟩⟩,(inv.fresh j ((ik j).2 hj) b hb).2⟩,fun i j hi hj=>inv.vL i j ((ik i).2 hi) ((ik j).2 hj)⟩
   ·obtain ⟨j0,P9,El⟩ : ∃ j,j < m∧L.getD j false=false:=by
     apply Classical.byContradiction
     intro rY
     apply ew
     intro j hj
     cases hb:L.getD j false with
     | true=>rfl
     | false=>exact absurd ⟨j,hj,hb⟩ rY
    have JB:∃ i,i∈Region.ready .any l.toArray L:=by
     have:∀ k,(∃ j,j < k∧j < m∧L.getD j false=false)→∃ i,i∈Region.ready .any l.toArray L:=by
      intro k
      induction k with
      | zero=>rintro ⟨j,h,_⟩; omega
      | succ k CB=>
       rintro ⟨j,Lp,AH,rZ⟩
       by_cases sI:∃ j,j < k∧j < m∧L.getD j false=false
       ·exact CB sI
       ·obtain rfl:j=k:=by
         apply Classical.byContradiction
         intro h
         exact sI ⟨j,by omega,AH,rZ⟩
        have z8:j < l.length:=by omega
        refine ⟨j,CO L j l[j] hL.1 (List.getElem?_eq_getElem z8) rZ fun e he=>?_⟩
        have bc:=vW j _ (List.getElem?_eq_getElem z8) e he
        cases hb:L.getD e.on false with
        | true=>rfl
        | false=>exact absurd ⟨e.on,bc,by omega,hb⟩ sI
     exact this (j0+1) ⟨j0,by omega,P9,El⟩
    have main:∀ i oi,i < m→l[i]? = some oi→L.getD i false=false→(∀ e∈oi.after.toList.filter (Region.binds .any),L.getD e.on false=true)→
      (Region.wanted oi (yl l (cy a))=true∧fj P oi (cy a) w fun v w'=>wpAny P .any l.toArray (fun e a' w'=>a'.tmps.size=n∧a'.defers=[]∧Q e (cy a') w') fuel (L.setIfInBounds i true) (a.put oi.dst v) w')∨
      (Region.wanted oi (yl l (cy a))=false∧wpAny P .any l.toArray (fun e a' w'=>a'.tmps.size=n∧a'.defers=[]∧Q e (cy a') w') fuel (L.setIfInBounds i true) (a.put oi.dst undef) w):=by
     intro i oi tV nw tW tX
     have fv:i < l.length:=(List.getElem?_eq_some_iff.1 nw).1
     have nk:∀ o,l[i]? = some o→∀ e∈o.after.toList.filter (Region.binds .any),L.getD e.on false=true:=fun o' br=>by
      have:o'=oi:=Option.some.inj (br.symm.trans nw)
      subst this; exact tX
     obtain ⟨s,hs⟩ : ∃ s,S[i]? = some s:=⟨S[i]'(by omega),List.getElem?_eq_getElem (by omega)⟩
     have hc:=Gf L i hL.1 fv tW
     have BQ:=E8 L i oi hL nw tX
     have AI:∀ j,(L.setIfInBounds i true).getD j false=true→j < m:=by
      intro j hj
      rcases (getSet L i j hL.1 fv).1 hj with rfl | hj
      ·exact tV
      ·exact tU j hj
     have CP:∀ k,L.getD k false=true→k≠i∧i ∉ (cg l).getD k []:=by
      intro k hk
      refine ⟨fun h=>(by rw [h,tW] at hk; cases hk),fun uC=>?_⟩
      have:=jq L hL k i (fun o' br e' tn=>hL.2 k o' br hk e' tn) uC
      rw [tW] at this; cases this
     have ow:=NW i tV oi s nw hs g (cy a) w inv.j4 (fun hV=>by
       have rY:∀ k,L.getD k false=true→l.length ∉ U.getD k []:=fun k hk Gg=>by
        simp only [zn,List.all_eq_true,List.mem_range,Bool.or_eq_true,Bool.not_eq_true',List.contains_eq_mem,decide_eq_false_iff_not,decide_eq_true_eq] at hV
        rcases hV k (tU k hk) with (h | h) | h
        ·exact h Gg
        ·exact (CP k hk).1 (Nat.eq_of_beq_eq_true h)
        ·exact (CP k hk).2 h
       have h0:=inv.AF rY
       exact ⟨h0.1,h0.2,fun j hj b hb=>(inv.fresh j (jq L hL i j nk hj) b hb).1.elim (fun h=>h) fun h=>absurd h.2.choose_spec.2 (rY _ h.2.choose_spec.1)⟩) (fun j hj=>inv.sO j (jq L hL i j nk hj)) (fun j hj=>by
       simp only [tS,Bool.and_eq_true,List.all_eq_true,List.mem_range,Bool.or_eq_true,Bool.not_eq_true',List.contains_eq_mem,decide_eq_false_iff_not,decide_eq_true_eq] at hj
       refine inv.done j (jq L hL i j nk hj.1) fun k hk Lp=>?_
       rcases hj.2 k (tU k hk) with (h | h) | h
       ·exact h Lp
       ·exact (CP k hk).1 (Nat.eq_of_beq_eq_true h)
       ·exact (CP k hk).2 h) inv.other
      (fun i' tb j' ie=>inv.vL i' j' (jq L hL i i' nk tb) (jq L hL i j' nk ie))
      (fun j hj b hb=>⟨(inv.fresh j (jq L hL i j nk hj) b hb).1.imp (fun h=>h) (·.1),(inv.fresh j (jq L hL i j nk hj) b hb).2⟩)
     have hblk:∀ b∈ll g (U.getD i []),(∃ u,u∈U.getD i []∧L.getD u false=true∧b∈g u)∨(l.length∈U.getD i []∧b∈g l.length):=by
      intro b hb
      obtain ⟨u,hu,gj⟩:=List.mem_flatMap.1 hb
      rcases TX i tV u hu with rfl | h
      ·exact .inr ⟨hu,gj⟩
      ·exact .inl ⟨u,hu,jq L hL i u nk h,gj⟩
     have Em:∀ k',oi.dst=some k'→k' < a.tmps.size:=by
      intro k' wz
      have uC:oi∈l:=List.mem_of_getElem? nw
      simp only [dk,List.all_eq_true] at hd
      have:=hd oi uC
      rw [wz] at this
      rw [g1]
      exact Nat.lt_of_succ_le (Nat.le_of_ble_eq_true this)
     have yB:bn l i=oi.dst:=by unfold bn; rw [nw]; rfl
     have nj:∀ v t,(oi.dst≠some t)→cy (a.put oi.dst v) t=cy a t:=by
      intro v t ht
      rw [l6 Em]
      cases wM:oi.dst with
      | none=>rfl
      | some d=>
       show (bif Nat.beq t d then v else cy a t)=cy a t
       cases hb:Nat.beq t d with
       | false=>rfl
       | true=>exact absurd (by rw [wM,Nat.eq_of_beq_eq_true hb]) ht
     have Gh:∀ v d,oi.dst=some d→cy (a.put oi.dst v) d=v:=by
      intro v d wM
      rw [l6 Em,wM]
      show (bif Nat.beq d d then v else cy a d)=v
      rw [Nat.beq_refl]; rfl
     have step:∀ v w' f,ak (ll g (U.getD i [])) w w'→(∀ b∈f,(b∈ll g (U.getD i [])∨w.heap.size≤b)∧b < w'.heap.size)→(if s.b then s.V f w' (cy a) v else v=undef)→
       wpAny P .any l.toArray (fun e a' w'=>a'.tmps.size=n∧a'.defers=[]∧Q e (cy a') w') fuel (L.setIfInBounds i true) (a.put oi.dst v) w':=by
      intro v w' f hC rO hV
      have sw:∀ j',j' < m→j'≠i→∀ t,bn l j'=some t→cy (a.put oi.dst v) t=cy a t:=by
       intro j' ie ks t ht
       refine nj v t fun h=>ks (df j' i t ?_ ?_)
       ·rw [lp ie]; exact ht
       ·rw [lp tV,yB]; exact h
      have Lq:∀ b∈ll g (U.getD i []),¬ N b:=fun b hb hn=>by
       rcases hblk b hb with ⟨u,_,qf,gj⟩ | ⟨_,gj⟩
       ·rcases (inv.fresh u qf b gj).1 with h | h
        ·have:=(hN b hn).1; omega
        ·exact (hN b hn).2 h.1
       ·exact (hN b hn).2 (inv.vg b gj)
      refine ih _ _ _ (fun j=>if j=i then f else if j∈U.getD i [] then [] else g j) BQ AI (by omega) (by rw [lg]; exact g1) (by rw [iq]; exact g2)
       ⟨inv.j4.then hC fun b hb=>(by
        rcases hblk b hb with ⟨u,_,qf,gj⟩ | ⟨_,gj⟩
        ·exact (inv.fresh u qf b gj).1.elim .inr fun h=>.inl h.1
        ·exact .inl (inv.vg b gj)),fun rY=>?_,?_,fun j hj=>?_,?_,fun j hj d tY sj rQ=>?_,?_,?_,?_⟩
      ·have wF:l.length ∉ U.getD i []:=rY i ((getSet L i i hL.1 fv).2 (.inl rfl))
       have h0:=inv.AF fun k hk=>rY k ((getSet L i k hL.1 fv).2 (.inr hk))
       refine ⟨h0.1.then hC fun b hb=>?_,?_⟩
       ·rcases hblk b hb with ⟨u,_,qf,gj⟩ | ⟨h,_⟩
        ·exact (inv.fresh u qf b gj).1.elim .inr fun ⟨_,k,hk,Gg⟩=>absurd Gg (rY k ((getSet L i k hL.1 fv).2 (.inr hk)))
        ·exact absurd h wF
       ·show (if l.length=i then f else if l.length∈U.getD i [] then [] else g l.length)=H
        rw [if_neg (by omega),if_neg wF]
        exact h0.2
      ·intro b hb
       have cu:b∈(if l.length=i then f else if l.length∈U.getD i [] then [] else g l.length):=hb
       rw [if_neg (by omega)] at cu
       split at cu
       ·cases cu
       ·exact inv.vg b cu
      ·intro b hb hv
       have mw:b∈(if l.length=i then f else if l.length∈U.getD i [] then [] else g l.length):=hv
       rw [if_neg (by omega)] at mw
       split at mw
       ·cases mw
       ·rename_i TZ
        have cu:b∈(if j=i then f else if j∈U.getD i [] then [] else g j):=hb
        split at cu
        ·rcases (rO b cu).1 with h | h
         ·rcases hblk b h with ⟨u,_,qf,gj⟩ | ⟨h,_⟩
          ·exact inv.vd u qf b gj mw
          ·exact TZ h
         ·have h1:=hH b (inv.vg b mw)
          have h2:=inv.j4.size
          omega
        ·rename_i lv
         split at cu
         ·cases cu
         ·exact inv.vd j (((getSet L i j hL.1 fv).1 hj).resolve_left lv) b cu mw
      ·intro j hj yC
       refine ⟨fun d tY=>?_,fun T0 sj rQ Lr=>?_⟩
       rotate_left
       ·by_cases lv:j=i
        ·subst lv
         rw [hs] at rQ
         cases rQ
         rw [if_pos Lr] at hV
         refine ⟨v,?_⟩
         simp only [if_pos]
         exact ry j s hs _ [] w' w' (cy a) _ v (ak.refl _ _) (fun _ _ h=>nomatch h) (fun _ h=>nomatch h) (fun j' ie t ht=>sw j' (by have:=(rb j j' ie).1; omega) (by have:=(rb j j' ie).1; omega) t ht) hV
        ·have nn:=((getSet L i j hL.1 fv).1 hj).resolve_left lv
         have rZ:j ∉ U.getD i []:=yC i ((getSet L i i hL.1 fv).2 (.inl rfl))
         obtain ⟨x,hx⟩:=(inv.done j nn (fun k hk=>yC k ((getSet L i k hL.1 fv).2 (.inr hk)))).2 T0 sj rQ Lr
         have fk:(fun j=>if j=i then f else if j∈U.getD i [] then [] else g j) j=g j:=by
          show (if j=i then f else if j∈U.getD i [] then [] else g j)=g j
          rw [if_neg lv,if_neg rZ]
         rw [fk]
         refine ⟨x,ry j sj rQ _ _ _ _ (cy a) _ _ hC (fun b cu Gi=>?_) Lq (fun j' ie t ht=>sw j' (by have:=(rb j j' ie).1; have:=tU j nn; omega) (fun h=>?_) t ht) hx⟩
         ·rcases hblk b Gi with ⟨u,AJ,qf,gj⟩ | ⟨_,gj⟩
          ·exact inv.vL j u nn qf (fun h=>rZ (h ▸ AJ)) b cu gj
          ·exact inv.vd j nn b cu gj
         ·subst h
          have:=jq L hL j j' (fun o' br e' tn=>hL.2 j o' br nn e' tn) ie
          rw [tW] at this; cases this
       by_cases lv:j=i
       ·subst lv
        rw [hs]
        simp only [if_pos]
        rw [yB] at tY
        rw [Gh v d tY]
        split
        ·rename_i hb
         rw [if_pos hb] at hV
         exact ry j s hs _ [] w' w' (cy a) _ v (ak.refl _ _) (fun _ _ h=>nomatch h) (fun _ h=>nomatch h) (fun j' ie t ht=>sw j' (by have:=(rb j j' ie).1; omega) (by have:=(rb j j' ie).1; omega) t ht) hV
        ·rename_i hb
         rw [if_neg hb] at hV
         exact hV
       ·have nn:=((getSet L i j hL.1 fv).1 hj).resolve_left lv
        have AH:=tU j nn
        have rZ:j ∉ U.getD i []:=yC i ((getSet L i i hL.1 fv).2 (.inl rfl))
        have wM:oi.dst≠some d:=by
         intro h
         apply lv
         refine df j i d ?_ ?_
         ·rw [lp AH]; exact tY
         ·rw [lp tV,yB]; exact h
        have:=(inv.done j nn (fun k hk=>yC k ((getSet L i k hL.1 fv).2 (.inr hk)))).1 d tY
        rw [nj v d wM]
        have fk:(fun j=>if j=i then f else if j∈U.getD i [] then [] else g j) j=g j:=by
         show (if j=i then f else if j∈U.getD i [] then [] else g j)=g j
         rw [if_neg lv,if_neg rZ]
        rw [fk]
        cases rQ:S[j]? with
        | none=>trivial
        | some sj=>
         rw [rQ] at this
         simp only [] at this ⊢
         split
         ·rename_i hb
          rw [if_pos hb] at this
          refine ry j sj rQ _ _ _ _ (cy a) _ _ hC (fun b cu Gi=>?_) Lq (fun j' ie t ht=>sw j' (by have:=(rb j j' ie).1; omega) (fun h=>?_) t ht) this
          rotate_left
          ·subst h
           have:=jq L hL j j' (fun o' br e' tn=>hL.2 j o' br nn e' tn) ie
           rw [tW] at this; cases this
          rcases hblk b Gi with ⟨u,AJ,qf,gj⟩ | ⟨_,gj⟩
          ·exact inv.vL j u nn qf (fun h=>rZ (h ▸ AJ)) b cu gj
          ·exact inv.vd j nn b cu gj
         ·rename_i hb
          rw [if_neg hb] at this
          exact this
      ·by_cases lv:j=i
       ·subst lv
        rw [hs] at rQ
        cases rQ
        rw [yB] at tY
        rw [Gh v d tY]
        split
        ·rename_i hb
         rw [if_pos hb] at hV
         exact ⟨f,w',ry j s hs _ [] w' w' (cy a) _ v (ak.refl _ _) (fun _ _ h=>nomatch h) (fun _ h=>nomatch h) (fun j' ie t ht=>sw j' (by have:=(rb j j' ie).1; omega) (by have:=(rb j j' ie).1; omega) t ht) hV⟩
        ·rename_i hb
         rw [if_neg hb] at hV
         exact hV
       ·have nn:=((getSet L i j hL.1 fv).1 hj).resolve_left lv
        have AH:=tU j nn
        have wM:oi.dst≠some d:=by
         intro h
         apply lv
         refine df j i d ?_ ?_
         ·rw [lp AH]; exact tY
         ·rw [lp tV,yB]; exact h
        have:=inv.sO j nn d tY sj rQ
        rw [nj v d wM]
        split
        ·rename_i hb
         rw [if_pos hb] at this
         obtain ⟨f1,w1,h1⟩:=this
         refine ⟨f1,w1,ry j sj rQ _ [] w1 w1 (cy a) _ _ (ak.refl _ _) (fun _ _ h=>nomatch h) (fun _ h=>nomatch h) (fun j' ie t ht=>sw j' (by have:=(rb j j' ie).1; omega) (fun h=>?_) t ht) h1⟩
         subst h
         have:=jq L hL j j' (fun o' br e' tn=>hL.2 j o' br nn e' tn) ie
         rw [tW] at this; cases this
        ·rename_i hb
         rw [if_neg hb] at this
         exact this
      ·intro t ht
       rw [nj v t (fun h=>ht i tV (by rw [yB]; exact h))]
       exact inv.other t ht
      ·intro j hj b hb
       by_cases lv:j=i
       ·simp only [if_pos lv] at hb
        have hh:=rO b hb
        have ru:=inv.j4.size
        rcases hh.1 with h | h
        ·rcases hblk b h with ⟨u,_,qf,gj⟩ | ⟨hv,gj⟩
         ·exact ⟨(inv.fresh u qf b gj).1.imp (fun h=>h) fun h=>⟨h.1,h.2.imp fun k hk=>⟨(getSet L i k hL.1 fv).2 (.inr hk.1),hk.2⟩⟩,hh.2⟩
         ·exact ⟨.inr ⟨inv.vg b gj,i,(getSet L i i hL.1 fv).2 (.inl rfl),hv⟩,hh.2⟩
        ·exact ⟨.inl (by omega),hh.2⟩
       ·have nn:=((getSet L i j hL.1 fv).1 hj).resolve_left lv
        simp only [if_neg lv] at hb
        split at hb
        ·cases hb
        ·have h1:=inv.fresh j nn b hb
         have h2:=hC.size
         exact ⟨h1.1.imp (fun h=>h) fun h=>⟨h.1,h.2.imp fun k hk=>⟨(getSet L i k hL.1 fv).2 (.inr hk.1),hk.2⟩⟩,by omega⟩
      ·have sS:∀ j',(L.setIfInBounds i true).getD j' false=true→j'≠i→∀ b∈f,b ∉ (if j'∈U.getD i [] then [] else g j'):=by
        intro j' ie e2 b hb cu
        have Gj:=((getSet L i j' hL.1 fv).1 ie).resolve_left e2
        split at cu
        ·cases cu
        ·rename_i rZ
         rcases (rO b hb).1 with h | h
         ·rcases hblk b h with ⟨u,AJ,qf,gj⟩ | ⟨_,gj⟩
          ·exact inv.vL u j' qf Gj (fun h=>rZ (h ▸ AJ)) b gj cu
          ·exact inv.vd j' Gj b cu gj
         ·have:=inv.fresh j' Gj b cu
          omega
       intro i' j' tb ie ks b hb cu
       by_cases e1:i'=i
       ·have e2:j'≠i:=fun h=>ks (e1.trans h.symm)
        simp only [if_pos e1] at hb
        simp only [if_neg e2] at cu
        exact sS j' ie e2 b hb cu
       ·simp only [if_neg e1] at hb
        by_cases e2:j'=i
        ·simp only [if_pos e2] at cu
         exact sS i' tb e1 b cu hb
        ·simp only [if_neg e2] at cu
         split at hb
         ·cases hb
         ·split at cu
          ·cases cu
          ·exact inv.vL i' j' (((getSet L i i' hL.1 fv).1 tb).resolve_left e1) (((getSet L i j' hL.1 fv).1 ie).resolve_left e2) ks b hb cu
     cases hb:s.b with
     | true=>
      rw [if_pos hb] at ow
      refine .inl ⟨ow.1,n9 ow.2 ?_⟩
      rintro v w' ⟨hC,f,rO,hV⟩
      exact step v w' f hC rO (by rw [if_pos hb]; exact hV)
     | false=>
      rw [if_neg (by rw [hb]; exact Bool.false_ne_true)] at ow
      exact .inr ⟨ow,step undef w [] (ak.refl _ _) (fun b h=>nomatch h) (by rw [if_neg (by rw [hb]; exact Bool.false_ne_true)])⟩
    refine ⟨fun h=>(by obtain ⟨i,hi⟩:=JB; rw [h] at hi; cases hi),fun i hi=>?_⟩
    obtain ⟨q1,oi,nw,tX⟩:=nv L i hi
    have fv:i < l.length:=(List.getElem?_eq_some_iff.1 nw).1
    have tW:L.getD i false=false:=getD_both q1
    have tV:i < m:=by
     rcases Nat.lt_or_ge i m with h | h
     ·exact h
     ·have hj:=DJ i h fv j0 P9
      have:=jq L hL i j0 (fun o' br=>by have:o'=oi:=Option.some.inj (br.symm.trans nw); subst this; exact tX) hj
      rw [El] at this; cases this
    unfold wpOp
    rw [show (l.toArray)[i]? = some oi by simpa using nw]
    simp only []
    rw [zu (by rw [g1]; exact hd)]
    rcases main i oi tV nw tW tX with ⟨hw,h⟩ | ⟨hw,h⟩
    ·rw [if_pos hw]
     exact .inl (h.wp fun v w' hv=>hv)
    ·rw [if_neg (by rw [hw]; exact Bool.false_ne_true)]
     exact h
 refine head _ _ a _ (fun j=>if j=l.length then H else []) ⟨by simp,?_⟩ ?_ ?_ h1 h2 ⟨ak.nil (ak.drew _ _),fun _=>⟨ak.drew _ _,by simp⟩,fun b hb=>by simpa using hb,?_,?_,?_,?_,?_,?_⟩
 ·intro j o ho hj
  rw [getD_replicate_false] at hj; cases hj
 ·intro j hj
  rw [getD_replicate_false] at hj; cases hj
 ·simp
 ·intro j hj
  rw [getD_replicate_false] at hj; cases hj
 ·intro j hj
  rw [getD_replicate_false] at hj; cases hj
 ·intro j hj
  rw [getD_replicate_false] at hj; cases hj
 ·intro t _
  rw [h3]
 ·intro j hj
  rw [getD_replicate_false] at hj; cases hj
 ·intro i j hi
  rw [getD_replicate_false] at hi; cases hi
end
end Go.Li
namespace Go.Dk
open Go Go.Li
section
variable {R S:Type} {P:Program} {cx:Cx R} {K:dh R S} {l tail:LO} {base fr:Fr} {w:World} {Z:Nat→Prop}
theorem NY {mt id:Nat} {U:LL} {Tx:QE} (hU:((List.range mt).all fun i=>(U.getD i []).all fun u=>Nat.beq u l.length || ((cg l).getD i []).contains u)=true) (hh:lr l mt base=true) (hd:dk cx.n l=true) (hA:zr l mt=true) (F7:mt≤l.length) (ht:tail=l.drop mt) {i:Nat} {sl:LQ} {ms:MM} {Γ:QE} {m:Option (Out S R)} (Tz:B5 ms=true) (r7:DF U sl ms=true)
  (h:∀ x:lq ms,D P cx (.p (Ap sl (mF ms x)) (DE ms x) base Γ fun fr Γ=>.tg true (B0 tail) l tail K Γ fr m)):Js P cx K l mt U Tx id base (.a [] [] i sl ms Γ m):=by
 rintro ⟨_,h2,h3⟩ B o ho r0 w0 H Z ha hs ⟨S',hl,hR,hO⟩
 have hi:i=mt:=by
  have:=congrArg List.length h2
  simp at this
  omega
 subst hl
 obtain ⟨F,Hd,⟨tj,uA,rU,uB⟩,hS,hG⟩:=hs
 refine Ru (N:=Z) (S:=S') (U:=U) (H:=H) hd hA F7 hi rU hU (fun b hb=>⟨hG.ov b hb,fun h=>hG.apart b (List.mem_append_left _ h) hb⟩) (fun i s hs=>hR.s i s hs) (fun j hj=>hO j (by omega)) ?_
 intro g r w hI
 have Jt:∀ k j,j∈U.getD k []→∀ a∈ms,a.j≠j:=by
  intro k j hj
  unfold DF at r7
  rw [List.getD_eq_getElem?_getD] at hj
  cases hk:U[k]? with
  | none=>rw [hk] at hj; exact absurd hj List.not_mem_nil
  | some us=>
   rw [hk] at hj
   have h1:=List.all_eq_true.1 (List.all_eq_true.1 r7 us (List.mem_of_getElem? hk)) j hj
   intro a ha he
   have:=List.all_eq_true.1 h1 a ha
   rw [he,Nat.beq_refl] at this
   cases this
 have hD:∀ j,j < mt→(∀ k,j ∉ U.getD k [])→wE l S' j g r w:=fun j hj hn=>hI.done j hj fun k _=>hn k
 have bc:∀ a∈ms,a.j < mt:=fun a ha=>hi ▸ hR.lt ha
 obtain ⟨x,hx,rX,TB⟩:=P4 (g:=g) (r:=r) (w:=w) Tz hR.d (fun a ha b hb vb=>hI.vL _ _ (bc a ha) (bc b hb) vb) fun a ha=>by
  have:=hR.wD (S2:=[]) ha (by rw [List.append_nil]; exact hD a.j (bc a ha) (fun k hk=>Jt k _ hk a ha rfl))
  exact this
 have CL:=List.nodup_append.1 hG.nd
 have nj:∀ b∈zp g ms,w0.heap.size≤b∨b∈H:=fun b hb=>by
  obtain ⟨a,h1,h2⟩:=B6 hb
  exact (hI.fresh a.j (bc a h1) b h2).1.imp (fun h=>h) (·.1)
 have ed:=pj.stay hS hG hI.j4
 obtain ⟨Vo,Vr,TC,TD,rX⟩:=rX
 obtain ⟨F',hp,fx⟩:=rX.build (ed.mono (fun _ h=>.inl h) fun _ h=>h)
 have F8:Gd B Z (zp g ms++F) w:=by
  refine ⟨tk TB CL.2.1 fun b hb hF=>(nj b hb).elim (fun h=>Nat.lt_irrefl _ (Nat.lt_of_lt_of_le (hS.lt b hF) h)) (fun h=>CL.2.2 b h b hF rfl),?_,fun b hb=>Nat.lt_of_lt_of_le (hG.ov b hb) hI.j4.size,?_,hG.wu,hG.vz,hG.j4.then hI.j4 fun b hb=>hG.low b (List.mem_append_left _ hb)⟩
  ·intro b hb hz
   rcases List.mem_append.1 hb with hb | hb
   ·exact (nj b hb).elim (fun h=>Nat.lt_irrefl _ (Nat.lt_of_lt_of_le (hG.ov b hz) h)) (fun h=>hG.apart b (List.mem_append_left _ h) hz)
   ·exact hG.apart b (List.mem_append_right _ hb) hz
  ·intro b hb
   rcases List.mem_append.1 hb with hb | hb
   ·exact (nj b hb).elim (fun h=>.inr (Nat.le_trans hG.j4.size h)) (fun h=>hG.low b (List.mem_append_left _ h))
   ·exact hG.low b (List.mem_append_right _ hb)
 have NR:cq r ((Ap sl (mF ms x)).reverse++base):=by
  refine qR (F5 (fun p hp=>?_) hx) (iu hh ha hI.other)
  exact hR.va (S2:=[]) hp fun j _ hj=>(by rw [List.append_nil]; exact hI.sO j (hi ▸ hj))
 have:=(h x).sound B o ho r w NR ⟨_,F',fx,((F8.perm (Iq TC)).freeze TD).perm hp⟩
 rw [ht] at this
 exact this
theorem Xf {id:Nat} (hd:QE) (mt:Nat) (U as:LL) {ops:LO} {Γ Γ1:QE} {fr:Fr} {m:Option (Out S R)}
  (hB:(P.follows .mixedOrders && dk cx.n l && zr l mt && Nat.ble mt l.length && (ra l U mt == as) && ((List.range mt).all fun i=>(U.getD i []).all fun u=>Nat.beq u l.length || ((cg l).getD i []).contains u))=true)
  (ho:ops=l.take mt) (ht:tail=l.drop mt) (hf:Kp (yZ ops) none fr base) (hh:lr l mt base=true) (he:EO Γ hd Γ1) (F9:OW Γ hd)
  (h:AD true P cx K l tail base U hd (.a as ops 0 [] [] Γ1 m)):Bx (ni P cx (.dr id l K Γ fr m)):=by
 simp only [Bool.and_eq_true] at hB
 obtain ⟨⟨⟨⟨⟨b1,b2⟩,b3⟩,b5⟩,b6⟩,b7⟩:=hB
 rw [l3]
 intro B o hm r w ha hs
 obtain ⟨Z,F,hS,hG⟩:=hs
 obtain ⟨Fd,F',h1,h2,h3⟩:=he.sound hS
 have Ga:SA Z w hd [] Fd:=by
  have:=(HO.hl F9 hS h1).front (Γ:=[]) (F:=[]) rfl
  simpa using this
 have hX:pj B Z hd Γ1 Fd w:=⟨F',Fd,⟨Ga,fun b hb=>⟨hb,Ga.lt b hb⟩,Ga.lt,(List.nodup_append.1 (hG.perm h3).nd).1⟩,h2,hG.perm h3⟩
 refine n8.W b1 ?_
 refine AD.sound (id:=id) hh (fun _ _ _ _ _ _ hs he h=>NY b7 hh b2 b3 (Nat.le_of_ble_eq_true b5) ht hs he h) h
  ⟨by rw [List.drop_zero]; exact (eq_of_beq b6).symm,by rw [List.drop_zero]; exact ho,Nat.zero_le _⟩ B o hm r w Fd Z (hf.sound ha) hX ⟨[],rfl,⟨fun _ h=>absurd h List.not_mem_nil,fun _ h=>absurd h List.not_mem_nil,fun i s h=>by simp at h,List.nodup_nil,fun _ _ _ h1 h2=>CM l (Jz b3) h1 h2⟩,fun j hj=>absurd hj (Nat.not_lt_zero j)⟩
theorem ZA {id:Nat} (mt:Nat) (U as:LL) {ops:LO} {Γ:QE} {fr:Fr} {m:Option (Out S R)}
  (hB:(P.follows .mixedOrders && dk cx.n l && zr l mt && Nat.ble mt l.length && (ra l U mt == as) && ((List.range mt).all fun i=>(U.getD i []).all fun u=>Nat.beq u l.length || ((cg l).getD i []).contains u))=true)
  (ho:ops=l.take mt) (ht:tail=l.drop mt) (hf:Kp (yZ ops) none fr base) (hh:lr l mt base=true)
  (h:AD true P cx K l tail base U [] (.a as ops 0 [] [] Γ m)):Bx (ni P cx (.dr id l K Γ fr m)):=Xf [] mt U as hB ho ht hf hh .nil .nil h
end
end Go.Dk
namespace Go.Dk
open Go Go.Li
def Al:Value→Option Nat
 | .slice (some a) _ _=>some a.block
 | _=>none
def NF {α:Type} (E:af α):Prop:=∀ {h:Array Obj} {cs:LV} {x:α} {f:LN},E.rep h cs x f→f=[]
theorem NF.i {k:IntKind}:NF (aC k):=tf
theorem NF.l {α:Type} {E:af α} (hE:NF E) {h:Array Obj}:∀ {xs:List α} {cs:LV} {f:LN},dx E h cs xs f→f=[]:=by
 intro xs
 induction xs with
 | nil=>rintro cs f ⟨_,rfl⟩; rfl
 | cons x xs ih=>
  rintro cs f ⟨c,gy,f1,f2,rfl,rfl,h1,h2⟩
  rw [hE h1,ih h2]; rfl
structure Good {α:Type} (A:Value→α→Prop) (f:LN):Prop where
 sub:∀ u y b,A u y→Al u=some b→b∈f
 one:∀ u y u' y' b,A u y→A u' y'→Al u=some b→Al u'=some b→y=y'
inductive Aa {α:Type}:{β:Type}→af β→((Value→List α→Prop)→af β)→Prop
 | row {e:TI} {E:af α}:Aa (aK e E) (fun A=>rW A (aK e E))
 | step {β:Type} {e:TI} {T:af β} {T':(Value→List α→Prop)→af β} (h:Aa T T'):Aa (aK e T) (fun A=>aE (T' A))
section
variable {α β:Type} {T:af β} {T':(Value→List α→Prop)→af β} {A A':Value→List α→Prop} {f:LN} {hp:Array Obj}
theorem Aa.size (h:Aa T T'):(T' A).size=T.size:=by
 cases h <;> rfl
theorem Aa.mono (h:Aa T T') (hA:∀ u y,A u y→A' u y):Le (T' A) (T' A'):=by
 induction h with
 | row=>exact ⟨rfl,fun h=>⟨h.1.imp fun v g=>⟨g.1,hA _ _ g.2⟩,h.2⟩⟩
 | step _ ih=>exact ih.HW
theorem Aa.Xg {e:TI} (ho:∀ {cs:LV} {x:β} {f:LN},T.rep hp cs x f→f.Nodup→∃ A,Good A f∧(T' A).rep hp cs x f) (hm:∀ {A A':Value→List α→Prop},(∀ u y,A u y→A' u y)→Le (T' A) (T' A')) :
  ∀ {xs:List β} {cs:LV} {f:LN},dx T hp cs xs f→f.Nodup→∃ A,Good A f∧dx (T' A) hp cs xs f:=by
 have _:=e
 intro xs
 induction xs with
 | nil=>rintro cs f ⟨rfl,rfl⟩ _; exact ⟨fun _ _=>False,⟨fun _ _ _ h=>h.elim,fun _ _ _ _ _ h=>h.elim⟩,rfl,rfl⟩
 | cons x xs ih=>
  rintro cs f ⟨c,gy,f1,f2,rfl,rfl,h1,h2⟩ hn
  obtain ⟨n1,n2,n3⟩:=List.nodup_append.1 hn
  obtain ⟨A1,g1,r1⟩:=ho h1 n1
  obtain ⟨A2,g2,r2⟩:=ih h2 n2
  refine ⟨fun u y=>A1 u y∨A2 u y,⟨fun u y b h hb=>?_,fun u y u' y' b h h' hb cu=>?_⟩,c,gy,f1,f2,rfl,rfl,(hm fun _ _=>.inl).le r1,uI (hm fun _ _=>.inr) r2⟩
  ·exact h.elim (fun h=>List.mem_append_left _ (g1.sub u y b h hb)) (fun h=>List.mem_append_right _ (g2.sub u y b h hb))
  ·rcases h with h | h <;> rcases h' with h' | h'
   ·exact g1.one u y u' y' b h h' hb cu
   ·exact absurd rfl (n3 b (g1.sub _ _ _ h hb) b (g2.sub _ _ _ h' cu))
   ·exact absurd rfl (n3 b (g1.sub _ _ _ h' cu) b (g2.sub _ _ _ h hb))
   ·exact g2.one u y u' y' b h h' hb cu
theorem Aa.opened (h:Aa T T'):∀ {cs:LV} {x:β} {f:LN},T.rep hp cs x f→f.Nodup→∃ A,Good A f∧(T' A).rep hp cs x f:=by
 induction h with
 | @row e E=>
  intro cs x f hr _
  obtain ⟨base,cap,rfl,fc⟩:=id hr
  refine ⟨fun u y=>u = .slice base x.length cap∧y=x,⟨?_,?_⟩,⟨_,rfl,rfl,rfl⟩,hr⟩
  ·rintro u y b ⟨rfl,rfl⟩ hb
   rcases fc with ⟨rfl,_⟩ | ⟨b0,cur,f',rfl,_,rfl,_⟩
   ·cases hb
   ·cases hb; exact List.mem_cons_self
  ·rintro u y u' y' b ⟨_,rfl⟩ ⟨_,rfl⟩ _ _; rfl
 | @step β e T T' ho ih=>
  intro cs x f hr hn
  obtain ⟨base,cap,rfl,fc⟩:=hr
  rcases fc with ⟨rfl,_,rfl,rfl⟩ | ⟨b,cur,f',rfl,hg,rfl,h3,h4,h5,h6⟩
  ·exact ⟨fun _ _=>False,⟨fun _ _ _ h=>h.elim,fun _ _ _ _ _ h=>h.elim⟩,none,cap,rfl,.inl ⟨rfl,rfl⟩⟩
  ·obtain ⟨A,g1,g2⟩:=Aa.Xg (e:=e) ih (fun hA=>ho.mono hA) h6 (List.nodup_cons.1 hn).2
   refine ⟨A,⟨fun u y b h hb=>List.mem_cons_of_mem _ (g1.sub u y b h hb),g1.one⟩,_,cap,rfl,.inr ⟨b,0,cur,e,(0,0),f',rfl,hg,rfl,?_⟩⟩
   rw [List.drop_zero,ho.size]
   exact g2
end
section
variable {α:Type} {e e':TI} {E:af α} {A:Value→List α→Prop} {ft f:LN} {hp:Array Obj}
theorem JC (nf:NF E) (hA:Good A ft):∀ {ys:List (List α)} {us:LV} {g:LN},dx (rW A (aK e' E)) hp us ys g→ys.Nodup→
  dx (aK e' E) hp us ys g∧g.Nodup∧∀ b∈g,b∈ft∧∃ u y,A u y∧Al u=some b∧y∈ys:=by
 intro ys
 induction ys with
 | nil=>rintro us g ⟨rfl,rfl⟩ _; exact ⟨⟨rfl,rfl⟩,List.nodup_nil,fun b hb=>absurd hb List.not_mem_nil⟩
 | cons y ys ih=>
  rintro us g ⟨c,gy,g1,g2,rfl,rfl,⟨⟨u,rfl,hu⟩,hr⟩,h2⟩ hn
  obtain ⟨n1,n2⟩:=List.nodup_cons.1 hn
  obtain ⟨a1,a2,a3⟩:=ih h2 n2
  refine ⟨⟨[u],gy,g1,g2,rfl,rfl,hr,a1⟩,?_,?_⟩
  ·obtain ⟨base,cap,hv,fc⟩:=hr
   obtain rfl:u = .slice base y.length cap:=by simpa using hv
   rcases fc with ⟨_,_,_,rfl⟩ | ⟨b,cur,f',rfl,_,rfl,_,_,_,h6⟩
   ·exact a2
   ·rw [nf.l h6]
    refine List.nodup_cons.2 ⟨fun hb=>?_,a2⟩
    obtain ⟨_,u',y',h7,h8,h9⟩:=a3 b hb
    rw [hA.one _ _ _ _ b hu h7 rfl h8] at n1
    exact n1 h9
  ·intro b hb
   rcases List.mem_append.1 hb with hb | hb
   ·obtain ⟨base,cap,hv,fc⟩:=hr
    obtain rfl:u = .slice base y.length cap:=by simpa using hv
    rcases fc with ⟨_,_,_,rfl⟩ | ⟨b0,cur,f',rfl,_,rfl,_,_,_,h6⟩
    ·cases hb
    ·rw [nf.l h6,List.mem_singleton] at hb
     subst hb
     exact ⟨hA.sub _ _ _ hu rfl,_,y,hu,rfl,by simp⟩
   ·obtain ⟨b1,u',y',b2,b3,b4⟩:=a3 b hb
    exact ⟨b1,u',y',b2,b3,by simp [b4]⟩
theorem Ls {Z:Nat→Prop} {w:World} {v:Value} {ys:List (List α)} (nf:NF E) (hA:Good A ft) (ho:qw Z w f (.om e (rW A (aK e' E)) v ys)) (hn:ys.Nodup) (hf:f.Nodup) (hz:∀ b∈f,¬ Z b) :
  ∃ g,(∀ b∈g,b∈ft)∧(aK e (aK e' E)).rep w.heap [v] ys (f++g)∧(f++g).Nodup:=by
 obtain ⟨us,g,h1,h2,h3,_⟩:=ho
 obtain ⟨a1,a2,a3⟩:=JC nf hA h2 hn
 have hl:us.length=ys.length:=by have:=jz a1; rw [this]; exact Nat.mul_one _
 refine ⟨g,fun b hb=>(a3 b hb).1,?_,List.nodup_append.2 ⟨hf,a2,fun b hb c hc=>fun e=>hz b hb (h3 b (e ▸ hc))⟩⟩
 obtain ⟨base,cap,hv,hr⟩:=h1
 obtain rfl:v = .slice base us.length cap:=by simpa using hv
 rw [hl]
 rcases hr with ⟨rfl,rfl,rfl,rfl⟩ | ⟨b,cur,f',rfl,hg,rfl,c1,c2,c3,c4⟩
 ·cases ys with
  | cons y ys=>simp at hl
  | nil=>obtain ⟨_,rfl⟩:=a1; exact ⟨none,0,rfl,.inl ⟨rfl,rfl,rfl,rfl⟩⟩
 ·obtain ⟨c5,rfl⟩:=yW c4
  refine ⟨_,cap,rfl,.inr ⟨b,cur,g,rfl,hg,rfl,by rw [← hl]; exact c1,c2,c3,?_⟩⟩
  have e1:(aK e' E).size=rS.size:=rfl
  rw [e1,← hl,c5]
  exact a1
end
section
variable {P:Program} {R:Type} {cx:Cx R}
theorem ah {S S1 α β:Type} [DecidableEq (List α)] (k t0:Nat) (φ:S1→Value→Fr) (Is:S1→List (List α)) (v0:Value) (f2:Fr) {e e':TI} {E:af α} {T:af β} {T':(Value→List α→Prop)→af β} {vs:Value} {x:β} {fy:List KI} {kb:Kb R S} {c:Code} {s0:S1} {body:S1→Option (Out S1 R)} {f:S1→Option (Out S R)} {Γ Γ1 Γ2:QE} {fr:Fr}
  (ho:Aa T T') (nf:NF E) (ha:rj fr (φ s0 v0)) (hf:rj fr f2) (hz:Is s0=[]) (hv:look fr t0=some vs) (h1:de Γ (.own T vs x) Γ1) (h2:∀ A:Value→List α→Prop,de Γ1 (.om e (rW A (aK e' E)) v0 []) Γ2)
  (hb:∀ (A:Value→List α→Prop) s v,D P cx (.p (φ s v) [.om e (rW A (aK e' E)) v (Is s)] f2 [.rd false (T' A) vs x] fun fr Γ=>.c ⟨[],.loop Value k (fun s v=>[.om e (rW A (aK e' E)) v (Is s)]) φ [.rd false (T' A) vs x] f2⟩ c Γ fr (body s)))
  (hk:∀ s v,D P cx (.p (φ s v) [.own (aK e (aK e' E)) v (Is s)] f2 [] fun fr Γ=>.mn ⟨fy,kb⟩ Γ fr (f s))) :
  Bx (ni P cx (.bk true k ⟨fy,kb⟩ (.loop c) Γ fr (ag (ae k (ah body s0)) fun s=>T1 (Is s)>>=fun _=>f s))):=by
 have _:=hv
 rw [l3]
 intro B o Lt r w qd qe
 obtain ⟨Z,F,hS,hG⟩:=qe
 obtain ⟨ft,F1,rv,hT,ed⟩:=h1.sound hS
 have It:=hG.perm rv
 obtain ⟨n1,n2,n3⟩:=List.nodup_append.1 It.nd
 obtain ⟨A,hA,hR⟩:=ho.opened (hp:=w.heap) hT n1
 obtain ⟨fo,F2,nh,hO,fx⟩:=(h2 A).sound ed
 have Gk:∀ b∈ft,b < w.heap.size:=af.lt _ hT
 have hfz:∀ b∈ft,¬ Z b:=fun b hb=>It.apart b (List.mem_append_left _ hb)
 have Qa:∀ b∈fo,b∈F1:=fun b hb=>nh.mem_iff.1 (List.mem_append_left _ hb)
 have rY:fo.Nodup:=(List.nodup_append.1 (nh.nodup_iff.2 n2)).1
 refine Jc (T:=TT P cx B) (LI B (fun s v=>[.om e (rW A (aK e' E)) v (Is s)]) φ [.rd false (T' A) vs x] f2) Lt
  ⟨v0,qR (ha.all qd) (hf.sound qd),fun b=>Z b∨b∈ft,fo,⟨fo,[],(List.append_nil _).symm,by rw [hz]; exact hO.mono fun _=>.inl,⟨ft,hR,fun b hb=>.inr hb⟩,rfl⟩,rY,fun b hb=>?_,fun b hb=>hb.elim (hG.ov b) (Gk b),fun b hb=>It.low b (List.mem_append_right _ (Qa b hb)),fun b h=>.inl (hG.wu b h),fun b hb=>hb.elim (hG.vz b) fun hb=>.inr (It.low b (List.mem_append_left _ hb)),hG.j4⟩ ?_ ?_ ?_
 ·rintro (h | h)
  ·exact It.apart b (List.mem_append_right _ (Qa b hb)) h
  ·exact n3 b h b (Qa b hb) rfl
 ·intro x r w he hx
  subst he
  exact u9 hx
 ·rintro s r w ⟨v,h1,h2⟩ o ho
  exact (hb A s v).sound B o ho r w h1 h2
 ·rintro s r w' ⟨v,a1,Z2,Fl,FE,mj⟩ hm
  obtain ⟨_,hn,hm⟩:=bind_some hm
  replace hn:=NZ hn
  obtain ⟨f',F',rfl,vc,Xh⟩:=FE
  have Ax:F'=[]:=Xh.2
  subst Ax
  rw [List.append_nil] at mj
  obtain ⟨g,s1,s2,s3⟩:=Ls nf hA vc hn mj.nd mj.apart
  refine (hk s v).sound B o hm r w' a1 ⟨B.Z,f'++g,⟨f'++g,[],(List.append_nil _).symm,s2,rfl⟩,s3,fun b hb hz=>?_,fun b hz=>mj.ov b (mj.wu b hz),fun b hb=>?_,fun _ h=>h,fun _ h=>.inl h,mj.j4⟩
  ·rcases List.mem_append.1 hb with hb | hb
   ·exact mj.apart b hb (mj.wu b hz)
   ·exact hfz b (s1 b hb) (hG.wu b hz)
  ·rcases List.mem_append.1 hb with hb | hb
   ·exact mj.low b hb
   ·exact It.low b (List.mem_append_left _ (s1 b hb))
end
end Go.Dk
namespace Go.Dk
open Go Go.Li
section
variable {R:Type} {P:Program} {cx:Cx R} {B:Bs} {M:Type} {all l:LO} {rk:RK R M} {fr:Fr} {w:World} {Z:Nat→Prop} {F cur:LN} {Γ Γ1 Γ2 Γ3:QE}
theorem D.of {J:Jd R} (h:ni P cx J):D P cx J:=.inj (by rw [l3]; exact h)
theorem Qb {Δ : List av} (h : FO Δ) : ∀ {Fd : List Nat}, HL Z w Δ Fd → ∀ e ∈ Δ, fact Z w [] e := by
  induction h with
  | nil => intro Fd _ e he; cases he
  | rd _ ih =>
    intro Fd hl e he
    cases hl with
    | own h _ => exact h.elim
    | fact h k => rcases List.mem_cons.1 he with rfl | he
                  · exact h
                  · exact ih k e he
  | aq _ ih =>
    intro Fd hl e he
    cases hl with
    | own h _ => exact h.elim
    | fact h k => rcases List.mem_cons.1 he with rfl | he
                  · exact h
                  · exact ih k e he
theorem T2 {α:Type} (S:af α) {d:Nat} {t e n bt ty:TI} {m:Option M} [ht:zY P t e n bt]
  (h:∀ v,D P cx (.o false all l rk (.own (aK e (iz n)) v [] :: .rd false (sL S) (.bool true) ([],[]) :: Γ) ((d,v) :: fr) m)):D P cx (.e false (.buildSlice t 0 #[]) (some d) ty all l rk Γ fr m):=by
 refine D.of ?_
 intro B o ho r w ha hs pos ab g
 obtain ⟨h1,i,z,h2,_⟩:=ht.h
 obtain ⟨v,w',f,hr,hC,hO⟩:=zl (E:=iz n) (r:=r) (w:=w) (d:=some d) (ty:=ty) (pos:=pos) (ab:=ab) (g:=none) h1 h2
 refine dv (WL.val rfl hr ((h v).sound B o ho _ w' (ao ha) ?_))
 obtain ⟨Z,F,hS,hg⟩:=hs
 have hf:fact Z w [] (.rd false (sL S) (.bool true) ([],[])):=⟨[],⟨rfl,rfl,fun _ h=>absurd h List.not_mem_nil⟩,fun _ h=>absurd h List.not_mem_nil⟩
 exact St.put (f:=[]) (SA.fact hS hf) hg hC hO.1 hO.2.1 fun b hb=>.inr ((hO.2.2 b hb).resolve_left List.not_mem_nil)
theorem T3 {α:Type} {S:af α} {q:Bool} {d n e:Nat} {x:OO} {v:Value} {us:List (List Value)} {xs:List α} {t ty bt:TI} {m:Option M} [ht:zY P t e n bt] (hx:bb fr x=some v) (h1:de Γ (.own (aK e (iz n)) v us) Γ1) (hg:In (.rd false (sL S) (.bool true) (us,xs)) Γ)
  (h:D P cx (.o q all l rk Γ ((d,.int .i64 (xs.length:Int)) :: fr) m)):D P cx (.e q (.call ⟨.builtin .len,#[x],#[t]⟩) (some d) ty all l rk Γ fr m):=by
 refine D.of ?_
 intro B o ho r w ha hs pos ab g
 obtain ⟨q1,_⟩:=ht.h
 obtain ⟨Z,F,hS,hG⟩:=@_root_.id _ hs
 obtain ⟨f,F1,_,hO,_⟩:=h1.sound hS
 obtain ⟨k,hk,_⟩:=hg.rd hS []
 obtain ⟨base,cap,hv,_⟩:=hO
 obtain rfl:v = .slice base us.length cap:=by simpa using hv
 have hl:us.length=xs.length:=yq hk.2.1
 exact bz (v:=.int .i64 (xs.length:Int)) (fun w' _=>by rw [← hl]; exact tO q1 (aR ha hx)) (h.sound B o ho _ w (ao ha) hs)
theorem ixS {α V:Type} {S:af α} {cl:α→V→List Value} {en:α→V→List av} {q:Bool} {d n e:Nat} {x y:OO} {v:Value} {us:List (List Value)} {xs:List α} {k:IntKind} {j:Int} {t ty bt:TI} {f:α→Option M} [ht:zY P t e n bt] (hx:bb fr x=some v) (hy:bb fr y=some (.int k j))
  (h1:de Γ (.own (aK e (iz n)) v us) Γ1) (hg:In (.rd false (sL S) (.bool true) (us,xs)) Γ) (hs:Ea S V cl en)
  (h:∀ z u,D P cx (.p [] (.rd false (zV us j) (.bool true) (cl z u) :: en z u) fr Γ fun fr Γ=>.o q all l rk Γ ((d,.pointer (some (dc v n j))) :: fr) (f z))):D P cx (.e q (.indexAddr t x y) (some d) ty all l rk Γ fr (idx xs j>>=f)):=by
 refine D.of ?_
 intro B o ho r w ha da pos ab g
 replace hs:SO S V cl en:=by cases hs; assumption
 obtain ⟨z,hz,ho⟩:=bind_some ho
 replace hz:=q9 hz
 obtain ⟨q1,i,_,q2,_,_,q3,_⟩:=ht.h
 obtain ⟨Z,F,hS,hG⟩:=da
 obtain ⟨f0,F1,_,hO,_⟩:=h1.sound hS
 obtain ⟨g0,hk,oK⟩:=hg.rd hS []
 obtain ⟨c,g1,e1,e2,e3⟩:=Cr j.toNat hk.2.1 hz.2
 obtain ⟨u,rfl,r7⟩:=hs.op e2
 have hlen:us.length=xs.length:=yq hk.2.1
 have bc:j.toNat < xs.length:=(List.getElem?_eq_some_iff.1 hz.2).1
 have hv:∃ a c,v = .slice (some a) us.length c:=by
  obtain ⟨base,cap,hv,hr⟩:=hO
  obtain rfl:v = .slice base us.length cap:=by simpa using hv
  rcases hr with ⟨_,_,rfl,_⟩ | ⟨b,cur,f',rfl,_⟩
  ·rw [← hlen] at bc; simp at bc
  ·exact ⟨_,_,rfl⟩
 obtain ⟨a,c',rfl⟩:=hv
 have ew:HL Z w (.rd false (zV us j) (.bool true) (cl z u) :: en z u) []:=.fact ⟨[],⟨rfl,⟨hz.1,e1⟩,rfl⟩,fun _ h=>absurd h List.not_mem_nil⟩ (uM (r7 Z fun b hb=>oK b (e3 b hb)))
 obtain ⟨F',hp,fx⟩:=ew.build hS
 refine bz (v:=.pointer (some (dc (.slice (some a) us.length c') n j))) (fun w' hC=>?_) ((h z u).sound B o ho _ w (ao ha) ⟨Z,F',fx,hG.perm (by simpa using hp)⟩)
 rw [l4 q1 q2 (aR ha hx) (aR ha hy) hz.1 (by omega),q3]
 rfl
theorem Qc {q:Bool} {d n off e:Nat} {x:OO} {v u:Value} {us:List (List Value)} {j:Int} {cs:LV} {ty:TI} {m:Option M} (h1:de Γ (.own (aK e (iz n)) v us) Γ1) (hp:In (.rd false (zV us j) (.bool true) cs) Γ) (hc:cs[off]? = some u)
  (k:D P cx (.o q all l rk Γ ((d,u) :: fr) m)):D P cx (.la ((dc v n j).add off) none q ty x d all l rk Γ fr m):=by
 refine D.of ?_
 intro ht hx B o ho r w ha hs t pos ab g
 obtain ⟨Z,F,hS,_⟩:=@_root_.id _ hs
 obtain ⟨f,F1,_,hO,_⟩:=h1.sound hS
 obtain ⟨_,⟨_,⟨hj,hu⟩,_⟩,_⟩:=hp.rd hS []
 exact bz (Ld ht ((xJ hO hj hu).2.2 off u hc) (aR ha hx)) (k.sound B o ho _ w (ao ha) hs)
theorem N0 {q:Bool} {d n e:Nat} {x:OO} {v u:Value} {us:List (List Value)} {j:Int} {cs:LV} {ty:TI} {m:Option M} (h1:de Γ (.own (aK e (iz n)) v us) Γ1) (hp:In (.rd false (zV us j) (.bool true) cs) Γ) (hc:cs[0]? = some u)
  (k:D P cx (.o q all l rk Γ ((d,u) :: fr) m)):D P cx (.la (dc v n j) none q ty x d all l rk Γ fr m):=by
 have e:(dc v n j).add 0=dc v n j:=rfl
 rw [← e]
 exact Qc h1 hp hc k
theorem T4 {q:Bool} {d n e:Nat} {x:OO} {v:Value} {us:List (List Value)} {j:Int} {cs:LV} {ty:TI} {m:Option M} (h1:de Γ (.own (aK e (iz n)) v us) Γ1) (hp:In (.rd false (zV us j) (.bool true) cs) Γ)
  (k:D P cx (.o q all l rk Γ ((d,.agg cs.toArray) :: fr) m)):D P cx (.la (dc v n j) (some n) q ty x d all l rk Γ fr m):=by
 refine D.of ?_
 intro ht hx B o ho r w ha hs t pos ab g
 obtain ⟨Z,F,hS,_⟩:=@_root_.id _ hs
 obtain ⟨f,F1,_,hO,_⟩:=h1.sound hS
 obtain ⟨_,⟨_,⟨hj,hu⟩,_⟩,_⟩:=hp.rd hS []
 obtain ⟨e1,_,e3⟩:=xJ hO hj hu
 exact bz (Lg ht (fun i u hi=>e3 i u hi) (aR ha hx) e1) (k.sound B o ho _ w (ao ha) hs)
theorem T5 {α V:Type} {S:af α} {cl:α→V→List Value} {en:α→V→List av} (y:α) {u:V} {d b n e bt:Nat} {s x:OO} {sv:Value} {us:List (List Value)} {xs:List α} {cs:LV} {t et ty:TI} {f:Unit→Option M} [ht:zY P t e n bt]
  (hs:bb fr s=some sv) (hx:bb fr x=some (.slice (some ⟨b,0,none⟩) 1 1)) (h0:de Γ (.row b cs et) Γ1) (h1:de Γ1 (.own (aK e (iz n)) sv us) Γ2) (hg:In (.rd false (sL S) (.bool true) (us,xs)) Γ2) (oy:Ea S V cl en) (_hv:bp V u) (hc:cs=cl y u) (ho:bd Γ cs) (hn:cs.length=n) (T6:FO (en y u)) (hf:EF Γ2 (en y u) Γ3)
  (h:∀ v,D P cx (.o false all l rk (.own (aK e (iz n)) v (us++[cs]) :: .rd false (sL S) (.bool true) (us++[cs],xs++[y]) :: Γ3) ((d,v) :: fr) (f ()))):D P cx (.e false (.call ⟨.builtin .append,#[s,x],#[t,t]⟩) (some d) ty all l rk Γ fr (fits bt (xs.length+1)>>=f)):=by
 refine D.of ?_
 intro B o br r w ha da pos ab g
 have DK:SO S V cl en:=by cases oy; assumption
 obtain ⟨_,hu,br⟩:=bind_some br
 obtain ⟨b1,b2⟩:=iH hu
 obtain ⟨q1,i,z,q2,q3,q4,q5,q6,_⟩:=ht.h
 obtain ⟨Z,F,hS,hG⟩:=da
 have E9:=ho.one hS
 obtain ⟨n0,F0,rN,⟨rfl,aX⟩,r8⟩:=h0.sound hS
 obtain ⟨k,F1,hp,hO,ed⟩:=h1.sound r8
 obtain ⟨Fd,F2,Zn,T8,fx,nh⟩:=hf.sound ed
 obtain ⟨g0,hk,oK⟩:=hg.rd ed []
 have hlen:us.length=xs.length:=yq hk.2.1
 have rF:((k++F1)++[b]).Perm F:=(List.perm_append_comm.trans (hp.append_left [b])).trans rN
 have mj:Gd B Z (k++F1) w:=Gd.left (F':=[b]) (hG.perm rF)
 have uy:((k++F2)++(Fd++Zn)).Perm (k++F1):=by
  rw [List.append_assoc]
  refine List.Perm.append_left k (.trans ?_ nh)
  rw [← List.append_assoc]
  exact (List.perm_append_comm (l₁:=F2) (l₂:=Fd)).append_right Zn
 have qT:Gd B Z ((k++F2)++(Fd++Zn)) w:=mj.perm uy
 have bc:∀ b∈Fd++Zn,b < w.heap.size:=fun b hb=>by
  have h3:b∈k++F1:=uy.mem_iff.1 (List.mem_append_right _ hb)
  rcases List.mem_append.1 h3 with h3 | h3
  ·exact af.lt _ hO b h3
  ·exact ed.lt b h3
 have F8:Gd B (rq Z (Fd++Zn)) (k++F2) w:=qT.freeze bc
 have CQ:∀ b,rq Z Zn b→rq Z (Fd++Zn) b:=fun b hb=>hb.imp id fun h=>List.mem_append_right _ h
 obtain ⟨g1,xy,CR⟩:=DK.cl (x:=y) (v:=u) (Z:=rq Z (Fd++Zn)) (w:=w) (Qb T6 (T8.mono CQ))
 have hdk:rM [] k:=fun _ h=>absurd h List.not_mem_nil
 have hE:dx (iz n) w.heap cs [cs] []:=⟨cs,[],[],[],by simp,by simp,⟨rfl,hn,E9,rfl⟩,rfl,rfl⟩
 obtain ⟨v,w',f',jk,hC,dq,b9,df⟩:=my (E:=iz n) (d:=some d) (ty:=ty) (pos:=pos) (ab:=ab) (g:=none) (k:=[]) (ys:=[cs]) (news:=cs) q1 q2 q3 (by rw [q5]; rfl) (by rw [q4]; rfl) (aR ha hs) hO (List.nodup_append.1 mj.nd).1 (aR ha hx) (fun i u hi=>aX.at i u hi) hE hdk (by simp) (by rw [q6,hlen]; exact b1) (by rw [hlen]; exact b2)
 refine dv (WL.val rfl jk ((h v).sound B o br _ w' (ao ha) ?_))
 have T9:fact (rq Z (Fd++Zn)) w [] (.rd false (sL S) (.bool true) (us++[cs],xs++[y])):=by
  rw [hc]
  refine ⟨g0++g1,⟨rfl,Sx xy hk.2.1,fun b hb=>?_⟩,fun b hb=>?_⟩
  ·rcases List.mem_append.1 hb with hb | hb
   ·exact hk.2.2 b hb
   ·exact S.lt xy b hb
  ·rcases List.mem_append.1 hb with hb | hb
   ·exact .inl (oK b hb)
   ·exact CR b hb
 exact St.put (SA.fact (fx.mono CQ fun _ h=>h) T9) F8 hC dq (df List.nodup_nil) fun b hb=>(b9 b hb).imp id fun h=>h.resolve_left List.not_mem_nil
theorem Rv {n:Nat} {h:Array Obj}:∀ {us:List (List Value)} {cs:LV} {f:LN},dx (iz n) h cs us f→∀ c∈us,c.length=n∧∀ v∈c,v.oneCell'=true:=by
 intro us
 induction us with
 | nil=>intro cs f _ c hc; cases hc
 | cons a us ih=>
  rintro cs f ⟨c',gy,f1,f2,rfl,rfl,⟨rfl,h1,h2,rfl⟩,h3⟩ c hc
  rcases List.mem_cons.1 hc with rfl | hc
  ·exact ⟨h1,h2⟩
  ·exact ih h3 c hc
theorem Rw {n:Nat} {h:Array Obj}:∀ {us:List (List Value)},(∀ c∈us,c.length=n∧∀ v∈c,v.oneCell'=true)→dx (iz n) h us.flatten us []:=by
 intro us
 induction us with
 | nil=>intro _; exact ⟨rfl,rfl⟩
 | cons a us ih=>
  intro hc
  have h1:=hc a (by simp)
  exact ⟨a,us.flatten,[],[],by simp,rfl,⟨rfl,h1.1,h1.2,rfl⟩,ih fun c hm=>hc c (by simp [hm])⟩
theorem HE {n:Nat} {c:LV}:∀ {us:List (List Value)} {j:Nat},(∀ x∈us,x.length=n)→j < us.length→(us.set j c).flatten=us.flatten.take (j * n)++c++us.flatten.drop (j * n+n)∧j * n+n≤us.flatten.length:=by
 intro us
 induction us with
 | nil=>intro j _ hj; simp at hj
 | cons a us ih=>
  intro j hl hj
  have ha:a.length=n:=hl a (by simp)
  cases j with
  | zero=>refine ⟨?_,by simp [ha]⟩; simp [← ha]
  | succ j=>
   obtain ⟨h1,h2⟩:=ih (j:=j) (fun x hx=>hl x (by simp [hx])) (by simpa using hj)
   have e:(j+1) * n=n+j * n:=by rw [Nat.add_mul,Nat.one_mul,Nat.add_comm]
   refine ⟨?_,by rw [e,List.flatten_cons,List.length_append,ha]; omega⟩
   rw [List.set_cons_succ,List.flatten_cons,List.flatten_cons,h1,e,List.take_append,List.drop_append,ha]
   have e1:List.take (n+j * n) a=a:=List.take_of_length_le (by omega)
   have e2:List.drop (n+j * n+n) a=[]:=List.drop_eq_nil_of_le (by omega)
   rw [e1,e2,show n+j * n - n=j * n by omega,show n+j * n+n - n=j * n+n by omega]
   simp
theorem stS {α V:Type} {S:af α} {cl:α→V→List Value} {en:α→V→List av} (y:α) {u:V} {n e:Nat} {x0 y0:OO} {v:Value} {j:Int} {us:List (List Value)} {xs:List α} {cs c0:LV} {t ty:TI} {m:Option M}
  (h1:de Γ (.own (aK e (iz n)) v us) Γ1) (hp:In (.rd false (zV us j) (.bool true) c0) Γ) (hg:In (.rd false (sL S) (.bool true) (us,xs)) Γ1) (oy:Ea S V cl en) (_hv:bp V u) (hc:cs=cl y u) (ho:bd Γ cs) (hn:cs.length=n) (T6:FO (en y u)) (hf:EF Γ1 (en y u) Γ2)
  (h:D P cx (.o false all l rk (.own (aK e (iz n)) v (us.set j.toNat cs) :: .rd false (sL S) (.bool true) (us.set j.toNat cs,xs.set j.toNat y) :: Γ2) fr m)):D P cx (.st (dc v n j) (.agg cs.toArray) n t x0 y0 ty all l rk Γ fr m):=by
 refine D.of ?_
 intro hT hx hy B o br r w ha da pos ab g
 have DK:SO S V cl en:=by cases oy; assumption
 obtain ⟨i,q1,q2⟩:=hT
 obtain ⟨Z,F,hS,hG⟩:=da
 have E9:=ho.one hS
 obtain ⟨_,⟨_,⟨hj,hu⟩,_⟩,_⟩:=hp.rd hS []
 obtain ⟨k,F1,rv,hO,ed⟩:=h1.sound hS
 obtain ⟨Fd,F2,Zn,T8,fx,nh⟩:=hf.sound ed
 obtain ⟨g0,hk,oK⟩:=hg.rd ed []
 have mj:Gd B Z (k++F1) w:=hG.perm rv
 have uy:((k++F2)++(Fd++Zn)).Perm (k++F1):=by
  rw [List.append_assoc]
  refine List.Perm.append_left k (.trans ?_ nh)
  rw [← List.append_assoc]
  exact (List.perm_append_comm (l₁:=F2) (l₂:=Fd)).append_right Zn
 have qT:Gd B Z ((k++F2)++(Fd++Zn)) w:=mj.perm uy
 have bc:∀ b∈Fd++Zn,b < w.heap.size:=fun b hb=>by
  have h3:b∈k++F1:=uy.mem_iff.1 (List.mem_append_right _ hb)
  rcases List.mem_append.1 h3 with h3 | h3
  ·exact af.lt _ hO b h3
  ·exact ed.lt b h3
 have F8:Gd B (rq Z (Fd++Zn)) (k++F2) w:=qT.freeze bc
 have CQ:∀ b,rq Z Zn b→rq Z (Fd++Zn) b:=fun b hb=>hb.imp id fun h=>List.mem_append_right _ h
 obtain ⟨g1,xy,CR⟩:=DK.cl (x:=y) (v:=u) (Z:=rq Z (Fd++Zn)) (w:=w) (Qb T6 (T8.mono CQ))
 obtain ⟨g2,PN,X2⟩:=KA (c:=cs) (by rw [hc]; exact xy) j.toNat hk.2.1
 have T9:fact (rq Z (Fd++Zn)) w [] (.rd false (sL S) (.bool true) (us.set j.toNat cs,xs.set j.toNat y)):=by
  refine ⟨g2,⟨rfl,PN,fun b hb=>?_⟩,fun b hb=>?_⟩
  ·exact (X2 b hb).elim (hk.2.2 b) (S.lt xy b)
  ·exact (X2 b hb).elim (fun h=>.inl (oK b h)) (CR b)
 have z8:j.toNat < us.length:=(List.getElem?_eq_some_iff.1 hu).1
 obtain ⟨base,cap,mw,hr⟩:=hO
 obtain rfl:v = .slice base us.length cap:=by simpa using mw
 rcases hr with ⟨_,_,rfl,_⟩ | ⟨b,cur,f',rfl,h2,rfl,h4,h5,h6,h3⟩
 ·simp at z8
 ·obtain ⟨X3,rO⟩:=Fh h3
  subst rO
  have ew:=Rv h3
  obtain ⟨e1,e2⟩:=HE (c:=cs) (fun x hx=>(ew x hx).1) z8
  have aX:Row w b cur.toList e:=by unfold Row; simpa using h2
  have Ua:cur.toList=us.flatten++cur.toList.drop (us.length * n):=by
   rw [← X3]; exact (List.take_append_drop _ _).symm
  have wo:dc (.slice (some ⟨b,0,none⟩) us.length cap) n j = ⟨b,j.toNat * n,none⟩:=by
   simp only [dc,ja,Nat.zero_add]
  rw [wo] at hx
  have hle:j.toNat * n+cs.length≤cur.toList.length:=by
   rw [hn,Ua,List.length_append]; omega
  have jk:=uX (P:=P) (d:=none) (ty:=ty) (pos:=pos) (ab:=ab) (gg:=none) q1 (by rw [hn,q2]) aX hle (aR ha hx) (y:=y0) (by rw [aR ha hy]; rfl) E9
  refine dv (WL.skip rfl jk (h.sound B o br _ _ ha ?_))
  have ye:cur.toList.take (j.toNat * n)++cs++cur.toList.drop (j.toNat * n+cs.length)=(us.set j.toNat cs).flatten++cur.toList.drop (us.length * n):=by
   rw [hn,e1]
   conv=>lhs; rw [Ua]
   rw [List.take_append_of_le_length (by omega),List.drop_append_of_le_length (by omega)]
   simp
  have rE:=setRow_heap w b cur (cur.toList.take (j.toNat * n)++cs++cur.toList.drop (j.toNat * n+cs.length)).toArray e _ h2
  refine St.put (f:=[b]) (f':=[b]) (SA.fact (fx.mono CQ fun _ h=>h) T9) F8 ⟨rfl,rfl,rfl,Nat.le_refl _,by simp,fun j' _ ie=>setRow_other w b j' _ fun h=>ie (by simp [h])⟩ ?_ (by simp) (fun b hb=>.inl hb)
  refine ⟨_,cap,by rw [List.length_set],.inr ⟨b,_,[],rfl,rE,rfl,by rw [List.length_set]; exact h4,h5,?_,?_⟩⟩
  ·rw [← h6]
   simp only [List.size_toArray,ye]
   have e3:(us.set j.toNat cs).flatten.length=us.flatten.length:=by
    rw [e1]; simp only [List.length_append,List.length_take,List.length_drop,hn]; omega
   rw [List.length_append,e3,← List.length_append,← Ua,Array.length_toList]
  ·rw [List.toList_toArray,ye,List.length_set]
   have ajE:(us.set j.toNat cs).flatten.length=us.length * n:=by
    have e3:(us.set j.toNat cs).flatten.length=us.flatten.length:=by
     rw [e1]; simp only [List.length_append,List.length_take,List.length_drop,hn]; omega
    rw [e3]
    have:=jz h3
    rw [X3] at this
    exact this
   show dx (iz n) _ (List.take (us.length * n) _) _ _
   rw [List.take_append_of_le_length (by omega),List.take_of_length_le (by omega)]
   refine Rw fun c hm=>?_
   rcases List.mem_or_eq_of_mem_set hm with hm | rfl
   ·exact ew c hm
   ·exact ⟨hn,E9⟩
theorem yi {α:Type} {E:af α} {d n:Nat} {t e ty:TI} {ps:List (Nat×Operand)} {us:LV} {xs:List α} {m:Option M} [hz:KF P t e] (hl:uK Γ fr 0 ps us) (hn:us.length=n) (hb:(Nat.ble 1 n && Nat.ble n 16777216)=true) (hx:Fq Γ E us xs Γ1) (hE:E.size=1)
  (h:∀ v,D P cx (.o false all l rk (.own (aK e E) v xs :: Γ1) ((d,v) :: fr) m)):D P cx (.e false (.buildSlice t n ps.toArray) (some d) ty all l rk Γ fr m):=by
 refine D.of ?_
 intro B o ho r w ha hs pos ab g
 obtain ⟨Z,F,hS,hg⟩:=hs
 refine dv (WL.val rfl (hl.op ha hS ⟨hz.h⟩ hn hb) ((h _).sound B o ho _ _ (ao ha) ?_))
 obtain ⟨e1,f,F2,nh,hr,fx⟩:=hx.sound hS
 have za:n≤16777216:=by
  rw [Bool.and_eq_true] at hb
  exact Nat.le_of_ble_eq_true hb.2
 have hC:ak [] w (w.alloc (.cells us.toArray e)):=ak.alloc _ _ _
 have fk:Gd B Z (f++F2) w:=hg.perm nh
 have bc:∀ b∈f,b < w.heap.size:=ml hr
 have ye:=heap_alloc_new w (.cells us.toArray e)
 have fc:dx E (w.alloc (.cells us.toArray e)).heap us xs f:=ke hr fun b hb=>hC.block b (bc b hb) (fun h=>absurd h List.not_mem_nil)
 refine St.put (f:=f) (f':=w.heap.size :: f) fx fk (ak.mono hC fun _ h=>absurd h List.not_mem_nil) ⟨_,n,by rw [← hn,e1],.inr ⟨w.heap.size,us.toArray,f,rfl,ye,rfl,by rw [← hn,e1]; exact Nat.le_refl _,Nat.le_trans za (by decide),by rw [hE,Nat.mul_one]; simp [hn],?_⟩⟩ ?_ ?_
 ·rw [hE,Nat.mul_one,List.toList_toArray,← e1,List.take_length]
  exact fc
 ·exact List.nodup_cons.2 ⟨fun hm=>Nat.lt_irrefl _ (bc _ hm),(List.nodup_append.1 fk.nd).1⟩
 ·intro b hb
  rcases List.mem_cons.1 hb with rfl | hb
  ·exact .inr (Nat.le_refl _)
  ·exact .inl hb
theorem P1 {α:Type} {d b:Nat} {s x:OO} {v u yv:Value} {j:Int} {y:α} {z:List α} {xs:List (List α)} {t e e' et ty:TI} {E E':af α} {z0:α} {bt:Nat} {o1 o2:Bool} {Γx:QE} {f:Unit→Option M} [hT:qS P t α e E z0 bt] (hs:bb fr s=some u) (hx:bb fr x=some (.slice (some ⟨b,0,none⟩) 1 1)) (hl:Loc Γ u (.row v j)) (h0:de Γ (.row b [yv] et) Γ1) (hz:lz Γ u o1 o2 E' z qc Γx) (h1:de Γ1 (.own (aK e' (aK e E)) v xs) Γ2) (hr:RT (aK e E) (aE E')) (hy:BL Γ2 E yv y Γ3)
  (h:∀ v',D P cx (.o false all l rk (.own (aK e E) v' (z++[y]) :: .own (rm e' (aK e E) j.toNat) v xs :: Γ3) ((d,v') :: fr) (f ()))):D P cx (.e false (.call ⟨.builtin .append,#[s,x],#[t,t]⟩) (some d) ty all l rk Γ fr (fits bt (z.length+1)>>=f)):=by
 refine D.of ?_
 intro B o br r w ha da pos ab g
 obtain ⟨_,hu,br⟩:=bind_some br
 obtain ⟨b1,b2⟩:=iH hu
 obtain ⟨q1,q2,i,zz,q3,q4,q5,q6,q7,_⟩:=hT.h
 obtain ⟨Z,F,hS,hG⟩:=da
 obtain ⟨j0,j1,jo⟩:=Loc.row hl rfl hS
 obtain ⟨dj,_,⟨⟨gz,oK,_⟩,_⟩,_⟩:=hz.sound hS
 obtain ⟨n0,F0,rN,⟨rfl,aX⟩,r8⟩:=h0.sound hS
 obtain ⟨fm,F1,rv,hO,ed⟩:=h1.sound r8
 obtain ⟨ky,F2,nh,Ts,fx⟩:=hy.sound ed
 rw [qZ hO] at j1
 obtain ⟨k,gm,a1,a2,a3⟩:=B4 rfl hO (List.getElem?_eq_getElem j1) jo
 have K9:xs[j.toNat]=z:=hr.tJ (hr.le.le a1) oK
 rw [K9] at a1
 have rF:((k++ky)++(gm++F2)).Perm (fm++F1):=by
  have e1:((k++gm)++(ky++F2)).Perm (fm++F1):=(a2.append_right _).trans (nh.append_left fm)
  refine .trans ?_ e1
  rw [List.append_assoc,List.append_assoc]
  refine List.Perm.append_left k ?_
  rw [← List.append_assoc,← List.append_assoc]
  exact List.perm_append_comm.append_right F2
 have mj:Gd B Z ((k++ky)++(gm++F2)) w:=Gd.left (F':=[b]) (hG.perm (((rF.append_right [b]).trans (List.perm_append_comm.trans (rv.append_left [b]))).trans rN))
 have df:=(List.nodup_append.1 mj.nd).1
 have wB:=List.nodup_append.1 df
 obtain ⟨v',w',f',jk,hC,dq,b9,zo⟩:=my (E:=E) (d:=some d) (ty:=ty) (pos:=pos) (ab:=ab) (g:=none) (k:=ky) (ys:=[y]) (news:=[yv]) q1 q3 q4 (by rw [q5,q2]) (by rw [cells_one q6,q2]; rfl) (aR ha hs) a1 wB.1 (aR ha hx) (fun i u hi=>aX.at i u hi) (pq Ts) (fun b hb hm=>wB.2.2 b hm b hb rfl) (by simp) (by rw [q7]; exact b1) b2
 refine dv (WL.val rfl jk ((h v').sound B o br _ w' (ao ha) ?_))
 have hSh:SA Z w (.own (rm e' (aK e E) j.toNat) v xs :: Γ3) [] (gm++F2):=SA.cons fx (e:=.own (rm e' (aK e E) j.toNat) v xs) a3
 refine St.put hSh mj (hC.mono fun b hb=>List.mem_append_left _ hb) dq (zo wB.2.1) fun b hb=>?_
 rcases b9 b hb with h | h | h
 ·exact .inl (List.mem_append_left _ h)
 ·exact .inl (List.mem_append_right _ h)
 ·exact .inr h
theorem ixH {α:Type} {q:Bool} {d j0:Nat} {x y:OO} {v:Value} {k:IntKind} {j:Int} {xs:List α} {t e ty:TI} {E:af α} {f:α→Option M} [ht:vI P t] (hx:bb fr x=some v) (hy:bb fr y=some (.int k j)) (h1:de Γ (.own (rm e E j0) v xs) Γ1)
  (h:∀ z,D P cx (.o q all l rk Γ ((d,.pointer (some (dc v 1 j))) :: fr) (f z))):D P cx (.e q (.indexAddr t x y) (some d) ty all l rk Γ fr (idx xs j>>=f)):=by
 refine D.of ?_
 intro B o ho r w ha hs pos ab g
 obtain ⟨z,hz,ho⟩:=bind_some ho
 replace hz:=q9 hz
 obtain ⟨e',i,q1,q2,q3⟩:=ht.h
 obtain ⟨Z,F,hS,_⟩:=@_root_.id _ hs
 obtain ⟨f0,F1,_,⟨b,cap,cur,f1,f2,p,c0,qq,hv,_⟩,_⟩:=h1.sound hS
 obtain rfl:v = .slice (some ⟨b,0,none⟩) xs.length cap:=by simpa using hv
 have bc:j.toNat < xs.length:=(List.getElem?_eq_some_iff.1 hz.2).1
 have Gl:=hz.1
 refine bz (v:=.pointer (some (dc (.slice (some ⟨b,0,none⟩) xs.length cap) 1 j))) (fun w' hC=>?_) ((h z).sound B o ho _ w (ao ha) hs)
 rw [l4 q1 q2 (aR ha hx) (aR ha hy) hz.1 (by omega),q3]
 rfl
theorem stR {α:Type} {x0 y0:OO} {v u:Value} {j:Int} {z:α} {xs:List α} {t e ty:TI} {E:af α} {m:Option M} (h1:de Γ (.own E u z) Γ1) (h2:de Γ1 (.own (rm e E j.toNat) v xs) Γ2)
  (h:D P cx (.o false all l rk (.own (aK e E) v (xs.set j.toNat z) :: Γ2) fr m)):D P cx (.st (dc v 1 j) u 1 t x0 y0 ty all l rk Γ fr m):=by
 refine D.of ?_
 intro hT hx hy B o br r w ha da pos ab g
 obtain ⟨i,q1,q2⟩:=hT
 obtain ⟨Z,F,hS,hG⟩:=da
 obtain ⟨k,F1,rv,hK,ed⟩:=h1.sound hS
 obtain ⟨gm,F2,nh,hM,fx⟩:=h2.sound ed
 have uy:((gm++k)++F2).Perm F:=by
  refine .trans ?_ rv
  refine .trans ?_ (nh.append_left k)
  rw [← List.append_assoc k gm F2]
  exact List.perm_append_comm.append_right F2
 have mj:Gd B Z ((gm++k)++F2) w:=hG.perm uy
 have df:=(List.nodup_append.1 mj.nd).1
 obtain ⟨b,cap,cur,f1,f2,p,c0,qq,hv,g1,rfl,⟨g2,g3,g4,g5⟩,g6,⟨g7,g8⟩,g9,g10⟩:=hM
 obtain rfl:v = .slice (some ⟨b,0,none⟩) xs.length cap:=by simpa using hv
 have wo:dc (.slice (some ⟨b,0,none⟩) xs.length cap) 1 j = ⟨b,j.toNat,none⟩:=by
  simp only [dc,ja,Nat.zero_add,Nat.mul_one]
 rw [wo] at hx
 have aX:Row w b cur.toList e:=by unfold Row; simpa using g1
 have Sn:∀ i∈(f1++f2)++k,i≠b:=by
  intro i hi he
  subst he
  have e1:((i :: (f1++f2))++k)=i :: ((f1++f2)++k):=rfl
  rw [e1] at df
  exact (List.nodup_cons.1 df).1 hi
 refine dv (WL.FC q1 q2 aX (by rw [Array.length_toList,g4]; omega) (aR ha hx) (aR ha hy) (E.one hK u (by simp)) fun w' hC rG=>h.sound B o br _ w' ha ?_)
 have Qd:∀ i∈(f1++f2)++k,i < w.heap.size→w'.heap[i]? = w.heap[i]?:=fun i hi hl=>hC.block i hl fun hm=>Sn i hi (by simpa using hm)
 have hK':E.rep w'.heap [u] z k:=E.congr hK fun i hi=>Qd i (List.mem_append_right _ hi) (E.lt hK i hi)
 have KB:=g10 w'.heap (fun i hi=>Qd i (List.mem_append_left _ hi) (g9 i hi)) u z k hK'
 refine St.put (f:=(b :: (f1++f2))++k) (f':=b :: (f1++k++f2)) fx mj (hC.mono fun i hi=>by rw [List.mem_singleton.1 hi]; simp) ⟨_,cap,by rw [List.length_set],.inr ⟨b,_,f1++k++f2,rfl,rG,rfl,by rw [List.length_set]; exact g2,g3,?_,?_⟩⟩ ?_ ?_
 ·rw [g5]; simp [g4]
 ·have rE:((cur.toList.set j.toNat u).take xs.length)=p++[u]++qq:=by
   rw [List.take_set,g6,← g7]
   simp
  rw [List.length_set,g5,Nat.mul_one]
  simpa [rE] using KB
 ·have yz:(b :: (f1++k++f2)).Perm ((b :: (f1++f2))++k):=by
   rw [List.cons_append]
   refine List.Perm.cons b ?_
   rw [List.append_assoc,List.append_assoc]
   exact List.Perm.append_left f1 List.perm_append_comm
  exact yz.nodup_iff.2 df
 ·intro i hi
  refine .inl ?_
  rcases List.mem_cons.1 hi with rfl | hi
  ·simp
  ·rcases List.mem_append.1 hi with hi | hi
   ·rcases List.mem_append.1 hi with hi | hi <;> simp [hi]
   ·simp [hi]
theorem vX {S S1 V W:Type} (k:Nat) (Δ:S1→V→W→List av) (φ:S1→V→W→Fr) (v0:V) (w0:W) (f2:Fr) {fy:List KI} {kb:Kb R S} {c:Code} {s0:S1} {body:S1→Option (Out S1 R)} {f:S1→Option (Out S R)}
  (ha:rj fr (φ s0 v0 w0)) (hf:rj fr f2) (h0:EO Γ (Δ s0 v0 w0) Γ1) (hn:OW Γ (Δ s0 v0 w0)) (hs:jx Γ1 Γ2)
  (hb:∀ s v w,D P cx (.p (φ s v w) (Δ s v w) f2 Γ2 fun fr Γ=>.c ⟨[],.loop (V×W) k (fun s v=>Δ s v.1 v.2) (fun s v=>φ s v.1 v.2) Γ2 f2⟩ c Γ fr (body s)))
  (hk:∀ s v w,D P cx (.p (φ s v w) (Δ s v w) f2 Γ2 fun fr Γ=>.mn ⟨fy,kb⟩ Γ fr (f s))):Bx (ni P cx (.bk true k ⟨fy,kb⟩ (.loop c) Γ fr (ag (ae k (Li.ah body s0)) f))):=
 loop k (fun s v=>Δ s v.1 v.2) (fun s v=>φ s v.1 v.2) (v0,w0) f2 ha hf h0 hn hs (fun s v=>hb s v.1 v.2) (fun s v=>hk s v.1 v.2)
def Gm {α:Type} (v:Value) (_:List α):Prop:=∃ a n c,v = .slice a n c∧n≤c
theorem Le.cap {α:Type} {T E:af α} (hl:Le T E) (e:TI):Le (aK e T) (rW Gm (aE E)):=by
 refine ⟨rfl,fun {h cs x f} hr=>⟨?_,(Le.own hl e).le hr⟩⟩
 obtain ⟨base,cap,rfl,hr⟩:=hr
 refine ⟨_,rfl,_,_,_,rfl,?_⟩
 rcases hr with ⟨_,_,rfl,_⟩ | ⟨_,_,_,_,_,_,h,_⟩
 ·exact Nat.zero_le _
 ·exact h
theorem Rx {α:Type} {T E:af α} {e e2:TI} {v:Value} {xs:List (List α)} {f:LN} {h:Array Obj} (hl:Le T E) (hO:(aK e (aK e2 T)).rep h [v] xs f) :
  ∃ fo fz us,(fo++fz).Perm f∧(aK e rS).rep h [v] us fo∧dx (rW Gm (aE E)) h us xs fz:=by
 obtain ⟨base,cap,hv,hr⟩:=hO
 rcases hr with ⟨rfl,rfl,rfl,rfl⟩ | ⟨b,cur,f',rfl,h2,rfl,h4,h5,h6,h3⟩
 ·exact ⟨[],[],[],.refl _,⟨none,0,by simpa using hv,.inl ⟨rfl,rfl,rfl,rfl⟩⟩,rfl,rfl⟩
 ·have h7:=jz h3
  have h8:(aK e2 T).size=1:=rfl
  rw [h8,Nat.mul_one] at h6 h3 h7
  try rw [Nat.mul_one] at h7
  refine ⟨[b],f',cur.toList.take xs.length,.refl _,⟨_,cap,by rw [h7]; exact hv,.inr ⟨b,cur,[],rfl,h2,rfl,by rw [h7]; exact h4,h5,by rw [h6]; exact (Nat.mul_one _).symm,?_⟩⟩,uI (Le.cap hl e2) h3⟩
  have h9:rS.size=1:=rfl
  rw [h9,Nat.mul_one,h7]
  exact BR (B8 h3)
theorem St.frz {α:Type} {T E:af α} {e e2:TI} {v:Value} {xs:List (List α)} (hs:St B Γ w) (h1:EO Γ [.own (aK e (aK e2 T)) v xs] Γ1) (hr:RT T E):St B (.om e (rW Gm (aE E)) v xs :: Γ1) w:=by
 obtain ⟨Z,F,hS,hG⟩:=hs
 obtain ⟨_,F1,hH,ed,hp⟩:=h1.sound hS
 obtain ⟨f,hO,hp⟩ : ∃ f,(aK e (aK e2 T)).rep w.heap [v] xs f∧(f++F1).Perm F:=by
  cases hH with
  | own h k=>cases k; exact ⟨_,h,by simpa using hp⟩
 obtain ⟨fo,fz,us,hf,ho,hl⟩:=Rx hr.le hO
 have uy:((fo++F1)++fz).Perm F:=by
  refine .trans ?_ hp
  refine .trans ?_ (hf.append_right F1)
  rw [List.append_assoc,List.append_assoc]
  exact List.Perm.append_left fo List.perm_append_comm
 have qT:=Gd.freeze (hG.perm uy) fun b hb=>hS.lt b (uy.mem_iff.1 (List.mem_append_right _ hb))
 exact ⟨rq Z fz,fo++F1,SA.cons (ed.mono (fun _ h=>.inl h) fun _ h=>h) ⟨us,fz,ho,hl,fun b hb=>.inr hb,rfl⟩,qT⟩
theorem Xi {S:Type} {id:Nat} (k:Nat) {K:dh R S} {l ops X4:LO} {α:Type} {T E:af α} {e e2:TI} {v:Value} {xs:List (List α)} {m:Option (Out S R)} (hB:(P.follows .mixedOrders && dk cx.n l && ((l.take k).all fun o=>wC o.op) && Region.lexTailB .any l.toArray k)=true) (ho:ops=l.take k) (ht:X4=l.drop k)
  (h1:EO Γ [.own (aK e (aK e2 T)) v xs] Γ1) (hr:RT T E) (h:D P cx (.o true l ops (.h l X4 K) (.om e (rW Gm (aE E)) v xs :: Γ1) fr m)):Bx (ni P cx (.dr id l K Γ fr m)):=by
 have h2:=tail (id:=id) k hB ho ht h
 rw [l3] at h2 ⊢
 exact fun B o br r w ha hs=>h2 B o br r w ha (hs.frz h1 hr)
theorem Lu {α:Type} {E:af α} {h:Array Obj}:∀ {xs:List α} {cs:LV} {f:LN} (n:Nat),dx E h cs xs f→∃ f3,dx E h (cs.drop (n * E.size)) (xs.drop n) f3∧∀ b∈f3,b∈f:=by
 intro xs
 induction xs with
 | nil=>rintro cs f n ⟨rfl,rfl⟩; exact ⟨[],by simpa using ⟨rfl,rfl⟩,fun _ h=>h⟩
 | cons x xs ih=>
  rintro cs f n ⟨c,ds,f1,f2,rfl,rfl,h1,h2⟩
  cases n with
  | zero=>exact ⟨f1++f2,by simpa using ⟨c,ds,f1,f2,rfl,rfl,h1,h2⟩,fun _ h=>h⟩
  | succ n=>
   obtain ⟨f3,h3,h4⟩:=ih n h2
   refine ⟨f3,?_,fun b hb=>List.mem_append_right _ (h4 b hb)⟩
   have e:(n+1) * E.size=c.length+n * E.size:=by rw [E.len h1,Nat.add_mul,Nat.one_mul,Nat.add_comm]
   rw [e,List.drop_append,List.drop_of_length_le (by omega),List.nil_append,List.drop_succ_cons]
   simpa using h3
theorem slT {α:Type} {q:Bool} {d:Nat} {x lo:OO} {v:Value} {k:IntKind} {j:Int} {E:af α} {xs:List α} {t ty:TI} {f:List α→Option M} [ht:vI P t] (hx:bb fr x=some v) (hy:bb fr lo=some (.int k j)) (hr:In (.rd false (rW Gm (aE E)) v xs) Γ) (hE:E.size=1)
  (h:∀ v' ys,D P cx (.o q all l rk (.rd false (aE E) v' ys :: Γ) ((d,v') :: fr) (f ys))):D P cx (.e q (.slice t x (some lo) none none) (some d) ty all l rk Γ fr (tl xs j>>=f)):=by
 refine D.of ?_
 intro B o ho r w ha hs pos ab g
 obtain ⟨ys,Tw,ho⟩:=bind_some ho
 obtain ⟨h0,h1,rfl⟩:=Ry Tw
 obtain ⟨e,i,q1,q2,q3⟩:=ht.h
 obtain ⟨Z,F,hS,hG⟩:=hs
 obtain ⟨g0,⟨⟨v0,hv0,a0,n0,c0,Ip,hc⟩,base,cap,hv,fc⟩,oK⟩:=hr.rd hS []
 obtain rfl:v = .slice base xs.length cap:=by simpa using hv
 obtain rfl:Value.slice base xs.length cap=v0:=by simpa using hv0
 obtain ⟨rfl,rfl,rfl⟩ : base=a0∧xs.length=n0∧cap=c0:=by simpa using Ip
 have hlen:(xs.drop j.toNat).length=xs.length - j.toNat:=List.length_drop
 have hf:fact Z w [] (.rd false (aE E) (sliced base j.toNat xs.length cap 1) (xs.drop j.toNat)):=by
  by_cases hj:j.toNat=xs.length
  ·refine ⟨[],⟨_,cap - j.toNat,by unfold sliced; rw [hlen],.inl ⟨by rw [hj]; simp,rfl⟩⟩,fun _ h=>absurd h List.not_mem_nil⟩
  ·rcases fc with ⟨rfl,_⟩ | ⟨b,off,cur,e',fz,f',rfl,g1,rfl,g2⟩
   ·exfalso; simp at h1 hj; omega
   ·have ks : ¬ (cap=j.toNat):=by omega
    obtain ⟨f3,dq,b9⟩:=Lu j.toNat g2
    refine ⟨b :: f3,⟨some ⟨b,off+j.toNat,none⟩,cap - j.toNat,?_,.inr ⟨b,off+j.toNat,cur,e',fz,f3,rfl,g1,rfl,?_⟩⟩,fun i hi=>?_⟩
    ·unfold sliced
     rw [hlen,if_neg ks]
     simp [ja]
    ·rw [hE,Nat.mul_one] at dq ⊢
     rw [Nat.mul_one,List.drop_take,List.drop_drop] at dq
     rw [hlen]
     exact dq
    ·rcases List.mem_cons.1 hi with rfl | hi
     ·exact oK _ (by simp)
     ·exact oK _ (List.mem_cons_of_mem _ (b9 i hi))
 refine bz (v:=sliced base j.toNat xs.length cap 1) (fun w' _=>?_) ((h _ _).sound B o ho _ w (ao ha) ⟨Z,F,SA.fact hS hf,hG⟩)
 have q4:P.elem t=e:=by simp [Program.elem,q1]
 have ru:(sizeOf (P.elem t)).run P w' = .ok 1 w':=by rw [q4]; simp [sizeOf,typeInfo,q2,q3]
 simp [execOp,aR ha hx,aR ha hy,run_sliceAt_slice w' t _ _ _ _ (by rw [q4]; exact q1),run_slice_l (P:=P) w' t base xs.length cap (by rw [q4]; exact q1) k j h0 h1,ru,Result.andThen]
theorem stN {α:Type} {x y:OO} {v u:Value} {j:Int} {z:List α} {xs:List (List α)} {E:af α} {Q:Value→List α→Prop} {t e ty:TI} {Γx:QE} {m:Option M} (h0:Rg v j Γ) (h1:lz Γ u false false E z qc Γx) (h2:de Γ (.om e (rW Q (aE E)) v xs) Γ1)
  (h:D P cx (.o false all l rk (.om e (aE E) v (xs.set j.toNat z) :: Γ1) fr m)):D P cx (.sl .om v j u t x y ty all l rk Γ fr m):=by
 refine D.of ?_
 intro hT hx hy _ B o ho r w ha hs pos ab g
 obtain ⟨i,hi,ru⟩:=hT
 obtain ⟨Z,F,hS,hg⟩:=hs
 obtain ⟨j0,j1⟩:=h0.sound hS
 obtain ⟨dj,_,⟨⟨k,hk,yw⟩,_⟩,_⟩:=h1.sound hS
 obtain ⟨n,F1,hp,⟨us,gg,hO,hr0,oK,z6⟩,ed⟩:=h2.sound hS
 have hle:Le (rW Q (aE E)) (aE E):=⟨rfl,fun h=>h.2⟩
 have hr:dx (aE E) w.heap us xs gg:=uI hle hr0
 replace z6:(aE E).size=1:=rfl
 have fk:=hg.perm hp
 have df:=List.nodup_append.1 fk.nd
 have tQ:∀ b∈k,Z b:=fun b hb=>(yw b hb).elim (fun h=>h) (fun h=>h)
 have xD:∀ b∈n,¬ Z b:=fun b hb=>fk.apart b (List.mem_append_left _ hb)
 have hl:us.length=xs.length:=by have:=jz hr; rw [z6,Nat.mul_one] at this; exact this
 have D7:uH v=us.length:=qZ hO
 rw [D7,hl] at j1
 refine dv (FB.store (E:=aE E) (G:=n) (B:=w.heap.size) (g:=gg) (k:=k) hi ru ⟨us,⟨hO,df.1,fun b hb=>.inl hb⟩,hr,z6⟩ (List.getElem?_eq_getElem j1) (aR ha hx) (aR ha hy) hk (fun b hb hm=>xD b hm (tQ b hb)) (fun b hb hm=>xD b hm (oK b hb)) fun w' g' hC lu iw=>?_)
 obtain ⟨CD,br,fc,zd⟩:=lu
 exact h.sound B o ho _ w' ha (St.put ed fk hC ⟨CD,_,br.1,fc,(fun b hb=>(iw b hb).elim (oK b) (tQ b)),zd⟩ br.2.1 fun b hb=>.inl hb)
theorem St.alD {B:Bs} {Γ Δ Γ1 Γ2 Γ3:QE} {w:World} (h:St B Γ w) (h0:EF Γ Δ Γ1) (h1:EO Γ1 Γ2 Γ3) (h2:MF Γ none Γ2):St B (Δ.reverse++Γ2) w:=by
 obtain ⟨Z,F,hs,hg⟩:=h
 obtain ⟨Fd,F',Zn,a1,a2,a3⟩:=h0.sound hs
 obtain ⟨SR,F3,c1,c2,c3⟩:=h1.sound a2
 obtain ⟨F2,b1,b2⟩:=HL.build a1 (h2.sound (hs.left (f:=Zn)) (dj:=[]) (by rintro e he; cases he) c1)
 refine St.of (F':=Fd++SR) b2 (Gd.left (F':=F3) ((Gd.freeze (hg.perm a3) fun b hb=>hs.lt b (a3.mem_iff.1 (List.mem_append_right _ hb))).perm ?_)) b1
 rw [List.append_assoc]
 exact c3.append_left Fd
theorem join {S S1 V:Type} {t k:Nat} {b:Bool} (Δ:S1→V→List av) (φ:S1→V→Fr) (v0:V) (f2:Fr) {fy:List KI} {kb:Kb R S} {x y:Code} {s0:S1} {m0:Option (Out S1 R)} {f:S1→Option (Out S R)}
   (_ha:rj fr (φ s0 v0)) (_hf:rj fr f2) (_h0:EO Γ (Δ s0 v0) Γ1) (_hs:jx Γ1 Γ2)
   (hb:D P cx (.cd b ⟨[],.loop V k Δ φ Γ2 f2⟩ x y Γ fr m0)) (hk:∀ s v,D P cx (.p (φ s v) (Δ s v) f2 Γ2 fun fr Γ=>.n ⟨fy,kb⟩ Γ fr (f s))):D P cx (.cd b ⟨fy,kb⟩ x y Γ fr (jn t s0 m0 f)):=by
 refine .inj (Kz ?_)
 intro B o ho r w qd qe
 replace ho:ag m0 f=some o:=ho
 cases hm:m0 with
 | none=>rw [hm] at ho; cases ho
 | some o0=>
  have h1:=hb.sound B o0 hm r w qd qe
  rw [hm] at ho
  have hq:∀ e r w,mi P cx B ⟨[],.loop V k Δ φ Γ2 f2⟩ o0 e r w→mi P cx B ⟨fy,kb⟩ o e r w:=by
   intro e r w hp
   cases o0 with
   | norm s=>
    cases e with
    | normal=>obtain ⟨v,a1,a2⟩:=hp; exact (hk s v).sound B o ho r w a1 a2
    | _=>exact hp.elim
   | exit j s=>cases ho
   | ret y=>
    cases ho
    cases e with
    | ret=>exact u9 hp
    | _=>exact hp.elim
  exact ⟨fun h=>tZ (h1.1 h) hq,fun h=>tZ (h1.2 h) hq⟩
theorem Ub {S:Type} {t:Nat} {K:dh R S} {ops:LO} {m:Option (Out S R)} (_ht:Cv ops=some t) (h:D P cx (.o false ops ops (.s K) Γ fr m)):D P cx (.rw false ops K Γ fr m):=.XF h
theorem tu {S:Type} {b:Bool} {t:Nat} {K:dh R S} {x y:Code} {m1 m2:Option (Out S R)} (hl:look fr t=some (.bool b)) (h1:D P cx (.c K x Γ ((t,.bool true) :: fr) m1)) (h2:D P cx (.c K y Γ ((t,.bool false) :: fr) m2)):D P cx (.cd b K x y Γ fr (bif b then m1 else m2)):=by
 refine D.of ?_
 have hc:∀ {r:NV},cq r fr→∀ c,b=c→cq r ((t,.bool c) :: fr):=by
  intro r ha c hb s u hs
  unfold look at hs
  cases qe:Nat.beq s t with
  | true=>
   rw [qe] at hs
   cases hs
   obtain rfl:=Nat.eq_of_beq_eq_true qe
   rw [← hb]
   exact ha _ _ hl
  | false=>rw [qe] at hs; exact ha _ _ hs
 exact fun B o ho r w ha hs=>⟨fun h=>h1.sound B o (by rw [h] at ho; exact ho) r w (hc ha _ h) hs,fun h=>h2.sound B o (by rw [h] at ho; exact ho) r w (hc ha _ h) hs⟩
theorem XR {α β:Type} {q:Bool} {d:Nat} {x y:OO} {v:Value} {k:IntKind} {j:Int} {t ty:TI} {o1 o2 p1 p2:Bool} {E:af α} {E2:af β} {z:β} {xs:List α} {Γx:QE} {m:Option M} [ht:vI P t] (hx:bb fr x=some v) (hy:bb fr y=some (.int k j)) (hr:lz Γ v o1 o2 E xs qc Γx) (hi:In (.ad p1 p2 v j E2 z) Γ) (hE:E.size=1)
  (h:D P cx (.o q all l rk Γ ((d,.pointer (some (dc v 1 j))) :: fr) m)):D P cx (.e q (.indexAddr t x y) (some d) ty all l rk Γ fr m):=by
 refine D.of ?_
 intro B o ho r w ha hs pos ab g
 obtain ⟨Z,F,hS,_⟩:=@_root_.id _ hs
 obtain ⟨_,_,⟨⟨n',ox,_⟩,_⟩,_⟩:=hr.sound hS
 obtain ⟨j0,j1⟩:=hi.ad hS
 obtain ⟨a,c,mw⟩:=sn ox
 have bc:j.toNat < xs.length:=by rw [mw] at j1; exact j1
 exact bz (Ix ht.h ox ⟨j0,List.getElem?_eq_getElem bc⟩ (aR ha hx) (aR ha hy) hE) (h.sound B o ho _ w (ao ha) hs)
class ny {α:Type} (S:af α) (V:outParam Type) (cl:outParam (α→V→List Value)) (en:outParam (α→V→List av)):Prop where
 ow:∀ x v,rB (en x v)=true
 op:∀ {w:World} {cs:LV} {x:α} {g:LN},S.rep w.heap cs x g→∃ v,cs=cl x v∧∀ Z:Nat→Prop,HL Z w (en x v) g
 cl:∀ {w:World} {x:α} {v:V} {Z:Nat→Prop} {g:LN},HL Z w (en x v) g→S.rep w.heap (cl x v) x g
theorem ny.i {k:IntKind}:ny (aC k) Unit (fun x _=>[.int k x]) (fun _ _=>[]):=
 ⟨fun _ _=>rfl,fun h=>⟨(),h.1,fun _=>by rw [h.2]; exact .nil⟩,fun h=>by cases h; exact ⟨rfl,rfl⟩⟩
theorem ny.s {α:Type} {e:TI} {E:af α}:ny (aK e E) Value (fun _ v=>[v]) (fun x v=>[.own (aK e E) v x]):=by
 refine ⟨fun _ _=>rfl,fun {w cs x g} h=>?_,fun {w x v Z g} h=>?_⟩
 ·obtain ⟨base,cap,rfl,hr⟩:=h
  refine ⟨_,rfl,fun Z=>?_⟩
  have:=HL.own (Z:=Z) (w:=w) (e:=.own (aK e E) (.slice base x.length cap) x) (f:=g) ⟨base,cap,rfl,hr⟩ .nil
  rwa [List.append_nil] at this
 ·cases h with
  | own h k=>cases k; rw [List.append_nil]; exact h
  | fact h _=>exact h.elim
theorem ny.ip {β V:Type} {k:IntKind} {B:af β} {cl:β→V→List Value} {en:β→V→List av} (h:ny B V cl en):ny (gh (aC k) B) V (fun x v=>.int k x.1 :: cl x.2 v) (fun x v=>en x.2 v):=by
 refine ⟨fun x v=>h.ow x.2 v,fun {w cs x g} hr=>?_,fun {w x v Z g} he=>?_⟩
 ·obtain ⟨c1,c2,f1,f2,rfl,rfl,⟨rfl,rfl⟩,h2⟩:=hr
  obtain ⟨v,rfl,hv⟩:=h.op h2
  exact ⟨v,rfl,hv⟩
 ·exact ⟨[_],_,[],g,rfl,rfl,⟨rfl,rfl⟩,h.cl he⟩
theorem ny.sp {α β V:Type} {e:TI} {E:af α} {B:af β} {cl:β→V→List Value} {en:β→V→List av} (h:ny B V cl en):ny (gh (aK e E) B) (Value×V) (fun x v=>v.1 :: cl x.2 v.2) (fun x v=>.own (aK e E) v.1 x.1 :: en x.2 v.2):=by
 refine ⟨fun x v=>h.ow x.2 v.2,fun {w cs x g} hr=>?_,fun {w x v Z g} he=>?_⟩
 ·obtain ⟨c1,c2,f1,f2,rfl,rfl,h1,h2⟩:=hr
  obtain ⟨base,cap,rfl,xy⟩:=h1
  obtain ⟨v,rfl,hv⟩:=h.op h2
  exact ⟨(_,v),rfl,fun Z=>.own ⟨base,cap,rfl,xy⟩ (hv Z)⟩
 ·cases he with
  | own h1 k=>
   obtain ⟨base,cap,hb,xy⟩:=h1
   exact ⟨[_],_,_,_,rfl,rfl,⟨base,cap,hb,xy⟩,h.cl k⟩
  | fact h1 _=>exact h1.elim
theorem ny.mp {α β V:Type} {f:β→α} {A:af α} {cl:α→V→List Value} {en:α→V→List av} (h:ny A V cl en):ny (wq f A) V (fun y v=>cl (f y) v) (fun y v=>en (f y) v):=
 ⟨fun y v=>h.ow (f y) v,fun hr=>h.op hr,fun he=>h.cl he⟩
inductive N1 {α:Type} (S:af α) (V:Type) (cl:α→V→List Value) (en:α→V→List av):Prop
 | mk [h:ny S V cl en]:N1 S V cl en
theorem Xj:∀ {Δ:QE} {F:LN},rB Δ=true→HO Z w Δ F→HL Z w Δ F:=by
 intro Δ
 induction Δ with
 | nil=>intro F _ h; cases h; exact .nil
 | cons e Δ ih=>
  intro F ho h
  cases e with
  | own T v x=>cases h with | own h k=>exact .own h (ih ho k)
  | row b cs t=>cases h with | own h k=>exact .own h (ih ho k)
  | _=>exact absurd ho (by simp [rB])
theorem X5 {α:Type} (S:af α) {d:Nat} {t e n bt ty:TI} {m:Option M} [ht:zY P t e n bt]
  (h:∀ v,D P cx (.o false all l rk (.own (aK e S) v [] :: Γ) ((d,v) :: fr) m)):D P cx (.e false (.buildSlice t 0 #[]) (some d) ty all l rk Γ fr m):=by
 refine D.of ?_
 intro B o ho r w ha hs pos ab g
 obtain ⟨h1,i,z,h2,_⟩:=ht.h
 obtain ⟨v,w',f,hr,hC,hO⟩:=zl (E:=S) (r:=r) (w:=w) (d:=some d) (ty:=ty) (pos:=pos) (ab:=ab) (g:=none) h1 h2
 refine dv (WL.val rfl hr ((h v).sound B o ho _ w' (ao ha) ?_))
 obtain ⟨Z,F,hS,hg⟩:=hs
 exact St.put (f:=[]) hS hg hC hO.1 hO.2.1 fun b hb=>.inr ((hO.2.2 b hb).resolve_left List.not_mem_nil)
theorem Qe {α:Type} {S:af α} {q:Bool} {d n e:Nat} {x:OO} {v:Value} {xs:List α} {t ty bt:TI} {m:Option M} [ht:zY P t e n bt] (hx:bb fr x=some v) (h1:de Γ (.own (aK e S) v xs) Γ1)
  (h:D P cx (.o q all l rk Γ ((d,.int .i64 (xs.length:Int)) :: fr) m)):D P cx (.e q (.call ⟨.builtin .len,#[x],#[t]⟩) (some d) ty all l rk Γ fr m):=by
 refine D.of ?_
 intro B o ho r w ha hs pos ab g
 obtain ⟨q1,_⟩:=ht.h
 obtain ⟨Z,F,hS,hG⟩:=@_root_.id _ hs
 obtain ⟨f,F1,_,hO,_⟩:=h1.sound hS
 obtain ⟨base,cap,hv,_⟩:=hO
 obtain rfl:v = .slice base xs.length cap:=by simpa using hv
 exact bz (v:=.int .i64 (xs.length:Int)) (fun w' _=>tO q1 (aR ha hx)) (h.sound B o ho _ w (ao ha) hs)
theorem N2 {α:Type} {S:af α} {n:Nat} {hp:Array Obj} (hn:S.size=n):∀ {xs:List α} {cs:LV} {f:LN},dx S hp cs xs f→∃ us,us.length=xs.length∧dx (iz n) hp cs us []∧∀ (j:Nat) (x:α),xs[j]? = some x→∃ c f0 f1 f2,us[j]? = some c∧f=f0++f1++f2∧S.rep hp c x f1:=by
 intro xs
 induction xs with
 | nil=>rintro cs f ⟨rfl,rfl⟩; exact ⟨[],rfl,⟨rfl,rfl⟩,fun j x hj=>by simp at hj⟩
 | cons y xs ih=>
  rintro cs f ⟨c,gy,f1,f2,rfl,rfl,h1,h2⟩
  obtain ⟨us,hl,hr,hg⟩:=ih h2
  refine ⟨c :: us,by simp [hl],⟨c,gy,[],[],rfl,rfl,⟨rfl,by rw [S.len h1,hn],S.one h1,rfl⟩,hr⟩,fun j x hj=>?_⟩
  cases j with
  | zero=>simp at hj; subst hj; exact ⟨c,[],f1,f2,rfl,by simp,h1⟩
  | succ j=>
   obtain ⟨c',g0,g1,g2,a1,rfl,a3⟩:=hg j x (by simpa using hj)
   exact ⟨c',f1++g0,g1,g2,by simpa using a1,by simp,a3⟩
theorem X6 {α V:Type} {S:af α} {cl:α→V→List Value} {en:α→V→List av} {q:Bool} {d n e:Nat} {x y:OO} {v:Value} {xs:List α} {k:IntKind} {j:Int} {t ty bt:TI} {f:α→Option M} [ht:zY P t e n bt] (hx:bb fr x=some v) (hy:bb fr y=some (.int k j))
  (h1:de Γ (.own (aK e S) v xs) Γ1) (hs:N1 S V cl en) (hn:S.size=n)
  (h:∀ z u us,D P cx (.p [] (.own (aK e (iz n)) v us :: .rd false (zV us j) (.bool true) (cl z u) :: en z u) fr Γ1 fun fr Γ=>.o q all l rk Γ ((d,.pointer (some (dc v n j))) :: fr) (f z))):D P cx (.e q (.indexAddr t x y) (some d) ty all l rk Γ fr (idx xs j>>=f)):=by
 refine D.of ?_
 intro B o ho r w ha da pos ab g
 replace hs:ny S V cl en:=by cases hs; assumption
 obtain ⟨z,hz,ho⟩:=bind_some ho
 replace hz:=q9 hz
 obtain ⟨q1,i,_,q2,_,_,q3,_⟩:=ht.h
 obtain ⟨Z,F,hS,hG⟩:=da
 obtain ⟨f0,F1,hp,hO,ed⟩:=h1.sound hS
 have bc:j.toNat < xs.length:=(List.getElem?_eq_some_iff.1 hz.2).1
 obtain ⟨base,cap,hv,hr⟩:=hO
 obtain rfl:v = .slice base xs.length cap:=by simpa using hv
 rcases hr with ⟨_,_,rfl,_⟩ | ⟨b,cur,f',rfl,jo,rfl,hle,ZB,ru,dq⟩
 ·simp at bc
 ·obtain ⟨us,hl,hru,hg⟩:=N2 hn dq
  obtain ⟨c,g0,g1,g2,a1,rfl,a3⟩:=hg _ _ hz.2
  obtain ⟨u,rfl,r7⟩:=hs.op a3
  have ye:(aK e (iz n)).rep w.heap [.slice (some ⟨b,0,none⟩) xs.length cap] us [b]:=
   ⟨_,cap,by rw [hl],.inr ⟨b,cur,[],rfl,jo,rfl,by rw [hl]; exact hle,ZB,by rw [ru,hn]; rfl,by rw [hl,show (iz n).size=S.size from hn.symm]; exact hru⟩⟩
  have ew:HL Z w (.own (aK e (iz n)) (.slice (some ⟨b,0,none⟩) xs.length cap) us :: .rd false (zV us j) (.bool true) (cl z u) :: en z u) ([b]++g1):=.own ye (.fact ⟨[],⟨rfl,⟨hz.1,a1⟩,rfl⟩,fun _ h=>absurd h List.not_mem_nil⟩ (r7 Z))
  obtain ⟨F',ux,fx⟩:=ew.build ed
  have rF:(F'++(g0++g2)).Perm F:=by
   refine .trans ?_ hp
   refine (ux.append_right _).trans ?_
   rw [List.cons_append,List.cons_append,List.cons_append,List.nil_append,List.cons_append]
   refine List.Perm.cons b ?_
   have e1:(g1++F1++(g0++g2)).Perm ((g0++g2)++(g1++F1)):=List.perm_append_comm
   refine e1.trans ?_
   rw [List.append_assoc,List.append_assoc,List.append_assoc]
   refine List.Perm.append_left g0 ?_
   rw [← List.append_assoc,← List.append_assoc]
   exact List.perm_append_comm.append_right F1
  refine bz (v:=.pointer (some (dc (.slice (some ⟨b,0,none⟩) xs.length cap) n j))) (fun w' hC=>?_) ((h z u us).sound B o ho _ w (ao ha) ⟨Z,F',fx,Gd.left (hG.perm rF)⟩)
  rw [l4 q1 q2 (aR ha hx) (aR ha hy) hz.1 (by omega),q3]
  rfl
theorem P3 {α V:Type} {S:af α} {cl:α→V→List Value} {en:α→V→List av} (y:α) {u:V} {d b n e bt:Nat} {s x:OO} {sv:Value} {xs:List α} {cs:LV} {t et ty:TI} {f:Unit→Option M} [ht:zY P t e n bt]
  (hs:bb fr s=some sv) (hx:bb fr x=some (.slice (some ⟨b,0,none⟩) 1 1)) (h0:de Γ (.row b cs et) Γ1) (h1:de Γ1 (.own (aK e S) sv xs) Γ2) (oy:N1 S V cl en) (_hv:bp V u) (hc:cs=cl y u) (hn:S.size=n) (he:EO Γ2 (en y u) Γ3)
  (h:∀ v,D P cx (.o false all l rk (.own (aK e S) v (xs++[y]) :: Γ3) ((d,v) :: fr) (f ()))):D P cx (.e false (.call ⟨.builtin .append,#[s,x],#[t,t]⟩) (some d) ty all l rk Γ fr (fits bt (xs.length+1)>>=f)):=by
 refine D.of ?_
 intro B o br r w ha da pos ab g
 have DK:ny S V cl en:=by cases oy; assumption
 obtain ⟨_,hu,br⟩:=bind_some br
 obtain ⟨b1,b2⟩:=iH hu
 obtain ⟨q1,i,z,q2,q3,q4,q5,q6,_⟩:=ht.h
 obtain ⟨Z,F,hS,hG⟩:=da
 obtain ⟨n0,F0,rN,⟨rfl,aX⟩,r8⟩:=h0.sound hS
 obtain ⟨k,F1,hp,hO,ed⟩:=h1.sound r8
 obtain ⟨Fd,F2,hho,fx,nh⟩:=he.sound ed
 have hy:S.rep w.heap (cl y u) y Fd:=DK.cl (Xj (DK.ow y u) hho)
 have rF:(((k++Fd)++F2)++[b]).Perm F:=by
  refine .trans ?_ rN
  refine List.perm_append_comm.trans ?_
  refine List.Perm.append_left [b] ?_
  rw [List.append_assoc]
  exact (nh.append_left k).trans hp
 have mj:Gd B Z ((k++Fd)++F2) w:=Gd.left (F':=[b]) (hG.perm rF)
 have df:=(List.nodup_append.1 mj.nd).1
 have wB:=List.nodup_append.1 df
 subst hc
 obtain ⟨v,w',f',jk,hC,dq,b9,zo⟩:=my (E:=S) (d:=some d) (ty:=ty) (pos:=pos) (ab:=ab) (g:=none) (k:=Fd) (ys:=[y]) (news:=cl y u) q1 q2 q3 (by rw [q5,hn]) (by rw [q4,hn]) (aR ha hs) hO wB.1 (aR ha hx) (fun i u hi=>aX.at i u hi) (pq hy) (fun b hb hm=>wB.2.2 b hm b hb rfl) (by simp) (by rw [q6]; exact b1) b2
 refine dv (WL.val rfl jk ((h v).sound B o br _ w' (ao ha) ?_))
 refine St.put fx mj (hC.mono fun b hb=>List.mem_append_left _ hb) dq (zo wB.2.1) fun b hb=>?_
 rcases b9 b hb with h | h | h
 ·exact .inl (List.mem_append_left _ h)
 ·exact .inl (List.mem_append_right _ h)
 ·exact .inr h
end
end Go.Dk
namespace Go.Dk
open Go Go.Li
section
variable {P:Program} {n:Nat} {l:LO} {Q:Exit→(Nat→Value)→World→Prop} {S:World→Prop}
def Hw (P:Program) (n:Nat) (l:LO) (Q:Exit→(Nat→Value)→World→Prop) (S:World→Prop) (k:Nat) (L:Array Bool) (r:NV) (w:World):Prop:=
 ∀ a:Act,a.tmps.size=n→a.defers=[]→cy a=r→wpAnyH P .any l.toArray (fun e a' w'=>a'.tmps.size=n∧a'.defers=[]∧Q e (cy a') w') S k L a w
theorem CT {i:Nat} {o:Oper} {a:Act} (hd:dk n l=true) (hi:l[i]? = some o) (h1:a.tmps.size=n):∀ k,o.dst=some k→k < a.tmps.size:=by
 intro k hk
 have hm:o∈l:=List.mem_of_getElem? hi
 simp only [dk,List.all_eq_true] at hd
 have:=hd o hm
 rw [hk] at this
 rw [h1]
 exact Nat.lt_of_succ_le (Nat.le_of_ble_eq_true this)
theorem Hw.take {k i:Nat} {L:Array Bool} {o:Oper} {v:Value} {r:NV} {w:World} (hd:dk n l=true) (hi:l[i]? = some o) (hs:Region.noSelect l.toArray=true) (hf:Region.free .any l.toArray L i=true) (hr:(Region.ready .any l.toArray L).contains i=true)
  (hp:∀ c r w,¬ Q (.panic c) r w) (hg:o.guard=none) (hy:∀ w,S w→(execOp (ev r) o).run P w = .ok (.value v) w) (hS:S w) (h:Hw P n l Q S k (L.setIfInBounds i true) (fq r o.dst v) w):Hw P n l Q S (k+1) L r w:=by
 intro a h1 h2 h3
 refine wpAnyH_take (v:=v) (by simpa using hi) hs hf hr (fun c a w h=>(hp _ _ _ h.2.2).elim) (.inl ⟨sM hg,fun w hw=>?_⟩) hS (h _ (by rw [lg]; exact h1) (by rw [iq]; exact h2) (by rw [l6 (CT hd hi h1),h3]))
 rw [rH,h3]
 exact hy w hw
theorem Hw.step {k i:Nat} {L:Array Bool} {o:Oper} {r:NV} {w w':World} (hd:dk n l=true) (hi:l[i]? = some o) (hr:Region.ready .any l.toArray L=[i]) (hg:o.guard=none) (hy:(execOp (ev r) o).run P w = .ok .skip w') (hS:S w') (h:Hw P n l Q S k (L.setIfInBounds i true) (fq r o.dst undef) w'):Hw P n l Q S (k+1) L r w:=by
 intro a h1 h2 h3
 refine wpAnyH_all hr (by simp) fun j hj=>?_
 obtain rfl:j=i:=by simpa using hj
 unfold wpOp
 rw [show (l.toArray)[j]? = some o by simpa using hi]
 simp only []
 rw [if_pos (sM hg)]
 refine .inl ?_
 unfold Oper.wp
 rw [rH,h3,hy]
 exact ⟨hS,h _ (by rw [lg]; exact h1) (by rw [iq]; exact h2) (by rw [l6 (CT hd hi h1),h3])⟩
theorem Hw.done {k:Nat} {L:Array Bool} {r:NV} {w:World} (hr:Region.ready .any l.toArray L=[]) (h:Q .normal r w):Hw P n l Q S k L r w:=
 fun _ h1 h2 h3=>wpAnyH_done hr ⟨h1,h2,by rw [h3]; exact h⟩ k
theorem Hw.start {r:NV} {w:World} (h:Hw P n l Q S l.length (Array.replicate l.length false) r { w with drawn:=w.drawn+1 }):n8 P n l Q r w:=
 fun a h1 h2 h3=>wpAny_of_held _ _ _ _ (h a h1 h2 h3)
def AK (P:Program) (S:World→Prop):List Oper→(Nat→Value)→((Nat→Value)→Prop)→Prop
 | [],r,K=>K r
 | o :: l,r,K=>o.guard=none∧∃ v,(∀ w,S w→(execOp (ev r) o).run P w = .ok (.value v) w)∧AK P S l (fq r o.dst v) K
def DL (l:LO):List Nat→Array Bool→Bool
 | [],L=>(Region.ready .any l.toArray L).isEmpty
 | i :: ss,L=>Nat.blt i l.length && (Region.ready .any l.toArray L == [i]) && DL l ss (L.setIfInBounds i true)
def N3 (l:LO) (ss:LN):List Nat→Array Bool→Bool
 | [],L=>DL l ss L
 | i :: qs,L=>Nat.blt i l.length && (Region.ready .any l.toArray L).contains i && Region.free .any l.toArray L i && N3 l ss qs (L.setIfInBounds i true)
def pick (l:LO) (is:LN):List Oper:=is.map fun i=>l.getD i default
theorem Bp {i:Nat} (h:Nat.blt i l.length=true):l[i]? = some (l.getD i default):=by
 have h1:i < l.length:=Nat.lt_of_succ_le (Nat.le_of_ble_eq_true h)
 rw [List.getD_eq_getElem?_getD,List.getElem?_eq_getElem h1]; rfl
theorem Hw.quiet (hd:dk n l=true) (hs:Region.noSelect l.toArray=true) (hp:∀ c r w,¬ Q (.panic c) r w) {ss:LN} {w:World} (hS:S w) {K:(Nat→Value)→Prop} (h:∀ L r,DL l ss L=true→K r→Hw P n l Q S ss.length L r w) :
  ∀ (qs:LN) (L:Array Bool) (r:NV),N3 l ss qs L=true→AK P S (pick l qs) r K→Hw P n l Q S (qs.length+ss.length) L r w:=by
 intro qs
 induction qs with
 | nil=>intro L r hc hv; rw [List.length_nil,Nat.zero_add]; exact h L r hc hv
 | cons i qs ih=>
  intro L r hc hv
  unfold N3 at hc
  simp only [Bool.and_eq_true] at hc
  obtain ⟨⟨⟨c1,c2⟩,c3⟩,c4⟩:=hc
  obtain ⟨hg,v,h1,h2⟩:=hv
  have:=Hw.take hd (Bp c1) hs c3 c2 hp hg h1 hS (ih _ _ c4 h2)
  rwa [show qs.length+ss.length+1=(i :: qs).length+ss.length by simp; omega] at this
end
inductive JQ
 | q (ops:LO) (fr:Fr)
 | la (a:Addr) (lk:Option Nat) (t:TI) (x:OO) (d:Nat) (ty:TI) (pos:String) (ab:Array Edge) (ops:LO) (fr:Fr)
inductive QA (P:Program) (Γ:QE):JQ→Fr→Prop
 | nil {fr:Fr}:QA P Γ (.q [] fr) fr
 | ld {d:Nat} {t ty:TI} {x:OO} {lk:Option Nat} {a:Addr} {pos:String} {ab:Array Edge} {ops:LO} {fr nz:Fr} [ht:LK P t lk] (hx:bb fr x=some (.pointer (some a))) (h:QA P Γ (.la a lk t x d ty pos ab ops fr) nz):QA P Γ (.q (⟨some d,.load t x,ty,pos,ab,none⟩ :: ops) fr) nz
 | val {d:Nat} {op:Op} {ty:TI} {u:Value} {pos:String} {ab:Array Edge} {ops:LO} {fr nz:Fr} (hv:VQ P Γ fr op u) (h:QA P Γ (.q ops ((d,u) :: fr)) nz):QA P Γ (.q (⟨some d,op,ty,pos,ab,none⟩ :: ops) fr) nz
 | lc {d:Nat} {t ty:TI} {x:OO} {a:Addr} {u:Value} {pos:String} {ab:Array Edge} {ops:LO} {fr nz:Fr} (h:tL Γ a u) (k:QA P Γ (.q ops ((d,u) :: fr)) nz):QA P Γ (.la a none t x d ty pos ab ops fr) nz
 | ls {d n:Nat} {t ty:TI} {x:OO} {a:Addr} {ds:LV} {pos:String} {ab:Array Edge} {ops:LO} {fr nz:Fr} (h:bg Γ a n ds) (k:QA P Γ (.q ops ((d,.agg ds.toArray) :: fr)) nz):QA P Γ (.la a (some n) t x d ty pos ab ops fr) nz
inductive RO (fr:Fr):List Oper→List av→List (Nat×List Value×TypeId)→List av→Prop
 | nil {Γ:QE}:RO fr [] Γ [] Γ
 | cons {t ty e:TI} {x y:OO} {b:Nat} {cs:LV} {pos:String} {ab:Array Edge} {ops:LO} {Γ Γ1 Γ2:QE} {rs:List (Nat×List Value×TypeId)} (hx:bb fr x=some (.pointer (some ⟨b,0,none⟩))) (h:de Γ (.row b cs e) Γ1) (k:RO fr ops Γ1 rs Γ2):RO fr (⟨none,.store t x y,ty,pos,ab,none⟩ :: ops) Γ ((b,cs,e) :: rs) Γ2
inductive SQ (P:Program) (Γ:QE) (fr:Fr):List Oper→List (Nat×List Value×TypeId)→List (Nat×List Value×TypeId)→Prop
 | nil:SQ P Γ fr [] [] []
 | cons {n:Nat} {t ty e:TI} {x y:OO} {b:Nat} {u:Value} {us cs ds:LV} {pos:String} {ab:Array Edge} {ops:LO} {rs ub:List (Nat×List Value×TypeId)} [ht:ur P t n] (hx:bb fr x=some (.pointer (some ⟨b,0,none⟩))) (hy:bb fr y=some u) (hc:r6 Γ u us) (hn:us.length=n) (hs:ba us 0 cs ds) (ho:bd Γ us) (k:SQ P Γ fr ops rs ub) :
   SQ P Γ fr (⟨none,.store t x y,ty,pos,ab,none⟩ :: ops) ((b,cs,e) :: rs) ((b,ds,e) :: ub)
def JD:List (Nat×List Value×TypeId)→List av
 | []=>[]
 | (b,cs,e) :: l=>.row b cs e :: JD l
def Rows (w:World) (rs:List (Nat×List Value×TypeId)):Prop:=∀ p∈rs,Row w p.1 p.2.1 p.2.2
section
variable {P:Program} {Γ Γ2:QE} {S:World→Prop} {Z:Nat→Prop}
def ZC (P:Program) (S:World→Prop):JQ→Fr→Prop
 | .q ops fr,nz=>∀ r,cq r fr→AK P S ops r fun r'=>cq r' nz
 | .la a lk t x d ty pos ab ops fr,nz=>(match lk with | none=>NA P t | some n=>AG P t n)→bb fr x=some (.pointer (some a))→∀ r,cq r fr→AK P S (⟨some d,.load t x,ty,pos,ab,none⟩ :: ops) r fun r'=>cq r' nz
theorem QA.sound {J:JQ} {nz:Fr} (hS:∀ w,S w→∃ cur F,SA Z w Γ cur F) (h:QA P Γ J nz):ZC P S J nz:=by
 induction h with
 | nil=>exact fun r h=>h
 | @ld d t ty x lk a pos ab ops fr nz ht hx _ ih=>exact fun r ha=>ih ht.h hx r ha
 | @val d op ty u pos ab ops fr nz hv _ ih=>
  intro r ha
  refine ⟨rfl,u,fun w hw=>?_,ih _ (ao ha)⟩
  obtain ⟨cur,F,h⟩:=hS w hw
  exact hv.sound h ha (some d) ty pos ab none w (ak.refl _ _)
 | @lc d t ty x a u pos ab ops fr nz h _ ih=>
  intro ht hx r ha
  refine ⟨rfl,u,fun w hw=>?_,ih _ (ao ha)⟩
  obtain ⟨cur,F,hs⟩:=hS w hw
  exact Ld ht (h.sound hs) (aR ha hx) w (ak.refl _ _)
 | @ls d n t ty x a ds pos ab ops fr nz h _ ih=>
  intro ht hx r ha
  refine ⟨rfl,_,fun w hw=>?_,ih _ (ao ha)⟩
  obtain ⟨cur,F,hs⟩:=hS w hw
  obtain ⟨h1,h2⟩:=h.sound hs
  exact Lg ht h1 (aR ha hx) h2 w (ak.refl _ _)
theorem RO.sound {fr:Fr} {ops:LO} {rs:List (Nat×List Value×TypeId)} {w:World} (h:RO fr ops Γ rs Γ2):∀ {F:LN},SA Z w Γ [] F→∃ F2,(rs.map (·.1)++F2).Perm F∧Rows w rs∧SA Z w Γ2 [] F2:=by
 induction h with
 | nil=>intro F h; exact ⟨F,.refl _,fun _ h=>absurd h List.not_mem_nil,h⟩
 | @cons t ty e x y b cs pos ab ops Γ Γ1 Γ2 rs hx h _ ih=>
  intro F hS
  obtain ⟨f,F1,hp,⟨rfl,aX⟩,ed⟩:=h.sound hS
  obtain ⟨F2,nh,hr,fx⟩:=ih ed
  refine ⟨F2,?_,fun p hp=>?_,fx⟩
  ·exact .trans (List.Perm.cons b nh) hp
  ·rcases List.mem_cons.1 hp with rfl | hp
   ·exact aX
   ·exact hr p hp
theorem SQ.sound {n:Nat} {l:LO} {Q:Exit→(Nat→Value)→World→Prop} {fr:Fr} {ops:LO} {rs ub:List (Nat×List Value×TypeId)} {F2:LN} {w0:World} {r:NV} {F:LN} (hd:dk n l=true) (ha:cq r fr) (CU:∀ w,ak F w0 w→SA Z w Γ2 [] F2) (h:SQ P Γ2 fr ops rs ub) :
  ∀ (ss:LN) (L:Array Bool) (w:World),ops=pick l ss→DL l ss L=true→ak F w0 w→Rows w rs→(rs.map (·.1)).Nodup→(∀ b∈rs.map (·.1),b∈F)→(∀ w',ak (rs.map (·.1)) w w'→Rows w' ub→Q .normal r w')→Hw P n l Q (ak F w0) ss.length L r w:=by
 induction h with
 | nil=>
  intro ss L w ho hc hC hR hn hF hk
  cases ss with
  | cons i ss=>cases ho
  | nil=>
   exact Hw.done (by simpa [DL] using hc) (hk w (ak.refl _ _) hR)
 | @cons n' t ty e x y b u us cs ds pos ab ops rs ub ht hx hy BQ hn Gn hon _ ih=>
  intro ss L w ho hc hC hR df hF hk
  cases ss with
  | nil=>cases ho
  | cons i ss=>
   unfold DL at hc
   simp only [Bool.and_eq_true] at hc
   obtain ⟨⟨c1,c2⟩,c3⟩:=hc
   have br:l.getD i default = ⟨none,.store t x y,ty,pos,ab,none⟩∧ops=pick l ss:=by
    unfold pick at ho
    rw [List.map_cons,List.cons.injEq] at ho
    exact ⟨ho.1.symm,ho.2⟩
   have hi:=Bp c1
   rw [br.1] at hi
   obtain ⟨ti,q1,q2⟩:=ht.h
   have aX:Row w b cs e:=hR (b,cs,e) (by simp)
   obtain ⟨e1,e2⟩:=Gn.eq
   have X7:=CU w hC
   have jk:=uX (P:=P) (d:=none) (ty:=ty) (pos:=pos) (ab:=ab) (gg:=none) q1 (by rw [hn,q2]) aX e1 (aR ha hx) (y:=y) (by rw [aR ha hy]; exact BQ.eq X7) (hon.one X7)
   have rG:=setRow_heap w b cs.toArray (cs.take 0++us++cs.drop (0+us.length)).toArray e _ aX
   have AL:ak [b] w (w.setRow b (cs.take 0++us++cs.drop (0+us.length)).toArray):=⟨rfl,rfl,rfl,Nat.le_refl _,by simp,fun j _ hj=>setRow_other w b j _ fun h=>hj (by simp [h])⟩
   have vM:=hC.trans (AL.mono fun b' cu=>by rw [List.mem_singleton.1 cu]; exact hF b (by simp))
   rw [List.map_cons,List.nodup_cons] at df
   refine Hw.step hd hi (by simpa using c2) rfl jk vM (ih ss _ _ br.2 c3 vM (fun p hp=>(hR p (List.mem_cons_of_mem _ hp)).ep AL fun hb=>df.1 ?_) df.2 (fun b' cu=>hF b' (by simp at cu ⊢; exact .inr cu)) fun w' vK hR'=>?_)
   ·rw [← List.mem_singleton.1 hb]; exact List.mem_map_of_mem (f:=fun q=>q.1) hp
   ·refine hk w' ((AL.mono (by simp)).trans (vK.mono fun b' cu=>List.mem_cons_of_mem _ cu)) fun p hp=>?_
    rcases List.mem_cons.1 hp with rfl | hp
    ·refine Row.ep (F:=rs.map (·.1)) ?_ vK df.1
     rw [e2]
     exact rG
    ·exact hR' p hp
theorem SQ.fst {fr:Fr} {ops:LO} {rs ub:List (Nat×List Value×TypeId)} (h:SQ P Γ fr ops rs ub):ub.map (·.1)=rs.map (·.1):=by
 induction h with
 | nil=>rfl
 | cons _ _ _ _ _ _ _ ih=>simp only [List.map_cons,ih]
end
section
variable {R S:Type} {P:Program} {cx:Cx R} {K:dh R S} {l:LO}
end
theorem Hw.all {P:Program} {n k:Nat} {l:LO} {Q:Exit→(Nat→Value)→World→Prop} {S:World→Prop} {L:Array Bool} {rs:LN} {r:NV} {w:World} (hd:dk n l=true) (hr:Region.ready .any l.toArray L=rs) (ks:rs≠[])
  (h:∀ i∈rs,∃ o,l[i]? = some o∧o.guard=none∧∃ v w',((execOp (ev r) o).run P w = .ok (.value v) w'∨(execOp (ev r) o).run P w = .ok .skip w'∧v=undef)∧S w'∧Hw P n l Q S k (L.setIfInBounds i true) (fq r o.dst v) w'):Hw P n l Q S (k+1) L r w:=by
 intro a h1 h2 h3
 refine wpAnyH_all hr ks fun j hj=>?_
 obtain ⟨o,hi,hg,v,w',hy,hS,hk⟩:=h j hj
 unfold wpOp
 rw [show (l.toArray)[j]? = some o by simpa using hi]
 simp only []
 rw [if_pos (sM hg)]
 refine .inl ?_
 unfold Oper.wp
 rw [rH,h3]
 rcases hy with hy | ⟨hy,rfl⟩
 ·rw [hy]
  exact ⟨hS,hk _ (by rw [lg]; exact h1) (by rw [iq]; exact h2) (by rw [l6 (CT hd hi h1),h3])⟩
 ·rw [hy]
  exact ⟨hS,hk _ (by rw [lg]; exact h1) (by rw [iq]; exact h2) (by rw [l6 (CT hd hi h1),h3])⟩
def on (L:Array Bool) (i:Nat):Array Bool:=L.setIfInBounds i true
def nv (l:LO) (L:Array Bool) (rs:LN):Bool:=Region.ready .any l.toArray L == rs
def JE (l:LO) (a1 a2 s1 s2:Nat) (L:Array Bool):Bool:=
 (Nat.blt a1 l.length && Nat.blt a2 l.length && Nat.blt s1 l.length && Nat.blt s2 l.length) && (nv l L [a1,a2] && nv l (on L a2) [a1]) && (nv l (on (on L a1) a2) [s1] && nv l (on (on L a2) a1) [s1]) &&
  (nv l (on (on (on L a1) a2) s1) [s2] && nv l (on (on (on L a2) a1) s1) [s2]) && (nv l (on (on (on (on L a1) a2) s1) s2) [] && nv l (on (on (on (on L a2) a1) s1) s2) []) &&
  (nv l (on L a1) [a2] || (nv l (on L a1) [a2,s1] && (nv l (on (on L a1) s1) [a2] && (nv l (on (on (on L a1) s1) a2) [s2] && nv l (on (on (on (on L a1) s1) a2) s2) []))))
def JF (l:LO) (a1 a2 s1 s2:Nat):List Nat→Array Bool→Bool
 | [],L=>JE l a1 a2 s1 s2 L
 | i :: qs,L=>Nat.blt i l.length && (Region.ready .any l.toArray L).contains i && Region.free .any l.toArray L i && JF l a1 a2 s1 s2 qs (L.setIfInBounds i true)
theorem Hw.Uc {P:Program} {n a1 a2 s1 s2 m:Nat} {l:LO} {Q:Exit→(Nat→Value)→World→Prop} {S:World→Prop} (hd:dk n l=true) (hs:Region.noSelect l.toArray=true) (hp:∀ c r w,¬ Q (.panic c) r w) {w:World} (hS:S w) {K:(Nat→Value)→Prop} (h:∀ L r,JE l a1 a2 s1 s2 L=true→K r→Hw P n l Q S m L r w) :
  ∀ (qs:LN) (L:Array Bool) (r:NV),JF l a1 a2 s1 s2 qs L=true→AK P S (pick l qs) r K→Hw P n l Q S (qs.length+m) L r w:=by
 intro qs
 induction qs with
 | nil=>intro L r hc hv; rw [List.length_nil,Nat.zero_add]; exact h L r hc hv
 | cons i qs ih=>
  intro L r hc hv
  unfold JF at hc
  simp only [Bool.and_eq_true] at hc
  obtain ⟨⟨⟨c1,c2⟩,c3⟩,c4⟩:=hc
  obtain ⟨hg,v,h1,h2⟩:=hv
  have:=Hw.take hd (Bp c1) hs c3 c2 hp hg h1 hS (ih _ _ c4 h2)
  rwa [show qs.length+m+1=(i :: qs).length+m by simp; omega] at this
inductive zv (P:Program) (Γ:QE) (fr:Fr) (d:Nat):Oper→Oper→TypeId→List Value→Prop
 | mk {t ty Ud:TI} {y:OO} {u:Value} {n:Nat} {us cs ds:LV} {pos N4:String} {ab N5:Array Edge} [hz:xB P t cs] [ht:ur P t n] (hn:look fr d=none) (hy:bb fr y=some u) (hc:r6 Γ u us) (hl:us.length=n) (hs:ba us 0 cs ds) (ho:bd Γ us) :
   zv P Γ fr d ⟨some d,.alloc t,ty,pos,ab,none⟩ ⟨none,.store t (.tmp d) y,Ud,N4,N5,none⟩ t ds
section
variable {P:Program} {Γ:QE} {Z:Nat→Prop} {fr:Fr} {w:World} {cur F:LN}
theorem zv.alloc {d:Nat} {oa os:Oper} {t:TI} {ds:LV} (h:zv P Γ fr d oa os t ds) (r:NV) (w:World):oa.guard=none∧oa.dst=some d∧look fr d=none∧∃ cs w',(execOp (ev r) oa).run P w = .ok (.value (.pointer (some ⟨w.heap.size,0,none⟩))) w'∧ak [] w w'∧Row w' w.heap.size cs t∧
  ∀ (r':NV) (w1:World) (b:Nat) cur F,SA Z w1 Γ cur F→cq r' fr→r' d = .pointer (some ⟨b,0,none⟩)→Row w1 b cs t→∃ w2,(execOp (ev r') os).run P w1 = .ok .skip w2∧ak [b] w1 w2∧Row w2 b ds t:=by
 cases h with
 | @mk t ty Ud y u n us cs ds pos N4 ab N5 hz ht hn hy hc hl hs ho=>
  obtain ⟨i',z,t1,t2,t3⟩:=hz.h
  refine ⟨rfl,rfl,hn,z.cells.toList,_,B9 t1 t2,ak.alloc _ _ _,?_,?_⟩
  ·have:=heap_alloc_new w (.cells z.cells t (0,0))
   unfold Row
   simpa using this
  ·intro r' w1 b cur F hS ha hr aX
   rw [t3] at aX
   obtain ⟨ti,q1,q2⟩:=ht.h
   obtain ⟨e1,e2⟩:=hs.eq
   have jk:=uX (P:=P) (d:=none) (ty:=Ud) (pos:=N4) (ab:=N5) (gg:=none) q1 (by rw [hl,q2]) aX e1 (x:=.tmp d) hr (y:=y) (by rw [aR ha hy]; exact hc.eq hS) (ho.one hS)
   refine ⟨_,jk,⟨rfl,rfl,rfl,Nat.le_refl _,by simp,fun j _ hj=>setRow_other w1 b j _ fun h=>hj (by simp [h])⟩,?_⟩
   have rG:=setRow_heap w1 b cs.toArray (cs.take 0++us++cs.drop (0+us.length)).toArray t _ aX
   rw [e2]
   exact rG
theorem zv.st {d:Nat} {oa os:Oper} {t:TI} {ds:LV} (h:zv P Γ fr d oa os t ds):os.guard=none∧os.dst=none:=by
 cases h; exact ⟨rfl,rfl⟩
theorem Gp {r:NV} {d:Nat} {v:Value}:vF r d v d=v:=by unfold vF; rw [Nat.beq_refl]; rfl
theorem Qf {r:NV} {d t:Nat} {v:Value} (h:t≠d):vF r d v t=r t:=by
 unfold vF
 cases hb:Nat.beq t d with
 | true=>exact absurd (Nat.eq_of_beq_eq_true hb) h
 | false=>rfl
theorem yD {r:NV} {d:Nat} {v:Value} (hn:look fr d=none) (ha:cq r fr):cq (vF r d v) fr:=by
 intro t u hl
 have ks:t≠d:=fun h=>by rw [h,hn] at hl; cases hl
 rw [Qf ks]
 exact ha t u hl
theorem wN {l:LO} {L:Array Bool} {rs:LN} (h:nv l L rs=true):Region.ready .any l.toArray L=rs:=by
 unfold nv at h
 simpa using h
variable {n:Nat} {l:LO} {Q:Exit→(Nat→Value)→World→Prop} {w0:World} {F2:LN} {a1 a2 s1 s2 d1 d2:Nat} {Gq En Eo Ep:Oper} {t1 t2:TI} {Er Es:LV} {L:Array Bool} {r:NV}
theorem tree (hd:dk n l=true) (CU:∀ w,ak [] w0 w→SA Z w Γ [] F2) (B1:zv P Γ fr d1 Gq Eo t1 Er) (B2:zv P Γ fr d2 En Ep t2 Es) (ks:d1≠d2) (i1:l[a1]? = some Gq) (i2:l[a2]? = some En) (j1:l[s1]? = some Eo) (j2:l[s2]? = some Ep)
  (fin:∀ b1 b2 r w,w0.heap.size≤b1→w0.heap.size≤b2→b1≠b2→ak [] w0 w→cq r fr→r d1 = .pointer (some ⟨b1,0,none⟩)→r d2 = .pointer (some ⟨b2,0,none⟩)→Row w b1 Er t1→Row w b2 Es t2→Q .normal r w)
  (hc:JE l a1 a2 s1 s2 L=true) (hS:ak [] w0 w) (ha:cq r fr):Hw P n l Q (ak [] w0) 4 L r w:=by
 unfold JE at hc
 simp only [Bool.and_eq_true,Bool.or_eq_true] at hc
 obtain ⟨⟨⟨⟨⟨_,c1,c3⟩,c4,c5⟩,c7,c8⟩,Ue,Uf⟩,cc⟩:=hc
 obtain ⟨rs,c2,hn,hr⟩ : ∃ rs,nv l (on L a1) rs=true∧rs≠[]∧∀ i∈rs,i=a2∨i=s1∧nv l (on (on L a1) s1) [a2]=true∧nv l (on (on (on L a1) s1) a2) [s2]=true∧nv l (on (on (on (on L a1) s1) a2) s2) []=true:=by
  rcases cc with c | ⟨c,c6,c9,Lv⟩
  ·exact ⟨_,c,by simp,fun i hi=>.inl (List.mem_singleton.1 hi)⟩
  ·exact ⟨_,c,by simp,fun i hi=>(List.mem_cons.1 hi).imp id fun hi=>⟨List.mem_singleton.1 hi,c6,c9,Lv⟩⟩
 have g1:=(B1.st).1
 have g2:=(B2.st).1
 have e1:=(B1.st).2
 have e2:=(B2.st).2
 have last:∀ {L:Array Bool} {b1 b2:Nat} {xL:LV} {r:NV} {w:World},nv l L [s2]=true→nv l (on L s2) []=true→w0.heap.size≤b1→w0.heap.size≤b2→b1≠b2→ak [] w0 w→cq r fr→r d1 = .pointer (some ⟨b1,0,none⟩)→r d2 = .pointer (some ⟨b2,0,none⟩)→Row w b1 Er t1→Row w b2 xL t2→
   (∀ (r':NV) (w1:World) (b:Nat) cur F,SA Z w1 Γ cur F→cq r' fr→r' d2 = .pointer (some ⟨b,0,none⟩)→Row w1 b xL t2→∃ w2,(execOp (ev r') Ep).run P w1 = .ok .skip w2∧ak [b] w1 w2∧Row w2 b Es t2)→Hw P n l Q (ak [] w0) 1 L r w:=by
  intro L b1 b2 xL r w k1 k2 h1 h2 h3 hS ha p1 p2 r1 r2 st
  obtain ⟨w2,jk,hC,hr⟩:=st r w b2 [] F2 (CU w hS) ha p2 r2
  have fx:ak [] w0 w2:=hS.then hC fun i hi=>.inr (by rw [List.mem_singleton.1 hi]; exact h2)
  refine Hw.all hd (wN k1) (by simp) fun i hi=>?_
  rw [List.mem_singleton.1 hi]
  refine ⟨Ep,j2,g2,undef,w2,.inr ⟨jk,rfl⟩,fx,?_⟩
  rw [e2]
  exact Hw.done (wN k2) (fin b1 b2 r w2 h1 h2 h3 fx ha p1 p2 (r1.ep hC (by simpa using h3)) hr)
 have two:∀ {L:Array Bool} {b1 b2:Nat} {Lw xL:LV} {r:NV} {w:World},nv l L [s1]=true→nv l (on L s1) [s2]=true→nv l (on (on L s1) s2) []=true→w0.heap.size≤b1→w0.heap.size≤b2→b1≠b2→ak [] w0 w→cq r fr→r d1 = .pointer (some ⟨b1,0,none⟩)→r d2 = .pointer (some ⟨b2,0,none⟩)→Row w b1 Lw t1→Row w b2 xL t2→
   (∀ (r':NV) (w1:World) (b:Nat) cur F,SA Z w1 Γ cur F→cq r' fr→r' d1 = .pointer (some ⟨b,0,none⟩)→Row w1 b Lw t1→∃ w2,(execOp (ev r') Eo).run P w1 = .ok .skip w2∧ak [b] w1 w2∧Row w2 b Er t1)→
   (∀ (r':NV) (w1:World) (b:Nat) cur F,SA Z w1 Γ cur F→cq r' fr→r' d2 = .pointer (some ⟨b,0,none⟩)→Row w1 b xL t2→∃ w2,(execOp (ev r') Ep).run P w1 = .ok .skip w2∧ak [b] w1 w2∧Row w2 b Es t2)→Hw P n l Q (ak [] w0) 2 L r w:=by
  intro L b1 b2 Lw xL r w k1 k2 k3 h1 h2 h3 hS ha p1 p2 r1 r2 Eb Gr
  obtain ⟨w2,jk,hC,hr⟩:=Eb r w b1 [] F2 (CU w hS) ha p1 r1
  have fx:ak [] w0 w2:=hS.then hC fun i hi=>.inr (by rw [List.mem_singleton.1 hi]; exact h1)
  refine Hw.all hd (wN k1) (by simp) fun i hi=>?_
  rw [List.mem_singleton.1 hi]
  refine ⟨Eo,j1,g1,undef,w2,.inr ⟨jk,rfl⟩,fx,?_⟩
  rw [e1]
  exact last k2 k3 h1 h2 h3 fx ha p1 p2 hr (r2.ep hC (by simpa using Ne.symm h3)) Gr
 refine Hw.all hd (wN c1) (by simp) fun i hi=>?_
 rcases List.mem_cons.1 hi with rfl | hi
 ·-- the first is made first
  obtain ⟨gd,dd,dn,Lw,w1,jk,hC,aX,Eb⟩:=B1.alloc r w
  have ed:ak [] w0 w1:=hS.trans hC
  have AM:w0.heap.size≤w.heap.size:=hS.size
  have X8:=aX.lt
  have Lx:=yD (v:=.pointer (some ⟨w.heap.size,0,none⟩)) dn ha
  refine ⟨Gq,i1,gd,_,w1,.inl jk,ed,?_⟩
  rw [dd]
  refine Hw.all hd (wN c2) hn fun i hi=>?_
  rcases hr i hi with rfl | ⟨rfl,c6,c9,Lv⟩
  ·obtain ⟨Ug,Uh,Ui,xL,w2,zi,vM,JG,Gr⟩:=B2.alloc (fq r (some d1) (.pointer (some ⟨w.heap.size,0,none⟩))) w1
   refine ⟨En,i2,Ug,_,w2,.inl zi,ed.trans vM,?_⟩
   rw [Uh]
   exact two (b1:=w.heap.size) (b2:=w1.heap.size) c4 c7 Ue AM (by omega) (by omega) (ed.trans vM) (yD Ui Lx) (by show vF _ d2 _ d1=_; rw [Qf ks]; exact Gp) (by exact Gp) (aX.jb vM) JG Eb Gr
  ·obtain ⟨w2,zi,vM,Qh⟩:=Eb _ w1 w.heap.size [] F2 (CU w1 ed) Lx Gp aX
   have fx:ak [] w0 w2:=ed.then vM fun i hi=>.inr (by rw [List.mem_singleton.1 hi]; exact AM)
   refine ⟨Eo,j1,g1,undef,w2,.inr ⟨zi,rfl⟩,fx,?_⟩
   rw [e1]
   refine Hw.all hd (wN c6) (by simp) fun i hi=>?_
   rw [List.mem_singleton.1 hi]
   obtain ⟨gd3,dd3,dn3,xL,w3,Xk,Uj,vU,Gr⟩:=B2.alloc (fq (fq r (some d1) (.pointer (some ⟨w.heap.size,0,none⟩))) none undef) w2
   have sz:w1.heap.size≤w2.heap.size:=vM.size
   refine ⟨En,i2,gd3,_,w3,.inl Xk,fx.trans Uj,?_⟩
   rw [dd3]
   exact last (b1:=w.heap.size) (b2:=w2.heap.size) c9 Lv AM (by omega) (by omega) (fx.trans Uj) (yD dn3 Lx) (by show vF _ d2 _ d1=_; rw [Qf ks]; exact Gp) Gp (Qh.jb Uj) vU Gr
 ·rw [List.mem_singleton.1 hi]
  obtain ⟨gd,dd,dn,xL,w1,jk,hC,aX,Gr⟩:=B2.alloc r w
  have ed:ak [] w0 w1:=hS.trans hC
  have AM:w0.heap.size≤w.heap.size:=hS.size
  have X8:=aX.lt
  have Lx:=yD (v:=.pointer (some ⟨w.heap.size,0,none⟩)) dn ha
  refine ⟨En,i2,gd,_,w1,.inl jk,ed,?_⟩
  rw [dd]
  refine Hw.all hd (wN c3) (by simp) fun i hi=>?_
  rw [List.mem_singleton.1 hi]
  obtain ⟨Ug,Uh,Ui,Lw,w2,zi,vM,JG,Eb⟩:=B1.alloc (fq r (some d2) (.pointer (some ⟨w.heap.size,0,none⟩))) w1
  refine ⟨Gq,i1,Ug,_,w2,.inl zi,ed.trans vM,?_⟩
  rw [Uh]
  exact two (b1:=w1.heap.size) (b2:=w.heap.size) c5 c8 Uf (by omega) AM (by omega) (ed.trans vM) (yD Ui Lx) Gp (by show vF _ d1 _ d2=_; rw [Qf (Ne.symm ks)]; exact Gp) JG (aX.jb vM) Eb Gr
end
section
variable {R S:Type} {P:Program} {cx:Cx R} {K:dh R S} {l:LO}
theorem ZD {id:Nat} (qs:LN) (a1 a2 s1 s2 d1 d2:Nat) {Uk:LO} {Γ:QE} {fr nz:Fr} {Gq En Eo Ep:Oper} {t1 t2:TI} {Er Es:LV} {m:Option (Out S R)}
  (hB:(P.follows .mixedOrders && dk cx.n l && Region.noSelect l.toArray && JF l a1 a2 s1 s2 qs (Array.replicate l.length false) && Nat.beq l.length (qs.length+4) && !(Nat.beq d1 d2))=true)
  (hq:Uk=pick l qs) (e1:l[a1]? = some Gq) (e2:l[a2]? = some En) (e3:l[s1]? = some Eo) (e4:l[s2]? = some Ep) (h2:QA P Γ (.q Uk fr) nz) (B1:zv P Γ nz d1 Gq Eo t1 Er) (B2:zv P Γ nz d2 En Ep t2 Es)
  (h:∀ b1 b2,D P cx (.p [(d1,.pointer (some ⟨b1,0,none⟩)),(d2,.pointer (some ⟨b2,0,none⟩))] [.row b1 Er t1,.row b2 Es t2] nz Γ fun fr Γ=>.n K Γ fr m)):Bx (ni P cx (.dr id l K Γ fr m)):=by
 simp only [Bool.and_eq_true] at hB
 obtain ⟨⟨⟨⟨⟨b1,b2⟩,b3⟩,b4⟩,b5⟩,b6⟩:=hB
 rw [l3]
 intro B o ho r w ha qe
 obtain ⟨Z,F,hS,hG⟩:=qe
 have ks:d1≠d2:=fun hd=>by rw [hd,Nat.beq_refl] at b6; cases b6
 refine n8.W b1 (Hw.start (S:=ak [] { w with drawn:=w.drawn+1 }) ?_)
 have X9:ak [] w { w with drawn:=w.drawn+1 }:=ak.drew _ _
 have CU:∀ w',ak [] { w with drawn:=w.drawn+1 } w'→SA Z w' Γ [] F:=fun w' hC=>(hS.jb X9).jb hC
 rw [show l.length=qs.length+4 from Nat.eq_of_beq_eq_true b5] at b4 ⊢
 subst hq
 refine Hw.Uc (K:=fun r'=>cq r' nz) b2 b3 (fun c r w h=>yf c h) (ak.refl _ _) (fun L r' hc fc=>?_) qs _ r b4 (QA.sound (fun w' hC=>⟨[],F,CU w' hC⟩) h2 r ha)
 refine tree b2 CU B1 B2 ks e1 e2 e3 e4 (fun c1 c2 r2 w2 k1 k2 k3 hC ha2 p1 p2 r1 rr2=>?_) hc (ak.refl _ _) fc
 have vM:ak [] w w2:=X9.trans hC
 replace k1:w.heap.size≤c1:=k1
 replace k2:w.heap.size≤c2:=k2
 have tj:HL Z w2 [.row c1 Er t1,.row c2 Es t2] ([c1]++([c2]++[])):=.own (f:=[c1]) ⟨rfl,r1⟩ (.own (f:=[c2]) ⟨rfl,rr2⟩ .nil)
 obtain ⟨F3,q1,q2⟩:=HL.build tj (CU w2 hC)
 have bc:∀ b∈F,b < w.heap.size:=fun b hb=>hS.lt b hb
 have iw:Gd B Z (([c1]++([c2]++[]))++F) w2:=by
  refine ⟨?_,?_,fun b hb=>Nat.lt_of_lt_of_le (hG.ov b hb) vM.size,?_,hG.wu,hG.vz,hG.j4.then vM fun i hi=>nomatch hi⟩
  ·refine List.nodup_append.2 ⟨by simpa using k3,hG.nd,fun a Ly b hb vb=>?_⟩
   have:=bc b hb
   rcases List.mem_cons.1 Ly with rfl | Ly
   ·omega
   ·have:a=c2:=by simpa using Ly
    omega
  ·intro b hb hz
   rcases List.mem_append.1 hb with hb | hb
   ·have:=hG.ov b hz
    rcases List.mem_cons.1 hb with rfl | hb
    ·omega
    ·have:b=c2:=by simpa using hb
     omega
   ·exact hG.apart b hb hz
  ·intro b hb
   have hz:=hG.j4.size
   rcases List.mem_append.1 hb with hb | hb
   ·rcases List.mem_cons.1 hb with rfl | hb
    ·exact .inr (by omega)
    ·have:b=c2:=by simpa using hb
     exact .inr (by omega)
   ·exact hG.low b hb
 refine (h c1 c2).sound B o ho r2 w2 ?_ ⟨Z,F3,q2,iw.perm q1⟩
 exact qR (g:=[(d1,.pointer (some ⟨c1,0,none⟩)),(d2,.pointer (some ⟨c2,0,none⟩))]) (fun p hp=>by
  rcases List.mem_cons.1 hp with rfl | hp
  ·exact p1
  ·rw [List.mem_singleton.1 hp]; exact p2) ha2
end
end Go.Dk
namespace Go.Dk
open Go Go.Li
def Ul (i:Nat) (o:Oper):Oper:=⟨o.dst,o.op,o.type,o.pos,o.after.push ⟨i,.data⟩,o.guard⟩
def tv (i:Nat):Nat→List Oper→List Oper
 | _,[]=>[]
 | 0,o :: l=>Ul i o :: l
 | j+1,o :: l=>o :: tv i j l
theorem DM (i:Nat):∀ (j:Nat) (l:LO),(tv i j l).length=l.length
 | _,[]=>by cases ‹Nat› <;> rfl
 | 0,_ :: _=>rfl
 | j+1,o :: l=>by unfold tv; rw [List.length_cons,List.length_cons,DM i j l]
theorem Bq (i:Nat):∀ (j:Nat) (l:LO) (k:Nat),(tv i j l)[k]? = (l[k]?).map fun o=>if k=j then Ul i o else o
 | 0,[],k=>by simp [tv]
 | j+1,[],k=>by simp [tv]
 | 0,o :: l,0=>by simp [tv]
 | 0,o :: l,k+1=>by simp [tv]
 | j+1,o :: l,0=>by simp [tv]
 | j+1,o :: l,k+1=>by
  unfold tv
  rw [List.getElem?_cons_succ,List.getElem?_cons_succ,Bq i j l k]
  simp
section
variable {P:Program} {l:LO} {Q:Exit→Act→World→Prop} {i j:Nat}
theorem HF (tmps:Array Value):yielded (tv i j l).toArray tmps=yielded l.toArray tmps:=by
 funext k
 simp only [yielded]
 rw [List.getElem?_toArray,List.getElem?_toArray,Bq]
 cases l[k]? with
 | none=>rfl
 | some o=>
  simp only [Option.map_some,Option.bind_some]
  by_cases h:k=j
  ·rw [if_pos h]; rfl
  ·rw [if_neg h]
theorem Gs {k:Nat} {K:Act→World→Prop} {a:Act} {w:World}:wpOp P (tv i j l).toArray Q k K a w=wpOp P l.toArray Q k K a w:=by
 unfold wpOp
 rw [HF,List.getElem?_toArray,List.getElem?_toArray,Bq]
 cases l[k]? with
 | none=>rfl
 | some o=>
  simp only [Option.map_some]
  by_cases h:k=j
  ·rw [if_pos h]; rfl
  ·rw [if_neg h]
theorem Et {L:Array Bool} (hL:L.getD i false=true):Region.ready .any (tv i j l).toArray L=Region.ready .any l.toArray L:=by
 unfold Region.ready
 rw [List.size_toArray,List.size_toArray,DM]
 refine List.filter_congr fun k _=>?_
 rw [List.getElem?_toArray,List.getElem?_toArray,Bq]
 cases l[k]? with
 | none=>rfl
 | some o=>
  simp only [Option.map_some]
  by_cases h:k=j
  ·rw [if_pos h]
   simp only [Ul,Array.all_push,hL,Bool.or_true,Bool.and_true]
  ·rw [if_neg h]
theorem Eu:∀ (fuel:Nat) (L:Array Bool) (a:Act) (w:World),L.getD i false=true→wpAny P .any (tv i j l).toArray Q fuel L a w→wpAny P .any l.toArray Q fuel L a w
 | 0,L,a,w,hL,h=>by
  unfold wpAny at h ⊢
  rw [Et hL] at h
  exact h
 | fuel+1,L,a,w,hL,h=>by
  unfold wpAny at h ⊢
  rw [Et hL] at h
  refine ⟨h.1,fun k hk=>?_⟩
  have h2:=h.2 k hk
  rw [Gs] at h2
  exact wpOp_mono (fun a' w' h'=>Eu fuel _ a' w' (getD_set_true hL) h') h2
end
def Um:Oper→Bool
 | ⟨some _,.move _,_,_,_,none⟩=>true
 | _=>false
def JH:List (Nat×Nat)→List Oper→Bool
 | [],_=>true
 | (i,j) :: zs,l=>!(Nat.beq i j) && Nat.blt i l.length && Um (l.getD i default) && Region.noSelect l.toArray && Region.free .any l.toArray (Array.replicate l.length false) i && (Region.ready .any l.toArray (Array.replicate l.length false)).contains i && (Region.ready .any (tv i j l).toArray (Array.replicate l.length false)).contains i && JH zs (tv i j l)
def N6:List (Nat×Nat)→List Oper→List Oper
 | [],l=>l
 | (i,j) :: zs,l=>N6 zs (tv i j l)
section
variable {P:Program} {n:Nat} {Q:Exit→(Nat→Value)→World→Prop} {r:NV} {w w0:World}
theorem Rz {o:Oper} (h:Um o=true) (a:Act):o.guard=none∧∃ v,(∀ w,(execOp a.eval o).run P w = .ok (.value v) w)∧∀ w,¬ o.asks P a w:=by
 obtain ⟨d,op,ty,pos,ab,g⟩:=o
 cases d <;> cases op <;> cases g <;> first | (cases h; done) | skip
 refine ⟨rfl,_,fun w=>rfl,fun w ha=>?_⟩
 have h1:=ha.1
 exact absurd (show noRoomEvent∈(#[]:Array _) from h1) (by simp)
theorem n8.ZE {i j:Nat} {l:LO} (h1:(!(Nat.beq i j) && Nat.blt i l.length && Um (l.getD i default) && Region.noSelect l.toArray && Region.free .any l.toArray (Array.replicate l.length false) i && (Region.ready .any l.toArray (Array.replicate l.length false)).contains i && (Region.ready .any (tv i j l).toArray (Array.replicate l.length false)).contains i)=true)
  (hp:∀ c r w,¬ Q (.panic c) r w) (h:n8 P n (tv i j l) Q r w):n8 P n l Q r w:=by
 simp only [Bool.and_eq_true] at h1
 obtain ⟨⟨⟨⟨⟨⟨c1,c2⟩,c3⟩,c4⟩,c5⟩,c6⟩,c7⟩:=h1
 have ks:i≠j:=fun e=>by rw [e,Nat.beq_refl] at c1; cases c1
 have hi:=Bp c2
 have bc:i < l.length:=Nat.lt_of_succ_le (Nat.le_of_ble_eq_true c2)
 intro a g1 g2 g3
 have H:=h a g1 g2 g3
 obtain ⟨hg,v,hv,hn⟩:=Rz (P:=P) c3 a
 rw [List.size_toArray,DM] at H
 rw [List.size_toArray]
 obtain ⟨f,hf⟩ : ∃ f,l.length=f+1:=⟨l.length - 1,by omega⟩
 have hw:Region.wanted (l.getD i default) (yielded l.toArray a.tmps)=true:=sM hg
 refine (congrArg (fun k=>wpAny P .any l.toArray _ k _ a _) hf).mpr ?_
 refine wpAny_take (by simpa using hi) c4 (by simpa using c5) (by simpa using c6) (fun c a w h=>(hp _ _ _ h.2.2).elim) (.inl ⟨hw,hv⟩) ?_
 refine Eu (i:=i) (j:=j) f _ _ _ ?_ ?_
 ·have:i < (Array.replicate l.length false).size:=by simpa using bc
  simp [Array.getD,bc]
 ·have H2:=(congrArg (fun k=>wpAny P .any (tv i j l).toArray (fun e a' w'=>a'.tmps.size=n∧a'.defers=[]∧Q e (cy a') w') k (Array.replicate l.length false) a { w with drawn:=w.drawn+1 }) hf).mp H
  have H3:=H2.2 i (by simpa using c7)
  rw [Gs] at H3
  unfold wpOp at H3
  rw [show (l.toArray)[i]? = some (l.getD i default) by simpa using hi] at H3
  simp only [] at H3
  rw [if_pos hw] at H3
  rcases H3 with H3 | H3
  ·unfold Oper.wp at H3
   rw [hv] at H3
   exact H3
  ·exact absurd H3.1 (hn _)
theorem n8.Qi:∀ (zs:List (Nat×Nat)) {l:LO},JH zs l=true→(∀ c r w,¬ Q (.panic c) r w)→n8 P n (N6 zs l) Q r w→n8 P n l Q r w
 | [],_,_,_,h=>h
 | (i,j) :: zs,l,hc,hp,h=>by
  unfold JH at hc
  rw [Bool.and_eq_true] at hc
  exact n8.ZE hc.1 hp (n8.Qi zs hc.2 hp h)
theorem Lz (k:Nat) {l:LO} (hd:dk n l=true) (hp:((l.take k).all fun o=>wC o.op)=true) (hB:Region.lexTailB .any l.toArray k=true)
  (h:QL P (ak [] w) l (l.take k) r fun r'=>∀ w',ak [] w w'→WL P l (l.drop k) r' w' (Q .normal)):n8 P n l Q r w:=by
 intro a h1 h2 h3
 have AL:ak [] w { w with drawn:=w.drawn+1 }:=ak.drew _ _
 have qe:wpStill P l.toArray { w with drawn:=w.drawn+1 } (fun a'=>wpList P l.toArray (fun e a' w'=>a'.tmps.size=n∧a'.defers=[]∧Q e (cy a') w') (l.drop k) a' { w with drawn:=w.drawn+1 }) (l.take k) a:=by
  refine QL.still (n:=n) (C:=ak [] w) AL hd (l.take k) a (zw hd fun o ho=>List.mem_of_mem_take ho) hp h1 h2 (by rw [h3]; exact h) _ ?_
  intro a' g1 g2 g3
  exact WL.list hd _ _ _ (zw hd fun o ho=>List.mem_of_mem_drop ho) g1 g2 (g3 _ AL)
 unfold Region.lexTailB at hB
 simp only [Bool.and_eq_true,decide_eq_true_eq,List.size_toArray] at hB
 obtain ⟨⟨⟨⟨ZF,hn⟩,hs⟩,hc⟩,NX⟩:=hB
 have Qj:(l.take k).length=k:=by rw [List.length_take]; omega
 have ZG:HeadInv .any l.toArray k (Array.replicate l.length false):=
  ⟨by simp,fun j oj _ hl=>(by rw [getD_replicate_false] at hl; cases hl),fun t _ ht=>getD_in (by simpa using ht) (getD_replicate_false _ _)⟩
 have H:=wpAnyL_lex (md:=.any) (g:=l.length - k) ZF hs hc (by simpa using hn) (l.take k) 0 _ a (fun j hj=>by
  rw [Qj] at hj
  rw [List.getElem?_take_of_lt hj,Nat.zero_add,List.getElem?_toArray]) (by rw [Qj,Nat.zero_add]) ZG (by rw [Qj]; exact NX) qe
 have H2:=wpAny_of_head (Q':=fun e a' w'=>a'.tmps.size=n∧a'.defers=[]∧Q e (cy a') w') (g:=l.length - k) (fun L a' hL=>by
  have H3:=wpAny_of_seq (md:=.any) (Q':=fun e a' w'=>a'.tmps.size=n∧a'.defers=[]∧Q e (cy a') w') (l.drop k) k L a' { w with drawn:=w.drawn+1 } (fun j=>by rw [List.getElem?_drop,List.getElem?_toArray]) (by rw [List.length_drop]; exact hL.1) hL.2
  rwa [List.length_drop] at H3) _ _ _ H
 rw [Qj,show k+(l.length - k)=l.length by omega] at H2
 rw [List.size_toArray]
 exact H2
end
section
variable {R S:Type} {P:Program} {cx:Cx R} {K:dh R S}
theorem Qk {id:Nat} (zs:List (Nat×Nat)) (k:Nat) {l l' ops tl:LO} {Γ:QE} {fr:Fr} {m:Option (Out S R)} (hl:l'=N6 zs l) (hB:(P.follows .mixedOrders && JH zs l && dk cx.n l' && ((l'.take k).all fun o=>wC o.op) && Region.lexTailB .any l'.toArray k)=true) (ho:ops=l'.take k) (ht:tl=l'.drop k)
  (h:D P cx (.o true l' ops (.h l' tl K) Γ fr m)):Bx (ni P cx (.dr id l K Γ fr m)):=by
 simp only [Bool.and_eq_true] at hB
 obtain ⟨⟨⟨⟨h1,h2⟩,h3⟩,h4⟩,h5⟩:=hB
 subst ho ht hl
 rw [l3]
 intro B o ho r w ha hs
 exact n8.W h1 (n8.Qi zs h2 (fun c r w h=>yf c h) (Lz k h3 h4 h5 (h.sound B o ho r w ha hs)))
end
end Go.Dk
namespace Go.Dk
open Go Go.Li
section
variable {B:Bs} {P:Program} {Z Z':Nat→Prop} {w:World} {Fd F1:LN}
end
section
variable {P:Program} {S:World→Prop}
theorem AK.mono {K K':(Nat→Value)→Prop} (hk:∀ r,K r→K' r):∀ {ops:LO} {r:NV},AK P S ops r K→AK P S ops r K'
 | [],_,h=>hk _ h
 | _ :: _,_,⟨hg,v,h1,h2⟩=>⟨hg,v,h1,AK.mono hk h2⟩
end
inductive QX {R S:Type} (P:Program) (cx:Cx R) (K:dh R S) (sT:LO) (rs:List (Nat×List Value×TypeId)) (pe:QE):List av→List av→List Oper→Fr→Option (Out S R)→Prop
 | pe {e:av} {Δ Γ:QE} {ops:LO} {fr:Fr} {m:Option (Out S R)} (h:QX P cx K sT rs pe Δ (e :: Γ) ops fr m):QX P cx K sT rs pe (e :: Δ) Γ ops fr m
 | nil {Γ:QE} {fr:Fr} {m:Option (Out S R)} {ub:List (Nat×List Value×TypeId)} (h:SQ P Γ fr sT rs ub) (k:D P cx (.p [] pe fr Γ fun fr Γ=>.p [] (JD ub) fr Γ fun fr Γ=>.n K Γ fr m)):QX P cx K sT rs pe [] Γ [] fr m
 | KJ {d n:Nat} {t ty:TI} {x:OO} {a:Addr} {ds:LV} {pos:String} {ab:Array Edge} {ops:LO} {Γ:QE} {fr:Fr} {m:Option (Out S R)} [ht:LK P t (some n)] (hx:bb fr x=some (.pointer (some a))) (hw:bg Γ a n ds) (h:QX P cx K sT rs pe [] Γ ops ((d,.agg ds.toArray) :: fr) m) :
   QX P cx K sT rs pe [] Γ (⟨some d,.load t x,ty,pos,ab,none⟩ :: ops) fr m
 | Fu {α V:Type} {d n:Nat} {x y:OO} {v:Value} {k:IntKind} {j:Int} {t ty:TI} {S':af α} {cl:α→V→List Value} {en:α→V→List av} {xs:List α} {pos:String} {ab:Array Edge} {ops:LO} {Γ Γx:QE} {fr:Fr} {f:α→Option (Out S R)} [ht:Cu P t n] (hx:bb fr x=some v) (hy:bb fr y=some (.int k j))
   (hr:lz Γ v false false (n7 S') xs qc Γx) (hs:Ea S' V cl en) (hn:S'.size=n) (h:∀ z u,QX P cx K sT rs pe (.aq (dc v n j) (cl z u) :: en z u) Γ ops ((d,.pointer (some (dc v n j))) :: fr) (f z)) :
   QX P cx K sT rs pe [] Γ (⟨some d,.indexAddr t x y,ty,pos,ab,none⟩ :: ops) fr (idx xs j>>=f)
 | lc {d:Nat} {t ty:TI} {x:OO} {a:Addr} {u:Value} {pos:String} {ab:Array Edge} {ops:LO} {Γ:QE} {fr:Fr} {m:Option (Out S R)} [ht:LK P t none] (hx:bb fr x=some (.pointer (some a))) (hw:tL Γ a u) (h:QX P cx K sT rs pe [] Γ ops ((d,u) :: fr) m) :
   QX P cx K sT rs pe [] Γ (⟨some d,.load t x,ty,pos,ab,none⟩ :: ops) fr m
 | val {d:Nat} {op:Op} {ty:TI} {u:Value} {pos:String} {ab:Array Edge} {ops:LO} {Γ:QE} {fr:Fr} {m:Option (Out S R)} (hv:VQ P Γ fr op u) (h:QX P cx K sT rs pe [] Γ ops ((d,u) :: fr) m):QX P cx K sT rs pe [] Γ (⟨some d,op,ty,pos,ab,none⟩ :: ops) fr m
section
variable {R S:Type} {P:Program} {cx:Cx R} {K:dh R S} {sT:LO} {rs:List (Nat×List Value×TypeId)} {pe:QE} {Z:Nat→Prop}
theorem QX.sound {w0:World} {H:LN} (hz:∀ b∈H,¬ Z b) {Δ Γ:QE} {ops:LO} {fr:Fr} {m:Option (Out S R)} (h:QX P cx K sT rs pe Δ Γ ops fr m):∀ {o:Out S R} {F:LN},m=some o→(∀ b∈H,b ∉ F)→SA Z w0 (Δ.reverse++Γ) [] F→∀ r,cq r fr→
  AK P (ak H w0) ops r fun r'=>∃ Γ' nz ub m' F',F'.Perm F∧m'=some o∧cq r' nz∧SA Z w0 Γ' [] F'∧SQ P Γ' nz sT rs ub∧D P cx (.p [] pe nz Γ' fun fr Γ=>.p [] (JD ub) fr Γ fun fr Γ=>.n K Γ fr m'):=by
 induction h with
 | @pe e Δ Γ ops fr m _ ih=>
  intro o F hm hF hS r ha
  refine ih hm hF ?_ r ha
  rw [List.reverse_cons,List.append_assoc] at hS
  exact hS
 | @nil Γ fr m ub h k=>exact fun hm hF hS r ha=>⟨Γ,fr,ub,m,_,.refl _,hm,ha,hS,h,k⟩
 | @val d op ty u pos ab ops Γ fr m hv _ ih=>
  intro o F hm hF hS r ha
  refine ⟨rfl,u,fun w hC=>?_,ih hm hF hS _ (ao ha)⟩
  exact hv.sound ((SA.ep hC hz (fun _ _=>List.not_mem_nil) hF hS)) ha (some d) ty pos ab none w (ak.refl _ _)
 | @KJ d n t ty x a ds pos ab ops Γ fr m ht hx hw _ ih=>
  intro o F hm hF hS r ha
  refine ⟨rfl,_,fun w hC=>?_,ih hm hF hS _ (ao ha)⟩
  obtain ⟨h1,h2⟩:=hw.sound (SA.ep hC hz (fun _ _=>List.not_mem_nil) hF hS)
  exact Lg ht.h h1 (aR ha hx) h2 w (ak.refl _ _)
 | @lc d t ty x a u pos ab ops Γ fr m ht hx hw _ ih=>
  intro o F hm hF hS r ha
  refine ⟨rfl,u,fun w hC=>?_,ih hm hF hS _ (ao ha)⟩
  exact Ld ht.h (hw.sound (SA.ep hC hz (fun _ _=>List.not_mem_nil) hF hS)) (aR ha hx) w (ak.refl _ _)
 | @Fu α V d n x y v k j t ty S' cl en xs pos ab ops Γ Γx fr f ht hx hy hr oy hn _ ih=>
  intro o F hm hF hS r ha
  replace oy:SO S' V cl en:=by cases oy; assumption
  obtain ⟨z,Gt,hm⟩:=bind_some hm
  replace Gt:=q9 Gt
  obtain ⟨e,i,h1,h2,h3⟩:=ht.h
  obtain ⟨dj,_,⟨⟨f0,BM,td⟩,_⟩,_⟩:=hr.sound hS
  have hZ:∀ b∈f0,Z b:=fun b hb=>(td b hb).elim id id
  obtain ⟨⟨a,c,hv⟩,bc,cs,f1,dq,KT,jo⟩:=sr BM j Gt.1 Gt.2
  have ox:(n7 S').size=n:=hn
  rw [ox] at jo
  obtain ⟨u,rfl,r7⟩:=oy.op dq.2
  have hblk:Z (dc v n j).block:=by
   obtain ⟨base,cap,mw,fc⟩:=BM
   rcases fc with ⟨rfl,_⟩ | ⟨b,off,cr,e',fz,f',rfl,_,rfl,_⟩
   ·simp at bc; omega
   ·obtain rfl:v = .slice (some ⟨b,off,none⟩) xs.length cap:=by simpa using mw
    have:(dc (.slice (some ⟨b,off,none⟩) xs.length cap) n j).block=b:=by unfold dc; rw [u7]
    rw [this]; exact hZ b (by simp)
  have Fz:fact Z w0 [] (.aq (dc v n j) (cl z u)):=⟨fun i u' hi=>jo i u' hi,fun _=>hblk⟩
  have ew:HL Z w0 (.aq (dc v n j) (cl z u) :: en z u) []:=.fact Fz (uM (r7 Z fun b hb=>hZ b (KT b hb)))
  obtain ⟨F',hp,fx⟩:=ew.build hS
  have Ya:F'.Perm F:=by simpa using hp
  refine ⟨rfl,.pointer (some (dc v n j)),fun w hC=>?_,?_⟩
  ·rw [l4 h1 h2 ((aR ha hx).trans hv) (aR ha hy) Gt.1 (by omega),h3,hv]
   rfl
  ·have hq:=ih z u (F:=F') hm (fun b hb h=>hF b hb (Ya.mem_iff.1 h)) fx _ (ao ha)
   refine AK.mono ?_ hq
   rintro r' ⟨Γ',nz,ub,m',F3,q0,q1,q2,q3,q4,q5⟩
   exact ⟨Γ',nz,ub,m',F3,q0.trans Ya,q1,q2,q3,q4,q5⟩
end
theorem FO.hl {Z:Nat→Prop} {w:World} {Δ:QE} (h:FO Δ):∀ {F:LN},HL Z w Δ F→F=[]:=by
 induction h with
 | nil=>intro F h; cases h; rfl
 | rd _ ih=>intro F h; cases h with | own h k=>exact h.elim | fact h k=>exact ih k
 | aq _ ih=>intro F h; cases h with | own h k=>exact h.elim | fact h k=>exact ih k
section
variable {P:Program} {n:Nat} {l:LO} {Q:Exit→(Nat→Value)→World→Prop} {S:World→Prop}
end
section
variable {R S:Type} {P:Program} {cx:Cx R} {K:dh R S} {l:LO}
end
theorem St.ZH {α:Type} {E:af α} {T:af (List α)} {v:Value} {x:List α} {B:Bs} {Γ Γ1:QE} {w:World} (h1:de Γ (.own T v x) Γ1) (hr:RT T (aE E)) (hs:St B Γ w):St B (.rd false (aE E) v x :: Γ1) w:=by
 obtain ⟨Z,F,hS,hG⟩:=hs
 obtain ⟨f,F',hp,_,fx⟩:=(Cs.own (E:=E) h1 hr).sound hS
 have nh:(F'++f).Perm F:=List.perm_append_comm.trans hp
 exact ⟨_,F',fx,Gd.freeze (hG.perm nh) fun b hb=>hS.lt b (hp.mem_iff.1 (List.mem_append_left _ hb))⟩
section
variable {R:Type} {P:Program} {cx:Cx R}
theorem ZI {M α β:Type} {d b:Nat} {s x:OO} {sv u:Value} {T:af (List β)} {E1:af β} {y:List β} {t e e' ty:TI} {E:af α} {bt:Nat} {all l:LO} {rk:RK R M} {Γ Γ1:QE} {fr:Fr} {m:Option M} (h1:de Γ (.own T u y) Γ1) (hr:RT T (aE E1))
  (h:D P cx (.H7 false e' E e t bt u b sv s x d ty all l rk (.rd false (aE E1) u y :: Γ1) fr m)):D P cx (.ap (aK e' E) e t bt u b sv s x d ty all l rk Γ fr m):=by
 refine D.of ?_
 intro q1 q2 q3 B o ho r w ha hs
 exact h.sound q1 q2 q3 B o ho r w ha (St.ZH h1 hr hs)
end
end Go.Dk
namespace Go.Li
open Go
section
variable {P:Program} {n:Nat} {Q:Exit→(Nat→Value)→World→Prop} {r:NV} {w:World} {R:Type}
theorem RA {c:Code} (hg:∀ l r w,¬ Q (.goto l) r w) (h:W P n c Q r w):W P n (.scope c) Q r w:=by
 intro a h1 h2 h3
 refine wp_scope_straight (wp_mono (h a h1 h2 h3) ?_)
 rintro e a' w' ⟨g1,g2,g3⟩
 cases e
 case goto l=>exact hg _ _ _ g3
 all_goals exact ⟨g1,g2,g3⟩
theorem RB {l:Nat} (h:Q .normal r w):W P n (.label l) Q r w:=fun a h1 h2 h3=>wp_label ⟨h1,h2,by rw [h3]; exact h⟩
end
end Go.Li
namespace Go.Dk
open Go Go.Li
section
variable {R:Type} {P:Program} {cx:Cx R} {S:Type}
theorem JI {B:Bs} {b:Kb R S} {o:Out S R} {l:Nat} {r:NV} {w:World} : ¬ E4 P cx B b o (.goto l) r w:=by
 cases b <;> cases o <;> exact fun h=>h
theorem JJ {n l:Nat} {Q:Exit→(Nat→Value)→World→Prop} {r:NV} {w:World} (h : ¬ Q (.goto l) r w):∀ fy,¬ yY P n Q fy (.goto l) r w:=by
 intro fy
 induction fy with
 | nil=>exact h
 | cons a fy ih=>cases a <;> exact ih
theorem Un {K:dh R S} {c:Code} {b e:Nat} {cs:LV} {Γ Γ1:QE} {fr:Fr} {m:Option (Out S R)} (h1:de Γ (.row b cs e) Γ1) (h:D P cx (.c K c (.aq ⟨b,0,none⟩ cs :: Γ1) fr m)):D P cx (.c K c Γ fr m):=by
 refine D.of ?_
 intro B o ho r w ha hs
 refine h.sound B o ho r w ha ?_
 obtain ⟨Z,F,hS,hG⟩:=hs
 obtain ⟨f,F1,hp,⟨rfl,aX⟩,ed⟩:=h1.sound hS
 have uy:(F1++[b]).Perm F:=List.perm_append_comm.trans hp
 have qT:=Gd.freeze (hG.perm uy) fun c hc=>by rw [List.mem_singleton.1 hc]; exact aX.lt
 exact ⟨rq Z [b],F1,SA.fact (ed.mono (fun _ h=>.inl h) fun _ h=>h) ⟨aX.at,fun _=>.inr (by simp)⟩,qT⟩
theorem Ql {M:Type} {all l:LO} {rk:RK R M} {b e:Nat} {cs:LV} {Γ Γ1:QE} {fr:Fr} {m:Option M} (h1:de Γ (.row b cs e) Γ1) (h:D P cx (.o false all l rk (.aq ⟨b,0,none⟩ cs :: Γ1) fr m)):D P cx (.o false all l rk Γ fr m):=by
 refine D.of ?_
 intro B o ho r w ha hs
 refine h.sound B o ho r w ha ?_
 obtain ⟨Z,F,hS,hG⟩:=hs
 obtain ⟨f,F1,hp,⟨rfl,aX⟩,ed⟩:=h1.sound hS
 have uy:(F1++[b]).Perm F:=List.perm_append_comm.trans hp
 have qT:=Gd.freeze (hG.perm uy) fun c hc=>by rw [List.mem_singleton.1 hc]; exact aX.lt
 exact ⟨rq Z [b],F1,SA.fact (ed.mono (fun _ h=>.inl h) fun _ h=>h) ⟨aX.at,fun _=>.inr (by simp)⟩,qT⟩
theorem Uo {S1 V W A:Type} (k:Nat) (a0:A) (Δ:A→S1→V→W→List av) (φ:A→S1→V→W→Fr) (v0:V) (w0:W) (f2:Fr) {fy:List KI} {kb:Kb R S} {c:Code} {s0:S1} {body:S1→Option (Out S1 R)} {f:S1→Option (Out S R)} {Γ Γ1 Γ2:QE} {fr:Fr}
  (ha:rj fr (φ a0 s0 v0 w0)) (hf:rj fr f2) (h0:EO Γ (Δ a0 s0 v0 w0) Γ1) (hn:OW Γ (Δ a0 s0 v0 w0)) (hs:jx Γ1 Γ2)
  (hb:∀ s v w,D P cx (.p (φ a0 s v w) (Δ a0 s v w) f2 Γ2 fun fr Γ=>.c ⟨[],.loop (V×W) k (fun s v=>Δ a0 s v.1 v.2) (fun s v=>φ a0 s v.1 v.2) Γ2 f2⟩ c Γ fr (body s)))
  (hk:∀ s v w,D P cx (.p (φ a0 s v w) (Δ a0 s v w) f2 Γ2 fun fr Γ=>.mn ⟨fy,kb⟩ Γ fr (f s))):Bx (ni P cx (.bk true k ⟨fy,kb⟩ (.loop c) Γ fr (ag (ae k (Li.ah body s0)) f))):=
 vX k (Δ a0) (φ a0) v0 w0 f2 ha hf h0 hn hs hb hk
theorem Yb {K:dh R S} {c:Code} {Γ:QE} {fr:Fr} {m:Option (Out S R)} (h:D P cx (.c K c Γ fr m)):Bx (ni P cx (.c K (.scope c) Γ fr m)):=by
 rw [l3]
 exact fun B o ho r w ha hs=>RA (fun l r w=>JJ JI _) (h.sound B o ho r w ha hs)
theorem Yc {K:dh R S} {l:Nat} {Γ:QE} {fr:Fr} {m:Option (Out S R)} (h:D P cx (.n K Γ fr m)):Bx (ni P cx (.c K (.label l) Γ fr m)):=by
 rw [l3]
 exact fun B o ho r w ha hs=>RB (h.sound B o ho r w ha hs)
section
variable {S1 V:Type} {k j:Nat} {Δ:S1→V→List av} {φ:S1→V→Fr} {Γ2 Γ Γ1 Γ3:QE} {f2 fr:Fr} {s:S1} {v:V} (hv:bp V v) (ha:rj fr (φ s v)) (hf:rj fr f2) (h0:EO Γ (Δ s v) Γ1) (hw:OW Γ (Δ s v)) (h1:EO Γ1 Γ2 Γ3) (h2:MF Γ none Γ2)
include hv ha hf h0 hw h1 h2
theorem Yd:Bx (ni P cx (.n ⟨[],.lx V k j Δ φ Γ2 f2⟩ Γ fr (some (.norm s)))):=by
 have _:=hv
 rw [l3]
 intro B o ho r w qd hs
 cases ho
 exact ⟨v,qR (ha.all qd) (hf.sound qd),hs.again h0 hw h1 h2⟩
theorem Ye:Bx (ni P cx (.x k ⟨[],.lx V k j Δ φ Γ2 f2⟩ Γ fr (some (.exit k s)))):=by
 have _:=hv
 rw [l3]
 intro B o ho r w qd hs
 cases ho
 refine ⟨rfl,?_⟩
 show (bif Nat.beq k k then _ else _)
 rw [show Nat.beq k k=true from Nat.beq_refl k]
 exact ⟨v,qR (ha.all qd) (hf.sound qd),hs.again h0 hw h1 h2⟩
theorem Yf (hj:Nat.beq j k=false):Bx (ni P cx (.x j ⟨[],.lx V k j Δ φ Γ2 f2⟩ Γ fr (some (.exit j s)))):=by
 have _:=hv
 rw [l3]
 intro B o ho r w qd hs
 cases ho
 refine ⟨rfl,?_⟩
 show (bif Nat.beq j k then _ else bif Nat.beq j j then _ else _)
 rw [hj,show Nat.beq j j=true from Nat.beq_refl j]
 exact ⟨v,qR (ha.all qd) (hf.sound qd),hs.again h0 hw h1 h2⟩
end
theorem Qm {S1 V:Type} (k j:Nat) (Δ:S1→V→List av) (φ:S1→V→Fr) (v0:V) (f2:Fr) {fy:List KI} {kb:Kb R S} {c:Code} {s0:S1} {body:S1→Option (Out S1 R)} {f g:S1→Option (Out S R)} {Γ Γ1 Γ2:QE} {fr:Fr}
   (hj:Nat.beq j k=false) (ha:rj fr (φ s0 v0)) (hf:rj fr f2) (h0:EO Γ (Δ s0 v0) Γ1) (hn:OW Γ (Δ s0 v0)) (hs:jx Γ1 Γ2)
   (hb:∀ s v,D P cx (.p (φ s v) (Δ s v) f2 Γ2 fun fr Γ=>.c ⟨[],.lx V k j Δ φ Γ2 f2⟩ c Γ fr (body s)))
   (hk:∀ s v,D P cx (.p (φ s v) (Δ s v) f2 Γ2 fun fr Γ=>.mn ⟨fy,kb⟩ Γ fr (f s)))
   (hg:∀ s v,D P cx (.p (φ s v) (Δ s v) f2 Γ2 fun fr Γ=>.x j ⟨fy,kb⟩ Γ fr (g s))):Bx (ni P cx (.bk true k ⟨fy,kb⟩ (.loop c) Γ fr (Ev k j (Li.ah body s0) f g))):=by
 rw [l3]
 intro B o ho r w qd qe
 cases hl:Li.ah body s0 with
 | none=>rw [hl] at ho; cases ho
 | some o1=>
  rw [hl] at ho
  refine tZ (Gu (N:=LI B Δ φ Γ2 f2) (X:=fun i s r w=>bif Nat.beq i j then LI B Δ φ Γ2 f2 s r w else False) (T:=TT P cx B) (Iu (LI B Δ φ Γ2 f2) (fun s r w ⟨v,h1,h2⟩ o ho=>(hb s v).sound B o ho r w h1 h2) hl ⟨v0,qR (ha.all qd) (hf.sound qd),qe.enter h0 hn hs⟩)) ?_
  intro e r' w' hq
  cases o1 with
  | norm s=>cases ho
  | ret z=>cases ho; cases e <;> first | exact hq.elim | exact u9 hq
  | exit i s=>
   unfold Ev at ho
   dsimp only at ho
   unfold DN at hq
   dsimp only at hq
   cases hi:Nat.beq i k with
   | true=>
    rw [hi] at ho hq
    cases e <;> first | exact hq.elim | skip
    obtain ⟨v,h1,h2⟩:=hq
    exact (hk s v).sound B o ho r' w' h1 h2
   | false=>
    rw [hi] at ho hq
    cases sf:Nat.beq i j with
    | false=>rw [sf] at ho; cases ho
    | true=>
     rw [sf] at ho
     cases e with
     | exit i'=>
      obtain ⟨rfl,hq⟩:=hq
      rw [sf] at hq
      obtain ⟨v,h1,h2⟩:=hq
      obtain rfl:=Nat.eq_of_beq_eq_true sf
      exact (hg s v).sound B o ho r' w' h1 h2
     | _=>exact hq.elim
end
end Go.Dk
namespace Go.Dk
open Go Go.Li
theorem RC {P:Program} {g:FuncId} {vs:LV} {Δ:QE} {β:Type} {m:Option β} {ow:Bool} {rt:β→Unit→List Value} (hc:Ct P g ow m vs Δ rt (fun _ _=>[])) {w:World} (hl:HL (fun b=>b < w.heap.size) w Δ []) {y:β} (hy:m=some y) :
  Calls P g vs.toArray w fun e w'=>e = .returned (na (rt y ()))∧ak [] w w':=by
 rw [qm] at hc
 refine (hc.2 w _ [] hl List.nodup_nil (fun _ h=>absurd h List.not_mem_nil) (fun _ h=>h) y hy).mono ?_
 rintro e w' ⟨_,he,Z,F,_,hg⟩
 exact ⟨he,hg.j4⟩
theorem RD {w:World} {α:Type} {T:af α} {v:Value} {x:α} {f:LN} (h:T.rep w.heap [v] x f):fact (fun b=>b < w.heap.size) w [] (.rd false T v x):=⟨f,h,fun b hb=>T.lt h b hb⟩
end Go.Dk
