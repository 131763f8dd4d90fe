/- A region that draws its order, whatever it holds: its head in any order, its tail one behind the other. No condition. -/
import Derived.Test.YtgjbmjjihmfppaaGreatLf
import Derived.Still
namespace Go.Li
open Go
def mm (acc:LL) (o:Oper):List (List Nat):=
 acc++[(o.after.toList.filter (Region.binds .any)).flatMap fun e=>e.on :: acc.getD e.on []]
def cj (l:LO):List (List Nat):=l.foldl mm []
structure ik where
 b:Bool
 V:List Nat→World→(Nat→Value)→Value→Prop
abbrev pl (V:List Nat→World→Value→Prop):List Nat→World→(Nat→Value)→Value→Prop:=fun f w _ v=>V f w v
def na (P:Program) (n:Nat) (l:LO) (Q:Exit→(Nat→Value)→World→Prop) (r:NV) (w:World):Prop:=
 ∀ a:Act,a.tmps.size=n→a.defers=[]→cy a=r→wpAny P .any l.toArray (fun e a' w'=>a'.tmps.size=n∧a'.defers=[]∧Q e (cy a') w') l.toArray.size (Array.replicate l.toArray.size false) a { w with drawn:=w.drawn+1 }
theorem na.W {P:Program} {n id:Nat} {l:LO} {Q:Exit→(Nat→Value)→World→Prop} {r:NV} {w:World} (hm:P.follows .mixedOrders=true) (h:na P n l Q r w):W P n (.region id l.toArray true) Q r w:=
 fun a h1 h2 h3=>wp_region_any hm (h a h1 h2 h3)
def DF (π:LN) (o:Oper):Oper:=⟨o.dst,o.op,o.type,o.pos,(o.after.toList.map fun e=>⟨π.getD e.on 0,e.ground⟩).toArray,o.guard⟩
def qm (l:LO) (σ π:LN):List Oper:=σ.map fun k=>DF π (l.getD k default)
def Qi (l:LO) (σ π:LN):Bool:=
 Nat.beq σ.length l.length && Nat.beq π.length l.length &&
 ((List.range l.length).all fun i=>Nat.blt (π.getD i 0) l.length && Nat.beq (σ.getD (π.getD i 0) 0) i && Nat.blt (σ.getD i 0) l.length && Nat.beq (π.getD (σ.getD i 0) 0) i) &&
 l.all fun o=>o.guard.isNone && o.after.toList.all fun e=>Nat.blt e.on l.length
theorem Xc {P:Program} {Q:Exit→Act→World→Prop} {π:LN} {o:Oper} {a:Act} {w:World} {K:Act→World→Prop}:(DF π o).wp P a w K Q=o.wp P a w K Q:=by
 cases o; rfl
theorem QC {P:Program} {π:LN} {o:Oper} {a:Act} {w:World}:(DF π o).asks P a w=o.asks P a w:=by
 cases o; rfl
section
variable {P:Program} {l:LO} {σ π:LN} (h:Qi l σ π=true)
include h
theorem ES:σ.length=l.length∧π.length=l.length∧(∀ i,i < l.length→π.getD i 0 < l.length∧σ.getD (π.getD i 0) 0=i∧σ.getD i 0 < l.length∧π.getD (σ.getD i 0) 0=i)∧∀ o∈l,o.guard=none∧∀ e∈o.after.toList,e.on < l.length:=by
 unfold Qi at h
 simp only [Bool.and_eq_true,List.all_eq_true,List.mem_range] at h
 obtain ⟨⟨⟨h1,h2⟩,h3⟩,h4⟩:=h
 refine ⟨Nat.eq_of_beq_eq_true h1,Nat.eq_of_beq_eq_true h2,fun i hi=>?_,fun o ho=>?_⟩
 ·obtain ⟨⟨⟨a,b⟩,c⟩,d⟩:=h3 i hi
  exact ⟨Nat.lt_of_succ_le (Nat.le_of_ble_eq_true a),Nat.eq_of_beq_eq_true b,Nat.lt_of_succ_le (Nat.le_of_ble_eq_true c),Nat.eq_of_beq_eq_true d⟩
 ·obtain ⟨a,b⟩:=h4 o ho
  exact ⟨by simpa using a,fun e he=>Nat.lt_of_succ_le (Nat.le_of_ble_eq_true (b e he))⟩
theorem K3:(qm l σ π).length=l.length:=by unfold qm; rw [List.length_map]; exact (ES h).1
theorem K4 {i:Nat} {o:Oper} (ho:l[i]? = some o):(qm l σ π)[π.getD i 0]? = some (DF π o):=by
 obtain ⟨h1,_,h3,_⟩:=ES h
 have hi:=(List.getElem?_eq_some_iff.1 ho).1
 obtain ⟨a,b,_,_⟩:=h3 i hi
 unfold qm
 rw [List.getElem?_map,List.getElem?_eq_getElem (by omega)]
 have e:σ[π.getD i 0]'(by omega)=i:=by
  rw [List.getD_eq_getElem?_getD,List.getElem?_eq_getElem (by omega)] at b
  simpa using b
 simp only [Option.map_some,Option.some.injEq]
 rw [e,List.getD_eq_getElem?_getD,ho]; rfl
theorem Ot {Q:Exit→Act→World→Prop}:∀ (fuel:Nat) (L L':Array Bool) (a:Act) (w:World),L.size=l.length→L'.size=l.length→(∀ i,i < l.length→L'.getD (π.getD i 0) true=L.getD i true)→
  wpAny P .any (qm l σ π).toArray Q fuel L' a w→wpAny P .any l.toArray Q fuel L a w:=by
 obtain ⟨h1,h2,h3,h4⟩:=ES h
 have gd:∀ {L:Array Bool} {i:Nat} (b:Bool),L.size=l.length→i < l.length→L.getD i b=L.getD i true:=fun {L i} b hs hi=>by
  have:i < L.size:=by omega
  simp [Array.getD,this]
 have nm:∀ (L L':Array Bool),L.size=l.length→L'.size=l.length→(∀ i,i < l.length→L'.getD (π.getD i 0) true=L.getD i true)→∀ i,i < l.length→(i∈Region.ready .any l.toArray L↔π.getD i 0∈Region.ready .any (qm l σ π).toArray L'):=by
  intro L L' hs e7 hL i hi
  rw [mem_ready,mem_ready,hL i hi]
  have ho:l[i]? = some (l[i]'hi):=List.getElem?_eq_getElem hi
  have cq:=K4 h ho
  have hg:=h4 _ (List.mem_of_getElem? ho)
  constructor
  ·rintro ⟨g1,o,g2,g3⟩
   refine ⟨g1,DF π l[i],by simpa using cq,fun e he hb=>?_⟩
   have eo:l[i]=o:=by simpa [ho] using g2
   simp only [DF,List.mem_toArray,List.mem_map] at he
   obtain ⟨e0,he0,rfl⟩:=he
   have bn:=hg.2 e0 he0
   have:=g3 e0 (by rw [← eo]; simpa using he0) hb
   rw [gd false e7 (h3 _ bn).1,hL _ bn,← gd false hs bn]; exact this
  ·rintro ⟨g1,o,g2,g3⟩
   refine ⟨g1,l[i],by simp,fun e he hb=>?_⟩
   have eo:DF π l[i]=o:=by
    have:(qm l σ π)[π.getD i 0]? = some o:=by simpa using g2
    rw [cq] at this
    exact Option.some.inj this
   have bn:=hg.2 e (by simpa using he)
   have:=g3 ⟨π.getD e.on 0,e.ground⟩ (by rw [← eo]; simp only [DF,List.mem_toArray,List.mem_map]; exact ⟨e,by simpa using he,rfl⟩) hb
   rw [gd false e7 (h3 _ bn).1,hL _ bn,← gd false hs bn] at this; exact this
 have back:∀ (L L':Array Bool),L.size=l.length→L'.size=l.length→(∀ i,i < l.length→L'.getD (π.getD i 0) true=L.getD i true)→Region.ready .any l.toArray L=[]→Region.ready .any (qm l σ π).toArray L'=[]:=by
  intro L L' hs e7 hL he
  rw [List.eq_nil_iff_forall_not_mem]
  intro k hk
  have Es:k < l.length:=by
   obtain ⟨_,o,g2,_⟩:=mem_ready.1 hk
   have:(qm l σ π)[k]? = some o:=by simpa using g2
   have:=(List.getElem?_eq_some_iff.1 this).1
   rwa [K3 h] at this
  obtain ⟨_,_,c,d⟩:=h3 k Es
  have:=(nm L L' hs e7 hL (σ.getD k 0) c).2 (by rw [d]; exact hk)
  rw [he] at this
  exact nomatch this
 intro fuel
 induction fuel with
 | zero=>
  intro L L' a w hs e7 hL hh
  refine ⟨?_,hh.2⟩
  rw [List.eq_nil_iff_forall_not_mem]
  intro i hi
  have uy:i < l.length:=by
   obtain ⟨_,o,g2,_⟩:=mem_ready.1 hi
   have:l[i]? = some o:=by simpa using g2
   exact (List.getElem?_eq_some_iff.1 this).1
  have:=(nm L L' hs e7 hL i uy).1 hi
  rw [hh.1] at this
  exact nomatch this
 | succ fuel ih=>
  intro L L' a w hs e7 hL hh
  refine ⟨fun he=>hh.1 (back L L' hs e7 hL he),fun i hi=>?_⟩
  have uy:i < l.length:=by
   obtain ⟨_,o,g2,_⟩:=mem_ready.1 hi
   have:l[i]? = some o:=by simpa using g2
   exact (List.getElem?_eq_some_iff.1 this).1
  have ho:l[i]? = some (l[i]'uy):=List.getElem?_eq_getElem uy
  have hg:=h4 _ (List.mem_of_getElem? ho)
  have Ou:=hh.2 _ ((nm L L' hs e7 hL i uy).1 hi)
  have next:∀ a w,wpAny P .any (qm l σ π).toArray Q fuel (L'.setIfInBounds (π.getD i 0) true) a w→wpAny P .any l.toArray Q fuel (L.setIfInBounds i true) a w:=fun a w=>ih _ _ a w (by simpa using hs) (by simpa using e7) fun j hj=>by
   have hpj:=(h3 j hj).1
   have hpi:=(h3 i uy).1
   by_cases e:i=j
   ·subst e
    rw [Array.getD_eq_getD_getElem?,Array.getD_eq_getD_getElem?,Array.getElem?_setIfInBounds_self_of_lt (by omega),Array.getElem?_setIfInBounds_self_of_lt (by omega)]
   ·have e':π.getD i 0≠π.getD j 0:=fun q=>e (by rw [← (h3 i uy).2.1,q,(h3 j hj).2.1])
    have h5:=hL j hj
    have q1:(L'.setIfInBounds (π.getD i 0) true).getD (π.getD j 0) true=L'.getD (π.getD j 0) true:=by
     rw [Array.getD_eq_getD_getElem?,Array.getD_eq_getD_getElem?,Array.getElem?_setIfInBounds_ne e']
    have q2:(L.setIfInBounds i true).getD j true=L.getD j true:=by
     rw [Array.getD_eq_getD_getElem?,Array.getD_eq_getD_getElem?,Array.getElem?_setIfInBounds_ne e]
    rw [q1,q2,h5]
  have ga:(l.toArray)[i]? = some (l[i]'uy):=by simp
  have gb:((qm l σ π).toArray)[π.getD i 0]? = some (DF π (l[i]'uy)):=by simpa using K4 h ho
  unfold wpOp at Ou ⊢
  rw [gb] at Ou
  rw [ga]
  have w1:Region.wanted (l[i]'uy) (yielded l.toArray a.tmps)=true:=by unfold Region.wanted; rw [hg.1]
  have w2:Region.wanted (DF π (l[i]'uy)) (yielded (qm l σ π).toArray a.tmps)=true:=by unfold Region.wanted; show (match (l[i]'uy).guard with | none=>true | some (j,want)=>_)=true; rw [hg.1]
  simp only [w2,if_true] at Ou
  simp only [w1,if_true]
  rw [Xc,QC] at Ou
  exact Ou.imp (fun g=>Oper.wp_mono next g) id
theorem na.prm {n:Nat} {Q:Exit→(Nat→Value)→World→Prop} {r:NV} {w:World} (hw:na P n (qm l σ π) Q r w):na P n l Q r w:=by
 have hl:=K3 h
 obtain ⟨_,_,h3,_⟩:=ES h
 intro a a1 a2 a3
 have:=hw a a1 a2 a3
 rw [show (qm l σ π).toArray.size=l.toArray.size by simpa using hl] at this
 refine Ot h _ _ _ a _ (by simp) (by simp) (fun i hi=>?_) this
 have hq:=(h3 i hi).1
 rw [List.getD_eq_getElem?_getD] at hq
 simp [Array.getD,hi,hq]
end
section
variable {P:Program} {n:Nat} {Q:Exit→(Nat→Value)→World→Prop} {r0:NV} {w0:World} {l:LO} {S:List ik}
def b9 (l:LO) (j:Nat):Option Nat:=(l[j]?).bind (·.dst)
def yu (l:LO) (S:List ik) (j:Nat) (g:Nat→List Nat) (r:NV) (w:World):Prop:=
 (∀ d,b9 l j=some d→match S[j]? with
  | some s=>if s.b then s.V (g j) w r (r d) else r d=undef
  | none=>True)∧(b9 l j=none→∀ s,S[j]? = some s→s.b=true→∃ x,s.V (g j) w r x)
def Old (l:LO) (S:List ik) (j:Nat) (r:NV):Prop:=∀ d,b9 l j=some d→∀ s,S[j]? = some s→if s.b then ∃ f w,s.V f w r (r d) else r d=undef
structure Bb (l:LO) (m:Nat) (S:List ik) (U:LL) (r0:NV) (w0:World) (H:LN) (L:Nat→Prop) (g:Nat→List Nat) (r:NV) (w:World):Prop where
 jh:aq H w0 w
 Cm:(∀ k,L k→l.length ∉ U.getD k [])→aq [] w0 w∧g l.length=H
 vg:∀ b∈g l.length,b∈H
 vd:∀ j,L j→s8 (g j) (g l.length)
 done:∀ j,L j→(∀ k,L k→j ∉ U.getD k [])→yu l S j g r w
 uI:∀ j,L j→Old l S j r
 other:∀ t,(∀ j,j < m→b9 l j≠some t)→r t=r0 t
 fresh:∀ j,L j→∀ b∈g j,(w0.heap.size≤b∨(b∈H∧∃ k,L k∧l.length∈U.getD k []))∧b < w.heap.size
 xL:∀ i j,L i→L j→i≠j→s8 (g i) (g j)
def vE (l:LO) (U:LL) (m i j:Nat):Bool:=
 ((cj l).getD i []).contains j && (List.range m).all fun k=>!((U.getD k []).contains j) || Nat.beq k i || ((cj l).getD k []).contains i
def qj (g:Nat→List Nat) (us:LN):List Nat:=us.flatMap g
def A6 (l:LO) (U:LL) (m i:Nat):Bool:=(List.range m).all fun k=>!((U.getD k []).contains l.length) || Nat.beq k i || ((cj l).getD k []).contains i
def lr (P:Program) (l:LO) (m:Nat) (S:List ik) (U:LL) (r0:NV) (w0:World) (H:LN) (i:Nat):Prop:=
 ∀ o s,l[i]? = some o→S[i]? = some s→∀ (g:Nat→List Nat) (r:NV) (w:World),aq H w0 w→(A6 l U m i=true→aq [] w0 w∧g l.length=H∧∀ j∈(cj l).getD i [],∀ b∈g j,w0.heap.size≤b)→(∀ j∈(cj l).getD i [],Old l S j r)→(∀ j,vE l U m i j=true→yu l S j g r w)→(∀ t,(∀ j,j < m→b9 l j≠some t)→r t=r0 t)→
  (∀ i'∈(cj l).getD i [],∀ j'∈(cj l).getD i [],i'≠j'→s8 (g i') (g j'))→(∀ j∈(cj l).getD i [],∀ b∈g j,(w0.heap.size≤b∨b∈H)∧b < w.heap.size)→
  if s.b then Region.wanted o (yl l r)=true∧gf P o r w fun v w'=>aq (qj g (U.getD i [])) w w'∧∃ f,(∀ b∈f,(b∈qj g (U.getD i [])∨w.heap.size≤b)∧b < w'.heap.size)∧s.V f w' r v
  else Region.wanted o (yl l r)=false
def Ci:List Nat→Bool
 | []=>true
 | x :: l=>!(l.contains x) && Ci l
theorem zU:∀ {l:LN},Ci l=true→l.Nodup
 | [],_=>List.nodup_nil
 | x :: l,h=>by
  simp only [Ci,Bool.and_eq_true,Bool.not_eq_true',List.contains_eq_mem,decide_eq_false_iff_not] at h
  exact List.nodup_cons.2 ⟨h.1,zU h.2⟩
def A8 (l:LO) (m:Nat) (Z:LN):Bool:=
 ((List.range l.length).all fun i=>((l.getD i default).after.toList.filter (Region.binds .any)).all fun e=>Nat.blt e.on i) &&
 ((List.range l.length).all fun i=>Nat.blt i m || (List.range i).all fun j=>((cj l).getD i []).contains j || Z.contains j) &&
 Ci ((l.take m).filterMap (·.dst))
def Xd (o:Oper):Bool:=match o.op with | .move _=>true | .extract _ _=>true | _=>false
def QD (l:LO) (i:Nat):Array Bool:=((List.range l.length).map fun j=>((cj l).getD i []).contains j).toArray
def Ip (l:LO) (m:Nat) (Z:LN):Bool:=
 Region.noSelect l.toArray && Z.all fun i=>Nat.blt i m && Region.free .any l.toArray (QD l i) i &&
  match l[i]? with
  | some o=>Xd o && o.guard.isNone
  | none=>false
theorem Ov {l:LO} {L:Array Bool} {i:Nat} (hL:∀ j∈(cj l).getD i [],L.getD j false=true) (h:Region.free .any l.toArray (QD l i) i=true):Region.free .any l.toArray L i=true:=by
 unfold Region.free at h ⊢
 cases ho:(l.toArray)[i]? with
 | none=>rw [ho] at h; cases h
 | some oi=>
  rw [ho] at h
  simp only [List.all_eq_true,List.mem_range,Bool.or_eq_true] at h ⊢
  intro j hj
  rcases h j hj with (h1 | h1) | h1
  ·exact .inl (.inl h1)
  ·have bn:j < l.length:=by simpa using hj
   have hm:j∈(cj l).getD i []:=by
    unfold QD at h1
    have:((List.range l.length).map fun j=>((cj l).getD i []).contains j)[j]? = some (((cj l).getD i []).contains j):=by
     rw [List.getElem?_map,List.getElem?_range bn]; rfl
    rw [Array.getD_eq_getD_getElem?,List.getElem?_toArray,this] at h1
    simpa using h1
   refine .inl (.inr ?_)
   have h2:=hL j hm
   rcases Nat.lt_or_ge j L.size with h' | h'
   ·simp [h'] at h2 ⊢; exact h2
   ·simp [Array.getElem?_eq_none h'] at h2
  ·exact .inr h1
theorem Kd {P:Program} {d:Option Nat} {x:OO} {k:Nat} {ty:TI} {pos:String} {af:Array Edge} {g:Option (Nat×Bool)} {r:NV} {w:World} {K:Value→World→Prop} (h:gf P ⟨d,.extract x k,ty,pos,af,g⟩ r w K) :
  ∃ v,(∀ w',(execOp (ev r) ⟨d,.extract x k,ty,pos,af,g⟩).run P w' = .ok (.value v) w')∧K v w:=by
 have e:execOp (ev r) ⟨d,.extract x k,ty,pos,af,g⟩ = (Instr.extract (ev r x) k>>=fun v=>pure (.value v)):=rfl
 unfold gf at h
 rw [e] at h ⊢
 generalize ev r x=u at h ⊢
 cases u
 case tuple vs=>
  cases hv:vs[k]? with
  | none=>simp [Instr.extract,hv,stuck,Result.andThen,Sem.run] at h
  | some v=>
   refine ⟨v,fun w'=>?_,?_⟩
   ·simp [Instr.extract,hv]
   ·simpa [Instr.extract,hv] using h
 all_goals simp [Instr.extract,stuck,Result.andThen,Sem.run] at h
theorem Bo (l:LO):∀ (i:Nat) (o:Oper),l[i]? = some o→(cj l)[i]? = some ((o.after.toList.filter (Region.binds .any)).flatMap fun e=>e.on :: ((cj l).take i).getD e.on []):=by
 have key:∀ (l:LO) (acc:LL),(l.foldl mm acc).length=acc.length+l.length∧(∀ j,j < acc.length→(l.foldl mm acc)[j]? = acc[j]?)∧
   ∀ i o,l[i]? = some o→(l.foldl mm acc)[acc.length+i]? = some ((o.after.toList.filter (Region.binds .any)).flatMap fun e=>e.on :: ((l.foldl mm acc).take (acc.length+i)).getD e.on []):=by
  intro l
  induction l with
  | nil=>intro acc; exact ⟨rfl,fun _ _=>rfl,fun i o h=>by simp at h⟩
  | cons x l ih=>
   intro acc
   obtain ⟨h1,h2,h3⟩:=ih (mm acc x)
   have hl:(mm acc x).length=acc.length+1:=by simp [mm]
   have hold:∀ j,j < acc.length→(mm acc x)[j]? = acc[j]?:=fun j hj=>by simp only [mm]; rw [List.getElem?_append_left hj]
   refine ⟨by simp only [List.foldl_cons,h1,hl,List.length_cons]; omega,fun j hj=>?_,?_⟩
   ·rw [List.foldl_cons,h2 j (by omega),hold j hj]
   ·intro i o hi
    cases i with
    | zero=>
     simp at hi
     subst hi
     have ZW:(List.foldl mm acc (x :: l)).take (acc.length+0)=acc:=by
      apply List.ext_getElem?
      intro j
      rw [Nat.add_zero,List.getElem?_take]
      split
      ·rename_i hj
       rw [List.foldl_cons,h2 j (by omega),hold j hj]
      ·rename_i hj
       rw [List.getElem?_eq_none (by omega)]
     rw [ZW]
     rw [Nat.add_zero,List.foldl_cons,h2 _ (by omega)]
     simp only [mm]
     rw [List.getElem?_append_right (Nat.le_refl _)]
     simp
    | succ i=>
     have:=h3 i o (by simpa using hi)
     rw [hl] at this
     rw [List.foldl_cons]
     rw [show acc.length+(i+1)=acc.length+1+i by omega]
     exact this
 intro i o hi
 have:=(key l []).2.2 i o hi
 simpa [cj] using this
theorem Cj (l:LO) (hb:∀ (i:Nat) (o:Oper),l[i]? = some o→∀ e∈o.after.toList.filter (Region.binds .any),e.on < i) :
  ∀ (i j:Nat),j∈(cj l).getD i []→j < i∧∃ o,l[i]? = some o∧∃ e∈o.after.toList.filter (Region.binds .any),j=e.on∨j∈(cj l).getD e.on []:=by
 intro i j hj
 cases ho:l[i]? with
 | none=>
  have hlen:(cj l).length=l.length:=by
   have:∀ (l:LO) (acc:LL),(l.foldl mm acc).length=acc.length+l.length:=by
    intro l
    induction l with
    | nil=>intro acc; rfl
    | cons x l ih=>intro acc; rw [List.foldl_cons,ih]; simp [mm]; omega
   simpa [cj] using this l []
  rw [List.getD_eq_getElem?_getD,List.getElem?_eq_none (by rw [hlen]; exact List.getElem?_eq_none_iff.1 ho)] at hj
  simp at hj
 | some o=>
  have h:=Bo l i o ho
  rw [List.getD_eq_getElem?_getD,h] at hj
  simp only [Option.getD_some,List.mem_flatMap,List.mem_cons] at hj
  obtain ⟨e,he,hj⟩:=hj
  have bn:=hb i o ho e he
  have Xe:((cj l).take i).getD e.on []=(cj l).getD e.on []:=by
   rw [List.getD_eq_getElem?_getD,List.getD_eq_getElem?_getD,List.getElem?_take,if_pos bn]
  rw [Xe] at hj
  refine ⟨?_,o,rfl,e,he,hj⟩
  rcases hj with rfl | hj
  ·exact bn
  ·-- by the strong law below
   have:∀ (k i:Nat),i≤k→∀ j∈(cj l).getD i [],j < i:=by
    intro k
    induction k with
    | zero=>
     intro i hi j hj
     obtain rfl:i=0:=by omega
     cases ho:l[0]? with
     | none=>
      obtain rfl:l=[]:=by cases l with | nil=>rfl | cons=>simp at ho
      simp [cj] at hj
     | some o=>
      have h:=Bo l 0 o ho
      rw [List.getD_eq_getElem?_getD,h] at hj
      simp only [Option.getD_some,List.mem_flatMap] at hj
      obtain ⟨e,he,_⟩:=hj
      exact absurd (hb 0 o ho e he) (Nat.not_lt_zero _)
    | succ k ih=>
     intro i hi j hj
     cases ho:l[i]? with
     | none=>
      have hlen:(cj l).length=l.length:=by
       have:∀ (l:LO) (acc:LL),(l.foldl mm acc).length=acc.length+l.length:=by
        intro l
        induction l with
        | nil=>intro acc; rfl
        | cons x l ih=>intro acc; rw [List.foldl_cons,ih]; simp [mm]; omega
       simpa [cj] using this l []
      rw [List.getD_eq_getElem?_getD,List.getElem?_eq_none (by rw [hlen]; exact List.getElem?_eq_none_iff.1 ho)] at hj
      simp at hj
     | some o=>
      have h:=Bo l i o ho
      rw [List.getD_eq_getElem?_getD,h] at hj
      simp only [Option.getD_some,List.mem_flatMap,List.mem_cons] at hj
      obtain ⟨e,he,hj⟩:=hj
      have bn:=hb i o ho e he
      rcases hj with rfl | hj
      ·exact bn
      ·have Xe:((cj l).take i).getD e.on []=(cj l).getD e.on []:=by
        rw [List.getD_eq_getElem?_getD,List.getD_eq_getElem?_getD,List.getElem?_take,if_pos bn]
       rw [Xe] at hj
       have:=ih e.on (by omega) j hj
       omega
   exact Nat.lt_trans (this e.on e.on (Nat.le_refl _) j hj) bn
theorem EA (l:LO) (hb:∀ (i:Nat) (o:Oper),l[i]? = some o→∀ e∈o.after.toList.filter (Region.binds .any),e.on < i) {j k:Nat} (hj:j∈(cj l).getD k []):∀ {i:Nat},k∈(cj l).getD i []→j∈(cj l).getD i []:=by
 intro i
 induction i using Nat.strongRecOn with
 | _ i ih=>
  intro hk
  obtain ⟨_,o,ho,e,he,Xf⟩:=Cj l hb i k hk
  have bn:=hb i o ho e he
  have h2:j∈(cj l).getD e.on []:=Xf.elim (fun h=>h ▸ hj) (fun h=>ih e.on bn h)
  have h:=Bo l i o ho
  rw [List.getD_eq_getElem?_getD,h]
  simp only [Option.getD_some,List.mem_flatMap,List.mem_cons]
  refine ⟨e,he,.inr ?_⟩
  rw [List.getD_eq_getElem?_getD,List.getElem?_take,if_pos bn,← List.getD_eq_getElem?_getD]
  exact h2
theorem getD_both {IV:Array Bool} {i:Nat} (h:IV.getD i true=false):IV.getD i false=false:=by
 rcases Nat.lt_or_ge i IV.size with h' | h'
 ·simp [h'] at h ⊢; exact h
 ·simp [Array.getElem?_eq_none h'] at h
theorem getD_replicate_false (m j:Nat):(Array.replicate m false).getD j false=false:=by
 rcases Nat.lt_or_ge j m with h | h
 ·simp [h]
 ·simp [h]
theorem GA:∀ (l:LO),(l.filterMap (·.dst)).Nodup→∀ i j d,b9 l i=some d→b9 l j=some d→i=j:=by
 intro l
 induction l with
 | nil=>intro _ i j d h; simp [b9] at h
 | cons o l ih=>
  intro hn i j d hi hj
  have Xg:∀ k,b9 (o :: l) (k+1)=some d→d∈l.filterMap (·.dst):=by
   intro k hk
   simp only [b9,List.getElem?_cons_succ] at hk
   cases ho:l[k]? with
   | none=>rw [ho] at hk; cases hk
   | some x=>rw [ho] at hk; exact List.mem_filterMap.2 ⟨x,List.mem_of_getElem? ho,hk⟩
  have h0:∀ e,o.dst=some e→e ∉ l.filterMap (·.dst)∧(l.filterMap (·.dst)).Nodup:=by
   intro e he
   rw [List.filterMap_cons_some he] at hn
   exact List.nodup_cons.1 hn
  have w5:(l.filterMap (·.dst)).Nodup:=by
   cases hd:o.dst with
   | none=>rwa [List.filterMap_cons_none hd] at hn
   | some e=>exact (h0 e hd).2
  cases i with
  | zero=>
   cases j with
   | zero=>rfl
   | succ j=>exact absurd (Xg j hj) (h0 d (by simpa [b9] using hi)).1
  | succ i=>
   cases j with
   | zero=>exact absurd (Xg i hi) (h0 d (by simpa [b9] using hj)).1
   | succ j=>rw [ih w5 i j d (by simpa [b9] using hi) (by simpa [b9] using hj)]
theorem ly {m j:Nat} (hj:j < m):b9 (l.take m) j=b9 l j:=by
 unfold b9
 rw [List.getElem?_take,if_pos hj]
theorem rn {o:Oper} {r:NV} {w:World} {K K':Value→World→Prop} (h:gf P o r w K) (hk:∀ v w',K v w'→K' v w'):gf P o r w K':=by
 unfold gf at h ⊢
 cases hr:(execOp (ev r) o).run P w with
 | ok x w'=>
  rw [hr] at h
  cases x with
  | value v=>exact hk _ _ h
  | skip=>exact hk _ _ h
  | enter f args=>exact h.mono fun e Gu ⟨v,he,hv⟩=>⟨v,he,hk _ _ hv⟩
  | _=>exact h
 | _=>rw [hr] at h; exact h.elim
theorem NS {m:Nat} {Z:LN} (h:A8 l m Z=true):∀ (i:Nat) (o:Oper),l[i]? = some o→∀ e∈o.after.toList.filter (Region.binds .any),e.on < i:=by
 simp only [A8,Bool.and_eq_true,List.all_eq_true,List.mem_range] at h
 intro i o ho e he
 have hi:i < l.length:=(List.getElem?_eq_some_iff.1 ho).1
 have:=h.1.1 i hi e (by rw [List.getD_eq_getElem?_getD,ho]; exact he)
 exact Nat.lt_of_succ_le (Nat.le_of_ble_eq_true this)
theorem We {m:Nat} {U:LL} {Z H:LN} {N:Nat→Prop} (hd:dj n l=true) (hA:A8 l m Z=true) (hZ:Ip l m Z=true) (hp:∀ c r w,Q (.panic c) r w→False) (Iq:m≤l.length)
  (hS:S.length=m)
  (hH:∀ b∈H,b < w0.heap.size) (hU:((List.range m).all fun i=>(U.getD i []).all fun u=>Nat.beq u l.length || ((cj l).getD i []).contains u)=true)
  (hN:∀ b,N b→b < w0.heap.size∧b ∉ H)
  (sb:∀ (i:Nat) (s:ik),S[i]? = some s→∀ f F (w w':World) (r r':NV) v,aq F w w'→(∀ b∈f,b ∉ F)→(∀ b∈F,¬ N b)→(∀ j∈(cj l).getD i [],∀ t,b9 l j=some t→r' t=r t)→s.V f w r v→s.V f w' r' v)
  (Qm:∀ i,i < m→lr P l m S U r0 w0 H i)
  (next:∀ g r w,Bb l m S U r0 w0 H (fun j=>j < m) g r w→WL P l (l.drop m) r w (Q .normal)) :
  na P n l Q r0 w0:=by
 simp only [A8,Bool.and_eq_true,List.all_eq_true,List.mem_range,Bool.or_eq_true] at hA
 obtain ⟨⟨Wz,WA⟩,WB⟩:=hA
 have xZ:∀ (i:Nat) (o:Oper),l[i]? = some o→∀ e∈o.after.toList.filter (Region.binds .any),e.on < i:=by
  intro i o ho e he
  have hi:i < l.length:=(List.getElem?_eq_some_iff.1 ho).1
  have:=Wz i hi e (by rw [List.getD_eq_getElem?_getD,ho]; exact he)
  exact Nat.lt_of_succ_le (Nat.le_of_ble_eq_true this)
 have FR:∀ i,m≤i→i < l.length→∀ j,j < i→j∈(cj l).getD i []∨j∈Z:=by
  intro i h1 h2 j hj
  rcases WA i h2 with h | h
  ·exact absurd (Nat.lt_of_succ_le (Nat.le_of_ble_eq_true h)) (Nat.not_lt.2 h1)
  ·have:=h j hj
   simpa using this
 simp only [Ip,Bool.and_eq_true,List.all_eq_true] at hZ
 obtain ⟨SS,hZ⟩:=hZ
 have Xh:∀ z∈Z,z < m:=fun z hz=>Nat.lt_of_succ_le (Nat.le_of_ble_eq_true (hZ z hz).1.1)
 have WC:∀ i,i < m→∀ u∈U.getD i [],u=l.length∨u∈(cj l).getD i []:=by
  intro i hi u hu
  simp only [List.all_eq_true,List.mem_range] at hU
  have:=hU i hi u hu
  simpa using this
 have de:=GA _ (zU WB)
 have rq:=Cj l xZ
 intro a h1 h2 h3
 let Cl (L:Array Bool):Prop:=L.size=l.length∧∀ j o,l[j]? = some o→L.getD j false=true→∀ e∈o.after.toList.filter (Region.binds .any),L.getD e.on false=true
 have js:∀ L,Cl L→∀ i j,(∀ o,l[i]? = some o→∀ e∈o.after.toList.filter (Region.binds .any),L.getD e.on false=true)→j∈(cj l).getD i []→L.getD j false=true:=by
  intro L hL i
  induction i using Nat.strongRecOn with
  | _ i ih=>
   intro j hi hj
   obtain ⟨_,o,ho,e,he,Iw⟩:=rq i j hj
   have hl:=hi o ho e he
   rcases Iw with rfl | Iw
   ·exact hl
   ·exact ih e.on (xZ i o ho e he) j (fun o' cq e' vc=>hL.2 _ _ cq hl e' vc) Iw
 have nm:∀ L i,i∈Region.ready .any l.toArray L→L.getD i true=false∧∃ o,l[i]? = some o∧∀ e∈o.after.toList.filter (Region.binds .any),L.getD e.on false=true:=by
  intro L i hi
  obtain ⟨g1,o,ho,dw⟩:=mem_ready.1 hi
  refine ⟨g1,o,by simpa using ho,fun e he=>?_⟩
  have:=List.mem_filter.1 he
  exact dw e (by simpa using this.1) this.2
 have ED:∀ L i o,L.size=l.length→l[i]? = some o→L.getD i false=false→(∀ e∈o.after.toList.filter (Region.binds .any),L.getD e.on false=true)→i∈Region.ready .any l.toArray L:=by
  intro L i o hs ho hu dw
  refine mem_ready.2 ⟨?_,o,by simpa using ho,fun e he hb=>dw e (List.mem_filter.2 ⟨by simpa using he,hb⟩)⟩
  have hi:i < L.size:=by rw [hs]; exact (List.getElem?_eq_some_iff.1 ho).1
  simp [hi] at hu ⊢; exact hu
 have Hq:∀ L i o,Cl L→l[i]? = some o→(∀ e∈o.after.toList.filter (Region.binds .any),L.getD e.on false=true)→Cl (L.setIfInBounds i true):=by
  intro L i o hL ho dw
  refine ⟨by rw [Array.size_setIfInBounds]; exact hL.1,fun j o' cq hj e he=>?_⟩
  by_cases tX:i=j
  ·subst tX
   have:o'=o:=Option.some.inj (cq.symm.trans ho)
   subst this
   exact getD_set_true (dw e he)
  ·rw [getD_set_ne false tX] at hj
   exact getD_set_true (hL.2 j o' cq hj e he)
 have getSet:∀ (L:Array Bool) i j,L.size=l.length→i < l.length→((L.setIfInBounds i true).getD j false=true↔j=i∨L.getD j false=true):=by
  intro L i j hs hi
  by_cases tX:i=j
  ·subst tX
   simp [hs,hi]
  ·rw [getD_set_ne false tX]
   constructor
   ·exact .inr
   ·rintro (h | h)
    ·exact absurd h.symm tX
    ·exact h
 have Iy:∀ (L:Array Bool) i,L.size=l.length→i < l.length→L.getD i false=false→(L.setIfInBounds i true).toList.count false+1=L.toList.count false:=by
  intro L i hs hi hu
  have u5:i < L.toList.length:=by simpa [hs] using hi
  have Ai:L.toList[i]=false:=by
   rw [Array.getElem_toList]
   simp [hs,hi] at hu
   exact hu
  rw [Array.toList_setIfInBounds,List.count_set u5,Ai]
  have:0 < L.toList.count false:=List.count_pos_iff.2 (by rw [← Ai]; exact List.getElem_mem u5)
  rw [if_pos (by rfl),if_neg (by decide)]
  omega
 have tail:∀ (d k fuel:Nat) (L:Array Bool) (a:Act) (w:World),l.length - k=d→m≤k→k≤l.length→Cl L→(∀ j,L.getD j false=true↔j < k)→L.toList.count false≤fuel→a.tmps.size=n→a.defers=[]→
   WL P l (l.drop k) (cy a) w (Q .normal)→wpAny P .any l.toArray (fun e a' w'=>a'.tmps.size=n∧a'.defers=[]∧Q e (cy a') w') fuel L a w:=by
  intro d
  induction d with
  | zero=>
   intro k fuel L a w hk hmk Es hL iv hf g1 g2 hW
   obtain rfl:k=l.length:=by omega
   rw [List.drop_length] at hW
   have tA:Region.ready .any l.toArray L=[]:=by
    apply List.eq_nil_iff_forall_not_mem.2
    intro i hi
    obtain ⟨q1,o,ho,_⟩:=nm L i hi
    have bn:i < l.length:=(List.getElem?_eq_some_iff.1 ho).1
    have:=(iv i).2 bn
    simp [hL.1,bn] at q1 this
    rw [q1] at this; cases this
   cases fuel with
   | zero=>exact ⟨tA,g1,g2,hW⟩
   | succ fuel=>exact ⟨fun _=>⟨g1,g2,hW⟩,fun i hi=>by rw [tA] at hi; cases hi⟩
  | succ d ih=>
   intro k fuel L a w hk hmk Es hL iv hf g1 g2 hW
   have MB:k < l.length:=by omega
   obtain ⟨o,ho⟩ : ∃ o,l[k]? = some o:=⟨l[k],List.getElem?_eq_getElem MB⟩
   have Xi:L.getD k false=false:=by
    cases hb:L.getD k false with
    | false=>rfl
    | true=>exact absurd ((iv k).1 hb) (Nat.lt_irrefl _)
   have o5:k∈Region.ready .any l.toArray L:=ED L k o hL.1 ho Xi fun e he=>(iv _).2 (xZ k o ho e he)
   have ZX:l.drop k=o :: l.drop (k+1):=by rw [List.drop_eq_getElem_cons MB]; congr 1; exact Option.some.inj ((List.getElem?_eq_getElem MB).symm.trans ho)
   rw [ZX] at hW
   have hc:=Iy L k hL.1 MB Xi
   cases fuel with
   | zero=>omega
   | succ fuel=>
    refine ⟨fun h=>(by rw [h] at o5; cases o5),fun i hi=>?_⟩
    obtain ⟨q1,oi,nw,dw⟩:=nm L i hi
    have fx:i < l.length:=(List.getElem?_eq_some_iff.1 nw).1
    have vI:L.getD i false=false:=getD_both q1
    have hik:i=k:=by
     rcases Nat.lt_trichotomy i k with h | h | h
     ·have:=(iv i).2 h; rw [vI] at this; cases this
     ·exact h
     ·have:=js L hL i k (fun o' cq=>by have:o'=oi:=Option.some.inj (cq.symm.trans nw); subst this; exact dw) ((FR i (by omega) fx k h).resolve_right fun hz=>absurd (Xh k hz) (by omega))
      rw [Xi] at this; cases this
    subst hik
    have N2:oi=o:=Option.some.inj (nw.symm.trans ho)
    subst N2
    have GC:∀ k',oi.dst=some k'→k' < a.tmps.size:=by
     intro k' w7
     have wg:oi∈l:=List.mem_of_getElem? nw
     simp only [dj,List.all_eq_true] at hd
     have:=hd oi wg
     rw [w7] at this
     rw [g1]
     exact Nat.lt_of_succ_le (Nat.le_of_ble_eq_true this)
    have DC:=Hq L i oi hL nw dw
    have Bd:∀ j,(L.setIfInBounds i true).getD j false=true↔j < i+1:=by
     intro j
     rw [getSet L i j hL.1 fx,iv j]
     omega
    unfold wpOp
    rw [show (l.toArray)[i]? = some oi by simpa using nw]
    simp only []
    rw [Bc (by rw [g1]; exact hd)]
    rcases hW with ⟨hw,hW⟩ | ⟨hw,hW⟩
    ·rw [if_pos hw]
     exact .inl (hW.wp fun v w' hv=>ih (i+1) fuel _ _ _ (by omega) (by omega) (by omega) DC Bd (by omega) (by rw [kh]; exact g1) (by rw [ib]; exact g2) (by rw [l3 GC]; exact hv))
    ·rw [if_neg (by rw [hw]; exact Bool.false_ne_true)]
     exact ih (i+1) fuel _ _ _ (by omega) (by omega) (by omega) DC Bd (by omega) (by rw [kh]; exact g1) (by rw [ib]; exact g2) (by rw [l3 GC]; exact hW)
 have head:∀ (fuel:Nat) (L:Array Bool) (a:Act) (w:World) (g:Nat→List Nat),Cl L→(∀ j,L.getD j false=true→j < m)→L.toList.count false≤fuel→a.tmps.size=n→a.defers=[]→
   Bb l m S U r0 w0 H (fun j=>L.getD j false=true) g (cy a) w→wpAny P .any l.toArray (fun e a' w'=>a'.tmps.size=n∧a'.defers=[]∧Q e (cy a') w') fuel L a w:=by
  intro fuel
  induction fuel with
  | zero=>
   intro L a w g hL vG hf g1 g2 inv
   have dw:∀ j,j < l.length→L.getD j false=true:=by
    intro j hj
    cases hb:L.getD j false with
    | true=>rfl
    | false=>have:=Iy L j hL.1 hj hb; omega
   have iv:∀ j,L.getD j false=true↔j < m:=fun j=>⟨vG j,fun h=>dw j (by omega)⟩
   refine tail _ m 0 L a w rfl (Nat.le_refl _) Iq hL iv hf g1 g2 (next g _ _ ?_)
   exact ⟨inv.jh,fun hk=>inv.Cm fun k yz=>hk k ((iv k).1 yz),inv.vg,fun j hj=>inv.vd j ((iv j).2 hj),fun j hj hk=>inv.done j ((iv j).2 hj) (fun k yz=>hk k ((iv k).1 yz)),fun j hj=>inv.uI j ((iv j).2 hj),inv.other,fun j hj b hb=>⟨(inv.fresh j ((iv j).2 hj) b hb).1.imp (fun h=>h) fun h=>⟨h.1,h.2.imp fun k hk=>⟨(iv k).1 hk.1,hk.2⟩⟩,(inv.fresh j ((iv j).2 hj) b hb).2⟩,fun i j hi hj=>inv.xL i j ((iv i).2 hi) ((iv j).2 hj)⟩
  | succ fuel ih=>
   intro L a w g hL vG hf g1 g2 inv
   by_cases dw:∀ j,j < m→L.getD j false=true
   ·have iv:∀ j,L.getD j false=true↔j < m:=fun j=>⟨vG j,dw j⟩
    refine tail _ m _ L a w rfl (Nat.le_refl _) Iq hL iv hf g1 g2 (next g _ _ ?_)
    exact ⟨inv.jh,fun hk=>inv.Cm fun k yz=>hk k ((iv k).1 yz),inv.vg,fun j hj=>inv.vd j ((iv j).2 hj),fun j hj hk=>inv.done j ((iv j).2 hj) (fun k yz=>hk k ((iv k).1 yz)),fun j hj=>inv.uI j ((iv j).2 hj),inv.other,fun j hj b hb=>⟨(inv.fresh j ((iv j).2 hj) b hb).1.imp (fun h=>h) fun h=>⟨h.1,h.2.imp fun k hk=>⟨(iv k).1 hk.1,hk.2⟩⟩,(inv.fresh j ((iv j).2 hj) b hb).2⟩,fun i j hi hj=>inv.xL i j ((iv i).2 hi) ((iv j).2 hj)⟩
   ·obtain ⟨j0,SU,GB⟩ : ∃ j,j < m∧L.getD j false=false:=by
     apply Classical.byContradiction
     intro tA
     apply dw
     intro j hj
     cases hb:L.getD j false with
     | true=>rfl
     | false=>exact absurd ⟨j,hj,hb⟩ tA
    have Mg:∃ i,i∈Region.ready .any l.toArray L:=by
     have:∀ k,(∃ j,j < k∧j < m∧L.getD j false=false)→∃ i,i∈Region.ready .any l.toArray L:=by
      intro k
      induction k with
      | zero=>rintro ⟨j,h,_⟩; omega
      | succ k Ep=>
       rintro ⟨j,NY,Cn,tB⟩
       by_cases tu:∃ j,j < k∧j < m∧L.getD j false=false
       ·exact Ep tu
       ·obtain rfl:j=k:=by
         apply Classical.byContradiction
         intro h
         exact tu ⟨j,by omega,Cn,tB⟩
        have Co:j < l.length:=by omega
        refine ⟨j,ED L j l[j] hL.1 (List.getElem?_eq_getElem Co) tB fun e he=>?_⟩
        have bn:=xZ j _ (List.getElem?_eq_getElem Co) e he
        cases hb:L.getD e.on false with
        | true=>rfl
        | false=>exact absurd ⟨e.on,bn,by omega,hb⟩ tu
     exact this (j0+1) ⟨j0,by omega,SU,GB⟩
    have main:∀ i oi,i < m→l[i]? = some oi→L.getD i false=false→(∀ e∈oi.after.toList.filter (Region.binds .any),L.getD e.on false=true)→
      (Region.wanted oi (yl l (cy a))=true∧gf P oi (cy a) w fun v w'=>wpAny P .any l.toArray (fun e a' w'=>a'.tmps.size=n∧a'.defers=[]∧Q e (cy a') w') fuel (L.setIfInBounds i true) (a.put oi.dst v) w')∨
      (Region.wanted oi (yl l (cy a))=false∧wpAny P .any l.toArray (fun e a' w'=>a'.tmps.size=n∧a'.defers=[]∧Q e (cy a') w') fuel (L.setIfInBounds i true) (a.put oi.dst undef) w):=by
     intro i oi vH nw vI vJ
     have fx:i < l.length:=(List.getElem?_eq_some_iff.1 nw).1
     have nq:∀ o,l[i]? = some o→∀ e∈o.after.toList.filter (Region.binds .any),L.getD e.on false=true:=fun o' cq=>by
      have:o'=oi:=Option.some.inj (cq.symm.trans nw)
      subst this; exact vJ
     obtain ⟨s,hs⟩ : ∃ s,S[i]? = some s:=⟨S[i]'(by omega),List.getElem?_eq_getElem (by omega)⟩
     have hc:=Iy L i hL.1 fx vI
     have DC:=Hq L i oi hL nw vJ
     have Cp:∀ j,(L.setIfInBounds i true).getD j false=true→j < m:=by
      intro j hj
      rcases (getSet L i j hL.1 fx).1 hj with rfl | hj
      ·exact vH
      ·exact vG j hj
     have EE:∀ k,L.getD k false=true→k≠i∧i ∉ (cj l).getD k []:=by
      intro k hk
      refine ⟨fun h=>(by rw [h,vI] at hk; cases hk),fun wg=>?_⟩
      have:=js L hL k i (fun o' cq e' vc=>hL.2 k o' cq hk e' vc) wg
      rw [vI] at this; cases this
     have ow:=Qm i vH oi s nw hs g (cy a) w inv.jh (fun hV=>by
       have tA:∀ k,L.getD k false=true→l.length ∉ U.getD k []:=fun k hk Iz=>by
        simp only [A6,List.all_eq_true,List.mem_range,Bool.or_eq_true,Bool.not_eq_true',List.contains_eq_mem,decide_eq_false_iff_not,decide_eq_true_eq] at hV
        rcases hV k (vG k hk) with (h | h) | h
        ·exact h Iz
        ·exact (EE k hk).1 (Nat.eq_of_beq_eq_true h)
        ·exact (EE k hk).2 h
       have h0:=inv.Cm tA
       exact ⟨h0.1,h0.2,fun j hj b hb=>(inv.fresh j (js L hL i j nq hj) b hb).1.elim (fun h=>h) fun h=>absurd h.2.choose_spec.2 (tA _ h.2.choose_spec.1)⟩) (fun j hj=>inv.uI j (js L hL i j nq hj)) (fun j hj=>by
       simp only [vE,Bool.and_eq_true,List.all_eq_true,List.mem_range,Bool.or_eq_true,Bool.not_eq_true',List.contains_eq_mem,decide_eq_false_iff_not,decide_eq_true_eq] at hj
       refine inv.done j (js L hL i j nq hj.1) fun k hk NY=>?_
       rcases hj.2 k (vG k hk) with (h | h) | h
       ·exact h NY
       ·exact (EE k hk).1 (Nat.eq_of_beq_eq_true h)
       ·exact (EE k hk).2 h) inv.other
      (fun i' u5 j' ir=>inv.xL i' j' (js L hL i i' nq u5) (js L hL i j' nq ir))
      (fun j hj b hb=>⟨(inv.fresh j (js L hL i j nq hj) b hb).1.imp (fun h=>h) (·.1),(inv.fresh j (js L hL i j nq hj) b hb).2⟩)
     have hblk:∀ b∈qj g (U.getD i []),(∃ u,u∈U.getD i []∧L.getD u false=true∧b∈g u)∨(l.length∈U.getD i []∧b∈g l.length):=by
      intro b hb
      obtain ⟨u,hu,gq⟩:=List.mem_flatMap.1 hb
      rcases WC i vH u hu with rfl | h
      ·exact .inr ⟨hu,gq⟩
      ·exact .inl ⟨u,hu,js L hL i u nq h,gq⟩
     have GC:∀ k',oi.dst=some k'→k' < a.tmps.size:=by
      intro k' w7
      have wg:oi∈l:=List.mem_of_getElem? nw
      simp only [dj,List.all_eq_true] at hd
      have:=hd oi wg
      rw [w7] at this
      rw [g1]
      exact Nat.lt_of_succ_le (Nat.le_of_ble_eq_true this)
     have Aj:b9 l i=oi.dst:=by unfold b9; rw [nw]; rfl
     have qz:∀ v t,(oi.dst≠some t)→cy (a.put oi.dst v) t=cy a t:=by
      intro v t ht
      rw [l3 GC]
      cases yA:oi.dst with
      | none=>rfl
      | some d=>
       show (bif Nat.beq t d then v else cy a t)=cy a t
       cases hb:Nat.beq t d with
       | false=>rfl
       | true=>exact absurd (by rw [yA,Nat.eq_of_beq_eq_true hb]) ht
     have IB:∀ v d,oi.dst=some d→cy (a.put oi.dst v) d=v:=by
      intro v d yA
      rw [l3 GC,yA]
      show (bif Nat.beq d d then v else cy a d)=v
      rw [Nat.beq_refl]; rfl
     have step:∀ v w' f,aq (qj g (U.getD i [])) w w'→(∀ b∈f,(b∈qj g (U.getD i [])∨w.heap.size≤b)∧b < w'.heap.size)→(if s.b then s.V f w' (cy a) v else v=undef)→
       wpAny P .any l.toArray (fun e a' w'=>a'.tmps.size=n∧a'.defers=[]∧Q e (cy a') w') fuel (L.setIfInBounds i true) (a.put oi.dst v) w':=by
      intro v w' f hC vF hV
      have uh:∀ j',j' < m→j'≠i→∀ t,b9 l j'=some t→cy (a.put oi.dst v) t=cy a t:=by
       intro j' ir nk t ht
       refine qz v t fun h=>nk (de j' i t ?_ ?_)
       ·rw [ly ir]; exact ht
       ·rw [ly vH,Aj]; exact h
      have NZ:∀ b∈qj g (U.getD i []),¬ N b:=fun b hb hn=>by
       rcases hblk b hb with ⟨u,_,pw,gq⟩ | ⟨_,gq⟩
       ·rcases (inv.fresh u pw b gq).1 with h | h
        ·have:=(hN b hn).1; omega
        ·exact (hN b hn).2 h.1
       ·exact (hN b hn).2 (inv.vg b gq)
      refine ih _ _ _ (fun j=>if j=i then f else if j∈U.getD i [] then [] else g j) DC Cp (by omega) (by rw [kh]; exact g1) (by rw [ib]; exact g2)
       ⟨inv.jh.then hC fun b hb=>(by
        rcases hblk b hb with ⟨u,_,pw,gq⟩ | ⟨_,gq⟩
        ·exact (inv.fresh u pw b gq).1.elim .inr fun h=>.inl h.1
        ·exact .inl (inv.vg b gq)),fun tA=>?_,?_,fun j hj=>?_,?_,fun j hj d vK sj ta=>?_,?_,?_,?_⟩
      ·have yw:l.length ∉ U.getD i []:=tA i ((getSet L i i hL.1 fx).2 (.inl rfl))
       have h0:=inv.Cm fun k hk=>tA k ((getSet L i k hL.1 fx).2 (.inr hk))
       refine ⟨h0.1.then hC fun b hb=>?_,?_⟩
       ·rcases hblk b hb with ⟨u,_,pw,gq⟩ | ⟨h,_⟩
        ·exact (inv.fresh u pw b gq).1.elim .inr fun ⟨_,k,hk,Iz⟩=>absurd Iz (tA k ((getSet L i k hL.1 fx).2 (.inr hk)))
        ·exact absurd h yw
       ·show (if l.length=i then f else if l.length∈U.getD i [] then [] else g l.length)=H
        rw [if_neg (by omega),if_neg yw]
        exact h0.2
      ·intro b hb
       have dc:b∈(if l.length=i then f else if l.length∈U.getD i [] then [] else g l.length):=hb
       rw [if_neg (by omega)] at dc
       split at dc
       ·cases dc
       ·exact inv.vg b dc
      ·intro b hb hv
       have o4:b∈(if l.length=i then f else if l.length∈U.getD i [] then [] else g l.length):=hv
       rw [if_neg (by omega)] at o4
       split at o4
       ·cases o4
       ·rename_i WE
        have dc:b∈(if j=i then f else if j∈U.getD i [] then [] else g j):=hb
        split at dc
        ·rcases (vF b dc).1 with h | h
         ·rcases hblk b h with ⟨u,_,pw,gq⟩ | ⟨h,_⟩
          ·exact inv.vd u pw b gq o4
          ·exact WE h
         ·have h1:=hH b (inv.vg b o4)
          have h2:=inv.jh.size
          omega
        ·rename_i l5
         split at dc
         ·cases dc
         ·exact inv.vd j (((getSet L i j hL.1 fx).1 hj).resolve_left l5) b dc o4
      ·intro j hj Ak
       refine ⟨fun d vK=>?_,fun WG sj ta N0=>?_⟩
       rotate_left
       ·by_cases l5:j=i
        ·subst l5
         rw [hs] at ta
         cases ta
         rw [if_pos N0] at hV
         refine ⟨v,?_⟩
         simp only [if_pos]
         exact sb j s hs _ [] w' w' (cy a) _ v (aq.refl _ _) (fun _ _ h=>nomatch h) (fun _ h=>nomatch h) (fun j' ir t ht=>uh j' (by have:=(rq j j' ir).1; omega) (by have:=(rq j j' ir).1; omega) t ht) hV
        ·have nr:=((getSet L i j hL.1 fx).1 hj).resolve_left l5
         have tB:j ∉ U.getD i []:=Ak i ((getSet L i i hL.1 fx).2 (.inl rfl))
         obtain ⟨x,hx⟩:=(inv.done j nr (fun k hk=>Ak k ((getSet L i k hL.1 fx).2 (.inr hk)))).2 WG sj ta N0
         have jj:(fun j=>if j=i then f else if j∈U.getD i [] then [] else g j) j=g j:=by
          show (if j=i then f else if j∈U.getD i [] then [] else g j)=g j
          rw [if_neg l5,if_neg tB]
         rw [jj]
         refine ⟨x,sb j sj ta _ _ _ _ (cy a) _ _ hC (fun b dc IC=>?_) NZ (fun j' ir t ht=>uh j' (by have:=(rq j j' ir).1; have:=vG j nr; omega) (fun h=>?_) t ht) hx⟩
         ·rcases hblk b IC with ⟨u,Cq,pw,gq⟩ | ⟨_,gq⟩
          ·exact inv.xL j u nr pw (fun h=>tB (h ▸ Cq)) b dc gq
          ·exact inv.vd j nr b dc gq
         ·subst h
          have:=js L hL j j' (fun o' cq e' vc=>hL.2 j o' cq nr e' vc) ir
          rw [vI] at this; cases this
       by_cases l5:j=i
       ·subst l5
        rw [hs]
        simp only [if_pos]
        rw [Aj] at vK
        rw [IB v d vK]
        split
        ·rename_i hb
         rw [if_pos hb] at hV
         exact sb j s hs _ [] w' w' (cy a) _ v (aq.refl _ _) (fun _ _ h=>nomatch h) (fun _ h=>nomatch h) (fun j' ir t ht=>uh j' (by have:=(rq j j' ir).1; omega) (by have:=(rq j j' ir).1; omega) t ht) hV
        ·rename_i hb
         rw [if_neg hb] at hV
         exact hV
       ·have nr:=((getSet L i j hL.1 fx).1 hj).resolve_left l5
        have Cn:=vG j nr
        have tB:j ∉ U.getD i []:=Ak i ((getSet L i i hL.1 fx).2 (.inl rfl))
        have yA:oi.dst≠some d:=by
         intro h
         apply l5
         refine de j i d ?_ ?_
         ·rw [ly Cn]; exact vK
         ·rw [ly vH,Aj]; exact h
        have:=(inv.done j nr (fun k hk=>Ak k ((getSet L i k hL.1 fx).2 (.inr hk)))).1 d vK
        rw [qz v d yA]
        have jj:(fun j=>if j=i then f else if j∈U.getD i [] then [] else g j) j=g j:=by
         show (if j=i then f else if j∈U.getD i [] then [] else g j)=g j
         rw [if_neg l5,if_neg tB]
        rw [jj]
        cases ta:S[j]? with
        | none=>trivial
        | some sj=>
         rw [ta] at this
         simp only [] at this ⊢
         split
         ·rename_i hb
          rw [if_pos hb] at this
          refine sb j sj ta _ _ _ _ (cy a) _ _ hC (fun b dc IC=>?_) NZ (fun j' ir t ht=>uh j' (by have:=(rq j j' ir).1; omega) (fun h=>?_) t ht) this
          rotate_left
          ·subst h
           have:=js L hL j j' (fun o' cq e' vc=>hL.2 j o' cq nr e' vc) ir
           rw [vI] at this; cases this
          rcases hblk b IC with ⟨u,Cq,pw,gq⟩ | ⟨_,gq⟩
          ·exact inv.xL j u nr pw (fun h=>tB (h ▸ Cq)) b dc gq
          ·exact inv.vd j nr b dc gq
         ·rename_i hb
          rw [if_neg hb] at this
          exact this
      ·by_cases l5:j=i
       ·subst l5
        rw [hs] at ta
        cases ta
        rw [Aj] at vK
        rw [IB v d vK]
        split
        ·rename_i hb
         rw [if_pos hb] at hV
         exact ⟨f,w',sb j s hs _ [] w' w' (cy a) _ v (aq.refl _ _) (fun _ _ h=>nomatch h) (fun _ h=>nomatch h) (fun j' ir t ht=>uh j' (by have:=(rq j j' ir).1; omega) (by have:=(rq j j' ir).1; omega) t ht) hV⟩
        ·rename_i hb
         rw [if_neg hb] at hV
         exact hV
       ·have nr:=((getSet L i j hL.1 fx).1 hj).resolve_left l5
        have Cn:=vG j nr
        have yA:oi.dst≠some d:=by
         intro h
         apply l5
         refine de j i d ?_ ?_
         ·rw [ly Cn]; exact vK
         ·rw [ly vH,Aj]; exact h
        have:=inv.uI j nr d vK sj ta
        rw [qz v d yA]
        split
        ·rename_i hb
         rw [if_pos hb] at this
         obtain ⟨f1,w1,h1⟩:=this
         refine ⟨f1,w1,sb j sj ta _ [] w1 w1 (cy a) _ _ (aq.refl _ _) (fun _ _ h=>nomatch h) (fun _ h=>nomatch h) (fun j' ir t ht=>uh j' (by have:=(rq j j' ir).1; omega) (fun h=>?_) t ht) h1⟩
         subst h
         have:=js L hL j j' (fun o' cq e' vc=>hL.2 j o' cq nr e' vc) ir
         rw [vI] at this; cases this
        ·rename_i hb
         rw [if_neg hb] at this
         exact this
      ·intro t ht
       rw [qz v t (fun h=>ht i vH (by rw [Aj]; exact h))]
       exact inv.other t ht
      ·intro j hj b hb
       by_cases l5:j=i
       ·simp only [if_pos l5] at hb
        have hh:=vF b hb
        have uH:=inv.jh.size
        rcases hh.1 with h | h
        ·rcases hblk b h with ⟨u,_,pw,gq⟩ | ⟨hv,gq⟩
         ·exact ⟨(inv.fresh u pw b gq).1.imp (fun h=>h) fun h=>⟨h.1,h.2.imp fun k hk=>⟨(getSet L i k hL.1 fx).2 (.inr hk.1),hk.2⟩⟩,hh.2⟩
         ·exact ⟨.inr ⟨inv.vg b gq,i,(getSet L i i hL.1 fx).2 (.inl rfl),hv⟩,hh.2⟩
        ·exact ⟨.inl (by omega),hh.2⟩
       ·have nr:=((getSet L i j hL.1 fx).1 hj).resolve_left l5
        simp only [if_neg l5] at hb
        split at hb
        ·cases hb
        ·have h1:=inv.fresh j nr b hb
         have h2:=hC.size
         exact ⟨h1.1.imp (fun h=>h) fun h=>⟨h.1,h.2.imp fun k hk=>⟨(getSet L i k hL.1 fx).2 (.inr hk.1),hk.2⟩⟩,by omega⟩
      ·have qk:∀ j',(L.setIfInBounds i true).getD j' false=true→j'≠i→∀ b∈f,b ∉ (if j'∈U.getD i [] then [] else g j'):=by
        intro j' ir e2 b hb dc
        have ID:=((getSet L i j' hL.1 fx).1 ir).resolve_left e2
        split at dc
        ·cases dc
        ·rename_i tB
         rcases (vF b hb).1 with h | h
         ·rcases hblk b h with ⟨u,Cq,pw,gq⟩ | ⟨_,gq⟩
          ·exact inv.xL u j' pw ID (fun h=>tB (h ▸ Cq)) b gq dc
          ·exact inv.vd j' ID b dc gq
         ·have:=inv.fresh j' ID b dc
          omega
       intro i' j' u5 ir nk b hb dc
       by_cases e1:i'=i
       ·have e2:j'≠i:=fun h=>nk (e1.trans h.symm)
        simp only [if_pos e1] at hb
        simp only [if_neg e2] at dc
        exact qk j' ir e2 b hb dc
       ·simp only [if_neg e1] at hb
        by_cases e2:j'=i
        ·simp only [if_pos e2] at dc
         exact qk i' u5 e1 b dc hb
        ·simp only [if_neg e2] at dc
         split at hb
         ·cases hb
         ·split at dc
          ·cases dc
          ·exact inv.xL i' j' (((getSet L i i' hL.1 fx).1 u5).resolve_left e1) (((getSet L i j' hL.1 fx).1 ir).resolve_left e2) nk b hb dc
     cases hb:s.b with
     | true=>
      rw [if_pos hb] at ow
      refine .inl ⟨ow.1,rn ow.2 ?_⟩
      rintro v w' ⟨hC,f,vF,hV⟩
      exact step v w' f hC vF (by rw [if_pos hb]; exact hV)
     | false=>
      rw [if_neg (by rw [hb]; exact Bool.false_ne_true)] at ow
      exact .inr ⟨ow,step undef w [] (aq.refl _ _) (fun b h=>nomatch h) (by rw [if_neg (by rw [hb]; exact Bool.false_ne_true)])⟩
    by_cases Te:∃ z,z∈Z∧L.getD z false=false∧∀ o,l[z]? = some o→∀ e∈o.after.toList.filter (Region.binds .any),L.getD e.on false=true
    ·obtain ⟨z,hz,Xj,hze⟩:=Te
     obtain ⟨⟨hzm,hzf⟩,Ow⟩:=hZ z hz
     cases GR:l[z]? with
     | none=>rw [GR] at Ow; cases Ow
     | some oz=>
      rw [GR] at Ow
      simp only [Bool.and_eq_true] at Ow
      obtain ⟨hmv,GQ⟩:=Ow
      have QF:=hze oz GR
      have Tf:Region.free .any l.toArray L z=true:=Ov (fun j hj=>js L hL z j (fun o' cq=>hze o' cq) hj) hzf
      have hrz:z∈Region.ready .any l.toArray L:=ED L z oz hL.1 GR Xj QF
      obtain ⟨dz,opz,tyz,pz,az,gz⟩:=oz
      cases opz <;> first | exact (Bool.false_ne_true hmv).elim | skip
      case move x=>
       cases gz with
       | some _=>simp at GQ
       | none=>
        have hev:∀ w',(execOp a.eval ⟨dz,.move x,tyz,pz,az,none⟩).run P w' = .ok (.value (a.eval x)) w':=fun _=>rfl
        refine wpAny_take (by simpa using GR) SS Tf (by simpa using hrz) (fun c a w h=>absurd h.2.2 (hp _ _ _)) (v:=a.eval x) (.inl ⟨rfl,hev⟩) ?_
        rcases main z _ (Xh z hz) GR Xj QF with ⟨_,h⟩ | ⟨h,_⟩
        ·rw [sx]; exact h
        ·exact absurd h (by simp [Region.wanted])
      case extract x k=>
       cases gz with
       | some _=>simp at GQ
       | none=>
        rcases main z _ (Xh z hz) GR Xj QF with ⟨_,h⟩ | ⟨h,_⟩
        ·obtain ⟨v,hv,hk⟩:=Kd h
         refine wpAny_take (by simpa using GR) SS Tf (by simpa using hrz) (fun c a w h=>absurd h.2.2 (hp _ _ _)) (v:=v) (.inl ⟨rfl,fun w'=>by rw [sx]; exact hv w'⟩) ?_
         exact hk
        ·exact absurd h (by simp [Region.wanted])
    refine ⟨fun h=>(by obtain ⟨i,hi⟩:=Mg; rw [h] at hi; cases hi),fun i hi=>?_⟩
    obtain ⟨q1,oi,nw,vJ⟩:=nm L i hi
    have fx:i < l.length:=(List.getElem?_eq_some_iff.1 nw).1
    have vI:L.getD i false=false:=getD_both q1
    have vH:i < m:=by
     rcases Nat.lt_or_ge i m with h | h
     ·exact h
     ·have bad:∀ j,j < i→L.getD j false=false→False:=by
       intro j
       induction j using Nat.strongRecOn with
       | _ j ih=>
        intro l5 tB
        rcases FR i h fx j l5 with hj | hj
        ·have:=js L hL i j (fun o' cq=>by have:o'=oi:=Option.some.inj (cq.symm.trans nw); subst this; exact vJ) hj
         rw [tB] at this; cases this
        ·refine Te ⟨j,hj,tB,fun o ho e he=>?_⟩
         cases hb:L.getD e.on false with
         | true=>rfl
         | false=>have bn:=xZ j o ho e he; exact (ih e.on bn (by omega) hb).elim
      exact (bad j0 (by omega) GB).elim
    unfold wpOp
    rw [show (l.toArray)[i]? = some oi by simpa using nw]
    simp only []
    rw [Bc (by rw [g1]; exact hd)]
    rcases main i oi vH nw vI vJ with ⟨hw,h⟩ | ⟨hw,h⟩
    ·rw [if_pos hw]
     exact .inl (h.wp fun v w' hv=>hv)
    ·rw [if_neg (by rw [hw]; exact Bool.false_ne_true)]
     exact h
 refine head _ _ a _ (fun j=>if j=l.length then H else []) ⟨by simp,?_⟩ ?_ ?_ h1 h2 ⟨aq.nil (aq.drew _ _),fun _=>⟨aq.drew _ _,by simp⟩,fun b hb=>by simpa using hb,?_,?_,?_,?_,?_,?_⟩
 ·intro j o ho hj
  rw [getD_replicate_false] at hj; cases hj
 ·intro j hj
  rw [getD_replicate_false] at hj; cases hj
 ·simp
 ·intro j hj
  rw [getD_replicate_false] at hj; cases hj
 ·intro j hj
  rw [getD_replicate_false] at hj; cases hj
 ·intro j hj
  rw [getD_replicate_false] at hj; cases hj
 ·intro t _
  rw [h3]
 ·intro j hj
  rw [getD_replicate_false] at hj; cases hj
 ·intro i j hi
  rw [getD_replicate_false] at hi; cases hi
theorem lr.val {m i:Nat} {U:LL} {H:LN} {o:Oper} {v:Value} (ho:l[i]? = some o) (hs:S[i]? = some ⟨true,pl fun _ _ u=>u=v⟩) (hg:o.guard=none)
  (h:∀ (g:Nat→List Nat) (r:NV) (w:World),aq H w0 w→(∀ j∈(cj l).getD i [],Old l S j r)→(∀ j,vE l U m i j=true→yu l S j g r w)→(∀ t,(∀ j,j < m→b9 l j≠some t)→r t=r0 t)→
   (execOp (ev r) o).run P w = .ok (.value v) w):lr P l m S U r0 w0 H i:=by
 intro o' s' cq e7 g r w hC hV hO hd lu yx qz
 obtain rfl:o=o':=Option.some.inj (ho.symm.trans cq)
 obtain rfl:_=s':=Option.some.inj (hs.symm.trans e7)
 rw [if_pos rfl]
 refine ⟨by unfold Region.wanted; rw [hg],?_⟩
 unfold gf
 rw [h g r w hC hO hd lu]
 exact ⟨aq.refl _ _,[],(fun _ h=>nomatch h),rfl⟩
theorem lr.call {m i:Nat} {U:LL} {H:LN} {o:Oper} {v:Value} {f:FuncId} (ho:l[i]? = some o) (hs:S[i]? = some ⟨true,pl fun _ _ u=>u=v⟩) (hg:o.guard=none)
  (h:∀ (g:Nat→List Nat) (r:NV) (w:World),aq H w0 w→(∀ j∈(cj l).getD i [],Old l S j r)→(∀ j,vE l U m i j=true→yu l S j g r w)→(∀ t,(∀ j,j < m→b9 l j≠some t)→r t=r0 t)→
   ∃ args,(execOp (ev r) o).run P w = .ok (.enter f args) w∧Calls P f args w fun e w'=>e = .returned v∧aq [] w w'):lr P l m S U r0 w0 H i:=by
 intro o' s' cq e7 g r w hC hV hO hd lu yx qz
 obtain rfl:o=o':=Option.some.inj (ho.symm.trans cq)
 obtain rfl:_=s':=Option.some.inj (hs.symm.trans e7)
 rw [if_pos rfl]
 refine ⟨by unfold Region.wanted; rw [hg],?_⟩
 unfold gf
 obtain ⟨args,h1,h2⟩:=h g r w hC hO hd lu
 rw [h1]
 exact h2.mono fun e w' ⟨he,hc⟩=>⟨v,he,hc.nil,[],(fun _ h=>nomatch h),rfl⟩
theorem lr.mem {m i:Nat} {U:LL} {H:LN} {o:Oper} {V:List Nat→World→Value→Prop} (ho:l[i]? = some o) (hs:S[i]? = some ⟨true,pl V⟩) (hg:o.guard=none)
  (h:∀ (g:Nat→List Nat) (r:NV) (w:World),aq H w0 w→(∀ j∈(cj l).getD i [],Old l S j r)→(∀ j,vE l U m i j=true→yu l S j g r w)→(∀ t,(∀ j,j < m→b9 l j≠some t)→r t=r0 t)→
   gf P o r w fun v w'=>aq [] w w'∧∃ f,(∀ b∈f,w.heap.size≤b∧b < w'.heap.size)∧V f w' v):lr P l m S U r0 w0 H i:=by
 intro o' s' cq e7 g r w hC hV hO hd lu yx qz
 obtain rfl:o=o':=Option.some.inj (ho.symm.trans cq)
 obtain rfl:_=s':=Option.some.inj (hs.symm.trans e7)
 rw [if_pos rfl]
 refine ⟨by unfold Region.wanted; rw [hg],rn (h g r w hC hO hd lu) ?_⟩
 rintro v w' ⟨hC,f,hf,hV⟩
 exact ⟨hC.nil,f,fun b hb=>⟨.inr (hf b hb).1,(hf b hb).2⟩,hV⟩
theorem lr.Qb {m i:Nat} {U:LL} {H:LN} {o:Oper} {V:List Nat→World→(Nat→Value)→Value→Prop} (ho:l[i]? = some o) (hs:S[i]? = some ⟨true,V⟩) (hg:o.guard=none)
  (h:∀ (g:Nat→List Nat) (r:NV) (w:World),aq H w0 w→(∀ j∈(cj l).getD i [],Old l S j r)→(∀ j,vE l U m i j=true→yu l S j g r w)→(∀ t,(∀ j,j < m→b9 l j≠some t)→r t=r0 t)→
   gf P o r w fun v w'=>aq [] w w'∧∃ f,(∀ b∈f,w.heap.size≤b∧b < w'.heap.size)∧V f w' r v):lr P l m S U r0 w0 H i:=by
 intro o' s' cq e7 g r w hC hV hO hd lu yx qz
 obtain rfl:o=o':=Option.some.inj (ho.symm.trans cq)
 obtain rfl:_=s':=Option.some.inj (hs.symm.trans e7)
 rw [if_pos rfl]
 refine ⟨by unfold Region.wanted; rw [hg],rn (h g r w hC hO hd lu) ?_⟩
 rintro v w' ⟨hC,f,hf,hV⟩
 exact ⟨hC.nil,f,fun b hb=>⟨.inr (hf b hb).1,(hf b hb).2⟩,hV⟩
def FM {α:Type} (T:ah α) (x:α):List Nat→World→Value→Prop:=fun f w v=>T.rep w.heap [v] x f∧f.Nodup
def acI (cs:LV) (e:TI) (n:Nat):List Nat→World→Value→Prop:=fun f w v=>∃ b,f=[b]∧v = .slice (some ⟨b,0,none⟩) n n∧Row w b cs e
def H9 (a:LN) (l:LO) (s:ik):Prop:=∀ f F (w w':World) (r r':NV) v,aq F w w'→(∀ b∈f,b ∉ F)→(∀ j∈a,∀ t,b9 l j=some t→r' t=r t)→s.V f w r v→s.V f w' r' v
theorem Ox {a:LN} {b:Bool} {V:List Nat→World→Value→Prop} (h:∀ f F (w w':World) v,aq F w w'→(∀ b∈f,b ∉ F)→V f w v→V f w' v):H9 a l ⟨b,pl V⟩:=
 fun f F w w' _ _ v hC hn _ hv=>h f F w w' v hC hn hv
theorem LY {a:LN} {b:Bool} {u:Value}:H9 a l ⟨b,pl fun _ _ v=>v=u⟩:=Ox fun _ _ _ _ _ _ _ h=>h
theorem gf.own {α:Type} {T:ah α} {x:α} {o:Oper} {r:NV} {w:World} {f:FuncId} {args:Array Value} (h:(execOp (ev r) o).run P w = .ok (.enter f args) w)
  (hc:Calls P f args w fun e w'=>∃ (v:Value) (k:LN),e = .returned v∧aq [] w w'∧OE [] w.heap.size w' T [v] x k) :
  gf P o r w fun v w'=>aq [] w w'∧∃ f,(∀ b∈f,w.heap.size≤b∧b < w'.heap.size)∧FM T x f w' v:=by
 unfold gf
 rw [h]
 exact hc.mono fun e w' ⟨v,k,he,hC,ho⟩=>⟨v,he,hC,k,fun b hb=>⟨ho.fresh b hb,T.lt ho.1 b hb⟩,ho.1,ho.2.1⟩
theorem gf.made {α:Type} {T:ah α} {x:α} {o:Oper} {r:NV} {w:World} (h:∃ v w' f,(execOp (ev r) o).run P w = .ok (.value v) w'∧aq [] w w'∧OE [] w.heap.size w' T [v] x f) :
  gf P o r w fun v w'=>aq [] w w'∧∃ f,(∀ b∈f,w.heap.size≤b∧b < w'.heap.size)∧FM T x f w' v:=by
 obtain ⟨v,w',f,hr,hC,ho⟩:=h
 unfold gf
 rw [hr]
 exact ⟨hC,f,fun b hb=>⟨ho.fresh b hb,T.lt ho.1 b hb⟩,ho.1,ho.2.1⟩
theorem w9 {f g:LN} (h1:f.Nodup) (h2:g.Nodup) (d:s8 f g):(f++g).Nodup:=List.nodup_append.2 ⟨h1,h2,fun a ha _ hb mw=>d a ha (mw ▸ hb)⟩
theorem gf.wC {α:Type} {E:ah α} {F f:LN} {t e et:TI} {s x:OO} {i:TypeInfo} {z:Value} {sv u:Value} {xs:List α} {y:α} {b:Nat} {r:NV} {w:World} {d:Option Nat} {ty:TI} {pos:String} {af:Array Edge}
  (ht:P.underlying t=some (.slice e)) (hi:P.info? e=some i) (hz:i.zero=some z) (hs:i.size=1) (hE:E.size=1) (Af:z.oneCell'=true)
  (w8:ev r s=sv) (hO:FM (aJ e E) xs f w sv) (hF:∀ b∈f,b∈F) (hx:ev r x = .slice (some ⟨b,0,none⟩) 1 1) (bm:Row w b [u] et) (hy:E.rep w.heap [u] y [])
  (hb:(xs.length+1) * i.bytes≤140737488355328) (zq:xs.length+1≤maxLen) :
  gf P ⟨d,.call ⟨.builtin .append,#[s,x],#[t,t]⟩,ty,pos,af,none⟩ r w fun v w'=>aq F w w'∧∃ f',(∀ b∈f',(b∈F∨w.heap.size≤b)∧b < w'.heap.size)∧FM (aJ e E) (xs++[y]) f' w' v:=by
 obtain ⟨v,w',f',h,hC,ez,df,de⟩:=q9 (d:=d) (ty:=ty) (pos:=pos) (af:=af) (g:=none) (ys:=[y]) ht hi hz (by rw [hs,hE]) (by rw [cells_one Af,hE]; rfl) w8 hO.1 hO.2 hx bm.at (tj hy) (fun _ h=>nomatch h) (by simp) hb zq
 unfold gf
 rw [h]
 refine ⟨hC.mono hF,f',fun b hb=>⟨?_,ah.lt _ ez b hb⟩,ez,de List.nodup_nil⟩
 rcases df b hb with h | h | h
 ·exact .inl (hF b h)
 ·cases h
 ·exact .inr h
theorem gf.FC {t e:TI} {i:TypeInfo} {z u:Value} {x:OO} {r:NV} {w:World} {d:Option Nat} {ty:TI} {pos:String} {af:Array Edge} (ht:P.underlying t=some (.slice e)) (hi:P.info? e=some i) (hz:i.zero=some z)
  (hs:i.size=1) (hx:ev r x=u) (hv:u.oneCell'=true) :
  gf P ⟨d,.buildSlice t 1 #[(0,x)],ty,pos,af,none⟩ r w fun v w'=>aq [] w w'∧∃ f,(∀ b∈f,w.heap.size≤b∧b < w'.heap.size)∧acI [u] e 1 f w' v:=by
 unfold gf
 rw [K1 ht hi hz hs (by rw [hx]; exact hv),hx]
 exact ⟨aq.alloc _ _ _,[w.heap.size],fun b hb=>by rw [List.mem_singleton.1 hb]; simp,w.heap.size,rfl,rfl,heap_alloc_new w _⟩
end
end Go.Li
