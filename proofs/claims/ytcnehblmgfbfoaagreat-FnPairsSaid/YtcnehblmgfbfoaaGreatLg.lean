/- A region that draws its order, whatever it holds: its head in any order, its tail one behind the other. No condition. -/
import Derived.Test.YtcnehblmgfbfoaaGreatLf
import Derived.Still
namespace Go.Li
open Go
def kv (acc:LL) (o:Oper):List (List Nat):=
 acc++[(o.after.toList.filter (Region.binds .any)).flatMap fun e=>e.on :: acc.getD e.on []]
def bu (l:LO):List (List Nat):=l.foldl kv []
structure fk where
 b:Bool
 V:List Nat→World→(Nat→Value)→Value→Prop
abbrev pl (V:List Nat→World→Value→Prop):List Nat→World→(Nat→Value)→Value→Prop:=fun f w _ v=>V f w v
def l3 (P:Program) (n:Nat) (l:LO) (Q:Exit→(Nat→Value)→World→Prop) (r:NV) (w:World):Prop:=
 ∀ a:Act,a.tmps.size=n→a.defers=[]→b9 a=r→wpAny P .any l.toArray (fun e a' w'=>a'.tmps.size=n∧a'.defers=[]∧Q e (b9 a') w') l.toArray.size (Array.replicate l.toArray.size false) a { w with drawn:=w.drawn+1 }
theorem l3.W {P:Program} {n id:Nat} {l:LO} {Q:Exit→(Nat→Value)→World→Prop} {r:NV} {w:World} (hm:P.follows .mixedOrders=true) (h:l3 P n l Q r w):W P n (.region id l.toArray true) Q r w:=
 fun a h1 h2 h3=>wp_region_any hm (h a h1 h2 h3)
def AT (π:LN) (o:Oper):Oper:=⟨o.dst,o.op,o.type,o.pos,(o.after.toList.map fun e=>⟨π.getD e.on 0,e.ground⟩).toArray,o.guard⟩
def ou (l:LO) (σ π:LN):List Oper:=σ.map fun k=>AT π (l.getD k default)
def Mk (l:LO) (σ π:LN):Bool:=
 Nat.beq σ.length l.length && Nat.beq π.length l.length &&
 ((List.range l.length).all fun i=>Nat.blt (π.getD i 0) l.length && Nat.beq (σ.getD (π.getD i 0) 0) i && Nat.blt (σ.getD i 0) l.length && Nat.beq (π.getD (σ.getD i 0) 0) i) &&
 l.all fun o=>o.guard.isNone && o.after.toList.all fun e=>Nat.blt e.on l.length
theorem Sl {P:Program} {Q:Exit→Act→World→Prop} {π:LN} {o:Oper} {a:Act} {w:World} {K:Act→World→Prop}:(AT π o).wp P a w K Q=o.wp P a w K Q:=by
 cases o; rfl
theorem ML {P:Program} {π:LN} {o:Oper} {a:Act} {w:World}:(AT π o).asks P a w=o.asks P a w:=by
 cases o; rfl
section
variable {P:Program} {l:LO} {σ π:LN} (h:Mk l σ π=true)
include h
theorem Cj:σ.length=l.length∧π.length=l.length∧(∀ i,i < l.length→π.getD i 0 < l.length∧σ.getD (π.getD i 0) 0=i∧σ.getD i 0 < l.length∧π.getD (σ.getD i 0) 0=i)∧∀ o∈l,o.guard=none∧∀ e∈o.after.toList,e.on < l.length:=by
 unfold Mk at h
 simp only [Bool.and_eq_true,List.all_eq_true,List.mem_range] at h
 obtain ⟨⟨⟨h1,h2⟩,h3⟩,h4⟩:=h
 refine ⟨Nat.eq_of_beq_eq_true h1,Nat.eq_of_beq_eq_true h2,fun i hi=>?_,fun o ho=>?_⟩
 ·obtain ⟨⟨⟨a,b⟩,c⟩,d⟩:=h3 i hi
  exact ⟨Nat.lt_of_succ_le (Nat.le_of_ble_eq_true a),Nat.eq_of_beq_eq_true b,Nat.lt_of_succ_le (Nat.le_of_ble_eq_true c),Nat.eq_of_beq_eq_true d⟩
 ·obtain ⟨a,b⟩:=h4 o ho
  exact ⟨by simpa using a,fun e he=>Nat.lt_of_succ_le (Nat.le_of_ble_eq_true (b e he))⟩
theorem HP:(ou l σ π).length=l.length:=by unfold ou; rw [List.length_map]; exact (Cj h).1
theorem HQ {i:Nat} {o:Oper} (ho:l[i]? = some o):(ou l σ π)[π.getD i 0]? = some (AT π o):=by
 obtain ⟨h1,_,h3,_⟩:=Cj h
 have hi:=(List.getElem?_eq_some_iff.1 ho).1
 obtain ⟨a,b,_,_⟩:=h3 i hi
 unfold ou
 rw [List.getElem?_map,List.getElem?_eq_getElem (by omega)]
 have e:σ[π.getD i 0]'(by omega)=i:=by
  rw [List.getD_eq_getElem?_getD,List.getElem?_eq_getElem (by omega)] at b
  simpa using b
 simp only [Option.map_some,Option.some.injEq]
 rw [e,List.getD_eq_getElem?_getD,ho]; rfl
theorem KK {Q:Exit→Act→World→Prop}:∀ (fuel:Nat) (L L':Array Bool) (a:Act) (w:World),L.size=l.length→L'.size=l.length→(∀ i,i < l.length→L'.getD (π.getD i 0) true=L.getD i true)→
  wpAny P .any (ou l σ π).toArray Q fuel L' a w→wpAny P .any l.toArray Q fuel L a w:=by
 obtain ⟨h1,h2,h3,h4⟩:=Cj h
 have gd:∀ {L:Array Bool} {i:Nat} (b:Bool),L.size=l.length→i < l.length→L.getD i b=L.getD i true:=fun {L i} b hs hi=>by
  have:i < L.size:=by omega
  simp [Array.getD,this]
 have wu:∀ (L L':Array Bool),L.size=l.length→L'.size=l.length→(∀ i,i < l.length→L'.getD (π.getD i 0) true=L.getD i true)→∀ i,i < l.length→(i∈Region.ready .any l.toArray L↔π.getD i 0∈Region.ready .any (ou l σ π).toArray L'):=by
  intro L L' hs di hL i hi
  rw [mem_ready,mem_ready,hL i hi]
  have ho:l[i]? = some (l[i]'hi):=List.getElem?_eq_getElem hi
  have br:=HQ h ho
  have hg:=h4 _ (List.mem_of_getElem? ho)
  constructor
  ·rintro ⟨g1,o,g2,g3⟩
   refine ⟨g1,AT π l[i],by simpa using br,fun e he hb=>?_⟩
   have eo:l[i]=o:=by simpa [ho] using g2
   simp only [AT,List.mem_toArray,List.mem_map] at he
   obtain ⟨e0,Wq,rfl⟩:=he
   have bc:=hg.2 e0 Wq
   have:=g3 e0 (by rw [← eo]; simpa using Wq) hb
   rw [gd false di (h3 _ bc).1,hL _ bc,← gd false hs bc]; exact this
  ·rintro ⟨g1,o,g2,g3⟩
   refine ⟨g1,l[i],by simp,fun e he hb=>?_⟩
   have eo:AT π l[i]=o:=by
    have:(ou l σ π)[π.getD i 0]? = some o:=by simpa using g2
    rw [br] at this
    exact Option.some.inj this
   have bc:=hg.2 e (by simpa using he)
   have:=g3 ⟨π.getD e.on 0,e.ground⟩ (by rw [← eo]; simp only [AT,List.mem_toArray,List.mem_map]; exact ⟨e,by simpa using he,rfl⟩) hb
   rw [gd false di (h3 _ bc).1,hL _ bc,← gd false hs bc] at this; exact this
 have back:∀ (L L':Array Bool),L.size=l.length→L'.size=l.length→(∀ i,i < l.length→L'.getD (π.getD i 0) true=L.getD i true)→Region.ready .any l.toArray L=[]→Region.ready .any (ou l σ π).toArray L'=[]:=by
  intro L L' hs di hL he
  rw [List.eq_nil_iff_forall_not_mem]
  intro k hk
  have BQ:k < l.length:=by
   obtain ⟨_,o,g2,_⟩:=mem_ready.1 hk
   have:(ou l σ π)[k]? = some o:=by simpa using g2
   have:=(List.getElem?_eq_some_iff.1 this).1
   rwa [HP h] at this
  obtain ⟨_,_,c,d⟩:=h3 k BQ
  have:=(wu L L' hs di hL (σ.getD k 0) c).2 (by rw [d]; exact hk)
  rw [he] at this
  exact nomatch this
 intro fuel
 induction fuel with
 | zero=>
  intro L L' a w hs di hL hh
  refine ⟨?_,hh.2⟩
  rw [List.eq_nil_iff_forall_not_mem]
  intro i hi
  have qL:i < l.length:=by
   obtain ⟨_,o,g2,_⟩:=mem_ready.1 hi
   have:l[i]? = some o:=by simpa using g2
   exact (List.getElem?_eq_some_iff.1 this).1
  have:=(wu L L' hs di hL i qL).1 hi
  rw [hh.1] at this
  exact nomatch this
 | succ fuel ih=>
  intro L L' a w hs di hL hh
  refine ⟨fun he=>hh.1 (back L L' hs di hL he),fun i hi=>?_⟩
  have qL:i < l.length:=by
   obtain ⟨_,o,g2,_⟩:=mem_ready.1 hi
   have:l[i]? = some o:=by simpa using g2
   exact (List.getElem?_eq_some_iff.1 this).1
  have ho:l[i]? = some (l[i]'qL):=List.getElem?_eq_getElem qL
  have hg:=h4 _ (List.mem_of_getElem? ho)
  have KL:=hh.2 _ ((wu L L' hs di hL i qL).1 hi)
  have next:∀ a w,wpAny P .any (ou l σ π).toArray Q fuel (L'.setIfInBounds (π.getD i 0) true) a w→wpAny P .any l.toArray Q fuel (L.setIfInBounds i true) a w:=fun a w=>ih _ _ a w (by simpa using hs) (by simpa using di) fun j hj=>by
   have hpj:=(h3 j hj).1
   have hpi:=(h3 i qL).1
   by_cases e:i=j
   ·subst e
    rw [Array.getD_eq_getD_getElem?,Array.getD_eq_getD_getElem?,Array.getElem?_setIfInBounds_self_of_lt (by omega),Array.getElem?_setIfInBounds_self_of_lt (by omega)]
   ·have e':π.getD i 0≠π.getD j 0:=fun q=>e (by rw [← (h3 i qL).2.1,q,(h3 j hj).2.1])
    have h5:=hL j hj
    have q1:(L'.setIfInBounds (π.getD i 0) true).getD (π.getD j 0) true=L'.getD (π.getD j 0) true:=by
     rw [Array.getD_eq_getD_getElem?,Array.getD_eq_getD_getElem?,Array.getElem?_setIfInBounds_ne e']
    have q2:(L.setIfInBounds i true).getD j true=L.getD j true:=by
     rw [Array.getD_eq_getD_getElem?,Array.getD_eq_getD_getElem?,Array.getElem?_setIfInBounds_ne e]
    rw [q1,q2,h5]
  have ga:(l.toArray)[i]? = some (l[i]'qL):=by simp
  have gb:((ou l σ π).toArray)[π.getD i 0]? = some (AT π (l[i]'qL)):=by simpa using HQ h ho
  unfold wpOp at KL ⊢
  rw [gb] at KL
  rw [ga]
  have w1:Region.wanted (l[i]'qL) (yielded l.toArray a.tmps)=true:=by unfold Region.wanted; rw [hg.1]
  have w2:Region.wanted (AT π (l[i]'qL)) (yielded (ou l σ π).toArray a.tmps)=true:=by unfold Region.wanted; show (match (l[i]'qL).guard with | none=>true | some (j,want)=>_)=true; rw [hg.1]
  simp only [w2,if_true] at KL
  simp only [w1,if_true]
  rw [Sl,ML] at KL
  exact KL.imp (fun g=>Oper.wp_mono next g) id
theorem l3.prm {n:Nat} {Q:Exit→(Nat→Value)→World→Prop} {r:NV} {w:World} (hw:l3 P n (ou l σ π) Q r w):l3 P n l Q r w:=by
 have hl:=HP h
 obtain ⟨_,_,h3,_⟩:=Cj h
 intro a a1 a2 a3
 have:=hw a a1 a2 a3
 rw [show (ou l σ π).toArray.size=l.toArray.size by simpa using hl] at this
 refine KK h _ _ _ a _ (by simp) (by simp) (fun i hi=>?_) this
 have hq:=(h3 i hi).1
 rw [List.getD_eq_getElem?_getD] at hq
 simp [Array.getD,hi,hq]
end
section
variable {P:Program} {n:Nat} {Q:Exit→(Nat→Value)→World→Prop} {r0:NV} {w0:World} {l:LO} {S:List fk}
def bh (l:LO) (j:Nat):Option Nat:=(l[j]?).bind (·.dst)
def vh (l:LO) (S:List fk) (j:Nat) (g:Nat→List Nat) (r:NV) (w:World):Prop:=
 (∀ d,bh l j=some d→match S[j]? with
  | some s=>if s.b then s.V (g j) w r (r d) else r d=undef
  | none=>True)∧(bh l j=none→∀ s,S[j]? = some s→s.b=true→∃ x,s.V (g j) w r x)
def Old (l:LO) (S:List fk) (j:Nat) (r:NV):Prop:=∀ d,bh l j=some d→∀ s,S[j]? = some s→if s.b then ∃ f w,s.V f w r (r d) else r d=undef
structure vk (l:LO) (m:Nat) (S:List fk) (U:LL) (r0:NV) (w0:World) (H:LN) (L:Nat→Prop) (g:Nat→List Nat) (r:NV) (w:World):Prop where
 iz:ak H w0 w
 zl:(∀ k,L k→l.length ∉ U.getD k [])→ak [] w0 w∧g l.length=H
 vg:∀ b∈g l.length,b∈H
 vd:∀ j,L j→ql (g j) (g l.length)
 done:∀ j,L j→(∀ k,L k→j ∉ U.getD k [])→vh l S j g r w
 qZ:∀ j,L j→Old l S j r
 other:∀ t,(∀ j,j < m→bh l j≠some t)→r t=r0 t
 fresh:∀ j,L j→∀ b∈g j,(w0.heap.size≤b∨(b∈H∧∃ k,L k∧l.length∈U.getD k []))∧b < w.heap.size
 ur:∀ i j,L i→L j→i≠j→ql (g i) (g j)
def rD (l:LO) (U:LL) (m i j:Nat):Bool:=
 ((bu l).getD i []).contains j && (List.range m).all fun k=>!((U.getD k []).contains j) || Nat.beq k i || ((bu l).getD k []).contains i
def mw (g:Nat→List Nat) (us:LN):List Nat:=us.flatMap g
def xS (l:LO) (U:LL) (m i:Nat):Bool:=(List.range m).all fun k=>!((U.getD k []).contains l.length) || Nat.beq k i || ((bu l).getD k []).contains i
def jx (P:Program) (l:LO) (m:Nat) (S:List fk) (U:LL) (r0:NV) (w0:World) (H:LN) (i:Nat):Prop:=
 ∀ o s,l[i]? = some o→S[i]? = some s→∀ (g:Nat→List Nat) (r:NV) (w:World),ak H w0 w→(xS l U m i=true→ak [] w0 w∧g l.length=H∧∀ j∈(bu l).getD i [],∀ b∈g j,w0.heap.size≤b)→(∀ j∈(bu l).getD i [],Old l S j r)→(∀ j,rD l U m i j=true→vh l S j g r w)→(∀ t,(∀ j,j < m→bh l j≠some t)→r t=r0 t)→
  (∀ i'∈(bu l).getD i [],∀ j'∈(bu l).getD i [],i'≠j'→ql (g i') (g j'))→(∀ j∈(bu l).getD i [],∀ b∈g j,(w0.heap.size≤b∨b∈H)∧b < w.heap.size)→
  if s.b then Region.wanted o (yl l r)=true∧ee P o r w fun v w'=>ak (mw g (U.getD i [])) w w'∧∃ f,(∀ b∈f,(b∈mw g (U.getD i [])∨w.heap.size≤b)∧b < w'.heap.size)∧s.V f w' r v
  else Region.wanted o (yl l r)=false
def zi:List Nat→Bool
 | []=>true
 | x :: l=>!(l.contains x) && zi l
theorem wU:∀ {l:LN},zi l=true→l.Nodup
 | [],_=>List.nodup_nil
 | x :: l,h=>by
  simp only [zi,Bool.and_eq_true,Bool.not_eq_true',List.contains_eq_mem,decide_eq_false_iff_not] at h
  exact List.nodup_cons.2 ⟨h.1,wU h.2⟩
def xU (l:LO) (m:Nat) (Z:LN):Bool:=
 ((List.range l.length).all fun i=>((l.getD i default).after.toList.filter (Region.binds .any)).all fun e=>Nat.blt e.on i) &&
 ((List.range l.length).all fun i=>Nat.blt i m || (List.range i).all fun j=>((bu l).getD i []).contains j || Z.contains j) &&
 zi ((l.take m).filterMap (·.dst))
def Sm (o:Oper):Bool:=match o.op with | .move _=>true | .extract _ _=>true | _=>false
def MN (l:LO) (i:Nat):Array Bool:=((List.range l.length).map fun j=>((bu l).getD i []).contains j).toArray
def EZ (l:LO) (m:Nat) (Z:LN):Bool:=
 Region.noSelect l.toArray && Z.all fun i=>Nat.blt i m && Region.free .any l.toArray (MN l i) i &&
  match l[i]? with
  | some o=>Sm o && o.guard.isNone
  | none=>false
theorem KM {l:LO} {L:Array Bool} {i:Nat} (hL:∀ j∈(bu l).getD i [],L.getD j false=true) (h:Region.free .any l.toArray (MN l i) i=true):Region.free .any l.toArray L i=true:=by
 unfold Region.free at h ⊢
 cases ho:(l.toArray)[i]? with
 | none=>rw [ho] at h; cases h
 | some oi=>
  rw [ho] at h
  simp only [List.all_eq_true,List.mem_range,Bool.or_eq_true] at h ⊢
  intro j hj
  rcases h j hj with (h1 | h1) | h1
  ·exact .inl (.inl h1)
  ·have bc:j < l.length:=by simpa using hj
   have hm:j∈(bu l).getD i []:=by
    unfold MN at h1
    have:((List.range l.length).map fun j=>((bu l).getD i []).contains j)[j]? = some (((bu l).getD i []).contains j):=by
     rw [List.getElem?_map,List.getElem?_range bc]; rfl
    rw [Array.getD_eq_getD_getElem?,List.getElem?_toArray,this] at h1
    simpa using h1
   refine .inl (.inr ?_)
   have h2:=hL j hm
   rcases Nat.lt_or_ge j L.size with h' | h'
   ·simp [h'] at h2 ⊢; exact h2
   ·simp [Array.getElem?_eq_none h'] at h2
  ·exact .inr h1
theorem GO {P:Program} {d:Option Nat} {x:OO} {k:Nat} {ty:TI} {pos:String} {af:Array Edge} {g:Option (Nat×Bool)} {r:NV} {w:World} {K:Value→World→Prop} (h:ee P ⟨d,.extract x k,ty,pos,af,g⟩ r w K) :
  ∃ v,(∀ w',(execOp (ev r) ⟨d,.extract x k,ty,pos,af,g⟩).run P w' = .ok (.value v) w')∧K v w:=by
 have e:execOp (ev r) ⟨d,.extract x k,ty,pos,af,g⟩ = (Instr.extract (ev r x) k>>=fun v=>pure (.value v)):=rfl
 unfold ee at h
 rw [e] at h ⊢
 generalize ev r x=u at h ⊢
 cases u
 case tuple vs=>
  cases hv:vs[k]? with
  | none=>simp [Instr.extract,hv,stuck,Result.andThen,Sem.run] at h
  | some v=>
   refine ⟨v,fun w'=>?_,?_⟩
   ·simp [Instr.extract,hv]
   ·simpa [Instr.extract,hv] using h
 all_goals simp [Instr.extract,stuck,Result.andThen,Sem.run] at h
theorem yf (l:LO):∀ (i:Nat) (o:Oper),l[i]? = some o→(bu l)[i]? = some ((o.after.toList.filter (Region.binds .any)).flatMap fun e=>e.on :: ((bu l).take i).getD e.on []):=by
 have key:∀ (l:LO) (acc:LL),(l.foldl kv acc).length=acc.length+l.length∧(∀ j,j < acc.length→(l.foldl kv acc)[j]? = acc[j]?)∧
   ∀ i o,l[i]? = some o→(l.foldl kv acc)[acc.length+i]? = some ((o.after.toList.filter (Region.binds .any)).flatMap fun e=>e.on :: ((l.foldl kv acc).take (acc.length+i)).getD e.on []):=by
  intro l
  induction l with
  | nil=>intro acc; exact ⟨rfl,fun _ _=>rfl,fun i o h=>by simp at h⟩
  | cons x l ih=>
   intro acc
   obtain ⟨h1,h2,h3⟩:=ih (kv acc x)
   have hl:(kv acc x).length=acc.length+1:=by simp [kv]
   have hold:∀ j,j < acc.length→(kv acc x)[j]? = acc[j]?:=fun j hj=>by simp only [kv]; rw [List.getElem?_append_left hj]
   refine ⟨by simp only [List.foldl_cons,h1,hl,List.length_cons]; omega,fun j hj=>?_,?_⟩
   ·rw [List.foldl_cons,h2 j (by omega),hold j hj]
   ·intro i o hi
    cases i with
    | zero=>
     simp at hi
     subst hi
     have U7:(List.foldl kv acc (x :: l)).take (acc.length+0)=acc:=by
      apply List.ext_getElem?
      intro j
      rw [Nat.add_zero,List.getElem?_take]
      split
      ·rename_i hj
       rw [List.foldl_cons,h2 j (by omega),hold j hj]
      ·rename_i hj
       rw [List.getElem?_eq_none (by omega)]
     rw [U7]
     rw [Nat.add_zero,List.foldl_cons,h2 _ (by omega)]
     simp only [kv]
     rw [List.getElem?_append_right (Nat.le_refl _)]
     simp
    | succ i=>
     have:=h3 i o (by simpa using hi)
     rw [hl] at this
     rw [List.foldl_cons]
     rw [show acc.length+(i+1)=acc.length+1+i by omega]
     exact this
 intro i o hi
 have:=(key l []).2.2 i o hi
 simpa [bu] using this
theorem zj (l:LO) (hb:∀ (i:Nat) (o:Oper),l[i]? = some o→∀ e∈o.after.toList.filter (Region.binds .any),e.on < i) :
  ∀ (i j:Nat),j∈(bu l).getD i []→j < i∧∃ o,l[i]? = some o∧∃ e∈o.after.toList.filter (Region.binds .any),j=e.on∨j∈(bu l).getD e.on []:=by
 intro i j hj
 cases ho:l[i]? with
 | none=>
  have hlen:(bu l).length=l.length:=by
   have:∀ (l:LO) (acc:LL),(l.foldl kv acc).length=acc.length+l.length:=by
    intro l
    induction l with
    | nil=>intro acc; rfl
    | cons x l ih=>intro acc; rw [List.foldl_cons,ih]; simp [kv]; omega
   simpa [bu] using this l []
  rw [List.getD_eq_getElem?_getD,List.getElem?_eq_none (by rw [hlen]; exact List.getElem?_eq_none_iff.1 ho)] at hj
  simp at hj
 | some o=>
  have h:=yf l i o ho
  rw [List.getD_eq_getElem?_getD,h] at hj
  simp only [Option.getD_some,List.mem_flatMap,List.mem_cons] at hj
  obtain ⟨e,he,hj⟩:=hj
  have bc:=hb i o ho e he
  have Sn:((bu l).take i).getD e.on []=(bu l).getD e.on []:=by
   rw [List.getD_eq_getElem?_getD,List.getD_eq_getElem?_getD,List.getElem?_take,if_pos bc]
  rw [Sn] at hj
  refine ⟨?_,o,rfl,e,he,hj⟩
  rcases hj with rfl | hj
  ·exact bc
  ·-- by the strong law below
   have:∀ (k i:Nat),i≤k→∀ j∈(bu l).getD i [],j < i:=by
    intro k
    induction k with
    | zero=>
     intro i hi j hj
     obtain rfl:i=0:=by omega
     cases ho:l[0]? with
     | none=>
      obtain rfl:l=[]:=by cases l with | nil=>rfl | cons=>simp at ho
      simp [bu] at hj
     | some o=>
      have h:=yf l 0 o ho
      rw [List.getD_eq_getElem?_getD,h] at hj
      simp only [Option.getD_some,List.mem_flatMap] at hj
      obtain ⟨e,he,_⟩:=hj
      exact absurd (hb 0 o ho e he) (Nat.not_lt_zero _)
    | succ k ih=>
     intro i hi j hj
     cases ho:l[i]? with
     | none=>
      have hlen:(bu l).length=l.length:=by
       have:∀ (l:LO) (acc:LL),(l.foldl kv acc).length=acc.length+l.length:=by
        intro l
        induction l with
        | nil=>intro acc; rfl
        | cons x l ih=>intro acc; rw [List.foldl_cons,ih]; simp [kv]; omega
       simpa [bu] using this l []
      rw [List.getD_eq_getElem?_getD,List.getElem?_eq_none (by rw [hlen]; exact List.getElem?_eq_none_iff.1 ho)] at hj
      simp at hj
     | some o=>
      have h:=yf l i o ho
      rw [List.getD_eq_getElem?_getD,h] at hj
      simp only [Option.getD_some,List.mem_flatMap,List.mem_cons] at hj
      obtain ⟨e,he,hj⟩:=hj
      have bc:=hb i o ho e he
      rcases hj with rfl | hj
      ·exact bc
      ·have Sn:((bu l).take i).getD e.on []=(bu l).getD e.on []:=by
        rw [List.getD_eq_getElem?_getD,List.getD_eq_getElem?_getD,List.getElem?_take,if_pos bc]
       rw [Sn] at hj
       have:=ih e.on (by omega) j hj
       omega
   exact Nat.lt_trans (this e.on e.on (Nat.le_refl _) j hj) bc
theorem BZ (l:LO) (hb:∀ (i:Nat) (o:Oper),l[i]? = some o→∀ e∈o.after.toList.filter (Region.binds .any),e.on < i) {j k:Nat} (hj:j∈(bu l).getD k []):∀ {i:Nat},k∈(bu l).getD i []→j∈(bu l).getD i []:=by
 intro i
 induction i using Nat.strongRecOn with
 | _ i ih=>
  intro hk
  obtain ⟨_,o,ho,e,he,Sp⟩:=zj l hb i k hk
  have bc:=hb i o ho e he
  have h2:j∈(bu l).getD e.on []:=Sp.elim (fun h=>h ▸ hj) (fun h=>ih e.on bc h)
  have h:=yf l i o ho
  rw [List.getD_eq_getElem?_getD,h]
  simp only [Option.getD_some,List.mem_flatMap,List.mem_cons]
  refine ⟨e,he,.inr ?_⟩
  rw [List.getD_eq_getElem?_getD,List.getElem?_take,if_pos bc,← List.getD_eq_getElem?_getD]
  exact h2
theorem getD_both {FM:Array Bool} {i:Nat} (h:FM.getD i true=false):FM.getD i false=false:=by
 rcases Nat.lt_or_ge i FM.size with h' | h'
 ·simp [h'] at h ⊢; exact h
 ·simp [Array.getElem?_eq_none h'] at h
theorem getD_replicate_false (m j:Nat):(Array.replicate m false).getD j false=false:=by
 rcases Nat.lt_or_ge j m with h | h
 ·simp [h]
 ·simp [h]
theorem Dw:∀ (l:LO),(l.filterMap (·.dst)).Nodup→∀ i j d,bh l i=some d→bh l j=some d→i=j:=by
 intro l
 induction l with
 | nil=>intro _ i j d h; simp [bh] at h
 | cons o l ih=>
  intro hn i j d hi hj
  have Sr:∀ k,bh (o :: l) (k+1)=some d→d∈l.filterMap (·.dst):=by
   intro k hk
   simp only [bh,List.getElem?_cons_succ] at hk
   cases ho:l[k]? with
   | none=>rw [ho] at hk; cases hk
   | some x=>rw [ho] at hk; exact List.mem_filterMap.2 ⟨x,List.mem_of_getElem? ho,hk⟩
  have h0:∀ e,o.dst=some e→e ∉ l.filterMap (·.dst)∧(l.filterMap (·.dst)).Nodup:=by
   intro e he
   rw [List.filterMap_cons_some he] at hn
   exact List.nodup_cons.1 hn
  have tJ:(l.filterMap (·.dst)).Nodup:=by
   cases hd:o.dst with
   | none=>rwa [List.filterMap_cons_none hd] at hn
   | some e=>exact (h0 e hd).2
  cases i with
  | zero=>
   cases j with
   | zero=>rfl
   | succ j=>exact absurd (Sr j hj) (h0 d (by simpa [bh] using hi)).1
  | succ i=>
   cases j with
   | zero=>exact absurd (Sr i hi) (h0 d (by simpa [bh] using hj)).1
   | succ j=>rw [ih tJ i j d (by simpa [bh] using hi) (by simpa [bh] using hj)]
theorem jz {m j:Nat} (hj:j < m):bh (l.take m) j=bh l j:=by
 unfold bh
 rw [List.getElem?_take,if_pos hj]
theorem px {o:Oper} {r:NV} {w:World} {K K':Value→World→Prop} (h:ee P o r w K) (hk:∀ v w',K v w'→K' v w'):ee P o r w K':=by
 unfold ee at h ⊢
 cases hr:(execOp (ev r) o).run P w with
 | ok x w'=>
  rw [hr] at h
  cases x with
  | value v=>exact hk _ _ h
  | skip=>exact hk _ _ h
  | enter f args=>exact h.mono fun e yV ⟨v,he,hv⟩=>⟨v,he,hk _ _ hv⟩
  | _=>exact h
 | _=>rw [hr] at h; exact h.elim
theorem Kc {m:Nat} {Z:LN} (h:xU l m Z=true):∀ (i:Nat) (o:Oper),l[i]? = some o→∀ e∈o.after.toList.filter (Region.binds .any),e.on < i:=by
 simp only [xU,Bool.and_eq_true,List.all_eq_true,List.mem_range] at h
 intro i o ho e he
 have hi:i < l.length:=(List.getElem?_eq_some_iff.1 ho).1
 have:=h.1.1 i hi e (by rw [List.getD_eq_getElem?_getD,ho]; exact he)
 exact Nat.lt_of_succ_le (Nat.le_of_ble_eq_true this)
theorem Rp {m:Nat} {U:LL} {Z H:LN} {N:Nat→Prop} (hd:cg n l=true) (hA:xU l m Z=true) (hZ:EZ l m Z=true) (hp:∀ c r w,Q (.panic c) r w→False) (E0:m≤l.length)
  (hS:S.length=m)
  (hH:∀ b∈H,b < w0.heap.size) (hU:((List.range m).all fun i=>(U.getD i []).all fun u=>Nat.beq u l.length || ((bu l).getD i []).contains u)=true)
  (hN:∀ b,N b→b < w0.heap.size∧b ∉ H)
  (pZ:∀ (i:Nat) (s:fk),S[i]? = some s→∀ f F (w w':World) (r r':NV) v,ak F w w'→(∀ b∈f,b ∉ F)→(∀ b∈F,¬ N b)→(∀ j∈(bu l).getD i [],∀ t,bh l j=some t→r' t=r t)→s.V f w r v→s.V f w' r' v)
  (Mm:∀ i,i < m→jx P l m S U r0 w0 H i)
  (next:∀ g r w,vk l m S U r0 w0 H (fun j=>j < m) g r w→WL P l (l.drop m) r w (Q .normal)) :
  l3 P n l Q r0 w0:=by
 simp only [xU,Bool.and_eq_true,List.all_eq_true,List.mem_range,Bool.or_eq_true] at hA
 obtain ⟨⟨RB,RC⟩,RD⟩:=hA
 have uG:∀ (i:Nat) (o:Oper),l[i]? = some o→∀ e∈o.after.toList.filter (Region.binds .any),e.on < i:=by
  intro i o ho e he
  have hi:i < l.length:=(List.getElem?_eq_some_iff.1 ho).1
  have:=RB i hi e (by rw [List.getD_eq_getElem?_getD,ho]; exact he)
  exact Nat.lt_of_succ_le (Nat.le_of_ble_eq_true this)
 have C0:∀ i,m≤i→i < l.length→∀ j,j < i→j∈(bu l).getD i []∨j∈Z:=by
  intro i h1 h2 j hj
  rcases RC i h2 with h | h
  ·exact absurd (Nat.lt_of_succ_le (Nat.le_of_ble_eq_true h)) (Nat.not_lt.2 h1)
  ·have:=h j hj
   simpa using this
 simp only [EZ,Bool.and_eq_true,List.all_eq_true] at hZ
 obtain ⟨Ow,hZ⟩:=hZ
 have Ss:∀ z∈Z,z < m:=fun z hz=>Nat.lt_of_succ_le (Nat.le_of_ble_eq_true (hZ z hz).1.1)
 have RE:∀ i,i < m→∀ u∈U.getD i [],u=l.length∨u∈(bu l).getD i []:=by
  intro i hi u hu
  simp only [List.all_eq_true,List.mem_range] at hU
  have:=hU i hi u hu
  simpa using this
 have cq:=Dw _ (wU RD)
 have py:=zj l uG
 intro a h1 h2 h3
 let Cl (L:Array Bool):Prop:=L.size=l.length∧∀ j o,l[j]? = some o→L.getD j false=true→∀ e∈o.after.toList.filter (Region.binds .any),L.getD e.on false=true
 have ir:∀ L,Cl L→∀ i j,(∀ o,l[i]? = some o→∀ e∈o.after.toList.filter (Region.binds .any),L.getD e.on false=true)→j∈(bu l).getD i []→L.getD j false=true:=by
  intro L hL i
  induction i using Nat.strongRecOn with
  | _ i ih=>
   intro j hi hj
   obtain ⟨_,o,ho,e,he,E5⟩:=py i j hj
   have hl:=hi o ho e he
   rcases E5 with rfl | E5
   ·exact hl
   ·exact ih e.on (uG i o ho e he) j (fun o' br e' sb=>hL.2 _ _ br hl e' sb) E5
 have wu:∀ L i,i∈Region.ready .any l.toArray L→L.getD i true=false∧∃ o,l[i]? = some o∧∀ e∈o.after.toList.filter (Region.binds .any),L.getD e.on false=true:=by
  intro L i hi
  obtain ⟨g1,o,ho,dp⟩:=mem_ready.1 hi
  refine ⟨g1,o,by simpa using ho,fun e he=>?_⟩
  have:=List.mem_filter.1 he
  exact dp e (by simpa using this.1) this.2
 have B0:∀ L i o,L.size=l.length→l[i]? = some o→L.getD i false=false→(∀ e∈o.after.toList.filter (Region.binds .any),L.getD e.on false=true)→i∈Region.ready .any l.toArray L:=by
  intro L i o hs ho hu dp
  refine mem_ready.2 ⟨?_,o,by simpa using ho,fun e he hb=>dp e (List.mem_filter.2 ⟨by simpa using he,hb⟩)⟩
  have hi:i < L.size:=by rw [hs]; exact (List.getElem?_eq_some_iff.1 ho).1
  simp [hi] at hu ⊢; exact hu
 have D9:∀ L i o,Cl L→l[i]? = some o→(∀ e∈o.after.toList.filter (Region.binds .any),L.getD e.on false=true)→Cl (L.setIfInBounds i true):=by
  intro L i o hL ho dp
  refine ⟨by rw [Array.size_setIfInBounds]; exact hL.1,fun j o' br hj e he=>?_⟩
  by_cases xg:i=j
  ·subst xg
   have:o'=o:=Option.some.inj (br.symm.trans ho)
   subst this
   exact getD_set_true (dp e he)
  ·rw [getD_set_ne false xg] at hj
   exact getD_set_true (hL.2 j o' br hj e he)
 have getSet:∀ (L:Array Bool) i j,L.size=l.length→i < l.length→((L.setIfInBounds i true).getD j false=true↔j=i∨L.getD j false=true):=by
  intro L i j hs hi
  by_cases xg:i=j
  ·subst xg
   simp [hs,hi]
  ·rw [getD_set_ne false xg]
   constructor
   ·exact .inr
   ·rintro (h | h)
    ·exact absurd h.symm xg
    ·exact h
 have E6:∀ (L:Array Bool) i,L.size=l.length→i < l.length→L.getD i false=false→(L.setIfInBounds i true).toList.count false+1=L.toList.count false:=by
  intro L i hs hi hu
  have r3:i < L.toList.length:=by simpa [hs] using hi
  have AK:L.toList[i]=false:=by
   rw [Array.getElem_toList]
   simp [hs,hi] at hu
   exact hu
  rw [Array.toList_setIfInBounds,List.count_set r3,AK]
  have:0 < L.toList.count false:=List.count_pos_iff.2 (by rw [← AK]; exact List.getElem_mem r3)
  rw [if_pos (by rfl),if_neg (by decide)]
  omega
 have tail:∀ (d k fuel:Nat) (L:Array Bool) (a:Act) (w:World),l.length - k=d→m≤k→k≤l.length→Cl L→(∀ j,L.getD j false=true↔j < k)→L.toList.count false≤fuel→a.tmps.size=n→a.defers=[]→
   WL P l (l.drop k) (b9 a) w (Q .normal)→wpAny P .any l.toArray (fun e a' w'=>a'.tmps.size=n∧a'.defers=[]∧Q e (b9 a') w') fuel L a w:=by
  intro d
  induction d with
  | zero=>
   intro k fuel L a w hk hmk BQ hL fq hf g1 g2 hW
   obtain rfl:k=l.length:=by omega
   rw [List.drop_length] at hW
   have qB:Region.ready .any l.toArray L=[]:=by
    apply List.eq_nil_iff_forall_not_mem.2
    intro i hi
    obtain ⟨q1,o,ho,_⟩:=wu L i hi
    have bc:i < l.length:=(List.getElem?_eq_some_iff.1 ho).1
    have:=(fq i).2 bc
    simp [hL.1,bc] at q1 this
    rw [q1] at this; cases this
   cases fuel with
   | zero=>exact ⟨qB,g1,g2,hW⟩
   | succ fuel=>exact ⟨fun _=>⟨g1,g2,hW⟩,fun i hi=>by rw [qB] at hi; cases hi⟩
  | succ d ih=>
   intro k fuel L a w hk hmk BQ hL fq hf g1 g2 hW
   have I2:k < l.length:=by omega
   obtain ⟨o,ho⟩ : ∃ o,l[k]? = some o:=⟨l[k],List.getElem?_eq_getElem I2⟩
   have Su:L.getD k false=false:=by
    cases hb:L.getD k false with
    | false=>rfl
    | true=>exact absurd ((fq k).1 hb) (Nat.lt_irrefl _)
   have nb:k∈Region.ready .any l.toArray L:=B0 L k o hL.1 ho Su fun e he=>(fq _).2 (uG k o ho e he)
   have U8:l.drop k=o :: l.drop (k+1):=by rw [List.drop_eq_getElem_cons I2]; congr 1; exact Option.some.inj ((List.getElem?_eq_getElem I2).symm.trans ho)
   rw [U8] at hW
   have hc:=E6 L k hL.1 I2 Su
   cases fuel with
   | zero=>omega
   | succ fuel=>
    refine ⟨fun h=>(by rw [h] at nb; cases nb),fun i hi=>?_⟩
    obtain ⟨q1,oi,mb,dp⟩:=wu L i hi
    have ed:i < l.length:=(List.getElem?_eq_some_iff.1 mb).1
    have sK:L.getD i false=false:=getD_both q1
    have hik:i=k:=by
     rcases Nat.lt_trichotomy i k with h | h | h
     ·have:=(fq i).2 h; rw [sK] at this; cases this
     ·exact h
     ·have:=ir L hL i k (fun o' br=>by have:o'=oi:=Option.some.inj (br.symm.trans mb); subst this; exact dp) ((C0 i (by omega) ed k h).resolve_right fun hz=>absurd (Ss k hz) (by omega))
      rw [Su] at this; cases this
    subst hik
    have Kk:oi=o:=Option.some.inj (mb.symm.trans ho)
    subst Kk
    have Dz:∀ k',oi.dst=some k'→k' < a.tmps.size:=by
     intro k' yW
     have s6:oi∈l:=List.mem_of_getElem? mb
     simp only [cg,List.all_eq_true] at hd
     have:=hd oi s6
     rw [yW] at this
     rw [g1]
     exact Nat.lt_of_succ_le (Nat.le_of_ble_eq_true this)
    have zn:=D9 L i oi hL mb dp
    have xW:∀ j,(L.setIfInBounds i true).getD j false=true↔j < i+1:=by
     intro j
     rw [getSet L i j hL.1 ed,fq j]
     omega
    unfold wpOp
    rw [show (l.toArray)[i]? = some oi by simpa using mb]
    simp only []
    rw [tB (by rw [g1]; exact hd)]
    rcases hW with ⟨hw,hW⟩ | ⟨hw,hW⟩
    ·rw [if_pos hw]
     exact .inl (hW.wp fun v w' hv=>ih (i+1) fuel _ _ _ (by omega) (by omega) (by omega) zn xW (by omega) (by rw [fv]; exact g1) (by rw [dt]; exact g2) (by rw [ie Dz]; exact hv))
    ·rw [if_neg (by rw [hw]; exact Bool.false_ne_true)]
     exact ih (i+1) fuel _ _ _ (by omega) (by omega) (by omega) zn xW (by omega) (by rw [fv]; exact g1) (by rw [dt]; exact g2) (by rw [ie Dz]; exact hW)
 have head:∀ (fuel:Nat) (L:Array Bool) (a:Act) (w:World) (g:Nat→List Nat),Cl L→(∀ j,L.getD j false=true→j < m)→L.toList.count false≤fuel→a.tmps.size=n→a.defers=[]→
   vk l m S U r0 w0 H (fun j=>L.getD j false=true) g (b9 a) w→wpAny P .any l.toArray (fun e a' w'=>a'.tmps.size=n∧a'.defers=[]∧Q e (b9 a') w') fuel L a w:=by
  intro fuel
  induction fuel with
  | zero=>
   intro L a w g hL sI hf g1 g2 inv
   have dp:∀ j,j < l.length→L.getD j false=true:=by
    intro j hj
    cases hb:L.getD j false with
    | true=>rfl
    | false=>have:=E6 L j hL.1 hj hb; omega
   have fq:∀ j,L.getD j false=true↔j < m:=fun j=>⟨sI j,fun h=>dp j (by omega)⟩
   refine tail _ m 0 L a w rfl (Nat.le_refl _) E0 hL fq hf g1 g2 (next g _ _ ?_)
   exact ⟨inv.iz,fun hk=>inv.zl fun k vm=>hk k ((fq k).1 vm),inv.vg,fun j hj=>inv.vd j ((fq j).2 hj),fun j hj hk=>inv.done j ((fq j).2 hj) (fun k vm=>hk k ((fq k).1 vm)),fun j hj=>inv.qZ j ((fq j).2 hj),inv.other,fun j hj b hb=>⟨(inv.fresh j ((fq j).2 hj) b hb).1.imp (fun h=>h) fun h=>⟨h.1,h.2.imp fun k hk=>⟨(fq k).1 hk.1,hk.2⟩⟩,(inv.fresh j ((fq j).2 hj) b hb).2⟩,fun i j hi hj=>inv.ur i j ((fq i).2 hi) ((fq j).2 hj)⟩
  | succ fuel ih=>
   intro L a w g hL sI hf g1 g2 inv
   by_cases dp:∀ j,j < m→L.getD j false=true
   ·have fq:∀ j,L.getD j false=true↔j < m:=fun j=>⟨sI j,dp j⟩
    refine tail _ m _ L a w rfl (Nat.le_refl _) E0 hL fq hf g1 g2 (next g _ _ ?_)
    exact ⟨inv.iz,fun hk=>inv.zl fun k vm=>hk k ((fq k).1 vm),inv.vg,fun j hj=>inv.vd j ((fq j).2 hj),fun j hj hk=>inv.done j ((fq j).2 hj) (fun k vm=>hk k ((fq k).1 vm)),fun j hj=>inv.qZ j ((fq j).2 hj),inv.other,fun j hj b hb=>⟨(inv.fresh j ((fq j).2 hj) b hb).1.imp (fun h=>h) fun h=>⟨h.1,h.2.imp fun k hk=>⟨(fq k).1 hk.1,hk.2⟩⟩,(inv.fresh j ((fq j).2 hj) b hb).2⟩,fun i j hi hj=>inv.ur i j ((fq i).2 hi) ((fq j).2 hj)⟩
   ·obtain ⟨j0,Ox,Dx⟩ : ∃ j,j < m∧L.getD j false=false:=by
     apply Classical.byContradiction
     intro qB
     apply dp
     intro j hj
     cases hb:L.getD j false with
     | true=>rfl
     | false=>exact absurd ⟨j,hj,hb⟩ qB
    have II:∃ i,i∈Region.ready .any l.toArray L:=by
     have:∀ k,(∃ j,j < k∧j < m∧L.getD j false=false)→∃ i,i∈Region.ready .any l.toArray L:=by
      intro k
      induction k with
      | zero=>rintro ⟨j,h,_⟩; omega
      | succ k BM=>
       rintro ⟨j,Kg,zm,qC⟩
       by_cases vn:∃ j,j < k∧j < m∧L.getD j false=false
       ·exact BM vn
       ·obtain rfl:j=k:=by
         apply Classical.byContradiction
         intro h
         exact vn ⟨j,by omega,zm,qC⟩
        have Dy:j < l.length:=by omega
        refine ⟨j,B0 L j l[j] hL.1 (List.getElem?_eq_getElem Dy) qC fun e he=>?_⟩
        have bc:=uG j _ (List.getElem?_eq_getElem Dy) e he
        cases hb:L.getD e.on false with
        | true=>rfl
        | false=>exact absurd ⟨e.on,bc,by omega,hb⟩ vn
     exact this (j0+1) ⟨j0,by omega,Ox,Dx⟩
    have main:∀ i oi,i < m→l[i]? = some oi→L.getD i false=false→(∀ e∈oi.after.toList.filter (Region.binds .any),L.getD e.on false=true)→
      (Region.wanted oi (yl l (b9 a))=true∧ee P oi (b9 a) w fun v w'=>wpAny P .any l.toArray (fun e a' w'=>a'.tmps.size=n∧a'.defers=[]∧Q e (b9 a') w') fuel (L.setIfInBounds i true) (a.put oi.dst v) w')∨
      (Region.wanted oi (yl l (b9 a))=false∧wpAny P .any l.toArray (fun e a' w'=>a'.tmps.size=n∧a'.defers=[]∧Q e (b9 a') w') fuel (L.setIfInBounds i true) (a.put oi.dst undef) w):=by
     intro i oi sJ mb sK sL
     have ed:i < l.length:=(List.getElem?_eq_some_iff.1 mb).1
     have l4:∀ o,l[i]? = some o→∀ e∈o.after.toList.filter (Region.binds .any),L.getD e.on false=true:=fun o' br=>by
      have:o'=oi:=Option.some.inj (br.symm.trans mb)
      subst this; exact sL
     obtain ⟨s,hs⟩ : ∃ s,S[i]? = some s:=⟨S[i]'(by omega),List.getElem?_eq_getElem (by omega)⟩
     have hc:=E6 L i hL.1 ed sK
     have zn:=D9 L i oi hL mb sL
     have RG:∀ j,(L.setIfInBounds i true).getD j false=true→j < m:=by
      intro j hj
      rcases (getSet L i j hL.1 ed).1 hj with rfl | hj
      ·exact sJ
      ·exact sI j hj
     have B1:∀ k,L.getD k false=true→k≠i∧i ∉ (bu l).getD k []:=by
      intro k hk
      refine ⟨fun h=>(by rw [h,sK] at hk; cases hk),fun s6=>?_⟩
      have:=ir L hL k i (fun o' br e' sb=>hL.2 k o' br hk e' sb) s6
      rw [sK] at this; cases this
     have ow:=Mm i sJ oi s mb hs g (b9 a) w inv.iz (fun hV=>by
       have qB:∀ k,L.getD k false=true→l.length ∉ U.getD k []:=fun k hk E7=>by
        simp only [xS,List.all_eq_true,List.mem_range,Bool.or_eq_true,Bool.not_eq_true',List.contains_eq_mem,decide_eq_false_iff_not,decide_eq_true_eq] at hV
        rcases hV k (sI k hk) with (h | h) | h
        ·exact h E7
        ·exact (B1 k hk).1 (Nat.eq_of_beq_eq_true h)
        ·exact (B1 k hk).2 h
       have h0:=inv.zl qB
       exact ⟨h0.1,h0.2,fun j hj b hb=>(inv.fresh j (ir L hL i j l4 hj) b hb).1.elim (fun h=>h) fun h=>absurd h.2.choose_spec.2 (qB _ h.2.choose_spec.1)⟩) (fun j hj=>inv.qZ j (ir L hL i j l4 hj)) (fun j hj=>by
       simp only [rD,Bool.and_eq_true,List.all_eq_true,List.mem_range,Bool.or_eq_true,Bool.not_eq_true',List.contains_eq_mem,decide_eq_false_iff_not,decide_eq_true_eq] at hj
       refine inv.done j (ir L hL i j l4 hj.1) fun k hk Kg=>?_
       rcases hj.2 k (sI k hk) with (h | h) | h
       ·exact h Kg
       ·exact (B1 k hk).1 (Nat.eq_of_beq_eq_true h)
       ·exact (B1 k hk).2 h) inv.other
      (fun i' r3 j' fu=>inv.ur i' j' (ir L hL i i' l4 r3) (ir L hL i j' l4 fu))
      (fun j hj b hb=>⟨(inv.fresh j (ir L hL i j l4 hj) b hb).1.imp (fun h=>h) (·.1),(inv.fresh j (ir L hL i j l4 hj) b hb).2⟩)
     have hblk:∀ b∈mw g (U.getD i []),(∃ u,u∈U.getD i []∧L.getD u false=true∧b∈g u)∨(l.length∈U.getD i []∧b∈g l.length):=by
      intro b hb
      obtain ⟨u,hu,er⟩:=List.mem_flatMap.1 hb
      rcases RE i sJ u hu with rfl | h
      ·exact .inr ⟨hu,er⟩
      ·exact .inl ⟨u,hu,ir L hL i u l4 h,er⟩
     have Dz:∀ k',oi.dst=some k'→k' < a.tmps.size:=by
      intro k' yW
      have s6:oi∈l:=List.mem_of_getElem? mb
      simp only [cg,List.all_eq_true] at hd
      have:=hd oi s6
      rw [yW] at this
      rw [g1]
      exact Nat.lt_of_succ_le (Nat.le_of_ble_eq_true this)
     have xh:bh l i=oi.dst:=by unfold bh; rw [mb]; rfl
     have n9:∀ v t,(oi.dst≠some t)→b9 (a.put oi.dst v) t=b9 a t:=by
      intro v t ht
      rw [ie Dz]
      cases vo:oi.dst with
      | none=>rfl
      | some d=>
       show (bif Nat.beq t d then v else b9 a t)=b9 a t
       cases hb:Nat.beq t d with
       | false=>rfl
       | true=>exact absurd (by rw [vo,Nat.eq_of_beq_eq_true hb]) ht
     have E8:∀ v d,oi.dst=some d→b9 (a.put oi.dst v) d=v:=by
      intro v d vo
      rw [ie Dz,vo]
      show (bif Nat.beq d d then v else b9 a d)=v
      rw [Nat.beq_refl]; rfl
     have step:∀ v w' f,ak (mw g (U.getD i [])) w w'→(∀ b∈f,(b∈mw g (U.getD i [])∨w.heap.size≤b)∧b < w'.heap.size)→(if s.b then s.V f w' (b9 a) v else v=undef)→
       wpAny P .any l.toArray (fun e a' w'=>a'.tmps.size=n∧a'.defers=[]∧Q e (b9 a') w') fuel (L.setIfInBounds i true) (a.put oi.dst v) w':=by
      intro v w' f hC sG hV
      have qS:∀ j',j' < m→j'≠i→∀ t,bh l j'=some t→b9 (a.put oi.dst v) t=b9 a t:=by
       intro j' fu pN t ht
       refine n9 v t fun h=>pN (cq j' i t ?_ ?_)
       ·rw [jz fu]; exact ht
       ·rw [jz sJ,xh]; exact h
      have Kh:∀ b∈mw g (U.getD i []),¬ N b:=fun b hb hn=>by
       rcases hblk b hb with ⟨u,_,nk,er⟩ | ⟨_,er⟩
       ·rcases (inv.fresh u nk b er).1 with h | h
        ·have:=(hN b hn).1; omega
        ·exact (hN b hn).2 h.1
       ·exact (hN b hn).2 (inv.vg b er)
      refine ih _ _ _ (fun j=>if j=i then f else if j∈U.getD i [] then [] else g j) zn RG (by omega) (by rw [fv]; exact g1) (by rw [dt]; exact g2)
       ⟨inv.iz.then hC fun b hb=>(by
        rcases hblk b hb with ⟨u,_,nk,er⟩ | ⟨_,er⟩
        ·exact (inv.fresh u nk b er).1.elim .inr fun h=>.inl h.1
        ·exact .inl (inv.vg b er)),fun qB=>?_,?_,fun j hj=>?_,?_,fun j hj d r8 sj qn=>?_,?_,?_,?_⟩
      ·have tM:l.length ∉ U.getD i []:=qB i ((getSet L i i hL.1 ed).2 (.inl rfl))
       have h0:=inv.zl fun k hk=>qB k ((getSet L i k hL.1 ed).2 (.inr hk))
       refine ⟨h0.1.then hC fun b hb=>?_,?_⟩
       ·rcases hblk b hb with ⟨u,_,nk,er⟩ | ⟨h,_⟩
        ·exact (inv.fresh u nk b er).1.elim .inr fun ⟨_,k,hk,E7⟩=>absurd E7 (qB k ((getSet L i k hL.1 ed).2 (.inr hk)))
        ·exact absurd h tM
       ·show (if l.length=i then f else if l.length∈U.getD i [] then [] else g l.length)=H
        rw [if_neg (by omega),if_neg tM]
        exact h0.2
      ·intro b hb
       have bz:b∈(if l.length=i then f else if l.length∈U.getD i [] then [] else g l.length):=hb
       rw [if_neg (by omega)] at bz
       split at bz
       ·cases bz
       ·exact inv.vg b bz
      ·intro b hb hv
       have kj:b∈(if l.length=i then f else if l.length∈U.getD i [] then [] else g l.length):=hv
       rw [if_neg (by omega)] at kj
       split at kj
       ·cases kj
       ·rename_i RH
        have bz:b∈(if j=i then f else if j∈U.getD i [] then [] else g j):=hb
        split at bz
        ·rcases (sG b bz).1 with h | h
         ·rcases hblk b h with ⟨u,_,nk,er⟩ | ⟨h,_⟩
          ·exact inv.vd u nk b er kj
          ·exact RH h
         ·have h1:=hH b (inv.vg b kj)
          have h2:=inv.iz.size
          omega
        ·rename_i j7
         split at bz
         ·cases bz
         ·exact inv.vd j (((getSet L i j hL.1 ed).1 hj).resolve_left j7) b bz kj
      ·intro j hj xi
       refine ⟨fun d r8=>?_,fun RI sj qn Ki=>?_⟩
       rotate_left
       ·by_cases j7:j=i
        ·subst j7
         rw [hs] at qn
         cases qn
         rw [if_pos Ki] at hV
         refine ⟨v,?_⟩
         simp only [if_pos]
         exact pZ j s hs _ [] w' w' (b9 a) _ v (ak.refl _ _) (fun _ _ h=>nomatch h) (fun _ h=>nomatch h) (fun j' fu t ht=>qS j' (by have:=(py j j' fu).1; omega) (by have:=(py j j' fu).1; omega) t ht) hV
        ·have l5:=((getSet L i j hL.1 ed).1 hj).resolve_left j7
         have qC:j ∉ U.getD i []:=xi i ((getSet L i i hL.1 ed).2 (.inl rfl))
         obtain ⟨x,hx⟩:=(inv.done j l5 (fun k hk=>xi k ((getSet L i k hL.1 ed).2 (.inr hk)))).2 RI sj qn Ki
         have ju:(fun j=>if j=i then f else if j∈U.getD i [] then [] else g j) j=g j:=by
          show (if j=i then f else if j∈U.getD i [] then [] else g j)=g j
          rw [if_neg j7,if_neg qC]
         rw [ju]
         refine ⟨x,pZ j sj qn _ _ _ _ (b9 a) _ _ hC (fun b bz E9=>?_) Kh (fun j' fu t ht=>qS j' (by have:=(py j j' fu).1; have:=sI j l5; omega) (fun h=>?_) t ht) hx⟩
         ·rcases hblk b E9 with ⟨u,zo,nk,er⟩ | ⟨_,er⟩
          ·exact inv.ur j u l5 nk (fun h=>qC (h ▸ zo)) b bz er
          ·exact inv.vd j l5 b bz er
         ·subst h
          have:=ir L hL j j' (fun o' br e' sb=>hL.2 j o' br l5 e' sb) fu
          rw [sK] at this; cases this
       by_cases j7:j=i
       ·subst j7
        rw [hs]
        simp only [if_pos]
        rw [xh] at r8
        rw [E8 v d r8]
        split
        ·rename_i hb
         rw [if_pos hb] at hV
         exact pZ j s hs _ [] w' w' (b9 a) _ v (ak.refl _ _) (fun _ _ h=>nomatch h) (fun _ h=>nomatch h) (fun j' fu t ht=>qS j' (by have:=(py j j' fu).1; omega) (by have:=(py j j' fu).1; omega) t ht) hV
        ·rename_i hb
         rw [if_neg hb] at hV
         exact hV
       ·have l5:=((getSet L i j hL.1 ed).1 hj).resolve_left j7
        have zm:=sI j l5
        have qC:j ∉ U.getD i []:=xi i ((getSet L i i hL.1 ed).2 (.inl rfl))
        have vo:oi.dst≠some d:=by
         intro h
         apply j7
         refine cq j i d ?_ ?_
         ·rw [jz zm]; exact r8
         ·rw [jz sJ,xh]; exact h
        have:=(inv.done j l5 (fun k hk=>xi k ((getSet L i k hL.1 ed).2 (.inr hk)))).1 d r8
        rw [n9 v d vo]
        have ju:(fun j=>if j=i then f else if j∈U.getD i [] then [] else g j) j=g j:=by
         show (if j=i then f else if j∈U.getD i [] then [] else g j)=g j
         rw [if_neg j7,if_neg qC]
        rw [ju]
        cases qn:S[j]? with
        | none=>trivial
        | some sj=>
         rw [qn] at this
         simp only [] at this ⊢
         split
         ·rename_i hb
          rw [if_pos hb] at this
          refine pZ j sj qn _ _ _ _ (b9 a) _ _ hC (fun b bz E9=>?_) Kh (fun j' fu t ht=>qS j' (by have:=(py j j' fu).1; omega) (fun h=>?_) t ht) this
          rotate_left
          ·subst h
           have:=ir L hL j j' (fun o' br e' sb=>hL.2 j o' br l5 e' sb) fu
           rw [sK] at this; cases this
          rcases hblk b E9 with ⟨u,zo,nk,er⟩ | ⟨_,er⟩
          ·exact inv.ur j u l5 nk (fun h=>qC (h ▸ zo)) b bz er
          ·exact inv.vd j l5 b bz er
         ·rename_i hb
          rw [if_neg hb] at this
          exact this
      ·by_cases j7:j=i
       ·subst j7
        rw [hs] at qn
        cases qn
        rw [xh] at r8
        rw [E8 v d r8]
        split
        ·rename_i hb
         rw [if_pos hb] at hV
         exact ⟨f,w',pZ j s hs _ [] w' w' (b9 a) _ v (ak.refl _ _) (fun _ _ h=>nomatch h) (fun _ h=>nomatch h) (fun j' fu t ht=>qS j' (by have:=(py j j' fu).1; omega) (by have:=(py j j' fu).1; omega) t ht) hV⟩
        ·rename_i hb
         rw [if_neg hb] at hV
         exact hV
       ·have l5:=((getSet L i j hL.1 ed).1 hj).resolve_left j7
        have zm:=sI j l5
        have vo:oi.dst≠some d:=by
         intro h
         apply j7
         refine cq j i d ?_ ?_
         ·rw [jz zm]; exact r8
         ·rw [jz sJ,xh]; exact h
        have:=inv.qZ j l5 d r8 sj qn
        rw [n9 v d vo]
        split
        ·rename_i hb
         rw [if_pos hb] at this
         obtain ⟨f1,w1,h1⟩:=this
         refine ⟨f1,w1,pZ j sj qn _ [] w1 w1 (b9 a) _ _ (ak.refl _ _) (fun _ _ h=>nomatch h) (fun _ h=>nomatch h) (fun j' fu t ht=>qS j' (by have:=(py j j' fu).1; omega) (fun h=>?_) t ht) h1⟩
         subst h
         have:=ir L hL j j' (fun o' br e' sb=>hL.2 j o' br l5 e' sb) fu
         rw [sK] at this; cases this
        ·rename_i hb
         rw [if_neg hb] at this
         exact this
      ·intro t ht
       rw [n9 v t (fun h=>ht i sJ (by rw [xh]; exact h))]
       exact inv.other t ht
      ·intro j hj b hb
       by_cases j7:j=i
       ·simp only [if_pos j7] at hb
        have hh:=sG b hb
        have qI:=inv.iz.size
        rcases hh.1 with h | h
        ·rcases hblk b h with ⟨u,_,nk,er⟩ | ⟨hv,er⟩
         ·exact ⟨(inv.fresh u nk b er).1.imp (fun h=>h) fun h=>⟨h.1,h.2.imp fun k hk=>⟨(getSet L i k hL.1 ed).2 (.inr hk.1),hk.2⟩⟩,hh.2⟩
         ·exact ⟨.inr ⟨inv.vg b er,i,(getSet L i i hL.1 ed).2 (.inl rfl),hv⟩,hh.2⟩
        ·exact ⟨.inl (by omega),hh.2⟩
       ·have l5:=((getSet L i j hL.1 ed).1 hj).resolve_left j7
        simp only [if_neg j7] at hb
        split at hb
        ·cases hb
        ·have h1:=inv.fresh j l5 b hb
         have h2:=hC.size
         exact ⟨h1.1.imp (fun h=>h) fun h=>⟨h.1,h.2.imp fun k hk=>⟨(getSet L i k hL.1 ed).2 (.inr hk.1),hk.2⟩⟩,by omega⟩
      ·have tj:∀ j',(L.setIfInBounds i true).getD j' false=true→j'≠i→∀ b∈f,b ∉ (if j'∈U.getD i [] then [] else g j'):=by
        intro j' fu e2 b hb bz
        have Fb:=((getSet L i j' hL.1 ed).1 fu).resolve_left e2
        split at bz
        ·cases bz
        ·rename_i qC
         rcases (sG b hb).1 with h | h
         ·rcases hblk b h with ⟨u,zo,nk,er⟩ | ⟨_,er⟩
          ·exact inv.ur u j' nk Fb (fun h=>qC (h ▸ zo)) b er bz
          ·exact inv.vd j' Fb b bz er
         ·have:=inv.fresh j' Fb b bz
          omega
       intro i' j' r3 fu pN b hb bz
       by_cases e1:i'=i
       ·have e2:j'≠i:=fun h=>pN (e1.trans h.symm)
        simp only [if_pos e1] at hb
        simp only [if_neg e2] at bz
        exact tj j' fu e2 b hb bz
       ·simp only [if_neg e1] at hb
        by_cases e2:j'=i
        ·simp only [if_pos e2] at bz
         exact tj i' r3 e1 b bz hb
        ·simp only [if_neg e2] at bz
         split at hb
         ·cases hb
         ·split at bz
          ·cases bz
          ·exact inv.ur i' j' (((getSet L i i' hL.1 ed).1 r3).resolve_left e1) (((getSet L i j' hL.1 ed).1 fu).resolve_left e2) pN b hb bz
     cases hb:s.b with
     | true=>
      rw [if_pos hb] at ow
      refine .inl ⟨ow.1,px ow.2 ?_⟩
      rintro v w' ⟨hC,f,sG,hV⟩
      exact step v w' f hC sG (by rw [if_pos hb]; exact hV)
     | false=>
      rw [if_neg (by rw [hb]; exact Bool.false_ne_true)] at ow
      exact .inr ⟨ow,step undef w [] (ak.refl _ _) (fun b h=>nomatch h) (by rw [if_neg (by rw [hb]; exact Bool.false_ne_true)])⟩
    by_cases OQ:∃ z,z∈Z∧L.getD z false=false∧∀ o,l[z]? = some o→∀ e∈o.after.toList.filter (Region.binds .any),L.getD e.on false=true
    ·obtain ⟨z,hz,Sw,Wr⟩:=OQ
     obtain ⟨⟨hzm,hzf⟩,KN⟩:=hZ z hz
     cases DL:l[z]? with
     | none=>rw [DL] at KN; cases KN
     | some oz=>
      rw [DL] at KN
      simp only [Bool.and_eq_true] at KN
      obtain ⟨hmv,DK⟩:=KN
      have MO:=Wr oz DL
      have Ws:Region.free .any l.toArray L z=true:=KM (fun j hj=>ir L hL z j (fun o' br=>Wr o' br) hj) hzf
      have Wt:z∈Region.ready .any l.toArray L:=B0 L z oz hL.1 DL Sw MO
      obtain ⟨dz,opz,tyz,pz,az,gz⟩:=oz
      cases opz <;> first | exact (Bool.false_ne_true hmv).elim | skip
      case move x=>
       cases gz with
       | some _=>simp at DK
       | none=>
        have hev:∀ w',(execOp a.eval ⟨dz,.move x,tyz,pz,az,none⟩).run P w' = .ok (.value (a.eval x)) w':=fun _=>rfl
        refine wpAny_take (by simpa using DL) Ow Ws (by simpa using Wt) (fun c a w h=>absurd h.2.2 (hp _ _ _)) (v:=a.eval x) (.inl ⟨rfl,hev⟩) ?_
        rcases main z _ (Ss z hz) DL Sw MO with ⟨_,h⟩ | ⟨h,_⟩
        ·rw [nm]; exact h
        ·exact absurd h (by simp [Region.wanted])
      case extract x k=>
       cases gz with
       | some _=>simp at DK
       | none=>
        rcases main z _ (Ss z hz) DL Sw MO with ⟨_,h⟩ | ⟨h,_⟩
        ·obtain ⟨v,hv,hk⟩:=GO h
         refine wpAny_take (by simpa using DL) Ow Ws (by simpa using Wt) (fun c a w h=>absurd h.2.2 (hp _ _ _)) (v:=v) (.inl ⟨rfl,fun w'=>by rw [nm]; exact hv w'⟩) ?_
         exact hk
        ·exact absurd h (by simp [Region.wanted])
    refine ⟨fun h=>(by obtain ⟨i,hi⟩:=II; rw [h] at hi; cases hi),fun i hi=>?_⟩
    obtain ⟨q1,oi,mb,sL⟩:=wu L i hi
    have ed:i < l.length:=(List.getElem?_eq_some_iff.1 mb).1
    have sK:L.getD i false=false:=getD_both q1
    have sJ:i < m:=by
     rcases Nat.lt_or_ge i m with h | h
     ·exact h
     ·have bad:∀ j,j < i→L.getD j false=false→False:=by
       intro j
       induction j using Nat.strongRecOn with
       | _ j ih=>
        intro j7 qC
        rcases C0 i h ed j j7 with hj | hj
        ·have:=ir L hL i j (fun o' br=>by have:o'=oi:=Option.some.inj (br.symm.trans mb); subst this; exact sL) hj
         rw [qC] at this; cases this
        ·refine OQ ⟨j,hj,qC,fun o ho e he=>?_⟩
         cases hb:L.getD e.on false with
         | true=>rfl
         | false=>have bc:=uG j o ho e he; exact (ih e.on bc (by omega) hb).elim
      exact (bad j0 (by omega) Dx).elim
    unfold wpOp
    rw [show (l.toArray)[i]? = some oi by simpa using mb]
    simp only []
    rw [tB (by rw [g1]; exact hd)]
    rcases main i oi sJ mb sK sL with ⟨hw,h⟩ | ⟨hw,h⟩
    ·rw [if_pos hw]
     exact .inl (h.wp fun v w' hv=>hv)
    ·rw [if_neg (by rw [hw]; exact Bool.false_ne_true)]
     exact h
 refine head _ _ a _ (fun j=>if j=l.length then H else []) ⟨by simp,?_⟩ ?_ ?_ h1 h2 ⟨ak.nil (ak.drew _ _),fun _=>⟨ak.drew _ _,by simp⟩,fun b hb=>by simpa using hb,?_,?_,?_,?_,?_,?_⟩
 ·intro j o ho hj
  rw [getD_replicate_false] at hj; cases hj
 ·intro j hj
  rw [getD_replicate_false] at hj; cases hj
 ·simp
 ·intro j hj
  rw [getD_replicate_false] at hj; cases hj
 ·intro j hj
  rw [getD_replicate_false] at hj; cases hj
 ·intro j hj
  rw [getD_replicate_false] at hj; cases hj
 ·intro t _
  rw [h3]
 ·intro j hj
  rw [getD_replicate_false] at hj; cases hj
 ·intro i j hi
  rw [getD_replicate_false] at hi; cases hi
theorem jx.val {m i:Nat} {U:LL} {H:LN} {o:Oper} {v:Value} (ho:l[i]? = some o) (hs:S[i]? = some ⟨true,pl fun _ _ u=>u=v⟩) (hg:o.guard=none)
  (h:∀ (g:Nat→List Nat) (r:NV) (w:World),ak H w0 w→(∀ j∈(bu l).getD i [],Old l S j r)→(∀ j,rD l U m i j=true→vh l S j g r w)→(∀ t,(∀ j,j < m→bh l j≠some t)→r t=r0 t)→
   (execOp (ev r) o).run P w = .ok (.value v) w):jx P l m S U r0 w0 H i:=by
 intro o' s' br di g r w hC hV hO hd jy ui n9
 obtain rfl:o=o':=Option.some.inj (ho.symm.trans br)
 obtain rfl:_=s':=Option.some.inj (hs.symm.trans di)
 rw [if_pos rfl]
 refine ⟨by unfold Region.wanted; rw [hg],?_⟩
 unfold ee
 rw [h g r w hC hO hd jy]
 exact ⟨ak.refl _ _,[],(fun _ h=>nomatch h),rfl⟩
theorem jx.call {m i:Nat} {U:LL} {H:LN} {o:Oper} {v:Value} {f:FuncId} (ho:l[i]? = some o) (hs:S[i]? = some ⟨true,pl fun _ _ u=>u=v⟩) (hg:o.guard=none)
  (h:∀ (g:Nat→List Nat) (r:NV) (w:World),ak H w0 w→(∀ j∈(bu l).getD i [],Old l S j r)→(∀ j,rD l U m i j=true→vh l S j g r w)→(∀ t,(∀ j,j < m→bh l j≠some t)→r t=r0 t)→
   ∃ args,(execOp (ev r) o).run P w = .ok (.enter f args) w∧Calls P f args w fun e w'=>e = .returned v∧ak [] w w'):jx P l m S U r0 w0 H i:=by
 intro o' s' br di g r w hC hV hO hd jy ui n9
 obtain rfl:o=o':=Option.some.inj (ho.symm.trans br)
 obtain rfl:_=s':=Option.some.inj (hs.symm.trans di)
 rw [if_pos rfl]
 refine ⟨by unfold Region.wanted; rw [hg],?_⟩
 unfold ee
 obtain ⟨args,h1,h2⟩:=h g r w hC hO hd jy
 rw [h1]
 exact h2.mono fun e w' ⟨he,hc⟩=>⟨v,he,hc.nil,[],(fun _ h=>nomatch h),rfl⟩
theorem jx.mem {m i:Nat} {U:LL} {H:LN} {o:Oper} {V:List Nat→World→Value→Prop} (ho:l[i]? = some o) (hs:S[i]? = some ⟨true,pl V⟩) (hg:o.guard=none)
  (h:∀ (g:Nat→List Nat) (r:NV) (w:World),ak H w0 w→(∀ j∈(bu l).getD i [],Old l S j r)→(∀ j,rD l U m i j=true→vh l S j g r w)→(∀ t,(∀ j,j < m→bh l j≠some t)→r t=r0 t)→
   ee P o r w fun v w'=>ak [] w w'∧∃ f,(∀ b∈f,w.heap.size≤b∧b < w'.heap.size)∧V f w' v):jx P l m S U r0 w0 H i:=by
 intro o' s' br di g r w hC hV hO hd jy ui n9
 obtain rfl:o=o':=Option.some.inj (ho.symm.trans br)
 obtain rfl:_=s':=Option.some.inj (hs.symm.trans di)
 rw [if_pos rfl]
 refine ⟨by unfold Region.wanted; rw [hg],px (h g r w hC hO hd jy) ?_⟩
 rintro v w' ⟨hC,f,hf,hV⟩
 exact ⟨hC.nil,f,fun b hb=>⟨.inr (hf b hb).1,(hf b hb).2⟩,hV⟩
theorem jx.Mc {m i:Nat} {U:LL} {H:LN} {o:Oper} {V:List Nat→World→(Nat→Value)→Value→Prop} (ho:l[i]? = some o) (hs:S[i]? = some ⟨true,V⟩) (hg:o.guard=none)
  (h:∀ (g:Nat→List Nat) (r:NV) (w:World),ak H w0 w→(∀ j∈(bu l).getD i [],Old l S j r)→(∀ j,rD l U m i j=true→vh l S j g r w)→(∀ t,(∀ j,j < m→bh l j≠some t)→r t=r0 t)→
   ee P o r w fun v w'=>ak [] w w'∧∃ f,(∀ b∈f,w.heap.size≤b∧b < w'.heap.size)∧V f w' r v):jx P l m S U r0 w0 H i:=by
 intro o' s' br di g r w hC hV hO hd jy ui n9
 obtain rfl:o=o':=Option.some.inj (ho.symm.trans br)
 obtain rfl:_=s':=Option.some.inj (hs.symm.trans di)
 rw [if_pos rfl]
 refine ⟨by unfold Region.wanted; rw [hg],px (h g r w hC hO hd jy) ?_⟩
 rintro v w' ⟨hC,f,hf,hV⟩
 exact ⟨hC.nil,f,fun b hb=>⟨.inr (hf b hb).1,(hf b hb).2⟩,hV⟩
def CW {α:Type} (T:ag α) (x:α):List Nat→World→Value→Prop:=fun f w v=>T.rep w.heap [v] x f∧f.Nodup
def XG (cs:LV) (e:TI) (n:Nat):List Nat→World→Value→Prop:=fun f w v=>∃ b,f=[b]∧v = .slice (some ⟨b,0,none⟩) n n∧Row w b cs e
def EH (a:LN) (l:LO) (s:fk):Prop:=∀ f F (w w':World) (r r':NV) v,ak F w w'→(∀ b∈f,b ∉ F)→(∀ j∈a,∀ t,bh l j=some t→r' t=r t)→s.V f w r v→s.V f w' r' v
theorem KO {a:LN} {b:Bool} {V:List Nat→World→Value→Prop} (h:∀ f F (w w':World) v,ak F w w'→(∀ b∈f,b ∉ F)→V f w v→V f w' v):EH a l ⟨b,pl V⟩:=
 fun f F w w' _ _ v hC hn _ hv=>h f F w w' v hC hn hv
theorem Iw {a:LN} {b:Bool} {u:Value}:EH a l ⟨b,pl fun _ _ v=>v=u⟩:=KO fun _ _ _ _ _ _ _ h=>h
theorem ee.own {α:Type} {T:ag α} {x:α} {o:Oper} {r:NV} {w:World} {f:FuncId} {args:Array Value} (h:(execOp (ev r) o).run P w = .ok (.enter f args) w)
  (hc:Calls P f args w fun e w'=>∃ (v:Value) (k:LN),e = .returned v∧ak [] w w'∧OE [] w.heap.size w' T [v] x k) :
  ee P o r w fun v w'=>ak [] w w'∧∃ f,(∀ b∈f,w.heap.size≤b∧b < w'.heap.size)∧CW T x f w' v:=by
 unfold ee
 rw [h]
 exact hc.mono fun e w' ⟨v,k,he,hC,ho⟩=>⟨v,he,hC,k,fun b hb=>⟨ho.fresh b hb,T.lt ho.1 b hb⟩,ho.1,ho.2.1⟩
theorem ee.made {α:Type} {T:ag α} {x:α} {o:Oper} {r:NV} {w:World} (h:∃ v w' f,(execOp (ev r) o).run P w = .ok (.value v) w'∧ak [] w w'∧OE [] w.heap.size w' T [v] x f) :
  ee P o r w fun v w'=>ak [] w w'∧∃ f,(∀ b∈f,w.heap.size≤b∧b < w'.heap.size)∧CW T x f w' v:=by
 obtain ⟨v,w',f,hr,hC,ho⟩:=h
 unfold ee
 rw [hr]
 exact ⟨hC,f,fun b hb=>⟨ho.fresh b hb,T.lt ho.1 b hb⟩,ho.1,ho.2.1⟩
theorem tO {f g:LN} (h1:f.Nodup) (h2:g.Nodup) (d:ql f g):(f++g).Nodup:=List.nodup_append.2 ⟨h1,h2,fun a ha _ hb sH=>d a ha (sH ▸ hb)⟩
theorem ee.uU {α:Type} {E:ag α} {F f:LN} {t e et:TI} {s x:OO} {i:TypeInfo} {z:Value} {sv u:Value} {xs:List α} {y:α} {b:Nat} {r:NV} {w:World} {d:Option Nat} {ty:TI} {pos:String} {af:Array Edge}
  (ht:P.underlying t=some (.slice e)) (hi:P.info? e=some i) (hz:i.zero=some z) (hs:i.size=1) (hE:E.size=1) (w9:z.oneCell'=true)
  (tN:ev r s=sv) (hO:CW (aI e E) xs f w sv) (hF:∀ b∈f,b∈F) (hx:ev r x = .slice (some ⟨b,0,none⟩) 1 1) (bb:Row w b [u] et) (hy:E.rep w.heap [u] y [])
  (hb:(xs.length+1) * i.bytes≤140737488355328) (wm:xs.length+1≤maxLen) :
  ee P ⟨d,.call ⟨.builtin .append,#[s,x],#[t,t]⟩,ty,pos,af,none⟩ r w fun v w'=>ak F w w'∧∃ f',(∀ b∈f',(b∈F∨w.heap.size≤b)∧b < w'.heap.size)∧CW (aI e E) (xs++[y]) f' w' v:=by
 obtain ⟨v,w',f',h,hC,df,cw,cq⟩:=o9 (d:=d) (ty:=ty) (pos:=pos) (af:=af) (g:=none) (ys:=[y]) ht hi hz (by rw [hs,hE]) (by rw [cells_one w9,hE]; rfl) tN hO.1 hO.2 hx bb.at (qv hy) (fun _ h=>nomatch h) (by simp) hb wm
 unfold ee
 rw [h]
 refine ⟨hC.mono hF,f',fun b hb=>⟨?_,ag.lt _ df b hb⟩,df,cq List.nodup_nil⟩
 rcases cw b hb with h | h | h
 ·exact .inl (hF b h)
 ·cases h
 ·exact .inr h
theorem ee.Es {t e:TI} {i:TypeInfo} {z u:Value} {x:OO} {r:NV} {w:World} {d:Option Nat} {ty:TI} {pos:String} {af:Array Edge} (ht:P.underlying t=some (.slice e)) (hi:P.info? e=some i) (hz:i.zero=some z)
  (hs:i.size=1) (hx:ev r x=u) (hv:u.oneCell'=true) :
  ee P ⟨d,.buildSlice t 1 #[(0,x)],ty,pos,af,none⟩ r w fun v w'=>ak [] w w'∧∃ f,(∀ b∈f,w.heap.size≤b∧b < w'.heap.size)∧XG [u] e 1 f w' v:=by
 unfold ee
 rw [HK ht hi hz hs (by rw [hx]; exact hv),hx]
 exact ⟨ak.alloc _ _ _,[w.heap.size],fun b hb=>by rw [List.mem_singleton.1 hb]; simp,w.heap.size,rfl,rfl,heap_alloc_new w _⟩
end
end Go.Li
