/- A region that draws its order, whatever it holds: its head in any order, its tail one behind the other. No condition. -/
import Derived.Test.YtbhhmalgcnhniaaGreatLf
import Derived.Still
namespace Go.Li
open Go
def l9 (acc:LL) (o:Oper):List (List Nat):=
 acc++[(o.after.toList.filter (Region.binds .any)).flatMap fun e=>e.on :: acc.getD e.on []]
def cb (l:LO):List (List Nat):=l.foldl l9 []
structure ir where
 b:Bool
 V:List Nat→World→(Nat→Value)→Value→Prop
abbrev pl (V:List Nat→World→Value→Prop):List Nat→World→(Nat→Value)→Value→Prop:=fun f w _ v=>V f w v
def nv (P:Program) (n:Nat) (l:LO) (Q:Exit→(Nat→Value)→World→Prop) (r:NV) (w:World):Prop:=
 ∀ a:Act,a.tmps.size=n→a.defers=[]→cn a=r→wpAny P .any l.toArray (fun e a' w'=>a'.tmps.size=n∧a'.defers=[]∧Q e (cn a') w') l.toArray.size (Array.replicate l.toArray.size false) a { w with drawn:=w.drawn+1 }
theorem nv.W {P:Program} {n id:Nat} {l:LO} {Q:Exit→(Nat→Value)→World→Prop} {r:NV} {w:World} (hm:P.follows .mixedOrders=true) (h:nv P n l Q r w):W P n (.region id l.toArray true) Q r w:=
 fun a h1 h2 h3=>wp_region_any hm (h a h1 h2 h3)
def BC (π:LN) (o:Oper):Oper:=⟨o.dst,o.op,o.type,o.pos,(o.after.toList.map fun e=>⟨π.getD e.on 0,e.ground⟩).toArray,o.guard⟩
def pg (l:LO) (σ π:LN):List Oper:=σ.map fun k=>BC π (l.getD k default)
def N6 (l:LO) (σ π:LN):Bool:=
 Nat.beq σ.length l.length && Nat.beq π.length l.length &&
 ((List.range l.length).all fun i=>Nat.blt (π.getD i 0) l.length && Nat.beq (σ.getD (π.getD i 0) 0) i && Nat.blt (σ.getD i 0) l.length && Nat.beq (π.getD (σ.getD i 0) 0) i) &&
 l.all fun o=>o.guard.isNone && o.after.toList.all fun e=>Nat.blt e.on l.length
theorem Uf {P:Program} {Q:Exit→Act→World→Prop} {π:LN} {o:Oper} {a:Act} {w:World} {K:Act→World→Prop}:(BC π o).wp P a w K Q=o.wp P a w K Q:=by
 cases o; rfl
theorem Ov {P:Program} {π:LN} {o:Oper} {a:Act} {w:World}:(BC π o).asks P a w=o.asks P a w:=by
 cases o; rfl
section
variable {P:Program} {l:LO} {σ π:LN} (h:N6 l σ π=true)
include h
theorem CT:σ.length=l.length∧π.length=l.length∧(∀ i,i < l.length→π.getD i 0 < l.length∧σ.getD (π.getD i 0) 0=i∧σ.getD i 0 < l.length∧π.getD (σ.getD i 0) 0=i)∧∀ o∈l,o.guard=none∧∀ e∈o.after.toList,e.on < l.length:=by
 unfold N6 at h
 simp only [Bool.and_eq_true,List.all_eq_true,List.mem_range] at h
 obtain ⟨⟨⟨h1,h2⟩,h3⟩,h4⟩:=h
 refine ⟨Nat.eq_of_beq_eq_true h1,Nat.eq_of_beq_eq_true h2,fun i hi=>?_,fun o ho=>?_⟩
 ·obtain ⟨⟨⟨a,b⟩,c⟩,d⟩:=h3 i hi
  exact ⟨Nat.lt_of_succ_le (Nat.le_of_ble_eq_true a),Nat.eq_of_beq_eq_true b,Nat.lt_of_succ_le (Nat.le_of_ble_eq_true c),Nat.eq_of_beq_eq_true d⟩
 ·obtain ⟨a,b⟩:=h4 o ho
  exact ⟨by simpa using a,fun e he=>Nat.lt_of_succ_le (Nat.le_of_ble_eq_true (b e he))⟩
theorem IC:(pg l σ π).length=l.length:=by unfold pg; rw [List.length_map]; exact (CT h).1
theorem ID {i:Nat} {o:Oper} (ho:l[i]? = some o):(pg l σ π)[π.getD i 0]? = some (BC π o):=by
 obtain ⟨h1,_,h3,_⟩:=CT h
 have hi:=(List.getElem?_eq_some_iff.1 ho).1
 obtain ⟨a,b,_,_⟩:=h3 i hi
 unfold pg
 rw [List.getElem?_map,List.getElem?_eq_getElem (by omega)]
 have e:σ[π.getD i 0]'(by omega)=i:=by
  rw [List.getD_eq_getElem?_getD,List.getElem?_eq_getElem (by omega)] at b
  simpa using b
 simp only [Option.map_some,Option.some.injEq]
 rw [e,List.getD_eq_getElem?_getD,ho]; rfl
theorem LZ {Q:Exit→Act→World→Prop}:∀ (fuel:Nat) (L L':Array Bool) (a:Act) (w:World),L.size=l.length→L'.size=l.length→(∀ i,i < l.length→L'.getD (π.getD i 0) true=L.getD i true)→
  wpAny P .any (pg l σ π).toArray Q fuel L' a w→wpAny P .any l.toArray Q fuel L a w:=by
 obtain ⟨h1,h2,h3,h4⟩:=CT h
 have gd:∀ {L:Array Bool} {i:Nat} (b:Bool),L.size=l.length→i < l.length→L.getD i b=L.getD i true:=fun {L i} b hs hi=>by
  have:i < L.size:=by omega
  simp [Array.getD,this]
 have mz:∀ (L L':Array Bool),L.size=l.length→L'.size=l.length→(∀ i,i < l.length→L'.getD (π.getD i 0) true=L.getD i true)→∀ i,i < l.length→(i∈Region.ready .any l.toArray L↔π.getD i 0∈Region.ready .any (pg l σ π).toArray L'):=by
  intro L L' hs fc hL i hi
  rw [mem_ready,mem_ready,hL i hi]
  have ho:l[i]? = some (l[i]'hi):=List.getElem?_eq_getElem hi
  have cj:=ID h ho
  have hg:=h4 _ (List.mem_of_getElem? ho)
  constructor
  ·rintro ⟨g1,o,g2,g3⟩
   refine ⟨g1,BC π l[i],by simpa using cj,fun e he hb=>?_⟩
   have eo:l[i]=o:=by simpa [ho] using g2
   simp only [BC,List.mem_toArray,List.mem_map] at he
   obtain ⟨e0,Yl,rfl⟩:=he
   have av:=hg.2 e0 Yl
   have:=g3 e0 (by rw [← eo]; simpa using Yl) hb
   rw [gd false fc (h3 _ av).1,hL _ av,← gd false hs av]; exact this
  ·rintro ⟨g1,o,g2,g3⟩
   refine ⟨g1,l[i],by simp,fun e he hb=>?_⟩
   have eo:BC π l[i]=o:=by
    have:(pg l σ π)[π.getD i 0]? = some o:=by simpa using g2
    rw [cj] at this
    exact Option.some.inj this
   have av:=hg.2 e (by simpa using he)
   have:=g3 ⟨π.getD e.on 0,e.ground⟩ (by rw [← eo]; simp only [BC,List.mem_toArray,List.mem_map]; exact ⟨e,by simpa using he,rfl⟩) hb
   rw [gd false fc (h3 _ av).1,hL _ av,← gd false hs av] at this; exact this
 have back:∀ (L L':Array Bool),L.size=l.length→L'.size=l.length→(∀ i,i < l.length→L'.getD (π.getD i 0) true=L.getD i true)→Region.ready .any l.toArray L=[]→Region.ready .any (pg l σ π).toArray L'=[]:=by
  intro L L' hs fc hL he
  rw [List.eq_nil_iff_forall_not_mem]
  intro k hk
  have CB:k < l.length:=by
   obtain ⟨_,o,g2,_⟩:=mem_ready.1 hk
   have:(pg l σ π)[k]? = some o:=by simpa using g2
   have:=(List.getElem?_eq_some_iff.1 this).1
   rwa [IC h] at this
  obtain ⟨_,_,c,d⟩:=h3 k CB
  have:=(mz L L' hs fc hL (σ.getD k 0) c).2 (by rw [d]; exact hk)
  rw [he] at this
  exact nomatch this
 intro fuel
 induction fuel with
 | zero=>
  intro L L' a w hs fc hL hh
  refine ⟨?_,hh.2⟩
  rw [List.eq_nil_iff_forall_not_mem]
  intro i hi
  have qY:i < l.length:=by
   obtain ⟨_,o,g2,_⟩:=mem_ready.1 hi
   have:l[i]? = some o:=by simpa using g2
   exact (List.getElem?_eq_some_iff.1 this).1
  have:=(mz L L' hs fc hL i qY).1 hi
  rw [hh.1] at this
  exact nomatch this
 | succ fuel ih=>
  intro L L' a w hs fc hL hh
  refine ⟨fun he=>hh.1 (back L L' hs fc hL he),fun i hi=>?_⟩
  have qY:i < l.length:=by
   obtain ⟨_,o,g2,_⟩:=mem_ready.1 hi
   have:l[i]? = some o:=by simpa using g2
   exact (List.getElem?_eq_some_iff.1 this).1
  have ho:l[i]? = some (l[i]'qY):=List.getElem?_eq_getElem qY
  have hg:=h4 _ (List.mem_of_getElem? ho)
  have L5:=hh.2 _ ((mz L L' hs fc hL i qY).1 hi)
  have next:∀ a w,wpAny P .any (pg l σ π).toArray Q fuel (L'.setIfInBounds (π.getD i 0) true) a w→wpAny P .any l.toArray Q fuel (L.setIfInBounds i true) a w:=fun a w=>ih _ _ a w (by simpa using hs) (by simpa using fc) fun j hj=>by
   have hpj:=(h3 j hj).1
   have hpi:=(h3 i qY).1
   by_cases e:i=j
   ·subst e
    rw [Array.getD_eq_getD_getElem?,Array.getD_eq_getD_getElem?,Array.getElem?_setIfInBounds_self_of_lt (by omega),Array.getElem?_setIfInBounds_self_of_lt (by omega)]
   ·have e':π.getD i 0≠π.getD j 0:=fun q=>e (by rw [← (h3 i qY).2.1,q,(h3 j hj).2.1])
    have h5:=hL j hj
    have q1:(L'.setIfInBounds (π.getD i 0) true).getD (π.getD j 0) true=L'.getD (π.getD j 0) true:=by
     rw [Array.getD_eq_getD_getElem?,Array.getD_eq_getD_getElem?,Array.getElem?_setIfInBounds_ne e']
    have q2:(L.setIfInBounds i true).getD j true=L.getD j true:=by
     rw [Array.getD_eq_getD_getElem?,Array.getD_eq_getD_getElem?,Array.getElem?_setIfInBounds_ne e]
    rw [q1,q2,h5]
  have ga:(l.toArray)[i]? = some (l[i]'qY):=by simp
  have gb:((pg l σ π).toArray)[π.getD i 0]? = some (BC π (l[i]'qY)):=by simpa using ID h ho
  unfold wpOp at L5 ⊢
  rw [gb] at L5
  rw [ga]
  have w1:Region.wanted (l[i]'qY) (yielded l.toArray a.tmps)=true:=by unfold Region.wanted; rw [hg.1]
  have w2:Region.wanted (BC π (l[i]'qY)) (yielded (pg l σ π).toArray a.tmps)=true:=by unfold Region.wanted; show (match (l[i]'qY).guard with | none=>true | some (j,want)=>_)=true; rw [hg.1]
  simp only [w2,if_true] at L5
  simp only [w1,if_true]
  rw [Uf,Ov] at L5
  exact L5.imp (fun g=>Oper.wp_mono next g) id
theorem nv.prm {n:Nat} {Q:Exit→(Nat→Value)→World→Prop} {r:NV} {w:World} (hw:nv P n (pg l σ π) Q r w):nv P n l Q r w:=by
 have hl:=IC h
 obtain ⟨_,_,h3,_⟩:=CT h
 intro a a1 a2 a3
 have:=hw a a1 a2 a3
 rw [show (pg l σ π).toArray.size=l.toArray.size by simpa using hl] at this
 refine LZ h _ _ _ a _ (by simp) (by simp) (fun i hi=>?_) this
 have hq:=(h3 i hi).1
 rw [List.getD_eq_getElem?_getD] at hq
 simp [Array.getD,hi,hq]
end
section
variable {P:Program} {n:Nat} {Q:Exit→(Nat→Value)→World→Prop} {r0:NV} {w0:World} {l:LO} {S:List ir}
def bw (l:LO) (j:Nat):Option Nat:=(l[j]?).bind (·.dst)
def vL (l:LO) (S:List ir) (j:Nat) (g:Nat→List Nat) (r:NV) (w:World):Prop:=
 (∀ d,bw l j=some d→match S[j]? with
  | some s=>if s.b then s.V (g j) w r (r d) else r d=undef
  | none=>True)∧(bw l j=none→∀ s,S[j]? = some s→s.b=true→∃ x,s.V (g j) w r x)
def Old (l:LO) (S:List ir) (j:Nat) (r:NV):Prop:=∀ d,bw l j=some d→∀ s,S[j]? = some s→if s.b then ∃ f w,s.V f w r (r d) else r d=undef
structure vM (l:LO) (m:Nat) (S:List ir) (U:LL) (r0:NV) (w0:World) (H:LN) (L:Nat→Prop) (g:Nat→List Nat) (r:NV) (w:World):Prop where
 lq:ao H w0 w
 z8:(∀ k,L k→l.length ∉ U.getD k [])→ao [] w0 w∧g l.length=H
 vg:∀ b∈g l.length,b∈H
 vd:∀ j,L j→qH (g j) (g l.length)
 done:∀ j,L j→(∀ k,L k→j ∉ U.getD k [])→vL l S j g r w
 rW:∀ j,L j→Old l S j r
 other:∀ t,(∀ j,j < m→bw l j≠some t)→r t=r0 t
 fresh:∀ j,L j→∀ b∈g j,(w0.heap.size≤b∨(b∈H∧∃ k,L k∧l.length∈U.getD k []))∧b < w.heap.size
 vh:∀ i j,L i→L j→i≠j→qH (g i) (g j)
def sf (l:LO) (U:LL) (m i j:Nat):Bool:=
 ((cb l).getD i []).contains j && (List.range m).all fun k=>!((U.getD k []).contains j) || Nat.beq k i || ((cb l).getD k []).contains i
def qh (g:Nat→List Nat) (us:LN):List Nat:=us.flatMap g
def yD (l:LO) (U:LL) (m i:Nat):Bool:=(List.range m).all fun k=>!((U.getD k []).contains l.length) || Nat.beq k i || ((cb l).getD k []).contains i
def kh (P:Program) (l:LO) (m:Nat) (S:List ir) (U:LL) (r0:NV) (w0:World) (H:LN) (i:Nat):Prop:=
 ∀ o s,l[i]? = some o→S[i]? = some s→∀ (g:Nat→List Nat) (r:NV) (w:World),ao H w0 w→(yD l U m i=true→ao [] w0 w∧g l.length=H∧∀ j∈(cb l).getD i [],∀ b∈g j,w0.heap.size≤b)→(∀ j∈(cb l).getD i [],Old l S j r)→(∀ j,sf l U m i j=true→vL l S j g r w)→(∀ t,(∀ j,j < m→bw l j≠some t)→r t=r0 t)→
  (∀ i'∈(cb l).getD i [],∀ j'∈(cb l).getD i [],i'≠j'→qH (g i') (g j'))→(∀ j∈(cb l).getD i [],∀ b∈g j,(w0.heap.size≤b∨b∈H)∧b < w.heap.size)→
  if s.b then Region.wanted o (yl l r)=true∧ig P o r w fun v w'=>ao (qh g (U.getD i [])) w w'∧∃ f,(∀ b∈f,(b∈qh g (U.getD i [])∨w.heap.size≤b)∧b < w'.heap.size)∧s.V f w' r v
  else Region.wanted o (yl l r)=false
def z6:List Nat→Bool
 | []=>true
 | x :: l=>!(l.contains x) && z6 l
theorem xu:∀ {l:LN},z6 l=true→l.Nodup
 | [],_=>List.nodup_nil
 | x :: l,h=>by
  simp only [z6,Bool.and_eq_true,Bool.not_eq_true',List.contains_eq_mem,decide_eq_false_iff_not] at h
  exact List.nodup_cons.2 ⟨h.1,xu h.2⟩
def yF (l:LO) (m:Nat) (Z:LN):Bool:=
 ((List.range l.length).all fun i=>((l.getD i default).after.toList.filter (Region.binds .any)).all fun e=>Nat.blt e.on i) &&
 ((List.range l.length).all fun i=>Nat.blt i m || (List.range i).all fun j=>((cb l).getD i []).contains j || Z.contains j) &&
 z6 ((l.take m).filterMap (·.dst))
def Ug (o:Oper):Bool:=match o.op with | .move _=>true | .extract _ _=>true | _=>false
def Ow (l:LO) (i:Nat):Array Bool:=((List.range l.length).map fun j=>((cb l).getD i []).contains j).toArray
def F7 (l:LO) (m:Nat) (Z:LN):Bool:=
 Region.noSelect l.toArray && Z.all fun i=>Nat.blt i m && Region.free .any l.toArray (Ow l i) i &&
  match l[i]? with
  | some o=>Ug o && o.guard.isNone
  | none=>false
theorem L6 {l:LO} {L:Array Bool} {i:Nat} (hL:∀ j∈(cb l).getD i [],L.getD j false=true) (h:Region.free .any l.toArray (Ow l i) i=true):Region.free .any l.toArray L i=true:=by
 unfold Region.free at h ⊢
 cases ho:(l.toArray)[i]? with
 | none=>rw [ho] at h; cases h
 | some oi=>
  rw [ho] at h
  simp only [List.all_eq_true,List.mem_range,Bool.or_eq_true] at h ⊢
  intro j hj
  rcases h j hj with (h1 | h1) | h1
  ·exact .inl (.inl h1)
  ·have av:j < l.length:=by simpa using hj
   have hm:j∈(cb l).getD i []:=by
    unfold Ow at h1
    have:((List.range l.length).map fun j=>((cb l).getD i []).contains j)[j]? = some (((cb l).getD i []).contains j):=by
     rw [List.getElem?_map,List.getElem?_range av]; rfl
    rw [Array.getD_eq_getD_getElem?,List.getElem?_toArray,this] at h1
    simpa using h1
   refine .inl (.inr ?_)
   have h2:=hL j hm
   rcases Nat.lt_or_ge j L.size with h' | h'
   ·simp [h'] at h2 ⊢; exact h2
   ·simp [Array.getElem?_eq_none h'] at h2
  ·exact .inr h1
theorem HJ {P:Program} {d:Option Nat} {x:OO} {k:Nat} {ty:TI} {pos:String} {ah:Array Edge} {g:Option (Nat×Bool)} {r:NV} {w:World} {K:Value→World→Prop} (h:ig P ⟨d,.extract x k,ty,pos,ah,g⟩ r w K) :
  ∃ v,(∀ w',(execOp (ev r) ⟨d,.extract x k,ty,pos,ah,g⟩).run P w' = .ok (.value v) w')∧K v w:=by
 have e:execOp (ev r) ⟨d,.extract x k,ty,pos,ah,g⟩ = (Instr.extract (ev r x) k>>=fun v=>pure (.value v)):=rfl
 unfold ig at h
 rw [e] at h ⊢
 generalize ev r x=u at h ⊢
 cases u
 case tuple vs=>
  cases hv:vs[k]? with
  | none=>simp [Instr.extract,hv,stuck,Result.andThen,Sem.run] at h
  | some v=>
   refine ⟨v,fun w'=>?_,?_⟩
   ·simp [Instr.extract,hv]
   ·simpa [Instr.extract,hv] using h
 all_goals simp [Instr.extract,stuck,Result.andThen,Sem.run] at h
theorem yK (l:LO):∀ (i:Nat) (o:Oper),l[i]? = some o→(cb l)[i]? = some ((o.after.toList.filter (Region.binds .any)).flatMap fun e=>e.on :: ((cb l).take i).getD e.on []):=by
 have key:∀ (l:LO) (acc:LL),(l.foldl l9 acc).length=acc.length+l.length∧(∀ j,j < acc.length→(l.foldl l9 acc)[j]? = acc[j]?)∧
   ∀ i o,l[i]? = some o→(l.foldl l9 acc)[acc.length+i]? = some ((o.after.toList.filter (Region.binds .any)).flatMap fun e=>e.on :: ((l.foldl l9 acc).take (acc.length+i)).getD e.on []):=by
  intro l
  induction l with
  | nil=>intro acc; exact ⟨rfl,fun _ _=>rfl,fun i o h=>by simp at h⟩
  | cons x l ih=>
   intro acc
   obtain ⟨h1,h2,h3⟩:=ih (l9 acc x)
   have hl:(l9 acc x).length=acc.length+1:=by simp [l9]
   have hold:∀ j,j < acc.length→(l9 acc x)[j]? = acc[j]?:=fun j hj=>by simp only [l9]; rw [List.getElem?_append_left hj]
   refine ⟨by simp only [List.foldl_cons,h1,hl,List.length_cons]; omega,fun j hj=>?_,?_⟩
   ·rw [List.foldl_cons,h2 j (by omega),hold j hj]
   ·intro i o hi
    cases i with
    | zero=>
     simp at hi
     subst hi
     have Xm:(List.foldl l9 acc (x :: l)).take (acc.length+0)=acc:=by
      apply List.ext_getElem?
      intro j
      rw [Nat.add_zero,List.getElem?_take]
      split
      ·rename_i hj
       rw [List.foldl_cons,h2 j (by omega),hold j hj]
      ·rename_i hj
       rw [List.getElem?_eq_none (by omega)]
     rw [Xm]
     rw [Nat.add_zero,List.foldl_cons,h2 _ (by omega)]
     simp only [l9]
     rw [List.getElem?_append_right (Nat.le_refl _)]
     simp
    | succ i=>
     have:=h3 i o (by simpa using hi)
     rw [hl] at this
     rw [List.foldl_cons]
     rw [show acc.length+(i+1)=acc.length+1+i by omega]
     exact this
 intro i o hi
 have:=(key l []).2.2 i o hi
 simpa [cb] using this
theorem z7 (l:LO) (hb:∀ (i:Nat) (o:Oper),l[i]? = some o→∀ e∈o.after.toList.filter (Region.binds .any),e.on < i) :
  ∀ (i j:Nat),j∈(cb l).getD i []→j < i∧∃ o,l[i]? = some o∧∃ e∈o.after.toList.filter (Region.binds .any),j=e.on∨j∈(cb l).getD e.on []:=by
 intro i j hj
 cases ho:l[i]? with
 | none=>
  have hlen:(cb l).length=l.length:=by
   have:∀ (l:LO) (acc:LL),(l.foldl l9 acc).length=acc.length+l.length:=by
    intro l
    induction l with
    | nil=>intro acc; rfl
    | cons x l ih=>intro acc; rw [List.foldl_cons,ih]; simp [l9]; omega
   simpa [cb] using this l []
  rw [List.getD_eq_getElem?_getD,List.getElem?_eq_none (by rw [hlen]; exact List.getElem?_eq_none_iff.1 ho)] at hj
  simp at hj
 | some o=>
  have h:=yK l i o ho
  rw [List.getD_eq_getElem?_getD,h] at hj
  simp only [Option.getD_some,List.mem_flatMap,List.mem_cons] at hj
  obtain ⟨e,he,hj⟩:=hj
  have av:=hb i o ho e he
  have Uh:((cb l).take i).getD e.on []=(cb l).getD e.on []:=by
   rw [List.getD_eq_getElem?_getD,List.getD_eq_getElem?_getD,List.getElem?_take,if_pos av]
  rw [Uh] at hj
  refine ⟨?_,o,rfl,e,he,hj⟩
  rcases hj with rfl | hj
  ·exact av
  ·-- by the strong law below
   have:∀ (k i:Nat),i≤k→∀ j∈(cb l).getD i [],j < i:=by
    intro k
    induction k with
    | zero=>
     intro i hi j hj
     obtain rfl:i=0:=by omega
     cases ho:l[0]? with
     | none=>
      obtain rfl:l=[]:=by cases l with | nil=>rfl | cons=>simp at ho
      simp [cb] at hj
     | some o=>
      have h:=yK l 0 o ho
      rw [List.getD_eq_getElem?_getD,h] at hj
      simp only [Option.getD_some,List.mem_flatMap] at hj
      obtain ⟨e,he,_⟩:=hj
      exact absurd (hb 0 o ho e he) (Nat.not_lt_zero _)
    | succ k ih=>
     intro i hi j hj
     cases ho:l[i]? with
     | none=>
      have hlen:(cb l).length=l.length:=by
       have:∀ (l:LO) (acc:LL),(l.foldl l9 acc).length=acc.length+l.length:=by
        intro l
        induction l with
        | nil=>intro acc; rfl
        | cons x l ih=>intro acc; rw [List.foldl_cons,ih]; simp [l9]; omega
       simpa [cb] using this l []
      rw [List.getD_eq_getElem?_getD,List.getElem?_eq_none (by rw [hlen]; exact List.getElem?_eq_none_iff.1 ho)] at hj
      simp at hj
     | some o=>
      have h:=yK l i o ho
      rw [List.getD_eq_getElem?_getD,h] at hj
      simp only [Option.getD_some,List.mem_flatMap,List.mem_cons] at hj
      obtain ⟨e,he,hj⟩:=hj
      have av:=hb i o ho e he
      rcases hj with rfl | hj
      ·exact av
      ·have Uh:((cb l).take i).getD e.on []=(cb l).getD e.on []:=by
        rw [List.getD_eq_getElem?_getD,List.getD_eq_getElem?_getD,List.getElem?_take,if_pos av]
       rw [Uh] at hj
       have:=ih e.on (by omega) j hj
       omega
   exact Nat.lt_trans (this e.on e.on (Nat.le_refl _) j hj) av
theorem CF (l:LO) (hb:∀ (i:Nat) (o:Oper),l[i]? = some o→∀ e∈o.after.toList.filter (Region.binds .any),e.on < i) {j k:Nat} (hj:j∈(cb l).getD k []):∀ {i:Nat},k∈(cb l).getD i []→j∈(cb l).getD i []:=by
 intro i
 induction i using Nat.strongRecOn with
 | _ i ih=>
  intro hk
  obtain ⟨_,o,ho,e,he,Ui⟩:=z7 l hb i k hk
  have av:=hb i o ho e he
  have h2:j∈(cb l).getD e.on []:=Ui.elim (fun h=>h ▸ hj) (fun h=>ih e.on av h)
  have h:=yK l i o ho
  rw [List.getD_eq_getElem?_getD,h]
  simp only [Option.getD_some,List.mem_flatMap,List.mem_cons]
  refine ⟨e,he,.inr ?_⟩
  rw [List.getD_eq_getElem?_getD,List.getElem?_take,if_pos av,← List.getD_eq_getElem?_getD]
  exact h2
theorem getD_both {Gu:Array Bool} {i:Nat} (h:Gu.getD i true=false):Gu.getD i false=false:=by
 rcases Nat.lt_or_ge i Gu.size with h' | h'
 ·simp [h'] at h ⊢; exact h
 ·simp [Array.getElem?_eq_none h'] at h
theorem getD_replicate_false (m j:Nat):(Array.replicate m false).getD j false=false:=by
 rcases Nat.lt_or_ge j m with h | h
 ·simp [h]
 ·simp [h]
theorem Ek:∀ (l:LO),(l.filterMap (·.dst)).Nodup→∀ i j d,bw l i=some d→bw l j=some d→i=j:=by
 intro l
 induction l with
 | nil=>intro _ i j d h; simp [bw] at h
 | cons o l ih=>
  intro hn i j d hi hj
  have j9:∀ k,bw (o :: l) (k+1)=some d→d∈l.filterMap (·.dst):=by
   intro k hk
   simp only [bw,List.getElem?_cons_succ] at hk
   cases ho:l[k]? with
   | none=>rw [ho] at hk; cases hk
   | some x=>rw [ho] at hk; exact List.mem_filterMap.2 ⟨x,List.mem_of_getElem? ho,hk⟩
  have h0:∀ e,o.dst=some e→e ∉ l.filterMap (·.dst)∧(l.filterMap (·.dst)).Nodup:=by
   intro e he
   rw [List.filterMap_cons_some he] at hn
   exact List.nodup_cons.1 hn
  have r7:(l.filterMap (·.dst)).Nodup:=by
   cases hd:o.dst with
   | none=>rwa [List.filterMap_cons_none hd] at hn
   | some e=>exact (h0 e hd).2
  cases i with
  | zero=>
   cases j with
   | zero=>rfl
   | succ j=>exact absurd (j9 j hj) (h0 d (by simpa [bw] using hi)).1
  | succ i=>
   cases j with
   | zero=>exact absurd (j9 i hi) (h0 d (by simpa [bw] using hj)).1
   | succ j=>rw [ih r7 i j d (by simpa [bw] using hi) (by simpa [bw] using hj)]
theorem ll {m j:Nat} (hj:j < m):bw (l.take m) j=bw l j:=by
 unfold bw
 rw [List.getElem?_take,if_pos hj]
theorem qA {o:Oper} {r:NV} {w:World} {K K':Value→World→Prop} (h:ig P o r w K) (hk:∀ v w',K v w'→K' v w'):ig P o r w K':=by
 unfold ig at h ⊢
 cases hr:(execOp (ev r) o).run P w with
 | ok x w'=>
  rw [hr] at h
  cases x with
  | value v=>exact hk _ _ h
  | skip=>exact hk _ _ h
  | enter f args=>exact h.mono fun e Ec ⟨v,he,hv⟩=>⟨v,he,hk _ _ hv⟩
  | _=>exact h
 | _=>rw [hr] at h; exact h.elim
theorem Lt {m:Nat} {Z:LN} (h:yF l m Z=true):∀ (i:Nat) (o:Oper),l[i]? = some o→∀ e∈o.after.toList.filter (Region.binds .any),e.on < i:=by
 simp only [yF,Bool.and_eq_true,List.all_eq_true,List.mem_range] at h
 intro i o ho e he
 have hi:i < l.length:=(List.getElem?_eq_some_iff.1 ho).1
 have:=h.1.1 i hi e (by rw [List.getD_eq_getElem?_getD,ho]; exact he)
 exact Nat.lt_of_succ_le (Nat.le_of_ble_eq_true this)
theorem Tp {m:Nat} {U:LL} {Z H:LN} {N:Nat→Prop} (hd:dp n l=true) (hA:yF l m Z=true) (hZ:F7 l m Z=true) (hp:∀ c r w,Q (.panic c) r w→False) (F8:m≤l.length)
  (hS:S.length=m)
  (hH:∀ b∈H,b < w0.heap.size) (hU:((List.range m).all fun i=>(U.getD i []).all fun u=>Nat.beq u l.length || ((cb l).getD i []).contains u)=true)
  (hN:∀ b,N b→b < w0.heap.size∧b ∉ H)
  (qi:∀ (i:Nat) (s:ir),S[i]? = some s→∀ f F (w w':World) (r r':NV) v,ao F w w'→(∀ b∈f,b ∉ F)→(∀ b∈F,¬ N b)→(∀ j∈(cb l).getD i [],∀ t,bw l j=some t→r' t=r t)→s.V f w r v→s.V f w' r' v)
  (Ob:∀ i,i < m→kh P l m S U r0 w0 H i)
  (next:∀ g r w,vM l m S U r0 w0 H (fun j=>j < m) g r w→WL P l (l.drop m) r w (Q .normal)) :
  nv P n l Q r0 w0:=by
 simp only [yF,Bool.and_eq_true,List.all_eq_true,List.mem_range,Bool.or_eq_true] at hA
 obtain ⟨⟨Tz,TA⟩,TB⟩:=hA
 have vm:∀ (i:Nat) (o:Oper),l[i]? = some o→∀ e∈o.after.toList.filter (Region.binds .any),e.on < i:=by
  intro i o ho e he
  have hi:i < l.length:=(List.getElem?_eq_some_iff.1 ho).1
  have:=Tz i hi e (by rw [List.getD_eq_getElem?_getD,ho]; exact he)
  exact Nat.lt_of_succ_le (Nat.le_of_ble_eq_true this)
 have DL:∀ i,m≤i→i < l.length→∀ j,j < i→j∈(cb l).getD i []∨j∈Z:=by
  intro i h1 h2 j hj
  rcases TA i h2 with h | h
  ·exact absurd (Nat.lt_of_succ_le (Nat.le_of_ble_eq_true h)) (Nat.not_lt.2 h1)
  ·have:=h j hj
   simpa using this
 simp only [F7,Bool.and_eq_true,List.all_eq_true] at hZ
 obtain ⟨Ql,hZ⟩:=hZ
 have Uj:∀ z∈Z,z < m:=fun z hz=>Nat.lt_of_succ_le (Nat.le_of_ble_eq_true (hZ z hz).1.1)
 have TC:∀ i,i < m→∀ u∈U.getD i [],u=l.length∨u∈(cb l).getD i []:=by
  intro i hi u hu
  simp only [List.all_eq_true,List.mem_range] at hU
  have:=hU i hi u hu
  simpa using this
 have dw:=Ek _ (xu TB)
 have pY:=z7 l vm
 intro a h1 h2 h3
 let Cl (L:Array Bool):Prop:=L.size=l.length∧∀ j o,l[j]? = some o→L.getD j false=true→∀ e∈o.after.toList.filter (Region.binds .any),L.getD e.on false=true
 have jr:∀ L,Cl L→∀ i j,(∀ o,l[i]? = some o→∀ e∈o.after.toList.filter (Region.binds .any),L.getD e.on false=true)→j∈(cb l).getD i []→L.getD j false=true:=by
  intro L hL i
  induction i using Nat.strongRecOn with
  | _ i ih=>
   intro j hi hj
   obtain ⟨_,o,ho,e,he,Gc⟩:=pY i j hj
   have hl:=hi o ho e he
   rcases Gc with rfl | Gc
   ·exact hl
   ·exact ih e.on (vm i o ho e he) j (fun o' cj e' rC=>hL.2 _ _ cj hl e' rC) Gc
 have mz:∀ L i,i∈Region.ready .any l.toArray L→L.getD i true=false∧∃ o,l[i]? = some o∧∀ e∈o.after.toList.filter (Region.binds .any),L.getD e.on false=true:=by
  intro L i hi
  obtain ⟨g1,o,ho,cq⟩:=mem_ready.1 hi
  refine ⟨g1,o,by simpa using ho,fun e he=>?_⟩
  have:=List.mem_filter.1 he
  exact cq e (by simpa using this.1) this.2
 have CH:∀ L i o,L.size=l.length→l[i]? = some o→L.getD i false=false→(∀ e∈o.after.toList.filter (Region.binds .any),L.getD e.on false=true)→i∈Region.ready .any l.toArray L:=by
  intro L i o hs ho hu cq
  refine mem_ready.2 ⟨?_,o,by simpa using ho,fun e he hb=>cq e (List.mem_filter.2 ⟨by simpa using he,hb⟩)⟩
  have hi:i < L.size:=by rw [hs]; exact (List.getElem?_eq_some_iff.1 ho).1
  simp [hi] at hu ⊢; exact hu
 have EX:∀ L i o,Cl L→l[i]? = some o→(∀ e∈o.after.toList.filter (Region.binds .any),L.getD e.on false=true)→Cl (L.setIfInBounds i true):=by
  intro L i o hL ho cq
  refine ⟨by rw [Array.size_setIfInBounds]; exact hL.1,fun j o' cj hj e he=>?_⟩
  by_cases qJ:i=j
  ·subst qJ
   have:o'=o:=Option.some.inj (cj.symm.trans ho)
   subst this
   exact getD_set_true (cq e he)
  ·rw [getD_set_ne false qJ] at hj
   exact getD_set_true (hL.2 j o' cj hj e he)
 have getSet:∀ (L:Array Bool) i j,L.size=l.length→i < l.length→((L.setIfInBounds i true).getD j false=true↔j=i∨L.getD j false=true):=by
  intro L i j hs hi
  by_cases qJ:i=j
  ·subst qJ
   simp [hs,hi]
  ·rw [getD_set_ne false qJ]
   constructor
   ·exact .inr
   ·rintro (h | h)
    ·exact absurd h.symm qJ
    ·exact h
 have Ge:∀ (L:Array Bool) i,L.size=l.length→i < l.length→L.getD i false=false→(L.setIfInBounds i true).toList.count false+1=L.toList.count false:=by
  intro L i hs hi hu
  have r6:i < L.toList.length:=by simpa [hs] using hi
  have Bw:L.toList[i]=false:=by
   rw [Array.getElem_toList]
   simp [hs,hi] at hu
   exact hu
  rw [Array.toList_setIfInBounds,List.count_set r6,Bw]
  have:0 < L.toList.count false:=List.count_pos_iff.2 (by rw [← Bw]; exact List.getElem_mem r6)
  rw [if_pos (by rfl),if_neg (by decide)]
  omega
 have tail:∀ (d k fuel:Nat) (L:Array Bool) (a:Act) (w:World),l.length - k=d→m≤k→k≤l.length→Cl L→(∀ j,L.getD j false=true↔j < k)→L.toList.count false≤fuel→a.tmps.size=n→a.defers=[]→
   WL P l (l.drop k) (cn a) w (Q .normal)→wpAny P .any l.toArray (fun e a' w'=>a'.tmps.size=n∧a'.defers=[]∧Q e (cn a') w') fuel L a w:=by
  intro d
  induction d with
  | zero=>
   intro k fuel L a w hk hmk CB hL iT hf g1 g2 hW
   obtain rfl:k=l.length:=by omega
   rw [List.drop_length] at hW
   have qW:Region.ready .any l.toArray L=[]:=by
    apply List.eq_nil_iff_forall_not_mem.2
    intro i hi
    obtain ⟨q1,o,ho,_⟩:=mz L i hi
    have av:i < l.length:=(List.getElem?_eq_some_iff.1 ho).1
    have:=(iT i).2 av
    simp [hL.1,av] at q1 this
    rw [q1] at this; cases this
   cases fuel with
   | zero=>exact ⟨qW,g1,g2,hW⟩
   | succ fuel=>exact ⟨fun _=>⟨g1,g2,hW⟩,fun i hi=>by rw [qW] at hi; cases hi⟩
  | succ d ih=>
   intro k fuel L a w hk hmk CB hL iT hf g1 g2 hW
   have JS:k < l.length:=by omega
   obtain ⟨o,ho⟩ : ∃ o,l[k]? = some o:=⟨l[k],List.getElem?_eq_getElem JS⟩
   have Uk:L.getD k false=false:=by
    cases hb:L.getD k false with
    | false=>rfl
    | true=>exact absurd ((iT k).1 hb) (Nat.lt_irrefl _)
   have lh:k∈Region.ready .any l.toArray L:=CH L k o hL.1 ho Uk fun e he=>(iT _).2 (vm k o ho e he)
   have Xn:l.drop k=o :: l.drop (k+1):=by rw [List.drop_eq_getElem_cons JS]; congr 1; exact Option.some.inj ((List.getElem?_eq_getElem JS).symm.trans ho)
   rw [Xn] at hW
   have hc:=Ge L k hL.1 JS Uk
   cases fuel with
   | zero=>omega
   | succ fuel=>
    refine ⟨fun h=>(by rw [h] at lh; cases lh),fun i hi=>?_⟩
    obtain ⟨q1,oi,na,cq⟩:=mz L i hi
    have gn:i < l.length:=(List.getElem?_eq_some_iff.1 na).1
    have tu:L.getD i false=false:=getD_both q1
    have hik:i=k:=by
     rcases Nat.lt_trichotomy i k with h | h | h
     ·have:=(iT i).2 h; rw [tu] at this; cases this
     ·exact h
     ·have:=jr L hL i k (fun o' cj=>by have:o'=oi:=Option.some.inj (cj.symm.trans na); subst this; exact cq) ((DL i (by omega) gn k h).resolve_right fun hz=>absurd (Uj k hz) (by omega))
      rw [Uk] at this; cases this
    subst hik
    have LB:oi=o:=Option.some.inj (na.symm.trans ho)
    subst LB
    have En:∀ k',oi.dst=some k'→k' < a.tmps.size:=by
     intro k' rU
     have qb:oi∈l:=List.mem_of_getElem? na
     simp only [dp,List.all_eq_true] at hd
     have:=hd oi qb
     rw [rU] at this
     rw [g1]
     exact Nat.lt_of_succ_le (Nat.le_of_ble_eq_true this)
    have vQ:=EX L i oi hL na cq
    have vT:∀ j,(L.setIfInBounds i true).getD j false=true↔j < i+1:=by
     intro j
     rw [getSet L i j hL.1 gn,iT j]
     omega
    unfold wpOp
    rw [show (l.toArray)[i]? = some oi by simpa using na]
    simp only []
    rw [yH (by rw [g1]; exact hd)]
    rcases hW with ⟨hw,hW⟩ | ⟨hw,hW⟩
    ·rw [if_pos hw]
     exact .inl (hW.wp fun v w' hv=>ih (i+1) fuel _ _ _ (by omega) (by omega) (by omega) vQ vT (by omega) (by rw [kn]; exact g1) (by rw [jb]; exact g2) (by rw [l7 En]; exact hv))
    ·rw [if_neg (by rw [hw]; exact Bool.false_ne_true)]
     exact ih (i+1) fuel _ _ _ (by omega) (by omega) (by omega) vQ vT (by omega) (by rw [kn]; exact g1) (by rw [jb]; exact g2) (by rw [l7 En]; exact hW)
 have head:∀ (fuel:Nat) (L:Array Bool) (a:Act) (w:World) (g:Nat→List Nat),Cl L→(∀ j,L.getD j false=true→j < m)→L.toList.count false≤fuel→a.tmps.size=n→a.defers=[]→
   vM l m S U r0 w0 H (fun j=>L.getD j false=true) g (cn a) w→wpAny P .any l.toArray (fun e a' w'=>a'.tmps.size=n∧a'.defers=[]∧Q e (cn a') w') fuel L a w:=by
  intro fuel
  induction fuel with
  | zero=>
   intro L a w g hL tk hf g1 g2 inv
   have cq:∀ j,j < l.length→L.getD j false=true:=by
    intro j hj
    cases hb:L.getD j false with
    | true=>rfl
    | false=>have:=Ge L j hL.1 hj hb; omega
   have iT:∀ j,L.getD j false=true↔j < m:=fun j=>⟨tk j,fun h=>cq j (by omega)⟩
   refine tail _ m 0 L a w rfl (Nat.le_refl _) F8 hL iT hf g1 g2 (next g _ _ ?_)
   exact ⟨inv.lq,fun hk=>inv.z8 fun k vP=>hk k ((iT k).1 vP),inv.vg,fun j hj=>inv.vd j ((iT j).2 hj),fun j hj hk=>inv.done j ((iT j).2 hj) (fun k vP=>hk k ((iT k).1 vP)),fun j hj=>inv.rW j ((iT j).2 hj),inv.other,fun j hj b hb=>⟨(inv.fresh j ((iT j).2 hj) b hb).1.imp (fun h=>h) fun h=>⟨h.1,h.2.imp fun k hk=>⟨(iT k).1 hk.1,hk.2⟩⟩,(inv.fresh j ((iT j).2 hj) b hb).2⟩,fun i j hi hj=>inv.vh i j ((iT i).2 hi) ((iT j).2 hj)⟩
  | succ fuel ih=>
   intro L a w g hL tk hf g1 g2 inv
   by_cases cq:∀ j,j < m→L.getD j false=true
   ·have iT:∀ j,L.getD j false=true↔j < m:=fun j=>⟨tk j,cq j⟩
    refine tail _ m _ L a w rfl (Nat.le_refl _) F8 hL iT hf g1 g2 (next g _ _ ?_)
    exact ⟨inv.lq,fun hk=>inv.z8 fun k vP=>hk k ((iT k).1 vP),inv.vg,fun j hj=>inv.vd j ((iT j).2 hj),fun j hj hk=>inv.done j ((iT j).2 hj) (fun k vP=>hk k ((iT k).1 vP)),fun j hj=>inv.rW j ((iT j).2 hj),inv.other,fun j hj b hb=>⟨(inv.fresh j ((iT j).2 hj) b hb).1.imp (fun h=>h) fun h=>⟨h.1,h.2.imp fun k hk=>⟨(iT k).1 hk.1,hk.2⟩⟩,(inv.fresh j ((iT j).2 hj) b hb).2⟩,fun i j hi hj=>inv.vh i j ((iT i).2 hi) ((iT j).2 hj)⟩
   ·obtain ⟨j0,Qm,El⟩ : ∃ j,j < m∧L.getD j false=false:=by
     apply Classical.byContradiction
     intro qW
     apply cq
     intro j hj
     cases hb:L.getD j false with
     | true=>rfl
     | false=>exact absurd ⟨j,hj,hb⟩ qW
    have JG:∃ i,i∈Region.ready .any l.toArray L:=by
     have:∀ k,(∃ j,j < k∧j < m∧L.getD j false=false)→∃ i,i∈Region.ready .any l.toArray L:=by
      intro k
      induction k with
      | zero=>rintro ⟨j,h,_⟩; omega
      | succ k Cy=>
       rintro ⟨j,Lx,Aa,qX⟩
       by_cases u9:∃ j,j < k∧j < m∧L.getD j false=false
       ·exact Cy u9
       ·obtain rfl:j=k:=by
         apply Classical.byContradiction
         intro h
         exact u9 ⟨j,by omega,Aa,qX⟩
        have Em:j < l.length:=by omega
        refine ⟨j,CH L j l[j] hL.1 (List.getElem?_eq_getElem Em) qX fun e he=>?_⟩
        have av:=vm j _ (List.getElem?_eq_getElem Em) e he
        cases hb:L.getD e.on false with
        | true=>rfl
        | false=>exact absurd ⟨e.on,av,by omega,hb⟩ u9
     exact this (j0+1) ⟨j0,by omega,Qm,El⟩
    have main:∀ i oi,i < m→l[i]? = some oi→L.getD i false=false→(∀ e∈oi.after.toList.filter (Region.binds .any),L.getD e.on false=true)→
      (Region.wanted oi (yl l (cn a))=true∧ig P oi (cn a) w fun v w'=>wpAny P .any l.toArray (fun e a' w'=>a'.tmps.size=n∧a'.defers=[]∧Q e (cn a') w') fuel (L.setIfInBounds i true) (a.put oi.dst v) w')∨
      (Region.wanted oi (yl l (cn a))=false∧wpAny P .any l.toArray (fun e a' w'=>a'.tmps.size=n∧a'.defers=[]∧Q e (cn a') w') fuel (L.setIfInBounds i true) (a.put oi.dst undef) w):=by
     intro i oi tn na tu tv
     have gn:i < l.length:=(List.getElem?_eq_some_iff.1 na).1
     have mq:∀ o,l[i]? = some o→∀ e∈o.after.toList.filter (Region.binds .any),L.getD e.on false=true:=fun o' cj=>by
      have:o'=oi:=Option.some.inj (cj.symm.trans na)
      subst this; exact tv
     obtain ⟨s,hs⟩ : ∃ s,S[i]? = some s:=⟨S[i]'(by omega),List.getElem?_eq_getElem (by omega)⟩
     have hc:=Ge L i hL.1 gn tu
     have vQ:=EX L i oi hL na tv
     have TE:∀ j,(L.setIfInBounds i true).getD j false=true→j < m:=by
      intro j hj
      rcases (getSet L i j hL.1 gn).1 hj with rfl | hj
      ·exact tn
      ·exact tk j hj
     have CI:∀ k,L.getD k false=true→k≠i∧i ∉ (cb l).getD k []:=by
      intro k hk
      refine ⟨fun h=>(by rw [h,tu] at hk; cases hk),fun qb=>?_⟩
      have:=jr L hL k i (fun o' cj e' rC=>hL.2 k o' cj hk e' rC) qb
      rw [tu] at this; cases this
     have ow:=Ob i tn oi s na hs g (cn a) w inv.lq (fun hV=>by
       have qW:∀ k,L.getD k false=true→l.length ∉ U.getD k []:=fun k hk Gf=>by
        simp only [yD,List.all_eq_true,List.mem_range,Bool.or_eq_true,Bool.not_eq_true',List.contains_eq_mem,decide_eq_false_iff_not,decide_eq_true_eq] at hV
        rcases hV k (tk k hk) with (h | h) | h
        ·exact h Gf
        ·exact (CI k hk).1 (Nat.eq_of_beq_eq_true h)
        ·exact (CI k hk).2 h
       have h0:=inv.z8 qW
       exact ⟨h0.1,h0.2,fun j hj b hb=>(inv.fresh j (jr L hL i j mq hj) b hb).1.elim (fun h=>h) fun h=>absurd h.2.choose_spec.2 (qW _ h.2.choose_spec.1)⟩) (fun j hj=>inv.rW j (jr L hL i j mq hj)) (fun j hj=>by
       simp only [sf,Bool.and_eq_true,List.all_eq_true,List.mem_range,Bool.or_eq_true,Bool.not_eq_true',List.contains_eq_mem,decide_eq_false_iff_not,decide_eq_true_eq] at hj
       refine inv.done j (jr L hL i j mq hj.1) fun k hk Lx=>?_
       rcases hj.2 k (tk k hk) with (h | h) | h
       ·exact h Lx
       ·exact (CI k hk).1 (Nat.eq_of_beq_eq_true h)
       ·exact (CI k hk).2 h) inv.other
      (fun i' r6 j' ja=>inv.vh i' j' (jr L hL i i' mq r6) (jr L hL i j' mq ja))
      (fun j hj b hb=>⟨(inv.fresh j (jr L hL i j mq hj) b hb).1.imp (fun h=>h) (·.1),(inv.fresh j (jr L hL i j mq hj) b hb).2⟩)
     have hblk:∀ b∈qh g (U.getD i []),(∃ u,u∈U.getD i []∧L.getD u false=true∧b∈g u)∨(l.length∈U.getD i []∧b∈g l.length):=by
      intro b hb
      obtain ⟨u,hu,gy⟩:=List.mem_flatMap.1 hb
      rcases TC i tn u hu with rfl | h
      ·exact .inr ⟨hu,gy⟩
      ·exact .inl ⟨u,hu,jr L hL i u mq h,gy⟩
     have En:∀ k',oi.dst=some k'→k' < a.tmps.size:=by
      intro k' rU
      have qb:oi∈l:=List.mem_of_getElem? na
      simp only [dp,List.all_eq_true] at hd
      have:=hd oi qb
      rw [rU] at this
      rw [g1]
      exact Nat.lt_of_succ_le (Nat.le_of_ble_eq_true this)
     have xI:bw l i=oi.dst:=by unfold bw; rw [na]; rfl
     have qa:∀ v t,(oi.dst≠some t)→cn (a.put oi.dst v) t=cn a t:=by
      intro v t ht
      rw [l7 En]
      cases vR:oi.dst with
      | none=>rfl
      | some d=>
       show (bif Nat.beq t d then v else cn a t)=cn a t
       cases hb:Nat.beq t d with
       | false=>rfl
       | true=>exact absurd (by rw [vR,Nat.eq_of_beq_eq_true hb]) ht
     have Gg:∀ v d,oi.dst=some d→cn (a.put oi.dst v) d=v:=by
      intro v d vR
      rw [l7 En,vR]
      show (bif Nat.beq d d then v else cn a d)=v
      rw [Nat.beq_refl]; rfl
     have step:∀ v w' f,ao (qh g (U.getD i [])) w w'→(∀ b∈f,(b∈qh g (U.getD i [])∨w.heap.size≤b)∧b < w'.heap.size)→(if s.b then s.V f w' (cn a) v else v=undef)→
       wpAny P .any l.toArray (fun e a' w'=>a'.tmps.size=n∧a'.defers=[]∧Q e (cn a') w') fuel (L.setIfInBounds i true) (a.put oi.dst v) w':=by
      intro v w' f hC uE hV
      have rP:∀ j',j' < m→j'≠i→∀ t,bw l j'=some t→cn (a.put oi.dst v) t=cn a t:=by
       intro j' ja iv t ht
       refine qa v t fun h=>iv (dw j' i t ?_ ?_)
       ·rw [ll ja]; exact ht
       ·rw [ll tn,xI]; exact h
      have Ly:∀ b∈qh g (U.getD i []),¬ N b:=fun b hb hn=>by
       rcases hblk b hb with ⟨u,_,oq,gy⟩ | ⟨_,gy⟩
       ·rcases (inv.fresh u oq b gy).1 with h | h
        ·have:=(hN b hn).1; omega
        ·exact (hN b hn).2 h.1
       ·exact (hN b hn).2 (inv.vg b gy)
      refine ih _ _ _ (fun j=>if j=i then f else if j∈U.getD i [] then [] else g j) vQ TE (by omega) (by rw [kn]; exact g1) (by rw [jb]; exact g2)
       ⟨inv.lq.then hC fun b hb=>(by
        rcases hblk b hb with ⟨u,_,oq,gy⟩ | ⟨_,gy⟩
        ·exact (inv.fresh u oq b gy).1.elim .inr fun h=>.inl h.1
        ·exact .inl (inv.vg b gy)),fun qW=>?_,?_,fun j hj=>?_,?_,fun j hj d sM sj qK=>?_,?_,?_,?_⟩
      ·have uD:l.length ∉ U.getD i []:=qW i ((getSet L i i hL.1 gn).2 (.inl rfl))
       have h0:=inv.z8 fun k hk=>qW k ((getSet L i k hL.1 gn).2 (.inr hk))
       refine ⟨h0.1.then hC fun b hb=>?_,?_⟩
       ·rcases hblk b hb with ⟨u,_,oq,gy⟩ | ⟨h,_⟩
        ·exact (inv.fresh u oq b gy).1.elim .inr fun ⟨_,k,hk,Gf⟩=>absurd Gf (qW k ((getSet L i k hL.1 gn).2 (.inr hk)))
        ·exact absurd h uD
       ·show (if l.length=i then f else if l.length∈U.getD i [] then [] else g l.length)=H
        rw [if_neg (by omega),if_neg uD]
        exact h0.2
      ·intro b hb
       have bz:b∈(if l.length=i then f else if l.length∈U.getD i [] then [] else g l.length):=hb
       rw [if_neg (by omega)] at bz
       split at bz
       ·cases bz
       ·exact inv.vg b bz
      ·intro b hb hv
       have ks:b∈(if l.length=i then f else if l.length∈U.getD i [] then [] else g l.length):=hv
       rw [if_neg (by omega)] at ks
       split at ks
       ·cases ks
       ·rename_i TF
        have bz:b∈(if j=i then f else if j∈U.getD i [] then [] else g j):=hb
        split at bz
        ·rcases (uE b bz).1 with h | h
         ·rcases hblk b h with ⟨u,_,oq,gy⟩ | ⟨h,_⟩
          ·exact inv.vd u oq b gy ks
          ·exact TF h
         ·have h1:=hH b (inv.vg b ks)
          have h2:=inv.lq.size
          omega
        ·rename_i lu
         split at bz
         ·cases bz
         ·exact inv.vd j (((getSet L i j hL.1 gn).1 hj).resolve_left lu) b bz ks
      ·intro j hj vS
       refine ⟨fun d sM=>?_,fun TG sj qK Lz=>?_⟩
       rotate_left
       ·by_cases lu:j=i
        ·subst lu
         rw [hs] at qK
         cases qK
         rw [if_pos Lz] at hV
         refine ⟨v,?_⟩
         simp only [if_pos]
         exact qi j s hs _ [] w' w' (cn a) _ v (ao.refl _ _) (fun _ _ h=>nomatch h) (fun _ h=>nomatch h) (fun j' ja t ht=>rP j' (by have:=(pY j j' ja).1; omega) (by have:=(pY j j' ja).1; omega) t ht) hV
        ·have mr:=((getSet L i j hL.1 gn).1 hj).resolve_left lu
         have qX:j ∉ U.getD i []:=vS i ((getSet L i i hL.1 gn).2 (.inl rfl))
         obtain ⟨x,hx⟩:=(inv.done j mr (fun k hk=>vS k ((getSet L i k hL.1 gn).2 (.inr hk)))).2 TG sj qK Lz
         have kz:(fun j=>if j=i then f else if j∈U.getD i [] then [] else g j) j=g j:=by
          show (if j=i then f else if j∈U.getD i [] then [] else g j)=g j
          rw [if_neg lu,if_neg qX]
         rw [kz]
         refine ⟨x,qi j sj qK _ _ _ _ (cn a) _ _ hC (fun b bz Gh=>?_) Ly (fun j' ja t ht=>rP j' (by have:=(pY j j' ja).1; have:=tk j mr; omega) (fun h=>?_) t ht) hx⟩
         ·rcases hblk b Gh with ⟨u,Ab,oq,gy⟩ | ⟨_,gy⟩
          ·exact inv.vh j u mr oq (fun h=>qX (h ▸ Ab)) b bz gy
          ·exact inv.vd j mr b bz gy
         ·subst h
          have:=jr L hL j j' (fun o' cj e' rC=>hL.2 j o' cj mr e' rC) ja
          rw [tu] at this; cases this
       by_cases lu:j=i
       ·subst lu
        rw [hs]
        simp only [if_pos]
        rw [xI] at sM
        rw [Gg v d sM]
        split
        ·rename_i hb
         rw [if_pos hb] at hV
         exact qi j s hs _ [] w' w' (cn a) _ v (ao.refl _ _) (fun _ _ h=>nomatch h) (fun _ h=>nomatch h) (fun j' ja t ht=>rP j' (by have:=(pY j j' ja).1; omega) (by have:=(pY j j' ja).1; omega) t ht) hV
        ·rename_i hb
         rw [if_neg hb] at hV
         exact hV
       ·have mr:=((getSet L i j hL.1 gn).1 hj).resolve_left lu
        have Aa:=tk j mr
        have qX:j ∉ U.getD i []:=vS i ((getSet L i i hL.1 gn).2 (.inl rfl))
        have vR:oi.dst≠some d:=by
         intro h
         apply lu
         refine dw j i d ?_ ?_
         ·rw [ll Aa]; exact sM
         ·rw [ll tn,xI]; exact h
        have:=(inv.done j mr (fun k hk=>vS k ((getSet L i k hL.1 gn).2 (.inr hk)))).1 d sM
        rw [qa v d vR]
        have kz:(fun j=>if j=i then f else if j∈U.getD i [] then [] else g j) j=g j:=by
         show (if j=i then f else if j∈U.getD i [] then [] else g j)=g j
         rw [if_neg lu,if_neg qX]
        rw [kz]
        cases qK:S[j]? with
        | none=>trivial
        | some sj=>
         rw [qK] at this
         simp only [] at this ⊢
         split
         ·rename_i hb
          rw [if_pos hb] at this
          refine qi j sj qK _ _ _ _ (cn a) _ _ hC (fun b bz Gh=>?_) Ly (fun j' ja t ht=>rP j' (by have:=(pY j j' ja).1; omega) (fun h=>?_) t ht) this
          rotate_left
          ·subst h
           have:=jr L hL j j' (fun o' cj e' rC=>hL.2 j o' cj mr e' rC) ja
           rw [tu] at this; cases this
          rcases hblk b Gh with ⟨u,Ab,oq,gy⟩ | ⟨_,gy⟩
          ·exact inv.vh j u mr oq (fun h=>qX (h ▸ Ab)) b bz gy
          ·exact inv.vd j mr b bz gy
         ·rename_i hb
          rw [if_neg hb] at this
          exact this
      ·by_cases lu:j=i
       ·subst lu
        rw [hs] at qK
        cases qK
        rw [xI] at sM
        rw [Gg v d sM]
        split
        ·rename_i hb
         rw [if_pos hb] at hV
         exact ⟨f,w',qi j s hs _ [] w' w' (cn a) _ v (ao.refl _ _) (fun _ _ h=>nomatch h) (fun _ h=>nomatch h) (fun j' ja t ht=>rP j' (by have:=(pY j j' ja).1; omega) (by have:=(pY j j' ja).1; omega) t ht) hV⟩
        ·rename_i hb
         rw [if_neg hb] at hV
         exact hV
       ·have mr:=((getSet L i j hL.1 gn).1 hj).resolve_left lu
        have Aa:=tk j mr
        have vR:oi.dst≠some d:=by
         intro h
         apply lu
         refine dw j i d ?_ ?_
         ·rw [ll Aa]; exact sM
         ·rw [ll tn,xI]; exact h
        have:=inv.rW j mr d sM sj qK
        rw [qa v d vR]
        split
        ·rename_i hb
         rw [if_pos hb] at this
         obtain ⟨f1,w1,h1⟩:=this
         refine ⟨f1,w1,qi j sj qK _ [] w1 w1 (cn a) _ _ (ao.refl _ _) (fun _ _ h=>nomatch h) (fun _ h=>nomatch h) (fun j' ja t ht=>rP j' (by have:=(pY j j' ja).1; omega) (fun h=>?_) t ht) h1⟩
         subst h
         have:=jr L hL j j' (fun o' cj e' rC=>hL.2 j o' cj mr e' rC) ja
         rw [tu] at this; cases this
        ·rename_i hb
         rw [if_neg hb] at this
         exact this
      ·intro t ht
       rw [qa v t (fun h=>ht i tn (by rw [xI]; exact h))]
       exact inv.other t ht
      ·intro j hj b hb
       by_cases lu:j=i
       ·simp only [if_pos lu] at hb
        have hh:=uE b hb
        have r9:=inv.lq.size
        rcases hh.1 with h | h
        ·rcases hblk b h with ⟨u,_,oq,gy⟩ | ⟨hv,gy⟩
         ·exact ⟨(inv.fresh u oq b gy).1.imp (fun h=>h) fun h=>⟨h.1,h.2.imp fun k hk=>⟨(getSet L i k hL.1 gn).2 (.inr hk.1),hk.2⟩⟩,hh.2⟩
         ·exact ⟨.inr ⟨inv.vg b gy,i,(getSet L i i hL.1 gn).2 (.inl rfl),hv⟩,hh.2⟩
        ·exact ⟨.inl (by omega),hh.2⟩
       ·have mr:=((getSet L i j hL.1 gn).1 hj).resolve_left lu
        simp only [if_neg lu] at hb
        split at hb
        ·cases hb
        ·have h1:=inv.fresh j mr b hb
         have h2:=hC.size
         exact ⟨h1.1.imp (fun h=>h) fun h=>⟨h.1,h.2.imp fun k hk=>⟨(getSet L i k hL.1 gn).2 (.inr hk.1),hk.2⟩⟩,by omega⟩
      ·have ue:∀ j',(L.setIfInBounds i true).getD j' false=true→j'≠i→∀ b∈f,b ∉ (if j'∈U.getD i [] then [] else g j'):=by
        intro j' ja e2 b hb bz
        have Gi:=((getSet L i j' hL.1 gn).1 ja).resolve_left e2
        split at bz
        ·cases bz
        ·rename_i qX
         rcases (uE b hb).1 with h | h
         ·rcases hblk b h with ⟨u,Ab,oq,gy⟩ | ⟨_,gy⟩
          ·exact inv.vh u j' oq Gi (fun h=>qX (h ▸ Ab)) b gy bz
          ·exact inv.vd j' Gi b bz gy
         ·have:=inv.fresh j' Gi b bz
          omega
       intro i' j' r6 ja iv b hb bz
       by_cases e1:i'=i
       ·have e2:j'≠i:=fun h=>iv (e1.trans h.symm)
        simp only [if_pos e1] at hb
        simp only [if_neg e2] at bz
        exact ue j' ja e2 b hb bz
       ·simp only [if_neg e1] at hb
        by_cases e2:j'=i
        ·simp only [if_pos e2] at bz
         exact ue i' r6 e1 b bz hb
        ·simp only [if_neg e2] at bz
         split at hb
         ·cases hb
         ·split at bz
          ·cases bz
          ·exact inv.vh i' j' (((getSet L i i' hL.1 gn).1 r6).resolve_left e1) (((getSet L i j' hL.1 gn).1 ja).resolve_left e2) iv b hb bz
     cases hb:s.b with
     | true=>
      rw [if_pos hb] at ow
      refine .inl ⟨ow.1,qA ow.2 ?_⟩
      rintro v w' ⟨hC,f,uE,hV⟩
      exact step v w' f hC uE (by rw [if_pos hb]; exact hV)
     | false=>
      rw [if_neg (by rw [hb]; exact Bool.false_ne_true)] at ow
      exact .inr ⟨ow,step undef w [] (ao.refl _ _) (fun b h=>nomatch h) (by rw [if_neg (by rw [hb]; exact Bool.false_ne_true)])⟩
    by_cases Qy:∃ z,z∈Z∧L.getD z false=false∧∀ o,l[z]? = some o→∀ e∈o.after.toList.filter (Region.binds .any),L.getD e.on false=true
    ·obtain ⟨z,hz,Ul,Ym⟩:=Qy
     obtain ⟨⟨hzm,hzf⟩,L7⟩:=hZ z hz
     cases Et:l[z]? with
     | none=>rw [Et] at L7; cases L7
     | some oz=>
      rw [Et] at L7
      simp only [Bool.and_eq_true] at L7
      obtain ⟨hmv,w5⟩:=L7
      have Ox:=Ym oz Et
      have Yn:Region.free .any l.toArray L z=true:=L6 (fun j hj=>jr L hL z j (fun o' cj=>Ym o' cj) hj) hzf
      have Yo:z∈Region.ready .any l.toArray L:=CH L z oz hL.1 Et Ul Ox
      obtain ⟨dz,opz,tyz,pz,az,gz⟩:=oz
      cases opz <;> first | exact (Bool.false_ne_true hmv).elim | skip
      case move x=>
       cases gz with
       | some _=>simp at w5
       | none=>
        have hev:∀ w',(execOp a.eval ⟨dz,.move x,tyz,pz,az,none⟩).run P w' = .ok (.value (a.eval x)) w':=fun _=>rfl
        refine wpAny_take (by simpa using Et) Ql Yn (by simpa using Yo) (fun c a w h=>absurd h.2.2 (hp _ _ _)) (v:=a.eval x) (.inl ⟨rfl,hev⟩) ?_
        rcases main z _ (Uj z hz) Et Ul Ox with ⟨_,h⟩ | ⟨h,_⟩
        ·rw [qB]; exact h
        ·exact absurd h (by simp [Region.wanted])
      case extract x k=>
       cases gz with
       | some _=>simp at w5
       | none=>
        rcases main z _ (Uj z hz) Et Ul Ox with ⟨_,h⟩ | ⟨h,_⟩
        ·obtain ⟨v,hv,hk⟩:=HJ h
         refine wpAny_take (by simpa using Et) Ql Yn (by simpa using Yo) (fun c a w h=>absurd h.2.2 (hp _ _ _)) (v:=v) (.inl ⟨rfl,fun w'=>by rw [qB]; exact hv w'⟩) ?_
         exact hk
        ·exact absurd h (by simp [Region.wanted])
    refine ⟨fun h=>(by obtain ⟨i,hi⟩:=JG; rw [h] at hi; cases hi),fun i hi=>?_⟩
    obtain ⟨q1,oi,na,tv⟩:=mz L i hi
    have gn:i < l.length:=(List.getElem?_eq_some_iff.1 na).1
    have tu:L.getD i false=false:=getD_both q1
    have tn:i < m:=by
     rcases Nat.lt_or_ge i m with h | h
     ·exact h
     ·have bad:∀ j,j < i→L.getD j false=false→False:=by
       intro j
       induction j using Nat.strongRecOn with
       | _ j ih=>
        intro lu qX
        rcases DL i h gn j lu with hj | hj
        ·have:=jr L hL i j (fun o' cj=>by have:o'=oi:=Option.some.inj (cj.symm.trans na); subst this; exact tv) hj
         rw [qX] at this; cases this
        ·refine Qy ⟨j,hj,qX,fun o ho e he=>?_⟩
         cases hb:L.getD e.on false with
         | true=>rfl
         | false=>have av:=vm j o ho e he; exact (ih e.on av (by omega) hb).elim
      exact (bad j0 (by omega) El).elim
    unfold wpOp
    rw [show (l.toArray)[i]? = some oi by simpa using na]
    simp only []
    rw [yH (by rw [g1]; exact hd)]
    rcases main i oi tn na tu tv with ⟨hw,h⟩ | ⟨hw,h⟩
    ·rw [if_pos hw]
     exact .inl (h.wp fun v w' hv=>hv)
    ·rw [if_neg (by rw [hw]; exact Bool.false_ne_true)]
     exact h
 refine head _ _ a _ (fun j=>if j=l.length then H else []) ⟨by simp,?_⟩ ?_ ?_ h1 h2 ⟨ao.nil (ao.drew _ _),fun _=>⟨ao.drew _ _,by simp⟩,fun b hb=>by simpa using hb,?_,?_,?_,?_,?_,?_⟩
 ·intro j o ho hj
  rw [getD_replicate_false] at hj; cases hj
 ·intro j hj
  rw [getD_replicate_false] at hj; cases hj
 ·simp
 ·intro j hj
  rw [getD_replicate_false] at hj; cases hj
 ·intro j hj
  rw [getD_replicate_false] at hj; cases hj
 ·intro j hj
  rw [getD_replicate_false] at hj; cases hj
 ·intro t _
  rw [h3]
 ·intro j hj
  rw [getD_replicate_false] at hj; cases hj
 ·intro i j hi
  rw [getD_replicate_false] at hi; cases hi
theorem kh.val {m i:Nat} {U:LL} {H:LN} {o:Oper} {v:Value} (ho:l[i]? = some o) (hs:S[i]? = some ⟨true,pl fun _ _ u=>u=v⟩) (hg:o.guard=none)
  (h:∀ (g:Nat→List Nat) (r:NV) (w:World),ao H w0 w→(∀ j∈(cb l).getD i [],Old l S j r)→(∀ j,sf l U m i j=true→vL l S j g r w)→(∀ t,(∀ j,j < m→bw l j≠some t)→r t=r0 t)→
   (execOp (ev r) o).run P w = .ok (.value v) w):kh P l m S U r0 w0 H i:=by
 intro o' s' cj fc g r w hC hV hO hd lr xt qa
 obtain rfl:o=o':=Option.some.inj (ho.symm.trans cj)
 obtain rfl:_=s':=Option.some.inj (hs.symm.trans fc)
 rw [if_pos rfl]
 refine ⟨by unfold Region.wanted; rw [hg],?_⟩
 unfold ig
 rw [h g r w hC hO hd lr]
 exact ⟨ao.refl _ _,[],(fun _ h=>nomatch h),rfl⟩
theorem kh.call {m i:Nat} {U:LL} {H:LN} {o:Oper} {v:Value} {f:FuncId} (ho:l[i]? = some o) (hs:S[i]? = some ⟨true,pl fun _ _ u=>u=v⟩) (hg:o.guard=none)
  (h:∀ (g:Nat→List Nat) (r:NV) (w:World),ao H w0 w→(∀ j∈(cb l).getD i [],Old l S j r)→(∀ j,sf l U m i j=true→vL l S j g r w)→(∀ t,(∀ j,j < m→bw l j≠some t)→r t=r0 t)→
   ∃ args,(execOp (ev r) o).run P w = .ok (.enter f args) w∧Calls P f args w fun e w'=>e = .returned v∧ao [] w w'):kh P l m S U r0 w0 H i:=by
 intro o' s' cj fc g r w hC hV hO hd lr xt qa
 obtain rfl:o=o':=Option.some.inj (ho.symm.trans cj)
 obtain rfl:_=s':=Option.some.inj (hs.symm.trans fc)
 rw [if_pos rfl]
 refine ⟨by unfold Region.wanted; rw [hg],?_⟩
 unfold ig
 obtain ⟨args,h1,h2⟩:=h g r w hC hO hd lr
 rw [h1]
 exact h2.mono fun e w' ⟨he,hc⟩=>⟨v,he,hc.nil,[],(fun _ h=>nomatch h),rfl⟩
theorem kh.mem {m i:Nat} {U:LL} {H:LN} {o:Oper} {V:List Nat→World→Value→Prop} (ho:l[i]? = some o) (hs:S[i]? = some ⟨true,pl V⟩) (hg:o.guard=none)
  (h:∀ (g:Nat→List Nat) (r:NV) (w:World),ao H w0 w→(∀ j∈(cb l).getD i [],Old l S j r)→(∀ j,sf l U m i j=true→vL l S j g r w)→(∀ t,(∀ j,j < m→bw l j≠some t)→r t=r0 t)→
   ig P o r w fun v w'=>ao [] w w'∧∃ f,(∀ b∈f,w.heap.size≤b∧b < w'.heap.size)∧V f w' v):kh P l m S U r0 w0 H i:=by
 intro o' s' cj fc g r w hC hV hO hd lr xt qa
 obtain rfl:o=o':=Option.some.inj (ho.symm.trans cj)
 obtain rfl:_=s':=Option.some.inj (hs.symm.trans fc)
 rw [if_pos rfl]
 refine ⟨by unfold Region.wanted; rw [hg],qA (h g r w hC hO hd lr) ?_⟩
 rintro v w' ⟨hC,f,hf,hV⟩
 exact ⟨hC.nil,f,fun b hb=>⟨.inr (hf b hb).1,(hf b hb).2⟩,hV⟩
theorem kh.NY {m i:Nat} {U:LL} {H:LN} {o:Oper} {V:List Nat→World→(Nat→Value)→Value→Prop} (ho:l[i]? = some o) (hs:S[i]? = some ⟨true,V⟩) (hg:o.guard=none)
  (h:∀ (g:Nat→List Nat) (r:NV) (w:World),ao H w0 w→(∀ j∈(cb l).getD i [],Old l S j r)→(∀ j,sf l U m i j=true→vL l S j g r w)→(∀ t,(∀ j,j < m→bw l j≠some t)→r t=r0 t)→
   ig P o r w fun v w'=>ao [] w w'∧∃ f,(∀ b∈f,w.heap.size≤b∧b < w'.heap.size)∧V f w' r v):kh P l m S U r0 w0 H i:=by
 intro o' s' cj fc g r w hC hV hO hd lr xt qa
 obtain rfl:o=o':=Option.some.inj (ho.symm.trans cj)
 obtain rfl:_=s':=Option.some.inj (hs.symm.trans fc)
 rw [if_pos rfl]
 refine ⟨by unfold Region.wanted; rw [hg],qA (h g r w hC hO hd lr) ?_⟩
 rintro v w' ⟨hC,f,hf,hV⟩
 exact ⟨hC.nil,f,fun b hb=>⟨.inr (hf b hb).1,(hf b hb).2⟩,hV⟩
def DG {α:Type} (T:ai α) (x:α):List Nat→World→Value→Prop:=fun f w v=>T.rep w.heap [v] x f∧f.Nodup
def ZT (cs:LV) (e:TI) (n:Nat):List Nat→World→Value→Prop:=fun f w v=>∃ b,f=[b]∧v = .slice (some ⟨b,0,none⟩) n n∧Row w b cs e
def FD (a:LN) (l:LO) (s:ir):Prop:=∀ f F (w w':World) (r r':NV) v,ao F w w'→(∀ b∈f,b ∉ F)→(∀ j∈a,∀ t,bw l j=some t→r' t=r t)→s.V f w r v→s.V f w' r' v
theorem L8 {a:LN} {b:Bool} {V:List Nat→World→Value→Prop} (h:∀ f F (w w':World) v,ao F w w'→(∀ b∈f,b ∉ F)→V f w v→V f w' v):FD a l ⟨b,pl V⟩:=
 fun f F w w' _ _ v hC hn _ hv=>h f F w w' v hC hn hv
theorem Jy {a:LN} {b:Bool} {u:Value}:FD a l ⟨b,pl fun _ _ v=>v=u⟩:=L8 fun _ _ _ _ _ _ _ h=>h
def Jv:Value→Nat→Value
 | .agg cs,i=>cs.getD i undef
 | _,_=>undef
theorem ig.own {α:Type} {T:ai α} {x:α} {o:Oper} {r:NV} {w:World} {f:FuncId} {args:Array Value} (h:(execOp (ev r) o).run P w = .ok (.enter f args) w)
  (hc:Calls P f args w fun e w'=>∃ (v:Value) (k:LN),e = .returned v∧ao [] w w'∧OE [] w.heap.size w' T [v] x k) :
  ig P o r w fun v w'=>ao [] w w'∧∃ f,(∀ b∈f,w.heap.size≤b∧b < w'.heap.size)∧DG T x f w' v:=by
 unfold ig
 rw [h]
 exact hc.mono fun e w' ⟨v,k,he,hC,ho⟩=>⟨v,he,hC,k,fun b hb=>⟨ho.fresh b hb,T.lt ho.1 b hb⟩,ho.1,ho.2.1⟩
theorem ig.made {α:Type} {T:ai α} {x:α} {o:Oper} {r:NV} {w:World} (h:∃ v w' f,(execOp (ev r) o).run P w = .ok (.value v) w'∧ao [] w w'∧OE [] w.heap.size w' T [v] x f) :
  ig P o r w fun v w'=>ao [] w w'∧∃ f,(∀ b∈f,w.heap.size≤b∧b < w'.heap.size)∧DG T x f w' v:=by
 obtain ⟨v,w',f,hr,hC,ho⟩:=h
 unfold ig
 rw [hr]
 exact ⟨hC,f,fun b hb=>⟨ho.fresh b hb,T.lt ho.1 b hb⟩,ho.1,ho.2.1⟩
theorem wZ {f g:LN} (h1:f.Nodup) (h2:g.Nodup) (d:qH f g):(f++g).Nodup:=List.nodup_append.2 ⟨h1,h2,fun a ha _ hb mi=>d a ha (mi ▸ hb)⟩
theorem ig.vy {α:Type} {E:ai α} {F f:LN} {t e et:TI} {s x:OO} {i:TypeInfo} {z:Value} {sv u:Value} {xs:List α} {y:α} {b:Nat} {r:NV} {w:World} {d:Option Nat} {ty:TI} {pos:String} {ah:Array Edge}
  (ht:P.underlying t=some (.slice e)) (hi:P.info? e=some i) (hz:i.zero=some z) (hs:i.size=1) (hE:E.size=1) (xD:z.oneCell'=true)
  (uF:ev r s=sv) (hO:DG (aJ e E) xs f w sv) (hF:∀ b∈f,b∈F) (hx:ev r x = .slice (some ⟨b,0,none⟩) 1 1) (bc:Row w b [u] et) (hy:E.rep w.heap [u] y [])
  (hb:(xs.length+1) * i.bytes≤140737488355328) (wY:xs.length+1≤maxLen) :
  ig P ⟨d,.call ⟨.builtin .append,#[s,x],#[t,t]⟩,ty,pos,ah,none⟩ r w fun v w'=>ao F w w'∧∃ f',(∀ b∈f',(b∈F∨w.heap.size≤b)∧b < w'.heap.size)∧DG (aJ e E) (xs++[y]) f' w' v:=by
 obtain ⟨v,w',f',h,hC,dq,du,dw⟩:=pt (d:=d) (ty:=ty) (pos:=pos) (ah:=ah) (g:=none) (ys:=[y]) ht hi hz (by rw [hs,hE]) (by rw [cells_one xD,hE]; rfl) uF hO.1 hO.2 hx bc.at (qM hy) (fun _ h=>nomatch h) (by simp) hb wY
 unfold ig
 rw [h]
 refine ⟨hC.mono hF,f',fun b hb=>⟨?_,ai.lt _ dq b hb⟩,dq,dw List.nodup_nil⟩
 rcases du b hb with h | h | h
 ·exact .inl (hF b h)
 ·cases h
 ·exact .inr h
theorem ig.Fg {t e:TI} {i:TypeInfo} {z u:Value} {x:OO} {r:NV} {w:World} {d:Option Nat} {ty:TI} {pos:String} {ah:Array Edge} (ht:P.underlying t=some (.slice e)) (hi:P.info? e=some i) (hz:i.zero=some z)
  (hs:i.size=1) (hx:ev r x=u) (hv:u.oneCell'=true) :
  ig P ⟨d,.buildSlice t 1 #[(0,x)],ty,pos,ah,none⟩ r w fun v w'=>ao [] w w'∧∃ f,(∀ b∈f,w.heap.size≤b∧b < w'.heap.size)∧ZT [u] e 1 f w' v:=by
 unfold ig
 rw [Iz ht hi hz hs (by rw [hx]; exact hv),hx]
 exact ⟨ao.alloc _ _ _,[w.heap.size],fun b hb=>by rw [List.mem_singleton.1 hb]; simp,w.heap.size,rfl,rfl,heap_alloc_new w _⟩
end
end Go.Li
