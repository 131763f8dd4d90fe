/- A region that draws its order, whatever it holds: its head in any order, its tail one behind the other. No condition. -/
import Derived.Test.YtilhlobfebngdaaGreatLf
import Derived.Still
namespace Go.Li
open Go
def lr (acc:LL) (o:Oper):List (List Nat):=
 acc++[(o.after.toList.filter (Region.binds .any)).flatMap fun e=>e.on :: acc.getD e.on []]
def cc (l:LO):List (List Nat):=l.foldl lr []
structure fv where
 b:Bool
 V:List Nat→World→(Nat→Value)→Value→Prop
abbrev pl (V:List Nat→World→Value→Prop):List Nat→World→(Nat→Value)→Value→Prop:=fun f w _ v=>V f w v
def mx (P:Program) (n:Nat) (l:LO) (Q:Exit→(Nat→Value)→World→Prop) (r:NV) (w:World):Prop:=
 ∀ a:Act,a.tmps.size=n→a.defers=[]→cn a=r→wpAny P .any l.toArray (fun e a' w'=>a'.tmps.size=n∧a'.defers=[]∧Q e (cn a') w') l.toArray.size (Array.replicate l.toArray.size false) a { w with drawn:=w.drawn+1 }
theorem mx.W {P:Program} {n id:Nat} {l:LO} {Q:Exit→(Nat→Value)→World→Prop} {r:NV} {w:World} (hm:P.follows .mixedOrders=true) (h:mx P n l Q r w):W P n (.region id l.toArray true) Q r w:=
 fun a h1 h2 h3=>wp_region_any hm (h a h1 h2 h3)
def DX (π:LN) (o:Oper):Oper:=⟨o.dst,o.op,o.type,o.pos,(o.after.toList.map fun e=>⟨π.getD e.on 0,e.ground⟩).toArray,o.guard⟩
def pw (l:LO) (σ π:LN):List Oper:=σ.map fun k=>DX π (l.getD k default)
def P9 (l:LO) (σ π:LN):Bool:=
 Nat.beq σ.length l.length && Nat.beq π.length l.length &&
 ((List.range l.length).all fun i=>Nat.blt (π.getD i 0) l.length && Nat.beq (σ.getD (π.getD i 0) 0) i && Nat.blt (σ.getD i 0) l.length && Nat.beq (π.getD (σ.getD i 0) 0) i) &&
 l.all fun o=>o.guard.isNone && o.after.toList.all fun e=>Nat.blt e.on l.length
theorem WO {P:Program} {Q:Exit→Act→World→Prop} {π:LN} {o:Oper} {a:Act} {w:World} {K:Act→World→Prop}:(DX π o).wp P a w K Q=o.wp P a w K Q:=by
 cases o; rfl
theorem QC {P:Program} {π:LN} {o:Oper} {a:Act} {w:World}:(DX π o).asks P a w=o.asks P a w:=by
 cases o; rfl
section
variable {P:Program} {l:LO} {σ π:LN} (h:P9 l σ π=true)
include h
theorem E6:σ.length=l.length∧π.length=l.length∧(∀ i,i < l.length→π.getD i 0 < l.length∧σ.getD (π.getD i 0) 0=i∧σ.getD i 0 < l.length∧π.getD (σ.getD i 0) 0=i)∧∀ o∈l,o.guard=none∧∀ e∈o.after.toList,e.on < l.length:=by
 unfold P9 at h
 simp only [Bool.and_eq_true,List.all_eq_true,List.mem_range] at h
 obtain ⟨⟨⟨h1,h2⟩,h3⟩,h4⟩:=h
 refine ⟨Nat.eq_of_beq_eq_true h1,Nat.eq_of_beq_eq_true h2,fun i hi=>?_,fun o ho=>?_⟩
 ·obtain ⟨⟨⟨a,b⟩,c⟩,d⟩:=h3 i hi
  exact ⟨Nat.lt_of_succ_le (Nat.le_of_ble_eq_true a),Nat.eq_of_beq_eq_true b,Nat.lt_of_succ_le (Nat.le_of_ble_eq_true c),Nat.eq_of_beq_eq_true d⟩
 ·obtain ⟨a,b⟩:=h4 o ho
  exact ⟨by simpa using a,fun e he=>Nat.lt_of_succ_le (Nat.le_of_ble_eq_true (b e he))⟩
theorem Lt:(pw l σ π).length=l.length:=by unfold pw; rw [List.length_map]; exact (E6 h).1
theorem Lu {i:Nat} {o:Oper} (ho:l[i]? = some o):(pw l σ π)[π.getD i 0]? = some (DX π o):=by
 obtain ⟨h1,_,h3,_⟩:=E6 h
 have hi:=(List.getElem?_eq_some_iff.1 ho).1
 obtain ⟨a,b,_,_⟩:=h3 i hi
 unfold pw
 rw [List.getElem?_map,List.getElem?_eq_getElem (by omega)]
 have e:σ[π.getD i 0]'(by omega)=i:=by
  rw [List.getD_eq_getElem?_getD,List.getElem?_eq_getElem (by omega)] at b
  simpa using b
 simp only [Option.map_some,Option.some.injEq]
 rw [e,List.getD_eq_getElem?_getD,ho]; rfl
theorem Oy {Q:Exit→Act→World→Prop}:∀ (fuel:Nat) (L L':Array Bool) (a:Act) (w:World),L.size=l.length→L'.size=l.length→(∀ i,i < l.length→L'.getD (π.getD i 0) true=L.getD i true)→
  wpAny P .any (pw l σ π).toArray Q fuel L' a w→wpAny P .any l.toArray Q fuel L a w:=by
 obtain ⟨h1,h2,h3,h4⟩:=E6 h
 have gd:∀ {L:Array Bool} {i:Nat} (b:Bool),L.size=l.length→i < l.length→L.getD i b=L.getD i true:=fun {L i} b hs hi=>by
  have:i < L.size:=by omega
  simp [Array.getD,this]
 have DP:∀ (L L':Array Bool),L.size=l.length→L'.size=l.length→(∀ i,i < l.length→L'.getD (π.getD i 0) true=L.getD i true)→∀ i,i < l.length→(i∈Region.ready .any l.toArray L↔π.getD i 0∈Region.ready .any (pw l σ π).toArray L'):=by
  intro L L' hs eh hL i hi
  rw [mem_ready,mem_ready,hL i hi]
  have ho:l[i]? = some (l[i]'hi):=List.getElem?_eq_getElem hi
  have ch:=Lu h ho
  have hg:=h4 _ (List.mem_of_getElem? ho)
  constructor
  ·rintro ⟨g1,o,g2,g3⟩
   refine ⟨g1,DX π l[i],by simpa using ch,fun e he hb=>?_⟩
   have eo:l[i]=o:=by simpa [ho] using g2
   simp only [DX,List.mem_toArray,List.mem_map] at he
   obtain ⟨e0,he0,rfl⟩:=he
   have bp:=hg.2 e0 he0
   have:=g3 e0 (by rw [← eo]; simpa using he0) hb
   rw [gd false eh (h3 _ bp).1,hL _ bp,← gd false hs bp]; exact this
  ·rintro ⟨g1,o,g2,g3⟩
   refine ⟨g1,l[i],by simp,fun e he hb=>?_⟩
   have eo:DX π l[i]=o:=by
    have:(pw l σ π)[π.getD i 0]? = some o:=by simpa using g2
    rw [ch] at this
    exact Option.some.inj this
   have bp:=hg.2 e (by simpa using he)
   have:=g3 ⟨π.getD e.on 0,e.ground⟩ (by rw [← eo]; simp only [DX,List.mem_toArray,List.mem_map]; exact ⟨e,by simpa using he,rfl⟩) hb
   rw [gd false eh (h3 _ bp).1,hL _ bp,← gd false hs bp] at this; exact this
 have back:∀ (L L':Array Bool),L.size=l.length→L'.size=l.length→(∀ i,i < l.length→L'.getD (π.getD i 0) true=L.getD i true)→Region.ready .any l.toArray L=[]→Region.ready .any (pw l σ π).toArray L'=[]:=by
  intro L L' hs eh hL he
  rw [List.eq_nil_iff_forall_not_mem]
  intro k hk
  have DM:k < l.length:=by
   obtain ⟨_,o,g2,_⟩:=mem_ready.1 hk
   have:(pw l σ π)[k]? = some o:=by simpa using g2
   have:=(List.getElem?_eq_some_iff.1 this).1
   rwa [Lt h] at this
  obtain ⟨_,_,c,d⟩:=h3 k DM
  have:=(DP L L' hs eh hL (σ.getD k 0) c).2 (by rw [d]; exact hk)
  rw [he] at this
  exact nomatch this
 intro fuel
 induction fuel with
 | zero=>
  intro L L' a w hs eh hL hh
  refine ⟨?_,hh.2⟩
  rw [List.eq_nil_iff_forall_not_mem]
  intro i hi
  have uj:i < l.length:=by
   obtain ⟨_,o,g2,_⟩:=mem_ready.1 hi
   have:l[i]? = some o:=by simpa using g2
   exact (List.getElem?_eq_some_iff.1 this).1
  have:=(DP L L' hs eh hL i uj).1 hi
  rw [hh.1] at this
  exact nomatch this
 | succ fuel ih=>
  intro L L' a w hs eh hL hh
  refine ⟨fun he=>hh.1 (back L L' hs eh hL he),fun i hi=>?_⟩
  have uj:i < l.length:=by
   obtain ⟨_,o,g2,_⟩:=mem_ready.1 hi
   have:l[i]? = some o:=by simpa using g2
   exact (List.getElem?_eq_some_iff.1 this).1
  have ho:l[i]? = some (l[i]'uj):=List.getElem?_eq_getElem uj
  have hg:=h4 _ (List.mem_of_getElem? ho)
  have Oz:=hh.2 _ ((DP L L' hs eh hL i uj).1 hi)
  have next:∀ a w,wpAny P .any (pw l σ π).toArray Q fuel (L'.setIfInBounds (π.getD i 0) true) a w→wpAny P .any l.toArray Q fuel (L.setIfInBounds i true) a w:=fun a w=>ih _ _ a w (by simpa using hs) (by simpa using eh) fun j hj=>by
   have hpj:=(h3 j hj).1
   have hpi:=(h3 i uj).1
   by_cases e:i=j
   ·subst e
    rw [Array.getD_eq_getD_getElem?,Array.getD_eq_getD_getElem?,Array.getElem?_setIfInBounds_self_of_lt (by omega),Array.getElem?_setIfInBounds_self_of_lt (by omega)]
   ·have e':π.getD i 0≠π.getD j 0:=fun q=>e (by rw [← (h3 i uj).2.1,q,(h3 j hj).2.1])
    have h5:=hL j hj
    have q1:(L'.setIfInBounds (π.getD i 0) true).getD (π.getD j 0) true=L'.getD (π.getD j 0) true:=by
     rw [Array.getD_eq_getD_getElem?,Array.getD_eq_getD_getElem?,Array.getElem?_setIfInBounds_ne e']
    have q2:(L.setIfInBounds i true).getD j true=L.getD j true:=by
     rw [Array.getD_eq_getD_getElem?,Array.getD_eq_getD_getElem?,Array.getElem?_setIfInBounds_ne e]
    rw [q1,q2,h5]
  have ga:(l.toArray)[i]? = some (l[i]'uj):=by simp
  have gb:((pw l σ π).toArray)[π.getD i 0]? = some (DX π (l[i]'uj)):=by simpa using Lu h ho
  unfold wpOp at Oz ⊢
  rw [gb] at Oz
  rw [ga]
  have w1:Region.wanted (l[i]'uj) (yielded l.toArray a.tmps)=true:=by unfold Region.wanted; rw [hg.1]
  have w2:Region.wanted (DX π (l[i]'uj)) (yielded (pw l σ π).toArray a.tmps)=true:=by unfold Region.wanted; show (match (l[i]'uj).guard with | none=>true | some (j,want)=>_)=true; rw [hg.1]
  simp only [w2,if_true] at Oz
  simp only [w1,if_true]
  rw [WO,QC] at Oz
  exact Oz.imp (fun g=>Oper.wp_mono next g) id
theorem mx.prm {n:Nat} {Q:Exit→(Nat→Value)→World→Prop} {r:NV} {w:World} (hw:mx P n (pw l σ π) Q r w):mx P n l Q r w:=by
 have hl:=Lt h
 obtain ⟨_,_,h3,_⟩:=E6 h
 intro a a1 a2 a3
 have:=hw a a1 a2 a3
 rw [show (pw l σ π).toArray.size=l.toArray.size by simpa using hl] at this
 refine Oy h _ _ _ a _ (by simp) (by simp) (fun i hi=>?_) this
 have hq:=(h3 i hi).1
 rw [List.getD_eq_getElem?_getD] at hq
 simp [Array.getD,hi,hq]
end
section
variable {P:Program} {n:Nat} {Q:Exit→(Nat→Value)→World→Prop} {r0:NV} {w0:World} {l:LO} {S:List fv}
def bw (l:LO) (j:Nat):Option Nat:=(l[j]?).bind (·.dst)
def vJ (l:LO) (S:List fv) (j:Nat) (g:Nat→List Nat) (r:NV) (w:World):Prop:=
 (∀ d,bw l j=some d→match S[j]? with
  | some s=>if s.b then s.V (g j) w r (r d) else r d=undef
  | none=>True)∧(bw l j=none→∀ s,S[j]? = some s→s.b=true→∃ x,s.V (g j) w r x)
def Old (l:LO) (S:List fv) (j:Nat) (r:NV):Prop:=∀ d,bw l j=some d→∀ s,S[j]? = some s→if s.b then ∃ f w,s.V f w r (r d) else r d=undef
structure yE (l:LO) (m:Nat) (S:List fv) (U:LL) (r0:NV) (w0:World) (H:LN) (L:Nat→Prop) (g:Nat→List Nat) (r:NV) (w:World):Prop where
 ly:ay H w0 w
 CA:(∀ k,L k→l.length ∉ U.getD k [])→ay [] w0 w∧g l.length=H
 vg:∀ b∈g l.length,b∈H
 vd:∀ j,L j→si (g j) (g l.length)
 done:∀ j,L j→(∀ k,L k→j ∉ U.getD k [])→vJ l S j g r w
 uh:∀ j,L j→Old l S j r
 other:∀ t,(∀ j,j < m→bw l j≠some t)→r t=r0 t
 fresh:∀ j,L j→∀ b∈g j,(w0.heap.size≤b∨(b∈H∧∃ k,L k∧l.length∈U.getD k []))∧b < w.heap.size
 xQ:∀ i j,L i→L j→i≠j→si (g i) (g j)
def rq (l:LO) (U:LL) (m i j:Nat):Bool:=
 ((cc l).getD i []).contains j && (List.range m).all fun k=>!((U.getD k []).contains j) || Nat.beq k i || ((cc l).getD k []).contains i
def qu (g:Nat→List Nat) (us:LN):List Nat:=us.flatMap g
def wY (l:LO) (U:LL) (m i:Nat):Bool:=(List.range m).all fun k=>!((U.getD k []).contains l.length) || Nat.beq k i || ((cc l).getD k []).contains i
def iH (P:Program) (l:LO) (m:Nat) (S:List fv) (U:LL) (r0:NV) (w0:World) (H:LN) (i:Nat):Prop:=
 ∀ o s,l[i]? = some o→S[i]? = some s→∀ (g:Nat→List Nat) (r:NV) (w:World),ay H w0 w→(wY l U m i=true→ay [] w0 w∧g l.length=H∧∀ j∈(cc l).getD i [],∀ b∈g j,w0.heap.size≤b)→(∀ j∈(cc l).getD i [],Old l S j r)→(∀ j,rq l U m i j=true→vJ l S j g r w)→(∀ t,(∀ j,j < m→bw l j≠some t)→r t=r0 t)→
  (∀ i'∈(cc l).getD i [],∀ j'∈(cc l).getD i [],i'≠j'→si (g i') (g j'))→(∀ j∈(cc l).getD i [],∀ b∈g j,(w0.heap.size≤b∨b∈H)∧b < w.heap.size)→
  if s.b then Region.wanted o (yl l r)=true∧fw P o r w fun v w'=>ay (qu g (U.getD i [])) w w'∧∃ f,(∀ b∈f,(b∈qu g (U.getD i [])∨w.heap.size≤b)∧b < w'.heap.size)∧s.V f w' r v
  else Region.wanted o (yl l r)=false
def Cw:List Nat→Bool
 | []=>true
 | x :: l=>!(l.contains x) && Cw l
theorem Aj:∀ {l:LN},Cw l=true→l.Nodup
 | [],_=>List.nodup_nil
 | x :: l,h=>by
  simp only [Cw,Bool.and_eq_true,Bool.not_eq_true',List.contains_eq_mem,decide_eq_false_iff_not] at h
  exact List.nodup_cons.2 ⟨h.1,Aj h.2⟩
def xK (l:LO) (m:Nat) (Z:LN):Bool:=
 ((List.range l.length).all fun i=>((l.getD i default).after.toList.filter (Region.binds .any)).all fun e=>Nat.blt e.on i) &&
 ((List.range l.length).all fun i=>Nat.blt i m || (List.range i).all fun j=>((cc l).getD i []).contains j || Z.contains j) &&
 Cw ((l.take m).filterMap (·.dst))
def WQ (o:Oper):Bool:=match o.op with | .move _=>true | .extract _ _=>true | _=>false
def QD (l:LO) (i:Nat):Array Bool:=((List.range l.length).map fun j=>((cc l).getD i []).contains j).toArray
def DO (l:LO) (m:Nat) (Z:LN):Bool:=
 Region.noSelect l.toArray && Z.all fun i=>Nat.blt i m && Region.free .any l.toArray (QD l i) i &&
  match l[i]? with
  | some o=>WQ o && o.guard.isNone
  | none=>false
theorem OA {l:LO} {L:Array Bool} {i:Nat} (hL:∀ j∈(cc l).getD i [],L.getD j false=true) (h:Region.free .any l.toArray (QD l i) i=true):Region.free .any l.toArray L i=true:=by
 unfold Region.free at h ⊢
 cases ho:(l.toArray)[i]? with
 | none=>rw [ho] at h; cases h
 | some oi=>
  rw [ho] at h
  simp only [List.all_eq_true,List.mem_range,Bool.or_eq_true] at h ⊢
  intro j hj
  rcases h j hj with (h1 | h1) | h1
  ·exact .inl (.inl h1)
  ·have bp:j < l.length:=by simpa using hj
   have hm:j∈(cc l).getD i []:=by
    unfold QD at h1
    have:((List.range l.length).map fun j=>((cc l).getD i []).contains j)[j]? = some (((cc l).getD i []).contains j):=by
     rw [List.getElem?_map,List.getElem?_range bp]; rfl
    rw [Array.getD_eq_getD_getElem?,List.getElem?_toArray,this] at h1
    simpa using h1
   refine .inl (.inr ?_)
   have h2:=hL j hm
   rcases Nat.lt_or_ge j L.size with h' | h'
   ·simp [h'] at h2 ⊢; exact h2
   ·simp [Array.getElem?_eq_none h'] at h2
  ·exact .inr h1
theorem KC {P:Program} {d:Option Nat} {x:OO} {k:Nat} {ty:TI} {pos:String} {ai:Array Edge} {g:Option (Nat×Bool)} {r:NV} {w:World} {K:Value→World→Prop} (h:fw P ⟨d,.extract x k,ty,pos,ai,g⟩ r w K) :
  ∃ v,(∀ w',(execOp (ev r) ⟨d,.extract x k,ty,pos,ai,g⟩).run P w' = .ok (.value v) w')∧K v w:=by
 have e:execOp (ev r) ⟨d,.extract x k,ty,pos,ai,g⟩ = (Instr.extract (ev r x) k>>=fun v=>pure (.value v)):=rfl
 unfold fw at h
 rw [e] at h ⊢
 generalize ev r x=u at h ⊢
 cases u
 case tuple vs=>
  cases hv:vs[k]? with
  | none=>simp [Instr.extract,hv,stuck,Result.andThen,Sem.run] at h
  | some v=>
   refine ⟨v,fun w'=>?_,?_⟩
   ·simp [Instr.extract,hv]
   ·simpa [Instr.extract,hv] using h
 all_goals simp [Instr.extract,stuck,Result.andThen,Sem.run] at h
theorem BA (l:LO):∀ (i:Nat) (o:Oper),l[i]? = some o→(cc l)[i]? = some ((o.after.toList.filter (Region.binds .any)).flatMap fun e=>e.on :: ((cc l).take i).getD e.on []):=by
 have key:∀ (l:LO) (acc:LL),(l.foldl lr acc).length=acc.length+l.length∧(∀ j,j < acc.length→(l.foldl lr acc)[j]? = acc[j]?)∧
   ∀ i o,l[i]? = some o→(l.foldl lr acc)[acc.length+i]? = some ((o.after.toList.filter (Region.binds .any)).flatMap fun e=>e.on :: ((l.foldl lr acc).take (acc.length+i)).getD e.on []):=by
  intro l
  induction l with
  | nil=>intro acc; exact ⟨rfl,fun _ _=>rfl,fun i o h=>by simp at h⟩
  | cons x l ih=>
   intro acc
   obtain ⟨h1,h2,h3⟩:=ih (lr acc x)
   have hl:(lr acc x).length=acc.length+1:=by simp [lr]
   have hold:∀ j,j < acc.length→(lr acc x)[j]? = acc[j]?:=fun j hj=>by simp only [lr]; rw [List.getElem?_append_left hj]
   refine ⟨by simp only [List.foldl_cons,h1,hl,List.length_cons]; omega,fun j hj=>?_,?_⟩
   ·rw [List.foldl_cons,h2 j (by omega),hold j hj]
   ·intro i o hi
    cases i with
    | zero=>
     simp at hi
     subst hi
     have ZC:(List.foldl lr acc (x :: l)).take (acc.length+0)=acc:=by
      apply List.ext_getElem?
      intro j
      rw [Nat.add_zero,List.getElem?_take]
      split
      ·rename_i hj
       rw [List.foldl_cons,h2 j (by omega),hold j hj]
      ·rename_i hj
       rw [List.getElem?_eq_none (by omega)]
     rw [ZC]
     rw [Nat.add_zero,List.foldl_cons,h2 _ (by omega)]
     simp only [lr]
     rw [List.getElem?_append_right (Nat.le_refl _)]
     simp
    | succ i=>
     have:=h3 i o (by simpa using hi)
     rw [hl] at this
     rw [List.foldl_cons]
     rw [show acc.length+(i+1)=acc.length+1+i by omega]
     exact this
 intro i o hi
 have:=(key l []).2.2 i o hi
 simpa [cc] using this
theorem Cy (l:LO) (hb:∀ (i:Nat) (o:Oper),l[i]? = some o→∀ e∈o.after.toList.filter (Region.binds .any),e.on < i) :
  ∀ (i j:Nat),j∈(cc l).getD i []→j < i∧∃ o,l[i]? = some o∧∃ e∈o.after.toList.filter (Region.binds .any),j=e.on∨j∈(cc l).getD e.on []:=by
 intro i j hj
 cases ho:l[i]? with
 | none=>
  have hlen:(cc l).length=l.length:=by
   have:∀ (l:LO) (acc:LL),(l.foldl lr acc).length=acc.length+l.length:=by
    intro l
    induction l with
    | nil=>intro acc; rfl
    | cons x l ih=>intro acc; rw [List.foldl_cons,ih]; simp [lr]; omega
   simpa [cc] using this l []
  rw [List.getD_eq_getElem?_getD,List.getElem?_eq_none (by rw [hlen]; exact List.getElem?_eq_none_iff.1 ho)] at hj
  simp at hj
 | some o=>
  have h:=BA l i o ho
  rw [List.getD_eq_getElem?_getD,h] at hj
  simp only [Option.getD_some,List.mem_flatMap,List.mem_cons] at hj
  obtain ⟨e,he,hj⟩:=hj
  have bp:=hb i o ho e he
  have WR:((cc l).take i).getD e.on []=(cc l).getD e.on []:=by
   rw [List.getD_eq_getElem?_getD,List.getD_eq_getElem?_getD,List.getElem?_take,if_pos bp]
  rw [WR] at hj
  refine ⟨?_,o,rfl,e,he,hj⟩
  rcases hj with rfl | hj
  ·exact bp
  ·-- by the strong law below
   have:∀ (k i:Nat),i≤k→∀ j∈(cc l).getD i [],j < i:=by
    intro k
    induction k with
    | zero=>
     intro i hi j hj
     obtain rfl:i=0:=by omega
     cases ho:l[0]? with
     | none=>
      obtain rfl:l=[]:=by cases l with | nil=>rfl | cons=>simp at ho
      simp [cc] at hj
     | some o=>
      have h:=BA l 0 o ho
      rw [List.getD_eq_getElem?_getD,h] at hj
      simp only [Option.getD_some,List.mem_flatMap] at hj
      obtain ⟨e,he,_⟩:=hj
      exact absurd (hb 0 o ho e he) (Nat.not_lt_zero _)
    | succ k ih=>
     intro i hi j hj
     cases ho:l[i]? with
     | none=>
      have hlen:(cc l).length=l.length:=by
       have:∀ (l:LO) (acc:LL),(l.foldl lr acc).length=acc.length+l.length:=by
        intro l
        induction l with
        | nil=>intro acc; rfl
        | cons x l ih=>intro acc; rw [List.foldl_cons,ih]; simp [lr]; omega
       simpa [cc] using this l []
      rw [List.getD_eq_getElem?_getD,List.getElem?_eq_none (by rw [hlen]; exact List.getElem?_eq_none_iff.1 ho)] at hj
      simp at hj
     | some o=>
      have h:=BA l i o ho
      rw [List.getD_eq_getElem?_getD,h] at hj
      simp only [Option.getD_some,List.mem_flatMap,List.mem_cons] at hj
      obtain ⟨e,he,hj⟩:=hj
      have bp:=hb i o ho e he
      rcases hj with rfl | hj
      ·exact bp
      ·have WR:((cc l).take i).getD e.on []=(cc l).getD e.on []:=by
        rw [List.getD_eq_getElem?_getD,List.getD_eq_getElem?_getD,List.getElem?_take,if_pos bp]
       rw [WR] at hj
       have:=ih e.on (by omega) j hj
       omega
   exact Nat.lt_trans (this e.on e.on (Nat.le_refl _) j hj) bp
theorem Bq (l:LO) (hb:∀ (i:Nat) (o:Oper),l[i]? = some o→∀ e∈o.after.toList.filter (Region.binds .any),e.on < i) {j k:Nat} (hj:j∈(cc l).getD k []):∀ {i:Nat},k∈(cc l).getD i []→j∈(cc l).getD i []:=by
 intro i
 induction i using Nat.strongRecOn with
 | _ i ih=>
  intro hk
  obtain ⟨_,o,ho,e,he,WS⟩:=Cy l hb i k hk
  have bp:=hb i o ho e he
  have h2:j∈(cc l).getD e.on []:=WS.elim (fun h=>h ▸ hj) (fun h=>ih e.on bp h)
  have h:=BA l i o ho
  rw [List.getD_eq_getElem?_getD,h]
  simp only [Option.getD_some,List.mem_flatMap,List.mem_cons]
  refine ⟨e,he,.inr ?_⟩
  rw [List.getD_eq_getElem?_getD,List.getElem?_take,if_pos bp,← List.getD_eq_getElem?_getD]
  exact h2
theorem getD_both {Jf:Array Bool} {i:Nat} (h:Jf.getD i true=false):Jf.getD i false=false:=by
 rcases Nat.lt_or_ge i Jf.size with h' | h'
 ·simp [h'] at h ⊢; exact h
 ·simp [Array.getElem?_eq_none h'] at h
theorem getD_replicate_false (m j:Nat):(Array.replicate m false).getD j false=false:=by
 rcases Nat.lt_or_ge j m with h | h
 ·simp [h]
 ·simp [h]
theorem G0:∀ (l:LO),(l.filterMap (·.dst)).Nodup→∀ i j d,bw l i=some d→bw l j=some d→i=j:=by
 intro l
 induction l with
 | nil=>intro _ i j d h; simp [bw] at h
 | cons o l ih=>
  intro hn i j d hi hj
  have Gi:∀ k,bw (o :: l) (k+1)=some d→d∈l.filterMap (·.dst):=by
   intro k hk
   simp only [bw,List.getElem?_cons_succ] at hk
   cases ho:l[k]? with
   | none=>rw [ho] at hk; cases hk
   | some x=>rw [ho] at hk; exact List.mem_filterMap.2 ⟨x,List.mem_of_getElem? ho,hk⟩
  have h0:∀ e,o.dst=some e→e ∉ l.filterMap (·.dst)∧(l.filterMap (·.dst)).Nodup:=by
   intro e he
   rw [List.filterMap_cons_some he] at hn
   exact List.nodup_cons.1 hn
  have xc:(l.filterMap (·.dst)).Nodup:=by
   cases hd:o.dst with
   | none=>rwa [List.filterMap_cons_none hd] at hn
   | some e=>exact (h0 e hd).2
  cases i with
  | zero=>
   cases j with
   | zero=>rfl
   | succ j=>exact absurd (Gi j hj) (h0 d (by simpa [bw] using hi)).1
  | succ i=>
   cases j with
   | zero=>exact absurd (Gi i hi) (h0 d (by simpa [bw] using hj)).1
   | succ j=>rw [ih xc i j d (by simpa [bw] using hi) (by simpa [bw] using hj)]
theorem lg {m j:Nat} (hj:j < m):bw (l.take m) j=bw l j:=by
 unfold bw
 rw [List.getElem?_take,if_pos hj]
theorem qc {o:Oper} {r:NV} {w:World} {K K':Value→World→Prop} (h:fw P o r w K) (hk:∀ v w',K v w'→K' v w'):fw P o r w K':=by
 unfold fw at h ⊢
 cases hr:(execOp (ev r) o).run P w with
 | ok x w'=>
  rw [hr] at h
  cases x with
  | value v=>exact hk _ _ h
  | skip=>exact hk _ _ h
  | enter f args=>exact h.mono fun e GL ⟨v,he,hv⟩=>⟨v,he,hk _ _ hv⟩
  | _=>exact h
 | _=>rw [hr] at h; exact h.elim
theorem GZ {m:Nat} {Z:LN} (h:xK l m Z=true):∀ (i:Nat) (o:Oper),l[i]? = some o→∀ e∈o.after.toList.filter (Region.binds .any),e.on < i:=by
 simp only [xK,Bool.and_eq_true,List.all_eq_true,List.mem_range] at h
 intro i o ho e he
 have hi:i < l.length:=(List.getElem?_eq_some_iff.1 ho).1
 have:=h.1.1 i hi e (by rw [List.getD_eq_getElem?_getD,ho]; exact he)
 exact Nat.lt_of_succ_le (Nat.le_of_ble_eq_true this)
theorem N8 {m:Nat} {U:LL} {Z H:LN} {N:Nat→Prop} (hd:dj n l=true) (hA:xK l m Z=true) (hZ:DO l m Z=true) (hp:∀ c r w,Q (.panic c) r w→False) (GY:m≤l.length)
  (hS:S.length=m)
  (hH:∀ b∈H,b < w0.heap.size) (hU:((List.range m).all fun i=>(U.getD i []).all fun u=>Nat.beq u l.length || ((cc l).getD i []).contains u)=true)
  (hN:∀ b,N b→b < w0.heap.size∧b ∉ H)
  (qw:∀ (i:Nat) (s:fv),S[i]? = some s→∀ f F (w w':World) (r r':NV) v,ay F w w'→(∀ b∈f,b ∉ F)→(∀ b∈F,¬ N b)→(∀ j∈(cc l).getD i [],∀ t,bw l j=some t→r' t=r t)→s.V f w r v→s.V f w' r' v)
  (Qd:∀ i,i < m→iH P l m S U r0 w0 H i)
  (next:∀ g r w,yE l m S U r0 w0 H (fun j=>j < m) g r w→WL P l (l.drop m) r w (Q .normal)) :
  mx P n l Q r0 w0:=by
 simp only [xK,Bool.and_eq_true,List.all_eq_true,List.mem_range,Bool.or_eq_true] at hA
 obtain ⟨⟨Wl,Wm⟩,Wn⟩:=hA
 have x6:∀ (i:Nat) (o:Oper),l[i]? = some o→∀ e∈o.after.toList.filter (Region.binds .any),e.on < i:=by
  intro i o ho e he
  have hi:i < l.length:=(List.getElem?_eq_some_iff.1 ho).1
  have:=Wl i hi e (by rw [List.getD_eq_getElem?_getD,ho]; exact he)
  exact Nat.lt_of_succ_le (Nat.le_of_ble_eq_true this)
 have Gb:∀ i,m≤i→i < l.length→∀ j,j < i→j∈(cc l).getD i []∨j∈Z:=by
  intro i h1 h2 j hj
  rcases Wm i h2 with h | h
  ·exact absurd (Nat.lt_of_succ_le (Nat.le_of_ble_eq_true h)) (Nat.not_lt.2 h1)
  ·have:=h j hj
   simpa using this
 simp only [DO,Bool.and_eq_true,List.all_eq_true] at hZ
 obtain ⟨SU,hZ⟩:=hZ
 have WT:∀ z∈Z,z < m:=fun z hz=>Nat.lt_of_succ_le (Nat.le_of_ble_eq_true (hZ z hz).1.1)
 have Wo:∀ i,i < m→∀ u∈U.getD i [],u=l.length∨u∈(cc l).getD i []:=by
  intro i hi u hu
  simp only [List.all_eq_true,List.mem_range] at hU
  have:=hU i hi u hu
  simpa using this
 have dx:=G0 _ (Aj Wn)
 have qd:=Cy l x6
 intro a h1 h2 h3
 let Cl (L:Array Bool):Prop:=L.size=l.length∧∀ j o,l[j]? = some o→L.getD j false=true→∀ e∈o.after.toList.filter (Region.binds .any),L.getD e.on false=true
 have ji:∀ L,Cl L→∀ i j,(∀ o,l[i]? = some o→∀ e∈o.after.toList.filter (Region.binds .any),L.getD e.on false=true)→j∈(cc l).getD i []→L.getD j false=true:=by
  intro L hL i
  induction i using Nat.strongRecOn with
  | _ i ih=>
   intro j hi hj
   obtain ⟨_,o,ho,e,he,IU⟩:=qd i j hj
   have hl:=hi o ho e he
   rcases IU with rfl | IU
   ·exact hl
   ·exact ih e.on (x6 i o ho e he) j (fun o' ch e' vo=>hL.2 _ _ ch hl e' vo) IU
 have DP:∀ L i,i∈Region.ready .any l.toArray L→L.getD i true=false∧∃ o,l[i]? = some o∧∀ e∈o.after.toList.filter (Region.binds .any),L.getD e.on false=true:=by
  intro L i hi
  obtain ⟨g1,o,ho,ew⟩:=mem_ready.1 hi
  refine ⟨g1,o,by simpa using ho,fun e he=>?_⟩
  have:=List.mem_filter.1 he
  exact ew e (by simpa using this.1) this.2
 have EV:∀ L i o,L.size=l.length→l[i]? = some o→L.getD i false=false→(∀ e∈o.after.toList.filter (Region.binds .any),L.getD e.on false=true)→i∈Region.ready .any l.toArray L:=by
  intro L i o hs ho hu ew
  refine mem_ready.2 ⟨?_,o,by simpa using ho,fun e he hb=>ew e (List.mem_filter.2 ⟨by simpa using he,hb⟩)⟩
  have hi:i < L.size:=by rw [hs]; exact (List.getElem?_eq_some_iff.1 ho).1
  simp [hi] at hu ⊢; exact hu
 have HH:∀ L i o,Cl L→l[i]? = some o→(∀ e∈o.after.toList.filter (Region.binds .any),L.getD e.on false=true)→Cl (L.setIfInBounds i true):=by
  intro L i o hL ho ew
  refine ⟨by rw [Array.size_setIfInBounds]; exact hL.1,fun j o' ch hj e he=>?_⟩
  by_cases wm:i=j
  ·subst wm
   have:o'=o:=Option.some.inj (ch.symm.trans ho)
   subst this
   exact getD_set_true (ew e he)
  ·rw [getD_set_ne false wm] at hj
   exact getD_set_true (hL.2 j o' ch hj e he)
 have getSet:∀ (L:Array Bool) i j,L.size=l.length→i < l.length→((L.setIfInBounds i true).getD j false=true↔j=i∨L.getD j false=true):=by
  intro L i j hs hi
  by_cases wm:i=j
  ·subst wm
   simp [hs,hi]
  ·rw [getD_set_ne false wm]
   constructor
   ·exact .inr
   ·rintro (h | h)
    ·exact absurd h.symm wm
    ·exact h
 have IV:∀ (L:Array Bool) i,L.size=l.length→i < l.length→L.getD i false=false→(L.setIfInBounds i true).toList.count false+1=L.toList.count false:=by
  intro L i hs hi hu
  have vk:i < L.toList.length:=by simpa [hs] using hi
  have DQ:L.toList[i]=false:=by
   rw [Array.getElem_toList]
   simp [hs,hi] at hu
   exact hu
  rw [Array.toList_setIfInBounds,List.count_set vk,DQ]
  have:0 < L.toList.count false:=List.count_pos_iff.2 (by rw [← DQ]; exact List.getElem_mem vk)
  rw [if_pos (by rfl),if_neg (by decide)]
  omega
 have tail:∀ (d k fuel:Nat) (L:Array Bool) (a:Act) (w:World),l.length - k=d→m≤k→k≤l.length→Cl L→(∀ j,L.getD j false=true↔j < k)→L.toList.count false≤fuel→a.tmps.size=n→a.defers=[]→
   WL P l (l.drop k) (cn a) w (Q .normal)→wpAny P .any l.toArray (fun e a' w'=>a'.tmps.size=n∧a'.defers=[]∧Q e (cn a') w') fuel L a w:=by
  intro d
  induction d with
  | zero=>
   intro k fuel L a w hk hmk DM hL ib hf g1 g2 hW
   obtain rfl:k=l.length:=by omega
   rw [List.drop_length] at hW
   have sk:Region.ready .any l.toArray L=[]:=by
    apply List.eq_nil_iff_forall_not_mem.2
    intro i hi
    obtain ⟨q1,o,ho,_⟩:=DP L i hi
    have bp:i < l.length:=(List.getElem?_eq_some_iff.1 ho).1
    have:=(ib i).2 bp
    simp [hL.1,bp] at q1 this
    rw [q1] at this; cases this
   cases fuel with
   | zero=>exact ⟨sk,g1,g2,hW⟩
   | succ fuel=>exact ⟨fun _=>⟨g1,g2,hW⟩,fun i hi=>by rw [sk] at hi; cases hi⟩
  | succ d ih=>
   intro k fuel L a w hk hmk DM hL ib hf g1 g2 hW
   have MK:k < l.length:=by omega
   obtain ⟨o,ho⟩ : ∃ o,l[k]? = some o:=⟨l[k],List.getElem?_eq_getElem MK⟩
   have WU:L.getD k false=false:=by
    cases hb:L.getD k false with
    | false=>rfl
    | true=>exact absurd ((ib k).1 hb) (Nat.lt_irrefl _)
   have n8:k∈Region.ready .any l.toArray L:=EV L k o hL.1 ho WU fun e he=>(ib _).2 (x6 k o ho e he)
   have ZD:l.drop k=o :: l.drop (k+1):=by rw [List.drop_eq_getElem_cons MK]; congr 1; exact Option.some.inj ((List.getElem?_eq_getElem MK).symm.trans ho)
   rw [ZD] at hW
   have hc:=IV L k hL.1 MK WU
   cases fuel with
   | zero=>omega
   | succ fuel=>
    refine ⟨fun h=>(by rw [h] at n8; cases n8),fun i hi=>?_⟩
    obtain ⟨q1,oi,nj,ew⟩:=DP L i hi
    have fq:i < l.length:=(List.getElem?_eq_some_iff.1 nj).1
    have vM:L.getD i false=false:=getD_both q1
    have hik:i=k:=by
     rcases Nat.lt_trichotomy i k with h | h | h
     ·have:=(ib i).2 h; rw [vM] at this; cases this
     ·exact h
     ·have:=ji L hL i k (fun o' ch=>by have:o'=oi:=Option.some.inj (ch.symm.trans nj); subst this; exact ew) ((Gb i (by omega) fq k h).resolve_right fun hz=>absurd (WT k hz) (by omega))
      rw [WU] at this; cases this
    subst hik
    have Oh:oi=o:=Option.some.inj (nj.symm.trans ho)
    subst Oh
    have G4:∀ k',oi.dst=some k'→k' < a.tmps.size:=by
     intro k' yC
     have wk:oi∈l:=List.mem_of_getElem? nj
     simp only [dj,List.all_eq_true] at hd
     have:=hd oi wk
     rw [yC] at this
     rw [g1]
     exact Nat.lt_of_succ_le (Nat.le_of_ble_eq_true this)
    have DR:=HH L i oi hL nj ew
    have Bv:∀ j,(L.setIfInBounds i true).getD j false=true↔j < i+1:=by
     intro j
     rw [getSet L i j hL.1 fq,ib j]
     omega
    unfold wpOp
    rw [show (l.toArray)[i]? = some oi by simpa using nj]
    simp only []
    rw [Bt (by rw [g1]; exact hd)]
    rcases hW with ⟨hw,hW⟩ | ⟨hw,hW⟩
    ·rw [if_pos hw]
     exact .inl (hW.wp fun v w' hv=>ih (i+1) fuel _ _ _ (by omega) (by omega) (by omega) DR Bv (by omega) (by rw [j8]; exact g1) (by rw [ic]; exact g2) (by rw [l7 G4]; exact hv))
    ·rw [if_neg (by rw [hw]; exact Bool.false_ne_true)]
     exact ih (i+1) fuel _ _ _ (by omega) (by omega) (by omega) DR Bv (by omega) (by rw [j8]; exact g1) (by rw [ic]; exact g2) (by rw [l7 G4]; exact hW)
 have head:∀ (fuel:Nat) (L:Array Bool) (a:Act) (w:World) (g:Nat→List Nat),Cl L→(∀ j,L.getD j false=true→j < m)→L.toList.count false≤fuel→a.tmps.size=n→a.defers=[]→
   yE l m S U r0 w0 H (fun j=>L.getD j false=true) g (cn a) w→wpAny P .any l.toArray (fun e a' w'=>a'.tmps.size=n∧a'.defers=[]∧Q e (cn a') w') fuel L a w:=by
  intro fuel
  induction fuel with
  | zero=>
   intro L a w g hL vK hf g1 g2 inv
   have ew:∀ j,j < l.length→L.getD j false=true:=by
    intro j hj
    cases hb:L.getD j false with
    | true=>rfl
    | false=>have:=IV L j hL.1 hj hb; omega
   have ib:∀ j,L.getD j false=true↔j < m:=fun j=>⟨vK j,fun h=>ew j (by omega)⟩
   refine tail _ m 0 L a w rfl (Nat.le_refl _) GY hL ib hf g1 g2 (next g _ _ ?_)
   exact ⟨inv.ly,fun hk=>inv.CA fun k yH=>hk k ((ib k).1 yH),inv.vg,fun j hj=>inv.vd j ((ib j).2 hj),fun j hj hk=>inv.done j ((ib j).2 hj) (fun k yH=>hk k ((ib k).1 yH)),fun j hj=>inv.uh j ((ib j).2 hj),inv.other,fun j hj b hb=>⟨(inv.fresh j ((ib j).2 hj) b hb).1.imp (fun h=>h) fun h=>⟨h.1,h.2.imp fun k hk=>⟨(ib k).1 hk.1,hk.2⟩⟩,(inv.fresh j ((ib j).2 hj) b hb).2⟩,fun i j hi hj=>inv.xQ i j ((ib i).2 hi) ((ib j).2 hj)⟩
  | succ fuel ih=>
   intro L a w g hL vK hf g1 g2 inv
   by_cases ew:∀ j,j < m→L.getD j false=true
   ·have ib:∀ j,L.getD j false=true↔j < m:=fun j=>⟨vK j,ew j⟩
    refine tail _ m _ L a w rfl (Nat.le_refl _) GY hL ib hf g1 g2 (next g _ _ ?_)
    exact ⟨inv.ly,fun hk=>inv.CA fun k yH=>hk k ((ib k).1 yH),inv.vg,fun j hj=>inv.vd j ((ib j).2 hj),fun j hj hk=>inv.done j ((ib j).2 hj) (fun k yH=>hk k ((ib k).1 yH)),fun j hj=>inv.uh j ((ib j).2 hj),inv.other,fun j hj b hb=>⟨(inv.fresh j ((ib j).2 hj) b hb).1.imp (fun h=>h) fun h=>⟨h.1,h.2.imp fun k hk=>⟨(ib k).1 hk.1,hk.2⟩⟩,(inv.fresh j ((ib j).2 hj) b hb).2⟩,fun i j hi hj=>inv.xQ i j ((ib i).2 hi) ((ib j).2 hj)⟩
   ·obtain ⟨j0,SV,G3⟩ : ∃ j,j < m∧L.getD j false=false:=by
     apply Classical.byContradiction
     intro sk
     apply ew
     intro j hj
     cases hb:L.getD j false with
     | true=>rfl
     | false=>exact absurd ⟨j,hj,hb⟩ sk
    have My:∃ i,i∈Region.ready .any l.toArray L:=by
     have:∀ k,(∃ j,j < k∧j < m∧L.getD j false=false)→∃ i,i∈Region.ready .any l.toArray L:=by
      intro k
      induction k with
      | zero=>rintro ⟨j,h,_⟩; omega
      | succ k EM=>
       rintro ⟨j,Od,CB,sn⟩
       by_cases Ef:∃ j,j < k∧j < m∧L.getD j false=false
       ·exact EM Ef
       ·obtain rfl:j=k:=by
         apply Classical.byContradiction
         intro h
         exact Ef ⟨j,by omega,CB,sn⟩
        have EW:j < l.length:=by omega
        refine ⟨j,EV L j l[j] hL.1 (List.getElem?_eq_getElem EW) sn fun e he=>?_⟩
        have bp:=x6 j _ (List.getElem?_eq_getElem EW) e he
        cases hb:L.getD e.on false with
        | true=>rfl
        | false=>exact absurd ⟨e.on,bp,by omega,hb⟩ Ef
     exact this (j0+1) ⟨j0,by omega,SV,G3⟩
    have main:∀ i oi,i < m→l[i]? = some oi→L.getD i false=false→(∀ e∈oi.after.toList.filter (Region.binds .any),L.getD e.on false=true)→
      (Region.wanted oi (yl l (cn a))=true∧fw P oi (cn a) w fun v w'=>wpAny P .any l.toArray (fun e a' w'=>a'.tmps.size=n∧a'.defers=[]∧Q e (cn a') w') fuel (L.setIfInBounds i true) (a.put oi.dst v) w')∨
      (Region.wanted oi (yl l (cn a))=false∧wpAny P .any l.toArray (fun e a' w'=>a'.tmps.size=n∧a'.defers=[]∧Q e (cn a') w') fuel (L.setIfInBounds i true) (a.put oi.dst undef) w):=by
     intro i oi vL nj vM vN
     have fq:i < l.length:=(List.getElem?_eq_some_iff.1 nj).1
     have my:∀ o,l[i]? = some o→∀ e∈o.after.toList.filter (Region.binds .any),L.getD e.on false=true:=fun o' ch=>by
      have:o'=oi:=Option.some.inj (ch.symm.trans nj)
      subst this; exact vN
     obtain ⟨s,hs⟩ : ∃ s,S[i]? = some s:=⟨S[i]'(by omega),List.getElem?_eq_getElem (by omega)⟩
     have hc:=IV L i hL.1 fq vM
     have DR:=HH L i oi hL nj vN
     have Wq:∀ j,(L.setIfInBounds i true).getD j false=true→j < m:=by
      intro j hj
      rcases (getSet L i j hL.1 fq).1 hj with rfl | hj
      ·exact vL
      ·exact vK j hj
     have EX:∀ k,L.getD k false=true→k≠i∧i ∉ (cc l).getD k []:=by
      intro k hk
      refine ⟨fun h=>(by rw [h,vM] at hk; cases hk),fun wk=>?_⟩
      have:=ji L hL k i (fun o' ch e' vo=>hL.2 k o' ch hk e' vo) wk
      rw [vM] at this; cases this
     have ow:=Qd i vL oi s nj hs g (cn a) w inv.ly (fun hV=>by
       have sk:∀ k,L.getD k false=true→l.length ∉ U.getD k []:=fun k hk IW=>by
        simp only [wY,List.all_eq_true,List.mem_range,Bool.or_eq_true,Bool.not_eq_true',List.contains_eq_mem,decide_eq_false_iff_not,decide_eq_true_eq] at hV
        rcases hV k (vK k hk) with (h | h) | h
        ·exact h IW
        ·exact (EX k hk).1 (Nat.eq_of_beq_eq_true h)
        ·exact (EX k hk).2 h
       have h0:=inv.CA sk
       exact ⟨h0.1,h0.2,fun j hj b hb=>(inv.fresh j (ji L hL i j my hj) b hb).1.elim (fun h=>h) fun h=>absurd h.2.choose_spec.2 (sk _ h.2.choose_spec.1)⟩) (fun j hj=>inv.uh j (ji L hL i j my hj)) (fun j hj=>by
       simp only [rq,Bool.and_eq_true,List.all_eq_true,List.mem_range,Bool.or_eq_true,Bool.not_eq_true',List.contains_eq_mem,decide_eq_false_iff_not,decide_eq_true_eq] at hj
       refine inv.done j (ji L hL i j my hj.1) fun k hk Od=>?_
       rcases hj.2 k (vK k hk) with (h | h) | h
       ·exact h Od
       ·exact (EX k hk).1 (Nat.eq_of_beq_eq_true h)
       ·exact (EX k hk).2 h) inv.other
      (fun i' vk j' ik=>inv.xQ i' j' (ji L hL i i' my vk) (ji L hL i j' my ik))
      (fun j hj b hb=>⟨(inv.fresh j (ji L hL i j my hj) b hb).1.imp (fun h=>h) (·.1),(inv.fresh j (ji L hL i j my hj) b hb).2⟩)
     have hblk:∀ b∈qu g (U.getD i []),(∃ u,u∈U.getD i []∧L.getD u false=true∧b∈g u)∨(l.length∈U.getD i []∧b∈g l.length):=by
      intro b hb
      obtain ⟨u,hu,gf⟩:=List.mem_flatMap.1 hb
      rcases Wo i vL u hu with rfl | h
      ·exact .inr ⟨hu,gf⟩
      ·exact .inl ⟨u,hu,ji L hL i u my h,gf⟩
     have G4:∀ k',oi.dst=some k'→k' < a.tmps.size:=by
      intro k' yC
      have wk:oi∈l:=List.mem_of_getElem? nj
      simp only [dj,List.all_eq_true] at hd
      have:=hd oi wk
      rw [yC] at this
      rw [g1]
      exact Nat.lt_of_succ_le (Nat.le_of_ble_eq_true this)
     have Ax:bw l i=oi.dst:=by unfold bw; rw [nj]; rfl
     have qk:∀ v t,(oi.dst≠some t)→cn (a.put oi.dst v) t=cn a t:=by
      intro v t ht
      rw [l7 G4]
      cases yI:oi.dst with
      | none=>rfl
      | some d=>
       show (bif Nat.beq t d then v else cn a t)=cn a t
       cases hb:Nat.beq t d with
       | false=>rfl
       | true=>exact absurd (by rw [yI,Nat.eq_of_beq_eq_true hb]) ht
     have IX:∀ v d,oi.dst=some d→cn (a.put oi.dst v) d=v:=by
      intro v d yI
      rw [l7 G4,yI]
      show (bif Nat.beq d d then v else cn a d)=v
      rw [Nat.beq_refl]; rfl
     have step:∀ v w' f,ay (qu g (U.getD i [])) w w'→(∀ b∈f,(b∈qu g (U.getD i [])∨w.heap.size≤b)∧b < w'.heap.size)→(if s.b then s.V f w' (cn a) v else v=undef)→
       wpAny P .any l.toArray (fun e a' w'=>a'.tmps.size=n∧a'.defers=[]∧Q e (cn a') w') fuel (L.setIfInBounds i true) (a.put oi.dst v) w':=by
      intro v w' f hC xg hV
      have tz:∀ j',j' < m→j'≠i→∀ t,bw l j'=some t→cn (a.put oi.dst v) t=cn a t:=by
       intro j' ik q9 t ht
       refine qk v t fun h=>q9 (dx j' i t ?_ ?_)
       ·rw [lg ik]; exact ht
       ·rw [lg vL,Ax]; exact h
      have Oe:∀ b∈qu g (U.getD i []),¬ N b:=fun b hb hn=>by
       rcases hblk b hb with ⟨u,_,o3,gf⟩ | ⟨_,gf⟩
       ·rcases (inv.fresh u o3 b gf).1 with h | h
        ·have:=(hN b hn).1; omega
        ·exact (hN b hn).2 h.1
       ·exact (hN b hn).2 (inv.vg b gf)
      refine ih _ _ _ (fun j=>if j=i then f else if j∈U.getD i [] then [] else g j) DR Wq (by omega) (by rw [j8]; exact g1) (by rw [ic]; exact g2)
       ⟨inv.ly.then hC fun b hb=>(by
        rcases hblk b hb with ⟨u,_,o3,gf⟩ | ⟨_,gf⟩
        ·exact (inv.fresh u o3 b gf).1.elim .inr fun h=>.inl h.1
        ·exact .inl (inv.vg b gf)),fun sk=>?_,?_,fun j hj=>?_,?_,fun j hj d p4 sj r9=>?_,?_,?_,?_⟩
      ·have xf:l.length ∉ U.getD i []:=sk i ((getSet L i i hL.1 fq).2 (.inl rfl))
       have h0:=inv.CA fun k hk=>sk k ((getSet L i k hL.1 fq).2 (.inr hk))
       refine ⟨h0.1.then hC fun b hb=>?_,?_⟩
       ·rcases hblk b hb with ⟨u,_,o3,gf⟩ | ⟨h,_⟩
        ·exact (inv.fresh u o3 b gf).1.elim .inr fun ⟨_,k,hk,IW⟩=>absurd IW (sk k ((getSet L i k hL.1 fq).2 (.inr hk)))
        ·exact absurd h xf
       ·show (if l.length=i then f else if l.length∈U.getD i [] then [] else g l.length)=H
        rw [if_neg (by omega),if_neg xf]
        exact h0.2
      ·intro b hb
       have cu:b∈(if l.length=i then f else if l.length∈U.getD i [] then [] else g l.length):=hb
       rw [if_neg (by omega)] at cu
       split at cu
       ·cases cu
       ·exact inv.vg b cu
      ·intro b hb hv
       have n7:b∈(if l.length=i then f else if l.length∈U.getD i [] then [] else g l.length):=hv
       rw [if_neg (by omega)] at n7
       split at n7
       ·cases n7
       ·rename_i Wr
        have cu:b∈(if j=i then f else if j∈U.getD i [] then [] else g j):=hb
        split at cu
        ·rcases (xg b cu).1 with h | h
         ·rcases hblk b h with ⟨u,_,o3,gf⟩ | ⟨h,_⟩
          ·exact inv.vd u o3 b gf n7
          ·exact Wr h
         ·have h1:=hH b (inv.vg b n7)
          have h2:=inv.ly.size
          omega
        ·rename_i lq
         split at cu
         ·cases cu
         ·exact inv.vd j (((getSet L i j hL.1 fq).1 hj).resolve_left lq) b cu n7
      ·intro j hj yJ
       refine ⟨fun d p4=>?_,fun Ws sj r9 Of=>?_⟩
       rotate_left
       ·by_cases lq:j=i
        ·subst lq
         rw [hs] at r9
         cases r9
         rw [if_pos Of] at hV
         refine ⟨v,?_⟩
         simp only [if_pos]
         exact qw j s hs _ [] w' w' (cn a) _ v (ay.refl _ _) (fun _ _ h=>nomatch h) (fun _ h=>nomatch h) (fun j' ik t ht=>tz j' (by have:=(qd j j' ik).1; omega) (by have:=(qd j j' ik).1; omega) t ht) hV
        ·have lh:=((getSet L i j hL.1 fq).1 hj).resolve_left lq
         have sn:j ∉ U.getD i []:=yJ i ((getSet L i i hL.1 fq).2 (.inl rfl))
         obtain ⟨x,hx⟩:=(inv.done j lh (fun k hk=>yJ k ((getSet L i k hL.1 fq).2 (.inr hk)))).2 Ws sj r9 Of
         have lz:(fun j=>if j=i then f else if j∈U.getD i [] then [] else g j) j=g j:=by
          show (if j=i then f else if j∈U.getD i [] then [] else g j)=g j
          rw [if_neg lq,if_neg sn]
         rw [lz]
         refine ⟨x,qw j sj r9 _ _ _ _ (cn a) _ _ hC (fun b cu IY=>?_) Oe (fun j' ik t ht=>tz j' (by have:=(qd j j' ik).1; have:=vK j lh; omega) (fun h=>?_) t ht) hx⟩
         ·rcases hblk b IY with ⟨u,CC,o3,gf⟩ | ⟨_,gf⟩
          ·exact inv.xQ j u lh o3 (fun h=>sn (h ▸ CC)) b cu gf
          ·exact inv.vd j lh b cu gf
         ·subst h
          have:=ji L hL j j' (fun o' ch e' vo=>hL.2 j o' ch lh e' vo) ik
          rw [vM] at this; cases this
       by_cases lq:j=i
       ·subst lq
        rw [hs]
        simp only [if_pos]
        rw [Ax] at p4
        rw [IX v d p4]
        split
        ·rename_i hb
         rw [if_pos hb] at hV
         exact qw j s hs _ [] w' w' (cn a) _ v (ay.refl _ _) (fun _ _ h=>nomatch h) (fun _ h=>nomatch h) (fun j' ik t ht=>tz j' (by have:=(qd j j' ik).1; omega) (by have:=(qd j j' ik).1; omega) t ht) hV
        ·rename_i hb
         rw [if_neg hb] at hV
         exact hV
       ·have lh:=((getSet L i j hL.1 fq).1 hj).resolve_left lq
        have CB:=vK j lh
        have sn:j ∉ U.getD i []:=yJ i ((getSet L i i hL.1 fq).2 (.inl rfl))
        have yI:oi.dst≠some d:=by
         intro h
         apply lq
         refine dx j i d ?_ ?_
         ·rw [lg CB]; exact p4
         ·rw [lg vL,Ax]; exact h
        have:=(inv.done j lh (fun k hk=>yJ k ((getSet L i k hL.1 fq).2 (.inr hk)))).1 d p4
        rw [qk v d yI]
        have lz:(fun j=>if j=i then f else if j∈U.getD i [] then [] else g j) j=g j:=by
         show (if j=i then f else if j∈U.getD i [] then [] else g j)=g j
         rw [if_neg lq,if_neg sn]
        rw [lz]
        cases r9:S[j]? with
        | none=>trivial
        | some sj=>
         rw [r9] at this
         simp only [] at this ⊢
         split
         ·rename_i hb
          rw [if_pos hb] at this
          refine qw j sj r9 _ _ _ _ (cn a) _ _ hC (fun b cu IY=>?_) Oe (fun j' ik t ht=>tz j' (by have:=(qd j j' ik).1; omega) (fun h=>?_) t ht) this
          rotate_left
          ·subst h
           have:=ji L hL j j' (fun o' ch e' vo=>hL.2 j o' ch lh e' vo) ik
           rw [vM] at this; cases this
          rcases hblk b IY with ⟨u,CC,o3,gf⟩ | ⟨_,gf⟩
          ·exact inv.xQ j u lh o3 (fun h=>sn (h ▸ CC)) b cu gf
          ·exact inv.vd j lh b cu gf
         ·rename_i hb
          rw [if_neg hb] at this
          exact this
      ·by_cases lq:j=i
       ·subst lq
        rw [hs] at r9
        cases r9
        rw [Ax] at p4
        rw [IX v d p4]
        split
        ·rename_i hb
         rw [if_pos hb] at hV
         exact ⟨f,w',qw j s hs _ [] w' w' (cn a) _ v (ay.refl _ _) (fun _ _ h=>nomatch h) (fun _ h=>nomatch h) (fun j' ik t ht=>tz j' (by have:=(qd j j' ik).1; omega) (by have:=(qd j j' ik).1; omega) t ht) hV⟩
        ·rename_i hb
         rw [if_neg hb] at hV
         exact hV
       ·have lh:=((getSet L i j hL.1 fq).1 hj).resolve_left lq
        have CB:=vK j lh
        have yI:oi.dst≠some d:=by
         intro h
         apply lq
         refine dx j i d ?_ ?_
         ·rw [lg CB]; exact p4
         ·rw [lg vL,Ax]; exact h
        have:=inv.uh j lh d p4 sj r9
        rw [qk v d yI]
        split
        ·rename_i hb
         rw [if_pos hb] at this
         obtain ⟨f1,w1,h1⟩:=this
         refine ⟨f1,w1,qw j sj r9 _ [] w1 w1 (cn a) _ _ (ay.refl _ _) (fun _ _ h=>nomatch h) (fun _ h=>nomatch h) (fun j' ik t ht=>tz j' (by have:=(qd j j' ik).1; omega) (fun h=>?_) t ht) h1⟩
         subst h
         have:=ji L hL j j' (fun o' ch e' vo=>hL.2 j o' ch lh e' vo) ik
         rw [vM] at this; cases this
        ·rename_i hb
         rw [if_neg hb] at this
         exact this
      ·intro t ht
       rw [qk v t (fun h=>ht i vL (by rw [Ax]; exact h))]
       exact inv.other t ht
      ·intro j hj b hb
       by_cases lq:j=i
       ·simp only [if_pos lq] at hb
        have hh:=xg b hb
        have xe:=inv.ly.size
        rcases hh.1 with h | h
        ·rcases hblk b h with ⟨u,_,o3,gf⟩ | ⟨hv,gf⟩
         ·exact ⟨(inv.fresh u o3 b gf).1.imp (fun h=>h) fun h=>⟨h.1,h.2.imp fun k hk=>⟨(getSet L i k hL.1 fq).2 (.inr hk.1),hk.2⟩⟩,hh.2⟩
         ·exact ⟨.inr ⟨inv.vg b gf,i,(getSet L i i hL.1 fq).2 (.inl rfl),hv⟩,hh.2⟩
        ·exact ⟨.inl (by omega),hh.2⟩
       ·have lh:=((getSet L i j hL.1 fq).1 hj).resolve_left lq
        simp only [if_neg lq] at hb
        split at hb
        ·cases hb
        ·have h1:=inv.fresh j lh b hb
         have h2:=hC.size
         exact ⟨h1.1.imp (fun h=>h) fun h=>⟨h.1,h.2.imp fun k hk=>⟨(getSet L i k hL.1 fq).2 (.inr hk.1),hk.2⟩⟩,by omega⟩
      ·have wJ:∀ j',(L.setIfInBounds i true).getD j' false=true→j'≠i→∀ b∈f,b ∉ (if j'∈U.getD i [] then [] else g j'):=by
        intro j' ik e2 b hb cu
        have IZ:=((getSet L i j' hL.1 fq).1 ik).resolve_left e2
        split at cu
        ·cases cu
        ·rename_i sn
         rcases (xg b hb).1 with h | h
         ·rcases hblk b h with ⟨u,CC,o3,gf⟩ | ⟨_,gf⟩
          ·exact inv.xQ u j' o3 IZ (fun h=>sn (h ▸ CC)) b gf cu
          ·exact inv.vd j' IZ b cu gf
         ·have:=inv.fresh j' IZ b cu
          omega
       intro i' j' vk ik q9 b hb cu
       by_cases e1:i'=i
       ·have e2:j'≠i:=fun h=>q9 (e1.trans h.symm)
        simp only [if_pos e1] at hb
        simp only [if_neg e2] at cu
        exact wJ j' ik e2 b hb cu
       ·simp only [if_neg e1] at hb
        by_cases e2:j'=i
        ·simp only [if_pos e2] at cu
         exact wJ i' vk e1 b cu hb
        ·simp only [if_neg e2] at cu
         split at hb
         ·cases hb
         ·split at cu
          ·cases cu
          ·exact inv.xQ i' j' (((getSet L i i' hL.1 fq).1 vk).resolve_left e1) (((getSet L i j' hL.1 fq).1 ik).resolve_left e2) q9 b hb cu
     cases hb:s.b with
     | true=>
      rw [if_pos hb] at ow
      refine .inl ⟨ow.1,qc ow.2 ?_⟩
      rintro v w' ⟨hC,f,xg,hV⟩
      exact step v w' f hC xg (by rw [if_pos hb]; exact hV)
     | false=>
      rw [if_neg (by rw [hb]; exact Bool.false_ne_true)] at ow
      exact .inr ⟨ow,step undef w [] (ay.refl _ _) (fun b h=>nomatch h) (by rw [if_neg (by rw [hb]; exact Bool.false_ne_true)])⟩
    by_cases Tc:∃ z,z∈Z∧L.getD z false=false∧∀ o,l[z]? = some o→∀ e∈o.after.toList.filter (Region.binds .any),L.getD e.on false=true
    ·obtain ⟨z,hz,WV,hze⟩:=Tc
     obtain ⟨⟨hzm,hzf⟩,OB⟩:=hZ z hz
     cases Ha:l[z]? with
     | none=>rw [Ha] at OB; cases OB
     | some oz=>
      rw [Ha] at OB
      simp only [Bool.and_eq_true] at OB
      obtain ⟨hmv,G9⟩:=OB
      have QF:=hze oz Ha
      have hfm:Region.free .any l.toArray L z=true:=OA (fun j hj=>ji L hL z j (fun o' ch=>hze o' ch) hj) hzf
      have hrz:z∈Region.ready .any l.toArray L:=EV L z oz hL.1 Ha WV QF
      obtain ⟨dz,opz,tyz,pz,az,gz⟩:=oz
      cases opz <;> first | exact (Bool.false_ne_true hmv).elim | skip
      case move x=>
       cases gz with
       | some _=>simp at G9
       | none=>
        have hev:∀ w',(execOp a.eval ⟨dz,.move x,tyz,pz,az,none⟩).run P w' = .ok (.value (a.eval x)) w':=fun _=>rfl
        refine wpAny_take (by simpa using Ha) SU hfm (by simpa using hrz) (fun c a w h=>absurd h.2.2 (hp _ _ _)) (v:=a.eval x) (.inl ⟨rfl,hev⟩) ?_
        rcases main z _ (WT z hz) Ha WV QF with ⟨_,h⟩ | ⟨h,_⟩
        ·rw [ru]; exact h
        ·exact absurd h (by simp [Region.wanted])
      case extract x k=>
       cases gz with
       | some _=>simp at G9
       | none=>
        rcases main z _ (WT z hz) Ha WV QF with ⟨_,h⟩ | ⟨h,_⟩
        ·obtain ⟨v,hv,hk⟩:=KC h
         refine wpAny_take (by simpa using Ha) SU hfm (by simpa using hrz) (fun c a w h=>absurd h.2.2 (hp _ _ _)) (v:=v) (.inl ⟨rfl,fun w'=>by rw [ru]; exact hv w'⟩) ?_
         exact hk
        ·exact absurd h (by simp [Region.wanted])
    refine ⟨fun h=>(by obtain ⟨i,hi⟩:=My; rw [h] at hi; cases hi),fun i hi=>?_⟩
    obtain ⟨q1,oi,nj,vN⟩:=DP L i hi
    have fq:i < l.length:=(List.getElem?_eq_some_iff.1 nj).1
    have vM:L.getD i false=false:=getD_both q1
    have vL:i < m:=by
     rcases Nat.lt_or_ge i m with h | h
     ·exact h
     ·have bad:∀ j,j < i→L.getD j false=false→False:=by
       intro j
       induction j using Nat.strongRecOn with
       | _ j ih=>
        intro lq sn
        rcases Gb i h fq j lq with hj | hj
        ·have:=ji L hL i j (fun o' ch=>by have:o'=oi:=Option.some.inj (ch.symm.trans nj); subst this; exact vN) hj
         rw [sn] at this; cases this
        ·refine Tc ⟨j,hj,sn,fun o ho e he=>?_⟩
         cases hb:L.getD e.on false with
         | true=>rfl
         | false=>have bp:=x6 j o ho e he; exact (ih e.on bp (by omega) hb).elim
      exact (bad j0 (by omega) G3).elim
    unfold wpOp
    rw [show (l.toArray)[i]? = some oi by simpa using nj]
    simp only []
    rw [Bt (by rw [g1]; exact hd)]
    rcases main i oi vL nj vM vN with ⟨hw,h⟩ | ⟨hw,h⟩
    ·rw [if_pos hw]
     exact .inl (h.wp fun v w' hv=>hv)
    ·rw [if_neg (by rw [hw]; exact Bool.false_ne_true)]
     exact h
 refine head _ _ a _ (fun j=>if j=l.length then H else []) ⟨by simp,?_⟩ ?_ ?_ h1 h2 ⟨ay.nil (ay.drew _ _),fun _=>⟨ay.drew _ _,by simp⟩,fun b hb=>by simpa using hb,?_,?_,?_,?_,?_,?_⟩
 ·intro j o ho hj
  rw [getD_replicate_false] at hj; cases hj
 ·intro j hj
  rw [getD_replicate_false] at hj; cases hj
 ·simp
 ·intro j hj
  rw [getD_replicate_false] at hj; cases hj
 ·intro j hj
  rw [getD_replicate_false] at hj; cases hj
 ·intro j hj
  rw [getD_replicate_false] at hj; cases hj
 ·intro t _
  rw [h3]
 ·intro j hj
  rw [getD_replicate_false] at hj; cases hj
 ·intro i j hi
  rw [getD_replicate_false] at hi; cases hi
theorem iH.val {m i:Nat} {U:LL} {H:LN} {o:Oper} {v:Value} (ho:l[i]? = some o) (hs:S[i]? = some ⟨true,pl fun _ _ u=>u=v⟩) (hg:o.guard=none)
  (h:∀ (g:Nat→List Nat) (r:NV) (w:World),ay H w0 w→(∀ j∈(cc l).getD i [],Old l S j r)→(∀ j,rq l U m i j=true→vJ l S j g r w)→(∀ t,(∀ j,j < m→bw l j≠some t)→r t=r0 t)→
   (execOp (ev r) o).run P w = .ok (.value v) w):iH P l m S U r0 w0 H i:=by
 intro o' s' ch eh g r w hC hV hO hd kn Ah qk
 obtain rfl:o=o':=Option.some.inj (ho.symm.trans ch)
 obtain rfl:_=s':=Option.some.inj (hs.symm.trans eh)
 rw [if_pos rfl]
 refine ⟨by unfold Region.wanted; rw [hg],?_⟩
 unfold fw
 rw [h g r w hC hO hd kn]
 exact ⟨ay.refl _ _,[],(fun _ h=>nomatch h),rfl⟩
theorem iH.call {m i:Nat} {U:LL} {H:LN} {o:Oper} {v:Value} {f:FuncId} (ho:l[i]? = some o) (hs:S[i]? = some ⟨true,pl fun _ _ u=>u=v⟩) (hg:o.guard=none)
  (h:∀ (g:Nat→List Nat) (r:NV) (w:World),ay H w0 w→(∀ j∈(cc l).getD i [],Old l S j r)→(∀ j,rq l U m i j=true→vJ l S j g r w)→(∀ t,(∀ j,j < m→bw l j≠some t)→r t=r0 t)→
   ∃ args,(execOp (ev r) o).run P w = .ok (.enter f args) w∧Calls P f args w fun e w'=>e = .returned v∧ay [] w w'):iH P l m S U r0 w0 H i:=by
 intro o' s' ch eh g r w hC hV hO hd kn Ah qk
 obtain rfl:o=o':=Option.some.inj (ho.symm.trans ch)
 obtain rfl:_=s':=Option.some.inj (hs.symm.trans eh)
 rw [if_pos rfl]
 refine ⟨by unfold Region.wanted; rw [hg],?_⟩
 unfold fw
 obtain ⟨args,h1,h2⟩:=h g r w hC hO hd kn
 rw [h1]
 exact h2.mono fun e w' ⟨he,hc⟩=>⟨v,he,hc.nil,[],(fun _ h=>nomatch h),rfl⟩
theorem iH.mem {m i:Nat} {U:LL} {H:LN} {o:Oper} {V:List Nat→World→Value→Prop} (ho:l[i]? = some o) (hs:S[i]? = some ⟨true,pl V⟩) (hg:o.guard=none)
  (h:∀ (g:Nat→List Nat) (r:NV) (w:World),ay H w0 w→(∀ j∈(cc l).getD i [],Old l S j r)→(∀ j,rq l U m i j=true→vJ l S j g r w)→(∀ t,(∀ j,j < m→bw l j≠some t)→r t=r0 t)→
   fw P o r w fun v w'=>ay [] w w'∧∃ f,(∀ b∈f,w.heap.size≤b∧b < w'.heap.size)∧V f w' v):iH P l m S U r0 w0 H i:=by
 intro o' s' ch eh g r w hC hV hO hd kn Ah qk
 obtain rfl:o=o':=Option.some.inj (ho.symm.trans ch)
 obtain rfl:_=s':=Option.some.inj (hs.symm.trans eh)
 rw [if_pos rfl]
 refine ⟨by unfold Region.wanted; rw [hg],qc (h g r w hC hO hd kn) ?_⟩
 rintro v w' ⟨hC,f,hf,hV⟩
 exact ⟨hC.nil,f,fun b hb=>⟨.inr (hf b hb).1,(hf b hb).2⟩,hV⟩
theorem iH.VJ {m i:Nat} {U:LL} {H:LN} {o:Oper} {V:List Nat→World→(Nat→Value)→Value→Prop} (ho:l[i]? = some o) (hs:S[i]? = some ⟨true,V⟩) (hg:o.guard=none)
  (h:∀ (g:Nat→List Nat) (r:NV) (w:World),ay H w0 w→(∀ j∈(cc l).getD i [],Old l S j r)→(∀ j,rq l U m i j=true→vJ l S j g r w)→(∀ t,(∀ j,j < m→bw l j≠some t)→r t=r0 t)→
   fw P o r w fun v w'=>ay [] w w'∧∃ f,(∀ b∈f,w.heap.size≤b∧b < w'.heap.size)∧V f w' r v):iH P l m S U r0 w0 H i:=by
 intro o' s' ch eh g r w hC hV hO hd kn Ah qk
 obtain rfl:o=o':=Option.some.inj (ho.symm.trans ch)
 obtain rfl:_=s':=Option.some.inj (hs.symm.trans eh)
 rw [if_pos rfl]
 refine ⟨by unfold Region.wanted; rw [hg],qc (h g r w hC hO hd kn) ?_⟩
 rintro v w' ⟨hC,f,hf,hV⟩
 exact ⟨hC.nil,f,fun b hb=>⟨.inr (hf b hb).1,(hf b hb).2⟩,hV⟩
def F6 {α:Type} (T:an α) (x:α):List Nat→World→Value→Prop:=fun f w v=>T.rep w.heap [v] x f∧f.Nodup
def ach (cs:LV) (e:TI) (n:Nat):List Nat→World→Value→Prop:=fun f w v=>∃ b,f=[b]∧v = .slice (some ⟨b,0,none⟩) n n∧Row w b cs e
def Ir (a:LN) (l:LO) (s:fv):Prop:=∀ f F (w w':World) (r r':NV) v,ay F w w'→(∀ b∈f,b ∉ F)→(∀ j∈a,∀ t,bw l j=some t→r' t=r t)→s.V f w r v→s.V f w' r' v
theorem OC {a:LN} {b:Bool} {V:List Nat→World→Value→Prop} (h:∀ f F (w w':World) v,ay F w w'→(∀ b∈f,b ∉ F)→V f w v→V f w' v):Ir a l ⟨b,pl V⟩:=
 fun f F w w' _ _ v hC hn _ hv=>h f F w w' v hC hn hv
theorem Mm {a:LN} {b:Bool} {u:Value}:Ir a l ⟨b,pl fun _ _ v=>v=u⟩:=OC fun _ _ _ _ _ _ _ h=>h
def Mk:Value→Nat→Value
 | .tuple cs,i=>cs.getD i undef
 | _,_=>undef
theorem fw.own {α:Type} {T:an α} {x:α} {o:Oper} {r:NV} {w:World} {f:FuncId} {args:Array Value} (h:(execOp (ev r) o).run P w = .ok (.enter f args) w)
  (hc:Calls P f args w fun e w'=>∃ (v:Value) (k:LN),e = .returned v∧ay [] w w'∧OE [] w.heap.size w' T [v] x k) :
  fw P o r w fun v w'=>ay [] w w'∧∃ f,(∀ b∈f,w.heap.size≤b∧b < w'.heap.size)∧F6 T x f w' v:=by
 unfold fw
 rw [h]
 exact hc.mono fun e w' ⟨v,k,he,hC,ho⟩=>⟨v,he,hC,k,fun b hb=>⟨ho.fresh b hb,T.lt ho.1 b hb⟩,ho.1,ho.2.1⟩
theorem fw.made {α:Type} {T:an α} {x:α} {o:Oper} {r:NV} {w:World} (h:∃ v w' f,(execOp (ev r) o).run P w = .ok (.value v) w'∧ay [] w w'∧OE [] w.heap.size w' T [v] x f) :
  fw P o r w fun v w'=>ay [] w w'∧∃ f,(∀ b∈f,w.heap.size≤b∧b < w'.heap.size)∧F6 T x f w' v:=by
 obtain ⟨v,w',f,hr,hC,ho⟩:=h
 unfold fw
 rw [hr]
 exact ⟨hC,f,fun b hb=>⟨ho.fresh b hb,T.lt ho.1 b hb⟩,ho.1,ho.2.1⟩
theorem zL {f g:LN} (h1:f.Nodup) (h2:g.Nodup) (d:si f g):(f++g).Nodup:=List.nodup_append.2 ⟨h1,h2,fun a ha _ hb xi=>d a ha (xi ▸ hb)⟩
theorem fw.wG {α:Type} {E:an α} {F f:LN} {t e et:TI} {s x:OO} {i:TypeInfo} {z:Value} {sv u:Value} {xs:List α} {y:α} {b:Nat} {r:NV} {w:World} {d:Option Nat} {ty:TI} {pos:String} {ai:Array Edge}
  (ht:P.underlying t=some (.slice e)) (hi:P.info? e=some i) (hz:i.zero=some z) (hs:i.size=1) (hE:E.size=1) (wj:z.oneCell'=true)
  (xh:ev r s=sv) (hO:F6 (aL e E) xs f w sv) (hF:∀ b∈f,b∈F) (hx:ev r x = .slice (some ⟨b,0,none⟩) 1 1) (bj:Row w b [u] et) (hy:E.rep w.heap [u] y [])
  (hb:(xs.length+1) * i.bytes≤140737488355328) (zK:xs.length+1≤maxLen) :
  fw P ⟨d,.call ⟨.builtin .append,#[s,x],#[t,t]⟩,ty,pos,ai,none⟩ r w fun v w'=>ay F w w'∧∃ f',(∀ b∈f',(b∈F∨w.heap.size≤b)∧b < w'.heap.size)∧F6 (aL e E) (xs++[y]) f' w' v:=by
 obtain ⟨v,w',f',h,hC,ei,ed,dx⟩:=p5 (d:=d) (ty:=ty) (pos:=pos) (ai:=ai) (g:=none) (ys:=[y]) ht hi hz (by rw [hs,hE]) (by rw [cells_one wj,hE]; rfl) xh hO.1 hO.2 hx bj.at (sb hy) (fun _ h=>nomatch h) (by simp) hb zK
 unfold fw
 rw [h]
 refine ⟨hC.mono hF,f',fun b hb=>⟨?_,an.lt _ ei b hb⟩,ei,dx List.nodup_nil⟩
 rcases ed b hb with h | h | h
 ·exact .inl (hF b h)
 ·cases h
 ·exact .inr h
theorem fw.FY {t e:TI} {i:TypeInfo} {z u:Value} {x:OO} {r:NV} {w:World} {d:Option Nat} {ty:TI} {pos:String} {ai:Array Edge} (ht:P.underlying t=some (.slice e)) (hi:P.info? e=some i) (hz:i.zero=some z)
  (hs:i.size=1) (hx:ev r x=u) (hv:u.oneCell'=true) :
  fw P ⟨d,.buildSlice t 1 #[(0,x)],ty,pos,ai,none⟩ r w fun v w'=>ay [] w w'∧∃ f,(∀ b∈f,w.heap.size≤b∧b < w'.heap.size)∧ach [u] e 1 f w' v:=by
 unfold fw
 rw [Ls ht hi hz hs (by rw [hx]; exact hv),hx]
 exact ⟨ay.alloc _ _ _,[w.heap.size],fun b hb=>by rw [List.mem_singleton.1 hb]; simp,w.heap.size,rfl,rfl,heap_alloc_new w _⟩
end
end Go.Li
