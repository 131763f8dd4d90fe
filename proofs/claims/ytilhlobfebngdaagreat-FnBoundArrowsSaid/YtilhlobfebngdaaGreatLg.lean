/- A region that draws its order, whatever it holds: its head in any order, its tail one behind the other. No condition. -/
import Derived.Test.YtilhlobfebngdaaGreatLf
import Derived.Still
namespace Go.Li
open Go
def l7 (acc:LL) (o:Oper):List (List Nat):=
 acc++[(o.after.toList.filter (Region.binds .any)).flatMap fun e=>e.on :: acc.getD e.on []]
def b9 (l:LO):List (List Nat):=l.foldl l7 []
structure gp where
 b:Bool
 V:List Nat→World→(Nat→Value)→Value→Prop
abbrev pl (V:List Nat→World→Value→Prop):List Nat→World→(Nat→Value)→Value→Prop:=fun f w _ v=>V f w v
def nb (P:Program) (n:Nat) (l:LO) (Q:Exit→(Nat→Value)→World→Prop) (r:NV) (w:World):Prop:=
 ∀ a:Act,a.tmps.size=n→a.defers=[]→cq a=r→wpAny P .any l.toArray (fun e a' w'=>a'.tmps.size=n∧a'.defers=[]∧Q e (cq a') w') l.toArray.size (Array.replicate l.toArray.size false) a { w with drawn:=w.drawn+1 }
theorem nb.W {P:Program} {n id:Nat} {l:LO} {Q:Exit→(Nat→Value)→World→Prop} {r:NV} {w:World} (hm:P.follows .mixedOrders=true) (h:nb P n l Q r w):W P n (.region id l.toArray true) Q r w:=
 fun a h1 h2 h3=>wp_region_any hm (h a h1 h2 h3)
def Fb (π:LN) (o:Oper):Oper:=⟨o.dst,o.op,o.type,o.pos,(o.after.toList.map fun e=>⟨π.getD e.on 0,e.ground⟩).toArray,o.guard⟩
def qb (l:LO) (σ π:LN):List Oper:=σ.map fun k=>Fb π (l.getD k default)
def Sm (l:LO) (σ π:LN):Bool:=
 Nat.beq σ.length l.length && Nat.beq π.length l.length &&
 ((List.range l.length).all fun i=>Nat.blt (π.getD i 0) l.length && Nat.beq (σ.getD (π.getD i 0) 0) i && Nat.blt (σ.getD i 0) l.length && Nat.beq (π.getD (σ.getD i 0) 0) i) &&
 l.all fun o=>o.guard.isNone && o.after.toList.all fun e=>Nat.blt e.on l.length
theorem Y7 {P:Program} {Q:Exit→Act→World→Prop} {π:LN} {o:Oper} {a:Act} {w:World} {K:Act→World→Prop}:(Fb π o).wp P a w K Q=o.wp P a w K Q:=by
 cases o; rfl
theorem SV {P:Program} {π:LN} {o:Oper} {a:Act} {w:World}:(Fb π o).asks P a w=o.asks P a w:=by
 cases o; rfl
section
variable {P:Program} {l:LO} {σ π:LN} (h:Sm l σ π=true)
include h
theorem Gv:σ.length=l.length∧π.length=l.length∧(∀ i,i < l.length→π.getD i 0 < l.length∧σ.getD (π.getD i 0) 0=i∧σ.getD i 0 < l.length∧π.getD (σ.getD i 0) 0=i)∧∀ o∈l,o.guard=none∧∀ e∈o.after.toList,e.on < l.length:=by
 unfold Sm at h
 simp only [Bool.and_eq_true,List.all_eq_true,List.mem_range] at h
 obtain ⟨⟨⟨h1,h2⟩,h3⟩,h4⟩:=h
 refine ⟨Nat.eq_of_beq_eq_true h1,Nat.eq_of_beq_eq_true h2,fun i hi=>?_,fun o ho=>?_⟩
 ·obtain ⟨⟨⟨a,b⟩,c⟩,d⟩:=h3 i hi
  exact ⟨Nat.lt_of_succ_le (Nat.le_of_ble_eq_true a),Nat.eq_of_beq_eq_true b,Nat.lt_of_succ_le (Nat.le_of_ble_eq_true c),Nat.eq_of_beq_eq_true d⟩
 ·obtain ⟨a,b⟩:=h4 o ho
  exact ⟨by simpa using a,fun e he=>Nat.lt_of_succ_le (Nat.le_of_ble_eq_true (b e he))⟩
theorem Nc:(qb l σ π).length=l.length:=by unfold qb; rw [List.length_map]; exact (Gv h).1
theorem Nd {i:Nat} {o:Oper} (ho:l[i]? = some o):(qb l σ π)[π.getD i 0]? = some (Fb π o):=by
 obtain ⟨h1,_,h3,_⟩:=Gv h
 have hi:=(List.getElem?_eq_some_iff.1 ho).1
 obtain ⟨a,b,_,_⟩:=h3 i hi
 unfold qb
 rw [List.getElem?_map,List.getElem?_eq_getElem (by omega)]
 have e:σ[π.getD i 0]'(by omega)=i:=by
  rw [List.getD_eq_getElem?_getD,List.getElem?_eq_getElem (by omega)] at b
  simpa using b
 simp only [Option.map_some,Option.some.injEq]
 rw [e,List.getD_eq_getElem?_getD,ho]; rfl
theorem Qd {Q:Exit→Act→World→Prop}:∀ (fuel:Nat) (L L':Array Bool) (a:Act) (w:World),L.size=l.length→L'.size=l.length→(∀ i,i < l.length→L'.getD (π.getD i 0) true=L.getD i true)→
  wpAny P .any (qb l σ π).toArray Q fuel L' a w→wpAny P .any l.toArray Q fuel L a w:=by
 obtain ⟨h1,h2,h3,h4⟩:=Gv h
 have gd:∀ {L:Array Bool} {i:Nat} (b:Bool),L.size=l.length→i < l.length→L.getD i b=L.getD i true:=fun {L i} b hs hi=>by
  have:i < L.size:=by omega
  simp [Array.getD,this]
 have E5:∀ (L L':Array Bool),L.size=l.length→L'.size=l.length→(∀ i,i < l.length→L'.getD (π.getD i 0) true=L.getD i true)→∀ i,i < l.length→(i∈Region.ready .any l.toArray L↔π.getD i 0∈Region.ready .any (qb l σ π).toArray L'):=by
  intro L L' hs fi hL i hi
  rw [mem_ready,mem_ready,hL i hi]
  have ho:l[i]? = some (l[i]'hi):=List.getElem?_eq_getElem hi
  have cj:=Nd h ho
  have hg:=h4 _ (List.mem_of_getElem? ho)
  constructor
  ·rintro ⟨g1,o,g2,g3⟩
   refine ⟨g1,Fb π l[i],by simpa using cj,fun e he hb=>?_⟩
   have eo:l[i]=o:=by simpa [ho] using g2
   simp only [Fb,List.mem_toArray,List.mem_map] at he
   obtain ⟨e0,he0,rfl⟩:=he
   have bn:=hg.2 e0 he0
   have:=g3 e0 (by rw [← eo]; simpa using he0) hb
   rw [gd false fi (h3 _ bn).1,hL _ bn,← gd false hs bn]; exact this
  ·rintro ⟨g1,o,g2,g3⟩
   refine ⟨g1,l[i],by simp,fun e he hb=>?_⟩
   have eo:Fb π l[i]=o:=by
    have:(qb l σ π)[π.getD i 0]? = some o:=by simpa using g2
    rw [cj] at this
    exact Option.some.inj this
   have bn:=hg.2 e (by simpa using he)
   have:=g3 ⟨π.getD e.on 0,e.ground⟩ (by rw [← eo]; simp only [Fb,List.mem_toArray,List.mem_map]; exact ⟨e,by simpa using he,rfl⟩) hb
   rw [gd false fi (h3 _ bn).1,hL _ bn,← gd false hs bn] at this; exact this
 have back:∀ (L L':Array Bool),L.size=l.length→L'.size=l.length→(∀ i,i < l.length→L'.getD (π.getD i 0) true=L.getD i true)→Region.ready .any l.toArray L=[]→Region.ready .any (qb l σ π).toArray L'=[]:=by
  intro L L' hs fi hL he
  rw [List.eq_nil_iff_forall_not_mem]
  intro k hk
  have E2:k < l.length:=by
   obtain ⟨_,o,g2,_⟩:=mem_ready.1 hk
   have:(qb l σ π)[k]? = some o:=by simpa using g2
   have:=(List.getElem?_eq_some_iff.1 this).1
   rwa [Nc h] at this
  obtain ⟨_,_,c,d⟩:=h3 k E2
  have:=(E5 L L' hs fi hL (σ.getD k 0) c).2 (by rw [d]; exact hk)
  rw [he] at this
  exact nomatch this
 intro fuel
 induction fuel with
 | zero=>
  intro L L' a w hs fi hL hh
  refine ⟨?_,hh.2⟩
  rw [List.eq_nil_iff_forall_not_mem]
  intro i hi
  have vp:i < l.length:=by
   obtain ⟨_,o,g2,_⟩:=mem_ready.1 hi
   have:l[i]? = some o:=by simpa using g2
   exact (List.getElem?_eq_some_iff.1 this).1
  have:=(E5 L L' hs fi hL i vp).1 hi
  rw [hh.1] at this
  exact nomatch this
 | succ fuel ih=>
  intro L L' a w hs fi hL hh
  refine ⟨fun he=>hh.1 (back L L' hs fi hL he),fun i hi=>?_⟩
  have vp:i < l.length:=by
   obtain ⟨_,o,g2,_⟩:=mem_ready.1 hi
   have:l[i]? = some o:=by simpa using g2
   exact (List.getElem?_eq_some_iff.1 this).1
  have ho:l[i]? = some (l[i]'vp):=List.getElem?_eq_getElem vp
  have hg:=h4 _ (List.mem_of_getElem? ho)
  have Qe:=hh.2 _ ((E5 L L' hs fi hL i vp).1 hi)
  have next:∀ a w,wpAny P .any (qb l σ π).toArray Q fuel (L'.setIfInBounds (π.getD i 0) true) a w→wpAny P .any l.toArray Q fuel (L.setIfInBounds i true) a w:=fun a w=>ih _ _ a w (by simpa using hs) (by simpa using fi) fun j hj=>by
   have hpj:=(h3 j hj).1
   have hpi:=(h3 i vp).1
   by_cases e:i=j
   ·subst e
    rw [Array.getD_eq_getD_getElem?,Array.getD_eq_getD_getElem?,Array.getElem?_setIfInBounds_self_of_lt (by omega),Array.getElem?_setIfInBounds_self_of_lt (by omega)]
   ·have e':π.getD i 0≠π.getD j 0:=fun q=>e (by rw [← (h3 i vp).2.1,q,(h3 j hj).2.1])
    have h5:=hL j hj
    have q1:(L'.setIfInBounds (π.getD i 0) true).getD (π.getD j 0) true=L'.getD (π.getD j 0) true:=by
     rw [Array.getD_eq_getD_getElem?,Array.getD_eq_getD_getElem?,Array.getElem?_setIfInBounds_ne e']
    have q2:(L.setIfInBounds i true).getD j true=L.getD j true:=by
     rw [Array.getD_eq_getD_getElem?,Array.getD_eq_getD_getElem?,Array.getElem?_setIfInBounds_ne e]
    rw [q1,q2,h5]
  have ga:(l.toArray)[i]? = some (l[i]'vp):=by simp
  have gb:((qb l σ π).toArray)[π.getD i 0]? = some (Fb π (l[i]'vp)):=by simpa using Nd h ho
  unfold wpOp at Qe ⊢
  rw [gb] at Qe
  rw [ga]
  have w1:Region.wanted (l[i]'vp) (yielded l.toArray a.tmps)=true:=by unfold Region.wanted; rw [hg.1]
  have w2:Region.wanted (Fb π (l[i]'vp)) (yielded (qb l σ π).toArray a.tmps)=true:=by unfold Region.wanted; show (match (l[i]'vp).guard with | none=>true | some (j,want)=>_)=true; rw [hg.1]
  simp only [w2,if_true] at Qe
  simp only [w1,if_true]
  rw [Y7,SV] at Qe
  exact Qe.imp (fun g=>Oper.wp_mono next g) id
theorem nb.prm {n:Nat} {Q:Exit→(Nat→Value)→World→Prop} {r:NV} {w:World} (hw:nb P n (qb l σ π) Q r w):nb P n l Q r w:=by
 have hl:=Nc h
 obtain ⟨_,_,h3,_⟩:=Gv h
 intro a a1 a2 a3
 have:=hw a a1 a2 a3
 rw [show (qb l σ π).toArray.size=l.toArray.size by simpa using hl] at this
 refine Qd h _ _ _ a _ (by simp) (by simp) (fun i hi=>?_) this
 have hq:=(h3 i hi).1
 rw [List.getD_eq_getElem?_getD] at hq
 simp [Array.getD,hi,hq]
end
section
variable {P:Program} {n:Nat} {Q:Exit→(Nat→Value)→World→Prop} {r0:NV} {w0:World} {l:LO} {S:List gp}
def br (l:LO) (j:Nat):Option Nat:=(l[j]?).bind (·.dst)
def wO (l:LO) (S:List gp) (j:Nat) (g:Nat→List Nat) (r:NV) (w:World):Prop:=
 (∀ d,br l j=some d→match S[j]? with
  | some s=>if s.b then s.V (g j) w r (r d) else r d=undef
  | none=>True)∧(br l j=none→∀ s,S[j]? = some s→s.b=true→∃ x,s.V (g j) w r x)
def Old (l:LO) (S:List gp) (j:Nat) (r:NV):Prop:=∀ d,br l j=some d→∀ s,S[j]? = some s→if s.b then ∃ f w,s.V f w r (r d) else r d=undef
structure zL (l:LO) (m:Nat) (S:List gp) (U:LL) (r0:NV) (w0:World) (H:LN) (L:Nat→Prop) (g:Nat→List Nat) (r:NV) (w:World):Prop where
 ly:aq H w0 w
 DG:(∀ k,L k→l.length ∉ U.getD k [])→aq [] w0 w∧g l.length=H
 vg:∀ b∈g l.length,b∈H
 vd:∀ j,L j→td (g j) (g l.length)
 done:∀ j,L j→(∀ k,L k→j ∉ U.getD k [])→wO l S j g r w
 vm:∀ j,L j→Old l S j r
 other:∀ t,(∀ j,j < m→br l j≠some t)→r t=r0 t
 fresh:∀ j,L j→∀ b∈g j,(w0.heap.size≤b∨(b∈H∧∃ k,L k∧l.length∈U.getD k []))∧b < w.heap.size
 yP:∀ i j,L i→L j→i≠j→td (g i) (g j)
def sw (l:LO) (U:LL) (m i j:Nat):Bool:=
 ((b9 l).getD i []).contains j && (List.range m).all fun k=>!((U.getD k []).contains j) || Nat.beq k i || ((b9 l).getD k []).contains i
def r6 (g:Nat→List Nat) (us:LN):List Nat:=us.flatMap g
def xX (l:LO) (U:LL) (m i:Nat):Bool:=(List.range m).all fun k=>!((U.getD k []).contains l.length) || Nat.beq k i || ((b9 l).getD k []).contains i
def jg (P:Program) (l:LO) (m:Nat) (S:List gp) (U:LL) (r0:NV) (w0:World) (H:LN) (i:Nat):Prop:=
 ∀ o s,l[i]? = some o→S[i]? = some s→∀ (g:Nat→List Nat) (r:NV) (w:World),aq H w0 w→(xX l U m i=true→aq [] w0 w∧g l.length=H∧∀ j∈(b9 l).getD i [],∀ b∈g j,w0.heap.size≤b)→(∀ j∈(b9 l).getD i [],Old l S j r)→(∀ j,sw l U m i j=true→wO l S j g r w)→(∀ t,(∀ j,j < m→br l j≠some t)→r t=r0 t)→
  (∀ i'∈(b9 l).getD i [],∀ j'∈(b9 l).getD i [],i'≠j'→td (g i') (g j'))→(∀ j∈(b9 l).getD i [],∀ b∈g j,(w0.heap.size≤b∨b∈H)∧b < w.heap.size)→
  if s.b then Region.wanted o (yl l r)=true∧gn P o r w fun v w'=>aq (r6 g (U.getD i [])) w w'∧∃ f,(∀ b∈f,(b∈r6 g (U.getD i [])∨w.heap.size≤b)∧b < w'.heap.size)∧s.V f w' r v
  else Region.wanted o (yl l r)=false
def DD:List Nat→Bool
 | []=>true
 | x :: l=>!(l.contains x) && DD l
theorem BB:∀ {l:LN},DD l=true→l.Nodup
 | [],_=>List.nodup_nil
 | x :: l,h=>by
  simp only [DD,Bool.and_eq_true,Bool.not_eq_true',List.contains_eq_mem,decide_eq_false_iff_not] at h
  exact List.nodup_cons.2 ⟨h.1,BB h.2⟩
def yH (l:LO) (m:Nat) (Z:LN):Bool:=
 ((List.range l.length).all fun i=>((l.getD i default).after.toList.filter (Region.binds .any)).all fun e=>Nat.blt e.on i) &&
 ((List.range l.length).all fun i=>Nat.blt i m || (List.range i).all fun j=>((b9 l).getD i []).contains j || Z.contains j) &&
 DD ((l.take m).filterMap (·.dst))
def Y8 (o:Oper):Bool:=match o.op with | .move _=>true | .extract _ _=>true | _=>false
def SX (l:LO) (i:Nat):Array Bool:=((List.range l.length).map fun j=>((b9 l).getD i []).contains j).toArray
def E4 (l:LO) (m:Nat) (Z:LN):Bool:=
 Region.noSelect l.toArray && Z.all fun i=>Nat.blt i m && Region.free .any l.toArray (SX l i) i &&
  match l[i]? with
  | some o=>Y8 o && o.guard.isNone
  | none=>false
theorem Qf {l:LO} {L:Array Bool} {i:Nat} (hL:∀ j∈(b9 l).getD i [],L.getD j false=true) (h:Region.free .any l.toArray (SX l i) i=true):Region.free .any l.toArray L i=true:=by
 unfold Region.free at h ⊢
 cases ho:(l.toArray)[i]? with
 | none=>rw [ho] at h; cases h
 | some oi=>
  rw [ho] at h
  simp only [List.all_eq_true,List.mem_range,Bool.or_eq_true] at h ⊢
  intro j hj
  rcases h j hj with (h1 | h1) | h1
  ·exact .inl (.inl h1)
  ·have bn:j < l.length:=by simpa using hj
   have hm:j∈(b9 l).getD i []:=by
    unfold SX at h1
    have:((List.range l.length).map fun j=>((b9 l).getD i []).contains j)[j]? = some (((b9 l).getD i []).contains j):=by
     rw [List.getElem?_map,List.getElem?_range bn]; rfl
    rw [Array.getD_eq_getD_getElem?,List.getElem?_toArray,this] at h1
    simpa using h1
   refine .inl (.inr ?_)
   have h2:=hL j hm
   rcases Nat.lt_or_ge j L.size with h' | h'
   ·simp [h'] at h2 ⊢; exact h2
   ·simp [Array.getElem?_eq_none h'] at h2
  ·exact .inr h1
theorem Mj {P:Program} {d:Option Nat} {x:OO} {k:Nat} {ty:TI} {pos:String} {ag:Array Edge} {g:Option (Nat×Bool)} {r:NV} {w:World} {K:Value→World→Prop} (h:gn P ⟨d,.extract x k,ty,pos,ag,g⟩ r w K) :
  ∃ v,(∀ w',(execOp (ev r) ⟨d,.extract x k,ty,pos,ag,g⟩).run P w' = .ok (.value v) w')∧K v w:=by
 have e:execOp (ev r) ⟨d,.extract x k,ty,pos,ag,g⟩ = (Instr.extract (ev r x) k>>=fun v=>pure (.value v)):=rfl
 unfold gn at h
 rw [e] at h ⊢
 generalize ev r x=u at h ⊢
 cases u
 case tuple vs=>
  cases hv:vs[k]? with
  | none=>simp [Instr.extract,hv,stuck,Result.andThen,Sem.run] at h
  | some v=>
   refine ⟨v,fun w'=>?_,?_⟩
   ·simp [Instr.extract,hv]
   ·simpa [Instr.extract,hv] using h
 all_goals simp [Instr.extract,stuck,Result.andThen,Sem.run] at h
theorem Cs (l:LO):∀ (i:Nat) (o:Oper),l[i]? = some o→(b9 l)[i]? = some ((o.after.toList.filter (Region.binds .any)).flatMap fun e=>e.on :: ((b9 l).take i).getD e.on []):=by
 have key:∀ (l:LO) (acc:LL),(l.foldl l7 acc).length=acc.length+l.length∧(∀ j,j < acc.length→(l.foldl l7 acc)[j]? = acc[j]?)∧
   ∀ i o,l[i]? = some o→(l.foldl l7 acc)[acc.length+i]? = some ((o.after.toList.filter (Region.binds .any)).flatMap fun e=>e.on :: ((l.foldl l7 acc).take (acc.length+i)).getD e.on []):=by
  intro l
  induction l with
  | nil=>intro acc; exact ⟨rfl,fun _ _=>rfl,fun i o h=>by simp at h⟩
  | cons x l ih=>
   intro acc
   obtain ⟨h1,h2,h3⟩:=ih (l7 acc x)
   have hl:(l7 acc x).length=acc.length+1:=by simp [l7]
   have hold:∀ j,j < acc.length→(l7 acc x)[j]? = acc[j]?:=fun j hj=>by simp only [l7]; rw [List.getElem?_append_left hj]
   refine ⟨by simp only [List.foldl_cons,h1,hl,List.length_cons]; omega,fun j hj=>?_,?_⟩
   ·rw [List.foldl_cons,h2 j (by omega),hold j hj]
   ·intro i o hi
    cases i with
    | zero=>
     simp at hi
     subst hi
     have acm:(List.foldl l7 acc (x :: l)).take (acc.length+0)=acc:=by
      apply List.ext_getElem?
      intro j
      rw [Nat.add_zero,List.getElem?_take]
      split
      ·rename_i hj
       rw [List.foldl_cons,h2 j (by omega),hold j hj]
      ·rename_i hj
       rw [List.getElem?_eq_none (by omega)]
     rw [acm]
     rw [Nat.add_zero,List.foldl_cons,h2 _ (by omega)]
     simp only [l7]
     rw [List.getElem?_append_right (Nat.le_refl _)]
     simp
    | succ i=>
     have:=h3 i o (by simpa using hi)
     rw [hl] at this
     rw [List.foldl_cons]
     rw [show acc.length+(i+1)=acc.length+1+i by omega]
     exact this
 intro i o hi
 have:=(key l []).2.2 i o hi
 simpa [b9] using this
theorem DE (l:LO) (hb:∀ (i:Nat) (o:Oper),l[i]? = some o→∀ e∈o.after.toList.filter (Region.binds .any),e.on < i) :
  ∀ (i j:Nat),j∈(b9 l).getD i []→j < i∧∃ o,l[i]? = some o∧∃ e∈o.after.toList.filter (Region.binds .any),j=e.on∨j∈(b9 l).getD e.on []:=by
 intro i j hj
 cases ho:l[i]? with
 | none=>
  have hlen:(b9 l).length=l.length:=by
   have:∀ (l:LO) (acc:LL),(l.foldl l7 acc).length=acc.length+l.length:=by
    intro l
    induction l with
    | nil=>intro acc; rfl
    | cons x l ih=>intro acc; rw [List.foldl_cons,ih]; simp [l7]; omega
   simpa [b9] using this l []
  rw [List.getD_eq_getElem?_getD,List.getElem?_eq_none (by rw [hlen]; exact List.getElem?_eq_none_iff.1 ho)] at hj
  simp at hj
 | some o=>
  have h:=Cs l i o ho
  rw [List.getD_eq_getElem?_getD,h] at hj
  simp only [Option.getD_some,List.mem_flatMap,List.mem_cons] at hj
  obtain ⟨e,he,hj⟩:=hj
  have bn:=hb i o ho e he
  have Y9:((b9 l).take i).getD e.on []=(b9 l).getD e.on []:=by
   rw [List.getD_eq_getElem?_getD,List.getD_eq_getElem?_getD,List.getElem?_take,if_pos bn]
  rw [Y9] at hj
  refine ⟨?_,o,rfl,e,he,hj⟩
  rcases hj with rfl | hj
  ·exact bn
  ·-- by the strong law below
   have:∀ (k i:Nat),i≤k→∀ j∈(b9 l).getD i [],j < i:=by
    intro k
    induction k with
    | zero=>
     intro i hi j hj
     obtain rfl:i=0:=by omega
     cases ho:l[0]? with
     | none=>
      obtain rfl:l=[]:=by cases l with | nil=>rfl | cons=>simp at ho
      simp [b9] at hj
     | some o=>
      have h:=Cs l 0 o ho
      rw [List.getD_eq_getElem?_getD,h] at hj
      simp only [Option.getD_some,List.mem_flatMap] at hj
      obtain ⟨e,he,_⟩:=hj
      exact absurd (hb 0 o ho e he) (Nat.not_lt_zero _)
    | succ k ih=>
     intro i hi j hj
     cases ho:l[i]? with
     | none=>
      have hlen:(b9 l).length=l.length:=by
       have:∀ (l:LO) (acc:LL),(l.foldl l7 acc).length=acc.length+l.length:=by
        intro l
        induction l with
        | nil=>intro acc; rfl
        | cons x l ih=>intro acc; rw [List.foldl_cons,ih]; simp [l7]; omega
       simpa [b9] using this l []
      rw [List.getD_eq_getElem?_getD,List.getElem?_eq_none (by rw [hlen]; exact List.getElem?_eq_none_iff.1 ho)] at hj
      simp at hj
     | some o=>
      have h:=Cs l i o ho
      rw [List.getD_eq_getElem?_getD,h] at hj
      simp only [Option.getD_some,List.mem_flatMap,List.mem_cons] at hj
      obtain ⟨e,he,hj⟩:=hj
      have bn:=hb i o ho e he
      rcases hj with rfl | hj
      ·exact bn
      ·have Y9:((b9 l).take i).getD e.on []=(b9 l).getD e.on []:=by
        rw [List.getD_eq_getElem?_getD,List.getD_eq_getElem?_getD,List.getElem?_take,if_pos bn]
       rw [Y9] at hj
       have:=ih e.on (by omega) j hj
       omega
   exact Nat.lt_trans (this e.on e.on (Nat.le_refl _) j hj) bn
theorem Cm (l:LO) (hb:∀ (i:Nat) (o:Oper),l[i]? = some o→∀ e∈o.after.toList.filter (Region.binds .any),e.on < i) {j k:Nat} (hj:j∈(b9 l).getD k []):∀ {i:Nat},k∈(b9 l).getD i []→j∈(b9 l).getD i []:=by
 intro i
 induction i using Nat.strongRecOn with
 | _ i ih=>
  intro hk
  obtain ⟨_,o,ho,e,he,Za⟩:=DE l hb i k hk
  have bn:=hb i o ho e he
  have h2:j∈(b9 l).getD e.on []:=Za.elim (fun h=>h ▸ hj) (fun h=>ih e.on bn h)
  have h:=Cs l i o ho
  rw [List.getD_eq_getElem?_getD,h]
  simp only [Option.getD_some,List.mem_flatMap,List.mem_cons]
  refine ⟨e,he,.inr ?_⟩
  rw [List.getD_eq_getElem?_getD,List.getElem?_take,if_pos bn,← List.getD_eq_getElem?_getD]
  exact h2
theorem getD_both {KF:Array Bool} {i:Nat} (h:KF.getD i true=false):KF.getD i false=false:=by
 rcases Nat.lt_or_ge i KF.size with h' | h'
 ·simp [h'] at h ⊢; exact h
 ·simp [Array.getElem?_eq_none h'] at h
theorem getD_replicate_false (m j:Nat):(Array.replicate m false).getD j false=false:=by
 rcases Nat.lt_or_ge j m with h | h
 ·simp [h]
 ·simp [h]
theorem Is:∀ (l:LO),(l.filterMap (·.dst)).Nodup→∀ i j d,br l i=some d→br l j=some d→i=j:=by
 intro l
 induction l with
 | nil=>intro _ i j d h; simp [br] at h
 | cons o l ih=>
  intro hn i j d hi hj
  have Oz:∀ k,br (o :: l) (k+1)=some d→d∈l.filterMap (·.dst):=by
   intro k hk
   simp only [br,List.getElem?_cons_succ] at hk
   cases ho:l[k]? with
   | none=>rw [ho] at hk; cases hk
   | some x=>rw [ho] at hk; exact List.mem_filterMap.2 ⟨x,List.mem_of_getElem? ho,hk⟩
  have h0:∀ e,o.dst=some e→e ∉ l.filterMap (·.dst)∧(l.filterMap (·.dst)).Nodup:=by
   intro e he
   rw [List.filterMap_cons_some he] at hn
   exact List.nodup_cons.1 hn
  have yd:(l.filterMap (·.dst)).Nodup:=by
   cases hd:o.dst with
   | none=>rwa [List.filterMap_cons_none hd] at hn
   | some e=>exact (h0 e hd).2
  cases i with
  | zero=>
   cases j with
   | zero=>rfl
   | succ j=>exact absurd (Oz j hj) (h0 d (by simpa [br] using hi)).1
  | succ i=>
   cases j with
   | zero=>exact absurd (Oz i hi) (h0 d (by simpa [br] using hj)).1
   | succ j=>rw [ih yd i j d (by simpa [br] using hi) (by simpa [br] using hj)]
theorem lv {m j:Nat} (hj:j < m):br (l.take m) j=br l j:=by
 unfold br
 rw [List.getElem?_take,if_pos hj]
theorem qw {o:Oper} {r:NV} {w:World} {K K':Value→World→Prop} (h:gn P o r w K) (hk:∀ v w',K v w'→K' v w'):gn P o r w K':=by
 unfold gn at h ⊢
 cases hr:(execOp (ev r) o).run P w with
 | ok x w'=>
  rw [hr] at h
  cases x with
  | value v=>exact hk _ _ h
  | skip=>exact hk _ _ h
  | enter f args=>exact h.mono fun e Ih ⟨v,he,hv⟩=>⟨v,he,hk _ _ hv⟩
  | _=>exact h
 | _=>rw [hr] at h; exact h.elim
theorem Ir {m:Nat} {Z:LN} (h:yH l m Z=true):∀ (i:Nat) (o:Oper),l[i]? = some o→∀ e∈o.after.toList.filter (Region.binds .any),e.on < i:=by
 simp only [yH,Bool.and_eq_true,List.all_eq_true,List.mem_range] at h
 intro i o ho e he
 have hi:i < l.length:=(List.getElem?_eq_some_iff.1 ho).1
 have:=h.1.1 i hi e (by rw [List.getD_eq_getElem?_getD,ho]; exact he)
 exact Nat.lt_of_succ_le (Nat.le_of_ble_eq_true this)
theorem PS {m:Nat} {U:LL} {Z H:LN} {N:Nat→Prop} (hd:di n l=true) (hA:yH l m Z=true) (hZ:E4 l m Z=true) (hp:∀ c r w,Q (.panic c) r w→False) (Iq:m≤l.length)
  (hS:S.length=m)
  (hH:∀ b∈H,b < w0.heap.size) (hU:((List.range m).all fun i=>(U.getD i []).all fun u=>Nat.beq u l.length || ((b9 l).getD i []).contains u)=true)
  (hN:∀ b,N b→b < w0.heap.size∧b ∉ H)
  (r7:∀ (i:Nat) (s:gp),S[i]? = some s→∀ f F (w w':World) (r r':NV) v,aq F w w'→(∀ b∈f,b ∉ F)→(∀ b∈F,¬ N b)→(∀ j∈(b9 l).getD i [],∀ t,br l j=some t→r' t=r t)→s.V f w r v→s.V f w' r' v)
  (Ss:∀ i,i < m→jg P l m S U r0 w0 H i)
  (next:∀ g r w,zL l m S U r0 w0 H (fun j=>j < m) g r w→WL P l (l.drop m) r w (Q .normal)) :
  nb P n l Q r0 w0:=by
 simp only [yH,Bool.and_eq_true,List.all_eq_true,List.mem_range,Bool.or_eq_true] at hA
 obtain ⟨⟨YA,YB⟩,YC⟩:=hA
 have yX:∀ (i:Nat) (o:Oper),l[i]? = some o→∀ e∈o.after.toList.filter (Region.binds .any),e.on < i:=by
  intro i o ho e he
  have hi:i < l.length:=(List.getElem?_eq_some_iff.1 ho).1
  have:=YA i hi e (by rw [List.getD_eq_getElem?_getD,ho]; exact he)
  exact Nat.lt_of_succ_le (Nat.le_of_ble_eq_true this)
 have HB:∀ i,m≤i→i < l.length→∀ j,j < i→j∈(b9 l).getD i []∨j∈Z:=by
  intro i h1 h2 j hj
  rcases YB i h2 with h | h
  ·exact absurd (Nat.lt_of_succ_le (Nat.le_of_ble_eq_true h)) (Nat.not_lt.2 h1)
  ·have:=h j hj
   simpa using this
 simp only [E4,Bool.and_eq_true,List.all_eq_true] at hZ
 obtain ⟨U7,hZ⟩:=hZ
 have Zb:∀ z∈Z,z < m:=fun z hz=>Nat.lt_of_succ_le (Nat.le_of_ble_eq_true (hZ z hz).1.1)
 have YD:∀ i,i < m→∀ u∈U.getD i [],u=l.length∨u∈(b9 l).getD i []:=by
  intro i hi u hu
  simp only [List.all_eq_true,List.mem_range] at hU
  have:=hU i hi u hu
  simpa using this
 have dp:=Is _ (BB YC)
 have qx:=DE l yX
 intro a h1 h2 h3
 let Cl (L:Array Bool):Prop:=L.size=l.length∧∀ j o,l[j]? = some o→L.getD j false=true→∀ e∈o.after.toList.filter (Region.binds .any),L.getD e.on false=true
 have jv:∀ L,Cl L→∀ i j,(∀ o,l[i]? = some o→∀ e∈o.after.toList.filter (Region.binds .any),L.getD e.on false=true)→j∈(b9 l).getD i []→L.getD j false=true:=by
  intro L hL i
  induction i using Nat.strongRecOn with
  | _ i ih=>
   intro j hi hj
   obtain ⟨_,o,ho,e,he,Kg⟩:=qx i j hj
   have hl:=hi o ho e he
   rcases Kg with rfl | Kg
   ·exact hl
   ·exact ih e.on (yX i o ho e he) j (fun o' cj e' wo=>hL.2 _ _ cj hl e' wo) Kg
 have E5:∀ L i,i∈Region.ready .any l.toArray L→L.getD i true=false∧∃ o,l[i]? = some o∧∀ e∈o.after.toList.filter (Region.binds .any),L.getD e.on false=true:=by
  intro L i hi
  obtain ⟨g1,o,ho,fq⟩:=mem_ready.1 hi
  refine ⟨g1,o,by simpa using ho,fun e he=>?_⟩
  have:=List.mem_filter.1 he
  exact fq e (by simpa using this.1) this.2
 have Gi:∀ L i o,L.size=l.length→l[i]? = some o→L.getD i false=false→(∀ e∈o.after.toList.filter (Region.binds .any),L.getD e.on false=true)→i∈Region.ready .any l.toArray L:=by
  intro L i o hs ho hu fq
  refine mem_ready.2 ⟨?_,o,by simpa using ho,fun e he hb=>fq e (List.mem_filter.2 ⟨by simpa using he,hb⟩)⟩
  have hi:i < L.size:=by rw [hs]; exact (List.getElem?_eq_some_iff.1 ho).1
  simp [hi] at hu ⊢; exact hu
 have Jb:∀ L i o,Cl L→l[i]? = some o→(∀ e∈o.after.toList.filter (Region.binds .any),L.getD e.on false=true)→Cl (L.setIfInBounds i true):=by
  intro L i o hL ho fq
  refine ⟨by rw [Array.size_setIfInBounds]; exact hL.1,fun j o' cj hj e he=>?_⟩
  by_cases xn:i=j
  ·subst xn
   have:o'=o:=Option.some.inj (cj.symm.trans ho)
   subst this
   exact getD_set_true (fq e he)
  ·rw [getD_set_ne false xn] at hj
   exact getD_set_true (hL.2 j o' cj hj e he)
 have getSet:∀ (L:Array Bool) i j,L.size=l.length→i < l.length→((L.setIfInBounds i true).getD j false=true↔j=i∨L.getD j false=true):=by
  intro L i j hs hi
  by_cases xn:i=j
  ·subst xn
   simp [hs,hi]
  ·rw [getD_set_ne false xn]
   constructor
   ·exact .inr
   ·rintro (h | h)
    ·exact absurd h.symm xn
    ·exact h
 have Kh:∀ (L:Array Bool) i,L.size=l.length→i < l.length→L.getD i false=false→(L.setIfInBounds i true).toList.count false+1=L.toList.count false:=by
  intro L i hs hi hu
  have wj:i < L.toList.length:=by simpa [hs] using hi
  have E6:L.toList[i]=false:=by
   rw [Array.getElem_toList]
   simp [hs,hi] at hu
   exact hu
  rw [Array.toList_setIfInBounds,List.count_set wj,E6]
  have:0 < L.toList.count false:=List.count_pos_iff.2 (by rw [← E6]; exact List.getElem_mem wj)
  rw [if_pos (by rfl),if_neg (by decide)]
  omega
 have tail:∀ (d k fuel:Nat) (L:Array Bool) (a:Act) (w:World),l.length - k=d→m≤k→k≤l.length→Cl L→(∀ j,L.getD j false=true↔j < k)→L.toList.count false≤fuel→a.tmps.size=n→a.defers=[]→
   WL P l (l.drop k) (cq a) w (Q .normal)→wpAny P .any l.toArray (fun e a' w'=>a'.tmps.size=n∧a'.defers=[]∧Q e (cq a') w') fuel L a w:=by
  intro d
  induction d with
  | zero=>
   intro k fuel L a w hk hmk E2 hL iz hf g1 g2 hW
   obtain rfl:k=l.length:=by omega
   rw [List.drop_length] at hW
   have ue:Region.ready .any l.toArray L=[]:=by
    apply List.eq_nil_iff_forall_not_mem.2
    intro i hi
    obtain ⟨q1,o,ho,_⟩:=E5 L i hi
    have bn:i < l.length:=(List.getElem?_eq_some_iff.1 ho).1
    have:=(iz i).2 bn
    simp [hL.1,bn] at q1 this
    rw [q1] at this; cases this
   cases fuel with
   | zero=>exact ⟨ue,g1,g2,hW⟩
   | succ fuel=>exact ⟨fun _=>⟨g1,g2,hW⟩,fun i hi=>by rw [ue] at hi; cases hi⟩
  | succ d ih=>
   intro k fuel L a w hk hmk E2 hL iz hf g1 g2 hW
   have OA:k < l.length:=by omega
   obtain ⟨o,ho⟩ : ∃ o,l[k]? = some o:=⟨l[k],List.getElem?_eq_getElem OA⟩
   have Zc:L.getD k false=false:=by
    cases hb:L.getD k false with
    | false=>rfl
    | true=>exact absurd ((iz k).1 hb) (Nat.lt_irrefl _)
   have o6:k∈Region.ready .any l.toArray L:=Gi L k o hL.1 ho Zc fun e he=>(iz _).2 (yX k o ho e he)
   have acn:l.drop k=o :: l.drop (k+1):=by rw [List.drop_eq_getElem_cons OA]; congr 1; exact Option.some.inj ((List.getElem?_eq_getElem OA).symm.trans ho)
   rw [acn] at hW
   have hc:=Kh L k hL.1 OA Zc
   cases fuel with
   | zero=>omega
   | succ fuel=>
    refine ⟨fun h=>(by rw [h] at o6; cases o6),fun i hi=>?_⟩
    obtain ⟨q1,oi,n9,fq⟩:=E5 L i hi
    have gj:i < l.length:=(List.getElem?_eq_some_iff.1 n9).1
    have wT:L.getD i false=false:=getD_both q1
    have hik:i=k:=by
     rcases Nat.lt_trichotomy i k with h | h | h
     ·have:=(iz i).2 h; rw [wT] at this; cases this
     ·exact h
     ·have:=jv L hL i k (fun o' cj=>by have:o'=oi:=Option.some.inj (cj.symm.trans n9); subst this; exact fq) ((HB i (by omega) gj k h).resolve_right fun hz=>absurd (Zb k hz) (by omega))
      rw [Zc] at this; cases this
    subst hik
    have PZ:oi=o:=Option.some.inj (n9.symm.trans ho)
    subst PZ
    have Iu:∀ k',oi.dst=some k'→k' < a.tmps.size:=by
     intro k' zG
     have xm:oi∈l:=List.mem_of_getElem? n9
     simp only [di,List.all_eq_true] at hd
     have:=hd oi xm
     rw [zG] at this
     rw [g1]
     exact Nat.lt_of_succ_le (Nat.le_of_ble_eq_true this)
    have BL:=Jb L i oi hL n9 fq
    have Cp:∀ j,(L.setIfInBounds i true).getD j false=true↔j < i+1:=by
     intro j
     rw [getSet L i j hL.1 gj,iz j]
     omega
    unfold wpOp
    rw [show (l.toArray)[i]? = some oi by simpa using n9]
    simp only []
    rw [Co (by rw [g1]; exact hd)]
    rcases hW with ⟨hw,hW⟩ | ⟨hw,hW⟩
    ·rw [if_pos hw]
     exact .inl (hW.wp fun v w' hv=>ih (i+1) fuel _ _ _ (by omega) (by omega) (by omega) BL Cp (by omega) (by rw [lg]; exact g1) (by rw [iH]; exact g2) (by rw [mg Iu]; exact hv))
    ·rw [if_neg (by rw [hw]; exact Bool.false_ne_true)]
     exact ih (i+1) fuel _ _ _ (by omega) (by omega) (by omega) BL Cp (by omega) (by rw [lg]; exact g1) (by rw [iH]; exact g2) (by rw [mg Iu]; exact hW)
 have head:∀ (fuel:Nat) (L:Array Bool) (a:Act) (w:World) (g:Nat→List Nat),Cl L→(∀ j,L.getD j false=true→j < m)→L.toList.count false≤fuel→a.tmps.size=n→a.defers=[]→
   zL l m S U r0 w0 H (fun j=>L.getD j false=true) g (cq a) w→wpAny P .any l.toArray (fun e a' w'=>a'.tmps.size=n∧a'.defers=[]∧Q e (cq a') w') fuel L a w:=by
  intro fuel
  induction fuel with
  | zero=>
   intro L a w g hL wR hf g1 g2 inv
   have fq:∀ j,j < l.length→L.getD j false=true:=by
    intro j hj
    cases hb:L.getD j false with
    | true=>rfl
    | false=>have:=Kh L j hL.1 hj hb; omega
   have iz:∀ j,L.getD j false=true↔j < m:=fun j=>⟨wR j,fun h=>fq j (by omega)⟩
   refine tail _ m 0 L a w rfl (Nat.le_refl _) Iq hL iz hf g1 g2 (next g _ _ ?_)
   exact ⟨inv.ly,fun hk=>inv.DG fun k zO=>hk k ((iz k).1 zO),inv.vg,fun j hj=>inv.vd j ((iz j).2 hj),fun j hj hk=>inv.done j ((iz j).2 hj) (fun k zO=>hk k ((iz k).1 zO)),fun j hj=>inv.vm j ((iz j).2 hj),inv.other,fun j hj b hb=>⟨(inv.fresh j ((iz j).2 hj) b hb).1.imp (fun h=>h) fun h=>⟨h.1,h.2.imp fun k hk=>⟨(iz k).1 hk.1,hk.2⟩⟩,(inv.fresh j ((iz j).2 hj) b hb).2⟩,fun i j hi hj=>inv.yP i j ((iz i).2 hi) ((iz j).2 hj)⟩
  | succ fuel ih=>
   intro L a w g hL wR hf g1 g2 inv
   by_cases fq:∀ j,j < m→L.getD j false=true
   ·have iz:∀ j,L.getD j false=true↔j < m:=fun j=>⟨wR j,fq j⟩
    refine tail _ m _ L a w rfl (Nat.le_refl _) Iq hL iz hf g1 g2 (next g _ _ ?_)
    exact ⟨inv.ly,fun hk=>inv.DG fun k zO=>hk k ((iz k).1 zO),inv.vg,fun j hj=>inv.vd j ((iz j).2 hj),fun j hj hk=>inv.done j ((iz j).2 hj) (fun k zO=>hk k ((iz k).1 zO)),fun j hj=>inv.vm j ((iz j).2 hj),inv.other,fun j hj b hb=>⟨(inv.fresh j ((iz j).2 hj) b hb).1.imp (fun h=>h) fun h=>⟨h.1,h.2.imp fun k hk=>⟨(iz k).1 hk.1,hk.2⟩⟩,(inv.fresh j ((iz j).2 hj) b hb).2⟩,fun i j hi hj=>inv.yP i j ((iz i).2 hi) ((iz j).2 hj)⟩
   ·obtain ⟨j0,U8,It⟩ : ∃ j,j < m∧L.getD j false=false:=by
     apply Classical.byContradiction
     intro ue
     apply fq
     intro j hj
     cases hb:L.getD j false with
     | true=>rfl
     | false=>exact absurd ⟨j,hj,hb⟩ ue
    have Oj:∃ i,i∈Region.ready .any l.toArray L:=by
     have:∀ k,(∃ j,j < k∧j < m∧L.getD j false=false)→∃ i,i∈Region.ready .any l.toArray L:=by
      intro k
      induction k with
      | zero=>rintro ⟨j,h,_⟩; omega
      | succ k F9=>
       rintro ⟨j,PV,DH,uf⟩
       by_cases xL:∃ j,j < k∧j < m∧L.getD j false=false
       ·exact F9 xL
       ·obtain rfl:j=k:=by
         apply Classical.byContradiction
         intro h
         exact xL ⟨j,by omega,DH,uf⟩
        have Gj:j < l.length:=by omega
        refine ⟨j,Gi L j l[j] hL.1 (List.getElem?_eq_getElem Gj) uf fun e he=>?_⟩
        have bn:=yX j _ (List.getElem?_eq_getElem Gj) e he
        cases hb:L.getD e.on false with
        | true=>rfl
        | false=>exact absurd ⟨e.on,bn,by omega,hb⟩ xL
     exact this (j0+1) ⟨j0,by omega,U8,It⟩
    have main:∀ i oi,i < m→l[i]? = some oi→L.getD i false=false→(∀ e∈oi.after.toList.filter (Region.binds .any),L.getD e.on false=true)→
      (Region.wanted oi (yl l (cq a))=true∧gn P oi (cq a) w fun v w'=>wpAny P .any l.toArray (fun e a' w'=>a'.tmps.size=n∧a'.defers=[]∧Q e (cq a') w') fuel (L.setIfInBounds i true) (a.put oi.dst v) w')∨
      (Region.wanted oi (yl l (cq a))=false∧wpAny P .any l.toArray (fun e a' w'=>a'.tmps.size=n∧a'.defers=[]∧Q e (cq a') w') fuel (L.setIfInBounds i true) (a.put oi.dst undef) w):=by
     intro i oi wS n9 wT wU
     have gj:i < l.length:=(List.getElem?_eq_some_iff.1 n9).1
     have nu:∀ o,l[i]? = some o→∀ e∈o.after.toList.filter (Region.binds .any),L.getD e.on false=true:=fun o' cj=>by
      have:o'=oi:=Option.some.inj (cj.symm.trans n9)
      subst this; exact wU
     obtain ⟨s,hs⟩ : ∃ s,S[i]? = some s:=⟨S[i]'(by omega),List.getElem?_eq_getElem (by omega)⟩
     have hc:=Kh L i hL.1 gj wT
     have BL:=Jb L i oi hL n9 wU
     have YF:∀ j,(L.setIfInBounds i true).getD j false=true→j < m:=by
      intro j hj
      rcases (getSet L i j hL.1 gj).1 hj with rfl | hj
      ·exact wS
      ·exact wR j hj
     have Gk:∀ k,L.getD k false=true→k≠i∧i ∉ (b9 l).getD k []:=by
      intro k hk
      refine ⟨fun h=>(by rw [h,wT] at hk; cases hk),fun xm=>?_⟩
      have:=jv L hL k i (fun o' cj e' wo=>hL.2 k o' cj hk e' wo) xm
      rw [wT] at this; cases this
     have ow:=Ss i wS oi s n9 hs g (cq a) w inv.ly (fun hV=>by
       have ue:∀ k,L.getD k false=true→l.length ∉ U.getD k []:=fun k hk Ki=>by
        simp only [xX,List.all_eq_true,List.mem_range,Bool.or_eq_true,Bool.not_eq_true',List.contains_eq_mem,decide_eq_false_iff_not,decide_eq_true_eq] at hV
        rcases hV k (wR k hk) with (h | h) | h
        ·exact h Ki
        ·exact (Gk k hk).1 (Nat.eq_of_beq_eq_true h)
        ·exact (Gk k hk).2 h
       have h0:=inv.DG ue
       exact ⟨h0.1,h0.2,fun j hj b hb=>(inv.fresh j (jv L hL i j nu hj) b hb).1.elim (fun h=>h) fun h=>absurd h.2.choose_spec.2 (ue _ h.2.choose_spec.1)⟩) (fun j hj=>inv.vm j (jv L hL i j nu hj)) (fun j hj=>by
       simp only [sw,Bool.and_eq_true,List.all_eq_true,List.mem_range,Bool.or_eq_true,Bool.not_eq_true',List.contains_eq_mem,decide_eq_false_iff_not,decide_eq_true_eq] at hj
       refine inv.done j (jv L hL i j nu hj.1) fun k hk PV=>?_
       rcases hj.2 k (wR k hk) with (h | h) | h
       ·exact h PV
       ·exact (Gk k hk).1 (Nat.eq_of_beq_eq_true h)
       ·exact (Gk k hk).2 h) inv.other
      (fun i' wj j' ja=>inv.yP i' j' (jv L hL i i' nu wj) (jv L hL i j' nu ja))
      (fun j hj b hb=>⟨(inv.fresh j (jv L hL i j nu hj) b hb).1.imp (fun h=>h) (·.1),(inv.fresh j (jv L hL i j nu hj) b hb).2⟩)
     have hblk:∀ b∈r6 g (U.getD i []),(∃ u,u∈U.getD i []∧L.getD u false=true∧b∈g u)∨(l.length∈U.getD i []∧b∈g l.length):=by
      intro b hb
      obtain ⟨u,hu,gw⟩:=List.mem_flatMap.1 hb
      rcases YD i wS u hu with rfl | h
      ·exact .inr ⟨hu,gw⟩
      ·exact .inl ⟨u,hu,jv L hL i u nu h,gw⟩
     have Iu:∀ k',oi.dst=some k'→k' < a.tmps.size:=by
      intro k' zG
      have xm:oi∈l:=List.mem_of_getElem? n9
      simp only [di,List.all_eq_true] at hd
      have:=hd oi xm
      rw [zG] at this
      rw [g1]
      exact Nat.lt_of_succ_le (Nat.le_of_ble_eq_true this)
     have BM:br l i=oi.dst:=by unfold br; rw [n9]; rfl
     have rh:∀ v t,(oi.dst≠some t)→cq (a.put oi.dst v) t=cq a t:=by
      intro v t ht
      rw [mg Iu]
      cases zP:oi.dst with
      | none=>rfl
      | some d=>
       show (bif Nat.beq t d then v else cq a t)=cq a t
       cases hb:Nat.beq t d with
       | false=>rfl
       | true=>exact absurd (by rw [zP,Nat.eq_of_beq_eq_true hb]) ht
     have Kj:∀ v d,oi.dst=some d→cq (a.put oi.dst v) d=v:=by
      intro v d zP
      rw [mg Iu,zP]
      show (bif Nat.beq d d then v else cq a d)=v
      rw [Nat.beq_refl]; rfl
     have step:∀ v w' f,aq (r6 g (U.getD i [])) w w'→(∀ b∈f,(b∈r6 g (U.getD i [])∨w.heap.size≤b)∧b < w'.heap.size)→(if s.b then s.V f w' (cq a) v else v=undef)→
       wpAny P .any l.toArray (fun e a' w'=>a'.tmps.size=n∧a'.defers=[]∧Q e (cq a') w') fuel (L.setIfInBounds i true) (a.put oi.dst v) w':=by
      intro v w' f hC wP hV
      have u7:∀ j',j' < m→j'≠i→∀ t,br l j'=some t→cq (a.put oi.dst v) t=cq a t:=by
       intro j' ja rb t ht
       refine rh v t fun h=>rb (dp j' i t ?_ ?_)
       ·rw [lv ja]; exact ht
       ·rw [lv wS,BM]; exact h
      have PW:∀ b∈r6 g (U.getD i []),¬ N b:=fun b hb hn=>by
       rcases hblk b hb with ⟨u,_,pq,gw⟩ | ⟨_,gw⟩
       ·rcases (inv.fresh u pq b gw).1 with h | h
        ·have:=(hN b hn).1; omega
        ·exact (hN b hn).2 h.1
       ·exact (hN b hn).2 (inv.vg b gw)
      refine ih _ _ _ (fun j=>if j=i then f else if j∈U.getD i [] then [] else g j) BL YF (by omega) (by rw [lg]; exact g1) (by rw [iH]; exact g2)
       ⟨inv.ly.then hC fun b hb=>(by
        rcases hblk b hb with ⟨u,_,pq,gw⟩ | ⟨_,gw⟩
        ·exact (inv.fresh u pq b gw).1.elim .inr fun h=>.inl h.1
        ·exact .inl (inv.vg b gw)),fun ue=>?_,?_,fun j hj=>?_,?_,fun j hj d qk sj te=>?_,?_,?_,?_⟩
      ·have yf:l.length ∉ U.getD i []:=ue i ((getSet L i i hL.1 gj).2 (.inl rfl))
       have h0:=inv.DG fun k hk=>ue k ((getSet L i k hL.1 gj).2 (.inr hk))
       refine ⟨h0.1.then hC fun b hb=>?_,?_⟩
       ·rcases hblk b hb with ⟨u,_,pq,gw⟩ | ⟨h,_⟩
        ·exact (inv.fresh u pq b gw).1.elim .inr fun ⟨_,k,hk,Ki⟩=>absurd Ki (ue k ((getSet L i k hL.1 gj).2 (.inr hk)))
        ·exact absurd h yf
       ·show (if l.length=i then f else if l.length∈U.getD i [] then [] else g l.length)=H
        rw [if_neg (by omega),if_neg yf]
        exact h0.2
      ·intro b hb
       have cu:b∈(if l.length=i then f else if l.length∈U.getD i [] then [] else g l.length):=hb
       rw [if_neg (by omega)] at cu
       split at cu
       ·cases cu
       ·exact inv.vg b cu
      ·intro b hb hv
       have mb:b∈(if l.length=i then f else if l.length∈U.getD i [] then [] else g l.length):=hv
       rw [if_neg (by omega)] at mb
       split at mb
       ·cases mb
       ·rename_i YG
        have cu:b∈(if j=i then f else if j∈U.getD i [] then [] else g j):=hb
        split at cu
        ·rcases (wP b cu).1 with h | h
         ·rcases hblk b h with ⟨u,_,pq,gw⟩ | ⟨h,_⟩
          ·exact inv.vd u pq b gw mb
          ·exact YG h
         ·have h1:=hH b (inv.vg b mb)
          have h2:=inv.ly.size
          omega
        ·rename_i l6
         split at cu
         ·cases cu
         ·exact inv.vd j (((getSet L i j hL.1 gj).1 hj).resolve_left l6) b cu mb
      ·intro j hj zQ
       refine ⟨fun d qk=>?_,fun YH sj te PX=>?_⟩
       rotate_left
       ·by_cases l6:j=i
        ·subst l6
         rw [hs] at te
         cases te
         rw [if_pos PX] at hV
         refine ⟨v,?_⟩
         simp only [if_pos]
         exact r7 j s hs _ [] w' w' (cq a) _ v (aq.refl _ _) (fun _ _ h=>nomatch h) (fun _ h=>nomatch h) (fun j' ja t ht=>u7 j' (by have:=(qx j j' ja).1; omega) (by have:=(qx j j' ja).1; omega) t ht) hV
        ·have lz:=((getSet L i j hL.1 gj).1 hj).resolve_left l6
         have uf:j ∉ U.getD i []:=zQ i ((getSet L i i hL.1 gj).2 (.inl rfl))
         obtain ⟨x,hx⟩:=(inv.done j lz (fun k hk=>zQ k ((getSet L i k hL.1 gj).2 (.inr hk)))).2 YH sj te PX
         have kn:(fun j=>if j=i then f else if j∈U.getD i [] then [] else g j) j=g j:=by
          show (if j=i then f else if j∈U.getD i [] then [] else g j)=g j
          rw [if_neg l6,if_neg uf]
         rw [kn]
         refine ⟨x,r7 j sj te _ _ _ _ (cq a) _ _ hC (fun b cu Kk=>?_) PW (fun j' ja t ht=>u7 j' (by have:=(qx j j' ja).1; have:=wR j lz; omega) (fun h=>?_) t ht) hx⟩
         ·rcases hblk b Kk with ⟨u,DI,pq,gw⟩ | ⟨_,gw⟩
          ·exact inv.yP j u lz pq (fun h=>uf (h ▸ DI)) b cu gw
          ·exact inv.vd j lz b cu gw
         ·subst h
          have:=jv L hL j j' (fun o' cj e' wo=>hL.2 j o' cj lz e' wo) ja
          rw [wT] at this; cases this
       by_cases l6:j=i
       ·subst l6
        rw [hs]
        simp only [if_pos]
        rw [BM] at qk
        rw [Kj v d qk]
        split
        ·rename_i hb
         rw [if_pos hb] at hV
         exact r7 j s hs _ [] w' w' (cq a) _ v (aq.refl _ _) (fun _ _ h=>nomatch h) (fun _ h=>nomatch h) (fun j' ja t ht=>u7 j' (by have:=(qx j j' ja).1; omega) (by have:=(qx j j' ja).1; omega) t ht) hV
        ·rename_i hb
         rw [if_neg hb] at hV
         exact hV
       ·have lz:=((getSet L i j hL.1 gj).1 hj).resolve_left l6
        have DH:=wR j lz
        have uf:j ∉ U.getD i []:=zQ i ((getSet L i i hL.1 gj).2 (.inl rfl))
        have zP:oi.dst≠some d:=by
         intro h
         apply l6
         refine dp j i d ?_ ?_
         ·rw [lv DH]; exact qk
         ·rw [lv wS,BM]; exact h
        have:=(inv.done j lz (fun k hk=>zQ k ((getSet L i k hL.1 gj).2 (.inr hk)))).1 d qk
        rw [rh v d zP]
        have kn:(fun j=>if j=i then f else if j∈U.getD i [] then [] else g j) j=g j:=by
         show (if j=i then f else if j∈U.getD i [] then [] else g j)=g j
         rw [if_neg l6,if_neg uf]
        rw [kn]
        cases te:S[j]? with
        | none=>trivial
        | some sj=>
         rw [te] at this
         simp only [] at this ⊢
         split
         ·rename_i hb
          rw [if_pos hb] at this
          refine r7 j sj te _ _ _ _ (cq a) _ _ hC (fun b cu Kk=>?_) PW (fun j' ja t ht=>u7 j' (by have:=(qx j j' ja).1; omega) (fun h=>?_) t ht) this
          rotate_left
          ·subst h
           have:=jv L hL j j' (fun o' cj e' wo=>hL.2 j o' cj lz e' wo) ja
           rw [wT] at this; cases this
          rcases hblk b Kk with ⟨u,DI,pq,gw⟩ | ⟨_,gw⟩
          ·exact inv.yP j u lz pq (fun h=>uf (h ▸ DI)) b cu gw
          ·exact inv.vd j lz b cu gw
         ·rename_i hb
          rw [if_neg hb] at this
          exact this
      ·by_cases l6:j=i
       ·subst l6
        rw [hs] at te
        cases te
        rw [BM] at qk
        rw [Kj v d qk]
        split
        ·rename_i hb
         rw [if_pos hb] at hV
         exact ⟨f,w',r7 j s hs _ [] w' w' (cq a) _ v (aq.refl _ _) (fun _ _ h=>nomatch h) (fun _ h=>nomatch h) (fun j' ja t ht=>u7 j' (by have:=(qx j j' ja).1; omega) (by have:=(qx j j' ja).1; omega) t ht) hV⟩
        ·rename_i hb
         rw [if_neg hb] at hV
         exact hV
       ·have lz:=((getSet L i j hL.1 gj).1 hj).resolve_left l6
        have DH:=wR j lz
        have zP:oi.dst≠some d:=by
         intro h
         apply l6
         refine dp j i d ?_ ?_
         ·rw [lv DH]; exact qk
         ·rw [lv wS,BM]; exact h
        have:=inv.vm j lz d qk sj te
        rw [rh v d zP]
        split
        ·rename_i hb
         rw [if_pos hb] at this
         obtain ⟨f1,w1,h1⟩:=this
         refine ⟨f1,w1,r7 j sj te _ [] w1 w1 (cq a) _ _ (aq.refl _ _) (fun _ _ h=>nomatch h) (fun _ h=>nomatch h) (fun j' ja t ht=>u7 j' (by have:=(qx j j' ja).1; omega) (fun h=>?_) t ht) h1⟩
         subst h
         have:=jv L hL j j' (fun o' cj e' wo=>hL.2 j o' cj lz e' wo) ja
         rw [wT] at this; cases this
        ·rename_i hb
         rw [if_neg hb] at this
         exact this
      ·intro t ht
       rw [rh v t (fun h=>ht i wS (by rw [BM]; exact h))]
       exact inv.other t ht
      ·intro j hj b hb
       by_cases l6:j=i
       ·simp only [if_pos l6] at hb
        have hh:=wP b hb
        have wJ:=inv.ly.size
        rcases hh.1 with h | h
        ·rcases hblk b h with ⟨u,_,pq,gw⟩ | ⟨hv,gw⟩
         ·exact ⟨(inv.fresh u pq b gw).1.imp (fun h=>h) fun h=>⟨h.1,h.2.imp fun k hk=>⟨(getSet L i k hL.1 gj).2 (.inr hk.1),hk.2⟩⟩,hh.2⟩
         ·exact ⟨.inr ⟨inv.vg b gw,i,(getSet L i i hL.1 gj).2 (.inl rfl),hv⟩,hh.2⟩
        ·exact ⟨.inl (by omega),hh.2⟩
       ·have lz:=((getSet L i j hL.1 gj).1 hj).resolve_left l6
        simp only [if_neg l6] at hb
        split at hb
        ·cases hb
        ·have h1:=inv.fresh j lz b hb
         have h2:=hC.size
         exact ⟨h1.1.imp (fun h=>h) fun h=>⟨h.1,h.2.imp fun k hk=>⟨(getSet L i k hL.1 gj).2 (.inr hk.1),hk.2⟩⟩,by omega⟩
      ·have vW:∀ j',(L.setIfInBounds i true).getD j' false=true→j'≠i→∀ b∈f,b ∉ (if j'∈U.getD i [] then [] else g j'):=by
        intro j' ja e2 b hb cu
        have Kl:=((getSet L i j' hL.1 gj).1 ja).resolve_left e2
        split at cu
        ·cases cu
        ·rename_i uf
         rcases (wP b hb).1 with h | h
         ·rcases hblk b h with ⟨u,DI,pq,gw⟩ | ⟨_,gw⟩
          ·exact inv.yP u j' pq Kl (fun h=>uf (h ▸ DI)) b gw cu
          ·exact inv.vd j' Kl b cu gw
         ·have:=inv.fresh j' Kl b cu
          omega
       intro i' j' wj ja rb b hb cu
       by_cases e1:i'=i
       ·have e2:j'≠i:=fun h=>rb (e1.trans h.symm)
        simp only [if_pos e1] at hb
        simp only [if_neg e2] at cu
        exact vW j' ja e2 b hb cu
       ·simp only [if_neg e1] at hb
        by_cases e2:j'=i
        ·simp only [if_pos e2] at cu
         exact vW i' wj e1 b cu hb
        ·simp only [if_neg e2] at cu
         split at hb
         ·cases hb
         ·split at cu
          ·cases cu
          ·exact inv.yP i' j' (((getSet L i i' hL.1 gj).1 wj).resolve_left e1) (((getSet L i j' hL.1 gj).1 ja).resolve_left e2) rb b hb cu
     cases hb:s.b with
     | true=>
      rw [if_pos hb] at ow
      refine .inl ⟨ow.1,qw ow.2 ?_⟩
      rintro v w' ⟨hC,f,wP,hV⟩
      exact step v w' f hC wP (by rw [if_pos hb]; exact hV)
     | false=>
      rw [if_neg (by rw [hb]; exact Bool.false_ne_true)] at ow
      exact .inr ⟨ow,step undef w [] (aq.refl _ _) (fun b h=>nomatch h) (by rw [if_neg (by rw [hb]; exact Bool.false_ne_true)])⟩
    by_cases Vl:∃ z,z∈Z∧L.getD z false=false∧∀ o,l[z]? = some o→∀ e∈o.after.toList.filter (Region.binds .any),L.getD e.on false=true
    ·obtain ⟨z,hz,Zd,hze⟩:=Vl
     obtain ⟨⟨hzm,hzf⟩,Qh⟩:=hZ z hz
     cases IC:l[z]? with
     | none=>rw [IC] at Qh; cases Qh
     | some oz=>
      rw [IC] at Qh
      simp only [Bool.and_eq_true] at Qh
      obtain ⟨hmv,IB⟩:=Qh
      have SY:=hze oz IC
      have hfm:Region.free .any l.toArray L z=true:=Qf (fun j hj=>jv L hL z j (fun o' cj=>hze o' cj) hj) hzf
      have hrz:z∈Region.ready .any l.toArray L:=Gi L z oz hL.1 IC Zd SY
      obtain ⟨dz,opz,tyz,pz,az,gz⟩:=oz
      cases opz <;> first | exact (Bool.false_ne_true hmv).elim | skip
      case move x=>
       cases gz with
       | some _=>simp at IB
       | none=>
        have hev:∀ w',(execOp a.eval ⟨dz,.move x,tyz,pz,az,none⟩).run P w' = .ok (.value (a.eval x)) w':=fun _=>rfl
        refine wpAny_take (by simpa using IC) U7 hfm (by simpa using hrz) (fun c a w h=>absurd h.2.2 (hp _ _ _)) (v:=a.eval x) (.inl ⟨rfl,hev⟩) ?_
        rcases main z _ (Zb z hz) IC Zd SY with ⟨_,h⟩ | ⟨h,_⟩
        ·rw [sx]; exact h
        ·exact absurd h (by simp [Region.wanted])
      case extract x k=>
       cases gz with
       | some _=>simp at IB
       | none=>
        rcases main z _ (Zb z hz) IC Zd SY with ⟨_,h⟩ | ⟨h,_⟩
        ·obtain ⟨v,hv,hk⟩:=Mj h
         refine wpAny_take (by simpa using IC) U7 hfm (by simpa using hrz) (fun c a w h=>absurd h.2.2 (hp _ _ _)) (v:=v) (.inl ⟨rfl,fun w'=>by rw [sx]; exact hv w'⟩) ?_
         exact hk
        ·exact absurd h (by simp [Region.wanted])
    refine ⟨fun h=>(by obtain ⟨i,hi⟩:=Oj; rw [h] at hi; cases hi),fun i hi=>?_⟩
    obtain ⟨q1,oi,n9,wU⟩:=E5 L i hi
    have gj:i < l.length:=(List.getElem?_eq_some_iff.1 n9).1
    have wT:L.getD i false=false:=getD_both q1
    have wS:i < m:=by
     rcases Nat.lt_or_ge i m with h | h
     ·exact h
     ·have bad:∀ j,j < i→L.getD j false=false→False:=by
       intro j
       induction j using Nat.strongRecOn with
       | _ j ih=>
        intro l6 uf
        rcases HB i h gj j l6 with hj | hj
        ·have:=jv L hL i j (fun o' cj=>by have:o'=oi:=Option.some.inj (cj.symm.trans n9); subst this; exact wU) hj
         rw [uf] at this; cases this
        ·refine Vl ⟨j,hj,uf,fun o ho e he=>?_⟩
         cases hb:L.getD e.on false with
         | true=>rfl
         | false=>have bn:=yX j o ho e he; exact (ih e.on bn (by omega) hb).elim
      exact (bad j0 (by omega) It).elim
    unfold wpOp
    rw [show (l.toArray)[i]? = some oi by simpa using n9]
    simp only []
    rw [Co (by rw [g1]; exact hd)]
    rcases main i oi wS n9 wT wU with ⟨hw,h⟩ | ⟨hw,h⟩
    ·rw [if_pos hw]
     exact .inl (h.wp fun v w' hv=>hv)
    ·rw [if_neg (by rw [hw]; exact Bool.false_ne_true)]
     exact h
 refine head _ _ a _ (fun j=>if j=l.length then H else []) ⟨by simp,?_⟩ ?_ ?_ h1 h2 ⟨aq.nil (aq.drew _ _),fun _=>⟨aq.drew _ _,by simp⟩,fun b hb=>by simpa using hb,?_,?_,?_,?_,?_,?_⟩
 ·intro j o ho hj
  rw [getD_replicate_false] at hj; cases hj
 ·intro j hj
  rw [getD_replicate_false] at hj; cases hj
 ·simp
 ·intro j hj
  rw [getD_replicate_false] at hj; cases hj
 ·intro j hj
  rw [getD_replicate_false] at hj; cases hj
 ·intro j hj
  rw [getD_replicate_false] at hj; cases hj
 ·intro t _
  rw [h3]
 ·intro j hj
  rw [getD_replicate_false] at hj; cases hj
 ·intro i j hi
  rw [getD_replicate_false] at hi; cases hi
theorem jg.val {m i:Nat} {U:LL} {H:LN} {o:Oper} {v:Value} (ho:l[i]? = some o) (hs:S[i]? = some ⟨true,pl fun _ _ u=>u=v⟩) (hg:o.guard=none)
  (h:∀ (g:Nat→List Nat) (r:NV) (w:World),aq H w0 w→(∀ j∈(b9 l).getD i [],Old l S j r)→(∀ j,sw l U m i j=true→wO l S j g r w)→(∀ t,(∀ j,j < m→br l j≠some t)→r t=r0 t)→
   (execOp (ev r) o).run P w = .ok (.value v) w):jg P l m S U r0 w0 H i:=by
 intro o' s' cj fi g r w hC hV hO hd kp BA rh
 obtain rfl:o=o':=Option.some.inj (ho.symm.trans cj)
 obtain rfl:_=s':=Option.some.inj (hs.symm.trans fi)
 rw [if_pos rfl]
 refine ⟨by unfold Region.wanted; rw [hg],?_⟩
 unfold gn
 rw [h g r w hC hO hd kp]
 exact ⟨aq.refl _ _,[],(fun _ h=>nomatch h),rfl⟩
theorem jg.call {m i:Nat} {U:LL} {H:LN} {o:Oper} {v:Value} {f:FuncId} (ho:l[i]? = some o) (hs:S[i]? = some ⟨true,pl fun _ _ u=>u=v⟩) (hg:o.guard=none)
  (h:∀ (g:Nat→List Nat) (r:NV) (w:World),aq H w0 w→(∀ j∈(b9 l).getD i [],Old l S j r)→(∀ j,sw l U m i j=true→wO l S j g r w)→(∀ t,(∀ j,j < m→br l j≠some t)→r t=r0 t)→
   ∃ args,(execOp (ev r) o).run P w = .ok (.enter f args) w∧Calls P f args w fun e w'=>e = .returned v∧aq [] w w'):jg P l m S U r0 w0 H i:=by
 intro o' s' cj fi g r w hC hV hO hd kp BA rh
 obtain rfl:o=o':=Option.some.inj (ho.symm.trans cj)
 obtain rfl:_=s':=Option.some.inj (hs.symm.trans fi)
 rw [if_pos rfl]
 refine ⟨by unfold Region.wanted; rw [hg],?_⟩
 unfold gn
 obtain ⟨args,h1,h2⟩:=h g r w hC hO hd kp
 rw [h1]
 exact h2.mono fun e w' ⟨he,hc⟩=>⟨v,he,hc.nil,[],(fun _ h=>nomatch h),rfl⟩
theorem jg.mem {m i:Nat} {U:LL} {H:LN} {o:Oper} {V:List Nat→World→Value→Prop} (ho:l[i]? = some o) (hs:S[i]? = some ⟨true,pl V⟩) (hg:o.guard=none)
  (h:∀ (g:Nat→List Nat) (r:NV) (w:World),aq H w0 w→(∀ j∈(b9 l).getD i [],Old l S j r)→(∀ j,sw l U m i j=true→wO l S j g r w)→(∀ t,(∀ j,j < m→br l j≠some t)→r t=r0 t)→
   gn P o r w fun v w'=>aq [] w w'∧∃ f,(∀ b∈f,w.heap.size≤b∧b < w'.heap.size)∧V f w' v):jg P l m S U r0 w0 H i:=by
 intro o' s' cj fi g r w hC hV hO hd kp BA rh
 obtain rfl:o=o':=Option.some.inj (ho.symm.trans cj)
 obtain rfl:_=s':=Option.some.inj (hs.symm.trans fi)
 rw [if_pos rfl]
 refine ⟨by unfold Region.wanted; rw [hg],qw (h g r w hC hO hd kp) ?_⟩
 rintro v w' ⟨hC,f,hf,hV⟩
 exact ⟨hC.nil,f,fun b hb=>⟨.inr (hf b hb).1,(hf b hb).2⟩,hV⟩
theorem jg.Sg {m i:Nat} {U:LL} {H:LN} {o:Oper} {V:List Nat→World→(Nat→Value)→Value→Prop} (ho:l[i]? = some o) (hs:S[i]? = some ⟨true,V⟩) (hg:o.guard=none)
  (h:∀ (g:Nat→List Nat) (r:NV) (w:World),aq H w0 w→(∀ j∈(b9 l).getD i [],Old l S j r)→(∀ j,sw l U m i j=true→wO l S j g r w)→(∀ t,(∀ j,j < m→br l j≠some t)→r t=r0 t)→
   gn P o r w fun v w'=>aq [] w w'∧∃ f,(∀ b∈f,w.heap.size≤b∧b < w'.heap.size)∧V f w' r v):jg P l m S U r0 w0 H i:=by
 intro o' s' cj fi g r w hC hV hO hd kp BA rh
 obtain rfl:o=o':=Option.some.inj (ho.symm.trans cj)
 obtain rfl:_=s':=Option.some.inj (hs.symm.trans fi)
 rw [if_pos rfl]
 refine ⟨by unfold Region.wanted; rw [hg],qw (h g r w hC hO hd kp) ?_⟩
 rintro v w' ⟨hC,f,hf,hV⟩
 exact ⟨hC.nil,f,fun b hb=>⟨.inr (hf b hb).1,(hf b hb).2⟩,hV⟩
def Hv {α:Type} (T:ai α) (x:α):List Nat→World→Value→Prop:=fun f w v=>T.rep w.heap [v] x f∧f.Nodup
def afi (cs:LV) (e:TI) (n:Nat):List Nat→World→Value→Prop:=fun f w v=>∃ b,f=[b]∧v = .slice (some ⟨b,0,none⟩) n n∧Row w b cs e
def JM (a:LN) (l:LO) (s:gp):Prop:=∀ f F (w w':World) (r r':NV) v,aq F w w'→(∀ b∈f,b ∉ F)→(∀ j∈a,∀ t,br l j=some t→r' t=r t)→s.V f w r v→s.V f w' r' v
theorem Qi {a:LN} {b:Bool} {V:List Nat→World→Value→Prop} (h:∀ f F (w w':World) v,aq F w w'→(∀ b∈f,b ∉ F)→V f w v→V f w' v):JM a l ⟨b,pl V⟩:=
 fun f F w w' _ _ v hC hn _ hv=>h f F w w' v hC hn hv
theorem N6 {a:LN} {b:Bool} {u:Value}:JM a l ⟨b,pl fun _ _ v=>v=u⟩:=Qi fun _ _ _ _ _ _ _ h=>h
def N4:Value→Nat→Value
 | .tuple cs,i=>cs.getD i undef
 | _,_=>undef
theorem gn.own {α:Type} {T:ai α} {x:α} {o:Oper} {r:NV} {w:World} {f:FuncId} {args:Array Value} (h:(execOp (ev r) o).run P w = .ok (.enter f args) w)
  (hc:Calls P f args w fun e w'=>∃ (v:Value) (k:LN),e = .returned v∧aq [] w w'∧OE [] w.heap.size w' T [v] x k) :
  gn P o r w fun v w'=>aq [] w w'∧∃ f,(∀ b∈f,w.heap.size≤b∧b < w'.heap.size)∧Hv T x f w' v:=by
 unfold gn
 rw [h]
 exact hc.mono fun e w' ⟨v,k,he,hC,ho⟩=>⟨v,he,hC,k,fun b hb=>⟨ho.fresh b hb,T.lt ho.1 b hb⟩,ho.1,ho.2.1⟩
theorem gn.made {α:Type} {T:ai α} {x:α} {o:Oper} {r:NV} {w:World} (h:∃ v w' f,(execOp (ev r) o).run P w = .ok (.value v) w'∧aq [] w w'∧OE [] w.heap.size w' T [v] x f) :
  gn P o r w fun v w'=>aq [] w w'∧∃ f,(∀ b∈f,w.heap.size≤b∧b < w'.heap.size)∧Hv T x f w' v:=by
 obtain ⟨v,w',f,hr,hC,ho⟩:=h
 unfold gn
 rw [hr]
 exact ⟨hC,f,fun b hb=>⟨ho.fresh b hb,T.lt ho.1 b hb⟩,ho.1,ho.2.1⟩
theorem AP {f g:LN} (h1:f.Nodup) (h2:g.Nodup) (d:td f g):(f++g).Nodup:=List.nodup_append.2 ⟨h1,h2,fun a ha _ hb yh=>d a ha (yh ▸ hb)⟩
theorem gn.xH {α:Type} {E:ai α} {F f:LN} {t e et:TI} {s x:OO} {i:TypeInfo} {z:Value} {sv u:Value} {xs:List α} {y:α} {b:Nat} {r:NV} {w:World} {d:Option Nat} {ty:TI} {pos:String} {ag:Array Edge}
  (ht:P.underlying t=some (.slice e)) (hi:P.info? e=some i) (hz:i.zero=some z) (hs:i.size=1) (hE:E.size=1) (xk:z.oneCell'=true)
  (yg:ev r s=sv) (hO:Hv (aI e E) xs f w sv) (hF:∀ b∈f,b∈F) (hx:ev r x = .slice (some ⟨b,0,none⟩) 1 1) (bd:Row w b [u] et) (hy:E.rep w.heap [u] y [])
  (hb:(xs.length+1) * i.bytes≤140737488355328) (AO:xs.length+1≤maxLen) :
  gn P ⟨d,.call ⟨.builtin .append,#[s,x],#[t,t]⟩,ty,pos,ag,none⟩ r w fun v w'=>aq F w w'∧∃ f',(∀ b∈f',(b∈F∨w.heap.size≤b)∧b < w'.heap.size)∧Hv (aI e E) (xs++[y]) f' w' v:=by
 obtain ⟨v,w',f',h,hC,fc,dx,dp⟩:=ql (d:=d) (ty:=ty) (pos:=pos) (ag:=ag) (g:=none) (ys:=[y]) ht hi hz (by rw [hs,hE]) (by rw [cells_one xk,hE]; rfl) yg hO.1 hO.2 hx bd.at (tv hy) (fun _ h=>nomatch h) (by simp) hb AO
 unfold gn
 rw [h]
 refine ⟨hC.mono hF,f',fun b hb=>⟨?_,ai.lt _ fc b hb⟩,fc,dp List.nodup_nil⟩
 rcases dx b hb with h | h | h
 ·exact .inl (hF b h)
 ·cases h
 ·exact .inr h
theorem gn.Hq {t e:TI} {i:TypeInfo} {z u:Value} {x:OO} {r:NV} {w:World} {d:Option Nat} {ty:TI} {pos:String} {ag:Array Edge} (ht:P.underlying t=some (.slice e)) (hi:P.info? e=some i) (hz:i.zero=some z)
  (hs:i.size=1) (hx:ev r x=u) (hv:u.oneCell'=true) :
  gn P ⟨d,.buildSlice t 1 #[(0,x)],ty,pos,ag,none⟩ r w fun v w'=>aq [] w w'∧∃ f,(∀ b∈f,w.heap.size≤b∧b < w'.heap.size)∧afi [u] e 1 f w' v:=by
 unfold gn
 rw [Na ht hi hz hs (by rw [hx]; exact hv),hx]
 exact ⟨aq.alloc _ _ _,[w.heap.size],fun b hb=>by rw [List.mem_singleton.1 hb]; simp,w.heap.size,rfl,rfl,heap_alloc_new w _⟩
end
end Go.Li
