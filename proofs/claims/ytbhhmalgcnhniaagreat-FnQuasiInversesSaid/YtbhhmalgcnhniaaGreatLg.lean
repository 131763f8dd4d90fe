/- A region that draws its order, whatever it holds: its head in any order, its tail one behind the other. No condition. -/
import Derived.Test.YtbhhmalgcnhniaaGreatLf
import Derived.Still
namespace Go.Li
open Go
def lp (acc:LL) (o:Oper):List (List Nat):=
 acc++[(o.after.toList.filter (Region.binds .any)).flatMap fun e=>e.on :: acc.getD e.on []]
def b9 (l:LO):List (List Nat):=l.foldl lp []
structure fv where
 b:Bool
 V:List Nat→World→(Nat→Value)→Value→Prop
abbrev pl (V:List Nat→World→Value→Prop):List Nat→World→(Nat→Value)→Value→Prop:=fun f w _ v=>V f w v
def nm (P:Program) (n:Nat) (l:LO) (Q:Exit→(Nat→Value)→World→Prop) (r:NV) (w:World):Prop:=
 ∀ a:Act,a.tmps.size=n→a.defers=[]→ch a=r→wpAny P .any l.toArray (fun e a' w'=>a'.tmps.size=n∧a'.defers=[]∧Q e (ch a') w') l.toArray.size (Array.replicate l.toArray.size false) a { w with drawn:=w.drawn+1 }
theorem nm.W {P:Program} {n id:Nat} {l:LO} {Q:Exit→(Nat→Value)→World→Prop} {r:NV} {w:World} (hm:P.follows .mixedOrders=true) (h:nm P n l Q r w):W P n (.region id l.toArray true) Q r w:=
 fun a h1 h2 h3=>wp_region_any hm (h a h1 h2 h3)
def Cg (π:LN) (o:Oper):Oper:=⟨o.dst,o.op,o.type,o.pos,(o.after.toList.map fun e=>⟨π.getD e.on 0,e.ground⟩).toArray,o.guard⟩
def o9 (l:LO) (σ π:LN):List Oper:=σ.map fun k=>Cg π (l.getD k default)
def NZ (l:LO) (σ π:LN):Bool:=
 Nat.beq σ.length l.length && Nat.beq π.length l.length &&
 ((List.range l.length).all fun i=>Nat.blt (π.getD i 0) l.length && Nat.beq (σ.getD (π.getD i 0) 0) i && Nat.blt (σ.getD i 0) l.length && Nat.beq (π.getD (σ.getD i 0) 0) i) &&
 l.all fun o=>o.guard.isNone && o.after.toList.all fun e=>Nat.blt e.on l.length
theorem Uo {P:Program} {Q:Exit→Act→World→Prop} {π:LN} {o:Oper} {a:Act} {w:World} {K:Act→World→Prop}:(Cg π o).wp P a w K Q=o.wp P a w K Q:=by
 cases o; rfl
theorem Oq {P:Program} {π:LN} {o:Oper} {a:Act} {w:World}:(Cg π o).asks P a w=o.asks P a w:=by
 cases o; rfl
section
variable {P:Program} {l:LO} {σ π:LN} (h:NZ l σ π=true)
include h
theorem Dg:σ.length=l.length∧π.length=l.length∧(∀ i,i < l.length→π.getD i 0 < l.length∧σ.getD (π.getD i 0) 0=i∧σ.getD i 0 < l.length∧π.getD (σ.getD i 0) 0=i)∧∀ o∈l,o.guard=none∧∀ e∈o.after.toList,e.on < l.length:=by
 unfold NZ at h
 simp only [Bool.and_eq_true,List.all_eq_true,List.mem_range] at h
 obtain ⟨⟨⟨h1,h2⟩,h3⟩,h4⟩:=h
 refine ⟨Nat.eq_of_beq_eq_true h1,Nat.eq_of_beq_eq_true h2,fun i hi=>?_,fun o ho=>?_⟩
 ·obtain ⟨⟨⟨a,b⟩,c⟩,d⟩:=h3 i hi
  exact ⟨Nat.lt_of_succ_le (Nat.le_of_ble_eq_true a),Nat.eq_of_beq_eq_true b,Nat.lt_of_succ_le (Nat.le_of_ble_eq_true c),Nat.eq_of_beq_eq_true d⟩
 ·obtain ⟨a,b⟩:=h4 o ho
  exact ⟨by simpa using a,fun e he=>Nat.lt_of_succ_le (Nat.le_of_ble_eq_true (b e he))⟩
theorem I8:(o9 l σ π).length=l.length:=by unfold o9; rw [List.length_map]; exact (Dg h).1
theorem I9 {i:Nat} {o:Oper} (ho:l[i]? = some o):(o9 l σ π)[π.getD i 0]? = some (Cg π o):=by
 obtain ⟨h1,_,h3,_⟩:=Dg h
 have hi:=(List.getElem?_eq_some_iff.1 ho).1
 obtain ⟨a,b,_,_⟩:=h3 i hi
 unfold o9
 rw [List.getElem?_map,List.getElem?_eq_getElem (by omega)]
 have e:σ[π.getD i 0]'(by omega)=i:=by
  rw [List.getD_eq_getElem?_getD,List.getElem?_eq_getElem (by omega)] at b
  simpa using b
 simp only [Option.map_some,Option.some.injEq]
 rw [e,List.getD_eq_getElem?_getD,ho]; rfl
theorem L9 {Q:Exit→Act→World→Prop}:∀ (fuel:Nat) (L L':Array Bool) (a:Act) (w:World),L.size=l.length→L'.size=l.length→(∀ i,i < l.length→L'.getD (π.getD i 0) true=L.getD i true)→
  wpAny P .any (o9 l σ π).toArray Q fuel L' a w→wpAny P .any l.toArray Q fuel L a w:=by
 obtain ⟨h1,h2,h3,h4⟩:=Dg h
 have gd:∀ {L:Array Bool} {i:Nat} (b:Bool),L.size=l.length→i < l.length→L.getD i b=L.getD i true:=fun {L i} b hs hi=>by
  have:i < L.size:=by omega
  simp [Array.getD,this]
 have B9:∀ (L L':Array Bool),L.size=l.length→L'.size=l.length→(∀ i,i < l.length→L'.getD (π.getD i 0) true=L.getD i true)→∀ i,i < l.length→(i∈Region.ready .any l.toArray L↔π.getD i 0∈Region.ready .any (o9 l σ π).toArray L'):=by
  intro L L' hs dy hL i hi
  rw [mem_ready,mem_ready,hL i hi]
  have ho:l[i]? = some (l[i]'hi):=List.getElem?_eq_getElem hi
  have cc:=I9 h ho
  have hg:=h4 _ (List.mem_of_getElem? ho)
  constructor
  ·rintro ⟨g1,o,g2,g3⟩
   refine ⟨g1,Cg π l[i],by simpa using cc,fun e he hb=>?_⟩
   have eo:l[i]=o:=by simpa [ho] using g2
   simp only [Cg,List.mem_toArray,List.mem_map] at he
   obtain ⟨e0,Yv,rfl⟩:=he
   have bh:=hg.2 e0 Yv
   have:=g3 e0 (by rw [← eo]; simpa using Yv) hb
   rw [gd false dy (h3 _ bh).1,hL _ bh,← gd false hs bh]; exact this
  ·rintro ⟨g1,o,g2,g3⟩
   refine ⟨g1,l[i],by simp,fun e he hb=>?_⟩
   have eo:Cg π l[i]=o:=by
    have:(o9 l σ π)[π.getD i 0]? = some o:=by simpa using g2
    rw [cc] at this
    exact Option.some.inj this
   have bh:=hg.2 e (by simpa using he)
   have:=g3 ⟨π.getD e.on 0,e.ground⟩ (by rw [← eo]; simp only [Cg,List.mem_toArray,List.mem_map]; exact ⟨e,by simpa using he,rfl⟩) hb
   rw [gd false dy (h3 _ bh).1,hL _ bh,← gd false hs bh] at this; exact this
 have back:∀ (L L':Array Bool),L.size=l.length→L'.size=l.length→(∀ i,i < l.length→L'.getD (π.getD i 0) true=L.getD i true)→Region.ready .any l.toArray L=[]→Region.ready .any (o9 l σ π).toArray L'=[]:=by
  intro L L' hs dy hL he
  rw [List.eq_nil_iff_forall_not_mem]
  intro k hk
  have CZ:k < l.length:=by
   obtain ⟨_,o,g2,_⟩:=mem_ready.1 hk
   have:(o9 l σ π)[k]? = some o:=by simpa using g2
   have:=(List.getElem?_eq_some_iff.1 this).1
   rwa [I8 h] at this
  obtain ⟨_,_,c,d⟩:=h3 k CZ
  have:=(B9 L L' hs dy hL (σ.getD k 0) c).2 (by rw [d]; exact hk)
  rw [he] at this
  exact nomatch this
 intro fuel
 induction fuel with
 | zero=>
  intro L L' a w hs dy hL hh
  refine ⟨?_,hh.2⟩
  rw [List.eq_nil_iff_forall_not_mem]
  intro i hi
  have pq:i < l.length:=by
   obtain ⟨_,o,g2,_⟩:=mem_ready.1 hi
   have:l[i]? = some o:=by simpa using g2
   exact (List.getElem?_eq_some_iff.1 this).1
  have:=(B9 L L' hs dy hL i pq).1 hi
  rw [hh.1] at this
  exact nomatch this
 | succ fuel ih=>
  intro L L' a w hs dy hL hh
  refine ⟨fun he=>hh.1 (back L L' hs dy hL he),fun i hi=>?_⟩
  have pq:i < l.length:=by
   obtain ⟨_,o,g2,_⟩:=mem_ready.1 hi
   have:l[i]? = some o:=by simpa using g2
   exact (List.getElem?_eq_some_iff.1 this).1
  have ho:l[i]? = some (l[i]'pq):=List.getElem?_eq_getElem pq
  have hg:=h4 _ (List.mem_of_getElem? ho)
  have Ma:=hh.2 _ ((B9 L L' hs dy hL i pq).1 hi)
  have next:∀ a w,wpAny P .any (o9 l σ π).toArray Q fuel (L'.setIfInBounds (π.getD i 0) true) a w→wpAny P .any l.toArray Q fuel (L.setIfInBounds i true) a w:=fun a w=>ih _ _ a w (by simpa using hs) (by simpa using dy) fun j hj=>by
   have hpj:=(h3 j hj).1
   have hpi:=(h3 i pq).1
   by_cases e:i=j
   ·subst e
    rw [Array.getD_eq_getD_getElem?,Array.getD_eq_getD_getElem?,Array.getElem?_setIfInBounds_self_of_lt (by omega),Array.getElem?_setIfInBounds_self_of_lt (by omega)]
   ·have e':π.getD i 0≠π.getD j 0:=fun q=>e (by rw [← (h3 i pq).2.1,q,(h3 j hj).2.1])
    have h5:=hL j hj
    have q1:(L'.setIfInBounds (π.getD i 0) true).getD (π.getD j 0) true=L'.getD (π.getD j 0) true:=by
     rw [Array.getD_eq_getD_getElem?,Array.getD_eq_getD_getElem?,Array.getElem?_setIfInBounds_ne e']
    have q2:(L.setIfInBounds i true).getD j true=L.getD j true:=by
     rw [Array.getD_eq_getD_getElem?,Array.getD_eq_getD_getElem?,Array.getElem?_setIfInBounds_ne e]
    rw [q1,q2,h5]
  have ga:(l.toArray)[i]? = some (l[i]'pq):=by simp
  have gb:((o9 l σ π).toArray)[π.getD i 0]? = some (Cg π (l[i]'pq)):=by simpa using I9 h ho
  unfold wpOp at Ma ⊢
  rw [gb] at Ma
  rw [ga]
  have w1:Region.wanted (l[i]'pq) (yielded l.toArray a.tmps)=true:=by unfold Region.wanted; rw [hg.1]
  have w2:Region.wanted (Cg π (l[i]'pq)) (yielded (o9 l σ π).toArray a.tmps)=true:=by unfold Region.wanted; show (match (l[i]'pq).guard with | none=>true | some (j,want)=>_)=true; rw [hg.1]
  simp only [w2,if_true] at Ma
  simp only [w1,if_true]
  rw [Uo,Oq] at Ma
  exact Ma.imp (fun g=>Oper.wp_mono next g) id
theorem nm.prm {n:Nat} {Q:Exit→(Nat→Value)→World→Prop} {r:NV} {w:World} (hw:nm P n (o9 l σ π) Q r w):nm P n l Q r w:=by
 have hl:=I8 h
 obtain ⟨_,_,h3,_⟩:=Dg h
 intro a a1 a2 a3
 have:=hw a a1 a2 a3
 rw [show (o9 l σ π).toArray.size=l.toArray.size by simpa using hl] at this
 refine L9 h _ _ _ a _ (by simp) (by simp) (fun i hi=>?_) this
 have hq:=(h3 i hi).1
 rw [List.getD_eq_getElem?_getD] at hq
 simp [Array.getD,hi,hq]
end
section
variable {P:Program} {n:Nat} {Q:Exit→(Nat→Value)→World→Prop} {r0:NV} {w0:World} {l:LO} {S:List fv}
def bw (l:LO) (j:Nat):Option Nat:=(l[j]?).bind (·.dst)
def wV (l:LO) (S:List fv) (j:Nat) (g:Nat→List Nat) (r:NV) (w:World):Prop:=
 (∀ d,bw l j=some d→match S[j]? with
  | some s=>if s.b then s.V (g j) w r (r d) else r d=undef
  | none=>True)∧(bw l j=none→∀ s,S[j]? = some s→s.b=true→∃ x,s.V (g j) w r x)
def Old (l:LO) (S:List fv) (j:Nat) (r:NV):Prop:=∀ d,bw l j=some d→∀ s,S[j]? = some s→if s.b then ∃ f w,s.V f w r (r d) else r d=undef
structure wY (l:LO) (m:Nat) (S:List fv) (U:LL) (r0:NV) (w0:World) (H:LN) (L:Nat→Prop) (g:Nat→List Nat) (r:NV) (w:World):Prop where
 j9:an H w0 w
 AN:(∀ k,L k→l.length ∉ U.getD k [])→an [] w0 w∧g l.length=H
 vg:∀ b∈g l.length,b∈H
 vd:∀ j,L j→sb (g j) (g l.length)
 done:∀ j,L j→(∀ k,L k→j ∉ U.getD k [])→wV l S j g r w
 tc:∀ j,L j→Old l S j r
 other:∀ t,(∀ j,j < m→bw l j≠some t)→r t=r0 t
 fresh:∀ j,L j→∀ b∈g j,(w0.heap.size≤b∨(b∈H∧∃ k,L k∧l.length∈U.getD k []))∧b < w.heap.size
 wq:∀ i j,L i→L j→i≠j→sb (g i) (g j)
def tF (l:LO) (U:LL) (m i j:Nat):Bool:=
 ((b9 l).getD i []).contains j && (List.range m).all fun k=>!((U.getD k []).contains j) || Nat.beq k i || ((b9 l).getD k []).contains i
def qo (g:Nat→List Nat) (us:LN):List Nat:=us.flatMap g
def zu (l:LO) (U:LL) (m i:Nat):Bool:=(List.range m).all fun k=>!((U.getD k []).contains l.length) || Nat.beq k i || ((b9 l).getD k []).contains i
def jx (P:Program) (l:LO) (m:Nat) (S:List fv) (U:LL) (r0:NV) (w0:World) (H:LN) (i:Nat):Prop:=
 ∀ o s,l[i]? = some o→S[i]? = some s→∀ (g:Nat→List Nat) (r:NV) (w:World),an H w0 w→(zu l U m i=true→an [] w0 w∧g l.length=H∧∀ j∈(b9 l).getD i [],∀ b∈g j,w0.heap.size≤b)→(∀ j∈(b9 l).getD i [],Old l S j r)→(∀ j,tF l U m i j=true→wV l S j g r w)→(∀ t,(∀ j,j < m→bw l j≠some t)→r t=r0 t)→
  (∀ i'∈(b9 l).getD i [],∀ j'∈(b9 l).getD i [],i'≠j'→sb (g i') (g j'))→(∀ j∈(b9 l).getD i [],∀ b∈g j,(w0.heap.size≤b∨b∈H)∧b < w.heap.size)→
  if s.b then Region.wanted o (yl l r)=true∧gf P o r w fun v w'=>an (qo g (U.getD i [])) w w'∧∃ f,(∀ b∈f,(b∈qo g (U.getD i [])∨w.heap.size≤b)∧b < w'.heap.size)∧s.V f w' r v
  else Region.wanted o (yl l r)=false
def AK:List Nat→Bool
 | []=>true
 | x :: l=>!(l.contains x) && AK l
theorem yn:∀ {l:LN},AK l=true→l.Nodup
 | [],_=>List.nodup_nil
 | x :: l,h=>by
  simp only [AK,Bool.and_eq_true,Bool.not_eq_true',List.contains_eq_mem,decide_eq_false_iff_not] at h
  exact List.nodup_cons.2 ⟨h.1,yn h.2⟩
def zw (l:LO) (m:Nat) (Z:LN):Bool:=
 ((List.range l.length).all fun i=>((l.getD i default).after.toList.filter (Region.binds .any)).all fun e=>Nat.blt e.on i) &&
 ((List.range l.length).all fun i=>Nat.blt i m || (List.range i).all fun j=>((b9 l).getD i []).contains j || Z.contains j) &&
 AK ((l.take m).filterMap (·.dst))
def Up (o:Oper):Bool:=match o.op with | .move _=>true | .extract _ _=>true | _=>false
def Ot (l:LO) (i:Nat):Array Bool:=((List.range l.length).map fun j=>((b9 l).getD i []).contains j).toArray
def GD (l:LO) (m:Nat) (Z:LN):Bool:=
 Region.noSelect l.toArray && Z.all fun i=>Nat.blt i m && Region.free .any l.toArray (Ot l i) i &&
  match l[i]? with
  | some o=>Up o && o.guard.isNone
  | none=>false
theorem Mb {l:LO} {L:Array Bool} {i:Nat} (hL:∀ j∈(b9 l).getD i [],L.getD j false=true) (h:Region.free .any l.toArray (Ot l i) i=true):Region.free .any l.toArray L i=true:=by
 unfold Region.free at h ⊢
 cases ho:(l.toArray)[i]? with
 | none=>rw [ho] at h; cases h
 | some oi=>
  rw [ho] at h
  simp only [List.all_eq_true,List.mem_range,Bool.or_eq_true] at h ⊢
  intro j hj
  rcases h j hj with (h1 | h1) | h1
  ·exact .inl (.inl h1)
  ·have bh:j < l.length:=by simpa using hj
   have hm:j∈(b9 l).getD i []:=by
    unfold Ot at h1
    have:((List.range l.length).map fun j=>((b9 l).getD i []).contains j)[j]? = some (((b9 l).getD i []).contains j):=by
     rw [List.getElem?_map,List.getElem?_range bh]; rfl
    rw [Array.getD_eq_getD_getElem?,List.getElem?_toArray,this] at h1
    simpa using h1
   refine .inl (.inr ?_)
   have h2:=hL j hm
   rcases Nat.lt_or_ge j L.size with h' | h'
   ·simp [h'] at h2 ⊢; exact h2
   ·simp [Array.getElem?_eq_none h'] at h2
  ·exact .inr h1
theorem Io {P:Program} {d:Option Nat} {x:OO} {k:Nat} {ty:TI} {pos:String} {ah:Array Edge} {g:Option (Nat×Bool)} {r:NV} {w:World} {K:Value→World→Prop} (h:gf P ⟨d,.extract x k,ty,pos,ah,g⟩ r w K) :
  ∃ v,(∀ w',(execOp (ev r) ⟨d,.extract x k,ty,pos,ah,g⟩).run P w' = .ok (.value v) w')∧K v w:=by
 have e:execOp (ev r) ⟨d,.extract x k,ty,pos,ah,g⟩ = (Instr.extract (ev r x) k>>=fun v=>pure (.value v)):=rfl
 unfold gf at h
 rw [e] at h ⊢
 generalize ev r x=u at h ⊢
 cases u
 case tuple vs=>
  cases hv:vs[k]? with
  | none=>simp [Instr.extract,hv,stuck,Result.andThen,Sem.run] at h
  | some v=>
   refine ⟨v,fun w'=>?_,?_⟩
   ·simp [Instr.extract,hv]
   ·simpa [Instr.extract,hv] using h
 all_goals simp [Instr.extract,stuck,Result.andThen,Sem.run] at h
theorem zE (l:LO):∀ (i:Nat) (o:Oper),l[i]? = some o→(b9 l)[i]? = some ((o.after.toList.filter (Region.binds .any)).flatMap fun e=>e.on :: ((b9 l).take i).getD e.on []):=by
 have key:∀ (l:LO) (acc:LL),(l.foldl lp acc).length=acc.length+l.length∧(∀ j,j < acc.length→(l.foldl lp acc)[j]? = acc[j]?)∧
   ∀ i o,l[i]? = some o→(l.foldl lp acc)[acc.length+i]? = some ((o.after.toList.filter (Region.binds .any)).flatMap fun e=>e.on :: ((l.foldl lp acc).take (acc.length+i)).getD e.on []):=by
  intro l
  induction l with
  | nil=>intro acc; exact ⟨rfl,fun _ _=>rfl,fun i o h=>by simp at h⟩
  | cons x l ih=>
   intro acc
   obtain ⟨h1,h2,h3⟩:=ih (lp acc x)
   have hl:(lp acc x).length=acc.length+1:=by simp [lp]
   have hold:∀ j,j < acc.length→(lp acc x)[j]? = acc[j]?:=fun j hj=>by simp only [lp]; rw [List.getElem?_append_left hj]
   refine ⟨by simp only [List.foldl_cons,h1,hl,List.length_cons]; omega,fun j hj=>?_,?_⟩
   ·rw [List.foldl_cons,h2 j (by omega),hold j hj]
   ·intro i o hi
    cases i with
    | zero=>
     simp at hi
     subst hi
     have Xh:(List.foldl lp acc (x :: l)).take (acc.length+0)=acc:=by
      apply List.ext_getElem?
      intro j
      rw [Nat.add_zero,List.getElem?_take]
      split
      ·rename_i hj
       rw [List.foldl_cons,h2 j (by omega),hold j hj]
      ·rename_i hj
       rw [List.getElem?_eq_none (by omega)]
     rw [Xh]
     rw [Nat.add_zero,List.foldl_cons,h2 _ (by omega)]
     simp only [lp]
     rw [List.getElem?_append_right (Nat.le_refl _)]
     simp
    | succ i=>
     have:=h3 i o (by simpa using hi)
     rw [hl] at this
     rw [List.foldl_cons]
     rw [show acc.length+(i+1)=acc.length+1+i by omega]
     exact this
 intro i o hi
 have:=(key l []).2.2 i o hi
 simpa [b9] using this
theorem AL (l:LO) (hb:∀ (i:Nat) (o:Oper),l[i]? = some o→∀ e∈o.after.toList.filter (Region.binds .any),e.on < i) :
  ∀ (i j:Nat),j∈(b9 l).getD i []→j < i∧∃ o,l[i]? = some o∧∃ e∈o.after.toList.filter (Region.binds .any),j=e.on∨j∈(b9 l).getD e.on []:=by
 intro i j hj
 cases ho:l[i]? with
 | none=>
  have hlen:(b9 l).length=l.length:=by
   have:∀ (l:LO) (acc:LL),(l.foldl lp acc).length=acc.length+l.length:=by
    intro l
    induction l with
    | nil=>intro acc; rfl
    | cons x l ih=>intro acc; rw [List.foldl_cons,ih]; simp [lp]; omega
   simpa [b9] using this l []
  rw [List.getD_eq_getElem?_getD,List.getElem?_eq_none (by rw [hlen]; exact List.getElem?_eq_none_iff.1 ho)] at hj
  simp at hj
 | some o=>
  have h:=zE l i o ho
  rw [List.getD_eq_getElem?_getD,h] at hj
  simp only [Option.getD_some,List.mem_flatMap,List.mem_cons] at hj
  obtain ⟨e,he,hj⟩:=hj
  have bh:=hb i o ho e he
  have Uq:((b9 l).take i).getD e.on []=(b9 l).getD e.on []:=by
   rw [List.getD_eq_getElem?_getD,List.getD_eq_getElem?_getD,List.getElem?_take,if_pos bh]
  rw [Uq] at hj
  refine ⟨?_,o,rfl,e,he,hj⟩
  rcases hj with rfl | hj
  ·exact bh
  ·-- by the strong law below
   have:∀ (k i:Nat),i≤k→∀ j∈(b9 l).getD i [],j < i:=by
    intro k
    induction k with
    | zero=>
     intro i hi j hj
     obtain rfl:i=0:=by omega
     cases ho:l[0]? with
     | none=>
      obtain rfl:l=[]:=by cases l with | nil=>rfl | cons=>simp at ho
      simp [b9] at hj
     | some o=>
      have h:=zE l 0 o ho
      rw [List.getD_eq_getElem?_getD,h] at hj
      simp only [Option.getD_some,List.mem_flatMap] at hj
      obtain ⟨e,he,_⟩:=hj
      exact absurd (hb 0 o ho e he) (Nat.not_lt_zero _)
    | succ k ih=>
     intro i hi j hj
     cases ho:l[i]? with
     | none=>
      have hlen:(b9 l).length=l.length:=by
       have:∀ (l:LO) (acc:LL),(l.foldl lp acc).length=acc.length+l.length:=by
        intro l
        induction l with
        | nil=>intro acc; rfl
        | cons x l ih=>intro acc; rw [List.foldl_cons,ih]; simp [lp]; omega
       simpa [b9] using this l []
      rw [List.getD_eq_getElem?_getD,List.getElem?_eq_none (by rw [hlen]; exact List.getElem?_eq_none_iff.1 ho)] at hj
      simp at hj
     | some o=>
      have h:=zE l i o ho
      rw [List.getD_eq_getElem?_getD,h] at hj
      simp only [Option.getD_some,List.mem_flatMap,List.mem_cons] at hj
      obtain ⟨e,he,hj⟩:=hj
      have bh:=hb i o ho e he
      rcases hj with rfl | hj
      ·exact bh
      ·have Uq:((b9 l).take i).getD e.on []=(b9 l).getD e.on []:=by
        rw [List.getD_eq_getElem?_getD,List.getD_eq_getElem?_getD,List.getElem?_take,if_pos bh]
       rw [Uq] at hj
       have:=ih e.on (by omega) j hj
       omega
   exact Nat.lt_trans (this e.on e.on (Nat.le_refl _) j hj) bh
theorem C3 (l:LO) (hb:∀ (i:Nat) (o:Oper),l[i]? = some o→∀ e∈o.after.toList.filter (Region.binds .any),e.on < i) {j k:Nat} (hj:j∈(b9 l).getD k []):∀ {i:Nat},k∈(b9 l).getD i []→j∈(b9 l).getD i []:=by
 intro i
 induction i using Nat.strongRecOn with
 | _ i ih=>
  intro hk
  obtain ⟨_,o,ho,e,he,Ur⟩:=AL l hb i k hk
  have bh:=hb i o ho e he
  have h2:j∈(b9 l).getD e.on []:=Ur.elim (fun h=>h ▸ hj) (fun h=>ih e.on bh h)
  have h:=zE l i o ho
  rw [List.getD_eq_getElem?_getD,h]
  simp only [Option.getD_some,List.mem_flatMap,List.mem_cons]
  refine ⟨e,he,.inr ?_⟩
  rw [List.getD_eq_getElem?_getD,List.getElem?_take,if_pos bh,← List.getD_eq_getElem?_getD]
  exact h2
theorem getD_both {GZ:Array Bool} {i:Nat} (h:GZ.getD i true=false):GZ.getD i false=false:=by
 rcases Nat.lt_or_ge i GZ.size with h' | h'
 ·simp [h'] at h ⊢; exact h
 ·simp [Array.getElem?_eq_none h'] at h
theorem getD_replicate_false (m j:Nat):(Array.replicate m false).getD j false=false:=by
 rcases Nat.lt_or_ge j m with h | h
 ·simp [h]
 ·simp [h]
theorem EY:∀ (l:LO),(l.filterMap (·.dst)).Nodup→∀ i j d,bw l i=some d→bw l j=some d→i=j:=by
 intro l
 induction l with
 | nil=>intro _ i j d h; simp [bw] at h
 | cons o l ih=>
  intro hn i j d hi hj
  have J8:∀ k,bw (o :: l) (k+1)=some d→d∈l.filterMap (·.dst):=by
   intro k hk
   simp only [bw,List.getElem?_cons_succ] at hk
   cases ho:l[k]? with
   | none=>rw [ho] at hk; cases hk
   | some x=>rw [ho] at hk; exact List.mem_filterMap.2 ⟨x,List.mem_of_getElem? ho,hk⟩
  have h0:∀ e,o.dst=some e→e ∉ l.filterMap (·.dst)∧(l.filterMap (·.dst)).Nodup:=by
   intro e he
   rw [List.filterMap_cons_some he] at hn
   exact List.nodup_cons.1 hn
  have vG:(l.filterMap (·.dst)).Nodup:=by
   cases hd:o.dst with
   | none=>rwa [List.filterMap_cons_none hd] at hn
   | some e=>exact (h0 e hd).2
  cases i with
  | zero=>
   cases j with
   | zero=>rfl
   | succ j=>exact absurd (J8 j hj) (h0 d (by simpa [bw] using hi)).1
  | succ i=>
   cases j with
   | zero=>exact absurd (J8 i hi) (h0 d (by simpa [bw] using hj)).1
   | succ j=>rw [ih vG i j d (by simpa [bw] using hi) (by simpa [bw] using hj)]
theorem jz {m j:Nat} (hj:j < m):bw (l.take m) j=bw l j:=by
 unfold bw
 rw [List.getElem?_take,if_pos hj]
theorem rj {o:Oper} {r:NV} {w:World} {K K':Value→World→Prop} (h:gf P o r w K) (hk:∀ v w',K v w'→K' v w'):gf P o r w K':=by
 unfold gf at h ⊢
 cases hr:(execOp (ev r) o).run P w with
 | ok x w'=>
  rw [hr] at h
  cases x with
  | value v=>exact hk _ _ h
  | skip=>exact hk _ _ h
  | enter f args=>exact h.mono fun e EK ⟨v,he,hv⟩=>⟨v,he,hk _ _ hv⟩
  | _=>exact h
 | _=>rw [hr] at h; exact h.elim
theorem LA {m:Nat} {Z:LN} (h:zw l m Z=true):∀ (i:Nat) (o:Oper),l[i]? = some o→∀ e∈o.after.toList.filter (Region.binds .any),e.on < i:=by
 simp only [zw,Bool.and_eq_true,List.all_eq_true,List.mem_range] at h
 intro i o ho e he
 have hi:i < l.length:=(List.getElem?_eq_some_iff.1 ho).1
 have:=h.1.1 i hi e (by rw [List.getD_eq_getElem?_getD,ho]; exact he)
 exact Nat.lt_of_succ_le (Nat.le_of_ble_eq_true this)
theorem TG {m:Nat} {U:LL} {Z H:LN} {N:Nat→Prop} (hd:di n l=true) (hA:zw l m Z=true) (hZ:GD l m Z=true) (hp:∀ c r w,Q (.panic c) r w→False) (EX:m≤l.length)
  (hS:S.length=m)
  (hH:∀ b∈H,b < w0.heap.size) (hU:((List.range m).all fun i=>(U.getD i []).all fun u=>Nat.beq u l.length || ((b9 l).getD i []).contains u)=true)
  (hN:∀ b,N b→b < w0.heap.size∧b ∉ H)
  (qt:∀ (i:Nat) (s:fv),S[i]? = some s→∀ f F (w w':World) (r r':NV) v,an F w w'→(∀ b∈f,b ∉ F)→(∀ b∈F,¬ N b)→(∀ j∈(b9 l).getD i [],∀ t,bw l j=some t→r' t=r t)→s.V f w r v→s.V f w' r' v)
  (N5:∀ i,i < m→jx P l m S U r0 w0 H i)
  (next:∀ g r w,wY l m S U r0 w0 H (fun j=>j < m) g r w→WL P l (l.drop m) r w (Q .normal)) :
  nm P n l Q r0 w0:=by
 simp only [zw,Bool.and_eq_true,List.all_eq_true,List.mem_range,Bool.or_eq_true] at hA
 obtain ⟨⟨TR,TS⟩,TU⟩:=hA
 have wC:∀ (i:Nat) (o:Oper),l[i]? = some o→∀ e∈o.after.toList.filter (Region.binds .any),e.on < i:=by
  intro i o ho e he
  have hi:i < l.length:=(List.getElem?_eq_some_iff.1 ho).1
  have:=TR i hi e (by rw [List.getD_eq_getElem?_getD,ho]; exact he)
  exact Nat.lt_of_succ_le (Nat.le_of_ble_eq_true this)
 have Ea:∀ i,m≤i→i < l.length→∀ j,j < i→j∈(b9 l).getD i []∨j∈Z:=by
  intro i h1 h2 j hj
  rcases TS i h2 with h | h
  ·exact absurd (Nat.lt_of_succ_le (Nat.le_of_ble_eq_true h)) (Nat.not_lt.2 h1)
  ·have:=h j hj
   simpa using this
 simp only [GD,Bool.and_eq_true,List.all_eq_true] at hZ
 obtain ⟨Qu,hZ⟩:=hZ
 have Us:∀ z∈Z,z < m:=fun z hz=>Nat.lt_of_succ_le (Nat.le_of_ble_eq_true (hZ z hz).1.1)
 have TV:∀ i,i < m→∀ u∈U.getD i [],u=l.length∨u∈(b9 l).getD i []:=by
  intro i hi u hu
  simp only [List.all_eq_true,List.mem_range] at hU
  have:=hU i hi u hu
  simpa using this
 have dt:=EY _ (yn TU)
 have p4:=AL l wC
 intro a h1 h2 h3
 let Cl (L:Array Bool):Prop:=L.size=l.length∧∀ j o,l[j]? = some o→L.getD j false=true→∀ e∈o.after.toList.filter (Region.binds .any),L.getD e.on false=true
 have iv:∀ L,Cl L→∀ i j,(∀ o,l[i]? = some o→∀ e∈o.after.toList.filter (Region.binds .any),L.getD e.on false=true)→j∈(b9 l).getD i []→L.getD j false=true:=by
  intro L hL i
  induction i using Nat.strongRecOn with
  | _ i ih=>
   intro j hi hj
   obtain ⟨_,o,ho,e,he,GJ⟩:=p4 i j hj
   have hl:=hi o ho e he
   rcases GJ with rfl | GJ
   ·exact hl
   ·exact ih e.on (wC i o ho e he) j (fun o' cc e' tY=>hL.2 _ _ cc hl e' tY) GJ
 have B9:∀ L i,i∈Region.ready .any l.toArray L→L.getD i true=false∧∃ o,l[i]? = some o∧∀ e∈o.after.toList.filter (Region.binds .any),L.getD e.on false=true:=by
  intro L i hi
  obtain ⟨g1,o,ho,dx⟩:=mem_ready.1 hi
  refine ⟨g1,o,by simpa using ho,fun e he=>?_⟩
  have:=List.mem_filter.1 he
  exact dx e (by simpa using this.1) this.2
 have C6:∀ L i o,L.size=l.length→l[i]? = some o→L.getD i false=false→(∀ e∈o.after.toList.filter (Region.binds .any),L.getD e.on false=true)→i∈Region.ready .any l.toArray L:=by
  intro L i o hs ho hu dx
  refine mem_ready.2 ⟨?_,o,by simpa using ho,fun e he hb=>dx e (List.mem_filter.2 ⟨by simpa using he,hb⟩)⟩
  have hi:i < L.size:=by rw [hs]; exact (List.getElem?_eq_some_iff.1 ho).1
  simp [hi] at hu ⊢; exact hu
 have Fz:∀ L i o,Cl L→l[i]? = some o→(∀ e∈o.after.toList.filter (Region.binds .any),L.getD e.on false=true)→Cl (L.setIfInBounds i true):=by
  intro L i o hL ho dx
  refine ⟨by rw [Array.size_setIfInBounds]; exact hL.1,fun j o' cc hj e he=>?_⟩
  by_cases uZ:i=j
  ·subst uZ
   have:o'=o:=Option.some.inj (cc.symm.trans ho)
   subst this
   exact getD_set_true (dx e he)
  ·rw [getD_set_ne false uZ] at hj
   exact getD_set_true (hL.2 j o' cc hj e he)
 have getSet:∀ (L:Array Bool) i j,L.size=l.length→i < l.length→((L.setIfInBounds i true).getD j false=true↔j=i∨L.getD j false=true):=by
  intro L i j hs hi
  by_cases uZ:i=j
  ·subst uZ
   simp [hs,hi]
  ·rw [getD_set_ne false uZ]
   constructor
   ·exact .inr
   ·rintro (h | h)
    ·exact absurd h.symm uZ
    ·exact h
 have GK:∀ (L:Array Bool) i,L.size=l.length→i < l.length→L.getD i false=false→(L.setIfInBounds i true).toList.count false+1=L.toList.count false:=by
  intro L i hs hi hu
  have tU:i < L.toList.length:=by simpa [hs] using hi
  have Ca:L.toList[i]=false:=by
   rw [Array.getElem_toList]
   simp [hs,hi] at hu
   exact hu
  rw [Array.toList_setIfInBounds,List.count_set tU,Ca]
  have:0 < L.toList.count false:=List.count_pos_iff.2 (by rw [← Ca]; exact List.getElem_mem tU)
  rw [if_pos (by rfl),if_neg (by decide)]
  omega
 have tail:∀ (d k fuel:Nat) (L:Array Bool) (a:Act) (w:World),l.length - k=d→m≤k→k≤l.length→Cl L→(∀ j,L.getD j false=true↔j < k)→L.toList.count false≤fuel→a.tmps.size=n→a.defers=[]→
   WL P l (l.drop k) (ch a) w (Q .normal)→wpAny P .any l.toArray (fun e a' w'=>a'.tmps.size=n∧a'.defers=[]∧Q e (ch a') w') fuel L a w:=by
  intro d
  induction d with
  | zero=>
   intro k fuel L a w hk hmk CZ hL gu hf g1 g2 hW
   obtain rfl:k=l.length:=by omega
   rw [List.drop_length] at hW
   have sd:Region.ready .any l.toArray L=[]:=by
    apply List.eq_nil_iff_forall_not_mem.2
    intro i hi
    obtain ⟨q1,o,ho,_⟩:=B9 L i hi
    have bh:i < l.length:=(List.getElem?_eq_some_iff.1 ho).1
    have:=(gu i).2 bh
    simp [hL.1,bh] at q1 this
    rw [q1] at this; cases this
   cases fuel with
   | zero=>exact ⟨sd,g1,g2,hW⟩
   | succ fuel=>exact ⟨fun _=>⟨g1,g2,hW⟩,fun i hi=>by rw [sd] at hi; cases hi⟩
  | succ d ih=>
   intro k fuel L a w hk hmk CZ hL gu hf g1 g2 hW
   have J9:k < l.length:=by omega
   obtain ⟨o,ho⟩ : ∃ o,l[k]? = some o:=⟨l[k],List.getElem?_eq_getElem J9⟩
   have Ut:L.getD k false=false:=by
    cases hb:L.getD k false with
    | false=>rfl
    | true=>exact absurd ((gu k).1 hb) (Nat.lt_irrefl _)
   have nu:k∈Region.ready .any l.toArray L:=C6 L k o hL.1 ho Ut fun e he=>(gu _).2 (wC k o ho e he)
   have Xi:l.drop k=o :: l.drop (k+1):=by rw [List.drop_eq_getElem_cons J9]; congr 1; exact Option.some.inj ((List.getElem?_eq_getElem J9).symm.trans ho)
   rw [Xi] at hW
   have hc:=GK L k hL.1 J9 Ut
   cases fuel with
   | zero=>omega
   | succ fuel=>
    refine ⟨fun h=>(by rw [h] at nu; cases nu),fun i hi=>?_⟩
    obtain ⟨q1,oi,mh,dx⟩:=B9 L i hi
    have fc:i < l.length:=(List.getElem?_eq_some_iff.1 mh).1
    have uF:L.getD i false=false:=getD_both q1
    have hik:i=k:=by
     rcases Nat.lt_trichotomy i k with h | h | h
     ·have:=(gu i).2 h; rw [uF] at this; cases this
     ·exact h
     ·have:=iv L hL i k (fun o' cc=>by have:o'=oi:=Option.some.inj (cc.symm.trans mh); subst this; exact dx) ((Ea i (by omega) fc k h).resolve_right fun hz=>absurd (Us k hz) (by omega))
      rw [Ut] at this; cases this
    subst hik
    have LM:oi=o:=Option.some.inj (mh.symm.trans ho)
    subst LM
    have E2:∀ k',oi.dst=some k'→k' < a.tmps.size:=by
     intro k' Az
     have uY:oi∈l:=List.mem_of_getElem? mh
     simp only [di,List.all_eq_true] at hd
     have:=hd oi uY
     rw [Az] at this
     rw [g1]
     exact Nat.lt_of_succ_le (Nat.le_of_ble_eq_true this)
    have Cb:=Fz L i oi hL mh dx
    have zC:∀ j,(L.setIfInBounds i true).getD j false=true↔j < i+1:=by
     intro j
     rw [getSet L i j hL.1 fc,gu j]
     omega
    unfold wpOp
    rw [show (l.toArray)[i]? = some oi by simpa using mh]
    simp only []
    rw [zB (by rw [g1]; exact hd)]
    rcases hW with ⟨hw,hW⟩ | ⟨hw,hW⟩
    ·rw [if_pos hw]
     exact .inl (hW.wp fun v w' hv=>ih (i+1) fuel _ _ _ (by omega) (by omega) (by omega) Cb zC (by omega) (by rw [jq]; exact g1) (by rw [gw]; exact g2) (by rw [kp E2]; exact hv))
    ·rw [if_neg (by rw [hw]; exact Bool.false_ne_true)]
     exact ih (i+1) fuel _ _ _ (by omega) (by omega) (by omega) Cb zC (by omega) (by rw [jq]; exact g1) (by rw [gw]; exact g2) (by rw [kp E2]; exact hW)
 have head:∀ (fuel:Nat) (L:Array Bool) (a:Act) (w:World) (g:Nat→List Nat),Cl L→(∀ j,L.getD j false=true→j < m)→L.toList.count false≤fuel→a.tmps.size=n→a.defers=[]→
   wY l m S U r0 w0 H (fun j=>L.getD j false=true) g (ch a) w→wpAny P .any l.toArray (fun e a' w'=>a'.tmps.size=n∧a'.defers=[]∧Q e (ch a') w') fuel L a w:=by
  intro fuel
  induction fuel with
  | zero=>
   intro L a w g hL uD hf g1 g2 inv
   have dx:∀ j,j < l.length→L.getD j false=true:=by
    intro j hj
    cases hb:L.getD j false with
    | true=>rfl
    | false=>have:=GK L j hL.1 hj hb; omega
   have gu:∀ j,L.getD j false=true↔j < m:=fun j=>⟨uD j,fun h=>dx j (by omega)⟩
   refine tail _ m 0 L a w rfl (Nat.le_refl _) EX hL gu hf g1 g2 (next g _ _ ?_)
   exact ⟨inv.j9,fun hk=>inv.AN fun k wZ=>hk k ((gu k).1 wZ),inv.vg,fun j hj=>inv.vd j ((gu j).2 hj),fun j hj hk=>inv.done j ((gu j).2 hj) (fun k wZ=>hk k ((gu k).1 wZ)),fun j hj=>inv.tc j ((gu j).2 hj),inv.other,fun j hj b hb=>⟨(inv.fresh j ((gu j).2 hj) b hb).1.imp (fun h=>h) fun h=>⟨h.1,h.2.imp fun k hk=>⟨(gu k).1 hk.1,hk.2⟩⟩,(inv.fresh j ((gu j).2 hj) b hb).2⟩,fun i j hi hj=>inv.wq i j ((gu i).2 hi) ((gu j).2 hj)⟩
  | succ fuel ih=>
   intro L a w g hL uD hf g1 g2 inv
   by_cases dx:∀ j,j < m→L.getD j false=true
   ·have gu:∀ j,L.getD j false=true↔j < m:=fun j=>⟨uD j,dx j⟩
    refine tail _ m _ L a w rfl (Nat.le_refl _) EX hL gu hf g1 g2 (next g _ _ ?_)
    exact ⟨inv.j9,fun hk=>inv.AN fun k wZ=>hk k ((gu k).1 wZ),inv.vg,fun j hj=>inv.vd j ((gu j).2 hj),fun j hj hk=>inv.done j ((gu j).2 hj) (fun k wZ=>hk k ((gu k).1 wZ)),fun j hj=>inv.tc j ((gu j).2 hj),inv.other,fun j hj b hb=>⟨(inv.fresh j ((gu j).2 hj) b hb).1.imp (fun h=>h) fun h=>⟨h.1,h.2.imp fun k hk=>⟨(gu k).1 hk.1,hk.2⟩⟩,(inv.fresh j ((gu j).2 hj) b hb).2⟩,fun i j hi hj=>inv.wq i j ((gu i).2 hi) ((gu j).2 hj)⟩
   ·obtain ⟨j0,Qv,EZ⟩ : ∃ j,j < m∧L.getD j false=false:=by
     apply Classical.byContradiction
     intro sd
     apply dx
     intro j hj
     cases hb:L.getD j false with
     | true=>rfl
     | false=>exact absurd ⟨j,hj,hb⟩ sd
    have JT:∃ i,i∈Region.ready .any l.toArray L:=by
     have:∀ k,(∃ j,j < k∧j < m∧L.getD j false=false)→∃ i,i∈Region.ready .any l.toArray L:=by
      intro k
      induction k with
      | zero=>rintro ⟨j,h,_⟩; omega
      | succ k CW=>
       rintro ⟨j,LF,AO,se⟩
       by_cases Cv:∃ j,j < k∧j < m∧L.getD j false=false
       ·exact CW Cv
       ·obtain rfl:j=k:=by
         apply Classical.byContradiction
         intro h
         exact Cv ⟨j,by omega,AO,se⟩
        have E0:j < l.length:=by omega
        refine ⟨j,C6 L j l[j] hL.1 (List.getElem?_eq_getElem E0) se fun e he=>?_⟩
        have bh:=wC j _ (List.getElem?_eq_getElem E0) e he
        cases hb:L.getD e.on false with
        | true=>rfl
        | false=>exact absurd ⟨e.on,bh,by omega,hb⟩ Cv
     exact this (j0+1) ⟨j0,by omega,Qv,EZ⟩
    have main:∀ i oi,i < m→l[i]? = some oi→L.getD i false=false→(∀ e∈oi.after.toList.filter (Region.binds .any),L.getD e.on false=true)→
      (Region.wanted oi (yl l (ch a))=true∧gf P oi (ch a) w fun v w'=>wpAny P .any l.toArray (fun e a' w'=>a'.tmps.size=n∧a'.defers=[]∧Q e (ch a') w') fuel (L.setIfInBounds i true) (a.put oi.dst v) w')∨
      (Region.wanted oi (yl l (ch a))=false∧wpAny P .any l.toArray (fun e a' w'=>a'.tmps.size=n∧a'.defers=[]∧Q e (ch a') w') fuel (L.setIfInBounds i true) (a.put oi.dst undef) w):=by
     intro i oi uE mh uF uG
     have fc:i < l.length:=(List.getElem?_eq_some_iff.1 mh).1
     have l9:∀ o,l[i]? = some o→∀ e∈o.after.toList.filter (Region.binds .any),L.getD e.on false=true:=fun o' cc=>by
      have:o'=oi:=Option.some.inj (cc.symm.trans mh)
      subst this; exact uG
     obtain ⟨s,hs⟩ : ∃ s,S[i]? = some s:=⟨S[i]'(by omega),List.getElem?_eq_getElem (by omega)⟩
     have hc:=GK L i hL.1 fc uF
     have Cb:=Fz L i oi hL mh uG
     have TX:∀ j,(L.setIfInBounds i true).getD j false=true→j < m:=by
      intro j hj
      rcases (getSet L i j hL.1 fc).1 hj with rfl | hj
      ·exact uE
      ·exact uD j hj
     have C7:∀ k,L.getD k false=true→k≠i∧i ∉ (b9 l).getD k []:=by
      intro k hk
      refine ⟨fun h=>(by rw [h,uF] at hk; cases hk),fun uY=>?_⟩
      have:=iv L hL k i (fun o' cc e' tY=>hL.2 k o' cc hk e' tY) uY
      rw [uF] at this; cases this
     have ow:=N5 i uE oi s mh hs g (ch a) w inv.j9 (fun hV=>by
       have sd:∀ k,L.getD k false=true→l.length ∉ U.getD k []:=fun k hk GL=>by
        simp only [zu,List.all_eq_true,List.mem_range,Bool.or_eq_true,Bool.not_eq_true',List.contains_eq_mem,decide_eq_false_iff_not,decide_eq_true_eq] at hV
        rcases hV k (uD k hk) with (h | h) | h
        ·exact h GL
        ·exact (C7 k hk).1 (Nat.eq_of_beq_eq_true h)
        ·exact (C7 k hk).2 h
       have h0:=inv.AN sd
       exact ⟨h0.1,h0.2,fun j hj b hb=>(inv.fresh j (iv L hL i j l9 hj) b hb).1.elim (fun h=>h) fun h=>absurd h.2.choose_spec.2 (sd _ h.2.choose_spec.1)⟩) (fun j hj=>inv.tc j (iv L hL i j l9 hj)) (fun j hj=>by
       simp only [tF,Bool.and_eq_true,List.all_eq_true,List.mem_range,Bool.or_eq_true,Bool.not_eq_true',List.contains_eq_mem,decide_eq_false_iff_not,decide_eq_true_eq] at hj
       refine inv.done j (iv L hL i j l9 hj.1) fun k hk LF=>?_
       rcases hj.2 k (uD k hk) with (h | h) | h
       ·exact h LF
       ·exact (C7 k hk).1 (Nat.eq_of_beq_eq_true h)
       ·exact (C7 k hk).2 h) inv.other
      (fun i' tU j' gx=>inv.wq i' j' (iv L hL i i' l9 tU) (iv L hL i j' l9 gx))
      (fun j hj b hb=>⟨(inv.fresh j (iv L hL i j l9 hj) b hb).1.imp (fun h=>h) (·.1),(inv.fresh j (iv L hL i j l9 hj) b hb).2⟩)
     have hblk:∀ b∈qo g (U.getD i []),(∃ u,u∈U.getD i []∧L.getD u false=true∧b∈g u)∨(l.length∈U.getD i []∧b∈g l.length):=by
      intro b hb
      obtain ⟨u,hu,fk⟩:=List.mem_flatMap.1 hb
      rcases TV i uE u hu with rfl | h
      ·exact .inr ⟨hu,fk⟩
      ·exact .inl ⟨u,hu,iv L hL i u l9 h,fk⟩
     have E2:∀ k',oi.dst=some k'→k' < a.tmps.size:=by
      intro k' Az
      have uY:oi∈l:=List.mem_of_getElem? mh
      simp only [di,List.all_eq_true] at hd
      have:=hd oi uY
      rw [Az] at this
      rw [g1]
      exact Nat.lt_of_succ_le (Nat.le_of_ble_eq_true this)
     have yE:bw l i=oi.dst:=by unfold bw; rw [mh]; rfl
     have qd:∀ v t,(oi.dst≠some t)→ch (a.put oi.dst v) t=ch a t:=by
      intro v t ht
      rw [kp E2]
      cases w3:oi.dst with
      | none=>rfl
      | some d=>
       show (bif Nat.beq t d then v else ch a t)=ch a t
       cases hb:Nat.beq t d with
       | false=>rfl
       | true=>exact absurd (by rw [w3,Nat.eq_of_beq_eq_true hb]) ht
     have GM:∀ v d,oi.dst=some d→ch (a.put oi.dst v) d=v:=by
      intro v d w3
      rw [kp E2,w3]
      show (bif Nat.beq d d then v else ch a d)=v
      rw [Nat.beq_refl]; rfl
     have step:∀ v w' f,an (qo g (U.getD i [])) w w'→(∀ b∈f,(b∈qo g (U.getD i [])∨w.heap.size≤b)∧b < w'.heap.size)→(if s.b then s.V f w' (ch a) v else v=undef)→
       wpAny P .any l.toArray (fun e a' w'=>a'.tmps.size=n∧a'.defers=[]∧Q e (ch a') w') fuel (L.setIfInBounds i true) (a.put oi.dst v) w':=by
      intro v w' f hC wW hV
      have s8:∀ j',j' < m→j'≠i→∀ t,bw l j'=some t→ch (a.put oi.dst v) t=ch a t:=by
       intro j' gx qc t ht
       refine qd v t fun h=>qc (dt j' i t ?_ ?_)
       ·rw [jz gx]; exact ht
       ·rw [jz uE,yE]; exact h
      have LG:∀ b∈qo g (U.getD i []),¬ N b:=fun b hb hn=>by
       rcases hblk b hb with ⟨u,_,oh,fk⟩ | ⟨_,fk⟩
       ·rcases (inv.fresh u oh b fk).1 with h | h
        ·have:=(hN b hn).1; omega
        ·exact (hN b hn).2 h.1
       ·exact (hN b hn).2 (inv.vg b fk)
      refine ih _ _ _ (fun j=>if j=i then f else if j∈U.getD i [] then [] else g j) Cb TX (by omega) (by rw [jq]; exact g1) (by rw [gw]; exact g2)
       ⟨inv.j9.then hC fun b hb=>(by
        rcases hblk b hb with ⟨u,_,oh,fk⟩ | ⟨_,fk⟩
        ·exact (inv.fresh u oh b fk).1.elim .inr fun h=>.inl h.1
        ·exact .inl (inv.vg b fk)),fun sd=>?_,?_,fun j hj=>?_,?_,fun j hj d tX sj r5=>?_,?_,?_,?_⟩
      ·have vJ:l.length ∉ U.getD i []:=sd i ((getSet L i i hL.1 fc).2 (.inl rfl))
       have h0:=inv.AN fun k hk=>sd k ((getSet L i k hL.1 fc).2 (.inr hk))
       refine ⟨h0.1.then hC fun b hb=>?_,?_⟩
       ·rcases hblk b hb with ⟨u,_,oh,fk⟩ | ⟨h,_⟩
        ·exact (inv.fresh u oh b fk).1.elim .inr fun ⟨_,k,hk,GL⟩=>absurd GL (sd k ((getSet L i k hL.1 fc).2 (.inr hk)))
        ·exact absurd h vJ
       ·show (if l.length=i then f else if l.length∈U.getD i [] then [] else g l.length)=H
        rw [if_neg (by omega),if_neg vJ]
        exact h0.2
      ·intro b hb
       have cg:b∈(if l.length=i then f else if l.length∈U.getD i [] then [] else g l.length):=hb
       rw [if_neg (by omega)] at cg
       split at cg
       ·cases cg
       ·exact inv.vg b cg
      ·intro b hb hv
       have nt:b∈(if l.length=i then f else if l.length∈U.getD i [] then [] else g l.length):=hv
       rw [if_neg (by omega)] at nt
       split at nt
       ·cases nt
       ·rename_i TY
        have cg:b∈(if j=i then f else if j∈U.getD i [] then [] else g j):=hb
        split at cg
        ·rcases (wW b cg).1 with h | h
         ·rcases hblk b h with ⟨u,_,oh,fk⟩ | ⟨h,_⟩
          ·exact inv.vd u oh b fk nt
          ·exact TY h
         ·have h1:=hH b (inv.vg b nt)
          have h2:=inv.j9.size
          omega
        ·rename_i j4
         split at cg
         ·cases cg
         ·exact inv.vd j (((getSet L i j hL.1 fc).1 hj).resolve_left j4) b cg nt
      ·intro j hj sf
       refine ⟨fun d tX=>?_,fun TZ sj r5 LH=>?_⟩
       rotate_left
       ·by_cases j4:j=i
        ·subst j4
         rw [hs] at r5
         cases r5
         rw [if_pos LH] at hV
         refine ⟨v,?_⟩
         simp only [if_pos]
         exact qt j s hs _ [] w' w' (ch a) _ v (an.refl _ _) (fun _ _ h=>nomatch h) (fun _ h=>nomatch h) (fun j' gx t ht=>s8 j' (by have:=(p4 j j' gx).1; omega) (by have:=(p4 j j' gx).1; omega) t ht) hV
        ·have ma:=((getSet L i j hL.1 fc).1 hj).resolve_left j4
         have se:j ∉ U.getD i []:=sf i ((getSet L i i hL.1 fc).2 (.inl rfl))
         obtain ⟨x,hx⟩:=(inv.done j ma (fun k hk=>sf k ((getSet L i k hL.1 fc).2 (.inr hk)))).2 TZ sj r5 LH
         have l7:(fun j=>if j=i then f else if j∈U.getD i [] then [] else g j) j=g j:=by
          show (if j=i then f else if j∈U.getD i [] then [] else g j)=g j
          rw [if_neg j4,if_neg se]
         rw [l7]
         refine ⟨x,qt j sj r5 _ _ _ _ (ch a) _ _ hC (fun b cg GN=>?_) LG (fun j' gx t ht=>s8 j' (by have:=(p4 j j' gx).1; have:=uD j ma; omega) (fun h=>?_) t ht) hx⟩
         ·rcases hblk b GN with ⟨u,AP,oh,fk⟩ | ⟨_,fk⟩
          ·exact inv.wq j u ma oh (fun h=>se (h ▸ AP)) b cg fk
          ·exact inv.vd j ma b cg fk
         ·subst h
          have:=iv L hL j j' (fun o' cc e' tY=>hL.2 j o' cc ma e' tY) gx
          rw [uF] at this; cases this
       by_cases j4:j=i
       ·subst j4
        rw [hs]
        simp only [if_pos]
        rw [yE] at tX
        rw [GM v d tX]
        split
        ·rename_i hb
         rw [if_pos hb] at hV
         exact qt j s hs _ [] w' w' (ch a) _ v (an.refl _ _) (fun _ _ h=>nomatch h) (fun _ h=>nomatch h) (fun j' gx t ht=>s8 j' (by have:=(p4 j j' gx).1; omega) (by have:=(p4 j j' gx).1; omega) t ht) hV
        ·rename_i hb
         rw [if_neg hb] at hV
         exact hV
       ·have ma:=((getSet L i j hL.1 fc).1 hj).resolve_left j4
        have AO:=uD j ma
        have se:j ∉ U.getD i []:=sf i ((getSet L i i hL.1 fc).2 (.inl rfl))
        have w3:oi.dst≠some d:=by
         intro h
         apply j4
         refine dt j i d ?_ ?_
         ·rw [jz AO]; exact tX
         ·rw [jz uE,yE]; exact h
        have:=(inv.done j ma (fun k hk=>sf k ((getSet L i k hL.1 fc).2 (.inr hk)))).1 d tX
        rw [qd v d w3]
        have l7:(fun j=>if j=i then f else if j∈U.getD i [] then [] else g j) j=g j:=by
         show (if j=i then f else if j∈U.getD i [] then [] else g j)=g j
         rw [if_neg j4,if_neg se]
        rw [l7]
        cases r5:S[j]? with
        | none=>trivial
        | some sj=>
         rw [r5] at this
         simp only [] at this ⊢
         split
         ·rename_i hb
          rw [if_pos hb] at this
          refine qt j sj r5 _ _ _ _ (ch a) _ _ hC (fun b cg GN=>?_) LG (fun j' gx t ht=>s8 j' (by have:=(p4 j j' gx).1; omega) (fun h=>?_) t ht) this
          rotate_left
          ·subst h
           have:=iv L hL j j' (fun o' cc e' tY=>hL.2 j o' cc ma e' tY) gx
           rw [uF] at this; cases this
          rcases hblk b GN with ⟨u,AP,oh,fk⟩ | ⟨_,fk⟩
          ·exact inv.wq j u ma oh (fun h=>se (h ▸ AP)) b cg fk
          ·exact inv.vd j ma b cg fk
         ·rename_i hb
          rw [if_neg hb] at this
          exact this
      ·by_cases j4:j=i
       ·subst j4
        rw [hs] at r5
        cases r5
        rw [yE] at tX
        rw [GM v d tX]
        split
        ·rename_i hb
         rw [if_pos hb] at hV
         exact ⟨f,w',qt j s hs _ [] w' w' (ch a) _ v (an.refl _ _) (fun _ _ h=>nomatch h) (fun _ h=>nomatch h) (fun j' gx t ht=>s8 j' (by have:=(p4 j j' gx).1; omega) (by have:=(p4 j j' gx).1; omega) t ht) hV⟩
        ·rename_i hb
         rw [if_neg hb] at hV
         exact hV
       ·have ma:=((getSet L i j hL.1 fc).1 hj).resolve_left j4
        have AO:=uD j ma
        have w3:oi.dst≠some d:=by
         intro h
         apply j4
         refine dt j i d ?_ ?_
         ·rw [jz AO]; exact tX
         ·rw [jz uE,yE]; exact h
        have:=inv.tc j ma d tX sj r5
        rw [qd v d w3]
        split
        ·rename_i hb
         rw [if_pos hb] at this
         obtain ⟨f1,w1,h1⟩:=this
         refine ⟨f1,w1,qt j sj r5 _ [] w1 w1 (ch a) _ _ (an.refl _ _) (fun _ _ h=>nomatch h) (fun _ h=>nomatch h) (fun j' gx t ht=>s8 j' (by have:=(p4 j j' gx).1; omega) (fun h=>?_) t ht) h1⟩
         subst h
         have:=iv L hL j j' (fun o' cc e' tY=>hL.2 j o' cc ma e' tY) gx
         rw [uF] at this; cases this
        ·rename_i hb
         rw [if_neg hb] at this
         exact this
      ·intro t ht
       rw [qd v t (fun h=>ht i uE (by rw [yE]; exact h))]
       exact inv.other t ht
      ·intro j hj b hb
       by_cases j4:j=i
       ·simp only [if_pos j4] at hb
        have hh:=wW b hb
        have uy:=inv.j9.size
        rcases hh.1 with h | h
        ·rcases hblk b h with ⟨u,_,oh,fk⟩ | ⟨hv,fk⟩
         ·exact ⟨(inv.fresh u oh b fk).1.imp (fun h=>h) fun h=>⟨h.1,h.2.imp fun k hk=>⟨(getSet L i k hL.1 fc).2 (.inr hk.1),hk.2⟩⟩,hh.2⟩
         ·exact ⟨.inr ⟨inv.vg b fk,i,(getSet L i i hL.1 fc).2 (.inl rfl),hv⟩,hh.2⟩
        ·exact ⟨.inl (by omega),hh.2⟩
       ·have ma:=((getSet L i j hL.1 fc).1 hj).resolve_left j4
        simp only [if_neg j4] at hb
        split at hb
        ·cases hb
        ·have h1:=inv.fresh j ma b hb
         have h2:=hC.size
         exact ⟨h1.1.imp (fun h=>h) fun h=>⟨h.1,h.2.imp fun k hk=>⟨(getSet L i k hL.1 fc).2 (.inr hk.1),hk.2⟩⟩,by omega⟩
      ·have w4:∀ j',(L.setIfInBounds i true).getD j' false=true→j'≠i→∀ b∈f,b ∉ (if j'∈U.getD i [] then [] else g j'):=by
        intro j' gx e2 b hb cg
        have GO:=((getSet L i j' hL.1 fc).1 gx).resolve_left e2
        split at cg
        ·cases cg
        ·rename_i se
         rcases (wW b hb).1 with h | h
         ·rcases hblk b h with ⟨u,AP,oh,fk⟩ | ⟨_,fk⟩
          ·exact inv.wq u j' oh GO (fun h=>se (h ▸ AP)) b fk cg
          ·exact inv.vd j' GO b cg fk
         ·have:=inv.fresh j' GO b cg
          omega
       intro i' j' tU gx qc b hb cg
       by_cases e1:i'=i
       ·have e2:j'≠i:=fun h=>qc (e1.trans h.symm)
        simp only [if_pos e1] at hb
        simp only [if_neg e2] at cg
        exact w4 j' gx e2 b hb cg
       ·simp only [if_neg e1] at hb
        by_cases e2:j'=i
        ·simp only [if_pos e2] at cg
         exact w4 i' tU e1 b cg hb
        ·simp only [if_neg e2] at cg
         split at hb
         ·cases hb
         ·split at cg
          ·cases cg
          ·exact inv.wq i' j' (((getSet L i i' hL.1 fc).1 tU).resolve_left e1) (((getSet L i j' hL.1 fc).1 gx).resolve_left e2) qc b hb cg
     cases hb:s.b with
     | true=>
      rw [if_pos hb] at ow
      refine .inl ⟨ow.1,rj ow.2 ?_⟩
      rintro v w' ⟨hC,f,wW,hV⟩
      exact step v w' f hC wW (by rw [if_pos hb]; exact hV)
     | false=>
      rw [if_neg (by rw [hb]; exact Bool.false_ne_true)] at ow
      exact .inr ⟨ow,step undef w [] (an.refl _ _) (fun b h=>nomatch h) (by rw [if_neg (by rw [hb]; exact Bool.false_ne_true)])⟩
    by_cases QC:∃ z,z∈Z∧L.getD z false=false∧∀ o,l[z]? = some o→∀ e∈o.after.toList.filter (Region.binds .any),L.getD e.on false=true
    ·obtain ⟨z,hz,Uu,Yw⟩:=QC
     obtain ⟨⟨hzm,hzf⟩,Mc⟩:=hZ z hz
     cases E7:l[z]? with
     | none=>rw [E7] at Mc; cases Mc
     | some oz=>
      rw [E7] at Mc
      simp only [Bool.and_eq_true] at Mc
      obtain ⟨hmv,E6⟩:=Mc
      have Ou:=Yw oz E7
      have Yx:Region.free .any l.toArray L z=true:=Mb (fun j hj=>iv L hL z j (fun o' cc=>Yw o' cc) hj) hzf
      have Yy:z∈Region.ready .any l.toArray L:=C6 L z oz hL.1 E7 Uu Ou
      obtain ⟨dz,opz,tyz,pz,az,gz⟩:=oz
      cases opz <;> first | exact (Bool.false_ne_true hmv).elim | skip
      case move x=>
       cases gz with
       | some _=>simp at E6
       | none=>
        have hev:∀ w',(execOp a.eval ⟨dz,.move x,tyz,pz,az,none⟩).run P w' = .ok (.value (a.eval x)) w':=fun _=>rfl
        refine wpAny_take (by simpa using E7) Qu Yx (by simpa using Yy) (fun c a w h=>absurd h.2.2 (hp _ _ _)) (v:=a.eval x) (.inl ⟨rfl,hev⟩) ?_
        rcases main z _ (Us z hz) E7 Uu Ou with ⟨_,h⟩ | ⟨h,_⟩
        ·rw [rm]; exact h
        ·exact absurd h (by simp [Region.wanted])
      case extract x k=>
       cases gz with
       | some _=>simp at E6
       | none=>
        rcases main z _ (Us z hz) E7 Uu Ou with ⟨_,h⟩ | ⟨h,_⟩
        ·obtain ⟨v,hv,hk⟩:=Io h
         refine wpAny_take (by simpa using E7) Qu Yx (by simpa using Yy) (fun c a w h=>absurd h.2.2 (hp _ _ _)) (v:=v) (.inl ⟨rfl,fun w'=>by rw [rm]; exact hv w'⟩) ?_
         exact hk
        ·exact absurd h (by simp [Region.wanted])
    refine ⟨fun h=>(by obtain ⟨i,hi⟩:=JT; rw [h] at hi; cases hi),fun i hi=>?_⟩
    obtain ⟨q1,oi,mh,uG⟩:=B9 L i hi
    have fc:i < l.length:=(List.getElem?_eq_some_iff.1 mh).1
    have uF:L.getD i false=false:=getD_both q1
    have uE:i < m:=by
     rcases Nat.lt_or_ge i m with h | h
     ·exact h
     ·have bad:∀ j,j < i→L.getD j false=false→False:=by
       intro j
       induction j using Nat.strongRecOn with
       | _ j ih=>
        intro j4 se
        rcases Ea i h fc j j4 with hj | hj
        ·have:=iv L hL i j (fun o' cc=>by have:o'=oi:=Option.some.inj (cc.symm.trans mh); subst this; exact uG) hj
         rw [se] at this; cases this
        ·refine QC ⟨j,hj,se,fun o ho e he=>?_⟩
         cases hb:L.getD e.on false with
         | true=>rfl
         | false=>have bh:=wC j o ho e he; exact (ih e.on bh (by omega) hb).elim
      exact (bad j0 (by omega) EZ).elim
    unfold wpOp
    rw [show (l.toArray)[i]? = some oi by simpa using mh]
    simp only []
    rw [zB (by rw [g1]; exact hd)]
    rcases main i oi uE mh uF uG with ⟨hw,h⟩ | ⟨hw,h⟩
    ·rw [if_pos hw]
     exact .inl (h.wp fun v w' hv=>hv)
    ·rw [if_neg (by rw [hw]; exact Bool.false_ne_true)]
     exact h
 refine head _ _ a _ (fun j=>if j=l.length then H else []) ⟨by simp,?_⟩ ?_ ?_ h1 h2 ⟨an.nil (an.drew _ _),fun _=>⟨an.drew _ _,by simp⟩,fun b hb=>by simpa using hb,?_,?_,?_,?_,?_,?_⟩
 ·intro j o ho hj
  rw [getD_replicate_false] at hj; cases hj
 ·intro j hj
  rw [getD_replicate_false] at hj; cases hj
 ·simp
 ·intro j hj
  rw [getD_replicate_false] at hj; cases hj
 ·intro j hj
  rw [getD_replicate_false] at hj; cases hj
 ·intro j hj
  rw [getD_replicate_false] at hj; cases hj
 ·intro t _
  rw [h3]
 ·intro j hj
  rw [getD_replicate_false] at hj; cases hj
 ·intro i j hi
  rw [getD_replicate_false] at hi; cases hi
theorem jx.val {m i:Nat} {U:LL} {H:LN} {o:Oper} {v:Value} (ho:l[i]? = some o) (hs:S[i]? = some ⟨true,pl fun _ _ u=>u=v⟩) (hg:o.guard=none)
  (h:∀ (g:Nat→List Nat) (r:NV) (w:World),an H w0 w→(∀ j∈(b9 l).getD i [],Old l S j r)→(∀ j,tF l U m i j=true→wV l S j g r w)→(∀ t,(∀ j,j < m→bw l j≠some t)→r t=r0 t)→
   (execOp (ev r) o).run P w = .ok (.value v) w):jx P l m S U r0 w0 H i:=by
 intro o' s' cc dy g r w hC hV hO hd ly yk qd
 obtain rfl:o=o':=Option.some.inj (ho.symm.trans cc)
 obtain rfl:_=s':=Option.some.inj (hs.symm.trans dy)
 rw [if_pos rfl]
 refine ⟨by unfold Region.wanted; rw [hg],?_⟩
 unfold gf
 rw [h g r w hC hO hd ly]
 exact ⟨an.refl _ _,[],(fun _ h=>nomatch h),rfl⟩
theorem jx.call {m i:Nat} {U:LL} {H:LN} {o:Oper} {v:Value} {f:FuncId} (ho:l[i]? = some o) (hs:S[i]? = some ⟨true,pl fun _ _ u=>u=v⟩) (hg:o.guard=none)
  (h:∀ (g:Nat→List Nat) (r:NV) (w:World),an H w0 w→(∀ j∈(b9 l).getD i [],Old l S j r)→(∀ j,tF l U m i j=true→wV l S j g r w)→(∀ t,(∀ j,j < m→bw l j≠some t)→r t=r0 t)→
   ∃ args,(execOp (ev r) o).run P w = .ok (.enter f args) w∧Calls P f args w fun e w'=>e = .returned v∧an [] w w'):jx P l m S U r0 w0 H i:=by
 intro o' s' cc dy g r w hC hV hO hd ly yk qd
 obtain rfl:o=o':=Option.some.inj (ho.symm.trans cc)
 obtain rfl:_=s':=Option.some.inj (hs.symm.trans dy)
 rw [if_pos rfl]
 refine ⟨by unfold Region.wanted; rw [hg],?_⟩
 unfold gf
 obtain ⟨args,h1,h2⟩:=h g r w hC hO hd ly
 rw [h1]
 exact h2.mono fun e w' ⟨he,hc⟩=>⟨v,he,hc.nil,[],(fun _ h=>nomatch h),rfl⟩
theorem jx.mem {m i:Nat} {U:LL} {H:LN} {o:Oper} {V:List Nat→World→Value→Prop} (ho:l[i]? = some o) (hs:S[i]? = some ⟨true,pl V⟩) (hg:o.guard=none)
  (h:∀ (g:Nat→List Nat) (r:NV) (w:World),an H w0 w→(∀ j∈(b9 l).getD i [],Old l S j r)→(∀ j,tF l U m i j=true→wV l S j g r w)→(∀ t,(∀ j,j < m→bw l j≠some t)→r t=r0 t)→
   gf P o r w fun v w'=>an [] w w'∧∃ f,(∀ b∈f,w.heap.size≤b∧b < w'.heap.size)∧V f w' v):jx P l m S U r0 w0 H i:=by
 intro o' s' cc dy g r w hC hV hO hd ly yk qd
 obtain rfl:o=o':=Option.some.inj (ho.symm.trans cc)
 obtain rfl:_=s':=Option.some.inj (hs.symm.trans dy)
 rw [if_pos rfl]
 refine ⟨by unfold Region.wanted; rw [hg],rj (h g r w hC hO hd ly) ?_⟩
 rintro v w' ⟨hC,f,hf,hV⟩
 exact ⟨hC.nil,f,fun b hb=>⟨.inr (hf b hb).1,(hf b hb).2⟩,hV⟩
theorem jx.Ti {m i:Nat} {U:LL} {H:LN} {o:Oper} {V:List Nat→World→(Nat→Value)→Value→Prop} (ho:l[i]? = some o) (hs:S[i]? = some ⟨true,V⟩) (hg:o.guard=none)
  (h:∀ (g:Nat→List Nat) (r:NV) (w:World),an H w0 w→(∀ j∈(b9 l).getD i [],Old l S j r)→(∀ j,tF l U m i j=true→wV l S j g r w)→(∀ t,(∀ j,j < m→bw l j≠some t)→r t=r0 t)→
   gf P o r w fun v w'=>an [] w w'∧∃ f,(∀ b∈f,w.heap.size≤b∧b < w'.heap.size)∧V f w' r v):jx P l m S U r0 w0 H i:=by
 intro o' s' cc dy g r w hC hV hO hd ly yk qd
 obtain rfl:o=o':=Option.some.inj (ho.symm.trans cc)
 obtain rfl:_=s':=Option.some.inj (hs.symm.trans dy)
 rw [if_pos rfl]
 refine ⟨by unfold Region.wanted; rw [hg],rj (h g r w hC hO hd ly) ?_⟩
 rintro v w' ⟨hC,f,hf,hV⟩
 exact ⟨hC.nil,f,fun b hb=>⟨.inr (hf b hb).1,(hf b hb).2⟩,hV⟩
def D6 {α:Type} (T:ai α) (x:α):List Nat→World→Value→Prop:=fun f w v=>T.rep w.heap [v] x f∧f.Nodup
def ZM (cs:LV) (e:TI) (n:Nat):List Nat→World→Value→Prop:=fun f w v=>∃ b,f=[b]∧v = .slice (some ⟨b,0,none⟩) n n∧Row w b cs e
def Gl (a:LN) (l:LO) (s:fv):Prop:=∀ f F (w w':World) (r r':NV) v,an F w w'→(∀ b∈f,b ∉ F)→(∀ j∈a,∀ t,bw l j=some t→r' t=r t)→s.V f w r v→s.V f w' r' v
theorem Md {a:LN} {b:Bool} {V:List Nat→World→Value→Prop} (h:∀ f F (w w':World) v,an F w w'→(∀ b∈f,b ∉ F)→V f w v→V f w' v):Gl a l ⟨b,pl V⟩:=
 fun f F w w' _ _ v hC hn _ hv=>h f F w w' v hC hn hv
theorem JI {a:LN} {b:Bool} {u:Value}:Gl a l ⟨b,pl fun _ _ v=>v=u⟩:=Md fun _ _ _ _ _ _ _ h=>h
theorem gf.own {α:Type} {T:ai α} {x:α} {o:Oper} {r:NV} {w:World} {f:FuncId} {args:Array Value} (h:(execOp (ev r) o).run P w = .ok (.enter f args) w)
  (hc:Calls P f args w fun e w'=>∃ (v:Value) (k:LN),e = .returned v∧an [] w w'∧OE [] w.heap.size w' T [v] x k) :
  gf P o r w fun v w'=>an [] w w'∧∃ f,(∀ b∈f,w.heap.size≤b∧b < w'.heap.size)∧D6 T x f w' v:=by
 unfold gf
 rw [h]
 exact hc.mono fun e w' ⟨v,k,he,hC,ho⟩=>⟨v,he,hC,k,fun b hb=>⟨ho.fresh b hb,T.lt ho.1 b hb⟩,ho.1,ho.2.1⟩
theorem gf.made {α:Type} {T:ai α} {x:α} {o:Oper} {r:NV} {w:World} (h:∃ v w' f,(execOp (ev r) o).run P w = .ok (.value v) w'∧an [] w w'∧OE [] w.heap.size w' T [v] x f) :
  gf P o r w fun v w'=>an [] w w'∧∃ f,(∀ b∈f,w.heap.size≤b∧b < w'.heap.size)∧D6 T x f w' v:=by
 obtain ⟨v,w',f,hr,hC,ho⟩:=h
 unfold gf
 rw [hr]
 exact ⟨hC,f,fun b hb=>⟨ho.fresh b hb,T.lt ho.1 b hb⟩,ho.1,ho.2.1⟩
theorem xT {f g:LN} (h1:f.Nodup) (h2:g.Nodup) (d:sb f g):(f++g).Nodup:=List.nodup_append.2 ⟨h1,h2,fun a ha _ hb wo=>d a ha (wo ▸ hb)⟩
theorem gf.wN {α:Type} {E:ai α} {F f:LN} {t e et:TI} {s x:OO} {i:TypeInfo} {z:Value} {sv u:Value} {xs:List α} {y:α} {b:Nat} {r:NV} {w:World} {d:Option Nat} {ty:TI} {pos:String} {ah:Array Edge}
  (ht:P.underlying t=some (.slice e)) (hi:P.info? e=some i) (hz:i.zero=some z) (hs:i.size=1) (hE:E.size=1) (uX:z.oneCell'=true)
  (vK:ev r s=sv) (hO:D6 (aI e E) xs f w sv) (hF:∀ b∈f,b∈F) (hx:ev r x = .slice (some ⟨b,0,none⟩) 1 1) (bj:Row w b [u] et) (hy:E.rep w.heap [u] y [])
  (hb:(xs.length+1) * i.bytes≤140737488355328) (xS:xs.length+1≤maxLen) :
  gf P ⟨d,.call ⟨.builtin .append,#[s,x],#[t,t]⟩,ty,pos,ah,none⟩ r w fun v w'=>an F w w'∧∃ f',(∀ b∈f',(b∈F∨w.heap.size≤b)∧b < w'.heap.size)∧D6 (aI e E) (xs++[y]) f' w' v:=by
 obtain ⟨v,w',f',h,hC,dp,dq,dt⟩:=pj (d:=d) (ty:=ty) (pos:=pos) (ah:=ah) (g:=none) (ys:=[y]) ht hi hz (by rw [hs,hE]) (by rw [cells_one uX,hE]; rfl) vK hO.1 hO.2 hx bj.at (r6 hy) (fun _ h=>nomatch h) (by simp) hb xS
 unfold gf
 rw [h]
 refine ⟨hC.mono hF,f',fun b hb=>⟨?_,ai.lt _ dp b hb⟩,dp,dt List.nodup_nil⟩
 rcases dq b hb with h | h | h
 ·exact .inl (hF b h)
 ·cases h
 ·exact .inr h
theorem gf.F6 {t e:TI} {i:TypeInfo} {z u:Value} {x:OO} {r:NV} {w:World} {d:Option Nat} {ty:TI} {pos:String} {ah:Array Edge} (ht:P.underlying t=some (.slice e)) (hi:P.info? e=some i) (hz:i.zero=some z)
  (hs:i.size=1) (hx:ev r x=u) (hv:u.oneCell'=true) :
  gf P ⟨d,.buildSlice t 1 #[(0,x)],ty,pos,ah,none⟩ r w fun v w'=>an [] w w'∧∃ f,(∀ b∈f,w.heap.size≤b∧b < w'.heap.size)∧ZM [u] e 1 f w' v:=by
 unfold gf
 rw [I7 ht hi hz hs (by rw [hx]; exact hv),hx]
 exact ⟨an.alloc _ _ _,[w.heap.size],fun b hb=>by rw [List.mem_singleton.1 hb]; simp,w.heap.size,rfl,rfl,heap_alloc_new w _⟩
end
end Go.Li
