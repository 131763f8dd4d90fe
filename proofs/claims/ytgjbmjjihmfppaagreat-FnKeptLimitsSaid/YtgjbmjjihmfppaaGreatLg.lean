/- A region that draws its order, whatever it holds: its head in any order, its tail one behind the other. No condition. -/
import Derived.Test.YtgjbmjjihmfppaaGreatLf
import Derived.Still
namespace Go.Li
open Go
def ma (acc:LL) (o:Oper):List (List Nat):=
 acc++[(o.after.toList.filter (Region.binds .any)).flatMap fun e=>e.on :: acc.getD e.on []]
def cf (l:LO):List (List Nat):=l.foldl ma []
structure gx where
 b:Bool
 V:List Nat→World→(Nat→Value)→Value→Prop
abbrev pl (V:List Nat→World→Value→Prop):List Nat→World→(Nat→Value)→Value→Prop:=fun f w _ v=>V f w v
def mg (P:Program) (n:Nat) (l:LO) (Q:Exit→(Nat→Value)→World→Prop) (r:NV) (w:World):Prop:=
 ∀ a:Act,a.tmps.size=n→a.defers=[]→cu a=r→wpAny P .any l.toArray (fun e a' w'=>a'.tmps.size=n∧a'.defers=[]∧Q e (cu a') w') l.toArray.size (Array.replicate l.toArray.size false) a { w with drawn:=w.drawn+1 }
theorem mg.W {P:Program} {n id:Nat} {l:LO} {Q:Exit→(Nat→Value)→World→Prop} {r:NV} {w:World} (hm:P.follows .mixedOrders=true) (h:mg P n l Q r w):W P n (.region id l.toArray true) Q r w:=
 fun a h1 h2 h3=>wp_region_any hm (h a h1 h2 h3)
def CF (π:LN) (o:Oper):Oper:=⟨o.dst,o.op,o.type,o.pos,(o.after.toList.map fun e=>⟨π.getD e.on 0,e.ground⟩).toArray,o.guard⟩
def p8 (l:LO) (σ π:LN):List Oper:=σ.map fun k=>CF π (l.getD k default)
def OL (l:LO) (σ π:LN):Bool:=
 Nat.beq σ.length l.length && Nat.beq π.length l.length &&
 ((List.range l.length).all fun i=>Nat.blt (π.getD i 0) l.length && Nat.beq (σ.getD (π.getD i 0) 0) i && Nat.blt (σ.getD i 0) l.length && Nat.beq (π.getD (σ.getD i 0) 0) i) &&
 l.all fun o=>o.guard.isNone && o.after.toList.all fun e=>Nat.blt e.on l.length
theorem U7 {P:Program} {Q:Exit→Act→World→Prop} {π:LN} {o:Oper} {a:Act} {w:World} {K:Act→World→Prop}:(CF π o).wp P a w K Q=o.wp P a w K Q:=by
 cases o; rfl
theorem O6 {P:Program} {π:LN} {o:Oper} {a:Act} {w:World}:(CF π o).asks P a w=o.asks P a w:=by
 cases o; rfl
section
variable {P:Program} {l:LO} {σ π:LN} (h:OL l σ π=true)
include h
theorem DO:σ.length=l.length∧π.length=l.length∧(∀ i,i < l.length→π.getD i 0 < l.length∧σ.getD (π.getD i 0) 0=i∧σ.getD i 0 < l.length∧π.getD (σ.getD i 0) 0=i)∧∀ o∈l,o.guard=none∧∀ e∈o.after.toList,e.on < l.length:=by
 unfold OL at h
 simp only [Bool.and_eq_true,List.all_eq_true,List.mem_range] at h
 obtain ⟨⟨⟨h1,h2⟩,h3⟩,h4⟩:=h
 refine ⟨Nat.eq_of_beq_eq_true h1,Nat.eq_of_beq_eq_true h2,fun i hi=>?_,fun o ho=>?_⟩
 ·obtain ⟨⟨⟨a,b⟩,c⟩,d⟩:=h3 i hi
  exact ⟨Nat.lt_of_succ_le (Nat.le_of_ble_eq_true a),Nat.eq_of_beq_eq_true b,Nat.lt_of_succ_le (Nat.le_of_ble_eq_true c),Nat.eq_of_beq_eq_true d⟩
 ·obtain ⟨a,b⟩:=h4 o ho
  exact ⟨by simpa using a,fun e he=>Nat.lt_of_succ_le (Nat.le_of_ble_eq_true (b e he))⟩
theorem JP:(p8 l σ π).length=l.length:=by unfold p8; rw [List.length_map]; exact (DO h).1
theorem JR {i:Nat} {o:Oper} (ho:l[i]? = some o):(p8 l σ π)[π.getD i 0]? = some (CF π o):=by
 obtain ⟨h1,_,h3,_⟩:=DO h
 have hi:=(List.getElem?_eq_some_iff.1 ho).1
 obtain ⟨a,b,_,_⟩:=h3 i hi
 unfold p8
 rw [List.getElem?_map,List.getElem?_eq_getElem (by omega)]
 have e:σ[π.getD i 0]'(by omega)=i:=by
  rw [List.getD_eq_getElem?_getD,List.getElem?_eq_getElem (by omega)] at b
  simpa using b
 simp only [Option.map_some,Option.some.injEq]
 rw [e,List.getD_eq_getElem?_getD,ho]; rfl
theorem MX {Q:Exit→Act→World→Prop}:∀ (fuel:Nat) (L L':Array Bool) (a:Act) (w:World),L.size=l.length→L'.size=l.length→(∀ i,i < l.length→L'.getD (π.getD i 0) true=L.getD i true)→
  wpAny P .any (p8 l σ π).toArray Q fuel L' a w→wpAny P .any l.toArray Q fuel L a w:=by
 obtain ⟨h1,h2,h3,h4⟩:=DO h
 have gd:∀ {L:Array Bool} {i:Nat} (b:Bool),L.size=l.length→i < l.length→L.getD i b=L.getD i true:=fun {L i} b hs hi=>by
  have:i < L.size:=by omega
  simp [Array.getD,this]
 have mm:∀ (L L':Array Bool),L.size=l.length→L'.size=l.length→(∀ i,i < l.length→L'.getD (π.getD i 0) true=L.getD i true)→∀ i,i < l.length→(i∈Region.ready .any l.toArray L↔π.getD i 0∈Region.ready .any (p8 l σ π).toArray L'):=by
  intro L L' hs ec hL i hi
  rw [mem_ready,mem_ready,hL i hi]
  have ho:l[i]? = some (l[i]'hi):=List.getElem?_eq_getElem hi
  have cg:=JR h ho
  have hg:=h4 _ (List.mem_of_getElem? ho)
  constructor
  ·rintro ⟨g1,o,g2,g3⟩
   refine ⟨g1,CF π l[i],by simpa using cg,fun e he hb=>?_⟩
   have eo:l[i]=o:=by simpa [ho] using g2
   simp only [CF,List.mem_toArray,List.mem_map] at he
   obtain ⟨e0,Y7,rfl⟩:=he
   have bj:=hg.2 e0 Y7
   have:=g3 e0 (by rw [← eo]; simpa using Y7) hb
   rw [gd false ec (h3 _ bj).1,hL _ bj,← gd false hs bj]; exact this
  ·rintro ⟨g1,o,g2,g3⟩
   refine ⟨g1,l[i],by simp,fun e he hb=>?_⟩
   have eo:CF π l[i]=o:=by
    have:(p8 l σ π)[π.getD i 0]? = some o:=by simpa using g2
    rw [cg] at this
    exact Option.some.inj this
   have bj:=hg.2 e (by simpa using he)
   have:=g3 ⟨π.getD e.on 0,e.ground⟩ (by rw [← eo]; simp only [CF,List.mem_toArray,List.mem_map]; exact ⟨e,by simpa using he,rfl⟩) hb
   rw [gd false ec (h3 _ bj).1,hL _ bj,← gd false hs bj] at this; exact this
 have back:∀ (L L':Array Bool),L.size=l.length→L'.size=l.length→(∀ i,i < l.length→L'.getD (π.getD i 0) true=L.getD i true)→Region.ready .any l.toArray L=[]→Region.ready .any (p8 l σ π).toArray L'=[]:=by
  intro L L' hs ec hL he
  rw [List.eq_nil_iff_forall_not_mem]
  intro k hk
  have Dv:k < l.length:=by
   obtain ⟨_,o,g2,_⟩:=mem_ready.1 hk
   have:(p8 l σ π)[k]? = some o:=by simpa using g2
   have:=(List.getElem?_eq_some_iff.1 this).1
   rwa [JP h] at this
  obtain ⟨_,_,c,d⟩:=h3 k Dv
  have:=(mm L L' hs ec hL (σ.getD k 0) c).2 (by rw [d]; exact hk)
  rw [he] at this
  exact nomatch this
 intro fuel
 induction fuel with
 | zero=>
  intro L L' a w hs ec hL hh
  refine ⟨?_,hh.2⟩
  rw [List.eq_nil_iff_forall_not_mem]
  intro i hi
  have tw:i < l.length:=by
   obtain ⟨_,o,g2,_⟩:=mem_ready.1 hi
   have:l[i]? = some o:=by simpa using g2
   exact (List.getElem?_eq_some_iff.1 this).1
  have:=(mm L L' hs ec hL i tw).1 hi
  rw [hh.1] at this
  exact nomatch this
 | succ fuel ih=>
  intro L L' a w hs ec hL hh
  refine ⟨fun he=>hh.1 (back L L' hs ec hL he),fun i hi=>?_⟩
  have tw:i < l.length:=by
   obtain ⟨_,o,g2,_⟩:=mem_ready.1 hi
   have:l[i]? = some o:=by simpa using g2
   exact (List.getElem?_eq_some_iff.1 this).1
  have ho:l[i]? = some (l[i]'tw):=List.getElem?_eq_getElem tw
  have hg:=h4 _ (List.mem_of_getElem? ho)
  have MY:=hh.2 _ ((mm L L' hs ec hL i tw).1 hi)
  have next:∀ a w,wpAny P .any (p8 l σ π).toArray Q fuel (L'.setIfInBounds (π.getD i 0) true) a w→wpAny P .any l.toArray Q fuel (L.setIfInBounds i true) a w:=fun a w=>ih _ _ a w (by simpa using hs) (by simpa using ec) fun j hj=>by
   have hpj:=(h3 j hj).1
   have hpi:=(h3 i tw).1
   by_cases e:i=j
   ·subst e
    rw [Array.getD_eq_getD_getElem?,Array.getD_eq_getD_getElem?,Array.getElem?_setIfInBounds_self_of_lt (by omega),Array.getElem?_setIfInBounds_self_of_lt (by omega)]
   ·have e':π.getD i 0≠π.getD j 0:=fun q=>e (by rw [← (h3 i tw).2.1,q,(h3 j hj).2.1])
    have h5:=hL j hj
    have q1:(L'.setIfInBounds (π.getD i 0) true).getD (π.getD j 0) true=L'.getD (π.getD j 0) true:=by
     rw [Array.getD_eq_getD_getElem?,Array.getD_eq_getD_getElem?,Array.getElem?_setIfInBounds_ne e']
    have q2:(L.setIfInBounds i true).getD j true=L.getD j true:=by
     rw [Array.getD_eq_getD_getElem?,Array.getD_eq_getD_getElem?,Array.getElem?_setIfInBounds_ne e]
    rw [q1,q2,h5]
  have ga:(l.toArray)[i]? = some (l[i]'tw):=by simp
  have gb:((p8 l σ π).toArray)[π.getD i 0]? = some (CF π (l[i]'tw)):=by simpa using JR h ho
  unfold wpOp at MY ⊢
  rw [gb] at MY
  rw [ga]
  have w1:Region.wanted (l[i]'tw) (yielded l.toArray a.tmps)=true:=by unfold Region.wanted; rw [hg.1]
  have w2:Region.wanted (CF π (l[i]'tw)) (yielded (p8 l σ π).toArray a.tmps)=true:=by unfold Region.wanted; show (match (l[i]'tw).guard with | none=>true | some (j,want)=>_)=true; rw [hg.1]
  simp only [w2,if_true] at MY
  simp only [w1,if_true]
  rw [U7,O6] at MY
  exact MY.imp (fun g=>Oper.wp_mono next g) id
theorem mg.prm {n:Nat} {Q:Exit→(Nat→Value)→World→Prop} {r:NV} {w:World} (hw:mg P n (p8 l σ π) Q r w):mg P n l Q r w:=by
 have hl:=JP h
 obtain ⟨_,_,h3,_⟩:=DO h
 intro a a1 a2 a3
 have:=hw a a1 a2 a3
 rw [show (p8 l σ π).toArray.size=l.toArray.size by simpa using hl] at this
 refine MX h _ _ _ a _ (by simp) (by simp) (fun i hi=>?_) this
 have hq:=(h3 i hi).1
 rw [List.getD_eq_getElem?_getD] at hq
 simp [Array.getD,hi,hq]
end
section
variable {P:Program} {n:Nat} {Q:Exit→(Nat→Value)→World→Prop} {r0:NV} {w0:World} {l:LO} {S:List gx}
def bx (l:LO) (j:Nat):Option Nat:=(l[j]?).bind (·.dst)
def xj (l:LO) (S:List gx) (j:Nat) (g:Nat→List Nat) (r:NV) (w:World):Prop:=
 (∀ d,bx l j=some d→match S[j]? with
  | some s=>if s.b then s.V (g j) w r (r d) else r d=undef
  | none=>True)∧(bx l j=none→∀ s,S[j]? = some s→s.b=true→∃ x,s.V (g j) w r x)
def Old (l:LO) (S:List gx) (j:Nat) (r:NV):Prop:=∀ d,bx l j=some d→∀ s,S[j]? = some s→if s.b then ∃ f w,s.V f w r (r d) else r d=undef
structure zZ (l:LO) (m:Nat) (S:List gx) (U:LL) (r0:NV) (w0:World) (H:LN) (L:Nat→Prop) (g:Nat→List Nat) (r:NV) (w:World):Prop where
 jc:an H w0 w
 Bq:(∀ k,L k→l.length ∉ U.getD k [])→an [] w0 w∧g l.length=H
 vg:∀ b∈g l.length,b∈H
 vd:∀ j,L j→sf (g j) (g l.length)
 done:∀ j,L j→(∀ k,L k→j ∉ U.getD k [])→xj l S j g r w
 tF:∀ j,L j→Old l S j r
 other:∀ t,(∀ j,j < m→bx l j≠some t)→r t=r0 t
 fresh:∀ j,L j→∀ b∈g j,(w0.heap.size≤b∨(b∈H∧∃ k,L k∧l.length∈U.getD k []))∧b < w.heap.size
 wG:∀ i j,L i→L j→i≠j→sf (g i) (g j)
def uG (l:LO) (U:LL) (m i j:Nat):Bool:=
 ((cf l).getD i []).contains j && (List.range m).all fun k=>!((U.getD k []).contains j) || Nat.beq k i || ((cf l).getD k []).contains i
def p7 (g:Nat→List Nat) (us:LN):List Nat:=us.flatMap g
def zV (l:LO) (U:LL) (m i:Nat):Bool:=(List.range m).all fun k=>!((U.getD k []).contains l.length) || Nat.beq k i || ((cf l).getD k []).contains i
def kh (P:Program) (l:LO) (m:Nat) (S:List gx) (U:LL) (r0:NV) (w0:World) (H:LN) (i:Nat):Prop:=
 ∀ o s,l[i]? = some o→S[i]? = some s→∀ (g:Nat→List Nat) (r:NV) (w:World),an H w0 w→(zV l U m i=true→an [] w0 w∧g l.length=H∧∀ j∈(cf l).getD i [],∀ b∈g j,w0.heap.size≤b)→(∀ j∈(cf l).getD i [],Old l S j r)→(∀ j,uG l U m i j=true→xj l S j g r w)→(∀ t,(∀ j,j < m→bx l j≠some t)→r t=r0 t)→
  (∀ i'∈(cf l).getD i [],∀ j'∈(cf l).getD i [],i'≠j'→sf (g i') (g j'))→(∀ j∈(cf l).getD i [],∀ b∈g j,(w0.heap.size≤b∨b∈H)∧b < w.heap.size)→
  if s.b then Region.wanted o (yl l r)=true∧fl P o r w fun v w'=>an (p7 g (U.getD i [])) w w'∧∃ f,(∀ b∈f,(b∈p7 g (U.getD i [])∨w.heap.size≤b)∧b < w'.heap.size)∧s.V f w' r v
  else Region.wanted o (yl l r)=false
def Bj:List Nat→Bool
 | []=>true
 | x :: l=>!(l.contains x) && Bj l
theorem yN:∀ {l:LN},Bj l=true→l.Nodup
 | [],_=>List.nodup_nil
 | x :: l,h=>by
  simp only [Bj,Bool.and_eq_true,Bool.not_eq_true',List.contains_eq_mem,decide_eq_false_iff_not] at h
  exact List.nodup_cons.2 ⟨h.1,yN h.2⟩
def zX (l:LO) (m:Nat) (Z:LN):Bool:=
 ((List.range l.length).all fun i=>((l.getD i default).after.toList.filter (Region.binds .any)).all fun e=>Nat.blt e.on i) &&
 ((List.range l.length).all fun i=>Nat.blt i m || (List.range i).all fun j=>((cf l).getD i []).contains j || Z.contains j) &&
 Bj ((l.take m).filterMap (·.dst))
def U8 (o:Oper):Bool:=match o.op with | .move _=>true | .extract _ _=>true | _=>false
def O7 (l:LO) (i:Nat):Array Bool:=((List.range l.length).map fun j=>((cf l).getD i []).contains j).toArray
def G7 (l:LO) (m:Nat) (Z:LN):Bool:=
 Region.noSelect l.toArray && Z.all fun i=>Nat.blt i m && Region.free .any l.toArray (O7 l i) i &&
  match l[i]? with
  | some o=>U8 o && o.guard.isNone
  | none=>false
theorem MZ {l:LO} {L:Array Bool} {i:Nat} (hL:∀ j∈(cf l).getD i [],L.getD j false=true) (h:Region.free .any l.toArray (O7 l i) i=true):Region.free .any l.toArray L i=true:=by
 unfold Region.free at h ⊢
 cases ho:(l.toArray)[i]? with
 | none=>rw [ho] at h; cases h
 | some oi=>
  rw [ho] at h
  simp only [List.all_eq_true,List.mem_range,Bool.or_eq_true] at h ⊢
  intro j hj
  rcases h j hj with (h1 | h1) | h1
  ·exact .inl (.inl h1)
  ·have bj:j < l.length:=by simpa using hj
   have hm:j∈(cf l).getD i []:=by
    unfold O7 at h1
    have:((List.range l.length).map fun j=>((cf l).getD i []).contains j)[j]? = some (((cf l).getD i []).contains j):=by
     rw [List.getElem?_map,List.getElem?_range bj]; rfl
    rw [Array.getD_eq_getD_getElem?,List.getElem?_toArray,this] at h1
    simpa using h1
   refine .inl (.inr ?_)
   have h2:=hL j hm
   rcases Nat.lt_or_ge j L.size with h' | h'
   ·simp [h'] at h2 ⊢; exact h2
   ·simp [Array.getElem?_eq_none h'] at h2
  ·exact .inr h1
theorem I3 {P:Program} {d:Option Nat} {x:OO} {k:Nat} {ty:TI} {pos:String} {af:Array Edge} {g:Option (Nat×Bool)} {r:NV} {w:World} {K:Value→World→Prop} (h:fl P ⟨d,.extract x k,ty,pos,af,g⟩ r w K) :
  ∃ v,(∀ w',(execOp (ev r) ⟨d,.extract x k,ty,pos,af,g⟩).run P w' = .ok (.value v) w')∧K v w:=by
 have e:execOp (ev r) ⟨d,.extract x k,ty,pos,af,g⟩ = (Instr.extract (ev r x) k>>=fun v=>pure (.value v)):=rfl
 unfold fl at h
 rw [e] at h ⊢
 generalize ev r x=u at h ⊢
 cases u
 case tuple vs=>
  cases hv:vs[k]? with
  | none=>simp [Instr.extract,hv,stuck,Result.andThen,Sem.run] at h
  | some v=>
   refine ⟨v,fun w'=>?_,?_⟩
   ·simp [Instr.extract,hv]
   ·simpa [Instr.extract,hv] using h
 all_goals simp [Instr.extract,stuck,Result.andThen,Sem.run] at h
theorem Ac (l:LO):∀ (i:Nat) (o:Oper),l[i]? = some o→(cf l)[i]? = some ((o.after.toList.filter (Region.binds .any)).flatMap fun e=>e.on :: ((cf l).take i).getD e.on []):=by
 have key:∀ (l:LO) (acc:LL),(l.foldl ma acc).length=acc.length+l.length∧(∀ j,j < acc.length→(l.foldl ma acc)[j]? = acc[j]?)∧
   ∀ i o,l[i]? = some o→(l.foldl ma acc)[acc.length+i]? = some ((o.after.toList.filter (Region.binds .any)).flatMap fun e=>e.on :: ((l.foldl ma acc).take (acc.length+i)).getD e.on []):=by
  intro l
  induction l with
  | nil=>intro acc; exact ⟨rfl,fun _ _=>rfl,fun i o h=>by simp at h⟩
  | cons x l ih=>
   intro acc
   obtain ⟨h1,h2,h3⟩:=ih (ma acc x)
   have hl:(ma acc x).length=acc.length+1:=by simp [ma]
   have hold:∀ j,j < acc.length→(ma acc x)[j]? = acc[j]?:=fun j hj=>by simp only [ma]; rw [List.getElem?_append_left hj]
   refine ⟨by simp only [List.foldl_cons,h1,hl,List.length_cons]; omega,fun j hj=>?_,?_⟩
   ·rw [List.foldl_cons,h2 j (by omega),hold j hj]
   ·intro i o hi
    cases i with
    | zero=>
     simp at hi
     subst hi
     have X4:(List.foldl ma acc (x :: l)).take (acc.length+0)=acc:=by
      apply List.ext_getElem?
      intro j
      rw [Nat.add_zero,List.getElem?_take]
      split
      ·rename_i hj
       rw [List.foldl_cons,h2 j (by omega),hold j hj]
      ·rename_i hj
       rw [List.getElem?_eq_none (by omega)]
     rw [X4]
     rw [Nat.add_zero,List.foldl_cons,h2 _ (by omega)]
     simp only [ma]
     rw [List.getElem?_append_right (Nat.le_refl _)]
     simp
    | succ i=>
     have:=h3 i o (by simpa using hi)
     rw [hl] at this
     rw [List.foldl_cons]
     rw [show acc.length+(i+1)=acc.length+1+i by omega]
     exact this
 intro i o hi
 have:=(key l []).2.2 i o hi
 simpa [cf] using this
theorem Bo (l:LO) (hb:∀ (i:Nat) (o:Oper),l[i]? = some o→∀ e∈o.after.toList.filter (Region.binds .any),e.on < i) :
  ∀ (i j:Nat),j∈(cf l).getD i []→j < i∧∃ o,l[i]? = some o∧∃ e∈o.after.toList.filter (Region.binds .any),j=e.on∨j∈(cf l).getD e.on []:=by
 intro i j hj
 cases ho:l[i]? with
 | none=>
  have hlen:(cf l).length=l.length:=by
   have:∀ (l:LO) (acc:LL),(l.foldl ma acc).length=acc.length+l.length:=by
    intro l
    induction l with
    | nil=>intro acc; rfl
    | cons x l ih=>intro acc; rw [List.foldl_cons,ih]; simp [ma]; omega
   simpa [cf] using this l []
  rw [List.getD_eq_getElem?_getD,List.getElem?_eq_none (by rw [hlen]; exact List.getElem?_eq_none_iff.1 ho)] at hj
  simp at hj
 | some o=>
  have h:=Ac l i o ho
  rw [List.getD_eq_getElem?_getD,h] at hj
  simp only [Option.getD_some,List.mem_flatMap,List.mem_cons] at hj
  obtain ⟨e,he,hj⟩:=hj
  have bj:=hb i o ho e he
  have U9:((cf l).take i).getD e.on []=(cf l).getD e.on []:=by
   rw [List.getD_eq_getElem?_getD,List.getD_eq_getElem?_getD,List.getElem?_take,if_pos bj]
  rw [U9] at hj
  refine ⟨?_,o,rfl,e,he,hj⟩
  rcases hj with rfl | hj
  ·exact bj
  ·-- by the strong law below
   have:∀ (k i:Nat),i≤k→∀ j∈(cf l).getD i [],j < i:=by
    intro k
    induction k with
    | zero=>
     intro i hi j hj
     obtain rfl:i=0:=by omega
     cases ho:l[0]? with
     | none=>
      obtain rfl:l=[]:=by cases l with | nil=>rfl | cons=>simp at ho
      simp [cf] at hj
     | some o=>
      have h:=Ac l 0 o ho
      rw [List.getD_eq_getElem?_getD,h] at hj
      simp only [Option.getD_some,List.mem_flatMap] at hj
      obtain ⟨e,he,_⟩:=hj
      exact absurd (hb 0 o ho e he) (Nat.not_lt_zero _)
    | succ k ih=>
     intro i hi j hj
     cases ho:l[i]? with
     | none=>
      have hlen:(cf l).length=l.length:=by
       have:∀ (l:LO) (acc:LL),(l.foldl ma acc).length=acc.length+l.length:=by
        intro l
        induction l with
        | nil=>intro acc; rfl
        | cons x l ih=>intro acc; rw [List.foldl_cons,ih]; simp [ma]; omega
       simpa [cf] using this l []
      rw [List.getD_eq_getElem?_getD,List.getElem?_eq_none (by rw [hlen]; exact List.getElem?_eq_none_iff.1 ho)] at hj
      simp at hj
     | some o=>
      have h:=Ac l i o ho
      rw [List.getD_eq_getElem?_getD,h] at hj
      simp only [Option.getD_some,List.mem_flatMap,List.mem_cons] at hj
      obtain ⟨e,he,hj⟩:=hj
      have bj:=hb i o ho e he
      rcases hj with rfl | hj
      ·exact bj
      ·have U9:((cf l).take i).getD e.on []=(cf l).getD e.on []:=by
        rw [List.getD_eq_getElem?_getD,List.getD_eq_getElem?_getD,List.getElem?_take,if_pos bj]
       rw [U9] at hj
       have:=ih e.on (by omega) j hj
       omega
   exact Nat.lt_trans (this e.on e.on (Nat.le_refl _) j hj) bj
theorem DB (l:LO) (hb:∀ (i:Nat) (o:Oper),l[i]? = some o→∀ e∈o.after.toList.filter (Region.binds .any),e.on < i) {j k:Nat} (hj:j∈(cf l).getD k []):∀ {i:Nat},k∈(cf l).getD i []→j∈(cf l).getD i []:=by
 intro i
 induction i using Nat.strongRecOn with
 | _ i ih=>
  intro hk
  obtain ⟨_,o,ho,e,he,hke⟩:=Bo l hb i k hk
  have bj:=hb i o ho e he
  have h2:j∈(cf l).getD e.on []:=hke.elim (fun h=>h ▸ hj) (fun h=>ih e.on bj h)
  have h:=Ac l i o ho
  rw [List.getD_eq_getElem?_getD,h]
  simp only [Option.getD_some,List.mem_flatMap,List.mem_cons]
  refine ⟨e,he,.inr ?_⟩
  rw [List.getD_eq_getElem?_getD,List.getElem?_take,if_pos bj,← List.getD_eq_getElem?_getD]
  exact h2
theorem getD_both {Hx:Array Bool} {i:Nat} (h:Hx.getD i true=false):Hx.getD i false=false:=by
 rcases Nat.lt_or_ge i Hx.size with h' | h'
 ·simp [h'] at h ⊢; exact h
 ·simp [Array.getElem?_eq_none h'] at h
theorem getD_replicate_false (m j:Nat):(Array.replicate m false).getD j false=false:=by
 rcases Nat.lt_or_ge j m with h | h
 ·simp [h]
 ·simp [h]
theorem Fe:∀ (l:LO),(l.filterMap (·.dst)).Nodup→∀ i j d,bx l i=some d→bx l j=some d→i=j:=by
 intro l
 induction l with
 | nil=>intro _ i j d h; simp [bx] at h
 | cons o l ih=>
  intro hn i j d hi hj
  have Va:∀ k,bx (o :: l) (k+1)=some d→d∈l.filterMap (·.dst):=by
   intro k hk
   simp only [bx,List.getElem?_cons_succ] at hk
   cases ho:l[k]? with
   | none=>rw [ho] at hk; cases hk
   | some x=>rw [ho] at hk; exact List.mem_filterMap.2 ⟨x,List.mem_of_getElem? ho,hk⟩
  have h0:∀ e,o.dst=some e→e ∉ l.filterMap (·.dst)∧(l.filterMap (·.dst)).Nodup:=by
   intro e he
   rw [List.filterMap_cons_some he] at hn
   exact List.nodup_cons.1 hn
  have uA:(l.filterMap (·.dst)).Nodup:=by
   cases hd:o.dst with
   | none=>rwa [List.filterMap_cons_none hd] at hn
   | some e=>exact (h0 e hd).2
  cases i with
  | zero=>
   cases j with
   | zero=>rfl
   | succ j=>exact absurd (Va j hj) (h0 d (by simpa [bx] using hi)).1
  | succ i=>
   cases j with
   | zero=>exact absurd (Va i hi) (h0 d (by simpa [bx] using hj)).1
   | succ j=>rw [ih uA i j d (by simpa [bx] using hi) (by simpa [bx] using hj)]
theorem kn {m j:Nat} (hj:j < m):bx (l.take m) j=bx l j:=by
 unfold bx
 rw [List.getElem?_take,if_pos hj]
theorem qo {o:Oper} {r:NV} {w:World} {K K':Value→World→Prop} (h:fl P o r w K) (hk:∀ v w',K v w'→K' v w'):fl P o r w K':=by
 unfold fl at h ⊢
 cases hr:(execOp (ev r) o).run P w with
 | ok x w'=>
  rw [hr] at h
  cases x with
  | value v=>exact hk _ _ h
  | skip=>exact hk _ _ h
  | enter f args=>exact h.mono fun e E5 ⟨v,he,hv⟩=>⟨v,he,hk _ _ hv⟩
  | _=>exact h
 | _=>rw [hr] at h; exact h.elim
theorem Mw {m:Nat} {Z:LN} (h:zX l m Z=true):∀ (i:Nat) (o:Oper),l[i]? = some o→∀ e∈o.after.toList.filter (Region.binds .any),e.on < i:=by
 simp only [zX,Bool.and_eq_true,List.all_eq_true,List.mem_range] at h
 intro i o ho e he
 have hi:i < l.length:=(List.getElem?_eq_some_iff.1 ho).1
 have:=h.1.1 i hi e (by rw [List.getD_eq_getElem?_getD,ho]; exact he)
 exact Nat.lt_of_succ_le (Nat.le_of_ble_eq_true this)
theorem Ue {m:Nat} {U:LL} {Z H:LN} {N:Nat→Prop} (hd:de n l=true) (hA:zX l m Z=true) (hZ:G7 l m Z=true) (hp:∀ c r w,Q (.panic c) r w→False) (G8:m≤l.length)
  (hS:S.length=m)
  (hH:∀ b∈H,b < w0.heap.size) (hU:((List.range m).all fun i=>(U.getD i []).all fun u=>Nat.beq u l.length || ((cf l).getD i []).contains u)=true)
  (hN:∀ b,N b→b < w0.heap.size∧b ∉ H)
  (rj:∀ (i:Nat) (s:gx),S[i]? = some s→∀ f F (w w':World) (r r':NV) v,an F w w'→(∀ b∈f,b ∉ F)→(∀ b∈F,¬ N b)→(∀ j∈(cf l).getD i [],∀ t,bx l j=some t→r' t=r t)→s.V f w r v→s.V f w' r' v)
  (OS:∀ i,i < m→kh P l m S U r0 w0 H i)
  (next:∀ g r w,zZ l m S U r0 w0 H (fun j=>j < m) g r w→WL P l (l.drop m) r w (Q .normal)) :
  mg P n l Q r0 w0:=by
 simp only [zX,Bool.and_eq_true,List.all_eq_true,List.mem_range,Bool.or_eq_true] at hA
 obtain ⟨⟨Uv,Uw⟩,Ux⟩:=hA
 have wP:∀ (i:Nat) (o:Oper),l[i]? = some o→∀ e∈o.after.toList.filter (Region.binds .any),e.on < i:=by
  intro i o ho e he
  have hi:i < l.length:=(List.getElem?_eq_some_iff.1 ho).1
  have:=Uv i hi e (by rw [List.getD_eq_getElem?_getD,ho]; exact he)
  exact Nat.lt_of_succ_le (Nat.le_of_ble_eq_true this)
 have Ez:∀ i,m≤i→i < l.length→∀ j,j < i→j∈(cf l).getD i []∨j∈Z:=by
  intro i h1 h2 j hj
  rcases Uw i h2 with h | h
  ·exact absurd (Nat.lt_of_succ_le (Nat.le_of_ble_eq_true h)) (Nat.not_lt.2 h1)
  ·have:=h j hj
   simpa using this
 simp only [G7,Bool.and_eq_true,List.all_eq_true] at hZ
 obtain ⟨Q3,hZ⟩:=hZ
 have Vb:∀ z∈Z,z < m:=fun z hz=>Nat.lt_of_succ_le (Nat.le_of_ble_eq_true (hZ z hz).1.1)
 have Uy:∀ i,i < m→∀ u∈U.getD i [],u=l.length∨u∈(cf l).getD i []:=by
  intro i hi u hu
  simp only [List.all_eq_true,List.mem_range] at hU
  have:=hU i hi u hu
  simpa using this
 have df:=Fe _ (yN Ux)
 have qp:=Bo l wP
 intro a h1 h2 h3
 let Cl (L:Array Bool):Prop:=L.size=l.length∧∀ j o,l[j]? = some o→L.getD j false=true→∀ e∈o.after.toList.filter (Region.binds .any),L.getD e.on false=true
 have ji:∀ L,Cl L→∀ i j,(∀ o,l[i]? = some o→∀ e∈o.after.toList.filter (Region.binds .any),L.getD e.on false=true)→j∈(cf l).getD i []→L.getD j false=true:=by
  intro L hL i
  induction i using Nat.strongRecOn with
  | _ i ih=>
   intro j hi hj
   obtain ⟨_,o,ho,e,he,He⟩:=qp i j hj
   have hl:=hi o ho e he
   rcases He with rfl | He
   ·exact hl
   ·exact ih e.on (wP i o ho e he) j (fun o' cg e' ud=>hL.2 _ _ cg hl e' ud) He
 have mm:∀ L i,i∈Region.ready .any l.toArray L→L.getD i true=false∧∃ o,l[i]? = some o∧∀ e∈o.after.toList.filter (Region.binds .any),L.getD e.on false=true:=by
  intro L i hi
  obtain ⟨g1,o,ho,dw⟩:=mem_ready.1 hi
  refine ⟨g1,o,by simpa using ho,fun e he=>?_⟩
  have:=List.mem_filter.1 he
  exact dw e (by simpa using this.1) this.2
 have DE:∀ L i o,L.size=l.length→l[i]? = some o→L.getD i false=false→(∀ e∈o.after.toList.filter (Region.binds .any),L.getD e.on false=true)→i∈Region.ready .any l.toArray L:=by
  intro L i o hs ho hu dw
  refine mem_ready.2 ⟨?_,o,by simpa using ho,fun e he hb=>dw e (List.mem_filter.2 ⟨by simpa using he,hb⟩)⟩
  have hi:i < L.size:=by rw [hs]; exact (List.getElem?_eq_some_iff.1 ho).1
  simp [hi] at hu ⊢; exact hu
 have Gi:∀ L i o,Cl L→l[i]? = some o→(∀ e∈o.after.toList.filter (Region.binds .any),L.getD e.on false=true)→Cl (L.setIfInBounds i true):=by
  intro L i o hL ho dw
  refine ⟨by rw [Array.size_setIfInBounds]; exact hL.1,fun j o' cg hj e he=>?_⟩
  by_cases sY:i=j
  ·subst sY
   have:o'=o:=Option.some.inj (cg.symm.trans ho)
   subst this
   exact getD_set_true (dw e he)
  ·rw [getD_set_ne false sY] at hj
   exact getD_set_true (hL.2 j o' cg hj e he)
 have getSet:∀ (L:Array Bool) i j,L.size=l.length→i < l.length→((L.setIfInBounds i true).getD j false=true↔j=i∨L.getD j false=true):=by
  intro L i j hs hi
  by_cases sY:i=j
  ·subst sY
   simp [hs,hi]
  ·rw [getD_set_ne false sY]
   constructor
   ·exact .inr
   ·rintro (h | h)
    ·exact absurd h.symm sY
    ·exact h
 have Hf:∀ (L:Array Bool) i,L.size=l.length→i < l.length→L.getD i false=false→(L.setIfInBounds i true).toList.count false+1=L.toList.count false:=by
  intro L i hs hi hu
  have tX:i < L.toList.length:=by simpa [hs] using hi
  have CB:L.toList[i]=false:=by
   rw [Array.getElem_toList]
   simp [hs,hi] at hu
   exact hu
  rw [Array.toList_setIfInBounds,List.count_set tX,CB]
  have:0 < L.toList.count false:=List.count_pos_iff.2 (by rw [← CB]; exact List.getElem_mem tX)
  rw [if_pos (by rfl),if_neg (by decide)]
  omega
 have tail:∀ (d k fuel:Nat) (L:Array Bool) (a:Act) (w:World),l.length - k=d→m≤k→k≤l.length→Cl L→(∀ j,L.getD j false=true↔j < k)→L.toList.count false≤fuel→a.tmps.size=n→a.defers=[]→
   WL P l (l.drop k) (cu a) w (Q .normal)→wpAny P .any l.toArray (fun e a' w'=>a'.tmps.size=n∧a'.defers=[]∧Q e (cu a') w') fuel L a w:=by
  intro d
  induction d with
  | zero=>
   intro k fuel L a w hk hmk Dv hL ie hf g1 g2 hW
   obtain rfl:k=l.length:=by omega
   rw [List.drop_length] at hW
   have sN:Region.ready .any l.toArray L=[]:=by
    apply List.eq_nil_iff_forall_not_mem.2
    intro i hi
    obtain ⟨q1,o,ho,_⟩:=mm L i hi
    have bj:i < l.length:=(List.getElem?_eq_some_iff.1 ho).1
    have:=(ie i).2 bj
    simp [hL.1,bj] at q1 this
    rw [q1] at this; cases this
   cases fuel with
   | zero=>exact ⟨sN,g1,g2,hW⟩
   | succ fuel=>exact ⟨fun _=>⟨g1,g2,hW⟩,fun i hi=>by rw [sN] at hi; cases hi⟩
  | succ d ih=>
   intro k fuel L a w hk hmk Dv hL ie hf g1 g2 hW
   have K5:k < l.length:=by omega
   obtain ⟨o,ho⟩ : ∃ o,l[k]? = some o:=⟨l[k],List.getElem?_eq_getElem K5⟩
   have Vc:L.getD k false=false:=by
    cases hb:L.getD k false with
    | false=>rfl
    | true=>exact absurd ((ie k).1 hb) (Nat.lt_irrefl _)
   have n4:k∈Region.ready .any l.toArray L:=DE L k o hL.1 ho Vc fun e he=>(ie _).2 (wP k o ho e he)
   have X5:l.drop k=o :: l.drop (k+1):=by rw [List.drop_eq_getElem_cons K5]; congr 1; exact Option.some.inj ((List.getElem?_eq_getElem K5).symm.trans ho)
   rw [X5] at hW
   have hc:=Hf L k hL.1 K5 Vc
   cases fuel with
   | zero=>omega
   | succ fuel=>
    refine ⟨fun h=>(by rw [h] at n4; cases n4),fun i hi=>?_⟩
    obtain ⟨q1,oi,nb,dw⟩:=mm L i hi
    have fi:i < l.length:=(List.getElem?_eq_some_iff.1 nb).1
    have uK:L.getD i false=false:=getD_both q1
    have hik:i=k:=by
     rcases Nat.lt_trichotomy i k with h | h | h
     ·have:=(ie i).2 h; rw [uK] at this; cases this
     ·exact h
     ·have:=ji L hL i k (fun o' cg=>by have:o'=oi:=Option.some.inj (cg.symm.trans nb); subst this; exact dw) ((Ez i (by omega) fi k h).resolve_right fun hz=>absurd (Vb k hz) (by omega))
      rw [Vc] at this; cases this
    subst hik
    have MD:oi=o:=Option.some.inj (nb.symm.trans ho)
    subst MD
    have Fg:∀ k',oi.dst=some k'→k' < a.tmps.size:=by
     intro k' xg
     have vb:oi∈l:=List.mem_of_getElem? nb
     simp only [de,List.all_eq_true] at hd
     have:=hd oi vb
     rw [xg] at this
     rw [g1]
     exact Nat.lt_of_succ_le (Nat.le_of_ble_eq_true this)
    have CC:=Gi L i oi hL nb dw
    have z7:∀ j,(L.setIfInBounds i true).getD j false=true↔j < i+1:=by
     intro j
     rw [getSet L i j hL.1 fi,ie j]
     omega
    unfold wpOp
    rw [show (l.toArray)[i]? = some oi by simpa using nb]
    simp only []
    rw [z6 (by rw [g1]; exact hd)]
    rcases hW with ⟨hw,hW⟩ | ⟨hw,hW⟩
    ·rw [if_pos hw]
     exact .inl (hW.wp fun v w' hv=>ih (i+1) fuel _ _ _ (by omega) (by omega) (by omega) CC z7 (by omega) (by rw [js]; exact g1) (by rw [gp]; exact g2) (by rw [kp Fg]; exact hv))
    ·rw [if_neg (by rw [hw]; exact Bool.false_ne_true)]
     exact ih (i+1) fuel _ _ _ (by omega) (by omega) (by omega) CC z7 (by omega) (by rw [js]; exact g1) (by rw [gp]; exact g2) (by rw [kp Fg]; exact hW)
 have head:∀ (fuel:Nat) (L:Array Bool) (a:Act) (w:World) (g:Nat→List Nat),Cl L→(∀ j,L.getD j false=true→j < m)→L.toList.count false≤fuel→a.tmps.size=n→a.defers=[]→
   zZ l m S U r0 w0 H (fun j=>L.getD j false=true) g (cu a) w→wpAny P .any l.toArray (fun e a' w'=>a'.tmps.size=n∧a'.defers=[]∧Q e (cu a') w') fuel L a w:=by
  intro fuel
  induction fuel with
  | zero=>
   intro L a w g hL uI hf g1 g2 inv
   have dw:∀ j,j < l.length→L.getD j false=true:=by
    intro j hj
    cases hb:L.getD j false with
    | true=>rfl
    | false=>have:=Hf L j hL.1 hj hb; omega
   have ie:∀ j,L.getD j false=true↔j < m:=fun j=>⟨uI j,fun h=>dw j (by omega)⟩
   refine tail _ m 0 L a w rfl (Nat.le_refl _) G8 hL ie hf g1 g2 (next g _ _ ?_)
   exact ⟨inv.jc,fun hk=>inv.Bq fun k xp=>hk k ((ie k).1 xp),inv.vg,fun j hj=>inv.vd j ((ie j).2 hj),fun j hj hk=>inv.done j ((ie j).2 hj) (fun k xp=>hk k ((ie k).1 xp)),fun j hj=>inv.tF j ((ie j).2 hj),inv.other,fun j hj b hb=>⟨(inv.fresh j ((ie j).2 hj) b hb).1.imp (fun h=>h) fun h=>⟨h.1,h.2.imp fun k hk=>⟨(ie k).1 hk.1,hk.2⟩⟩,(inv.fresh j ((ie j).2 hj) b hb).2⟩,fun i j hi hj=>inv.wG i j ((ie i).2 hi) ((ie j).2 hj)⟩
  | succ fuel ih=>
   intro L a w g hL uI hf g1 g2 inv
   by_cases dw:∀ j,j < m→L.getD j false=true
   ·have ie:∀ j,L.getD j false=true↔j < m:=fun j=>⟨uI j,dw j⟩
    refine tail _ m _ L a w rfl (Nat.le_refl _) G8 hL ie hf g1 g2 (next g _ _ ?_)
    exact ⟨inv.jc,fun hk=>inv.Bq fun k xp=>hk k ((ie k).1 xp),inv.vg,fun j hj=>inv.vd j ((ie j).2 hj),fun j hj hk=>inv.done j ((ie j).2 hj) (fun k xp=>hk k ((ie k).1 xp)),fun j hj=>inv.tF j ((ie j).2 hj),inv.other,fun j hj b hb=>⟨(inv.fresh j ((ie j).2 hj) b hb).1.imp (fun h=>h) fun h=>⟨h.1,h.2.imp fun k hk=>⟨(ie k).1 hk.1,hk.2⟩⟩,(inv.fresh j ((ie j).2 hj) b hb).2⟩,fun i j hi hj=>inv.wG i j ((ie i).2 hi) ((ie j).2 hj)⟩
   ·obtain ⟨j0,Q4,Ff⟩ : ∃ j,j < m∧L.getD j false=false:=by
     apply Classical.byContradiction
     intro sN
     apply dw
     intro j hj
     cases hb:L.getD j false with
     | true=>rfl
     | false=>exact absurd ⟨j,hj,hb⟩ sN
    have KN:∃ i,i∈Region.ready .any l.toArray L:=by
     have:∀ k,(∃ j,j < k∧j < m∧L.getD j false=false)→∃ i,i∈Region.ready .any l.toArray L:=by
      intro k
      induction k with
      | zero=>rintro ⟨j,h,_⟩; omega
      | succ k Ds=>
       rintro ⟨j,Mz,Br,sO⟩
       by_cases sy:∃ j,j < k∧j < m∧L.getD j false=false
       ·exact Ds sy
       ·obtain rfl:j=k:=by
         apply Classical.byContradiction
         intro h
         exact sy ⟨j,by omega,Br,sO⟩
        have Bt:j < l.length:=by omega
        refine ⟨j,DE L j l[j] hL.1 (List.getElem?_eq_getElem Bt) sO fun e he=>?_⟩
        have bj:=wP j _ (List.getElem?_eq_getElem Bt) e he
        cases hb:L.getD e.on false with
        | true=>rfl
        | false=>exact absurd ⟨e.on,bj,by omega,hb⟩ sy
     exact this (j0+1) ⟨j0,by omega,Q4,Ff⟩
    have main:∀ i oi,i < m→l[i]? = some oi→L.getD i false=false→(∀ e∈oi.after.toList.filter (Region.binds .any),L.getD e.on false=true)→
      (Region.wanted oi (yl l (cu a))=true∧fl P oi (cu a) w fun v w'=>wpAny P .any l.toArray (fun e a' w'=>a'.tmps.size=n∧a'.defers=[]∧Q e (cu a') w') fuel (L.setIfInBounds i true) (a.put oi.dst v) w')∨
      (Region.wanted oi (yl l (cu a))=false∧wpAny P .any l.toArray (fun e a' w'=>a'.tmps.size=n∧a'.defers=[]∧Q e (cu a') w') fuel (L.setIfInBounds i true) (a.put oi.dst undef) w):=by
     intro i oi uJ nb uK uL
     have fi:i < l.length:=(List.getElem?_eq_some_iff.1 nb).1
     have mw:∀ o,l[i]? = some o→∀ e∈o.after.toList.filter (Region.binds .any),L.getD e.on false=true:=fun o' cg=>by
      have:o'=oi:=Option.some.inj (cg.symm.trans nb)
      subst this; exact uL
     obtain ⟨s,hs⟩ : ∃ s,S[i]? = some s:=⟨S[i]'(by omega),List.getElem?_eq_getElem (by omega)⟩
     have hc:=Hf L i hL.1 fi uK
     have CC:=Gi L i oi hL nb uL
     have Bv:∀ j,(L.setIfInBounds i true).getD j false=true→j < m:=by
      intro j hj
      rcases (getSet L i j hL.1 fi).1 hj with rfl | hj
      ·exact uJ
      ·exact uI j hj
     have DF:∀ k,L.getD k false=true→k≠i∧i ∉ (cf l).getD k []:=by
      intro k hk
      refine ⟨fun h=>(by rw [h,uK] at hk; cases hk),fun vb=>?_⟩
      have:=ji L hL k i (fun o' cg e' ud=>hL.2 k o' cg hk e' ud) vb
      rw [uK] at this; cases this
     have ow:=OS i uJ oi s nb hs g (cu a) w inv.jc (fun hV=>by
       have sN:∀ k,L.getD k false=true→l.length ∉ U.getD k []:=fun k hk Hg=>by
        simp only [zV,List.all_eq_true,List.mem_range,Bool.or_eq_true,Bool.not_eq_true',List.contains_eq_mem,decide_eq_false_iff_not,decide_eq_true_eq] at hV
        rcases hV k (uI k hk) with (h | h) | h
        ·exact h Hg
        ·exact (DF k hk).1 (Nat.eq_of_beq_eq_true h)
        ·exact (DF k hk).2 h
       have h0:=inv.Bq sN
       exact ⟨h0.1,h0.2,fun j hj b hb=>(inv.fresh j (ji L hL i j mw hj) b hb).1.elim (fun h=>h) fun h=>absurd h.2.choose_spec.2 (sN _ h.2.choose_spec.1)⟩) (fun j hj=>inv.tF j (ji L hL i j mw hj)) (fun j hj=>by
       simp only [uG,Bool.and_eq_true,List.all_eq_true,List.mem_range,Bool.or_eq_true,Bool.not_eq_true',List.contains_eq_mem,decide_eq_false_iff_not,decide_eq_true_eq] at hj
       refine inv.done j (ji L hL i j mw hj.1) fun k hk Mz=>?_
       rcases hj.2 k (uI k hk) with (h | h) | h
       ·exact h Mz
       ·exact (DF k hk).1 (Nat.eq_of_beq_eq_true h)
       ·exact (DF k hk).2 h) inv.other
      (fun i' tX j' ib=>inv.wG i' j' (ji L hL i i' mw tX) (ji L hL i j' mw ib))
      (fun j hj b hb=>⟨(inv.fresh j (ji L hL i j mw hj) b hb).1.imp (fun h=>h) (·.1),(inv.fresh j (ji L hL i j mw hj) b hb).2⟩)
     have hblk:∀ b∈p7 g (U.getD i []),(∃ u,u∈U.getD i []∧L.getD u false=true∧b∈g u)∨(l.length∈U.getD i []∧b∈g l.length):=by
      intro b hb
      obtain ⟨u,hu,fy⟩:=List.mem_flatMap.1 hb
      rcases Uy i uJ u hu with rfl | h
      ·exact .inr ⟨hu,fy⟩
      ·exact .inl ⟨u,hu,ji L hL i u mw h,fy⟩
     have Fg:∀ k',oi.dst=some k'→k' < a.tmps.size:=by
      intro k' xg
      have vb:oi∈l:=List.mem_of_getElem? nb
      simp only [de,List.all_eq_true] at hd
      have:=hd oi vb
      rw [xg] at this
      rw [g1]
      exact Nat.lt_of_succ_le (Nat.le_of_ble_eq_true this)
     have zd:bx l i=oi.dst:=by unfold bx; rw [nb]; rfl
     have qe:∀ v t,(oi.dst≠some t)→cu (a.put oi.dst v) t=cu a t:=by
      intro v t ht
      rw [kp Fg]
      cases xq:oi.dst with
      | none=>rfl
      | some d=>
       show (bif Nat.beq t d then v else cu a t)=cu a t
       cases hb:Nat.beq t d with
       | false=>rfl
       | true=>exact absurd (by rw [xq,Nat.eq_of_beq_eq_true hb]) ht
     have Hh:∀ v d,oi.dst=some d→cu (a.put oi.dst v) d=v:=by
      intro v d xq
      rw [kp Fg,xq]
      show (bif Nat.beq d d then v else cu a d)=v
      rw [Nat.beq_refl]; rfl
     have step:∀ v w' f,an (p7 g (U.getD i [])) w w'→(∀ b∈f,(b∈p7 g (U.getD i [])∨w.heap.size≤b)∧b < w'.heap.size)→(if s.b then s.V f w' (cu a) v else v=undef)→
       wpAny P .any l.toArray (fun e a' w'=>a'.tmps.size=n∧a'.defers=[]∧Q e (cu a') w') fuel (L.setIfInBounds i true) (a.put oi.dst v) w':=by
      intro v w' f hC uH hV
      have tc:∀ j',j' < m→j'≠i→∀ t,bx l j'=some t→cu (a.put oi.dst v) t=cu a t:=by
       intro j' ib ny t ht
       refine qe v t fun h=>ny (df j' i t ?_ ?_)
       ·rw [kn ib]; exact ht
       ·rw [kn uJ,zd]; exact h
      have MA:∀ b∈p7 g (U.getD i []),¬ N b:=fun b hb hn=>by
       rcases hblk b hb with ⟨u,_,ov,fy⟩ | ⟨_,fy⟩
       ·rcases (inv.fresh u ov b fy).1 with h | h
        ·have:=(hN b hn).1; omega
        ·exact (hN b hn).2 h.1
       ·exact (hN b hn).2 (inv.vg b fy)
      refine ih _ _ _ (fun j=>if j=i then f else if j∈U.getD i [] then [] else g j) CC Bv (by omega) (by rw [js]; exact g1) (by rw [gp]; exact g2)
       ⟨inv.jc.then hC fun b hb=>(by
        rcases hblk b hb with ⟨u,_,ov,fy⟩ | ⟨_,fy⟩
        ·exact (inv.fresh u ov b fy).1.elim .inr fun h=>.inl h.1
        ·exact .inl (inv.vg b fy)),fun sN=>?_,?_,fun j hj=>?_,?_,fun j hj d uM sj si=>?_,?_,?_,?_⟩
      ·have xk:l.length ∉ U.getD i []:=sN i ((getSet L i i hL.1 fi).2 (.inl rfl))
       have h0:=inv.Bq fun k hk=>sN k ((getSet L i k hL.1 fi).2 (.inr hk))
       refine ⟨h0.1.then hC fun b hb=>?_,?_⟩
       ·rcases hblk b hb with ⟨u,_,ov,fy⟩ | ⟨h,_⟩
        ·exact (inv.fresh u ov b fy).1.elim .inr fun ⟨_,k,hk,Hg⟩=>absurd Hg (sN k ((getSet L i k hL.1 fi).2 (.inr hk)))
        ·exact absurd h xk
       ·show (if l.length=i then f else if l.length∈U.getD i [] then [] else g l.length)=H
        rw [if_neg (by omega),if_neg xk]
        exact h0.2
      ·intro b hb
       have cy:b∈(if l.length=i then f else if l.length∈U.getD i [] then [] else g l.length):=hb
       rw [if_neg (by omega)] at cy
       split at cy
       ·cases cy
       ·exact inv.vg b cy
      ·intro b hb hv
       have nz:b∈(if l.length=i then f else if l.length∈U.getD i [] then [] else g l.length):=hv
       rw [if_neg (by omega)] at nz
       split at nz
       ·cases nz
       ·rename_i UA
        have cy:b∈(if j=i then f else if j∈U.getD i [] then [] else g j):=hb
        split at cy
        ·rcases (uH b cy).1 with h | h
         ·rcases hblk b h with ⟨u,_,ov,fy⟩ | ⟨h,_⟩
          ·exact inv.vd u ov b fy nz
          ·exact UA h
         ·have h1:=hH b (inv.vg b nz)
          have h2:=inv.jc.size
          omega
        ·rename_i ks
         split at cy
         ·cases cy
         ·exact inv.vd j (((getSet L i j hL.1 fi).1 hj).resolve_left ks) b cy nz
      ·intro j hj ze
       refine ⟨fun d uM=>?_,fun UB sj si MB=>?_⟩
       rotate_left
       ·by_cases ks:j=i
        ·subst ks
         rw [hs] at si
         cases si
         rw [if_pos MB] at hV
         refine ⟨v,?_⟩
         simp only [if_pos]
         exact rj j s hs _ [] w' w' (cu a) _ v (an.refl _ _) (fun _ _ h=>nomatch h) (fun _ h=>nomatch h) (fun j' ib t ht=>tc j' (by have:=(qp j j' ib).1; omega) (by have:=(qp j j' ib).1; omega) t ht) hV
        ·have mx:=((getSet L i j hL.1 fi).1 hj).resolve_left ks
         have sO:j ∉ U.getD i []:=ze i ((getSet L i i hL.1 fi).2 (.inl rfl))
         obtain ⟨x,hx⟩:=(inv.done j mx (fun k hk=>ze k ((getSet L i k hL.1 fi).2 (.inr hk)))).2 UB sj si MB
         have j7:(fun j=>if j=i then f else if j∈U.getD i [] then [] else g j) j=g j:=by
          show (if j=i then f else if j∈U.getD i [] then [] else g j)=g j
          rw [if_neg ks,if_neg sO]
         rw [j7]
         refine ⟨x,rj j sj si _ _ _ _ (cu a) _ _ hC (fun b cy Hi=>?_) MA (fun j' ib t ht=>tc j' (by have:=(qp j j' ib).1; have:=uI j mx; omega) (fun h=>?_) t ht) hx⟩
         ·rcases hblk b Hi with ⟨u,Bw,ov,fy⟩ | ⟨_,fy⟩
          ·exact inv.wG j u mx ov (fun h=>sO (h ▸ Bw)) b cy fy
          ·exact inv.vd j mx b cy fy
         ·subst h
          have:=ji L hL j j' (fun o' cg e' ud=>hL.2 j o' cg mx e' ud) ib
          rw [uK] at this; cases this
       by_cases ks:j=i
       ·subst ks
        rw [hs]
        simp only [if_pos]
        rw [zd] at uM
        rw [Hh v d uM]
        split
        ·rename_i hb
         rw [if_pos hb] at hV
         exact rj j s hs _ [] w' w' (cu a) _ v (an.refl _ _) (fun _ _ h=>nomatch h) (fun _ h=>nomatch h) (fun j' ib t ht=>tc j' (by have:=(qp j j' ib).1; omega) (by have:=(qp j j' ib).1; omega) t ht) hV
        ·rename_i hb
         rw [if_neg hb] at hV
         exact hV
       ·have mx:=((getSet L i j hL.1 fi).1 hj).resolve_left ks
        have Br:=uI j mx
        have sO:j ∉ U.getD i []:=ze i ((getSet L i i hL.1 fi).2 (.inl rfl))
        have xq:oi.dst≠some d:=by
         intro h
         apply ks
         refine df j i d ?_ ?_
         ·rw [kn Br]; exact uM
         ·rw [kn uJ,zd]; exact h
        have:=(inv.done j mx (fun k hk=>ze k ((getSet L i k hL.1 fi).2 (.inr hk)))).1 d uM
        rw [qe v d xq]
        have j7:(fun j=>if j=i then f else if j∈U.getD i [] then [] else g j) j=g j:=by
         show (if j=i then f else if j∈U.getD i [] then [] else g j)=g j
         rw [if_neg ks,if_neg sO]
        rw [j7]
        cases si:S[j]? with
        | none=>trivial
        | some sj=>
         rw [si] at this
         simp only [] at this ⊢
         split
         ·rename_i hb
          rw [if_pos hb] at this
          refine rj j sj si _ _ _ _ (cu a) _ _ hC (fun b cy Hi=>?_) MA (fun j' ib t ht=>tc j' (by have:=(qp j j' ib).1; omega) (fun h=>?_) t ht) this
          rotate_left
          ·subst h
           have:=ji L hL j j' (fun o' cg e' ud=>hL.2 j o' cg mx e' ud) ib
           rw [uK] at this; cases this
          rcases hblk b Hi with ⟨u,Bw,ov,fy⟩ | ⟨_,fy⟩
          ·exact inv.wG j u mx ov (fun h=>sO (h ▸ Bw)) b cy fy
          ·exact inv.vd j mx b cy fy
         ·rename_i hb
          rw [if_neg hb] at this
          exact this
      ·by_cases ks:j=i
       ·subst ks
        rw [hs] at si
        cases si
        rw [zd] at uM
        rw [Hh v d uM]
        split
        ·rename_i hb
         rw [if_pos hb] at hV
         exact ⟨f,w',rj j s hs _ [] w' w' (cu a) _ v (an.refl _ _) (fun _ _ h=>nomatch h) (fun _ h=>nomatch h) (fun j' ib t ht=>tc j' (by have:=(qp j j' ib).1; omega) (by have:=(qp j j' ib).1; omega) t ht) hV⟩
        ·rename_i hb
         rw [if_neg hb] at hV
         exact hV
       ·have mx:=((getSet L i j hL.1 fi).1 hj).resolve_left ks
        have Br:=uI j mx
        have xq:oi.dst≠some d:=by
         intro h
         apply ks
         refine df j i d ?_ ?_
         ·rw [kn Br]; exact uM
         ·rw [kn uJ,zd]; exact h
        have:=inv.tF j mx d uM sj si
        rw [qe v d xq]
        split
        ·rename_i hb
         rw [if_pos hb] at this
         obtain ⟨f1,w1,h1⟩:=this
         refine ⟨f1,w1,rj j sj si _ [] w1 w1 (cu a) _ _ (an.refl _ _) (fun _ _ h=>nomatch h) (fun _ h=>nomatch h) (fun j' ib t ht=>tc j' (by have:=(qp j j' ib).1; omega) (fun h=>?_) t ht) h1⟩
         subst h
         have:=ji L hL j j' (fun o' cg e' ud=>hL.2 j o' cg mx e' ud) ib
         rw [uK] at this; cases this
        ·rename_i hb
         rw [if_neg hb] at this
         exact this
      ·intro t ht
       rw [qe v t (fun h=>ht i uJ (by rw [zd]; exact h))]
       exact inv.other t ht
      ·intro j hj b hb
       by_cases ks:j=i
       ·simp only [if_pos ks] at hb
        have hh:=uH b hb
        have uC:=inv.jc.size
        rcases hh.1 with h | h
        ·rcases hblk b h with ⟨u,_,ov,fy⟩ | ⟨hv,fy⟩
         ·exact ⟨(inv.fresh u ov b fy).1.imp (fun h=>h) fun h=>⟨h.1,h.2.imp fun k hk=>⟨(getSet L i k hL.1 fi).2 (.inr hk.1),hk.2⟩⟩,hh.2⟩
         ·exact ⟨.inr ⟨inv.vg b fy,i,(getSet L i i hL.1 fi).2 (.inl rfl),hv⟩,hh.2⟩
        ·exact ⟨.inl (by omega),hh.2⟩
       ·have mx:=((getSet L i j hL.1 fi).1 hj).resolve_left ks
        simp only [if_neg ks] at hb
        split at hb
        ·cases hb
        ·have h1:=inv.fresh j mx b hb
         have h2:=hC.size
         exact ⟨h1.1.imp (fun h=>h) fun h=>⟨h.1,h.2.imp fun k hk=>⟨(getSet L i k hL.1 fi).2 (.inr hk.1),hk.2⟩⟩,by omega⟩
      ·have tL:∀ j',(L.setIfInBounds i true).getD j' false=true→j'≠i→∀ b∈f,b ∉ (if j'∈U.getD i [] then [] else g j'):=by
        intro j' ib e2 b hb cy
        have Hj:=((getSet L i j' hL.1 fi).1 ib).resolve_left e2
        split at cy
        ·cases cy
        ·rename_i sO
         rcases (uH b hb).1 with h | h
         ·rcases hblk b h with ⟨u,Bw,ov,fy⟩ | ⟨_,fy⟩
          ·exact inv.wG u j' ov Hj (fun h=>sO (h ▸ Bw)) b fy cy
          ·exact inv.vd j' Hj b cy fy
         ·have:=inv.fresh j' Hj b cy
          omega
       intro i' j' tX ib ny b hb cy
       by_cases e1:i'=i
       ·have e2:j'≠i:=fun h=>ny (e1.trans h.symm)
        simp only [if_pos e1] at hb
        simp only [if_neg e2] at cy
        exact tL j' ib e2 b hb cy
       ·simp only [if_neg e1] at hb
        by_cases e2:j'=i
        ·simp only [if_pos e2] at cy
         exact tL i' tX e1 b cy hb
        ·simp only [if_neg e2] at cy
         split at hb
         ·cases hb
         ·split at cy
          ·cases cy
          ·exact inv.wG i' j' (((getSet L i i' hL.1 fi).1 tX).resolve_left e1) (((getSet L i j' hL.1 fi).1 ib).resolve_left e2) ny b hb cy
     cases hb:s.b with
     | true=>
      rw [if_pos hb] at ow
      refine .inl ⟨ow.1,qo ow.2 ?_⟩
      rintro v w' ⟨hC,f,uH,hV⟩
      exact step v w' f hC uH (by rw [if_pos hb]; exact hV)
     | false=>
      rw [if_neg (by rw [hb]; exact Bool.false_ne_true)] at ow
      exact .inr ⟨ow,step undef w [] (an.refl _ _) (fun b h=>nomatch h) (by rw [if_neg (by rw [hb]; exact Bool.false_ne_true)])⟩
    by_cases Ro:∃ z,z∈Z∧L.getD z false=false∧∀ o,l[z]? = some o→∀ e∈o.after.toList.filter (Region.binds .any),L.getD e.on false=true
    ·obtain ⟨z,hz,Vd,Y8⟩:=Ro
     obtain ⟨⟨hzm,hzf⟩,M0⟩:=hZ z hz
     cases FC:l[z]? with
     | none=>rw [FC] at M0; cases M0
     | some oz=>
      rw [FC] at M0
      simp only [Bool.and_eq_true] at M0
      obtain ⟨hmv,FB⟩:=M0
      have O8:=Y8 oz FC
      have Rp:Region.free .any l.toArray L z=true:=MZ (fun j hj=>ji L hL z j (fun o' cg=>Y8 o' cg) hj) hzf
      have Y9:z∈Region.ready .any l.toArray L:=DE L z oz hL.1 FC Vd O8
      obtain ⟨dz,opz,tyz,pz,az,gz⟩:=oz
      cases opz <;> first | exact (Bool.false_ne_true hmv).elim | skip
      case move x=>
       cases gz with
       | some _=>simp at FB
       | none=>
        have hev:∀ w',(execOp a.eval ⟨dz,.move x,tyz,pz,az,none⟩).run P w' = .ok (.value (a.eval x)) w':=fun _=>rfl
        refine wpAny_take (by simpa using FC) Q3 Rp (by simpa using Y9) (fun c a w h=>absurd h.2.2 (hp _ _ _)) (v:=a.eval x) (.inl ⟨rfl,hev⟩) ?_
        rcases main z _ (Vb z hz) FC Vd O8 with ⟨_,h⟩ | ⟨h,_⟩
        ·rw [r6]; exact h
        ·exact absurd h (by simp [Region.wanted])
      case extract x k=>
       cases gz with
       | some _=>simp at FB
       | none=>
        rcases main z _ (Vb z hz) FC Vd O8 with ⟨_,h⟩ | ⟨h,_⟩
        ·obtain ⟨v,hv,hk⟩:=I3 h
         refine wpAny_take (by simpa using FC) Q3 Rp (by simpa using Y9) (fun c a w h=>absurd h.2.2 (hp _ _ _)) (v:=v) (.inl ⟨rfl,fun w'=>by rw [r6]; exact hv w'⟩) ?_
         exact hk
        ·exact absurd h (by simp [Region.wanted])
    refine ⟨fun h=>(by obtain ⟨i,hi⟩:=KN; rw [h] at hi; cases hi),fun i hi=>?_⟩
    obtain ⟨q1,oi,nb,uL⟩:=mm L i hi
    have fi:i < l.length:=(List.getElem?_eq_some_iff.1 nb).1
    have uK:L.getD i false=false:=getD_both q1
    have uJ:i < m:=by
     rcases Nat.lt_or_ge i m with h | h
     ·exact h
     ·have bad:∀ j,j < i→L.getD j false=false→False:=by
       intro j
       induction j using Nat.strongRecOn with
       | _ j ih=>
        intro ks sO
        rcases Ez i h fi j ks with hj | hj
        ·have:=ji L hL i j (fun o' cg=>by have:o'=oi:=Option.some.inj (cg.symm.trans nb); subst this; exact uL) hj
         rw [sO] at this; cases this
        ·refine Ro ⟨j,hj,sO,fun o ho e he=>?_⟩
         cases hb:L.getD e.on false with
         | true=>rfl
         | false=>have bj:=wP j o ho e he; exact (ih e.on bj (by omega) hb).elim
      exact (bad j0 (by omega) Ff).elim
    unfold wpOp
    rw [show (l.toArray)[i]? = some oi by simpa using nb]
    simp only []
    rw [z6 (by rw [g1]; exact hd)]
    rcases main i oi uJ nb uK uL with ⟨hw,h⟩ | ⟨hw,h⟩
    ·rw [if_pos hw]
     exact .inl (h.wp fun v w' hv=>hv)
    ·rw [if_neg (by rw [hw]; exact Bool.false_ne_true)]
     exact h
 refine head _ _ a _ (fun j=>if j=l.length then H else []) ⟨by simp,?_⟩ ?_ ?_ h1 h2 ⟨an.nil (an.drew _ _),fun _=>⟨an.drew _ _,by simp⟩,fun b hb=>by simpa using hb,?_,?_,?_,?_,?_,?_⟩
 ·intro j o ho hj
  rw [getD_replicate_false] at hj; cases hj
 ·intro j hj
  rw [getD_replicate_false] at hj; cases hj
 ·simp
 ·intro j hj
  rw [getD_replicate_false] at hj; cases hj
 ·intro j hj
  rw [getD_replicate_false] at hj; cases hj
 ·intro j hj
  rw [getD_replicate_false] at hj; cases hj
 ·intro t _
  rw [h3]
 ·intro j hj
  rw [getD_replicate_false] at hj; cases hj
 ·intro i j hi
  rw [getD_replicate_false] at hi; cases hi
theorem kh.val {m i:Nat} {U:LL} {H:LN} {o:Oper} {v:Value} (ho:l[i]? = some o) (hs:S[i]? = some ⟨true,pl fun _ _ u=>u=v⟩) (hg:o.guard=none)
  (h:∀ (g:Nat→List Nat) (r:NV) (w:World),an H w0 w→(∀ j∈(cf l).getD i [],Old l S j r)→(∀ j,uG l U m i j=true→xj l S j g r w)→(∀ t,(∀ j,j < m→bx l j≠some t)→r t=r0 t)→
   (execOp (ev r) o).run P w = .ok (.value v) w):kh P l m S U r0 w0 H i:=by
 intro o' s' cg ec g r w hC hV hO hd kj xl qe
 obtain rfl:o=o':=Option.some.inj (ho.symm.trans cg)
 obtain rfl:_=s':=Option.some.inj (hs.symm.trans ec)
 rw [if_pos rfl]
 refine ⟨by unfold Region.wanted; rw [hg],?_⟩
 unfold fl
 rw [h g r w hC hO hd kj]
 exact ⟨an.refl _ _,[],(fun _ h=>nomatch h),rfl⟩
theorem kh.call {m i:Nat} {U:LL} {H:LN} {o:Oper} {v:Value} {f:FuncId} (ho:l[i]? = some o) (hs:S[i]? = some ⟨true,pl fun _ _ u=>u=v⟩) (hg:o.guard=none)
  (h:∀ (g:Nat→List Nat) (r:NV) (w:World),an H w0 w→(∀ j∈(cf l).getD i [],Old l S j r)→(∀ j,uG l U m i j=true→xj l S j g r w)→(∀ t,(∀ j,j < m→bx l j≠some t)→r t=r0 t)→
   ∃ args,(execOp (ev r) o).run P w = .ok (.enter f args) w∧Calls P f args w fun e w'=>e = .returned v∧an [] w w'):kh P l m S U r0 w0 H i:=by
 intro o' s' cg ec g r w hC hV hO hd kj xl qe
 obtain rfl:o=o':=Option.some.inj (ho.symm.trans cg)
 obtain rfl:_=s':=Option.some.inj (hs.symm.trans ec)
 rw [if_pos rfl]
 refine ⟨by unfold Region.wanted; rw [hg],?_⟩
 unfold fl
 obtain ⟨args,h1,h2⟩:=h g r w hC hO hd kj
 rw [h1]
 exact h2.mono fun e w' ⟨he,hc⟩=>⟨v,he,hc.nil,[],(fun _ h=>nomatch h),rfl⟩
theorem kh.mem {m i:Nat} {U:LL} {H:LN} {o:Oper} {V:List Nat→World→Value→Prop} (ho:l[i]? = some o) (hs:S[i]? = some ⟨true,pl V⟩) (hg:o.guard=none)
  (h:∀ (g:Nat→List Nat) (r:NV) (w:World),an H w0 w→(∀ j∈(cf l).getD i [],Old l S j r)→(∀ j,uG l U m i j=true→xj l S j g r w)→(∀ t,(∀ j,j < m→bx l j≠some t)→r t=r0 t)→
   fl P o r w fun v w'=>an [] w w'∧∃ f,(∀ b∈f,w.heap.size≤b∧b < w'.heap.size)∧V f w' v):kh P l m S U r0 w0 H i:=by
 intro o' s' cg ec g r w hC hV hO hd kj xl qe
 obtain rfl:o=o':=Option.some.inj (ho.symm.trans cg)
 obtain rfl:_=s':=Option.some.inj (hs.symm.trans ec)
 rw [if_pos rfl]
 refine ⟨by unfold Region.wanted; rw [hg],qo (h g r w hC hO hd kj) ?_⟩
 rintro v w' ⟨hC,f,hf,hV⟩
 exact ⟨hC.nil,f,fun b hb=>⟨.inr (hf b hb).1,(hf b hb).2⟩,hV⟩
theorem kh.OF {m i:Nat} {U:LL} {H:LN} {o:Oper} {V:List Nat→World→(Nat→Value)→Value→Prop} (ho:l[i]? = some o) (hs:S[i]? = some ⟨true,V⟩) (hg:o.guard=none)
  (h:∀ (g:Nat→List Nat) (r:NV) (w:World),an H w0 w→(∀ j∈(cf l).getD i [],Old l S j r)→(∀ j,uG l U m i j=true→xj l S j g r w)→(∀ t,(∀ j,j < m→bx l j≠some t)→r t=r0 t)→
   fl P o r w fun v w'=>an [] w w'∧∃ f,(∀ b∈f,w.heap.size≤b∧b < w'.heap.size)∧V f w' r v):kh P l m S U r0 w0 H i:=by
 intro o' s' cg ec g r w hC hV hO hd kj xl qe
 obtain rfl:o=o':=Option.some.inj (ho.symm.trans cg)
 obtain rfl:_=s':=Option.some.inj (hs.symm.trans ec)
 rw [if_pos rfl]
 refine ⟨by unfold Region.wanted; rw [hg],qo (h g r w hC hO hd kj) ?_⟩
 rintro v w' ⟨hC,f,hf,hV⟩
 exact ⟨hC.nil,f,fun b hb=>⟨.inr (hf b hb).1,(hf b hb).2⟩,hV⟩
def Eu {α:Type} (T:ah α) (x:α):List Nat→World→Value→Prop:=fun f w v=>T.rep w.heap [v] x f∧f.Nodup
def aaI (cs:LV) (e:TI) (n:Nat):List Nat→World→Value→Prop:=fun f w v=>∃ b,f=[b]∧v = .slice (some ⟨b,0,none⟩) n n∧Row w b cs e
def GS (a:LN) (l:LO) (s:gx):Prop:=∀ f F (w w':World) (r r':NV) v,an F w w'→(∀ b∈f,b ∉ F)→(∀ j∈a,∀ t,bx l j=some t→r' t=r t)→s.V f w r v→s.V f w' r' v
theorem M1 {a:LN} {b:Bool} {V:List Nat→World→Value→Prop} (h:∀ f F (w w':World) v,an F w w'→(∀ b∈f,b ∉ F)→V f w v→V f w' v):GS a l ⟨b,pl V⟩:=
 fun f F w w' _ _ v hC hn _ hv=>h f F w w' v hC hn hv
theorem KA {a:LN} {b:Bool} {u:Value}:GS a l ⟨b,pl fun _ _ v=>v=u⟩:=M1 fun _ _ _ _ _ _ _ h=>h
theorem fl.own {α:Type} {T:ah α} {x:α} {o:Oper} {r:NV} {w:World} {f:FuncId} {args:Array Value} (h:(execOp (ev r) o).run P w = .ok (.enter f args) w)
  (hc:Calls P f args w fun e w'=>∃ (v:Value) (k:LN),e = .returned v∧an [] w w'∧OE [] w.heap.size w' T [v] x k) :
  fl P o r w fun v w'=>an [] w w'∧∃ f,(∀ b∈f,w.heap.size≤b∧b < w'.heap.size)∧Eu T x f w' v:=by
 unfold fl
 rw [h]
 exact hc.mono fun e w' ⟨v,k,he,hC,ho⟩=>⟨v,he,hC,k,fun b hb=>⟨ho.fresh b hb,T.lt ho.1 b hb⟩,ho.1,ho.2.1⟩
theorem fl.made {α:Type} {T:ah α} {x:α} {o:Oper} {r:NV} {w:World} (h:∃ v w' f,(execOp (ev r) o).run P w = .ok (.value v) w'∧an [] w w'∧OE [] w.heap.size w' T [v] x f) :
  fl P o r w fun v w'=>an [] w w'∧∃ f,(∀ b∈f,w.heap.size≤b∧b < w'.heap.size)∧Eu T x f w' v:=by
 obtain ⟨v,w',f,hr,hC,ho⟩:=h
 unfold fl
 rw [hr]
 exact ⟨hC,f,fun b hb=>⟨ho.fresh b hb,T.lt ho.1 b hb⟩,ho.1,ho.2.1⟩
theorem vN {f g:LN} (h1:f.Nodup) (h2:g.Nodup) (d:sf f g):(f++g).Nodup:=List.nodup_append.2 ⟨h1,h2,fun a ha _ hb va=>d a ha (va ▸ hb)⟩
theorem fl.vn {α:Type} {E:ah α} {F f:LN} {t e et:TI} {s x:OO} {i:TypeInfo} {z:Value} {sv u:Value} {xs:List α} {y:α} {b:Nat} {r:NV} {w:World} {d:Option Nat} {ty:TI} {pos:String} {af:Array Edge}
  (ht:P.underlying t=some (.slice e)) (hi:P.info? e=some i) (hz:i.zero=some z) (hs:i.size=1) (hE:E.size=1) (y4:z.oneCell'=true)
  (vM:ev r s=sv) (hO:Eu (aL e E) xs f w sv) (hF:∀ b∈f,b∈F) (hx:ev r x = .slice (some ⟨b,0,none⟩) 1 1) (bh:Row w b [u] et) (hy:E.rep w.heap [u] y [])
  (hb:(xs.length+1) * i.bytes≤140737488355328) (yk:xs.length+1≤maxLen) :
  fl P ⟨d,.call ⟨.builtin .append,#[s,x],#[t,t]⟩,ty,pos,af,none⟩ r w fun v w'=>an F w w'∧∃ f',(∀ b∈f',(b∈F∨w.heap.size≤b)∧b < w'.heap.size)∧Eu (aL e E) (xs++[y]) f' w' v:=by
 obtain ⟨v,w',f',h,hC,dy,dj,df⟩:=qf (d:=d) (ty:=ty) (pos:=pos) (af:=af) (g:=none) (ys:=[y]) ht hi hz (by rw [hs,hE]) (by rw [cells_one y4,hE]; rfl) vM hO.1 hO.2 hx bh.at (su hy) (fun _ h=>nomatch h) (by simp) hb yk
 unfold fl
 rw [h]
 refine ⟨hC.mono hF,f',fun b hb=>⟨?_,ah.lt _ dy b hb⟩,dy,df List.nodup_nil⟩
 rcases dj b hb with h | h | h
 ·exact .inl (hF b h)
 ·cases h
 ·exact .inr h
theorem fl.El {t e:TI} {i:TypeInfo} {z u:Value} {x:OO} {r:NV} {w:World} {d:Option Nat} {ty:TI} {pos:String} {af:Array Edge} (ht:P.underlying t=some (.slice e)) (hi:P.info? e=some i) (hz:i.zero=some z)
  (hs:i.size=1) (hx:ev r x=u) (hv:u.oneCell'=true) :
  fl P ⟨d,.buildSlice t 1 #[(0,x)],ty,pos,af,none⟩ r w fun v w'=>an [] w w'∧∃ f,(∀ b∈f,w.heap.size≤b∧b < w'.heap.size)∧aaI [u] e 1 f w' v:=by
 unfold fl
 rw [JN ht hi hz hs (by rw [hx]; exact hv),hx]
 exact ⟨an.alloc _ _ _,[w.heap.size],fun b hb=>by rw [List.mem_singleton.1 hb]; simp,w.heap.size,rfl,rfl,heap_alloc_new w _⟩
end
end Go.Li
