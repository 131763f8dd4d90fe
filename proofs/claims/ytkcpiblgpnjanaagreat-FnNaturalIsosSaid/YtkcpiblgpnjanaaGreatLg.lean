/- A region that draws its order, whatever it holds: its head in any order, its tail one behind the other. No condition. -/
import Derived.Test.YtkcpiblgpnjanaaGreatLf
import Derived.Still
namespace Go.Li
open Go
def l8 (acc:LL) (o:Oper):List (List Nat):=
 acc++[(o.after.toList.filter (Region.binds .any)).flatMap fun e=>e.on :: acc.getD e.on []]
def cj (l:LO):List (List Nat):=l.foldl l8 []
structure gv where
 b:Bool
 V:List Nat→World→(Nat→Value)→Value→Prop
abbrev pl (V:List Nat→World→Value→Prop):List Nat→World→(Nat→Value)→Value→Prop:=fun f w _ v=>V f w v
def mf (P:Program) (n:Nat) (l:LO) (Q:Exit→(Nat→Value)→World→Prop) (r:NV) (w:World):Prop:=
 ∀ a:Act,a.tmps.size=n→a.defers=[]→cw a=r→wpAny P .any l.toArray (fun e a' w'=>a'.tmps.size=n∧a'.defers=[]∧Q e (cw a') w') l.toArray.size (Array.replicate l.toArray.size false) a { w with drawn:=w.drawn+1 }
theorem mf.W {P:Program} {n id:Nat} {l:LO} {Q:Exit→(Nat→Value)→World→Prop} {r:NV} {w:World} (hm:P.follows .mixedOrders=true) (h:mf P n l Q r w):W P n (.region id l.toArray true) Q r w:=
 fun a h1 h2 h3=>wp_region_any hm (h a h1 h2 h3)
def Cv (π:LN) (o:Oper):Oper:=⟨o.dst,o.op,o.type,o.pos,(o.after.toList.map fun e=>⟨π.getD e.on 0,e.ground⟩).toArray,o.guard⟩
def qj (l:LO) (σ π:LN):List Oper:=σ.map fun k=>Cv π (l.getD k default)
def ON (l:LO) (σ π:LN):Bool:=
 Nat.beq σ.length l.length && Nat.beq π.length l.length &&
 ((List.range l.length).all fun i=>Nat.blt (π.getD i 0) l.length && Nat.beq (σ.getD (π.getD i 0) 0) i && Nat.blt (σ.getD i 0) l.length && Nat.beq (π.getD (σ.getD i 0) 0) i) &&
 l.all fun o=>o.guard.isNone && o.after.toList.all fun e=>Nat.blt e.on l.length
theorem U2 {P:Program} {Q:Exit→Act→World→Prop} {π:LN} {o:Oper} {a:Act} {w:World} {K:Act→World→Prop}:(Cv π o).wp P a w K Q=o.wp P a w K Q:=by
 cases o; rfl
theorem Pb {P:Program} {π:LN} {o:Oper} {a:Act} {w:World}:(Cv π o).asks P a w=o.asks P a w:=by
 cases o; rfl
section
variable {P:Program} {l:LO} {σ π:LN} (h:ON l σ π=true)
include h
theorem DN:σ.length=l.length∧π.length=l.length∧(∀ i,i < l.length→π.getD i 0 < l.length∧σ.getD (π.getD i 0) 0=i∧σ.getD i 0 < l.length∧π.getD (σ.getD i 0) 0=i)∧∀ o∈l,o.guard=none∧∀ e∈o.after.toList,e.on < l.length:=by
 unfold ON at h
 simp only [Bool.and_eq_true,List.all_eq_true,List.mem_range] at h
 obtain ⟨⟨⟨h1,h2⟩,h3⟩,h4⟩:=h
 refine ⟨Nat.eq_of_beq_eq_true h1,Nat.eq_of_beq_eq_true h2,fun i hi=>?_,fun o ho=>?_⟩
 ·obtain ⟨⟨⟨a,b⟩,c⟩,d⟩:=h3 i hi
  exact ⟨Nat.lt_of_succ_le (Nat.le_of_ble_eq_true a),Nat.eq_of_beq_eq_true b,Nat.lt_of_succ_le (Nat.le_of_ble_eq_true c),Nat.eq_of_beq_eq_true d⟩
 ·obtain ⟨a,b⟩:=h4 o ho
  exact ⟨by simpa using a,fun e he=>Nat.lt_of_succ_le (Nat.le_of_ble_eq_true (b e he))⟩
theorem Jq:(qj l σ π).length=l.length:=by unfold qj; rw [List.length_map]; exact (DN h).1
theorem Jr {i:Nat} {o:Oper} (ho:l[i]? = some o):(qj l σ π)[π.getD i 0]? = some (Cv π o):=by
 obtain ⟨h1,_,h3,_⟩:=DN h
 have hi:=(List.getElem?_eq_some_iff.1 ho).1
 obtain ⟨a,b,_,_⟩:=h3 i hi
 unfold qj
 rw [List.getElem?_map,List.getElem?_eq_getElem (by omega)]
 have e:σ[π.getD i 0]'(by omega)=i:=by
  rw [List.getD_eq_getElem?_getD,List.getElem?_eq_getElem (by omega)] at b
  simpa using b
 simp only [Option.map_some,Option.some.injEq]
 rw [e,List.getD_eq_getElem?_getD,ho]; rfl
theorem MN {Q:Exit→Act→World→Prop}:∀ (fuel:Nat) (L L':Array Bool) (a:Act) (w:World),L.size=l.length→L'.size=l.length→(∀ i,i < l.length→L'.getD (π.getD i 0) true=L.getD i true)→
  wpAny P .any (qj l σ π).toArray Q fuel L' a w→wpAny P .any l.toArray Q fuel L a w:=by
 obtain ⟨h1,h2,h3,h4⟩:=DN h
 have gd:∀ {L:Array Bool} {i:Nat} (b:Bool),L.size=l.length→i < l.length→L.getD i b=L.getD i true:=fun {L i} b hs hi=>by
  have:i < L.size:=by omega
  simp [Array.getD,this]
 have mr:∀ (L L':Array Bool),L.size=l.length→L'.size=l.length→(∀ i,i < l.length→L'.getD (π.getD i 0) true=L.getD i true)→∀ i,i < l.length→(i∈Region.ready .any l.toArray L↔π.getD i 0∈Region.ready .any (qj l σ π).toArray L'):=by
  intro L L' hs db hL i hi
  rw [mem_ready,mem_ready,hL i hi]
  have ho:l[i]? = some (l[i]'hi):=List.getElem?_eq_getElem hi
  have bw:=Jr h ho
  have hg:=h4 _ (List.mem_of_getElem? ho)
  constructor
  ·rintro ⟨g1,o,g2,g3⟩
   refine ⟨g1,Cv π l[i],by simpa using bw,fun e he hb=>?_⟩
   have eo:l[i]=o:=by simpa [ho] using g2
   simp only [Cv,List.mem_toArray,List.mem_map] at he
   obtain ⟨e0,YQ,rfl⟩:=he
   have bc:=hg.2 e0 YQ
   have:=g3 e0 (by rw [← eo]; simpa using YQ) hb
   rw [gd false db (h3 _ bc).1,hL _ bc,← gd false hs bc]; exact this
  ·rintro ⟨g1,o,g2,g3⟩
   refine ⟨g1,l[i],by simp,fun e he hb=>?_⟩
   have eo:Cv π l[i]=o:=by
    have:(qj l σ π)[π.getD i 0]? = some o:=by simpa using g2
    rw [bw] at this
    exact Option.some.inj this
   have bc:=hg.2 e (by simpa using he)
   have:=g3 ⟨π.getD e.on 0,e.ground⟩ (by rw [← eo]; simp only [Cv,List.mem_toArray,List.mem_map]; exact ⟨e,by simpa using he,rfl⟩) hb
   rw [gd false db (h3 _ bc).1,hL _ bc,← gd false hs bc] at this; exact this
 have back:∀ (L L':Array Bool),L.size=l.length→L'.size=l.length→(∀ i,i < l.length→L'.getD (π.getD i 0) true=L.getD i true)→Region.ready .any l.toArray L=[]→Region.ready .any (qj l σ π).toArray L'=[]:=by
  intro L L' hs db hL he
  rw [List.eq_nil_iff_forall_not_mem]
  intro k hk
  have Cp:k < l.length:=by
   obtain ⟨_,o,g2,_⟩:=mem_ready.1 hk
   have:(qj l σ π)[k]? = some o:=by simpa using g2
   have:=(List.getElem?_eq_some_iff.1 this).1
   rwa [Jq h] at this
  obtain ⟨_,_,c,d⟩:=h3 k Cp
  have:=(mr L L' hs db hL (σ.getD k 0) c).2 (by rw [d]; exact hk)
  rw [he] at this
  exact nomatch this
 intro fuel
 induction fuel with
 | zero=>
  intro L L' a w hs db hL hh
  refine ⟨?_,hh.2⟩
  rw [List.eq_nil_iff_forall_not_mem]
  intro i hi
  have tB:i < l.length:=by
   obtain ⟨_,o,g2,_⟩:=mem_ready.1 hi
   have:l[i]? = some o:=by simpa using g2
   exact (List.getElem?_eq_some_iff.1 this).1
  have:=(mr L L' hs db hL i tB).1 hi
  rw [hh.1] at this
  exact nomatch this
 | succ fuel ih=>
  intro L L' a w hs db hL hh
  refine ⟨fun he=>hh.1 (back L L' hs db hL he),fun i hi=>?_⟩
  have tB:i < l.length:=by
   obtain ⟨_,o,g2,_⟩:=mem_ready.1 hi
   have:l[i]? = some o:=by simpa using g2
   exact (List.getElem?_eq_some_iff.1 this).1
  have ho:l[i]? = some (l[i]'tB):=List.getElem?_eq_getElem tB
  have hg:=h4 _ (List.mem_of_getElem? ho)
  have MO:=hh.2 _ ((mr L L' hs db hL i tB).1 hi)
  have next:∀ a w,wpAny P .any (qj l σ π).toArray Q fuel (L'.setIfInBounds (π.getD i 0) true) a w→wpAny P .any l.toArray Q fuel (L.setIfInBounds i true) a w:=fun a w=>ih _ _ a w (by simpa using hs) (by simpa using db) fun j hj=>by
   have hpj:=(h3 j hj).1
   have hpi:=(h3 i tB).1
   by_cases e:i=j
   ·subst e
    rw [Array.getD_eq_getD_getElem?,Array.getD_eq_getD_getElem?,Array.getElem?_setIfInBounds_self_of_lt (by omega),Array.getElem?_setIfInBounds_self_of_lt (by omega)]
   ·have e':π.getD i 0≠π.getD j 0:=fun q=>e (by rw [← (h3 i tB).2.1,q,(h3 j hj).2.1])
    have h5:=hL j hj
    have q1:(L'.setIfInBounds (π.getD i 0) true).getD (π.getD j 0) true=L'.getD (π.getD j 0) true:=by
     rw [Array.getD_eq_getD_getElem?,Array.getD_eq_getD_getElem?,Array.getElem?_setIfInBounds_ne e']
    have q2:(L.setIfInBounds i true).getD j true=L.getD j true:=by
     rw [Array.getD_eq_getD_getElem?,Array.getD_eq_getD_getElem?,Array.getElem?_setIfInBounds_ne e]
    rw [q1,q2,h5]
  have ga:(l.toArray)[i]? = some (l[i]'tB):=by simp
  have gb:((qj l σ π).toArray)[π.getD i 0]? = some (Cv π (l[i]'tB)):=by simpa using Jr h ho
  unfold wpOp at MO ⊢
  rw [gb] at MO
  rw [ga]
  have w1:Region.wanted (l[i]'tB) (yielded l.toArray a.tmps)=true:=by unfold Region.wanted; rw [hg.1]
  have w2:Region.wanted (Cv π (l[i]'tB)) (yielded (qj l σ π).toArray a.tmps)=true:=by unfold Region.wanted; show (match (l[i]'tB).guard with | none=>true | some (j,want)=>_)=true; rw [hg.1]
  simp only [w2,if_true] at MO
  simp only [w1,if_true]
  rw [U2,Pb] at MO
  exact MO.imp (fun g=>Oper.wp_mono next g) id
theorem mf.prm {n:Nat} {Q:Exit→(Nat→Value)→World→Prop} {r:NV} {w:World} (hw:mf P n (qj l σ π) Q r w):mf P n l Q r w:=by
 have hl:=Jq h
 obtain ⟨_,_,h3,_⟩:=DN h
 intro a a1 a2 a3
 have:=hw a a1 a2 a3
 rw [show (qj l σ π).toArray.size=l.toArray.size by simpa using hl] at this
 refine MN h _ _ _ a _ (by simp) (by simp) (fun i hi=>?_) this
 have hq:=(h3 i hi).1
 rw [List.getD_eq_getElem?_getD] at hq
 simp [Array.getD,hi,hq]
end
section
variable {P:Program} {n:Nat} {Q:Exit→(Nat→Value)→World→Prop} {r0:NV} {w0:World} {l:LO} {S:List gv}
def br (l:LO) (j:Nat):Option Nat:=(l[j]?).bind (·.dst)
def w6 (l:LO) (S:List gv) (j:Nat) (g:Nat→List Nat) (r:NV) (w:World):Prop:=
 (∀ d,br l j=some d→match S[j]? with
  | some s=>if s.b then s.V (g j) w r (r d) else r d=undef
  | none=>True)∧(br l j=none→∀ s,S[j]? = some s→s.b=true→∃ x,s.V (g j) w r x)
def Old (l:LO) (S:List gv) (j:Nat) (r:NV):Prop:=∀ d,br l j=some d→∀ s,S[j]? = some s→if s.b then ∃ f w,s.V f w r (r d) else r d=undef
structure zQ (l:LO) (m:Nat) (S:List gv) (U:LL) (r0:NV) (w0:World) (H:LN) (L:Nat→Prop) (g:Nat→List Nat) (r:NV) (w:World):Prop where
 iH:an H w0 w
 A7:(∀ k,L k→l.length ∉ U.getD k [])→an [] w0 w∧g l.length=H
 vg:∀ b∈g l.length,b∈H
 vd:∀ j,L j→sb (g j) (g l.length)
 done:∀ j,L j→(∀ k,L k→j ∉ U.getD k [])→w6 l S j g r w
 tw:∀ j,L j→Old l S j r
 other:∀ t,(∀ j,j < m→br l j≠some t)→r t=r0 t
 fresh:∀ j,L j→∀ b∈g j,(w0.heap.size≤b∨(b∈H∧∃ k,L k∧l.length∈U.getD k []))∧b < w.heap.size
 wx:∀ i j,L i→L j→i≠j→sb (g i) (g j)
def uD (l:LO) (U:LL) (m i j:Nat):Bool:=
 ((cj l).getD i []).contains j && (List.range m).all fun k=>!((U.getD k []).contains j) || Nat.beq k i || ((cj l).getD k []).contains i
def kj (g:Nat→List Nat) (us:LN):List Nat:=us.flatMap g
def zK (l:LO) (U:LL) (m i:Nat):Bool:=(List.range m).all fun k=>!((U.getD k []).contains l.length) || Nat.beq k i || ((cj l).getD k []).contains i
def jo (P:Program) (l:LO) (m:Nat) (S:List gv) (U:LL) (r0:NV) (w0:World) (H:LN) (i:Nat):Prop:=
 ∀ o s,l[i]? = some o→S[i]? = some s→∀ (g:Nat→List Nat) (r:NV) (w:World),an H w0 w→(zK l U m i=true→an [] w0 w∧g l.length=H∧∀ j∈(cj l).getD i [],∀ b∈g j,w0.heap.size≤b)→(∀ j∈(cj l).getD i [],Old l S j r)→(∀ j,uD l U m i j=true→w6 l S j g r w)→(∀ t,(∀ j,j < m→br l j≠some t)→r t=r0 t)→
  (∀ i'∈(cj l).getD i [],∀ j'∈(cj l).getD i [],i'≠j'→sb (g i') (g j'))→(∀ j∈(cj l).getD i [],∀ b∈g j,(w0.heap.size≤b∨b∈H)∧b < w.heap.size)→
  if s.b then Region.wanted o (yl l r)=true∧fc P o r w fun v w'=>an (kj g (U.getD i [])) w w'∧∃ f,(∀ b∈f,(b∈kj g (U.getD i [])∨w.heap.size≤b)∧b < w'.heap.size)∧s.V f w' r v
  else Region.wanted o (yl l r)=false
def A4:List Nat→Bool
 | []=>true
 | x :: l=>!(l.contains x) && A4 l
theorem yr:∀ {l:LN},A4 l=true→l.Nodup
 | [],_=>List.nodup_nil
 | x :: l,h=>by
  simp only [A4,Bool.and_eq_true,Bool.not_eq_true',List.contains_eq_mem,decide_eq_false_iff_not] at h
  exact List.nodup_cons.2 ⟨h.1,yr h.2⟩
def zN (l:LO) (m:Nat) (Z:LN):Bool:=
 ((List.range l.length).all fun i=>((l.getD i default).after.toList.filter (Region.binds .any)).all fun e=>Nat.blt e.on i) &&
 ((List.range l.length).all fun i=>Nat.blt i m || (List.range i).all fun j=>((cj l).getD i []).contains j || Z.contains j) &&
 A4 ((l.take m).filterMap (·.dst))
def U3 (o:Oper):Bool:=match o.op with | .move _=>true | .extract _ _=>true | _=>false
def Pc (l:LO) (i:Nat):Array Bool:=((List.range l.length).map fun j=>((cj l).getD i []).contains j).toArray
def GL (l:LO) (m:Nat) (Z:LN):Bool:=
 Region.noSelect l.toArray && Z.all fun i=>Nat.blt i m && Region.free .any l.toArray (Pc l i) i &&
  match l[i]? with
  | some o=>U3 o && o.guard.isNone
  | none=>false
theorem MP {l:LO} {L:Array Bool} {i:Nat} (hL:∀ j∈(cj l).getD i [],L.getD j false=true) (h:Region.free .any l.toArray (Pc l i) i=true):Region.free .any l.toArray L i=true:=by
 unfold Region.free at h ⊢
 cases ho:(l.toArray)[i]? with
 | none=>rw [ho] at h; cases h
 | some oi=>
  rw [ho] at h
  simp only [List.all_eq_true,List.mem_range,Bool.or_eq_true] at h ⊢
  intro j hj
  rcases h j hj with (h1 | h1) | h1
  ·exact .inl (.inl h1)
  ·have bc:j < l.length:=by simpa using hj
   have hm:j∈(cj l).getD i []:=by
    unfold Pc at h1
    have:((List.range l.length).map fun j=>((cj l).getD i []).contains j)[j]? = some (((cj l).getD i []).contains j):=by
     rw [List.getElem?_map,List.getElem?_range bc]; rfl
    rw [Array.getD_eq_getD_getElem?,List.getElem?_toArray,this] at h1
    simpa using h1
   refine .inl (.inr ?_)
   have h2:=hL j hm
   rcases Nat.lt_or_ge j L.size with h' | h'
   ·simp [h'] at h2 ⊢; exact h2
   ·simp [Array.getElem?_eq_none h'] at h2
  ·exact .inr h1
theorem IB {P:Program} {d:Option Nat} {x:OO} {k:Nat} {ty:TI} {pos:String} {ab:Array Edge} {g:Option (Nat×Bool)} {r:NV} {w:World} {K:Value→World→Prop} (h:fc P ⟨d,.extract x k,ty,pos,ab,g⟩ r w K) :
  ∃ v,(∀ w',(execOp (ev r) ⟨d,.extract x k,ty,pos,ab,g⟩).run P w' = .ok (.value v) w')∧K v w:=by
 have e:execOp (ev r) ⟨d,.extract x k,ty,pos,ab,g⟩ = (Instr.extract (ev r x) k>>=fun v=>pure (.value v)):=rfl
 unfold fc at h
 rw [e] at h ⊢
 generalize ev r x=u at h ⊢
 cases u
 case tuple vs=>
  cases hv:vs[k]? with
  | none=>simp [Instr.extract,hv,stuck,Result.andThen,Sem.run] at h
  | some v=>
   refine ⟨v,fun w'=>?_,?_⟩
   ·simp [Instr.extract,hv]
   ·simpa [Instr.extract,hv] using h
 all_goals simp [Instr.extract,stuck,Result.andThen,Sem.run] at h
theorem zV (l:LO):∀ (i:Nat) (o:Oper),l[i]? = some o→(cj l)[i]? = some ((o.after.toList.filter (Region.binds .any)).flatMap fun e=>e.on :: ((cj l).take i).getD e.on []):=by
 have key:∀ (l:LO) (acc:LL),(l.foldl l8 acc).length=acc.length+l.length∧(∀ j,j < acc.length→(l.foldl l8 acc)[j]? = acc[j]?)∧
   ∀ i o,l[i]? = some o→(l.foldl l8 acc)[acc.length+i]? = some ((o.after.toList.filter (Region.binds .any)).flatMap fun e=>e.on :: ((l.foldl l8 acc).take (acc.length+i)).getD e.on []):=by
  intro l
  induction l with
  | nil=>intro acc; exact ⟨rfl,fun _ _=>rfl,fun i o h=>by simp at h⟩
  | cons x l ih=>
   intro acc
   obtain ⟨h1,h2,h3⟩:=ih (l8 acc x)
   have hl:(l8 acc x).length=acc.length+1:=by simp [l8]
   have hold:∀ j,j < acc.length→(l8 acc x)[j]? = acc[j]?:=fun j hj=>by simp only [l8]; rw [List.getElem?_append_left hj]
   refine ⟨by simp only [List.foldl_cons,h1,hl,List.length_cons]; omega,fun j hj=>?_,?_⟩
   ·rw [List.foldl_cons,h2 j (by omega),hold j hj]
   ·intro i o hi
    cases i with
    | zero=>
     simp at hi
     subst hi
     have XQ:(List.foldl l8 acc (x :: l)).take (acc.length+0)=acc:=by
      apply List.ext_getElem?
      intro j
      rw [Nat.add_zero,List.getElem?_take]
      split
      ·rename_i hj
       rw [List.foldl_cons,h2 j (by omega),hold j hj]
      ·rename_i hj
       rw [List.getElem?_eq_none (by omega)]
     rw [XQ]
     rw [Nat.add_zero,List.foldl_cons,h2 _ (by omega)]
     simp only [l8]
     rw [List.getElem?_append_right (Nat.le_refl _)]
     simp
    | succ i=>
     have:=h3 i o (by simpa using hi)
     rw [hl] at this
     rw [List.foldl_cons]
     rw [show acc.length+(i+1)=acc.length+1+i by omega]
     exact this
 intro i o hi
 have:=(key l []).2.2 i o hi
 simpa [cj] using this
theorem A5 (l:LO) (hb:∀ (i:Nat) (o:Oper),l[i]? = some o→∀ e∈o.after.toList.filter (Region.binds .any),e.on < i) :
  ∀ (i j:Nat),j∈(cj l).getD i []→j < i∧∃ o,l[i]? = some o∧∃ e∈o.after.toList.filter (Region.binds .any),j=e.on∨j∈(cj l).getD e.on []:=by
 intro i j hj
 cases ho:l[i]? with
 | none=>
  have hlen:(cj l).length=l.length:=by
   have:∀ (l:LO) (acc:LL),(l.foldl l8 acc).length=acc.length+l.length:=by
    intro l
    induction l with
    | nil=>intro acc; rfl
    | cons x l ih=>intro acc; rw [List.foldl_cons,ih]; simp [l8]; omega
   simpa [cj] using this l []
  rw [List.getD_eq_getElem?_getD,List.getElem?_eq_none (by rw [hlen]; exact List.getElem?_eq_none_iff.1 ho)] at hj
  simp at hj
 | some o=>
  have h:=zV l i o ho
  rw [List.getD_eq_getElem?_getD,h] at hj
  simp only [Option.getD_some,List.mem_flatMap,List.mem_cons] at hj
  obtain ⟨e,he,hj⟩:=hj
  have bc:=hb i o ho e he
  have U4:((cj l).take i).getD e.on []=(cj l).getD e.on []:=by
   rw [List.getD_eq_getElem?_getD,List.getD_eq_getElem?_getD,List.getElem?_take,if_pos bc]
  rw [U4] at hj
  refine ⟨?_,o,rfl,e,he,hj⟩
  rcases hj with rfl | hj
  ·exact bc
  ·-- by the strong law below
   have:∀ (k i:Nat),i≤k→∀ j∈(cj l).getD i [],j < i:=by
    intro k
    induction k with
    | zero=>
     intro i hi j hj
     obtain rfl:i=0:=by omega
     cases ho:l[0]? with
     | none=>
      obtain rfl:l=[]:=by cases l with | nil=>rfl | cons=>simp at ho
      simp [cj] at hj
     | some o=>
      have h:=zV l 0 o ho
      rw [List.getD_eq_getElem?_getD,h] at hj
      simp only [Option.getD_some,List.mem_flatMap] at hj
      obtain ⟨e,he,_⟩:=hj
      exact absurd (hb 0 o ho e he) (Nat.not_lt_zero _)
    | succ k ih=>
     intro i hi j hj
     cases ho:l[i]? with
     | none=>
      have hlen:(cj l).length=l.length:=by
       have:∀ (l:LO) (acc:LL),(l.foldl l8 acc).length=acc.length+l.length:=by
        intro l
        induction l with
        | nil=>intro acc; rfl
        | cons x l ih=>intro acc; rw [List.foldl_cons,ih]; simp [l8]; omega
       simpa [cj] using this l []
      rw [List.getD_eq_getElem?_getD,List.getElem?_eq_none (by rw [hlen]; exact List.getElem?_eq_none_iff.1 ho)] at hj
      simp at hj
     | some o=>
      have h:=zV l i o ho
      rw [List.getD_eq_getElem?_getD,h] at hj
      simp only [Option.getD_some,List.mem_flatMap,List.mem_cons] at hj
      obtain ⟨e,he,hj⟩:=hj
      have bc:=hb i o ho e he
      rcases hj with rfl | hj
      ·exact bc
      ·have U4:((cj l).take i).getD e.on []=(cj l).getD e.on []:=by
        rw [List.getD_eq_getElem?_getD,List.getD_eq_getElem?_getD,List.getElem?_take,if_pos bc]
       rw [U4] at hj
       have:=ih e.on (by omega) j hj
       omega
   exact Nat.lt_trans (this e.on e.on (Nat.le_refl _) j hj) bc
theorem Dz (l:LO) (hb:∀ (i:Nat) (o:Oper),l[i]? = some o→∀ e∈o.after.toList.filter (Region.binds .any),e.on < i) {j k:Nat} (hj:j∈(cj l).getD k []):∀ {i:Nat},k∈(cj l).getD i []→j∈(cj l).getD i []:=by
 intro i
 induction i using Nat.strongRecOn with
 | _ i ih=>
  intro hk
  obtain ⟨_,o,ho,e,he,U5⟩:=A5 l hb i k hk
  have bc:=hb i o ho e he
  have h2:j∈(cj l).getD e.on []:=U5.elim (fun h=>h ▸ hj) (fun h=>ih e.on bc h)
  have h:=zV l i o ho
  rw [List.getD_eq_getElem?_getD,h]
  simp only [Option.getD_some,List.mem_flatMap,List.mem_cons]
  refine ⟨e,he,.inr ?_⟩
  rw [List.getD_eq_getElem?_getD,List.getElem?_take,if_pos bc,← List.getD_eq_getElem?_getD]
  exact h2
theorem getD_both {Hi:Array Bool} {i:Nat} (h:Hi.getD i true=false):Hi.getD i false=false:=by
 rcases Nat.lt_or_ge i Hi.size with h' | h'
 ·simp [h'] at h ⊢; exact h
 ·simp [Array.getElem?_eq_none h'] at h
theorem getD_replicate_false (m j:Nat):(Array.replicate m false).getD j false=false:=by
 rcases Nat.lt_or_ge j m with h | h
 ·simp [h]
 ·simp [h]
theorem E6:∀ (l:LO),(l.filterMap (·.dst)).Nodup→∀ i j d,br l i=some d→br l j=some d→i=j:=by
 intro l
 induction l with
 | nil=>intro _ i j d h; simp [br] at h
 | cons o l ih=>
  intro hn i j d hi hj
  have U6:∀ k,br (o :: l) (k+1)=some d→d∈l.filterMap (·.dst):=by
   intro k hk
   simp only [br,List.getElem?_cons_succ] at hk
   cases ho:l[k]? with
   | none=>rw [ho] at hk; cases hk
   | some x=>rw [ho] at hk; exact List.mem_filterMap.2 ⟨x,List.mem_of_getElem? ho,hk⟩
  have h0:∀ e,o.dst=some e→e ∉ l.filterMap (·.dst)∧(l.filterMap (·.dst)).Nodup:=by
   intro e he
   rw [List.filterMap_cons_some he] at hn
   exact List.nodup_cons.1 hn
  have nz:(l.filterMap (·.dst)).Nodup:=by
   cases hd:o.dst with
   | none=>rwa [List.filterMap_cons_none hd] at hn
   | some e=>exact (h0 e hd).2
  cases i with
  | zero=>
   cases j with
   | zero=>rfl
   | succ j=>exact absurd (U6 j hj) (h0 d (by simpa [br] using hi)).1
  | succ i=>
   cases j with
   | zero=>exact absurd (U6 i hi) (h0 d (by simpa [br] using hj)).1
   | succ j=>rw [ih nz i j d (by simpa [br] using hi) (by simpa [br] using hj)]
theorem ko {m j:Nat} (hj:j < m):br (l.take m) j=br l j:=by
 unfold br
 rw [List.getElem?_take,if_pos hj]
theorem nr {o:Oper} {r:NV} {w:World} {K K':Value→World→Prop} (h:fc P o r w K) (hk:∀ v w',K v w'→K' v w'):fc P o r w K':=by
 unfold fc at h ⊢
 cases hr:(execOp (ev r) o).run P w with
 | ok x w'=>
  rw [hr] at h
  cases x with
  | value v=>exact hk _ _ h
  | skip=>exact hk _ _ h
  | enter f args=>exact h.mono fun e EW ⟨v,he,hv⟩=>⟨v,he,hk _ _ hv⟩
  | _=>exact h
 | _=>rw [hr] at h; exact h.elim
theorem Mn {m:Nat} {Z:LN} (h:zN l m Z=true):∀ (i:Nat) (o:Oper),l[i]? = some o→∀ e∈o.after.toList.filter (Region.binds .any),e.on < i:=by
 simp only [zN,Bool.and_eq_true,List.all_eq_true,List.mem_range] at h
 intro i o ho e he
 have hi:i < l.length:=(List.getElem?_eq_some_iff.1 ho).1
 have:=h.1.1 i hi e (by rw [List.getD_eq_getElem?_getD,ho]; exact he)
 exact Nat.lt_of_succ_le (Nat.le_of_ble_eq_true this)
theorem Uc {m:Nat} {U:LL} {Z H:LN} {N:Nat→Prop} (hd:df n l=true) (hA:zN l m Z=true) (hZ:GL l m Z=true) (hp:∀ c r w,Q (.panic c) r w→False) (GM:m≤l.length)
  (hS:S.length=m)
  (hH:∀ b∈H,b < w0.heap.size) (hU:((List.range m).all fun i=>(U.getD i []).all fun u=>Nat.beq u l.length || ((cj l).getD i []).contains u)=true)
  (hN:∀ b,N b→b < w0.heap.size∧b ∉ H)
  (rQ:∀ (i:Nat) (s:gv),S[i]? = some s→∀ f F (w w':World) (r r':NV) v,an F w w'→(∀ b∈f,b ∉ F)→(∀ b∈F,¬ N b)→(∀ j∈(cj l).getD i [],∀ t,br l j=some t→r' t=r t)→s.V f w r v→s.V f w' r' v)
  (OU:∀ i,i < m→jo P l m S U r0 w0 H i)
  (next:∀ g r w,zQ l m S U r0 w0 H (fun j=>j < m) g r w→WL P l (l.drop m) r w (Q .normal)) :
  mf P n l Q r0 w0:=by
 simp only [zN,Bool.and_eq_true,List.all_eq_true,List.mem_range,Bool.or_eq_true] at hA
 obtain ⟨⟨Uo,Up⟩,Uq⟩:=hA
 have wE:∀ (i:Nat) (o:Oper),l[i]? = some o→∀ e∈o.after.toList.filter (Region.binds .any),e.on < i:=by
  intro i o ho e he
  have hi:i < l.length:=(List.getElem?_eq_some_iff.1 ho).1
  have:=Uo i hi e (by rw [List.getD_eq_getElem?_getD,ho]; exact he)
  exact Nat.lt_of_succ_le (Nat.le_of_ble_eq_true this)
 have Ev:∀ i,m≤i→i < l.length→∀ j,j < i→j∈(cj l).getD i []∨j∈Z:=by
  intro i h1 h2 j hj
  rcases Up i h2 with h | h
  ·exact absurd (Nat.lt_of_succ_le (Nat.le_of_ble_eq_true h)) (Nat.not_lt.2 h1)
  ·have:=h j hj
   simpa using this
 simp only [GL,Bool.and_eq_true,List.all_eq_true] at hZ
 obtain ⟨Q6,hZ⟩:=hZ
 have U7:∀ z∈Z,z < m:=fun z hz=>Nat.lt_of_succ_le (Nat.le_of_ble_eq_true (hZ z hz).1.1)
 have Ur:∀ i,i < m→∀ u∈U.getD i [],u=l.length∨u∈(cj l).getD i []:=by
  intro i hi u hu
  simp only [List.all_eq_true,List.mem_range] at hU
  have:=hU i hi u hu
  simpa using this
 have cn:=E6 _ (yr Uq)
 have ru:=A5 l wE
 intro a h1 h2 h3
 let Cl (L:Array Bool):Prop:=L.size=l.length∧∀ j o,l[j]? = some o→L.getD j false=true→∀ e∈o.after.toList.filter (Region.binds .any),L.getD e.on false=true
 have jj:∀ L,Cl L→∀ i j,(∀ o,l[i]? = some o→∀ e∈o.after.toList.filter (Region.binds .any),L.getD e.on false=true)→j∈(cj l).getD i []→L.getD j false=true:=by
  intro L hL i
  induction i using Nat.strongRecOn with
  | _ i ih=>
   intro j hi hj
   obtain ⟨_,o,ho,e,he,GQ⟩:=ru i j hj
   have hl:=hi o ho e he
   rcases GQ with rfl | GQ
   ·exact hl
   ·exact ih e.on (wE i o ho e he) j (fun o' bw e' ub=>hL.2 _ _ bw hl e' ub) GQ
 have mr:∀ L i,i∈Region.ready .any l.toArray L→L.getD i true=false∧∃ o,l[i]? = some o∧∀ e∈o.after.toList.filter (Region.binds .any),L.getD e.on false=true:=by
  intro L i hi
  obtain ⟨g1,o,ho,ei⟩:=mem_ready.1 hi
  refine ⟨g1,o,by simpa using ho,fun e he=>?_⟩
  have:=List.mem_filter.1 he
  exact ei e (by simpa using this.1) this.2
 have DC:∀ L i o,L.size=l.length→l[i]? = some o→L.getD i false=false→(∀ e∈o.after.toList.filter (Region.binds .any),L.getD e.on false=true)→i∈Region.ready .any l.toArray L:=by
  intro L i o hs ho hu ei
  refine mem_ready.2 ⟨?_,o,by simpa using ho,fun e he hb=>ei e (List.mem_filter.2 ⟨by simpa using he,hb⟩)⟩
  have hi:i < L.size:=by rw [hs]; exact (List.getElem?_eq_some_iff.1 ho).1
  simp [hi] at hu ⊢; exact hu
 have F5:∀ L i o,Cl L→l[i]? = some o→(∀ e∈o.after.toList.filter (Region.binds .any),L.getD e.on false=true)→Cl (L.setIfInBounds i true):=by
  intro L i o hL ho ei
  refine ⟨by rw [Array.size_setIfInBounds]; exact hL.1,fun j o' bw hj e he=>?_⟩
  by_cases sP:i=j
  ·subst sP
   have:o'=o:=Option.some.inj (bw.symm.trans ho)
   subst this
   exact getD_set_true (ei e he)
  ·rw [getD_set_ne false sP] at hj
   exact getD_set_true (hL.2 j o' bw hj e he)
 have getSet:∀ (L:Array Bool) i j,L.size=l.length→i < l.length→((L.setIfInBounds i true).getD j false=true↔j=i∨L.getD j false=true):=by
  intro L i j hs hi
  by_cases sP:i=j
  ·subst sP
   simp [hs,hi]
  ·rw [getD_set_ne false sP]
   constructor
   ·exact .inr
   ·rintro (h | h)
    ·exact absurd h.symm sP
    ·exact h
 have GR:∀ (L:Array Bool) i,L.size=l.length→i < l.length→L.getD i false=false→(L.setIfInBounds i true).toList.count false+1=L.toList.count false:=by
  intro L i hs hi hu
  have sy:i < L.toList.length:=by simpa [hs] using hi
  have Cr:L.toList[i]=false:=by
   rw [Array.getElem_toList]
   simp [hs,hi] at hu
   exact hu
  rw [Array.toList_setIfInBounds,List.count_set sy,Cr]
  have:0 < L.toList.count false:=List.count_pos_iff.2 (by rw [← Cr]; exact List.getElem_mem sy)
  rw [if_pos (by rfl),if_neg (by decide)]
  omega
 have tail:∀ (d k fuel:Nat) (L:Array Bool) (a:Act) (w:World),l.length - k=d→m≤k→k≤l.length→Cl L→(∀ j,L.getD j false=true↔j < k)→L.toList.count false≤fuel→a.tmps.size=n→a.defers=[]→
   WL P l (l.drop k) (cw a) w (Q .normal)→wpAny P .any l.toArray (fun e a' w'=>a'.tmps.size=n∧a'.defers=[]∧Q e (cw a') w') fuel L a w:=by
  intro d
  induction d with
  | zero=>
   intro k fuel L a w hk hmk Cp hL ic hf g1 g2 hW
   obtain rfl:k=l.length:=by omega
   rw [List.drop_length] at hW
   have sA:Region.ready .any l.toArray L=[]:=by
    apply List.eq_nil_iff_forall_not_mem.2
    intro i hi
    obtain ⟨q1,o,ho,_⟩:=mr L i hi
    have bc:i < l.length:=(List.getElem?_eq_some_iff.1 ho).1
    have:=(ic i).2 bc
    simp [hL.1,bc] at q1 this
    rw [q1] at this; cases this
   cases fuel with
   | zero=>exact ⟨sA,g1,g2,hW⟩
   | succ fuel=>exact ⟨fun _=>⟨g1,g2,hW⟩,fun i hi=>by rw [sA] at hi; cases hi⟩
  | succ d ih=>
   intro k fuel L a w hk hmk Cp hL ic hf g1 g2 hW
   have KN:k < l.length:=by omega
   obtain ⟨o,ho⟩ : ∃ o,l[k]? = some o:=⟨l[k],List.getElem?_eq_getElem KN⟩
   have U8:L.getD k false=false:=by
    cases hb:L.getD k false with
    | false=>rfl
    | true=>exact absurd ((ic k).1 hb) (Nat.lt_irrefl _)
   have ov:k∈Region.ready .any l.toArray L:=DC L k o hL.1 ho U8 fun e he=>(ic _).2 (wE k o ho e he)
   have XR:l.drop k=o :: l.drop (k+1):=by rw [List.drop_eq_getElem_cons KN]; congr 1; exact Option.some.inj ((List.getElem?_eq_getElem KN).symm.trans ho)
   rw [XR] at hW
   have hc:=GR L k hL.1 KN U8
   cases fuel with
   | zero=>omega
   | succ fuel=>
    refine ⟨fun h=>(by rw [h] at ov; cases ov),fun i hi=>?_⟩
    obtain ⟨q1,oi,nn,ei⟩:=mr L i hi
    have fk:i < l.length:=(List.getElem?_eq_some_iff.1 nn).1
    have uH:L.getD i false=false:=getD_both q1
    have hik:i=k:=by
     rcases Nat.lt_trichotomy i k with h | h | h
     ·have:=(ic i).2 h; rw [uH] at this; cases this
     ·exact h
     ·have:=jj L hL i k (fun o' bw=>by have:o'=oi:=Option.some.inj (bw.symm.trans nn); subst this; exact ei) ((Ev i (by omega) fk k h).resolve_right fun hz=>absurd (U7 k hz) (by omega))
      rw [U8] at this; cases this
    subst hik
    have Mw:oi=o:=Option.some.inj (nn.symm.trans ho)
    subst Mw
    have E8:∀ k',oi.dst=some k'→k' < a.tmps.size:=by
     intro k' wX
     have uZ:oi∈l:=List.mem_of_getElem? nn
     simp only [df,List.all_eq_true] at hd
     have:=hd oi uZ
     rw [wX] at this
     rw [g1]
     exact Nat.lt_of_succ_le (Nat.le_of_ble_eq_true this)
    have A9:=F5 L i oi hL nn ei
    have yq:∀ j,(L.setIfInBounds i true).getD j false=true↔j < i+1:=by
     intro j
     rw [getSet L i j hL.1 fk,ic j]
     omega
    unfold wpOp
    rw [show (l.toArray)[i]? = some oi by simpa using nn]
    simp only []
    rw [zR (by rw [g1]; exact hd)]
    rcases hW with ⟨hw,hW⟩ | ⟨hw,hW⟩
    ·rw [if_pos hw]
     exact .inl (hW.wp fun v w' hv=>ih (i+1) fuel _ _ _ (by omega) (by omega) (by omega) A9 yq (by omega) (by rw [jv]; exact g1) (by rw [gq]; exact g2) (by rw [ks E8]; exact hv))
    ·rw [if_neg (by rw [hw]; exact Bool.false_ne_true)]
     exact ih (i+1) fuel _ _ _ (by omega) (by omega) (by omega) A9 yq (by omega) (by rw [jv]; exact g1) (by rw [gq]; exact g2) (by rw [ks E8]; exact hW)
 have head:∀ (fuel:Nat) (L:Array Bool) (a:Act) (w:World) (g:Nat→List Nat),Cl L→(∀ j,L.getD j false=true→j < m)→L.toList.count false≤fuel→a.tmps.size=n→a.defers=[]→
   zQ l m S U r0 w0 H (fun j=>L.getD j false=true) g (cw a) w→wpAny P .any l.toArray (fun e a' w'=>a'.tmps.size=n∧a'.defers=[]∧Q e (cw a') w') fuel L a w:=by
  intro fuel
  induction fuel with
  | zero=>
   intro L a w g hL uF hf g1 g2 inv
   have ei:∀ j,j < l.length→L.getD j false=true:=by
    intro j hj
    cases hb:L.getD j false with
    | true=>rfl
    | false=>have:=GR L j hL.1 hj hb; omega
   have ic:∀ j,L.getD j false=true↔j < m:=fun j=>⟨uF j,fun h=>ei j (by omega)⟩
   refine tail _ m 0 L a w rfl (Nat.le_refl _) GM hL ic hf g1 g2 (next g _ _ ?_)
   exact ⟨inv.iH,fun hk=>inv.A7 fun k xa=>hk k ((ic k).1 xa),inv.vg,fun j hj=>inv.vd j ((ic j).2 hj),fun j hj hk=>inv.done j ((ic j).2 hj) (fun k xa=>hk k ((ic k).1 xa)),fun j hj=>inv.tw j ((ic j).2 hj),inv.other,fun j hj b hb=>⟨(inv.fresh j ((ic j).2 hj) b hb).1.imp (fun h=>h) fun h=>⟨h.1,h.2.imp fun k hk=>⟨(ic k).1 hk.1,hk.2⟩⟩,(inv.fresh j ((ic j).2 hj) b hb).2⟩,fun i j hi hj=>inv.wx i j ((ic i).2 hi) ((ic j).2 hj)⟩
  | succ fuel ih=>
   intro L a w g hL uF hf g1 g2 inv
   by_cases ei:∀ j,j < m→L.getD j false=true
   ·have ic:∀ j,L.getD j false=true↔j < m:=fun j=>⟨uF j,ei j⟩
    refine tail _ m _ L a w rfl (Nat.le_refl _) GM hL ic hf g1 g2 (next g _ _ ?_)
    exact ⟨inv.iH,fun hk=>inv.A7 fun k xa=>hk k ((ic k).1 xa),inv.vg,fun j hj=>inv.vd j ((ic j).2 hj),fun j hj hk=>inv.done j ((ic j).2 hj) (fun k xa=>hk k ((ic k).1 xa)),fun j hj=>inv.tw j ((ic j).2 hj),inv.other,fun j hj b hb=>⟨(inv.fresh j ((ic j).2 hj) b hb).1.imp (fun h=>h) fun h=>⟨h.1,h.2.imp fun k hk=>⟨(ic k).1 hk.1,hk.2⟩⟩,(inv.fresh j ((ic j).2 hj) b hb).2⟩,fun i j hi hj=>inv.wx i j ((ic i).2 hi) ((ic j).2 hj)⟩
   ·obtain ⟨j0,Q7,E7⟩ : ∃ j,j < m∧L.getD j false=false:=by
     apply Classical.byContradiction
     intro sA
     apply ei
     intro j hj
     cases hb:L.getD j false with
     | true=>rfl
     | false=>exact absurd ⟨j,hj,hb⟩ sA
    have Kw:∃ i,i∈Region.ready .any l.toArray L:=by
     have:∀ k,(∃ j,j < k∧j < m∧L.getD j false=false)→∃ i,i∈Region.ready .any l.toArray L:=by
      intro k
      induction k with
      | zero=>rintro ⟨j,h,_⟩; omega
      | succ k Dm=>
       rintro ⟨j,Mr,A8,sB⟩
       by_cases sw:∃ j,j < k∧j < m∧L.getD j false=false
       ·exact Dm sw
       ·obtain rfl:j=k:=by
         apply Classical.byContradiction
         intro h
         exact sw ⟨j,by omega,A8,sB⟩
        have Az:j < l.length:=by omega
        refine ⟨j,DC L j l[j] hL.1 (List.getElem?_eq_getElem Az) sB fun e he=>?_⟩
        have bc:=wE j _ (List.getElem?_eq_getElem Az) e he
        cases hb:L.getD e.on false with
        | true=>rfl
        | false=>exact absurd ⟨e.on,bc,by omega,hb⟩ sw
     exact this (j0+1) ⟨j0,by omega,Q7,E7⟩
    have main:∀ i oi,i < m→l[i]? = some oi→L.getD i false=false→(∀ e∈oi.after.toList.filter (Region.binds .any),L.getD e.on false=true)→
      (Region.wanted oi (yl l (cw a))=true∧fc P oi (cw a) w fun v w'=>wpAny P .any l.toArray (fun e a' w'=>a'.tmps.size=n∧a'.defers=[]∧Q e (cw a') w') fuel (L.setIfInBounds i true) (a.put oi.dst v) w')∨
      (Region.wanted oi (yl l (cw a))=false∧wpAny P .any l.toArray (fun e a' w'=>a'.tmps.size=n∧a'.defers=[]∧Q e (cw a') w') fuel (L.setIfInBounds i true) (a.put oi.dst undef) w):=by
     intro i oi uG nn uH uI
     have fk:i < l.length:=(List.getElem?_eq_some_iff.1 nn).1
     have na:∀ o,l[i]? = some o→∀ e∈o.after.toList.filter (Region.binds .any),L.getD e.on false=true:=fun o' bw=>by
      have:o'=oi:=Option.some.inj (bw.symm.trans nn)
      subst this; exact uI
     obtain ⟨s,hs⟩ : ∃ s,S[i]? = some s:=⟨S[i]'(by omega),List.getElem?_eq_getElem (by omega)⟩
     have hc:=GR L i hL.1 fk uH
     have A9:=F5 L i oi hL nn uI
     have GS:∀ j,(L.setIfInBounds i true).getD j false=true→j < m:=by
      intro j hj
      rcases (getSet L i j hL.1 fk).1 hj with rfl | hj
      ·exact uG
      ·exact uF j hj
     have DD:∀ k,L.getD k false=true→k≠i∧i ∉ (cj l).getD k []:=by
      intro k hk
      refine ⟨fun h=>(by rw [h,uH] at hk; cases hk),fun uZ=>?_⟩
      have:=jj L hL k i (fun o' bw e' ub=>hL.2 k o' bw hk e' ub) uZ
      rw [uH] at this; cases this
     have ow:=OU i uG oi s nn hs g (cw a) w inv.iH (fun hV=>by
       have sA:∀ k,L.getD k false=true→l.length ∉ U.getD k []:=fun k hk GU=>by
        simp only [zK,List.all_eq_true,List.mem_range,Bool.or_eq_true,Bool.not_eq_true',List.contains_eq_mem,decide_eq_false_iff_not,decide_eq_true_eq] at hV
        rcases hV k (uF k hk) with (h | h) | h
        ·exact h GU
        ·exact (DD k hk).1 (Nat.eq_of_beq_eq_true h)
        ·exact (DD k hk).2 h
       have h0:=inv.A7 sA
       exact ⟨h0.1,h0.2,fun j hj b hb=>(inv.fresh j (jj L hL i j na hj) b hb).1.elim (fun h=>h) fun h=>absurd h.2.choose_spec.2 (sA _ h.2.choose_spec.1)⟩) (fun j hj=>inv.tw j (jj L hL i j na hj)) (fun j hj=>by
       simp only [uD,Bool.and_eq_true,List.all_eq_true,List.mem_range,Bool.or_eq_true,Bool.not_eq_true',List.contains_eq_mem,decide_eq_false_iff_not,decide_eq_true_eq] at hj
       refine inv.done j (jj L hL i j na hj.1) fun k hk Mr=>?_
       rcases hj.2 k (uF k hk) with (h | h) | h
       ·exact h Mr
       ·exact (DD k hk).1 (Nat.eq_of_beq_eq_true h)
       ·exact (DD k hk).2 h) inv.other
      (fun i' sy j' gy=>inv.wx i' j' (jj L hL i i' na sy) (jj L hL i j' na gy))
      (fun j hj b hb=>⟨(inv.fresh j (jj L hL i j na hj) b hb).1.imp (fun h=>h) (·.1),(inv.fresh j (jj L hL i j na hj) b hb).2⟩)
     have hblk:∀ b∈kj g (U.getD i []),(∃ u,u∈U.getD i []∧L.getD u false=true∧b∈g u)∨(l.length∈U.getD i []∧b∈g l.length):=by
      intro b hb
      obtain ⟨u,hu,fx⟩:=List.mem_flatMap.1 hb
      rcases Ur i uG u hu with rfl | h
      ·exact .inr ⟨hu,fx⟩
      ·exact .inl ⟨u,hu,jj L hL i u na h,fx⟩
     have E8:∀ k',oi.dst=some k'→k' < a.tmps.size:=by
      intro k' wX
      have uZ:oi∈l:=List.mem_of_getElem? nn
      simp only [df,List.all_eq_true] at hd
      have:=hd oi uZ
      rw [wX] at this
      rw [g1]
      exact Nat.lt_of_succ_le (Nat.le_of_ble_eq_true this)
     have yQ:br l i=oi.dst:=by unfold br; rw [nn]; rfl
     have mz:∀ v t,(oi.dst≠some t)→cw (a.put oi.dst v) t=cw a t:=by
      intro v t ht
      rw [ks E8]
      cases xc:oi.dst with
      | none=>rfl
      | some d=>
       show (bif Nat.beq t d then v else cw a t)=cw a t
       cases hb:Nat.beq t d with
       | false=>rfl
       | true=>exact absurd (by rw [xc,Nat.eq_of_beq_eq_true hb]) ht
     have GV:∀ v d,oi.dst=some d→cw (a.put oi.dst v) d=v:=by
      intro v d xc
      rw [ks E8,xc]
      show (bif Nat.beq d d then v else cw a d)=v
      rw [Nat.beq_refl]; rfl
     have step:∀ v w' f,an (kj g (U.getD i [])) w w'→(∀ b∈f,(b∈kj g (U.getD i [])∨w.heap.size≤b)∧b < w'.heap.size)→(if s.b then s.V f w' (cw a) v else v=undef)→
       wpAny P .any l.toArray (fun e a' w'=>a'.tmps.size=n∧a'.defers=[]∧Q e (cw a') w') fuel (L.setIfInBounds i true) (a.put oi.dst v) w':=by
      intro v w' f hC tx hV
      have ta:∀ j',j' < m→j'≠i→∀ t,br l j'=some t→cw (a.put oi.dst v) t=cw a t:=by
       intro j' gy kp t ht
       refine mz v t fun h=>kp (cn j' i t ?_ ?_)
       ·rw [ko gy]; exact ht
       ·rw [ko uG,yQ]; exact h
      have Ms:∀ b∈kj g (U.getD i []),¬ N b:=fun b hb hn=>by
       rcases hblk b hb with ⟨u,_,p6,fx⟩ | ⟨_,fx⟩
       ·rcases (inv.fresh u p6 b fx).1 with h | h
        ·have:=(hN b hn).1; omega
        ·exact (hN b hn).2 h.1
       ·exact (hN b hn).2 (inv.vg b fx)
      refine ih _ _ _ (fun j=>if j=i then f else if j∈U.getD i [] then [] else g j) A9 GS (by omega) (by rw [jv]; exact g1) (by rw [gq]; exact g2)
       ⟨inv.iH.then hC fun b hb=>(by
        rcases hblk b hb with ⟨u,_,p6,fx⟩ | ⟨_,fx⟩
        ·exact (inv.fresh u p6 b fx).1.elim .inr fun h=>.inl h.1
        ·exact .inl (inv.vg b fx)),fun sA=>?_,?_,fun j hj=>?_,?_,fun j hj d uJ sj se=>?_,?_,?_,?_⟩
      ·have w7:l.length ∉ U.getD i []:=sA i ((getSet L i i hL.1 fk).2 (.inl rfl))
       have h0:=inv.A7 fun k hk=>sA k ((getSet L i k hL.1 fk).2 (.inr hk))
       refine ⟨h0.1.then hC fun b hb=>?_,?_⟩
       ·rcases hblk b hb with ⟨u,_,p6,fx⟩ | ⟨h,_⟩
        ·exact (inv.fresh u p6 b fx).1.elim .inr fun ⟨_,k,hk,GU⟩=>absurd GU (sA k ((getSet L i k hL.1 fk).2 (.inr hk)))
        ·exact absurd h w7
       ·show (if l.length=i then f else if l.length∈U.getD i [] then [] else g l.length)=H
        rw [if_neg (by omega),if_neg w7]
        exact h0.2
      ·intro b hb
       have cq:b∈(if l.length=i then f else if l.length∈U.getD i [] then [] else g l.length):=hb
       rw [if_neg (by omega)] at cq
       split at cq
       ·cases cq
       ·exact inv.vg b cq
      ·intro b hb hv
       have mm:b∈(if l.length=i then f else if l.length∈U.getD i [] then [] else g l.length):=hv
       rw [if_neg (by omega)] at mm
       split at mm
       ·cases mm
       ·rename_i Ut
        have cq:b∈(if j=i then f else if j∈U.getD i [] then [] else g j):=hb
        split at cq
        ·rcases (tx b cq).1 with h | h
         ·rcases hblk b h with ⟨u,_,p6,fx⟩ | ⟨h,_⟩
          ·exact inv.vd u p6 b fx mm
          ·exact Ut h
         ·have h1:=hH b (inv.vg b mm)
          have h2:=inv.iH.size
          omega
        ·rename_i kz
         split at cq
         ·cases cq
         ·exact inv.vd j (((getSet L i j hL.1 fk).1 hj).resolve_left kz) b cq mm
      ·intro j hj yR
       refine ⟨fun d uJ=>?_,fun Uu sj se Mt=>?_⟩
       rotate_left
       ·by_cases kz:j=i
        ·subst kz
         rw [hs] at se
         cases se
         rw [if_pos Mt] at hV
         refine ⟨v,?_⟩
         simp only [if_pos]
         exact rQ j s hs _ [] w' w' (cw a) _ v (an.refl _ _) (fun _ _ h=>nomatch h) (fun _ h=>nomatch h) (fun j' gy t ht=>ta j' (by have:=(ru j j' gy).1; omega) (by have:=(ru j j' gy).1; omega) t ht) hV
        ·have nb:=((getSet L i j hL.1 fk).1 hj).resolve_left kz
         have sB:j ∉ U.getD i []:=yR i ((getSet L i i hL.1 fk).2 (.inl rfl))
         obtain ⟨x,hx⟩:=(inv.done j nb (fun k hk=>yR k ((getSet L i k hL.1 fk).2 (.inr hk)))).2 Uu sj se Mt
         have fe:(fun j=>if j=i then f else if j∈U.getD i [] then [] else g j) j=g j:=by
          show (if j=i then f else if j∈U.getD i [] then [] else g j)=g j
          rw [if_neg kz,if_neg sB]
         rw [fe]
         refine ⟨x,rQ j sj se _ _ _ _ (cw a) _ _ hC (fun b cq GW=>?_) Ms (fun j' gy t ht=>ta j' (by have:=(ru j j' gy).1; have:=uF j nb; omega) (fun h=>?_) t ht) hx⟩
         ·rcases hblk b GW with ⟨u,Bb,p6,fx⟩ | ⟨_,fx⟩
          ·exact inv.wx j u nb p6 (fun h=>sB (h ▸ Bb)) b cq fx
          ·exact inv.vd j nb b cq fx
         ·subst h
          have:=jj L hL j j' (fun o' bw e' ub=>hL.2 j o' bw nb e' ub) gy
          rw [uH] at this; cases this
       by_cases kz:j=i
       ·subst kz
        rw [hs]
        simp only [if_pos]
        rw [yQ] at uJ
        rw [GV v d uJ]
        split
        ·rename_i hb
         rw [if_pos hb] at hV
         exact rQ j s hs _ [] w' w' (cw a) _ v (an.refl _ _) (fun _ _ h=>nomatch h) (fun _ h=>nomatch h) (fun j' gy t ht=>ta j' (by have:=(ru j j' gy).1; omega) (by have:=(ru j j' gy).1; omega) t ht) hV
        ·rename_i hb
         rw [if_neg hb] at hV
         exact hV
       ·have nb:=((getSet L i j hL.1 fk).1 hj).resolve_left kz
        have A8:=uF j nb
        have sB:j ∉ U.getD i []:=yR i ((getSet L i i hL.1 fk).2 (.inl rfl))
        have xc:oi.dst≠some d:=by
         intro h
         apply kz
         refine cn j i d ?_ ?_
         ·rw [ko A8]; exact uJ
         ·rw [ko uG,yQ]; exact h
        have:=(inv.done j nb (fun k hk=>yR k ((getSet L i k hL.1 fk).2 (.inr hk)))).1 d uJ
        rw [mz v d xc]
        have fe:(fun j=>if j=i then f else if j∈U.getD i [] then [] else g j) j=g j:=by
         show (if j=i then f else if j∈U.getD i [] then [] else g j)=g j
         rw [if_neg kz,if_neg sB]
        rw [fe]
        cases se:S[j]? with
        | none=>trivial
        | some sj=>
         rw [se] at this
         simp only [] at this ⊢
         split
         ·rename_i hb
          rw [if_pos hb] at this
          refine rQ j sj se _ _ _ _ (cw a) _ _ hC (fun b cq GW=>?_) Ms (fun j' gy t ht=>ta j' (by have:=(ru j j' gy).1; omega) (fun h=>?_) t ht) this
          rotate_left
          ·subst h
           have:=jj L hL j j' (fun o' bw e' ub=>hL.2 j o' bw nb e' ub) gy
           rw [uH] at this; cases this
          rcases hblk b GW with ⟨u,Bb,p6,fx⟩ | ⟨_,fx⟩
          ·exact inv.wx j u nb p6 (fun h=>sB (h ▸ Bb)) b cq fx
          ·exact inv.vd j nb b cq fx
         ·rename_i hb
          rw [if_neg hb] at this
          exact this
      ·by_cases kz:j=i
       ·subst kz
        rw [hs] at se
        cases se
        rw [yQ] at uJ
        rw [GV v d uJ]
        split
        ·rename_i hb
         rw [if_pos hb] at hV
         exact ⟨f,w',rQ j s hs _ [] w' w' (cw a) _ v (an.refl _ _) (fun _ _ h=>nomatch h) (fun _ h=>nomatch h) (fun j' gy t ht=>ta j' (by have:=(ru j j' gy).1; omega) (by have:=(ru j j' gy).1; omega) t ht) hV⟩
        ·rename_i hb
         rw [if_neg hb] at hV
         exact hV
       ·have nb:=((getSet L i j hL.1 fk).1 hj).resolve_left kz
        have A8:=uF j nb
        have xc:oi.dst≠some d:=by
         intro h
         apply kz
         refine cn j i d ?_ ?_
         ·rw [ko A8]; exact uJ
         ·rw [ko uG,yQ]; exact h
        have:=inv.tw j nb d uJ sj se
        rw [mz v d xc]
        split
        ·rename_i hb
         rw [if_pos hb] at this
         obtain ⟨f1,w1,h1⟩:=this
         refine ⟨f1,w1,rQ j sj se _ [] w1 w1 (cw a) _ _ (an.refl _ _) (fun _ _ h=>nomatch h) (fun _ h=>nomatch h) (fun j' gy t ht=>ta j' (by have:=(ru j j' gy).1; omega) (fun h=>?_) t ht) h1⟩
         subst h
         have:=jj L hL j j' (fun o' bw e' ub=>hL.2 j o' bw nb e' ub) gy
         rw [uH] at this; cases this
        ·rename_i hb
         rw [if_neg hb] at this
         exact this
      ·intro t ht
       rw [mz v t (fun h=>ht i uG (by rw [yQ]; exact h))]
       exact inv.other t ht
      ·intro j hj b hb
       by_cases kz:j=i
       ·simp only [if_pos kz] at hb
        have hh:=tx b hb
        have rP:=inv.iH.size
        rcases hh.1 with h | h
        ·rcases hblk b h with ⟨u,_,p6,fx⟩ | ⟨hv,fx⟩
         ·exact ⟨(inv.fresh u p6 b fx).1.imp (fun h=>h) fun h=>⟨h.1,h.2.imp fun k hk=>⟨(getSet L i k hL.1 fk).2 (.inr hk.1),hk.2⟩⟩,hh.2⟩
         ·exact ⟨.inr ⟨inv.vg b fx,i,(getSet L i i hL.1 fk).2 (.inl rfl),hv⟩,hh.2⟩
        ·exact ⟨.inl (by omega),hh.2⟩
       ·have nb:=((getSet L i j hL.1 fk).1 hj).resolve_left kz
        simp only [if_neg kz] at hb
        split at hb
        ·cases hb
        ·have h1:=inv.fresh j nb b hb
         have h2:=hC.size
         exact ⟨h1.1.imp (fun h=>h) fun h=>⟨h.1,h.2.imp fun k hk=>⟨(getSet L i k hL.1 fk).2 (.inr hk.1),hk.2⟩⟩,by omega⟩
      ·have tH:∀ j',(L.setIfInBounds i true).getD j' false=true→j'≠i→∀ b∈f,b ∉ (if j'∈U.getD i [] then [] else g j'):=by
        intro j' gy e2 b hb cq
        have GX:=((getSet L i j' hL.1 fk).1 gy).resolve_left e2
        split at cq
        ·cases cq
        ·rename_i sB
         rcases (tx b hb).1 with h | h
         ·rcases hblk b h with ⟨u,Bb,p6,fx⟩ | ⟨_,fx⟩
          ·exact inv.wx u j' p6 GX (fun h=>sB (h ▸ Bb)) b fx cq
          ·exact inv.vd j' GX b cq fx
         ·have:=inv.fresh j' GX b cq
          omega
       intro i' j' sy gy kp b hb cq
       by_cases e1:i'=i
       ·have e2:j'≠i:=fun h=>kp (e1.trans h.symm)
        simp only [if_pos e1] at hb
        simp only [if_neg e2] at cq
        exact tH j' gy e2 b hb cq
       ·simp only [if_neg e1] at hb
        by_cases e2:j'=i
        ·simp only [if_pos e2] at cq
         exact tH i' sy e1 b cq hb
        ·simp only [if_neg e2] at cq
         split at hb
         ·cases hb
         ·split at cq
          ·cases cq
          ·exact inv.wx i' j' (((getSet L i i' hL.1 fk).1 sy).resolve_left e1) (((getSet L i j' hL.1 fk).1 gy).resolve_left e2) kp b hb cq
     cases hb:s.b with
     | true=>
      rw [if_pos hb] at ow
      refine .inl ⟨ow.1,nr ow.2 ?_⟩
      rintro v w' ⟨hC,f,tx,hV⟩
      exact step v w' f hC tx (by rw [if_pos hb]; exact hV)
     | false=>
      rw [if_neg (by rw [hb]; exact Bool.false_ne_true)] at ow
      exact .inr ⟨ow,step undef w [] (an.refl _ _) (fun b h=>nomatch h) (by rw [if_neg (by rw [hb]; exact Bool.false_ne_true)])⟩
    by_cases Rk:∃ z,z∈Z∧L.getD z false=false∧∀ o,l[z]? = some o→∀ e∈o.after.toList.filter (Region.binds .any),L.getD e.on false=true
    ·obtain ⟨z,hz,U9,YR⟩:=Rk
     obtain ⟨⟨hzm,hzf⟩,MQ⟩:=hZ z hz
     cases Fq:l[z]? with
     | none=>rw [Fq] at MQ; cases MQ
     | some oz=>
      rw [Fq] at MQ
      simp only [Bool.and_eq_true] at MQ
      obtain ⟨hmv,Fm⟩:=MQ
      have Pd:=YR oz Fq
      have YS:Region.free .any l.toArray L z=true:=MP (fun j hj=>jj L hL z j (fun o' bw=>YR o' bw) hj) hzf
      have YT:z∈Region.ready .any l.toArray L:=DC L z oz hL.1 Fq U9 Pd
      obtain ⟨dz,opz,tyz,pz,az,gz⟩:=oz
      cases opz <;> first | exact (Bool.false_ne_true hmv).elim | skip
      case move x=>
       cases gz with
       | some _=>simp at Fm
       | none=>
        have hev:∀ w',(execOp a.eval ⟨dz,.move x,tyz,pz,az,none⟩).run P w' = .ok (.value (a.eval x)) w':=fun _=>rfl
        refine wpAny_take (by simpa using Fq) Q6 YS (by simpa using YT) (fun c a w h=>absurd h.2.2 (hp _ _ _)) (v:=a.eval x) (.inl ⟨rfl,hev⟩) ?_
        rcases main z _ (U7 z hz) Fq U9 Pd with ⟨_,h⟩ | ⟨h,_⟩
        ·rw [r5]; exact h
        ·exact absurd h (by simp [Region.wanted])
      case extract x k=>
       cases gz with
       | some _=>simp at Fm
       | none=>
        rcases main z _ (U7 z hz) Fq U9 Pd with ⟨_,h⟩ | ⟨h,_⟩
        ·obtain ⟨v,hv,hk⟩:=IB h
         refine wpAny_take (by simpa using Fq) Q6 YS (by simpa using YT) (fun c a w h=>absurd h.2.2 (hp _ _ _)) (v:=v) (.inl ⟨rfl,fun w'=>by rw [r5]; exact hv w'⟩) ?_
         exact hk
        ·exact absurd h (by simp [Region.wanted])
    refine ⟨fun h=>(by obtain ⟨i,hi⟩:=Kw; rw [h] at hi; cases hi),fun i hi=>?_⟩
    obtain ⟨q1,oi,nn,uI⟩:=mr L i hi
    have fk:i < l.length:=(List.getElem?_eq_some_iff.1 nn).1
    have uH:L.getD i false=false:=getD_both q1
    have uG:i < m:=by
     rcases Nat.lt_or_ge i m with h | h
     ·exact h
     ·have bad:∀ j,j < i→L.getD j false=false→False:=by
       intro j
       induction j using Nat.strongRecOn with
       | _ j ih=>
        intro kz sB
        rcases Ev i h fk j kz with hj | hj
        ·have:=jj L hL i j (fun o' bw=>by have:o'=oi:=Option.some.inj (bw.symm.trans nn); subst this; exact uI) hj
         rw [sB] at this; cases this
        ·refine Rk ⟨j,hj,sB,fun o ho e he=>?_⟩
         cases hb:L.getD e.on false with
         | true=>rfl
         | false=>have bc:=wE j o ho e he; exact (ih e.on bc (by omega) hb).elim
      exact (bad j0 (by omega) E7).elim
    unfold wpOp
    rw [show (l.toArray)[i]? = some oi by simpa using nn]
    simp only []
    rw [zR (by rw [g1]; exact hd)]
    rcases main i oi uG nn uH uI with ⟨hw,h⟩ | ⟨hw,h⟩
    ·rw [if_pos hw]
     exact .inl (h.wp fun v w' hv=>hv)
    ·rw [if_neg (by rw [hw]; exact Bool.false_ne_true)]
     exact h
 refine head _ _ a _ (fun j=>if j=l.length then H else []) ⟨by simp,?_⟩ ?_ ?_ h1 h2 ⟨an.nil (an.drew _ _),fun _=>⟨an.drew _ _,by simp⟩,fun b hb=>by simpa using hb,?_,?_,?_,?_,?_,?_⟩
 ·intro j o ho hj
  rw [getD_replicate_false] at hj; cases hj
 ·intro j hj
  rw [getD_replicate_false] at hj; cases hj
 ·simp
 ·intro j hj
  rw [getD_replicate_false] at hj; cases hj
 ·intro j hj
  rw [getD_replicate_false] at hj; cases hj
 ·intro j hj
  rw [getD_replicate_false] at hj; cases hj
 ·intro t _
  rw [h3]
 ·intro j hj
  rw [getD_replicate_false] at hj; cases hj
 ·intro i j hi
  rw [getD_replicate_false] at hi; cases hi
theorem jo.val {m i:Nat} {U:LL} {H:LN} {o:Oper} {v:Value} (ho:l[i]? = some o) (hs:S[i]? = some ⟨true,pl fun _ _ u=>u=v⟩) (hg:o.guard=none)
  (h:∀ (g:Nat→List Nat) (r:NV) (w:World),an H w0 w→(∀ j∈(cj l).getD i [],Old l S j r)→(∀ j,uD l U m i j=true→w6 l S j g r w)→(∀ t,(∀ j,j < m→br l j≠some t)→r t=r0 t)→
   (execOp (ev r) o).run P w = .ok (.value v) w):jo P l m S U r0 w0 H i:=by
 intro o' s' bw db g r w hC hV hO hd iT sL mz
 obtain rfl:o=o':=Option.some.inj (ho.symm.trans bw)
 obtain rfl:_=s':=Option.some.inj (hs.symm.trans db)
 rw [if_pos rfl]
 refine ⟨by unfold Region.wanted; rw [hg],?_⟩
 unfold fc
 rw [h g r w hC hO hd iT]
 exact ⟨an.refl _ _,[],(fun _ h=>nomatch h),rfl⟩
theorem jo.call {m i:Nat} {U:LL} {H:LN} {o:Oper} {v:Value} {f:FuncId} (ho:l[i]? = some o) (hs:S[i]? = some ⟨true,pl fun _ _ u=>u=v⟩) (hg:o.guard=none)
  (h:∀ (g:Nat→List Nat) (r:NV) (w:World),an H w0 w→(∀ j∈(cj l).getD i [],Old l S j r)→(∀ j,uD l U m i j=true→w6 l S j g r w)→(∀ t,(∀ j,j < m→br l j≠some t)→r t=r0 t)→
   ∃ args,(execOp (ev r) o).run P w = .ok (.enter f args) w∧Calls P f args w fun e w'=>e = .returned v∧an [] w w'):jo P l m S U r0 w0 H i:=by
 intro o' s' bw db g r w hC hV hO hd iT sL mz
 obtain rfl:o=o':=Option.some.inj (ho.symm.trans bw)
 obtain rfl:_=s':=Option.some.inj (hs.symm.trans db)
 rw [if_pos rfl]
 refine ⟨by unfold Region.wanted; rw [hg],?_⟩
 unfold fc
 obtain ⟨args,h1,h2⟩:=h g r w hC hO hd iT
 rw [h1]
 exact h2.mono fun e w' ⟨he,hc⟩=>⟨v,he,hc.nil,[],(fun _ h=>nomatch h),rfl⟩
theorem jo.mem {m i:Nat} {U:LL} {H:LN} {o:Oper} {V:List Nat→World→Value→Prop} (ho:l[i]? = some o) (hs:S[i]? = some ⟨true,pl V⟩) (hg:o.guard=none)
  (h:∀ (g:Nat→List Nat) (r:NV) (w:World),an H w0 w→(∀ j∈(cj l).getD i [],Old l S j r)→(∀ j,uD l U m i j=true→w6 l S j g r w)→(∀ t,(∀ j,j < m→br l j≠some t)→r t=r0 t)→
   fc P o r w fun v w'=>an [] w w'∧∃ f,(∀ b∈f,w.heap.size≤b∧b < w'.heap.size)∧V f w' v):jo P l m S U r0 w0 H i:=by
 intro o' s' bw db g r w hC hV hO hd iT sL mz
 obtain rfl:o=o':=Option.some.inj (ho.symm.trans bw)
 obtain rfl:_=s':=Option.some.inj (hs.symm.trans db)
 rw [if_pos rfl]
 refine ⟨by unfold Region.wanted; rw [hg],nr (h g r w hC hO hd iT) ?_⟩
 rintro v w' ⟨hC,f,hf,hV⟩
 exact ⟨hC.nil,f,fun b hb=>⟨.inr (hf b hb).1,(hf b hb).2⟩,hV⟩
theorem jo.OB {m i:Nat} {U:LL} {H:LN} {o:Oper} {V:List Nat→World→(Nat→Value)→Value→Prop} (ho:l[i]? = some o) (hs:S[i]? = some ⟨true,V⟩) (hg:o.guard=none)
  (h:∀ (g:Nat→List Nat) (r:NV) (w:World),an H w0 w→(∀ j∈(cj l).getD i [],Old l S j r)→(∀ j,uD l U m i j=true→w6 l S j g r w)→(∀ t,(∀ j,j < m→br l j≠some t)→r t=r0 t)→
   fc P o r w fun v w'=>an [] w w'∧∃ f,(∀ b∈f,w.heap.size≤b∧b < w'.heap.size)∧V f w' r v):jo P l m S U r0 w0 H i:=by
 intro o' s' bw db g r w hC hV hO hd iT sL mz
 obtain rfl:o=o':=Option.some.inj (ho.symm.trans bw)
 obtain rfl:_=s':=Option.some.inj (hs.symm.trans db)
 rw [if_pos rfl]
 refine ⟨by unfold Region.wanted; rw [hg],nr (h g r w hC hO hd iT) ?_⟩
 rintro v w' ⟨hC,f,hf,hV⟩
 exact ⟨hC.nil,f,fun b hb=>⟨.inr (hf b hb).1,(hf b hb).2⟩,hV⟩
def Et {α:Type} (T:ag α) (x:α):List Nat→World→Value→Prop:=fun f w v=>T.rep w.heap [v] x f∧f.Nodup
def aar (cs:LV) (e:TI) (n:Nat):List Nat→World→Value→Prop:=fun f w v=>∃ b,f=[b]∧v = .slice (some ⟨b,0,none⟩) n n∧Row w b cs e
def Gx (a:LN) (l:LO) (s:gv):Prop:=∀ f F (w w':World) (r r':NV) v,an F w w'→(∀ b∈f,b ∉ F)→(∀ j∈a,∀ t,br l j=some t→r' t=r t)→s.V f w r v→s.V f w' r' v
theorem MR {a:LN} {b:Bool} {V:List Nat→World→Value→Prop} (h:∀ f F (w w':World) v,an F w w'→(∀ b∈f,b ∉ F)→V f w v→V f w' v):Gx a l ⟨b,pl V⟩:=
 fun f F w w' _ _ v hC hn _ hv=>h f F w w' v hC hn hv
theorem Kh {a:LN} {b:Bool} {u:Value}:Gx a l ⟨b,pl fun _ _ v=>v=u⟩:=MR fun _ _ _ _ _ _ _ h=>h
def Kg:Value→Nat→Value
 | .agg cs,i=>cs.getD i undef
 | _,_=>undef
def Kf:Value→Nat→Value
 | .tuple cs,i=>cs.getD i undef
 | _,_=>undef
theorem fc.own {α:Type} {T:ag α} {x:α} {o:Oper} {r:NV} {w:World} {f:FuncId} {args:Array Value} (h:(execOp (ev r) o).run P w = .ok (.enter f args) w)
  (hc:Calls P f args w fun e w'=>∃ (v:Value) (k:LN),e = .returned v∧an [] w w'∧OE [] w.heap.size w' T [v] x k) :
  fc P o r w fun v w'=>an [] w w'∧∃ f,(∀ b∈f,w.heap.size≤b∧b < w'.heap.size)∧Et T x f w' v:=by
 unfold fc
 rw [h]
 exact hc.mono fun e w' ⟨v,k,he,hC,ho⟩=>⟨v,he,hC,k,fun b hb=>⟨ho.fresh b hb,T.lt ho.1 b hb⟩,ho.1,ho.2.1⟩
theorem fc.made {α:Type} {T:ag α} {x:α} {o:Oper} {r:NV} {w:World} (h:∃ v w' f,(execOp (ev r) o).run P w = .ok (.value v) w'∧an [] w w'∧OE [] w.heap.size w' T [v] x f) :
  fc P o r w fun v w'=>an [] w w'∧∃ f,(∀ b∈f,w.heap.size≤b∧b < w'.heap.size)∧Et T x f w' v:=by
 obtain ⟨v,w',f,hr,hC,ho⟩:=h
 unfold fc
 rw [hr]
 exact ⟨hC,f,fun b hb=>⟨ho.fresh b hb,T.lt ho.1 b hb⟩,ho.1,ho.2.1⟩
theorem tZ {f g:LN} (h1:f.Nodup) (h2:g.Nodup) (d:sb f g):(f++g).Nodup:=List.nodup_append.2 ⟨h1,h2,fun a ha _ hb uE=>d a ha (uE ▸ hb)⟩
theorem fc.s9 {α:Type} {E:ag α} {F f:LN} {t e et:TI} {s x:OO} {i:TypeInfo} {z:Value} {sv u:Value} {xs:List α} {y:α} {b:Nat} {r:NV} {w:World} {d:Option Nat} {ty:TI} {pos:String} {ab:Array Edge}
  (ht:P.underlying t=some (.slice e)) (hi:P.info? e=some i) (hz:i.zero=some z) (hs:i.size=1) (hE:E.size=1) (yJ:z.oneCell'=true)
  (tW:ev r s=sv) (hO:Et (aK e E) xs f w sv) (hF:∀ b∈f,b∈F) (hx:ev r x = .slice (some ⟨b,0,none⟩) 1 1) (bh:Row w b [u] et) (hy:E.rep w.heap [u] y [])
  (hb:(xs.length+1) * i.bytes≤140737488355328) (xU:xs.length+1≤maxLen) :
  fc P ⟨d,.call ⟨.builtin .append,#[s,x],#[t,t]⟩,ty,pos,ab,none⟩ r w fun v w'=>an F w w'∧∃ f',(∀ b∈f',(b∈F∨w.heap.size≤b)∧b < w'.heap.size)∧Et (aK e E) (xs++[y]) f' w' v:=by
 obtain ⟨v,w',f',h,hC,dq,cg,cn⟩:=mw (d:=d) (ty:=ty) (pos:=pos) (ab:=ab) (g:=none) (ys:=[y]) ht hi hz (by rw [hs,hE]) (by rw [cells_one yJ,hE]; rfl) tW hO.1 hO.2 hx bh.at (ou hy) (fun _ h=>nomatch h) (by simp) hb xU
 unfold fc
 rw [h]
 refine ⟨hC.mono hF,f',fun b hb=>⟨?_,ag.lt _ dq b hb⟩,dq,cn List.nodup_nil⟩
 rcases cg b hb with h | h | h
 ·exact .inl (hF b h)
 ·cases h
 ·exact .inr h
theorem fc.Em {t e:TI} {i:TypeInfo} {z u:Value} {x:OO} {r:NV} {w:World} {d:Option Nat} {ty:TI} {pos:String} {ab:Array Edge} (ht:P.underlying t=some (.slice e)) (hi:P.info? e=some i) (hz:i.zero=some z)
  (hs:i.size=1) (hx:ev r x=u) (hv:u.oneCell'=true) :
  fc P ⟨d,.buildSlice t 1 #[(0,x)],ty,pos,ab,none⟩ r w fun v w'=>an [] w w'∧∃ f,(∀ b∈f,w.heap.size≤b∧b < w'.heap.size)∧aar [u] e 1 f w' v:=by
 unfold fc
 rw [Jo ht hi hz hs (by rw [hx]; exact hv),hx]
 exact ⟨an.alloc _ _ _,[w.heap.size],fun b hb=>by rw [List.mem_singleton.1 hb]; simp,w.heap.size,rfl,rfl,heap_alloc_new w _⟩
end
end Go.Li
