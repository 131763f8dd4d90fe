/- A region that draws its order, whatever it holds: its head in any order, its tail one behind the other. No condition. -/
import Derived.Test.YtgjbmjjihmfppaaGreatLf
import Derived.Still
namespace Go.Li
open Go
def mf (acc:LL) (o:Oper):List (List Nat):=
 acc++[(o.after.toList.filter (Region.binds .any)).flatMap fun e=>e.on :: acc.getD e.on []]
def cg (l:LO):List (List Nat):=l.foldl mf []
structure gx where
 b:Bool
 V:List Nat→World→(Nat→Value)→Value→Prop
abbrev pl (V:List Nat→World→Value→Prop):List Nat→World→(Nat→Value)→Value→Prop:=fun f w _ v=>V f w v
def n8 (P:Program) (n:Nat) (l:LO) (Q:Exit→(Nat→Value)→World→Prop) (r:NV) (w:World):Prop:=
 ∀ a:Act,a.tmps.size=n→a.defers=[]→cy a=r→wpAny P .any l.toArray (fun e a' w'=>a'.tmps.size=n∧a'.defers=[]∧Q e (cy a') w') l.toArray.size (Array.replicate l.toArray.size false) a { w with drawn:=w.drawn+1 }
theorem n8.W {P:Program} {n id:Nat} {l:LO} {Q:Exit→(Nat→Value)→World→Prop} {r:NV} {w:World} (hm:P.follows .mixedOrders=true) (h:n8 P n l Q r w):W P n (.region id l.toArray true) Q r w:=
 fun a h1 h2 h3=>wp_region_any hm (h a h1 h2 h3)
def BT (π:LN) (o:Oper):Oper:=⟨o.dst,o.op,o.type,o.pos,(o.after.toList.map fun e=>⟨π.getD e.on 0,e.ground⟩).toArray,o.guard⟩
def qy (l:LO) (σ π:LN):List Oper:=σ.map fun k=>BT π (l.getD k default)
def NS (l:LO) (σ π:LN):Bool:=
 Nat.beq σ.length l.length && Nat.beq π.length l.length &&
 ((List.range l.length).all fun i=>Nat.blt (π.getD i 0) l.length && Nat.beq (σ.getD (π.getD i 0) 0) i && Nat.blt (σ.getD i 0) l.length && Nat.beq (π.getD (σ.getD i 0) 0) i) &&
 l.all fun o=>o.guard.isNone && o.after.toList.all fun e=>Nat.blt e.on l.length
theorem Uy {P:Program} {Q:Exit→Act→World→Prop} {π:LN} {o:Oper} {a:Act} {w:World} {K:Act→World→Prop}:(BT π o).wp P a w K Q=o.wp P a w K Q:=by
 cases o; rfl
theorem Od {P:Program} {π:LN} {o:Oper} {a:Act} {w:World}:(BT π o).asks P a w=o.asks P a w:=by
 cases o; rfl
section
variable {P:Program} {l:LO} {σ π:LN} (h:NS l σ π=true)
include h
theorem CZ:σ.length=l.length∧π.length=l.length∧(∀ i,i < l.length→π.getD i 0 < l.length∧σ.getD (π.getD i 0) 0=i∧σ.getD i 0 < l.length∧π.getD (σ.getD i 0) 0=i)∧∀ o∈l,o.guard=none∧∀ e∈o.after.toList,e.on < l.length:=by
 unfold NS at h
 simp only [Bool.and_eq_true,List.all_eq_true,List.mem_range] at h
 obtain ⟨⟨⟨h1,h2⟩,h3⟩,h4⟩:=h
 refine ⟨Nat.eq_of_beq_eq_true h1,Nat.eq_of_beq_eq_true h2,fun i hi=>?_,fun o ho=>?_⟩
 ·obtain ⟨⟨⟨a,b⟩,c⟩,d⟩:=h3 i hi
  exact ⟨Nat.lt_of_succ_le (Nat.le_of_ble_eq_true a),Nat.eq_of_beq_eq_true b,Nat.lt_of_succ_le (Nat.le_of_ble_eq_true c),Nat.eq_of_beq_eq_true d⟩
 ·obtain ⟨a,b⟩:=h4 o ho
  exact ⟨by simpa using a,fun e he=>Nat.lt_of_succ_le (Nat.le_of_ble_eq_true (b e he))⟩
theorem Iz:(qy l σ π).length=l.length:=by unfold qy; rw [List.length_map]; exact (CZ h).1
theorem IB {i:Nat} {o:Oper} (ho:l[i]? = some o):(qy l σ π)[π.getD i 0]? = some (BT π o):=by
 obtain ⟨h1,_,h3,_⟩:=CZ h
 have hi:=(List.getElem?_eq_some_iff.1 ho).1
 obtain ⟨a,b,_,_⟩:=h3 i hi
 unfold qy
 rw [List.getElem?_map,List.getElem?_eq_getElem (by omega)]
 have e:σ[π.getD i 0]'(by omega)=i:=by
  rw [List.getD_eq_getElem?_getD,List.getElem?_eq_getElem (by omega)] at b
  simpa using b
 simp only [Option.map_some,Option.some.injEq]
 rw [e,List.getD_eq_getElem?_getD,ho]; rfl
theorem LH {Q:Exit→Act→World→Prop}:∀ (fuel:Nat) (L L':Array Bool) (a:Act) (w:World),L.size=l.length→L'.size=l.length→(∀ i,i < l.length→L'.getD (π.getD i 0) true=L.getD i true)→
  wpAny P .any (qy l σ π).toArray Q fuel L' a w→wpAny P .any l.toArray Q fuel L a w:=by
 obtain ⟨h1,h2,h3,h4⟩:=CZ h
 have gd:∀ {L:Array Bool} {i:Nat} (b:Bool),L.size=l.length→i < l.length→L.getD i b=L.getD i true:=fun {L i} b hs hi=>by
  have:i < L.size:=by omega
  simp [Array.getD,this]
 have nv:∀ (L L':Array Bool),L.size=l.length→L'.size=l.length→(∀ i,i < l.length→L'.getD (π.getD i 0) true=L.getD i true)→∀ i,i < l.length→(i∈Region.ready .any l.toArray L↔π.getD i 0∈Region.ready .any (qy l σ π).toArray L'):=by
  intro L L' hs da hL i hi
  rw [mem_ready,mem_ready,hL i hi]
  have ho:l[i]? = some (l[i]'hi):=List.getElem?_eq_getElem hi
  have br:=IB h ho
  have hg:=h4 _ (List.mem_of_getElem? ho)
  constructor
  ·rintro ⟨g1,o,g2,g3⟩
   refine ⟨g1,BT π l[i],by simpa using br,fun e he hb=>?_⟩
   have eo:l[i]=o:=by simpa [ho] using g2
   simp only [BT,List.mem_toArray,List.mem_map] at he
   obtain ⟨e0,LJ,rfl⟩:=he
   have bc:=hg.2 e0 LJ
   have:=g3 e0 (by rw [← eo]; simpa using LJ) hb
   rw [gd false da (h3 _ bc).1,hL _ bc,← gd false hs bc]; exact this
  ·rintro ⟨g1,o,g2,g3⟩
   refine ⟨g1,l[i],by simp,fun e he hb=>?_⟩
   have eo:BT π l[i]=o:=by
    have:(qy l σ π)[π.getD i 0]? = some o:=by simpa using g2
    rw [br] at this
    exact Option.some.inj this
   have bc:=hg.2 e (by simpa using he)
   have:=g3 ⟨π.getD e.on 0,e.ground⟩ (by rw [← eo]; simp only [BT,List.mem_toArray,List.mem_map]; exact ⟨e,by simpa using he,rfl⟩) hb
   rw [gd false da (h3 _ bc).1,hL _ bc,← gd false hs bc] at this; exact this
 have back:∀ (L L':Array Bool),L.size=l.length→L'.size=l.length→(∀ i,i < l.length→L'.getD (π.getD i 0) true=L.getD i true)→Region.ready .any l.toArray L=[]→Region.ready .any (qy l σ π).toArray L'=[]:=by
  intro L L' hs da hL he
  rw [List.eq_nil_iff_forall_not_mem]
  intro k hk
  have An:k < l.length:=by
   obtain ⟨_,o,g2,_⟩:=mem_ready.1 hk
   have:(qy l σ π)[k]? = some o:=by simpa using g2
   have:=(List.getElem?_eq_some_iff.1 this).1
   rwa [Iz h] at this
  obtain ⟨_,_,c,d⟩:=h3 k An
  have:=(nv L L' hs da hL (σ.getD k 0) c).2 (by rw [d]; exact hk)
  rw [he] at this
  exact nomatch this
 intro fuel
 induction fuel with
 | zero=>
  intro L L' a w hs da hL hh
  refine ⟨?_,hh.2⟩
  rw [List.eq_nil_iff_forall_not_mem]
  intro i hi
  have sF:i < l.length:=by
   obtain ⟨_,o,g2,_⟩:=mem_ready.1 hi
   have:l[i]? = some o:=by simpa using g2
   exact (List.getElem?_eq_some_iff.1 this).1
  have:=(nv L L' hs da hL i sF).1 hi
  rw [hh.1] at this
  exact nomatch this
 | succ fuel ih=>
  intro L L' a w hs da hL hh
  refine ⟨fun he=>hh.1 (back L L' hs da hL he),fun i hi=>?_⟩
  have sF:i < l.length:=by
   obtain ⟨_,o,g2,_⟩:=mem_ready.1 hi
   have:l[i]? = some o:=by simpa using g2
   exact (List.getElem?_eq_some_iff.1 this).1
  have ho:l[i]? = some (l[i]'sF):=List.getElem?_eq_getElem sF
  have hg:=h4 _ (List.mem_of_getElem? ho)
  have LM:=hh.2 _ ((nv L L' hs da hL i sF).1 hi)
  have next:∀ a w,wpAny P .any (qy l σ π).toArray Q fuel (L'.setIfInBounds (π.getD i 0) true) a w→wpAny P .any l.toArray Q fuel (L.setIfInBounds i true) a w:=fun a w=>ih _ _ a w (by simpa using hs) (by simpa using da) fun j hj=>by
   have hpj:=(h3 j hj).1
   have hpi:=(h3 i sF).1
   by_cases e:i=j
   ·subst e
    rw [Array.getD_eq_getD_getElem?,Array.getD_eq_getD_getElem?,Array.getElem?_setIfInBounds_self_of_lt (by omega),Array.getElem?_setIfInBounds_self_of_lt (by omega)]
   ·have e':π.getD i 0≠π.getD j 0:=fun q=>e (by rw [← (h3 i sF).2.1,q,(h3 j hj).2.1])
    have h5:=hL j hj
    have q1:(L'.setIfInBounds (π.getD i 0) true).getD (π.getD j 0) true=L'.getD (π.getD j 0) true:=by
     rw [Array.getD_eq_getD_getElem?,Array.getD_eq_getD_getElem?,Array.getElem?_setIfInBounds_ne e']
    have q2:(L.setIfInBounds i true).getD j true=L.getD j true:=by
     rw [Array.getD_eq_getD_getElem?,Array.getD_eq_getD_getElem?,Array.getElem?_setIfInBounds_ne e]
    rw [q1,q2,h5]
  have ga:(l.toArray)[i]? = some (l[i]'sF):=by simp
  have gb:((qy l σ π).toArray)[π.getD i 0]? = some (BT π (l[i]'sF)):=by simpa using IB h ho
  unfold wpOp at LM ⊢
  rw [gb] at LM
  rw [ga]
  have w1:Region.wanted (l[i]'sF) (yielded l.toArray a.tmps)=true:=by unfold Region.wanted; rw [hg.1]
  have w2:Region.wanted (BT π (l[i]'sF)) (yielded (qy l σ π).toArray a.tmps)=true:=by unfold Region.wanted; show (match (l[i]'sF).guard with | none=>true | some (j,want)=>_)=true; rw [hg.1]
  simp only [w2,if_true] at LM
  simp only [w1,if_true]
  rw [Uy,Od] at LM
  exact LM.imp (fun g=>Oper.wp_mono next g) id
theorem n8.prm {n:Nat} {Q:Exit→(Nat→Value)→World→Prop} {r:NV} {w:World} (hw:n8 P n (qy l σ π) Q r w):n8 P n l Q r w:=by
 have hl:=Iz h
 obtain ⟨_,_,h3,_⟩:=CZ h
 intro a a1 a2 a3
 have:=hw a a1 a2 a3
 rw [show (qy l σ π).toArray.size=l.toArray.size by simpa using hl] at this
 refine LH h _ _ _ a _ (by simp) (by simp) (fun i hi=>?_) this
 have hq:=(h3 i hi).1
 rw [List.getD_eq_getElem?_getD] at hq
 simp [Array.getD,hi,hq]
end
section
variable {P:Program} {n:Nat} {Q:Exit→(Nat→Value)→World→Prop} {r0:NV} {w0:World} {l:LO} {S:List gx}
def bn (l:LO) (j:Nat):Option Nat:=(l[j]?).bind (·.dst)
def wE (l:LO) (S:List gx) (j:Nat) (g:Nat→List Nat) (r:NV) (w:World):Prop:=
 (∀ d,bn l j=some d→match S[j]? with
  | some s=>if s.b then s.V (g j) w r (r d) else r d=undef
  | none=>True)∧(bn l j=none→∀ s,S[j]? = some s→s.b=true→∃ x,s.V (g j) w r x)
def Old (l:LO) (S:List gx) (j:Nat) (r:NV):Prop:=∀ d,bn l j=some d→∀ s,S[j]? = some s→if s.b then ∃ f w,s.V f w r (r d) else r d=undef
structure zt (l:LO) (m:Nat) (S:List gx) (U:LL) (r0:NV) (w0:World) (H:LN) (L:Nat→Prop) (g:Nat→List Nat) (r:NV) (w:World):Prop where
 j4:ak H w0 w
 AF:(∀ k,L k→l.length ∉ U.getD k [])→ak [] w0 w∧g l.length=H
 vg:∀ b∈g l.length,b∈H
 vd:∀ j,L j→rM (g j) (g l.length)
 done:∀ j,L j→(∀ k,L k→j ∉ U.getD k [])→wE l S j g r w
 sO:∀ j,L j→Old l S j r
 other:∀ t,(∀ j,j < m→bn l j≠some t)→r t=r0 t
 fresh:∀ j,L j→∀ b∈g j,(w0.heap.size≤b∨(b∈H∧∃ k,L k∧l.length∈U.getD k []))∧b < w.heap.size
 vL:∀ i j,L i→L j→i≠j→rM (g i) (g j)
def tS (l:LO) (U:LL) (m i j:Nat):Bool:=
 ((cg l).getD i []).contains j && (List.range m).all fun k=>!((U.getD k []).contains j) || Nat.beq k i || ((cg l).getD k []).contains i
def ll (g:Nat→List Nat) (us:LN):List Nat:=us.flatMap g
def zn (l:LO) (U:LL) (m i:Nat):Bool:=(List.range m).all fun k=>!((U.getD k []).contains l.length) || Nat.beq k i || ((cg l).getD k []).contains i
def je (P:Program) (l:LO) (m:Nat) (S:List gx) (U:LL) (r0:NV) (w0:World) (H:LN) (i:Nat):Prop:=
 ∀ o s,l[i]? = some o→S[i]? = some s→∀ (g:Nat→List Nat) (r:NV) (w:World),ak H w0 w→(zn l U m i=true→ak [] w0 w∧g l.length=H∧∀ j∈(cg l).getD i [],∀ b∈g j,w0.heap.size≤b)→(∀ j∈(cg l).getD i [],Old l S j r)→(∀ j,tS l U m i j=true→wE l S j g r w)→(∀ t,(∀ j,j < m→bn l j≠some t)→r t=r0 t)→
  (∀ i'∈(cg l).getD i [],∀ j'∈(cg l).getD i [],i'≠j'→rM (g i') (g j'))→(∀ j∈(cg l).getD i [],∀ b∈g j,(w0.heap.size≤b∨b∈H)∧b < w.heap.size)→
  if s.b then Region.wanted o (yl l r)=true∧fj P o r w fun v w'=>ak (ll g (U.getD i [])) w w'∧∃ f,(∀ b∈f,(b∈ll g (U.getD i [])∨w.heap.size≤b)∧b < w'.heap.size)∧s.V f w' r v
  else Region.wanted o (yl l r)=false
def AA:List Nat→Bool
 | []=>true
 | x :: l=>!(l.contains x) && AA l
theorem yh:∀ {l:LN},AA l=true→l.Nodup
 | [],_=>List.nodup_nil
 | x :: l,h=>by
  simp only [AA,Bool.and_eq_true,Bool.not_eq_true',List.contains_eq_mem,decide_eq_false_iff_not] at h
  exact List.nodup_cons.2 ⟨h.1,yh h.2⟩
def zq (l:LO) (m:Nat) (Z:LN):Bool:=
 ((List.range l.length).all fun i=>((l.getD i default).after.toList.filter (Region.binds .any)).all fun e=>Nat.blt e.on i) &&
 ((List.range l.length).all fun i=>Nat.blt i m || (List.range i).all fun j=>((cg l).getD i []).contains j || Z.contains j) &&
 AA ((l.take m).filterMap (·.dst))
def Uz (o:Oper):Bool:=match o.op with | .move _=>true | .extract _ _=>true | _=>false
def Oe (l:LO) (i:Nat):Array Bool:=((List.range l.length).map fun j=>((cg l).getD i []).contains j).toArray
def F6 (l:LO) (m:Nat) (Z:LN):Bool:=
 Region.noSelect l.toArray && Z.all fun i=>Nat.blt i m && Region.free .any l.toArray (Oe l i) i &&
  match l[i]? with
  | some o=>Uz o && o.guard.isNone
  | none=>false
theorem LP {l:LO} {L:Array Bool} {i:Nat} (hL:∀ j∈(cg l).getD i [],L.getD j false=true) (h:Region.free .any l.toArray (Oe l i) i=true):Region.free .any l.toArray L i=true:=by
 unfold Region.free at h ⊢
 cases ho:(l.toArray)[i]? with
 | none=>rw [ho] at h; cases h
 | some oi=>
  rw [ho] at h
  simp only [List.all_eq_true,List.mem_range,Bool.or_eq_true] at h ⊢
  intro j hj
  rcases h j hj with (h1 | h1) | h1
  ·exact .inl (.inl h1)
  ·have bc:j < l.length:=by simpa using hj
   have hm:j∈(cg l).getD i []:=by
    unfold Oe at h1
    have:((List.range l.length).map fun j=>((cg l).getD i []).contains j)[j]? = some (((cg l).getD i []).contains j):=by
     rw [List.getElem?_map,List.getElem?_range bc]; rfl
    rw [Array.getD_eq_getD_getElem?,List.getElem?_toArray,this] at h1
    simpa using h1
   refine .inl (.inr ?_)
   have h2:=hL j hm
   rcases Nat.lt_or_ge j L.size with h' | h'
   ·simp [h'] at h2 ⊢; exact h2
   ·simp [Array.getElem?_eq_none h'] at h2
  ·exact .inr h1
theorem HH {P:Program} {d:Option Nat} {x:OO} {k:Nat} {ty:TI} {pos:String} {ab:Array Edge} {g:Option (Nat×Bool)} {r:NV} {w:World} {K:Value→World→Prop} (h:fj P ⟨d,.extract x k,ty,pos,ab,g⟩ r w K) :
  ∃ v,(∀ w',(execOp (ev r) ⟨d,.extract x k,ty,pos,ab,g⟩).run P w' = .ok (.value v) w')∧K v w:=by
 have e:execOp (ev r) ⟨d,.extract x k,ty,pos,ab,g⟩ = (Instr.extract (ev r x) k>>=fun v=>pure (.value v)):=rfl
 unfold fj at h
 rw [e] at h ⊢
 generalize ev r x=u at h ⊢
 cases u
 case tuple vs=>
  cases hv:vs[k]? with
  | none=>simp [Instr.extract,hv,stuck,Result.andThen,Sem.run] at h
  | some v=>
   refine ⟨v,fun w'=>?_,?_⟩
   ·simp [Instr.extract,hv]
   ·simpa [Instr.extract,hv] using h
 all_goals simp [Instr.extract,stuck,Result.andThen,Sem.run] at h
theorem zy (l:LO):∀ (i:Nat) (o:Oper),l[i]? = some o→(cg l)[i]? = some ((o.after.toList.filter (Region.binds .any)).flatMap fun e=>e.on :: ((cg l).take i).getD e.on []):=by
 have key:∀ (l:LO) (acc:LL),(l.foldl mf acc).length=acc.length+l.length∧(∀ j,j < acc.length→(l.foldl mf acc)[j]? = acc[j]?)∧
   ∀ i o,l[i]? = some o→(l.foldl mf acc)[acc.length+i]? = some ((o.after.toList.filter (Region.binds .any)).flatMap fun e=>e.on :: ((l.foldl mf acc).take (acc.length+i)).getD e.on []):=by
  intro l
  induction l with
  | nil=>intro acc; exact ⟨rfl,fun _ _=>rfl,fun i o h=>by simp at h⟩
  | cons x l ih=>
   intro acc
   obtain ⟨h1,h2,h3⟩:=ih (mf acc x)
   have hl:(mf acc x).length=acc.length+1:=by simp [mf]
   have hold:∀ j,j < acc.length→(mf acc x)[j]? = acc[j]?:=fun j hj=>by simp only [mf]; rw [List.getElem?_append_left hj]
   refine ⟨by simp only [List.foldl_cons,h1,hl,List.length_cons]; omega,fun j hj=>?_,?_⟩
   ·rw [List.foldl_cons,h2 j (by omega),hold j hj]
   ·intro i o hi
    cases i with
    | zero=>
     simp at hi
     subst hi
     have Xm:(List.foldl mf acc (x :: l)).take (acc.length+0)=acc:=by
      apply List.ext_getElem?
      intro j
      rw [Nat.add_zero,List.getElem?_take]
      split
      ·rename_i hj
       rw [List.foldl_cons,h2 j (by omega),hold j hj]
      ·rename_i hj
       rw [List.getElem?_eq_none (by omega)]
     rw [Xm]
     rw [Nat.add_zero,List.foldl_cons,h2 _ (by omega)]
     simp only [mf]
     rw [List.getElem?_append_right (Nat.le_refl _)]
     simp
    | succ i=>
     have:=h3 i o (by simpa using hi)
     rw [hl] at this
     rw [List.foldl_cons]
     rw [show acc.length+(i+1)=acc.length+1+i by omega]
     exact this
 intro i o hi
 have:=(key l []).2.2 i o hi
 simpa [cg] using this
theorem AB (l:LO) (hb:∀ (i:Nat) (o:Oper),l[i]? = some o→∀ e∈o.after.toList.filter (Region.binds .any),e.on < i) :
  ∀ (i j:Nat),j∈(cg l).getD i []→j < i∧∃ o,l[i]? = some o∧∃ e∈o.after.toList.filter (Region.binds .any),j=e.on∨j∈(cg l).getD e.on []:=by
 intro i j hj
 cases ho:l[i]? with
 | none=>
  have hlen:(cg l).length=l.length:=by
   have:∀ (l:LO) (acc:LL),(l.foldl mf acc).length=acc.length+l.length:=by
    intro l
    induction l with
    | nil=>intro acc; rfl
    | cons x l ih=>intro acc; rw [List.foldl_cons,ih]; simp [mf]; omega
   simpa [cg] using this l []
  rw [List.getD_eq_getElem?_getD,List.getElem?_eq_none (by rw [hlen]; exact List.getElem?_eq_none_iff.1 ho)] at hj
  simp at hj
 | some o=>
  have h:=zy l i o ho
  rw [List.getD_eq_getElem?_getD,h] at hj
  simp only [Option.getD_some,List.mem_flatMap,List.mem_cons] at hj
  obtain ⟨e,he,hj⟩:=hj
  have bc:=hb i o ho e he
  have UA:((cg l).take i).getD e.on []=(cg l).getD e.on []:=by
   rw [List.getD_eq_getElem?_getD,List.getD_eq_getElem?_getD,List.getElem?_take,if_pos bc]
  rw [UA] at hj
  refine ⟨?_,o,rfl,e,he,hj⟩
  rcases hj with rfl | hj
  ·exact bc
  ·-- by the strong law below
   have:∀ (k i:Nat),i≤k→∀ j∈(cg l).getD i [],j < i:=by
    intro k
    induction k with
    | zero=>
     intro i hi j hj
     obtain rfl:i=0:=by omega
     cases ho:l[0]? with
     | none=>
      obtain rfl:l=[]:=by cases l with | nil=>rfl | cons=>simp at ho
      simp [cg] at hj
     | some o=>
      have h:=zy l 0 o ho
      rw [List.getD_eq_getElem?_getD,h] at hj
      simp only [Option.getD_some,List.mem_flatMap] at hj
      obtain ⟨e,he,_⟩:=hj
      exact absurd (hb 0 o ho e he) (Nat.not_lt_zero _)
    | succ k ih=>
     intro i hi j hj
     cases ho:l[i]? with
     | none=>
      have hlen:(cg l).length=l.length:=by
       have:∀ (l:LO) (acc:LL),(l.foldl mf acc).length=acc.length+l.length:=by
        intro l
        induction l with
        | nil=>intro acc; rfl
        | cons x l ih=>intro acc; rw [List.foldl_cons,ih]; simp [mf]; omega
       simpa [cg] using this l []
      rw [List.getD_eq_getElem?_getD,List.getElem?_eq_none (by rw [hlen]; exact List.getElem?_eq_none_iff.1 ho)] at hj
      simp at hj
     | some o=>
      have h:=zy l i o ho
      rw [List.getD_eq_getElem?_getD,h] at hj
      simp only [Option.getD_some,List.mem_flatMap,List.mem_cons] at hj
      obtain ⟨e,he,hj⟩:=hj
      have bc:=hb i o ho e he
      rcases hj with rfl | hj
      ·exact bc
      ·have UA:((cg l).take i).getD e.on []=(cg l).getD e.on []:=by
        rw [List.getD_eq_getElem?_getD,List.getD_eq_getElem?_getD,List.getElem?_take,if_pos bc]
       rw [UA] at hj
       have:=ih e.on (by omega) j hj
       omega
   exact Nat.lt_trans (this e.on e.on (Nat.le_refl _) j hj) bc
theorem CM (l:LO) (hb:∀ (i:Nat) (o:Oper),l[i]? = some o→∀ e∈o.after.toList.filter (Region.binds .any),e.on < i) {j k:Nat} (hj:j∈(cg l).getD k []):∀ {i:Nat},k∈(cg l).getD i []→j∈(cg l).getD i []:=by
 intro i
 induction i using Nat.strongRecOn with
 | _ i ih=>
  intro hk
  obtain ⟨_,o,ho,e,he,UB⟩:=AB l hb i k hk
  have bc:=hb i o ho e he
  have h2:j∈(cg l).getD e.on []:=UB.elim (fun h=>h ▸ hj) (fun h=>ih e.on bc h)
  have h:=zy l i o ho
  rw [List.getD_eq_getElem?_getD,h]
  simp only [Option.getD_some,List.mem_flatMap,List.mem_cons]
  refine ⟨e,he,.inr ?_⟩
  rw [List.getD_eq_getElem?_getD,List.getElem?_take,if_pos bc,← List.getD_eq_getElem?_getD]
  exact h2
theorem getD_both {Gx:Array Bool} {i:Nat} (h:Gx.getD i true=false):Gx.getD i false=false:=by
 rcases Nat.lt_or_ge i Gx.size with h' | h'
 ·simp [h'] at h ⊢; exact h
 ·simp [Array.getElem?_eq_none h'] at h
theorem getD_replicate_false (m j:Nat):(Array.replicate m false).getD j false=false:=by
 rcases Nat.lt_or_ge j m with h | h
 ·simp [h]
 ·simp [h]
theorem Ek:∀ (l:LO),(l.filterMap (·.dst)).Nodup→∀ i j d,bn l i=some d→bn l j=some d→i=j:=by
 intro l
 induction l with
 | nil=>intro _ i j d h; simp [bn] at h
 | cons o l ih=>
  intro hn i j d hi hj
  have UC:∀ k,bn (o :: l) (k+1)=some d→d∈l.filterMap (·.dst):=by
   intro k hk
   simp only [bn,List.getElem?_cons_succ] at hk
   cases ho:l[k]? with
   | none=>rw [ho] at hk; cases hk
   | some x=>rw [ho] at hk; exact List.mem_filterMap.2 ⟨x,List.mem_of_getElem? ho,hk⟩
  have h0:∀ e,o.dst=some e→e ∉ l.filterMap (·.dst)∧(l.filterMap (·.dst)).Nodup:=by
   intro e he
   rw [List.filterMap_cons_some he] at hn
   exact List.nodup_cons.1 hn
  have ox:(l.filterMap (·.dst)).Nodup:=by
   cases hd:o.dst with
   | none=>rwa [List.filterMap_cons_none hd] at hn
   | some e=>exact (h0 e hd).2
  cases i with
  | zero=>
   cases j with
   | zero=>rfl
   | succ j=>exact absurd (UC j hj) (h0 d (by simpa [bn] using hi)).1
  | succ i=>
   cases j with
   | zero=>exact absurd (UC i hi) (h0 d (by simpa [bn] using hj)).1
   | succ j=>rw [ih ox i j d (by simpa [bn] using hi) (by simpa [bn] using hj)]
theorem lp {m j:Nat} (hj:j < m):bn (l.take m) j=bn l j:=by
 unfold bn
 rw [List.getElem?_take,if_pos hj]
theorem n9 {o:Oper} {r:NV} {w:World} {K K':Value→World→Prop} (h:fj P o r w K) (hk:∀ v w',K v w'→K' v w'):fj P o r w K':=by
 unfold fj at h ⊢
 cases hr:(execOp (ev r) o).run P w with
 | ok x w'=>
  rw [hr] at h
  cases x with
  | value v=>exact hk _ _ h
  | skip=>exact hk _ _ h
  | enter f args=>exact h.mono fun e Ec ⟨v,he,hv⟩=>⟨v,he,hk _ _ hv⟩
  | _=>exact h
 | _=>rw [hr] at h; exact h.elim
theorem Lh {m:Nat} {Z:LN} (h:zq l m Z=true):∀ (i:Nat) (o:Oper),l[i]? = some o→∀ e∈o.after.toList.filter (Region.binds .any),e.on < i:=by
 simp only [zq,Bool.and_eq_true,List.all_eq_true,List.mem_range] at h
 intro i o ho e he
 have hi:i < l.length:=(List.getElem?_eq_some_iff.1 ho).1
 have:=h.1.1 i hi e (by rw [List.getD_eq_getElem?_getD,ho]; exact he)
 exact Nat.lt_of_succ_le (Nat.le_of_ble_eq_true this)
theorem TA {m:Nat} {U:LL} {Z H:LN} {N:Nat→Prop} (hd:dk n l=true) (hA:zq l m Z=true) (hZ:F6 l m Z=true) (hp:∀ c r w,Q (.panic c) r w→False) (F7:m≤l.length)
  (hS:S.length=m)
  (hH:∀ b∈H,b < w0.heap.size) (hU:((List.range m).all fun i=>(U.getD i []).all fun u=>Nat.beq u l.length || ((cg l).getD i []).contains u)=true)
  (hN:∀ b,N b→b < w0.heap.size∧b ∉ H)
  (ry:∀ (i:Nat) (s:gx),S[i]? = some s→∀ f F (w w':World) (r r':NV) v,ak F w w'→(∀ b∈f,b ∉ F)→(∀ b∈F,¬ N b)→(∀ j∈(cg l).getD i [],∀ t,bn l j=some t→r' t=r t)→s.V f w r v→s.V f w' r' v)
  (NW:∀ i,i < m→je P l m S U r0 w0 H i)
  (next:∀ g r w,zt l m S U r0 w0 H (fun j=>j < m) g r w→WL P l (l.drop m) r w (Q .normal)) :
  n8 P n l Q r0 w0:=by
 simp only [zq,Bool.and_eq_true,List.all_eq_true,List.mem_range,Bool.or_eq_true] at hA
 obtain ⟨⟨TU,TV⟩,TW⟩:=hA
 have vW:∀ (i:Nat) (o:Oper),l[i]? = some o→∀ e∈o.after.toList.filter (Region.binds .any),e.on < i:=by
  intro i o ho e he
  have hi:i < l.length:=(List.getElem?_eq_some_iff.1 ho).1
  have:=TU i hi e (by rw [List.getD_eq_getElem?_getD,ho]; exact he)
  exact Nat.lt_of_succ_le (Nat.le_of_ble_eq_true this)
 have DJ:∀ i,m≤i→i < l.length→∀ j,j < i→j∈(cg l).getD i []∨j∈Z:=by
  intro i h1 h2 j hj
  rcases TV i h2 with h | h
  ·exact absurd (Nat.lt_of_succ_le (Nat.le_of_ble_eq_true h)) (Nat.not_lt.2 h1)
  ·have:=h j hj
   simpa using this
 simp only [F6,Bool.and_eq_true,List.all_eq_true] at hZ
 obtain ⟨P8,hZ⟩:=hZ
 have UD:∀ z∈Z,z < m:=fun z hz=>Nat.lt_of_succ_le (Nat.le_of_ble_eq_true (hZ z hz).1.1)
 have TX:∀ i,i < m→∀ u∈U.getD i [],u=l.length∨u∈(cg l).getD i []:=by
  intro i hi u hu
  simp only [List.all_eq_true,List.mem_range] at hU
  have:=hU i hi u hu
  simpa using this
 have df:=Ek _ (yh TW)
 have rb:=AB l vW
 intro a h1 h2 h3
 let Cl (L:Array Bool):Prop:=L.size=l.length∧∀ j o,l[j]? = some o→L.getD j false=true→∀ e∈o.after.toList.filter (Region.binds .any),L.getD e.on false=true
 have jq:∀ L,Cl L→∀ i j,(∀ o,l[i]? = some o→∀ e∈o.after.toList.filter (Region.binds .any),L.getD e.on false=true)→j∈(cg l).getD i []→L.getD j false=true:=by
  intro L hL i
  induction i using Nat.strongRecOn with
  | _ i ih=>
   intro j hi hj
   obtain ⟨_,o,ho,e,he,Ge⟩:=rb i j hj
   have hl:=hi o ho e he
   rcases Ge with rfl | Ge
   ·exact hl
   ·exact ih e.on (vW i o ho e he) j (fun o' br e' tn=>hL.2 _ _ br hl e' tn) Ge
 have nv:∀ L i,i∈Region.ready .any l.toArray L→L.getD i true=false∧∃ o,l[i]? = some o∧∀ e∈o.after.toList.filter (Region.binds .any),L.getD e.on false=true:=by
  intro L i hi
  obtain ⟨g1,o,ho,ew⟩:=mem_ready.1 hi
  refine ⟨g1,o,by simpa using ho,fun e he=>?_⟩
  have:=List.mem_filter.1 he
  exact ew e (by simpa using this.1) this.2
 have CO:∀ L i o,L.size=l.length→l[i]? = some o→L.getD i false=false→(∀ e∈o.after.toList.filter (Region.binds .any),L.getD e.on false=true)→i∈Region.ready .any l.toArray L:=by
  intro L i o hs ho hu ew
  refine mem_ready.2 ⟨?_,o,by simpa using ho,fun e he hb=>ew e (List.mem_filter.2 ⟨by simpa using he,hb⟩)⟩
  have hi:i < L.size:=by rw [hs]; exact (List.getElem?_eq_some_iff.1 ho).1
  simp [hi] at hu ⊢; exact hu
 have E8:∀ L i o,Cl L→l[i]? = some o→(∀ e∈o.after.toList.filter (Region.binds .any),L.getD e.on false=true)→Cl (L.setIfInBounds i true):=by
  intro L i o hL ho ew
  refine ⟨by rw [Array.size_setIfInBounds]; exact hL.1,fun j o' br hj e he=>?_⟩
  by_cases sf:i=j
  ·subst sf
   have:o'=o:=Option.some.inj (br.symm.trans ho)
   subst this
   exact getD_set_true (ew e he)
  ·rw [getD_set_ne false sf] at hj
   exact getD_set_true (hL.2 j o' br hj e he)
 have getSet:∀ (L:Array Bool) i j,L.size=l.length→i < l.length→((L.setIfInBounds i true).getD j false=true↔j=i∨L.getD j false=true):=by
  intro L i j hs hi
  by_cases sf:i=j
  ·subst sf
   simp [hs,hi]
  ·rw [getD_set_ne false sf]
   constructor
   ·exact .inr
   ·rintro (h | h)
    ·exact absurd h.symm sf
    ·exact h
 have Gf:∀ (L:Array Bool) i,L.size=l.length→i < l.length→L.getD i false=false→(L.setIfInBounds i true).toList.count false+1=L.toList.count false:=by
  intro L i hs hi hu
  have tb:i < L.toList.length:=by simpa [hs] using hi
  have BP:L.toList[i]=false:=by
   rw [Array.getElem_toList]
   simp [hs,hi] at hu
   exact hu
  rw [Array.toList_setIfInBounds,List.count_set tb,BP]
  have:0 < L.toList.count false:=List.count_pos_iff.2 (by rw [← BP]; exact List.getElem_mem tb)
  rw [if_pos (by rfl),if_neg (by decide)]
  omega
 have tail:∀ (d k fuel:Nat) (L:Array Bool) (a:Act) (w:World),l.length - k=d→m≤k→k≤l.length→Cl L→(∀ j,L.getD j false=true↔j < k)→L.toList.count false≤fuel→a.tmps.size=n→a.defers=[]→
   WL P l (l.drop k) (cy a) w (Q .normal)→wpAny P .any l.toArray (fun e a' w'=>a'.tmps.size=n∧a'.defers=[]∧Q e (cy a') w') fuel L a w:=by
  intro d
  induction d with
  | zero=>
   intro k fuel L a w hk hmk An hL ik hf g1 g2 hW
   obtain rfl:k=l.length:=by omega
   rw [List.drop_length] at hW
   have rY:Region.ready .any l.toArray L=[]:=by
    apply List.eq_nil_iff_forall_not_mem.2
    intro i hi
    obtain ⟨q1,o,ho,_⟩:=nv L i hi
    have bc:i < l.length:=(List.getElem?_eq_some_iff.1 ho).1
    have:=(ik i).2 bc
    simp [hL.1,bc] at q1 this
    rw [q1] at this; cases this
   cases fuel with
   | zero=>exact ⟨rY,g1,g2,hW⟩
   | succ fuel=>exact ⟨fun _=>⟨g1,g2,hW⟩,fun i hi=>by rw [rY] at hi; cases hi⟩
  | succ d ih=>
   intro k fuel L a w hk hmk An hL ik hf g1 g2 hW
   have JR:k < l.length:=by omega
   obtain ⟨o,ho⟩ : ∃ o,l[k]? = some o:=⟨l[k],List.getElem?_eq_getElem JR⟩
   have UE:L.getD k false=false:=by
    cases hb:L.getD k false with
    | false=>rfl
    | true=>exact absurd ((ik k).1 hb) (Nat.lt_irrefl _)
   have pr:k∈Region.ready .any l.toArray L:=CO L k o hL.1 ho UE fun e he=>(ik _).2 (vW k o ho e he)
   have Xn:l.drop k=o :: l.drop (k+1):=by rw [List.drop_eq_getElem_cons JR]; congr 1; exact Option.some.inj ((List.getElem?_eq_getElem JR).symm.trans ho)
   rw [Xn] at hW
   have hc:=Gf L k hL.1 JR UE
   cases fuel with
   | zero=>omega
   | succ fuel=>
    refine ⟨fun h=>(by rw [h] at pr; cases pr),fun i hi=>?_⟩
    obtain ⟨q1,oi,nw,ew⟩:=nv L i hi
    have fv:i < l.length:=(List.getElem?_eq_some_iff.1 nw).1
    have tW:L.getD i false=false:=getD_both q1
    have hik:i=k:=by
     rcases Nat.lt_trichotomy i k with h | h | h
     ·have:=(ik i).2 h; rw [tW] at this; cases this
     ·exact h
     ·have:=jq L hL i k (fun o' br=>by have:o'=oi:=Option.some.inj (br.symm.trans nw); subst this; exact ew) ((DJ i (by omega) fv k h).resolve_right fun hz=>absurd (UD k hz) (by omega))
      rw [UE] at this; cases this
    subst hik
    have Lt:oi=o:=Option.some.inj (nw.symm.trans ho)
    subst Lt
    have Em:∀ k',oi.dst=some k'→k' < a.tmps.size:=by
     intro k' wz
     have uC:oi∈l:=List.mem_of_getElem? nw
     simp only [dk,List.all_eq_true] at hd
     have:=hd oi uC
     rw [wz] at this
     rw [g1]
     exact Nat.lt_of_succ_le (Nat.le_of_ble_eq_true this)
    have BQ:=E8 L i oi hL nw ew
    have ye:∀ j,(L.setIfInBounds i true).getD j false=true↔j < i+1:=by
     intro j
     rw [getSet L i j hL.1 fv,ik j]
     omega
    unfold wpOp
    rw [show (l.toArray)[i]? = some oi by simpa using nw]
    simp only []
    rw [zu (by rw [g1]; exact hd)]
    rcases hW with ⟨hw,hW⟩ | ⟨hw,hW⟩
    ·rw [if_pos hw]
     exact .inl (hW.wp fun v w' hv=>ih (i+1) fuel _ _ _ (by omega) (by omega) (by omega) BQ ye (by omega) (by rw [lg]; exact g1) (by rw [iq]; exact g2) (by rw [l6 Em]; exact hv))
    ·rw [if_neg (by rw [hw]; exact Bool.false_ne_true)]
     exact ih (i+1) fuel _ _ _ (by omega) (by omega) (by omega) BQ ye (by omega) (by rw [lg]; exact g1) (by rw [iq]; exact g2) (by rw [l6 Em]; exact hW)
 have head:∀ (fuel:Nat) (L:Array Bool) (a:Act) (w:World) (g:Nat→List Nat),Cl L→(∀ j,L.getD j false=true→j < m)→L.toList.count false≤fuel→a.tmps.size=n→a.defers=[]→
   zt l m S U r0 w0 H (fun j=>L.getD j false=true) g (cy a) w→wpAny P .any l.toArray (fun e a' w'=>a'.tmps.size=n∧a'.defers=[]∧Q e (cy a') w') fuel L a w:=by
  intro fuel
  induction fuel with
  | zero=>
   intro L a w g hL tU hf g1 g2 inv
   have ew:∀ j,j < l.length→L.getD j false=true:=by
    intro j hj
    cases hb:L.getD j false with
    | true=>rfl
    | false=>have:=Gf L j hL.1 hj hb; omega
   have ik:∀ j,L.getD j false=true↔j < m:=fun j=>⟨tU j,fun h=>ew j (by omega)⟩
   refine tail _ m 0 L a w rfl (Nat.le_refl _) F7 hL ik hf g1 g2 (next g _ _ ?_)
   exact ⟨inv.j4,fun hk=>inv.AF fun k wL=>hk k ((ik k).1 wL),inv.vg,fun j hj=>inv.vd j ((ik j).2 hj),fun j hj hk=>inv.done j ((ik j).2 hj) (fun k wL=>hk k ((ik k).1 wL)),fun j hj=>inv.sO j ((ik j).2 hj),inv.other,fun j hj b hb=>⟨(inv.fresh j ((ik j).2 hj) b hb).1.imp (fun h=>h) fun h=>⟨h.1,h.2.imp fun k hk=>⟨(ik k).1 hk.1,hk.2⟩⟩,(inv.fresh j ((ik j).2 hj) b hb).2⟩,fun i j hi hj=>inv.vL i j ((ik i).2 hi) ((ik j).2 hj)⟩
  | succ fuel ih=>
   intro L a w g hL tU hf g1 g2 inv
   by_cases ew:∀ j,j < m→L.getD j false=true
   ·have ik:∀ j,L.getD j false=true↔j < m:=fun j=>⟨tU j,ew j⟩
    refine tail _ m _ L a w rfl (Nat.le_refl _) F7 hL ik hf g1 g2 (next g _ _ ?_)
    exact ⟨inv.j4,fun hk=>inv.AF fun k wL=>hk k ((ik k).1 wL),inv.vg,fun j hj=>inv.vd j ((ik j).2 hj),fun j hj hk=>inv.done j ((ik j).2 hj) (fun k wL=>hk k ((ik k).1 wL)),fun j hj=>inv.sO j ((ik j).2 hj),inv.other,fun j hj b hb=>⟨(inv.fresh j ((ik j).2 hj) b hb).1.imp (fun h=>h) fun h=>⟨h.1,h.2.imp fun k hk=>⟨(ik k).1 hk.1,hk.2⟩⟩,(inv.fresh j ((ik j).2 hj) b hb).2⟩,fun i j hi hj=>inv.vL i j ((ik i).2 hi) ((ik j).2 hj)⟩
   ·obtain ⟨j0,P9,El⟩ : ∃ j,j < m∧L.getD j false=false:=by
     apply Classical.byContradiction
     intro rY
     apply ew
     intro j hj
     cases hb:L.getD j false with
     | true=>rfl
     | false=>exact absurd ⟨j,hj,hb⟩ rY
    have JB:∃ i,i∈Region.ready .any l.toArray L:=by
     have:∀ k,(∃ j,j < k∧j < m∧L.getD j false=false)→∃ i,i∈Region.ready .any l.toArray L:=by
      intro k
      induction k with
      | zero=>rintro ⟨j,h,_⟩; omega
      | succ k CB=>
       rintro ⟨j,Lp,AH,rZ⟩
       by_cases sI:∃ j,j < k∧j < m∧L.getD j false=false
       ·exact CB sI
       ·obtain rfl:j=k:=by
         apply Classical.byContradiction
         intro h
         exact sI ⟨j,by omega,AH,rZ⟩
        have z8:j < l.length:=by omega
        refine ⟨j,CO L j l[j] hL.1 (List.getElem?_eq_getElem z8) rZ fun e he=>?_⟩
        have bc:=vW j _ (List.getElem?_eq_getElem z8) e he
        cases hb:L.getD e.on false with
        | true=>rfl
        | false=>exact absurd ⟨e.on,bc,by omega,hb⟩ sI
     exact this (j0+1) ⟨j0,by omega,P9,El⟩
    have main:∀ i oi,i < m→l[i]? = some oi→L.getD i false=false→(∀ e∈oi.after.toList.filter (Region.binds .any),L.getD e.on false=true)→
      (Region.wanted oi (yl l (cy a))=true∧fj P oi (cy a) w fun v w'=>wpAny P .any l.toArray (fun e a' w'=>a'.tmps.size=n∧a'.defers=[]∧Q e (cy a') w') fuel (L.setIfInBounds i true) (a.put oi.dst v) w')∨
      (Region.wanted oi (yl l (cy a))=false∧wpAny P .any l.toArray (fun e a' w'=>a'.tmps.size=n∧a'.defers=[]∧Q e (cy a') w') fuel (L.setIfInBounds i true) (a.put oi.dst undef) w):=by
     intro i oi tV nw tW tX
     have fv:i < l.length:=(List.getElem?_eq_some_iff.1 nw).1
     have nk:∀ o,l[i]? = some o→∀ e∈o.after.toList.filter (Region.binds .any),L.getD e.on false=true:=fun o' br=>by
      have:o'=oi:=Option.some.inj (br.symm.trans nw)
      subst this; exact tX
     obtain ⟨s,hs⟩ : ∃ s,S[i]? = some s:=⟨S[i]'(by omega),List.getElem?_eq_getElem (by omega)⟩
     have hc:=Gf L i hL.1 fv tW
     have BQ:=E8 L i oi hL nw tX
     have AI:∀ j,(L.setIfInBounds i true).getD j false=true→j < m:=by
      intro j hj
      rcases (getSet L i j hL.1 fv).1 hj with rfl | hj
      ·exact tV
      ·exact tU j hj
     have CP:∀ k,L.getD k false=true→k≠i∧i ∉ (cg l).getD k []:=by
      intro k hk
      refine ⟨fun h=>(by rw [h,tW] at hk; cases hk),fun uC=>?_⟩
      have:=jq L hL k i (fun o' br e' tn=>hL.2 k o' br hk e' tn) uC
      rw [tW] at this; cases this
     have ow:=NW i tV oi s nw hs g (cy a) w inv.j4 (fun hV=>by
       have rY:∀ k,L.getD k false=true→l.length ∉ U.getD k []:=fun k hk Gg=>by
        simp only [zn,List.all_eq_true,List.mem_range,Bool.or_eq_true,Bool.not_eq_true',List.contains_eq_mem,decide_eq_false_iff_not,decide_eq_true_eq] at hV
        rcases hV k (tU k hk) with (h | h) | h
        ·exact h Gg
        ·exact (CP k hk).1 (Nat.eq_of_beq_eq_true h)
        ·exact (CP k hk).2 h
       have h0:=inv.AF rY
       exact ⟨h0.1,h0.2,fun j hj b hb=>(inv.fresh j (jq L hL i j nk hj) b hb).1.elim (fun h=>h) fun h=>absurd h.2.choose_spec.2 (rY _ h.2.choose_spec.1)⟩) (fun j hj=>inv.sO j (jq L hL i j nk hj)) (fun j hj=>by
       simp only [tS,Bool.and_eq_true,List.all_eq_true,List.mem_range,Bool.or_eq_true,Bool.not_eq_true',List.contains_eq_mem,decide_eq_false_iff_not,decide_eq_true_eq] at hj
       refine inv.done j (jq L hL i j nk hj.1) fun k hk Lp=>?_
       rcases hj.2 k (tU k hk) with (h | h) | h
       ·exact h Lp
       ·exact (CP k hk).1 (Nat.eq_of_beq_eq_true h)
       ·exact (CP k hk).2 h) inv.other
      (fun i' tb j' ie=>inv.vL i' j' (jq L hL i i' nk tb) (jq L hL i j' nk ie))
      (fun j hj b hb=>⟨(inv.fresh j (jq L hL i j nk hj) b hb).1.imp (fun h=>h) (·.1),(inv.fresh j (jq L hL i j nk hj) b hb).2⟩)
     have hblk:∀ b∈ll g (U.getD i []),(∃ u,u∈U.getD i []∧L.getD u false=true∧b∈g u)∨(l.length∈U.getD i []∧b∈g l.length):=by
      intro b hb
      obtain ⟨u,hu,gj⟩:=List.mem_flatMap.1 hb
      rcases TX i tV u hu with rfl | h
      ·exact .inr ⟨hu,gj⟩
      ·exact .inl ⟨u,hu,jq L hL i u nk h,gj⟩
     have Em:∀ k',oi.dst=some k'→k' < a.tmps.size:=by
      intro k' wz
      have uC:oi∈l:=List.mem_of_getElem? nw
      simp only [dk,List.all_eq_true] at hd
      have:=hd oi uC
      rw [wz] at this
      rw [g1]
      exact Nat.lt_of_succ_le (Nat.le_of_ble_eq_true this)
     have yB:bn l i=oi.dst:=by unfold bn; rw [nw]; rfl
     have nj:∀ v t,(oi.dst≠some t)→cy (a.put oi.dst v) t=cy a t:=by
      intro v t ht
      rw [l6 Em]
      cases wM:oi.dst with
      | none=>rfl
      | some d=>
       show (bif Nat.beq t d then v else cy a t)=cy a t
       cases hb:Nat.beq t d with
       | false=>rfl
       | true=>exact absurd (by rw [wM,Nat.eq_of_beq_eq_true hb]) ht
     have Gh:∀ v d,oi.dst=some d→cy (a.put oi.dst v) d=v:=by
      intro v d wM
      rw [l6 Em,wM]
      show (bif Nat.beq d d then v else cy a d)=v
      rw [Nat.beq_refl]; rfl
     have step:∀ v w' f,ak (ll g (U.getD i [])) w w'→(∀ b∈f,(b∈ll g (U.getD i [])∨w.heap.size≤b)∧b < w'.heap.size)→(if s.b then s.V f w' (cy a) v else v=undef)→
       wpAny P .any l.toArray (fun e a' w'=>a'.tmps.size=n∧a'.defers=[]∧Q e (cy a') w') fuel (L.setIfInBounds i true) (a.put oi.dst v) w':=by
      intro v w' f hC rO hV
      have sw:∀ j',j' < m→j'≠i→∀ t,bn l j'=some t→cy (a.put oi.dst v) t=cy a t:=by
       intro j' ie ks t ht
       refine nj v t fun h=>ks (df j' i t ?_ ?_)
       ·rw [lp ie]; exact ht
       ·rw [lp tV,yB]; exact h
      have Lq:∀ b∈ll g (U.getD i []),¬ N b:=fun b hb hn=>by
       rcases hblk b hb with ⟨u,_,qf,gj⟩ | ⟨_,gj⟩
       ·rcases (inv.fresh u qf b gj).1 with h | h
        ·have:=(hN b hn).1; omega
        ·exact (hN b hn).2 h.1
       ·exact (hN b hn).2 (inv.vg b gj)
      refine ih _ _ _ (fun j=>if j=i then f else if j∈U.getD i [] then [] else g j) BQ AI (by omega) (by rw [lg]; exact g1) (by rw [iq]; exact g2)
       ⟨inv.j4.then hC fun b hb=>(by
        rcases hblk b hb with ⟨u,_,qf,gj⟩ | ⟨_,gj⟩
        ·exact (inv.fresh u qf b gj).1.elim .inr fun h=>.inl h.1
        ·exact .inl (inv.vg b gj)),fun rY=>?_,?_,fun j hj=>?_,?_,fun j hj d tY sj rQ=>?_,?_,?_,?_⟩
      ·have wF:l.length ∉ U.getD i []:=rY i ((getSet L i i hL.1 fv).2 (.inl rfl))
       have h0:=inv.AF fun k hk=>rY k ((getSet L i k hL.1 fv).2 (.inr hk))
       refine ⟨h0.1.then hC fun b hb=>?_,?_⟩
       ·rcases hblk b hb with ⟨u,_,qf,gj⟩ | ⟨h,_⟩
        ·exact (inv.fresh u qf b gj).1.elim .inr fun ⟨_,k,hk,Gg⟩=>absurd Gg (rY k ((getSet L i k hL.1 fv).2 (.inr hk)))
        ·exact absurd h wF
       ·show (if l.length=i then f else if l.length∈U.getD i [] then [] else g l.length)=H
        rw [if_neg (by omega),if_neg wF]
        exact h0.2
      ·intro b hb
       have cu:b∈(if l.length=i then f else if l.length∈U.getD i [] then [] else g l.length):=hb
       rw [if_neg (by omega)] at cu
       split at cu
       ·cases cu
       ·exact inv.vg b cu
      ·intro b hb hv
       have mw:b∈(if l.length=i then f else if l.length∈U.getD i [] then [] else g l.length):=hv
       rw [if_neg (by omega)] at mw
       split at mw
       ·cases mw
       ·rename_i TZ
        have cu:b∈(if j=i then f else if j∈U.getD i [] then [] else g j):=hb
        split at cu
        ·rcases (rO b cu).1 with h | h
         ·rcases hblk b h with ⟨u,_,qf,gj⟩ | ⟨h,_⟩
          ·exact inv.vd u qf b gj mw
          ·exact TZ h
         ·have h1:=hH b (inv.vg b mw)
          have h2:=inv.j4.size
          omega
        ·rename_i lv
         split at cu
         ·cases cu
         ·exact inv.vd j (((getSet L i j hL.1 fv).1 hj).resolve_left lv) b cu mw
      ·intro j hj yC
       refine ⟨fun d tY=>?_,fun T0 sj rQ Lr=>?_⟩
       rotate_left
       ·by_cases lv:j=i
        ·subst lv
         rw [hs] at rQ
         cases rQ
         rw [if_pos Lr] at hV
         refine ⟨v,?_⟩
         simp only [if_pos]
         exact ry j s hs _ [] w' w' (cy a) _ v (ak.refl _ _) (fun _ _ h=>nomatch h) (fun _ h=>nomatch h) (fun j' ie t ht=>sw j' (by have:=(rb j j' ie).1; omega) (by have:=(rb j j' ie).1; omega) t ht) hV
        ·have nn:=((getSet L i j hL.1 fv).1 hj).resolve_left lv
         have rZ:j ∉ U.getD i []:=yC i ((getSet L i i hL.1 fv).2 (.inl rfl))
         obtain ⟨x,hx⟩:=(inv.done j nn (fun k hk=>yC k ((getSet L i k hL.1 fv).2 (.inr hk)))).2 T0 sj rQ Lr
         have fk:(fun j=>if j=i then f else if j∈U.getD i [] then [] else g j) j=g j:=by
          show (if j=i then f else if j∈U.getD i [] then [] else g j)=g j
          rw [if_neg lv,if_neg rZ]
         rw [fk]
         refine ⟨x,ry j sj rQ _ _ _ _ (cy a) _ _ hC (fun b cu Gi=>?_) Lq (fun j' ie t ht=>sw j' (by have:=(rb j j' ie).1; have:=tU j nn; omega) (fun h=>?_) t ht) hx⟩
         ·rcases hblk b Gi with ⟨u,AJ,qf,gj⟩ | ⟨_,gj⟩
          ·exact inv.vL j u nn qf (fun h=>rZ (h ▸ AJ)) b cu gj
          ·exact inv.vd j nn b cu gj
         ·subst h
          have:=jq L hL j j' (fun o' br e' tn=>hL.2 j o' br nn e' tn) ie
          rw [tW] at this; cases this
       by_cases lv:j=i
       ·subst lv
        rw [hs]
        simp only [if_pos]
        rw [yB] at tY
        rw [Gh v d tY]
        split
        ·rename_i hb
         rw [if_pos hb] at hV
         exact ry j s hs _ [] w' w' (cy a) _ v (ak.refl _ _) (fun _ _ h=>nomatch h) (fun _ h=>nomatch h) (fun j' ie t ht=>sw j' (by have:=(rb j j' ie).1; omega) (by have:=(rb j j' ie).1; omega) t ht) hV
        ·rename_i hb
         rw [if_neg hb] at hV
         exact hV
       ·have nn:=((getSet L i j hL.1 fv).1 hj).resolve_left lv
        have AH:=tU j nn
        have rZ:j ∉ U.getD i []:=yC i ((getSet L i i hL.1 fv).2 (.inl rfl))
        have wM:oi.dst≠some d:=by
         intro h
         apply lv
         refine df j i d ?_ ?_
         ·rw [lp AH]; exact tY
         ·rw [lp tV,yB]; exact h
        have:=(inv.done j nn (fun k hk=>yC k ((getSet L i k hL.1 fv).2 (.inr hk)))).1 d tY
        rw [nj v d wM]
        have fk:(fun j=>if j=i then f else if j∈U.getD i [] then [] else g j) j=g j:=by
         show (if j=i then f else if j∈U.getD i [] then [] else g j)=g j
         rw [if_neg lv,if_neg rZ]
        rw [fk]
        cases rQ:S[j]? with
        | none=>trivial
        | some sj=>
         rw [rQ] at this
         simp only [] at this ⊢
         split
         ·rename_i hb
          rw [if_pos hb] at this
          refine ry j sj rQ _ _ _ _ (cy a) _ _ hC (fun b cu Gi=>?_) Lq (fun j' ie t ht=>sw j' (by have:=(rb j j' ie).1; omega) (fun h=>?_) t ht) this
          rotate_left
          ·subst h
           have:=jq L hL j j' (fun o' br e' tn=>hL.2 j o' br nn e' tn) ie
           rw [tW] at this; cases this
          rcases hblk b Gi with ⟨u,AJ,qf,gj⟩ | ⟨_,gj⟩
          ·exact inv.vL j u nn qf (fun h=>rZ (h ▸ AJ)) b cu gj
          ·exact inv.vd j nn b cu gj
         ·rename_i hb
          rw [if_neg hb] at this
          exact this
      ·by_cases lv:j=i
       ·subst lv
        rw [hs] at rQ
        cases rQ
        rw [yB] at tY
        rw [Gh v d tY]
        split
        ·rename_i hb
         rw [if_pos hb] at hV
         exact ⟨f,w',ry j s hs _ [] w' w' (cy a) _ v (ak.refl _ _) (fun _ _ h=>nomatch h) (fun _ h=>nomatch h) (fun j' ie t ht=>sw j' (by have:=(rb j j' ie).1; omega) (by have:=(rb j j' ie).1; omega) t ht) hV⟩
        ·rename_i hb
         rw [if_neg hb] at hV
         exact hV
       ·have nn:=((getSet L i j hL.1 fv).1 hj).resolve_left lv
        have AH:=tU j nn
        have wM:oi.dst≠some d:=by
         intro h
         apply lv
         refine df j i d ?_ ?_
         ·rw [lp AH]; exact tY
         ·rw [lp tV,yB]; exact h
        have:=inv.sO j nn d tY sj rQ
        rw [nj v d wM]
        split
        ·rename_i hb
         rw [if_pos hb] at this
         obtain ⟨f1,w1,h1⟩:=this
         refine ⟨f1,w1,ry j sj rQ _ [] w1 w1 (cy a) _ _ (ak.refl _ _) (fun _ _ h=>nomatch h) (fun _ h=>nomatch h) (fun j' ie t ht=>sw j' (by have:=(rb j j' ie).1; omega) (fun h=>?_) t ht) h1⟩
         subst h
         have:=jq L hL j j' (fun o' br e' tn=>hL.2 j o' br nn e' tn) ie
         rw [tW] at this; cases this
        ·rename_i hb
         rw [if_neg hb] at this
         exact this
      ·intro t ht
       rw [nj v t (fun h=>ht i tV (by rw [yB]; exact h))]
       exact inv.other t ht
      ·intro j hj b hb
       by_cases lv:j=i
       ·simp only [if_pos lv] at hb
        have hh:=rO b hb
        have ru:=inv.j4.size
        rcases hh.1 with h | h
        ·rcases hblk b h with ⟨u,_,qf,gj⟩ | ⟨hv,gj⟩
         ·exact ⟨(inv.fresh u qf b gj).1.imp (fun h=>h) fun h=>⟨h.1,h.2.imp fun k hk=>⟨(getSet L i k hL.1 fv).2 (.inr hk.1),hk.2⟩⟩,hh.2⟩
         ·exact ⟨.inr ⟨inv.vg b gj,i,(getSet L i i hL.1 fv).2 (.inl rfl),hv⟩,hh.2⟩
        ·exact ⟨.inl (by omega),hh.2⟩
       ·have nn:=((getSet L i j hL.1 fv).1 hj).resolve_left lv
        simp only [if_neg lv] at hb
        split at hb
        ·cases hb
        ·have h1:=inv.fresh j nn b hb
         have h2:=hC.size
         exact ⟨h1.1.imp (fun h=>h) fun h=>⟨h.1,h.2.imp fun k hk=>⟨(getSet L i k hL.1 fv).2 (.inr hk.1),hk.2⟩⟩,by omega⟩
      ·have sS:∀ j',(L.setIfInBounds i true).getD j' false=true→j'≠i→∀ b∈f,b ∉ (if j'∈U.getD i [] then [] else g j'):=by
        intro j' ie e2 b hb cu
        have Gj:=((getSet L i j' hL.1 fv).1 ie).resolve_left e2
        split at cu
        ·cases cu
        ·rename_i rZ
         rcases (rO b hb).1 with h | h
         ·rcases hblk b h with ⟨u,AJ,qf,gj⟩ | ⟨_,gj⟩
          ·exact inv.vL u j' qf Gj (fun h=>rZ (h ▸ AJ)) b gj cu
          ·exact inv.vd j' Gj b cu gj
         ·have:=inv.fresh j' Gj b cu
          omega
       intro i' j' tb ie ks b hb cu
       by_cases e1:i'=i
       ·have e2:j'≠i:=fun h=>ks (e1.trans h.symm)
        simp only [if_pos e1] at hb
        simp only [if_neg e2] at cu
        exact sS j' ie e2 b hb cu
       ·simp only [if_neg e1] at hb
        by_cases e2:j'=i
        ·simp only [if_pos e2] at cu
         exact sS i' tb e1 b cu hb
        ·simp only [if_neg e2] at cu
         split at hb
         ·cases hb
         ·split at cu
          ·cases cu
          ·exact inv.vL i' j' (((getSet L i i' hL.1 fv).1 tb).resolve_left e1) (((getSet L i j' hL.1 fv).1 ie).resolve_left e2) ks b hb cu
     cases hb:s.b with
     | true=>
      rw [if_pos hb] at ow
      refine .inl ⟨ow.1,n9 ow.2 ?_⟩
      rintro v w' ⟨hC,f,rO,hV⟩
      exact step v w' f hC rO (by rw [if_pos hb]; exact hV)
     | false=>
      rw [if_neg (by rw [hb]; exact Bool.false_ne_true)] at ow
      exact .inr ⟨ow,step undef w [] (ak.refl _ _) (fun b h=>nomatch h) (by rw [if_neg (by rw [hb]; exact Bool.false_ne_true)])⟩
    by_cases Qq:∃ z,z∈Z∧L.getD z false=false∧∀ o,l[z]? = some o→∀ e∈o.after.toList.filter (Region.binds .any),L.getD e.on false=true
    ·obtain ⟨z,hz,UF,Yg⟩:=Qq
     obtain ⟨⟨hzm,hzf⟩,LR⟩:=hZ z hz
     cases Ez:l[z]? with
     | none=>rw [Ez] at LR; cases LR
     | some oz=>
      rw [Ez] at LR
      simp only [Bool.and_eq_true] at LR
      obtain ⟨hmv,Ey⟩:=LR
      have Of:=Yg oz Ez
      have Qr:Region.free .any l.toArray L z=true:=LP (fun j hj=>jq L hL z j (fun o' br=>Yg o' br) hj) hzf
      have Yh:z∈Region.ready .any l.toArray L:=CO L z oz hL.1 Ez UF Of
      obtain ⟨dz,opz,tyz,pz,az,gz⟩:=oz
      cases opz <;> first | exact (Bool.false_ne_true hmv).elim | skip
      case move x=>
       cases gz with
       | some _=>simp at Ey
       | none=>
        have hev:∀ w',(execOp a.eval ⟨dz,.move x,tyz,pz,az,none⟩).run P w' = .ok (.value (a.eval x)) w':=fun _=>rfl
        refine wpAny_take (by simpa using Ez) P8 Qr (by simpa using Yh) (fun c a w h=>absurd h.2.2 (hp _ _ _)) (v:=a.eval x) (.inl ⟨rfl,hev⟩) ?_
        rcases main z _ (UD z hz) Ez UF Of with ⟨_,h⟩ | ⟨h,_⟩
        ·rw [rH]; exact h
        ·exact absurd h (by simp [Region.wanted])
      case extract x k=>
       cases gz with
       | some _=>simp at Ey
       | none=>
        rcases main z _ (UD z hz) Ez UF Of with ⟨_,h⟩ | ⟨h,_⟩
        ·obtain ⟨v,hv,hk⟩:=HH h
         refine wpAny_take (by simpa using Ez) P8 Qr (by simpa using Yh) (fun c a w h=>absurd h.2.2 (hp _ _ _)) (v:=v) (.inl ⟨rfl,fun w'=>by rw [rH]; exact hv w'⟩) ?_
         exact hk
        ·exact absurd h (by simp [Region.wanted])
    refine ⟨fun h=>(by obtain ⟨i,hi⟩:=JB; rw [h] at hi; cases hi),fun i hi=>?_⟩
    obtain ⟨q1,oi,nw,tX⟩:=nv L i hi
    have fv:i < l.length:=(List.getElem?_eq_some_iff.1 nw).1
    have tW:L.getD i false=false:=getD_both q1
    have tV:i < m:=by
     rcases Nat.lt_or_ge i m with h | h
     ·exact h
     ·have bad:∀ j,j < i→L.getD j false=false→False:=by
       intro j
       induction j using Nat.strongRecOn with
       | _ j ih=>
        intro lv rZ
        rcases DJ i h fv j lv with hj | hj
        ·have:=jq L hL i j (fun o' br=>by have:o'=oi:=Option.some.inj (br.symm.trans nw); subst this; exact tX) hj
         rw [rZ] at this; cases this
        ·refine Qq ⟨j,hj,rZ,fun o ho e he=>?_⟩
         cases hb:L.getD e.on false with
         | true=>rfl
         | false=>have bc:=vW j o ho e he; exact (ih e.on bc (by omega) hb).elim
      exact (bad j0 (by omega) El).elim
    unfold wpOp
    rw [show (l.toArray)[i]? = some oi by simpa using nw]
    simp only []
    rw [zu (by rw [g1]; exact hd)]
    rcases main i oi tV nw tW tX with ⟨hw,h⟩ | ⟨hw,h⟩
    ·rw [if_pos hw]
     exact .inl (h.wp fun v w' hv=>hv)
    ·rw [if_neg (by rw [hw]; exact Bool.false_ne_true)]
     exact h
 refine head _ _ a _ (fun j=>if j=l.length then H else []) ⟨by simp,?_⟩ ?_ ?_ h1 h2 ⟨ak.nil (ak.drew _ _),fun _=>⟨ak.drew _ _,by simp⟩,fun b hb=>by simpa using hb,?_,?_,?_,?_,?_,?_⟩
 ·intro j o ho hj
  rw [getD_replicate_false] at hj; cases hj
 ·intro j hj
  rw [getD_replicate_false] at hj; cases hj
 ·simp
 ·intro j hj
  rw [getD_replicate_false] at hj; cases hj
 ·intro j hj
  rw [getD_replicate_false] at hj; cases hj
 ·intro j hj
  rw [getD_replicate_false] at hj; cases hj
 ·intro t _
  rw [h3]
 ·intro j hj
  rw [getD_replicate_false] at hj; cases hj
 ·intro i j hi
  rw [getD_replicate_false] at hi; cases hi
theorem je.val {m i:Nat} {U:LL} {H:LN} {o:Oper} {v:Value} (ho:l[i]? = some o) (hs:S[i]? = some ⟨true,pl fun _ _ u=>u=v⟩) (hg:o.guard=none)
  (h:∀ (g:Nat→List Nat) (r:NV) (w:World),ak H w0 w→(∀ j∈(cg l).getD i [],Old l S j r)→(∀ j,tS l U m i j=true→wE l S j g r w)→(∀ t,(∀ j,j < m→bn l j≠some t)→r t=r0 t)→
   (execOp (ev r) o).run P w = .ok (.value v) w):je P l m S U r0 w0 H i:=by
 intro o' s' br da g r w hC hV hO hd ij sb nj
 obtain rfl:o=o':=Option.some.inj (ho.symm.trans br)
 obtain rfl:_=s':=Option.some.inj (hs.symm.trans da)
 rw [if_pos rfl]
 refine ⟨by unfold Region.wanted; rw [hg],?_⟩
 unfold fj
 rw [h g r w hC hO hd ij]
 exact ⟨ak.refl _ _,[],(fun _ h=>nomatch h),rfl⟩
theorem je.call {m i:Nat} {U:LL} {H:LN} {o:Oper} {v:Value} {f:FuncId} (ho:l[i]? = some o) (hs:S[i]? = some ⟨true,pl fun _ _ u=>u=v⟩) (hg:o.guard=none)
  (h:∀ (g:Nat→List Nat) (r:NV) (w:World),ak H w0 w→(∀ j∈(cg l).getD i [],Old l S j r)→(∀ j,tS l U m i j=true→wE l S j g r w)→(∀ t,(∀ j,j < m→bn l j≠some t)→r t=r0 t)→
   ∃ args,(execOp (ev r) o).run P w = .ok (.enter f args) w∧Calls P f args w fun e w'=>e = .returned v∧ak [] w w'):je P l m S U r0 w0 H i:=by
 intro o' s' br da g r w hC hV hO hd ij sb nj
 obtain rfl:o=o':=Option.some.inj (ho.symm.trans br)
 obtain rfl:_=s':=Option.some.inj (hs.symm.trans da)
 rw [if_pos rfl]
 refine ⟨by unfold Region.wanted; rw [hg],?_⟩
 unfold fj
 obtain ⟨args,h1,h2⟩:=h g r w hC hO hd ij
 rw [h1]
 exact h2.mono fun e w' ⟨he,hc⟩=>⟨v,he,hc.nil,[],(fun _ h=>nomatch h),rfl⟩
theorem je.mem {m i:Nat} {U:LL} {H:LN} {o:Oper} {V:List Nat→World→Value→Prop} (ho:l[i]? = some o) (hs:S[i]? = some ⟨true,pl V⟩) (hg:o.guard=none)
  (h:∀ (g:Nat→List Nat) (r:NV) (w:World),ak H w0 w→(∀ j∈(cg l).getD i [],Old l S j r)→(∀ j,tS l U m i j=true→wE l S j g r w)→(∀ t,(∀ j,j < m→bn l j≠some t)→r t=r0 t)→
   fj P o r w fun v w'=>ak [] w w'∧∃ f,(∀ b∈f,w.heap.size≤b∧b < w'.heap.size)∧V f w' v):je P l m S U r0 w0 H i:=by
 intro o' s' br da g r w hC hV hO hd ij sb nj
 obtain rfl:o=o':=Option.some.inj (ho.symm.trans br)
 obtain rfl:_=s':=Option.some.inj (hs.symm.trans da)
 rw [if_pos rfl]
 refine ⟨by unfold Region.wanted; rw [hg],n9 (h g r w hC hO hd ij) ?_⟩
 rintro v w' ⟨hC,f,hf,hV⟩
 exact ⟨hC.nil,f,fun b hb=>⟨.inr (hf b hb).1,(hf b hb).2⟩,hV⟩
theorem je.FI {m i:Nat} {U:LL} {H:LN} {o:Oper} {V:List Nat→World→(Nat→Value)→Value→Prop} (ho:l[i]? = some o) (hs:S[i]? = some ⟨true,V⟩) (hg:o.guard=none)
  (h:∀ (g:Nat→List Nat) (r:NV) (w:World),ak H w0 w→(∀ j∈(cg l).getD i [],Old l S j r)→(∀ j,tS l U m i j=true→wE l S j g r w)→(∀ t,(∀ j,j < m→bn l j≠some t)→r t=r0 t)→
   fj P o r w fun v w'=>ak [] w w'∧∃ f,(∀ b∈f,w.heap.size≤b∧b < w'.heap.size)∧V f w' r v):je P l m S U r0 w0 H i:=by
 intro o' s' br da g r w hC hV hO hd ij sb nj
 obtain rfl:o=o':=Option.some.inj (ho.symm.trans br)
 obtain rfl:_=s':=Option.some.inj (hs.symm.trans da)
 rw [if_pos rfl]
 refine ⟨by unfold Region.wanted; rw [hg],n9 (h g r w hC hO hd ij) ?_⟩
 rintro v w' ⟨hC,f,hf,hV⟩
 exact ⟨hC.nil,f,fun b hb=>⟨.inr (hf b hb).1,(hf b hb).2⟩,hV⟩
def DG {α:Type} (T:af α) (x:α):List Nat→World→Value→Prop:=fun f w v=>T.rep w.heap [v] x f∧f.Nodup
def ZK (cs:LV) (e:TI) (n:Nat):List Nat→World→Value→Prop:=fun f w v=>∃ b,f=[b]∧v = .slice (some ⟨b,0,none⟩) n n∧Row w b cs e
def FH (a:LN) (l:LO) (s:gx):Prop:=∀ f F (w w':World) (r r':NV) v,ak F w w'→(∀ b∈f,b ∉ F)→(∀ j∈a,∀ t,bn l j=some t→r' t=r t)→s.V f w r v→s.V f w' r' v
theorem LS {a:LN} {b:Bool} {V:List Nat→World→Value→Prop} (h:∀ f F (w w':World) v,ak F w w'→(∀ b∈f,b ∉ F)→V f w v→V f w' v):FH a l ⟨b,pl V⟩:=
 fun f F w w' _ _ v hC hn _ hv=>h f F w w' v hC hn hv
theorem Jm {a:LN} {b:Bool} {u:Value}:FH a l ⟨b,pl fun _ _ v=>v=u⟩:=LS fun _ _ _ _ _ _ _ h=>h
def Jl:Value→Nat→Value
 | .agg cs,i=>cs.getD i undef
 | _,_=>undef
def Jk:Value→Nat→Value
 | .tuple cs,i=>cs.getD i undef
 | _,_=>undef
theorem fj.own {α:Type} {T:af α} {x:α} {o:Oper} {r:NV} {w:World} {f:FuncId} {args:Array Value} (h:(execOp (ev r) o).run P w = .ok (.enter f args) w)
  (hc:Calls P f args w fun e w'=>∃ (v:Value) (k:LN),e = .returned v∧ak [] w w'∧OE [] w.heap.size w' T [v] x k) :
  fj P o r w fun v w'=>ak [] w w'∧∃ f,(∀ b∈f,w.heap.size≤b∧b < w'.heap.size)∧DG T x f w' v:=by
 unfold fj
 rw [h]
 exact hc.mono fun e w' ⟨v,k,he,hC,ho⟩=>⟨v,he,hC,k,fun b hb=>⟨ho.fresh b hb,T.lt ho.1 b hb⟩,ho.1,ho.2.1⟩
theorem fj.made {α:Type} {T:af α} {x:α} {o:Oper} {r:NV} {w:World} (h:∃ v w' f,(execOp (ev r) o).run P w = .ok (.value v) w'∧ak [] w w'∧OE [] w.heap.size w' T [v] x f) :
  fj P o r w fun v w'=>ak [] w w'∧∃ f,(∀ b∈f,w.heap.size≤b∧b < w'.heap.size)∧DG T x f w' v:=by
 obtain ⟨v,w',f,hr,hC,ho⟩:=h
 unfold fj
 rw [hr]
 exact ⟨hC,f,fun b hb=>⟨ho.fresh b hb,T.lt ho.1 b hb⟩,ho.1,ho.2.1⟩
theorem tk {f g:LN} (h1:f.Nodup) (h2:g.Nodup) (d:rM f g):(f++g).Nodup:=List.nodup_append.2 ⟨h1,h2,fun a ha _ hb vb=>d a ha (vb ▸ hb)⟩
theorem fj.su {α:Type} {E:af α} {F f:LN} {t e et:TI} {s x:OO} {i:TypeInfo} {z:Value} {sv u:Value} {xs:List α} {y:α} {b:Nat} {r:NV} {w:World} {d:Option Nat} {ty:TI} {pos:String} {ab:Array Edge}
  (ht:P.underlying t=some (.slice e)) (hi:P.info? e=some i) (hz:i.zero=some z) (hs:i.size=1) (hE:E.size=1) (yx:z.oneCell'=true)
  (th:ev r s=sv) (hO:DG (aK e E) xs f w sv) (hF:∀ b∈f,b∈F) (hx:ev r x = .slice (some ⟨b,0,none⟩) 1 1) (aX:Row w b [u] et) (hy:E.rep w.heap [u] y [])
  (hb:(xs.length+1) * i.bytes≤140737488355328) (xF:xs.length+1≤maxLen) :
  fj P ⟨d,.call ⟨.builtin .append,#[s,x],#[t,t]⟩,ty,pos,ab,none⟩ r w fun v w'=>ak F w w'∧∃ f',(∀ b∈f',(b∈F∨w.heap.size≤b)∧b < w'.heap.size)∧DG (aK e E) (xs++[y]) f' w' v:=by
 obtain ⟨v,w',f',h,hC,dq,b9,df⟩:=my (d:=d) (ty:=ty) (pos:=pos) (ab:=ab) (g:=none) (ys:=[y]) ht hi hz (by rw [hs,hE]) (by rw [cells_one yx,hE]; rfl) th hO.1 hO.2 hx aX.at (pq hy) (fun _ h=>nomatch h) (by simp) hb xF
 unfold fj
 rw [h]
 refine ⟨hC.mono hF,f',fun b hb=>⟨?_,af.lt _ dq b hb⟩,dq,df List.nodup_nil⟩
 rcases b9 b hb with h | h | h
 ·exact .inl (hF b h)
 ·cases h
 ·exact .inr h
theorem fj.DA {t e:TI} {i:TypeInfo} {z u:Value} {x:OO} {r:NV} {w:World} {d:Option Nat} {ty:TI} {pos:String} {ab:Array Edge} (ht:P.underlying t=some (.slice e)) (hi:P.info? e=some i) (hz:i.zero=some z)
  (hs:i.size=1) (hx:ev r x=u) (hv:u.oneCell'=true) :
  fj P ⟨d,.buildSlice t 1 #[(0,x)],ty,pos,ab,none⟩ r w fun v w'=>ak [] w w'∧∃ f,(∀ b∈f,w.heap.size≤b∧b < w'.heap.size)∧ZK [u] e 1 f w' v:=by
 unfold fj
 rw [Iw ht hi hz hs (by rw [hx]; exact hv),hx]
 exact ⟨ak.alloc _ _ _,[w.heap.size],fun b hb=>by rw [List.mem_singleton.1 hb]; simp,w.heap.size,rfl,rfl,heap_alloc_new w _⟩
end
end Go.Li
