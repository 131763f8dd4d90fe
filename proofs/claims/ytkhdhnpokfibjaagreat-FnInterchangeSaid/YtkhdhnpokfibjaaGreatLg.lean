/- A region that draws its order, whatever it holds: its head in any order, its tail one behind the other. No condition. -/
import Derived.Test.YtkhdhnpokfibjaaGreatLf
import Derived.Still
namespace Go.Li
open Go
def ancStep (acc:List (List Nat)) (o:Oper):List (List Nat):=
 acc++[(o.after.toList.filter (Region.binds .any)).flatMap fun e=>e.on :: acc.getD e.on []]
def ancs (l:List Oper):List (List Nat):=l.foldl ancStep []
structure Gives where
 b:Bool
 V:List Nat→World→(Nat→Value)→Value→Prop
abbrev pl (V:List Nat→World→Value→Prop):List Nat→World→(Nat→Value)→Value→Prop:=fun f w _ v=>V f w v
def AnyW (P:Program) (n:Nat) (l:List Oper) (Q:Exit→(Nat→Value)→World→Prop) (r:Nat→Value) (w:World):Prop:=
 ∀ a:Act,a.tmps.size=n→a.defers=[]→rho a=r→wpAny P .any l.toArray (fun e a' w'=>a'.tmps.size=n∧a'.defers=[]∧Q e (rho a') w') l.toArray.size (Array.replicate l.toArray.size false) a { w with drawn:=w.drawn+1 }
theorem AnyW.W {P:Program} {n id:Nat} {l:List Oper} {Q:Exit→(Nat→Value)→World→Prop} {r:Nat→Value} {w:World} (hm:P.follows .mixedOrders=true) (h:AnyW P n l Q r w):W P n (.region id l.toArray true) Q r w:=
 fun a h1 h2 h3=>wp_region_any hm (h a h1 h2 h3)
def mvO (π:List Nat) (o:Oper):Oper:=⟨o.dst,o.op,o.type,o.pos,(o.after.toList.map fun e=>⟨π.getD e.on 0,e.ground⟩).toArray,o.guard⟩
def prmL (l:List Oper) (σ π:List Nat):List Oper:=σ.map fun k=>mvO π (l.getD k default)
def prmB (l:List Oper) (σ π:List Nat):Bool:=
 Nat.beq σ.length l.length && Nat.beq π.length l.length &&
 ((List.range l.length).all fun i=>Nat.blt (π.getD i 0) l.length && Nat.beq (σ.getD (π.getD i 0) 0) i && Nat.blt (σ.getD i 0) l.length && Nat.beq (π.getD (σ.getD i 0) 0) i) &&
 l.all fun o=>o.guard.isNone && o.after.toList.all fun e=>Nat.blt e.on l.length
theorem mvO_wp {P:Program} {Q:Exit→Act→World→Prop} {π:List Nat} {o:Oper} {a:Act} {w:World} {K:Act→World→Prop}:(mvO π o).wp P a w K Q=o.wp P a w K Q:=by
 cases o; rfl
theorem mvO_asks {P:Program} {π:List Nat} {o:Oper} {a:Act} {w:World}:(mvO π o).asks P a w=o.asks P a w:=by
 cases o; rfl
section
variable {P:Program} {l:List Oper} {σ π:List Nat} (h:prmB l σ π=true)
include h
theorem prm_at:σ.length=l.length∧π.length=l.length∧(∀ i,i < l.length→π.getD i 0 < l.length∧σ.getD (π.getD i 0) 0=i∧σ.getD i 0 < l.length∧π.getD (σ.getD i 0) 0=i)∧∀ o∈l,o.guard=none∧∀ e∈o.after.toList,e.on < l.length:=by
 unfold prmB at h
 simp only [Bool.and_eq_true,List.all_eq_true,List.mem_range] at h
 obtain ⟨⟨⟨h1,h2⟩,h3⟩,h4⟩:=h
 refine ⟨Nat.eq_of_beq_eq_true h1,Nat.eq_of_beq_eq_true h2,fun i hi=>?_,fun o ho=>?_⟩
 ·obtain ⟨⟨⟨a,b⟩,c⟩,d⟩:=h3 i hi
  exact ⟨Nat.lt_of_succ_le (Nat.le_of_ble_eq_true a),Nat.eq_of_beq_eq_true b,Nat.lt_of_succ_le (Nat.le_of_ble_eq_true c),Nat.eq_of_beq_eq_true d⟩
 ·obtain ⟨a,b⟩:=h4 o ho
  exact ⟨by simpa using a,fun e he=>Nat.lt_of_succ_le (Nat.le_of_ble_eq_true (b e he))⟩
theorem prm_len:(prmL l σ π).length=l.length:=by unfold prmL; rw [List.length_map]; exact (prm_at h).1
theorem prm_get {i:Nat} {o:Oper} (ho:l[i]? = some o):(prmL l σ π)[π.getD i 0]? = some (mvO π o):=by
 obtain ⟨h1,_,h3,_⟩:=prm_at h
 have hi:=(List.getElem?_eq_some_iff.1 ho).1
 obtain ⟨a,b,_,_⟩:=h3 i hi
 unfold prmL
 rw [List.getElem?_map,List.getElem?_eq_getElem (by omega)]
 have e:σ[π.getD i 0]'(by omega)=i:=by
  rw [List.getD_eq_getElem?_getD,List.getElem?_eq_getElem (by omega)] at b
  simpa using b
 simp only [Option.map_some,Option.some.injEq]
 rw [e,List.getD_eq_getElem?_getD,ho]; rfl
theorem wpAny_prm {Q:Exit→Act→World→Prop}:∀ (fuel:Nat) (L L':Array Bool) (a:Act) (w:World),L.size=l.length→L'.size=l.length→(∀ i,i < l.length→L'.getD (π.getD i 0) true=L.getD i true)→
  wpAny P .any (prmL l σ π).toArray Q fuel L' a w→wpAny P .any l.toArray Q fuel L a w:=by
 obtain ⟨h1,h2,h3,h4⟩:=prm_at h
 have gd:∀ {L:Array Bool} {i:Nat} (b:Bool),L.size=l.length→i < l.length→L.getD i b=L.getD i true:=fun {L i} b hs hi=>by
  have:i < L.size:=by omega
  simp [Array.getD,this]
 have rdy:∀ (L L':Array Bool),L.size=l.length→L'.size=l.length→(∀ i,i < l.length→L'.getD (π.getD i 0) true=L.getD i true)→∀ i,i < l.length→(i∈Region.ready .any l.toArray L↔π.getD i 0∈Region.ready .any (prmL l σ π).toArray L'):=by
  intro L L' hs hs' hL i hi
  rw [mem_ready,mem_ready,hL i hi]
  have ho:l[i]? = some (l[i]'hi):=List.getElem?_eq_getElem hi
  have ho':=prm_get h ho
  have hg:=h4 _ (List.mem_of_getElem? ho)
  constructor
  ·rintro ⟨g1,o,g2,g3⟩
   refine ⟨g1,mvO π l[i],by simpa using ho',fun e he hb=>?_⟩
   have eo:l[i]=o:=by simpa [ho] using g2
   simp only [mvO,List.mem_toArray,List.mem_map] at he
   obtain ⟨e0,he0,rfl⟩:=he
   have hlt:=hg.2 e0 he0
   have:=g3 e0 (by rw [← eo]; simpa using he0) hb
   rw [gd false hs' (h3 _ hlt).1,hL _ hlt,← gd false hs hlt]; exact this
  ·rintro ⟨g1,o,g2,g3⟩
   refine ⟨g1,l[i],by simp,fun e he hb=>?_⟩
   have eo:mvO π l[i]=o:=by
    have:(prmL l σ π)[π.getD i 0]? = some o:=by simpa using g2
    rw [ho'] at this
    exact Option.some.inj this
   have hlt:=hg.2 e (by simpa using he)
   have:=g3 ⟨π.getD e.on 0,e.ground⟩ (by rw [← eo]; simp only [mvO,List.mem_toArray,List.mem_map]; exact ⟨e,by simpa using he,rfl⟩) hb
   rw [gd false hs' (h3 _ hlt).1,hL _ hlt,← gd false hs hlt] at this; exact this
 have back:∀ (L L':Array Bool),L.size=l.length→L'.size=l.length→(∀ i,i < l.length→L'.getD (π.getD i 0) true=L.getD i true)→Region.ready .any l.toArray L=[]→Region.ready .any (prmL l σ π).toArray L'=[]:=by
  intro L L' hs hs' hL he
  rw [List.eq_nil_iff_forall_not_mem]
  intro k hk
  have hkl:k < l.length:=by
   obtain ⟨_,o,g2,_⟩:=mem_ready.1 hk
   have:(prmL l σ π)[k]? = some o:=by simpa using g2
   have:=(List.getElem?_eq_some_iff.1 this).1
   rwa [prm_len h] at this
  obtain ⟨_,_,c,d⟩:=h3 k hkl
  have:=(rdy L L' hs hs' hL (σ.getD k 0) c).2 (by rw [d]; exact hk)
  rw [he] at this
  exact nomatch this
 intro fuel
 induction fuel with
 | zero=>
  intro L L' a w hs hs' hL hh
  refine ⟨?_,hh.2⟩
  rw [List.eq_nil_iff_forall_not_mem]
  intro i hi
  have hil:i < l.length:=by
   obtain ⟨_,o,g2,_⟩:=mem_ready.1 hi
   have:l[i]? = some o:=by simpa using g2
   exact (List.getElem?_eq_some_iff.1 this).1
  have:=(rdy L L' hs hs' hL i hil).1 hi
  rw [hh.1] at this
  exact nomatch this
 | succ fuel ih=>
  intro L L' a w hs hs' hL hh
  refine ⟨fun he=>hh.1 (back L L' hs hs' hL he),fun i hi=>?_⟩
  have hil:i < l.length:=by
   obtain ⟨_,o,g2,_⟩:=mem_ready.1 hi
   have:l[i]? = some o:=by simpa using g2
   exact (List.getElem?_eq_some_iff.1 this).1
  have ho:l[i]? = some (l[i]'hil):=List.getElem?_eq_getElem hil
  have hg:=h4 _ (List.mem_of_getElem? ho)
  have hh2:=hh.2 _ ((rdy L L' hs hs' hL i hil).1 hi)
  have next:∀ a w,wpAny P .any (prmL l σ π).toArray Q fuel (L'.setIfInBounds (π.getD i 0) true) a w→wpAny P .any l.toArray Q fuel (L.setIfInBounds i true) a w:=fun a w=>ih _ _ a w (by simpa using hs) (by simpa using hs') fun j hj=>by
   have hpj:=(h3 j hj).1
   have hpi:=(h3 i hil).1
   by_cases e:i=j
   ·subst e
    rw [Array.getD_eq_getD_getElem?,Array.getD_eq_getD_getElem?,Array.getElem?_setIfInBounds_self_of_lt (by omega),Array.getElem?_setIfInBounds_self_of_lt (by omega)]
   ·have e':π.getD i 0≠π.getD j 0:=fun q=>e (by rw [← (h3 i hil).2.1,q,(h3 j hj).2.1])
    have h5:=hL j hj
    have q1:(L'.setIfInBounds (π.getD i 0) true).getD (π.getD j 0) true=L'.getD (π.getD j 0) true:=by
     rw [Array.getD_eq_getD_getElem?,Array.getD_eq_getD_getElem?,Array.getElem?_setIfInBounds_ne e']
    have q2:(L.setIfInBounds i true).getD j true=L.getD j true:=by
     rw [Array.getD_eq_getD_getElem?,Array.getD_eq_getD_getElem?,Array.getElem?_setIfInBounds_ne e]
    rw [q1,q2,h5]
  have ga:(l.toArray)[i]? = some (l[i]'hil):=by simp
  have gb:((prmL l σ π).toArray)[π.getD i 0]? = some (mvO π (l[i]'hil)):=by simpa using prm_get h ho
  unfold wpOp at hh2 ⊢
  rw [gb] at hh2
  rw [ga]
  have w1:Region.wanted (l[i]'hil) (yielded l.toArray a.tmps)=true:=by unfold Region.wanted; rw [hg.1]
  have w2:Region.wanted (mvO π (l[i]'hil)) (yielded (prmL l σ π).toArray a.tmps)=true:=by unfold Region.wanted; show (match (l[i]'hil).guard with | none=>true | some (j,want)=>_)=true; rw [hg.1]
  simp only [w2,if_true] at hh2
  simp only [w1,if_true]
  rw [mvO_wp,mvO_asks] at hh2
  exact hh2.imp (fun g=>Oper.wp_mono next g) id
theorem AnyW.prm {n:Nat} {Q:Exit→(Nat→Value)→World→Prop} {r:Nat→Value} {w:World} (hw:AnyW P n (prmL l σ π) Q r w):AnyW P n l Q r w:=by
 have hl:=prm_len h
 obtain ⟨_,_,h3,_⟩:=prm_at h
 intro a a1 a2 a3
 have:=hw a a1 a2 a3
 rw [show (prmL l σ π).toArray.size=l.toArray.size by simpa using hl] at this
 refine wpAny_prm h _ _ _ a _ (by simp) (by simp) (fun i hi=>?_) this
 have hq:=(h3 i hi).1
 rw [List.getD_eq_getElem?_getD] at hq
 simp [Array.getD,hi,hq]
end
section
variable {P:Program} {n:Nat} {Q:Exit→(Nat→Value)→World→Prop} {r0:Nat→Value} {w0:World} {l:List Oper} {S:List Gives}
def dstAt (l:List Oper) (j:Nat):Option Nat:=(l[j]?).bind (·.dst)
def Done (l:List Oper) (S:List Gives) (j:Nat) (g:Nat→List Nat) (r:Nat→Value) (w:World):Prop:=
 (∀ d,dstAt l j=some d→match S[j]? with
  | some s=>if s.b then s.V (g j) w r (r d) else r d=undef
  | none=>True)∧(dstAt l j=none→∀ s,S[j]? = some s→s.b=true→∃ x,s.V (g j) w r x)
def Old (l:List Oper) (S:List Gives) (j:Nat) (r:Nat→Value):Prop:=∀ d,dstAt l j=some d→∀ s,S[j]? = some s→if s.b then ∃ f w,s.V f w r (r d) else r d=undef
structure HeadInv' (l:List Oper) (m:Nat) (S:List Gives) (U:List (List Nat)) (r0:Nat→Value) (w0:World) (H:List Nat) (L:Nat→Prop) (g:Nat→List Nat) (r:Nat→Value) (w:World):Prop where
 chg:Chg H w0 w
 chg0:(∀ k,L k→l.length ∉ U.getD k [])→Chg [] w0 w∧g l.length=H
 vg:∀ b∈g l.length,b∈H
 vd:∀ j,L j→Dis (g j) (g l.length)
 done:∀ j,L j→(∀ k,L k→j ∉ U.getD k [])→Done l S j g r w
 old:∀ j,L j→Old l S j r
 other:∀ t,(∀ j,j < m→dstAt l j≠some t)→r t=r0 t
 fresh:∀ j,L j→∀ b∈g j,(w0.heap.size≤b∨(b∈H∧∃ k,L k∧l.length∈U.getD k []))∧b < w.heap.size
 dis:∀ i j,L i→L j→i≠j→Dis (g i) (g j)
def needB (l:List Oper) (U:List (List Nat)) (m i j:Nat):Bool:=
 ((ancs l).getD i []).contains j && (List.range m).all fun k=>!((U.getD k []).contains j) || Nat.beq k i || ((ancs l).getD k []).contains i
def blks (g:Nat→List Nat) (us:List Nat):List Nat:=us.flatMap g
def needV (l:List Oper) (U:List (List Nat)) (m i:Nat):Bool:=(List.range m).all fun k=>!((U.getD k []).contains l.length) || Nat.beq k i || ((ancs l).getD k []).contains i
def Owes (P:Program) (l:List Oper) (m:Nat) (S:List Gives) (U:List (List Nat)) (r0:Nat→Value) (w0:World) (H:List Nat) (i:Nat):Prop:=
 ∀ o s,l[i]? = some o→S[i]? = some s→∀ (g:Nat→List Nat) (r:Nat→Value) (w:World),Chg H w0 w→(needV l U m i=true→Chg [] w0 w∧g l.length=H∧∀ j∈(ancs l).getD i [],∀ b∈g j,w0.heap.size≤b)→(∀ j∈(ancs l).getD i [],Old l S j r)→(∀ j,needB l U m i j=true→Done l S j g r w)→(∀ t,(∀ j,j < m→dstAt l j≠some t)→r t=r0 t)→
  (∀ i'∈(ancs l).getD i [],∀ j'∈(ancs l).getD i [],i'≠j'→Dis (g i') (g j'))→(∀ j∈(ancs l).getD i [],∀ b∈g j,(w0.heap.size≤b∨b∈H)∧b < w.heap.size)→
  if s.b then Region.wanted o (yl l r)=true∧OpW P o r w fun v w'=>Chg (blks g (U.getD i [])) w w'∧∃ f,(∀ b∈f,(b∈blks g (U.getD i [])∨w.heap.size≤b)∧b < w'.heap.size)∧s.V f w' r v
  else Region.wanted o (yl l r)=false
def nodupB:List Nat→Bool
 | []=>true
 | x :: l=>!(l.contains x) && nodupB l
theorem nodupB_spec:∀ {l:List Nat},nodupB l=true→l.Nodup
 | [],_=>List.nodup_nil
 | x :: l,h=>by
  simp only [nodupB,Bool.and_eq_true,Bool.not_eq_true',List.contains_eq_mem,decide_eq_false_iff_not] at h
  exact List.nodup_cons.2 ⟨h.1,nodupB_spec h.2⟩
def anyB (l:List Oper) (m:Nat) (Z:List Nat):Bool:=
 ((List.range l.length).all fun i=>((l.getD i default).after.toList.filter (Region.binds .any)).all fun e=>Nat.blt e.on i) &&
 ((List.range l.length).all fun i=>Nat.blt i m || (List.range i).all fun j=>((ancs l).getD i []).contains j || Z.contains j) &&
 nodupB ((l.take m).filterMap (·.dst))
def isMove (o:Oper):Bool:=match o.op with | .move _=>true | .extract _ _=>true | _=>false
def ancL (l:List Oper) (i:Nat):Array Bool:=((List.range l.length).map fun j=>((ancs l).getD i []).contains j).toArray
def zOk (l:List Oper) (m:Nat) (Z:List Nat):Bool:=
 Region.noSelect l.toArray && Z.all fun i=>Nat.blt i m && Region.free .any l.toArray (ancL l i) i &&
  match l[i]? with
  | some o=>isMove o && o.guard.isNone
  | none=>false
theorem free_more {l:List Oper} {L:Array Bool} {i:Nat} (hL:∀ j∈(ancs l).getD i [],L.getD j false=true) (h:Region.free .any l.toArray (ancL l i) i=true):Region.free .any l.toArray L i=true:=by
 unfold Region.free at h ⊢
 cases ho:(l.toArray)[i]? with
 | none=>rw [ho] at h; cases h
 | some oi=>
  rw [ho] at h
  simp only [List.all_eq_true,List.mem_range,Bool.or_eq_true] at h ⊢
  intro j hj
  rcases h j hj with (h1 | h1) | h1
  ·exact .inl (.inl h1)
  ·have hlt:j < l.length:=by simpa using hj
   have hm:j∈(ancs l).getD i []:=by
    unfold ancL at h1
    have:((List.range l.length).map fun j=>((ancs l).getD i []).contains j)[j]? = some (((ancs l).getD i []).contains j):=by
     rw [List.getElem?_map,List.getElem?_range hlt]; rfl
    rw [Array.getD_eq_getD_getElem?,List.getElem?_toArray,this] at h1
    simpa using h1
   refine .inl (.inr ?_)
   have h2:=hL j hm
   rcases Nat.lt_or_ge j L.size with h' | h'
   ·simp [h'] at h2 ⊢; exact h2
   ·simp [Array.getElem?_eq_none h'] at h2
  ·exact .inr h1
theorem OpW_extract {P:Program} {d:Option Nat} {x:Operand} {k:Nat} {ty:TypeId} {pos:String} {aft:Array Edge} {g:Option (Nat×Bool)} {r:Nat→Value} {w:World} {K:Value→World→Prop} (h:OpW P ⟨d,.extract x k,ty,pos,aft,g⟩ r w K) :
  ∃ v,(∀ w',(execOp (ev r) ⟨d,.extract x k,ty,pos,aft,g⟩).run P w' = .ok (.value v) w')∧K v w:=by
 have e:execOp (ev r) ⟨d,.extract x k,ty,pos,aft,g⟩ = (Instr.extract (ev r x) k>>=fun v=>pure (.value v)):=rfl
 unfold OpW at h
 rw [e] at h ⊢
 generalize ev r x=u at h ⊢
 cases u
 case tuple vs=>
  cases hv:vs[k]? with
  | none=>simp [Instr.extract,hv,stuck,Result.andThen,Sem.run] at h
  | some v=>
   refine ⟨v,fun w'=>?_,?_⟩
   ·simp [Instr.extract,hv]
   ·simpa [Instr.extract,hv] using h
 all_goals simp [Instr.extract,stuck,Result.andThen,Sem.run] at h
theorem ancs_get (l:List Oper):∀ (i:Nat) (o:Oper),l[i]? = some o→(ancs l)[i]? = some ((o.after.toList.filter (Region.binds .any)).flatMap fun e=>e.on :: ((ancs l).take i).getD e.on []):=by
 have key:∀ (l:List Oper) (acc:List (List Nat)),(l.foldl ancStep acc).length=acc.length+l.length∧(∀ j,j < acc.length→(l.foldl ancStep acc)[j]? = acc[j]?)∧
   ∀ i o,l[i]? = some o→(l.foldl ancStep acc)[acc.length+i]? = some ((o.after.toList.filter (Region.binds .any)).flatMap fun e=>e.on :: ((l.foldl ancStep acc).take (acc.length+i)).getD e.on []):=by
  intro l
  induction l with
  | nil=>intro acc; exact ⟨rfl,fun _ _=>rfl,fun i o h=>by simp at h⟩
  | cons x l ih=>
   intro acc
   obtain ⟨h1,h2,h3⟩:=ih (ancStep acc x)
   have hl:(ancStep acc x).length=acc.length+1:=by simp [ancStep]
   have hold:∀ j,j < acc.length→(ancStep acc x)[j]? = acc[j]?:=fun j hj=>by simp only [ancStep]; rw [List.getElem?_append_left hj]
   refine ⟨by simp only [List.foldl_cons,h1,hl,List.length_cons]; omega,fun j hj=>?_,?_⟩
   ·rw [List.foldl_cons,h2 j (by omega),hold j hj]
   ·intro i o hi
    cases i with
    | zero=>
     simp at hi
     subst hi
     have htake:(List.foldl ancStep acc (x :: l)).take (acc.length+0)=acc:=by
      apply List.ext_getElem?
      intro j
      rw [Nat.add_zero,List.getElem?_take]
      split
      ·rename_i hj
       rw [List.foldl_cons,h2 j (by omega),hold j hj]
      ·rename_i hj
       rw [List.getElem?_eq_none (by omega)]
     rw [htake]
     rw [Nat.add_zero,List.foldl_cons,h2 _ (by omega)]
     simp only [ancStep]
     rw [List.getElem?_append_right (Nat.le_refl _)]
     simp
    | succ i=>
     have:=h3 i o (by simpa using hi)
     rw [hl] at this
     rw [List.foldl_cons]
     rw [show acc.length+(i+1)=acc.length+1+i by omega]
     exact this
 intro i o hi
 have:=(key l []).2.2 i o hi
 simpa [ancs] using this
theorem ancs_back (l:List Oper) (hb:∀ (i:Nat) (o:Oper),l[i]? = some o→∀ e∈o.after.toList.filter (Region.binds .any),e.on < i) :
  ∀ (i j:Nat),j∈(ancs l).getD i []→j < i∧∃ o,l[i]? = some o∧∃ e∈o.after.toList.filter (Region.binds .any),j=e.on∨j∈(ancs l).getD e.on []:=by
 intro i j hj
 cases ho:l[i]? with
 | none=>
  have hlen:(ancs l).length=l.length:=by
   have:∀ (l:List Oper) (acc:List (List Nat)),(l.foldl ancStep acc).length=acc.length+l.length:=by
    intro l
    induction l with
    | nil=>intro acc; rfl
    | cons x l ih=>intro acc; rw [List.foldl_cons,ih]; simp [ancStep]; omega
   simpa [ancs] using this l []
  rw [List.getD_eq_getElem?_getD,List.getElem?_eq_none (by rw [hlen]; exact List.getElem?_eq_none_iff.1 ho)] at hj
  simp at hj
 | some o=>
  have h:=ancs_get l i o ho
  rw [List.getD_eq_getElem?_getD,h] at hj
  simp only [Option.getD_some,List.mem_flatMap,List.mem_cons] at hj
  obtain ⟨e,he,hj⟩:=hj
  have hlt:=hb i o ho e he
  have htk:((ancs l).take i).getD e.on []=(ancs l).getD e.on []:=by
   rw [List.getD_eq_getElem?_getD,List.getD_eq_getElem?_getD,List.getElem?_take,if_pos hlt]
  rw [htk] at hj
  refine ⟨?_,o,rfl,e,he,hj⟩
  rcases hj with rfl | hj
  ·exact hlt
  ·-- by the strong law below
   have:∀ (k i:Nat),i≤k→∀ j∈(ancs l).getD i [],j < i:=by
    intro k
    induction k with
    | zero=>
     intro i hi j hj
     obtain rfl:i=0:=by omega
     cases ho:l[0]? with
     | none=>
      obtain rfl:l=[]:=by cases l with | nil=>rfl | cons=>simp at ho
      simp [ancs] at hj
     | some o=>
      have h:=ancs_get l 0 o ho
      rw [List.getD_eq_getElem?_getD,h] at hj
      simp only [Option.getD_some,List.mem_flatMap] at hj
      obtain ⟨e,he,_⟩:=hj
      exact absurd (hb 0 o ho e he) (Nat.not_lt_zero _)
    | succ k ih=>
     intro i hi j hj
     cases ho:l[i]? with
     | none=>
      have hlen:(ancs l).length=l.length:=by
       have:∀ (l:List Oper) (acc:List (List Nat)),(l.foldl ancStep acc).length=acc.length+l.length:=by
        intro l
        induction l with
        | nil=>intro acc; rfl
        | cons x l ih=>intro acc; rw [List.foldl_cons,ih]; simp [ancStep]; omega
       simpa [ancs] using this l []
      rw [List.getD_eq_getElem?_getD,List.getElem?_eq_none (by rw [hlen]; exact List.getElem?_eq_none_iff.1 ho)] at hj
      simp at hj
     | some o=>
      have h:=ancs_get l i o ho
      rw [List.getD_eq_getElem?_getD,h] at hj
      simp only [Option.getD_some,List.mem_flatMap,List.mem_cons] at hj
      obtain ⟨e,he,hj⟩:=hj
      have hlt:=hb i o ho e he
      rcases hj with rfl | hj
      ·exact hlt
      ·have htk:((ancs l).take i).getD e.on []=(ancs l).getD e.on []:=by
        rw [List.getD_eq_getElem?_getD,List.getD_eq_getElem?_getD,List.getElem?_take,if_pos hlt]
       rw [htk] at hj
       have:=ih e.on (by omega) j hj
       omega
   exact Nat.lt_trans (this e.on e.on (Nat.le_refl _) j hj) hlt
theorem ancs_trans (l:List Oper) (hb:∀ (i:Nat) (o:Oper),l[i]? = some o→∀ e∈o.after.toList.filter (Region.binds .any),e.on < i) {j k:Nat} (hj:j∈(ancs l).getD k []):∀ {i:Nat},k∈(ancs l).getD i []→j∈(ancs l).getD i []:=by
 intro i
 induction i using Nat.strongRecOn with
 | _ i ih=>
  intro hk
  obtain ⟨_,o,ho,e,he,hke⟩:=ancs_back l hb i k hk
  have hlt:=hb i o ho e he
  have h2:j∈(ancs l).getD e.on []:=hke.elim (fun h=>h ▸ hj) (fun h=>ih e.on hlt h)
  have h:=ancs_get l i o ho
  rw [List.getD_eq_getElem?_getD,h]
  simp only [Option.getD_some,List.mem_flatMap,List.mem_cons]
  refine ⟨e,he,.inr ?_⟩
  rw [List.getD_eq_getElem?_getD,List.getElem?_take,if_pos hlt,← List.getD_eq_getElem?_getD]
  exact h2
theorem getD_both {listed:Array Bool} {i:Nat} (h:listed.getD i true=false):listed.getD i false=false:=by
 rcases Nat.lt_or_ge i listed.size with h' | h'
 ·simp [h'] at h ⊢; exact h
 ·simp [Array.getElem?_eq_none h'] at h
theorem getD_replicate_false (m j:Nat):(Array.replicate m false).getD j false=false:=by
 rcases Nat.lt_or_ge j m with h | h
 ·simp [h]
 ·simp [h]
theorem nodup_dst:∀ (l:List Oper),(l.filterMap (·.dst)).Nodup→∀ i j d,dstAt l i=some d→dstAt l j=some d→i=j:=by
 intro l
 induction l with
 | nil=>intro _ i j d h; simp [dstAt] at h
 | cons o l ih=>
  intro hn i j d hi hj
  have hmem:∀ k,dstAt (o :: l) (k+1)=some d→d∈l.filterMap (·.dst):=by
   intro k hk
   simp only [dstAt,List.getElem?_cons_succ] at hk
   cases ho:l[k]? with
   | none=>rw [ho] at hk; cases hk
   | some x=>rw [ho] at hk; exact List.mem_filterMap.2 ⟨x,List.mem_of_getElem? ho,hk⟩
  have h0:∀ e,o.dst=some e→e ∉ l.filterMap (·.dst)∧(l.filterMap (·.dst)).Nodup:=by
   intro e he
   rw [List.filterMap_cons_some he] at hn
   exact List.nodup_cons.1 hn
  have hn':(l.filterMap (·.dst)).Nodup:=by
   cases hd:o.dst with
   | none=>rwa [List.filterMap_cons_none hd] at hn
   | some e=>exact (h0 e hd).2
  cases i with
  | zero=>
   cases j with
   | zero=>rfl
   | succ j=>exact absurd (hmem j hj) (h0 d (by simpa [dstAt] using hi)).1
  | succ i=>
   cases j with
   | zero=>exact absurd (hmem i hi) (h0 d (by simpa [dstAt] using hj)).1
   | succ j=>rw [ih hn' i j d (by simpa [dstAt] using hi) (by simpa [dstAt] using hj)]
theorem dstAt_take {m j:Nat} (hj:j < m):dstAt (l.take m) j=dstAt l j:=by
 unfold dstAt
 rw [List.getElem?_take,if_pos hj]
theorem OpW_mono {o:Oper} {r:Nat→Value} {w:World} {K K':Value→World→Prop} (h:OpW P o r w K) (hk:∀ v w',K v w'→K' v w'):OpW P o r w K':=by
 unfold OpW at h ⊢
 cases hr:(execOp (ev r) o).run P w with
 | ok x w'=>
  rw [hr] at h
  cases x with
  | value v=>exact hk _ _ h
  | skip=>exact hk _ _ h
  | enter f args=>exact h.mono fun e w'' ⟨v,he,hv⟩=>⟨v,he,hk _ _ hv⟩
  | _=>exact h
 | _=>rw [hr] at h; exact h.elim
theorem anyB_back {m:Nat} {Z:List Nat} (h:anyB l m Z=true):∀ (i:Nat) (o:Oper),l[i]? = some o→∀ e∈o.after.toList.filter (Region.binds .any),e.on < i:=by
 simp only [anyB,Bool.and_eq_true,List.all_eq_true,List.mem_range] at h
 intro i o ho e he
 have hi:i < l.length:=(List.getElem?_eq_some_iff.1 ho).1
 have:=h.1.1 i hi e (by rw [List.getD_eq_getElem?_getD,ho]; exact he)
 exact Nat.lt_of_succ_le (Nat.le_of_ble_eq_true this)
theorem W_anyC {m:Nat} {U:List (List Nat)} {Z H:List Nat} {N:Nat→Prop} (hd:dstOk n l=true) (hA:anyB l m Z=true) (hZ:zOk l m Z=true) (hp:∀ c r w,Q (.panic c) r w→False) (hml:m≤l.length)
  (hS:S.length=m)
  (hH:∀ b∈H,b < w0.heap.size) (hU:((List.range m).all fun i=>(U.getD i []).all fun u=>Nat.beq u l.length || ((ancs l).getD i []).contains u)=true)
  (hN:∀ b,N b→b < w0.heap.size∧b ∉ H)
  (stable:∀ (i:Nat) (s:Gives),S[i]? = some s→∀ f F (w w':World) (r r':Nat→Value) v,Chg F w w'→(∀ b∈f,b ∉ F)→(∀ b∈F,¬ N b)→(∀ j∈(ancs l).getD i [],∀ t,dstAt l j=some t→r' t=r t)→s.V f w r v→s.V f w' r' v)
  (owes:∀ i,i < m→Owes P l m S U r0 w0 H i)
  (next:∀ g r w,HeadInv' l m S U r0 w0 H (fun j=>j < m) g r w→WL P l (l.drop m) r w (Q .normal)) :
  AnyW P n l Q r0 w0:=by
 simp only [anyB,Bool.and_eq_true,List.all_eq_true,List.mem_range,Bool.or_eq_true] at hA
 obtain ⟨⟨hA1,hA2⟩,hA3⟩:=hA
 have hback:∀ (i:Nat) (o:Oper),l[i]? = some o→∀ e∈o.after.toList.filter (Region.binds .any),e.on < i:=by
  intro i o ho e he
  have hi:i < l.length:=(List.getElem?_eq_some_iff.1 ho).1
  have:=hA1 i hi e (by rw [List.getD_eq_getElem?_getD,ho]; exact he)
  exact Nat.lt_of_succ_le (Nat.le_of_ble_eq_true this)
 have hbig:∀ i,m≤i→i < l.length→∀ j,j < i→j∈(ancs l).getD i []∨j∈Z:=by
  intro i h1 h2 j hj
  rcases hA2 i h2 with h | h
  ·exact absurd (Nat.lt_of_succ_le (Nat.le_of_ble_eq_true h)) (Nat.not_lt.2 h1)
  ·have:=h j hj
   simpa using this
 simp only [zOk,Bool.and_eq_true,List.all_eq_true] at hZ
 obtain ⟨hns,hZ⟩:=hZ
 have hZm:∀ z∈Z,z < m:=fun z hz=>Nat.lt_of_succ_le (Nat.le_of_ble_eq_true (hZ z hz).1.1)
 have hUs:∀ i,i < m→∀ u∈U.getD i [],u=l.length∨u∈(ancs l).getD i []:=by
  intro i hi u hu
  simp only [List.all_eq_true,List.mem_range] at hU
  have:=hU i hi u hu
  simpa using this
 have hnd:=nodup_dst _ (nodupB_spec hA3)
 have hanc:=ancs_back l hback
 intro a h1 h2 h3
 let Cl (L:Array Bool):Prop:=L.size=l.length∧∀ j o,l[j]? = some o→L.getD j false=true→∀ e∈o.after.toList.filter (Region.binds .any),L.getD e.on false=true
 have clAnc:∀ L,Cl L→∀ i j,(∀ o,l[i]? = some o→∀ e∈o.after.toList.filter (Region.binds .any),L.getD e.on false=true)→j∈(ancs l).getD i []→L.getD j false=true:=by
  intro L hL i
  induction i using Nat.strongRecOn with
  | _ i ih=>
   intro j hi hj
   obtain ⟨_,o,ho,e,he,hje⟩:=hanc i j hj
   have hl:=hi o ho e he
   rcases hje with rfl | hje
   ·exact hl
   ·exact ih e.on (hback i o ho e he) j (fun o' ho' e' he'=>hL.2 _ _ ho' hl e' he') hje
 have rdy:∀ L i,i∈Region.ready .any l.toArray L→L.getD i true=false∧∃ o,l[i]? = some o∧∀ e∈o.after.toList.filter (Region.binds .any),L.getD e.on false=true:=by
  intro L i hi
  obtain ⟨g1,o,ho,hall⟩:=mem_ready.1 hi
  refine ⟨g1,o,by simpa using ho,fun e he=>?_⟩
  have:=List.mem_filter.1 he
  exact hall e (by simpa using this.1) this.2
 have rdyMk:∀ L i o,L.size=l.length→l[i]? = some o→L.getD i false=false→(∀ e∈o.after.toList.filter (Region.binds .any),L.getD e.on false=true)→i∈Region.ready .any l.toArray L:=by
  intro L i o hs ho hu hall
  refine mem_ready.2 ⟨?_,o,by simpa using ho,fun e he hb=>hall e (List.mem_filter.2 ⟨by simpa using he,hb⟩)⟩
  have hi:i < L.size:=by rw [hs]; exact (List.getElem?_eq_some_iff.1 ho).1
  simp [hi] at hu ⊢; exact hu
 have clSet:∀ L i o,Cl L→l[i]? = some o→(∀ e∈o.after.toList.filter (Region.binds .any),L.getD e.on false=true)→Cl (L.setIfInBounds i true):=by
  intro L i o hL ho hall
  refine ⟨by rw [Array.size_setIfInBounds]; exact hL.1,fun j o' ho' hj e he=>?_⟩
  by_cases hij:i=j
  ·subst hij
   have:o'=o:=Option.some.inj (ho'.symm.trans ho)
   subst this
   exact getD_set_true (hall e he)
  ·rw [getD_set_ne false hij] at hj
   exact getD_set_true (hL.2 j o' ho' hj e he)
 have getSet:∀ (L:Array Bool) i j,L.size=l.length→i < l.length→((L.setIfInBounds i true).getD j false=true↔j=i∨L.getD j false=true):=by
  intro L i j hs hi
  by_cases hij:i=j
  ·subst hij
   simp [hs,hi]
  ·rw [getD_set_ne false hij]
   constructor
   ·exact .inr
   ·rintro (h | h)
    ·exact absurd h.symm hij
    ·exact h
 have cnt:∀ (L:Array Bool) i,L.size=l.length→i < l.length→L.getD i false=false→(L.setIfInBounds i true).toList.count false+1=L.toList.count false:=by
  intro L i hs hi hu
  have hi':i < L.toList.length:=by simpa [hs] using hi
  have hu':L.toList[i]=false:=by
   rw [Array.getElem_toList]
   simp [hs,hi] at hu
   exact hu
  rw [Array.toList_setIfInBounds,List.count_set hi',hu']
  have:0 < L.toList.count false:=List.count_pos_iff.2 (by rw [← hu']; exact List.getElem_mem hi')
  rw [if_pos (by rfl),if_neg (by decide)]
  omega
 have tail:∀ (d k fuel:Nat) (L:Array Bool) (a:Act) (w:World),l.length - k=d→m≤k→k≤l.length→Cl L→(∀ j,L.getD j false=true↔j < k)→L.toList.count false≤fuel→a.tmps.size=n→a.defers=[]→
   WL P l (l.drop k) (rho a) w (Q .normal)→wpAny P .any l.toArray (fun e a' w'=>a'.tmps.size=n∧a'.defers=[]∧Q e (rho a') w') fuel L a w:=by
  intro d
  induction d with
  | zero=>
   intro k fuel L a w hk hmk hkl hL hLk hf g1 g2 hW
   obtain rfl:k=l.length:=by omega
   rw [List.drop_length] at hW
   have hno:Region.ready .any l.toArray L=[]:=by
    apply List.eq_nil_iff_forall_not_mem.2
    intro i hi
    obtain ⟨q1,o,ho,_⟩:=rdy L i hi
    have hlt:i < l.length:=(List.getElem?_eq_some_iff.1 ho).1
    have:=(hLk i).2 hlt
    simp [hL.1,hlt] at q1 this
    rw [q1] at this; cases this
   cases fuel with
   | zero=>exact ⟨hno,g1,g2,hW⟩
   | succ fuel=>exact ⟨fun _=>⟨g1,g2,hW⟩,fun i hi=>by rw [hno] at hi; cases hi⟩
  | succ d ih=>
   intro k fuel L a w hk hmk hkl hL hLk hf g1 g2 hW
   have hklt:k < l.length:=by omega
   obtain ⟨o,ho⟩ : ∃ o,l[k]? = some o:=⟨l[k],List.getElem?_eq_getElem hklt⟩
   have hku:L.getD k false=false:=by
    cases hb:L.getD k false with
    | false=>rfl
    | true=>exact absurd ((hLk k).1 hb) (Nat.lt_irrefl _)
   have hkr:k∈Region.ready .any l.toArray L:=rdyMk L k o hL.1 ho hku fun e he=>(hLk _).2 (hback k o ho e he)
   have hdrop:l.drop k=o :: l.drop (k+1):=by rw [List.drop_eq_getElem_cons hklt]; congr 1; exact Option.some.inj ((List.getElem?_eq_getElem hklt).symm.trans ho)
   rw [hdrop] at hW
   have hc:=cnt L k hL.1 hklt hku
   cases fuel with
   | zero=>omega
   | succ fuel=>
    refine ⟨fun h=>(by rw [h] at hkr; cases hkr),fun i hi=>?_⟩
    obtain ⟨q1,oi,hoi,hall⟩:=rdy L i hi
    have hilt:i < l.length:=(List.getElem?_eq_some_iff.1 hoi).1
    have hiu:L.getD i false=false:=getD_both q1
    have hik:i=k:=by
     rcases Nat.lt_trichotomy i k with h | h | h
     ·have:=(hLk i).2 h; rw [hiu] at this; cases this
     ·exact h
     ·have:=clAnc L hL i k (fun o' ho'=>by have:o'=oi:=Option.some.inj (ho'.symm.trans hoi); subst this; exact hall) ((hbig i (by omega) hilt k h).resolve_right fun hz=>absurd (hZm k hz) (by omega))
      rw [hku] at this; cases this
    subst hik
    have hoo:oi=o:=Option.some.inj (hoi.symm.trans ho)
    subst hoo
    have hdo:∀ k',oi.dst=some k'→k' < a.tmps.size:=by
     intro k' hk'
     have hm':oi∈l:=List.mem_of_getElem? hoi
     simp only [dstOk,List.all_eq_true] at hd
     have:=hd oi hm'
     rw [hk'] at this
     rw [g1]
     exact Nat.lt_of_succ_le (Nat.le_of_ble_eq_true this)
    have hcl:=clSet L i oi hL hoi hall
    have hnew:∀ j,(L.setIfInBounds i true).getD j false=true↔j < i+1:=by
     intro j
     rw [getSet L i j hL.1 hilt,hLk j]
     omega
    unfold wpOp
    rw [show (l.toArray)[i]? = some oi by simpa using hoi]
    simp only []
    rw [yl_eq (by rw [g1]; exact hd)]
    rcases hW with ⟨hw,hW⟩ | ⟨hw,hW⟩
    ·rw [if_pos hw]
     exact .inl (hW.wp fun v w' hv=>ih (i+1) fuel _ _ _ (by omega) (by omega) (by omega) hcl hnew (by omega) (by rw [size_put]; exact g1) (by rw [defers_put]; exact g2) (by rw [rho_putO hdo]; exact hv))
    ·rw [if_neg (by rw [hw]; exact Bool.false_ne_true)]
     exact ih (i+1) fuel _ _ _ (by omega) (by omega) (by omega) hcl hnew (by omega) (by rw [size_put]; exact g1) (by rw [defers_put]; exact g2) (by rw [rho_putO hdo]; exact hW)
 have head:∀ (fuel:Nat) (L:Array Bool) (a:Act) (w:World) (g:Nat→List Nat),Cl L→(∀ j,L.getD j false=true→j < m)→L.toList.count false≤fuel→a.tmps.size=n→a.defers=[]→
   HeadInv' l m S U r0 w0 H (fun j=>L.getD j false=true) g (rho a) w→wpAny P .any l.toArray (fun e a' w'=>a'.tmps.size=n∧a'.defers=[]∧Q e (rho a') w') fuel L a w:=by
  intro fuel
  induction fuel with
  | zero=>
   intro L a w g hL hLm hf g1 g2 inv
   have hall:∀ j,j < l.length→L.getD j false=true:=by
    intro j hj
    cases hb:L.getD j false with
    | true=>rfl
    | false=>have:=cnt L j hL.1 hj hb; omega
   have hLk:∀ j,L.getD j false=true↔j < m:=fun j=>⟨hLm j,fun h=>hall j (by omega)⟩
   refine tail _ m 0 L a w rfl (Nat.le_refl _) hml hL hLk hf g1 g2 (next g _ _ ?_)
   exact ⟨inv.chg,fun hk=>inv.chg0 fun k hkL=>hk k ((hLk k).1 hkL),inv.vg,fun j hj=>inv.vd j ((hLk j).2 hj),fun j hj hk=>inv.done j ((hLk j).2 hj) (fun k hkL=>hk k ((hLk k).1 hkL)),fun j hj=>inv.old j ((hLk j).2 hj),inv.other,fun j hj b hb=>⟨(inv.fresh j ((hLk j).2 hj) b hb).1.imp (fun h=>h) fun h=>⟨h.1,h.2.imp fun k hk=>⟨(hLk k).1 hk.1,hk.2⟩⟩,(inv.fresh j ((hLk j).2 hj) b hb).2⟩,fun i j hi hj=>inv.dis i j ((hLk i).2 hi) ((hLk j).2 hj)⟩
  | succ fuel ih=>
   intro L a w g hL hLm hf g1 g2 inv
   by_cases hall:∀ j,j < m→L.getD j false=true
   ·have hLk:∀ j,L.getD j false=true↔j < m:=fun j=>⟨hLm j,hall j⟩
    refine tail _ m _ L a w rfl (Nat.le_refl _) hml hL hLk hf g1 g2 (next g _ _ ?_)
    exact ⟨inv.chg,fun hk=>inv.chg0 fun k hkL=>hk k ((hLk k).1 hkL),inv.vg,fun j hj=>inv.vd j ((hLk j).2 hj),fun j hj hk=>inv.done j ((hLk j).2 hj) (fun k hkL=>hk k ((hLk k).1 hkL)),fun j hj=>inv.old j ((hLk j).2 hj),inv.other,fun j hj b hb=>⟨(inv.fresh j ((hLk j).2 hj) b hb).1.imp (fun h=>h) fun h=>⟨h.1,h.2.imp fun k hk=>⟨(hLk k).1 hk.1,hk.2⟩⟩,(inv.fresh j ((hLk j).2 hj) b hb).2⟩,fun i j hi hj=>inv.dis i j ((hLk i).2 hi) ((hLk j).2 hj)⟩
   ·obtain ⟨j0,hj0,hu0⟩ : ∃ j,j < m∧L.getD j false=false:=by
     apply Classical.byContradiction
     intro hno
     apply hall
     intro j hj
     cases hb:L.getD j false with
     | true=>rfl
     | false=>exact absurd ⟨j,hj,hb⟩ hno
    have hsome:∃ i,i∈Region.ready .any l.toArray L:=by
     have:∀ k,(∃ j,j < k∧j < m∧L.getD j false=false)→∃ i,i∈Region.ready .any l.toArray L:=by
      intro k
      induction k with
      | zero=>rintro ⟨j,h,_⟩; omega
      | succ k ihk=>
       rintro ⟨j,hjk,hjm,hju⟩
       by_cases hlow:∃ j,j < k∧j < m∧L.getD j false=false
       ·exact ihk hlow
       ·obtain rfl:j=k:=by
         apply Classical.byContradiction
         intro h
         exact hlow ⟨j,by omega,hjm,hju⟩
        have hjl:j < l.length:=by omega
        refine ⟨j,rdyMk L j l[j] hL.1 (List.getElem?_eq_getElem hjl) hju fun e he=>?_⟩
        have hlt:=hback j _ (List.getElem?_eq_getElem hjl) e he
        cases hb:L.getD e.on false with
        | true=>rfl
        | false=>exact absurd ⟨e.on,hlt,by omega,hb⟩ hlow
     exact this (j0+1) ⟨j0,by omega,hj0,hu0⟩
    have main:∀ i oi,i < m→l[i]? = some oi→L.getD i false=false→(∀ e∈oi.after.toList.filter (Region.binds .any),L.getD e.on false=true)→
      (Region.wanted oi (yl l (rho a))=true∧OpW P oi (rho a) w fun v w'=>wpAny P .any l.toArray (fun e a' w'=>a'.tmps.size=n∧a'.defers=[]∧Q e (rho a') w') fuel (L.setIfInBounds i true) (a.put oi.dst v) w')∨
      (Region.wanted oi (yl l (rho a))=false∧wpAny P .any l.toArray (fun e a' w'=>a'.tmps.size=n∧a'.defers=[]∧Q e (rho a') w') fuel (L.setIfInBounds i true) (a.put oi.dst undef) w):=by
     intro i oi him hoi hiu hedge
     have hilt:i < l.length:=(List.getElem?_eq_some_iff.1 hoi).1
     have hedge':∀ o,l[i]? = some o→∀ e∈o.after.toList.filter (Region.binds .any),L.getD e.on false=true:=fun o' ho'=>by
      have:o'=oi:=Option.some.inj (ho'.symm.trans hoi)
      subst this; exact hedge
     obtain ⟨s,hs⟩ : ∃ s,S[i]? = some s:=⟨S[i]'(by omega),List.getElem?_eq_getElem (by omega)⟩
     have hc:=cnt L i hL.1 hilt hiu
     have hcl:=clSet L i oi hL hoi hedge
     have hlm:∀ j,(L.setIfInBounds i true).getD j false=true→j < m:=by
      intro j hj
      rcases (getSet L i j hL.1 hilt).1 hj with rfl | hj
      ·exact him
      ·exact hLm j hj
     have hiL:∀ k,L.getD k false=true→k≠i∧i ∉ (ancs l).getD k []:=by
      intro k hk
      refine ⟨fun h=>(by rw [h,hiu] at hk; cases hk),fun hm'=>?_⟩
      have:=clAnc L hL k i (fun o' ho' e' he'=>hL.2 k o' ho' hk e' he') hm'
      rw [hiu] at this; cases this
     have ow:=owes i him oi s hoi hs g (rho a) w inv.chg (fun hV=>by
       have hno:∀ k,L.getD k false=true→l.length ∉ U.getD k []:=fun k hk hkV=>by
        simp only [needV,List.all_eq_true,List.mem_range,Bool.or_eq_true,Bool.not_eq_true',List.contains_eq_mem,decide_eq_false_iff_not,decide_eq_true_eq] at hV
        rcases hV k (hLm k hk) with (h | h) | h
        ·exact h hkV
        ·exact (hiL k hk).1 (Nat.eq_of_beq_eq_true h)
        ·exact (hiL k hk).2 h
       have h0:=inv.chg0 hno
       exact ⟨h0.1,h0.2,fun j hj b hb=>(inv.fresh j (clAnc L hL i j hedge' hj) b hb).1.elim (fun h=>h) fun h=>absurd h.2.choose_spec.2 (hno _ h.2.choose_spec.1)⟩) (fun j hj=>inv.old j (clAnc L hL i j hedge' hj)) (fun j hj=>by
       simp only [needB,Bool.and_eq_true,List.all_eq_true,List.mem_range,Bool.or_eq_true,Bool.not_eq_true',List.contains_eq_mem,decide_eq_false_iff_not,decide_eq_true_eq] at hj
       refine inv.done j (clAnc L hL i j hedge' hj.1) fun k hk hjk=>?_
       rcases hj.2 k (hLm k hk) with (h | h) | h
       ·exact h hjk
       ·exact (hiL k hk).1 (Nat.eq_of_beq_eq_true h)
       ·exact (hiL k hk).2 h) inv.other
      (fun i' hi' j' hj'=>inv.dis i' j' (clAnc L hL i i' hedge' hi') (clAnc L hL i j' hedge' hj'))
      (fun j hj b hb=>⟨(inv.fresh j (clAnc L hL i j hedge' hj) b hb).1.imp (fun h=>h) (·.1),(inv.fresh j (clAnc L hL i j hedge' hj) b hb).2⟩)
     have hblk:∀ b∈blks g (U.getD i []),(∃ u,u∈U.getD i []∧L.getD u false=true∧b∈g u)∨(l.length∈U.getD i []∧b∈g l.length):=by
      intro b hb
      obtain ⟨u,hu,hbu⟩:=List.mem_flatMap.1 hb
      rcases hUs i him u hu with rfl | h
      ·exact .inr ⟨hu,hbu⟩
      ·exact .inl ⟨u,hu,clAnc L hL i u hedge' h,hbu⟩
     have hdo:∀ k',oi.dst=some k'→k' < a.tmps.size:=by
      intro k' hk'
      have hm':oi∈l:=List.mem_of_getElem? hoi
      simp only [dstOk,List.all_eq_true] at hd
      have:=hd oi hm'
      rw [hk'] at this
      rw [g1]
      exact Nat.lt_of_succ_le (Nat.le_of_ble_eq_true this)
     have hdi:dstAt l i=oi.dst:=by unfold dstAt; rw [hoi]; rfl
     have hfr:∀ v t,(oi.dst≠some t)→rho (a.put oi.dst v) t=rho a t:=by
      intro v t ht
      rw [rho_putO hdo]
      cases hdd:oi.dst with
      | none=>rfl
      | some d=>
       show (bif Nat.beq t d then v else rho a t)=rho a t
       cases hb:Nat.beq t d with
       | false=>rfl
       | true=>exact absurd (by rw [hdd,Nat.eq_of_beq_eq_true hb]) ht
     have hfr2:∀ v d,oi.dst=some d→rho (a.put oi.dst v) d=v:=by
      intro v d hdd
      rw [rho_putO hdo,hdd]
      show (bif Nat.beq d d then v else rho a d)=v
      rw [Nat.beq_refl]; rfl
     have step:∀ v w' f,Chg (blks g (U.getD i [])) w w'→(∀ b∈f,(b∈blks g (U.getD i [])∨w.heap.size≤b)∧b < w'.heap.size)→(if s.b then s.V f w' (rho a) v else v=undef)→
       wpAny P .any l.toArray (fun e a' w'=>a'.tmps.size=n∧a'.defers=[]∧Q e (rho a') w') fuel (L.setIfInBounds i true) (a.put oi.dst v) w':=by
      intro v w' f hC hf' hV
      have hslot:∀ j',j' < m→j'≠i→∀ t,dstAt l j'=some t→rho (a.put oi.dst v) t=rho a t:=by
       intro j' hj' hne t ht
       refine hfr v t fun h=>hne (hnd j' i t ?_ ?_)
       ·rw [dstAt_take hj']; exact ht
       ·rw [dstAt_take him,hdi]; exact h
      have hnN:∀ b∈blks g (U.getD i []),¬ N b:=fun b hb hn=>by
       rcases hblk b hb with ⟨u,_,huL,hbu⟩ | ⟨_,hbu⟩
       ·rcases (inv.fresh u huL b hbu).1 with h | h
        ·have:=(hN b hn).1; omega
        ·exact (hN b hn).2 h.1
       ·exact (hN b hn).2 (inv.vg b hbu)
      refine ih _ _ _ (fun j=>if j=i then f else if j∈U.getD i [] then [] else g j) hcl hlm (by omega) (by rw [size_put]; exact g1) (by rw [defers_put]; exact g2)
       ⟨inv.chg.then hC fun b hb=>(by
        rcases hblk b hb with ⟨u,_,huL,hbu⟩ | ⟨_,hbu⟩
        ·exact (inv.fresh u huL b hbu).1.elim .inr fun h=>.inl h.1
        ·exact .inl (inv.vg b hbu)),fun hno=>?_,?_,fun j hj=>?_,?_,fun j hj d hdj sj hsj=>?_,?_,?_,?_⟩
      ·have hi0:l.length ∉ U.getD i []:=hno i ((getSet L i i hL.1 hilt).2 (.inl rfl))
       have h0:=inv.chg0 fun k hk=>hno k ((getSet L i k hL.1 hilt).2 (.inr hk))
       refine ⟨h0.1.then hC fun b hb=>?_,?_⟩
       ·rcases hblk b hb with ⟨u,_,huL,hbu⟩ | ⟨h,_⟩
        ·exact (inv.fresh u huL b hbu).1.elim .inr fun ⟨_,k,hk,hkV⟩=>absurd hkV (hno k ((getSet L i k hL.1 hilt).2 (.inr hk)))
        ·exact absurd h hi0
       ·show (if l.length=i then f else if l.length∈U.getD i [] then [] else g l.length)=H
        rw [if_neg (by omega),if_neg hi0]
        exact h0.2
      ·intro b hb
       have hb':b∈(if l.length=i then f else if l.length∈U.getD i [] then [] else g l.length):=hb
       rw [if_neg (by omega)] at hb'
       split at hb'
       ·cases hb'
       ·exact inv.vg b hb'
      ·intro b hb hv
       have hv':b∈(if l.length=i then f else if l.length∈U.getD i [] then [] else g l.length):=hv
       rw [if_neg (by omega)] at hv'
       split at hv'
       ·cases hv'
       ·rename_i hnv
        have hb':b∈(if j=i then f else if j∈U.getD i [] then [] else g j):=hb
        split at hb'
        ·rcases (hf' b hb').1 with h | h
         ·rcases hblk b h with ⟨u,_,huL,hbu⟩ | ⟨h,_⟩
          ·exact inv.vd u huL b hbu hv'
          ·exact hnv h
         ·have h1:=hH b (inv.vg b hv')
          have h2:=inv.chg.size
          omega
        ·rename_i hji
         split at hb'
         ·cases hb'
         ·exact inv.vd j (((getSet L i j hL.1 hilt).1 hj).resolve_left hji) b hb' hv'
      ·intro j hj hal
       refine ⟨fun d hdj=>?_,fun hdn sj hsj hbj=>?_⟩
       rotate_left
       ·by_cases hji:j=i
        ·subst hji
         rw [hs] at hsj
         cases hsj
         rw [if_pos hbj] at hV
         refine ⟨v,?_⟩
         simp only [if_pos]
         exact stable j s hs _ [] w' w' (rho a) _ v (Chg.refl _ _) (fun _ _ h=>nomatch h) (fun _ h=>nomatch h) (fun j' hj' t ht=>hslot j' (by have:=(hanc j j' hj').1; omega) (by have:=(hanc j j' hj').1; omega) t ht) hV
        ·have hj2:=((getSet L i j hL.1 hilt).1 hj).resolve_left hji
         have hju:j ∉ U.getD i []:=hal i ((getSet L i i hL.1 hilt).2 (.inl rfl))
         obtain ⟨x,hx⟩:=(inv.done j hj2 (fun k hk=>hal k ((getSet L i k hL.1 hilt).2 (.inr hk)))).2 hdn sj hsj hbj
         have hg':(fun j=>if j=i then f else if j∈U.getD i [] then [] else g j) j=g j:=by
          show (if j=i then f else if j∈U.getD i [] then [] else g j)=g j
          rw [if_neg hji,if_neg hju]
         rw [hg']
         refine ⟨x,stable j sj hsj _ _ _ _ (rho a) _ _ hC (fun b hb' hbk=>?_) hnN (fun j' hj' t ht=>hslot j' (by have:=(hanc j j' hj').1; have:=hLm j hj2; omega) (fun h=>?_) t ht) hx⟩
         ·rcases hblk b hbk with ⟨u,huU,huL,hbu⟩ | ⟨_,hbu⟩
          ·exact inv.dis j u hj2 huL (fun h=>hju (h ▸ huU)) b hb' hbu
          ·exact inv.vd j hj2 b hb' hbu
         ·subst h
          have:=clAnc L hL j j' (fun o' ho' e' he'=>hL.2 j o' ho' hj2 e' he') hj'
          rw [hiu] at this; cases this
       by_cases hji:j=i
       ·subst hji
        rw [hs]
        simp only [if_pos]
        rw [hdi] at hdj
        rw [hfr2 v d hdj]
        split
        ·rename_i hb
         rw [if_pos hb] at hV
         exact stable j s hs _ [] w' w' (rho a) _ v (Chg.refl _ _) (fun _ _ h=>nomatch h) (fun _ h=>nomatch h) (fun j' hj' t ht=>hslot j' (by have:=(hanc j j' hj').1; omega) (by have:=(hanc j j' hj').1; omega) t ht) hV
        ·rename_i hb
         rw [if_neg hb] at hV
         exact hV
       ·have hj2:=((getSet L i j hL.1 hilt).1 hj).resolve_left hji
        have hjm:=hLm j hj2
        have hju:j ∉ U.getD i []:=hal i ((getSet L i i hL.1 hilt).2 (.inl rfl))
        have hdd:oi.dst≠some d:=by
         intro h
         apply hji
         refine hnd j i d ?_ ?_
         ·rw [dstAt_take hjm]; exact hdj
         ·rw [dstAt_take him,hdi]; exact h
        have:=(inv.done j hj2 (fun k hk=>hal k ((getSet L i k hL.1 hilt).2 (.inr hk)))).1 d hdj
        rw [hfr v d hdd]
        have hg':(fun j=>if j=i then f else if j∈U.getD i [] then [] else g j) j=g j:=by
         show (if j=i then f else if j∈U.getD i [] then [] else g j)=g j
         rw [if_neg hji,if_neg hju]
        rw [hg']
        cases hsj:S[j]? with
        | none=>trivial
        | some sj=>
         rw [hsj] at this
         simp only [] at this ⊢
         split
         ·rename_i hb
          rw [if_pos hb] at this
          refine stable j sj hsj _ _ _ _ (rho a) _ _ hC (fun b hb' hbk=>?_) hnN (fun j' hj' t ht=>hslot j' (by have:=(hanc j j' hj').1; omega) (fun h=>?_) t ht) this
          rotate_left
          ·subst h
           have:=clAnc L hL j j' (fun o' ho' e' he'=>hL.2 j o' ho' hj2 e' he') hj'
           rw [hiu] at this; cases this
          rcases hblk b hbk with ⟨u,huU,huL,hbu⟩ | ⟨_,hbu⟩
          ·exact inv.dis j u hj2 huL (fun h=>hju (h ▸ huU)) b hb' hbu
          ·exact inv.vd j hj2 b hb' hbu
         ·rename_i hb
          rw [if_neg hb] at this
          exact this
      ·by_cases hji:j=i
       ·subst hji
        rw [hs] at hsj
        cases hsj
        rw [hdi] at hdj
        rw [hfr2 v d hdj]
        split
        ·rename_i hb
         rw [if_pos hb] at hV
         exact ⟨f,w',stable j s hs _ [] w' w' (rho a) _ v (Chg.refl _ _) (fun _ _ h=>nomatch h) (fun _ h=>nomatch h) (fun j' hj' t ht=>hslot j' (by have:=(hanc j j' hj').1; omega) (by have:=(hanc j j' hj').1; omega) t ht) hV⟩
        ·rename_i hb
         rw [if_neg hb] at hV
         exact hV
       ·have hj2:=((getSet L i j hL.1 hilt).1 hj).resolve_left hji
        have hjm:=hLm j hj2
        have hdd:oi.dst≠some d:=by
         intro h
         apply hji
         refine hnd j i d ?_ ?_
         ·rw [dstAt_take hjm]; exact hdj
         ·rw [dstAt_take him,hdi]; exact h
        have:=inv.old j hj2 d hdj sj hsj
        rw [hfr v d hdd]
        split
        ·rename_i hb
         rw [if_pos hb] at this
         obtain ⟨f1,w1,h1⟩:=this
         refine ⟨f1,w1,stable j sj hsj _ [] w1 w1 (rho a) _ _ (Chg.refl _ _) (fun _ _ h=>nomatch h) (fun _ h=>nomatch h) (fun j' hj' t ht=>hslot j' (by have:=(hanc j j' hj').1; omega) (fun h=>?_) t ht) h1⟩
         subst h
         have:=clAnc L hL j j' (fun o' ho' e' he'=>hL.2 j o' ho' hj2 e' he') hj'
         rw [hiu] at this; cases this
        ·rename_i hb
         rw [if_neg hb] at this
         exact this
      ·intro t ht
       rw [hfr v t (fun h=>ht i him (by rw [hdi]; exact h))]
       exact inv.other t ht
      ·intro j hj b hb
       by_cases hji:j=i
       ·simp only [if_pos hji] at hb
        have hh:=hf' b hb
        have hsz:=inv.chg.size
        rcases hh.1 with h | h
        ·rcases hblk b h with ⟨u,_,huL,hbu⟩ | ⟨hv,hbu⟩
         ·exact ⟨(inv.fresh u huL b hbu).1.imp (fun h=>h) fun h=>⟨h.1,h.2.imp fun k hk=>⟨(getSet L i k hL.1 hilt).2 (.inr hk.1),hk.2⟩⟩,hh.2⟩
         ·exact ⟨.inr ⟨inv.vg b hbu,i,(getSet L i i hL.1 hilt).2 (.inl rfl),hv⟩,hh.2⟩
        ·exact ⟨.inl (by omega),hh.2⟩
       ·have hj2:=((getSet L i j hL.1 hilt).1 hj).resolve_left hji
        simp only [if_neg hji] at hb
        split at hb
        ·cases hb
        ·have h1:=inv.fresh j hj2 b hb
         have h2:=hC.size
         exact ⟨h1.1.imp (fun h=>h) fun h=>⟨h.1,h.2.imp fun k hk=>⟨(getSet L i k hL.1 hilt).2 (.inr hk.1),hk.2⟩⟩,by omega⟩
      ·have hone:∀ j',(L.setIfInBounds i true).getD j' false=true→j'≠i→∀ b∈f,b ∉ (if j'∈U.getD i [] then [] else g j'):=by
        intro j' hj' e2 b hb hb'
        have hL':=((getSet L i j' hL.1 hilt).1 hj').resolve_left e2
        split at hb'
        ·cases hb'
        ·rename_i hju
         rcases (hf' b hb).1 with h | h
         ·rcases hblk b h with ⟨u,huU,huL,hbu⟩ | ⟨_,hbu⟩
          ·exact inv.dis u j' huL hL' (fun h=>hju (h ▸ huU)) b hbu hb'
          ·exact inv.vd j' hL' b hb' hbu
         ·have:=inv.fresh j' hL' b hb'
          omega
       intro i' j' hi' hj' hne b hb hb'
       by_cases e1:i'=i
       ·have e2:j'≠i:=fun h=>hne (e1.trans h.symm)
        simp only [if_pos e1] at hb
        simp only [if_neg e2] at hb'
        exact hone j' hj' e2 b hb hb'
       ·simp only [if_neg e1] at hb
        by_cases e2:j'=i
        ·simp only [if_pos e2] at hb'
         exact hone i' hi' e1 b hb' hb
        ·simp only [if_neg e2] at hb'
         split at hb
         ·cases hb
         ·split at hb'
          ·cases hb'
          ·exact inv.dis i' j' (((getSet L i i' hL.1 hilt).1 hi').resolve_left e1) (((getSet L i j' hL.1 hilt).1 hj').resolve_left e2) hne b hb hb'
     cases hb:s.b with
     | true=>
      rw [if_pos hb] at ow
      refine .inl ⟨ow.1,OpW_mono ow.2 ?_⟩
      rintro v w' ⟨hC,f,hf',hV⟩
      exact step v w' f hC hf' (by rw [if_pos hb]; exact hV)
     | false=>
      rw [if_neg (by rw [hb]; exact Bool.false_ne_true)] at ow
      exact .inr ⟨ow,step undef w [] (Chg.refl _ _) (fun b h=>nomatch h) (by rw [if_neg (by rw [hb]; exact Bool.false_ne_true)])⟩
    by_cases hlazy:∃ z,z∈Z∧L.getD z false=false∧∀ o,l[z]? = some o→∀ e∈o.after.toList.filter (Region.binds .any),L.getD e.on false=true
    ·obtain ⟨z,hz,hzu,hze⟩:=hlazy
     obtain ⟨⟨hzm,hzf⟩,hzo⟩:=hZ z hz
     cases hoz:l[z]? with
     | none=>rw [hoz] at hzo; cases hzo
     | some oz=>
      rw [hoz] at hzo
      simp only [Bool.and_eq_true] at hzo
      obtain ⟨hmv,hgd⟩:=hzo
      have hed':=hze oz hoz
      have hfm:Region.free .any l.toArray L z=true:=free_more (fun j hj=>clAnc L hL z j (fun o' ho'=>hze o' ho') hj) hzf
      have hrz:z∈Region.ready .any l.toArray L:=rdyMk L z oz hL.1 hoz hzu hed'
      obtain ⟨dz,opz,tyz,pz,az,gz⟩:=oz
      cases opz <;> first | exact (Bool.false_ne_true hmv).elim | skip
      case move x=>
       cases gz with
       | some _=>simp at hgd
       | none=>
        have hev:∀ w',(execOp a.eval ⟨dz,.move x,tyz,pz,az,none⟩).run P w' = .ok (.value (a.eval x)) w':=fun _=>rfl
        refine wpAny_take (by simpa using hoz) hns hfm (by simpa using hrz) (fun c a w h=>absurd h.2.2 (hp _ _ _)) (v:=a.eval x) (.inl ⟨rfl,hev⟩) ?_
        rcases main z _ (hZm z hz) hoz hzu hed' with ⟨_,h⟩ | ⟨h,_⟩
        ·rw [eval_rho]; exact h
        ·exact absurd h (by simp [Region.wanted])
      case extract x k=>
       cases gz with
       | some _=>simp at hgd
       | none=>
        rcases main z _ (hZm z hz) hoz hzu hed' with ⟨_,h⟩ | ⟨h,_⟩
        ·obtain ⟨v,hv,hk⟩:=OpW_extract h
         refine wpAny_take (by simpa using hoz) hns hfm (by simpa using hrz) (fun c a w h=>absurd h.2.2 (hp _ _ _)) (v:=v) (.inl ⟨rfl,fun w'=>by rw [eval_rho]; exact hv w'⟩) ?_
         exact hk
        ·exact absurd h (by simp [Region.wanted])
    refine ⟨fun h=>(by obtain ⟨i,hi⟩:=hsome; rw [h] at hi; cases hi),fun i hi=>?_⟩
    obtain ⟨q1,oi,hoi,hedge⟩:=rdy L i hi
    have hilt:i < l.length:=(List.getElem?_eq_some_iff.1 hoi).1
    have hiu:L.getD i false=false:=getD_both q1
    have him:i < m:=by
     rcases Nat.lt_or_ge i m with h | h
     ·exact h
     ·have bad:∀ j,j < i→L.getD j false=false→False:=by
       intro j
       induction j using Nat.strongRecOn with
       | _ j ih=>
        intro hji hju
        rcases hbig i h hilt j hji with hj | hj
        ·have:=clAnc L hL i j (fun o' ho'=>by have:o'=oi:=Option.some.inj (ho'.symm.trans hoi); subst this; exact hedge) hj
         rw [hju] at this; cases this
        ·refine hlazy ⟨j,hj,hju,fun o ho e he=>?_⟩
         cases hb:L.getD e.on false with
         | true=>rfl
         | false=>have hlt:=hback j o ho e he; exact (ih e.on hlt (by omega) hb).elim
      exact (bad j0 (by omega) hu0).elim
    unfold wpOp
    rw [show (l.toArray)[i]? = some oi by simpa using hoi]
    simp only []
    rw [yl_eq (by rw [g1]; exact hd)]
    rcases main i oi him hoi hiu hedge with ⟨hw,h⟩ | ⟨hw,h⟩
    ·rw [if_pos hw]
     exact .inl (h.wp fun v w' hv=>hv)
    ·rw [if_neg (by rw [hw]; exact Bool.false_ne_true)]
     exact h
 refine head _ _ a _ (fun j=>if j=l.length then H else []) ⟨by simp,?_⟩ ?_ ?_ h1 h2 ⟨Chg.nil (Chg.drew _ _),fun _=>⟨Chg.drew _ _,by simp⟩,fun b hb=>by simpa using hb,?_,?_,?_,?_,?_,?_⟩
 ·intro j o ho hj
  rw [getD_replicate_false] at hj; cases hj
 ·intro j hj
  rw [getD_replicate_false] at hj; cases hj
 ·simp
 ·intro j hj
  rw [getD_replicate_false] at hj; cases hj
 ·intro j hj
  rw [getD_replicate_false] at hj; cases hj
 ·intro j hj
  rw [getD_replicate_false] at hj; cases hj
 ·intro t _
  rw [h3]
 ·intro j hj
  rw [getD_replicate_false] at hj; cases hj
 ·intro i j hi
  rw [getD_replicate_false] at hi; cases hi
theorem Owes.val {m i:Nat} {U:List (List Nat)} {H:List Nat} {o:Oper} {v:Value} (ho:l[i]? = some o) (hs:S[i]? = some ⟨true,pl fun _ _ u=>u=v⟩) (hg:o.guard=none)
  (h:∀ (g:Nat→List Nat) (r:Nat→Value) (w:World),Chg H w0 w→(∀ j∈(ancs l).getD i [],Old l S j r)→(∀ j,needB l U m i j=true→Done l S j g r w)→(∀ t,(∀ j,j < m→dstAt l j≠some t)→r t=r0 t)→
   (execOp (ev r) o).run P w = .ok (.value v) w):Owes P l m S U r0 w0 H i:=by
 intro o' s' ho' hs' g r w hC hV hO hd hot hdis hfr
 obtain rfl:o=o':=Option.some.inj (ho.symm.trans ho')
 obtain rfl:_=s':=Option.some.inj (hs.symm.trans hs')
 rw [if_pos rfl]
 refine ⟨by unfold Region.wanted; rw [hg],?_⟩
 unfold OpW
 rw [h g r w hC hO hd hot]
 exact ⟨Chg.refl _ _,[],(fun _ h=>nomatch h),rfl⟩
theorem Owes.call {m i:Nat} {U:List (List Nat)} {H:List Nat} {o:Oper} {v:Value} {f:FuncId} (ho:l[i]? = some o) (hs:S[i]? = some ⟨true,pl fun _ _ u=>u=v⟩) (hg:o.guard=none)
  (h:∀ (g:Nat→List Nat) (r:Nat→Value) (w:World),Chg H w0 w→(∀ j∈(ancs l).getD i [],Old l S j r)→(∀ j,needB l U m i j=true→Done l S j g r w)→(∀ t,(∀ j,j < m→dstAt l j≠some t)→r t=r0 t)→
   ∃ args,(execOp (ev r) o).run P w = .ok (.enter f args) w∧Calls P f args w fun e w'=>e = .returned v∧Chg [] w w'):Owes P l m S U r0 w0 H i:=by
 intro o' s' ho' hs' g r w hC hV hO hd hot hdis hfr
 obtain rfl:o=o':=Option.some.inj (ho.symm.trans ho')
 obtain rfl:_=s':=Option.some.inj (hs.symm.trans hs')
 rw [if_pos rfl]
 refine ⟨by unfold Region.wanted; rw [hg],?_⟩
 unfold OpW
 obtain ⟨args,h1,h2⟩:=h g r w hC hO hd hot
 rw [h1]
 exact h2.mono fun e w' ⟨he,hc⟩=>⟨v,he,hc.nil,[],(fun _ h=>nomatch h),rfl⟩
theorem Owes.mem {m i:Nat} {U:List (List Nat)} {H:List Nat} {o:Oper} {V:List Nat→World→Value→Prop} (ho:l[i]? = some o) (hs:S[i]? = some ⟨true,pl V⟩) (hg:o.guard=none)
  (h:∀ (g:Nat→List Nat) (r:Nat→Value) (w:World),Chg H w0 w→(∀ j∈(ancs l).getD i [],Old l S j r)→(∀ j,needB l U m i j=true→Done l S j g r w)→(∀ t,(∀ j,j < m→dstAt l j≠some t)→r t=r0 t)→
   OpW P o r w fun v w'=>Chg [] w w'∧∃ f,(∀ b∈f,w.heap.size≤b∧b < w'.heap.size)∧V f w' v):Owes P l m S U r0 w0 H i:=by
 intro o' s' ho' hs' g r w hC hV hO hd hot hdis hfr
 obtain rfl:o=o':=Option.some.inj (ho.symm.trans ho')
 obtain rfl:_=s':=Option.some.inj (hs.symm.trans hs')
 rw [if_pos rfl]
 refine ⟨by unfold Region.wanted; rw [hg],OpW_mono (h g r w hC hO hd hot) ?_⟩
 rintro v w' ⟨hC,f,hf,hV⟩
 exact ⟨hC.nil,f,fun b hb=>⟨.inr (hf b hb).1,(hf b hb).2⟩,hV⟩
theorem Owes.memX {m i:Nat} {U:List (List Nat)} {H:List Nat} {o:Oper} {V:List Nat→World→(Nat→Value)→Value→Prop} (ho:l[i]? = some o) (hs:S[i]? = some ⟨true,V⟩) (hg:o.guard=none)
  (h:∀ (g:Nat→List Nat) (r:Nat→Value) (w:World),Chg H w0 w→(∀ j∈(ancs l).getD i [],Old l S j r)→(∀ j,needB l U m i j=true→Done l S j g r w)→(∀ t,(∀ j,j < m→dstAt l j≠some t)→r t=r0 t)→
   OpW P o r w fun v w'=>Chg [] w w'∧∃ f,(∀ b∈f,w.heap.size≤b∧b < w'.heap.size)∧V f w' r v):Owes P l m S U r0 w0 H i:=by
 intro o' s' ho' hs' g r w hC hV hO hd hot hdis hfr
 obtain rfl:o=o':=Option.some.inj (ho.symm.trans ho')
 obtain rfl:_=s':=Option.some.inj (hs.symm.trans hs')
 rw [if_pos rfl]
 refine ⟨by unfold Region.wanted; rw [hg],OpW_mono (h g r w hC hO hd hot) ?_⟩
 rintro v w' ⟨hC,f,hf,hV⟩
 exact ⟨hC.nil,f,fun b hb=>⟨.inr (hf b hb).1,(hf b hb).2⟩,hV⟩
def OwnV {α:Type} (T:STy α) (x:α):List Nat→World→Value→Prop:=fun f w v=>T.rep w.heap [v] x f∧f.Nodup
def LitV (cs:List Value) (e:TypeId) (n:Nat):List Nat→World→Value→Prop:=fun f w v=>∃ b,f=[b]∧v = .slice (some ⟨b,0,none⟩) n n∧Row w b cs e
def Stab (a:List Nat) (l:List Oper) (s:Gives):Prop:=∀ f F (w w':World) (r r':Nat→Value) v,Chg F w w'→(∀ b∈f,b ∉ F)→(∀ j∈a,∀ t,dstAt l j=some t→r' t=r t)→s.V f w r v→s.V f w' r' v
theorem stable_pl {a:List Nat} {b:Bool} {V:List Nat→World→Value→Prop} (h:∀ f F (w w':World) v,Chg F w w'→(∀ b∈f,b ∉ F)→V f w v→V f w' v):Stab a l ⟨b,pl V⟩:=
 fun f F w w' _ _ v hC hn _ hv=>h f F w w' v hC hn hv
theorem stable_val {a:List Nat} {b:Bool} {u:Value}:Stab a l ⟨b,pl fun _ _ v=>v=u⟩:=stable_pl fun _ _ _ _ _ _ _ h=>h
def fldOf:Value→Nat→Value
 | .agg cs,i=>cs.getD i undef
 | _,_=>undef
def tupOf:Value→Nat→Value
 | .tuple cs,i=>cs.getD i undef
 | _,_=>undef
theorem OpW.own {α:Type} {T:STy α} {x:α} {o:Oper} {r:Nat→Value} {w:World} {f:FuncId} {args:Array Value} (h:(execOp (ev r) o).run P w = .ok (.enter f args) w)
  (hc:Calls P f args w fun e w'=>∃ (v:Value) (k:List Nat),e = .returned v∧Chg [] w w'∧OE [] w.heap.size w' T [v] x k) :
  OpW P o r w fun v w'=>Chg [] w w'∧∃ f,(∀ b∈f,w.heap.size≤b∧b < w'.heap.size)∧OwnV T x f w' v:=by
 unfold OpW
 rw [h]
 exact hc.mono fun e w' ⟨v,k,he,hC,ho⟩=>⟨v,he,hC,k,fun b hb=>⟨ho.fresh b hb,T.lt ho.1 b hb⟩,ho.1,ho.2.1⟩
theorem OpW.made {α:Type} {T:STy α} {x:α} {o:Oper} {r:Nat→Value} {w:World} (h:∃ v w' f,(execOp (ev r) o).run P w = .ok (.value v) w'∧Chg [] w w'∧OE [] w.heap.size w' T [v] x f) :
  OpW P o r w fun v w'=>Chg [] w w'∧∃ f,(∀ b∈f,w.heap.size≤b∧b < w'.heap.size)∧OwnV T x f w' v:=by
 obtain ⟨v,w',f,hr,hC,ho⟩:=h
 unfold OpW
 rw [hr]
 exact ⟨hC,f,fun b hb=>⟨ho.fresh b hb,T.lt ho.1 b hb⟩,ho.1,ho.2.1⟩
theorem nodup_app {f g:List Nat} (h1:f.Nodup) (h2:g.Nodup) (d:Dis f g):(f++g).Nodup:=List.nodup_append.2 ⟨h1,h2,fun a ha _ hb hab=>d a ha (hab ▸ hb)⟩
theorem OpW.append1 {α:Type} {E:STy α} {F f:List Nat} {t e et:TypeId} {s x:Operand} {i:TypeInfo} {z:Value} {sv u:Value} {xs:List α} {y:α} {b:Nat} {r:Nat→Value} {w:World} {d:Option Nat} {ty:TypeId} {pos:String} {aft:Array Edge}
  (ht:P.underlying t=some (.slice e)) (hi:P.info? e=some i) (hz:i.zero=some z) (hs:i.size=1) (hE:E.size=1) (hzs:z.oneCell'=true)
  (hsv:ev r s=sv) (hO:OwnV (aK e E) xs f w sv) (hF:∀ b∈f,b∈F) (hx:ev r x = .slice (some ⟨b,0,none⟩) 1 1) (hrow:Row w b [u] et) (hy:E.rep w.heap [u] y [])
  (hb:(xs.length+1) * i.bytes≤140737488355328) (h63:xs.length+1≤maxLen) :
  OpW P ⟨d,.call ⟨.builtin .append,#[s,x],#[t,t]⟩,ty,pos,aft,none⟩ r w fun v w'=>Chg F w w'∧∃ f',(∀ b∈f',(b∈F∨w.heap.size≤b)∧b < w'.heap.size)∧OwnV (aK e E) (xs++[y]) f' w' v:=by
 obtain ⟨v,w',f',h,hC,hrep,hsub,hnd⟩:=own_append (d:=d) (ty:=ty) (pos:=pos) (aft:=aft) (g:=none) (ys:=[y]) ht hi hz (by rw [hs,hE]) (by rw [cells_one hzs,hE]; rfl) hsv hO.1 hO.2 hx hrow.at (repL_single hy) (fun _ h=>nomatch h) (by simp) hb h63
 unfold OpW
 rw [h]
 refine ⟨hC.mono hF,f',fun b hb=>⟨?_,STy.lt _ hrep b hb⟩,hrep,hnd List.nodup_nil⟩
 rcases hsub b hb with h | h | h
 ·exact .inl (hF b h)
 ·cases h
 ·exact .inr h
theorem OpW.lit1 {t e:TypeId} {i:TypeInfo} {z u:Value} {x:Operand} {r:Nat→Value} {w:World} {d:Option Nat} {ty:TypeId} {pos:String} {aft:Array Edge} (ht:P.underlying t=some (.slice e)) (hi:P.info? e=some i) (hz:i.zero=some z)
  (hs:i.size=1) (hx:ev r x=u) (hv:u.oneCell'=true) :
  OpW P ⟨d,.buildSlice t 1 #[(0,x)],ty,pos,aft,none⟩ r w fun v w'=>Chg [] w w'∧∃ f,(∀ b∈f,w.heap.size≤b∧b < w'.heap.size)∧LitV [u] e 1 f w' v:=by
 unfold OpW
 rw [op_lit1 ht hi hz hs (by rw [hx]; exact hv),hx]
 exact ⟨Chg.alloc _ _ _,[w.heap.size],fun b hb=>by rw [List.mem_singleton.1 hb]; simp,w.heap.size,rfl,rfl,heap_alloc_new w _⟩
end
end Go.Li
