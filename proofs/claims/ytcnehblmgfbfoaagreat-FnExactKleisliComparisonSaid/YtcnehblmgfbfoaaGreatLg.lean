/- A region that draws its order, whatever it holds: its head in any order, its tail one behind the other. No condition. -/
import Derived.Test.YtcnehblmgfbfoaaGreatLf
import Derived.Still
namespace Go.Li
open Go
def ig (acc:LL) (o:Oper):List (List Nat):=
 acc++[(o.after.toList.filter (Region.binds .any)).flatMap fun e=>e.on :: acc.getD e.on []]
def bn (l:LO):List (List Nat):=l.foldl ig []
structure dx where
 b:Bool
 V:List Nat→World→(Nat→Value)→Value→Prop
abbrev pl (V:List Nat→World→Value→Prop):List Nat→World→(Nat→Value)→Value→Prop:=fun f w _ v=>V f w v
def kp (P:Program) (n:Nat) (l:LO) (Q:Exit→(Nat→Value)→World→Prop) (r:NV) (w:World):Prop:=
 ∀ a:Act,a.tmps.size=n→a.defers=[]→b9 a=r→wpAny P .any l.toArray (fun e a' w'=>a'.tmps.size=n∧a'.defers=[]∧Q e (b9 a') w') l.toArray.size (Array.replicate l.toArray.size false) a { w with drawn:=w.drawn+1 }
theorem kp.W {P:Program} {n id:Nat} {l:LO} {Q:Exit→(Nat→Value)→World→Prop} {r:NV} {w:World} (hm:P.follows .mixedOrders=true) (h:kp P n l Q r w):W P n (.region id l.toArray true) Q r w:=
 fun a h1 h2 h3=>wp_region_any hm (h a h1 h2 h3)
def yD (π:LN) (o:Oper):Oper:=⟨o.dst,o.op,o.type,o.pos,(o.after.toList.map fun e=>⟨π.getD e.on 0,e.ground⟩).toArray,o.guard⟩
def lz (l:LO) (σ π:LN):List Oper:=σ.map fun k=>yD π (l.getD k default)
def JY (l:LO) (σ π:LN):Bool:=
 Nat.beq σ.length l.length && Nat.beq π.length l.length &&
 ((List.range l.length).all fun i=>Nat.blt (π.getD i 0) l.length && Nat.beq (σ.getD (π.getD i 0) 0) i && Nat.blt (σ.getD i 0) l.length && Nat.beq (π.getD (σ.getD i 0) 0) i) &&
 l.all fun o=>o.guard.isNone && o.after.toList.all fun e=>Nat.blt e.on l.length
theorem Qn {P:Program} {Q:Exit→Act→World→Prop} {π:LN} {o:Oper} {a:Act} {w:World} {K:Act→World→Prop}:(yD π o).wp P a w K Q=o.wp P a w K Q:=by
 cases o; rfl
theorem KH {P:Program} {π:LN} {o:Oper} {a:Act} {w:World}:(yD π o).asks P a w=o.asks P a w:=by
 cases o; rfl
section
variable {P:Program} {l:LO} {σ π:LN} (h:JY l σ π=true)
include h
theorem zN:σ.length=l.length∧π.length=l.length∧(∀ i,i < l.length→π.getD i 0 < l.length∧σ.getD (π.getD i 0) 0=i∧σ.getD i 0 < l.length∧π.getD (σ.getD i 0) 0=i)∧∀ o∈l,o.guard=none∧∀ e∈o.after.toList,e.on < l.length:=by
 unfold JY at h
 simp only [Bool.and_eq_true,List.all_eq_true,List.mem_range] at h
 obtain ⟨⟨⟨h1,h2⟩,h3⟩,h4⟩:=h
 refine ⟨Nat.eq_of_beq_eq_true h1,Nat.eq_of_beq_eq_true h2,fun i hi=>?_,fun o ho=>?_⟩
 ·obtain ⟨⟨⟨a,b⟩,c⟩,d⟩:=h3 i hi
  exact ⟨Nat.lt_of_succ_le (Nat.le_of_ble_eq_true a),Nat.eq_of_beq_eq_true b,Nat.lt_of_succ_le (Nat.le_of_ble_eq_true c),Nat.eq_of_beq_eq_true d⟩
 ·obtain ⟨a,b⟩:=h4 o ho
  exact ⟨by simpa using a,fun e he=>Nat.lt_of_succ_le (Nat.le_of_ble_eq_true (b e he))⟩
theorem Fy:(lz l σ π).length=l.length:=by unfold lz; rw [List.length_map]; exact (zN h).1
theorem Fz {i:Nat} {o:Oper} (ho:l[i]? = some o):(lz l σ π)[π.getD i 0]? = some (yD π o):=by
 obtain ⟨h1,_,h3,_⟩:=zN h
 have hi:=(List.getElem?_eq_some_iff.1 ho).1
 obtain ⟨a,b,_,_⟩:=h3 i hi
 unfold lz
 rw [List.getElem?_map,List.getElem?_eq_getElem (by omega)]
 have e:σ[π.getD i 0]'(by omega)=i:=by
  rw [List.getD_eq_getElem?_getD,List.getElem?_eq_getElem (by omega)] at b
  simpa using b
 simp only [Option.map_some,Option.some.injEq]
 rw [e,List.getD_eq_getElem?_getD,ho]; rfl
theorem Ik {Q:Exit→Act→World→Prop}:∀ (fuel:Nat) (L L':Array Bool) (a:Act) (w:World),L.size=l.length→L'.size=l.length→(∀ i,i < l.length→L'.getD (π.getD i 0) true=L.getD i true)→
  wpAny P .any (lz l σ π).toArray Q fuel L' a w→wpAny P .any l.toArray Q fuel L a w:=by
 obtain ⟨h1,h2,h3,h4⟩:=zN h
 have gd:∀ {L:Array Bool} {i:Nat} (b:Bool),L.size=l.length→i < l.length→L.getD i b=L.getD i true:=fun {L i} b hs hi=>by
  have:i < L.size:=by omega
  simp [Array.getD,this]
 have yx:∀ (L L':Array Bool),L.size=l.length→L'.size=l.length→(∀ i,i < l.length→L'.getD (π.getD i 0) true=L.getD i true)→∀ i,i < l.length→(i∈Region.ready .any l.toArray L↔π.getD i 0∈Region.ready .any (lz l σ π).toArray L'):=by
  intro L L' hs fg hL i hi
  rw [mem_ready,mem_ready,hL i hi]
  have ho:l[i]? = some (l[i]'hi):=List.getElem?_eq_getElem hi
  have cq:=Fz h ho
  have hg:=h4 _ (List.mem_of_getElem? ho)
  constructor
  ·rintro ⟨g1,o,g2,g3⟩
   refine ⟨g1,yD π l[i],by simpa using cq,fun e he hb=>?_⟩
   have eo:l[i]=o:=by simpa [ho] using g2
   simp only [yD,List.mem_toArray,List.mem_map] at he
   obtain ⟨e0,Ui,rfl⟩:=he
   have bj:=hg.2 e0 Ui
   have:=g3 e0 (by rw [← eo]; simpa using Ui) hb
   rw [gd false fg (h3 _ bj).1,hL _ bj,← gd false hs bj]; exact this
  ·rintro ⟨g1,o,g2,g3⟩
   refine ⟨g1,l[i],by simp,fun e he hb=>?_⟩
   have eo:yD π l[i]=o:=by
    have:(lz l σ π)[π.getD i 0]? = some o:=by simpa using g2
    rw [cq] at this
    exact Option.some.inj this
   have bj:=hg.2 e (by simpa using he)
   have:=g3 ⟨π.getD e.on 0,e.ground⟩ (by rw [← eo]; simp only [yD,List.mem_toArray,List.mem_map]; exact ⟨e,by simpa using he,rfl⟩) hb
   rw [gd false fg (h3 _ bj).1,hL _ bj,← gd false hs bj] at this; exact this
 have back:∀ (L L':Array Bool),L.size=l.length→L'.size=l.length→(∀ i,i < l.length→L'.getD (π.getD i 0) true=L.getD i true)→Region.ready .any l.toArray L=[]→Region.ready .any (lz l σ π).toArray L'=[]:=by
  intro L L' hs fg hL he
  rw [List.eq_nil_iff_forall_not_mem]
  intro k hk
  have E0:k < l.length:=by
   obtain ⟨_,o,g2,_⟩:=mem_ready.1 hk
   have:(lz l σ π)[k]? = some o:=by simpa using g2
   have:=(List.getElem?_eq_some_iff.1 this).1
   rwa [Fy h] at this
  obtain ⟨_,_,c,d⟩:=h3 k E0
  have:=(yx L L' hs fg hL (σ.getD k 0) c).2 (by rw [d]; exact hk)
  rw [he] at this
  exact nomatch this
 intro fuel
 induction fuel with
 | zero=>
  intro L L' a w hs fg hL hh
  refine ⟨?_,hh.2⟩
  rw [List.eq_nil_iff_forall_not_mem]
  intro i hi
  have qQ:i < l.length:=by
   obtain ⟨_,o,g2,_⟩:=mem_ready.1 hi
   have:l[i]? = some o:=by simpa using g2
   exact (List.getElem?_eq_some_iff.1 this).1
  have:=(yx L L' hs fg hL i qQ).1 hi
  rw [hh.1] at this
  exact nomatch this
 | succ fuel ih=>
  intro L L' a w hs fg hL hh
  refine ⟨fun he=>hh.1 (back L L' hs fg hL he),fun i hi=>?_⟩
  have qQ:i < l.length:=by
   obtain ⟨_,o,g2,_⟩:=mem_ready.1 hi
   have:l[i]? = some o:=by simpa using g2
   exact (List.getElem?_eq_some_iff.1 this).1
  have ho:l[i]? = some (l[i]'qQ):=List.getElem?_eq_getElem qQ
  have hg:=h4 _ (List.mem_of_getElem? ho)
  have Il:=hh.2 _ ((yx L L' hs fg hL i qQ).1 hi)
  have next:∀ a w,wpAny P .any (lz l σ π).toArray Q fuel (L'.setIfInBounds (π.getD i 0) true) a w→wpAny P .any l.toArray Q fuel (L.setIfInBounds i true) a w:=fun a w=>ih _ _ a w (by simpa using hs) (by simpa using fg) fun j hj=>by
   have hpj:=(h3 j hj).1
   have hpi:=(h3 i qQ).1
   by_cases e:i=j
   ·subst e
    rw [Array.getD_eq_getD_getElem?,Array.getD_eq_getD_getElem?,Array.getElem?_setIfInBounds_self_of_lt (by omega),Array.getElem?_setIfInBounds_self_of_lt (by omega)]
   ·have e':π.getD i 0≠π.getD j 0:=fun q=>e (by rw [← (h3 i qQ).2.1,q,(h3 j hj).2.1])
    have h5:=hL j hj
    have q1:(L'.setIfInBounds (π.getD i 0) true).getD (π.getD j 0) true=L'.getD (π.getD j 0) true:=by
     rw [Array.getD_eq_getD_getElem?,Array.getD_eq_getD_getElem?,Array.getElem?_setIfInBounds_ne e']
    have q2:(L.setIfInBounds i true).getD j true=L.getD j true:=by
     rw [Array.getD_eq_getD_getElem?,Array.getD_eq_getD_getElem?,Array.getElem?_setIfInBounds_ne e]
    rw [q1,q2,h5]
  have ga:(l.toArray)[i]? = some (l[i]'qQ):=by simp
  have gb:((lz l σ π).toArray)[π.getD i 0]? = some (yD π (l[i]'qQ)):=by simpa using Fz h ho
  unfold wpOp at Il ⊢
  rw [gb] at Il
  rw [ga]
  have w1:Region.wanted (l[i]'qQ) (yielded l.toArray a.tmps)=true:=by unfold Region.wanted; rw [hg.1]
  have w2:Region.wanted (yD π (l[i]'qQ)) (yielded (lz l σ π).toArray a.tmps)=true:=by unfold Region.wanted; show (match (l[i]'qQ).guard with | none=>true | some (j,want)=>_)=true; rw [hg.1]
  simp only [w2,if_true] at Il
  simp only [w1,if_true]
  rw [Qn,KH] at Il
  exact Il.imp (fun g=>Oper.wp_mono next g) id
theorem kp.prm {n:Nat} {Q:Exit→(Nat→Value)→World→Prop} {r:NV} {w:World} (hw:kp P n (lz l σ π) Q r w):kp P n l Q r w:=by
 have hl:=Fy h
 obtain ⟨_,_,h3,_⟩:=zN h
 intro a a1 a2 a3
 have:=hw a a1 a2 a3
 rw [show (lz l σ π).toArray.size=l.toArray.size by simpa using hl] at this
 refine Ik h _ _ _ a _ (by simp) (by simp) (fun i hi=>?_) this
 have hq:=(h3 i hi).1
 rw [List.getD_eq_getElem?_getD] at hq
 simp [Array.getD,hi,hq]
end
section
variable {P:Program} {n:Nat} {Q:Exit→(Nat→Value)→World→Prop} {r0:NV} {w0:World} {l:LO} {S:List dx}
def bg (l:LO) (j:Nat):Option Nat:=(l[j]?).bind (·.dst)
def ra (l:LO) (S:List dx) (j:Nat) (g:Nat→List Nat) (r:NV) (w:World):Prop:=
 (∀ d,bg l j=some d→match S[j]? with
  | some s=>if s.b then s.V (g j) w r (r d) else r d=undef
  | none=>True)∧(bg l j=none→∀ s,S[j]? = some s→s.b=true→∃ x,s.V (g j) w r x)
def Old (l:LO) (S:List dx) (j:Nat) (r:NV):Prop:=∀ d,bg l j=some d→∀ s,S[j]? = some s→if s.b then ∃ f w,s.V f w r (r d) else r d=undef
structure tM (l:LO) (m:Nat) (S:List dx) (U:LL) (r0:NV) (w0:World) (H:LN) (L:Nat→Prop) (g:Nat→List Nat) (r:NV) (w:World):Prop where
 iv:ao H w0 w
 xw:(∀ k,L k→l.length ∉ U.getD k [])→ao [] w0 w∧g l.length=H
 vg:∀ b∈g l.length,b∈H
 vd:∀ j,L j→pK (g j) (g l.length)
 done:∀ j,L j→(∀ k,L k→j ∉ U.getD k [])→ra l S j g r w
 qg:∀ j,L j→Old l S j r
 other:∀ t,(∀ j,j < m→bg l j≠some t)→r t=r0 t
 fresh:∀ j,L j→∀ b∈g j,(w0.heap.size≤b∨(b∈H∧∃ k,L k∧l.length∈U.getD k []))∧b < w.heap.size
 sT:∀ i j,L i→L j→i≠j→pK (g i) (g j)
def oj (l:LO) (U:LL) (m i j:Nat):Bool:=
 ((bn l).getD i []).contains j && (List.range m).all fun k=>!((U.getD k []).contains j) || Nat.beq k i || ((bn l).getD k []).contains i
def qo (g:Nat→List Nat) (us:LN):List Nat:=us.flatMap g
def uJ (l:LO) (U:LL) (m i:Nat):Bool:=(List.range m).all fun k=>!((U.getD k []).contains l.length) || Nat.beq k i || ((bn l).getD k []).contains i
def fc (P:Program) (l:LO) (m:Nat) (S:List dx) (U:LL) (r0:NV) (w0:World) (H:LN) (i:Nat):Prop:=
 ∀ o s,l[i]? = some o→S[i]? = some s→∀ (g:Nat→List Nat) (r:NV) (w:World),ao H w0 w→(uJ l U m i=true→ao [] w0 w∧g l.length=H∧∀ j∈(bn l).getD i [],∀ b∈g j,w0.heap.size≤b)→(∀ j∈(bn l).getD i [],Old l S j r)→(∀ j,oj l U m i j=true→ra l S j g r w)→(∀ t,(∀ j,j < m→bg l j≠some t)→r t=r0 t)→
  (∀ i'∈(bn l).getD i [],∀ j'∈(bn l).getD i [],i'≠j'→pK (g i') (g j'))→(∀ j∈(bn l).getD i [],∀ b∈g j,(w0.heap.size≤b∨b∈H)∧b < w.heap.size)→
  if s.b then Region.wanted o (yl l r)=true∧dq P o r w fun v w'=>ao (qo g (U.getD i [])) w w'∧∃ f,(∀ b∈f,(b∈qo g (U.getD i [])∨w.heap.size≤b)∧b < w'.heap.size)∧s.V f w' r v
  else Region.wanted o (yl l r)=false
def xt:List Nat→Bool
 | []=>true
 | x :: l=>!(l.contains x) && xt l
theorem vf:∀ {l:LN},xt l=true→l.Nodup
 | [],_=>List.nodup_nil
 | x :: l,h=>by
  simp only [xt,Bool.and_eq_true,Bool.not_eq_true',List.contains_eq_mem,decide_eq_false_iff_not] at h
  exact List.nodup_cons.2 ⟨h.1,vf h.2⟩
def sN (l:LO) (m:Nat) (Z:LN):Bool:=
 ((List.range l.length).all fun i=>((l.getD i default).after.toList.filter (Region.binds .any)).all fun e=>Nat.blt e.on i) &&
 ((List.range l.length).all fun i=>Nat.blt i m || (List.range i).all fun j=>((bn l).getD i []).contains j || Z.contains j) &&
 xt ((l.take m).filterMap (·.dst))
def Qo (o:Oper):Bool:=match o.op with | .move _=>true | .extract _ _=>true | _=>false
def KJ (l:LO) (i:Nat):Array Bool:=((List.range l.length).map fun j=>((bn l).getD i []).contains j).toArray
def yw (l:LO) (m:Nat) (Z:LN):Bool:=
 Region.noSelect l.toArray && Z.all fun i=>Nat.blt i m && Region.free .any l.toArray (KJ l i) i &&
  match l[i]? with
  | some o=>Qo o && o.guard.isNone
  | none=>false
theorem Im {l:LO} {L:Array Bool} {i:Nat} (hL:∀ j∈(bn l).getD i [],L.getD j false=true) (h:Region.free .any l.toArray (KJ l i) i=true):Region.free .any l.toArray L i=true:=by
 unfold Region.free at h ⊢
 cases ho:(l.toArray)[i]? with
 | none=>rw [ho] at h; cases h
 | some oi=>
  rw [ho] at h
  simp only [List.all_eq_true,List.mem_range,Bool.or_eq_true] at h ⊢
  intro j hj
  rcases h j hj with (h1 | h1) | h1
  ·exact .inl (.inl h1)
  ·have bj:j < l.length:=by simpa using hj
   have hm:j∈(bn l).getD i []:=by
    unfold KJ at h1
    have:((List.range l.length).map fun j=>((bn l).getD i []).contains j)[j]? = some (((bn l).getD i []).contains j):=by
     rw [List.getElem?_map,List.getElem?_range bj]; rfl
    rw [Array.getD_eq_getD_getElem?,List.getElem?_toArray,this] at h1
    simpa using h1
   refine .inl (.inr ?_)
   have h2:=hL j hm
   rcases Nat.lt_or_ge j L.size with h' | h'
   ·simp [h'] at h2 ⊢; exact h2
   ·simp [Array.getElem?_eq_none h'] at h2
  ·exact .inr h1
theorem En {P:Program} {d:Option Nat} {x:OO} {k:Nat} {ty:TI} {pos:String} {ae:Array Edge} {g:Option (Nat×Bool)} {r:NV} {w:World} {K:Value→World→Prop} (h:dq P ⟨d,.extract x k,ty,pos,ae,g⟩ r w K) :
  ∃ v,(∀ w',(execOp (ev r) ⟨d,.extract x k,ty,pos,ae,g⟩).run P w' = .ok (.value v) w')∧K v w:=by
 have e:execOp (ev r) ⟨d,.extract x k,ty,pos,ae,g⟩ = (Instr.extract (ev r x) k>>=fun v=>pure (.value v)):=rfl
 unfold dq at h
 rw [e] at h ⊢
 generalize ev r x=u at h ⊢
 cases u
 case tuple vs=>
  cases hv:vs[k]? with
  | none=>simp [Instr.extract,hv,stuck,Result.andThen,Sem.run] at h
  | some v=>
   refine ⟨v,fun w'=>?_,?_⟩
   ·simp [Instr.extract,hv]
   ·simpa [Instr.extract,hv] using h
 all_goals simp [Instr.extract,stuck,Result.andThen,Sem.run] at h
theorem wy (l:LO):∀ (i:Nat) (o:Oper),l[i]? = some o→(bn l)[i]? = some ((o.after.toList.filter (Region.binds .any)).flatMap fun e=>e.on :: ((bn l).take i).getD e.on []):=by
 have key:∀ (l:LO) (acc:LL),(l.foldl ig acc).length=acc.length+l.length∧(∀ j,j < acc.length→(l.foldl ig acc)[j]? = acc[j]?)∧
   ∀ i o,l[i]? = some o→(l.foldl ig acc)[acc.length+i]? = some ((o.after.toList.filter (Region.binds .any)).flatMap fun e=>e.on :: ((l.foldl ig acc).take (acc.length+i)).getD e.on []):=by
  intro l
  induction l with
  | nil=>intro acc; exact ⟨rfl,fun _ _=>rfl,fun i o h=>by simp at h⟩
  | cons x l ih=>
   intro acc
   obtain ⟨h1,h2,h3⟩:=ih (ig acc x)
   have hl:(ig acc x).length=acc.length+1:=by simp [ig]
   have hold:∀ j,j < acc.length→(ig acc x)[j]? = acc[j]?:=fun j hj=>by simp only [ig]; rw [List.getElem?_append_left hj]
   refine ⟨by simp only [List.foldl_cons,h1,hl,List.length_cons]; omega,fun j hj=>?_,?_⟩
   ·rw [List.foldl_cons,h2 j (by omega),hold j hj]
   ·intro i o hi
    cases i with
    | zero=>
     simp at hi
     subst hi
     have S8:(List.foldl ig acc (x :: l)).take (acc.length+0)=acc:=by
      apply List.ext_getElem?
      intro j
      rw [Nat.add_zero,List.getElem?_take]
      split
      ·rename_i hj
       rw [List.foldl_cons,h2 j (by omega),hold j hj]
      ·rename_i hj
       rw [List.getElem?_eq_none (by omega)]
     rw [S8]
     rw [Nat.add_zero,List.foldl_cons,h2 _ (by omega)]
     simp only [ig]
     rw [List.getElem?_append_right (Nat.le_refl _)]
     simp
    | succ i=>
     have:=h3 i o (by simpa using hi)
     rw [hl] at this
     rw [List.foldl_cons]
     rw [show acc.length+(i+1)=acc.length+1+i by omega]
     exact this
 intro i o hi
 have:=(key l []).2.2 i o hi
 simpa [bn] using this
theorem xu (l:LO) (hb:∀ (i:Nat) (o:Oper),l[i]? = some o→∀ e∈o.after.toList.filter (Region.binds .any),e.on < i) :
  ∀ (i j:Nat),j∈(bn l).getD i []→j < i∧∃ o,l[i]? = some o∧∃ e∈o.after.toList.filter (Region.binds .any),j=e.on∨j∈(bn l).getD e.on []:=by
 intro i j hj
 cases ho:l[i]? with
 | none=>
  have hlen:(bn l).length=l.length:=by
   have:∀ (l:LO) (acc:LL),(l.foldl ig acc).length=acc.length+l.length:=by
    intro l
    induction l with
    | nil=>intro acc; rfl
    | cons x l ih=>intro acc; rw [List.foldl_cons,ih]; simp [ig]; omega
   simpa [bn] using this l []
  rw [List.getD_eq_getElem?_getD,List.getElem?_eq_none (by rw [hlen]; exact List.getElem?_eq_none_iff.1 ho)] at hj
  simp at hj
 | some o=>
  have h:=wy l i o ho
  rw [List.getD_eq_getElem?_getD,h] at hj
  simp only [Option.getD_some,List.mem_flatMap,List.mem_cons] at hj
  obtain ⟨e,he,hj⟩:=hj
  have bj:=hb i o ho e he
  have Qp:((bn l).take i).getD e.on []=(bn l).getD e.on []:=by
   rw [List.getD_eq_getElem?_getD,List.getD_eq_getElem?_getD,List.getElem?_take,if_pos bj]
  rw [Qp] at hj
  refine ⟨?_,o,rfl,e,he,hj⟩
  rcases hj with rfl | hj
  ·exact bj
  ·-- by the strong law below
   have:∀ (k i:Nat),i≤k→∀ j∈(bn l).getD i [],j < i:=by
    intro k
    induction k with
    | zero=>
     intro i hi j hj
     obtain rfl:i=0:=by omega
     cases ho:l[0]? with
     | none=>
      obtain rfl:l=[]:=by cases l with | nil=>rfl | cons=>simp at ho
      simp [bn] at hj
     | some o=>
      have h:=wy l 0 o ho
      rw [List.getD_eq_getElem?_getD,h] at hj
      simp only [Option.getD_some,List.mem_flatMap] at hj
      obtain ⟨e,he,_⟩:=hj
      exact absurd (hb 0 o ho e he) (Nat.not_lt_zero _)
    | succ k ih=>
     intro i hi j hj
     cases ho:l[i]? with
     | none=>
      have hlen:(bn l).length=l.length:=by
       have:∀ (l:LO) (acc:LL),(l.foldl ig acc).length=acc.length+l.length:=by
        intro l
        induction l with
        | nil=>intro acc; rfl
        | cons x l ih=>intro acc; rw [List.foldl_cons,ih]; simp [ig]; omega
       simpa [bn] using this l []
      rw [List.getD_eq_getElem?_getD,List.getElem?_eq_none (by rw [hlen]; exact List.getElem?_eq_none_iff.1 ho)] at hj
      simp at hj
     | some o=>
      have h:=wy l i o ho
      rw [List.getD_eq_getElem?_getD,h] at hj
      simp only [Option.getD_some,List.mem_flatMap,List.mem_cons] at hj
      obtain ⟨e,he,hj⟩:=hj
      have bj:=hb i o ho e he
      rcases hj with rfl | hj
      ·exact bj
      ·have Qp:((bn l).take i).getD e.on []=(bn l).getD e.on []:=by
        rw [List.getD_eq_getElem?_getD,List.getD_eq_getElem?_getD,List.getElem?_take,if_pos bj]
       rw [Qp] at hj
       have:=ih e.on (by omega) j hj
       omega
   exact Nat.lt_trans (this e.on e.on (Nat.le_refl _) j hj) bj
theorem wg (l:LO) (hb:∀ (i:Nat) (o:Oper),l[i]? = some o→∀ e∈o.after.toList.filter (Region.binds .any),e.on < i) {j k:Nat} (hj:j∈(bn l).getD k []):∀ {i:Nat},k∈(bn l).getD i []→j∈(bn l).getD i []:=by
 intro i
 induction i using Nat.strongRecOn with
 | _ i ih=>
  intro hk
  obtain ⟨_,o,ho,e,he,Qq⟩:=xu l hb i k hk
  have bj:=hb i o ho e he
  have h2:j∈(bn l).getD e.on []:=Qq.elim (fun h=>h ▸ hj) (fun h=>ih e.on bj h)
  have h:=wy l i o ho
  rw [List.getD_eq_getElem?_getD,h]
  simp only [Option.getD_some,List.mem_flatMap,List.mem_cons]
  refine ⟨e,he,.inr ?_⟩
  rw [List.getD_eq_getElem?_getD,List.getElem?_take,if_pos bj,← List.getD_eq_getElem?_getD]
  exact h2
theorem getD_both {Dm:Array Bool} {i:Nat} (h:Dm.getD i true=false):Dm.getD i false=false:=by
 rcases Nat.lt_or_ge i Dm.size with h' | h'
 ·simp [h'] at h ⊢; exact h
 ·simp [Array.getElem?_eq_none h'] at h
theorem getD_replicate_false (m j:Nat):(Array.replicate m false).getD j false=false:=by
 rcases Nat.lt_or_ge j m with h | h
 ·simp [h]
 ·simp [h]
theorem A9:∀ (l:LO),(l.filterMap (·.dst)).Nodup→∀ i j d,bg l i=some d→bg l j=some d→i=j:=by
 intro l
 induction l with
 | nil=>intro _ i j d h; simp [bg] at h
 | cons o l ih=>
  intro hn i j d hi hj
  have Qr:∀ k,bg (o :: l) (k+1)=some d→d∈l.filterMap (·.dst):=by
   intro k hk
   simp only [bg,List.getElem?_cons_succ] at hk
   cases ho:l[k]? with
   | none=>rw [ho] at hk; cases hk
   | some x=>rw [ho] at hk; exact List.mem_filterMap.2 ⟨x,List.mem_of_getElem? ho,hk⟩
  have h0:∀ e,o.dst=some e→e ∉ l.filterMap (·.dst)∧(l.filterMap (·.dst)).Nodup:=by
   intro e he
   rw [List.filterMap_cons_some he] at hn
   exact List.nodup_cons.1 hn
  have sf:(l.filterMap (·.dst)).Nodup:=by
   cases hd:o.dst with
   | none=>rwa [List.filterMap_cons_none hd] at hn
   | some e=>exact (h0 e hd).2
  cases i with
  | zero=>
   cases j with
   | zero=>rfl
   | succ j=>exact absurd (Qr j hj) (h0 d (by simpa [bg] using hi)).1
  | succ i=>
   cases j with
   | zero=>exact absurd (Qr i hi) (h0 d (by simpa [bg] using hj)).1
   | succ j=>rw [ih sf i j d (by simpa [bg] using hi) (by simpa [bg] using hj)]
theorem gv {m j:Nat} (hj:j < m):bg (l.take m) j=bg l j:=by
 unfold bg
 rw [List.getElem?_take,if_pos hj]
theorem ot {o:Oper} {r:NV} {w:World} {K K':Value→World→Prop} (h:dq P o r w K) (hk:∀ v w',K v w'→K' v w'):dq P o r w K':=by
 unfold dq at h ⊢
 cases hr:(execOp (ev r) o).run P w with
 | ok x w'=>
  rw [hr] at h
  cases x with
  | value v=>exact hk _ _ h
  | skip=>exact hk _ _ h
  | enter f args=>exact h.mono fun e AZ ⟨v,he,hv⟩=>⟨v,he,hk _ _ hv⟩
  | _=>exact h
 | _=>rw [hr] at h; exact h.elim
theorem A8 {m:Nat} {Z:LN} (h:sN l m Z=true):∀ (i:Nat) (o:Oper),l[i]? = some o→∀ e∈o.after.toList.filter (Region.binds .any),e.on < i:=by
 simp only [sN,Bool.and_eq_true,List.all_eq_true,List.mem_range] at h
 intro i o ho e he
 have hi:i < l.length:=(List.getElem?_eq_some_iff.1 ho).1
 have:=h.1.1 i hi e (by rw [List.getD_eq_getElem?_getD,ho]; exact he)
 exact Nat.lt_of_succ_le (Nat.le_of_ble_eq_true this)
theorem HE {m:Nat} {U:LL} {Z H:LN} {N:Nat→Prop} (hd:cg n l=true) (hA:sN l m Z=true) (hZ:yw l m Z=true) (hp:∀ c r w,Q (.panic c) r w→False) (CK:m≤l.length)
  (hS:S.length=m)
  (hH:∀ b∈H,b < w0.heap.size) (hU:((List.range m).all fun i=>(U.getD i []).all fun u=>Nat.beq u l.length || ((bn l).getD i []).contains u)=true)
  (hN:∀ b,N b→b < w0.heap.size∧b ∉ H)
  (nk:∀ (i:Nat) (s:dx),S[i]? = some s→∀ f F (w w':World) (r r':NV) v,ao F w w'→(∀ b∈f,b ∉ F)→(∀ b∈F,¬ N b)→(∀ j∈(bn l).getD i [],∀ t,bg l j=some t→r' t=r t)→s.V f w r v→s.V f w' r' v)
  (J5:∀ i,i < m→fc P l m S U r0 w0 H i)
  (next:∀ g r w,tM l m S U r0 w0 H (fun j=>j < m) g r w→WL P l (l.drop m) r w (Q .normal)) :
  kp P n l Q r0 w0:=by
 simp only [sN,Bool.and_eq_true,List.all_eq_true,List.mem_range,Bool.or_eq_true] at hA
 obtain ⟨⟨Pq,Pr⟩,Ps⟩:=hA
 have s7:∀ (i:Nat) (o:Oper),l[i]? = some o→∀ e∈o.after.toList.filter (Region.binds .any),e.on < i:=by
  intro i o ho e he
  have hi:i < l.length:=(List.getElem?_eq_some_iff.1 ho).1
  have:=Pq i hi e (by rw [List.getD_eq_getElem?_getD,ho]; exact he)
  exact Nat.lt_of_succ_le (Nat.le_of_ble_eq_true this)
 have Gn:∀ i,m≤i→i < l.length→∀ j,j < i→j∈(bn l).getD i []∨j∈Z:=by
  intro i h1 h2 j hj
  rcases Pr i h2 with h | h
  ·exact absurd (Nat.lt_of_succ_le (Nat.le_of_ble_eq_true h)) (Nat.not_lt.2 h1)
  ·have:=h j hj
   simpa using this
 simp only [yw,Bool.and_eq_true,List.all_eq_true] at hZ
 obtain ⟨Mg,hZ⟩:=hZ
 have Qs:∀ z∈Z,z < m:=fun z hz=>Nat.lt_of_succ_le (Nat.le_of_ble_eq_true (hZ z hz).1.1)
 have Pt:∀ i,i < m→∀ u∈U.getD i [],u=l.length∨u∈(bn l).getD i []:=by
  intro i hi u hu
  simp only [List.all_eq_true,List.mem_range] at hU
  have:=hU i hi u hu
  simpa using this
 have dv:=A9 _ (vf Ps)
 have mq:=xu l s7
 intro a h1 h2 h3
 let Cl (L:Array Bool):Prop:=L.size=l.length∧∀ j o,l[j]? = some o→L.getD j false=true→∀ e∈o.after.toList.filter (Region.binds .any),L.getD e.on false=true
 have fh:∀ L,Cl L→∀ i j,(∀ o,l[i]? = some o→∀ e∈o.after.toList.filter (Region.binds .any),L.getD e.on false=true)→j∈(bn l).getD i []→L.getD j false=true:=by
  intro L hL i
  induction i using Nat.strongRecOn with
  | _ i ih=>
   intro j hi hj
   obtain ⟨_,o,ho,e,he,CR⟩:=mq i j hj
   have hl:=hi o ho e he
   rcases CR with rfl | CR
   ·exact hl
   ·exact ih e.on (s7 i o ho e he) j (fun o' cq e' re=>hL.2 _ _ cq hl e' re) CR
 have yx:∀ L i,i∈Region.ready .any l.toArray L→L.getD i true=false∧∃ o,l[i]? = some o∧∀ e∈o.after.toList.filter (Region.binds .any),L.getD e.on false=true:=by
  intro L i hi
  obtain ⟨g1,o,ho,jh⟩:=mem_ready.1 hi
  refine ⟨g1,o,by simpa using ho,fun e he=>?_⟩
  have:=List.mem_filter.1 he
  exact jh e (by simpa using this.1) this.2
 have zt:∀ L i o,L.size=l.length→l[i]? = some o→L.getD i false=false→(∀ e∈o.after.toList.filter (Region.binds .any),L.getD e.on false=true)→i∈Region.ready .any l.toArray L:=by
  intro L i o hs ho hu jh
  refine mem_ready.2 ⟨?_,o,by simpa using ho,fun e he hb=>jh e (List.mem_filter.2 ⟨by simpa using he,hb⟩)⟩
  have hi:i < L.size:=by rw [hs]; exact (List.getElem?_eq_some_iff.1 ho).1
  simp [hi] at hu ⊢; exact hu
 have BY:∀ L i o,Cl L→l[i]? = some o→(∀ e∈o.after.toList.filter (Region.binds .any),L.getD e.on false=true)→Cl (L.setIfInBounds i true):=by
  intro L i o hL ho jh
  refine ⟨by rw [Array.size_setIfInBounds]; exact hL.1,fun j o' cq hj e he=>?_⟩
  by_cases vB:i=j
  ·subst vB
   have:o'=o:=Option.some.inj (cq.symm.trans ho)
   subst this
   exact getD_set_true (jh e he)
  ·rw [getD_set_ne false vB] at hj
   exact getD_set_true (hL.2 j o' cq hj e he)
 have getSet:∀ (L:Array Bool) i j,L.size=l.length→i < l.length→((L.setIfInBounds i true).getD j false=true↔j=i∨L.getD j false=true):=by
  intro L i j hs hi
  by_cases vB:i=j
  ·subst vB
   simp [hs,hi]
  ·rw [getD_set_ne false vB]
   constructor
   ·exact .inr
   ·rintro (h | h)
    ·exact absurd h.symm vB
    ·exact h
 have CT:∀ (L:Array Bool) i,L.size=l.length→i < l.length→L.getD i false=false→(L.setIfInBounds i true).toList.count false+1=L.toList.count false:=by
  intro L i hs hi hu
  have qd:i < L.toList.length:=by simpa [hs] using hi
  have yy:L.toList[i]=false:=by
   rw [Array.getElem_toList]
   simp [hs,hi] at hu
   exact hu
  rw [Array.toList_setIfInBounds,List.count_set qd,yy]
  have:0 < L.toList.count false:=List.count_pos_iff.2 (by rw [← yy]; exact List.getElem_mem qd)
  rw [if_pos (by rfl),if_neg (by decide)]
  omega
 have tail:∀ (d k fuel:Nat) (L:Array Bool) (a:Act) (w:World),l.length - k=d→m≤k→k≤l.length→Cl L→(∀ j,L.getD j false=true↔j < k)→L.toList.count false≤fuel→a.tmps.size=n→a.defers=[]→
   WL P l (l.drop k) (b9 a) w (Q .normal)→wpAny P .any l.toArray (fun e a' w'=>a'.tmps.size=n∧a'.defers=[]∧Q e (b9 a') w') fuel L a w:=by
  intro d
  induction d with
  | zero=>
   intro k fuel L a w hk hmk E0 hL eb hf g1 g2 hW
   obtain rfl:k=l.length:=by omega
   rw [List.drop_length] at hW
   have qi:Region.ready .any l.toArray L=[]:=by
    apply List.eq_nil_iff_forall_not_mem.2
    intro i hi
    obtain ⟨q1,o,ho,_⟩:=yx L i hi
    have bj:i < l.length:=(List.getElem?_eq_some_iff.1 ho).1
    have:=(eb i).2 bj
    simp [hL.1,bj] at q1 this
    rw [q1] at this; cases this
   cases fuel with
   | zero=>exact ⟨qi,g1,g2,hW⟩
   | succ fuel=>exact ⟨fun _=>⟨g1,g2,hW⟩,fun i hi=>by rw [qi] at hi; cases hi⟩
  | succ d ih=>
   intro k fuel L a w hk hmk E0 hL eb hf g1 g2 hW
   have GG:k < l.length:=by omega
   obtain ⟨o,ho⟩ : ∃ o,l[k]? = some o:=⟨l[k],List.getElem?_eq_getElem GG⟩
   have Qt:L.getD k false=false:=by
    cases hb:L.getD k false with
    | false=>rfl
    | true=>exact absurd ((eb k).1 hb) (Nat.lt_irrefl _)
   have Uj:k∈Region.ready .any l.toArray L:=zt L k o hL.1 ho Qt fun e he=>(eb _).2 (s7 k o ho e he)
   have S9:l.drop k=o :: l.drop (k+1):=by rw [List.drop_eq_getElem_cons GG]; congr 1; exact Option.some.inj ((List.getElem?_eq_getElem GG).symm.trans ho)
   rw [S9] at hW
   have hc:=CT L k hL.1 GG Qt
   cases fuel with
   | zero=>omega
   | succ fuel=>
    refine ⟨fun h=>(by rw [h] at Uj; cases Uj),fun i hi=>?_⟩
    obtain ⟨q1,oi,lv,jh⟩:=yx L i hi
    have dk:i < l.length:=(List.getElem?_eq_some_iff.1 lv).1
    have rm:L.getD i false=false:=getD_both q1
    have hik:i=k:=by
     rcases Nat.lt_trichotomy i k with h | h | h
     ·have:=(eb i).2 h; rw [rm] at this; cases this
     ·exact h
     ·have:=fh L hL i k (fun o' cq=>by have:o'=oi:=Option.some.inj (cq.symm.trans lv); subst this; exact jh) ((Gn i (by omega) dk k h).resolve_right fun hz=>absurd (Qs k hz) (by omega))
      rw [Qt] at this; cases this
    subst hik
    have PC:oi=o:=Option.some.inj (lv.symm.trans ho)
    subst PC
    have Bc:∀ k',oi.dst=some k'→k' < a.tmps.size:=by
     intro k' HM
     have vz:oi∈l:=List.mem_of_getElem? lv
     simp only [cg,List.all_eq_true] at hd
     have:=hd oi vz
     rw [HM] at this
     rw [g1]
     exact Nat.lt_of_succ_le (Nat.le_of_ble_eq_true this)
    have Bb:=BY L i oi hL lv jh
    have CE:∀ j,(L.setIfInBounds i true).getD j false=true↔j < i+1:=by
     intro j
     rw [getSet L i j hL.1 dk,eb j]
     omega
    unfold wpOp
    rw [show (l.toArray)[i]? = some oi by simpa using lv]
    simp only []
    rw [wi (by rw [g1]; exact hd)]
    rcases hW with ⟨hw,hW⟩ | ⟨hw,hW⟩
    ·rw [if_pos hw]
     exact .inl (hW.wp fun v w' hv=>ih (i+1) fuel _ _ _ (by omega) (by omega) (by omega) Bb CE (by omega) (by rw [gj]; exact g1) (by rw [ed]; exact g2) (by rw [iH Bc]; exact hv))
    ·rw [if_neg (by rw [hw]; exact Bool.false_ne_true)]
     exact ih (i+1) fuel _ _ _ (by omega) (by omega) (by omega) Bb CE (by omega) (by rw [gj]; exact g1) (by rw [ed]; exact g2) (by rw [iH Bc]; exact hW)
 have head:∀ (fuel:Nat) (L:Array Bool) (a:Act) (w:World) (g:Nat→List Nat),Cl L→(∀ j,L.getD j false=true→j < m)→L.toList.count false≤fuel→a.tmps.size=n→a.defers=[]→
   tM l m S U r0 w0 H (fun j=>L.getD j false=true) g (b9 a) w→wpAny P .any l.toArray (fun e a' w'=>a'.tmps.size=n∧a'.defers=[]∧Q e (b9 a') w') fuel L a w:=by
  intro fuel
  induction fuel with
  | zero=>
   intro L a w g hL rf hf g1 g2 inv
   have jh:∀ j,j < l.length→L.getD j false=true:=by
    intro j hj
    cases hb:L.getD j false with
    | true=>rfl
    | false=>have:=CT L j hL.1 hj hb; omega
   have eb:∀ j,L.getD j false=true↔j < m:=fun j=>⟨rf j,fun h=>jh j (by omega)⟩
   refine tail _ m 0 L a w rfl (Nat.le_refl _) CK hL eb hf g1 g2 (next g _ _ ?_)
   exact ⟨inv.iv,fun hk=>inv.xw fun k tP=>hk k ((eb k).1 tP),inv.vg,fun j hj=>inv.vd j ((eb j).2 hj),fun j hj hk=>inv.done j ((eb j).2 hj) (fun k tP=>hk k ((eb k).1 tP)),fun j hj=>inv.qg j ((eb j).2 hj),inv.other,fun j hj b hb=>⟨(inv.fresh j ((eb j).2 hj) b hb).1.imp (fun h=>h) fun h=>⟨h.1,h.2.imp fun k hk=>⟨(eb k).1 hk.1,hk.2⟩⟩,(inv.fresh j ((eb j).2 hj) b hb).2⟩,fun i j hi hj=>inv.sT i j ((eb i).2 hi) ((eb j).2 hj)⟩
  | succ fuel ih=>
   intro L a w g hL rf hf g1 g2 inv
   by_cases jh:∀ j,j < m→L.getD j false=true
   ·have eb:∀ j,L.getD j false=true↔j < m:=fun j=>⟨rf j,jh j⟩
    refine tail _ m _ L a w rfl (Nat.le_refl _) CK hL eb hf g1 g2 (next g _ _ ?_)
    exact ⟨inv.iv,fun hk=>inv.xw fun k tP=>hk k ((eb k).1 tP),inv.vg,fun j hj=>inv.vd j ((eb j).2 hj),fun j hj hk=>inv.done j ((eb j).2 hj) (fun k tP=>hk k ((eb k).1 tP)),fun j hj=>inv.qg j ((eb j).2 hj),inv.other,fun j hj b hb=>⟨(inv.fresh j ((eb j).2 hj) b hb).1.imp (fun h=>h) fun h=>⟨h.1,h.2.imp fun k hk=>⟨(eb k).1 hk.1,hk.2⟩⟩,(inv.fresh j ((eb j).2 hj) b hb).2⟩,fun i j hi hj=>inv.sT i j ((eb i).2 hi) ((eb j).2 hj)⟩
   ·obtain ⟨j0,Mh,HH⟩ : ∃ j,j < m∧L.getD j false=false:=by
     apply Classical.byContradiction
     intro qi
     apply jh
     intro j hj
     cases hb:L.getD j false with
     | true=>rfl
     | false=>exact absurd ⟨j,hj,hb⟩ qi
    have Gp:∃ i,i∈Region.ready .any l.toArray L:=by
     have:∀ k,(∃ j,j < k∧j < m∧L.getD j false=false)→∃ i,i∈Region.ready .any l.toArray L:=by
      intro k
      induction k with
      | zero=>rintro ⟨j,h,_⟩; omega
      | succ k zl=>
       rintro ⟨j,HI,xx,pM⟩
       by_cases rV:∃ j,j < k∧j < m∧L.getD j false=false
       ·exact zl rV
       ·obtain rfl:j=k:=by
         apply Classical.byContradiction
         intro h
         exact rV ⟨j,by omega,xx,pM⟩
        have HJ:j < l.length:=by omega
        refine ⟨j,zt L j l[j] hL.1 (List.getElem?_eq_getElem HJ) pM fun e he=>?_⟩
        have bj:=s7 j _ (List.getElem?_eq_getElem HJ) e he
        cases hb:L.getD e.on false with
        | true=>rfl
        | false=>exact absurd ⟨e.on,bj,by omega,hb⟩ rV
     exact this (j0+1) ⟨j0,by omega,Mh,HH⟩
    have main:∀ i oi,i < m→l[i]? = some oi→L.getD i false=false→(∀ e∈oi.after.toList.filter (Region.binds .any),L.getD e.on false=true)→
      (Region.wanted oi (yl l (b9 a))=true∧dq P oi (b9 a) w fun v w'=>wpAny P .any l.toArray (fun e a' w'=>a'.tmps.size=n∧a'.defers=[]∧Q e (b9 a') w') fuel (L.setIfInBounds i true) (a.put oi.dst v) w')∨
      (Region.wanted oi (yl l (b9 a))=false∧wpAny P .any l.toArray (fun e a' w'=>a'.tmps.size=n∧a'.defers=[]∧Q e (b9 a') w') fuel (L.setIfInBounds i true) (a.put oi.dst undef) w):=by
     intro i oi rh lv rm rn
     have dk:i < l.length:=(List.getElem?_eq_some_iff.1 lv).1
     have j5:∀ o,l[i]? = some o→∀ e∈o.after.toList.filter (Region.binds .any),L.getD e.on false=true:=fun o' cq=>by
      have:o'=oi:=Option.some.inj (cq.symm.trans lv)
      subst this; exact rn
     obtain ⟨s,hs⟩ : ∃ s,S[i]? = some s:=⟨S[i]'(by omega),List.getElem?_eq_getElem (by omega)⟩
     have hc:=CT L i hL.1 dk rm
     have Bb:=BY L i oi hL lv rn
     have Pw:∀ j,(L.setIfInBounds i true).getD j false=true→j < m:=by
      intro j hj
      rcases (getSet L i j hL.1 dk).1 hj with rfl | hj
      ·exact rh
      ·exact rf j hj
     have zu:∀ k,L.getD k false=true→k≠i∧i ∉ (bn l).getD k []:=by
      intro k hk
      refine ⟨fun h=>(by rw [h,rm] at hk; cases hk),fun vz=>?_⟩
      have:=fh L hL k i (fun o' cq e' re=>hL.2 k o' cq hk e' re) vz
      rw [rm] at this; cases this
     have ow:=J5 i rh oi s lv hs g (b9 a) w inv.iv (fun hV=>by
       have qi:∀ k,L.getD k false=true→l.length ∉ U.getD k []:=fun k hk CU=>by
        simp only [uJ,List.all_eq_true,List.mem_range,Bool.or_eq_true,Bool.not_eq_true',List.contains_eq_mem,decide_eq_false_iff_not,decide_eq_true_eq] at hV
        rcases hV k (rf k hk) with (h | h) | h
        ·exact h CU
        ·exact (zu k hk).1 (Nat.eq_of_beq_eq_true h)
        ·exact (zu k hk).2 h
       have h0:=inv.xw qi
       exact ⟨h0.1,h0.2,fun j hj b hb=>(inv.fresh j (fh L hL i j j5 hj) b hb).1.elim (fun h=>h) fun h=>absurd h.2.choose_spec.2 (qi _ h.2.choose_spec.1)⟩) (fun j hj=>inv.qg j (fh L hL i j j5 hj)) (fun j hj=>by
       simp only [oj,Bool.and_eq_true,List.all_eq_true,List.mem_range,Bool.or_eq_true,Bool.not_eq_true',List.contains_eq_mem,decide_eq_false_iff_not,decide_eq_true_eq] at hj
       refine inv.done j (fh L hL i j j5 hj.1) fun k hk HI=>?_
       rcases hj.2 k (rf k hk) with (h | h) | h
       ·exact h HI
       ·exact (zu k hk).1 (Nat.eq_of_beq_eq_true h)
       ·exact (zu k hk).2 h) inv.other
      (fun i' qd j' er=>inv.sT i' j' (fh L hL i i' j5 qd) (fh L hL i j' j5 er))
      (fun j hj b hb=>⟨(inv.fresh j (fh L hL i j j5 hj) b hb).1.imp (fun h=>h) (·.1),(inv.fresh j (fh L hL i j j5 hj) b hb).2⟩)
     have hblk:∀ b∈qo g (U.getD i []),(∃ u,u∈U.getD i []∧L.getD u false=true∧b∈g u)∨(l.length∈U.getD i []∧b∈g l.length):=by
      intro b hb
      obtain ⟨u,hu,du⟩:=List.mem_flatMap.1 hb
      rcases Pt i rh u hu with rfl | h
      ·exact .inr ⟨hu,du⟩
      ·exact .inl ⟨u,hu,fh L hL i u j5 h,du⟩
     have Bc:∀ k',oi.dst=some k'→k' < a.tmps.size:=by
      intro k' HM
      have vz:oi∈l:=List.mem_of_getElem? lv
      simp only [cg,List.all_eq_true] at hd
      have:=hd oi vz
      rw [HM] at this
      rw [g1]
      exact Nat.lt_of_succ_le (Nat.le_of_ble_eq_true this)
     have vC:bg l i=oi.dst:=by unfold bg; rw [lv]; rfl
     have pL:∀ v t,(oi.dst≠some t)→b9 (a.put oi.dst v) t=b9 a t:=by
      intro v t ht
      rw [iH Bc]
      cases tQ:oi.dst with
      | none=>rfl
      | some d=>
       show (bif Nat.beq t d then v else b9 a t)=b9 a t
       cases hb:Nat.beq t d with
       | false=>rfl
       | true=>exact absurd (by rw [tQ,Nat.eq_of_beq_eq_true hb]) ht
     have CV:∀ v d,oi.dst=some d→b9 (a.put oi.dst v) d=v:=by
      intro v d tQ
      rw [iH Bc,tQ]
      show (bif Nat.beq d d then v else b9 a d)=v
      rw [Nat.beq_refl]; rfl
     have step:∀ v w' f,ao (qo g (U.getD i [])) w w'→(∀ b∈f,(b∈qo g (U.getD i [])∨w.heap.size≤b)∧b < w'.heap.size)→(if s.b then s.V f w' (b9 a) v else v=undef)→
       wpAny P .any l.toArray (fun e a' w'=>a'.tmps.size=n∧a'.defers=[]∧Q e (b9 a') w') fuel (L.setIfInBounds i true) (a.put oi.dst v) w':=by
      intro v w' f hC vx hV
      have p8:∀ j',j' < m→j'≠i→∀ t,bg l j'=some t→b9 (a.put oi.dst v) t=b9 a t:=by
       intro j' er mz t ht
       refine pL v t fun h=>mz (dv j' i t ?_ ?_)
       ·rw [gv er]; exact ht
       ·rw [gv rh,vC]; exact h
      have HP:∀ b∈qo g (U.getD i []),¬ N b:=fun b hb hn=>by
       rcases hblk b hb with ⟨u,_,lj,du⟩ | ⟨_,du⟩
       ·rcases (inv.fresh u lj b du).1 with h | h
        ·have:=(hN b hn).1; omega
        ·exact (hN b hn).2 h.1
       ·exact (hN b hn).2 (inv.vg b du)
      refine ih _ _ _ (fun j=>if j=i then f else if j∈U.getD i [] then [] else g j) Bb Pw (by omega) (by rw [gj]; exact g1) (by rw [ed]; exact g2)
       ⟨inv.iv.then hC fun b hb=>(by
        rcases hblk b hb with ⟨u,_,lj,du⟩ | ⟨_,du⟩
        ·exact (inv.fresh u lj b du).1.elim .inr fun h=>.inl h.1
        ·exact .inl (inv.vg b du)),fun qi=>?_,?_,fun j hj=>?_,?_,fun j hj d me sj o6=>?_,?_,?_,?_⟩
      ·have vu:l.length ∉ U.getD i []:=qi i ((getSet L i i hL.1 dk).2 (.inl rfl))
       have h0:=inv.xw fun k hk=>qi k ((getSet L i k hL.1 dk).2 (.inr hk))
       refine ⟨h0.1.then hC fun b hb=>?_,?_⟩
       ·rcases hblk b hb with ⟨u,_,lj,du⟩ | ⟨h,_⟩
        ·exact (inv.fresh u lj b du).1.elim .inr fun ⟨_,k,hk,CU⟩=>absurd CU (qi k ((getSet L i k hL.1 dk).2 (.inr hk)))
        ·exact absurd h vu
       ·show (if l.length=i then f else if l.length∈U.getD i [] then [] else g l.length)=H
        rw [if_neg (by omega),if_neg vu]
        exact h0.2
      ·intro b hb
       have cb:b∈(if l.length=i then f else if l.length∈U.getD i [] then [] else g l.length):=hb
       rw [if_neg (by omega)] at cb
       split at cb
       ·cases cb
       ·exact inv.vg b cb
      ·intro b hb hv
       have nt:b∈(if l.length=i then f else if l.length∈U.getD i [] then [] else g l.length):=hv
       rw [if_neg (by omega)] at nt
       split at nt
       ·cases nt
       ·rename_i Px
        have cb:b∈(if j=i then f else if j∈U.getD i [] then [] else g j):=hb
        split at cb
        ·rcases (vx b cb).1 with h | h
         ·rcases hblk b h with ⟨u,_,lj,du⟩ | ⟨h,_⟩
          ·exact inv.vd u lj b du nt
          ·exact Px h
         ·have h1:=hH b (inv.vg b nt)
          have h2:=inv.iv.size
          omega
        ·rename_i ie
         split at cb
         ·cases cb
         ·exact inv.vd j (((getSet L i j hL.1 dk).1 hj).resolve_left ie) b cb nt
      ·intro j hj uK
       refine ⟨fun d me=>?_,fun Py sj o6 HQ=>?_⟩
       rotate_left
       ·by_cases ie:j=i
        ·subst ie
         rw [hs] at o6
         cases o6
         rw [if_pos HQ] at hV
         refine ⟨v,?_⟩
         simp only [if_pos]
         exact nk j s hs _ [] w' w' (b9 a) _ v (ao.refl _ _) (fun _ _ h=>nomatch h) (fun _ h=>nomatch h) (fun j' er t ht=>p8 j' (by have:=(mq j j' er).1; omega) (by have:=(mq j j' er).1; omega) t ht) hV
        ·have iT:=((getSet L i j hL.1 dk).1 hj).resolve_left ie
         have pM:j ∉ U.getD i []:=uK i ((getSet L i i hL.1 dk).2 (.inl rfl))
         obtain ⟨x,hx⟩:=(inv.done j iT (fun k hk=>uK k ((getSet L i k hL.1 dk).2 (.inr hk)))).2 Py sj o6 HQ
         have je:(fun j=>if j=i then f else if j∈U.getD i [] then [] else g j) j=g j:=by
          show (if j=i then f else if j∈U.getD i [] then [] else g j)=g j
          rw [if_neg ie,if_neg pM]
         rw [je]
         refine ⟨x,nk j sj o6 _ _ _ _ (b9 a) _ _ hC (fun b cb CW=>?_) HP (fun j' er t ht=>p8 j' (by have:=(mq j j' er).1; have:=rf j iT; omega) (fun h=>?_) t ht) hx⟩
         ·rcases hblk b CW with ⟨u,xy,lj,du⟩ | ⟨_,du⟩
          ·exact inv.sT j u iT lj (fun h=>pM (h ▸ xy)) b cb du
          ·exact inv.vd j iT b cb du
         ·subst h
          have:=fh L hL j j' (fun o' cq e' re=>hL.2 j o' cq iT e' re) er
          rw [rm] at this; cases this
       by_cases ie:j=i
       ·subst ie
        rw [hs]
        simp only [if_pos]
        rw [vC] at me
        rw [CV v d me]
        split
        ·rename_i hb
         rw [if_pos hb] at hV
         exact nk j s hs _ [] w' w' (b9 a) _ v (ao.refl _ _) (fun _ _ h=>nomatch h) (fun _ h=>nomatch h) (fun j' er t ht=>p8 j' (by have:=(mq j j' er).1; omega) (by have:=(mq j j' er).1; omega) t ht) hV
        ·rename_i hb
         rw [if_neg hb] at hV
         exact hV
       ·have iT:=((getSet L i j hL.1 dk).1 hj).resolve_left ie
        have xx:=rf j iT
        have pM:j ∉ U.getD i []:=uK i ((getSet L i i hL.1 dk).2 (.inl rfl))
        have tQ:oi.dst≠some d:=by
         intro h
         apply ie
         refine dv j i d ?_ ?_
         ·rw [gv xx]; exact me
         ·rw [gv rh,vC]; exact h
        have:=(inv.done j iT (fun k hk=>uK k ((getSet L i k hL.1 dk).2 (.inr hk)))).1 d me
        rw [pL v d tQ]
        have je:(fun j=>if j=i then f else if j∈U.getD i [] then [] else g j) j=g j:=by
         show (if j=i then f else if j∈U.getD i [] then [] else g j)=g j
         rw [if_neg ie,if_neg pM]
        rw [je]
        cases o6:S[j]? with
        | none=>trivial
        | some sj=>
         rw [o6] at this
         simp only [] at this ⊢
         split
         ·rename_i hb
          rw [if_pos hb] at this
          refine nk j sj o6 _ _ _ _ (b9 a) _ _ hC (fun b cb CW=>?_) HP (fun j' er t ht=>p8 j' (by have:=(mq j j' er).1; omega) (fun h=>?_) t ht) this
          rotate_left
          ·subst h
           have:=fh L hL j j' (fun o' cq e' re=>hL.2 j o' cq iT e' re) er
           rw [rm] at this; cases this
          rcases hblk b CW with ⟨u,xy,lj,du⟩ | ⟨_,du⟩
          ·exact inv.sT j u iT lj (fun h=>pM (h ▸ xy)) b cb du
          ·exact inv.vd j iT b cb du
         ·rename_i hb
          rw [if_neg hb] at this
          exact this
      ·by_cases ie:j=i
       ·subst ie
        rw [hs] at o6
        cases o6
        rw [vC] at me
        rw [CV v d me]
        split
        ·rename_i hb
         rw [if_pos hb] at hV
         exact ⟨f,w',nk j s hs _ [] w' w' (b9 a) _ v (ao.refl _ _) (fun _ _ h=>nomatch h) (fun _ h=>nomatch h) (fun j' er t ht=>p8 j' (by have:=(mq j j' er).1; omega) (by have:=(mq j j' er).1; omega) t ht) hV⟩
        ·rename_i hb
         rw [if_neg hb] at hV
         exact hV
       ·have iT:=((getSet L i j hL.1 dk).1 hj).resolve_left ie
        have xx:=rf j iT
        have tQ:oi.dst≠some d:=by
         intro h
         apply ie
         refine dv j i d ?_ ?_
         ·rw [gv xx]; exact me
         ·rw [gv rh,vC]; exact h
        have:=inv.qg j iT d me sj o6
        rw [pL v d tQ]
        split
        ·rename_i hb
         rw [if_pos hb] at this
         obtain ⟨f1,w1,h1⟩:=this
         refine ⟨f1,w1,nk j sj o6 _ [] w1 w1 (b9 a) _ _ (ao.refl _ _) (fun _ _ h=>nomatch h) (fun _ h=>nomatch h) (fun j' er t ht=>p8 j' (by have:=(mq j j' er).1; omega) (fun h=>?_) t ht) h1⟩
         subst h
         have:=fh L hL j j' (fun o' cq e' re=>hL.2 j o' cq iT e' re) er
         rw [rm] at this; cases this
        ·rename_i hb
         rw [if_neg hb] at this
         exact this
      ·intro t ht
       rw [pL v t (fun h=>ht i rh (by rw [vC]; exact h))]
       exact inv.other t ht
      ·intro j hj b hb
       by_cases ie:j=i
       ·simp only [if_pos ie] at hb
        have hh:=vx b hb
        have qe:=inv.iv.size
        rcases hh.1 with h | h
        ·rcases hblk b h with ⟨u,_,lj,du⟩ | ⟨hv,du⟩
         ·exact ⟨(inv.fresh u lj b du).1.imp (fun h=>h) fun h=>⟨h.1,h.2.imp fun k hk=>⟨(getSet L i k hL.1 dk).2 (.inr hk.1),hk.2⟩⟩,hh.2⟩
         ·exact ⟨.inr ⟨inv.vg b du,i,(getSet L i i hL.1 dk).2 (.inl rfl),hv⟩,hh.2⟩
        ·exact ⟨.inl (by omega),hh.2⟩
       ·have iT:=((getSet L i j hL.1 dk).1 hj).resolve_left ie
        simp only [if_neg ie] at hb
        split at hb
        ·cases hb
        ·have h1:=inv.fresh j iT b hb
         have h2:=hC.size
         exact ⟨h1.1.imp (fun h=>h) fun h=>⟨h.1,h.2.imp fun k hk=>⟨(getSet L i k hL.1 dk).2 (.inr hk.1),hk.2⟩⟩,by omega⟩
      ·have tL:∀ j',(L.setIfInBounds i true).getD j' false=true→j'≠i→∀ b∈f,b ∉ (if j'∈U.getD i [] then [] else g j'):=by
        intro j' er e2 b hb cb
        have CX:=((getSet L i j' hL.1 dk).1 er).resolve_left e2
        split at cb
        ·cases cb
        ·rename_i pM
         rcases (vx b hb).1 with h | h
         ·rcases hblk b h with ⟨u,xy,lj,du⟩ | ⟨_,du⟩
          ·exact inv.sT u j' lj CX (fun h=>pM (h ▸ xy)) b du cb
          ·exact inv.vd j' CX b cb du
         ·have:=inv.fresh j' CX b cb
          omega
       intro i' j' qd er mz b hb cb
       by_cases e1:i'=i
       ·have e2:j'≠i:=fun h=>mz (e1.trans h.symm)
        simp only [if_pos e1] at hb
        simp only [if_neg e2] at cb
        exact tL j' er e2 b hb cb
       ·simp only [if_neg e1] at hb
        by_cases e2:j'=i
        ·simp only [if_pos e2] at cb
         exact tL i' qd e1 b cb hb
        ·simp only [if_neg e2] at cb
         split at hb
         ·cases hb
         ·split at cb
          ·cases cb
          ·exact inv.sT i' j' (((getSet L i i' hL.1 dk).1 qd).resolve_left e1) (((getSet L i j' hL.1 dk).1 er).resolve_left e2) mz b hb cb
     cases hb:s.b with
     | true=>
      rw [if_pos hb] at ow
      refine .inl ⟨ow.1,ot ow.2 ?_⟩
      rintro v w' ⟨hC,f,vx,hV⟩
      exact step v w' f hC vx (by rw [if_pos hb]; exact hV)
     | false=>
      rw [if_neg (by rw [hb]; exact Bool.false_ne_true)] at ow
      exact .inr ⟨ow,step undef w [] (ao.refl _ _) (fun b h=>nomatch h) (by rw [if_neg (by rw [hb]; exact Bool.false_ne_true)])⟩
    by_cases Mo:∃ z,z∈Z∧L.getD z false=false∧∀ o,l[z]? = some o→∀ e∈o.after.toList.filter (Region.binds .any),L.getD e.on false=true
    ·obtain ⟨z,hz,Qu,Uk⟩:=Mo
     obtain ⟨⟨hzm,hzf⟩,Io⟩:=hZ z hz
     cases Bv:l[z]? with
     | none=>rw [Bv] at Io; cases Io
     | some oz=>
      rw [Bv] at Io
      simp only [Bool.and_eq_true] at Io
      obtain ⟨hmv,Bt⟩:=Io
      have KK:=Uk oz Bv
      have Ul:Region.free .any l.toArray L z=true:=Im (fun j hj=>fh L hL z j (fun o' cq=>Uk o' cq) hj) hzf
      have Um:z∈Region.ready .any l.toArray L:=zt L z oz hL.1 Bv Qu KK
      obtain ⟨dz,opz,tyz,pz,az,gz⟩:=oz
      cases opz <;> first | exact (Bool.false_ne_true hmv).elim | skip
      case move x=>
       cases gz with
       | some _=>simp at Bt
       | none=>
        have hev:∀ w',(execOp a.eval ⟨dz,.move x,tyz,pz,az,none⟩).run P w' = .ok (.value (a.eval x)) w':=fun _=>rfl
        refine wpAny_take (by simpa using Bv) Mg Ul (by simpa using Um) (fun c a w h=>absurd h.2.2 (hp _ _ _)) (v:=a.eval x) (.inl ⟨rfl,hev⟩) ?_
        rcases main z _ (Qs z hz) Bv Qu KK with ⟨_,h⟩ | ⟨h,_⟩
        ·rw [ou]; exact h
        ·exact absurd h (by simp [Region.wanted])
      case extract x k=>
       cases gz with
       | some _=>simp at Bt
       | none=>
        rcases main z _ (Qs z hz) Bv Qu KK with ⟨_,h⟩ | ⟨h,_⟩
        ·obtain ⟨v,hv,hk⟩:=En h
         refine wpAny_take (by simpa using Bv) Mg Ul (by simpa using Um) (fun c a w h=>absurd h.2.2 (hp _ _ _)) (v:=v) (.inl ⟨rfl,fun w'=>by rw [ou]; exact hv w'⟩) ?_
         exact hk
        ·exact absurd h (by simp [Region.wanted])
    refine ⟨fun h=>(by obtain ⟨i,hi⟩:=Gp; rw [h] at hi; cases hi),fun i hi=>?_⟩
    obtain ⟨q1,oi,lv,rn⟩:=yx L i hi
    have dk:i < l.length:=(List.getElem?_eq_some_iff.1 lv).1
    have rm:L.getD i false=false:=getD_both q1
    have rh:i < m:=by
     rcases Nat.lt_or_ge i m with h | h
     ·exact h
     ·have bad:∀ j,j < i→L.getD j false=false→False:=by
       intro j
       induction j using Nat.strongRecOn with
       | _ j ih=>
        intro ie pM
        rcases Gn i h dk j ie with hj | hj
        ·have:=fh L hL i j (fun o' cq=>by have:o'=oi:=Option.some.inj (cq.symm.trans lv); subst this; exact rn) hj
         rw [pM] at this; cases this
        ·refine Mo ⟨j,hj,pM,fun o ho e he=>?_⟩
         cases hb:L.getD e.on false with
         | true=>rfl
         | false=>have bj:=s7 j o ho e he; exact (ih e.on bj (by omega) hb).elim
      exact (bad j0 (by omega) HH).elim
    unfold wpOp
    rw [show (l.toArray)[i]? = some oi by simpa using lv]
    simp only []
    rw [wi (by rw [g1]; exact hd)]
    rcases main i oi rh lv rm rn with ⟨hw,h⟩ | ⟨hw,h⟩
    ·rw [if_pos hw]
     exact .inl (h.wp fun v w' hv=>hv)
    ·rw [if_neg (by rw [hw]; exact Bool.false_ne_true)]
     exact h
 refine head _ _ a _ (fun j=>if j=l.length then H else []) ⟨by simp,?_⟩ ?_ ?_ h1 h2 ⟨ao.nil (ao.drew _ _),fun _=>⟨ao.drew _ _,by simp⟩,fun b hb=>by simpa using hb,?_,?_,?_,?_,?_,?_⟩
 ·intro j o ho hj
  rw [getD_replicate_false] at hj; cases hj
 ·intro j hj
  rw [getD_replicate_false] at hj; cases hj
 ·simp
 ·intro j hj
  rw [getD_replicate_false] at hj; cases hj
 ·intro j hj
  rw [getD_replicate_false] at hj; cases hj
 ·intro j hj
  rw [getD_replicate_false] at hj; cases hj
 ·intro t _
  rw [h3]
 ·intro j hj
  rw [getD_replicate_false] at hj; cases hj
 ·intro i j hi
  rw [getD_replicate_false] at hi; cases hi
theorem fc.val {m i:Nat} {U:LL} {H:LN} {o:Oper} {v:Value} (ho:l[i]? = some o) (hs:S[i]? = some ⟨true,pl fun _ _ u=>u=v⟩) (hg:o.guard=none)
  (h:∀ (g:Nat→List Nat) (r:NV) (w:World),ao H w0 w→(∀ j∈(bn l).getD i [],Old l S j r)→(∀ j,oj l U m i j=true→ra l S j g r w)→(∀ t,(∀ j,j < m→bg l j≠some t)→r t=r0 t)→
   (execOp (ev r) o).run P w = .ok (.value v) w):fc P l m S U r0 w0 H i:=by
 intro o' s' cq fg g r w hC hV hO hd jf Au pL
 obtain rfl:o=o':=Option.some.inj (ho.symm.trans cq)
 obtain rfl:_=s':=Option.some.inj (hs.symm.trans fg)
 rw [if_pos rfl]
 refine ⟨by unfold Region.wanted; rw [hg],?_⟩
 unfold dq
 rw [h g r w hC hO hd jf]
 exact ⟨ao.refl _ _,[],(fun _ h=>nomatch h),rfl⟩
theorem fc.call {m i:Nat} {U:LL} {H:LN} {o:Oper} {v:Value} {f:FuncId} (ho:l[i]? = some o) (hs:S[i]? = some ⟨true,pl fun _ _ u=>u=v⟩) (hg:o.guard=none)
  (h:∀ (g:Nat→List Nat) (r:NV) (w:World),ao H w0 w→(∀ j∈(bn l).getD i [],Old l S j r)→(∀ j,oj l U m i j=true→ra l S j g r w)→(∀ t,(∀ j,j < m→bg l j≠some t)→r t=r0 t)→
   ∃ args,(execOp (ev r) o).run P w = .ok (.enter f args) w∧Calls P f args w fun e w'=>e = .returned v∧ao [] w w'):fc P l m S U r0 w0 H i:=by
 intro o' s' cq fg g r w hC hV hO hd jf Au pL
 obtain rfl:o=o':=Option.some.inj (ho.symm.trans cq)
 obtain rfl:_=s':=Option.some.inj (hs.symm.trans fg)
 rw [if_pos rfl]
 refine ⟨by unfold Region.wanted; rw [hg],?_⟩
 unfold dq
 obtain ⟨args,h1,h2⟩:=h g r w hC hO hd jf
 rw [h1]
 exact h2.mono fun e w' ⟨he,hc⟩=>⟨v,he,hc.nil,[],(fun _ h=>nomatch h),rfl⟩
theorem fc.mem {m i:Nat} {U:LL} {H:LN} {o:Oper} {V:List Nat→World→Value→Prop} (ho:l[i]? = some o) (hs:S[i]? = some ⟨true,pl V⟩) (hg:o.guard=none)
  (h:∀ (g:Nat→List Nat) (r:NV) (w:World),ao H w0 w→(∀ j∈(bn l).getD i [],Old l S j r)→(∀ j,oj l U m i j=true→ra l S j g r w)→(∀ t,(∀ j,j < m→bg l j≠some t)→r t=r0 t)→
   dq P o r w fun v w'=>ao [] w w'∧∃ f,(∀ b∈f,w.heap.size≤b∧b < w'.heap.size)∧V f w' v):fc P l m S U r0 w0 H i:=by
 intro o' s' cq fg g r w hC hV hO hd jf Au pL
 obtain rfl:o=o':=Option.some.inj (ho.symm.trans cq)
 obtain rfl:_=s':=Option.some.inj (hs.symm.trans fg)
 rw [if_pos rfl]
 refine ⟨by unfold Region.wanted; rw [hg],ot (h g r w hC hO hd jf) ?_⟩
 rintro v w' ⟨hC,f,hf,hV⟩
 exact ⟨hC.nil,f,fun b hb=>⟨.inr (hf b hb).1,(hf b hb).2⟩,hV⟩
theorem fc.JR {m i:Nat} {U:LL} {H:LN} {o:Oper} {V:List Nat→World→(Nat→Value)→Value→Prop} (ho:l[i]? = some o) (hs:S[i]? = some ⟨true,V⟩) (hg:o.guard=none)
  (h:∀ (g:Nat→List Nat) (r:NV) (w:World),ao H w0 w→(∀ j∈(bn l).getD i [],Old l S j r)→(∀ j,oj l U m i j=true→ra l S j g r w)→(∀ t,(∀ j,j < m→bg l j≠some t)→r t=r0 t)→
   dq P o r w fun v w'=>ao [] w w'∧∃ f,(∀ b∈f,w.heap.size≤b∧b < w'.heap.size)∧V f w' r v):fc P l m S U r0 w0 H i:=by
 intro o' s' cq fg g r w hC hV hO hd jf Au pL
 obtain rfl:o=o':=Option.some.inj (ho.symm.trans cq)
 obtain rfl:_=s':=Option.some.inj (hs.symm.trans fg)
 rw [if_pos rfl]
 refine ⟨by unfold Region.wanted; rw [hg],ot (h g r w hC hO hd jf) ?_⟩
 rintro v w' ⟨hC,f,hf,hV⟩
 exact ⟨hC.nil,f,fun b hb=>⟨.inr (hf b hb).1,(hf b hb).2⟩,hV⟩
def As {α:Type} (T:ag α) (x:α):List Nat→World→Value→Prop:=fun f w v=>T.rep w.heap [v] x f∧f.Nodup
def Vi (cs:LV) (e:TI) (n:Nat):List Nat→World→Value→Prop:=fun f w v=>∃ b,f=[b]∧v = .slice (some ⟨b,0,none⟩) n n∧Row w b cs e
def Co (a:LN) (l:LO) (s:dx):Prop:=∀ f F (w w':World) (r r':NV) v,ao F w w'→(∀ b∈f,b ∉ F)→(∀ j∈a,∀ t,bg l j=some t→r' t=r t)→s.V f w r v→s.V f w' r' v
theorem Ip {a:LN} {b:Bool} {V:List Nat→World→Value→Prop} (h:∀ f F (w w':World) v,ao F w w'→(∀ b∈f,b ∉ F)→V f w v→V f w' v):Co a l ⟨b,pl V⟩:=
 fun f F w w' _ _ v hC hn _ hv=>h f F w w' v hC hn hv
theorem Ge {a:LN} {b:Bool} {u:Value}:Co a l ⟨b,pl fun _ _ v=>v=u⟩:=Ip fun _ _ _ _ _ _ _ h=>h
theorem dq.own {α:Type} {T:ag α} {x:α} {o:Oper} {r:NV} {w:World} {f:FuncId} {args:Array Value} (h:(execOp (ev r) o).run P w = .ok (.enter f args) w)
  (hc:Calls P f args w fun e w'=>∃ (v:Value) (k:LN),e = .returned v∧ao [] w w'∧OE [] w.heap.size w' T [v] x k) :
  dq P o r w fun v w'=>ao [] w w'∧∃ f,(∀ b∈f,w.heap.size≤b∧b < w'.heap.size)∧As T x f w' v:=by
 unfold dq
 rw [h]
 exact hc.mono fun e w' ⟨v,k,he,hC,ho⟩=>⟨v,he,hC,k,fun b hb=>⟨ho.fresh b hb,T.lt ho.1 b hb⟩,ho.1,ho.2.1⟩
theorem dq.made {α:Type} {T:ag α} {x:α} {o:Oper} {r:NV} {w:World} (h:∃ v w' f,(execOp (ev r) o).run P w = .ok (.value v) w'∧ao [] w w'∧OE [] w.heap.size w' T [v] x f) :
  dq P o r w fun v w'=>ao [] w w'∧∃ f,(∀ b∈f,w.heap.size≤b∧b < w'.heap.size)∧As T x f w' v:=by
 obtain ⟨v,w',f,hr,hC,ho⟩:=h
 unfold dq
 rw [hr]
 exact ⟨hC,f,fun b hb=>⟨ho.fresh b hb,T.lt ho.1 b hb⟩,ho.1,ho.2.1⟩
theorem xq {f g:LN} (h1:f.Nodup) (h2:g.Nodup) (d:pK f g):(f++g).Nodup:=List.nodup_append.2 ⟨h1,h2,fun a ha _ hb vy=>d a ha (vy ▸ hb)⟩
theorem dq.tr {α:Type} {E:ag α} {F f:LN} {t e et:TI} {s x:OO} {i:TypeInfo} {z:Value} {sv u:Value} {xs:List α} {y:α} {b:Nat} {r:NV} {w:World} {d:Option Nat} {ty:TI} {pos:String} {ae:Array Edge}
  (ht:P.underlying t=some (.slice e)) (hi:P.info? e=some i) (hz:i.zero=some z) (hs:i.size=1) (hE:E.size=1) (vv:z.oneCell'=true)
  (tJ:ev r s=sv) (hO:As (aI e E) xs f w sv) (hF:∀ b∈f,b∈F) (hx:ev r x = .slice (some ⟨b,0,none⟩) 1 1) (bo:Row w b [u] et) (hy:E.rep w.heap [u] y [])
  (hb:(xs.length+1) * i.bytes≤140737488355328) (uI:xs.length+1≤maxLen) :
  dq P ⟨d,.call ⟨.builtin .append,#[s,x],#[t,t]⟩,ty,pos,ae,none⟩ r w fun v w'=>ao F w w'∧∃ f',(∀ b∈f',(b∈F∨w.heap.size≤b)∧b < w'.heap.size)∧As (aI e E) (xs++[y]) f' w' v:=by
 obtain ⟨v,w',f',h,hC,ew,ea,dv⟩:=p7 (d:=d) (ty:=ty) (pos:=pos) (ae:=ae) (g:=none) (ys:=[y]) ht hi hz (by rw [hs,hE]) (by rw [cells_one vv,hE]; rfl) tJ hO.1 hO.2 hx bo.at (qy hy) (fun _ h=>nomatch h) (by simp) hb uI
 unfold dq
 rw [h]
 refine ⟨hC.mono hF,f',fun b hb=>⟨?_,ag.lt _ ew b hb⟩,ew,dv List.nodup_nil⟩
 rcases ea b hb with h | h | h
 ·exact .inl (hF b h)
 ·cases h
 ·exact .inr h
theorem dq.An {t e:TI} {i:TypeInfo} {z u:Value} {x:OO} {r:NV} {w:World} {d:Option Nat} {ty:TI} {pos:String} {ae:Array Edge} (ht:P.underlying t=some (.slice e)) (hi:P.info? e=some i) (hz:i.zero=some z)
  (hs:i.size=1) (hx:ev r x=u) (hv:u.oneCell'=true) :
  dq P ⟨d,.buildSlice t 1 #[(0,x)],ty,pos,ae,none⟩ r w fun v w'=>ao [] w w'∧∃ f,(∀ b∈f,w.heap.size≤b∧b < w'.heap.size)∧Vi [u] e 1 f w' v:=by
 unfold dq
 rw [Fx ht hi hz hs (by rw [hx]; exact hv),hx]
 exact ⟨ao.alloc _ _ _,[w.heap.size],fun b hb=>by rw [List.mem_singleton.1 hb]; simp,w.heap.size,rfl,rfl,heap_alloc_new w _⟩
end
end Go.Li
