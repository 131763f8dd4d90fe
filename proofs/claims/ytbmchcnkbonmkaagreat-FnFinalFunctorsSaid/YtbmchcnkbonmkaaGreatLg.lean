/- A region that draws its order, whatever it holds: its head in any order, its tail one behind the other. No condition. -/
import Derived.Test.YtbmchcnkbonmkaaGreatLf
import Derived.Still
namespace Go.Li
open Go
def mr (acc:LL) (o:Oper):List (List Nat):=
 acc++[(o.after.toList.filter (Region.binds .any)).flatMap fun e=>e.on :: acc.getD e.on []]
def bz (l:LO):List (List Nat):=l.foldl mr []
structure iw where
 b:Bool
 V:List Nat→World→(Nat→Value)→Value→Prop
abbrev pl (V:List Nat→World→Value→Prop):List Nat→World→(Nat→Value)→Value→Prop:=fun f w _ v=>V f w v
def o3 (P:Program) (n:Nat) (l:LO) (Q:Exit→(Nat→Value)→World→Prop) (r:NV) (w:World):Prop:=
 ∀ a:Act,a.tmps.size=n→a.defers=[]→cn a=r→wpAny P .any l.toArray (fun e a' w'=>a'.tmps.size=n∧a'.defers=[]∧Q e (cn a') w') l.toArray.size (Array.replicate l.toArray.size false) a { w with drawn:=w.drawn+1 }
theorem o3.W {P:Program} {n id:Nat} {l:LO} {Q:Exit→(Nat→Value)→World→Prop} {r:NV} {w:World} (hm:P.follows .mixedOrders=true) (h:o3 P n l Q r w):W P n (.region id l.toArray true) Q r w:=
 fun a h1 h2 h3=>wp_region_any hm (h a h1 h2 h3)
def Dp (π:LN) (o:Oper):Oper:=⟨o.dst,o.op,o.type,o.pos,(o.after.toList.map fun e=>⟨π.getD e.on 0,e.ground⟩).toArray,o.guard⟩
def rh (l:LO) (σ π:LN):List Oper:=σ.map fun k=>Dp π (l.getD k default)
def Qh (l:LO) (σ π:LN):Bool:=
 Nat.beq σ.length l.length && Nat.beq π.length l.length &&
 ((List.range l.length).all fun i=>Nat.blt (π.getD i 0) l.length && Nat.beq (σ.getD (π.getD i 0) 0) i && Nat.blt (σ.getD i 0) l.length && Nat.beq (π.getD (σ.getD i 0) 0) i) &&
 l.all fun o=>o.guard.isNone && o.after.toList.all fun e=>Nat.blt e.on l.length
theorem Xj {P:Program} {Q:Exit→Act→World→Prop} {π:LN} {o:Oper} {a:Act} {w:World} {K:Act→World→Prop}:(Dp π o).wp P a w K Q=o.wp P a w K Q:=by
 cases o; rfl
theorem Qz {P:Program} {π:LN} {o:Oper} {a:Act} {w:World}:(Dp π o).asks P a w=o.asks P a w:=by
 cases o; rfl
section
variable {P:Program} {l:LO} {σ π:LN} (h:Qh l σ π=true)
include h
theorem EA:σ.length=l.length∧π.length=l.length∧(∀ i,i < l.length→π.getD i 0 < l.length∧σ.getD (π.getD i 0) 0=i∧σ.getD i 0 < l.length∧π.getD (σ.getD i 0) 0=i)∧∀ o∈l,o.guard=none∧∀ e∈o.after.toList,e.on < l.length:=by
 unfold Qh at h
 simp only [Bool.and_eq_true,List.all_eq_true,List.mem_range] at h
 obtain ⟨⟨⟨h1,h2⟩,h3⟩,h4⟩:=h
 refine ⟨Nat.eq_of_beq_eq_true h1,Nat.eq_of_beq_eq_true h2,fun i hi=>?_,fun o ho=>?_⟩
 ·obtain ⟨⟨⟨a,b⟩,c⟩,d⟩:=h3 i hi
  exact ⟨Nat.lt_of_succ_le (Nat.le_of_ble_eq_true a),Nat.eq_of_beq_eq_true b,Nat.lt_of_succ_le (Nat.le_of_ble_eq_true c),Nat.eq_of_beq_eq_true d⟩
 ·obtain ⟨a,b⟩:=h4 o ho
  exact ⟨by simpa using a,fun e he=>Nat.lt_of_succ_le (Nat.le_of_ble_eq_true (b e he))⟩
theorem KY:(rh l σ π).length=l.length:=by unfold rh; rw [List.length_map]; exact (EA h).1
theorem KZ {i:Nat} {o:Oper} (ho:l[i]? = some o):(rh l σ π)[π.getD i 0]? = some (Dp π o):=by
 obtain ⟨h1,_,h3,_⟩:=EA h
 have hi:=(List.getElem?_eq_some_iff.1 ho).1
 obtain ⟨a,b,_,_⟩:=h3 i hi
 unfold rh
 rw [List.getElem?_map,List.getElem?_eq_getElem (by omega)]
 have e:σ[π.getD i 0]'(by omega)=i:=by
  rw [List.getD_eq_getElem?_getD,List.getElem?_eq_getElem (by omega)] at b
  simpa using b
 simp only [Option.map_some,Option.some.injEq]
 rw [e,List.getD_eq_getElem?_getD,ho]; rfl
theorem Of {Q:Exit→Act→World→Prop}:∀ (fuel:Nat) (L L':Array Bool) (a:Act) (w:World),L.size=l.length→L'.size=l.length→(∀ i,i < l.length→L'.getD (π.getD i 0) true=L.getD i true)→
  wpAny P .any (rh l σ π).toArray Q fuel L' a w→wpAny P .any l.toArray Q fuel L a w:=by
 obtain ⟨h1,h2,h3,h4⟩:=EA h
 have gd:∀ {L:Array Bool} {i:Nat} (b:Bool),L.size=l.length→i < l.length→L.getD i b=L.getD i true:=fun {L i} b hs hi=>by
  have:i < L.size:=by omega
  simp [Array.getD,this]
 have n8:∀ (L L':Array Bool),L.size=l.length→L'.size=l.length→(∀ i,i < l.length→L'.getD (π.getD i 0) true=L.getD i true)→∀ i,i < l.length→(i∈Region.ready .any l.toArray L↔π.getD i 0∈Region.ready .any (rh l σ π).toArray L'):=by
  intro L L' hs fh hL i hi
  rw [mem_ready,mem_ready,hL i hi]
  have ho:l[i]? = some (l[i]'hi):=List.getElem?_eq_getElem hi
  have cb:=KZ h ho
  have hg:=h4 _ (List.mem_of_getElem? ho)
  constructor
  ·rintro ⟨g1,o,g2,g3⟩
   refine ⟨g1,Dp π l[i],by simpa using cb,fun e he hb=>?_⟩
   have eo:l[i]=o:=by simpa [ho] using g2
   simp only [Dp,List.mem_toArray,List.mem_map] at he
   obtain ⟨e0,Og,rfl⟩:=he
   have bc:=hg.2 e0 Og
   have:=g3 e0 (by rw [← eo]; simpa using Og) hb
   rw [gd false fh (h3 _ bc).1,hL _ bc,← gd false hs bc]; exact this
  ·rintro ⟨g1,o,g2,g3⟩
   refine ⟨g1,l[i],by simp,fun e he hb=>?_⟩
   have eo:Dp π l[i]=o:=by
    have:(rh l σ π)[π.getD i 0]? = some o:=by simpa using g2
    rw [cb] at this
    exact Option.some.inj this
   have bc:=hg.2 e (by simpa using he)
   have:=g3 ⟨π.getD e.on 0,e.ground⟩ (by rw [← eo]; simp only [Dp,List.mem_toArray,List.mem_map]; exact ⟨e,by simpa using he,rfl⟩) hb
   rw [gd false fh (h3 _ bc).1,hL _ bc,← gd false hs bc] at this; exact this
 have back:∀ (L L':Array Bool),L.size=l.length→L'.size=l.length→(∀ i,i < l.length→L'.getD (π.getD i 0) true=L.getD i true)→Region.ready .any l.toArray L=[]→Region.ready .any (rh l σ π).toArray L'=[]:=by
  intro L L' hs fh hL he
  rw [List.eq_nil_iff_forall_not_mem]
  intro k hk
  have De:k < l.length:=by
   obtain ⟨_,o,g2,_⟩:=mem_ready.1 hk
   have:(rh l σ π)[k]? = some o:=by simpa using g2
   have:=(List.getElem?_eq_some_iff.1 this).1
   rwa [KY h] at this
  obtain ⟨_,_,c,d⟩:=h3 k De
  have:=(n8 L L' hs fh hL (σ.getD k 0) c).2 (by rw [d]; exact hk)
  rw [he] at this
  exact nomatch this
 intro fuel
 induction fuel with
 | zero=>
  intro L L' a w hs fh hL hh
  refine ⟨?_,hh.2⟩
  rw [List.eq_nil_iff_forall_not_mem]
  intro i hi
  have ux:i < l.length:=by
   obtain ⟨_,o,g2,_⟩:=mem_ready.1 hi
   have:l[i]? = some o:=by simpa using g2
   exact (List.getElem?_eq_some_iff.1 this).1
  have:=(n8 L L' hs fh hL i ux).1 hi
  rw [hh.1] at this
  exact nomatch this
 | succ fuel ih=>
  intro L L' a w hs fh hL hh
  refine ⟨fun he=>hh.1 (back L L' hs fh hL he),fun i hi=>?_⟩
  have ux:i < l.length:=by
   obtain ⟨_,o,g2,_⟩:=mem_ready.1 hi
   have:l[i]? = some o:=by simpa using g2
   exact (List.getElem?_eq_some_iff.1 this).1
  have ho:l[i]? = some (l[i]'ux):=List.getElem?_eq_getElem ux
  have hg:=h4 _ (List.mem_of_getElem? ho)
  have Oh:=hh.2 _ ((n8 L L' hs fh hL i ux).1 hi)
  have next:∀ a w,wpAny P .any (rh l σ π).toArray Q fuel (L'.setIfInBounds (π.getD i 0) true) a w→wpAny P .any l.toArray Q fuel (L.setIfInBounds i true) a w:=fun a w=>ih _ _ a w (by simpa using hs) (by simpa using fh) fun j hj=>by
   have hpj:=(h3 j hj).1
   have hpi:=(h3 i ux).1
   by_cases e:i=j
   ·subst e
    rw [Array.getD_eq_getD_getElem?,Array.getD_eq_getD_getElem?,Array.getElem?_setIfInBounds_self_of_lt (by omega),Array.getElem?_setIfInBounds_self_of_lt (by omega)]
   ·have e':π.getD i 0≠π.getD j 0:=fun q=>e (by rw [← (h3 i ux).2.1,q,(h3 j hj).2.1])
    have h5:=hL j hj
    have q1:(L'.setIfInBounds (π.getD i 0) true).getD (π.getD j 0) true=L'.getD (π.getD j 0) true:=by
     rw [Array.getD_eq_getD_getElem?,Array.getD_eq_getD_getElem?,Array.getElem?_setIfInBounds_ne e']
    have q2:(L.setIfInBounds i true).getD j true=L.getD j true:=by
     rw [Array.getD_eq_getD_getElem?,Array.getD_eq_getD_getElem?,Array.getElem?_setIfInBounds_ne e]
    rw [q1,q2,h5]
  have ga:(l.toArray)[i]? = some (l[i]'ux):=by simp
  have gb:((rh l σ π).toArray)[π.getD i 0]? = some (Dp π (l[i]'ux)):=by simpa using KZ h ho
  unfold wpOp at Oh ⊢
  rw [gb] at Oh
  rw [ga]
  have w1:Region.wanted (l[i]'ux) (yielded l.toArray a.tmps)=true:=by unfold Region.wanted; rw [hg.1]
  have w2:Region.wanted (Dp π (l[i]'ux)) (yielded (rh l σ π).toArray a.tmps)=true:=by unfold Region.wanted; show (match (l[i]'ux).guard with | none=>true | some (j,want)=>_)=true; rw [hg.1]
  simp only [w2,if_true] at Oh
  simp only [w1,if_true]
  rw [Xj,Qz] at Oh
  exact Oh.imp (fun g=>Oper.wp_mono next g) id
theorem o3.prm {n:Nat} {Q:Exit→(Nat→Value)→World→Prop} {r:NV} {w:World} (hw:o3 P n (rh l σ π) Q r w):o3 P n l Q r w:=by
 have hl:=KY h
 obtain ⟨_,_,h3,_⟩:=EA h
 intro a a1 a2 a3
 have:=hw a a1 a2 a3
 rw [show (rh l σ π).toArray.size=l.toArray.size by simpa using hl] at this
 refine Of h _ _ _ a _ (by simp) (by simp) (fun i hi=>?_) this
 have hq:=(h3 i hi).1
 rw [List.getD_eq_getElem?_getD] at hq
 simp [Array.getD,hi,hq]
end
section
variable {P:Program} {n:Nat} {Q:Exit→(Nat→Value)→World→Prop} {r0:NV} {w0:World} {l:LO} {S:List iw}
def bu (l:LO) (j:Nat):Option Nat:=(l[j]?).bind (·.dst)
def yk (l:LO) (S:List iw) (j:Nat) (g:Nat→List Nat) (r:NV) (w:World):Prop:=
 (∀ d,bu l j=some d→match S[j]? with
  | some s=>if s.b then s.V (g j) w r (r d) else r d=undef
  | none=>True)∧(bu l j=none→∀ s,S[j]? = some s→s.b=true→∃ x,s.V (g j) w r x)
def Old (l:LO) (S:List iw) (j:Nat) (r:NV):Prop:=∀ d,bu l j=some d→∀ s,S[j]? = some s→if s.b then ∃ f w,s.V f w r (r d) else r d=undef
structure A5 (l:LO) (m:Nat) (S:List iw) (U:LL) (r0:NV) (w0:World) (H:LN) (L:Nat→Prop) (g:Nat→List Nat) (r:NV) (w:World):Prop where
 lq:an H w0 w
 Cg:(∀ k,L k→l.length ∉ U.getD k [])→an [] w0 w∧g l.length=H
 vg:∀ b∈g l.length,b∈H
 vd:∀ j,L j→tx (g j) (g l.length)
 done:∀ j,L j→(∀ k,L k→j ∉ U.getD k [])→yk l S j g r w
 uF:∀ j,L j→Old l S j r
 other:∀ t,(∀ j,j < m→bu l j≠some t)→r t=r0 t
 fresh:∀ j,L j→∀ b∈g j,(w0.heap.size≤b∨(b∈H∧∃ k,L k∧l.length∈U.getD k []))∧b < w.heap.size
 xA:∀ i j,L i→L j→i≠j→tx (g i) (g j)
def vu (l:LO) (U:LL) (m i j:Nat):Bool:=
 ((bz l).getD i []).contains j && (List.range m).all fun k=>!((U.getD k []).contains j) || Nat.beq k i || ((bz l).getD k []).contains i
def sx (g:Nat→List Nat) (us:LN):List Nat:=us.flatMap g
def AZ (l:LO) (U:LL) (m i:Nat):Bool:=(List.range m).all fun k=>!((U.getD k []).contains l.length) || Nat.beq k i || ((bz l).getD k []).contains i
def lr (P:Program) (l:LO) (m:Nat) (S:List iw) (U:LL) (r0:NV) (w0:World) (H:LN) (i:Nat):Prop:=
 ∀ o s,l[i]? = some o→S[i]? = some s→∀ (g:Nat→List Nat) (r:NV) (w:World),an H w0 w→(AZ l U m i=true→an [] w0 w∧g l.length=H∧∀ j∈(bz l).getD i [],∀ b∈g j,w0.heap.size≤b)→(∀ j∈(bz l).getD i [],Old l S j r)→(∀ j,vu l U m i j=true→yk l S j g r w)→(∀ t,(∀ j,j < m→bu l j≠some t)→r t=r0 t)→
  (∀ i'∈(bz l).getD i [],∀ j'∈(bz l).getD i [],i'≠j'→tx (g i') (g j'))→(∀ j∈(bz l).getD i [],∀ b∈g j,(w0.heap.size≤b∨b∈H)∧b < w.heap.size)→
  if s.b then Region.wanted o (yl l r)=true∧gy P o r w fun v w'=>an (sx g (U.getD i [])) w w'∧∃ f,(∀ b∈f,(b∈sx g (U.getD i [])∨w.heap.size≤b)∧b < w'.heap.size)∧s.V f w' r v
  else Region.wanted o (yl l r)=false
def Cd:List Nat→Bool
 | []=>true
 | x :: l=>!(l.contains x) && Cd l
theorem zX:∀ {l:LN},Cd l=true→l.Nodup
 | [],_=>List.nodup_nil
 | x :: l,h=>by
  simp only [Cd,Bool.and_eq_true,Bool.not_eq_true',List.contains_eq_mem,decide_eq_false_iff_not] at h
  exact List.nodup_cons.2 ⟨h.1,zX h.2⟩
def A3 (l:LO) (m:Nat) (Z:LN):Bool:=
 ((List.range l.length).all fun i=>((l.getD i default).after.toList.filter (Region.binds .any)).all fun e=>Nat.blt e.on i) &&
 ((List.range l.length).all fun i=>Nat.blt i m || (List.range i).all fun j=>((bz l).getD i []).contains j || Z.contains j) &&
 Cd ((l.take m).filterMap (·.dst))
def Xk (o:Oper):Bool:=match o.op with | .move _=>true | .extract _ _=>true | _=>false
def QB (l:LO) (i:Nat):Array Bool:=((List.range l.length).map fun j=>((bz l).getD i []).contains j).toArray
def Ik (l:LO) (m:Nat) (Z:LN):Bool:=
 Region.noSelect l.toArray && Z.all fun i=>Nat.blt i m && Region.free .any l.toArray (QB l i) i &&
  match l[i]? with
  | some o=>Xk o && o.guard.isNone
  | none=>false
theorem Oi {l:LO} {L:Array Bool} {i:Nat} (hL:∀ j∈(bz l).getD i [],L.getD j false=true) (h:Region.free .any l.toArray (QB l i) i=true):Region.free .any l.toArray L i=true:=by
 unfold Region.free at h ⊢
 cases ho:(l.toArray)[i]? with
 | none=>rw [ho] at h; cases h
 | some oi=>
  rw [ho] at h
  simp only [List.all_eq_true,List.mem_range,Bool.or_eq_true] at h ⊢
  intro j hj
  rcases h j hj with (h1 | h1) | h1
  ·exact .inl (.inl h1)
  ·have bc:j < l.length:=by simpa using hj
   have hm:j∈(bz l).getD i []:=by
    unfold QB at h1
    have:((List.range l.length).map fun j=>((bz l).getD i []).contains j)[j]? = some (((bz l).getD i []).contains j):=by
     rw [List.getElem?_map,List.getElem?_range bc]; rfl
    rw [Array.getD_eq_getD_getElem?,List.getElem?_toArray,this] at h1
    simpa using h1
   refine .inl (.inr ?_)
   have h2:=hL j hm
   rcases Nat.lt_or_ge j L.size with h' | h'
   ·simp [h'] at h2 ⊢; exact h2
   ·simp [Array.getElem?_eq_none h'] at h2
  ·exact .inr h1
theorem J7 {P:Program} {d:Option Nat} {x:OO} {k:Nat} {ty:TI} {pos:String} {ag:Array Edge} {g:Option (Nat×Bool)} {r:NV} {w:World} {K:Value→World→Prop} (h:gy P ⟨d,.extract x k,ty,pos,ag,g⟩ r w K) :
  ∃ v,(∀ w',(execOp (ev r) ⟨d,.extract x k,ty,pos,ag,g⟩).run P w' = .ok (.value v) w')∧K v w:=by
 have e:execOp (ev r) ⟨d,.extract x k,ty,pos,ag,g⟩ = (Instr.extract (ev r x) k>>=fun v=>pure (.value v)):=rfl
 unfold gy at h
 rw [e] at h ⊢
 generalize ev r x=u at h ⊢
 cases u
 case tuple vs=>
  cases hv:vs[k]? with
  | none=>simp [Instr.extract,hv,stuck,Result.andThen,Sem.run] at h
  | some v=>
   refine ⟨v,fun w'=>?_,?_⟩
   ·simp [Instr.extract,hv]
   ·simpa [Instr.extract,hv] using h
 all_goals simp [Instr.extract,stuck,Result.andThen,Sem.run] at h
theorem Bc (l:LO):∀ (i:Nat) (o:Oper),l[i]? = some o→(bz l)[i]? = some ((o.after.toList.filter (Region.binds .any)).flatMap fun e=>e.on :: ((bz l).take i).getD e.on []):=by
 have key:∀ (l:LO) (acc:LL),(l.foldl mr acc).length=acc.length+l.length∧(∀ j,j < acc.length→(l.foldl mr acc)[j]? = acc[j]?)∧
   ∀ i o,l[i]? = some o→(l.foldl mr acc)[acc.length+i]? = some ((o.after.toList.filter (Region.binds .any)).flatMap fun e=>e.on :: ((l.foldl mr acc).take (acc.length+i)).getD e.on []):=by
  intro l
  induction l with
  | nil=>intro acc; exact ⟨rfl,fun _ _=>rfl,fun i o h=>by simp at h⟩
  | cons x l ih=>
   intro acc
   obtain ⟨h1,h2,h3⟩:=ih (mr acc x)
   have hl:(mr acc x).length=acc.length+1:=by simp [mr]
   have hold:∀ j,j < acc.length→(mr acc x)[j]? = acc[j]?:=fun j hj=>by simp only [mr]; rw [List.getElem?_append_left hj]
   refine ⟨by simp only [List.foldl_cons,h1,hl,List.length_cons]; omega,fun j hj=>?_,?_⟩
   ·rw [List.foldl_cons,h2 j (by omega),hold j hj]
   ·intro i o hi
    cases i with
    | zero=>
     simp at hi
     subst hi
     have ZL:(List.foldl mr acc (x :: l)).take (acc.length+0)=acc:=by
      apply List.ext_getElem?
      intro j
      rw [Nat.add_zero,List.getElem?_take]
      split
      ·rename_i hj
       rw [List.foldl_cons,h2 j (by omega),hold j hj]
      ·rename_i hj
       rw [List.getElem?_eq_none (by omega)]
     rw [ZL]
     rw [Nat.add_zero,List.foldl_cons,h2 _ (by omega)]
     simp only [mr]
     rw [List.getElem?_append_right (Nat.le_refl _)]
     simp
    | succ i=>
     have:=h3 i o (by simpa using hi)
     rw [hl] at this
     rw [List.foldl_cons]
     rw [show acc.length+(i+1)=acc.length+1+i by omega]
     exact this
 intro i o hi
 have:=(key l []).2.2 i o hi
 simpa [bz] using this
theorem Ce (l:LO) (hb:∀ (i:Nat) (o:Oper),l[i]? = some o→∀ e∈o.after.toList.filter (Region.binds .any),e.on < i) :
  ∀ (i j:Nat),j∈(bz l).getD i []→j < i∧∃ o,l[i]? = some o∧∃ e∈o.after.toList.filter (Region.binds .any),j=e.on∨j∈(bz l).getD e.on []:=by
 intro i j hj
 cases ho:l[i]? with
 | none=>
  have hlen:(bz l).length=l.length:=by
   have:∀ (l:LO) (acc:LL),(l.foldl mr acc).length=acc.length+l.length:=by
    intro l
    induction l with
    | nil=>intro acc; rfl
    | cons x l ih=>intro acc; rw [List.foldl_cons,ih]; simp [mr]; omega
   simpa [bz] using this l []
  rw [List.getD_eq_getElem?_getD,List.getElem?_eq_none (by rw [hlen]; exact List.getElem?_eq_none_iff.1 ho)] at hj
  simp at hj
 | some o=>
  have h:=Bc l i o ho
  rw [List.getD_eq_getElem?_getD,h] at hj
  simp only [Option.getD_some,List.mem_flatMap,List.mem_cons] at hj
  obtain ⟨e,he,hj⟩:=hj
  have bc:=hb i o ho e he
  have Xl:((bz l).take i).getD e.on []=(bz l).getD e.on []:=by
   rw [List.getD_eq_getElem?_getD,List.getD_eq_getElem?_getD,List.getElem?_take,if_pos bc]
  rw [Xl] at hj
  refine ⟨?_,o,rfl,e,he,hj⟩
  rcases hj with rfl | hj
  ·exact bc
  ·-- by the strong law below
   have:∀ (k i:Nat),i≤k→∀ j∈(bz l).getD i [],j < i:=by
    intro k
    induction k with
    | zero=>
     intro i hi j hj
     obtain rfl:i=0:=by omega
     cases ho:l[0]? with
     | none=>
      obtain rfl:l=[]:=by cases l with | nil=>rfl | cons=>simp at ho
      simp [bz] at hj
     | some o=>
      have h:=Bc l 0 o ho
      rw [List.getD_eq_getElem?_getD,h] at hj
      simp only [Option.getD_some,List.mem_flatMap] at hj
      obtain ⟨e,he,_⟩:=hj
      exact absurd (hb 0 o ho e he) (Nat.not_lt_zero _)
    | succ k ih=>
     intro i hi j hj
     cases ho:l[i]? with
     | none=>
      have hlen:(bz l).length=l.length:=by
       have:∀ (l:LO) (acc:LL),(l.foldl mr acc).length=acc.length+l.length:=by
        intro l
        induction l with
        | nil=>intro acc; rfl
        | cons x l ih=>intro acc; rw [List.foldl_cons,ih]; simp [mr]; omega
       simpa [bz] using this l []
      rw [List.getD_eq_getElem?_getD,List.getElem?_eq_none (by rw [hlen]; exact List.getElem?_eq_none_iff.1 ho)] at hj
      simp at hj
     | some o=>
      have h:=Bc l i o ho
      rw [List.getD_eq_getElem?_getD,h] at hj
      simp only [Option.getD_some,List.mem_flatMap,List.mem_cons] at hj
      obtain ⟨e,he,hj⟩:=hj
      have bc:=hb i o ho e he
      rcases hj with rfl | hj
      ·exact bc
      ·have Xl:((bz l).take i).getD e.on []=(bz l).getD e.on []:=by
        rw [List.getD_eq_getElem?_getD,List.getD_eq_getElem?_getD,List.getElem?_take,if_pos bc]
       rw [Xl] at hj
       have:=ih e.on (by omega) j hj
       omega
   exact Nat.lt_trans (this e.on e.on (Nat.le_refl _) j hj) bc
theorem El (l:LO) (hb:∀ (i:Nat) (o:Oper),l[i]? = some o→∀ e∈o.after.toList.filter (Region.binds .any),e.on < i) {j k:Nat} (hj:j∈(bz l).getD k []):∀ {i:Nat},k∈(bz l).getD i []→j∈(bz l).getD i []:=by
 intro i
 induction i using Nat.strongRecOn with
 | _ i ih=>
  intro hk
  obtain ⟨_,o,ho,e,he,Xm⟩:=Ce l hb i k hk
  have bc:=hb i o ho e he
  have h2:j∈(bz l).getD e.on []:=Xm.elim (fun h=>h ▸ hj) (fun h=>ih e.on bc h)
  have h:=Bc l i o ho
  rw [List.getD_eq_getElem?_getD,h]
  simp only [Option.getD_some,List.mem_flatMap,List.mem_cons]
  refine ⟨e,he,.inr ?_⟩
  rw [List.getD_eq_getElem?_getD,List.getElem?_take,if_pos bc,← List.getD_eq_getElem?_getD]
  exact h2
theorem getD_both {IL:Array Bool} {i:Nat} (h:IL.getD i true=false):IL.getD i false=false:=by
 rcases Nat.lt_or_ge i IL.size with h' | h'
 ·simp [h'] at h ⊢; exact h
 ·simp [Array.getElem?_eq_none h'] at h
theorem getD_replicate_false (m j:Nat):(Array.replicate m false).getD j false=false:=by
 rcases Nat.lt_or_ge j m with h | h
 ·simp [h]
 ·simp [h]
theorem GA:∀ (l:LO),(l.filterMap (·.dst)).Nodup→∀ i j d,bu l i=some d→bu l j=some d→i=j:=by
 intro l
 induction l with
 | nil=>intro _ i j d h; simp [bu] at h
 | cons o l ih=>
  intro hn i j d hi hj
  have FN:∀ k,bu (o :: l) (k+1)=some d→d∈l.filterMap (·.dst):=by
   intro k hk
   simp only [bu,List.getElem?_cons_succ] at hk
   cases ho:l[k]? with
   | none=>rw [ho] at hk; cases hk
   | some x=>rw [ho] at hk; exact List.mem_filterMap.2 ⟨x,List.mem_of_getElem? ho,hk⟩
  have h0:∀ e,o.dst=some e→e ∉ l.filterMap (·.dst)∧(l.filterMap (·.dst)).Nodup:=by
   intro e he
   rw [List.filterMap_cons_some he] at hn
   exact List.nodup_cons.1 hn
  have tP:(l.filterMap (·.dst)).Nodup:=by
   cases hd:o.dst with
   | none=>rwa [List.filterMap_cons_none hd] at hn
   | some e=>exact (h0 e hd).2
  cases i with
  | zero=>
   cases j with
   | zero=>rfl
   | succ j=>exact absurd (FN j hj) (h0 d (by simpa [bu] using hi)).1
  | succ i=>
   cases j with
   | zero=>exact absurd (FN i hi) (h0 d (by simpa [bu] using hj)).1
   | succ j=>rw [ih tP i j d (by simpa [bu] using hi) (by simpa [bu] using hj)]
theorem lv {m j:Nat} (hj:j < m):bu (l.take m) j=bu l j:=by
 unfold bu
 rw [List.getElem?_take,if_pos hj]
theorem sa {o:Oper} {r:NV} {w:World} {K K':Value→World→Prop} (h:gy P o r w K) (hk:∀ v w',K v w'→K' v w'):gy P o r w K':=by
 unfold gy at h ⊢
 cases hr:(execOp (ev r) o).run P w with
 | ok x w'=>
  rw [hr] at h
  cases x with
  | value v=>exact hk _ _ h
  | skip=>exact hk _ _ h
  | enter f args=>exact h.mono fun e Gr ⟨v,he,hv⟩=>⟨v,he,hk _ _ hv⟩
  | _=>exact h
 | _=>rw [hr] at h; exact h.elim
theorem NR {m:Nat} {Z:LN} (h:A3 l m Z=true):∀ (i:Nat) (o:Oper),l[i]? = some o→∀ e∈o.after.toList.filter (Region.binds .any),e.on < i:=by
 simp only [A3,Bool.and_eq_true,List.all_eq_true,List.mem_range] at h
 intro i o ho e he
 have hi:i < l.length:=(List.getElem?_eq_some_iff.1 ho).1
 have:=h.1.1 i hi e (by rw [List.getD_eq_getElem?_getD,ho]; exact he)
 exact Nat.lt_of_succ_le (Nat.le_of_ble_eq_true this)
theorem Wn {m:Nat} {U:LL} {Z H:LN} {N:Nat→Prop} (hd:df n l=true) (hA:A3 l m Z=true) (hZ:Ik l m Z=true) (hp:∀ c r w,Q (.panic c) r w→False) (yo:m≤l.length)
  (hS:S.length=m)
  (hH:∀ b∈H,b < w0.heap.size) (hU:((List.range m).all fun i=>(U.getD i []).all fun u=>Nat.beq u l.length || ((bz l).getD i []).contains u)=true)
  (hN:∀ b,N b→b < w0.heap.size∧b ∉ H)
  (sy:∀ (i:Nat) (s:iw),S[i]? = some s→∀ f F (w w':World) (r r':NV) v,an F w w'→(∀ b∈f,b ∉ F)→(∀ b∈F,¬ N b)→(∀ j∈(bz l).getD i [],∀ t,bu l j=some t→r' t=r t)→s.V f w r v→s.V f w' r' v)
  (Qk:∀ i,i < m→lr P l m S U r0 w0 H i)
  (next:∀ g r w,A5 l m S U r0 w0 H (fun j=>j < m) g r w→WL P l (l.drop m) r w (Q .normal)) :
  o3 P n l Q r0 w0:=by
 simp only [A3,Bool.and_eq_true,List.all_eq_true,List.mem_range,Bool.or_eq_true] at hA
 obtain ⟨⟨WD,Gz⟩,WE⟩:=hA
 have xI:∀ (i:Nat) (o:Oper),l[i]? = some o→∀ e∈o.after.toList.filter (Region.binds .any),e.on < i:=by
  intro i o ho e he
  have hi:i < l.length:=(List.getElem?_eq_some_iff.1 ho).1
  have:=WD i hi e (by rw [List.getD_eq_getElem?_getD,ho]; exact he)
  exact Nat.lt_of_succ_le (Nat.le_of_ble_eq_true this)
 have FG:∀ i,m≤i→i < l.length→∀ j,j < i→j∈(bz l).getD i []∨j∈Z:=by
  intro i h1 h2 j hj
  rcases Gz i h2 with h | h
  ·exact absurd (Nat.lt_of_succ_le (Nat.le_of_ble_eq_true h)) (Nat.not_lt.2 h1)
  ·have:=h j hj
   simpa using this
 simp only [Ik,Bool.and_eq_true,List.all_eq_true] at hZ
 obtain ⟨KQ,hZ⟩:=hZ
 have Xn:∀ z∈Z,z < m:=fun z hz=>Nat.lt_of_succ_le (Nat.le_of_ble_eq_true (hZ z hz).1.1)
 have WG:∀ i,i < m→∀ u∈U.getD i [],u=l.length∨u∈(bz l).getD i []:=by
  intro i hi u hu
  simp only [List.all_eq_true,List.mem_range] at hU
  have:=hU i hi u hu
  simpa using this
 have du:=GA _ (zX WE)
 have sb:=Ce l xI
 intro a h1 h2 h3
 let Cl (L:Array Bool):Prop:=L.size=l.length∧∀ j o,l[j]? = some o→L.getD j false=true→∀ e∈o.after.toList.filter (Region.binds .any),L.getD e.on false=true
 have ju:∀ L,Cl L→∀ i j,(∀ o,l[i]? = some o→∀ e∈o.after.toList.filter (Region.binds .any),L.getD e.on false=true)→j∈(bz l).getD i []→L.getD j false=true:=by
  intro L hL i
  induction i using Nat.strongRecOn with
  | _ i ih=>
   intro j hi hj
   obtain ⟨_,o,ho,e,he,Ir⟩:=sb i j hj
   have hl:=hi o ho e he
   rcases Ir with rfl | Ir
   ·exact hl
   ·exact ih e.on (xI i o ho e he) j (fun o' cb e' sR=>hL.2 _ _ cb hl e' sR) Ir
 have n8:∀ L i,i∈Region.ready .any l.toArray L→L.getD i true=false∧∃ o,l[i]? = some o∧∀ e∈o.after.toList.filter (Region.binds .any),L.getD e.on false=true:=by
  intro L i hi
  obtain ⟨g1,o,ho,de⟩:=mem_ready.1 hi
  refine ⟨g1,o,by simpa using ho,fun e he=>?_⟩
  have:=List.mem_filter.1 he
  exact de e (by simpa using this.1) this.2
 have Eo:∀ L i o,L.size=l.length→l[i]? = some o→L.getD i false=false→(∀ e∈o.after.toList.filter (Region.binds .any),L.getD e.on false=true)→i∈Region.ready .any l.toArray L:=by
  intro L i o hs ho hu de
  refine mem_ready.2 ⟨?_,o,by simpa using ho,fun e he hb=>de e (List.mem_filter.2 ⟨by simpa using he,hb⟩)⟩
  have hi:i < L.size:=by rw [hs]; exact (List.getElem?_eq_some_iff.1 ho).1
  simp [hi] at hu ⊢; exact hu
 have Ho:∀ L i o,Cl L→l[i]? = some o→(∀ e∈o.after.toList.filter (Region.binds .any),L.getD e.on false=true)→Cl (L.setIfInBounds i true):=by
  intro L i o hL ho de
  refine ⟨by rw [Array.size_setIfInBounds]; exact hL.1,fun j o' cb hj e he=>?_⟩
  by_cases s8:i=j
  ·subst s8
   have:o'=o:=Option.some.inj (cb.symm.trans ho)
   subst this
   exact getD_set_true (de e he)
  ·rw [getD_set_ne false s8] at hj
   exact getD_set_true (hL.2 j o' cb hj e he)
 have getSet:∀ (L:Array Bool) i j,L.size=l.length→i < l.length→((L.setIfInBounds i true).getD j false=true↔j=i∨L.getD j false=true):=by
  intro L i j hs hi
  by_cases s8:i=j
  ·subst s8
   simp [hs,hi]
  ·rw [getD_set_ne false s8]
   constructor
   ·exact .inr
   ·rintro (h | h)
    ·exact absurd h.symm s8
    ·exact h
 have Is:∀ (L:Array Bool) i,L.size=l.length→i < l.length→L.getD i false=false→(L.setIfInBounds i true).toList.count false+1=L.toList.count false:=by
  intro L i hs hi hu
  have sW:i < L.toList.length:=by simpa [hs] using hi
  have Dj:L.toList[i]=false:=by
   rw [Array.getElem_toList]
   simp [hs,hi] at hu
   exact hu
  rw [Array.toList_setIfInBounds,List.count_set sW,Dj]
  have:0 < L.toList.count false:=List.count_pos_iff.2 (by rw [← Dj]; exact List.getElem_mem sW)
  rw [if_pos (by rfl),if_neg (by decide)]
  omega
 have tail:∀ (d k fuel:Nat) (L:Array Bool) (a:Act) (w:World),l.length - k=d→m≤k→k≤l.length→Cl L→(∀ j,L.getD j false=true↔j < k)→L.toList.count false≤fuel→a.tmps.size=n→a.defers=[]→
   WL P l (l.drop k) (cn a) w (Q .normal)→wpAny P .any l.toArray (fun e a' w'=>a'.tmps.size=n∧a'.defers=[]∧Q e (cn a') w') fuel L a w:=by
  intro d
  induction d with
  | zero=>
   intro k fuel L a w hk hmk De hL ja hf g1 g2 hW
   obtain rfl:k=l.length:=by omega
   rw [List.drop_length] at hW
   have tK:Region.ready .any l.toArray L=[]:=by
    apply List.eq_nil_iff_forall_not_mem.2
    intro i hi
    obtain ⟨q1,o,ho,_⟩:=n8 L i hi
    have bc:i < l.length:=(List.getElem?_eq_some_iff.1 ho).1
    have:=(ja i).2 bc
    simp [hL.1,bc] at q1 this
    rw [q1] at this; cases this
   cases fuel with
   | zero=>exact ⟨tK,g1,g2,hW⟩
   | succ fuel=>exact ⟨fun _=>⟨g1,g2,hW⟩,fun i hi=>by rw [tK] at hi; cases hi⟩
  | succ d ih=>
   intro k fuel L a w hk hmk De hL ja hf g1 g2 hW
   have Mw:k < l.length:=by omega
   obtain ⟨o,ho⟩ : ∃ o,l[k]? = some o:=⟨l[k],List.getElem?_eq_getElem Mw⟩
   have Xo:L.getD k false=false:=by
    cases hb:L.getD k false with
    | false=>rfl
    | true=>exact absurd ((ja k).1 hb) (Nat.lt_irrefl _)
   have nz:k∈Region.ready .any l.toArray L:=Eo L k o hL.1 ho Xo fun e he=>(ja _).2 (xI k o ho e he)
   have ZM:l.drop k=o :: l.drop (k+1):=by rw [List.drop_eq_getElem_cons Mw]; congr 1; exact Option.some.inj ((List.getElem?_eq_getElem Mw).symm.trans ho)
   rw [ZM] at hW
   have hc:=Is L k hL.1 Mw Xo
   cases fuel with
   | zero=>omega
   | succ fuel=>
    refine ⟨fun h=>(by rw [h] at nz; cases nz),fun i hi=>?_⟩
    obtain ⟨q1,oi,oh,de⟩:=n8 L i hi
    have gh:i < l.length:=(List.getElem?_eq_some_iff.1 oh).1
    have vz:L.getD i false=false:=getD_both q1
    have hik:i=k:=by
     rcases Nat.lt_trichotomy i k with h | h | h
     ·have:=(ja i).2 h; rw [vz] at this; cases this
     ·exact h
     ·have:=ju L hL i k (fun o' cb=>by have:o'=oi:=Option.some.inj (cb.symm.trans oh); subst this; exact de) ((FG i (by omega) gh k h).resolve_right fun hz=>absurd (Xn k hz) (by omega))
      rw [Xo] at this; cases this
    subst hik
    have N0:oi=o:=Option.some.inj (oh.symm.trans ho)
    subst N0
    have GC:∀ k',oi.dst=some k'→k' < a.tmps.size:=by
     intro k' sZ
     have s7:oi∈l:=List.mem_of_getElem? oh
     simp only [df,List.all_eq_true] at hd
     have:=hd oi s7
     rw [sZ] at this
     rw [g1]
     exact Nat.lt_of_succ_le (Nat.le_of_ble_eq_true this)
    have Dl:=Ho L i oi hL oh de
    have A7:∀ j,(L.setIfInBounds i true).getD j false=true↔j < i+1:=by
     intro j
     rw [getSet L i j hL.1 gh,ja j]
     omega
    unfold wpOp
    rw [show (l.toArray)[i]? = some oi by simpa using oh]
    simp only []
    rw [A6 (by rw [g1]; exact hd)]
    rcases hW with ⟨hw,hW⟩ | ⟨hw,hW⟩
    ·rw [if_pos hw]
     exact .inl (hW.wp fun v w' hv=>ih (i+1) fuel _ _ _ (by omega) (by omega) (by omega) Dl A7 (by omega) (by rw [lh]; exact g1) (by rw [jc]; exact g2) (by rw [mg GC]; exact hv))
    ·rw [if_neg (by rw [hw]; exact Bool.false_ne_true)]
     exact ih (i+1) fuel _ _ _ (by omega) (by omega) (by omega) Dl A7 (by omega) (by rw [lh]; exact g1) (by rw [jc]; exact g2) (by rw [mg GC]; exact hW)
 have head:∀ (fuel:Nat) (L:Array Bool) (a:Act) (w:World) (g:Nat→List Nat),Cl L→(∀ j,L.getD j false=true→j < m)→L.toList.count false≤fuel→a.tmps.size=n→a.defers=[]→
   A5 l m S U r0 w0 H (fun j=>L.getD j false=true) g (cn a) w→wpAny P .any l.toArray (fun e a' w'=>a'.tmps.size=n∧a'.defers=[]∧Q e (cn a') w') fuel L a w:=by
  intro fuel
  induction fuel with
  | zero=>
   intro L a w g hL vx hf g1 g2 inv
   have de:∀ j,j < l.length→L.getD j false=true:=by
    intro j hj
    cases hb:L.getD j false with
    | true=>rfl
    | false=>have:=Is L j hL.1 hj hb; omega
   have ja:∀ j,L.getD j false=true↔j < m:=fun j=>⟨vx j,fun h=>de j (by omega)⟩
   refine tail _ m 0 L a w rfl (Nat.le_refl _) yo hL ja hf g1 g2 (next g _ _ ?_)
   exact ⟨inv.lq,fun hk=>inv.Cg fun k yt=>hk k ((ja k).1 yt),inv.vg,fun j hj=>inv.vd j ((ja j).2 hj),fun j hj hk=>inv.done j ((ja j).2 hj) (fun k yt=>hk k ((ja k).1 yt)),fun j hj=>inv.uF j ((ja j).2 hj),inv.other,fun j hj b hb=>⟨(inv.fresh j ((ja j).2 hj) b hb).1.imp (fun h=>h) fun h=>⟨h.1,h.2.imp fun k hk=>⟨(ja k).1 hk.1,hk.2⟩⟩,(inv.fresh j ((ja j).2 hj) b hb).2⟩,fun i j hi hj=>inv.xA i j ((ja i).2 hi) ((ja j).2 hj)⟩
  | succ fuel ih=>
   intro L a w g hL vx hf g1 g2 inv
   by_cases de:∀ j,j < m→L.getD j false=true
   ·have ja:∀ j,L.getD j false=true↔j < m:=fun j=>⟨vx j,de j⟩
    refine tail _ m _ L a w rfl (Nat.le_refl _) yo hL ja hf g1 g2 (next g _ _ ?_)
    exact ⟨inv.lq,fun hk=>inv.Cg fun k yt=>hk k ((ja k).1 yt),inv.vg,fun j hj=>inv.vd j ((ja j).2 hj),fun j hj hk=>inv.done j ((ja j).2 hj) (fun k yt=>hk k ((ja k).1 yt)),fun j hj=>inv.uF j ((ja j).2 hj),inv.other,fun j hj b hb=>⟨(inv.fresh j ((ja j).2 hj) b hb).1.imp (fun h=>h) fun h=>⟨h.1,h.2.imp fun k hk=>⟨(ja k).1 hk.1,hk.2⟩⟩,(inv.fresh j ((ja j).2 hj) b hb).2⟩,fun i j hi hj=>inv.xA i j ((ja i).2 hi) ((ja j).2 hj)⟩
   ·obtain ⟨j0,SV,GB⟩ : ∃ j,j < m∧L.getD j false=false:=by
     apply Classical.byContradiction
     intro tK
     apply de
     intro j hj
     cases hb:L.getD j false with
     | true=>rfl
     | false=>exact absurd ⟨j,hj,hb⟩ tK
    have Mg:∃ i,i∈Region.ready .any l.toArray L:=by
     have:∀ k,(∃ j,j < k∧j < m∧L.getD j false=false)→∃ i,i∈Region.ready .any l.toArray L:=by
      intro k
      induction k with
      | zero=>rintro ⟨j,h,_⟩; omega
      | succ k Eg=>
       rintro ⟨j,NW,Ch,tL⟩
       by_cases tU:∃ j,j < k∧j < m∧L.getD j false=false
       ·exact Eg tU
       ·obtain rfl:j=k:=by
         apply Classical.byContradiction
         intro h
         exact tU ⟨j,by omega,Ch,tL⟩
        have Ci:j < l.length:=by omega
        refine ⟨j,Eo L j l[j] hL.1 (List.getElem?_eq_getElem Ci) tL fun e he=>?_⟩
        have bc:=xI j _ (List.getElem?_eq_getElem Ci) e he
        cases hb:L.getD e.on false with
        | true=>rfl
        | false=>exact absurd ⟨e.on,bc,by omega,hb⟩ tU
     exact this (j0+1) ⟨j0,by omega,SV,GB⟩
    have main:∀ i oi,i < m→l[i]? = some oi→L.getD i false=false→(∀ e∈oi.after.toList.filter (Region.binds .any),L.getD e.on false=true)→
      (Region.wanted oi (yl l (cn a))=true∧gy P oi (cn a) w fun v w'=>wpAny P .any l.toArray (fun e a' w'=>a'.tmps.size=n∧a'.defers=[]∧Q e (cn a') w') fuel (L.setIfInBounds i true) (a.put oi.dst v) w')∨
      (Region.wanted oi (yl l (cn a))=false∧wpAny P .any l.toArray (fun e a' w'=>a'.tmps.size=n∧a'.defers=[]∧Q e (cn a') w') fuel (L.setIfInBounds i true) (a.put oi.dst undef) w):=by
     intro i oi vy oh vz vA
     have gh:i < l.length:=(List.getElem?_eq_some_iff.1 oh).1
     have nv:∀ o,l[i]? = some o→∀ e∈o.after.toList.filter (Region.binds .any),L.getD e.on false=true:=fun o' cb=>by
      have:o'=oi:=Option.some.inj (cb.symm.trans oh)
      subst this; exact vA
     obtain ⟨s,hs⟩ : ∃ s,S[i]? = some s:=⟨S[i]'(by omega),List.getElem?_eq_getElem (by omega)⟩
     have hc:=Is L i hL.1 gh vz
     have Dl:=Ho L i oi hL oh vA
     have Cj:∀ j,(L.setIfInBounds i true).getD j false=true→j < m:=by
      intro j hj
      rcases (getSet L i j hL.1 gh).1 hj with rfl | hj
      ·exact vy
      ·exact vx j hj
     have Ep:∀ k,L.getD k false=true→k≠i∧i ∉ (bz l).getD k []:=by
      intro k hk
      refine ⟨fun h=>(by rw [h,vz] at hk; cases hk),fun s7=>?_⟩
      have:=ju L hL k i (fun o' cb e' sR=>hL.2 k o' cb hk e' sR) s7
      rw [vz] at this; cases this
     have ow:=Qk i vy oi s oh hs g (cn a) w inv.lq (fun hV=>by
       have tK:∀ k,L.getD k false=true→l.length ∉ U.getD k []:=fun k hk It=>by
        simp only [AZ,List.all_eq_true,List.mem_range,Bool.or_eq_true,Bool.not_eq_true',List.contains_eq_mem,decide_eq_false_iff_not,decide_eq_true_eq] at hV
        rcases hV k (vx k hk) with (h | h) | h
        ·exact h It
        ·exact (Ep k hk).1 (Nat.eq_of_beq_eq_true h)
        ·exact (Ep k hk).2 h
       have h0:=inv.Cg tK
       exact ⟨h0.1,h0.2,fun j hj b hb=>(inv.fresh j (ju L hL i j nv hj) b hb).1.elim (fun h=>h) fun h=>absurd h.2.choose_spec.2 (tK _ h.2.choose_spec.1)⟩) (fun j hj=>inv.uF j (ju L hL i j nv hj)) (fun j hj=>by
       simp only [vu,Bool.and_eq_true,List.all_eq_true,List.mem_range,Bool.or_eq_true,Bool.not_eq_true',List.contains_eq_mem,decide_eq_false_iff_not,decide_eq_true_eq] at hj
       refine inv.done j (ju L hL i j nv hj.1) fun k hk NW=>?_
       rcases hj.2 k (vx k hk) with (h | h) | h
       ·exact h NW
       ·exact (Ep k hk).1 (Nat.eq_of_beq_eq_true h)
       ·exact (Ep k hk).2 h) inv.other
      (fun i' sW j' iH=>inv.xA i' j' (ju L hL i i' nv sW) (ju L hL i j' nv iH))
      (fun j hj b hb=>⟨(inv.fresh j (ju L hL i j nv hj) b hb).1.imp (fun h=>h) (·.1),(inv.fresh j (ju L hL i j nv hj) b hb).2⟩)
     have hblk:∀ b∈sx g (U.getD i []),(∃ u,u∈U.getD i []∧L.getD u false=true∧b∈g u)∨(l.length∈U.getD i []∧b∈g l.length):=by
      intro b hb
      obtain ⟨u,hu,ib⟩:=List.mem_flatMap.1 hb
      rcases WG i vy u hu with rfl | h
      ·exact .inr ⟨hu,ib⟩
      ·exact .inl ⟨u,hu,ju L hL i u nv h,ib⟩
     have GC:∀ k',oi.dst=some k'→k' < a.tmps.size:=by
      intro k' sZ
      have s7:oi∈l:=List.mem_of_getElem? oh
      simp only [df,List.all_eq_true] at hd
      have:=hd oi s7
      rw [sZ] at this
      rw [g1]
      exact Nat.lt_of_succ_le (Nat.le_of_ble_eq_true this)
     have Ak:bu l i=oi.dst:=by unfold bu; rw [oh]; rfl
     have mw:∀ v t,(oi.dst≠some t)→cn (a.put oi.dst v) t=cn a t:=by
      intro v t ht
      rw [mg GC]
      cases yu:oi.dst with
      | none=>rfl
      | some d=>
       show (bif Nat.beq t d then v else cn a t)=cn a t
       cases hb:Nat.beq t d with
       | false=>rfl
       | true=>exact absurd (by rw [yu,Nat.eq_of_beq_eq_true hb]) ht
     have Iu:∀ v d,oi.dst=some d→cn (a.put oi.dst v) d=v:=by
      intro v d yu
      rw [mg GC,yu]
      show (bif Nat.beq d d then v else cn a d)=v
      rw [Nat.beq_refl]; rfl
     have step:∀ v w' f,an (sx g (U.getD i [])) w w'→(∀ b∈f,(b∈sx g (U.getD i [])∨w.heap.size≤b)∧b < w'.heap.size)→(if s.b then s.V f w' (cn a) v else v=undef)→
       wpAny P .any l.toArray (fun e a' w'=>a'.tmps.size=n∧a'.defers=[]∧Q e (cn a') w') fuel (L.setIfInBounds i true) (a.put oi.dst v) w':=by
      intro v w' f hC uG hV
      have ud:∀ j',j' < m→j'≠i→∀ t,bu l j'=some t→cn (a.put oi.dst v) t=cn a t:=by
       intro j' iH jx t ht
       refine mw v t fun h=>jx (du j' i t ?_ ?_)
       ·rw [lv iH]; exact ht
       ·rw [lv vy,Ak]; exact h
      have NX:∀ b∈sx g (U.getD i []),¬ N b:=fun b hb hn=>by
       rcases hblk b hb with ⟨u,_,qn,ib⟩ | ⟨_,ib⟩
       ·rcases (inv.fresh u qn b ib).1 with h | h
        ·have:=(hN b hn).1; omega
        ·exact (hN b hn).2 h.1
       ·exact (hN b hn).2 (inv.vg b ib)
      refine ih _ _ _ (fun j=>if j=i then f else if j∈U.getD i [] then [] else g j) Dl Cj (by omega) (by rw [lh]; exact g1) (by rw [jc]; exact g2)
       ⟨inv.lq.then hC fun b hb=>(by
        rcases hblk b hb with ⟨u,_,qn,ib⟩ | ⟨_,ib⟩
        ·exact (inv.fresh u qn b ib).1.elim .inr fun h=>.inl h.1
        ·exact .inl (inv.vg b ib)),fun tK=>?_,?_,fun j hj=>?_,?_,fun j hj d vB sj tA=>?_,?_,?_,?_⟩
      ·have ym:l.length ∉ U.getD i []:=tK i ((getSet L i i hL.1 gh).2 (.inl rfl))
       have h0:=inv.Cg fun k hk=>tK k ((getSet L i k hL.1 gh).2 (.inr hk))
       refine ⟨h0.1.then hC fun b hb=>?_,?_⟩
       ·rcases hblk b hb with ⟨u,_,qn,ib⟩ | ⟨h,_⟩
        ·exact (inv.fresh u qn b ib).1.elim .inr fun ⟨_,k,hk,It⟩=>absurd It (tK k ((getSet L i k hL.1 gh).2 (.inr hk)))
        ·exact absurd h ym
       ·show (if l.length=i then f else if l.length∈U.getD i [] then [] else g l.length)=H
        rw [if_neg (by omega),if_neg ym]
        exact h0.2
      ·intro b hb
       have cq:b∈(if l.length=i then f else if l.length∈U.getD i [] then [] else g l.length):=hb
       rw [if_neg (by omega)] at cq
       split at cq
       ·cases cq
       ·exact inv.vg b cq
      ·intro b hb hv
       have ma:b∈(if l.length=i then f else if l.length∈U.getD i [] then [] else g l.length):=hv
       rw [if_neg (by omega)] at ma
       split at ma
       ·cases ma
       ·rename_i WI
        have cq:b∈(if j=i then f else if j∈U.getD i [] then [] else g j):=hb
        split at cq
        ·rcases (uG b cq).1 with h | h
         ·rcases hblk b h with ⟨u,_,qn,ib⟩ | ⟨h,_⟩
          ·exact inv.vd u qn b ib ma
          ·exact WI h
         ·have h1:=hH b (inv.vg b ma)
          have h2:=inv.lq.size
          omega
        ·rename_i l7
         split at cq
         ·cases cq
         ·exact inv.vd j (((getSet L i j hL.1 gh).1 hj).resolve_left l7) b cq ma
      ·intro j hj Al
       refine ⟨fun d vB=>?_,fun WJ sj tA NY=>?_⟩
       rotate_left
       ·by_cases l7:j=i
        ·subst l7
         rw [hs] at tA
         cases tA
         rw [if_pos NY] at hV
         refine ⟨v,?_⟩
         simp only [if_pos]
         exact sy j s hs _ [] w' w' (cn a) _ v (an.refl _ _) (fun _ _ h=>nomatch h) (fun _ h=>nomatch h) (fun j' iH t ht=>ud j' (by have:=(sb j j' iH).1; omega) (by have:=(sb j j' iH).1; omega) t ht) hV
        ·have nw:=((getSet L i j hL.1 gh).1 hj).resolve_left l7
         have tL:j ∉ U.getD i []:=Al i ((getSet L i i hL.1 gh).2 (.inl rfl))
         obtain ⟨x,hx⟩:=(inv.done j nw (fun k hk=>Al k ((getSet L i k hL.1 gh).2 (.inr hk)))).2 WJ sj tA NY
         have kp:(fun j=>if j=i then f else if j∈U.getD i [] then [] else g j) j=g j:=by
          show (if j=i then f else if j∈U.getD i [] then [] else g j)=g j
          rw [if_neg l7,if_neg tL]
         rw [kp]
         refine ⟨x,sy j sj tA _ _ _ _ (cn a) _ _ hC (fun b cq Iv=>?_) NX (fun j' iH t ht=>ud j' (by have:=(sb j j' iH).1; have:=vx j nw; omega) (fun h=>?_) t ht) hx⟩
         ·rcases hblk b Iv with ⟨u,Ck,qn,ib⟩ | ⟨_,ib⟩
          ·exact inv.xA j u nw qn (fun h=>tL (h ▸ Ck)) b cq ib
          ·exact inv.vd j nw b cq ib
         ·subst h
          have:=ju L hL j j' (fun o' cb e' sR=>hL.2 j o' cb nw e' sR) iH
          rw [vz] at this; cases this
       by_cases l7:j=i
       ·subst l7
        rw [hs]
        simp only [if_pos]
        rw [Ak] at vB
        rw [Iu v d vB]
        split
        ·rename_i hb
         rw [if_pos hb] at hV
         exact sy j s hs _ [] w' w' (cn a) _ v (an.refl _ _) (fun _ _ h=>nomatch h) (fun _ h=>nomatch h) (fun j' iH t ht=>ud j' (by have:=(sb j j' iH).1; omega) (by have:=(sb j j' iH).1; omega) t ht) hV
        ·rename_i hb
         rw [if_neg hb] at hV
         exact hV
       ·have nw:=((getSet L i j hL.1 gh).1 hj).resolve_left l7
        have Ch:=vx j nw
        have tL:j ∉ U.getD i []:=Al i ((getSet L i i hL.1 gh).2 (.inl rfl))
        have yu:oi.dst≠some d:=by
         intro h
         apply l7
         refine du j i d ?_ ?_
         ·rw [lv Ch]; exact vB
         ·rw [lv vy,Ak]; exact h
        have:=(inv.done j nw (fun k hk=>Al k ((getSet L i k hL.1 gh).2 (.inr hk)))).1 d vB
        rw [mw v d yu]
        have kp:(fun j=>if j=i then f else if j∈U.getD i [] then [] else g j) j=g j:=by
         show (if j=i then f else if j∈U.getD i [] then [] else g j)=g j
         rw [if_neg l7,if_neg tL]
        rw [kp]
        cases tA:S[j]? with
        | none=>trivial
        | some sj=>
         rw [tA] at this
         simp only [] at this ⊢
         split
         ·rename_i hb
          rw [if_pos hb] at this
          refine sy j sj tA _ _ _ _ (cn a) _ _ hC (fun b cq Iv=>?_) NX (fun j' iH t ht=>ud j' (by have:=(sb j j' iH).1; omega) (fun h=>?_) t ht) this
          rotate_left
          ·subst h
           have:=ju L hL j j' (fun o' cb e' sR=>hL.2 j o' cb nw e' sR) iH
           rw [vz] at this; cases this
          rcases hblk b Iv with ⟨u,Ck,qn,ib⟩ | ⟨_,ib⟩
          ·exact inv.xA j u nw qn (fun h=>tL (h ▸ Ck)) b cq ib
          ·exact inv.vd j nw b cq ib
         ·rename_i hb
          rw [if_neg hb] at this
          exact this
      ·by_cases l7:j=i
       ·subst l7
        rw [hs] at tA
        cases tA
        rw [Ak] at vB
        rw [Iu v d vB]
        split
        ·rename_i hb
         rw [if_pos hb] at hV
         exact ⟨f,w',sy j s hs _ [] w' w' (cn a) _ v (an.refl _ _) (fun _ _ h=>nomatch h) (fun _ h=>nomatch h) (fun j' iH t ht=>ud j' (by have:=(sb j j' iH).1; omega) (by have:=(sb j j' iH).1; omega) t ht) hV⟩
        ·rename_i hb
         rw [if_neg hb] at hV
         exact hV
       ·have nw:=((getSet L i j hL.1 gh).1 hj).resolve_left l7
        have Ch:=vx j nw
        have yu:oi.dst≠some d:=by
         intro h
         apply l7
         refine du j i d ?_ ?_
         ·rw [lv Ch]; exact vB
         ·rw [lv vy,Ak]; exact h
        have:=inv.uF j nw d vB sj tA
        rw [mw v d yu]
        split
        ·rename_i hb
         rw [if_pos hb] at this
         obtain ⟨f1,w1,h1⟩:=this
         refine ⟨f1,w1,sy j sj tA _ [] w1 w1 (cn a) _ _ (an.refl _ _) (fun _ _ h=>nomatch h) (fun _ h=>nomatch h) (fun j' iH t ht=>ud j' (by have:=(sb j j' iH).1; omega) (fun h=>?_) t ht) h1⟩
         subst h
         have:=ju L hL j j' (fun o' cb e' sR=>hL.2 j o' cb nw e' sR) iH
         rw [vz] at this; cases this
        ·rename_i hb
         rw [if_neg hb] at this
         exact this
      ·intro t ht
       rw [mw v t (fun h=>ht i vy (by rw [Ak]; exact h))]
       exact inv.other t ht
      ·intro j hj b hb
       by_cases l7:j=i
       ·simp only [if_pos l7] at hb
        have hh:=uG b hb
        have vm:=inv.lq.size
        rcases hh.1 with h | h
        ·rcases hblk b h with ⟨u,_,qn,ib⟩ | ⟨hv,ib⟩
         ·exact ⟨(inv.fresh u qn b ib).1.imp (fun h=>h) fun h=>⟨h.1,h.2.imp fun k hk=>⟨(getSet L i k hL.1 gh).2 (.inr hk.1),hk.2⟩⟩,hh.2⟩
         ·exact ⟨.inr ⟨inv.vg b ib,i,(getSet L i i hL.1 gh).2 (.inl rfl),hv⟩,hh.2⟩
        ·exact ⟨.inl (by omega),hh.2⟩
       ·have nw:=((getSet L i j hL.1 gh).1 hj).resolve_left l7
        simp only [if_neg l7] at hb
        split at hb
        ·cases hb
        ·have h1:=inv.fresh j nw b hb
         have h2:=hC.size
         exact ⟨h1.1.imp (fun h=>h) fun h=>⟨h.1,h.2.imp fun k hk=>⟨(getSet L i k hL.1 gh).2 (.inr hk.1),hk.2⟩⟩,by omega⟩
      ·have uO:∀ j',(L.setIfInBounds i true).getD j' false=true→j'≠i→∀ b∈f,b ∉ (if j'∈U.getD i [] then [] else g j'):=by
        intro j' iH e2 b hb cq
        have Iw:=((getSet L i j' hL.1 gh).1 iH).resolve_left e2
        split at cq
        ·cases cq
        ·rename_i tL
         rcases (uG b hb).1 with h | h
         ·rcases hblk b h with ⟨u,Ck,qn,ib⟩ | ⟨_,ib⟩
          ·exact inv.xA u j' qn Iw (fun h=>tL (h ▸ Ck)) b ib cq
          ·exact inv.vd j' Iw b cq ib
         ·have:=inv.fresh j' Iw b cq
          omega
       intro i' j' sW iH jx b hb cq
       by_cases e1:i'=i
       ·have e2:j'≠i:=fun h=>jx (e1.trans h.symm)
        simp only [if_pos e1] at hb
        simp only [if_neg e2] at cq
        exact uO j' iH e2 b hb cq
       ·simp only [if_neg e1] at hb
        by_cases e2:j'=i
        ·simp only [if_pos e2] at cq
         exact uO i' sW e1 b cq hb
        ·simp only [if_neg e2] at cq
         split at hb
         ·cases hb
         ·split at cq
          ·cases cq
          ·exact inv.xA i' j' (((getSet L i i' hL.1 gh).1 sW).resolve_left e1) (((getSet L i j' hL.1 gh).1 iH).resolve_left e2) jx b hb cq
     cases hb:s.b with
     | true=>
      rw [if_pos hb] at ow
      refine .inl ⟨ow.1,sa ow.2 ?_⟩
      rintro v w' ⟨hC,f,uG,hV⟩
      exact step v w' f hC uG (by rw [if_pos hb]; exact hV)
     | false=>
      rw [if_neg (by rw [hb]; exact Bool.false_ne_true)] at ow
      exact .inr ⟨ow,step undef w [] (an.refl _ _) (fun b h=>nomatch h) (by rw [if_neg (by rw [hb]; exact Bool.false_ne_true)])⟩
    by_cases Tb:∃ z,z∈Z∧L.getD z false=false∧∀ o,l[z]? = some o→∀ e∈o.after.toList.filter (Region.binds .any),L.getD e.on false=true
    ·obtain ⟨z,hz,GO,hze⟩:=Tb
     obtain ⟨⟨hzm,hzf⟩,Oj⟩:=hZ z hz
     cases GP:l[z]? with
     | none=>rw [GP] at Oj; cases Oj
     | some oz=>
      rw [GP] at Oj
      simp only [Bool.and_eq_true] at Oj
      obtain ⟨hmv,GN⟩:=Oj
      have QC:=hze oz GP
      have Tc:Region.free .any l.toArray L z=true:=Oi (fun j hj=>ju L hL z j (fun o' cb=>hze o' cb) hj) hzf
      have hrz:z∈Region.ready .any l.toArray L:=Eo L z oz hL.1 GP GO QC
      obtain ⟨dz,opz,tyz,pz,az,gz⟩:=oz
      cases opz <;> first | exact (Bool.false_ne_true hmv).elim | skip
      case move x=>
       cases gz with
       | some _=>simp at GN
       | none=>
        have hev:∀ w',(execOp a.eval ⟨dz,.move x,tyz,pz,az,none⟩).run P w' = .ok (.value (a.eval x)) w':=fun _=>rfl
        refine wpAny_take (by simpa using GP) KQ Tc (by simpa using hrz) (fun c a w h=>absurd h.2.2 (hp _ _ _)) (v:=a.eval x) (.inl ⟨rfl,hev⟩) ?_
        rcases main z _ (Xn z hz) GP GO QC with ⟨_,h⟩ | ⟨h,_⟩
        ·rw [tf]; exact h
        ·exact absurd h (by simp [Region.wanted])
      case extract x k=>
       cases gz with
       | some _=>simp at GN
       | none=>
        rcases main z _ (Xn z hz) GP GO QC with ⟨_,h⟩ | ⟨h,_⟩
        ·obtain ⟨v,hv,hk⟩:=J7 h
         refine wpAny_take (by simpa using GP) KQ Tc (by simpa using hrz) (fun c a w h=>absurd h.2.2 (hp _ _ _)) (v:=v) (.inl ⟨rfl,fun w'=>by rw [tf]; exact hv w'⟩) ?_
         exact hk
        ·exact absurd h (by simp [Region.wanted])
    refine ⟨fun h=>(by obtain ⟨i,hi⟩:=Mg; rw [h] at hi; cases hi),fun i hi=>?_⟩
    obtain ⟨q1,oi,oh,vA⟩:=n8 L i hi
    have gh:i < l.length:=(List.getElem?_eq_some_iff.1 oh).1
    have vz:L.getD i false=false:=getD_both q1
    have vy:i < m:=by
     rcases Nat.lt_or_ge i m with h | h
     ·exact h
     ·have bad:∀ j,j < i→L.getD j false=false→False:=by
       intro j
       induction j using Nat.strongRecOn with
       | _ j ih=>
        intro l7 tL
        rcases FG i h gh j l7 with hj | hj
        ·have:=ju L hL i j (fun o' cb=>by have:o'=oi:=Option.some.inj (cb.symm.trans oh); subst this; exact vA) hj
         rw [tL] at this; cases this
        ·refine Tb ⟨j,hj,tL,fun o ho e he=>?_⟩
         cases hb:L.getD e.on false with
         | true=>rfl
         | false=>have bc:=xI j o ho e he; exact (ih e.on bc (by omega) hb).elim
      exact (bad j0 (by omega) GB).elim
    unfold wpOp
    rw [show (l.toArray)[i]? = some oi by simpa using oh]
    simp only []
    rw [A6 (by rw [g1]; exact hd)]
    rcases main i oi vy oh vz vA with ⟨hw,h⟩ | ⟨hw,h⟩
    ·rw [if_pos hw]
     exact .inl (h.wp fun v w' hv=>hv)
    ·rw [if_neg (by rw [hw]; exact Bool.false_ne_true)]
     exact h
 refine head _ _ a _ (fun j=>if j=l.length then H else []) ⟨by simp,?_⟩ ?_ ?_ h1 h2 ⟨an.nil (an.drew _ _),fun _=>⟨an.drew _ _,by simp⟩,fun b hb=>by simpa using hb,?_,?_,?_,?_,?_,?_⟩
 ·intro j o ho hj
  rw [getD_replicate_false] at hj; cases hj
 ·intro j hj
  rw [getD_replicate_false] at hj; cases hj
 ·simp
 ·intro j hj
  rw [getD_replicate_false] at hj; cases hj
 ·intro j hj
  rw [getD_replicate_false] at hj; cases hj
 ·intro j hj
  rw [getD_replicate_false] at hj; cases hj
 ·intro t _
  rw [h3]
 ·intro j hj
  rw [getD_replicate_false] at hj; cases hj
 ·intro i j hi
  rw [getD_replicate_false] at hi; cases hi
theorem lr.val {m i:Nat} {U:LL} {H:LN} {o:Oper} {v:Value} (ho:l[i]? = some o) (hs:S[i]? = some ⟨true,pl fun _ _ u=>u=v⟩) (hg:o.guard=none)
  (h:∀ (g:Nat→List Nat) (r:NV) (w:World),an H w0 w→(∀ j∈(bz l).getD i [],Old l S j r)→(∀ j,vu l U m i j=true→yk l S j g r w)→(∀ t,(∀ j,j < m→bu l j≠some t)→r t=r0 t)→
   (execOp (ev r) o).run P w = .ok (.value v) w):lr P l m S U r0 w0 H i:=by
 intro o' s' cb fh g r w hC hV hO hd l6 zU mw
 obtain rfl:o=o':=Option.some.inj (ho.symm.trans cb)
 obtain rfl:_=s':=Option.some.inj (hs.symm.trans fh)
 rw [if_pos rfl]
 refine ⟨by unfold Region.wanted; rw [hg],?_⟩
 unfold gy
 rw [h g r w hC hO hd l6]
 exact ⟨an.refl _ _,[],(fun _ h=>nomatch h),rfl⟩
theorem lr.call {m i:Nat} {U:LL} {H:LN} {o:Oper} {v:Value} {f:FuncId} (ho:l[i]? = some o) (hs:S[i]? = some ⟨true,pl fun _ _ u=>u=v⟩) (hg:o.guard=none)
  (h:∀ (g:Nat→List Nat) (r:NV) (w:World),an H w0 w→(∀ j∈(bz l).getD i [],Old l S j r)→(∀ j,vu l U m i j=true→yk l S j g r w)→(∀ t,(∀ j,j < m→bu l j≠some t)→r t=r0 t)→
   ∃ args,(execOp (ev r) o).run P w = .ok (.enter f args) w∧Calls P f args w fun e w'=>e = .returned v∧an [] w w'):lr P l m S U r0 w0 H i:=by
 intro o' s' cb fh g r w hC hV hO hd l6 zU mw
 obtain rfl:o=o':=Option.some.inj (ho.symm.trans cb)
 obtain rfl:_=s':=Option.some.inj (hs.symm.trans fh)
 rw [if_pos rfl]
 refine ⟨by unfold Region.wanted; rw [hg],?_⟩
 unfold gy
 obtain ⟨args,h1,h2⟩:=h g r w hC hO hd l6
 rw [h1]
 exact h2.mono fun e w' ⟨he,hc⟩=>⟨v,he,hc.nil,[],(fun _ h=>nomatch h),rfl⟩
theorem lr.mem {m i:Nat} {U:LL} {H:LN} {o:Oper} {V:List Nat→World→Value→Prop} (ho:l[i]? = some o) (hs:S[i]? = some ⟨true,pl V⟩) (hg:o.guard=none)
  (h:∀ (g:Nat→List Nat) (r:NV) (w:World),an H w0 w→(∀ j∈(bz l).getD i [],Old l S j r)→(∀ j,vu l U m i j=true→yk l S j g r w)→(∀ t,(∀ j,j < m→bu l j≠some t)→r t=r0 t)→
   gy P o r w fun v w'=>an [] w w'∧∃ f,(∀ b∈f,w.heap.size≤b∧b < w'.heap.size)∧V f w' v):lr P l m S U r0 w0 H i:=by
 intro o' s' cb fh g r w hC hV hO hd l6 zU mw
 obtain rfl:o=o':=Option.some.inj (ho.symm.trans cb)
 obtain rfl:_=s':=Option.some.inj (hs.symm.trans fh)
 rw [if_pos rfl]
 refine ⟨by unfold Region.wanted; rw [hg],sa (h g r w hC hO hd l6) ?_⟩
 rintro v w' ⟨hC,f,hf,hV⟩
 exact ⟨hC.nil,f,fun b hb=>⟨.inr (hf b hb).1,(hf b hb).2⟩,hV⟩
theorem lr.Qb {m i:Nat} {U:LL} {H:LN} {o:Oper} {V:List Nat→World→(Nat→Value)→Value→Prop} (ho:l[i]? = some o) (hs:S[i]? = some ⟨true,V⟩) (hg:o.guard=none)
  (h:∀ (g:Nat→List Nat) (r:NV) (w:World),an H w0 w→(∀ j∈(bz l).getD i [],Old l S j r)→(∀ j,vu l U m i j=true→yk l S j g r w)→(∀ t,(∀ j,j < m→bu l j≠some t)→r t=r0 t)→
   gy P o r w fun v w'=>an [] w w'∧∃ f,(∀ b∈f,w.heap.size≤b∧b < w'.heap.size)∧V f w' r v):lr P l m S U r0 w0 H i:=by
 intro o' s' cb fh g r w hC hV hO hd l6 zU mw
 obtain rfl:o=o':=Option.some.inj (ho.symm.trans cb)
 obtain rfl:_=s':=Option.some.inj (hs.symm.trans fh)
 rw [if_pos rfl]
 refine ⟨by unfold Region.wanted; rw [hg],sa (h g r w hC hO hd l6) ?_⟩
 rintro v w' ⟨hC,f,hf,hV⟩
 exact ⟨hC.nil,f,fun b hb=>⟨.inr (hf b hb).1,(hf b hb).2⟩,hV⟩
def Fy {α:Type} (T:ai α) (x:α):List Nat→World→Value→Prop:=fun f w v=>T.rep w.heap [v] x f∧f.Nodup
def acQ (cs:LV) (e:TI) (n:Nat):List Nat→World→Value→Prop:=fun f w v=>∃ b,f=[b]∧v = .slice (some ⟨b,0,none⟩) n n∧Row w b cs e
def H4 (a:LN) (l:LO) (s:iw):Prop:=∀ f F (w w':World) (r r':NV) v,an F w w'→(∀ b∈f,b ∉ F)→(∀ j∈a,∀ t,bu l j=some t→r' t=r t)→s.V f w r v→s.V f w' r' v
theorem Ol {a:LN} {b:Bool} {V:List Nat→World→Value→Prop} (h:∀ f F (w w':World) v,an F w w'→(∀ b∈f,b ∉ F)→V f w v→V f w' v):H4 a l ⟨b,pl V⟩:=
 fun f F w w' _ _ v hC hn _ hv=>h f F w w' v hC hn hv
theorem LZ {a:LN} {b:Bool} {u:Value}:H4 a l ⟨b,pl fun _ _ v=>v=u⟩:=Ol fun _ _ _ _ _ _ _ h=>h
theorem gy.own {α:Type} {T:ai α} {x:α} {o:Oper} {r:NV} {w:World} {f:FuncId} {args:Array Value} (h:(execOp (ev r) o).run P w = .ok (.enter f args) w)
  (hc:Calls P f args w fun e w'=>∃ (v:Value) (k:LN),e = .returned v∧an [] w w'∧OE [] w.heap.size w' T [v] x k) :
  gy P o r w fun v w'=>an [] w w'∧∃ f,(∀ b∈f,w.heap.size≤b∧b < w'.heap.size)∧Fy T x f w' v:=by
 unfold gy
 rw [h]
 exact hc.mono fun e w' ⟨v,k,he,hC,ho⟩=>⟨v,he,hC,k,fun b hb=>⟨ho.fresh b hb,T.lt ho.1 b hb⟩,ho.1,ho.2.1⟩
theorem gy.made {α:Type} {T:ai α} {x:α} {o:Oper} {r:NV} {w:World} (h:∃ v w' f,(execOp (ev r) o).run P w = .ok (.value v) w'∧an [] w w'∧OE [] w.heap.size w' T [v] x f) :
  gy P o r w fun v w'=>an [] w w'∧∃ f,(∀ b∈f,w.heap.size≤b∧b < w'.heap.size)∧Fy T x f w' v:=by
 obtain ⟨v,w',f,hr,hC,ho⟩:=h
 unfold gy
 rw [hr]
 exact ⟨hC,f,fun b hb=>⟨ho.fresh b hb,T.lt ho.1 b hb⟩,ho.1,ho.2.1⟩
theorem zp {f g:LN} (h1:f.Nodup) (h2:g.Nodup) (d:tx f g):(f++g).Nodup:=List.nodup_append.2 ⟨h1,h2,fun a ha _ hb nu=>d a ha (nu ▸ hb)⟩
theorem gy.wm {α:Type} {E:ai α} {F f:LN} {t e et:TI} {s x:OO} {i:TypeInfo} {z:Value} {sv u:Value} {xs:List α} {y:α} {b:Nat} {r:NV} {w:World} {d:Option Nat} {ty:TI} {pos:String} {ag:Array Edge}
  (ht:P.underlying t=some (.slice e)) (hi:P.info? e=some i) (hz:i.zero=some z) (hs:i.size=1) (hE:E.size=1) (Ah:z.oneCell'=true)
  (wO:ev r s=sv) (hO:Fy (aI e E) xs f w sv) (hF:∀ b∈f,b∈F) (hx:ev r x = .slice (some ⟨b,0,none⟩) 1 1) (bg:Row w b [u] et) (hy:E.rep w.heap [u] y [])
  (hb:(xs.length+1) * i.bytes≤140737488355328) (zo:xs.length+1≤maxLen) :
  gy P ⟨d,.call ⟨.builtin .append,#[s,x],#[t,t]⟩,ty,pos,ag,none⟩ r w fun v w'=>an F w w'∧∃ f',(∀ b∈f',(b∈F∨w.heap.size≤b)∧b < w'.heap.size)∧Fy (aI e E) (xs++[y]) f' w' v:=by
 obtain ⟨v,w',f',h,hC,ed,dk,du⟩:=rz (d:=d) (ty:=ty) (pos:=pos) (ag:=ag) (g:=none) (ys:=[y]) ht hi hz (by rw [hs,hE]) (by rw [cells_one Ah,hE]; rfl) wO hO.1 hO.2 hx bg.at (tE hy) (fun _ h=>nomatch h) (by simp) hb zo
 unfold gy
 rw [h]
 refine ⟨hC.mono hF,f',fun b hb=>⟨?_,ai.lt _ ed b hb⟩,ed,du List.nodup_nil⟩
 rcases dk b hb with h | h | h
 ·exact .inl (hF b h)
 ·cases h
 ·exact .inr h
theorem gy.Fk {t e:TI} {i:TypeInfo} {z u:Value} {x:OO} {r:NV} {w:World} {d:Option Nat} {ty:TI} {pos:String} {ag:Array Edge} (ht:P.underlying t=some (.slice e)) (hi:P.info? e=some i) (hz:i.zero=some z)
  (hs:i.size=1) (hx:ev r x=u) (hv:u.oneCell'=true) :
  gy P ⟨d,.buildSlice t 1 #[(0,x)],ty,pos,ag,none⟩ r w fun v w'=>an [] w w'∧∃ f,(∀ b∈f,w.heap.size≤b∧b < w'.heap.size)∧acQ [u] e 1 f w' v:=by
 unfold gy
 rw [KV ht hi hz hs (by rw [hx]; exact hv),hx]
 exact ⟨an.alloc _ _ _,[w.heap.size],fun b hb=>by rw [List.mem_singleton.1 hb]; simp,w.heap.size,rfl,rfl,heap_alloc_new w _⟩
end
end Go.Li
