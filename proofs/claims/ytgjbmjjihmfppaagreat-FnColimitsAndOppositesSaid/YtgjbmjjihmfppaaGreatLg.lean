/- A region that draws its order, whatever it holds: its head in any order, its tail one behind the other. No condition. -/
import Derived.Test.YtgjbmjjihmfppaaGreatLf
import Derived.Still
namespace Go.Li
open Go
def mr (acc:LL) (o:Oper):List (List Nat):=
 acc++[(o.after.toList.filter (Region.binds .any)).flatMap fun e=>e.on :: acc.getD e.on []]
def cf (l:LO):List (List Nat):=l.foldl mr []
structure iy where
 b:Bool
 V:List Nat→World→(Nat→Value)→Value→Prop
abbrev pl (V:List Nat→World→Value→Prop):List Nat→World→(Nat→Value)→Value→Prop:=fun f w _ v=>V f w v
def nb (P:Program) (n:Nat) (l:LO) (Q:Exit→(Nat→Value)→World→Prop) (r:NV) (w:World):Prop:=
 ∀ a:Act,a.tmps.size=n→a.defers=[]→cn a=r→wpAny P .any l.toArray (fun e a' w'=>a'.tmps.size=n∧a'.defers=[]∧Q e (cn a') w') l.toArray.size (Array.replicate l.toArray.size false) a { w with drawn:=w.drawn+1 }
theorem nb.W {P:Program} {n id:Nat} {l:LO} {Q:Exit→(Nat→Value)→World→Prop} {r:NV} {w:World} (hm:P.follows .mixedOrders=true) (h:nb P n l Q r w):W P n (.region id l.toArray true) Q r w:=
 fun a h1 h2 h3=>wp_region_any hm (h a h1 h2 h3)
def Dg (π:LN) (o:Oper):Oper:=⟨o.dst,o.op,o.type,o.pos,(o.after.toList.map fun e=>⟨π.getD e.on 0,e.ground⟩).toArray,o.guard⟩
def qk (l:LO) (σ π:LN):List Oper:=σ.map fun k=>Dg π (l.getD k default)
def PM (l:LO) (σ π:LN):Bool:=
 Nat.beq σ.length l.length && Nat.beq π.length l.length &&
 ((List.range l.length).all fun i=>Nat.blt (π.getD i 0) l.length && Nat.beq (σ.getD (π.getD i 0) 0) i && Nat.blt (σ.getD i 0) l.length && Nat.beq (π.getD (σ.getD i 0) 0) i) &&
 l.all fun o=>o.guard.isNone && o.after.toList.all fun e=>Nat.blt e.on l.length
theorem Wt {P:Program} {Q:Exit→Act→World→Prop} {π:LN} {o:Oper} {a:Act} {w:World} {K:Act→World→Prop}:(Dg π o).wp P a w K Q=o.wp P a w K Q:=by
 cases o; rfl
theorem P8 {P:Program} {π:LN} {o:Oper} {a:Act} {w:World}:(Dg π o).asks P a w=o.asks P a w:=by
 cases o; rfl
section
variable {P:Program} {l:LO} {σ π:LN} (h:PM l σ π=true)
include h
theorem Eo:σ.length=l.length∧π.length=l.length∧(∀ i,i < l.length→π.getD i 0 < l.length∧σ.getD (π.getD i 0) 0=i∧σ.getD i 0 < l.length∧π.getD (σ.getD i 0) 0=i)∧∀ o∈l,o.guard=none∧∀ e∈o.after.toList,e.on < l.length:=by
 unfold PM at h
 simp only [Bool.and_eq_true,List.all_eq_true,List.mem_range] at h
 obtain ⟨⟨⟨h1,h2⟩,h3⟩,h4⟩:=h
 refine ⟨Nat.eq_of_beq_eq_true h1,Nat.eq_of_beq_eq_true h2,fun i hi=>?_,fun o ho=>?_⟩
 ·obtain ⟨⟨⟨a,b⟩,c⟩,d⟩:=h3 i hi
  exact ⟨Nat.lt_of_succ_le (Nat.le_of_ble_eq_true a),Nat.eq_of_beq_eq_true b,Nat.lt_of_succ_le (Nat.le_of_ble_eq_true c),Nat.eq_of_beq_eq_true d⟩
 ·obtain ⟨a,b⟩:=h4 o ho
  exact ⟨by simpa using a,fun e he=>Nat.lt_of_succ_le (Nat.le_of_ble_eq_true (b e he))⟩
theorem KN:(qk l σ π).length=l.length:=by unfold qk; rw [List.length_map]; exact (Eo h).1
theorem KO {i:Nat} {o:Oper} (ho:l[i]? = some o):(qk l σ π)[π.getD i 0]? = some (Dg π o):=by
 obtain ⟨h1,_,h3,_⟩:=Eo h
 have hi:=(List.getElem?_eq_some_iff.1 ho).1
 obtain ⟨a,b,_,_⟩:=h3 i hi
 unfold qk
 rw [List.getElem?_map,List.getElem?_eq_getElem (by omega)]
 have e:σ[π.getD i 0]'(by omega)=i:=by
  rw [List.getD_eq_getElem?_getD,List.getElem?_eq_getElem (by omega)] at b
  simpa using b
 simp only [Option.map_some,Option.some.injEq]
 rw [e,List.getD_eq_getElem?_getD,ho]; rfl
theorem N0 {Q:Exit→Act→World→Prop}:∀ (fuel:Nat) (L L':Array Bool) (a:Act) (w:World),L.size=l.length→L'.size=l.length→(∀ i,i < l.length→L'.getD (π.getD i 0) true=L.getD i true)→
  wpAny P .any (qk l σ π).toArray Q fuel L' a w→wpAny P .any l.toArray Q fuel L a w:=by
 obtain ⟨h1,h2,h3,h4⟩:=Eo h
 have gd:∀ {L:Array Bool} {i:Nat} (b:Bool),L.size=l.length→i < l.length→L.getD i b=L.getD i true:=fun {L i} b hs hi=>by
  have:i < L.size:=by omega
  simp [Array.getD,this]
 have np:∀ (L L':Array Bool),L.size=l.length→L'.size=l.length→(∀ i,i < l.length→L'.getD (π.getD i 0) true=L.getD i true)→∀ i,i < l.length→(i∈Region.ready .any l.toArray L↔π.getD i 0∈Region.ready .any (qk l σ π).toArray L'):=by
  intro L L' hs ep hL i hi
  rw [mem_ready,mem_ready,hL i hi]
  have ho:l[i]? = some (l[i]'hi):=List.getElem?_eq_getElem hi
  have cg:=KO h ho
  have hg:=h4 _ (List.mem_of_getElem? ho)
  constructor
  ·rintro ⟨g1,o,g2,g3⟩
   refine ⟨g1,Dg π l[i],by simpa using cg,fun e he hb=>?_⟩
   have eo:l[i]=o:=by simpa [ho] using g2
   simp only [Dg,List.mem_toArray,List.mem_map] at he
   obtain ⟨e0,N1,rfl⟩:=he
   have bm:=hg.2 e0 N1
   have:=g3 e0 (by rw [← eo]; simpa using N1) hb
   rw [gd false ep (h3 _ bm).1,hL _ bm,← gd false hs bm]; exact this
  ·rintro ⟨g1,o,g2,g3⟩
   refine ⟨g1,l[i],by simp,fun e he hb=>?_⟩
   have eo:Dg π l[i]=o:=by
    have:(qk l σ π)[π.getD i 0]? = some o:=by simpa using g2
    rw [cg] at this
    exact Option.some.inj this
   have bm:=hg.2 e (by simpa using he)
   have:=g3 ⟨π.getD e.on 0,e.ground⟩ (by rw [← eo]; simp only [Dg,List.mem_toArray,List.mem_map]; exact ⟨e,by simpa using he,rfl⟩) hb
   rw [gd false ep (h3 _ bm).1,hL _ bm,← gd false hs bm] at this; exact this
 have back:∀ (L L':Array Bool),L.size=l.length→L'.size=l.length→(∀ i,i < l.length→L'.getD (π.getD i 0) true=L.getD i true)→Region.ready .any l.toArray L=[]→Region.ready .any (qk l σ π).toArray L'=[]:=by
  intro L L' hs ep hL he
  rw [List.eq_nil_iff_forall_not_mem]
  intro k hk
  have C6:k < l.length:=by
   obtain ⟨_,o,g2,_⟩:=mem_ready.1 hk
   have:(qk l σ π)[k]? = some o:=by simpa using g2
   have:=(List.getElem?_eq_some_iff.1 this).1
   rwa [KN h] at this
  obtain ⟨_,_,c,d⟩:=h3 k C6
  have:=(np L L' hs ep hL (σ.getD k 0) c).2 (by rw [d]; exact hk)
  rw [he] at this
  exact nomatch this
 intro fuel
 induction fuel with
 | zero=>
  intro L L' a w hs ep hL hh
  refine ⟨?_,hh.2⟩
  rw [List.eq_nil_iff_forall_not_mem]
  intro i hi
  have tZ:i < l.length:=by
   obtain ⟨_,o,g2,_⟩:=mem_ready.1 hi
   have:l[i]? = some o:=by simpa using g2
   exact (List.getElem?_eq_some_iff.1 this).1
  have:=(np L L' hs ep hL i tZ).1 hi
  rw [hh.1] at this
  exact nomatch this
 | succ fuel ih=>
  intro L L' a w hs ep hL hh
  refine ⟨fun he=>hh.1 (back L L' hs ep hL he),fun i hi=>?_⟩
  have tZ:i < l.length:=by
   obtain ⟨_,o,g2,_⟩:=mem_ready.1 hi
   have:l[i]? = some o:=by simpa using g2
   exact (List.getElem?_eq_some_iff.1 this).1
  have ho:l[i]? = some (l[i]'tZ):=List.getElem?_eq_getElem tZ
  have hg:=h4 _ (List.mem_of_getElem? ho)
  have N2:=hh.2 _ ((np L L' hs ep hL i tZ).1 hi)
  have next:∀ a w,wpAny P .any (qk l σ π).toArray Q fuel (L'.setIfInBounds (π.getD i 0) true) a w→wpAny P .any l.toArray Q fuel (L.setIfInBounds i true) a w:=fun a w=>ih _ _ a w (by simpa using hs) (by simpa using ep) fun j hj=>by
   have hpj:=(h3 j hj).1
   have hpi:=(h3 i tZ).1
   by_cases e:i=j
   ·subst e
    rw [Array.getD_eq_getD_getElem?,Array.getD_eq_getD_getElem?,Array.getElem?_setIfInBounds_self_of_lt (by omega),Array.getElem?_setIfInBounds_self_of_lt (by omega)]
   ·have e':π.getD i 0≠π.getD j 0:=fun q=>e (by rw [← (h3 i tZ).2.1,q,(h3 j hj).2.1])
    have h5:=hL j hj
    have q1:(L'.setIfInBounds (π.getD i 0) true).getD (π.getD j 0) true=L'.getD (π.getD j 0) true:=by
     rw [Array.getD_eq_getD_getElem?,Array.getD_eq_getD_getElem?,Array.getElem?_setIfInBounds_ne e']
    have q2:(L.setIfInBounds i true).getD j true=L.getD j true:=by
     rw [Array.getD_eq_getD_getElem?,Array.getD_eq_getD_getElem?,Array.getElem?_setIfInBounds_ne e]
    rw [q1,q2,h5]
  have ga:(l.toArray)[i]? = some (l[i]'tZ):=by simp
  have gb:((qk l σ π).toArray)[π.getD i 0]? = some (Dg π (l[i]'tZ)):=by simpa using KO h ho
  unfold wpOp at N2 ⊢
  rw [gb] at N2
  rw [ga]
  have w1:Region.wanted (l[i]'tZ) (yielded l.toArray a.tmps)=true:=by unfold Region.wanted; rw [hg.1]
  have w2:Region.wanted (Dg π (l[i]'tZ)) (yielded (qk l σ π).toArray a.tmps)=true:=by unfold Region.wanted; show (match (l[i]'tZ).guard with | none=>true | some (j,want)=>_)=true; rw [hg.1]
  simp only [w2,if_true] at N2
  simp only [w1,if_true]
  rw [Wt,P8] at N2
  exact N2.imp (fun g=>Oper.wp_mono next g) id
theorem nb.prm {n:Nat} {Q:Exit→(Nat→Value)→World→Prop} {r:NV} {w:World} (hw:nb P n (qk l σ π) Q r w):nb P n l Q r w:=by
 have hl:=KN h
 obtain ⟨_,_,h3,_⟩:=Eo h
 intro a a1 a2 a3
 have:=hw a a1 a2 a3
 rw [show (qk l σ π).toArray.size=l.toArray.size by simpa using hl] at this
 refine N0 h _ _ _ a _ (by simp) (by simp) (fun i hi=>?_) this
 have hq:=(h3 i hi).1
 rw [List.getD_eq_getElem?_getD] at hq
 simp [Array.getD,hi,hq]
end
section
variable {P:Program} {n:Nat} {Q:Exit→(Nat→Value)→World→Prop} {r0:NV} {w0:World} {l:LO} {S:List iy}
def bz (l:LO) (j:Nat):Option Nat:=(l[j]?).bind (·.dst)
def x9 (l:LO) (S:List iy) (j:Nat) (g:Nat→List Nat) (r:NV) (w:World):Prop:=
 (∀ d,bz l j=some d→match S[j]? with
  | some s=>if s.b then s.V (g j) w r (r d) else r d=undef
  | none=>True)∧(bz l j=none→∀ s,S[j]? = some s→s.b=true→∃ x,s.V (g j) w r x)
def Old (l:LO) (S:List iy) (j:Nat) (r:NV):Prop:=∀ d,bz l j=some d→∀ s,S[j]? = some s→if s.b then ∃ f w,s.V f w r (r d) else r d=undef
structure AM (l:LO) (m:Nat) (S:List iy) (U:LL) (r0:NV) (w0:World) (H:LN) (L:Nat→Prop) (g:Nat→List Nat) (r:NV) (w:World):Prop where
 jk:an H w0 w
 BY:(∀ k,L k→l.length ∉ U.getD k [])→an [] w0 w∧g l.length=H
 vg:∀ b∈g l.length,b∈H
 vd:∀ j,L j→sS (g j) (g l.length)
 done:∀ j,L j→(∀ k,L k→j ∉ U.getD k [])→x9 l S j g r w
 ui:∀ j,L j→Old l S j r
 other:∀ t,(∀ j,j < m→bz l j≠some t)→r t=r0 t
 fresh:∀ j,L j→∀ b∈g j,(w0.heap.size≤b∨(b∈H∧∃ k,L k∧l.length∈U.getD k []))∧b < w.heap.size
 xx:∀ i j,L i→L j→i≠j→sS (g i) (g j)
def vc (l:LO) (U:LL) (m i j:Nat):Bool:=
 ((cf l).getD i []).contains j && (List.range m).all fun k=>!((U.getD k []).contains j) || Nat.beq k i || ((cf l).getD k []).contains i
def qj (g:Nat→List Nat) (us:LN):List Nat:=us.flatMap g
def AI (l:LO) (U:LL) (m i:Nat):Bool:=(List.range m).all fun k=>!((U.getD k []).contains l.length) || Nat.beq k i || ((cf l).getD k []).contains i
def lj (P:Program) (l:LO) (m:Nat) (S:List iy) (U:LL) (r0:NV) (w0:World) (H:LN) (i:Nat):Prop:=
 ∀ o s,l[i]? = some o→S[i]? = some s→∀ (g:Nat→List Nat) (r:NV) (w:World),an H w0 w→(AI l U m i=true→an [] w0 w∧g l.length=H∧∀ j∈(cf l).getD i [],∀ b∈g j,w0.heap.size≤b)→(∀ j∈(cf l).getD i [],Old l S j r)→(∀ j,vc l U m i j=true→x9 l S j g r w)→(∀ t,(∀ j,j < m→bz l j≠some t)→r t=r0 t)→
  (∀ i'∈(cf l).getD i [],∀ j'∈(cf l).getD i [],i'≠j'→sS (g i') (g j'))→(∀ j∈(cf l).getD i [],∀ b∈g j,(w0.heap.size≤b∨b∈H)∧b < w.heap.size)→
  if s.b then Region.wanted o (yl l r)=true∧gq P o r w fun v w'=>an (qj g (U.getD i [])) w w'∧∃ f,(∀ b∈f,(b∈qj g (U.getD i [])∨w.heap.size≤b)∧b < w'.heap.size)∧s.V f w' r v
  else Region.wanted o (yl l r)=false
def BV:List Nat→Bool
 | []=>true
 | x :: l=>!(l.contains x) && BV l
theorem zB:∀ {l:LN},BV l=true→l.Nodup
 | [],_=>List.nodup_nil
 | x :: l,h=>by
  simp only [BV,Bool.and_eq_true,Bool.not_eq_true',List.contains_eq_mem,decide_eq_false_iff_not] at h
  exact List.nodup_cons.2 ⟨h.1,zB h.2⟩
def AK (l:LO) (m:Nat) (Z:LN):Bool:=
 ((List.range l.length).all fun i=>((l.getD i default).after.toList.filter (Region.binds .any)).all fun e=>Nat.blt e.on i) &&
 ((List.range l.length).all fun i=>Nat.blt i m || (List.range i).all fun j=>((cf l).getD i []).contains j || Z.contains j) &&
 BV ((l.take m).filterMap (·.dst))
def Wu (o:Oper):Bool:=match o.op with | .move _=>true | .extract _ _=>true | _=>false
def P9 (l:LO) (i:Nat):Array Bool:=((List.range l.length).map fun j=>((cf l).getD i []).contains j).toArray
def HX (l:LO) (m:Nat) (Z:LN):Bool:=
 Region.noSelect l.toArray && Z.all fun i=>Nat.blt i m && Region.free .any l.toArray (P9 l i) i &&
  match l[i]? with
  | some o=>Wu o && o.guard.isNone
  | none=>false
theorem N3 {l:LO} {L:Array Bool} {i:Nat} (hL:∀ j∈(cf l).getD i [],L.getD j false=true) (h:Region.free .any l.toArray (P9 l i) i=true):Region.free .any l.toArray L i=true:=by
 unfold Region.free at h ⊢
 cases ho:(l.toArray)[i]? with
 | none=>rw [ho] at h; cases h
 | some oi=>
  rw [ho] at h
  simp only [List.all_eq_true,List.mem_range,Bool.or_eq_true] at h ⊢
  intro j hj
  rcases h j hj with (h1 | h1) | h1
  ·exact .inl (.inl h1)
  ·have bm:j < l.length:=by simpa using hj
   have hm:j∈(cf l).getD i []:=by
    unfold P9 at h1
    have:((List.range l.length).map fun j=>((cf l).getD i []).contains j)[j]? = some (((cf l).getD i []).contains j):=by
     rw [List.getElem?_map,List.getElem?_range bm]; rfl
    rw [Array.getD_eq_getD_getElem?,List.getElem?_toArray,this] at h1
    simpa using h1
   refine .inl (.inr ?_)
   have h2:=hL j hm
   rcases Nat.lt_or_ge j L.size with h' | h'
   ·simp [h'] at h2 ⊢; exact h2
   ·simp [Array.getElem?_eq_none h'] at h2
  ·exact .inr h1
theorem JV {P:Program} {d:Option Nat} {x:OO} {k:Nat} {ty:TI} {pos:String} {af:Array Edge} {g:Option (Nat×Bool)} {r:NV} {w:World} {K:Value→World→Prop} (h:gq P ⟨d,.extract x k,ty,pos,af,g⟩ r w K) :
  ∃ v,(∀ w',(execOp (ev r) ⟨d,.extract x k,ty,pos,af,g⟩).run P w' = .ok (.value v) w')∧K v w:=by
 have e:execOp (ev r) ⟨d,.extract x k,ty,pos,af,g⟩ = (Instr.extract (ev r x) k>>=fun v=>pure (.value v)):=rfl
 unfold gq at h
 rw [e] at h ⊢
 generalize ev r x=u at h ⊢
 cases u
 case tuple vs=>
  cases hv:vs[k]? with
  | none=>simp [Instr.extract,hv,stuck,Result.andThen,Sem.run] at h
  | some v=>
   refine ⟨v,fun w'=>?_,?_⟩
   ·simp [Instr.extract,hv]
   ·simpa [Instr.extract,hv] using h
 all_goals simp [Instr.extract,stuck,Result.andThen,Sem.run] at h
theorem AS (l:LO):∀ (i:Nat) (o:Oper),l[i]? = some o→(cf l)[i]? = some ((o.after.toList.filter (Region.binds .any)).flatMap fun e=>e.on :: ((cf l).take i).getD e.on []):=by
 have key:∀ (l:LO) (acc:LL),(l.foldl mr acc).length=acc.length+l.length∧(∀ j,j < acc.length→(l.foldl mr acc)[j]? = acc[j]?)∧
   ∀ i o,l[i]? = some o→(l.foldl mr acc)[acc.length+i]? = some ((o.after.toList.filter (Region.binds .any)).flatMap fun e=>e.on :: ((l.foldl mr acc).take (acc.length+i)).getD e.on []):=by
  intro l
  induction l with
  | nil=>intro acc; exact ⟨rfl,fun _ _=>rfl,fun i o h=>by simp at h⟩
  | cons x l ih=>
   intro acc
   obtain ⟨h1,h2,h3⟩:=ih (mr acc x)
   have hl:(mr acc x).length=acc.length+1:=by simp [mr]
   have hold:∀ j,j < acc.length→(mr acc x)[j]? = acc[j]?:=fun j hj=>by simp only [mr]; rw [List.getElem?_append_left hj]
   refine ⟨by simp only [List.foldl_cons,h1,hl,List.length_cons]; omega,fun j hj=>?_,?_⟩
   ·rw [List.foldl_cons,h2 j (by omega),hold j hj]
   ·intro i o hi
    cases i with
    | zero=>
     simp at hi
     subst hi
     have Zj:(List.foldl mr acc (x :: l)).take (acc.length+0)=acc:=by
      apply List.ext_getElem?
      intro j
      rw [Nat.add_zero,List.getElem?_take]
      split
      ·rename_i hj
       rw [List.foldl_cons,h2 j (by omega),hold j hj]
      ·rename_i hj
       rw [List.getElem?_eq_none (by omega)]
     rw [Zj]
     rw [Nat.add_zero,List.foldl_cons,h2 _ (by omega)]
     simp only [mr]
     rw [List.getElem?_append_right (Nat.le_refl _)]
     simp
    | succ i=>
     have:=h3 i o (by simpa using hi)
     rw [hl] at this
     rw [List.foldl_cons]
     rw [show acc.length+(i+1)=acc.length+1+i by omega]
     exact this
 intro i o hi
 have:=(key l []).2.2 i o hi
 simpa [cf] using this
theorem BW (l:LO) (hb:∀ (i:Nat) (o:Oper),l[i]? = some o→∀ e∈o.after.toList.filter (Region.binds .any),e.on < i) :
  ∀ (i j:Nat),j∈(cf l).getD i []→j < i∧∃ o,l[i]? = some o∧∃ e∈o.after.toList.filter (Region.binds .any),j=e.on∨j∈(cf l).getD e.on []:=by
 intro i j hj
 cases ho:l[i]? with
 | none=>
  have hlen:(cf l).length=l.length:=by
   have:∀ (l:LO) (acc:LL),(l.foldl mr acc).length=acc.length+l.length:=by
    intro l
    induction l with
    | nil=>intro acc; rfl
    | cons x l ih=>intro acc; rw [List.foldl_cons,ih]; simp [mr]; omega
   simpa [cf] using this l []
  rw [List.getD_eq_getElem?_getD,List.getElem?_eq_none (by rw [hlen]; exact List.getElem?_eq_none_iff.1 ho)] at hj
  simp at hj
 | some o=>
  have h:=AS l i o ho
  rw [List.getD_eq_getElem?_getD,h] at hj
  simp only [Option.getD_some,List.mem_flatMap,List.mem_cons] at hj
  obtain ⟨e,he,hj⟩:=hj
  have bm:=hb i o ho e he
  have Wv:((cf l).take i).getD e.on []=(cf l).getD e.on []:=by
   rw [List.getD_eq_getElem?_getD,List.getD_eq_getElem?_getD,List.getElem?_take,if_pos bm]
  rw [Wv] at hj
  refine ⟨?_,o,rfl,e,he,hj⟩
  rcases hj with rfl | hj
  ·exact bm
  ·-- by the strong law below
   have:∀ (k i:Nat),i≤k→∀ j∈(cf l).getD i [],j < i:=by
    intro k
    induction k with
    | zero=>
     intro i hi j hj
     obtain rfl:i=0:=by omega
     cases ho:l[0]? with
     | none=>
      obtain rfl:l=[]:=by cases l with | nil=>rfl | cons=>simp at ho
      simp [cf] at hj
     | some o=>
      have h:=AS l 0 o ho
      rw [List.getD_eq_getElem?_getD,h] at hj
      simp only [Option.getD_some,List.mem_flatMap] at hj
      obtain ⟨e,he,_⟩:=hj
      exact absurd (hb 0 o ho e he) (Nat.not_lt_zero _)
    | succ k ih=>
     intro i hi j hj
     cases ho:l[i]? with
     | none=>
      have hlen:(cf l).length=l.length:=by
       have:∀ (l:LO) (acc:LL),(l.foldl mr acc).length=acc.length+l.length:=by
        intro l
        induction l with
        | nil=>intro acc; rfl
        | cons x l ih=>intro acc; rw [List.foldl_cons,ih]; simp [mr]; omega
       simpa [cf] using this l []
      rw [List.getD_eq_getElem?_getD,List.getElem?_eq_none (by rw [hlen]; exact List.getElem?_eq_none_iff.1 ho)] at hj
      simp at hj
     | some o=>
      have h:=AS l i o ho
      rw [List.getD_eq_getElem?_getD,h] at hj
      simp only [Option.getD_some,List.mem_flatMap,List.mem_cons] at hj
      obtain ⟨e,he,hj⟩:=hj
      have bm:=hb i o ho e he
      rcases hj with rfl | hj
      ·exact bm
      ·have Wv:((cf l).take i).getD e.on []=(cf l).getD e.on []:=by
        rw [List.getD_eq_getElem?_getD,List.getD_eq_getElem?_getD,List.getElem?_take,if_pos bm]
       rw [Wv] at hj
       have:=ih e.on (by omega) j hj
       omega
   exact Nat.lt_trans (this e.on e.on (Nat.le_refl _) j hj) bm
theorem Ec (l:LO) (hb:∀ (i:Nat) (o:Oper),l[i]? = some o→∀ e∈o.after.toList.filter (Region.binds .any),e.on < i) {j k:Nat} (hj:j∈(cf l).getD k []):∀ {i:Nat},k∈(cf l).getD i []→j∈(cf l).getD i []:=by
 intro i
 induction i using Nat.strongRecOn with
 | _ i ih=>
  intro hk
  obtain ⟨_,o,ho,e,he,Ww⟩:=BW l hb i k hk
  have bm:=hb i o ho e he
  have h2:j∈(cf l).getD e.on []:=Ww.elim (fun h=>h ▸ hj) (fun h=>ih e.on bm h)
  have h:=AS l i o ho
  rw [List.getD_eq_getElem?_getD,h]
  simp only [Option.getD_some,List.mem_flatMap,List.mem_cons]
  refine ⟨e,he,.inr ?_⟩
  rw [List.getD_eq_getElem?_getD,List.getElem?_take,if_pos bm,← List.getD_eq_getElem?_getD]
  exact h2
theorem getD_both {Iv:Array Bool} {i:Nat} (h:Iv.getD i true=false):Iv.getD i false=false:=by
 rcases Nat.lt_or_ge i Iv.size with h' | h'
 ·simp [h'] at h ⊢; exact h
 ·simp [Array.getElem?_eq_none h'] at h
theorem getD_replicate_false (m j:Nat):(Array.replicate m false).getD j false=false:=by
 rcases Nat.lt_or_ge j m with h | h
 ·simp [h]
 ·simp [h]
theorem Gb:∀ (l:LO),(l.filterMap (·.dst)).Nodup→∀ i j d,bz l i=some d→bz l j=some d→i=j:=by
 intro l
 induction l with
 | nil=>intro _ i j d h; simp [bz] at h
 | cons o l ih=>
  intro hn i j d hi hj
  have Wx:∀ k,bz (o :: l) (k+1)=some d→d∈l.filterMap (·.dst):=by
   intro k hk
   simp only [bz,List.getElem?_cons_succ] at hk
   cases ho:l[k]? with
   | none=>rw [ho] at hk; cases hk
   | some x=>rw [ho] at hk; exact List.mem_filterMap.2 ⟨x,List.mem_of_getElem? ho,hk⟩
  have h0:∀ e,o.dst=some e→e ∉ l.filterMap (·.dst)∧(l.filterMap (·.dst)).Nodup:=by
   intro e he
   rw [List.filterMap_cons_some he] at hn
   exact List.nodup_cons.1 hn
  have wH:(l.filterMap (·.dst)).Nodup:=by
   cases hd:o.dst with
   | none=>rwa [List.filterMap_cons_none hd] at hn
   | some e=>exact (h0 e hd).2
  cases i with
  | zero=>
   cases j with
   | zero=>rfl
   | succ j=>exact absurd (Wx j hj) (h0 d (by simpa [bz] using hi)).1
  | succ i=>
   cases j with
   | zero=>exact absurd (Wx i hi) (h0 d (by simpa [bz] using hj)).1
   | succ j=>rw [ih wH i j d (by simpa [bz] using hi) (by simpa [bz] using hj)]
theorem lq {m j:Nat} (hj:j < m):bz (l.take m) j=bz l j:=by
 unfold bz
 rw [List.getElem?_take,if_pos hj]
theorem rm {o:Oper} {r:NV} {w:World} {K K':Value→World→Prop} (h:gq P o r w K) (hk:∀ v w',K v w'→K' v w'):gq P o r w K':=by
 unfold gq at h ⊢
 cases hr:(execOp (ev r) o).run P w with
 | ok x w'=>
  rw [hr] at h
  cases x with
  | value v=>exact hk _ _ h
  | skip=>exact hk _ _ h
  | enter f args=>exact h.mono fun e F4 ⟨v,he,hv⟩=>⟨v,he,hk _ _ hv⟩
  | _=>exact h
 | _=>rw [hr] at h; exact h.elim
theorem Nu {m:Nat} {Z:LN} (h:AK l m Z=true):∀ (i:Nat) (o:Oper),l[i]? = some o→∀ e∈o.after.toList.filter (Region.binds .any),e.on < i:=by
 simp only [AK,Bool.and_eq_true,List.all_eq_true,List.mem_range] at h
 intro i o ho e he
 have hi:i < l.length:=(List.getElem?_eq_some_iff.1 ho).1
 have:=h.1.1 i hi e (by rw [List.getD_eq_getElem?_getD,ho]; exact he)
 exact Nat.lt_of_succ_le (Nat.le_of_ble_eq_true this)
theorem Vs {m:Nat} {U:LL} {Z H:LN} {N:Nat→Prop} (hd:de n l=true) (hA:AK l m Z=true) (hZ:HX l m Z=true) (hp:∀ c r w,Q (.panic c) r w→False) (HY:m≤l.length)
  (hS:S.length=m)
  (hH:∀ b∈H,b < w0.heap.size) (hU:((List.range m).all fun i=>(U.getD i []).all fun u=>Nat.beq u l.length || ((cf l).getD i []).contains u)=true)
  (hN:∀ b,N b→b < w0.heap.size∧b ∉ H)
  (sa:∀ (i:Nat) (s:iy),S[i]? = some s→∀ f F (w w':World) (r r':NV) v,an F w w'→(∀ b∈f,b ∉ F)→(∀ b∈F,¬ N b)→(∀ j∈(cf l).getD i [],∀ t,bz l j=some t→r' t=r t)→s.V f w r v→s.V f w' r' v)
  (PR:∀ i,i < m→lj P l m S U r0 w0 H i)
  (next:∀ g r w,AM l m S U r0 w0 H (fun j=>j < m) g r w→WL P l (l.drop m) r w (Q .normal)) :
  nb P n l Q r0 w0:=by
 simp only [AK,Bool.and_eq_true,List.all_eq_true,List.mem_range,Bool.or_eq_true] at hA
 obtain ⟨⟨VK,VL⟩,VM⟩:=hA
 have xF:∀ (i:Nat) (o:Oper),l[i]? = some o→∀ e∈o.after.toList.filter (Region.binds .any),e.on < i:=by
  intro i o ho e he
  have hi:i < l.length:=(List.getElem?_eq_some_iff.1 ho).1
  have:=VK i hi e (by rw [List.getD_eq_getElem?_getD,ho]; exact he)
  exact Nat.lt_of_succ_le (Nat.le_of_ble_eq_true this)
 have Fj:∀ i,m≤i→i < l.length→∀ j,j < i→j∈(cf l).getD i []∨j∈Z:=by
  intro i h1 h2 j hj
  rcases VL i h2 with h | h
  ·exact absurd (Nat.lt_of_succ_le (Nat.le_of_ble_eq_true h)) (Nat.not_lt.2 h1)
  ·have:=h j hj
   simpa using this
 simp only [HX,Bool.and_eq_true,List.all_eq_true] at hZ
 obtain ⟨Se,hZ⟩:=hZ
 have Wy:∀ z∈Z,z < m:=fun z hz=>Nat.lt_of_succ_le (Nat.le_of_ble_eq_true (hZ z hz).1.1)
 have VN:∀ i,i < m→∀ u∈U.getD i [],u=l.length∨u∈(cf l).getD i []:=by
  intro i hi u hu
  simp only [List.all_eq_true,List.mem_range] at hU
  have:=hU i hi u hu
  simpa using this
 have da:=Gb _ (zB VM)
 have rn:=BW l xF
 intro a h1 h2 h3
 let Cl (L:Array Bool):Prop:=L.size=l.length∧∀ j o,l[j]? = some o→L.getD j false=true→∀ e∈o.after.toList.filter (Region.binds .any),L.getD e.on false=true
 have jw:∀ L,Cl L→∀ i j,(∀ o,l[i]? = some o→∀ e∈o.after.toList.filter (Region.binds .any),L.getD e.on false=true)→j∈(cf l).getD i []→L.getD j false=true:=by
  intro L hL i
  induction i using Nat.strongRecOn with
  | _ i ih=>
   intro j hi hj
   obtain ⟨_,o,ho,e,he,H7⟩:=rn i j hj
   have hl:=hi o ho e he
   rcases H7 with rfl | H7
   ·exact hl
   ·exact ih e.on (xF i o ho e he) j (fun o' cg e' uO=>hL.2 _ _ cg hl e' uO) H7
 have np:∀ L i,i∈Region.ready .any l.toArray L→L.getD i true=false∧∃ o,l[i]? = some o∧∀ e∈o.after.toList.filter (Region.binds .any),L.getD e.on false=true:=by
  intro L i hi
  obtain ⟨g1,o,ho,du⟩:=mem_ready.1 hi
  refine ⟨g1,o,by simpa using ho,fun e he=>?_⟩
  have:=List.mem_filter.1 he
  exact du e (by simpa using this.1) this.2
 have Ee:∀ L i o,L.size=l.length→l[i]? = some o→L.getD i false=false→(∀ e∈o.after.toList.filter (Region.binds .any),L.getD e.on false=true)→i∈Region.ready .any l.toArray L:=by
  intro L i o hs ho hu du
  refine mem_ready.2 ⟨?_,o,by simpa using ho,fun e he hb=>du e (List.mem_filter.2 ⟨by simpa using he,hb⟩)⟩
  have hi:i < L.size:=by rw [hs]; exact (List.getElem?_eq_some_iff.1 ho).1
  simp [hi] at hu ⊢; exact hu
 have G7:∀ L i o,Cl L→l[i]? = some o→(∀ e∈o.after.toList.filter (Region.binds .any),L.getD e.on false=true)→Cl (L.setIfInBounds i true):=by
  intro L i o hL ho du
  refine ⟨by rw [Array.size_setIfInBounds]; exact hL.1,fun j o' cg hj e he=>?_⟩
  by_cases tG:i=j
  ·subst tG
   have:o'=o:=Option.some.inj (cg.symm.trans ho)
   subst this
   exact getD_set_true (du e he)
  ·rw [getD_set_ne false tG] at hj
   exact getD_set_true (hL.2 j o' cg hj e he)
 have getSet:∀ (L:Array Bool) i j,L.size=l.length→i < l.length→((L.setIfInBounds i true).getD j false=true↔j=i∨L.getD j false=true):=by
  intro L i j hs hi
  by_cases tG:i=j
  ·subst tG
   simp [hs,hi]
  ·rw [getD_set_ne false tG]
   constructor
   ·exact .inr
   ·rintro (h | h)
    ·exact absurd h.symm tG
    ·exact h
 have H8:∀ (L:Array Bool) i,L.size=l.length→i < l.length→L.getD i false=false→(L.setIfInBounds i true).toList.count false+1=L.toList.count false:=by
  intro L i hs hi hu
  have uJ:i < L.toList.length:=by simpa [hs] using hi
  have Dc:L.toList[i]=false:=by
   rw [Array.getElem_toList]
   simp [hs,hi] at hu
   exact hu
  rw [Array.toList_setIfInBounds,List.count_set uJ,Dc]
  have:0 < L.toList.count false:=List.count_pos_iff.2 (by rw [← Dc]; exact List.getElem_mem uJ)
  rw [if_pos (by rfl),if_neg (by decide)]
  omega
 have tail:∀ (d k fuel:Nat) (L:Array Bool) (a:Act) (w:World),l.length - k=d→m≤k→k≤l.length→Cl L→(∀ j,L.getD j false=true↔j < k)→L.toList.count false≤fuel→a.tmps.size=n→a.defers=[]→
   WL P l (l.drop k) (cn a) w (Q .normal)→wpAny P .any l.toArray (fun e a' w'=>a'.tmps.size=n∧a'.defers=[]∧Q e (cn a') w') fuel L a w:=by
  intro d
  induction d with
  | zero=>
   intro k fuel L a w hk hmk C6 hL ja hf g1 g2 hW
   obtain rfl:k=l.length:=by omega
   rw [List.drop_length] at hW
   have tj:Region.ready .any l.toArray L=[]:=by
    apply List.eq_nil_iff_forall_not_mem.2
    intro i hi
    obtain ⟨q1,o,ho,_⟩:=np L i hi
    have bm:i < l.length:=(List.getElem?_eq_some_iff.1 ho).1
    have:=(ja i).2 bm
    simp [hL.1,bm] at q1 this
    rw [q1] at this; cases this
   cases fuel with
   | zero=>exact ⟨tj,g1,g2,hW⟩
   | succ fuel=>exact ⟨fun _=>⟨g1,g2,hW⟩,fun i hi=>by rw [tj] at hi; cases hi⟩
  | succ d ih=>
   intro k fuel L a w hk hmk C6 hL ja hf g1 g2 hW
   have Md:k < l.length:=by omega
   obtain ⟨o,ho⟩ : ∃ o,l[k]? = some o:=⟨l[k],List.getElem?_eq_getElem Md⟩
   have Wz:L.getD k false=false:=by
    cases hb:L.getD k false with
    | false=>rfl
    | true=>exact absurd ((ja k).1 hb) (Nat.lt_irrefl _)
   have n7:k∈Region.ready .any l.toArray L:=Ee L k o hL.1 ho Wz fun e he=>(ja _).2 (xF k o ho e he)
   have Zk:l.drop k=o :: l.drop (k+1):=by rw [List.drop_eq_getElem_cons Md]; congr 1; exact Option.some.inj ((List.getElem?_eq_getElem Md).symm.trans ho)
   rw [Zk] at hW
   have hc:=H8 L k hL.1 Md Wz
   cases fuel with
   | zero=>omega
   | succ fuel=>
    refine ⟨fun h=>(by rw [h] at n7; cases n7),fun i hi=>?_⟩
    obtain ⟨q1,oi,n4,du⟩:=np L i hi
    have gj:i < l.length:=(List.getElem?_eq_some_iff.1 n4).1
    have vi:L.getD i false=false:=getD_both q1
    have hik:i=k:=by
     rcases Nat.lt_trichotomy i k with h | h | h
     ·have:=(ja i).2 h; rw [vi] at this; cases this
     ·exact h
     ·have:=jw L hL i k (fun o' cg=>by have:o'=oi:=Option.some.inj (cg.symm.trans n4); subst this; exact du) ((Fj i (by omega) gj k h).resolve_right fun hz=>absurd (Wy k hz) (by omega))
      rw [Wz] at this; cases this
    subst hik
    have ND:oi=o:=Option.some.inj (n4.symm.trans ho)
    subst ND
    have Ge:∀ k',oi.dst=some k'→k' < a.tmps.size:=by
     intro k' x6
     have vL:oi∈l:=List.mem_of_getElem? n4
     simp only [de,List.all_eq_true] at hd
     have:=hd oi vL
     rw [x6] at this
     rw [g1]
     exact Nat.lt_of_succ_le (Nat.le_of_ble_eq_true this)
    have Dd:=G7 L i oi hL n4 du
    have AO:∀ j,(L.setIfInBounds i true).getD j false=true↔j < i+1:=by
     intro j
     rw [getSet L i j hL.1 gj,ja j]
     omega
    unfold wpOp
    rw [show (l.toArray)[i]? = some oi by simpa using n4]
    simp only []
    rw [AN (by rw [g1]; exact hd)]
    rcases hW with ⟨hw,hW⟩ | ⟨hw,hW⟩
    ·rw [if_pos hw]
     exact .inl (hW.wp fun v w' hv=>ih (i+1) fuel _ _ _ (by omega) (by omega) (by omega) Dd AO (by omega) (by rw [j8]; exact g1) (by rw [ik]; exact g2) (by rw [l7 Ge]; exact hv))
    ·rw [if_neg (by rw [hw]; exact Bool.false_ne_true)]
     exact ih (i+1) fuel _ _ _ (by omega) (by omega) (by omega) Dd AO (by omega) (by rw [j8]; exact g1) (by rw [ik]; exact g2) (by rw [l7 Ge]; exact hW)
 have head:∀ (fuel:Nat) (L:Array Bool) (a:Act) (w:World) (g:Nat→List Nat),Cl L→(∀ j,L.getD j false=true→j < m)→L.toList.count false≤fuel→a.tmps.size=n→a.defers=[]→
   AM l m S U r0 w0 H (fun j=>L.getD j false=true) g (cn a) w→wpAny P .any l.toArray (fun e a' w'=>a'.tmps.size=n∧a'.defers=[]∧Q e (cn a') w') fuel L a w:=by
  intro fuel
  induction fuel with
  | zero=>
   intro L a w g hL vf hf g1 g2 inv
   have du:∀ j,j < l.length→L.getD j false=true:=by
    intro j hj
    cases hb:L.getD j false with
    | true=>rfl
    | false=>have:=H8 L j hL.1 hj hb; omega
   have ja:∀ j,L.getD j false=true↔j < m:=fun j=>⟨vf j,fun h=>du j (by omega)⟩
   refine tail _ m 0 L a w rfl (Nat.le_refl _) HY hL ja hf g1 g2 (next g _ _ ?_)
   exact ⟨inv.jk,fun hk=>inv.BY fun k yd=>hk k ((ja k).1 yd),inv.vg,fun j hj=>inv.vd j ((ja j).2 hj),fun j hj hk=>inv.done j ((ja j).2 hj) (fun k yd=>hk k ((ja k).1 yd)),fun j hj=>inv.ui j ((ja j).2 hj),inv.other,fun j hj b hb=>⟨(inv.fresh j ((ja j).2 hj) b hb).1.imp (fun h=>h) fun h=>⟨h.1,h.2.imp fun k hk=>⟨(ja k).1 hk.1,hk.2⟩⟩,(inv.fresh j ((ja j).2 hj) b hb).2⟩,fun i j hi hj=>inv.xx i j ((ja i).2 hi) ((ja j).2 hj)⟩
  | succ fuel ih=>
   intro L a w g hL vf hf g1 g2 inv
   by_cases du:∀ j,j < m→L.getD j false=true
   ·have ja:∀ j,L.getD j false=true↔j < m:=fun j=>⟨vf j,du j⟩
    refine tail _ m _ L a w rfl (Nat.le_refl _) HY hL ja hf g1 g2 (next g _ _ ?_)
    exact ⟨inv.jk,fun hk=>inv.BY fun k yd=>hk k ((ja k).1 yd),inv.vg,fun j hj=>inv.vd j ((ja j).2 hj),fun j hj hk=>inv.done j ((ja j).2 hj) (fun k yd=>hk k ((ja k).1 yd)),fun j hj=>inv.ui j ((ja j).2 hj),inv.other,fun j hj b hb=>⟨(inv.fresh j ((ja j).2 hj) b hb).1.imp (fun h=>h) fun h=>⟨h.1,h.2.imp fun k hk=>⟨(ja k).1 hk.1,hk.2⟩⟩,(inv.fresh j ((ja j).2 hj) b hb).2⟩,fun i j hi hj=>inv.xx i j ((ja i).2 hi) ((ja j).2 hj)⟩
   ·obtain ⟨j0,Sf,Gc⟩ : ∃ j,j < m∧L.getD j false=false:=by
     apply Classical.byContradiction
     intro tj
     apply du
     intro j hj
     cases hb:L.getD j false with
     | true=>rfl
     | false=>exact absurd ⟨j,hj,hb⟩ tj
    have LG:∃ i,i∈Region.ready .any l.toArray L:=by
     have:∀ k,(∃ j,j < k∧j < m∧L.getD j false=false)→∃ i,i∈Region.ready .any l.toArray L:=by
      intro k
      induction k with
      | zero=>rintro ⟨j,h,_⟩; omega
      | succ k D5=>
       rintro ⟨j,Ny,BZ,tk⟩
       by_cases td:∃ j,j < k∧j < m∧L.getD j false=false
       ·exact D5 td
       ·obtain rfl:j=k:=by
         apply Classical.byContradiction
         intro h
         exact td ⟨j,by omega,BZ,tk⟩
        have B0:j < l.length:=by omega
        refine ⟨j,Ee L j l[j] hL.1 (List.getElem?_eq_getElem B0) tk fun e he=>?_⟩
        have bm:=xF j _ (List.getElem?_eq_getElem B0) e he
        cases hb:L.getD e.on false with
        | true=>rfl
        | false=>exact absurd ⟨e.on,bm,by omega,hb⟩ td
     exact this (j0+1) ⟨j0,by omega,Sf,Gc⟩
    have main:∀ i oi,i < m→l[i]? = some oi→L.getD i false=false→(∀ e∈oi.after.toList.filter (Region.binds .any),L.getD e.on false=true)→
      (Region.wanted oi (yl l (cn a))=true∧gq P oi (cn a) w fun v w'=>wpAny P .any l.toArray (fun e a' w'=>a'.tmps.size=n∧a'.defers=[]∧Q e (cn a') w') fuel (L.setIfInBounds i true) (a.put oi.dst v) w')∨
      (Region.wanted oi (yl l (cn a))=false∧wpAny P .any l.toArray (fun e a' w'=>a'.tmps.size=n∧a'.defers=[]∧Q e (cn a') w') fuel (L.setIfInBounds i true) (a.put oi.dst undef) w):=by
     intro i oi vh n4 vi vj
     have gj:i < l.length:=(List.getElem?_eq_some_iff.1 n4).1
     have nt:∀ o,l[i]? = some o→∀ e∈o.after.toList.filter (Region.binds .any),L.getD e.on false=true:=fun o' cg=>by
      have:o'=oi:=Option.some.inj (cg.symm.trans n4)
      subst this; exact vj
     obtain ⟨s,hs⟩ : ∃ s,S[i]? = some s:=⟨S[i]'(by omega),List.getElem?_eq_getElem (by omega)⟩
     have hc:=H8 L i hL.1 gj vi
     have Dd:=G7 L i oi hL n4 vj
     have B3:∀ j,(L.setIfInBounds i true).getD j false=true→j < m:=by
      intro j hj
      rcases (getSet L i j hL.1 gj).1 hj with rfl | hj
      ·exact vh
      ·exact vf j hj
     have Ef:∀ k,L.getD k false=true→k≠i∧i ∉ (cf l).getD k []:=by
      intro k hk
      refine ⟨fun h=>(by rw [h,vi] at hk; cases hk),fun vL=>?_⟩
      have:=jw L hL k i (fun o' cg e' uO=>hL.2 k o' cg hk e' uO) vL
      rw [vi] at this; cases this
     have ow:=PR i vh oi s n4 hs g (cn a) w inv.jk (fun hV=>by
       have tj:∀ k,L.getD k false=true→l.length ∉ U.getD k []:=fun k hk H9=>by
        simp only [AI,List.all_eq_true,List.mem_range,Bool.or_eq_true,Bool.not_eq_true',List.contains_eq_mem,decide_eq_false_iff_not,decide_eq_true_eq] at hV
        rcases hV k (vf k hk) with (h | h) | h
        ·exact h H9
        ·exact (Ef k hk).1 (Nat.eq_of_beq_eq_true h)
        ·exact (Ef k hk).2 h
       have h0:=inv.BY tj
       exact ⟨h0.1,h0.2,fun j hj b hb=>(inv.fresh j (jw L hL i j nt hj) b hb).1.elim (fun h=>h) fun h=>absurd h.2.choose_spec.2 (tj _ h.2.choose_spec.1)⟩) (fun j hj=>inv.ui j (jw L hL i j nt hj)) (fun j hj=>by
       simp only [vc,Bool.and_eq_true,List.all_eq_true,List.mem_range,Bool.or_eq_true,Bool.not_eq_true',List.contains_eq_mem,decide_eq_false_iff_not,decide_eq_true_eq] at hj
       refine inv.done j (jw L hL i j nt hj.1) fun k hk Ny=>?_
       rcases hj.2 k (vf k hk) with (h | h) | h
       ·exact h Ny
       ·exact (Ef k hk).1 (Nat.eq_of_beq_eq_true h)
       ·exact (Ef k hk).2 h) inv.other
      (fun i' uJ j' iz=>inv.xx i' j' (jw L hL i i' nt uJ) (jw L hL i j' nt iz))
      (fun j hj b hb=>⟨(inv.fresh j (jw L hL i j nt hj) b hb).1.imp (fun h=>h) (·.1),(inv.fresh j (jw L hL i j nt hj) b hb).2⟩)
     have hblk:∀ b∈qj g (U.getD i []),(∃ u,u∈U.getD i []∧L.getD u false=true∧b∈g u)∨(l.length∈U.getD i []∧b∈g l.length):=by
      intro b hb
      obtain ⟨u,hu,ib⟩:=List.mem_flatMap.1 hb
      rcases VN i vh u hu with rfl | h
      ·exact .inr ⟨hu,ib⟩
      ·exact .inl ⟨u,hu,jw L hL i u nt h,ib⟩
     have Ge:∀ k',oi.dst=some k'→k' < a.tmps.size:=by
      intro k' x6
      have vL:oi∈l:=List.mem_of_getElem? n4
      simp only [de,List.all_eq_true] at hd
      have:=hd oi vL
      rw [x6] at this
      rw [g1]
      exact Nat.lt_of_succ_le (Nat.le_of_ble_eq_true this)
     have zP:bz l i=oi.dst:=by unfold bz; rw [n4]; rfl
     have qx:∀ v t,(oi.dst≠some t)→cn (a.put oi.dst v) t=cn a t:=by
      intro v t ht
      rw [l7 Ge]
      cases ye:oi.dst with
      | none=>rfl
      | some d=>
       show (bif Nat.beq t d then v else cn a t)=cn a t
       cases hb:Nat.beq t d with
       | false=>rfl
       | true=>exact absurd (by rw [ye,Nat.eq_of_beq_eq_true hb]) ht
     have Ia:∀ v d,oi.dst=some d→cn (a.put oi.dst v) d=v:=by
      intro v d ye
      rw [l7 Ge,ye]
      show (bif Nat.beq d d then v else cn a d)=v
      rw [Nat.beq_refl]; rfl
     have step:∀ v w' f,an (qj g (U.getD i [])) w w'→(∀ b∈f,(b∈qj g (U.getD i [])∨w.heap.size≤b)∧b < w'.heap.size)→(if s.b then s.V f w' (cn a) v else v=undef)→
       wpAny P .any l.toArray (fun e a' w'=>a'.tmps.size=n∧a'.defers=[]∧Q e (cn a') w') fuel (L.setIfInBounds i true) (a.put oi.dst v) w':=by
      intro v w' f hC ve hV
      have tQ:∀ j',j' < m→j'≠i→∀ t,bz l j'=some t→cn (a.put oi.dst v) t=cn a t:=by
       intro j' iz nq t ht
       refine qx v t fun h=>nq (da j' i t ?_ ?_)
       ·rw [lq iz]; exact ht
       ·rw [lq vh,zP]; exact h
      have Nz:∀ b∈qj g (U.getD i []),¬ N b:=fun b hb hn=>by
       rcases hblk b hb with ⟨u,_,p6,ib⟩ | ⟨_,ib⟩
       ·rcases (inv.fresh u p6 b ib).1 with h | h
        ·have:=(hN b hn).1; omega
        ·exact (hN b hn).2 h.1
       ·exact (hN b hn).2 (inv.vg b ib)
      refine ih _ _ _ (fun j=>if j=i then f else if j∈U.getD i [] then [] else g j) Dd B3 (by omega) (by rw [j8]; exact g1) (by rw [ik]; exact g2)
       ⟨inv.jk.then hC fun b hb=>(by
        rcases hblk b hb with ⟨u,_,p6,ib⟩ | ⟨_,ib⟩
        ·exact (inv.fresh u p6 b ib).1.elim .inr fun h=>.inl h.1
        ·exact .inl (inv.vg b ib)),fun tj=>?_,?_,fun j hj=>?_,?_,fun j hj d vl sj sU=>?_,?_,?_,?_⟩
      ·have ya:l.length ∉ U.getD i []:=tj i ((getSet L i i hL.1 gj).2 (.inl rfl))
       have h0:=inv.BY fun k hk=>tj k ((getSet L i k hL.1 gj).2 (.inr hk))
       refine ⟨h0.1.then hC fun b hb=>?_,?_⟩
       ·rcases hblk b hb with ⟨u,_,p6,ib⟩ | ⟨h,_⟩
        ·exact (inv.fresh u p6 b ib).1.elim .inr fun ⟨_,k,hk,H9⟩=>absurd H9 (tj k ((getSet L i k hL.1 gj).2 (.inr hk)))
        ·exact absurd h ya
       ·show (if l.length=i then f else if l.length∈U.getD i [] then [] else g l.length)=H
        rw [if_neg (by omega),if_neg ya]
        exact h0.2
      ·intro b hb
       have cw:b∈(if l.length=i then f else if l.length∈U.getD i [] then [] else g l.length):=hb
       rw [if_neg (by omega)] at cw
       split at cw
       ·cases cw
       ·exact inv.vg b cw
      ·intro b hb hv
       have o9:b∈(if l.length=i then f else if l.length∈U.getD i [] then [] else g l.length):=hv
       rw [if_neg (by omega)] at o9
       split at o9
       ·cases o9
       ·rename_i VP
        have cw:b∈(if j=i then f else if j∈U.getD i [] then [] else g j):=hb
        split at cw
        ·rcases (ve b cw).1 with h | h
         ·rcases hblk b h with ⟨u,_,p6,ib⟩ | ⟨h,_⟩
          ·exact inv.vd u p6 b ib o9
          ·exact VP h
         ·have h1:=hH b (inv.vg b o9)
          have h2:=inv.jk.size
          omega
        ·rename_i l9
         split at cw
         ·cases cw
         ·exact inv.vd j (((getSet L i j hL.1 gj).1 hj).resolve_left l9) b cw o9
      ·intro j hj zQ
       refine ⟨fun d vl=>?_,fun VR sj sU NB=>?_⟩
       rotate_left
       ·by_cases l9:j=i
        ·subst l9
         rw [hs] at sU
         cases sU
         rw [if_pos NB] at hV
         refine ⟨v,?_⟩
         simp only [if_pos]
         exact sa j s hs _ [] w' w' (cn a) _ v (an.refl _ _) (fun _ _ h=>nomatch h) (fun _ h=>nomatch h) (fun j' iz t ht=>tQ j' (by have:=(rn j j' iz).1; omega) (by have:=(rn j j' iz).1; omega) t ht) hV
        ·have nu:=((getSet L i j hL.1 gj).1 hj).resolve_left l9
         have tk:j ∉ U.getD i []:=zQ i ((getSet L i i hL.1 gj).2 (.inl rfl))
         obtain ⟨x,hx⟩:=(inv.done j nu (fun k hk=>zQ k ((getSet L i k hL.1 gj).2 (.inr hk)))).2 VR sj sU NB
         have jm:(fun j=>if j=i then f else if j∈U.getD i [] then [] else g j) j=g j:=by
          show (if j=i then f else if j∈U.getD i [] then [] else g j)=g j
          rw [if_neg l9,if_neg tk]
         rw [jm]
         refine ⟨x,sa j sj sU _ _ _ _ (cn a) _ _ hC (fun b cw Ib=>?_) Nz (fun j' iz t ht=>tQ j' (by have:=(rn j j' iz).1; have:=vf j nu; omega) (fun h=>?_) t ht) hx⟩
         ·rcases hblk b Ib with ⟨u,B4,p6,ib⟩ | ⟨_,ib⟩
          ·exact inv.xx j u nu p6 (fun h=>tk (h ▸ B4)) b cw ib
          ·exact inv.vd j nu b cw ib
         ·subst h
          have:=jw L hL j j' (fun o' cg e' uO=>hL.2 j o' cg nu e' uO) iz
          rw [vi] at this; cases this
       by_cases l9:j=i
       ·subst l9
        rw [hs]
        simp only [if_pos]
        rw [zP] at vl
        rw [Ia v d vl]
        split
        ·rename_i hb
         rw [if_pos hb] at hV
         exact sa j s hs _ [] w' w' (cn a) _ v (an.refl _ _) (fun _ _ h=>nomatch h) (fun _ h=>nomatch h) (fun j' iz t ht=>tQ j' (by have:=(rn j j' iz).1; omega) (by have:=(rn j j' iz).1; omega) t ht) hV
        ·rename_i hb
         rw [if_neg hb] at hV
         exact hV
       ·have nu:=((getSet L i j hL.1 gj).1 hj).resolve_left l9
        have BZ:=vf j nu
        have tk:j ∉ U.getD i []:=zQ i ((getSet L i i hL.1 gj).2 (.inl rfl))
        have ye:oi.dst≠some d:=by
         intro h
         apply l9
         refine da j i d ?_ ?_
         ·rw [lq BZ]; exact vl
         ·rw [lq vh,zP]; exact h
        have:=(inv.done j nu (fun k hk=>zQ k ((getSet L i k hL.1 gj).2 (.inr hk)))).1 d vl
        rw [qx v d ye]
        have jm:(fun j=>if j=i then f else if j∈U.getD i [] then [] else g j) j=g j:=by
         show (if j=i then f else if j∈U.getD i [] then [] else g j)=g j
         rw [if_neg l9,if_neg tk]
        rw [jm]
        cases sU:S[j]? with
        | none=>trivial
        | some sj=>
         rw [sU] at this
         simp only [] at this ⊢
         split
         ·rename_i hb
          rw [if_pos hb] at this
          refine sa j sj sU _ _ _ _ (cn a) _ _ hC (fun b cw Ib=>?_) Nz (fun j' iz t ht=>tQ j' (by have:=(rn j j' iz).1; omega) (fun h=>?_) t ht) this
          rotate_left
          ·subst h
           have:=jw L hL j j' (fun o' cg e' uO=>hL.2 j o' cg nu e' uO) iz
           rw [vi] at this; cases this
          rcases hblk b Ib with ⟨u,B4,p6,ib⟩ | ⟨_,ib⟩
          ·exact inv.xx j u nu p6 (fun h=>tk (h ▸ B4)) b cw ib
          ·exact inv.vd j nu b cw ib
         ·rename_i hb
          rw [if_neg hb] at this
          exact this
      ·by_cases l9:j=i
       ·subst l9
        rw [hs] at sU
        cases sU
        rw [zP] at vl
        rw [Ia v d vl]
        split
        ·rename_i hb
         rw [if_pos hb] at hV
         exact ⟨f,w',sa j s hs _ [] w' w' (cn a) _ v (an.refl _ _) (fun _ _ h=>nomatch h) (fun _ h=>nomatch h) (fun j' iz t ht=>tQ j' (by have:=(rn j j' iz).1; omega) (by have:=(rn j j' iz).1; omega) t ht) hV⟩
        ·rename_i hb
         rw [if_neg hb] at hV
         exact hV
       ·have nu:=((getSet L i j hL.1 gj).1 hj).resolve_left l9
        have BZ:=vf j nu
        have ye:oi.dst≠some d:=by
         intro h
         apply l9
         refine da j i d ?_ ?_
         ·rw [lq BZ]; exact vl
         ·rw [lq vh,zP]; exact h
        have:=inv.ui j nu d vl sj sU
        rw [qx v d ye]
        split
        ·rename_i hb
         rw [if_pos hb] at this
         obtain ⟨f1,w1,h1⟩:=this
         refine ⟨f1,w1,sa j sj sU _ [] w1 w1 (cn a) _ _ (an.refl _ _) (fun _ _ h=>nomatch h) (fun _ h=>nomatch h) (fun j' iz t ht=>tQ j' (by have:=(rn j j' iz).1; omega) (fun h=>?_) t ht) h1⟩
         subst h
         have:=jw L hL j j' (fun o' cg e' uO=>hL.2 j o' cg nu e' uO) iz
         rw [vi] at this; cases this
        ·rename_i hb
         rw [if_neg hb] at this
         exact this
      ·intro t ht
       rw [qx v t (fun h=>ht i vh (by rw [zP]; exact h))]
       exact inv.other t ht
      ·intro j hj b hb
       by_cases l9:j=i
       ·simp only [if_pos l9] at hb
        have hh:=ve b hb
        have uh:=inv.jk.size
        rcases hh.1 with h | h
        ·rcases hblk b h with ⟨u,_,p6,ib⟩ | ⟨hv,ib⟩
         ·exact ⟨(inv.fresh u p6 b ib).1.imp (fun h=>h) fun h=>⟨h.1,h.2.imp fun k hk=>⟨(getSet L i k hL.1 gj).2 (.inr hk.1),hk.2⟩⟩,hh.2⟩
         ·exact ⟨.inr ⟨inv.vg b ib,i,(getSet L i i hL.1 gj).2 (.inl rfl),hv⟩,hh.2⟩
        ·exact ⟨.inl (by omega),hh.2⟩
       ·have nu:=((getSet L i j hL.1 gj).1 hj).resolve_left l9
        simp only [if_neg l9] at hb
        split at hb
        ·cases hb
        ·have h1:=inv.fresh j nu b hb
         have h2:=hC.size
         exact ⟨h1.1.imp (fun h=>h) fun h=>⟨h.1,h.2.imp fun k hk=>⟨(getSet L i k hL.1 gj).2 (.inr hk.1),hk.2⟩⟩,by omega⟩
      ·have ux:∀ j',(L.setIfInBounds i true).getD j' false=true→j'≠i→∀ b∈f,b ∉ (if j'∈U.getD i [] then [] else g j'):=by
        intro j' iz e2 b hb cw
        have Ic:=((getSet L i j' hL.1 gj).1 iz).resolve_left e2
        split at cw
        ·cases cw
        ·rename_i tk
         rcases (ve b hb).1 with h | h
         ·rcases hblk b h with ⟨u,B4,p6,ib⟩ | ⟨_,ib⟩
          ·exact inv.xx u j' p6 Ic (fun h=>tk (h ▸ B4)) b ib cw
          ·exact inv.vd j' Ic b cw ib
         ·have:=inv.fresh j' Ic b cw
          omega
       intro i' j' uJ iz nq b hb cw
       by_cases e1:i'=i
       ·have e2:j'≠i:=fun h=>nq (e1.trans h.symm)
        simp only [if_pos e1] at hb
        simp only [if_neg e2] at cw
        exact ux j' iz e2 b hb cw
       ·simp only [if_neg e1] at hb
        by_cases e2:j'=i
        ·simp only [if_pos e2] at cw
         exact ux i' uJ e1 b cw hb
        ·simp only [if_neg e2] at cw
         split at hb
         ·cases hb
         ·split at cw
          ·cases cw
          ·exact inv.xx i' j' (((getSet L i i' hL.1 gj).1 uJ).resolve_left e1) (((getSet L i j' hL.1 gj).1 iz).resolve_left e2) nq b hb cw
     cases hb:s.b with
     | true=>
      rw [if_pos hb] at ow
      refine .inl ⟨ow.1,rm ow.2 ?_⟩
      rintro v w' ⟨hC,f,ve,hV⟩
      exact step v w' f hC ve (by rw [if_pos hb]; exact hV)
     | false=>
      rw [if_neg (by rw [hb]; exact Bool.false_ne_true)] at ow
      exact .inr ⟨ow,step undef w [] (an.refl _ _) (fun b h=>nomatch h) (by rw [if_neg (by rw [hb]; exact Bool.false_ne_true)])⟩
    by_cases Sz:∃ z,z∈Z∧L.getD z false=false∧∀ o,l[z]? = some o→∀ e∈o.after.toList.filter (Region.binds .any),L.getD e.on false=true
    ·obtain ⟨z,hz,WA,hze⟩:=Sz
     obtain ⟨⟨hzm,hzf⟩,N4⟩:=hZ z hz
     cases Gu:l[z]? with
     | none=>rw [Gu] at N4; cases N4
     | some oz=>
      rw [Gu] at N4
      simp only [Bool.and_eq_true] at N4
      obtain ⟨hmv,Gt⟩:=N4
      have Qa:=hze oz Gu
      have SB:Region.free .any l.toArray L z=true:=N3 (fun j hj=>jw L hL z j (fun o' cg=>hze o' cg) hj) hzf
      have hrz:z∈Region.ready .any l.toArray L:=Ee L z oz hL.1 Gu WA Qa
      obtain ⟨dz,opz,tyz,pz,az,gz⟩:=oz
      cases opz <;> first | exact (Bool.false_ne_true hmv).elim | skip
      case move x=>
       cases gz with
       | some _=>simp at Gt
       | none=>
        have hev:∀ w',(execOp a.eval ⟨dz,.move x,tyz,pz,az,none⟩).run P w' = .ok (.value (a.eval x)) w':=fun _=>rfl
        refine wpAny_take (by simpa using Gu) Se SB (by simpa using hrz) (fun c a w h=>absurd h.2.2 (hp _ _ _)) (v:=a.eval x) (.inl ⟨rfl,hev⟩) ?_
        rcases main z _ (Wy z hz) Gu WA Qa with ⟨_,h⟩ | ⟨h,_⟩
        ·rw [su]; exact h
        ·exact absurd h (by simp [Region.wanted])
      case extract x k=>
       cases gz with
       | some _=>simp at Gt
       | none=>
        rcases main z _ (Wy z hz) Gu WA Qa with ⟨_,h⟩ | ⟨h,_⟩
        ·obtain ⟨v,hv,hk⟩:=JV h
         refine wpAny_take (by simpa using Gu) Se SB (by simpa using hrz) (fun c a w h=>absurd h.2.2 (hp _ _ _)) (v:=v) (.inl ⟨rfl,fun w'=>by rw [su]; exact hv w'⟩) ?_
         exact hk
        ·exact absurd h (by simp [Region.wanted])
    refine ⟨fun h=>(by obtain ⟨i,hi⟩:=LG; rw [h] at hi; cases hi),fun i hi=>?_⟩
    obtain ⟨q1,oi,n4,vj⟩:=np L i hi
    have gj:i < l.length:=(List.getElem?_eq_some_iff.1 n4).1
    have vi:L.getD i false=false:=getD_both q1
    have vh:i < m:=by
     rcases Nat.lt_or_ge i m with h | h
     ·exact h
     ·have bad:∀ j,j < i→L.getD j false=false→False:=by
       intro j
       induction j using Nat.strongRecOn with
       | _ j ih=>
        intro l9 tk
        rcases Fj i h gj j l9 with hj | hj
        ·have:=jw L hL i j (fun o' cg=>by have:o'=oi:=Option.some.inj (cg.symm.trans n4); subst this; exact vj) hj
         rw [tk] at this; cases this
        ·refine Sz ⟨j,hj,tk,fun o ho e he=>?_⟩
         cases hb:L.getD e.on false with
         | true=>rfl
         | false=>have bm:=xF j o ho e he; exact (ih e.on bm (by omega) hb).elim
      exact (bad j0 (by omega) Gc).elim
    unfold wpOp
    rw [show (l.toArray)[i]? = some oi by simpa using n4]
    simp only []
    rw [AN (by rw [g1]; exact hd)]
    rcases main i oi vh n4 vi vj with ⟨hw,h⟩ | ⟨hw,h⟩
    ·rw [if_pos hw]
     exact .inl (h.wp fun v w' hv=>hv)
    ·rw [if_neg (by rw [hw]; exact Bool.false_ne_true)]
     exact h
 refine head _ _ a _ (fun j=>if j=l.length then H else []) ⟨by simp,?_⟩ ?_ ?_ h1 h2 ⟨an.nil (an.drew _ _),fun _=>⟨an.drew _ _,by simp⟩,fun b hb=>by simpa using hb,?_,?_,?_,?_,?_,?_⟩
 ·intro j o ho hj
  rw [getD_replicate_false] at hj; cases hj
 ·intro j hj
  rw [getD_replicate_false] at hj; cases hj
 ·simp
 ·intro j hj
  rw [getD_replicate_false] at hj; cases hj
 ·intro j hj
  rw [getD_replicate_false] at hj; cases hj
 ·intro j hj
  rw [getD_replicate_false] at hj; cases hj
 ·intro t _
  rw [h3]
 ·intro j hj
  rw [getD_replicate_false] at hj; cases hj
 ·intro i j hi
  rw [getD_replicate_false] at hi; cases hi
theorem lj.val {m i:Nat} {U:LL} {H:LN} {o:Oper} {v:Value} (ho:l[i]? = some o) (hs:S[i]? = some ⟨true,pl fun _ _ u=>u=v⟩) (hg:o.guard=none)
  (h:∀ (g:Nat→List Nat) (r:NV) (w:World),an H w0 w→(∀ j∈(cf l).getD i [],Old l S j r)→(∀ j,vc l U m i j=true→x9 l S j g r w)→(∀ t,(∀ j,j < m→bz l j≠some t)→r t=r0 t)→
   (execOp (ev r) o).run P w = .ok (.value v) w):lj P l m S U r0 w0 H i:=by
 intro o' s' cg ep g r w hC hV hO hd ll yb qx
 obtain rfl:o=o':=Option.some.inj (ho.symm.trans cg)
 obtain rfl:_=s':=Option.some.inj (hs.symm.trans ep)
 rw [if_pos rfl]
 refine ⟨by unfold Region.wanted; rw [hg],?_⟩
 unfold gq
 rw [h g r w hC hO hd ll]
 exact ⟨an.refl _ _,[],(fun _ h=>nomatch h),rfl⟩
theorem lj.call {m i:Nat} {U:LL} {H:LN} {o:Oper} {v:Value} {f:FuncId} (ho:l[i]? = some o) (hs:S[i]? = some ⟨true,pl fun _ _ u=>u=v⟩) (hg:o.guard=none)
  (h:∀ (g:Nat→List Nat) (r:NV) (w:World),an H w0 w→(∀ j∈(cf l).getD i [],Old l S j r)→(∀ j,vc l U m i j=true→x9 l S j g r w)→(∀ t,(∀ j,j < m→bz l j≠some t)→r t=r0 t)→
   ∃ args,(execOp (ev r) o).run P w = .ok (.enter f args) w∧Calls P f args w fun e w'=>e = .returned v∧an [] w w'):lj P l m S U r0 w0 H i:=by
 intro o' s' cg ep g r w hC hV hO hd ll yb qx
 obtain rfl:o=o':=Option.some.inj (ho.symm.trans cg)
 obtain rfl:_=s':=Option.some.inj (hs.symm.trans ep)
 rw [if_pos rfl]
 refine ⟨by unfold Region.wanted; rw [hg],?_⟩
 unfold gq
 obtain ⟨args,h1,h2⟩:=h g r w hC hO hd ll
 rw [h1]
 exact h2.mono fun e w' ⟨he,hc⟩=>⟨v,he,hc.nil,[],(fun _ h=>nomatch h),rfl⟩
theorem lj.mem {m i:Nat} {U:LL} {H:LN} {o:Oper} {V:List Nat→World→Value→Prop} (ho:l[i]? = some o) (hs:S[i]? = some ⟨true,pl V⟩) (hg:o.guard=none)
  (h:∀ (g:Nat→List Nat) (r:NV) (w:World),an H w0 w→(∀ j∈(cf l).getD i [],Old l S j r)→(∀ j,vc l U m i j=true→x9 l S j g r w)→(∀ t,(∀ j,j < m→bz l j≠some t)→r t=r0 t)→
   gq P o r w fun v w'=>an [] w w'∧∃ f,(∀ b∈f,w.heap.size≤b∧b < w'.heap.size)∧V f w' v):lj P l m S U r0 w0 H i:=by
 intro o' s' cg ep g r w hC hV hO hd ll yb qx
 obtain rfl:o=o':=Option.some.inj (ho.symm.trans cg)
 obtain rfl:_=s':=Option.some.inj (hs.symm.trans ep)
 rw [if_pos rfl]
 refine ⟨by unfold Region.wanted; rw [hg],rm (h g r w hC hO hd ll) ?_⟩
 rintro v w' ⟨hC,f,hf,hV⟩
 exact ⟨hC.nil,f,fun b hb=>⟨.inr (hf b hb).1,(hf b hb).2⟩,hV⟩
theorem lj.PG {m i:Nat} {U:LL} {H:LN} {o:Oper} {V:List Nat→World→(Nat→Value)→Value→Prop} (ho:l[i]? = some o) (hs:S[i]? = some ⟨true,V⟩) (hg:o.guard=none)
  (h:∀ (g:Nat→List Nat) (r:NV) (w:World),an H w0 w→(∀ j∈(cf l).getD i [],Old l S j r)→(∀ j,vc l U m i j=true→x9 l S j g r w)→(∀ t,(∀ j,j < m→bz l j≠some t)→r t=r0 t)→
   gq P o r w fun v w'=>an [] w w'∧∃ f,(∀ b∈f,w.heap.size≤b∧b < w'.heap.size)∧V f w' r v):lj P l m S U r0 w0 H i:=by
 intro o' s' cg ep g r w hC hV hO hd ll yb qx
 obtain rfl:o=o':=Option.some.inj (ho.symm.trans cg)
 obtain rfl:_=s':=Option.some.inj (hs.symm.trans ep)
 rw [if_pos rfl]
 refine ⟨by unfold Region.wanted; rw [hg],rm (h g r w hC hO hd ll) ?_⟩
 rintro v w' ⟨hC,f,hf,hV⟩
 exact ⟨hC.nil,f,fun b hb=>⟨.inr (hf b hb).1,(hf b hb).2⟩,hV⟩
def Ff {α:Type} (T:ag α) (x:α):List Nat→World→Value→Prop:=fun f w v=>T.rep w.heap [v] x f∧f.Nodup
def ab8 (cs:LV) (e:TI) (n:Nat):List Nat→World→Value→Prop:=fun f w v=>∃ b,f=[b]∧v = .slice (some ⟨b,0,none⟩) n n∧Row w b cs e
def HH (a:LN) (l:LO) (s:iy):Prop:=∀ f F (w w':World) (r r':NV) v,an F w w'→(∀ b∈f,b ∉ F)→(∀ j∈a,∀ t,bz l j=some t→r' t=r t)→s.V f w r v→s.V f w' r' v
theorem N5 {a:LN} {b:Bool} {V:List Nat→World→Value→Prop} (h:∀ f F (w w':World) v,an F w w'→(∀ b∈f,b ∉ F)→V f w v→V f w' v):HH a l ⟨b,pl V⟩:=
 fun f F w w' _ _ v hC hn _ hv=>h f F w w' v hC hn hv
theorem Ls {a:LN} {b:Bool} {u:Value}:HH a l ⟨b,pl fun _ _ v=>v=u⟩:=N5 fun _ _ _ _ _ _ _ h=>h
theorem gq.own {α:Type} {T:ag α} {x:α} {o:Oper} {r:NV} {w:World} {f:FuncId} {args:Array Value} (h:(execOp (ev r) o).run P w = .ok (.enter f args) w)
  (hc:Calls P f args w fun e w'=>∃ (v:Value) (k:LN),e = .returned v∧an [] w w'∧OE [] w.heap.size w' T [v] x k) :
  gq P o r w fun v w'=>an [] w w'∧∃ f,(∀ b∈f,w.heap.size≤b∧b < w'.heap.size)∧Ff T x f w' v:=by
 unfold gq
 rw [h]
 exact hc.mono fun e w' ⟨v,k,he,hC,ho⟩=>⟨v,he,hC,k,fun b hb=>⟨ho.fresh b hb,T.lt ho.1 b hb⟩,ho.1,ho.2.1⟩
theorem gq.made {α:Type} {T:ag α} {x:α} {o:Oper} {r:NV} {w:World} (h:∃ v w' f,(execOp (ev r) o).run P w = .ok (.value v) w'∧an [] w w'∧OE [] w.heap.size w' T [v] x f) :
  gq P o r w fun v w'=>an [] w w'∧∃ f,(∀ b∈f,w.heap.size≤b∧b < w'.heap.size)∧Ff T x f w' v:=by
 obtain ⟨v,w',f,hr,hC,ho⟩:=h
 unfold gq
 rw [hr]
 exact ⟨hC,f,fun b hb=>⟨ho.fresh b hb,T.lt ho.1 b hb⟩,ho.1,ho.2.1⟩
theorem wK {f g:LN} (h1:f.Nodup) (h2:g.Nodup) (d:sS f g):(f++g).Nodup:=List.nodup_append.2 ⟨h1,h2,fun a ha _ hb py=>d a ha (py ▸ hb)⟩
theorem gq.vW {α:Type} {E:ag α} {F f:LN} {t e et:TI} {s x:OO} {i:TypeInfo} {z:Value} {sv u:Value} {xs:List α} {y:α} {b:Nat} {r:NV} {w:World} {d:Option Nat} {ty:TI} {pos:String} {af:Array Edge}
  (ht:P.underlying t=some (.slice e)) (hi:P.info? e=some i) (hz:i.zero=some z) (hs:i.size=1) (hE:E.size=1) (zM:z.oneCell'=true)
  (wJ:ev r s=sv) (hO:Ff (aJ e E) xs f w sv) (hF:∀ b∈f,b∈F) (hx:ev r x = .slice (some ⟨b,0,none⟩) 1 1) (bg:Row w b [u] et) (hy:E.rep w.heap [u] y [])
  (hb:(xs.length+1) * i.bytes≤140737488355328) (yY:xs.length+1≤maxLen) :
  gq P ⟨d,.call ⟨.builtin .append,#[s,x],#[t,t]⟩,ty,pos,af,none⟩ r w fun v w'=>an F w w'∧∃ f',(∀ b∈f',(b∈F∨w.heap.size≤b)∧b < w'.heap.size)∧Ff (aJ e E) (xs++[y]) f' w' v:=by
 obtain ⟨v,w',f',h,hC,ei,dg,da⟩:=qy (d:=d) (ty:=ty) (pos:=pos) (af:=af) (g:=none) (ys:=[y]) ht hi hz (by rw [hs,hE]) (by rw [cells_one zM,hE]; rfl) wJ hO.1 hO.2 hx bg.at (s8 hy) (fun _ h=>nomatch h) (by simp) hb yY
 unfold gq
 rw [h]
 refine ⟨hC.mono hF,f',fun b hb=>⟨?_,ag.lt _ ei b hb⟩,ei,da List.nodup_nil⟩
 rcases dg b hb with h | h | h
 ·exact .inl (hF b h)
 ·cases h
 ·exact .inr h
theorem gq.E5 {t e:TI} {i:TypeInfo} {z u:Value} {x:OO} {r:NV} {w:World} {d:Option Nat} {ty:TI} {pos:String} {af:Array Edge} (ht:P.underlying t=some (.slice e)) (hi:P.info? e=some i) (hz:i.zero=some z)
  (hs:i.size=1) (hx:ev r x=u) (hv:u.oneCell'=true) :
  gq P ⟨d,.buildSlice t 1 #[(0,x)],ty,pos,af,none⟩ r w fun v w'=>an [] w w'∧∃ f,(∀ b∈f,w.heap.size≤b∧b < w'.heap.size)∧ab8 [u] e 1 f w' v:=by
 unfold gq
 rw [KL ht hi hz hs (by rw [hx]; exact hv),hx]
 exact ⟨an.alloc _ _ _,[w.heap.size],fun b hb=>by rw [List.mem_singleton.1 hb]; simp,w.heap.size,rfl,rfl,heap_alloc_new w _⟩
end
end Go.Li
