/- A region that draws its order, whatever it holds: its head in any order, its tail one behind the other. No condition. -/
import Derived.Test.YtjdkifckhidlbaaGreatLf
import Derived.Still
namespace Go.Li
open Go
def kq (acc:LL) (o:Oper):List (List Nat):=
 acc++[(o.after.toList.filter (Region.binds .any)).flatMap fun e=>e.on :: acc.getD e.on []]
def bo (l:LO):List (List Nat):=l.foldl kq []
structure fc where
 b:Bool
 V:List Nat→World→(Nat→Value)→Value→Prop
abbrev pl (V:List Nat→World→Value→Prop):List Nat→World→(Nat→Value)→Value→Prop:=fun f w _ v=>V f w v
def mh (P:Program) (n:Nat) (l:LO) (Q:Exit→(Nat→Value)→World→Prop) (r:NV) (w:World):Prop:=
 ∀ a:Act,a.tmps.size=n→a.defers=[]→cg a=r→wpAny P .any l.toArray (fun e a' w'=>a'.tmps.size=n∧a'.defers=[]∧Q e (cg a') w') l.toArray.size (Array.replicate l.toArray.size false) a { w with drawn:=w.drawn+1 }
theorem mh.W {P:Program} {n id:Nat} {l:LO} {Q:Exit→(Nat→Value)→World→Prop} {r:NV} {w:World} (hm:P.follows .mixedOrders=true) (h:mh P n l Q r w):W P n (.region id l.toArray true) Q r w:=
 fun a h1 h2 h3=>wp_region_any hm (h a h1 h2 h3)
def AT (π:LN) (o:Oper):Oper:=⟨o.dst,o.op,o.type,o.pos,(o.after.toList.map fun e=>⟨π.getD e.on 0,e.ground⟩).toArray,o.guard⟩
def ph (l:LO) (σ π:LN):List Oper:=σ.map fun k=>AT π (l.getD k default)
def L5 (l:LO) (σ π:LN):Bool:=
 Nat.beq σ.length l.length && Nat.beq π.length l.length &&
 ((List.range l.length).all fun i=>Nat.blt (π.getD i 0) l.length && Nat.beq (σ.getD (π.getD i 0) 0) i && Nat.blt (σ.getD i 0) l.length && Nat.beq (π.getD (σ.getD i 0) 0) i) &&
 l.all fun o=>o.guard.isNone && o.after.toList.all fun e=>Nat.blt e.on l.length
theorem RY {P:Program} {Q:Exit→Act→World→Prop} {π:LN} {o:Oper} {a:Act} {w:World} {K:Act→World→Prop}:(AT π o).wp P a w K Q=o.wp P a w K Q:=by
 cases o; rfl
theorem Mw {P:Program} {π:LN} {o:Oper} {a:Act} {w:World}:(AT π o).asks P a w=o.asks P a w:=by
 cases o; rfl
section
variable {P:Program} {l:LO} {σ π:LN} (h:L5 l σ π=true)
include h
theorem B4:σ.length=l.length∧π.length=l.length∧(∀ i,i < l.length→π.getD i 0 < l.length∧σ.getD (π.getD i 0) 0=i∧σ.getD i 0 < l.length∧π.getD (σ.getD i 0) 0=i)∧∀ o∈l,o.guard=none∧∀ e∈o.after.toList,e.on < l.length:=by
 unfold L5 at h
 simp only [Bool.and_eq_true,List.all_eq_true,List.mem_range] at h
 obtain ⟨⟨⟨h1,h2⟩,h3⟩,h4⟩:=h
 refine ⟨Nat.eq_of_beq_eq_true h1,Nat.eq_of_beq_eq_true h2,fun i hi=>?_,fun o ho=>?_⟩
 ·obtain ⟨⟨⟨a,b⟩,c⟩,d⟩:=h3 i hi
  exact ⟨Nat.lt_of_succ_le (Nat.le_of_ble_eq_true a),Nat.eq_of_beq_eq_true b,Nat.lt_of_succ_le (Nat.le_of_ble_eq_true c),Nat.eq_of_beq_eq_true d⟩
 ·obtain ⟨a,b⟩:=h4 o ho
  exact ⟨by simpa using a,fun e he=>Nat.lt_of_succ_le (Nat.le_of_ble_eq_true (b e he))⟩
theorem HG:(ph l σ π).length=l.length:=by unfold ph; rw [List.length_map]; exact (B4 h).1
theorem HH {i:Nat} {o:Oper} (ho:l[i]? = some o):(ph l σ π)[π.getD i 0]? = some (AT π o):=by
 obtain ⟨h1,_,h3,_⟩:=B4 h
 have hi:=(List.getElem?_eq_some_iff.1 ho).1
 obtain ⟨a,b,_,_⟩:=h3 i hi
 unfold ph
 rw [List.getElem?_map,List.getElem?_eq_getElem (by omega)]
 have e:σ[π.getD i 0]'(by omega)=i:=by
  rw [List.getD_eq_getElem?_getD,List.getElem?_eq_getElem (by omega)] at b
  simpa using b
 simp only [Option.map_some,Option.some.injEq]
 rw [e,List.getD_eq_getElem?_getD,ho]; rfl
theorem Kj {Q:Exit→Act→World→Prop}:∀ (fuel:Nat) (L L':Array Bool) (a:Act) (w:World),L.size=l.length→L'.size=l.length→(∀ i,i < l.length→L'.getD (π.getD i 0) true=L.getD i true)→
  wpAny P .any (ph l σ π).toArray Q fuel L' a w→wpAny P .any l.toArray Q fuel L a w:=by
 obtain ⟨h1,h2,h3,h4⟩:=B4 h
 have gd:∀ {L:Array Bool} {i:Nat} (b:Bool),L.size=l.length→i < l.length→L.getD i b=L.getD i true:=fun {L i} b hs hi=>by
  have:i < L.size:=by omega
  simp [Array.getD,this]
 have AM:∀ (L L':Array Bool),L.size=l.length→L'.size=l.length→(∀ i,i < l.length→L'.getD (π.getD i 0) true=L.getD i true)→∀ i,i < l.length→(i∈Region.ready .any l.toArray L↔π.getD i 0∈Region.ready .any (ph l σ π).toArray L'):=by
  intro L L' hs dx hL i hi
  rw [mem_ready,mem_ready,hL i hi]
  have ho:l[i]? = some (l[i]'hi):=List.getElem?_eq_getElem hi
  have b9:=HH h ho
  have hg:=h4 _ (List.mem_of_getElem? ho)
  constructor
  ·rintro ⟨g1,o,g2,g3⟩
   refine ⟨g1,AT π l[i],by simpa using b9,fun e he hb=>?_⟩
   have eo:l[i]=o:=by simpa [ho] using g2
   simp only [AT,List.mem_toArray,List.mem_map] at he
   obtain ⟨e0,WC,rfl⟩:=he
   have bh:=hg.2 e0 WC
   have:=g3 e0 (by rw [← eo]; simpa using WC) hb
   rw [gd false dx (h3 _ bh).1,hL _ bh,← gd false hs bh]; exact this
  ·rintro ⟨g1,o,g2,g3⟩
   refine ⟨g1,l[i],by simp,fun e he hb=>?_⟩
   have eo:AT π l[i]=o:=by
    have:(ph l σ π)[π.getD i 0]? = some o:=by simpa using g2
    rw [b9] at this
    exact Option.some.inj this
   have bh:=hg.2 e (by simpa using he)
   have:=g3 ⟨π.getD e.on 0,e.ground⟩ (by rw [← eo]; simp only [AT,List.mem_toArray,List.mem_map]; exact ⟨e,by simpa using he,rfl⟩) hb
   rw [gd false dx (h3 _ bh).1,hL _ bh,← gd false hs bh] at this; exact this
 have back:∀ (L L':Array Bool),L.size=l.length→L'.size=l.length→(∀ i,i < l.length→L'.getD (π.getD i 0) true=L.getD i true)→Region.ready .any l.toArray L=[]→Region.ready .any (ph l σ π).toArray L'=[]:=by
  intro L L' hs dx hL he
  rw [List.eq_nil_iff_forall_not_mem]
  intro k hk
  have AJ:k < l.length:=by
   obtain ⟨_,o,g2,_⟩:=mem_ready.1 hk
   have:(ph l σ π)[k]? = some o:=by simpa using g2
   have:=(List.getElem?_eq_some_iff.1 this).1
   rwa [HG h] at this
  obtain ⟨_,_,c,d⟩:=h3 k AJ
  have:=(AM L L' hs dx hL (σ.getD k 0) c).2 (by rw [d]; exact hk)
  rw [he] at this
  exact nomatch this
 intro fuel
 induction fuel with
 | zero=>
  intro L L' a w hs dx hL hh
  refine ⟨?_,hh.2⟩
  rw [List.eq_nil_iff_forall_not_mem]
  intro i hi
  have sf:i < l.length:=by
   obtain ⟨_,o,g2,_⟩:=mem_ready.1 hi
   have:l[i]? = some o:=by simpa using g2
   exact (List.getElem?_eq_some_iff.1 this).1
  have:=(AM L L' hs dx hL i sf).1 hi
  rw [hh.1] at this
  exact nomatch this
 | succ fuel ih=>
  intro L L' a w hs dx hL hh
  refine ⟨fun he=>hh.1 (back L L' hs dx hL he),fun i hi=>?_⟩
  have sf:i < l.length:=by
   obtain ⟨_,o,g2,_⟩:=mem_ready.1 hi
   have:l[i]? = some o:=by simpa using g2
   exact (List.getElem?_eq_some_iff.1 this).1
  have ho:l[i]? = some (l[i]'sf):=List.getElem?_eq_getElem sf
  have hg:=h4 _ (List.mem_of_getElem? ho)
  have Kk:=hh.2 _ ((AM L L' hs dx hL i sf).1 hi)
  have next:∀ a w,wpAny P .any (ph l σ π).toArray Q fuel (L'.setIfInBounds (π.getD i 0) true) a w→wpAny P .any l.toArray Q fuel (L.setIfInBounds i true) a w:=fun a w=>ih _ _ a w (by simpa using hs) (by simpa using dx) fun j hj=>by
   have hpj:=(h3 j hj).1
   have hpi:=(h3 i sf).1
   by_cases e:i=j
   ·subst e
    rw [Array.getD_eq_getD_getElem?,Array.getD_eq_getD_getElem?,Array.getElem?_setIfInBounds_self_of_lt (by omega),Array.getElem?_setIfInBounds_self_of_lt (by omega)]
   ·have e':π.getD i 0≠π.getD j 0:=fun q=>e (by rw [← (h3 i sf).2.1,q,(h3 j hj).2.1])
    have h5:=hL j hj
    have q1:(L'.setIfInBounds (π.getD i 0) true).getD (π.getD j 0) true=L'.getD (π.getD j 0) true:=by
     rw [Array.getD_eq_getD_getElem?,Array.getD_eq_getD_getElem?,Array.getElem?_setIfInBounds_ne e']
    have q2:(L.setIfInBounds i true).getD j true=L.getD j true:=by
     rw [Array.getD_eq_getD_getElem?,Array.getD_eq_getD_getElem?,Array.getElem?_setIfInBounds_ne e]
    rw [q1,q2,h5]
  have ga:(l.toArray)[i]? = some (l[i]'sf):=by simp
  have gb:((ph l σ π).toArray)[π.getD i 0]? = some (AT π (l[i]'sf)):=by simpa using HH h ho
  unfold wpOp at Kk ⊢
  rw [gb] at Kk
  rw [ga]
  have w1:Region.wanted (l[i]'sf) (yielded l.toArray a.tmps)=true:=by unfold Region.wanted; rw [hg.1]
  have w2:Region.wanted (AT π (l[i]'sf)) (yielded (ph l σ π).toArray a.tmps)=true:=by unfold Region.wanted; show (match (l[i]'sf).guard with | none=>true | some (j,want)=>_)=true; rw [hg.1]
  simp only [w2,if_true] at Kk
  simp only [w1,if_true]
  rw [RY,Mw] at Kk
  exact Kk.imp (fun g=>Oper.wp_mono next g) id
theorem mh.prm {n:Nat} {Q:Exit→(Nat→Value)→World→Prop} {r:NV} {w:World} (hw:mh P n (ph l σ π) Q r w):mh P n l Q r w:=by
 have hl:=HG h
 obtain ⟨_,_,h3,_⟩:=B4 h
 intro a a1 a2 a3
 have:=hw a a1 a2 a3
 rw [show (ph l σ π).toArray.size=l.toArray.size by simpa using hl] at this
 refine Kj h _ _ _ a _ (by simp) (by simp) (fun i hi=>?_) this
 have hq:=(h3 i hi).1
 rw [List.getD_eq_getElem?_getD] at hq
 simp [Array.getD,hi,hq]
end
section
variable {P:Program} {n:Nat} {Q:Exit→(Nat→Value)→World→Prop} {r0:NV} {w0:World} {l:LO} {S:List fc}
def bm (l:LO) (j:Nat):Option Nat:=(l[j]?).bind (·.dst)
def tx (l:LO) (S:List fc) (j:Nat) (g:Nat→List Nat) (r:NV) (w:World):Prop:=
 (∀ d,bm l j=some d→match S[j]? with
  | some s=>if s.b then s.V (g j) w r (r d) else r d=undef
  | none=>True)∧(bm l j=none→∀ s,S[j]? = some s→s.b=true→∃ x,s.V (g j) w r x)
def Old (l:LO) (S:List fc) (j:Nat) (r:NV):Prop:=∀ d,bm l j=some d→∀ s,S[j]? = some s→if s.b then ∃ f w,s.V f w r (r d) else r d=undef
structure vR (l:LO) (m:Nat) (S:List fc) (U:LL) (r0:NV) (w0:World) (H:LN) (L:Nat→Prop) (g:Nat→List Nat) (r:NV) (w:World):Prop where
 lj:av H w0 w
 zC:(∀ k,L k→l.length ∉ U.getD k [])→av [] w0 w∧g l.length=H
 vg:∀ b∈g l.length,b∈H
 vd:∀ j,L j→rP (g j) (g l.length)
 done:∀ j,L j→(∀ k,L k→j ∉ U.getD k [])→tx l S j g r w
 sd:∀ j,L j→Old l S j r
 other:∀ t,(∀ j,j < m→bm l j≠some t)→r t=r0 t
 fresh:∀ j,L j→∀ b∈g j,(w0.heap.size≤b∨(b∈H∧∃ k,L k∧l.length∈U.getD k []))∧b < w.heap.size
 vn:∀ i j,L i→L j→i≠j→rP (g i) (g j)
def rf (l:LO) (U:LL) (m i j:Nat):Bool:=
 ((bo l).getD i []).contains j && (List.range m).all fun k=>!((U.getD k []).contains j) || Nat.beq k i || ((bo l).getD k []).contains i
def ql (g:Nat→List Nat) (us:LN):List Nat:=us.flatMap g
def uB (l:LO) (U:LL) (m i:Nat):Bool:=(List.range m).all fun k=>!((U.getD k []).contains l.length) || Nat.beq k i || ((bo l).getD k []).contains i
def jb (P:Program) (l:LO) (m:Nat) (S:List fc) (U:LL) (r0:NV) (w0:World) (H:LN) (i:Nat):Prop:=
 ∀ o s,l[i]? = some o→S[i]? = some s→∀ (g:Nat→List Nat) (r:NV) (w:World),av H w0 w→(uB l U m i=true→av [] w0 w∧g l.length=H∧∀ j∈(bo l).getD i [],∀ b∈g j,w0.heap.size≤b)→(∀ j∈(bo l).getD i [],Old l S j r)→(∀ j,rf l U m i j=true→tx l S j g r w)→(∀ t,(∀ j,j < m→bm l j≠some t)→r t=r0 t)→
  (∀ i'∈(bo l).getD i [],∀ j'∈(bo l).getD i [],i'≠j'→rP (g i') (g j'))→(∀ j∈(bo l).getD i [],∀ b∈g j,(w0.heap.size≤b∨b∈H)∧b < w.heap.size)→
  if s.b then Region.wanted o (yl l r)=true∧fk P o r w fun v w'=>av (ql g (U.getD i [])) w w'∧∃ f,(∀ b∈f,(b∈ql g (U.getD i [])∨w.heap.size≤b)∧b < w'.heap.size)∧s.V f w' r v
  else Region.wanted o (yl l r)=false
def zy:List Nat→Bool
 | []=>true
 | x :: l=>!(l.contains x) && zy l
theorem xn:∀ {l:LN},zy l=true→l.Nodup
 | [],_=>List.nodup_nil
 | x :: l,h=>by
  simp only [zy,Bool.and_eq_true,Bool.not_eq_true',List.contains_eq_mem,decide_eq_false_iff_not] at h
  exact List.nodup_cons.2 ⟨h.1,xn h.2⟩
def vi (l:LO) (m:Nat) (Z:LN):Bool:=
 ((List.range l.length).all fun i=>((l.getD i default).after.toList.filter (Region.binds .any)).all fun e=>Nat.blt e.on i) &&
 ((List.range l.length).all fun i=>Nat.blt i m || (List.range i).all fun j=>((bo l).getD i []).contains j || Z.contains j) &&
 zy ((l.take m).filterMap (·.dst))
def RZ (o:Oper):Bool:=match o.op with | .move _=>true | .extract _ _=>true | _=>false
def Mx (l:LO) (i:Nat):Array Bool:=((List.range l.length).map fun j=>((bo l).getD i []).contains j).toArray
def AL (l:LO) (m:Nat) (Z:LN):Bool:=
 Region.noSelect l.toArray && Z.all fun i=>Nat.blt i m && Region.free .any l.toArray (Mx l i) i &&
  match l[i]? with
  | some o=>RZ o && o.guard.isNone
  | none=>false
theorem Kl {l:LO} {L:Array Bool} {i:Nat} (hL:∀ j∈(bo l).getD i [],L.getD j false=true) (h:Region.free .any l.toArray (Mx l i) i=true):Region.free .any l.toArray L i=true:=by
 unfold Region.free at h ⊢
 cases ho:(l.toArray)[i]? with
 | none=>rw [ho] at h; cases h
 | some oi=>
  rw [ho] at h
  simp only [List.all_eq_true,List.mem_range,Bool.or_eq_true] at h ⊢
  intro j hj
  rcases h j hj with (h1 | h1) | h1
  ·exact .inl (.inl h1)
  ·have bh:j < l.length:=by simpa using hj
   have hm:j∈(bo l).getD i []:=by
    unfold Mx at h1
    have:((List.range l.length).map fun j=>((bo l).getD i []).contains j)[j]? = some (((bo l).getD i []).contains j):=by
     rw [List.getElem?_map,List.getElem?_range bh]; rfl
    rw [Array.getD_eq_getD_getElem?,List.getElem?_toArray,this] at h1
    simpa using h1
   refine .inl (.inr ?_)
   have h2:=hL j hm
   rcases Nat.lt_or_ge j L.size with h' | h'
   ·simp [h'] at h2 ⊢; exact h2
   ·simp [Array.getElem?_eq_none h'] at h2
  ·exact .inr h1
theorem GU {P:Program} {d:Option Nat} {x:OO} {k:Nat} {ty:TI} {pos:String} {ag:Array Edge} {g:Option (Nat×Bool)} {r:NV} {w:World} {K:Value→World→Prop} (h:fk P ⟨d,.extract x k,ty,pos,ag,g⟩ r w K) :
  ∃ v,(∀ w',(execOp (ev r) ⟨d,.extract x k,ty,pos,ag,g⟩).run P w' = .ok (.value v) w')∧K v w:=by
 have e:execOp (ev r) ⟨d,.extract x k,ty,pos,ag,g⟩ = (Instr.extract (ev r x) k>>=fun v=>pure (.value v)):=rfl
 unfold fk at h
 rw [e] at h ⊢
 generalize ev r x=u at h ⊢
 cases u
 case tuple vs=>
  cases hv:vs[k]? with
  | none=>simp [Instr.extract,hv,stuck,Result.andThen,Sem.run] at h
  | some v=>
   refine ⟨v,fun w'=>?_,?_⟩
   ·simp [Instr.extract,hv]
   ·simpa [Instr.extract,hv] using h
 all_goals simp [Instr.extract,stuck,Result.andThen,Sem.run] at h
theorem yB (l:LO):∀ (i:Nat) (o:Oper),l[i]? = some o→(bo l)[i]? = some ((o.after.toList.filter (Region.binds .any)).flatMap fun e=>e.on :: ((bo l).take i).getD e.on []):=by
 have key:∀ (l:LO) (acc:LL),(l.foldl kq acc).length=acc.length+l.length∧(∀ j,j < acc.length→(l.foldl kq acc)[j]? = acc[j]?)∧
   ∀ i o,l[i]? = some o→(l.foldl kq acc)[acc.length+i]? = some ((o.after.toList.filter (Region.binds .any)).flatMap fun e=>e.on :: ((l.foldl kq acc).take (acc.length+i)).getD e.on []):=by
  intro l
  induction l with
  | nil=>intro acc; exact ⟨rfl,fun _ _=>rfl,fun i o h=>by simp at h⟩
  | cons x l ih=>
   intro acc
   obtain ⟨h1,h2,h3⟩:=ih (kq acc x)
   have hl:(kq acc x).length=acc.length+1:=by simp [kq]
   have hold:∀ j,j < acc.length→(kq acc x)[j]? = acc[j]?:=fun j hj=>by simp only [kq]; rw [List.getElem?_append_left hj]
   refine ⟨by simp only [List.foldl_cons,h1,hl,List.length_cons]; omega,fun j hj=>?_,?_⟩
   ·rw [List.foldl_cons,h2 j (by omega),hold j hj]
   ·intro i o hi
    cases i with
    | zero=>
     simp at hi
     subst hi
     have U5:(List.foldl kq acc (x :: l)).take (acc.length+0)=acc:=by
      apply List.ext_getElem?
      intro j
      rw [Nat.add_zero,List.getElem?_take]
      split
      ·rename_i hj
       rw [List.foldl_cons,h2 j (by omega),hold j hj]
      ·rename_i hj
       rw [List.getElem?_eq_none (by omega)]
     rw [U5]
     rw [Nat.add_zero,List.foldl_cons,h2 _ (by omega)]
     simp only [kq]
     rw [List.getElem?_append_right (Nat.le_refl _)]
     simp
    | succ i=>
     have:=h3 i o (by simpa using hi)
     rw [hl] at this
     rw [List.foldl_cons]
     rw [show acc.length+(i+1)=acc.length+1+i by omega]
     exact this
 intro i o hi
 have:=(key l []).2.2 i o hi
 simpa [bo] using this
theorem zA (l:LO) (hb:∀ (i:Nat) (o:Oper),l[i]? = some o→∀ e∈o.after.toList.filter (Region.binds .any),e.on < i) :
  ∀ (i j:Nat),j∈(bo l).getD i []→j < i∧∃ o,l[i]? = some o∧∃ e∈o.after.toList.filter (Region.binds .any),j=e.on∨j∈(bo l).getD e.on []:=by
 intro i j hj
 cases ho:l[i]? with
 | none=>
  have hlen:(bo l).length=l.length:=by
   have:∀ (l:LO) (acc:LL),(l.foldl kq acc).length=acc.length+l.length:=by
    intro l
    induction l with
    | nil=>intro acc; rfl
    | cons x l ih=>intro acc; rw [List.foldl_cons,ih]; simp [kq]; omega
   simpa [bo] using this l []
  rw [List.getD_eq_getElem?_getD,List.getElem?_eq_none (by rw [hlen]; exact List.getElem?_eq_none_iff.1 ho)] at hj
  simp at hj
 | some o=>
  have h:=yB l i o ho
  rw [List.getD_eq_getElem?_getD,h] at hj
  simp only [Option.getD_some,List.mem_flatMap,List.mem_cons] at hj
  obtain ⟨e,he,hj⟩:=hj
  have bh:=hb i o ho e he
  have R0:((bo l).take i).getD e.on []=(bo l).getD e.on []:=by
   rw [List.getD_eq_getElem?_getD,List.getD_eq_getElem?_getD,List.getElem?_take,if_pos bh]
  rw [R0] at hj
  refine ⟨?_,o,rfl,e,he,hj⟩
  rcases hj with rfl | hj
  ·exact bh
  ·-- by the strong law below
   have:∀ (k i:Nat),i≤k→∀ j∈(bo l).getD i [],j < i:=by
    intro k
    induction k with
    | zero=>
     intro i hi j hj
     obtain rfl:i=0:=by omega
     cases ho:l[0]? with
     | none=>
      obtain rfl:l=[]:=by cases l with | nil=>rfl | cons=>simp at ho
      simp [bo] at hj
     | some o=>
      have h:=yB l 0 o ho
      rw [List.getD_eq_getElem?_getD,h] at hj
      simp only [Option.getD_some,List.mem_flatMap] at hj
      obtain ⟨e,he,_⟩:=hj
      exact absurd (hb 0 o ho e he) (Nat.not_lt_zero _)
    | succ k ih=>
     intro i hi j hj
     cases ho:l[i]? with
     | none=>
      have hlen:(bo l).length=l.length:=by
       have:∀ (l:LO) (acc:LL),(l.foldl kq acc).length=acc.length+l.length:=by
        intro l
        induction l with
        | nil=>intro acc; rfl
        | cons x l ih=>intro acc; rw [List.foldl_cons,ih]; simp [kq]; omega
       simpa [bo] using this l []
      rw [List.getD_eq_getElem?_getD,List.getElem?_eq_none (by rw [hlen]; exact List.getElem?_eq_none_iff.1 ho)] at hj
      simp at hj
     | some o=>
      have h:=yB l i o ho
      rw [List.getD_eq_getElem?_getD,h] at hj
      simp only [Option.getD_some,List.mem_flatMap,List.mem_cons] at hj
      obtain ⟨e,he,hj⟩:=hj
      have bh:=hb i o ho e he
      rcases hj with rfl | hj
      ·exact bh
      ·have R0:((bo l).take i).getD e.on []=(bo l).getD e.on []:=by
        rw [List.getD_eq_getElem?_getD,List.getD_eq_getElem?_getD,List.getElem?_take,if_pos bh]
       rw [R0] at hj
       have:=ih e.on (by omega) j hj
       omega
   exact Nat.lt_trans (this e.on e.on (Nat.le_refl _) j hj) bh
theorem yt (l:LO) (hb:∀ (i:Nat) (o:Oper),l[i]? = some o→∀ e∈o.after.toList.filter (Region.binds .any),e.on < i) {j k:Nat} (hj:j∈(bo l).getD k []):∀ {i:Nat},k∈(bo l).getD i []→j∈(bo l).getD i []:=by
 intro i
 induction i using Nat.strongRecOn with
 | _ i ih=>
  intro hk
  obtain ⟨_,o,ho,e,he,hke⟩:=zA l hb i k hk
  have bh:=hb i o ho e he
  have h2:j∈(bo l).getD e.on []:=hke.elim (fun h=>h ▸ hj) (fun h=>ih e.on bh h)
  have h:=yB l i o ho
  rw [List.getD_eq_getElem?_getD,h]
  simp only [Option.getD_some,List.mem_flatMap,List.mem_cons]
  refine ⟨e,he,.inr ?_⟩
  rw [List.getD_eq_getElem?_getD,List.getElem?_take,if_pos bh,← List.getD_eq_getElem?_getD]
  exact h2
theorem getD_both {FB:Array Bool} {i:Nat} (h:FB.getD i true=false):FB.getD i false=false:=by
 rcases Nat.lt_or_ge i FB.size with h' | h'
 ·simp [h'] at h ⊢; exact h
 ·simp [Array.getElem?_eq_none h'] at h
theorem getD_replicate_false (m j:Nat):(Array.replicate m false).getD j false=false:=by
 rcases Nat.lt_or_ge j m with h | h
 ·simp [h]
 ·simp [h]
theorem Dv:∀ (l:LO),(l.filterMap (·.dst)).Nodup→∀ i j d,bm l i=some d→bm l j=some d→i=j:=by
 intro l
 induction l with
 | nil=>intro _ i j d h; simp [bm] at h
 | cons o l ih=>
  intro hn i j d hi hj
  have IN:∀ k,bm (o :: l) (k+1)=some d→d∈l.filterMap (·.dst):=by
   intro k hk
   simp only [bm,List.getElem?_cons_succ] at hk
   cases ho:l[k]? with
   | none=>rw [ho] at hk; cases hk
   | some x=>rw [ho] at hk; exact List.mem_filterMap.2 ⟨x,List.mem_of_getElem? ho,hk⟩
  have h0:∀ e,o.dst=some e→e ∉ l.filterMap (·.dst)∧(l.filterMap (·.dst)).Nodup:=by
   intro e he
   rw [List.filterMap_cons_some he] at hn
   exact List.nodup_cons.1 hn
  have uN:(l.filterMap (·.dst)).Nodup:=by
   cases hd:o.dst with
   | none=>rwa [List.filterMap_cons_none hd] at hn
   | some e=>exact (h0 e hd).2
  cases i with
  | zero=>
   cases j with
   | zero=>rfl
   | succ j=>exact absurd (IN j hj) (h0 d (by simpa [bm] using hi)).1
  | succ i=>
   cases j with
   | zero=>exact absurd (IN i hi) (h0 d (by simpa [bm] using hj)).1
   | succ j=>rw [ih uN i j d (by simpa [bm] using hi) (by simpa [bm] using hj)]
theorem km {m j:Nat} (hj:j < m):bm (l.take m) j=bm l j:=by
 unfold bm
 rw [List.getElem?_take,if_pos hj]
theorem rh {o:Oper} {r:NV} {w:World} {K K':Value→World→Prop} (h:fk P o r w K) (hk:∀ v w',K v w'→K' v w'):fk P o r w K':=by
 unfold fk at h ⊢
 cases hr:(execOp (ev r) o).run P w with
 | ok x w'=>
  rw [hr] at h
  cases x with
  | value v=>exact hk _ _ h
  | skip=>exact hk _ _ h
  | enter f args=>exact h.mono fun e Df ⟨v,he,hv⟩=>⟨v,he,hk _ _ hv⟩
  | _=>exact h
 | _=>rw [hr] at h; exact h.elim
theorem Du {m:Nat} {Z:LN} (h:vi l m Z=true):∀ (i:Nat) (o:Oper),l[i]? = some o→∀ e∈o.after.toList.filter (Region.binds .any),e.on < i:=by
 simp only [vi,Bool.and_eq_true,List.all_eq_true,List.mem_range] at h
 intro i o ho e he
 have hi:i < l.length:=(List.getElem?_eq_some_iff.1 ho).1
 have:=h.1.1 i hi e (by rw [List.getD_eq_getElem?_getD,ho]; exact he)
 exact Nat.lt_of_succ_le (Nat.le_of_ble_eq_true this)
theorem JV {m:Nat} {U:LL} {Z H:LN} {N:Nat→Prop} (hd:db n l=true) (hA:vi l m Z=true) (hZ:AL l m Z=true) (hp:∀ c r w,Q (.panic c) r w→False) (Ds:m≤l.length)
  (hS:S.length=m)
  (hH:∀ b∈H,b < w0.heap.size) (hU:((List.range m).all fun i=>(U.getD i []).all fun u=>Nat.beq u l.length || ((bo l).getD i []).contains u)=true)
  (hN:∀ b,N b→b < w0.heap.size∧b ∉ H)
  (qo:∀ (i:Nat) (s:fc),S[i]? = some s→∀ f F (w w':World) (r r':NV) v,av F w w'→(∀ b∈f,b ∉ F)→(∀ b∈F,¬ N b)→(∀ j∈(bo l).getD i [],∀ t,bm l j=some t→r' t=r t)→s.V f w r v→s.V f w' r' v)
  (L8:∀ i,i < m→jb P l m S U r0 w0 H i)
  (next:∀ g r w,vR l m S U r0 w0 H (fun j=>j < m) g r w→WL P l (l.drop m) r w (Q .normal)) :
  mh P n l Q r0 w0:=by
 simp only [vi,Bool.and_eq_true,List.all_eq_true,List.mem_range,Bool.or_eq_true] at hA
 obtain ⟨⟨Rp,Rq⟩,Rs⟩:=hA
 have vu:∀ (i:Nat) (o:Oper),l[i]? = some o→∀ e∈o.after.toList.filter (Region.binds .any),e.on < i:=by
  intro i o ho e he
  have hi:i < l.length:=(List.getElem?_eq_some_iff.1 ho).1
  have:=Rp i hi e (by rw [List.getD_eq_getElem?_getD,ho]; exact he)
  exact Nat.lt_of_succ_le (Nat.le_of_ble_eq_true this)
 have CH:∀ i,m≤i→i < l.length→∀ j,j < i→j∈(bo l).getD i []∨j∈Z:=by
  intro i h1 h2 j hj
  rcases Rq i h2 with h | h
  ·exact absurd (Nat.lt_of_succ_le (Nat.le_of_ble_eq_true h)) (Nat.not_lt.2 h1)
  ·have:=h j hj
   simpa using this
 simp only [AL,Bool.and_eq_true,List.all_eq_true] at hZ
 obtain ⟨Om,hZ⟩:=hZ
 have R3:∀ z∈Z,z < m:=fun z hz=>Nat.lt_of_succ_le (Nat.le_of_ble_eq_true (hZ z hz).1.1)
 have Ru:∀ i,i < m→∀ u∈U.getD i [],u=l.length∨u∈(bo l).getD i []:=by
  intro i hi u hu
  simp only [List.all_eq_true,List.mem_range] at hU
  have:=hU i hi u hu
  simpa using this
 have dp:=Dv _ (xn Rs)
 have p5:=zA l vu
 intro a h1 h2 h3
 let Cl (L:Array Bool):Prop:=L.size=l.length∧∀ j o,l[j]? = some o→L.getD j false=true→∀ e∈o.after.toList.filter (Region.binds .any),L.getD e.on false=true
 have iH:∀ L,Cl L→∀ i j,(∀ o,l[i]? = some o→∀ e∈o.after.toList.filter (Region.binds .any),L.getD e.on false=true)→j∈(bo l).getD i []→L.getD j false=true:=by
  intro L hL i
  induction i using Nat.strongRecOn with
  | _ i ih=>
   intro j hi hj
   obtain ⟨_,o,ho,e,he,Ff⟩:=p5 i j hj
   have hl:=hi o ho e he
   rcases Ff with rfl | Ff
   ·exact hl
   ·exact ih e.on (vu i o ho e he) j (fun o' b9 e' sY=>hL.2 _ _ b9 hl e' sY) Ff
 have AM:∀ L i,i∈Region.ready .any l.toArray L→L.getD i true=false∧∃ o,l[i]? = some o∧∀ e∈o.after.toList.filter (Region.binds .any),L.getD e.on false=true:=by
  intro L i hi
  obtain ⟨g1,o,ho,dv⟩:=mem_ready.1 hi
  refine ⟨g1,o,by simpa using ho,fun e he=>?_⟩
  have:=List.mem_filter.1 he
  exact dv e (by simpa using this.1) this.2
 have BT:∀ L i o,L.size=l.length→l[i]? = some o→L.getD i false=false→(∀ e∈o.after.toList.filter (Region.binds .any),L.getD e.on false=true)→i∈Region.ready .any l.toArray L:=by
  intro L i o hs ho hu dv
  refine mem_ready.2 ⟨?_,o,by simpa using ho,fun e he hb=>dv e (List.mem_filter.2 ⟨by simpa using he,hb⟩)⟩
  have hi:i < L.size:=by rw [hs]; exact (List.getElem?_eq_some_iff.1 ho).1
  simp [hi] at hu ⊢; exact hu
 have D6:∀ L i o,Cl L→l[i]? = some o→(∀ e∈o.after.toList.filter (Region.binds .any),L.getD e.on false=true)→Cl (L.setIfInBounds i true):=by
  intro L i o hL ho dv
  refine ⟨by rw [Array.size_setIfInBounds]; exact hL.1,fun j o' b9 hj e he=>?_⟩
  by_cases xD:i=j
  ·subst xD
   have:o'=o:=Option.some.inj (b9.symm.trans ho)
   subst this
   exact getD_set_true (dv e he)
  ·rw [getD_set_ne false xD] at hj
   exact getD_set_true (hL.2 j o' b9 hj e he)
 have getSet:∀ (L:Array Bool) i j,L.size=l.length→i < l.length→((L.setIfInBounds i true).getD j false=true↔j=i∨L.getD j false=true):=by
  intro L i j hs hi
  by_cases xD:i=j
  ·subst xD
   simp [hs,hi]
  ·rw [getD_set_ne false xD]
   constructor
   ·exact .inr
   ·rintro (h | h)
    ·exact absurd h.symm xD
    ·exact h
 have Fg:∀ (L:Array Bool) i,L.size=l.length→i < l.length→L.getD i false=false→(L.setIfInBounds i true).toList.count false+1=L.toList.count false:=by
  intro L i hs hi hu
  have sU:i < L.toList.length:=by simpa [hs] using hi
  have AN:L.toList[i]=false:=by
   rw [Array.getElem_toList]
   simp [hs,hi] at hu
   exact hu
  rw [Array.toList_setIfInBounds,List.count_set sU,AN]
  have:0 < L.toList.count false:=List.count_pos_iff.2 (by rw [← AN]; exact List.getElem_mem sU)
  rw [if_pos (by rfl),if_neg (by decide)]
  omega
 have tail:∀ (d k fuel:Nat) (L:Array Bool) (a:Act) (w:World),l.length - k=d→m≤k→k≤l.length→Cl L→(∀ j,L.getD j false=true↔j < k)→L.toList.count false≤fuel→a.tmps.size=n→a.defers=[]→
   WL P l (l.drop k) (cg a) w (Q .normal)→wpAny P .any l.toArray (fun e a' w'=>a'.tmps.size=n∧a'.defers=[]∧Q e (cg a') w') fuel L a w:=by
  intro d
  induction d with
  | zero=>
   intro k fuel L a w hk hmk AJ hL ib hf g1 g2 hW
   obtain rfl:k=l.length:=by omega
   rw [List.drop_length] at hW
   have rR:Region.ready .any l.toArray L=[]:=by
    apply List.eq_nil_iff_forall_not_mem.2
    intro i hi
    obtain ⟨q1,o,ho,_⟩:=AM L i hi
    have bh:i < l.length:=(List.getElem?_eq_some_iff.1 ho).1
    have:=(ib i).2 bh
    simp [hL.1,bh] at q1 this
    rw [q1] at this; cases this
   cases fuel with
   | zero=>exact ⟨rR,g1,g2,hW⟩
   | succ fuel=>exact ⟨fun _=>⟨g1,g2,hW⟩,fun i hi=>by rw [rR] at hi; cases hi⟩
  | succ d ih=>
   intro k fuel L a w hk hmk AJ hL ib hf g1 g2 hW
   have IP:k < l.length:=by omega
   obtain ⟨o,ho⟩ : ∃ o,l[k]? = some o:=⟨l[k],List.getElem?_eq_getElem IP⟩
   have R4:L.getD k false=false:=by
    cases hb:L.getD k false with
    | false=>rfl
    | true=>exact absurd ((ib k).1 hb) (Nat.lt_irrefl _)
   have nt:k∈Region.ready .any l.toArray L:=BT L k o hL.1 ho R4 fun e he=>(ib _).2 (vu k o ho e he)
   have U6:l.drop k=o :: l.drop (k+1):=by rw [List.drop_eq_getElem_cons IP]; congr 1; exact Option.some.inj ((List.getElem?_eq_getElem IP).symm.trans ho)
   rw [U6] at hW
   have hc:=Fg L k hL.1 IP R4
   cases fuel with
   | zero=>omega
   | succ fuel=>
    refine ⟨fun h=>(by rw [h] at nt; cases nt),fun i hi=>?_⟩
    obtain ⟨q1,oi,mx,dv⟩:=AM L i hi
    have ei:i < l.length:=(List.getElem?_eq_some_iff.1 mx).1
    have tB:L.getD i false=false:=getD_both q1
    have hik:i=k:=by
     rcases Nat.lt_trichotomy i k with h | h | h
     ·have:=(ib i).2 h; rw [tB] at this; cases this
     ·exact h
     ·have:=iH L hL i k (fun o' b9=>by have:o'=oi:=Option.some.inj (b9.symm.trans mx); subst this; exact dv) ((CH i (by omega) ei k h).resolve_right fun hz=>absurd (R3 k hz) (by omega))
      rw [R4] at this; cases this
    subst hik
    have J6:oi=o:=Option.some.inj (mx.symm.trans ho)
    subst J6
    have Dx:∀ k',oi.dst=some k'→k' < a.tmps.size:=by
     intro k' zl
     have tU:oi∈l:=List.mem_of_getElem? mx
     simp only [db,List.all_eq_true] at hd
     have:=hd oi tU
     rw [zl] at this
     rw [g1]
     exact Nat.lt_of_succ_le (Nat.le_of_ble_eq_true this)
    have AO:=D6 L i oi hL mx dv
    have yz:∀ j,(L.setIfInBounds i true).getD j false=true↔j < i+1:=by
     intro j
     rw [getSet L i j hL.1 ei,ib j]
     omega
    unfold wpOp
    rw [show (l.toArray)[i]? = some oi by simpa using mx]
    simp only []
    rw [yy (by rw [g1]; exact hd)]
    rcases hW with ⟨hw,hW⟩ | ⟨hw,hW⟩
    ·rw [if_pos hw]
     exact .inl (hW.wp fun v w' hv=>ih (i+1) fuel _ _ _ (by omega) (by omega) (by omega) AO yz (by omega) (by rw [jy]; exact g1) (by rw [ic]; exact g2) (by rw [lv Dx]; exact hv))
    ·rw [if_neg (by rw [hw]; exact Bool.false_ne_true)]
     exact ih (i+1) fuel _ _ _ (by omega) (by omega) (by omega) AO yz (by omega) (by rw [jy]; exact g1) (by rw [ic]; exact g2) (by rw [lv Dx]; exact hW)
 have head:∀ (fuel:Nat) (L:Array Bool) (a:Act) (w:World) (g:Nat→List Nat),Cl L→(∀ j,L.getD j false=true→j < m)→L.toList.count false≤fuel→a.tmps.size=n→a.defers=[]→
   vR l m S U r0 w0 H (fun j=>L.getD j false=true) g (cg a) w→wpAny P .any l.toArray (fun e a' w'=>a'.tmps.size=n∧a'.defers=[]∧Q e (cg a') w') fuel L a w:=by
  intro fuel
  induction fuel with
  | zero=>
   intro L a w g hL tz hf g1 g2 inv
   have dv:∀ j,j < l.length→L.getD j false=true:=by
    intro j hj
    cases hb:L.getD j false with
    | true=>rfl
    | false=>have:=Fg L j hL.1 hj hb; omega
   have ib:∀ j,L.getD j false=true↔j < m:=fun j=>⟨tz j,fun h=>dv j (by omega)⟩
   refine tail _ m 0 L a w rfl (Nat.le_refl _) Ds hL ib hf g1 g2 (next g _ _ ?_)
   exact ⟨inv.lj,fun hk=>inv.zC fun k vS=>hk k ((ib k).1 vS),inv.vg,fun j hj=>inv.vd j ((ib j).2 hj),fun j hj hk=>inv.done j ((ib j).2 hj) (fun k vS=>hk k ((ib k).1 vS)),fun j hj=>inv.sd j ((ib j).2 hj),inv.other,fun j hj b hb=>⟨(inv.fresh j ((ib j).2 hj) b hb).1.imp (fun h=>h) fun h=>⟨h.1,h.2.imp fun k hk=>⟨(ib k).1 hk.1,hk.2⟩⟩,(inv.fresh j ((ib j).2 hj) b hb).2⟩,fun i j hi hj=>inv.vn i j ((ib i).2 hi) ((ib j).2 hj)⟩
  | succ fuel ih=>
   intro L a w g hL tz hf g1 g2 inv
   by_cases dv:∀ j,j < m→L.getD j false=true
   ·have ib:∀ j,L.getD j false=true↔j < m:=fun j=>⟨tz j,dv j⟩
    refine tail _ m _ L a w rfl (Nat.le_refl _) Ds hL ib hf g1 g2 (next g _ _ ?_)
    exact ⟨inv.lj,fun hk=>inv.zC fun k vS=>hk k ((ib k).1 vS),inv.vg,fun j hj=>inv.vd j ((ib j).2 hj),fun j hj hk=>inv.done j ((ib j).2 hj) (fun k vS=>hk k ((ib k).1 vS)),fun j hj=>inv.sd j ((ib j).2 hj),inv.other,fun j hj b hb=>⟨(inv.fresh j ((ib j).2 hj) b hb).1.imp (fun h=>h) fun h=>⟨h.1,h.2.imp fun k hk=>⟨(ib k).1 hk.1,hk.2⟩⟩,(inv.fresh j ((ib j).2 hj) b hb).2⟩,fun i j hi hj=>inv.vn i j ((ib i).2 hi) ((ib j).2 hj)⟩
   ·obtain ⟨j0,On,xE⟩ : ∃ j,j < m∧L.getD j false=false:=by
     apply Classical.byContradiction
     intro rR
     apply dv
     intro j hj
     cases hb:L.getD j false with
     | true=>rfl
     | false=>exact absurd ⟨j,hj,hb⟩ rR
    have Iz:∃ i,i∈Region.ready .any l.toArray L:=by
     have:∀ k,(∃ j,j < k∧j < m∧L.getD j false=false)→∃ i,i∈Region.ready .any l.toArray L:=by
      intro k
      induction k with
      | zero=>rintro ⟨j,h,_⟩; omega
      | succ k BP=>
       rintro ⟨j,JZ,zD,rS⟩
       by_cases Bi:∃ j,j < k∧j < m∧L.getD j false=false
       ·exact BP Bi
       ·obtain rfl:j=k:=by
         apply Classical.byContradiction
         intro h
         exact Bi ⟨j,by omega,zD,rS⟩
        have Dw:j < l.length:=by omega
        refine ⟨j,BT L j l[j] hL.1 (List.getElem?_eq_getElem Dw) rS fun e he=>?_⟩
        have bh:=vu j _ (List.getElem?_eq_getElem Dw) e he
        cases hb:L.getD e.on false with
        | true=>rfl
        | false=>exact absurd ⟨e.on,bh,by omega,hb⟩ Bi
     exact this (j0+1) ⟨j0,by omega,On,xE⟩
    have main:∀ i oi,i < m→l[i]? = some oi→L.getD i false=false→(∀ e∈oi.after.toList.filter (Region.binds .any),L.getD e.on false=true)→
      (Region.wanted oi (yl l (cg a))=true∧fk P oi (cg a) w fun v w'=>wpAny P .any l.toArray (fun e a' w'=>a'.tmps.size=n∧a'.defers=[]∧Q e (cg a') w') fuel (L.setIfInBounds i true) (a.put oi.dst v) w')∨
      (Region.wanted oi (yl l (cg a))=false∧wpAny P .any l.toArray (fun e a' w'=>a'.tmps.size=n∧a'.defers=[]∧Q e (cg a') w') fuel (L.setIfInBounds i true) (a.put oi.dst undef) w):=by
     intro i oi tA mx tB tC
     have ei:i < l.length:=(List.getElem?_eq_some_iff.1 mx).1
     have mi:∀ o,l[i]? = some o→∀ e∈o.after.toList.filter (Region.binds .any),L.getD e.on false=true:=fun o' b9=>by
      have:o'=oi:=Option.some.inj (b9.symm.trans mx)
      subst this; exact tC
     obtain ⟨s,hs⟩ : ∃ s,S[i]? = some s:=⟨S[i]'(by omega),List.getElem?_eq_getElem (by omega)⟩
     have hc:=Fg L i hL.1 ei tB
     have AO:=D6 L i oi hL mx tC
     have Rw:∀ j,(L.setIfInBounds i true).getD j false=true→j < m:=by
      intro j hj
      rcases (getSet L i j hL.1 ei).1 hj with rfl | hj
      ·exact tA
      ·exact tz j hj
     have BU:∀ k,L.getD k false=true→k≠i∧i ∉ (bo l).getD k []:=by
      intro k hk
      refine ⟨fun h=>(by rw [h,tB] at hk; cases hk),fun tU=>?_⟩
      have:=iH L hL k i (fun o' b9 e' sY=>hL.2 k o' b9 hk e' sY) tU
      rw [tB] at this; cases this
     have ow:=L8 i tA oi s mx hs g (cg a) w inv.lj (fun hV=>by
       have rR:∀ k,L.getD k false=true→l.length ∉ U.getD k []:=fun k hk Fh=>by
        simp only [uB,List.all_eq_true,List.mem_range,Bool.or_eq_true,Bool.not_eq_true',List.contains_eq_mem,decide_eq_false_iff_not,decide_eq_true_eq] at hV
        rcases hV k (tz k hk) with (h | h) | h
        ·exact h Fh
        ·exact (BU k hk).1 (Nat.eq_of_beq_eq_true h)
        ·exact (BU k hk).2 h
       have h0:=inv.zC rR
       exact ⟨h0.1,h0.2,fun j hj b hb=>(inv.fresh j (iH L hL i j mi hj) b hb).1.elim (fun h=>h) fun h=>absurd h.2.choose_spec.2 (rR _ h.2.choose_spec.1)⟩) (fun j hj=>inv.sd j (iH L hL i j mi hj)) (fun j hj=>by
       simp only [rf,Bool.and_eq_true,List.all_eq_true,List.mem_range,Bool.or_eq_true,Bool.not_eq_true',List.contains_eq_mem,decide_eq_false_iff_not,decide_eq_true_eq] at hj
       refine inv.done j (iH L hL i j mi hj.1) fun k hk JZ=>?_
       rcases hj.2 k (tz k hk) with (h | h) | h
       ·exact h JZ
       ·exact (BU k hk).1 (Nat.eq_of_beq_eq_true h)
       ·exact (BU k hk).2 h) inv.other
      (fun i' sU j' ig=>inv.vn i' j' (iH L hL i i' mi sU) (iH L hL i j' mi ig))
      (fun j hj b hb=>⟨(inv.fresh j (iH L hL i j mi hj) b hb).1.imp (fun h=>h) (·.1),(inv.fresh j (iH L hL i j mi hj) b hb).2⟩)
     have hblk:∀ b∈ql g (U.getD i []),(∃ u,u∈U.getD i []∧L.getD u false=true∧b∈g u)∨(l.length∈U.getD i []∧b∈g l.length):=by
      intro b hb
      obtain ⟨u,hu,fq⟩:=List.mem_flatMap.1 hb
      rcases Ru i tA u hu with rfl | h
      ·exact .inr ⟨hu,fq⟩
      ·exact .inl ⟨u,hu,iH L hL i u mi h,fq⟩
     have Dx:∀ k',oi.dst=some k'→k' < a.tmps.size:=by
      intro k' zl
      have tU:oi∈l:=List.mem_of_getElem? mx
      simp only [db,List.all_eq_true] at hd
      have:=hd oi tU
      rw [zl] at this
      rw [g1]
      exact Nat.lt_of_succ_le (Nat.le_of_ble_eq_true this)
     have xF:bm l i=oi.dst:=by unfold bm; rw [mx]; rfl
     have qc:∀ v t,(oi.dst≠some t)→cg (a.put oi.dst v) t=cg a t:=by
      intro v t ht
      rw [lv Dx]
      cases vT:oi.dst with
      | none=>rfl
      | some d=>
       show (bif Nat.beq t d then v else cg a t)=cg a t
       cases hb:Nat.beq t d with
       | false=>rfl
       | true=>exact absurd (by rw [vT,Nat.eq_of_beq_eq_true hb]) ht
     have Fi:∀ v d,oi.dst=some d→cg (a.put oi.dst v) d=v:=by
      intro v d vT
      rw [lv Dx,vT]
      show (bif Nat.beq d d then v else cg a d)=v
      rw [Nat.beq_refl]; rfl
     have step:∀ v w' f,av (ql g (U.getD i [])) w w'→(∀ b∈f,(b∈ql g (U.getD i [])∨w.heap.size≤b)∧b < w'.heap.size)→(if s.b then s.V f w' (cg a) v else v=undef)→
       wpAny P .any l.toArray (fun e a' w'=>a'.tmps.size=n∧a'.defers=[]∧Q e (cg a') w') fuel (L.setIfInBounds i true) (a.put oi.dst v) w':=by
      intro v w' f hC vQ hV
      have r8:∀ j',j' < m→j'≠i→∀ t,bm l j'=some t→cg (a.put oi.dst v) t=cg a t:=by
       intro j' ig rN t ht
       refine qc v t fun h=>rN (dp j' i t ?_ ?_)
       ·rw [km ig]; exact ht
       ·rw [km tA,xF]; exact h
      have J3:∀ b∈ql g (U.getD i []),¬ N b:=fun b hb hn=>by
       rcases hblk b hb with ⟨u,_,oh,fq⟩ | ⟨_,fq⟩
       ·rcases (inv.fresh u oh b fq).1 with h | h
        ·have:=(hN b hn).1; omega
        ·exact (hN b hn).2 h.1
       ·exact (hN b hn).2 (inv.vg b fq)
      refine ih _ _ _ (fun j=>if j=i then f else if j∈U.getD i [] then [] else g j) AO Rw (by omega) (by rw [jy]; exact g1) (by rw [ic]; exact g2)
       ⟨inv.lj.then hC fun b hb=>(by
        rcases hblk b hb with ⟨u,_,oh,fq⟩ | ⟨_,fq⟩
        ·exact (inv.fresh u oh b fq).1.elim .inr fun h=>.inl h.1
        ·exact .inl (inv.vg b fq)),fun rR=>?_,?_,fun j hj=>?_,?_,fun j hj d pq sj rA=>?_,?_,?_,?_⟩
      ·have uS:l.length ∉ U.getD i []:=rR i ((getSet L i i hL.1 ei).2 (.inl rfl))
       have h0:=inv.zC fun k hk=>rR k ((getSet L i k hL.1 ei).2 (.inr hk))
       refine ⟨h0.1.then hC fun b hb=>?_,?_⟩
       ·rcases hblk b hb with ⟨u,_,oh,fq⟩ | ⟨h,_⟩
        ·exact (inv.fresh u oh b fq).1.elim .inr fun ⟨_,k,hk,Fh⟩=>absurd Fh (rR k ((getSet L i k hL.1 ei).2 (.inr hk)))
        ·exact absurd h uS
       ·show (if l.length=i then f else if l.length∈U.getD i [] then [] else g l.length)=H
        rw [if_neg (by omega),if_neg uS]
        exact h0.2
      ·intro b hb
       have cf:b∈(if l.length=i then f else if l.length∈U.getD i [] then [] else g l.length):=hb
       rw [if_neg (by omega)] at cf
       split at cf
       ·cases cf
       ·exact inv.vg b cf
      ·intro b hb hv
       have nr:b∈(if l.length=i then f else if l.length∈U.getD i [] then [] else g l.length):=hv
       rw [if_neg (by omega)] at nr
       split at nr
       ·cases nr
       ·rename_i Rx
        have cf:b∈(if j=i then f else if j∈U.getD i [] then [] else g j):=hb
        split at cf
        ·rcases (vQ b cf).1 with h | h
         ·rcases hblk b h with ⟨u,_,oh,fq⟩ | ⟨h,_⟩
          ·exact inv.vd u oh b fq nr
          ·exact Rx h
         ·have h1:=hH b (inv.vg b nr)
          have h2:=inv.lj.size
          omega
        ·rename_i kp
         split at cf
         ·cases cf
         ·exact inv.vd j (((getSet L i j hL.1 ei).1 hj).resolve_left kp) b cf nr
      ·intro j hj vU
       refine ⟨fun d pq=>?_,fun Ry sj rA J4=>?_⟩
       rotate_left
       ·by_cases kp:j=i
        ·subst kp
         rw [hs] at rA
         cases rA
         rw [if_pos J4] at hV
         refine ⟨v,?_⟩
         simp only [if_pos]
         exact qo j s hs _ [] w' w' (cg a) _ v (av.refl _ _) (fun _ _ h=>nomatch h) (fun _ h=>nomatch h) (fun j' ig t ht=>r8 j' (by have:=(p5 j j' ig).1; omega) (by have:=(p5 j j' ig).1; omega) t ht) hV
        ·have mj:=((getSet L i j hL.1 ei).1 hj).resolve_left kp
         have rS:j ∉ U.getD i []:=vU i ((getSet L i i hL.1 ei).2 (.inl rfl))
         obtain ⟨x,hx⟩:=(inv.done j mj (fun k hk=>vU k ((getSet L i k hL.1 ei).2 (.inr hk)))).2 Ry sj rA J4
         have mg:(fun j=>if j=i then f else if j∈U.getD i [] then [] else g j) j=g j:=by
          show (if j=i then f else if j∈U.getD i [] then [] else g j)=g j
          rw [if_neg kp,if_neg rS]
         rw [mg]
         refine ⟨x,qo j sj rA _ _ _ _ (cg a) _ _ hC (fun b cf BV=>?_) J3 (fun j' ig t ht=>r8 j' (by have:=(p5 j j' ig).1; have:=tz j mj; omega) (fun h=>?_) t ht) hx⟩
         ·rcases hblk b BV with ⟨u,zE,oh,fq⟩ | ⟨_,fq⟩
          ·exact inv.vn j u mj oh (fun h=>rS (h ▸ zE)) b cf fq
          ·exact inv.vd j mj b cf fq
         ·subst h
          have:=iH L hL j j' (fun o' b9 e' sY=>hL.2 j o' b9 mj e' sY) ig
          rw [tB] at this; cases this
       by_cases kp:j=i
       ·subst kp
        rw [hs]
        simp only [if_pos]
        rw [xF] at pq
        rw [Fi v d pq]
        split
        ·rename_i hb
         rw [if_pos hb] at hV
         exact qo j s hs _ [] w' w' (cg a) _ v (av.refl _ _) (fun _ _ h=>nomatch h) (fun _ h=>nomatch h) (fun j' ig t ht=>r8 j' (by have:=(p5 j j' ig).1; omega) (by have:=(p5 j j' ig).1; omega) t ht) hV
        ·rename_i hb
         rw [if_neg hb] at hV
         exact hV
       ·have mj:=((getSet L i j hL.1 ei).1 hj).resolve_left kp
        have zD:=tz j mj
        have rS:j ∉ U.getD i []:=vU i ((getSet L i i hL.1 ei).2 (.inl rfl))
        have vT:oi.dst≠some d:=by
         intro h
         apply kp
         refine dp j i d ?_ ?_
         ·rw [km zD]; exact pq
         ·rw [km tA,xF]; exact h
        have:=(inv.done j mj (fun k hk=>vU k ((getSet L i k hL.1 ei).2 (.inr hk)))).1 d pq
        rw [qc v d vT]
        have mg:(fun j=>if j=i then f else if j∈U.getD i [] then [] else g j) j=g j:=by
         show (if j=i then f else if j∈U.getD i [] then [] else g j)=g j
         rw [if_neg kp,if_neg rS]
        rw [mg]
        cases rA:S[j]? with
        | none=>trivial
        | some sj=>
         rw [rA] at this
         simp only [] at this ⊢
         split
         ·rename_i hb
          rw [if_pos hb] at this
          refine qo j sj rA _ _ _ _ (cg a) _ _ hC (fun b cf BV=>?_) J3 (fun j' ig t ht=>r8 j' (by have:=(p5 j j' ig).1; omega) (fun h=>?_) t ht) this
          rotate_left
          ·subst h
           have:=iH L hL j j' (fun o' b9 e' sY=>hL.2 j o' b9 mj e' sY) ig
           rw [tB] at this; cases this
          rcases hblk b BV with ⟨u,zE,oh,fq⟩ | ⟨_,fq⟩
          ·exact inv.vn j u mj oh (fun h=>rS (h ▸ zE)) b cf fq
          ·exact inv.vd j mj b cf fq
         ·rename_i hb
          rw [if_neg hb] at this
          exact this
      ·by_cases kp:j=i
       ·subst kp
        rw [hs] at rA
        cases rA
        rw [xF] at pq
        rw [Fi v d pq]
        split
        ·rename_i hb
         rw [if_pos hb] at hV
         exact ⟨f,w',qo j s hs _ [] w' w' (cg a) _ v (av.refl _ _) (fun _ _ h=>nomatch h) (fun _ h=>nomatch h) (fun j' ig t ht=>r8 j' (by have:=(p5 j j' ig).1; omega) (by have:=(p5 j j' ig).1; omega) t ht) hV⟩
        ·rename_i hb
         rw [if_neg hb] at hV
         exact hV
       ·have mj:=((getSet L i j hL.1 ei).1 hj).resolve_left kp
        have zD:=tz j mj
        have vT:oi.dst≠some d:=by
         intro h
         apply kp
         refine dp j i d ?_ ?_
         ·rw [km zD]; exact pq
         ·rw [km tA,xF]; exact h
        have:=inv.sd j mj d pq sj rA
        rw [qc v d vT]
        split
        ·rename_i hb
         rw [if_pos hb] at this
         obtain ⟨f1,w1,h1⟩:=this
         refine ⟨f1,w1,qo j sj rA _ [] w1 w1 (cg a) _ _ (av.refl _ _) (fun _ _ h=>nomatch h) (fun _ h=>nomatch h) (fun j' ig t ht=>r8 j' (by have:=(p5 j j' ig).1; omega) (fun h=>?_) t ht) h1⟩
         subst h
         have:=iH L hL j j' (fun o' b9 e' sY=>hL.2 j o' b9 mj e' sY) ig
         rw [tB] at this; cases this
        ·rename_i hb
         rw [if_neg hb] at this
         exact this
      ·intro t ht
       rw [qc v t (fun h=>ht i tA (by rw [xF]; exact h))]
       exact inv.other t ht
      ·intro j hj b hb
       by_cases kp:j=i
       ·simp only [if_pos kp] at hb
        have hh:=vQ b hb
        have uO:=inv.lj.size
        rcases hh.1 with h | h
        ·rcases hblk b h with ⟨u,_,oh,fq⟩ | ⟨hv,fq⟩
         ·exact ⟨(inv.fresh u oh b fq).1.imp (fun h=>h) fun h=>⟨h.1,h.2.imp fun k hk=>⟨(getSet L i k hL.1 ei).2 (.inr hk.1),hk.2⟩⟩,hh.2⟩
         ·exact ⟨.inr ⟨inv.vg b fq,i,(getSet L i i hL.1 ei).2 (.inl rfl),hv⟩,hh.2⟩
        ·exact ⟨.inl (by omega),hh.2⟩
       ·have mj:=((getSet L i j hL.1 ei).1 hj).resolve_left kp
        simp only [if_neg kp] at hb
        split at hb
        ·cases hb
        ·have h1:=inv.fresh j mj b hb
         have h2:=hC.size
         exact ⟨h1.1.imp (fun h=>h) fun h=>⟨h.1,h.2.imp fun k hk=>⟨(getSet L i k hL.1 ei).2 (.inr hk.1),hk.2⟩⟩,by omega⟩
      ·have vV:∀ j',(L.setIfInBounds i true).getD j' false=true→j'≠i→∀ b∈f,b ∉ (if j'∈U.getD i [] then [] else g j'):=by
        intro j' ig e2 b hb cf
        have Fj:=((getSet L i j' hL.1 ei).1 ig).resolve_left e2
        split at cf
        ·cases cf
        ·rename_i rS
         rcases (vQ b hb).1 with h | h
         ·rcases hblk b h with ⟨u,zE,oh,fq⟩ | ⟨_,fq⟩
          ·exact inv.vn u j' oh Fj (fun h=>rS (h ▸ zE)) b fq cf
          ·exact inv.vd j' Fj b cf fq
         ·have:=inv.fresh j' Fj b cf
          omega
       intro i' j' sU ig rN b hb cf
       by_cases e1:i'=i
       ·have e2:j'≠i:=fun h=>rN (e1.trans h.symm)
        simp only [if_pos e1] at hb
        simp only [if_neg e2] at cf
        exact vV j' ig e2 b hb cf
       ·simp only [if_neg e1] at hb
        by_cases e2:j'=i
        ·simp only [if_pos e2] at cf
         exact vV i' sU e1 b cf hb
        ·simp only [if_neg e2] at cf
         split at hb
         ·cases hb
         ·split at cf
          ·cases cf
          ·exact inv.vn i' j' (((getSet L i i' hL.1 ei).1 sU).resolve_left e1) (((getSet L i j' hL.1 ei).1 ig).resolve_left e2) rN b hb cf
     cases hb:s.b with
     | true=>
      rw [if_pos hb] at ow
      refine .inl ⟨ow.1,rh ow.2 ?_⟩
      rintro v w' ⟨hC,f,vQ,hV⟩
      exact step v w' f hC vQ (by rw [if_pos hb]; exact hV)
     | false=>
      rw [if_neg (by rw [hb]; exact Bool.false_ne_true)] at ow
      exact .inr ⟨ow,step undef w [] (av.refl _ _) (fun b h=>nomatch h) (by rw [if_neg (by rw [hb]; exact Bool.false_ne_true)])⟩
    by_cases Oz:∃ z,z∈Z∧L.getD z false=false∧∀ o,l[z]? = some o→∀ e∈o.after.toList.filter (Region.binds .any),L.getD e.on false=true
    ·obtain ⟨z,hz,R5,WD⟩:=Oz
     obtain ⟨⟨hzm,hzf⟩,Km⟩:=hZ z hz
     cases DD:l[z]? with
     | none=>rw [DD] at Km; cases Km
     | some oz=>
      rw [DD] at Km
      simp only [Bool.and_eq_true] at Km
      obtain ⟨hmv,DC⟩:=Km
      have My:=WD oz DD
      have WE:Region.free .any l.toArray L z=true:=Kl (fun j hj=>iH L hL z j (fun o' b9=>WD o' b9) hj) hzf
      have WG:z∈Region.ready .any l.toArray L:=BT L z oz hL.1 DD R5 My
      obtain ⟨dz,opz,tyz,pz,az,gz⟩:=oz
      cases opz <;> first | exact (Bool.false_ne_true hmv).elim | skip
      case move x=>
       cases gz with
       | some _=>simp at DC
       | none=>
        have hev:∀ w',(execOp a.eval ⟨dz,.move x,tyz,pz,az,none⟩).run P w' = .ok (.value (a.eval x)) w':=fun _=>rfl
        refine wpAny_take (by simpa using DD) Om WE (by simpa using WG) (fun c a w h=>absurd h.2.2 (hp _ _ _)) (v:=a.eval x) (.inl ⟨rfl,hev⟩) ?_
        rcases main z _ (R3 z hz) DD R5 My with ⟨_,h⟩ | ⟨h,_⟩
        ·rw [ri]; exact h
        ·exact absurd h (by simp [Region.wanted])
      case extract x k=>
       cases gz with
       | some _=>simp at DC
       | none=>
        rcases main z _ (R3 z hz) DD R5 My with ⟨_,h⟩ | ⟨h,_⟩
        ·obtain ⟨v,hv,hk⟩:=GU h
         refine wpAny_take (by simpa using DD) Om WE (by simpa using WG) (fun c a w h=>absurd h.2.2 (hp _ _ _)) (v:=v) (.inl ⟨rfl,fun w'=>by rw [ri]; exact hv w'⟩) ?_
         exact hk
        ·exact absurd h (by simp [Region.wanted])
    refine ⟨fun h=>(by obtain ⟨i,hi⟩:=Iz; rw [h] at hi; cases hi),fun i hi=>?_⟩
    obtain ⟨q1,oi,mx,tC⟩:=AM L i hi
    have ei:i < l.length:=(List.getElem?_eq_some_iff.1 mx).1
    have tB:L.getD i false=false:=getD_both q1
    have tA:i < m:=by
     rcases Nat.lt_or_ge i m with h | h
     ·exact h
     ·have bad:∀ j,j < i→L.getD j false=false→False:=by
       intro j
       induction j using Nat.strongRecOn with
       | _ j ih=>
        intro kp rS
        rcases CH i h ei j kp with hj | hj
        ·have:=iH L hL i j (fun o' b9=>by have:o'=oi:=Option.some.inj (b9.symm.trans mx); subst this; exact tC) hj
         rw [rS] at this; cases this
        ·refine Oz ⟨j,hj,rS,fun o ho e he=>?_⟩
         cases hb:L.getD e.on false with
         | true=>rfl
         | false=>have bh:=vu j o ho e he; exact (ih e.on bh (by omega) hb).elim
      exact (bad j0 (by omega) xE).elim
    unfold wpOp
    rw [show (l.toArray)[i]? = some oi by simpa using mx]
    simp only []
    rw [yy (by rw [g1]; exact hd)]
    rcases main i oi tA mx tB tC with ⟨hw,h⟩ | ⟨hw,h⟩
    ·rw [if_pos hw]
     exact .inl (h.wp fun v w' hv=>hv)
    ·rw [if_neg (by rw [hw]; exact Bool.false_ne_true)]
     exact h
 refine head _ _ a _ (fun j=>if j=l.length then H else []) ⟨by simp,?_⟩ ?_ ?_ h1 h2 ⟨av.nil (av.drew _ _),fun _=>⟨av.drew _ _,by simp⟩,fun b hb=>by simpa using hb,?_,?_,?_,?_,?_,?_⟩
 ·intro j o ho hj
  rw [getD_replicate_false] at hj; cases hj
 ·intro j hj
  rw [getD_replicate_false] at hj; cases hj
 ·simp
 ·intro j hj
  rw [getD_replicate_false] at hj; cases hj
 ·intro j hj
  rw [getD_replicate_false] at hj; cases hj
 ·intro j hj
  rw [getD_replicate_false] at hj; cases hj
 ·intro t _
  rw [h3]
 ·intro j hj
  rw [getD_replicate_false] at hj; cases hj
 ·intro i j hi
  rw [getD_replicate_false] at hi; cases hi
theorem jb.val {m i:Nat} {U:LL} {H:LN} {o:Oper} {v:Value} (ho:l[i]? = some o) (hs:S[i]? = some ⟨true,pl fun _ _ u=>u=v⟩) (hg:o.guard=none)
  (h:∀ (g:Nat→List Nat) (r:NV) (w:World),av H w0 w→(∀ j∈(bo l).getD i [],Old l S j r)→(∀ j,rf l U m i j=true→tx l S j g r w)→(∀ t,(∀ j,j < m→bm l j≠some t)→r t=r0 t)→
   (execOp (ev r) o).run P w = .ok (.value v) w):jb P l m S U r0 w0 H i:=by
 intro o' s' b9 dx g r w hC hV hO hd ll xl qc
 obtain rfl:o=o':=Option.some.inj (ho.symm.trans b9)
 obtain rfl:_=s':=Option.some.inj (hs.symm.trans dx)
 rw [if_pos rfl]
 refine ⟨by unfold Region.wanted; rw [hg],?_⟩
 unfold fk
 rw [h g r w hC hO hd ll]
 exact ⟨av.refl _ _,[],(fun _ h=>nomatch h),rfl⟩
theorem jb.call {m i:Nat} {U:LL} {H:LN} {o:Oper} {v:Value} {f:FuncId} (ho:l[i]? = some o) (hs:S[i]? = some ⟨true,pl fun _ _ u=>u=v⟩) (hg:o.guard=none)
  (h:∀ (g:Nat→List Nat) (r:NV) (w:World),av H w0 w→(∀ j∈(bo l).getD i [],Old l S j r)→(∀ j,rf l U m i j=true→tx l S j g r w)→(∀ t,(∀ j,j < m→bm l j≠some t)→r t=r0 t)→
   ∃ args,(execOp (ev r) o).run P w = .ok (.enter f args) w∧Calls P f args w fun e w'=>e = .returned v∧av [] w w'):jb P l m S U r0 w0 H i:=by
 intro o' s' b9 dx g r w hC hV hO hd ll xl qc
 obtain rfl:o=o':=Option.some.inj (ho.symm.trans b9)
 obtain rfl:_=s':=Option.some.inj (hs.symm.trans dx)
 rw [if_pos rfl]
 refine ⟨by unfold Region.wanted; rw [hg],?_⟩
 unfold fk
 obtain ⟨args,h1,h2⟩:=h g r w hC hO hd ll
 rw [h1]
 exact h2.mono fun e w' ⟨he,hc⟩=>⟨v,he,hc.nil,[],(fun _ h=>nomatch h),rfl⟩
theorem jb.mem {m i:Nat} {U:LL} {H:LN} {o:Oper} {V:List Nat→World→Value→Prop} (ho:l[i]? = some o) (hs:S[i]? = some ⟨true,pl V⟩) (hg:o.guard=none)
  (h:∀ (g:Nat→List Nat) (r:NV) (w:World),av H w0 w→(∀ j∈(bo l).getD i [],Old l S j r)→(∀ j,rf l U m i j=true→tx l S j g r w)→(∀ t,(∀ j,j < m→bm l j≠some t)→r t=r0 t)→
   fk P o r w fun v w'=>av [] w w'∧∃ f,(∀ b∈f,w.heap.size≤b∧b < w'.heap.size)∧V f w' v):jb P l m S U r0 w0 H i:=by
 intro o' s' b9 dx g r w hC hV hO hd ll xl qc
 obtain rfl:o=o':=Option.some.inj (ho.symm.trans b9)
 obtain rfl:_=s':=Option.some.inj (hs.symm.trans dx)
 rw [if_pos rfl]
 refine ⟨by unfold Region.wanted; rw [hg],rh (h g r w hC hO hd ll) ?_⟩
 rintro v w' ⟨hC,f,hf,hV⟩
 exact ⟨hC.nil,f,fun b hb=>⟨.inr (hf b hb).1,(hf b hb).2⟩,hV⟩
theorem jb.QP {m i:Nat} {U:LL} {H:LN} {o:Oper} {V:List Nat→World→(Nat→Value)→Value→Prop} (ho:l[i]? = some o) (hs:S[i]? = some ⟨true,V⟩) (hg:o.guard=none)
  (h:∀ (g:Nat→List Nat) (r:NV) (w:World),av H w0 w→(∀ j∈(bo l).getD i [],Old l S j r)→(∀ j,rf l U m i j=true→tx l S j g r w)→(∀ t,(∀ j,j < m→bm l j≠some t)→r t=r0 t)→
   fk P o r w fun v w'=>av [] w w'∧∃ f,(∀ b∈f,w.heap.size≤b∧b < w'.heap.size)∧V f w' r v):jb P l m S U r0 w0 H i:=by
 intro o' s' b9 dx g r w hC hV hO hd ll xl qc
 obtain rfl:o=o':=Option.some.inj (ho.symm.trans b9)
 obtain rfl:_=s':=Option.some.inj (hs.symm.trans dx)
 rw [if_pos rfl]
 refine ⟨by unfold Region.wanted; rw [hg],rh (h g r w hC hO hd ll) ?_⟩
 rintro v w' ⟨hC,f,hf,hV⟩
 exact ⟨hC.nil,f,fun b hb=>⟨.inr (hf b hb).1,(hf b hb).2⟩,hV⟩
def CE {α:Type} (T:ai α) (x:α):List Nat→World→Value→Prop:=fun f w v=>T.rep w.heap [v] x f∧f.Nodup
def XR (cs:LV) (e:TI) (n:Nat):List Nat→World→Value→Prop:=fun f w v=>∃ b,f=[b]∧v = .slice (some ⟨b,0,none⟩) n n∧Row w b cs e
def EI (a:LN) (l:LO) (s:fc):Prop:=∀ f F (w w':World) (r r':NV) v,av F w w'→(∀ b∈f,b ∉ F)→(∀ j∈a,∀ t,bm l j=some t→r' t=r t)→s.V f w r v→s.V f w' r' v
theorem Kn {a:LN} {b:Bool} {V:List Nat→World→Value→Prop} (h:∀ f F (w w':World) v,av F w w'→(∀ b∈f,b ∉ F)→V f w v→V f w' v):EI a l ⟨b,pl V⟩:=
 fun f F w w' _ _ v hC hn _ hv=>h f F w w' v hC hn hv
theorem Im {a:LN} {b:Bool} {u:Value}:EI a l ⟨b,pl fun _ _ v=>v=u⟩:=Kn fun _ _ _ _ _ _ _ h=>h
def Ik:Value→Nat→Value
 | .tuple cs,i=>cs.getD i undef
 | _,_=>undef
theorem fk.own {α:Type} {T:ai α} {x:α} {o:Oper} {r:NV} {w:World} {f:FuncId} {args:Array Value} (h:(execOp (ev r) o).run P w = .ok (.enter f args) w)
  (hc:Calls P f args w fun e w'=>∃ (v:Value) (k:LN),e = .returned v∧av [] w w'∧OE [] w.heap.size w' T [v] x k) :
  fk P o r w fun v w'=>av [] w w'∧∃ f,(∀ b∈f,w.heap.size≤b∧b < w'.heap.size)∧CE T x f w' v:=by
 unfold fk
 rw [h]
 exact hc.mono fun e w' ⟨v,k,he,hC,ho⟩=>⟨v,he,hC,k,fun b hb=>⟨ho.fresh b hb,T.lt ho.1 b hb⟩,ho.1,ho.2.1⟩
theorem fk.made {α:Type} {T:ai α} {x:α} {o:Oper} {r:NV} {w:World} (h:∃ v w' f,(execOp (ev r) o).run P w = .ok (.value v) w'∧av [] w w'∧OE [] w.heap.size w' T [v] x f) :
  fk P o r w fun v w'=>av [] w w'∧∃ f,(∀ b∈f,w.heap.size≤b∧b < w'.heap.size)∧CE T x f w' v:=by
 obtain ⟨v,w',f,hr,hC,ho⟩:=h
 unfold fk
 rw [hr]
 exact ⟨hC,f,fun b hb=>⟨ho.fresh b hb,T.lt ho.1 b hb⟩,ho.1,ho.2.1⟩
theorem wW {f g:LN} (h1:f.Nodup) (h2:g.Nodup) (d:rP f g):(f++g).Nodup:=List.nodup_append.2 ⟨h1,h2,fun a ha _ hb uU=>d a ha (uU ▸ hb)⟩
theorem fk.vG {α:Type} {E:ai α} {F f:LN} {t e et:TI} {s x:OO} {i:TypeInfo} {z:Value} {sv u:Value} {xs:List α} {y:α} {b:Nat} {r:NV} {w:World} {d:Option Nat} {ty:TI} {pos:String} {ag:Array Edge}
  (ht:P.underlying t=some (.slice e)) (hi:P.info? e=some i) (hz:i.zero=some z) (hs:i.size=1) (hE:E.size=1) (tT:z.oneCell'=true)
  (uT:ev r s=sv) (hO:CE (aL e E) xs f w sv) (hF:∀ b∈f,b∈F) (hx:ev r x = .slice (some ⟨b,0,none⟩) 1 1) (bg:Row w b [u] et) (hy:E.rep w.heap [u] y [])
  (hb:(xs.length+1) * i.bytes≤140737488355328) (wV:xs.length+1≤maxLen) :
  fk P ⟨d,.call ⟨.builtin .append,#[s,x],#[t,t]⟩,ty,pos,ag,none⟩ r w fun v w'=>av F w w'∧∃ f',(∀ b∈f',(b∈F∨w.heap.size≤b)∧b < w'.heap.size)∧CE (aL e E) (xs++[y]) f' w' v:=by
 obtain ⟨v,w',f',h,hC,du,dt,dp⟩:=pr (d:=d) (ty:=ty) (pos:=pos) (ag:=ag) (g:=none) (ys:=[y]) ht hi hz (by rw [hs,hE]) (by rw [cells_one tT,hE]; rfl) uT hO.1 hO.2 hx bg.at (rD hy) (fun _ h=>nomatch h) (by simp) hb wV
 unfold fk
 rw [h]
 refine ⟨hC.mono hF,f',fun b hb=>⟨?_,ai.lt _ du b hb⟩,du,dp List.nodup_nil⟩
 rcases dt b hb with h | h | h
 ·exact .inl (hF b h)
 ·cases h
 ·exact .inr h
theorem fk.Er {t e:TI} {i:TypeInfo} {z u:Value} {x:OO} {r:NV} {w:World} {d:Option Nat} {ty:TI} {pos:String} {ag:Array Edge} (ht:P.underlying t=some (.slice e)) (hi:P.info? e=some i) (hz:i.zero=some z)
  (hs:i.size=1) (hx:ev r x=u) (hv:u.oneCell'=true) :
  fk P ⟨d,.buildSlice t 1 #[(0,x)],ty,pos,ag,none⟩ r w fun v w'=>av [] w w'∧∃ f,(∀ b∈f,w.heap.size≤b∧b < w'.heap.size)∧XR [u] e 1 f w' v:=by
 unfold fk
 rw [HF ht hi hz hs (by rw [hx]; exact hv),hx]
 exact ⟨av.alloc _ _ _,[w.heap.size],fun b hb=>by rw [List.mem_singleton.1 hb]; simp,w.heap.size,rfl,rfl,heap_alloc_new w _⟩
end
end Go.Li
