/- A region that draws its order, whatever it holds: its head in any order, its tail one behind the other. No condition. -/
import Derived.Test.YtjdkifckhidlbaaGreatLf
import Derived.Still
namespace Go.Li
open Go
def ml (acc:LL) (o:Oper):List (List Nat):=
 acc++[(o.after.toList.filter (Region.binds .any)).flatMap fun e=>e.on :: acc.getD e.on []]
def bx (l:LO):List (List Nat):=l.foldl ml []
structure gw where
 b:Bool
 V:List Nat→World→(Nat→Value)→Value→Prop
abbrev pl (V:List Nat→World→Value→Prop):List Nat→World→(Nat→Value)→Value→Prop:=fun f w _ v=>V f w v
def nz (P:Program) (n:Nat) (l:LO) (Q:Exit→(Nat→Value)→World→Prop) (r:NV) (w:World):Prop:=
 ∀ a:Act,a.tmps.size=n→a.defers=[]→cu a=r→wpAny P .any l.toArray (fun e a' w'=>a'.tmps.size=n∧a'.defers=[]∧Q e (cu a') w') l.toArray.size (Array.replicate l.toArray.size false) a { w with drawn:=w.drawn+1 }
theorem nz.W {P:Program} {n id:Nat} {l:LO} {Q:Exit→(Nat→Value)→World→Prop} {r:NV} {w:World} (hm:P.follows .mixedOrders=true) (h:nz P n l Q r w):W P n (.region id l.toArray true) Q r w:=
 fun a h1 h2 h3=>wp_region_any hm (h a h1 h2 h3)
def Dj (π:LN) (o:Oper):Oper:=⟨o.dst,o.op,o.type,o.pos,(o.after.toList.map fun e=>⟨π.getD e.on 0,e.ground⟩).toArray,o.guard⟩
def rn (l:LO) (σ π:LN):List Oper:=σ.map fun k=>Dj π (l.getD k default)
def PU (l:LO) (σ π:LN):Bool:=
 Nat.beq σ.length l.length && Nat.beq π.length l.length &&
 ((List.range l.length).all fun i=>Nat.blt (π.getD i 0) l.length && Nat.beq (σ.getD (π.getD i 0) 0) i && Nat.blt (σ.getD i 0) l.length && Nat.beq (π.getD (σ.getD i 0) 0) i) &&
 l.all fun o=>o.guard.isNone && o.after.toList.all fun e=>Nat.blt e.on l.length
theorem Wv {P:Program} {Q:Exit→Act→World→Prop} {π:LN} {o:Oper} {a:Act} {w:World} {K:Act→World→Prop}:(Dj π o).wp P a w K Q=o.wp P a w K Q:=by
 cases o; rfl
theorem Ql {P:Program} {π:LN} {o:Oper} {a:Act} {w:World}:(Dj π o).asks P a w=o.asks P a w:=by
 cases o; rfl
section
variable {P:Program} {l:LO} {σ π:LN} (h:PU l σ π=true)
include h
theorem EA:σ.length=l.length∧π.length=l.length∧(∀ i,i < l.length→π.getD i 0 < l.length∧σ.getD (π.getD i 0) 0=i∧σ.getD i 0 < l.length∧π.getD (σ.getD i 0) 0=i)∧∀ o∈l,o.guard=none∧∀ e∈o.after.toList,e.on < l.length:=by
 unfold PU at h
 simp only [Bool.and_eq_true,List.all_eq_true,List.mem_range] at h
 obtain ⟨⟨⟨h1,h2⟩,h3⟩,h4⟩:=h
 refine ⟨Nat.eq_of_beq_eq_true h1,Nat.eq_of_beq_eq_true h2,fun i hi=>?_,fun o ho=>?_⟩
 ·obtain ⟨⟨⟨a,b⟩,c⟩,d⟩:=h3 i hi
  exact ⟨Nat.lt_of_succ_le (Nat.le_of_ble_eq_true a),Nat.eq_of_beq_eq_true b,Nat.lt_of_succ_le (Nat.le_of_ble_eq_true c),Nat.eq_of_beq_eq_true d⟩
 ·obtain ⟨a,b⟩:=h4 o ho
  exact ⟨by simpa using a,fun e he=>Nat.lt_of_succ_le (Nat.le_of_ble_eq_true (b e he))⟩
theorem KG:(rn l σ π).length=l.length:=by unfold rn; rw [List.length_map]; exact (EA h).1
theorem KH {i:Nat} {o:Oper} (ho:l[i]? = some o):(rn l σ π)[π.getD i 0]? = some (Dj π o):=by
 obtain ⟨h1,_,h3,_⟩:=EA h
 have hi:=(List.getElem?_eq_some_iff.1 ho).1
 obtain ⟨a,b,_,_⟩:=h3 i hi
 unfold rn
 rw [List.getElem?_map,List.getElem?_eq_getElem (by omega)]
 have e:σ[π.getD i 0]'(by omega)=i:=by
  rw [List.getD_eq_getElem?_getD,List.getElem?_eq_getElem (by omega)] at b
  simpa using b
 simp only [Option.map_some,Option.some.injEq]
 rw [e,List.getD_eq_getElem?_getD,ho]; rfl
theorem N1 {Q:Exit→Act→World→Prop}:∀ (fuel:Nat) (L L':Array Bool) (a:Act) (w:World),L.size=l.length→L'.size=l.length→(∀ i,i < l.length→L'.getD (π.getD i 0) true=L.getD i true)→
  wpAny P .any (rn l σ π).toArray Q fuel L' a w→wpAny P .any l.toArray Q fuel L a w:=by
 obtain ⟨h1,h2,h3,h4⟩:=EA h
 have gd:∀ {L:Array Bool} {i:Nat} (b:Bool),L.size=l.length→i < l.length→L.getD i b=L.getD i true:=fun {L i} b hs hi=>by
  have:i < L.size:=by omega
  simp [Array.getD,this]
 have Dd:∀ (L L':Array Bool),L.size=l.length→L'.size=l.length→(∀ i,i < l.length→L'.getD (π.getD i 0) true=L.getD i true)→∀ i,i < l.length→(i∈Region.ready .any l.toArray L↔π.getD i 0∈Region.ready .any (rn l σ π).toArray L'):=by
  intro L L' hs cq hL i hi
  rw [mem_ready,mem_ready,hL i hi]
  have ho:l[i]? = some (l[i]'hi):=List.getElem?_eq_getElem hi
  have bw:=KH h ho
  have hg:=h4 _ (List.mem_of_getElem? ho)
  constructor
  ·rintro ⟨g1,o,g2,g3⟩
   refine ⟨g1,Dj π l[i],by simpa using bw,fun e he hb=>?_⟩
   have eo:l[i]=o:=by simpa [ho] using g2
   simp only [Dj,List.mem_toArray,List.mem_map] at he
   obtain ⟨e0,he0,rfl⟩:=he
   have bj:=hg.2 e0 he0
   have:=g3 e0 (by rw [← eo]; simpa using he0) hb
   rw [gd false cq (h3 _ bj).1,hL _ bj,← gd false hs bj]; exact this
  ·rintro ⟨g1,o,g2,g3⟩
   refine ⟨g1,l[i],by simp,fun e he hb=>?_⟩
   have eo:Dj π l[i]=o:=by
    have:(rn l σ π)[π.getD i 0]? = some o:=by simpa using g2
    rw [bw] at this
    exact Option.some.inj this
   have bj:=hg.2 e (by simpa using he)
   have:=g3 ⟨π.getD e.on 0,e.ground⟩ (by rw [← eo]; simp only [Dj,List.mem_toArray,List.mem_map]; exact ⟨e,by simpa using he,rfl⟩) hb
   rw [gd false cq (h3 _ bj).1,hL _ bj,← gd false hs bj] at this; exact this
 have back:∀ (L L':Array Bool),L.size=l.length→L'.size=l.length→(∀ i,i < l.length→L'.getD (π.getD i 0) true=L.getD i true)→Region.ready .any l.toArray L=[]→Region.ready .any (rn l σ π).toArray L'=[]:=by
  intro L L' hs cq hL he
  rw [List.eq_nil_iff_forall_not_mem]
  intro k hk
  have BA:k < l.length:=by
   obtain ⟨_,o,g2,_⟩:=mem_ready.1 hk
   have:(rn l σ π)[k]? = some o:=by simpa using g2
   have:=(List.getElem?_eq_some_iff.1 this).1
   rwa [KG h] at this
  obtain ⟨_,_,c,d⟩:=h3 k BA
  have:=(Dd L L' hs cq hL (σ.getD k 0) c).2 (by rw [d]; exact hk)
  rw [he] at this
  exact nomatch this
 intro fuel
 induction fuel with
 | zero=>
  intro L L' a w hs cq hL hh
  refine ⟨?_,hh.2⟩
  rw [List.eq_nil_iff_forall_not_mem]
  intro i hi
  have ux:i < l.length:=by
   obtain ⟨_,o,g2,_⟩:=mem_ready.1 hi
   have:l[i]? = some o:=by simpa using g2
   exact (List.getElem?_eq_some_iff.1 this).1
  have:=(Dd L L' hs cq hL i ux).1 hi
  rw [hh.1] at this
  exact nomatch this
 | succ fuel ih=>
  intro L L' a w hs cq hL hh
  refine ⟨fun he=>hh.1 (back L L' hs cq hL he),fun i hi=>?_⟩
  have ux:i < l.length:=by
   obtain ⟨_,o,g2,_⟩:=mem_ready.1 hi
   have:l[i]? = some o:=by simpa using g2
   exact (List.getElem?_eq_some_iff.1 this).1
  have ho:l[i]? = some (l[i]'ux):=List.getElem?_eq_getElem ux
  have hg:=h4 _ (List.mem_of_getElem? ho)
  have N2:=hh.2 _ ((Dd L L' hs cq hL i ux).1 hi)
  have next:∀ a w,wpAny P .any (rn l σ π).toArray Q fuel (L'.setIfInBounds (π.getD i 0) true) a w→wpAny P .any l.toArray Q fuel (L.setIfInBounds i true) a w:=fun a w=>ih _ _ a w (by simpa using hs) (by simpa using cq) fun j hj=>by
   have hpj:=(h3 j hj).1
   have hpi:=(h3 i ux).1
   by_cases e:i=j
   ·subst e
    rw [Array.getD_eq_getD_getElem?,Array.getD_eq_getD_getElem?,Array.getElem?_setIfInBounds_self_of_lt (by omega),Array.getElem?_setIfInBounds_self_of_lt (by omega)]
   ·have e':π.getD i 0≠π.getD j 0:=fun q=>e (by rw [← (h3 i ux).2.1,q,(h3 j hj).2.1])
    have h5:=hL j hj
    have q1:(L'.setIfInBounds (π.getD i 0) true).getD (π.getD j 0) true=L'.getD (π.getD j 0) true:=by
     rw [Array.getD_eq_getD_getElem?,Array.getD_eq_getD_getElem?,Array.getElem?_setIfInBounds_ne e']
    have q2:(L.setIfInBounds i true).getD j true=L.getD j true:=by
     rw [Array.getD_eq_getD_getElem?,Array.getD_eq_getD_getElem?,Array.getElem?_setIfInBounds_ne e]
    rw [q1,q2,h5]
  have ga:(l.toArray)[i]? = some (l[i]'ux):=by simp
  have gb:((rn l σ π).toArray)[π.getD i 0]? = some (Dj π (l[i]'ux)):=by simpa using KH h ho
  unfold wpOp at N2 ⊢
  rw [gb] at N2
  rw [ga]
  have w1:Region.wanted (l[i]'ux) (yielded l.toArray a.tmps)=true:=by unfold Region.wanted; rw [hg.1]
  have w2:Region.wanted (Dj π (l[i]'ux)) (yielded (rn l σ π).toArray a.tmps)=true:=by unfold Region.wanted; show (match (l[i]'ux).guard with | none=>true | some (j,want)=>_)=true; rw [hg.1]
  simp only [w2,if_true] at N2
  simp only [w1,if_true]
  rw [Wv,Ql] at N2
  exact N2.imp (fun g=>Oper.wp_mono next g) id
theorem nz.prm {n:Nat} {Q:Exit→(Nat→Value)→World→Prop} {r:NV} {w:World} (hw:nz P n (rn l σ π) Q r w):nz P n l Q r w:=by
 have hl:=KG h
 obtain ⟨_,_,h3,_⟩:=EA h
 intro a a1 a2 a3
 have:=hw a a1 a2 a3
 rw [show (rn l σ π).toArray.size=l.toArray.size by simpa using hl] at this
 refine N1 h _ _ _ a _ (by simp) (by simp) (fun i hi=>?_) this
 have hq:=(h3 i hi).1
 rw [List.getD_eq_getElem?_getD] at hq
 simp [Array.getD,hi,hq]
end
section
variable {P:Program} {n:Nat} {Q:Exit→(Nat→Value)→World→Prop} {r0:NV} {w0:World} {l:LO} {S:List gw}
def bn (l:LO) (j:Nat):Option Nat:=(l[j]?).bind (·.dst)
def vC (l:LO) (S:List gw) (j:Nat) (g:Nat→List Nat) (r:NV) (w:World):Prop:=
 (∀ d,bn l j=some d→match S[j]? with
  | some s=>if s.b then s.V (g j) w r (r d) else r d=undef
  | none=>True)∧(bn l j=none→∀ s,S[j]? = some s→s.b=true→∃ x,s.V (g j) w r x)
def Old (l:LO) (S:List gw) (j:Nat) (r:NV):Prop:=∀ d,bn l j=some d→∀ s,S[j]? = some s→if s.b then ∃ f w,s.V f w r (r d) else r d=undef
structure x9 (l:LO) (m:Nat) (S:List gw) (U:LL) (r0:NV) (w0:World) (H:LN) (L:Nat→Prop) (g:Nat→List Nat) (r:NV) (w:World):Prop where
 lp:aw H w0 w
 B2:(∀ k,L k→l.length ∉ U.getD k [])→aw [] w0 w∧g l.length=H
 vg:∀ b∈g l.length,b∈H
 vd:∀ j,L j→tz (g j) (g l.length)
 done:∀ j,L j→(∀ k,L k→j ∉ U.getD k [])→vC l S j g r w
 ur:∀ j,L j→Old l S j r
 other:∀ t,(∀ j,j < m→bn l j≠some t)→r t=r0 t
 fresh:∀ j,L j→∀ b∈g j,(w0.heap.size≤b∨(b∈H∧∃ k,L k∧l.length∈U.getD k []))∧b < w.heap.size
 xp:∀ i j,L i→L j→i≠j→tz (g i) (g j)
def ta (l:LO) (U:LL) (m i j:Nat):Bool:=
 ((bx l).getD i []).contains j && (List.range m).all fun k=>!((U.getD k []).contains j) || Nat.beq k i || ((bx l).getD k []).contains i
def l9 (g:Nat→List Nat) (us:LN):List Nat:=us.flatMap g
def wF (l:LO) (U:LL) (m i:Nat):Bool:=(List.range m).all fun k=>!((U.getD k []).contains l.length) || Nat.beq k i || ((bx l).getD k []).contains i
def iq (P:Program) (l:LO) (m:Nat) (S:List gw) (U:LL) (r0:NV) (w0:World) (H:LN) (i:Nat):Prop:=
 ∀ o s,l[i]? = some o→S[i]? = some s→∀ (g:Nat→List Nat) (r:NV) (w:World),aw H w0 w→(wF l U m i=true→aw [] w0 w∧g l.length=H∧∀ j∈(bx l).getD i [],∀ b∈g j,w0.heap.size≤b)→(∀ j∈(bx l).getD i [],Old l S j r)→(∀ j,ta l U m i j=true→vC l S j g r w)→(∀ t,(∀ j,j < m→bn l j≠some t)→r t=r0 t)→
  (∀ i'∈(bx l).getD i [],∀ j'∈(bx l).getD i [],i'≠j'→tz (g i') (g j'))→(∀ j∈(bx l).getD i [],∀ b∈g j,(w0.heap.size≤b∨b∈H)∧b < w.heap.size)→
  if s.b then Region.wanted o (yl l r)=true∧fv P o r w fun v w'=>aw (l9 g (U.getD i [])) w w'∧∃ f,(∀ b∈f,(b∈l9 g (U.getD i [])∨w.heap.size≤b)∧b < w'.heap.size)∧s.V f w' r v
  else Region.wanted o (yl l r)=false
def BZ:List Nat→Bool
 | []=>true
 | x :: l=>!(l.contains x) && BZ l
theorem zC:∀ {l:LN},BZ l=true→l.Nodup
 | [],_=>List.nodup_nil
 | x :: l,h=>by
  simp only [BZ,Bool.and_eq_true,Bool.not_eq_true',List.contains_eq_mem,decide_eq_false_iff_not] at h
  exact List.nodup_cons.2 ⟨h.1,zC h.2⟩
def xe (l:LO) (m:Nat) (Z:LN):Bool:=
 ((List.range l.length).all fun i=>((l.getD i default).after.toList.filter (Region.binds .any)).all fun e=>Nat.blt e.on i) &&
 ((List.range l.length).all fun i=>Nat.blt i m || (List.range i).all fun j=>((bx l).getD i []).contains j || Z.contains j) &&
 BZ ((l.take m).filterMap (·.dst))
def Ww (o:Oper):Bool:=match o.op with | .move _=>true | .extract _ _=>true | _=>false
def Qm (l:LO) (i:Nat):Array Bool:=((List.range l.length).map fun j=>((bx l).getD i []).contains j).toArray
def Dc (l:LO) (m:Nat) (Z:LN):Bool:=
 Region.noSelect l.toArray && Z.all fun i=>Nat.blt i m && Region.free .any l.toArray (Qm l i) i &&
  match l[i]? with
  | some o=>Ww o && o.guard.isNone
  | none=>false
theorem N3 {l:LO} {L:Array Bool} {i:Nat} (hL:∀ j∈(bx l).getD i [],L.getD j false=true) (h:Region.free .any l.toArray (Qm l i) i=true):Region.free .any l.toArray L i=true:=by
 unfold Region.free at h ⊢
 cases ho:(l.toArray)[i]? with
 | none=>rw [ho] at h; cases h
 | some oi=>
  rw [ho] at h
  simp only [List.all_eq_true,List.mem_range,Bool.or_eq_true] at h ⊢
  intro j hj
  rcases h j hj with (h1 | h1) | h1
  ·exact .inl (.inl h1)
  ·have bj:j < l.length:=by simpa using hj
   have hm:j∈(bx l).getD i []:=by
    unfold Qm at h1
    have:((List.range l.length).map fun j=>((bx l).getD i []).contains j)[j]? = some (((bx l).getD i []).contains j):=by
     rw [List.getElem?_map,List.getElem?_range bj]; rfl
    rw [Array.getD_eq_getD_getElem?,List.getElem?_toArray,this] at h1
    simpa using h1
   refine .inl (.inr ?_)
   have h2:=hL j hm
   rcases Nat.lt_or_ge j L.size with h' | h'
   ·simp [h'] at h2 ⊢; exact h2
   ·simp [Array.getElem?_eq_none h'] at h2
  ·exact .inr h1
theorem JO {P:Program} {d:Option Nat} {x:OO} {k:Nat} {ty:TI} {pos:String} {ag:Array Edge} {g:Option (Nat×Bool)} {r:NV} {w:World} {K:Value→World→Prop} (h:fv P ⟨d,.extract x k,ty,pos,ag,g⟩ r w K) :
  ∃ v,(∀ w',(execOp (ev r) ⟨d,.extract x k,ty,pos,ag,g⟩).run P w' = .ok (.value v) w')∧K v w:=by
 have e:execOp (ev r) ⟨d,.extract x k,ty,pos,ag,g⟩ = (Instr.extract (ev r x) k>>=fun v=>pure (.value v)):=rfl
 unfold fv at h
 rw [e] at h ⊢
 generalize ev r x=u at h ⊢
 cases u
 case tuple vs=>
  cases hv:vs[k]? with
  | none=>simp [Instr.extract,hv,stuck,Result.andThen,Sem.run] at h
  | some v=>
   refine ⟨v,fun w'=>?_,?_⟩
   ·simp [Instr.extract,hv]
   ·simpa [Instr.extract,hv] using h
 all_goals simp [Instr.extract,stuck,Result.andThen,Sem.run] at h
theorem AU (l:LO):∀ (i:Nat) (o:Oper),l[i]? = some o→(bx l)[i]? = some ((o.after.toList.filter (Region.binds .any)).flatMap fun e=>e.on :: ((bx l).take i).getD e.on []):=by
 have key:∀ (l:LO) (acc:LL),(l.foldl ml acc).length=acc.length+l.length∧(∀ j,j < acc.length→(l.foldl ml acc)[j]? = acc[j]?)∧
   ∀ i o,l[i]? = some o→(l.foldl ml acc)[acc.length+i]? = some ((o.after.toList.filter (Region.binds .any)).flatMap fun e=>e.on :: ((l.foldl ml acc).take (acc.length+i)).getD e.on []):=by
  intro l
  induction l with
  | nil=>intro acc; exact ⟨rfl,fun _ _=>rfl,fun i o h=>by simp at h⟩
  | cons x l ih=>
   intro acc
   obtain ⟨h1,h2,h3⟩:=ih (ml acc x)
   have hl:(ml acc x).length=acc.length+1:=by simp [ml]
   have hold:∀ j,j < acc.length→(ml acc x)[j]? = acc[j]?:=fun j hj=>by simp only [ml]; rw [List.getElem?_append_left hj]
   refine ⟨by simp only [List.foldl_cons,h1,hl,List.length_cons]; omega,fun j hj=>?_,?_⟩
   ·rw [List.foldl_cons,h2 j (by omega),hold j hj]
   ·intro i o hi
    cases i with
    | zero=>
     simp at hi
     subst hi
     have Zf:(List.foldl ml acc (x :: l)).take (acc.length+0)=acc:=by
      apply List.ext_getElem?
      intro j
      rw [Nat.add_zero,List.getElem?_take]
      split
      ·rename_i hj
       rw [List.foldl_cons,h2 j (by omega),hold j hj]
      ·rename_i hj
       rw [List.getElem?_eq_none (by omega)]
     rw [Zf]
     rw [Nat.add_zero,List.foldl_cons,h2 _ (by omega)]
     simp only [ml]
     rw [List.getElem?_append_right (Nat.le_refl _)]
     simp
    | succ i=>
     have:=h3 i o (by simpa using hi)
     rw [hl] at this
     rw [List.foldl_cons]
     rw [show acc.length+(i+1)=acc.length+1+i by omega]
     exact this
 intro i o hi
 have:=(key l []).2.2 i o hi
 simpa [bx] using this
theorem B0 (l:LO) (hb:∀ (i:Nat) (o:Oper),l[i]? = some o→∀ e∈o.after.toList.filter (Region.binds .any),e.on < i) :
  ∀ (i j:Nat),j∈(bx l).getD i []→j < i∧∃ o,l[i]? = some o∧∃ e∈o.after.toList.filter (Region.binds .any),j=e.on∨j∈(bx l).getD e.on []:=by
 intro i j hj
 cases ho:l[i]? with
 | none=>
  have hlen:(bx l).length=l.length:=by
   have:∀ (l:LO) (acc:LL),(l.foldl ml acc).length=acc.length+l.length:=by
    intro l
    induction l with
    | nil=>intro acc; rfl
    | cons x l ih=>intro acc; rw [List.foldl_cons,ih]; simp [ml]; omega
   simpa [bx] using this l []
  rw [List.getD_eq_getElem?_getD,List.getElem?_eq_none (by rw [hlen]; exact List.getElem?_eq_none_iff.1 ho)] at hj
  simp at hj
 | some o=>
  have h:=AU l i o ho
  rw [List.getD_eq_getElem?_getD,h] at hj
  simp only [Option.getD_some,List.mem_flatMap,List.mem_cons] at hj
  obtain ⟨e,he,hj⟩:=hj
  have bj:=hb i o ho e he
  have Wx:((bx l).take i).getD e.on []=(bx l).getD e.on []:=by
   rw [List.getD_eq_getElem?_getD,List.getD_eq_getElem?_getD,List.getElem?_take,if_pos bj]
  rw [Wx] at hj
  refine ⟨?_,o,rfl,e,he,hj⟩
  rcases hj with rfl | hj
  ·exact bj
  ·-- by the strong law below
   have:∀ (k i:Nat),i≤k→∀ j∈(bx l).getD i [],j < i:=by
    intro k
    induction k with
    | zero=>
     intro i hi j hj
     obtain rfl:i=0:=by omega
     cases ho:l[0]? with
     | none=>
      obtain rfl:l=[]:=by cases l with | nil=>rfl | cons=>simp at ho
      simp [bx] at hj
     | some o=>
      have h:=AU l 0 o ho
      rw [List.getD_eq_getElem?_getD,h] at hj
      simp only [Option.getD_some,List.mem_flatMap] at hj
      obtain ⟨e,he,_⟩:=hj
      exact absurd (hb 0 o ho e he) (Nat.not_lt_zero _)
    | succ k ih=>
     intro i hi j hj
     cases ho:l[i]? with
     | none=>
      have hlen:(bx l).length=l.length:=by
       have:∀ (l:LO) (acc:LL),(l.foldl ml acc).length=acc.length+l.length:=by
        intro l
        induction l with
        | nil=>intro acc; rfl
        | cons x l ih=>intro acc; rw [List.foldl_cons,ih]; simp [ml]; omega
       simpa [bx] using this l []
      rw [List.getD_eq_getElem?_getD,List.getElem?_eq_none (by rw [hlen]; exact List.getElem?_eq_none_iff.1 ho)] at hj
      simp at hj
     | some o=>
      have h:=AU l i o ho
      rw [List.getD_eq_getElem?_getD,h] at hj
      simp only [Option.getD_some,List.mem_flatMap,List.mem_cons] at hj
      obtain ⟨e,he,hj⟩:=hj
      have bj:=hb i o ho e he
      rcases hj with rfl | hj
      ·exact bj
      ·have Wx:((bx l).take i).getD e.on []=(bx l).getD e.on []:=by
        rw [List.getD_eq_getElem?_getD,List.getD_eq_getElem?_getD,List.getElem?_take,if_pos bj]
       rw [Wx] at hj
       have:=ih e.on (by omega) j hj
       omega
   exact Nat.lt_trans (this e.on e.on (Nat.le_refl _) j hj) bj
theorem AO (l:LO) (hb:∀ (i:Nat) (o:Oper),l[i]? = some o→∀ e∈o.after.toList.filter (Region.binds .any),e.on < i) {j k:Nat} (hj:j∈(bx l).getD k []):∀ {i:Nat},k∈(bx l).getD i []→j∈(bx l).getD i []:=by
 intro i
 induction i using Nat.strongRecOn with
 | _ i ih=>
  intro hk
  obtain ⟨_,o,ho,e,he,Wy⟩:=B0 l hb i k hk
  have bj:=hb i o ho e he
  have h2:j∈(bx l).getD e.on []:=Wy.elim (fun h=>h ▸ hj) (fun h=>ih e.on bj h)
  have h:=AU l i o ho
  rw [List.getD_eq_getElem?_getD,h]
  simp only [Option.getD_some,List.mem_flatMap,List.mem_cons]
  refine ⟨e,he,.inr ?_⟩
  rw [List.getD_eq_getElem?_getD,List.getElem?_take,if_pos bj,← List.getD_eq_getElem?_getD]
  exact h2
theorem getD_both {Iw:Array Bool} {i:Nat} (h:Iw.getD i true=false):Iw.getD i false=false:=by
 rcases Nat.lt_or_ge i Iw.size with h' | h'
 ·simp [h'] at h ⊢; exact h
 ·simp [Array.getElem?_eq_none h'] at h
theorem getD_replicate_false (m j:Nat):(Array.replicate m false).getD j false=false:=by
 rcases Nat.lt_or_ge j m with h | h
 ·simp [h]
 ·simp [h]
theorem Gt:∀ (l:LO),(l.filterMap (·.dst)).Nodup→∀ i j d,bn l i=some d→bn l j=some d→i=j:=by
 intro l
 induction l with
 | nil=>intro _ i j d h; simp [bn] at h
 | cons o l ih=>
  intro hn i j d hi hj
  have L9:∀ k,bn (o :: l) (k+1)=some d→d∈l.filterMap (·.dst):=by
   intro k hk
   simp only [bn,List.getElem?_cons_succ] at hk
   cases ho:l[k]? with
   | none=>rw [ho] at hk; cases hk
   | some x=>rw [ho] at hk; exact List.mem_filterMap.2 ⟨x,List.mem_of_getElem? ho,hk⟩
  have h0:∀ e,o.dst=some e→e ∉ l.filterMap (·.dst)∧(l.filterMap (·.dst)).Nodup:=by
   intro e he
   rw [List.filterMap_cons_some he] at hn
   exact List.nodup_cons.1 hn
  have p5:(l.filterMap (·.dst)).Nodup:=by
   cases hd:o.dst with
   | none=>rwa [List.filterMap_cons_none hd] at hn
   | some e=>exact (h0 e hd).2
  cases i with
  | zero=>
   cases j with
   | zero=>rfl
   | succ j=>exact absurd (L9 j hj) (h0 d (by simpa [bn] using hi)).1
  | succ i=>
   cases j with
   | zero=>exact absurd (L9 i hi) (h0 d (by simpa [bn] using hj)).1
   | succ j=>rw [ih p5 i j d (by simpa [bn] using hi) (by simpa [bn] using hj)]
theorem mf {m j:Nat} (hj:j < m):bn (l.take m) j=bn l j:=by
 unfold bn
 rw [List.getElem?_take,if_pos hj]
theorem po {o:Oper} {r:NV} {w:World} {K K':Value→World→Prop} (h:fv P o r w K) (hk:∀ v w',K v w'→K' v w'):fv P o r w K':=by
 unfold fv at h ⊢
 cases hr:(execOp (ev r) o).run P w with
 | ok x w'=>
  rw [hr] at h
  cases x with
  | value v=>exact hk _ _ h
  | skip=>exact hk _ _ h
  | enter f args=>exact h.mono fun e Gh ⟨v,he,hv⟩=>⟨v,he,hk _ _ hv⟩
  | _=>exact h
 | _=>rw [hr] at h; exact h.elim
theorem Gs {m:Nat} {Z:LN} (h:xe l m Z=true):∀ (i:Nat) (o:Oper),l[i]? = some o→∀ e∈o.after.toList.filter (Region.binds .any),e.on < i:=by
 simp only [xe,Bool.and_eq_true,List.all_eq_true,List.mem_range] at h
 intro i o ho e he
 have hi:i < l.length:=(List.getElem?_eq_some_iff.1 ho).1
 have:=h.1.1 i hi e (by rw [List.getD_eq_getElem?_getD,ho]; exact he)
 exact Nat.lt_of_succ_le (Nat.le_of_ble_eq_true this)
theorem ND {m:Nat} {U:LL} {Z H:LN} {N:Nat→Prop} (hd:dk n l=true) (hA:xe l m Z=true) (hZ:Dc l m Z=true) (hp:∀ c r w,Q (.panic c) r w→False) (Gr:m≤l.length)
  (hS:S.length=m)
  (hH:∀ b∈H,b < w0.heap.size) (hU:((List.range m).all fun i=>(U.getD i []).all fun u=>Nat.beq u l.length || ((bx l).getD i []).contains u)=true)
  (hN:∀ b,N b→b < w0.heap.size∧b ∉ H)
  (sX:∀ (i:Nat) (s:gw),S[i]? = some s→∀ f F (w w':World) (r r':NV) v,aw F w w'→(∀ b∈f,b ∉ F)→(∀ b∈F,¬ N b)→(∀ j∈(bx l).getD i [],∀ t,bn l j=some t→r' t=r t)→s.V f w r v→s.V f w' r' v)
  (PX:∀ i,i < m→iq P l m S U r0 w0 H i)
  (next:∀ g r w,x9 l m S U r0 w0 H (fun j=>j < m) g r w→WL P l (l.drop m) r w (Q .normal)) :
  nz P n l Q r0 w0:=by
 simp only [xe,Bool.and_eq_true,List.all_eq_true,List.mem_range,Bool.or_eq_true] at hA
 obtain ⟨⟨VS,VT⟩,VU⟩:=hA
 have xx:∀ (i:Nat) (o:Oper),l[i]? = some o→∀ e∈o.after.toList.filter (Region.binds .any),e.on < i:=by
  intro i o ho e he
  have hi:i < l.length:=(List.getElem?_eq_some_iff.1 ho).1
  have:=VS i hi e (by rw [List.getD_eq_getElem?_getD,ho]; exact he)
  exact Nat.lt_of_succ_le (Nat.le_of_ble_eq_true this)
 have Fu:∀ i,m≤i→i < l.length→∀ j,j < i→j∈(bx l).getD i []∨j∈Z:=by
  intro i h1 h2 j hj
  rcases VT i h2 with h | h
  ·exact absurd (Nat.lt_of_succ_le (Nat.le_of_ble_eq_true h)) (Nat.not_lt.2 h1)
  ·have:=h j hj
   simpa using this
 simp only [Dc,Bool.and_eq_true,List.all_eq_true] at hZ
 obtain ⟨Sg,hZ⟩:=hZ
 have Wz:∀ z∈Z,z < m:=fun z hz=>Nat.lt_of_succ_le (Nat.le_of_ble_eq_true (hZ z hz).1.1)
 have VV:∀ i,i < m→∀ u∈U.getD i [],u=l.length∨u∈(bx l).getD i []:=by
  intro i hi u hu
  simp only [List.all_eq_true,List.mem_range] at hU
  have:=hU i hi u hu
  simpa using this
 have db:=Gt _ (zC VU)
 have sg:=B0 l xx
 intro a h1 h2 h3
 let Cl (L:Array Bool):Prop:=L.size=l.length∧∀ j o,l[j]? = some o→L.getD j false=true→∀ e∈o.after.toList.filter (Region.binds .any),L.getD e.on false=true
 have j6:∀ L,Cl L→∀ i j,(∀ o,l[i]? = some o→∀ e∈o.after.toList.filter (Region.binds .any),L.getD e.on false=true)→j∈(bx l).getD i []→L.getD j false=true:=by
  intro L hL i
  induction i using Nat.strongRecOn with
  | _ i ih=>
   intro j hi hj
   obtain ⟨_,o,ho,e,he,Ic⟩:=sg i j hj
   have hl:=hi o ho e he
   rcases Ic with rfl | Ic
   ·exact hl
   ·exact ih e.on (xx i o ho e he) j (fun o' bw e' u9=>hL.2 _ _ bw hl e' u9) Ic
 have Dd:∀ L i,i∈Region.ready .any l.toArray L→L.getD i true=false∧∃ o,l[i]? = some o∧∀ e∈o.after.toList.filter (Region.binds .any),L.getD e.on false=true:=by
  intro L i hi
  obtain ⟨g1,o,ho,fq⟩:=mem_ready.1 hi
  refine ⟨g1,o,by simpa using ho,fun e he=>?_⟩
  have:=List.mem_filter.1 he
  exact fq e (by simpa using this.1) this.2
 have El:∀ L i o,L.size=l.length→l[i]? = some o→L.getD i false=false→(∀ e∈o.after.toList.filter (Region.binds .any),L.getD e.on false=true)→i∈Region.ready .any l.toArray L:=by
  intro L i o hs ho hu fq
  refine mem_ready.2 ⟨?_,o,by simpa using ho,fun e he hb=>fq e (List.mem_filter.2 ⟨by simpa using he,hb⟩)⟩
  have hi:i < L.size:=by rw [hs]; exact (List.getElem?_eq_some_iff.1 ho).1
  simp [hi] at hu ⊢; exact hu
 have G9:∀ L i o,Cl L→l[i]? = some o→(∀ e∈o.after.toList.filter (Region.binds .any),L.getD e.on false=true)→Cl (L.setIfInBounds i true):=by
  intro L i o hL ho fq
  refine ⟨by rw [Array.size_setIfInBounds]; exact hL.1,fun j o' bw hj e he=>?_⟩
  by_cases zT:i=j
  ·subst zT
   have:o'=o:=Option.some.inj (bw.symm.trans ho)
   subst this
   exact getD_set_true (fq e he)
  ·rw [getD_set_ne false zT] at hj
   exact getD_set_true (hL.2 j o' bw hj e he)
 have getSet:∀ (L:Array Bool) i j,L.size=l.length→i < l.length→((L.setIfInBounds i true).getD j false=true↔j=i∨L.getD j false=true):=by
  intro L i j hs hi
  by_cases zT:i=j
  ·subst zT
   simp [hs,hi]
  ·rw [getD_set_ne false zT]
   constructor
   ·exact .inr
   ·rintro (h | h)
    ·exact absurd h.symm zT
    ·exact h
 have Ie:∀ (L:Array Bool) i,L.size=l.length→i < l.length→L.getD i false=false→(L.setIfInBounds i true).toList.count false+1=L.toList.count false:=by
  intro L i hs hi hu
  have uW:i < L.toList.length:=by simpa [hs] using hi
  have De:L.toList[i]=false:=by
   rw [Array.getElem_toList]
   simp [hs,hi] at hu
   exact hu
  rw [Array.toList_setIfInBounds,List.count_set uW,De]
  have:0 < L.toList.count false:=List.count_pos_iff.2 (by rw [← De]; exact List.getElem_mem uW)
  rw [if_pos (by rfl),if_neg (by decide)]
  omega
 have tail:∀ (d k fuel:Nat) (L:Array Bool) (a:Act) (w:World),l.length - k=d→m≤k→k≤l.length→Cl L→(∀ j,L.getD j false=true↔j < k)→L.toList.count false≤fuel→a.tmps.size=n→a.defers=[]→
   WL P l (l.drop k) (cu a) w (Q .normal)→wpAny P .any l.toArray (fun e a' w'=>a'.tmps.size=n∧a'.defers=[]∧Q e (cu a') w') fuel L a w:=by
  intro d
  induction d with
  | zero=>
   intro k fuel L a w hk hmk BA hL iT hf g1 g2 hW
   obtain rfl:k=l.length:=by omega
   rw [List.drop_length] at hW
   have tM:Region.ready .any l.toArray L=[]:=by
    apply List.eq_nil_iff_forall_not_mem.2
    intro i hi
    obtain ⟨q1,o,ho,_⟩:=Dd L i hi
    have bj:i < l.length:=(List.getElem?_eq_some_iff.1 ho).1
    have:=(iT i).2 bj
    simp [hL.1,bj] at q1 this
    rw [q1] at this; cases this
   cases fuel with
   | zero=>exact ⟨tM,g1,g2,hW⟩
   | succ fuel=>exact ⟨fun _=>⟨g1,g2,hW⟩,fun i hi=>by rw [tM] at hi; cases hi⟩
  | succ d ih=>
   intro k fuel L a w hk hmk BA hL iT hf g1 g2 hW
   have Ma:k < l.length:=by omega
   obtain ⟨o,ho⟩ : ∃ o,l[k]? = some o:=⟨l[k],List.getElem?_eq_getElem Ma⟩
   have WA:L.getD k false=false:=by
    cases hb:L.getD k false with
    | false=>rfl
    | true=>exact absurd ((iT k).1 hb) (Nat.lt_irrefl _)
   have qg:k∈Region.ready .any l.toArray L:=El L k o hL.1 ho WA fun e he=>(iT _).2 (xx k o ho e he)
   have Zg:l.drop k=o :: l.drop (k+1):=by rw [List.drop_eq_getElem_cons Ma]; congr 1; exact Option.some.inj ((List.getElem?_eq_getElem Ma).symm.trans ho)
   rw [Zg] at hW
   have hc:=Ie L k hL.1 Ma WA
   cases fuel with
   | zero=>omega
   | succ fuel=>
    refine ⟨fun h=>(by rw [h] at qg; cases qg),fun i hi=>?_⟩
    obtain ⟨q1,oi,pg,fq⟩:=Dd L i hi
    have gu:i < l.length:=(List.getElem?_eq_some_iff.1 pg).1
    have vG:L.getD i false=false:=getD_both q1
    have hik:i=k:=by
     rcases Nat.lt_trichotomy i k with h | h | h
     ·have:=(iT i).2 h; rw [vG] at this; cases this
     ·exact h
     ·have:=j6 L hL i k (fun o' bw=>by have:o'=oi:=Option.some.inj (bw.symm.trans pg); subst this; exact fq) ((Fu i (by omega) gu k h).resolve_right fun hz=>absurd (Wz k hz) (by omega))
      rw [WA] at this; cases this
    subst hik
    have NN:oi=o:=Option.some.inj (pg.symm.trans ho)
    subst NN
    have Gu:∀ k',oi.dst=some k'→k' < a.tmps.size:=by
     intro k' BM
     have vY:oi∈l:=List.mem_of_getElem? pg
     simp only [dk,List.all_eq_true] at hd
     have:=hd oi vY
     rw [BM] at this
     rw [g1]
     exact Nat.lt_of_succ_le (Nat.le_of_ble_eq_true this)
    have Df:=G9 L i oi hL pg fq
    have zB:∀ j,(L.setIfInBounds i true).getD j false=true↔j < i+1:=by
     intro j
     rw [getSet L i j hL.1 gu,iT j]
     omega
    unfold wpOp
    rw [show (l.toArray)[i]? = some oi by simpa using pg]
    simp only []
    rw [AS (by rw [g1]; exact hd)]
    rcases hW with ⟨hw,hW⟩ | ⟨hw,hW⟩
    ·rw [if_pos hw]
     exact .inl (hW.wp fun v w' hv=>ih (i+1) fuel _ _ _ (by omega) (by omega) (by omega) Df zB (by omega) (by rw [l3]; exact g1) (by rw [ja]; exact g2) (by rw [nj Gu]; exact hv))
    ·rw [if_neg (by rw [hw]; exact Bool.false_ne_true)]
     exact ih (i+1) fuel _ _ _ (by omega) (by omega) (by omega) Df zB (by omega) (by rw [l3]; exact g1) (by rw [ja]; exact g2) (by rw [nj Gu]; exact hW)
 have head:∀ (fuel:Nat) (L:Array Bool) (a:Act) (w:World) (g:Nat→List Nat),Cl L→(∀ j,L.getD j false=true→j < m)→L.toList.count false≤fuel→a.tmps.size=n→a.defers=[]→
   x9 l m S U r0 w0 H (fun j=>L.getD j false=true) g (cu a) w→wpAny P .any l.toArray (fun e a' w'=>a'.tmps.size=n∧a'.defers=[]∧Q e (cu a') w') fuel L a w:=by
  intro fuel
  induction fuel with
  | zero=>
   intro L a w g hL vE hf g1 g2 inv
   have fq:∀ j,j < l.length→L.getD j false=true:=by
    intro j hj
    cases hb:L.getD j false with
    | true=>rfl
    | false=>have:=Ie L j hL.1 hj hb; omega
   have iT:∀ j,L.getD j false=true↔j < m:=fun j=>⟨vE j,fun h=>fq j (by omega)⟩
   refine tail _ m 0 L a w rfl (Nat.le_refl _) Gr hL iT hf g1 g2 (next g _ _ ?_)
   exact ⟨inv.lp,fun hk=>inv.B2 fun k ya=>hk k ((iT k).1 ya),inv.vg,fun j hj=>inv.vd j ((iT j).2 hj),fun j hj hk=>inv.done j ((iT j).2 hj) (fun k ya=>hk k ((iT k).1 ya)),fun j hj=>inv.ur j ((iT j).2 hj),inv.other,fun j hj b hb=>⟨(inv.fresh j ((iT j).2 hj) b hb).1.imp (fun h=>h) fun h=>⟨h.1,h.2.imp fun k hk=>⟨(iT k).1 hk.1,hk.2⟩⟩,(inv.fresh j ((iT j).2 hj) b hb).2⟩,fun i j hi hj=>inv.xp i j ((iT i).2 hi) ((iT j).2 hj)⟩
  | succ fuel ih=>
   intro L a w g hL vE hf g1 g2 inv
   by_cases fq:∀ j,j < m→L.getD j false=true
   ·have iT:∀ j,L.getD j false=true↔j < m:=fun j=>⟨vE j,fq j⟩
    refine tail _ m _ L a w rfl (Nat.le_refl _) Gr hL iT hf g1 g2 (next g _ _ ?_)
    exact ⟨inv.lp,fun hk=>inv.B2 fun k ya=>hk k ((iT k).1 ya),inv.vg,fun j hj=>inv.vd j ((iT j).2 hj),fun j hj hk=>inv.done j ((iT j).2 hj) (fun k ya=>hk k ((iT k).1 ya)),fun j hj=>inv.ur j ((iT j).2 hj),inv.other,fun j hj b hb=>⟨(inv.fresh j ((iT j).2 hj) b hb).1.imp (fun h=>h) fun h=>⟨h.1,h.2.imp fun k hk=>⟨(iT k).1 hk.1,hk.2⟩⟩,(inv.fresh j ((iT j).2 hj) b hb).2⟩,fun i j hi hj=>inv.xp i j ((iT i).2 hi) ((iT j).2 hj)⟩
   ·obtain ⟨j0,Sh,zU⟩ : ∃ j,j < m∧L.getD j false=false:=by
     apply Classical.byContradiction
     intro tM
     apply fq
     intro j hj
     cases hb:L.getD j false with
     | true=>rfl
     | false=>exact absurd ⟨j,hj,hb⟩ tM
    have LP:∃ i,i∈Region.ready .any l.toArray L:=by
     have:∀ k,(∃ j,j < k∧j < m∧L.getD j false=false)→∃ i,i∈Region.ready .any l.toArray L:=by
      intro k
      induction k with
      | zero=>rintro ⟨j,h,_⟩; omega
      | succ k D8=>
       rintro ⟨j,NJ,B3,tN⟩
       by_cases wo:∃ j,j < k∧j < m∧L.getD j false=false
       ·exact D8 wo
       ·obtain rfl:j=k:=by
         apply Classical.byContradiction
         intro h
         exact wo ⟨j,by omega,B3,tN⟩
        have Em:j < l.length:=by omega
        refine ⟨j,El L j l[j] hL.1 (List.getElem?_eq_getElem Em) tN fun e he=>?_⟩
        have bj:=xx j _ (List.getElem?_eq_getElem Em) e he
        cases hb:L.getD e.on false with
        | true=>rfl
        | false=>exact absurd ⟨e.on,bj,by omega,hb⟩ wo
     exact this (j0+1) ⟨j0,by omega,Sh,zU⟩
    have main:∀ i oi,i < m→l[i]? = some oi→L.getD i false=false→(∀ e∈oi.after.toList.filter (Region.binds .any),L.getD e.on false=true)→
      (Region.wanted oi (yl l (cu a))=true∧fv P oi (cu a) w fun v w'=>wpAny P .any l.toArray (fun e a' w'=>a'.tmps.size=n∧a'.defers=[]∧Q e (cu a') w') fuel (L.setIfInBounds i true) (a.put oi.dst v) w')∨
      (Region.wanted oi (yl l (cu a))=false∧wpAny P .any l.toArray (fun e a' w'=>a'.tmps.size=n∧a'.defers=[]∧Q e (cu a') w') fuel (L.setIfInBounds i true) (a.put oi.dst undef) w):=by
     intro i oi vF pg vG vH
     have gu:i < l.length:=(List.getElem?_eq_some_iff.1 pg).1
     have ot:∀ o,l[i]? = some o→∀ e∈o.after.toList.filter (Region.binds .any),L.getD e.on false=true:=fun o' bw=>by
      have:o'=oi:=Option.some.inj (bw.symm.trans pg)
      subst this; exact vH
     obtain ⟨s,hs⟩ : ∃ s,S[i]? = some s:=⟨S[i]'(by omega),List.getElem?_eq_getElem (by omega)⟩
     have hc:=Ie L i hL.1 gu vG
     have Df:=G9 L i oi hL pg vH
     have VX:∀ j,(L.setIfInBounds i true).getD j false=true→j < m:=by
      intro j hj
      rcases (getSet L i j hL.1 gu).1 hj with rfl | hj
      ·exact vF
      ·exact vE j hj
     have En:∀ k,L.getD k false=true→k≠i∧i ∉ (bx l).getD k []:=by
      intro k hk
      refine ⟨fun h=>(by rw [h,vG] at hk; cases hk),fun vY=>?_⟩
      have:=j6 L hL k i (fun o' bw e' u9=>hL.2 k o' bw hk e' u9) vY
      rw [vG] at this; cases this
     have ow:=PX i vF oi s pg hs g (cu a) w inv.lp (fun hV=>by
       have tM:∀ k,L.getD k false=true→l.length ∉ U.getD k []:=fun k hk Ig=>by
        simp only [wF,List.all_eq_true,List.mem_range,Bool.or_eq_true,Bool.not_eq_true',List.contains_eq_mem,decide_eq_false_iff_not,decide_eq_true_eq] at hV
        rcases hV k (vE k hk) with (h | h) | h
        ·exact h Ig
        ·exact (En k hk).1 (Nat.eq_of_beq_eq_true h)
        ·exact (En k hk).2 h
       have h0:=inv.B2 tM
       exact ⟨h0.1,h0.2,fun j hj b hb=>(inv.fresh j (j6 L hL i j ot hj) b hb).1.elim (fun h=>h) fun h=>absurd h.2.choose_spec.2 (tM _ h.2.choose_spec.1)⟩) (fun j hj=>inv.ur j (j6 L hL i j ot hj)) (fun j hj=>by
       simp only [ta,Bool.and_eq_true,List.all_eq_true,List.mem_range,Bool.or_eq_true,Bool.not_eq_true',List.contains_eq_mem,decide_eq_false_iff_not,decide_eq_true_eq] at hj
       refine inv.done j (j6 L hL i j ot hj.1) fun k hk NJ=>?_
       rcases hj.2 k (vE k hk) with (h | h) | h
       ·exact h NJ
       ·exact (En k hk).1 (Nat.eq_of_beq_eq_true h)
       ·exact (En k hk).2 h) inv.other
      (fun i' uW j' je=>inv.xp i' j' (j6 L hL i i' ot uW) (j6 L hL i j' ot je))
      (fun j hj b hb=>⟨(inv.fresh j (j6 L hL i j ot hj) b hb).1.imp (fun h=>h) (·.1),(inv.fresh j (j6 L hL i j ot hj) b hb).2⟩)
     have hblk:∀ b∈l9 g (U.getD i []),(∃ u,u∈U.getD i []∧L.getD u false=true∧b∈g u)∨(l.length∈U.getD i []∧b∈g l.length):=by
      intro b hb
      obtain ⟨u,hu,ig⟩:=List.mem_flatMap.1 hb
      rcases VV i vF u hu with rfl | h
      ·exact .inr ⟨hu,ig⟩
      ·exact .inl ⟨u,hu,j6 L hL i u ot h,ig⟩
     have Gu:∀ k',oi.dst=some k'→k' < a.tmps.size:=by
      intro k' BM
      have vY:oi∈l:=List.mem_of_getElem? pg
      simp only [dk,List.all_eq_true] at hd
      have:=hd oi vY
      rw [BM] at this
      rw [g1]
      exact Nat.lt_of_succ_le (Nat.le_of_ble_eq_true this)
     have zV:bn l i=oi.dst:=by unfold bn; rw [pg]; rfl
     have oq:∀ v t,(oi.dst≠some t)→cu (a.put oi.dst v) t=cu a t:=by
      intro v t ht
      rw [nj Gu]
      cases yb:oi.dst with
      | none=>rfl
      | some d=>
       show (bif Nat.beq t d then v else cu a t)=cu a t
       cases hb:Nat.beq t d with
       | false=>rfl
       | true=>exact absurd (by rw [yb,Nat.eq_of_beq_eq_true hb]) ht
     have Ih:∀ v d,oi.dst=some d→cu (a.put oi.dst v) d=v:=by
      intro v d yb
      rw [nj Gu,yb]
      show (bif Nat.beq d d then v else cu a d)=v
      rw [Nat.beq_refl]; rfl
     have step:∀ v w' f,aw (l9 g (U.getD i [])) w w'→(∀ b∈f,(b∈l9 g (U.getD i [])∨w.heap.size≤b)∧b < w'.heap.size)→(if s.b then s.V f w' (cu a) v else v=undef)→
       wpAny P .any l.toArray (fun e a' w'=>a'.tmps.size=n∧a'.defers=[]∧Q e (cu a') w') fuel (L.setIfInBounds i true) (a.put oi.dst v) w':=by
      intro v w' f hC tV hV
      have uj:∀ j',j' < m→j'≠i→∀ t,bn l j'=some t→cu (a.put oi.dst v) t=cu a t:=by
       intro j' je o7 t ht
       refine oq v t fun h=>o7 (db j' i t ?_ ?_)
       ·rw [mf je]; exact ht
       ·rw [mf vF,zV]; exact h
      have NK:∀ b∈l9 g (U.getD i []),¬ N b:=fun b hb hn=>by
       rcases hblk b hb with ⟨u,_,qu,ig⟩ | ⟨_,ig⟩
       ·rcases (inv.fresh u qu b ig).1 with h | h
        ·have:=(hN b hn).1; omega
        ·exact (hN b hn).2 h.1
       ·exact (hN b hn).2 (inv.vg b ig)
      refine ih _ _ _ (fun j=>if j=i then f else if j∈U.getD i [] then [] else g j) Df VX (by omega) (by rw [l3]; exact g1) (by rw [ja]; exact g2)
       ⟨inv.lp.then hC fun b hb=>(by
        rcases hblk b hb with ⟨u,_,qu,ig⟩ | ⟨_,ig⟩
        ·exact (inv.fresh u qu b ig).1.elim .inr fun h=>.inl h.1
        ·exact .inl (inv.vg b ig)),fun tM=>?_,?_,fun j hj=>?_,?_,fun j hj d r4 sj tC=>?_,?_,?_,?_⟩
      ·have wR:l.length ∉ U.getD i []:=tM i ((getSet L i i hL.1 gu).2 (.inl rfl))
       have h0:=inv.B2 fun k hk=>tM k ((getSet L i k hL.1 gu).2 (.inr hk))
       refine ⟨h0.1.then hC fun b hb=>?_,?_⟩
       ·rcases hblk b hb with ⟨u,_,qu,ig⟩ | ⟨h,_⟩
        ·exact (inv.fresh u qu b ig).1.elim .inr fun ⟨_,k,hk,Ig⟩=>absurd Ig (tM k ((getSet L i k hL.1 gu).2 (.inr hk)))
        ·exact absurd h wR
       ·show (if l.length=i then f else if l.length∈U.getD i [] then [] else g l.length)=H
        rw [if_neg (by omega),if_neg wR]
        exact h0.2
      ·intro b hb
       have cg:b∈(if l.length=i then f else if l.length∈U.getD i [] then [] else g l.length):=hb
       rw [if_neg (by omega)] at cg
       split at cg
       ·cases cg
       ·exact inv.vg b cg
      ·intro b hb hv
       have n7:b∈(if l.length=i then f else if l.length∈U.getD i [] then [] else g l.length):=hv
       rw [if_neg (by omega)] at n7
       split at n7
       ·cases n7
       ·rename_i VY
        have cg:b∈(if j=i then f else if j∈U.getD i [] then [] else g j):=hb
        split at cg
        ·rcases (tV b cg).1 with h | h
         ·rcases hblk b h with ⟨u,_,qu,ig⟩ | ⟨h,_⟩
          ·exact inv.vd u qu b ig n7
          ·exact VY h
         ·have h1:=hH b (inv.vg b n7)
          have h2:=inv.lp.size
          omega
        ·rename_i mj
         split at cg
         ·cases cg
         ·exact inv.vd j (((getSet L i j hL.1 gu).1 hj).resolve_left mj) b cg n7
      ·intro j hj yc
       refine ⟨fun d r4=>?_,fun VZ sj tC NL=>?_⟩
       rotate_left
       ·by_cases mj:j=i
        ·subst mj
         rw [hs] at tC
         cases tC
         rw [if_pos NL] at hV
         refine ⟨v,?_⟩
         simp only [if_pos]
         exact sX j s hs _ [] w' w' (cu a) _ v (aw.refl _ _) (fun _ _ h=>nomatch h) (fun _ h=>nomatch h) (fun j' je t ht=>uj j' (by have:=(sg j j' je).1; omega) (by have:=(sg j j' je).1; omega) t ht) hV
        ·have ou:=((getSet L i j hL.1 gu).1 hj).resolve_left mj
         have tN:j ∉ U.getD i []:=yc i ((getSet L i i hL.1 gu).2 (.inl rfl))
         obtain ⟨x,hx⟩:=(inv.done j ou (fun k hk=>yc k ((getSet L i k hL.1 gu).2 (.inr hk)))).2 VZ sj tC NL
         have gh:(fun j=>if j=i then f else if j∈U.getD i [] then [] else g j) j=g j:=by
          show (if j=i then f else if j∈U.getD i [] then [] else g j)=g j
          rw [if_neg mj,if_neg tN]
         rw [gh]
         refine ⟨x,sX j sj tC _ _ _ _ (cu a) _ _ hC (fun b cg Ii=>?_) NK (fun j' je t ht=>uj j' (by have:=(sg j j' je).1; have:=vE j ou; omega) (fun h=>?_) t ht) hx⟩
         ·rcases hblk b Ii with ⟨u,B4,qu,ig⟩ | ⟨_,ig⟩
          ·exact inv.xp j u ou qu (fun h=>tN (h ▸ B4)) b cg ig
          ·exact inv.vd j ou b cg ig
         ·subst h
          have:=j6 L hL j j' (fun o' bw e' u9=>hL.2 j o' bw ou e' u9) je
          rw [vG] at this; cases this
       by_cases mj:j=i
       ·subst mj
        rw [hs]
        simp only [if_pos]
        rw [zV] at r4
        rw [Ih v d r4]
        split
        ·rename_i hb
         rw [if_pos hb] at hV
         exact sX j s hs _ [] w' w' (cu a) _ v (aw.refl _ _) (fun _ _ h=>nomatch h) (fun _ h=>nomatch h) (fun j' je t ht=>uj j' (by have:=(sg j j' je).1; omega) (by have:=(sg j j' je).1; omega) t ht) hV
        ·rename_i hb
         rw [if_neg hb] at hV
         exact hV
       ·have ou:=((getSet L i j hL.1 gu).1 hj).resolve_left mj
        have B3:=vE j ou
        have tN:j ∉ U.getD i []:=yc i ((getSet L i i hL.1 gu).2 (.inl rfl))
        have yb:oi.dst≠some d:=by
         intro h
         apply mj
         refine db j i d ?_ ?_
         ·rw [mf B3]; exact r4
         ·rw [mf vF,zV]; exact h
        have:=(inv.done j ou (fun k hk=>yc k ((getSet L i k hL.1 gu).2 (.inr hk)))).1 d r4
        rw [oq v d yb]
        have gh:(fun j=>if j=i then f else if j∈U.getD i [] then [] else g j) j=g j:=by
         show (if j=i then f else if j∈U.getD i [] then [] else g j)=g j
         rw [if_neg mj,if_neg tN]
        rw [gh]
        cases tC:S[j]? with
        | none=>trivial
        | some sj=>
         rw [tC] at this
         simp only [] at this ⊢
         split
         ·rename_i hb
          rw [if_pos hb] at this
          refine sX j sj tC _ _ _ _ (cu a) _ _ hC (fun b cg Ii=>?_) NK (fun j' je t ht=>uj j' (by have:=(sg j j' je).1; omega) (fun h=>?_) t ht) this
          rotate_left
          ·subst h
           have:=j6 L hL j j' (fun o' bw e' u9=>hL.2 j o' bw ou e' u9) je
           rw [vG] at this; cases this
          rcases hblk b Ii with ⟨u,B4,qu,ig⟩ | ⟨_,ig⟩
          ·exact inv.xp j u ou qu (fun h=>tN (h ▸ B4)) b cg ig
          ·exact inv.vd j ou b cg ig
         ·rename_i hb
          rw [if_neg hb] at this
          exact this
      ·by_cases mj:j=i
       ·subst mj
        rw [hs] at tC
        cases tC
        rw [zV] at r4
        rw [Ih v d r4]
        split
        ·rename_i hb
         rw [if_pos hb] at hV
         exact ⟨f,w',sX j s hs _ [] w' w' (cu a) _ v (aw.refl _ _) (fun _ _ h=>nomatch h) (fun _ h=>nomatch h) (fun j' je t ht=>uj j' (by have:=(sg j j' je).1; omega) (by have:=(sg j j' je).1; omega) t ht) hV⟩
        ·rename_i hb
         rw [if_neg hb] at hV
         exact hV
       ·have ou:=((getSet L i j hL.1 gu).1 hj).resolve_left mj
        have B3:=vE j ou
        have yb:oi.dst≠some d:=by
         intro h
         apply mj
         refine db j i d ?_ ?_
         ·rw [mf B3]; exact r4
         ·rw [mf vF,zV]; exact h
        have:=inv.ur j ou d r4 sj tC
        rw [oq v d yb]
        split
        ·rename_i hb
         rw [if_pos hb] at this
         obtain ⟨f1,w1,h1⟩:=this
         refine ⟨f1,w1,sX j sj tC _ [] w1 w1 (cu a) _ _ (aw.refl _ _) (fun _ _ h=>nomatch h) (fun _ h=>nomatch h) (fun j' je t ht=>uj j' (by have:=(sg j j' je).1; omega) (fun h=>?_) t ht) h1⟩
         subst h
         have:=j6 L hL j j' (fun o' bw e' u9=>hL.2 j o' bw ou e' u9) je
         rw [vG] at this; cases this
        ·rename_i hb
         rw [if_neg hb] at this
         exact this
      ·intro t ht
       rw [oq v t (fun h=>ht i vF (by rw [zV]; exact h))]
       exact inv.other t ht
      ·intro j hj b hb
       by_cases mj:j=i
       ·simp only [if_pos mj] at hb
        have hh:=tV b hb
        have sS:=inv.lp.size
        rcases hh.1 with h | h
        ·rcases hblk b h with ⟨u,_,qu,ig⟩ | ⟨hv,ig⟩
         ·exact ⟨(inv.fresh u qu b ig).1.imp (fun h=>h) fun h=>⟨h.1,h.2.imp fun k hk=>⟨(getSet L i k hL.1 gu).2 (.inr hk.1),hk.2⟩⟩,hh.2⟩
         ·exact ⟨.inr ⟨inv.vg b ig,i,(getSet L i i hL.1 gu).2 (.inl rfl),hv⟩,hh.2⟩
        ·exact ⟨.inl (by omega),hh.2⟩
       ·have ou:=((getSet L i j hL.1 gu).1 hj).resolve_left mj
        simp only [if_neg mj] at hb
        split at hb
        ·cases hb
        ·have h1:=inv.fresh j ou b hb
         have h2:=hC.size
         exact ⟨h1.1.imp (fun h=>h) fun h=>⟨h.1,h.2.imp fun k hk=>⟨(getSet L i k hL.1 gu).2 (.inr hk.1),hk.2⟩⟩,by omega⟩
      ·have uN:∀ j',(L.setIfInBounds i true).getD j' false=true→j'≠i→∀ b∈f,b ∉ (if j'∈U.getD i [] then [] else g j'):=by
        intro j' je e2 b hb cg
        have Ij:=((getSet L i j' hL.1 gu).1 je).resolve_left e2
        split at cg
        ·cases cg
        ·rename_i tN
         rcases (tV b hb).1 with h | h
         ·rcases hblk b h with ⟨u,B4,qu,ig⟩ | ⟨_,ig⟩
          ·exact inv.xp u j' qu Ij (fun h=>tN (h ▸ B4)) b ig cg
          ·exact inv.vd j' Ij b cg ig
         ·have:=inv.fresh j' Ij b cg
          omega
       intro i' j' uW je o7 b hb cg
       by_cases e1:i'=i
       ·have e2:j'≠i:=fun h=>o7 (e1.trans h.symm)
        simp only [if_pos e1] at hb
        simp only [if_neg e2] at cg
        exact uN j' je e2 b hb cg
       ·simp only [if_neg e1] at hb
        by_cases e2:j'=i
        ·simp only [if_pos e2] at cg
         exact uN i' uW e1 b cg hb
        ·simp only [if_neg e2] at cg
         split at hb
         ·cases hb
         ·split at cg
          ·cases cg
          ·exact inv.xp i' j' (((getSet L i i' hL.1 gu).1 uW).resolve_left e1) (((getSet L i j' hL.1 gu).1 je).resolve_left e2) o7 b hb cg
     cases hb:s.b with
     | true=>
      rw [if_pos hb] at ow
      refine .inl ⟨ow.1,po ow.2 ?_⟩
      rintro v w' ⟨hC,f,tV,hV⟩
      exact step v w' f hC tV (by rw [if_pos hb]; exact hV)
     | false=>
      rw [if_neg (by rw [hb]; exact Bool.false_ne_true)] at ow
      exact .inr ⟨ow,step undef w [] (aw.refl _ _) (fun b h=>nomatch h) (by rw [if_neg (by rw [hb]; exact Bool.false_ne_true)])⟩
    by_cases Su:∃ z,z∈Z∧L.getD z false=false∧∀ o,l[z]? = some o→∀ e∈o.after.toList.filter (Region.binds .any),L.getD e.on false=true
    ·obtain ⟨z,hz,WB,hze⟩:=Su
     obtain ⟨⟨hzm,hzf⟩,N4⟩:=hZ z hz
     cases GC:l[z]? with
     | none=>rw [GC] at N4; cases N4
     | some oz=>
      rw [GC] at N4
      simp only [Bool.and_eq_true] at N4
      obtain ⟨hmv,Gz⟩:=N4
      have Qn:=hze oz GC
      have hfm:Region.free .any l.toArray L z=true:=N3 (fun j hj=>j6 L hL z j (fun o' bw=>hze o' bw) hj) hzf
      have hrz:z∈Region.ready .any l.toArray L:=El L z oz hL.1 GC WB Qn
      obtain ⟨dz,opz,tyz,pz,az,gz⟩:=oz
      cases opz <;> first | exact (Bool.false_ne_true hmv).elim | skip
      case move x=>
       cases gz with
       | some _=>simp at Gz
       | none=>
        have hev:∀ w',(execOp a.eval ⟨dz,.move x,tyz,pz,az,none⟩).run P w' = .ok (.value (a.eval x)) w':=fun _=>rfl
        refine wpAny_take (by simpa using GC) Sg hfm (by simpa using hrz) (fun c a w h=>absurd h.2.2 (hp _ _ _)) (v:=a.eval x) (.inl ⟨rfl,hev⟩) ?_
        rcases main z _ (Wz z hz) GC WB Qn with ⟨_,h⟩ | ⟨h,_⟩
        ·rw [tb]; exact h
        ·exact absurd h (by simp [Region.wanted])
      case extract x k=>
       cases gz with
       | some _=>simp at Gz
       | none=>
        rcases main z _ (Wz z hz) GC WB Qn with ⟨_,h⟩ | ⟨h,_⟩
        ·obtain ⟨v,hv,hk⟩:=JO h
         refine wpAny_take (by simpa using GC) Sg hfm (by simpa using hrz) (fun c a w h=>absurd h.2.2 (hp _ _ _)) (v:=v) (.inl ⟨rfl,fun w'=>by rw [tb]; exact hv w'⟩) ?_
         exact hk
        ·exact absurd h (by simp [Region.wanted])
    refine ⟨fun h=>(by obtain ⟨i,hi⟩:=LP; rw [h] at hi; cases hi),fun i hi=>?_⟩
    obtain ⟨q1,oi,pg,vH⟩:=Dd L i hi
    have gu:i < l.length:=(List.getElem?_eq_some_iff.1 pg).1
    have vG:L.getD i false=false:=getD_both q1
    have vF:i < m:=by
     rcases Nat.lt_or_ge i m with h | h
     ·exact h
     ·have bad:∀ j,j < i→L.getD j false=false→False:=by
       intro j
       induction j using Nat.strongRecOn with
       | _ j ih=>
        intro mj tN
        rcases Fu i h gu j mj with hj | hj
        ·have:=j6 L hL i j (fun o' bw=>by have:o'=oi:=Option.some.inj (bw.symm.trans pg); subst this; exact vH) hj
         rw [tN] at this; cases this
        ·refine Su ⟨j,hj,tN,fun o ho e he=>?_⟩
         cases hb:L.getD e.on false with
         | true=>rfl
         | false=>have bj:=xx j o ho e he; exact (ih e.on bj (by omega) hb).elim
      exact (bad j0 (by omega) zU).elim
    unfold wpOp
    rw [show (l.toArray)[i]? = some oi by simpa using pg]
    simp only []
    rw [AS (by rw [g1]; exact hd)]
    rcases main i oi vF pg vG vH with ⟨hw,h⟩ | ⟨hw,h⟩
    ·rw [if_pos hw]
     exact .inl (h.wp fun v w' hv=>hv)
    ·rw [if_neg (by rw [hw]; exact Bool.false_ne_true)]
     exact h
 refine head _ _ a _ (fun j=>if j=l.length then H else []) ⟨by simp,?_⟩ ?_ ?_ h1 h2 ⟨aw.nil (aw.drew _ _),fun _=>⟨aw.drew _ _,by simp⟩,fun b hb=>by simpa using hb,?_,?_,?_,?_,?_,?_⟩
 ·intro j o ho hj
  rw [getD_replicate_false] at hj; cases hj
 ·intro j hj
  rw [getD_replicate_false] at hj; cases hj
 ·simp
 ·intro j hj
  rw [getD_replicate_false] at hj; cases hj
 ·intro j hj
  rw [getD_replicate_false] at hj; cases hj
 ·intro j hj
  rw [getD_replicate_false] at hj; cases hj
 ·intro t _
  rw [h3]
 ·intro j hj
  rw [getD_replicate_false] at hj; cases hj
 ·intro i j hi
  rw [getD_replicate_false] at hi; cases hi
theorem iq.val {m i:Nat} {U:LL} {H:LN} {o:Oper} {v:Value} (ho:l[i]? = some o) (hs:S[i]? = some ⟨true,pl fun _ _ u=>u=v⟩) (hg:o.guard=none)
  (h:∀ (g:Nat→List Nat) (r:NV) (w:World),aw H w0 w→(∀ j∈(bx l).getD i [],Old l S j r)→(∀ j,ta l U m i j=true→vC l S j g r w)→(∀ t,(∀ j,j < m→bn l j≠some t)→r t=r0 t)→
   (execOp (ev r) o).run P w = .ok (.value v) w):iq P l m S U r0 w0 H i:=by
 intro o' s' bw cq g r w hC hV hO hd ir tU oq
 obtain rfl:o=o':=Option.some.inj (ho.symm.trans bw)
 obtain rfl:_=s':=Option.some.inj (hs.symm.trans cq)
 rw [if_pos rfl]
 refine ⟨by unfold Region.wanted; rw [hg],?_⟩
 unfold fv
 rw [h g r w hC hO hd ir]
 exact ⟨aw.refl _ _,[],(fun _ h=>nomatch h),rfl⟩
theorem iq.call {m i:Nat} {U:LL} {H:LN} {o:Oper} {v:Value} {f:FuncId} (ho:l[i]? = some o) (hs:S[i]? = some ⟨true,pl fun _ _ u=>u=v⟩) (hg:o.guard=none)
  (h:∀ (g:Nat→List Nat) (r:NV) (w:World),aw H w0 w→(∀ j∈(bx l).getD i [],Old l S j r)→(∀ j,ta l U m i j=true→vC l S j g r w)→(∀ t,(∀ j,j < m→bn l j≠some t)→r t=r0 t)→
   ∃ args,(execOp (ev r) o).run P w = .ok (.enter f args) w∧Calls P f args w fun e w'=>e = .returned v∧aw [] w w'):iq P l m S U r0 w0 H i:=by
 intro o' s' bw cq g r w hC hV hO hd ir tU oq
 obtain rfl:o=o':=Option.some.inj (ho.symm.trans bw)
 obtain rfl:_=s':=Option.some.inj (hs.symm.trans cq)
 rw [if_pos rfl]
 refine ⟨by unfold Region.wanted; rw [hg],?_⟩
 unfold fv
 obtain ⟨args,h1,h2⟩:=h g r w hC hO hd ir
 rw [h1]
 exact h2.mono fun e w' ⟨he,hc⟩=>⟨v,he,hc.nil,[],(fun _ h=>nomatch h),rfl⟩
theorem iq.mem {m i:Nat} {U:LL} {H:LN} {o:Oper} {V:List Nat→World→Value→Prop} (ho:l[i]? = some o) (hs:S[i]? = some ⟨true,pl V⟩) (hg:o.guard=none)
  (h:∀ (g:Nat→List Nat) (r:NV) (w:World),aw H w0 w→(∀ j∈(bx l).getD i [],Old l S j r)→(∀ j,ta l U m i j=true→vC l S j g r w)→(∀ t,(∀ j,j < m→bn l j≠some t)→r t=r0 t)→
   fv P o r w fun v w'=>aw [] w w'∧∃ f,(∀ b∈f,w.heap.size≤b∧b < w'.heap.size)∧V f w' v):iq P l m S U r0 w0 H i:=by
 intro o' s' bw cq g r w hC hV hO hd ir tU oq
 obtain rfl:o=o':=Option.some.inj (ho.symm.trans bw)
 obtain rfl:_=s':=Option.some.inj (hs.symm.trans cq)
 rw [if_pos rfl]
 refine ⟨by unfold Region.wanted; rw [hg],po (h g r w hC hO hd ir) ?_⟩
 rintro v w' ⟨hC,f,hf,hV⟩
 exact ⟨hC.nil,f,fun b hb=>⟨.inr (hf b hb).1,(hf b hb).2⟩,hV⟩
theorem iq.HH {m i:Nat} {U:LL} {H:LN} {o:Oper} {V:List Nat→World→(Nat→Value)→Value→Prop} (ho:l[i]? = some o) (hs:S[i]? = some ⟨true,V⟩) (hg:o.guard=none)
  (h:∀ (g:Nat→List Nat) (r:NV) (w:World),aw H w0 w→(∀ j∈(bx l).getD i [],Old l S j r)→(∀ j,ta l U m i j=true→vC l S j g r w)→(∀ t,(∀ j,j < m→bn l j≠some t)→r t=r0 t)→
   fv P o r w fun v w'=>aw [] w w'∧∃ f,(∀ b∈f,w.heap.size≤b∧b < w'.heap.size)∧V f w' r v):iq P l m S U r0 w0 H i:=by
 intro o' s' bw cq g r w hC hV hO hd ir tU oq
 obtain rfl:o=o':=Option.some.inj (ho.symm.trans bw)
 obtain rfl:_=s':=Option.some.inj (hs.symm.trans cq)
 rw [if_pos rfl]
 refine ⟨by unfold Region.wanted; rw [hg],po (h g r w hC hO hd ir) ?_⟩
 rintro v w' ⟨hC,f,hf,hV⟩
 exact ⟨hC.nil,f,fun b hb=>⟨.inr (hf b hb).1,(hf b hb).2⟩,hV⟩
def Fq {α:Type} (T:ah α) (x:α):List Nat→World→Value→Prop:=fun f w v=>T.rep w.heap [v] x f∧f.Nodup
def ab9 (cs:LV) (e:TI) (n:Nat):List Nat→World→Value→Prop:=fun f w v=>∃ b,f=[b]∧v = .slice (some ⟨b,0,none⟩) n n∧Row w b cs e
def HE (a:LN) (l:LO) (s:gw):Prop:=∀ f F (w w':World) (r r':NV) v,aw F w w'→(∀ b∈f,b ∉ F)→(∀ j∈a,∀ t,bn l j=some t→r' t=r t)→s.V f w r v→s.V f w' r' v
theorem N5 {a:LN} {b:Bool} {V:List Nat→World→Value→Prop} (h:∀ f F (w w':World) v,aw F w w'→(∀ b∈f,b ∉ F)→V f w v→V f w' v):HE a l ⟨b,pl V⟩:=
 fun f F w w' _ _ v hC hn _ hv=>h f F w w' v hC hn hv
theorem Lu {a:LN} {b:Bool} {u:Value}:HE a l ⟨b,pl fun _ _ v=>v=u⟩:=N5 fun _ _ _ _ _ _ _ h=>h
def Ls:Value→Nat→Value
 | .agg cs,i=>cs.getD i undef
 | _,_=>undef
def Lr:Value→Nat→Value
 | .tuple cs,i=>cs.getD i undef
 | _,_=>undef
theorem fv.own {α:Type} {T:ah α} {x:α} {o:Oper} {r:NV} {w:World} {f:FuncId} {args:Array Value} (h:(execOp (ev r) o).run P w = .ok (.enter f args) w)
  (hc:Calls P f args w fun e w'=>∃ (v:Value) (k:LN),e = .returned v∧aw [] w w'∧OE [] w.heap.size w' T [v] x k) :
  fv P o r w fun v w'=>aw [] w w'∧∃ f,(∀ b∈f,w.heap.size≤b∧b < w'.heap.size)∧Fq T x f w' v:=by
 unfold fv
 rw [h]
 exact hc.mono fun e w' ⟨v,k,he,hC,ho⟩=>⟨v,he,hC,k,fun b hb=>⟨ho.fresh b hb,T.lt ho.1 b hb⟩,ho.1,ho.2.1⟩
theorem fv.made {α:Type} {T:ah α} {x:α} {o:Oper} {r:NV} {w:World} (h:∃ v w' f,(execOp (ev r) o).run P w = .ok (.value v) w'∧aw [] w w'∧OE [] w.heap.size w' T [v] x f) :
  fv P o r w fun v w'=>aw [] w w'∧∃ f,(∀ b∈f,w.heap.size≤b∧b < w'.heap.size)∧Fq T x f w' v:=by
 obtain ⟨v,w',f,hr,hC,ho⟩:=h
 unfold fv
 rw [hr]
 exact ⟨hC,f,fun b hb=>⟨ho.fresh b hb,T.lt ho.1 b hb⟩,ho.1,ho.2.1⟩
theorem u7 {f g:LN} (h1:f.Nodup) (h2:g.Nodup) (d:tz f g):(f++g).Nodup:=List.nodup_append.2 ⟨h1,h2,fun a ha _ hb vX=>d a ha (vX ▸ hb)⟩
theorem fv.ui {α:Type} {E:ah α} {F f:LN} {t e et:TI} {s x:OO} {i:TypeInfo} {z:Value} {sv u:Value} {xs:List α} {y:α} {b:Nat} {r:NV} {w:World} {d:Option Nat} {ty:TI} {pos:String} {ag:Array Edge}
  (ht:P.underlying t=some (.slice e)) (hi:P.info? e=some i) (hz:i.zero=some z) (hs:i.size=1) (hE:E.size=1) (vW:z.oneCell'=true)
  (u3:ev r s=sv) (hO:Fq (aK e E) xs f w sv) (hF:∀ b∈f,b∈F) (hx:ev r x = .slice (some ⟨b,0,none⟩) 1 1) (bg:Row w b [u] et) (hy:E.rep w.heap [u] y [])
  (hb:(xs.length+1) * i.bytes≤140737488355328) (yU:xs.length+1≤maxLen) :
  fv P ⟨d,.call ⟨.builtin .append,#[s,x],#[t,t]⟩,ty,pos,ag,none⟩ r w fun v w'=>aw F w w'∧∃ f',(∀ b∈f',(b∈F∨w.heap.size≤b)∧b < w'.heap.size)∧Fq (aK e E) (xs++[y]) f' w' v:=by
 obtain ⟨v,w',f',h,hC,dq,cb,db⟩:=n9 (d:=d) (ty:=ty) (pos:=pos) (ag:=ag) (g:=none) (ys:=[y]) ht hi hz (by rw [hs,hE]) (by rw [cells_one vW,hE]; rfl) u3 hO.1 hO.2 hx bg.at (qf hy) (fun _ h=>nomatch h) (by simp) hb yU
 unfold fv
 rw [h]
 refine ⟨hC.mono hF,f',fun b hb=>⟨?_,ah.lt _ dq b hb⟩,dq,db List.nodup_nil⟩
 rcases cb b hb with h | h | h
 ·exact .inl (hF b h)
 ·cases h
 ·exact .inr h
theorem fv.Fk {t e:TI} {i:TypeInfo} {z u:Value} {x:OO} {r:NV} {w:World} {d:Option Nat} {ty:TI} {pos:String} {ag:Array Edge} (ht:P.underlying t=some (.slice e)) (hi:P.info? e=some i) (hz:i.zero=some z)
  (hs:i.size=1) (hx:ev r x=u) (hv:u.oneCell'=true) :
  fv P ⟨d,.buildSlice t 1 #[(0,x)],ty,pos,ag,none⟩ r w fun v w'=>aw [] w w'∧∃ f,(∀ b∈f,w.heap.size≤b∧b < w'.heap.size)∧ab9 [u] e 1 f w' v:=by
 unfold fv
 rw [KE ht hi hz hs (by rw [hx]; exact hv),hx]
 exact ⟨aw.alloc _ _ _,[w.heap.size],fun b hb=>by rw [List.mem_singleton.1 hb]; simp,w.heap.size,rfl,rfl,heap_alloc_new w _⟩
end
end Go.Li
