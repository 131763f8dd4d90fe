/- A region that draws its order, whatever it holds: its head in any order, its tail one behind the other. No condition. -/
import Derived.Test.YtkcpiblgpnjanaaGreatLf
import Derived.Still
namespace Go.Li
open Go
def l5 (acc:List (List Nat)) (o:Oper):List (List Nat):=
 acc++[(o.after.toList.filter (Region.binds .any)).flatMap fun e=>e.on :: acc.getD e.on []]
def cf (l:LO):List (List Nat):=l.foldl l5 []
structure gx where
 b:Bool
 V:List Nat→World→(Nat→Value)→Value→Prop
abbrev pl (V:List Nat→World→Value→Prop):List Nat→World→(Nat→Value)→Value→Prop:=fun f w _ v=>V f w v
def mf (P:Program) (n:Nat) (l:LO) (Q:Exit→(Nat→Value)→World→Prop) (r:Nat→Value) (w:World):Prop:=
 ∀ a:Act,a.tmps.size=n→a.defers=[]→cn a=r→wpAny P .any l.toArray (fun e a' w'=>a'.tmps.size=n∧a'.defers=[]∧Q e (cn a') w') l.toArray.size (Array.replicate l.toArray.size false) a { w with drawn:=w.drawn+1 }
theorem mf.W {P:Program} {n id:Nat} {l:LO} {Q:Exit→(Nat→Value)→World→Prop} {r:Nat→Value} {w:World} (hm:P.follows .mixedOrders=true) (h:mf P n l Q r w):W P n (.region id l.toArray true) Q r w:=
 fun a h1 h2 h3=>wp_region_any hm (h a h1 h2 h3)
def Cz (π:LN) (o:Oper):Oper:=⟨o.dst,o.op,o.type,o.pos,(o.after.toList.map fun e=>⟨π.getD e.on 0,e.ground⟩).toArray,o.guard⟩
def py (l:LO) (σ π:LN):List Oper:=σ.map fun k=>Cz π (l.getD k default)
def Ph (l:LO) (σ π:LN):Bool:=
 Nat.beq σ.length l.length && Nat.beq π.length l.length &&
 ((List.range l.length).all fun i=>Nat.blt (π.getD i 0) l.length && Nat.beq (σ.getD (π.getD i 0) 0) i && Nat.blt (σ.getD i 0) l.length && Nat.beq (π.getD (σ.getD i 0) 0) i) &&
 l.all fun o=>o.guard.isNone && o.after.toList.all fun e=>Nat.blt e.on l.length
theorem Ve {P:Program} {Q:Exit→Act→World→Prop} {π:LN} {o:Oper} {a:Act} {w:World} {K:Act→World→Prop}:(Cz π o).wp P a w K Q=o.wp P a w K Q:=by
 cases o; rfl
theorem PD {P:Program} {π:LN} {o:Oper} {a:Act} {w:World}:(Cz π o).asks P a w=o.asks P a w:=by
 cases o; rfl
section
variable {P:Program} {l:LO} {σ π:LN} (h:Ph l σ π=true)
include h
theorem DN:σ.length=l.length∧π.length=l.length∧(∀ i,i < l.length→π.getD i 0 < l.length∧σ.getD (π.getD i 0) 0=i∧σ.getD i 0 < l.length∧π.getD (σ.getD i 0) 0=i)∧∀ o∈l,o.guard=none∧∀ e∈o.after.toList,e.on < l.length:=by
 unfold Ph at h
 simp only [Bool.and_eq_true,List.all_eq_true,List.mem_range] at h
 obtain ⟨⟨⟨h1,h2⟩,h3⟩,h4⟩:=h
 refine ⟨Nat.eq_of_beq_eq_true h1,Nat.eq_of_beq_eq_true h2,fun i hi=>?_,fun o ho=>?_⟩
 ·obtain ⟨⟨⟨a,b⟩,c⟩,d⟩:=h3 i hi
  exact ⟨Nat.lt_of_succ_le (Nat.le_of_ble_eq_true a),Nat.eq_of_beq_eq_true b,Nat.lt_of_succ_le (Nat.le_of_ble_eq_true c),Nat.eq_of_beq_eq_true d⟩
 ·obtain ⟨a,b⟩:=h4 o ho
  exact ⟨by simpa using a,fun e he=>Nat.lt_of_succ_le (Nat.le_of_ble_eq_true (b e he))⟩
theorem Jz:(py l σ π).length=l.length:=by unfold py; rw [List.length_map]; exact (DN h).1
theorem JB {i:Nat} {o:Oper} (ho:l[i]? = some o):(py l σ π)[π.getD i 0]? = some (Cz π o):=by
 obtain ⟨h1,_,h3,_⟩:=DN h
 have hi:=(List.getElem?_eq_some_iff.1 ho).1
 obtain ⟨a,b,_,_⟩:=h3 i hi
 unfold py
 rw [List.getElem?_map,List.getElem?_eq_getElem (by omega)]
 have e:σ[π.getD i 0]'(by omega)=i:=by
  rw [List.getD_eq_getElem?_getD,List.getElem?_eq_getElem (by omega)] at b
  simpa using b
 simp only [Option.map_some,Option.some.injEq]
 rw [e,List.getD_eq_getElem?_getD,ho]; rfl
theorem M7 {Q:Exit→Act→World→Prop}:∀ (fuel:Nat) (L L':Array Bool) (a:Act) (w:World),L.size=l.length→L'.size=l.length→(∀ i,i < l.length→L'.getD (π.getD i 0) true=L.getD i true)→
  wpAny P .any (py l σ π).toArray Q fuel L' a w→wpAny P .any l.toArray Q fuel L a w:=by
 obtain ⟨h1,h2,h3,h4⟩:=DN h
 have gd:∀ {L:Array Bool} {i:Nat} (b:Bool),L.size=l.length→i < l.length→L.getD i b=L.getD i true:=fun {L i} b hs hi=>by
  have:i < L.size:=by omega
  simp [Array.getD,this]
 have mr:∀ (L L':Array Bool),L.size=l.length→L'.size=l.length→(∀ i,i < l.length→L'.getD (π.getD i 0) true=L.getD i true)→∀ i,i < l.length→(i∈Region.ready .any l.toArray L↔π.getD i 0∈Region.ready .any (py l σ π).toArray L'):=by
  intro L L' hs cu hL i hi
  rw [mem_ready,mem_ready,hL i hi]
  have ho:l[i]? = some (l[i]'hi):=List.getElem?_eq_getElem hi
  have bw:=JB h ho
  have hg:=h4 _ (List.mem_of_getElem? ho)
  constructor
  ·rintro ⟨g1,o,g2,g3⟩
   refine ⟨g1,Cz π l[i],by simpa using bw,fun e he hb=>?_⟩
   have eo:l[i]=o:=by simpa [ho] using g2
   simp only [Cz,List.mem_toArray,List.mem_map] at he
   obtain ⟨e0,YU,rfl⟩:=he
   have bg:=hg.2 e0 YU
   have:=g3 e0 (by rw [← eo]; simpa using YU) hb
   rw [gd false cu (h3 _ bg).1,hL _ bg,← gd false hs bg]; exact this
  ·rintro ⟨g1,o,g2,g3⟩
   refine ⟨g1,l[i],by simp,fun e he hb=>?_⟩
   have eo:Cz π l[i]=o:=by
    have:(py l σ π)[π.getD i 0]? = some o:=by simpa using g2
    rw [bw] at this
    exact Option.some.inj this
   have bg:=hg.2 e (by simpa using he)
   have:=g3 ⟨π.getD e.on 0,e.ground⟩ (by rw [← eo]; simp only [Cz,List.mem_toArray,List.mem_map]; exact ⟨e,by simpa using he,rfl⟩) hb
   rw [gd false cu (h3 _ bg).1,hL _ bg,← gd false hs bg] at this; exact this
 have back:∀ (L L':Array Bool),L.size=l.length→L'.size=l.length→(∀ i,i < l.length→L'.getD (π.getD i 0) true=L.getD i true)→Region.ready .any l.toArray L=[]→Region.ready .any (py l σ π).toArray L'=[]:=by
  intro L L' hs cu hL he
  rw [List.eq_nil_iff_forall_not_mem]
  intro k hk
  have Cp:k < l.length:=by
   obtain ⟨_,o,g2,_⟩:=mem_ready.1 hk
   have:(py l σ π)[k]? = some o:=by simpa using g2
   have:=(List.getElem?_eq_some_iff.1 this).1
   rwa [Jz h] at this
  obtain ⟨_,_,c,d⟩:=h3 k Cp
  have:=(mr L L' hs cu hL (σ.getD k 0) c).2 (by rw [d]; exact hk)
  rw [he] at this
  exact nomatch this
 intro fuel
 induction fuel with
 | zero=>
  intro L L' a w hs cu hL hh
  refine ⟨?_,hh.2⟩
  rw [List.eq_nil_iff_forall_not_mem]
  intro i hi
  have ta:i < l.length:=by
   obtain ⟨_,o,g2,_⟩:=mem_ready.1 hi
   have:l[i]? = some o:=by simpa using g2
   exact (List.getElem?_eq_some_iff.1 this).1
  have:=(mr L L' hs cu hL i ta).1 hi
  rw [hh.1] at this
  exact nomatch this
 | succ fuel ih=>
  intro L L' a w hs cu hL hh
  refine ⟨fun he=>hh.1 (back L L' hs cu hL he),fun i hi=>?_⟩
  have ta:i < l.length:=by
   obtain ⟨_,o,g2,_⟩:=mem_ready.1 hi
   have:l[i]? = some o:=by simpa using g2
   exact (List.getElem?_eq_some_iff.1 this).1
  have ho:l[i]? = some (l[i]'ta):=List.getElem?_eq_getElem ta
  have hg:=h4 _ (List.mem_of_getElem? ho)
  have M8:=hh.2 _ ((mr L L' hs cu hL i ta).1 hi)
  have next:∀ a w,wpAny P .any (py l σ π).toArray Q fuel (L'.setIfInBounds (π.getD i 0) true) a w→wpAny P .any l.toArray Q fuel (L.setIfInBounds i true) a w:=fun a w=>ih _ _ a w (by simpa using hs) (by simpa using cu) fun j hj=>by
   have hpj:=(h3 j hj).1
   have hpi:=(h3 i ta).1
   by_cases e:i=j
   ·subst e
    rw [Array.getD_eq_getD_getElem?,Array.getD_eq_getD_getElem?,Array.getElem?_setIfInBounds_self_of_lt (by omega),Array.getElem?_setIfInBounds_self_of_lt (by omega)]
   ·have e':π.getD i 0≠π.getD j 0:=fun q=>e (by rw [← (h3 i ta).2.1,q,(h3 j hj).2.1])
    have h5:=hL j hj
    have q1:(L'.setIfInBounds (π.getD i 0) true).getD (π.getD j 0) true=L'.getD (π.getD j 0) true:=by
     rw [Array.getD_eq_getD_getElem?,Array.getD_eq_getD_getElem?,Array.getElem?_setIfInBounds_ne e']
    have q2:(L.setIfInBounds i true).getD j true=L.getD j true:=by
     rw [Array.getD_eq_getD_getElem?,Array.getD_eq_getD_getElem?,Array.getElem?_setIfInBounds_ne e]
    rw [q1,q2,h5]
  have ga:(l.toArray)[i]? = some (l[i]'ta):=by simp
  have gb:((py l σ π).toArray)[π.getD i 0]? = some (Cz π (l[i]'ta)):=by simpa using JB h ho
  unfold wpOp at M8 ⊢
  rw [gb] at M8
  rw [ga]
  have w1:Region.wanted (l[i]'ta) (yielded l.toArray a.tmps)=true:=by unfold Region.wanted; rw [hg.1]
  have w2:Region.wanted (Cz π (l[i]'ta)) (yielded (py l σ π).toArray a.tmps)=true:=by unfold Region.wanted; show (match (l[i]'ta).guard with | none=>true | some (j,want)=>_)=true; rw [hg.1]
  simp only [w2,if_true] at M8
  simp only [w1,if_true]
  rw [Ve,PD] at M8
  exact M8.imp (fun g=>Oper.wp_mono next g) id
theorem mf.prm {n:Nat} {Q:Exit→(Nat→Value)→World→Prop} {r:Nat→Value} {w:World} (hw:mf P n (py l σ π) Q r w):mf P n l Q r w:=by
 have hl:=Jz h
 obtain ⟨_,_,h3,_⟩:=DN h
 intro a a1 a2 a3
 have:=hw a a1 a2 a3
 rw [show (py l σ π).toArray.size=l.toArray.size by simpa using hl] at this
 refine M7 h _ _ _ a _ (by simp) (by simp) (fun i hi=>?_) this
 have hq:=(h3 i hi).1
 rw [List.getD_eq_getElem?_getD] at hq
 simp [Array.getD,hi,hq]
end
section
variable {P:Program} {n:Nat} {Q:Exit→(Nat→Value)→World→Prop} {r0:Nat→Value} {w0:World} {l:LO} {S:List gx}
def bu (l:LO) (j:Nat):Option Nat:=(l[j]?).bind (·.dst)
def wW (l:LO) (S:List gx) (j:Nat) (g:Nat→List Nat) (r:Nat→Value) (w:World):Prop:=
 (∀ d,bu l j=some d→match S[j]? with
  | some s=>if s.b then s.V (g j) w r (r d) else r d=undef
  | none=>True)∧(bu l j=none→∀ s,S[j]? = some s→s.b=true→∃ x,s.V (g j) w r x)
def Old (l:LO) (S:List gx) (j:Nat) (r:Nat→Value):Prop:=∀ d,bu l j=some d→∀ s,S[j]? = some s→if s.b then ∃ f w,s.V f w r (r d) else r d=undef
structure zU (l:LO) (m:Nat) (S:List gx) (U:List (List Nat)) (r0:Nat→Value) (w0:World) (H:LN) (L:Nat→Prop) (g:Nat→List Nat) (r:Nat→Value) (w:World):Prop where
 iH:an H w0 w
 Bi:(∀ k,L k→l.length ∉ U.getD k [])→an [] w0 w∧g l.length=H
 vg:∀ b∈g l.length,b∈H
 vd:∀ j,L j→rZ (g j) (g l.length)
 done:∀ j,L j→(∀ k,L k→j ∉ U.getD k [])→wW l S j g r w
 s7:∀ j,L j→Old l S j r
 other:∀ t,(∀ j,j < m→bu l j≠some t)→r t=r0 t
 fresh:∀ j,L j→∀ b∈g j,(w0.heap.size≤b∨(b∈H∧∃ k,L k∧l.length∈U.getD k []))∧b < w.heap.size
 wi:∀ i j,L i→L j→i≠j→rZ (g i) (g j)
def uj (l:LO) (U:List (List Nat)) (m i j:Nat):Bool:=
 ((cf l).getD i []).contains j && (List.range m).all fun k=>!((U.getD k []).contains j) || Nat.beq k i || ((cf l).getD k []).contains i
def j9 (g:Nat→List Nat) (us:LN):List Nat:=us.flatMap g
def zO (l:LO) (U:List (List Nat)) (m i:Nat):Bool:=(List.range m).all fun k=>!((U.getD k []).contains l.length) || Nat.beq k i || ((cf l).getD k []).contains i
def jj (P:Program) (l:LO) (m:Nat) (S:List gx) (U:List (List Nat)) (r0:Nat→Value) (w0:World) (H:LN) (i:Nat):Prop:=
 ∀ o s,l[i]? = some o→S[i]? = some s→∀ (g:Nat→List Nat) (r:Nat→Value) (w:World),an H w0 w→(zO l U m i=true→an [] w0 w∧g l.length=H∧∀ j∈(cf l).getD i [],∀ b∈g j,w0.heap.size≤b)→(∀ j∈(cf l).getD i [],Old l S j r)→(∀ j,uj l U m i j=true→wW l S j g r w)→(∀ t,(∀ j,j < m→bu l j≠some t)→r t=r0 t)→
  (∀ i'∈(cf l).getD i [],∀ j'∈(cf l).getD i [],i'≠j'→rZ (g i') (g j'))→(∀ j∈(cf l).getD i [],∀ b∈g j,(w0.heap.size≤b∨b∈H)∧b < w.heap.size)→
  if s.b then Region.wanted o (yl l r)=true∧ez P o r w fun v w'=>an (j9 g (U.getD i [])) w w'∧∃ f,(∀ b∈f,(b∈j9 g (U.getD i [])∨w.heap.size≤b)∧b < w'.heap.size)∧s.V f w' r v
  else Region.wanted o (yl l r)=false
def Bc:List Nat→Bool
 | []=>true
 | x :: l=>!(l.contains x) && Bc l
theorem yD:∀ {l:LN},Bc l=true→l.Nodup
 | [],_=>List.nodup_nil
 | x :: l,h=>by
  simp only [Bc,Bool.and_eq_true,Bool.not_eq_true',List.contains_eq_mem,decide_eq_false_iff_not] at h
  exact List.nodup_cons.2 ⟨h.1,yD h.2⟩
def zR (l:LO) (m:Nat) (Z:LN):Bool:=
 ((List.range l.length).all fun i=>((l.getD i default).after.toList.filter (Region.binds .any)).all fun e=>Nat.blt e.on i) &&
 ((List.range l.length).all fun i=>Nat.blt i m || (List.range i).all fun j=>((cf l).getD i []).contains j || Z.contains j) &&
 Bc ((l.take m).filterMap (·.dst))
def Vf (o:Oper):Bool:=match o.op with | .move _=>true | .extract _ _=>true | _=>false
def PE (l:LO) (i:Nat):Array Bool:=((List.range l.length).map fun j=>((cf l).getD i []).contains j).toArray
def G0 (l:LO) (m:Nat) (Z:LN):Bool:=
 Region.noSelect l.toArray && Z.all fun i=>Nat.blt i m && Region.free .any l.toArray (PE l i) i &&
  match l[i]? with
  | some o=>Vf o && o.guard.isNone
  | none=>false
theorem M9 {l:LO} {L:Array Bool} {i:Nat} (hL:∀ j∈(cf l).getD i [],L.getD j false=true) (h:Region.free .any l.toArray (PE l i) i=true):Region.free .any l.toArray L i=true:=by
 unfold Region.free at h ⊢
 cases ho:(l.toArray)[i]? with
 | none=>rw [ho] at h; cases h
 | some oi=>
  rw [ho] at h
  simp only [List.all_eq_true,List.mem_range,Bool.or_eq_true] at h ⊢
  intro j hj
  rcases h j hj with (h1 | h1) | h1
  ·exact .inl (.inl h1)
  ·have bg:j < l.length:=by simpa using hj
   have hm:j∈(cf l).getD i []:=by
    unfold PE at h1
    have:((List.range l.length).map fun j=>((cf l).getD i []).contains j)[j]? = some (((cf l).getD i []).contains j):=by
     rw [List.getElem?_map,List.getElem?_range bg]; rfl
    rw [Array.getD_eq_getD_getElem?,List.getElem?_toArray,this] at h1
    simpa using h1
   refine .inl (.inr ?_)
   have h2:=hL j hm
   rcases Nat.lt_or_ge j L.size with h' | h'
   ·simp [h'] at h2 ⊢; exact h2
   ·simp [Array.getElem?_eq_none h'] at h2
  ·exact .inr h1
theorem IK {P:Program} {d:Option Nat} {x:OO} {k:Nat} {ty:TI} {pos:String} {ab:Array Edge} {g:Option (Nat×Bool)} {r:Nat→Value} {w:World} {K:Value→World→Prop} (h:ez P ⟨d,.extract x k,ty,pos,ab,g⟩ r w K) :
  ∃ v,(∀ w',(execOp (ev r) ⟨d,.extract x k,ty,pos,ab,g⟩).run P w' = .ok (.value v) w')∧K v w:=by
 have e:execOp (ev r) ⟨d,.extract x k,ty,pos,ab,g⟩ = (Instr.extract (ev r x) k>>=fun v=>pure (.value v)):=rfl
 unfold ez at h
 rw [e] at h ⊢
 generalize ev r x=u at h ⊢
 cases u
 case tuple vs=>
  cases hv:vs[k]? with
  | none=>simp [Instr.extract,hv,stuck,Result.andThen,Sem.run] at h
  | some v=>
   refine ⟨v,fun w'=>?_,?_⟩
   ·simp [Instr.extract,hv]
   ·simpa [Instr.extract,hv] using h
 all_goals simp [Instr.extract,stuck,Result.andThen,Sem.run] at h
theorem zZ (l:LO):∀ (i:Nat) (o:Oper),l[i]? = some o→(cf l)[i]? = some ((o.after.toList.filter (Region.binds .any)).flatMap fun e=>e.on :: ((cf l).take i).getD e.on []):=by
 have key:∀ (l:LO) (acc:List (List Nat)),(l.foldl l5 acc).length=acc.length+l.length∧(∀ j,j < acc.length→(l.foldl l5 acc)[j]? = acc[j]?)∧
   ∀ i o,l[i]? = some o→(l.foldl l5 acc)[acc.length+i]? = some ((o.after.toList.filter (Region.binds .any)).flatMap fun e=>e.on :: ((l.foldl l5 acc).take (acc.length+i)).getD e.on []):=by
  intro l
  induction l with
  | nil=>intro acc; exact ⟨rfl,fun _ _=>rfl,fun i o h=>by simp at h⟩
  | cons x l ih=>
   intro acc
   obtain ⟨h1,h2,h3⟩:=ih (l5 acc x)
   have hl:(l5 acc x).length=acc.length+1:=by simp [l5]
   have hold:∀ j,j < acc.length→(l5 acc x)[j]? = acc[j]?:=fun j hj=>by simp only [l5]; rw [List.getElem?_append_left hj]
   refine ⟨by simp only [List.foldl_cons,h1,hl,List.length_cons]; omega,fun j hj=>?_,?_⟩
   ·rw [List.foldl_cons,h2 j (by omega),hold j hj]
   ·intro i o hi
    cases i with
    | zero=>
     simp at hi
     subst hi
     have XP:(List.foldl l5 acc (x :: l)).take (acc.length+0)=acc:=by
      apply List.ext_getElem?
      intro j
      rw [Nat.add_zero,List.getElem?_take]
      split
      ·rename_i hj
       rw [List.foldl_cons,h2 j (by omega),hold j hj]
      ·rename_i hj
       rw [List.getElem?_eq_none (by omega)]
     rw [XP]
     rw [Nat.add_zero,List.foldl_cons,h2 _ (by omega)]
     simp only [l5]
     rw [List.getElem?_append_right (Nat.le_refl _)]
     simp
    | succ i=>
     have:=h3 i o (by simpa using hi)
     rw [hl] at this
     rw [List.foldl_cons]
     rw [show acc.length+(i+1)=acc.length+1+i by omega]
     exact this
 intro i o hi
 have:=(key l []).2.2 i o hi
 simpa [cf] using this
theorem Bd (l:LO) (hb:∀ (i:Nat) (o:Oper),l[i]? = some o→∀ e∈o.after.toList.filter (Region.binds .any),e.on < i) :
  ∀ (i j:Nat),j∈(cf l).getD i []→j < i∧∃ o,l[i]? = some o∧∃ e∈o.after.toList.filter (Region.binds .any),j=e.on∨j∈(cf l).getD e.on []:=by
 intro i j hj
 cases ho:l[i]? with
 | none=>
  have hlen:(cf l).length=l.length:=by
   have:∀ (l:LO) (acc:List (List Nat)),(l.foldl l5 acc).length=acc.length+l.length:=by
    intro l
    induction l with
    | nil=>intro acc; rfl
    | cons x l ih=>intro acc; rw [List.foldl_cons,ih]; simp [l5]; omega
   simpa [cf] using this l []
  rw [List.getD_eq_getElem?_getD,List.getElem?_eq_none (by rw [hlen]; exact List.getElem?_eq_none_iff.1 ho)] at hj
  simp at hj
 | some o=>
  have h:=zZ l i o ho
  rw [List.getD_eq_getElem?_getD,h] at hj
  simp only [Option.getD_some,List.mem_flatMap,List.mem_cons] at hj
  obtain ⟨e,he,hj⟩:=hj
  have bg:=hb i o ho e he
  have Vg:((cf l).take i).getD e.on []=(cf l).getD e.on []:=by
   rw [List.getD_eq_getElem?_getD,List.getD_eq_getElem?_getD,List.getElem?_take,if_pos bg]
  rw [Vg] at hj
  refine ⟨?_,o,rfl,e,he,hj⟩
  rcases hj with rfl | hj
  ·exact bg
  ·-- by the strong law below
   have:∀ (k i:Nat),i≤k→∀ j∈(cf l).getD i [],j < i:=by
    intro k
    induction k with
    | zero=>
     intro i hi j hj
     obtain rfl:i=0:=by omega
     cases ho:l[0]? with
     | none=>
      obtain rfl:l=[]:=by cases l with | nil=>rfl | cons=>simp at ho
      simp [cf] at hj
     | some o=>
      have h:=zZ l 0 o ho
      rw [List.getD_eq_getElem?_getD,h] at hj
      simp only [Option.getD_some,List.mem_flatMap] at hj
      obtain ⟨e,he,_⟩:=hj
      exact absurd (hb 0 o ho e he) (Nat.not_lt_zero _)
    | succ k ih=>
     intro i hi j hj
     cases ho:l[i]? with
     | none=>
      have hlen:(cf l).length=l.length:=by
       have:∀ (l:LO) (acc:List (List Nat)),(l.foldl l5 acc).length=acc.length+l.length:=by
        intro l
        induction l with
        | nil=>intro acc; rfl
        | cons x l ih=>intro acc; rw [List.foldl_cons,ih]; simp [l5]; omega
       simpa [cf] using this l []
      rw [List.getD_eq_getElem?_getD,List.getElem?_eq_none (by rw [hlen]; exact List.getElem?_eq_none_iff.1 ho)] at hj
      simp at hj
     | some o=>
      have h:=zZ l i o ho
      rw [List.getD_eq_getElem?_getD,h] at hj
      simp only [Option.getD_some,List.mem_flatMap,List.mem_cons] at hj
      obtain ⟨e,he,hj⟩:=hj
      have bg:=hb i o ho e he
      rcases hj with rfl | hj
      ·exact bg
      ·have Vg:((cf l).take i).getD e.on []=(cf l).getD e.on []:=by
        rw [List.getD_eq_getElem?_getD,List.getD_eq_getElem?_getD,List.getElem?_take,if_pos bg]
       rw [Vg] at hj
       have:=ih e.on (by omega) j hj
       omega
   exact Nat.lt_trans (this e.on e.on (Nat.le_refl _) j hj) bg
theorem Dy (l:LO) (hb:∀ (i:Nat) (o:Oper),l[i]? = some o→∀ e∈o.after.toList.filter (Region.binds .any),e.on < i) {j k:Nat} (hj:j∈(cf l).getD k []):∀ {i:Nat},k∈(cf l).getD i []→j∈(cf l).getD i []:=by
 intro i
 induction i using Nat.strongRecOn with
 | _ i ih=>
  intro hk
  obtain ⟨_,o,ho,e,he,Vh⟩:=Bd l hb i k hk
  have bg:=hb i o ho e he
  have h2:j∈(cf l).getD e.on []:=Vh.elim (fun h=>h ▸ hj) (fun h=>ih e.on bg h)
  have h:=zZ l i o ho
  rw [List.getD_eq_getElem?_getD,h]
  simp only [Option.getD_some,List.mem_flatMap,List.mem_cons]
  refine ⟨e,he,.inr ?_⟩
  rw [List.getD_eq_getElem?_getD,List.getElem?_take,if_pos bg,← List.getD_eq_getElem?_getD]
  exact h2
theorem getD_both {Ht:Array Bool} {i:Nat} (h:Ht.getD i true=false):Ht.getD i false=false:=by
 rcases Nat.lt_or_ge i Ht.size with h' | h'
 ·simp [h'] at h ⊢; exact h
 ·simp [Array.getElem?_eq_none h'] at h
theorem getD_replicate_false (m j:Nat):(Array.replicate m false).getD j false=false:=by
 rcases Nat.lt_or_ge j m with h | h
 ·simp [h]
 ·simp [h]
theorem Fh:∀ (l:LO),(l.filterMap (·.dst)).Nodup→∀ i j d,bu l i=some d→bu l j=some d→i=j:=by
 intro l
 induction l with
 | nil=>intro _ i j d h; simp [bu] at h
 | cons o l ih=>
  intro hn i j d hi hj
  have Vi:∀ k,bu (o :: l) (k+1)=some d→d∈l.filterMap (·.dst):=by
   intro k hk
   simp only [bu,List.getElem?_cons_succ] at hk
   cases ho:l[k]? with
   | none=>rw [ho] at hk; cases hk
   | some x=>rw [ho] at hk; exact List.mem_filterMap.2 ⟨x,List.mem_of_getElem? ho,hk⟩
  have h0:∀ e,o.dst=some e→e ∉ l.filterMap (·.dst)∧(l.filterMap (·.dst)).Nodup:=by
   intro e he
   rw [List.filterMap_cons_some he] at hn
   exact List.nodup_cons.1 hn
  have nu:(l.filterMap (·.dst)).Nodup:=by
   cases hd:o.dst with
   | none=>rwa [List.filterMap_cons_none hd] at hn
   | some e=>exact (h0 e hd).2
  cases i with
  | zero=>
   cases j with
   | zero=>rfl
   | succ j=>exact absurd (Vi j hj) (h0 d (by simpa [bu] using hi)).1
  | succ i=>
   cases j with
   | zero=>exact absurd (Vi i hi) (h0 d (by simpa [bu] using hj)).1
   | succ j=>rw [ih nu i j d (by simpa [bu] using hi) (by simpa [bu] using hj)]
theorem kg {m j:Nat} (hj:j < m):bu (l.take m) j=bu l j:=by
 unfold bu
 rw [List.getElem?_take,if_pos hj]
theorem nn {o:Oper} {r:Nat→Value} {w:World} {K K':Value→World→Prop} (h:ez P o r w K) (hk:∀ v w',K v w'→K' v w'):ez P o r w K':=by
 unfold ez at h ⊢
 cases hr:(execOp (ev r) o).run P w with
 | ok x w'=>
  rw [hr] at h
  cases x with
  | value v=>exact hk _ _ h
  | skip=>exact hk _ _ h
  | enter f args=>exact h.mono fun e E4 ⟨v,he,hv⟩=>⟨v,he,hk _ _ hv⟩
  | _=>exact h
 | _=>rw [hr] at h; exact h.elim
theorem MD {m:Nat} {Z:LN} (h:zR l m Z=true):∀ (i:Nat) (o:Oper),l[i]? = some o→∀ e∈o.after.toList.filter (Region.binds .any),e.on < i:=by
 simp only [zR,Bool.and_eq_true,List.all_eq_true,List.mem_range] at h
 intro i o ho e he
 have hi:i < l.length:=(List.getElem?_eq_some_iff.1 ho).1
 have:=h.1.1 i hi e (by rw [List.getD_eq_getElem?_getD,ho]; exact he)
 exact Nat.lt_of_succ_le (Nat.le_of_ble_eq_true this)
theorem Us {m:Nat} {U:List (List Nat)} {Z H:LN} {N:Nat→Prop} (hd:db n l=true) (hA:zR l m Z=true) (hZ:G0 l m Z=true) (hp:∀ c r w,Q (.panic c) r w→False) (G4:m≤l.length)
  (hS:S.length=m)
  (hH:∀ b∈H,b < w0.heap.size) (hU:((List.range m).all fun i=>(U.getD i []).all fun u=>Nat.beq u l.length || ((cf l).getD i []).contains u)=true)
  (hN:∀ b,N b→b < w0.heap.size∧b ∉ H)
  (ra:∀ (i:Nat) (s:gx),S[i]? = some s→∀ f F (w w':World) (r r':Nat→Value) v,an F w w'→(∀ b∈f,b ∉ F)→(∀ b∈F,¬ N b)→(∀ j∈(cf l).getD i [],∀ t,bu l j=some t→r' t=r t)→s.V f w r v→s.V f w' r' v)
  (Po:∀ i,i < m→jj P l m S U r0 w0 H i)
  (next:∀ g r w,zU l m S U r0 w0 H (fun j=>j < m) g r w→WL P l (l.drop m) r w (Q .normal)) :
  mf P n l Q r0 w0:=by
 simp only [zR,Bool.and_eq_true,List.all_eq_true,List.mem_range,Bool.or_eq_true] at hA
 obtain ⟨⟨UE,UF⟩,UG⟩:=hA
 have wx:∀ (i:Nat) (o:Oper),l[i]? = some o→∀ e∈o.after.toList.filter (Region.binds .any),e.on < i:=by
  intro i o ho e he
  have hi:i < l.length:=(List.getElem?_eq_some_iff.1 ho).1
  have:=UE i hi e (by rw [List.getD_eq_getElem?_getD,ho]; exact he)
  exact Nat.lt_of_succ_le (Nat.le_of_ble_eq_true this)
 have EA:∀ i,m≤i→i < l.length→∀ j,j < i→j∈(cf l).getD i []∨j∈Z:=by
  intro i h1 h2 j hj
  rcases UF i h2 with h | h
  ·exact absurd (Nat.lt_of_succ_le (Nat.le_of_ble_eq_true h)) (Nat.not_lt.2 h1)
  ·have:=h j hj
   simpa using this
 simp only [G0,Bool.and_eq_true,List.all_eq_true] at hZ
 obtain ⟨Rp,hZ⟩:=hZ
 have Vj:∀ z∈Z,z < m:=fun z hz=>Nat.lt_of_succ_le (Nat.le_of_ble_eq_true (hZ z hz).1.1)
 have UH:∀ i,i < m→∀ u∈U.getD i [],u=l.length∨u∈(cf l).getD i []:=by
  intro i hi u hu
  simp only [List.all_eq_true,List.mem_range] at hU
  have:=hU i hi u hu
  simpa using this
 have cg:=Fh _ (yD UG)
 have qo:=Bd l wx
 intro a h1 h2 h3
 let Cl (L:Array Bool):Prop:=L.size=l.length∧∀ j o,l[j]? = some o→L.getD j false=true→∀ e∈o.after.toList.filter (Region.binds .any),L.getD e.on false=true
 have jg:∀ L,Cl L→∀ i j,(∀ o,l[i]? = some o→∀ e∈o.after.toList.filter (Region.binds .any),L.getD e.on false=true)→j∈(cf l).getD i []→L.getD j false=true:=by
  intro L hL i
  induction i using Nat.strongRecOn with
  | _ i ih=>
   intro j hi hj
   obtain ⟨_,o,ho,e,he,G8⟩:=qo i j hj
   have hl:=hi o ho e he
   rcases G8 with rfl | G8
   ·exact hl
   ·exact ih e.on (wx i o ho e he) j (fun o' bw e' tO=>hL.2 _ _ bw hl e' tO) G8
 have mr:∀ L i,i∈Region.ready .any l.toArray L→L.getD i true=false∧∃ o,l[i]? = some o∧∀ e∈o.after.toList.filter (Region.binds .any),L.getD e.on false=true:=by
  intro L i hi
  obtain ⟨g1,o,ho,eh⟩:=mem_ready.1 hi
  refine ⟨g1,o,by simpa using ho,fun e he=>?_⟩
  have:=List.mem_filter.1 he
  exact eh e (by simpa using this.1) this.2
 have DB:∀ L i o,L.size=l.length→l[i]? = some o→L.getD i false=false→(∀ e∈o.after.toList.filter (Region.binds .any),L.getD e.on false=true)→i∈Region.ready .any l.toArray L:=by
  intro L i o hs ho hu eh
  refine mem_ready.2 ⟨?_,o,by simpa using ho,fun e he hb=>eh e (List.mem_filter.2 ⟨by simpa using he,hb⟩)⟩
  have hi:i < L.size:=by rw [hs]; exact (List.getElem?_eq_some_iff.1 ho).1
  simp [hi] at hu ⊢; exact hu
 have Ga:∀ L i o,Cl L→l[i]? = some o→(∀ e∈o.after.toList.filter (Region.binds .any),L.getD e.on false=true)→Cl (L.setIfInBounds i true):=by
  intro L i o hL ho eh
  refine ⟨by rw [Array.size_setIfInBounds]; exact hL.1,fun j o' bw hj e he=>?_⟩
  by_cases sC:i=j
  ·subst sC
   have:o'=o:=Option.some.inj (bw.symm.trans ho)
   subst this
   exact getD_set_true (eh e he)
  ·rw [getD_set_ne false sC] at hj
   exact getD_set_true (hL.2 j o' bw hj e he)
 have getSet:∀ (L:Array Bool) i j,L.size=l.length→i < l.length→((L.setIfInBounds i true).getD j false=true↔j=i∨L.getD j false=true):=by
  intro L i j hs hi
  by_cases sC:i=j
  ·subst sC
   simp [hs,hi]
  ·rw [getD_set_ne false sC]
   constructor
   ·exact .inr
   ·rintro (h | h)
    ·exact absurd h.symm sC
    ·exact h
 have G9:∀ (L:Array Bool) i,L.size=l.length→i < l.length→L.getD i false=false→(L.setIfInBounds i true).toList.count false+1=L.toList.count false:=by
  intro L i hs hi hu
  have tG:i < L.toList.length:=by simpa [hs] using hi
  have Cs:L.toList[i]=false:=by
   rw [Array.getElem_toList]
   simp [hs,hi] at hu
   exact hu
  rw [Array.toList_setIfInBounds,List.count_set tG,Cs]
  have:0 < L.toList.count false:=List.count_pos_iff.2 (by rw [← Cs]; exact List.getElem_mem tG)
  rw [if_pos (by rfl),if_neg (by decide)]
  omega
 have tail:∀ (d k fuel:Nat) (L:Array Bool) (a:Act) (w:World),l.length - k=d→m≤k→k≤l.length→Cl L→(∀ j,L.getD j false=true↔j < k)→L.toList.count false≤fuel→a.tmps.size=n→a.defers=[]→
   WL P l (l.drop k) (cn a) w (Q .normal)→wpAny P .any l.toArray (fun e a' w'=>a'.tmps.size=n∧a'.defers=[]∧Q e (cn a') w') fuel L a w:=by
  intro d
  induction d with
  | zero=>
   intro k fuel L a w hk hmk Cp hL ij hf g1 g2 hW
   obtain rfl:k=l.length:=by omega
   rw [List.drop_length] at hW
   have sc:Region.ready .any l.toArray L=[]:=by
    apply List.eq_nil_iff_forall_not_mem.2
    intro i hi
    obtain ⟨q1,o,ho,_⟩:=mr L i hi
    have bg:i < l.length:=(List.getElem?_eq_some_iff.1 ho).1
    have:=(ij i).2 bg
    simp [hL.1,bg] at q1 this
    rw [q1] at this; cases this
   cases fuel with
   | zero=>exact ⟨sc,g1,g2,hW⟩
   | succ fuel=>exact ⟨fun _=>⟨g1,g2,hW⟩,fun i hi=>by rw [sc] at hi; cases hi⟩
  | succ d ih=>
   intro k fuel L a w hk hmk Cp hL ij hf g1 g2 hW
   have KU:k < l.length:=by omega
   obtain ⟨o,ho⟩ : ∃ o,l[k]? = some o:=⟨l[k],List.getElem?_eq_getElem KU⟩
   have Vk:L.getD k false=false:=by
    cases hb:L.getD k false with
    | false=>rfl
    | true=>exact absurd ((ij k).1 hb) (Nat.lt_irrefl _)
   have oq:k∈Region.ready .any l.toArray L:=DB L k o hL.1 ho Vk fun e he=>(ij _).2 (wx k o ho e he)
   have XQ:l.drop k=o :: l.drop (k+1):=by rw [List.drop_eq_getElem_cons KU]; congr 1; exact Option.some.inj ((List.getElem?_eq_getElem KU).symm.trans ho)
   rw [XQ] at hW
   have hc:=G9 L k hL.1 KU Vk
   cases fuel with
   | zero=>omega
   | succ fuel=>
    refine ⟨fun h=>(by rw [h] at oq; cases oq),fun i hi=>?_⟩
    obtain ⟨q1,oi,ni,eh⟩:=mr L i hi
    have fi:i < l.length:=(List.getElem?_eq_some_iff.1 ni).1
    have uw:L.getD i false=false:=getD_both q1
    have hik:i=k:=by
     rcases Nat.lt_trichotomy i k with h | h | h
     ·have:=(ij i).2 h; rw [uw] at this; cases this
     ·exact h
     ·have:=jg L hL i k (fun o' bw=>by have:o'=oi:=Option.some.inj (bw.symm.trans ni); subst this; exact eh) ((EA i (by omega) fi k h).resolve_right fun hz=>absurd (Vj k hz) (by omega))
      rw [Vk] at this; cases this
    subst hik
    have MO:oi=o:=Option.some.inj (ni.symm.trans ho)
    subst MO
    have Fj:∀ k',oi.dst=some k'→k' < a.tmps.size:=by
     intro k' wR
     have uP:oi∈l:=List.mem_of_getElem? ni
     simp only [db,List.all_eq_true] at hd
     have:=hd oi uP
     rw [wR] at this
     rw [g1]
     exact Nat.lt_of_succ_le (Nat.le_of_ble_eq_true this)
    have Cu:=Ga L i oi hL ni eh
    have yC:∀ j,(L.setIfInBounds i true).getD j false=true↔j < i+1:=by
     intro j
     rw [getSet L i j hL.1 fi,ij j]
     omega
    unfold wpOp
    rw [show (l.toArray)[i]? = some oi by simpa using ni]
    simp only []
    rw [zV (by rw [g1]; exact hd)]
    rcases hW with ⟨hw,hW⟩ | ⟨hw,hW⟩
    ·rw [if_pos hw]
     exact .inl (hW.wp fun v w' hv=>ih (i+1) fuel _ _ _ (by omega) (by omega) (by omega) Cu yC (by omega) (by rw [jq]; exact g1) (by rw [gq]; exact g2) (by rw [km Fj]; exact hv))
    ·rw [if_neg (by rw [hw]; exact Bool.false_ne_true)]
     exact ih (i+1) fuel _ _ _ (by omega) (by omega) (by omega) Cu yC (by omega) (by rw [jq]; exact g1) (by rw [gq]; exact g2) (by rw [km Fj]; exact hW)
 have head:∀ (fuel:Nat) (L:Array Bool) (a:Act) (w:World) (g:Nat→List Nat),Cl L→(∀ j,L.getD j false=true→j < m)→L.toList.count false≤fuel→a.tmps.size=n→a.defers=[]→
   zU l m S U r0 w0 H (fun j=>L.getD j false=true) g (cn a) w→wpAny P .any l.toArray (fun e a' w'=>a'.tmps.size=n∧a'.defers=[]∧Q e (cn a') w') fuel L a w:=by
  intro fuel
  induction fuel with
  | zero=>
   intro L a w g hL uq hf g1 g2 inv
   have eh:∀ j,j < l.length→L.getD j false=true:=by
    intro j hj
    cases hb:L.getD j false with
    | true=>rfl
    | false=>have:=G9 L j hL.1 hj hb; omega
   have ij:∀ j,L.getD j false=true↔j < m:=fun j=>⟨uq j,fun h=>eh j (by omega)⟩
   refine tail _ m 0 L a w rfl (Nat.le_refl _) G4 hL ij hf g1 g2 (next g _ _ ?_)
   exact ⟨inv.iH,fun hk=>inv.Bi fun k wZ=>hk k ((ij k).1 wZ),inv.vg,fun j hj=>inv.vd j ((ij j).2 hj),fun j hj hk=>inv.done j ((ij j).2 hj) (fun k wZ=>hk k ((ij k).1 wZ)),fun j hj=>inv.s7 j ((ij j).2 hj),inv.other,fun j hj b hb=>⟨(inv.fresh j ((ij j).2 hj) b hb).1.imp (fun h=>h) fun h=>⟨h.1,h.2.imp fun k hk=>⟨(ij k).1 hk.1,hk.2⟩⟩,(inv.fresh j ((ij j).2 hj) b hb).2⟩,fun i j hi hj=>inv.wi i j ((ij i).2 hi) ((ij j).2 hj)⟩
  | succ fuel ih=>
   intro L a w g hL uq hf g1 g2 inv
   by_cases eh:∀ j,j < m→L.getD j false=true
   ·have ij:∀ j,L.getD j false=true↔j < m:=fun j=>⟨uq j,eh j⟩
    refine tail _ m _ L a w rfl (Nat.le_refl _) G4 hL ij hf g1 g2 (next g _ _ ?_)
    exact ⟨inv.iH,fun hk=>inv.Bi fun k wZ=>hk k ((ij k).1 wZ),inv.vg,fun j hj=>inv.vd j ((ij j).2 hj),fun j hj hk=>inv.done j ((ij j).2 hj) (fun k wZ=>hk k ((ij k).1 wZ)),fun j hj=>inv.s7 j ((ij j).2 hj),inv.other,fun j hj b hb=>⟨(inv.fresh j ((ij j).2 hj) b hb).1.imp (fun h=>h) fun h=>⟨h.1,h.2.imp fun k hk=>⟨(ij k).1 hk.1,hk.2⟩⟩,(inv.fresh j ((ij j).2 hj) b hb).2⟩,fun i j hi hj=>inv.wi i j ((ij i).2 hi) ((ij j).2 hj)⟩
   ·obtain ⟨j0,Rq,Fi⟩ : ∃ j,j < m∧L.getD j false=false:=by
     apply Classical.byContradiction
     intro sc
     apply eh
     intro j hj
     cases hb:L.getD j false with
     | true=>rfl
     | false=>exact absurd ⟨j,hj,hb⟩ sc
    have KB:∃ i,i∈Region.ready .any l.toArray L:=by
     have:∀ k,(∃ j,j < k∧j < m∧L.getD j false=false)→∃ i,i∈Region.ready .any l.toArray L:=by
      intro k
      induction k with
      | zero=>rintro ⟨j,h,_⟩; omega
      | succ k Dm=>
       rintro ⟨j,MI,Bj,sd⟩
       by_cases u4:∃ j,j < k∧j < m∧L.getD j false=false
       ·exact Dm u4
       ·obtain rfl:j=k:=by
         apply Classical.byContradiction
         intro h
         exact u4 ⟨j,by omega,Bj,sd⟩
        have DC:j < l.length:=by omega
        refine ⟨j,DB L j l[j] hL.1 (List.getElem?_eq_getElem DC) sd fun e he=>?_⟩
        have bg:=wx j _ (List.getElem?_eq_getElem DC) e he
        cases hb:L.getD e.on false with
        | true=>rfl
        | false=>exact absurd ⟨e.on,bg,by omega,hb⟩ u4
     exact this (j0+1) ⟨j0,by omega,Rq,Fi⟩
    have main:∀ i oi,i < m→l[i]? = some oi→L.getD i false=false→(∀ e∈oi.after.toList.filter (Region.binds .any),L.getD e.on false=true)→
      (Region.wanted oi (yl l (cn a))=true∧ez P oi (cn a) w fun v w'=>wpAny P .any l.toArray (fun e a' w'=>a'.tmps.size=n∧a'.defers=[]∧Q e (cn a') w') fuel (L.setIfInBounds i true) (a.put oi.dst v) w')∨
      (Region.wanted oi (yl l (cn a))=false∧wpAny P .any l.toArray (fun e a' w'=>a'.tmps.size=n∧a'.defers=[]∧Q e (cn a') w') fuel (L.setIfInBounds i true) (a.put oi.dst undef) w):=by
     intro i oi ur ni uw ux
     have fi:i < l.length:=(List.getElem?_eq_some_iff.1 ni).1
     have mz:∀ o,l[i]? = some o→∀ e∈o.after.toList.filter (Region.binds .any),L.getD e.on false=true:=fun o' bw=>by
      have:o'=oi:=Option.some.inj (bw.symm.trans ni)
      subst this; exact ux
     obtain ⟨s,hs⟩ : ∃ s,S[i]? = some s:=⟨S[i]'(by omega),List.getElem?_eq_getElem (by omega)⟩
     have hc:=G9 L i hL.1 fi uw
     have Cu:=Ga L i oi hL ni ux
     have MJ:∀ j,(L.setIfInBounds i true).getD j false=true→j < m:=by
      intro j hj
      rcases (getSet L i j hL.1 fi).1 hj with rfl | hj
      ·exact ur
      ·exact uq j hj
     have DD:∀ k,L.getD k false=true→k≠i∧i ∉ (cf l).getD k []:=by
      intro k hk
      refine ⟨fun h=>(by rw [h,uw] at hk; cases hk),fun uP=>?_⟩
      have:=jg L hL k i (fun o' bw e' tO=>hL.2 k o' bw hk e' tO) uP
      rw [uw] at this; cases this
     have ow:=Po i ur oi s ni hs g (cn a) w inv.iH (fun hV=>by
       have sc:∀ k,L.getD k false=true→l.length ∉ U.getD k []:=fun k hk Ha=>by
        simp only [zO,List.all_eq_true,List.mem_range,Bool.or_eq_true,Bool.not_eq_true',List.contains_eq_mem,decide_eq_false_iff_not,decide_eq_true_eq] at hV
        rcases hV k (uq k hk) with (h | h) | h
        ·exact h Ha
        ·exact (DD k hk).1 (Nat.eq_of_beq_eq_true h)
        ·exact (DD k hk).2 h
       have h0:=inv.Bi sc
       exact ⟨h0.1,h0.2,fun j hj b hb=>(inv.fresh j (jg L hL i j mz hj) b hb).1.elim (fun h=>h) fun h=>absurd h.2.choose_spec.2 (sc _ h.2.choose_spec.1)⟩) (fun j hj=>inv.s7 j (jg L hL i j mz hj)) (fun j hj=>by
       simp only [uj,Bool.and_eq_true,List.all_eq_true,List.mem_range,Bool.or_eq_true,Bool.not_eq_true',List.contains_eq_mem,decide_eq_false_iff_not,decide_eq_true_eq] at hj
       refine inv.done j (jg L hL i j mz hj.1) fun k hk MI=>?_
       rcases hj.2 k (uq k hk) with (h | h) | h
       ·exact h MI
       ·exact (DD k hk).1 (Nat.eq_of_beq_eq_true h)
       ·exact (DD k hk).2 h) inv.other
      (fun i' tG j' ik=>inv.wi i' j' (jg L hL i i' mz tG) (jg L hL i j' mz ik))
      (fun j hj b hb=>⟨(inv.fresh j (jg L hL i j mz hj) b hb).1.imp (fun h=>h) (·.1),(inv.fresh j (jg L hL i j mz hj) b hb).2⟩)
     have hblk:∀ b∈j9 g (U.getD i []),(∃ u,u∈U.getD i []∧L.getD u false=true∧b∈g u)∨(l.length∈U.getD i []∧b∈g l.length):=by
      intro b hb
      obtain ⟨u,hu,fx⟩:=List.mem_flatMap.1 hb
      rcases UH i ur u hu with rfl | h
      ·exact .inr ⟨hu,fx⟩
      ·exact .inl ⟨u,hu,jg L hL i u mz h,fx⟩
     have Fj:∀ k',oi.dst=some k'→k' < a.tmps.size:=by
      intro k' wR
      have uP:oi∈l:=List.mem_of_getElem? ni
      simp only [db,List.all_eq_true] at hd
      have:=hd oi uP
      rw [wR] at this
      rw [g1]
      exact Nat.lt_of_succ_le (Nat.le_of_ble_eq_true this)
     have yW:bu l i=oi.dst:=by unfold bu; rw [ni]; rfl
     have my:∀ v t,(oi.dst≠some t)→cn (a.put oi.dst v) t=cn a t:=by
      intro v t ht
      rw [km Fj]
      cases w4:oi.dst with
      | none=>rfl
      | some d=>
       show (bif Nat.beq t d then v else cn a t)=cn a t
       cases hb:Nat.beq t d with
       | false=>rfl
       | true=>exact absurd (by rw [w4,Nat.eq_of_beq_eq_true hb]) ht
     have Hb:∀ v d,oi.dst=some d→cn (a.put oi.dst v) d=v:=by
      intro v d w4
      rw [km Fj,w4]
      show (bif Nat.beq d d then v else cn a d)=v
      rw [Nat.beq_refl]; rfl
     have step:∀ v w' f,an (j9 g (U.getD i [])) w w'→(∀ b∈f,(b∈j9 g (U.getD i [])∨w.heap.size≤b)∧b < w'.heap.size)→(if s.b then s.V f w' (cn a) v else v=undef)→
       wpAny P .any l.toArray (fun e a' w'=>a'.tmps.size=n∧a'.defers=[]∧Q e (cn a') w') fuel (L.setIfInBounds i true) (a.put oi.dst v) w':=by
      intro v w' f hC s8 hV
      have sM:∀ j',j' < m→j'≠i→∀ t,bu l j'=some t→cn (a.put oi.dst v) t=cn a t:=by
       intro j' ik kh t ht
       refine my v t fun h=>kh (cg j' i t ?_ ?_)
       ·rw [kg ik]; exact ht
       ·rw [kg ur,yW]; exact h
      have MK:∀ b∈j9 g (U.getD i []),¬ N b:=fun b hb hn=>by
       rcases hblk b hb with ⟨u,_,oy,fx⟩ | ⟨_,fx⟩
       ·rcases (inv.fresh u oy b fx).1 with h | h
        ·have:=(hN b hn).1; omega
        ·exact (hN b hn).2 h.1
       ·exact (hN b hn).2 (inv.vg b fx)
      refine ih _ _ _ (fun j=>if j=i then f else if j∈U.getD i [] then [] else g j) Cu MJ (by omega) (by rw [jq]; exact g1) (by rw [gq]; exact g2)
       ⟨inv.iH.then hC fun b hb=>(by
        rcases hblk b hb with ⟨u,_,oy,fx⟩ | ⟨_,fx⟩
        ·exact (inv.fresh u oy b fx).1.elim .inr fun h=>.inl h.1
        ·exact .inl (inv.vg b fx)),fun sc=>?_,?_,fun j hj=>?_,?_,fun j hj d uy sj r4=>?_,?_,?_,?_⟩
      ·have wX:l.length ∉ U.getD i []:=sc i ((getSet L i i hL.1 fi).2 (.inl rfl))
       have h0:=inv.Bi fun k hk=>sc k ((getSet L i k hL.1 fi).2 (.inr hk))
       refine ⟨h0.1.then hC fun b hb=>?_,?_⟩
       ·rcases hblk b hb with ⟨u,_,oy,fx⟩ | ⟨h,_⟩
        ·exact (inv.fresh u oy b fx).1.elim .inr fun ⟨_,k,hk,Ha⟩=>absurd Ha (sc k ((getSet L i k hL.1 fi).2 (.inr hk)))
        ·exact absurd h wX
       ·show (if l.length=i then f else if l.length∈U.getD i [] then [] else g l.length)=H
        rw [if_neg (by omega),if_neg wX]
        exact h0.2
      ·intro b hb
       have ch:b∈(if l.length=i then f else if l.length∈U.getD i [] then [] else g l.length):=hb
       rw [if_neg (by omega)] at ch
       split at ch
       ·cases ch
       ·exact inv.vg b ch
      ·intro b hb hv
       have mm:b∈(if l.length=i then f else if l.length∈U.getD i [] then [] else g l.length):=hv
       rw [if_neg (by omega)] at mm
       split at mm
       ·cases mm
       ·rename_i UJ
        have ch:b∈(if j=i then f else if j∈U.getD i [] then [] else g j):=hb
        split at ch
        ·rcases (s8 b ch).1 with h | h
         ·rcases hblk b h with ⟨u,_,oy,fx⟩ | ⟨h,_⟩
          ·exact inv.vd u oy b fx mm
          ·exact UJ h
         ·have h1:=hH b (inv.vg b mm)
          have h2:=inv.iH.size
          omega
        ·rename_i kp
         split at ch
         ·cases ch
         ·exact inv.vd j (((getSet L i j hL.1 fi).1 hj).resolve_left kp) b ch mm
      ·intro j hj yX
       refine ⟨fun d uy=>?_,fun UK sj r4 ML=>?_⟩
       rotate_left
       ·by_cases kp:j=i
        ·subst kp
         rw [hs] at r4
         cases r4
         rw [if_pos ML] at hV
         refine ⟨v,?_⟩
         simp only [if_pos]
         exact ra j s hs _ [] w' w' (cn a) _ v (an.refl _ _) (fun _ _ h=>nomatch h) (fun _ h=>nomatch h) (fun j' ik t ht=>sM j' (by have:=(qo j j' ik).1; omega) (by have:=(qo j j' ik).1; omega) t ht) hV
        ·have na:=((getSet L i j hL.1 fi).1 hj).resolve_left kp
         have sd:j ∉ U.getD i []:=yX i ((getSet L i i hL.1 fi).2 (.inl rfl))
         obtain ⟨x,hx⟩:=(inv.done j na (fun k hk=>yX k ((getSet L i k hL.1 fi).2 (.inr hk)))).2 UK sj r4 ML
         have fc:(fun j=>if j=i then f else if j∈U.getD i [] then [] else g j) j=g j:=by
          show (if j=i then f else if j∈U.getD i [] then [] else g j)=g j
          rw [if_neg kp,if_neg sd]
         rw [fc]
         refine ⟨x,ra j sj r4 _ _ _ _ (cn a) _ _ hC (fun b ch Hc=>?_) MK (fun j' ik t ht=>sM j' (by have:=(qo j j' ik).1; have:=uq j na; omega) (fun h=>?_) t ht) hx⟩
         ·rcases hblk b Hc with ⟨u,Bo,oy,fx⟩ | ⟨_,fx⟩
          ·exact inv.wi j u na oy (fun h=>sd (h ▸ Bo)) b ch fx
          ·exact inv.vd j na b ch fx
         ·subst h
          have:=jg L hL j j' (fun o' bw e' tO=>hL.2 j o' bw na e' tO) ik
          rw [uw] at this; cases this
       by_cases kp:j=i
       ·subst kp
        rw [hs]
        simp only [if_pos]
        rw [yW] at uy
        rw [Hb v d uy]
        split
        ·rename_i hb
         rw [if_pos hb] at hV
         exact ra j s hs _ [] w' w' (cn a) _ v (an.refl _ _) (fun _ _ h=>nomatch h) (fun _ h=>nomatch h) (fun j' ik t ht=>sM j' (by have:=(qo j j' ik).1; omega) (by have:=(qo j j' ik).1; omega) t ht) hV
        ·rename_i hb
         rw [if_neg hb] at hV
         exact hV
       ·have na:=((getSet L i j hL.1 fi).1 hj).resolve_left kp
        have Bj:=uq j na
        have sd:j ∉ U.getD i []:=yX i ((getSet L i i hL.1 fi).2 (.inl rfl))
        have w4:oi.dst≠some d:=by
         intro h
         apply kp
         refine cg j i d ?_ ?_
         ·rw [kg Bj]; exact uy
         ·rw [kg ur,yW]; exact h
        have:=(inv.done j na (fun k hk=>yX k ((getSet L i k hL.1 fi).2 (.inr hk)))).1 d uy
        rw [my v d w4]
        have fc:(fun j=>if j=i then f else if j∈U.getD i [] then [] else g j) j=g j:=by
         show (if j=i then f else if j∈U.getD i [] then [] else g j)=g j
         rw [if_neg kp,if_neg sd]
        rw [fc]
        cases r4:S[j]? with
        | none=>trivial
        | some sj=>
         rw [r4] at this
         simp only [] at this ⊢
         split
         ·rename_i hb
          rw [if_pos hb] at this
          refine ra j sj r4 _ _ _ _ (cn a) _ _ hC (fun b ch Hc=>?_) MK (fun j' ik t ht=>sM j' (by have:=(qo j j' ik).1; omega) (fun h=>?_) t ht) this
          rotate_left
          ·subst h
           have:=jg L hL j j' (fun o' bw e' tO=>hL.2 j o' bw na e' tO) ik
           rw [uw] at this; cases this
          rcases hblk b Hc with ⟨u,Bo,oy,fx⟩ | ⟨_,fx⟩
          ·exact inv.wi j u na oy (fun h=>sd (h ▸ Bo)) b ch fx
          ·exact inv.vd j na b ch fx
         ·rename_i hb
          rw [if_neg hb] at this
          exact this
      ·by_cases kp:j=i
       ·subst kp
        rw [hs] at r4
        cases r4
        rw [yW] at uy
        rw [Hb v d uy]
        split
        ·rename_i hb
         rw [if_pos hb] at hV
         exact ⟨f,w',ra j s hs _ [] w' w' (cn a) _ v (an.refl _ _) (fun _ _ h=>nomatch h) (fun _ h=>nomatch h) (fun j' ik t ht=>sM j' (by have:=(qo j j' ik).1; omega) (by have:=(qo j j' ik).1; omega) t ht) hV⟩
        ·rename_i hb
         rw [if_neg hb] at hV
         exact hV
       ·have na:=((getSet L i j hL.1 fi).1 hj).resolve_left kp
        have Bj:=uq j na
        have w4:oi.dst≠some d:=by
         intro h
         apply kp
         refine cg j i d ?_ ?_
         ·rw [kg Bj]; exact uy
         ·rw [kg ur,yW]; exact h
        have:=inv.s7 j na d uy sj r4
        rw [my v d w4]
        split
        ·rename_i hb
         rw [if_pos hb] at this
         obtain ⟨f1,w1,h1⟩:=this
         refine ⟨f1,w1,ra j sj r4 _ [] w1 w1 (cn a) _ _ (an.refl _ _) (fun _ _ h=>nomatch h) (fun _ h=>nomatch h) (fun j' ik t ht=>sM j' (by have:=(qo j j' ik).1; omega) (fun h=>?_) t ht) h1⟩
         subst h
         have:=jg L hL j j' (fun o' bw e' tO=>hL.2 j o' bw na e' tO) ik
         rw [uw] at this; cases this
        ·rename_i hb
         rw [if_neg hb] at this
         exact this
      ·intro t ht
       rw [my v t (fun h=>ht i ur (by rw [yW]; exact h))]
       exact inv.other t ht
      ·intro j hj b hb
       by_cases kp:j=i
       ·simp only [if_pos kp] at hb
        have hh:=s8 b hb
        have q9:=inv.iH.size
        rcases hh.1 with h | h
        ·rcases hblk b h with ⟨u,_,oy,fx⟩ | ⟨hv,fx⟩
         ·exact ⟨(inv.fresh u oy b fx).1.imp (fun h=>h) fun h=>⟨h.1,h.2.imp fun k hk=>⟨(getSet L i k hL.1 fi).2 (.inr hk.1),hk.2⟩⟩,hh.2⟩
         ·exact ⟨.inr ⟨inv.vg b fx,i,(getSet L i i hL.1 fi).2 (.inl rfl),hv⟩,hh.2⟩
        ·exact ⟨.inl (by omega),hh.2⟩
       ·have na:=((getSet L i j hL.1 fi).1 hj).resolve_left kp
        simp only [if_neg kp] at hb
        split at hb
        ·cases hb
        ·have h1:=inv.fresh j na b hb
         have h2:=hC.size
         exact ⟨h1.1.imp (fun h=>h) fun h=>⟨h.1,h.2.imp fun k hk=>⟨(getSet L i k hL.1 fi).2 (.inr hk.1),hk.2⟩⟩,by omega⟩
      ·have th:∀ j',(L.setIfInBounds i true).getD j' false=true→j'≠i→∀ b∈f,b ∉ (if j'∈U.getD i [] then [] else g j'):=by
        intro j' ik e2 b hb ch
        have He:=((getSet L i j' hL.1 fi).1 ik).resolve_left e2
        split at ch
        ·cases ch
        ·rename_i sd
         rcases (s8 b hb).1 with h | h
         ·rcases hblk b h with ⟨u,Bo,oy,fx⟩ | ⟨_,fx⟩
          ·exact inv.wi u j' oy He (fun h=>sd (h ▸ Bo)) b fx ch
          ·exact inv.vd j' He b ch fx
         ·have:=inv.fresh j' He b ch
          omega
       intro i' j' tG ik kh b hb ch
       by_cases e1:i'=i
       ·have e2:j'≠i:=fun h=>kh (e1.trans h.symm)
        simp only [if_pos e1] at hb
        simp only [if_neg e2] at ch
        exact th j' ik e2 b hb ch
       ·simp only [if_neg e1] at hb
        by_cases e2:j'=i
        ·simp only [if_pos e2] at ch
         exact th i' tG e1 b ch hb
        ·simp only [if_neg e2] at ch
         split at hb
         ·cases hb
         ·split at ch
          ·cases ch
          ·exact inv.wi i' j' (((getSet L i i' hL.1 fi).1 tG).resolve_left e1) (((getSet L i j' hL.1 fi).1 ik).resolve_left e2) kh b hb ch
     cases hb:s.b with
     | true=>
      rw [if_pos hb] at ow
      refine .inl ⟨ow.1,nn ow.2 ?_⟩
      rintro v w' ⟨hC,f,s8,hV⟩
      exact step v w' f hC s8 (by rw [if_pos hb]; exact hV)
     | false=>
      rw [if_neg (by rw [hb]; exact Bool.false_ne_true)] at ow
      exact .inr ⟨ow,step undef w [] (an.refl _ _) (fun b h=>nomatch h) (by rw [if_neg (by rw [hb]; exact Bool.false_ne_true)])⟩
    by_cases RE:∃ z,z∈Z∧L.getD z false=false∧∀ o,l[z]? = some o→∀ e∈o.after.toList.filter (Region.binds .any),L.getD e.on false=true
    ·obtain ⟨z,hz,Vl,YV⟩:=RE
     obtain ⟨⟨hzm,hzf⟩,Na⟩:=hZ z hz
     cases FC:l[z]? with
     | none=>rw [FC] at Na; cases Na
     | some oz=>
      rw [FC] at Na
      simp only [Bool.and_eq_true] at Na
      obtain ⟨hmv,Cy⟩:=Na
      have PF:=YV oz FC
      have YW:Region.free .any l.toArray L z=true:=M9 (fun j hj=>jg L hL z j (fun o' bw=>YV o' bw) hj) hzf
      have YX:z∈Region.ready .any l.toArray L:=DB L z oz hL.1 FC Vl PF
      obtain ⟨dz,opz,tyz,pz,az,gz⟩:=oz
      cases opz <;> first | exact (Bool.false_ne_true hmv).elim | skip
      case move x=>
       cases gz with
       | some _=>simp at Cy
       | none=>
        have hev:∀ w',(execOp a.eval ⟨dz,.move x,tyz,pz,az,none⟩).run P w' = .ok (.value (a.eval x)) w':=fun _=>rfl
        refine wpAny_take (by simpa using FC) Rp YW (by simpa using YX) (fun c a w h=>absurd h.2.2 (hp _ _ _)) (v:=a.eval x) (.inl ⟨rfl,hev⟩) ?_
        rcases main z _ (Vj z hz) FC Vl PF with ⟨_,h⟩ | ⟨h,_⟩
        ·rw [rQ]; exact h
        ·exact absurd h (by simp [Region.wanted])
      case extract x k=>
       cases gz with
       | some _=>simp at Cy
       | none=>
        rcases main z _ (Vj z hz) FC Vl PF with ⟨_,h⟩ | ⟨h,_⟩
        ·obtain ⟨v,hv,hk⟩:=IK h
         refine wpAny_take (by simpa using FC) Rp YW (by simpa using YX) (fun c a w h=>absurd h.2.2 (hp _ _ _)) (v:=v) (.inl ⟨rfl,fun w'=>by rw [rQ]; exact hv w'⟩) ?_
         exact hk
        ·exact absurd h (by simp [Region.wanted])
    refine ⟨fun h=>(by obtain ⟨i,hi⟩:=KB; rw [h] at hi; cases hi),fun i hi=>?_⟩
    obtain ⟨q1,oi,ni,ux⟩:=mr L i hi
    have fi:i < l.length:=(List.getElem?_eq_some_iff.1 ni).1
    have uw:L.getD i false=false:=getD_both q1
    have ur:i < m:=by
     rcases Nat.lt_or_ge i m with h | h
     ·exact h
     ·have bad:∀ j,j < i→L.getD j false=false→False:=by
       intro j
       induction j using Nat.strongRecOn with
       | _ j ih=>
        intro kp sd
        rcases EA i h fi j kp with hj | hj
        ·have:=jg L hL i j (fun o' bw=>by have:o'=oi:=Option.some.inj (bw.symm.trans ni); subst this; exact ux) hj
         rw [sd] at this; cases this
        ·refine RE ⟨j,hj,sd,fun o ho e he=>?_⟩
         cases hb:L.getD e.on false with
         | true=>rfl
         | false=>have bg:=wx j o ho e he; exact (ih e.on bg (by omega) hb).elim
      exact (bad j0 (by omega) Fi).elim
    unfold wpOp
    rw [show (l.toArray)[i]? = some oi by simpa using ni]
    simp only []
    rw [zV (by rw [g1]; exact hd)]
    rcases main i oi ur ni uw ux with ⟨hw,h⟩ | ⟨hw,h⟩
    ·rw [if_pos hw]
     exact .inl (h.wp fun v w' hv=>hv)
    ·rw [if_neg (by rw [hw]; exact Bool.false_ne_true)]
     exact h
 refine head _ _ a _ (fun j=>if j=l.length then H else []) ⟨by simp,?_⟩ ?_ ?_ h1 h2 ⟨an.nil (an.drew _ _),fun _=>⟨an.drew _ _,by simp⟩,fun b hb=>by simpa using hb,?_,?_,?_,?_,?_,?_⟩
 ·intro j o ho hj
  rw [getD_replicate_false] at hj; cases hj
 ·intro j hj
  rw [getD_replicate_false] at hj; cases hj
 ·simp
 ·intro j hj
  rw [getD_replicate_false] at hj; cases hj
 ·intro j hj
  rw [getD_replicate_false] at hj; cases hj
 ·intro j hj
  rw [getD_replicate_false] at hj; cases hj
 ·intro t _
  rw [h3]
 ·intro j hj
  rw [getD_replicate_false] at hj; cases hj
 ·intro i j hi
  rw [getD_replicate_false] at hi; cases hi
theorem jj.val {m i:Nat} {U:List (List Nat)} {H:LN} {o:Oper} {v:Value} (ho:l[i]? = some o) (hs:S[i]? = some ⟨true,pl fun _ _ u=>u=v⟩) (hg:o.guard=none)
  (h:∀ (g:Nat→List Nat) (r:Nat→Value) (w:World),an H w0 w→(∀ j∈(cf l).getD i [],Old l S j r)→(∀ j,uj l U m i j=true→wW l S j g r w)→(∀ t,(∀ j,j < m→bu l j≠some t)→r t=r0 t)→
   (execOp (ev r) o).run P w = .ok (.value v) w):jj P l m S U r0 w0 H i:=by
 intro o' s' bw cu g r w hC hV hO hd iT sx my
 obtain rfl:o=o':=Option.some.inj (ho.symm.trans bw)
 obtain rfl:_=s':=Option.some.inj (hs.symm.trans cu)
 rw [if_pos rfl]
 refine ⟨by unfold Region.wanted; rw [hg],?_⟩
 unfold ez
 rw [h g r w hC hO hd iT]
 exact ⟨an.refl _ _,[],(fun _ h=>nomatch h),rfl⟩
theorem jj.call {m i:Nat} {U:List (List Nat)} {H:LN} {o:Oper} {v:Value} {f:FuncId} (ho:l[i]? = some o) (hs:S[i]? = some ⟨true,pl fun _ _ u=>u=v⟩) (hg:o.guard=none)
  (h:∀ (g:Nat→List Nat) (r:Nat→Value) (w:World),an H w0 w→(∀ j∈(cf l).getD i [],Old l S j r)→(∀ j,uj l U m i j=true→wW l S j g r w)→(∀ t,(∀ j,j < m→bu l j≠some t)→r t=r0 t)→
   ∃ args,(execOp (ev r) o).run P w = .ok (.enter f args) w∧Calls P f args w fun e w'=>e = .returned v∧an [] w w'):jj P l m S U r0 w0 H i:=by
 intro o' s' bw cu g r w hC hV hO hd iT sx my
 obtain rfl:o=o':=Option.some.inj (ho.symm.trans bw)
 obtain rfl:_=s':=Option.some.inj (hs.symm.trans cu)
 rw [if_pos rfl]
 refine ⟨by unfold Region.wanted; rw [hg],?_⟩
 unfold ez
 obtain ⟨args,h1,h2⟩:=h g r w hC hO hd iT
 rw [h1]
 exact h2.mono fun e w' ⟨he,hc⟩=>⟨v,he,hc.nil,[],(fun _ h=>nomatch h),rfl⟩
theorem jj.mem {m i:Nat} {U:List (List Nat)} {H:LN} {o:Oper} {V:List Nat→World→Value→Prop} (ho:l[i]? = some o) (hs:S[i]? = some ⟨true,pl V⟩) (hg:o.guard=none)
  (h:∀ (g:Nat→List Nat) (r:Nat→Value) (w:World),an H w0 w→(∀ j∈(cf l).getD i [],Old l S j r)→(∀ j,uj l U m i j=true→wW l S j g r w)→(∀ t,(∀ j,j < m→bu l j≠some t)→r t=r0 t)→
   ez P o r w fun v w'=>an [] w w'∧∃ f,(∀ b∈f,w.heap.size≤b∧b < w'.heap.size)∧V f w' v):jj P l m S U r0 w0 H i:=by
 intro o' s' bw cu g r w hC hV hO hd iT sx my
 obtain rfl:o=o':=Option.some.inj (ho.symm.trans bw)
 obtain rfl:_=s':=Option.some.inj (hs.symm.trans cu)
 rw [if_pos rfl]
 refine ⟨by unfold Region.wanted; rw [hg],nn (h g r w hC hO hd iT) ?_⟩
 rintro v w' ⟨hC,f,hf,hV⟩
 exact ⟨hC.nil,f,fun b hb=>⟨.inr (hf b hb).1,(hf b hb).2⟩,hV⟩
theorem jj.O7 {m i:Nat} {U:List (List Nat)} {H:LN} {o:Oper} {V:List Nat→World→(Nat→Value)→Value→Prop} (ho:l[i]? = some o) (hs:S[i]? = some ⟨true,V⟩) (hg:o.guard=none)
  (h:∀ (g:Nat→List Nat) (r:Nat→Value) (w:World),an H w0 w→(∀ j∈(cf l).getD i [],Old l S j r)→(∀ j,uj l U m i j=true→wW l S j g r w)→(∀ t,(∀ j,j < m→bu l j≠some t)→r t=r0 t)→
   ez P o r w fun v w'=>an [] w w'∧∃ f,(∀ b∈f,w.heap.size≤b∧b < w'.heap.size)∧V f w' r v):jj P l m S U r0 w0 H i:=by
 intro o' s' bw cu g r w hC hV hO hd iT sx my
 obtain rfl:o=o':=Option.some.inj (ho.symm.trans bw)
 obtain rfl:_=s':=Option.some.inj (hs.symm.trans cu)
 rw [if_pos rfl]
 refine ⟨by unfold Region.wanted; rw [hg],nn (h g r w hC hO hd iT) ?_⟩
 rintro v w' ⟨hC,f,hf,hV⟩
 exact ⟨hC.nil,f,fun b hb=>⟨.inr (hf b hb).1,(hf b hb).2⟩,hV⟩
def Ey {α:Type} (T:ah α) (x:α):List Nat→World→Value→Prop:=fun f w v=>T.rep w.heap [v] x f∧f.Nodup
def aat (cs:LV) (e:TI) (n:Nat):List Nat→World→Value→Prop:=fun f w v=>∃ b,f=[b]∧v = .slice (some ⟨b,0,none⟩) n n∧Row w b cs e
def GH (a:LN) (l:LO) (s:gx):Prop:=∀ f F (w w':World) (r r':Nat→Value) v,an F w w'→(∀ b∈f,b ∉ F)→(∀ j∈a,∀ t,bu l j=some t→r' t=r t)→s.V f w r v→s.V f w' r' v
theorem Nb {a:LN} {b:Bool} {V:List Nat→World→Value→Prop} (h:∀ f F (w w':World) v,an F w w'→(∀ b∈f,b ∉ F)→V f w v→V f w' v):GH a l ⟨b,pl V⟩:=
 fun f F w w' _ _ v hC hn _ hv=>h f F w w' v hC hn hv
theorem Kl {a:LN} {b:Bool} {u:Value}:GH a l ⟨b,pl fun _ _ v=>v=u⟩:=Nb fun _ _ _ _ _ _ _ h=>h
def Kj:Value→Nat→Value
 | .agg cs,i=>cs.getD i undef
 | _,_=>undef
def Ki:Value→Nat→Value
 | .tuple cs,i=>cs.getD i undef
 | _,_=>undef
theorem ez.own {α:Type} {T:ah α} {x:α} {o:Oper} {r:Nat→Value} {w:World} {f:FuncId} {args:Array Value} (h:(execOp (ev r) o).run P w = .ok (.enter f args) w)
  (hc:Calls P f args w fun e w'=>∃ (v:Value) (k:LN),e = .returned v∧an [] w w'∧OE [] w.heap.size w' T [v] x k) :
  ez P o r w fun v w'=>an [] w w'∧∃ f,(∀ b∈f,w.heap.size≤b∧b < w'.heap.size)∧Ey T x f w' v:=by
 unfold ez
 rw [h]
 exact hc.mono fun e w' ⟨v,k,he,hC,ho⟩=>⟨v,he,hC,k,fun b hb=>⟨ho.fresh b hb,T.lt ho.1 b hb⟩,ho.1,ho.2.1⟩
theorem ez.made {α:Type} {T:ah α} {x:α} {o:Oper} {r:Nat→Value} {w:World} (h:∃ v w' f,(execOp (ev r) o).run P w = .ok (.value v) w'∧an [] w w'∧OE [] w.heap.size w' T [v] x f) :
  ez P o r w fun v w'=>an [] w w'∧∃ f,(∀ b∈f,w.heap.size≤b∧b < w'.heap.size)∧Ey T x f w' v:=by
 obtain ⟨v,w',f,hr,hC,ho⟩:=h
 unfold ez
 rw [hr]
 exact ⟨hC,f,fun b hb=>⟨ho.fresh b hb,T.lt ho.1 b hb⟩,ho.1,ho.2.1⟩
theorem tN {f g:LN} (h1:f.Nodup) (h2:g.Nodup) (d:rZ f g):(f++g).Nodup:=List.nodup_append.2 ⟨h1,h2,fun a ha _ hb uk=>d a ha (uk ▸ hb)⟩
theorem ez.sL {α:Type} {E:ah α} {F f:LN} {t e et:TI} {s x:OO} {i:TypeInfo} {z:Value} {sv u:Value} {xs:List α} {y:α} {b:Nat} {r:Nat→Value} {w:World} {d:Option Nat} {ty:TI} {pos:String} {ab:Array Edge}
  (ht:P.underlying t=some (.slice e)) (hi:P.info? e=some i) (hz:i.zero=some z) (hs:i.size=1) (hE:E.size=1) (yQ:z.oneCell'=true)
  (tL:ev r s=sv) (hO:Ey (aK e E) xs f w sv) (hF:∀ b∈f,b∈F) (hx:ev r x = .slice (some ⟨b,0,none⟩) 1 1) (bd:Row w b [u] et) (hy:E.rep w.heap [u] y [])
  (hb:(xs.length+1) * i.bytes≤140737488355328) (xP:xs.length+1≤maxLen) :
  ez P ⟨d,.call ⟨.builtin .append,#[s,x],#[t,t]⟩,ty,pos,ab,none⟩ r w fun v w'=>an F w w'∧∃ f',(∀ b∈f',(b∈F∨w.heap.size≤b)∧b < w'.heap.size)∧Ey (aK e E) (xs++[y]) f' w' v:=by
 obtain ⟨v,w',f',h,hC,dk,cb,cg⟩:=mw (d:=d) (ty:=ty) (pos:=pos) (ab:=ab) (g:=none) (ys:=[y]) ht hi hz (by rw [hs,hE]) (by rw [cells_one yQ,hE]; rfl) tL hO.1 hO.2 hx bd.at (oh hy) (fun _ h=>nomatch h) (by simp) hb xP
 unfold ez
 rw [h]
 refine ⟨hC.mono hF,f',fun b hb=>⟨?_,ah.lt _ dk b hb⟩,dk,cg List.nodup_nil⟩
 rcases cb b hb with h | h | h
 ·exact .inl (hF b h)
 ·cases h
 ·exact .inr h
theorem ez.Er {t e:TI} {i:TypeInfo} {z u:Value} {x:OO} {r:Nat→Value} {w:World} {d:Option Nat} {ty:TI} {pos:String} {ab:Array Edge} (ht:P.underlying t=some (.slice e)) (hi:P.info? e=some i) (hz:i.zero=some z)
  (hs:i.size=1) (hx:ev r x=u) (hv:u.oneCell'=true) :
  ez P ⟨d,.buildSlice t 1 #[(0,x)],ty,pos,ab,none⟩ r w fun v w'=>an [] w w'∧∃ f,(∀ b∈f,w.heap.size≤b∧b < w'.heap.size)∧aat [u] e 1 f w' v:=by
 unfold ez
 rw [Jx ht hi hz hs (by rw [hx]; exact hv),hx]
 exact ⟨an.alloc _ _ _,[w.heap.size],fun b hb=>by rw [List.mem_singleton.1 hb]; simp,w.heap.size,rfl,rfl,heap_alloc_new w _⟩
end
end Go.Li
