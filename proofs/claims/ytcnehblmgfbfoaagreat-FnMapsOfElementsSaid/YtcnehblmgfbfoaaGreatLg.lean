/- A region that draws its order, whatever it holds: its head in any order, its tail one behind the other. No condition. -/
import Derived.Test.YtcnehblmgfbfoaaGreatLf
import Derived.Still
namespace Go.Li
open Go
def mb (acc:LL) (o:Oper):List (List Nat):=
 acc++[(o.after.toList.filter (Region.binds .any)).flatMap fun e=>e.on :: acc.getD e.on []]
def cf (l:LO):List (List Nat):=l.foldl mb []
structure ig where
 b:Bool
 V:List Nat→World→(Nat→Value)→Value→Prop
abbrev pl (V:List Nat→World→Value→Prop):List Nat→World→(Nat→Value)→Value→Prop:=fun f w _ v=>V f w v
def py (P:Program) (n:Nat) (l:LO) (Q:Exit→(Nat→Value)→World→Prop) (r:NV) (w:World):Prop:=
 ∀ a:Act,a.tmps.size=n→a.defers=[]→cu a=r→wpAny P .any l.toArray (fun e a' w'=>a'.tmps.size=n∧a'.defers=[]∧Q e (cu a') w') l.toArray.size (Array.replicate l.toArray.size false) a { w with drawn:=w.drawn+1 }
theorem py.W {P:Program} {n id:Nat} {l:LO} {Q:Exit→(Nat→Value)→World→Prop} {r:NV} {w:World} (hm:P.follows .mixedOrders=true) (h:py P n l Q r w):W P n (.region id l.toArray true) Q r w:=
 fun a h1 h2 h3=>wp_region_any hm (h a h1 h2 h3)
def DE (π:LN) (o:Oper):Oper:=⟨o.dst,o.op,o.type,o.pos,(o.after.toList.map fun e=>⟨π.getD e.on 0,e.ground⟩).toArray,o.guard⟩
def p5 (l:LO) (σ π:LN):List Oper:=σ.map fun k=>DE π (l.getD k default)
def Qx (l:LO) (σ π:LN):Bool:=
 Nat.beq σ.length l.length && Nat.beq π.length l.length &&
 ((List.range l.length).all fun i=>Nat.blt (π.getD i 0) l.length && Nat.beq (σ.getD (π.getD i 0) 0) i && Nat.blt (σ.getD i 0) l.length && Nat.beq (π.getD (σ.getD i 0) 0) i) &&
 l.all fun o=>o.guard.isNone && o.after.toList.all fun e=>Nat.blt e.on l.length
theorem Xd {P:Program} {Q:Exit→Act→World→Prop} {π:LN} {o:Oper} {a:Act} {w:World} {K:Act→World→Prop}:(DE π o).wp P a w K Q=o.wp P a w K Q:=by
 cases o; rfl
theorem Rf {P:Program} {π:LN} {o:Oper} {a:Act} {w:World}:(DE π o).asks P a w=o.asks P a w:=by
 cases o; rfl
section
variable {P:Program} {l:LO} {σ π:LN} (h:Qx l σ π=true)
include h
theorem Fj:σ.length=l.length∧π.length=l.length∧(∀ i,i < l.length→π.getD i 0 < l.length∧σ.getD (π.getD i 0) 0=i∧σ.getD i 0 < l.length∧π.getD (σ.getD i 0) 0=i)∧∀ o∈l,o.guard=none∧∀ e∈o.after.toList,e.on < l.length:=by
 unfold Qx at h
 simp only [Bool.and_eq_true,List.all_eq_true,List.mem_range] at h
 obtain ⟨⟨⟨h1,h2⟩,h3⟩,h4⟩:=h
 refine ⟨Nat.eq_of_beq_eq_true h1,Nat.eq_of_beq_eq_true h2,fun i hi=>?_,fun o ho=>?_⟩
 ·obtain ⟨⟨⟨a,b⟩,c⟩,d⟩:=h3 i hi
  exact ⟨Nat.lt_of_succ_le (Nat.le_of_ble_eq_true a),Nat.eq_of_beq_eq_true b,Nat.lt_of_succ_le (Nat.le_of_ble_eq_true c),Nat.eq_of_beq_eq_true d⟩
 ·obtain ⟨a,b⟩:=h4 o ho
  exact ⟨by simpa using a,fun e he=>Nat.lt_of_succ_le (Nat.le_of_ble_eq_true (b e he))⟩
theorem K5:(p5 l σ π).length=l.length:=by unfold p5; rw [List.length_map]; exact (Fj h).1
theorem K6 {i:Nat} {o:Oper} (ho:l[i]? = some o):(p5 l σ π)[π.getD i 0]? = some (DE π o):=by
 obtain ⟨h1,_,h3,_⟩:=Fj h
 have hi:=(List.getElem?_eq_some_iff.1 ho).1
 obtain ⟨a,b,_,_⟩:=h3 i hi
 unfold p5
 rw [List.getElem?_map,List.getElem?_eq_getElem (by omega)]
 have e:σ[π.getD i 0]'(by omega)=i:=by
  rw [List.getD_eq_getElem?_getD,List.getElem?_eq_getElem (by omega)] at b
  simpa using b
 simp only [Option.map_some,Option.some.injEq]
 rw [e,List.getD_eq_getElem?_getD,ho]; rfl
theorem OV {Q:Exit→Act→World→Prop}:∀ (fuel:Nat) (L L':Array Bool) (a:Act) (w:World),L.size=l.length→L'.size=l.length→(∀ i,i < l.length→L'.getD (π.getD i 0) true=L.getD i true)→
  wpAny P .any (p5 l σ π).toArray Q fuel L' a w→wpAny P .any l.toArray Q fuel L a w:=by
 obtain ⟨h1,h2,h3,h4⟩:=Fj h
 have gd:∀ {L:Array Bool} {i:Nat} (b:Bool),L.size=l.length→i < l.length→L.getD i b=L.getD i true:=fun {L i} b hs hi=>by
  have:i < L.size:=by omega
  simp [Array.getD,this]
 have Dv:∀ (L L':Array Bool),L.size=l.length→L'.size=l.length→(∀ i,i < l.length→L'.getD (π.getD i 0) true=L.getD i true)→∀ i,i < l.length→(i∈Region.ready .any l.toArray L↔π.getD i 0∈Region.ready .any (p5 l σ π).toArray L'):=by
  intro L L' hs b9 hL i hi
  rw [mem_ready,mem_ready,hL i hi]
  have ho:l[i]? = some (l[i]'hi):=List.getElem?_eq_getElem hi
  have bm:=K6 h ho
  have hg:=h4 _ (List.mem_of_getElem? ho)
  constructor
  ·rintro ⟨g1,o,g2,g3⟩
   refine ⟨g1,DE π l[i],by simpa using bm,fun e he hb=>?_⟩
   have eo:l[i]=o:=by simpa [ho] using g2
   simp only [DE,List.mem_toArray,List.mem_map] at he
   obtain ⟨e0,he0,rfl⟩:=he
   have bb:=hg.2 e0 he0
   have:=g3 e0 (by rw [← eo]; simpa using he0) hb
   rw [gd false b9 (h3 _ bb).1,hL _ bb,← gd false hs bb]; exact this
  ·rintro ⟨g1,o,g2,g3⟩
   refine ⟨g1,l[i],by simp,fun e he hb=>?_⟩
   have eo:DE π l[i]=o:=by
    have:(p5 l σ π)[π.getD i 0]? = some o:=by simpa using g2
    rw [bm] at this
    exact Option.some.inj this
   have bb:=hg.2 e (by simpa using he)
   have:=g3 ⟨π.getD e.on 0,e.ground⟩ (by rw [← eo]; simp only [DE,List.mem_toArray,List.mem_map]; exact ⟨e,by simpa using he,rfl⟩) hb
   rw [gd false b9 (h3 _ bb).1,hL _ bb,← gd false hs bb] at this; exact this
 have back:∀ (L L':Array Bool),L.size=l.length→L'.size=l.length→(∀ i,i < l.length→L'.getD (π.getD i 0) true=L.getD i true)→Region.ready .any l.toArray L=[]→Region.ready .any (p5 l σ π).toArray L'=[]:=by
  intro L L' hs b9 hL he
  rw [List.eq_nil_iff_forall_not_mem]
  intro k hk
  have Dr:k < l.length:=by
   obtain ⟨_,o,g2,_⟩:=mem_ready.1 hk
   have:(p5 l σ π)[k]? = some o:=by simpa using g2
   have:=(List.getElem?_eq_some_iff.1 this).1
   rwa [K5 h] at this
  obtain ⟨_,_,c,d⟩:=h3 k Dr
  have:=(Dv L L' hs b9 hL (σ.getD k 0) c).2 (by rw [d]; exact hk)
  rw [he] at this
  exact nomatch this
 intro fuel
 induction fuel with
 | zero=>
  intro L L' a w hs b9 hL hh
  refine ⟨?_,hh.2⟩
  rw [List.eq_nil_iff_forall_not_mem]
  intro i hi
  have sW:i < l.length:=by
   obtain ⟨_,o,g2,_⟩:=mem_ready.1 hi
   have:l[i]? = some o:=by simpa using g2
   exact (List.getElem?_eq_some_iff.1 this).1
  have:=(Dv L L' hs b9 hL i sW).1 hi
  rw [hh.1] at this
  exact nomatch this
 | succ fuel ih=>
  intro L L' a w hs b9 hL hh
  refine ⟨fun he=>hh.1 (back L L' hs b9 hL he),fun i hi=>?_⟩
  have sW:i < l.length:=by
   obtain ⟨_,o,g2,_⟩:=mem_ready.1 hi
   have:l[i]? = some o:=by simpa using g2
   exact (List.getElem?_eq_some_iff.1 this).1
  have ho:l[i]? = some (l[i]'sW):=List.getElem?_eq_getElem sW
  have hg:=h4 _ (List.mem_of_getElem? ho)
  have OX:=hh.2 _ ((Dv L L' hs b9 hL i sW).1 hi)
  have next:∀ a w,wpAny P .any (p5 l σ π).toArray Q fuel (L'.setIfInBounds (π.getD i 0) true) a w→wpAny P .any l.toArray Q fuel (L.setIfInBounds i true) a w:=fun a w=>ih _ _ a w (by simpa using hs) (by simpa using b9) fun j hj=>by
   have hpj:=(h3 j hj).1
   have hpi:=(h3 i sW).1
   by_cases e:i=j
   ·subst e
    rw [Array.getD_eq_getD_getElem?,Array.getD_eq_getD_getElem?,Array.getElem?_setIfInBounds_self_of_lt (by omega),Array.getElem?_setIfInBounds_self_of_lt (by omega)]
   ·have e':π.getD i 0≠π.getD j 0:=fun q=>e (by rw [← (h3 i sW).2.1,q,(h3 j hj).2.1])
    have h5:=hL j hj
    have q1:(L'.setIfInBounds (π.getD i 0) true).getD (π.getD j 0) true=L'.getD (π.getD j 0) true:=by
     rw [Array.getD_eq_getD_getElem?,Array.getD_eq_getD_getElem?,Array.getElem?_setIfInBounds_ne e']
    have q2:(L.setIfInBounds i true).getD j true=L.getD j true:=by
     rw [Array.getD_eq_getD_getElem?,Array.getD_eq_getD_getElem?,Array.getElem?_setIfInBounds_ne e]
    rw [q1,q2,h5]
  have ga:(l.toArray)[i]? = some (l[i]'sW):=by simp
  have gb:((p5 l σ π).toArray)[π.getD i 0]? = some (DE π (l[i]'sW)):=by simpa using K6 h ho
  unfold wpOp at OX ⊢
  rw [gb] at OX
  rw [ga]
  have w1:Region.wanted (l[i]'sW) (yielded l.toArray a.tmps)=true:=by unfold Region.wanted; rw [hg.1]
  have w2:Region.wanted (DE π (l[i]'sW)) (yielded (p5 l σ π).toArray a.tmps)=true:=by unfold Region.wanted; show (match (l[i]'sW).guard with | none=>true | some (j,want)=>_)=true; rw [hg.1]
  simp only [w2,if_true] at OX
  simp only [w1,if_true]
  rw [Xd,Rf] at OX
  exact OX.imp (fun g=>Oper.wp_mono next g) id
theorem py.prm {n:Nat} {Q:Exit→(Nat→Value)→World→Prop} {r:NV} {w:World} (hw:py P n (p5 l σ π) Q r w):py P n l Q r w:=by
 have hl:=K5 h
 obtain ⟨_,_,h3,_⟩:=Fj h
 intro a a1 a2 a3
 have:=hw a a1 a2 a3
 rw [show (p5 l σ π).toArray.size=l.toArray.size by simpa using hl] at this
 refine OV h _ _ _ a _ (by simp) (by simp) (fun i hi=>?_) this
 have hq:=(h3 i hi).1
 rw [List.getD_eq_getElem?_getD] at hq
 simp [Array.getD,hi,hq]
end
section
variable {P:Program} {n:Nat} {Q:Exit→(Nat→Value)→World→Prop} {r0:NV} {w0:World} {l:LO} {S:List ig}
def bj (l:LO) (j:Nat):Option Nat:=(l[j]?).bind (·.dst)
def xI (l:LO) (S:List ig) (j:Nat) (g:Nat→List Nat) (r:NV) (w:World):Prop:=
 (∀ d,bj l j=some d→match S[j]? with
  | some s=>if s.b then s.V (g j) w r (r d) else r d=undef
  | none=>True)∧(bj l j=none→∀ s,S[j]? = some s→s.b=true→∃ x,s.V (g j) w r x)
def Old (l:LO) (S:List ig) (j:Nat) (r:NV):Prop:=∀ d,bj l j=some d→∀ s,S[j]? = some s→if s.b then ∃ f w,s.V f w r (r d) else r d=undef
structure xP (l:LO) (m:Nat) (S:List ig) (U:LL) (r0:NV) (w0:World) (H:LN) (L:Nat→Prop) (g:Nat→List Nat) (r:NV) (w:World):Prop where
 jf:ak H w0 w
 Ce:(∀ k,L k→l.length ∉ U.getD k [])→ak [] w0 w∧g l.length=H
 vg:∀ b∈g l.length,b∈H
 vd:∀ j,L j→rZ (g j) (g l.length)
 done:∀ j,L j→(∀ k,L k→j ∉ U.getD k [])→xI l S j g r w
 tI:∀ j,L j→Old l S j r
 other:∀ t,(∀ j,j < m→bj l j≠some t)→r t=r0 t
 fresh:∀ j,L j→∀ b∈g j,(w0.heap.size≤b∨(b∈H∧∃ k,L k∧l.length∈U.getD k []))∧b < w.heap.size
 w8:∀ i j,L i→L j→i≠j→rZ (g i) (g j)
def ud (l:LO) (U:LL) (m i j:Nat):Bool:=
 ((cf l).getD i []).contains j && (List.range m).all fun k=>!((U.getD k []).contains j) || Nat.beq k i || ((cf l).getD k []).contains i
def jk (g:Nat→List Nat) (us:LN):List Nat:=us.flatMap g
def AF (l:LO) (U:LL) (m i:Nat):Bool:=(List.range m).all fun k=>!((U.getD k []).contains l.length) || Nat.beq k i || ((cf l).getD k []).contains i
def iw (P:Program) (l:LO) (m:Nat) (S:List ig) (U:LL) (r0:NV) (w0:World) (H:LN) (i:Nat):Prop:=
 ∀ o s,l[i]? = some o→S[i]? = some s→∀ (g:Nat→List Nat) (r:NV) (w:World),ak H w0 w→(AF l U m i=true→ak [] w0 w∧g l.length=H∧∀ j∈(cf l).getD i [],∀ b∈g j,w0.heap.size≤b)→(∀ j∈(cf l).getD i [],Old l S j r)→(∀ j,ud l U m i j=true→xI l S j g r w)→(∀ t,(∀ j,j < m→bj l j≠some t)→r t=r0 t)→
  (∀ i'∈(cf l).getD i [],∀ j'∈(cf l).getD i [],i'≠j'→rZ (g i') (g j'))→(∀ j∈(cf l).getD i [],∀ b∈g j,(w0.heap.size≤b∨b∈H)∧b < w.heap.size)→
  if s.b then Region.wanted o (yl l r)=true∧fh P o r w fun v w'=>ak (jk g (U.getD i [])) w w'∧∃ f,(∀ b∈f,(b∈jk g (U.getD i [])∨w.heap.size≤b)∧b < w'.heap.size)∧s.V f w' r v
  else Region.wanted o (yl l r)=false
def Cc:List Nat→Bool
 | []=>true
 | x :: l=>!(l.contains x) && Cc l
theorem zF:∀ {l:LN},Cc l=true→l.Nodup
 | [],_=>List.nodup_nil
 | x :: l,h=>by
  simp only [Cc,Bool.and_eq_true,Bool.not_eq_true',List.contains_eq_mem,decide_eq_false_iff_not] at h
  exact List.nodup_cons.2 ⟨h.1,zF h.2⟩
def AJ (l:LO) (m:Nat) (Z:LN):Bool:=
 ((List.range l.length).all fun i=>((l.getD i default).after.toList.filter (Region.binds .any)).all fun e=>Nat.blt e.on i) &&
 ((List.range l.length).all fun i=>Nat.blt i m || (List.range i).all fun j=>((cf l).getD i []).contains j || Z.contains j) &&
 Cc ((l.take m).filterMap (·.dst))
def Xe (o:Oper):Bool:=match o.op with | .move _=>true | .extract _ _=>true | _=>false
def Rh (l:LO) (i:Nat):Array Bool:=((List.range l.length).map fun j=>((cf l).getD i []).contains j).toArray
def Iy (l:LO) (m:Nat) (Z:LN):Bool:=
 Region.noSelect l.toArray && Z.all fun i=>Nat.blt i m && Region.free .any l.toArray (Rh l i) i &&
  match l[i]? with
  | some o=>Xe o && o.guard.isNone
  | none=>false
theorem OY {l:LO} {L:Array Bool} {i:Nat} (hL:∀ j∈(cf l).getD i [],L.getD j false=true) (h:Region.free .any l.toArray (Rh l i) i=true):Region.free .any l.toArray L i=true:=by
 unfold Region.free at h ⊢
 cases ho:(l.toArray)[i]? with
 | none=>rw [ho] at h; cases h
 | some oi=>
  rw [ho] at h
  simp only [List.all_eq_true,List.mem_range,Bool.or_eq_true] at h ⊢
  intro j hj
  rcases h j hj with (h1 | h1) | h1
  ·exact .inl (.inl h1)
  ·have bb:j < l.length:=by simpa using hj
   have hm:j∈(cf l).getD i []:=by
    unfold Rh at h1
    have:((List.range l.length).map fun j=>((cf l).getD i []).contains j)[j]? = some (((cf l).getD i []).contains j):=by
     rw [List.getElem?_map,List.getElem?_range bb]; rfl
    rw [Array.getD_eq_getD_getElem?,List.getElem?_toArray,this] at h1
    simpa using h1
   refine .inl (.inr ?_)
   have h2:=hL j hm
   rcases Nat.lt_or_ge j L.size with h' | h'
   ·simp [h'] at h2 ⊢; exact h2
   ·simp [Array.getElem?_eq_none h'] at h2
  ·exact .inr h1
theorem Kc {P:Program} {d:Option Nat} {x:OO} {k:Nat} {ty:TI} {pos:String} {ab:Array Edge} {g:Option (Nat×Bool)} {r:NV} {w:World} {K:Value→World→Prop} (h:fh P ⟨d,.extract x k,ty,pos,ab,g⟩ r w K) :
  ∃ v,(∀ w',(execOp (ev r) ⟨d,.extract x k,ty,pos,ab,g⟩).run P w' = .ok (.value v) w')∧K v w:=by
 have e:execOp (ev r) ⟨d,.extract x k,ty,pos,ab,g⟩ = (Instr.extract (ev r x) k>>=fun v=>pure (.value v)):=rfl
 unfold fh at h
 rw [e] at h ⊢
 generalize ev r x=u at h ⊢
 cases u
 case tuple vs=>
  cases hv:vs[k]? with
  | none=>simp [Instr.extract,hv,stuck,Result.andThen,Sem.run] at h
  | some v=>
   refine ⟨v,fun w'=>?_,?_⟩
   ·simp [Instr.extract,hv]
   ·simpa [Instr.extract,hv] using h
 all_goals simp [Instr.extract,stuck,Result.andThen,Sem.run] at h
theorem AR (l:LO):∀ (i:Nat) (o:Oper),l[i]? = some o→(cf l)[i]? = some ((o.after.toList.filter (Region.binds .any)).flatMap fun e=>e.on :: ((cf l).take i).getD e.on []):=by
 have key:∀ (l:LO) (acc:LL),(l.foldl mb acc).length=acc.length+l.length∧(∀ j,j < acc.length→(l.foldl mb acc)[j]? = acc[j]?)∧
   ∀ i o,l[i]? = some o→(l.foldl mb acc)[acc.length+i]? = some ((o.after.toList.filter (Region.binds .any)).flatMap fun e=>e.on :: ((l.foldl mb acc).take (acc.length+i)).getD e.on []):=by
  intro l
  induction l with
  | nil=>intro acc; exact ⟨rfl,fun _ _=>rfl,fun i o h=>by simp at h⟩
  | cons x l ih=>
   intro acc
   obtain ⟨h1,h2,h3⟩:=ih (mb acc x)
   have hl:(mb acc x).length=acc.length+1:=by simp [mb]
   have hold:∀ j,j < acc.length→(mb acc x)[j]? = acc[j]?:=fun j hj=>by simp only [mb]; rw [List.getElem?_append_left hj]
   refine ⟨by simp only [List.foldl_cons,h1,hl,List.length_cons]; omega,fun j hj=>?_,?_⟩
   ·rw [List.foldl_cons,h2 j (by omega),hold j hj]
   ·intro i o hi
    cases i with
    | zero=>
     simp at hi
     subst hi
     have aao:(List.foldl mb acc (x :: l)).take (acc.length+0)=acc:=by
      apply List.ext_getElem?
      intro j
      rw [Nat.add_zero,List.getElem?_take]
      split
      ·rename_i hj
       rw [List.foldl_cons,h2 j (by omega),hold j hj]
      ·rename_i hj
       rw [List.getElem?_eq_none (by omega)]
     rw [aao]
     rw [Nat.add_zero,List.foldl_cons,h2 _ (by omega)]
     simp only [mb]
     rw [List.getElem?_append_right (Nat.le_refl _)]
     simp
    | succ i=>
     have:=h3 i o (by simpa using hi)
     rw [hl] at this
     rw [List.foldl_cons]
     rw [show acc.length+(i+1)=acc.length+1+i by omega]
     exact this
 intro i o hi
 have:=(key l []).2.2 i o hi
 simpa [cf] using this
theorem Cd (l:LO) (hb:∀ (i:Nat) (o:Oper),l[i]? = some o→∀ e∈o.after.toList.filter (Region.binds .any),e.on < i) :
  ∀ (i j:Nat),j∈(cf l).getD i []→j < i∧∃ o,l[i]? = some o∧∃ e∈o.after.toList.filter (Region.binds .any),j=e.on∨j∈(cf l).getD e.on []:=by
 intro i j hj
 cases ho:l[i]? with
 | none=>
  have hlen:(cf l).length=l.length:=by
   have:∀ (l:LO) (acc:LL),(l.foldl mb acc).length=acc.length+l.length:=by
    intro l
    induction l with
    | nil=>intro acc; rfl
    | cons x l ih=>intro acc; rw [List.foldl_cons,ih]; simp [mb]; omega
   simpa [cf] using this l []
  rw [List.getD_eq_getElem?_getD,List.getElem?_eq_none (by rw [hlen]; exact List.getElem?_eq_none_iff.1 ho)] at hj
  simp at hj
 | some o=>
  have h:=AR l i o ho
  rw [List.getD_eq_getElem?_getD,h] at hj
  simp only [Option.getD_some,List.mem_flatMap,List.mem_cons] at hj
  obtain ⟨e,he,hj⟩:=hj
  have bb:=hb i o ho e he
  have Xf:((cf l).take i).getD e.on []=(cf l).getD e.on []:=by
   rw [List.getD_eq_getElem?_getD,List.getD_eq_getElem?_getD,List.getElem?_take,if_pos bb]
  rw [Xf] at hj
  refine ⟨?_,o,rfl,e,he,hj⟩
  rcases hj with rfl | hj
  ·exact bb
  ·-- by the strong law below
   have:∀ (k i:Nat),i≤k→∀ j∈(cf l).getD i [],j < i:=by
    intro k
    induction k with
    | zero=>
     intro i hi j hj
     obtain rfl:i=0:=by omega
     cases ho:l[0]? with
     | none=>
      obtain rfl:l=[]:=by cases l with | nil=>rfl | cons=>simp at ho
      simp [cf] at hj
     | some o=>
      have h:=AR l 0 o ho
      rw [List.getD_eq_getElem?_getD,h] at hj
      simp only [Option.getD_some,List.mem_flatMap] at hj
      obtain ⟨e,he,_⟩:=hj
      exact absurd (hb 0 o ho e he) (Nat.not_lt_zero _)
    | succ k ih=>
     intro i hi j hj
     cases ho:l[i]? with
     | none=>
      have hlen:(cf l).length=l.length:=by
       have:∀ (l:LO) (acc:LL),(l.foldl mb acc).length=acc.length+l.length:=by
        intro l
        induction l with
        | nil=>intro acc; rfl
        | cons x l ih=>intro acc; rw [List.foldl_cons,ih]; simp [mb]; omega
       simpa [cf] using this l []
      rw [List.getD_eq_getElem?_getD,List.getElem?_eq_none (by rw [hlen]; exact List.getElem?_eq_none_iff.1 ho)] at hj
      simp at hj
     | some o=>
      have h:=AR l i o ho
      rw [List.getD_eq_getElem?_getD,h] at hj
      simp only [Option.getD_some,List.mem_flatMap,List.mem_cons] at hj
      obtain ⟨e,he,hj⟩:=hj
      have bb:=hb i o ho e he
      rcases hj with rfl | hj
      ·exact bb
      ·have Xf:((cf l).take i).getD e.on []=(cf l).getD e.on []:=by
        rw [List.getD_eq_getElem?_getD,List.getD_eq_getElem?_getD,List.getElem?_take,if_pos bb]
       rw [Xf] at hj
       have:=ih e.on (by omega) j hj
       omega
   exact Nat.lt_trans (this e.on e.on (Nat.le_refl _) j hj) bb
theorem ET (l:LO) (hb:∀ (i:Nat) (o:Oper),l[i]? = some o→∀ e∈o.after.toList.filter (Region.binds .any),e.on < i) {j k:Nat} (hj:j∈(cf l).getD k []):∀ {i:Nat},k∈(cf l).getD i []→j∈(cf l).getD i []:=by
 intro i
 induction i using Nat.strongRecOn with
 | _ i ih=>
  intro hk
  obtain ⟨_,o,ho,e,he,Xg⟩:=Cd l hb i k hk
  have bb:=hb i o ho e he
  have h2:j∈(cf l).getD e.on []:=Xg.elim (fun h=>h ▸ hj) (fun h=>ih e.on bb h)
  have h:=AR l i o ho
  rw [List.getD_eq_getElem?_getD,h]
  simp only [Option.getD_some,List.mem_flatMap,List.mem_cons]
  refine ⟨e,he,.inr ?_⟩
  rw [List.getD_eq_getElem?_getD,List.getElem?_take,if_pos bb,← List.getD_eq_getElem?_getD]
  exact h2
theorem getD_both {Jg:Array Bool} {i:Nat} (h:Jg.getD i true=false):Jg.getD i false=false:=by
 rcases Nat.lt_or_ge i Jg.size with h' | h'
 ·simp [h'] at h ⊢; exact h
 ·simp [Array.getElem?_eq_none h'] at h
theorem getD_replicate_false (m j:Nat):(Array.replicate m false).getD j false=false:=by
 rcases Nat.lt_or_ge j m with h | h
 ·simp [h]
 ·simp [h]
theorem GW:∀ (l:LO),(l.filterMap (·.dst)).Nodup→∀ i j d,bj l i=some d→bj l j=some d→i=j:=by
 intro l
 induction l with
 | nil=>intro _ i j d h; simp [bj] at h
 | cons o l ih=>
  intro hn i j d hi hj
  have MA:∀ k,bj (o :: l) (k+1)=some d→d∈l.filterMap (·.dst):=by
   intro k hk
   simp only [bj,List.getElem?_cons_succ] at hk
   cases ho:l[k]? with
   | none=>rw [ho] at hk; cases hk
   | some x=>rw [ho] at hk; exact List.mem_filterMap.2 ⟨x,List.mem_of_getElem? ho,hk⟩
  have h0:∀ e,o.dst=some e→e ∉ l.filterMap (·.dst)∧(l.filterMap (·.dst)).Nodup:=by
   intro e he
   rw [List.filterMap_cons_some he] at hn
   exact List.nodup_cons.1 hn
  have mh:(l.filterMap (·.dst)).Nodup:=by
   cases hd:o.dst with
   | none=>rwa [List.filterMap_cons_none hd] at hn
   | some e=>exact (h0 e hd).2
  cases i with
  | zero=>
   cases j with
   | zero=>rfl
   | succ j=>exact absurd (MA j hj) (h0 d (by simpa [bj] using hi)).1
  | succ i=>
   cases j with
   | zero=>exact absurd (MA i hi) (h0 d (by simpa [bj] using hj)).1
   | succ j=>rw [ih mh i j d (by simpa [bj] using hi) (by simpa [bj] using hj)]
theorem kz {m j:Nat} (hj:j < m):bj (l.take m) j=bj l j:=by
 unfold bj
 rw [List.getElem?_take,if_pos hj]
theorem nx {o:Oper} {r:NV} {w:World} {K K':Value→World→Prop} (h:fh P o r w K) (hk:∀ v w',K v w'→K' v w'):fh P o r w K':=by
 unfold fh at h ⊢
 cases hr:(execOp (ev r) o).run P w with
 | ok x w'=>
  rw [hr] at h
  cases x with
  | value v=>exact hk _ _ h
  | skip=>exact hk _ _ h
  | enter f args=>exact h.mono fun e zP ⟨v,he,hv⟩=>⟨v,he,hk _ _ hv⟩
  | _=>exact h
 | _=>rw [hr] at h; exact h.elim
theorem Oh {m:Nat} {Z:LN} (h:AJ l m Z=true):∀ (i:Nat) (o:Oper),l[i]? = some o→∀ e∈o.after.toList.filter (Region.binds .any),e.on < i:=by
 simp only [AJ,Bool.and_eq_true,List.all_eq_true,List.mem_range] at h
 intro i o ho e he
 have hi:i < l.length:=(List.getElem?_eq_some_iff.1 ho).1
 have:=h.1.1 i hi e (by rw [List.getD_eq_getElem?_getD,ho]; exact he)
 exact Nat.lt_of_succ_le (Nat.le_of_ble_eq_true this)
theorem VV {m:Nat} {U:LL} {Z H:LN} {N:Nat→Prop} (hd:dh n l=true) (hA:AJ l m Z=true) (hZ:Iy l m Z=true) (hp:∀ c r w,Q (.panic c) r w→False) (Iz:m≤l.length)
  (hS:S.length=m)
  (hH:∀ b∈H,b < w0.heap.size) (hU:((List.range m).all fun i=>(U.getD i []).all fun u=>Nat.beq u l.length || ((cf l).getD i []).contains u)=true)
  (hN:∀ b,N b→b < w0.heap.size∧b ∉ H)
  (qx:∀ (i:Nat) (s:ig),S[i]? = some s→∀ f F (w w':World) (r r':NV) v,ak F w w'→(∀ b∈f,b ∉ F)→(∀ b∈F,¬ N b)→(∀ j∈(cf l).getD i [],∀ t,bj l j=some t→r' t=r t)→s.V f w r v→s.V f w' r' v)
  (QD:∀ i,i < m→iw P l m S U r0 w0 H i)
  (next:∀ g r w,xP l m S U r0 w0 H (fun j=>j < m) g r w→WL P l (l.drop m) r w (Q .normal)) :
  py P n l Q r0 w0:=by
 simp only [AJ,Bool.and_eq_true,List.all_eq_true,List.mem_range,Bool.or_eq_true] at hA
 obtain ⟨⟨V6,V7⟩,V8⟩:=hA
 have xh:∀ (i:Nat) (o:Oper),l[i]? = some o→∀ e∈o.after.toList.filter (Region.binds .any),e.on < i:=by
  intro i o ho e he
  have hi:i < l.length:=(List.getElem?_eq_some_iff.1 ho).1
  have:=V6 i hi e (by rw [List.getD_eq_getElem?_getD,ho]; exact he)
  exact Nat.lt_of_succ_le (Nat.le_of_ble_eq_true this)
 have Gk:∀ i,m≤i→i < l.length→∀ j,j < i→j∈(cf l).getD i []∨j∈Z:=by
  intro i h1 h2 j hj
  rcases V7 i h2 with h | h
  ·exact absurd (Nat.lt_of_succ_le (Nat.le_of_ble_eq_true h)) (Nat.not_lt.2 h1)
  ·have:=h j hj
   simpa using this
 simp only [Iy,Bool.and_eq_true,List.all_eq_true] at hZ
 obtain ⟨Tc,hZ⟩:=hZ
 have Xh:∀ z∈Z,z < m:=fun z hz=>Nat.lt_of_succ_le (Nat.le_of_ble_eq_true (hZ z hz).1.1)
 have V9:∀ i,i < m→∀ u∈U.getD i [],u=l.length∨u∈(cf l).getD i []:=by
  intro i hi u hu
  simp only [List.all_eq_true,List.mem_range] at hU
  have:=hU i hi u hu
  simpa using this
 have cp:=GW _ (zF V8)
 have qg:=Cd l xh
 intro a h1 h2 h3
 let Cl (L:Array Bool):Prop:=L.size=l.length∧∀ j o,l[j]? = some o→L.getD j false=true→∀ e∈o.after.toList.filter (Region.binds .any),L.getD e.on false=true
 have ji:∀ L,Cl L→∀ i j,(∀ o,l[i]? = some o→∀ e∈o.after.toList.filter (Region.binds .any),L.getD e.on false=true)→j∈(cf l).getD i []→L.getD j false=true:=by
  intro L hL i
  induction i using Nat.strongRecOn with
  | _ i ih=>
   intro j hi hj
   obtain ⟨_,o,ho,e,he,IG⟩:=qg i j hj
   have hl:=hi o ho e he
   rcases IG with rfl | IG
   ·exact hl
   ·exact ih e.on (xh i o ho e he) j (fun o' bm e' uM=>hL.2 _ _ bm hl e' uM) IG
 have Dv:∀ L i,i∈Region.ready .any l.toArray L→L.getD i true=false∧∃ o,l[i]? = some o∧∀ e∈o.after.toList.filter (Region.binds .any),L.getD e.on false=true:=by
  intro L i hi
  obtain ⟨g1,o,ho,fk⟩:=mem_ready.1 hi
  refine ⟨g1,o,by simpa using ho,fun e he=>?_⟩
  have:=List.mem_filter.1 he
  exact fk e (by simpa using this.1) this.2
 have EX:∀ L i o,L.size=l.length→l[i]? = some o→L.getD i false=false→(∀ e∈o.after.toList.filter (Region.binds .any),L.getD e.on false=true)→i∈Region.ready .any l.toArray L:=by
  intro L i o hs ho hu fk
  refine mem_ready.2 ⟨?_,o,by simpa using ho,fun e he hb=>fk e (List.mem_filter.2 ⟨by simpa using he,hb⟩)⟩
  have hi:i < L.size:=by rw [hs]; exact (List.getElem?_eq_some_iff.1 ho).1
  simp [hi] at hu ⊢; exact hu
 have Hy:∀ L i o,Cl L→l[i]? = some o→(∀ e∈o.after.toList.filter (Region.binds .any),L.getD e.on false=true)→Cl (L.setIfInBounds i true):=by
  intro L i o hL ho fk
  refine ⟨by rw [Array.size_setIfInBounds]; exact hL.1,fun j o' bm hj e he=>?_⟩
  by_cases q9:i=j
  ·subst q9
   have:o'=o:=Option.some.inj (bm.symm.trans ho)
   subst this
   exact getD_set_true (fk e he)
  ·rw [getD_set_ne false q9] at hj
   exact getD_set_true (hL.2 j o' bm hj e he)
 have getSet:∀ (L:Array Bool) i j,L.size=l.length→i < l.length→((L.setIfInBounds i true).getD j false=true↔j=i∨L.getD j false=true):=by
  intro L i j hs hi
  by_cases q9:i=j
  ·subst q9
   simp [hs,hi]
  ·rw [getD_set_ne false q9]
   constructor
   ·exact .inr
   ·rintro (h | h)
    ·exact absurd h.symm q9
    ·exact h
 have xR:∀ (L:Array Bool) i,L.size=l.length→i < l.length→L.getD i false=false→(L.setIfInBounds i true).toList.count false+1=L.toList.count false:=by
  intro L i hs hi hu
  have uB:i < L.toList.length:=by simpa [hs] using hi
  have BJ:L.toList[i]=false:=by
   rw [Array.getElem_toList]
   simp [hs,hi] at hu
   exact hu
  rw [Array.toList_setIfInBounds,List.count_set uB,BJ]
  have:0 < L.toList.count false:=List.count_pos_iff.2 (by rw [← BJ]; exact List.getElem_mem uB)
  rw [if_pos (by rfl),if_neg (by decide)]
  omega
 have tail:∀ (d k fuel:Nat) (L:Array Bool) (a:Act) (w:World),l.length - k=d→m≤k→k≤l.length→Cl L→(∀ j,L.getD j false=true↔j < k)→L.toList.count false≤fuel→a.tmps.size=n→a.defers=[]→
   WL P l (l.drop k) (cu a) w (Q .normal)→wpAny P .any l.toArray (fun e a' w'=>a'.tmps.size=n∧a'.defers=[]∧Q e (cu a') w') fuel L a w:=by
  intro d
  induction d with
  | zero=>
   intro k fuel L a w hk hmk Dr hL iv hf g1 g2 hW
   obtain rfl:k=l.length:=by omega
   rw [List.drop_length] at hW
   have sP:Region.ready .any l.toArray L=[]:=by
    apply List.eq_nil_iff_forall_not_mem.2
    intro i hi
    obtain ⟨q1,o,ho,_⟩:=Dv L i hi
    have bb:i < l.length:=(List.getElem?_eq_some_iff.1 ho).1
    have:=(iv i).2 bb
    simp [hL.1,bb] at q1 this
    rw [q1] at this; cases this
   cases fuel with
   | zero=>exact ⟨sP,g1,g2,hW⟩
   | succ fuel=>exact ⟨fun _=>⟨g1,g2,hW⟩,fun i hi=>by rw [sP] at hi; cases hi⟩
  | succ d ih=>
   intro k fuel L a w hk hmk Dr hL iv hf g1 g2 hW
   have MB:k < l.length:=by omega
   obtain ⟨o,ho⟩ : ∃ o,l[k]? = some o:=⟨l[k],List.getElem?_eq_getElem MB⟩
   have Xi:L.getD k false=false:=by
    cases hb:L.getD k false with
    | false=>rfl
    | true=>exact absurd ((iv k).1 hb) (Nat.lt_irrefl _)
   have na:k∈Region.ready .any l.toArray L:=EX L k o hL.1 ho Xi fun e he=>(iv _).2 (xh k o ho e he)
   have aap:l.drop k=o :: l.drop (k+1):=by rw [List.drop_eq_getElem_cons MB]; congr 1; exact Option.some.inj ((List.getElem?_eq_getElem MB).symm.trans ho)
   rw [aap] at hW
   have hc:=xR L k hL.1 MB Xi
   cases fuel with
   | zero=>omega
   | succ fuel=>
    refine ⟨fun h=>(by rw [h] at na; cases na),fun i hi=>?_⟩
    obtain ⟨q1,oi,po,fk⟩:=Dv L i hi
    have gj:i < l.length:=(List.getElem?_eq_some_iff.1 po).1
    have vc:L.getD i false=false:=getD_both q1
    have hik:i=k:=by
     rcases Nat.lt_trichotomy i k with h | h | h
     ·have:=(iv i).2 h; rw [vc] at this; cases this
     ·exact h
     ·have:=ji L hL i k (fun o' bm=>by have:o'=oi:=Option.some.inj (bm.symm.trans po); subst this; exact fk) ((Gk i (by omega) gj k h).resolve_right fun hz=>absurd (Xh k hz) (by omega))
      rw [Xi] at this; cases this
    subst hik
    have Wm:oi=o:=Option.some.inj (po.symm.trans ho)
    subst Wm
    have GX:∀ k',oi.dst=some k'→k' < a.tmps.size:=by
     intro k' rX
     have xQ:oi∈l:=List.mem_of_getElem? po
     simp only [dh,List.all_eq_true] at hd
     have:=hd oi xQ
     rw [rX] at this
     rw [g1]
     exact Nat.lt_of_succ_le (Nat.le_of_ble_eq_true this)
    have uN:=Hy L i oi hL po fk
    have AH:∀ j,(L.setIfInBounds i true).getD j false=true↔j < i+1:=by
     intro j
     rw [getSet L i j hL.1 gj,iv j]
     omega
    unfold wpOp
    rw [show (l.toArray)[i]? = some oi by simpa using po]
    simp only []
    rw [vX (by rw [g1]; exact hd)]
    rcases hW with ⟨hw,hW⟩ | ⟨hw,hW⟩
    ·rw [if_pos hw]
     exact .inl (hW.wp fun v w' hv=>ih (i+1) fuel _ _ _ (by omega) (by omega) (by omega) uN AH (by omega) (by rw [iT]; exact g1) (by rw [fu]; exact g2) (by rw [js GX]; exact hv))
    ·rw [if_neg (by rw [hw]; exact Bool.false_ne_true)]
     exact ih (i+1) fuel _ _ _ (by omega) (by omega) (by omega) uN AH (by omega) (by rw [iT]; exact g1) (by rw [fu]; exact g2) (by rw [js GX]; exact hW)
 have head:∀ (fuel:Nat) (L:Array Bool) (a:Act) (w:World) (g:Nat→List Nat),Cl L→(∀ j,L.getD j false=true→j < m)→L.toList.count false≤fuel→a.tmps.size=n→a.defers=[]→
   xP l m S U r0 w0 H (fun j=>L.getD j false=true) g (cu a) w→wpAny P .any l.toArray (fun e a' w'=>a'.tmps.size=n∧a'.defers=[]∧Q e (cu a') w') fuel L a w:=by
  intro fuel
  induction fuel with
  | zero=>
   intro L a w g hL va hf g1 g2 inv
   have fk:∀ j,j < l.length→L.getD j false=true:=by
    intro j hj
    cases hb:L.getD j false with
    | true=>rfl
    | false=>have:=xR L j hL.1 hj hb; omega
   have iv:∀ j,L.getD j false=true↔j < m:=fun j=>⟨va j,fun h=>fk j (by omega)⟩
   refine tail _ m 0 L a w rfl (Nat.le_refl _) Iz hL iv hf g1 g2 (next g _ _ ?_)
   exact ⟨inv.jf,fun hk=>inv.Ce fun k xS=>hk k ((iv k).1 xS),inv.vg,fun j hj=>inv.vd j ((iv j).2 hj),fun j hj hk=>inv.done j ((iv j).2 hj) (fun k xS=>hk k ((iv k).1 xS)),fun j hj=>inv.tI j ((iv j).2 hj),inv.other,fun j hj b hb=>⟨(inv.fresh j ((iv j).2 hj) b hb).1.imp (fun h=>h) fun h=>⟨h.1,h.2.imp fun k hk=>⟨(iv k).1 hk.1,hk.2⟩⟩,(inv.fresh j ((iv j).2 hj) b hb).2⟩,fun i j hi hj=>inv.w8 i j ((iv i).2 hi) ((iv j).2 hj)⟩
  | succ fuel ih=>
   intro L a w g hL va hf g1 g2 inv
   by_cases fk:∀ j,j < m→L.getD j false=true
   ·have iv:∀ j,L.getD j false=true↔j < m:=fun j=>⟨va j,fk j⟩
    refine tail _ m _ L a w rfl (Nat.le_refl _) Iz hL iv hf g1 g2 (next g _ _ ?_)
    exact ⟨inv.jf,fun hk=>inv.Ce fun k xS=>hk k ((iv k).1 xS),inv.vg,fun j hj=>inv.vd j ((iv j).2 hj),fun j hj hk=>inv.done j ((iv j).2 hj) (fun k xS=>hk k ((iv k).1 xS)),fun j hj=>inv.tI j ((iv j).2 hj),inv.other,fun j hj b hb=>⟨(inv.fresh j ((iv j).2 hj) b hb).1.imp (fun h=>h) fun h=>⟨h.1,h.2.imp fun k hk=>⟨(iv k).1 hk.1,hk.2⟩⟩,(inv.fresh j ((iv j).2 hj) b hb).2⟩,fun i j hi hj=>inv.w8 i j ((iv i).2 hi) ((iv j).2 hj)⟩
   ·obtain ⟨j0,Td,Dw⟩ : ∃ j,j < m∧L.getD j false=false:=by
     apply Classical.byContradiction
     intro sP
     apply fk
     intro j hj
     cases hb:L.getD j false with
     | true=>rfl
     | false=>exact absurd ⟨j,hj,hb⟩ sP
    have Mi:∃ i,i∈Region.ready .any l.toArray L:=by
     have:∀ k,(∃ j,j < k∧j < m∧L.getD j false=false)→∃ i,i∈Region.ready .any l.toArray L:=by
      intro k
      induction k with
      | zero=>rintro ⟨j,h,_⟩; omega
      | succ k EA=>
       rintro ⟨j,Ol,Cf,su⟩
       by_cases xT:∃ j,j < k∧j < m∧L.getD j false=false
       ·exact EA xT
       ·obtain rfl:j=k:=by
         apply Classical.byContradiction
         intro h
         exact xT ⟨j,by omega,Cf,su⟩
        have Dx:j < l.length:=by omega
        refine ⟨j,EX L j l[j] hL.1 (List.getElem?_eq_getElem Dx) su fun e he=>?_⟩
        have bb:=xh j _ (List.getElem?_eq_getElem Dx) e he
        cases hb:L.getD e.on false with
        | true=>rfl
        | false=>exact absurd ⟨e.on,bb,by omega,hb⟩ xT
     exact this (j0+1) ⟨j0,by omega,Td,Dw⟩
    have main:∀ i oi,i < m→l[i]? = some oi→L.getD i false=false→(∀ e∈oi.after.toList.filter (Region.binds .any),L.getD e.on false=true)→
      (Region.wanted oi (yl l (cu a))=true∧fh P oi (cu a) w fun v w'=>wpAny P .any l.toArray (fun e a' w'=>a'.tmps.size=n∧a'.defers=[]∧Q e (cu a') w') fuel (L.setIfInBounds i true) (a.put oi.dst v) w')∨
      (Region.wanted oi (yl l (cu a))=false∧wpAny P .any l.toArray (fun e a' w'=>a'.tmps.size=n∧a'.defers=[]∧Q e (cu a') w') fuel (L.setIfInBounds i true) (a.put oi.dst undef) w):=by
     intro i oi vb po vc ve
     have gj:i < l.length:=(List.getElem?_eq_some_iff.1 po).1
     have nk:∀ o,l[i]? = some o→∀ e∈o.after.toList.filter (Region.binds .any),L.getD e.on false=true:=fun o' bm=>by
      have:o'=oi:=Option.some.inj (bm.symm.trans po)
      subst this; exact ve
     obtain ⟨s,hs⟩ : ∃ s,S[i]? = some s:=⟨S[i]'(by omega),List.getElem?_eq_getElem (by omega)⟩
     have hc:=xR L i hL.1 gj vc
     have uN:=Hy L i oi hL po ve
     have We:∀ j,(L.setIfInBounds i true).getD j false=true→j < m:=by
      intro j hj
      rcases (getSet L i j hL.1 gj).1 hj with rfl | hj
      ·exact vb
      ·exact va j hj
     have EY:∀ k,L.getD k false=true→k≠i∧i ∉ (cf l).getD k []:=by
      intro k hk
      refine ⟨fun h=>(by rw [h,vc] at hk; cases hk),fun xQ=>?_⟩
      have:=ji L hL k i (fun o' bm e' uM=>hL.2 k o' bm hk e' uM) xQ
      rw [vc] at this; cases this
     have ow:=QD i vb oi s po hs g (cu a) w inv.jf (fun hV=>by
       have sP:∀ k,L.getD k false=true→l.length ∉ U.getD k []:=fun k hk IH=>by
        simp only [AF,List.all_eq_true,List.mem_range,Bool.or_eq_true,Bool.not_eq_true',List.contains_eq_mem,decide_eq_false_iff_not,decide_eq_true_eq] at hV
        rcases hV k (va k hk) with (h | h) | h
        ·exact h IH
        ·exact (EY k hk).1 (Nat.eq_of_beq_eq_true h)
        ·exact (EY k hk).2 h
       have h0:=inv.Ce sP
       exact ⟨h0.1,h0.2,fun j hj b hb=>(inv.fresh j (ji L hL i j nk hj) b hb).1.elim (fun h=>h) fun h=>absurd h.2.choose_spec.2 (sP _ h.2.choose_spec.1)⟩) (fun j hj=>inv.tI j (ji L hL i j nk hj)) (fun j hj=>by
       simp only [ud,Bool.and_eq_true,List.all_eq_true,List.mem_range,Bool.or_eq_true,Bool.not_eq_true',List.contains_eq_mem,decide_eq_false_iff_not,decide_eq_true_eq] at hj
       refine inv.done j (ji L hL i j nk hj.1) fun k hk Ol=>?_
       rcases hj.2 k (va k hk) with (h | h) | h
       ·exact h Ol
       ·exact (EY k hk).1 (Nat.eq_of_beq_eq_true h)
       ·exact (EY k hk).2 h) inv.other
      (fun i' uB j' iu=>inv.w8 i' j' (ji L hL i i' nk uB) (ji L hL i j' nk iu))
      (fun j hj b hb=>⟨(inv.fresh j (ji L hL i j nk hj) b hb).1.imp (fun h=>h) (·.1),(inv.fresh j (ji L hL i j nk hj) b hb).2⟩)
     have hblk:∀ b∈jk g (U.getD i []),(∃ u,u∈U.getD i []∧L.getD u false=true∧b∈g u)∨(l.length∈U.getD i []∧b∈g l.length):=by
      intro b hb
      obtain ⟨u,hu,gv⟩:=List.mem_flatMap.1 hb
      rcases V9 i vb u hu with rfl | h
      ·exact .inr ⟨hu,gv⟩
      ·exact .inl ⟨u,hu,ji L hL i u nk h,gv⟩
     have GX:∀ k',oi.dst=some k'→k' < a.tmps.size:=by
      intro k' rX
      have xQ:oi∈l:=List.mem_of_getElem? po
      simp only [dh,List.all_eq_true] at hd
      have:=hd oi xQ
      rw [rX] at this
      rw [g1]
      exact Nat.lt_of_succ_le (Nat.le_of_ble_eq_true this)
     have zV:bj l i=oi.dst:=by unfold bj; rw [po]; rfl
     have ir:∀ v t,(oi.dst≠some t)→cu (a.put oi.dst v) t=cu a t:=by
      intro v t ht
      rw [js GX]
      cases xU:oi.dst with
      | none=>rfl
      | some d=>
       show (bif Nat.beq t d then v else cu a t)=cu a t
       cases hb:Nat.beq t d with
       | false=>rfl
       | true=>exact absurd (by rw [xU,Nat.eq_of_beq_eq_true hb]) ht
     have II:∀ v d,oi.dst=some d→cu (a.put oi.dst v) d=v:=by
      intro v d xU
      rw [js GX,xU]
      show (bif Nat.beq d d then v else cu a d)=v
      rw [Nat.beq_refl]; rfl
     have step:∀ v w' f,ak (jk g (U.getD i [])) w w'→(∀ b∈f,(b∈jk g (U.getD i [])∨w.heap.size≤b)∧b < w'.heap.size)→(if s.b then s.V f w' (cu a) v else v=undef)→
       wpAny P .any l.toArray (fun e a' w'=>a'.tmps.size=n∧a'.defers=[]∧Q e (cu a') w') fuel (L.setIfInBounds i true) (a.put oi.dst v) w':=by
      intro v w' f hC qw hV
      have tx:∀ j',j' < m→j'≠i→∀ t,bj l j'=some t→cu (a.put oi.dst v) t=cu a t:=by
       intro j' iu mc t ht
       refine ir v t fun h=>mc (cp j' i t ?_ ?_)
       ·rw [kz iu]; exact ht
       ·rw [kz vb,zV]; exact h
      have Om:∀ b∈jk g (U.getD i []),¬ N b:=fun b hb hn=>by
       rcases hblk b hb with ⟨u,_,o9,gv⟩ | ⟨_,gv⟩
       ·rcases (inv.fresh u o9 b gv).1 with h | h
        ·have:=(hN b hn).1; omega
        ·exact (hN b hn).2 h.1
       ·exact (hN b hn).2 (inv.vg b gv)
      refine ih _ _ _ (fun j=>if j=i then f else if j∈U.getD i [] then [] else g j) uN We (by omega) (by rw [iT]; exact g1) (by rw [fu]; exact g2)
       ⟨inv.jf.then hC fun b hb=>(by
        rcases hblk b hb with ⟨u,_,o9,gv⟩ | ⟨_,gv⟩
        ·exact (inv.fresh u o9 b gv).1.elim .inr fun h=>.inl h.1
        ·exact .inl (inv.vg b gv)),fun sP=>?_,?_,fun j hj=>?_,?_,fun j hj d sM sj r8=>?_,?_,?_,?_⟩
      ·have wu:l.length ∉ U.getD i []:=sP i ((getSet L i i hL.1 gj).2 (.inl rfl))
       have h0:=inv.Ce fun k hk=>sP k ((getSet L i k hL.1 gj).2 (.inr hk))
       refine ⟨h0.1.then hC fun b hb=>?_,?_⟩
       ·rcases hblk b hb with ⟨u,_,o9,gv⟩ | ⟨h,_⟩
        ·exact (inv.fresh u o9 b gv).1.elim .inr fun ⟨_,k,hk,IH⟩=>absurd IH (sP k ((getSet L i k hL.1 gj).2 (.inr hk)))
        ·exact absurd h wu
       ·show (if l.length=i then f else if l.length∈U.getD i [] then [] else g l.length)=H
        rw [if_neg (by omega),if_neg wu]
        exact h0.2
      ·intro b hb
       have cg:b∈(if l.length=i then f else if l.length∈U.getD i [] then [] else g l.length):=hb
       rw [if_neg (by omega)] at cg
       split at cg
       ·cases cg
       ·exact inv.vg b cg
      ·intro b hb hv
       have kh:b∈(if l.length=i then f else if l.length∈U.getD i [] then [] else g l.length):=hv
       rw [if_neg (by omega)] at kh
       split at kh
       ·cases kh
       ·rename_i Wh
        have cg:b∈(if j=i then f else if j∈U.getD i [] then [] else g j):=hb
        split at cg
        ·rcases (qw b cg).1 with h | h
         ·rcases hblk b h with ⟨u,_,o9,gv⟩ | ⟨h,_⟩
          ·exact inv.vd u o9 b gv kh
          ·exact Wh h
         ·have h1:=hH b (inv.vg b kh)
          have h2:=inv.jf.size
          omega
        ·rename_i lv
         split at cg
         ·cases cg
         ·exact inv.vd j (((getSet L i j hL.1 gj).1 hj).resolve_left lv) b cg kh
      ·intro j hj xV
       refine ⟨fun d sM=>?_,fun Wi sj r8 On=>?_⟩
       rotate_left
       ·by_cases lv:j=i
        ·subst lv
         rw [hs] at r8
         cases r8
         rw [if_pos On] at hV
         refine ⟨v,?_⟩
         simp only [if_pos]
         exact qx j s hs _ [] w' w' (cu a) _ v (ak.refl _ _) (fun _ _ h=>nomatch h) (fun _ h=>nomatch h) (fun j' iu t ht=>tx j' (by have:=(qg j j' iu).1; omega) (by have:=(qg j j' iu).1; omega) t ht) hV
        ·have nn:=((getSet L i j hL.1 gj).1 hj).resolve_left lv
         have su:j ∉ U.getD i []:=xV i ((getSet L i i hL.1 gj).2 (.inl rfl))
         obtain ⟨x,hx⟩:=(inv.done j nn (fun k hk=>xV k ((getSet L i k hL.1 gj).2 (.inr hk)))).2 Wi sj r8 On
         have fw:(fun j=>if j=i then f else if j∈U.getD i [] then [] else g j) j=g j:=by
          show (if j=i then f else if j∈U.getD i [] then [] else g j)=g j
          rw [if_neg lv,if_neg su]
         rw [fw]
         refine ⟨x,qx j sj r8 _ _ _ _ (cu a) _ _ hC (fun b cg IJ=>?_) Om (fun j' iu t ht=>tx j' (by have:=(qg j j' iu).1; have:=va j nn; omega) (fun h=>?_) t ht) hx⟩
         ·rcases hblk b IJ with ⟨u,Cg,o9,gv⟩ | ⟨_,gv⟩
          ·exact inv.w8 j u nn o9 (fun h=>su (h ▸ Cg)) b cg gv
          ·exact inv.vd j nn b cg gv
         ·subst h
          have:=ji L hL j j' (fun o' bm e' uM=>hL.2 j o' bm nn e' uM) iu
          rw [vc] at this; cases this
       by_cases lv:j=i
       ·subst lv
        rw [hs]
        simp only [if_pos]
        rw [zV] at sM
        rw [II v d sM]
        split
        ·rename_i hb
         rw [if_pos hb] at hV
         exact qx j s hs _ [] w' w' (cu a) _ v (ak.refl _ _) (fun _ _ h=>nomatch h) (fun _ h=>nomatch h) (fun j' iu t ht=>tx j' (by have:=(qg j j' iu).1; omega) (by have:=(qg j j' iu).1; omega) t ht) hV
        ·rename_i hb
         rw [if_neg hb] at hV
         exact hV
       ·have nn:=((getSet L i j hL.1 gj).1 hj).resolve_left lv
        have Cf:=va j nn
        have su:j ∉ U.getD i []:=xV i ((getSet L i i hL.1 gj).2 (.inl rfl))
        have xU:oi.dst≠some d:=by
         intro h
         apply lv
         refine cp j i d ?_ ?_
         ·rw [kz Cf]; exact sM
         ·rw [kz vb,zV]; exact h
        have:=(inv.done j nn (fun k hk=>xV k ((getSet L i k hL.1 gj).2 (.inr hk)))).1 d sM
        rw [ir v d xU]
        have fw:(fun j=>if j=i then f else if j∈U.getD i [] then [] else g j) j=g j:=by
         show (if j=i then f else if j∈U.getD i [] then [] else g j)=g j
         rw [if_neg lv,if_neg su]
        rw [fw]
        cases r8:S[j]? with
        | none=>trivial
        | some sj=>
         rw [r8] at this
         simp only [] at this ⊢
         split
         ·rename_i hb
          rw [if_pos hb] at this
          refine qx j sj r8 _ _ _ _ (cu a) _ _ hC (fun b cg IJ=>?_) Om (fun j' iu t ht=>tx j' (by have:=(qg j j' iu).1; omega) (fun h=>?_) t ht) this
          rotate_left
          ·subst h
           have:=ji L hL j j' (fun o' bm e' uM=>hL.2 j o' bm nn e' uM) iu
           rw [vc] at this; cases this
          rcases hblk b IJ with ⟨u,Cg,o9,gv⟩ | ⟨_,gv⟩
          ·exact inv.w8 j u nn o9 (fun h=>su (h ▸ Cg)) b cg gv
          ·exact inv.vd j nn b cg gv
         ·rename_i hb
          rw [if_neg hb] at this
          exact this
      ·by_cases lv:j=i
       ·subst lv
        rw [hs] at r8
        cases r8
        rw [zV] at sM
        rw [II v d sM]
        split
        ·rename_i hb
         rw [if_pos hb] at hV
         exact ⟨f,w',qx j s hs _ [] w' w' (cu a) _ v (ak.refl _ _) (fun _ _ h=>nomatch h) (fun _ h=>nomatch h) (fun j' iu t ht=>tx j' (by have:=(qg j j' iu).1; omega) (by have:=(qg j j' iu).1; omega) t ht) hV⟩
        ·rename_i hb
         rw [if_neg hb] at hV
         exact hV
       ·have nn:=((getSet L i j hL.1 gj).1 hj).resolve_left lv
        have Cf:=va j nn
        have xU:oi.dst≠some d:=by
         intro h
         apply lv
         refine cp j i d ?_ ?_
         ·rw [kz Cf]; exact sM
         ·rw [kz vb,zV]; exact h
        have:=inv.tI j nn d sM sj r8
        rw [ir v d xU]
        split
        ·rename_i hb
         rw [if_pos hb] at this
         obtain ⟨f1,w1,h1⟩:=this
         refine ⟨f1,w1,qx j sj r8 _ [] w1 w1 (cu a) _ _ (ak.refl _ _) (fun _ _ h=>nomatch h) (fun _ h=>nomatch h) (fun j' iu t ht=>tx j' (by have:=(qg j j' iu).1; omega) (fun h=>?_) t ht) h1⟩
         subst h
         have:=ji L hL j j' (fun o' bm e' uM=>hL.2 j o' bm nn e' uM) iu
         rw [vc] at this; cases this
        ·rename_i hb
         rw [if_neg hb] at this
         exact this
      ·intro t ht
       rw [ir v t (fun h=>ht i vb (by rw [zV]; exact h))]
       exact inv.other t ht
      ·intro j hj b hb
       by_cases lv:j=i
       ·simp only [if_pos lv] at hb
        have hh:=qw b hb
        have me:=inv.jf.size
        rcases hh.1 with h | h
        ·rcases hblk b h with ⟨u,_,o9,gv⟩ | ⟨hv,gv⟩
         ·exact ⟨(inv.fresh u o9 b gv).1.imp (fun h=>h) fun h=>⟨h.1,h.2.imp fun k hk=>⟨(getSet L i k hL.1 gj).2 (.inr hk.1),hk.2⟩⟩,hh.2⟩
         ·exact ⟨.inr ⟨inv.vg b gv,i,(getSet L i i hL.1 gj).2 (.inl rfl),hv⟩,hh.2⟩
        ·exact ⟨.inl (by omega),hh.2⟩
       ·have nn:=((getSet L i j hL.1 gj).1 hj).resolve_left lv
        simp only [if_neg lv] at hb
        split at hb
        ·cases hb
        ·have h1:=inv.fresh j nn b hb
         have h2:=hC.size
         exact ⟨h1.1.imp (fun h=>h) fun h=>⟨h.1,h.2.imp fun k hk=>⟨(getSet L i k hL.1 gj).2 (.inr hk.1),hk.2⟩⟩,by omega⟩
      ·have uh:∀ j',(L.setIfInBounds i true).getD j' false=true→j'≠i→∀ b∈f,b ∉ (if j'∈U.getD i [] then [] else g j'):=by
        intro j' iu e2 b hb cg
        have IK:=((getSet L i j' hL.1 gj).1 iu).resolve_left e2
        split at cg
        ·cases cg
        ·rename_i su
         rcases (qw b hb).1 with h | h
         ·rcases hblk b h with ⟨u,Cg,o9,gv⟩ | ⟨_,gv⟩
          ·exact inv.w8 u j' o9 IK (fun h=>su (h ▸ Cg)) b gv cg
          ·exact inv.vd j' IK b cg gv
         ·have:=inv.fresh j' IK b cg
          omega
       intro i' j' uB iu mc b hb cg
       by_cases e1:i'=i
       ·have e2:j'≠i:=fun h=>mc (e1.trans h.symm)
        simp only [if_pos e1] at hb
        simp only [if_neg e2] at cg
        exact uh j' iu e2 b hb cg
       ·simp only [if_neg e1] at hb
        by_cases e2:j'=i
        ·simp only [if_pos e2] at cg
         exact uh i' uB e1 b cg hb
        ·simp only [if_neg e2] at cg
         split at hb
         ·cases hb
         ·split at cg
          ·cases cg
          ·exact inv.w8 i' j' (((getSet L i i' hL.1 gj).1 uB).resolve_left e1) (((getSet L i j' hL.1 gj).1 iu).resolve_left e2) mc b hb cg
     cases hb:s.b with
     | true=>
      rw [if_pos hb] at ow
      refine .inl ⟨ow.1,nx ow.2 ?_⟩
      rintro v w' ⟨hC,f,qw,hV⟩
      exact step v w' f hC qw (by rw [if_pos hb]; exact hV)
     | false=>
      rw [if_neg (by rw [hb]; exact Bool.false_ne_true)] at ow
      exact .inr ⟨ow,step undef w [] (ak.refl _ _) (fun b h=>nomatch h) (by rw [if_neg (by rw [hb]; exact Bool.false_ne_true)])⟩
    by_cases Tr:∃ z,z∈Z∧L.getD z false=false∧∀ o,l[z]? = some o→∀ e∈o.after.toList.filter (Region.binds .any),L.getD e.on false=true
    ·obtain ⟨z,hz,Xj,hze⟩:=Tr
     obtain ⟨⟨hzm,hzf⟩,OZ⟩:=hZ z hz
     cases Ha:l[z]? with
     | none=>rw [Ha] at OZ; cases OZ
     | some oz=>
      rw [Ha] at OZ
      simp only [Bool.and_eq_true] at OZ
      obtain ⟨hmv,G9⟩:=OZ
      have Ri:=hze oz Ha
      have hfm:Region.free .any l.toArray L z=true:=OY (fun j hj=>ji L hL z j (fun o' bm=>hze o' bm) hj) hzf
      have hrz:z∈Region.ready .any l.toArray L:=EX L z oz hL.1 Ha Xj Ri
      obtain ⟨dz,opz,tyz,pz,az,gz⟩:=oz
      cases opz <;> first | exact (Bool.false_ne_true hmv).elim | skip
      case move x=>
       cases gz with
       | some _=>simp at G9
       | none=>
        have hev:∀ w',(execOp a.eval ⟨dz,.move x,tyz,pz,az,none⟩).run P w' = .ok (.value (a.eval x)) w':=fun _=>rfl
        refine wpAny_take (by simpa using Ha) Tc hfm (by simpa using hrz) (fun c a w h=>absurd h.2.2 (hp _ _ _)) (v:=a.eval x) (.inl ⟨rfl,hev⟩) ?_
        rcases main z _ (Xh z hz) Ha Xj Ri with ⟨_,h⟩ | ⟨h,_⟩
        ·rw [ny]; exact h
        ·exact absurd h (by simp [Region.wanted])
      case extract x k=>
       cases gz with
       | some _=>simp at G9
       | none=>
        rcases main z _ (Xh z hz) Ha Xj Ri with ⟨_,h⟩ | ⟨h,_⟩
        ·obtain ⟨v,hv,hk⟩:=Kc h
         refine wpAny_take (by simpa using Ha) Tc hfm (by simpa using hrz) (fun c a w h=>absurd h.2.2 (hp _ _ _)) (v:=v) (.inl ⟨rfl,fun w'=>by rw [ny]; exact hv w'⟩) ?_
         exact hk
        ·exact absurd h (by simp [Region.wanted])
    refine ⟨fun h=>(by obtain ⟨i,hi⟩:=Mi; rw [h] at hi; cases hi),fun i hi=>?_⟩
    obtain ⟨q1,oi,po,ve⟩:=Dv L i hi
    have gj:i < l.length:=(List.getElem?_eq_some_iff.1 po).1
    have vc:L.getD i false=false:=getD_both q1
    have vb:i < m:=by
     rcases Nat.lt_or_ge i m with h | h
     ·exact h
     ·have bad:∀ j,j < i→L.getD j false=false→False:=by
       intro j
       induction j using Nat.strongRecOn with
       | _ j ih=>
        intro lv su
        rcases Gk i h gj j lv with hj | hj
        ·have:=ji L hL i j (fun o' bm=>by have:o'=oi:=Option.some.inj (bm.symm.trans po); subst this; exact ve) hj
         rw [su] at this; cases this
        ·refine Tr ⟨j,hj,su,fun o ho e he=>?_⟩
         cases hb:L.getD e.on false with
         | true=>rfl
         | false=>have bb:=xh j o ho e he; exact (ih e.on bb (by omega) hb).elim
      exact (bad j0 (by omega) Dw).elim
    unfold wpOp
    rw [show (l.toArray)[i]? = some oi by simpa using po]
    simp only []
    rw [vX (by rw [g1]; exact hd)]
    rcases main i oi vb po vc ve with ⟨hw,h⟩ | ⟨hw,h⟩
    ·rw [if_pos hw]
     exact .inl (h.wp fun v w' hv=>hv)
    ·rw [if_neg (by rw [hw]; exact Bool.false_ne_true)]
     exact h
 refine head _ _ a _ (fun j=>if j=l.length then H else []) ⟨by simp,?_⟩ ?_ ?_ h1 h2 ⟨ak.nil (ak.drew _ _),fun _=>⟨ak.drew _ _,by simp⟩,fun b hb=>by simpa using hb,?_,?_,?_,?_,?_,?_⟩
 ·intro j o ho hj
  rw [getD_replicate_false] at hj; cases hj
 ·intro j hj
  rw [getD_replicate_false] at hj; cases hj
 ·simp
 ·intro j hj
  rw [getD_replicate_false] at hj; cases hj
 ·intro j hj
  rw [getD_replicate_false] at hj; cases hj
 ·intro j hj
  rw [getD_replicate_false] at hj; cases hj
 ·intro t _
  rw [h3]
 ·intro j hj
  rw [getD_replicate_false] at hj; cases hj
 ·intro i j hi
  rw [getD_replicate_false] at hi; cases hi
theorem iw.val {m i:Nat} {U:LL} {H:LN} {o:Oper} {v:Value} (ho:l[i]? = some o) (hs:S[i]? = some ⟨true,pl fun _ _ u=>u=v⟩) (hg:o.guard=none)
  (h:∀ (g:Nat→List Nat) (r:NV) (w:World),ak H w0 w→(∀ j∈(cf l).getD i [],Old l S j r)→(∀ j,ud l U m i j=true→xI l S j g r w)→(∀ t,(∀ j,j < m→bj l j≠some t)→r t=r0 t)→
   (execOp (ev r) o).run P w = .ok (.value v) w):iw P l m S U r0 w0 H i:=by
 intro o' s' bm b9 g r w hC hV hO hd gu rn ir
 obtain rfl:o=o':=Option.some.inj (ho.symm.trans bm)
 obtain rfl:_=s':=Option.some.inj (hs.symm.trans b9)
 rw [if_pos rfl]
 refine ⟨by unfold Region.wanted; rw [hg],?_⟩
 unfold fh
 rw [h g r w hC hO hd gu]
 exact ⟨ak.refl _ _,[],(fun _ h=>nomatch h),rfl⟩
theorem iw.call {m i:Nat} {U:LL} {H:LN} {o:Oper} {v:Value} {f:FuncId} (ho:l[i]? = some o) (hs:S[i]? = some ⟨true,pl fun _ _ u=>u=v⟩) (hg:o.guard=none)
  (h:∀ (g:Nat→List Nat) (r:NV) (w:World),ak H w0 w→(∀ j∈(cf l).getD i [],Old l S j r)→(∀ j,ud l U m i j=true→xI l S j g r w)→(∀ t,(∀ j,j < m→bj l j≠some t)→r t=r0 t)→
   ∃ args,(execOp (ev r) o).run P w = .ok (.enter f args) w∧Calls P f args w fun e w'=>e = .returned v∧ak [] w w'):iw P l m S U r0 w0 H i:=by
 intro o' s' bm b9 g r w hC hV hO hd gu rn ir
 obtain rfl:o=o':=Option.some.inj (ho.symm.trans bm)
 obtain rfl:_=s':=Option.some.inj (hs.symm.trans b9)
 rw [if_pos rfl]
 refine ⟨by unfold Region.wanted; rw [hg],?_⟩
 unfold fh
 obtain ⟨args,h1,h2⟩:=h g r w hC hO hd gu
 rw [h1]
 exact h2.mono fun e w' ⟨he,hc⟩=>⟨v,he,hc.nil,[],(fun _ h=>nomatch h),rfl⟩
theorem iw.mem {m i:Nat} {U:LL} {H:LN} {o:Oper} {V:List Nat→World→Value→Prop} (ho:l[i]? = some o) (hs:S[i]? = some ⟨true,pl V⟩) (hg:o.guard=none)
  (h:∀ (g:Nat→List Nat) (r:NV) (w:World),ak H w0 w→(∀ j∈(cf l).getD i [],Old l S j r)→(∀ j,ud l U m i j=true→xI l S j g r w)→(∀ t,(∀ j,j < m→bj l j≠some t)→r t=r0 t)→
   fh P o r w fun v w'=>ak [] w w'∧∃ f,(∀ b∈f,w.heap.size≤b∧b < w'.heap.size)∧V f w' v):iw P l m S U r0 w0 H i:=by
 intro o' s' bm b9 g r w hC hV hO hd gu rn ir
 obtain rfl:o=o':=Option.some.inj (ho.symm.trans bm)
 obtain rfl:_=s':=Option.some.inj (hs.symm.trans b9)
 rw [if_pos rfl]
 refine ⟨by unfold Region.wanted; rw [hg],nx (h g r w hC hO hd gu) ?_⟩
 rintro v w' ⟨hC,f,hf,hV⟩
 exact ⟨hC.nil,f,fun b hb=>⟨.inr (hf b hb).1,(hf b hb).2⟩,hV⟩
theorem iw.Il {m i:Nat} {U:LL} {H:LN} {o:Oper} {V:List Nat→World→(Nat→Value)→Value→Prop} (ho:l[i]? = some o) (hs:S[i]? = some ⟨true,V⟩) (hg:o.guard=none)
  (h:∀ (g:Nat→List Nat) (r:NV) (w:World),ak H w0 w→(∀ j∈(cf l).getD i [],Old l S j r)→(∀ j,ud l U m i j=true→xI l S j g r w)→(∀ t,(∀ j,j < m→bj l j≠some t)→r t=r0 t)→
   fh P o r w fun v w'=>ak [] w w'∧∃ f,(∀ b∈f,w.heap.size≤b∧b < w'.heap.size)∧V f w' r v):iw P l m S U r0 w0 H i:=by
 intro o' s' bm b9 g r w hC hV hO hd gu rn ir
 obtain rfl:o=o':=Option.some.inj (ho.symm.trans bm)
 obtain rfl:_=s':=Option.some.inj (hs.symm.trans b9)
 rw [if_pos rfl]
 refine ⟨by unfold Region.wanted; rw [hg],nx (h g r w hC hO hd gu) ?_⟩
 rintro v w' ⟨hC,f,hf,hV⟩
 exact ⟨hC.nil,f,fun b hb=>⟨.inr (hf b hb).1,(hf b hb).2⟩,hV⟩
def Gi {α:Type} (T:ah α) (x:α):List Nat→World→Value→Prop:=fun f w v=>T.rep w.heap [v] x f∧f.Nodup
def acF (cs:LV) (e:TI) (n:Nat):List Nat→World→Value→Prop:=fun f w v=>∃ b,f=[b]∧v = .slice (some ⟨b,0,none⟩) n n∧Row w b cs e
def Ig (a:LN) (l:LO) (s:ig):Prop:=∀ f F (w w':World) (r r':NV) v,ak F w w'→(∀ b∈f,b ∉ F)→(∀ j∈a,∀ t,bj l j=some t→r' t=r t)→s.V f w r v→s.V f w' r' v
theorem O0 {a:LN} {b:Bool} {V:List Nat→World→Value→Prop} (h:∀ f F (w w':World) v,ak F w w'→(∀ b∈f,b ∉ F)→V f w v→V f w' v):Ig a l ⟨b,pl V⟩:=
 fun f F w w' _ _ v hC hn _ hv=>h f F w w' v hC hn hv
theorem LZ {a:LN} {b:Bool} {u:Value}:Ig a l ⟨b,pl fun _ _ v=>v=u⟩:=O0 fun _ _ _ _ _ _ _ h=>h
def LW:Value→Nat→Value
 | .agg cs,i=>cs.getD i undef
 | _,_=>undef
def LU:Value→Nat→Value
 | .tuple cs,i=>cs.getD i undef
 | _,_=>undef
theorem fh.own {α:Type} {T:ah α} {x:α} {o:Oper} {r:NV} {w:World} {f:FuncId} {args:Array Value} (h:(execOp (ev r) o).run P w = .ok (.enter f args) w)
  (hc:Calls P f args w fun e w'=>∃ (v:Value) (k:LN),e = .returned v∧ak [] w w'∧OE [] w.heap.size w' T [v] x k) :
  fh P o r w fun v w'=>ak [] w w'∧∃ f,(∀ b∈f,w.heap.size≤b∧b < w'.heap.size)∧Gi T x f w' v:=by
 unfold fh
 rw [h]
 exact hc.mono fun e w' ⟨v,k,he,hC,ho⟩=>⟨v,he,hC,k,fun b hb=>⟨ho.fresh b hb,T.lt ho.1 b hb⟩,ho.1,ho.2.1⟩
theorem fh.made {α:Type} {T:ah α} {x:α} {o:Oper} {r:NV} {w:World} (h:∃ v w' f,(execOp (ev r) o).run P w = .ok (.value v) w'∧ak [] w w'∧OE [] w.heap.size w' T [v] x f) :
  fh P o r w fun v w'=>ak [] w w'∧∃ f,(∀ b∈f,w.heap.size≤b∧b < w'.heap.size)∧Gi T x f w' v:=by
 obtain ⟨v,w',f,hr,hC,ho⟩:=h
 unfold fh
 rw [hr]
 exact ⟨hC,f,fun b hb=>⟨ho.fresh b hb,T.lt ho.1 b hb⟩,ho.1,ho.2.1⟩
theorem uK {f g:LN} (h1:f.Nodup) (h2:g.Nodup) (d:rZ f g):(f++g).Nodup:=List.nodup_append.2 ⟨h1,h2,fun a ha _ hb oy=>d a ha (oy ▸ hb)⟩
theorem fh.tw {α:Type} {E:ah α} {F f:LN} {t e et:TI} {s x:OO} {i:TypeInfo} {z:Value} {sv u:Value} {xs:List α} {y:α} {b:Nat} {r:NV} {w:World} {d:Option Nat} {ty:TI} {pos:String} {ab:Array Edge}
  (ht:P.underlying t=some (.slice e)) (hi:P.info? e=some i) (hz:i.zero=some z) (hs:i.size=1) (hE:E.size=1) (zS:z.oneCell'=true)
  (uJ:ev r s=sv) (hO:Gi (aJ e E) xs f w sv) (hF:∀ b∈f,b∈F) (hx:ev r x = .slice (some ⟨b,0,none⟩) 1 1) (av:Row w b [u] et) (hy:E.rep w.heap [u] y [])
  (hb:(xs.length+1) * i.bytes≤140737488355328) (yU:xs.length+1≤maxLen) :
  fh P ⟨d,.call ⟨.builtin .append,#[s,x],#[t,t]⟩,ty,pos,ab,none⟩ r w fun v w'=>ak F w w'∧∃ f',(∀ b∈f',(b∈F∨w.heap.size≤b)∧b < w'.heap.size)∧Gi (aJ e E) (xs++[y]) f' w' v:=by
 obtain ⟨v,w',f',h,hC,c9,bp,cp⟩:=kv (d:=d) (ty:=ty) (pos:=pos) (ab:=ab) (g:=none) (ys:=[y]) ht hi hz (by rw [hs,hE]) (by rw [cells_one zS,hE]; rfl) uJ hO.1 hO.2 hx av.at (l6 hy) (fun _ h=>nomatch h) (by simp) hb yU
 unfold fh
 rw [h]
 refine ⟨hC.mono hF,f',fun b hb=>⟨?_,ah.lt _ c9 b hb⟩,c9,cp List.nodup_nil⟩
 rcases bp b hb with h | h | h
 ·exact .inl (hF b h)
 ·cases h
 ·exact .inr h
theorem fh.Ge {t e:TI} {i:TypeInfo} {z u:Value} {x:OO} {r:NV} {w:World} {d:Option Nat} {ty:TI} {pos:String} {ab:Array Edge} (ht:P.underlying t=some (.slice e)) (hi:P.info? e=some i) (hz:i.zero=some z)
  (hs:i.size=1) (hx:ev r x=u) (hv:u.oneCell'=true) :
  fh P ⟨d,.buildSlice t 1 #[(0,x)],ty,pos,ab,none⟩ r w fun v w'=>ak [] w w'∧∃ f,(∀ b∈f,w.heap.size≤b∧b < w'.heap.size)∧acF [u] e 1 f w' v:=by
 unfold fh
 rw [K4 ht hi hz hs (by rw [hx]; exact hv),hx]
 exact ⟨ak.alloc _ _ _,[w.heap.size],fun b hb=>by rw [List.mem_singleton.1 hb]; simp,w.heap.size,rfl,rfl,heap_alloc_new w _⟩
end
end Go.Li
