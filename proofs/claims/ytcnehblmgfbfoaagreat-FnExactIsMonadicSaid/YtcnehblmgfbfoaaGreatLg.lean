/- A region that draws its order, whatever it holds: its head in any order, its tail one behind the other. No condition. -/
import Derived.Test.YtcnehblmgfbfoaaGreatLf
import Derived.Still
namespace Go.Li
open Go
def iz (acc:LL) (o:Oper):List (List Nat):=
 acc++[(o.after.toList.filter (Region.binds .any)).flatMap fun e=>e.on :: acc.getD e.on []]
def bp (l:LO):List (List Nat):=l.foldl iz []
structure ep where
 b:Bool
 V:List Nat→World→(Nat→Value)→Value→Prop
abbrev pl (V:List Nat→World→Value→Prop):List Nat→World→(Nat→Value)→Value→Prop:=fun f w _ v=>V f w v
def nv (P:Program) (n:Nat) (l:LO) (Q:Exit→(Nat→Value)→World→Prop) (r:NV) (w:World):Prop:=
 ∀ a:Act,a.tmps.size=n→a.defers=[]→ca a=r→wpAny P .any l.toArray (fun e a' w'=>a'.tmps.size=n∧a'.defers=[]∧Q e (ca a') w') l.toArray.size (Array.replicate l.toArray.size false) a { w with drawn:=w.drawn+1 }
theorem nv.W {P:Program} {n id:Nat} {l:LO} {Q:Exit→(Nat→Value)→World→Prop} {r:NV} {w:World} (hm:P.follows .mixedOrders=true) (h:nv P n l Q r w):W P n (.region id l.toArray true) Q r w:=
 fun a h1 h2 h3=>wp_region_any hm (h a h1 h2 h3)
def WY (l:LO) (σ π:LN):Bool:=
 Nat.beq σ.length l.length && Nat.beq π.length l.length &&
 ((List.range l.length).all fun i=>Nat.blt (π.getD i 0) l.length && Nat.beq (σ.getD (π.getD i 0) 0) i && Nat.blt (σ.getD i 0) l.length && Nat.beq (π.getD (σ.getD i 0) 0) i) &&
 l.all fun o=>o.guard.isNone && o.after.toList.all fun e=>Nat.blt e.on l.length
section
variable {P:Program} {l:LO} {σ π:LN} (h:WY l σ π=true)
include h
end
section
variable {P:Program} {n:Nat} {Q:Exit→(Nat→Value)→World→Prop} {r0:NV} {w0:World} {l:LO} {S:List ep}
def bh (l:LO) (j:Nat):Option Nat:=(l[j]?).bind (·.dst)
def rT (l:LO) (S:List ep) (j:Nat) (g:Nat→List Nat) (r:NV) (w:World):Prop:=
 (∀ d,bh l j=some d→match S[j]? with
  | some s=>if s.b then s.V (g j) w r (r d) else r d=undef
  | none=>True)∧(bh l j=none→∀ s,S[j]? = some s→s.b=true→∃ x,s.V (g j) w r x)
def Old (l:LO) (S:List ep) (j:Nat) (r:NV):Prop:=∀ d,bh l j=some d→∀ s,S[j]? = some s→if s.b then ∃ f w,s.V f w r (r d) else r d=undef
structure uk (l:LO) (m:Nat) (S:List ep) (U:LL) (r0:NV) (w0:World) (H:LN) (L:Nat→Prop) (g:Nat→List Nat) (r:NV) (w:World):Prop where
 jf:aq H w0 w
 x7:(∀ k,L k→l.length ∉ U.getD k [])→aq [] w0 w∧g l.length=H
 vg:∀ b∈g l.length,b∈H
 vd:∀ j,L j→p9 (g j) (g l.length)
 done:∀ j,L j→(∀ k,L k→j ∉ U.getD k [])→rT l S j g r w
 qI:∀ j,L j→Old l S j r
 other:∀ t,(∀ j,j < m→bh l j≠some t)→r t=r0 t
 fresh:∀ j,L j→∀ b∈g j,(w0.heap.size≤b∨(b∈H∧∃ k,L k∧l.length∈U.getD k []))∧b < w.heap.size
 tF:∀ i j,L i→L j→i≠j→p9 (g i) (g j)
def ov (l:LO) (U:LL) (m i j:Nat):Bool:=
 ((bp l).getD i []).contains j && (List.range m).all fun k=>!((U.getD k []).contains j) || Nat.beq k i || ((bp l).getD k []).contains i
def qQ (g:Nat→List Nat) (us:LN):List Nat:=us.flatMap g
def u4 (l:LO) (U:LL) (m i:Nat):Bool:=(List.range m).all fun k=>!((U.getD k []).contains l.length) || Nat.beq k i || ((bp l).getD k []).contains i
def fy (P:Program) (l:LO) (m:Nat) (S:List ep) (U:LL) (r0:NV) (w0:World) (H:LN) (i:Nat):Prop:=
 ∀ o s,l[i]? = some o→S[i]? = some s→∀ (g:Nat→List Nat) (r:NV) (w:World),aq H w0 w→(u4 l U m i=true→aq [] w0 w∧g l.length=H∧∀ j∈(bp l).getD i [],∀ b∈g j,w0.heap.size≤b)→(∀ j∈(bp l).getD i [],Old l S j r)→(∀ j,ov l U m i j=true→rT l S j g r w)→(∀ t,(∀ j,j < m→bh l j≠some t)→r t=r0 t)→
  (∀ i'∈(bp l).getD i [],∀ j'∈(bp l).getD i [],i'≠j'→p9 (g i') (g j'))→(∀ j∈(bp l).getD i [],∀ b∈g j,(w0.heap.size≤b∨b∈H)∧b < w.heap.size)→
  if s.b then Region.wanted o (yl l r)=true∧eg P o r w fun v w'=>aq (qQ g (U.getD i [])) w w'∧∃ f,(∀ b∈f,(b∈qQ g (U.getD i [])∨w.heap.size≤b)∧b < w'.heap.size)∧s.V f w' r v
  else Region.wanted o (yl l r)=false
def x5:List Nat→Bool
 | []=>true
 | x :: l=>!(l.contains x) && x5 l
theorem vy:∀ {l:LN},x5 l=true→l.Nodup
 | [],_=>List.nodup_nil
 | x :: l,h=>by
  simp only [x5,Bool.and_eq_true,Bool.not_eq_true',List.contains_eq_mem,decide_eq_false_iff_not] at h
  exact List.nodup_cons.2 ⟨h.1,vy h.2⟩
def um (l:LO) (m:Nat) (Z:LN):Bool:=
 ((List.range l.length).all fun i=>((l.getD i default).after.toList.filter (Region.binds .any)).all fun e=>Nat.blt e.on i) &&
 ((List.range l.length).all fun i=>Nat.blt i m || (List.range i).all fun j=>((bp l).getD i []).contains j || Z.contains j) &&
 x5 ((l.take m).filterMap (·.dst))
def RF (o:Oper):Bool:=match o.op with | .move _=>true | .extract _ _=>true | _=>false
def LU (l:LO) (i:Nat):Array Bool:=((List.range l.length).map fun j=>((bp l).getD i []).contains j).toArray
def zW (l:LO) (m:Nat) (Z:LN):Bool:=
 Region.noSelect l.toArray && Z.all fun i=>Nat.blt i m && Region.free .any l.toArray (LU l i) i &&
  match l[i]? with
  | some o=>RF o && o.guard.isNone
  | none=>false
theorem Jv {l:LO} {L:Array Bool} {i:Nat} (hL:∀ j∈(bp l).getD i [],L.getD j false=true) (h:Region.free .any l.toArray (LU l i) i=true):Region.free .any l.toArray L i=true:=by
 unfold Region.free at h ⊢
 cases ho:(l.toArray)[i]? with
 | none=>rw [ho] at h; cases h
 | some oi=>
  rw [ho] at h
  simp only [List.all_eq_true,List.mem_range,Bool.or_eq_true] at h ⊢
  intro j hj
  rcases h j hj with (h1 | h1) | h1
  ·exact .inl (.inl h1)
  ·have bo:j < l.length:=by simpa using hj
   have hm:j∈(bp l).getD i []:=by
    unfold LU at h1
    have:((List.range l.length).map fun j=>((bp l).getD i []).contains j)[j]? = some (((bp l).getD i []).contains j):=by
     rw [List.getElem?_map,List.getElem?_range bo]; rfl
    rw [Array.getD_eq_getD_getElem?,List.getElem?_toArray,this] at h1
    simpa using h1
   refine .inl (.inr ?_)
   have h2:=hL j hm
   rcases Nat.lt_or_ge j L.size with h' | h'
   ·simp [h'] at h2 ⊢; exact h2
   ·simp [Array.getElem?_eq_none h'] at h2
  ·exact .inr h1
theorem Fz {P:Program} {d:Option Nat} {x:OO} {k:Nat} {ty:TI} {pos:String} {af:Array Edge} {g:Option (Nat×Bool)} {r:NV} {w:World} {K:Value→World→Prop} (h:eg P ⟨d,.extract x k,ty,pos,af,g⟩ r w K) :
  ∃ v,(∀ w',(execOp (ev r) ⟨d,.extract x k,ty,pos,af,g⟩).run P w' = .ok (.value v) w')∧K v w:=by
 have e:execOp (ev r) ⟨d,.extract x k,ty,pos,af,g⟩ = (Instr.extract (ev r x) k>>=fun v=>pure (.value v)):=rfl
 unfold eg at h
 rw [e] at h ⊢
 generalize ev r x=u at h ⊢
 cases u
 case tuple vs=>
  cases hv:vs[k]? with
  | none=>simp [Instr.extract,hv,stuck,Result.andThen,Sem.run] at h
  | some v=>
   refine ⟨v,fun w'=>?_,?_⟩
   ·simp [Instr.extract,hv]
   ·simpa [Instr.extract,hv] using h
 all_goals simp [Instr.extract,stuck,Result.andThen,Sem.run] at h
theorem wY (l:LO):∀ (i:Nat) (o:Oper),l[i]? = some o→(bp l)[i]? = some ((o.after.toList.filter (Region.binds .any)).flatMap fun e=>e.on :: ((bp l).take i).getD e.on []):=by
 have key:∀ (l:LO) (acc:LL),(l.foldl iz acc).length=acc.length+l.length∧(∀ j,j < acc.length→(l.foldl iz acc)[j]? = acc[j]?)∧
   ∀ i o,l[i]? = some o→(l.foldl iz acc)[acc.length+i]? = some ((o.after.toList.filter (Region.binds .any)).flatMap fun e=>e.on :: ((l.foldl iz acc).take (acc.length+i)).getD e.on []):=by
  intro l
  induction l with
  | nil=>intro acc; exact ⟨rfl,fun _ _=>rfl,fun i o h=>by simp at h⟩
  | cons x l ih=>
   intro acc
   obtain ⟨h1,h2,h3⟩:=ih (iz acc x)
   have hl:(iz acc x).length=acc.length+1:=by simp [iz]
   have hold:∀ j,j < acc.length→(iz acc x)[j]? = acc[j]?:=fun j hj=>by simp only [iz]; rw [List.getElem?_append_left hj]
   refine ⟨by simp only [List.foldl_cons,h1,hl,List.length_cons]; omega,fun j hj=>?_,?_⟩
   ·rw [List.foldl_cons,h2 j (by omega),hold j hj]
   ·intro i o hi
    cases i with
    | zero=>
     simp at hi
     subst hi
     have T9:(List.foldl iz acc (x :: l)).take (acc.length+0)=acc:=by
      apply List.ext_getElem?
      intro j
      rw [Nat.add_zero,List.getElem?_take]
      split
      ·rename_i hj
       rw [List.foldl_cons,h2 j (by omega),hold j hj]
      ·rename_i hj
       rw [List.getElem?_eq_none (by omega)]
     rw [T9]
     rw [Nat.add_zero,List.foldl_cons,h2 _ (by omega)]
     simp only [iz]
     rw [List.getElem?_append_right (Nat.le_refl _)]
     simp
    | succ i=>
     have:=h3 i o (by simpa using hi)
     rw [hl] at this
     rw [List.foldl_cons]
     rw [show acc.length+(i+1)=acc.length+1+i by omega]
     exact this
 intro i o hi
 have:=(key l []).2.2 i o hi
 simpa [bp] using this
theorem x6 (l:LO) (hb:∀ (i:Nat) (o:Oper),l[i]? = some o→∀ e∈o.after.toList.filter (Region.binds .any),e.on < i) :
  ∀ (i j:Nat),j∈(bp l).getD i []→j < i∧∃ o,l[i]? = some o∧∃ e∈o.after.toList.filter (Region.binds .any),j=e.on∨j∈(bp l).getD e.on []:=by
 intro i j hj
 cases ho:l[i]? with
 | none=>
  have hlen:(bp l).length=l.length:=by
   have:∀ (l:LO) (acc:LL),(l.foldl iz acc).length=acc.length+l.length:=by
    intro l
    induction l with
    | nil=>intro acc; rfl
    | cons x l ih=>intro acc; rw [List.foldl_cons,ih]; simp [iz]; omega
   simpa [bp] using this l []
  rw [List.getD_eq_getElem?_getD,List.getElem?_eq_none (by rw [hlen]; exact List.getElem?_eq_none_iff.1 ho)] at hj
  simp at hj
 | some o=>
  have h:=wY l i o ho
  rw [List.getD_eq_getElem?_getD,h] at hj
  simp only [Option.getD_some,List.mem_flatMap,List.mem_cons] at hj
  obtain ⟨e,he,hj⟩:=hj
  have bo:=hb i o ho e he
  have RG:((bp l).take i).getD e.on []=(bp l).getD e.on []:=by
   rw [List.getD_eq_getElem?_getD,List.getD_eq_getElem?_getD,List.getElem?_take,if_pos bo]
  rw [RG] at hj
  refine ⟨?_,o,rfl,e,he,hj⟩
  rcases hj with rfl | hj
  ·exact bo
  ·-- by the strong law below
   have:∀ (k i:Nat),i≤k→∀ j∈(bp l).getD i [],j < i:=by
    intro k
    induction k with
    | zero=>
     intro i hi j hj
     obtain rfl:i=0:=by omega
     cases ho:l[0]? with
     | none=>
      obtain rfl:l=[]:=by cases l with | nil=>rfl | cons=>simp at ho
      simp [bp] at hj
     | some o=>
      have h:=wY l 0 o ho
      rw [List.getD_eq_getElem?_getD,h] at hj
      simp only [Option.getD_some,List.mem_flatMap] at hj
      obtain ⟨e,he,_⟩:=hj
      exact absurd (hb 0 o ho e he) (Nat.not_lt_zero _)
    | succ k ih=>
     intro i hi j hj
     cases ho:l[i]? with
     | none=>
      have hlen:(bp l).length=l.length:=by
       have:∀ (l:LO) (acc:LL),(l.foldl iz acc).length=acc.length+l.length:=by
        intro l
        induction l with
        | nil=>intro acc; rfl
        | cons x l ih=>intro acc; rw [List.foldl_cons,ih]; simp [iz]; omega
       simpa [bp] using this l []
      rw [List.getD_eq_getElem?_getD,List.getElem?_eq_none (by rw [hlen]; exact List.getElem?_eq_none_iff.1 ho)] at hj
      simp at hj
     | some o=>
      have h:=wY l i o ho
      rw [List.getD_eq_getElem?_getD,h] at hj
      simp only [Option.getD_some,List.mem_flatMap,List.mem_cons] at hj
      obtain ⟨e,he,hj⟩:=hj
      have bo:=hb i o ho e he
      rcases hj with rfl | hj
      ·exact bo
      ·have RG:((bp l).take i).getD e.on []=(bp l).getD e.on []:=by
        rw [List.getD_eq_getElem?_getD,List.getD_eq_getElem?_getD,List.getElem?_take,if_pos bo]
       rw [RG] at hj
       have:=ih e.on (by omega) j hj
       omega
   exact Nat.lt_trans (this e.on e.on (Nat.le_refl _) j hj) bo
theorem wQ (l:LO) (hb:∀ (i:Nat) (o:Oper),l[i]? = some o→∀ e∈o.after.toList.filter (Region.binds .any),e.on < i) {j k:Nat} (hj:j∈(bp l).getD k []):∀ {i:Nat},k∈(bp l).getD i []→j∈(bp l).getD i []:=by
 intro i
 induction i using Nat.strongRecOn with
 | _ i ih=>
  intro hk
  obtain ⟨_,o,ho,e,he,RH⟩:=x6 l hb i k hk
  have bo:=hb i o ho e he
  have h2:j∈(bp l).getD e.on []:=RH.elim (fun h=>h ▸ hj) (fun h=>ih e.on bo h)
  have h:=wY l i o ho
  rw [List.getD_eq_getElem?_getD,h]
  simp only [Option.getD_some,List.mem_flatMap,List.mem_cons]
  refine ⟨e,he,.inr ?_⟩
  rw [List.getD_eq_getElem?_getD,List.getElem?_take,if_pos bo,← List.getD_eq_getElem?_getD]
  exact h2
theorem getD_both {Eb:Array Bool} {i:Nat} (h:Eb.getD i true=false):Eb.getD i false=false:=by
 rcases Nat.lt_or_ge i Eb.size with h' | h'
 ·simp [h'] at h ⊢; exact h
 ·simp [Array.getElem?_eq_none h'] at h
theorem getD_replicate_false (m j:Nat):(Array.replicate m false).getD j false=false:=by
 rcases Nat.lt_or_ge j m with h | h
 ·simp [h]
 ·simp [h]
theorem BR:∀ (l:LO),(l.filterMap (·.dst)).Nodup→∀ i j d,bh l i=some d→bh l j=some d→i=j:=by
 intro l
 induction l with
 | nil=>intro _ i j d h; simp [bh] at h
 | cons o l ih=>
  intro hn i j d hi hj
  have RI:∀ k,bh (o :: l) (k+1)=some d→d∈l.filterMap (·.dst):=by
   intro k hk
   simp only [bh,List.getElem?_cons_succ] at hk
   cases ho:l[k]? with
   | none=>rw [ho] at hk; cases hk
   | some x=>rw [ho] at hk; exact List.mem_filterMap.2 ⟨x,List.mem_of_getElem? ho,hk⟩
  have h0:∀ e,o.dst=some e→e ∉ l.filterMap (·.dst)∧(l.filterMap (·.dst)).Nodup:=by
   intro e he
   rw [List.filterMap_cons_some he] at hn
   exact List.nodup_cons.1 hn
  have sQ:(l.filterMap (·.dst)).Nodup:=by
   cases hd:o.dst with
   | none=>rwa [List.filterMap_cons_none hd] at hn
   | some e=>exact (h0 e hd).2
  cases i with
  | zero=>
   cases j with
   | zero=>rfl
   | succ j=>exact absurd (RI j hj) (h0 d (by simpa [bh] using hi)).1
  | succ i=>
   cases j with
   | zero=>exact absurd (RI i hi) (h0 d (by simpa [bh] using hj)).1
   | succ j=>rw [ih sQ i j d (by simpa [bh] using hi) (by simpa [bh] using hj)]
theorem iq {m j:Nat} (hj:j < m):bh (l.take m) j=bh l j:=by
 unfold bh
 rw [List.getElem?_take,if_pos hj]
theorem qj {o:Oper} {r:NV} {w:World} {K K':Value→World→Prop} (h:eg P o r w K) (hk:∀ v w',K v w'→K' v w'):eg P o r w K':=by
 unfold eg at h ⊢
 cases hr:(execOp (ev r) o).run P w with
 | ok x w'=>
  rw [hr] at h
  cases x with
  | value v=>exact hk _ _ h
  | skip=>exact hk _ _ h
  | enter f args=>exact h.mono fun e BK ⟨v,he,hv⟩=>⟨v,he,hk _ _ hv⟩
  | _=>exact h
 | _=>rw [hr] at h; exact h.elim
theorem BQ {m:Nat} {Z:LN} (h:um l m Z=true):∀ (i:Nat) (o:Oper),l[i]? = some o→∀ e∈o.after.toList.filter (Region.binds .any),e.on < i:=by
 simp only [um,Bool.and_eq_true,List.all_eq_true,List.mem_range] at h
 intro i o ho e he
 have hi:i < l.length:=(List.getElem?_eq_some_iff.1 ho).1
 have:=h.1.1 i hi e (by rw [List.getD_eq_getElem?_getD,ho]; exact he)
 exact Nat.lt_of_succ_le (Nat.le_of_ble_eq_true this)
theorem IV {m:Nat} {U:LL} {Z H:LN} {N:Nat→Prop} (hd:cu n l=true) (hA:um l m Z=true) (hZ:zW l m Z=true) (hp:∀ c r w,Q (.panic c) r w→False) (Dq:m≤l.length)
  (hS:S.length=m)
  (hH:∀ b∈H,b < w0.heap.size) (hU:((List.range m).all fun i=>(U.getD i []).all fun u=>Nat.beq u l.length || ((bp l).getD i []).contains u)=true)
  (hN:∀ b,N b→b < w0.heap.size∧b ∉ H)
  (nw:∀ (i:Nat) (s:ep),S[i]? = some s→∀ f F (w w':World) (r r':NV) v,aq F w w'→(∀ b∈f,b ∉ F)→(∀ b∈F,¬ N b)→(∀ j∈(bp l).getD i [],∀ t,bh l j=some t→r' t=r t)→s.V f w r v→s.V f w' r' v)
  (K9:∀ i,i < m→fy P l m S U r0 w0 H i)
  (next:∀ g r w,uk l m S U r0 w0 H (fun j=>j < m) g r w→WL P l (l.drop m) r w (Q .normal)) :
  nv P n l Q r0 w0:=by
 simp only [um,Bool.and_eq_true,List.all_eq_true,List.mem_range,Bool.or_eq_true] at hA
 obtain ⟨⟨QC,QD⟩,QF⟩:=hA
 have tL:∀ (i:Nat) (o:Oper),l[i]? = some o→∀ e∈o.after.toList.filter (Region.binds .any),e.on < i:=by
  intro i o ho e he
  have hi:i < l.length:=(List.getElem?_eq_some_iff.1 ho).1
  have:=QC i hi e (by rw [List.getD_eq_getElem?_getD,ho]; exact he)
  exact Nat.lt_of_succ_le (Nat.le_of_ble_eq_true this)
 have Hs:∀ i,m≤i→i < l.length→∀ j,j < i→j∈(bp l).getD i []∨j∈Z:=by
  intro i h1 h2 j hj
  rcases QD i h2 with h | h
  ·exact absurd (Nat.lt_of_succ_le (Nat.le_of_ble_eq_true h)) (Nat.not_lt.2 h1)
  ·have:=h j hj
   simpa using this
 simp only [zW,Bool.and_eq_true,List.all_eq_true] at hZ
 obtain ⟨NG,hZ⟩:=hZ
 have RJ:∀ z∈Z,z < m:=fun z hz=>Nat.lt_of_succ_le (Nat.le_of_ble_eq_true (hZ z hz).1.1)
 have QG:∀ i,i < m→∀ u∈U.getD i [],u=l.length∨u∈(bp l).getD i []:=by
  intro i hi u hu
  simp only [List.all_eq_true,List.mem_range] at hU
  have:=hU i hi u hu
  simpa using this
 have ey:=BR _ (vy QF)
 have ni:=x6 l tL
 intro a h1 h2 h3
 let Cl (L:Array Bool):Prop:=L.size=l.length∧∀ j o,l[j]? = some o→L.getD j false=true→∀ e∈o.after.toList.filter (Region.binds .any),L.getD e.on false=true
 have gn:∀ L,Cl L→∀ i j,(∀ o,l[i]? = some o→∀ e∈o.after.toList.filter (Region.binds .any),L.getD e.on false=true)→j∈(bp l).getD i []→L.getD j false=true:=by
  intro L hL i
  induction i using Nat.strongRecOn with
  | _ i ih=>
   intro j hi hj
   obtain ⟨_,o,ho,e,he,Dy⟩:=ni i j hj
   have hl:=hi o ho e he
   rcases Dy with rfl | Dy
   ·exact hl
   ·exact ih e.on (tL i o ho e he) j (fun o' db e' rW=>hL.2 _ _ db hl e' rW) Dy
 have Gt:∀ L i,i∈Region.ready .any l.toArray L→L.getD i true=false∧∃ o,l[i]? = some o∧∀ e∈o.after.toList.filter (Region.binds .any),L.getD e.on false=true:=by
  intro L i hi
  obtain ⟨g1,o,ho,jr⟩:=mem_ready.1 hi
  refine ⟨g1,o,by simpa using ho,fun e he=>?_⟩
  have:=List.mem_filter.1 he
  exact jr e (by simpa using this.1) this.2
 have zZ:∀ L i o,L.size=l.length→l[i]? = some o→L.getD i false=false→(∀ e∈o.after.toList.filter (Region.binds .any),L.getD e.on false=true)→i∈Region.ready .any l.toArray L:=by
  intro L i o hs ho hu jr
  refine mem_ready.2 ⟨?_,o,by simpa using ho,fun e he hb=>jr e (List.mem_filter.2 ⟨by simpa using he,hb⟩)⟩
  have hi:i < L.size:=by rw [hs]; exact (List.getElem?_eq_some_iff.1 ho).1
  simp [hi] at hu ⊢; exact hu
 have CC:∀ L i o,Cl L→l[i]? = some o→(∀ e∈o.after.toList.filter (Region.binds .any),L.getD e.on false=true)→Cl (L.setIfInBounds i true):=by
  intro L i o hL ho jr
  refine ⟨by rw [Array.size_setIfInBounds]; exact hL.1,fun j o' db hj e he=>?_⟩
  by_cases si:i=j
  ·subst si
   have:o'=o:=Option.some.inj (db.symm.trans ho)
   subst this
   exact getD_set_true (jr e he)
  ·rw [getD_set_ne false si] at hj
   exact getD_set_true (hL.2 j o' db hj e he)
 have getSet:∀ (L:Array Bool) i j,L.size=l.length→i < l.length→((L.setIfInBounds i true).getD j false=true↔j=i∨L.getD j false=true):=by
  intro L i j hs hi
  by_cases si:i=j
  ·subst si
   simp [hs,hi]
  ·rw [getD_set_ne false si]
   constructor
   ·exact .inr
   ·rintro (h | h)
    ·exact absurd h.symm si
    ·exact h
 have Dz:∀ (L:Array Bool) i,L.size=l.length→i < l.length→L.getD i false=false→(L.setIfInBounds i true).toList.count false+1=L.toList.count false:=by
  intro L i hs hi hu
  have qE:i < L.toList.length:=by simpa [hs] using hi
  have zb:L.toList[i]=false:=by
   rw [Array.getElem_toList]
   simp [hs,hi] at hu
   exact hu
  rw [Array.toList_setIfInBounds,List.count_set qE,zb]
  have:0 < L.toList.count false:=List.count_pos_iff.2 (by rw [← zb]; exact List.getElem_mem qE)
  rw [if_pos (by rfl),if_neg (by decide)]
  omega
 have tail:∀ (d k fuel:Nat) (L:Array Bool) (a:Act) (w:World),l.length - k=d→m≤k→k≤l.length→Cl L→(∀ j,L.getD j false=true↔j < k)→L.toList.count false≤fuel→a.tmps.size=n→a.defers=[]→
   WL P l (l.drop k) (ca a) w (Q .normal)→wpAny P .any l.toArray (fun e a' w'=>a'.tmps.size=n∧a'.defers=[]∧Q e (ca a') w') fuel L a w:=by
  intro d
  induction d with
  | zero=>
   intro k fuel L a w hk hmk Nl hL fc hf g1 g2 hW
   obtain rfl:k=l.length:=by omega
   rw [List.drop_length] at hW
   have qL:Region.ready .any l.toArray L=[]:=by
    apply List.eq_nil_iff_forall_not_mem.2
    intro i hi
    obtain ⟨q1,o,ho,_⟩:=Gt L i hi
    have bo:i < l.length:=(List.getElem?_eq_some_iff.1 ho).1
    have:=(fc i).2 bo
    simp [hL.1,bo] at q1 this
    rw [q1] at this; cases this
   cases fuel with
   | zero=>exact ⟨qL,g1,g2,hW⟩
   | succ fuel=>exact ⟨fun _=>⟨g1,g2,hW⟩,fun i hi=>by rw [qL] at hi; cases hi⟩
  | succ d ih=>
   intro k fuel L a w hk hmk Nl hL fc hf g1 g2 hW
   have HP:k < l.length:=by omega
   obtain ⟨o,ho⟩ : ∃ o,l[k]? = some o:=⟨l[k],List.getElem?_eq_getElem HP⟩
   have RL:L.getD k false=false:=by
    cases hb:L.getD k false with
    | false=>rfl
    | true=>exact absurd ((fc k).1 hb) (Nat.lt_irrefl _)
   have VU:k∈Region.ready .any l.toArray L:=zZ L k o hL.1 ho RL fun e he=>(fc _).2 (tL k o ho e he)
   have Ua:l.drop k=o :: l.drop (k+1):=by rw [List.drop_eq_getElem_cons HP]; congr 1; exact Option.some.inj ((List.getElem?_eq_getElem HP).symm.trans ho)
   rw [Ua] at hW
   have hc:=Dz L k hL.1 HP RL
   cases fuel with
   | zero=>omega
   | succ fuel=>
    refine ⟨fun h=>(by rw [h] at VU; cases VU),fun i hi=>?_⟩
    obtain ⟨q1,oi,mi,jr⟩:=Gt L i hi
    have dw:i < l.length:=(List.getElem?_eq_some_iff.1 mi).1
    have rZ:L.getD i false=false:=getD_both q1
    have hik:i=k:=by
     rcases Nat.lt_trichotomy i k with h | h | h
     ·have:=(fc i).2 h; rw [rZ] at this; cases this
     ·exact h
     ·have:=gn L hL i k (fun o' db=>by have:o'=oi:=Option.some.inj (db.symm.trans mi); subst this; exact jr) ((Hs i (by omega) dw k h).resolve_right fun hz=>absurd (RJ k hz) (by omega))
      rw [RL] at this; cases this
    subst hik
    have I4:oi=o:=Option.some.inj (mi.symm.trans ho)
    subst I4
    have BT:∀ k',oi.dst=some k'→k' < a.tmps.size:=by
     intro k' DB
     have xZ:oi∈l:=List.mem_of_getElem? mi
     simp only [cu,List.all_eq_true] at hd
     have:=hd oi xZ
     rw [DB] at this
     rw [g1]
     exact Nat.lt_of_succ_le (Nat.le_of_ble_eq_true this)
    have BS:=CC L i oi hL mi jr
    have Di:∀ j,(L.setIfInBounds i true).getD j false=true↔j < i+1:=by
     intro j
     rw [getSet L i j hL.1 dw,fc j]
     omega
    unfold wpOp
    rw [show (l.toArray)[i]? = some oi by simpa using mi]
    simp only []
    rw [wS (by rw [g1]; exact hd)]
    rcases hW with ⟨hw,hW⟩ | ⟨hw,hW⟩
    ·rw [if_pos hw]
     exact .inl (hW.wp fun v w' hv=>ih (i+1) fuel _ _ _ (by omega) (by omega) (by omega) BS Di (by omega) (by rw [gy]; exact g1) (by rw [fg]; exact g2) (by rw [jg BT]; exact hv))
    ·rw [if_neg (by rw [hw]; exact Bool.false_ne_true)]
     exact ih (i+1) fuel _ _ _ (by omega) (by omega) (by omega) BS Di (by omega) (by rw [gy]; exact g1) (by rw [fg]; exact g2) (by rw [jg BT]; exact hW)
 have head:∀ (fuel:Nat) (L:Array Bool) (a:Act) (w:World) (g:Nat→List Nat),Cl L→(∀ j,L.getD j false=true→j < m)→L.toList.count false≤fuel→a.tmps.size=n→a.defers=[]→
   uk l m S U r0 w0 H (fun j=>L.getD j false=true) g (ca a) w→wpAny P .any l.toArray (fun e a' w'=>a'.tmps.size=n∧a'.defers=[]∧Q e (ca a') w') fuel L a w:=by
  intro fuel
  induction fuel with
  | zero=>
   intro L a w g hL rX hf g1 g2 inv
   have jr:∀ j,j < l.length→L.getD j false=true:=by
    intro j hj
    cases hb:L.getD j false with
    | true=>rfl
    | false=>have:=Dz L j hL.1 hj hb; omega
   have fc:∀ j,L.getD j false=true↔j < m:=fun j=>⟨rX j,fun h=>jr j (by omega)⟩
   refine tail _ m 0 L a w rfl (Nat.le_refl _) Dq hL fc hf g1 g2 (next g _ _ ?_)
   exact ⟨inv.jf,fun hk=>inv.x7 fun k uq=>hk k ((fc k).1 uq),inv.vg,fun j hj=>inv.vd j ((fc j).2 hj),fun j hj hk=>inv.done j ((fc j).2 hj) (fun k uq=>hk k ((fc k).1 uq)),fun j hj=>inv.qI j ((fc j).2 hj),inv.other,fun j hj b hb=>⟨(inv.fresh j ((fc j).2 hj) b hb).1.imp (fun h=>h) fun h=>⟨h.1,h.2.imp fun k hk=>⟨(fc k).1 hk.1,hk.2⟩⟩,(inv.fresh j ((fc j).2 hj) b hb).2⟩,fun i j hi hj=>inv.tF i j ((fc i).2 hi) ((fc j).2 hj)⟩
  | succ fuel ih=>
   intro L a w g hL rX hf g1 g2 inv
   by_cases jr:∀ j,j < m→L.getD j false=true
   ·have fc:∀ j,L.getD j false=true↔j < m:=fun j=>⟨rX j,jr j⟩
    refine tail _ m _ L a w rfl (Nat.le_refl _) Dq hL fc hf g1 g2 (next g _ _ ?_)
    exact ⟨inv.jf,fun hk=>inv.x7 fun k uq=>hk k ((fc k).1 uq),inv.vg,fun j hj=>inv.vd j ((fc j).2 hj),fun j hj hk=>inv.done j ((fc j).2 hj) (fun k uq=>hk k ((fc k).1 uq)),fun j hj=>inv.qI j ((fc j).2 hj),inv.other,fun j hj b hb=>⟨(inv.fresh j ((fc j).2 hj) b hb).1.imp (fun h=>h) fun h=>⟨h.1,h.2.imp fun k hk=>⟨(fc k).1 hk.1,hk.2⟩⟩,(inv.fresh j ((fc j).2 hj) b hb).2⟩,fun i j hi hj=>inv.tF i j ((fc i).2 hi) ((fc j).2 hj)⟩
   ·obtain ⟨j0,NH,IY⟩ : ∃ j,j < m∧L.getD j false=false:=by
     apply Classical.byContradiction
     intro qL
     apply jr
     intro j hj
     cases hb:L.getD j false with
     | true=>rfl
     | false=>exact absurd ⟨j,hj,hb⟩ qL
    have Ht:∃ i,i∈Region.ready .any l.toArray L:=by
     have:∀ k,(∃ j,j < k∧j < m∧L.getD j false=false)→∃ i,i∈Region.ready .any l.toArray L:=by
      intro k
      induction k with
      | zero=>rintro ⟨j,h,_⟩; omega
      | succ k zP=>
       rintro ⟨j,IZ,x8,qb⟩
       by_cases ur:∃ j,j < k∧j < m∧L.getD j false=false
       ·exact zP ur
       ·obtain rfl:j=k:=by
         apply Classical.byContradiction
         intro h
         exact ur ⟨j,by omega,x8,qb⟩
        have I0:j < l.length:=by omega
        refine ⟨j,zZ L j l[j] hL.1 (List.getElem?_eq_getElem I0) qb fun e he=>?_⟩
        have bo:=tL j _ (List.getElem?_eq_getElem I0) e he
        cases hb:L.getD e.on false with
        | true=>rfl
        | false=>exact absurd ⟨e.on,bo,by omega,hb⟩ ur
     exact this (j0+1) ⟨j0,by omega,NH,IY⟩
    have main:∀ i oi,i < m→l[i]? = some oi→L.getD i false=false→(∀ e∈oi.after.toList.filter (Region.binds .any),L.getD e.on false=true)→
      (Region.wanted oi (yl l (ca a))=true∧eg P oi (ca a) w fun v w'=>wpAny P .any l.toArray (fun e a' w'=>a'.tmps.size=n∧a'.defers=[]∧Q e (ca a') w') fuel (L.setIfInBounds i true) (a.put oi.dst v) w')∨
      (Region.wanted oi (yl l (ca a))=false∧wpAny P .any l.toArray (fun e a' w'=>a'.tmps.size=n∧a'.defers=[]∧Q e (ca a') w') fuel (L.setIfInBounds i true) (a.put oi.dst undef) w):=by
     intro i oi rY mi rZ r3
     have dw:i < l.length:=(List.getElem?_eq_some_iff.1 mi).1
     have j8:∀ o,l[i]? = some o→∀ e∈o.after.toList.filter (Region.binds .any),L.getD e.on false=true:=fun o' db=>by
      have:o'=oi:=Option.some.inj (db.symm.trans mi)
      subst this; exact r3
     obtain ⟨s,hs⟩ : ∃ s,S[i]? = some s:=⟨S[i]'(by omega),List.getElem?_eq_getElem (by omega)⟩
     have hc:=Dz L i hL.1 dw rZ
     have BS:=CC L i oi hL mi r3
     have QJ:∀ j,(L.setIfInBounds i true).getD j false=true→j < m:=by
      intro j hj
      rcases (getSet L i j hL.1 dw).1 hj with rfl | hj
      ·exact rY
      ·exact rX j hj
     have z6:∀ k,L.getD k false=true→k≠i∧i ∉ (bp l).getD k []:=by
      intro k hk
      refine ⟨fun h=>(by rw [h,rZ] at hk; cases hk),fun xZ=>?_⟩
      have:=gn L hL k i (fun o' db e' rW=>hL.2 k o' db hk e' rW) xZ
      rw [rZ] at this; cases this
     have ow:=K9 i rY oi s mi hs g (ca a) w inv.jf (fun hV=>by
       have qL:∀ k,L.getD k false=true→l.length ∉ U.getD k []:=fun k hk DA=>by
        simp only [u4,List.all_eq_true,List.mem_range,Bool.or_eq_true,Bool.not_eq_true',List.contains_eq_mem,decide_eq_false_iff_not,decide_eq_true_eq] at hV
        rcases hV k (rX k hk) with (h | h) | h
        ·exact h DA
        ·exact (z6 k hk).1 (Nat.eq_of_beq_eq_true h)
        ·exact (z6 k hk).2 h
       have h0:=inv.x7 qL
       exact ⟨h0.1,h0.2,fun j hj b hb=>(inv.fresh j (gn L hL i j j8 hj) b hb).1.elim (fun h=>h) fun h=>absurd h.2.choose_spec.2 (qL _ h.2.choose_spec.1)⟩) (fun j hj=>inv.qI j (gn L hL i j j8 hj)) (fun j hj=>by
       simp only [ov,Bool.and_eq_true,List.all_eq_true,List.mem_range,Bool.or_eq_true,Bool.not_eq_true',List.contains_eq_mem,decide_eq_false_iff_not,decide_eq_true_eq] at hj
       refine inv.done j (gn L hL i j j8 hj.1) fun k hk IZ=>?_
       rcases hj.2 k (rX k hk) with (h | h) | h
       ·exact h IZ
       ·exact (z6 k hk).1 (Nat.eq_of_beq_eq_true h)
       ·exact (z6 k hk).2 h) inv.other
      (fun i' qE j' fk=>inv.tF i' j' (gn L hL i i' j8 qE) (gn L hL i j' j8 fk))
      (fun j hj b hb=>⟨(inv.fresh j (gn L hL i j j8 hj) b hb).1.imp (fun h=>h) (·.1),(inv.fresh j (gn L hL i j j8 hj) b hb).2⟩)
     have hblk:∀ b∈qQ g (U.getD i []),(∃ u,u∈U.getD i []∧L.getD u false=true∧b∈g u)∨(l.length∈U.getD i []∧b∈g l.length):=by
      intro b hb
      obtain ⟨u,hu,ed⟩:=List.mem_flatMap.1 hb
      rcases QG i rY u hu with rfl | h
      ·exact .inr ⟨hu,ed⟩
      ·exact .inl ⟨u,hu,gn L hL i u j8 h,ed⟩
     have BT:∀ k',oi.dst=some k'→k' < a.tmps.size:=by
      intro k' DB
      have xZ:oi∈l:=List.mem_of_getElem? mi
      simp only [cu,List.all_eq_true] at hd
      have:=hd oi xZ
      rw [DB] at this
      rw [g1]
      exact Nat.lt_of_succ_le (Nat.le_of_ble_eq_true this)
     have vQ:bh l i=oi.dst:=by unfold bh; rw [mi]; rfl
     have qa:∀ v t,(oi.dst≠some t)→ca (a.put oi.dst v) t=ca a t:=by
      intro v t ht
      rw [jg BT]
      cases uv:oi.dst with
      | none=>rfl
      | some d=>
       show (bif Nat.beq t d then v else ca a t)=ca a t
       cases hb:Nat.beq t d with
       | false=>rfl
       | true=>exact absurd (by rw [uv,Nat.eq_of_beq_eq_true hb]) ht
     have DC:∀ v d,oi.dst=some d→ca (a.put oi.dst v) d=v:=by
      intro v d uv
      rw [jg BT,uv]
      show (bif Nat.beq d d then v else ca a d)=v
      rw [Nat.beq_refl]; rfl
     have step:∀ v w' f,aq (qQ g (U.getD i [])) w w'→(∀ b∈f,(b∈qQ g (U.getD i [])∨w.heap.size≤b)∧b < w'.heap.size)→(if s.b then s.V f w' (ca a) v else v=undef)→
       wpAny P .any l.toArray (fun e a' w'=>a'.tmps.size=n∧a'.defers=[]∧Q e (ca a') w') fuel (L.setIfInBounds i true) (a.put oi.dst v) w':=by
      intro v w' f hC vP hV
      have qy:∀ j',j' < m→j'≠i→∀ t,bh l j'=some t→ca (a.put oi.dst v) t=ca a t:=by
       intro j' fk mh t ht
       refine qa v t fun h=>mh (ey j' i t ?_ ?_)
       ·rw [iq fk]; exact ht
       ·rw [iq rY,vQ]; exact h
      have I1:∀ b∈qQ g (U.getD i []),¬ N b:=fun b hb hn=>by
       rcases hblk b hb with ⟨u,_,l5,ed⟩ | ⟨_,ed⟩
       ·rcases (inv.fresh u l5 b ed).1 with h | h
        ·have:=(hN b hn).1; omega
        ·exact (hN b hn).2 h.1
       ·exact (hN b hn).2 (inv.vg b ed)
      refine ih _ _ _ (fun j=>if j=i then f else if j∈U.getD i [] then [] else g j) BS QJ (by omega) (by rw [gy]; exact g1) (by rw [fg]; exact g2)
       ⟨inv.jf.then hC fun b hb=>(by
        rcases hblk b hb with ⟨u,_,l5,ed⟩ | ⟨_,ed⟩
        ·exact (inv.fresh u l5 b ed).1.elim .inr fun h=>.inl h.1
        ·exact .inl (inv.vg b ed)),fun qL=>?_,?_,fun j hj=>?_,?_,fun j hj d mx sj pj=>?_,?_,?_,?_⟩
      ·have vM:l.length ∉ U.getD i []:=qL i ((getSet L i i hL.1 dw).2 (.inl rfl))
       have h0:=inv.x7 fun k hk=>qL k ((getSet L i k hL.1 dw).2 (.inr hk))
       refine ⟨h0.1.then hC fun b hb=>?_,?_⟩
       ·rcases hblk b hb with ⟨u,_,l5,ed⟩ | ⟨h,_⟩
        ·exact (inv.fresh u l5 b ed).1.elim .inr fun ⟨_,k,hk,DA⟩=>absurd DA (qL k ((getSet L i k hL.1 dw).2 (.inr hk)))
        ·exact absurd h vM
       ·show (if l.length=i then f else if l.length∈U.getD i [] then [] else g l.length)=H
        rw [if_neg (by omega),if_neg vM]
        exact h0.2
      ·intro b hb
       have cg:b∈(if l.length=i then f else if l.length∈U.getD i [] then [] else g l.length):=hb
       rw [if_neg (by omega)] at cg
       split at cg
       ·cases cg
       ·exact inv.vg b cg
      ·intro b hb hv
       have n7:b∈(if l.length=i then f else if l.length∈U.getD i [] then [] else g l.length):=hv
       rw [if_neg (by omega)] at n7
       split at n7
       ·cases n7
       ·rename_i QK
        have cg:b∈(if j=i then f else if j∈U.getD i [] then [] else g j):=hb
        split at cg
        ·rcases (vP b cg).1 with h | h
         ·rcases hblk b h with ⟨u,_,l5,ed⟩ | ⟨h,_⟩
          ·exact inv.vd u l5 b ed n7
          ·exact QK h
         ·have h1:=hH b (inv.vg b n7)
          have h2:=inv.jf.size
          omega
        ·rename_i iy
         split at cg
         ·cases cg
         ·exact inv.vd j (((getSet L i j hL.1 dw).1 hj).resolve_left iy) b cg n7
      ·intro j hj tG
       refine ⟨fun d mx=>?_,fun QM sj pj I2=>?_⟩
       rotate_left
       ·by_cases iy:j=i
        ·subst iy
         rw [hs] at pj
         cases pj
         rw [if_pos I2] at hV
         refine ⟨v,?_⟩
         simp only [if_pos]
         exact nw j s hs _ [] w' w' (ca a) _ v (aq.refl _ _) (fun _ _ h=>nomatch h) (fun _ h=>nomatch h) (fun j' fk t ht=>qy j' (by have:=(ni j j' fk).1; omega) (by have:=(ni j j' fk).1; omega) t ht) hV
        ·have jy:=((getSet L i j hL.1 dw).1 hj).resolve_left iy
         have qb:j ∉ U.getD i []:=tG i ((getSet L i i hL.1 dw).2 (.inl rfl))
         obtain ⟨x,hx⟩:=(inv.done j jy (fun k hk=>tG k ((getSet L i k hL.1 dw).2 (.inr hk)))).2 QM sj pj I2
         have jm:(fun j=>if j=i then f else if j∈U.getD i [] then [] else g j) j=g j:=by
          show (if j=i then f else if j∈U.getD i [] then [] else g j)=g j
          rw [if_neg iy,if_neg qb]
         rw [jm]
         refine ⟨x,nw j sj pj _ _ _ _ (ca a) _ _ hC (fun b cg DD=>?_) I1 (fun j' fk t ht=>qy j' (by have:=(ni j j' fk).1; have:=rX j jy; omega) (fun h=>?_) t ht) hx⟩
         ·rcases hblk b DD with ⟨u,x9,l5,ed⟩ | ⟨_,ed⟩
          ·exact inv.tF j u jy l5 (fun h=>qb (h ▸ x9)) b cg ed
          ·exact inv.vd j jy b cg ed
         ·subst h
          have:=gn L hL j j' (fun o' db e' rW=>hL.2 j o' db jy e' rW) fk
          rw [rZ] at this; cases this
       by_cases iy:j=i
       ·subst iy
        rw [hs]
        simp only [if_pos]
        rw [vQ] at mx
        rw [DC v d mx]
        split
        ·rename_i hb
         rw [if_pos hb] at hV
         exact nw j s hs _ [] w' w' (ca a) _ v (aq.refl _ _) (fun _ _ h=>nomatch h) (fun _ h=>nomatch h) (fun j' fk t ht=>qy j' (by have:=(ni j j' fk).1; omega) (by have:=(ni j j' fk).1; omega) t ht) hV
        ·rename_i hb
         rw [if_neg hb] at hV
         exact hV
       ·have jy:=((getSet L i j hL.1 dw).1 hj).resolve_left iy
        have x8:=rX j jy
        have qb:j ∉ U.getD i []:=tG i ((getSet L i i hL.1 dw).2 (.inl rfl))
        have uv:oi.dst≠some d:=by
         intro h
         apply iy
         refine ey j i d ?_ ?_
         ·rw [iq x8]; exact mx
         ·rw [iq rY,vQ]; exact h
        have:=(inv.done j jy (fun k hk=>tG k ((getSet L i k hL.1 dw).2 (.inr hk)))).1 d mx
        rw [qa v d uv]
        have jm:(fun j=>if j=i then f else if j∈U.getD i [] then [] else g j) j=g j:=by
         show (if j=i then f else if j∈U.getD i [] then [] else g j)=g j
         rw [if_neg iy,if_neg qb]
        rw [jm]
        cases pj:S[j]? with
        | none=>trivial
        | some sj=>
         rw [pj] at this
         simp only [] at this ⊢
         split
         ·rename_i hb
          rw [if_pos hb] at this
          refine nw j sj pj _ _ _ _ (ca a) _ _ hC (fun b cg DD=>?_) I1 (fun j' fk t ht=>qy j' (by have:=(ni j j' fk).1; omega) (fun h=>?_) t ht) this
          rotate_left
          ·subst h
           have:=gn L hL j j' (fun o' db e' rW=>hL.2 j o' db jy e' rW) fk
           rw [rZ] at this; cases this
          rcases hblk b DD with ⟨u,x9,l5,ed⟩ | ⟨_,ed⟩
          ·exact inv.tF j u jy l5 (fun h=>qb (h ▸ x9)) b cg ed
          ·exact inv.vd j jy b cg ed
         ·rename_i hb
          rw [if_neg hb] at this
          exact this
      ·by_cases iy:j=i
       ·subst iy
        rw [hs] at pj
        cases pj
        rw [vQ] at mx
        rw [DC v d mx]
        split
        ·rename_i hb
         rw [if_pos hb] at hV
         exact ⟨f,w',nw j s hs _ [] w' w' (ca a) _ v (aq.refl _ _) (fun _ _ h=>nomatch h) (fun _ h=>nomatch h) (fun j' fk t ht=>qy j' (by have:=(ni j j' fk).1; omega) (by have:=(ni j j' fk).1; omega) t ht) hV⟩
        ·rename_i hb
         rw [if_neg hb] at hV
         exact hV
       ·have jy:=((getSet L i j hL.1 dw).1 hj).resolve_left iy
        have x8:=rX j jy
        have uv:oi.dst≠some d:=by
         intro h
         apply iy
         refine ey j i d ?_ ?_
         ·rw [iq x8]; exact mx
         ·rw [iq rY,vQ]; exact h
        have:=inv.qI j jy d mx sj pj
        rw [qa v d uv]
        split
        ·rename_i hb
         rw [if_pos hb] at this
         obtain ⟨f1,w1,h1⟩:=this
         refine ⟨f1,w1,nw j sj pj _ [] w1 w1 (ca a) _ _ (aq.refl _ _) (fun _ _ h=>nomatch h) (fun _ h=>nomatch h) (fun j' fk t ht=>qy j' (by have:=(ni j j' fk).1; omega) (fun h=>?_) t ht) h1⟩
         subst h
         have:=gn L hL j j' (fun o' db e' rW=>hL.2 j o' db jy e' rW) fk
         rw [rZ] at this; cases this
        ·rename_i hb
         rw [if_neg hb] at this
         exact this
      ·intro t ht
       rw [qa v t (fun h=>ht i rY (by rw [vQ]; exact h))]
       exact inv.other t ht
      ·intro j hj b hb
       by_cases iy:j=i
       ·simp only [if_pos iy] at hb
        have hh:=vP b hb
        have p7:=inv.jf.size
        rcases hh.1 with h | h
        ·rcases hblk b h with ⟨u,_,l5,ed⟩ | ⟨hv,ed⟩
         ·exact ⟨(inv.fresh u l5 b ed).1.imp (fun h=>h) fun h=>⟨h.1,h.2.imp fun k hk=>⟨(getSet L i k hL.1 dw).2 (.inr hk.1),hk.2⟩⟩,hh.2⟩
         ·exact ⟨.inr ⟨inv.vg b ed,i,(getSet L i i hL.1 dw).2 (.inl rfl),hv⟩,hh.2⟩
        ·exact ⟨.inl (by omega),hh.2⟩
       ·have jy:=((getSet L i j hL.1 dw).1 hj).resolve_left iy
        simp only [if_neg iy] at hb
        split at hb
        ·cases hb
        ·have h1:=inv.fresh j jy b hb
         have h2:=hC.size
         exact ⟨h1.1.imp (fun h=>h) fun h=>⟨h.1,h.2.imp fun k hk=>⟨(getSet L i k hL.1 dw).2 (.inr hk.1),hk.2⟩⟩,by omega⟩
      ·have uj:∀ j',(L.setIfInBounds i true).getD j' false=true→j'≠i→∀ b∈f,b ∉ (if j'∈U.getD i [] then [] else g j'):=by
        intro j' fk e2 b hb cg
        have DE:=((getSet L i j' hL.1 dw).1 fk).resolve_left e2
        split at cg
        ·cases cg
        ·rename_i qb
         rcases (vP b hb).1 with h | h
         ·rcases hblk b h with ⟨u,x9,l5,ed⟩ | ⟨_,ed⟩
          ·exact inv.tF u j' l5 DE (fun h=>qb (h ▸ x9)) b ed cg
          ·exact inv.vd j' DE b cg ed
         ·have:=inv.fresh j' DE b cg
          omega
       intro i' j' qE fk mh b hb cg
       by_cases e1:i'=i
       ·have e2:j'≠i:=fun h=>mh (e1.trans h.symm)
        simp only [if_pos e1] at hb
        simp only [if_neg e2] at cg
        exact uj j' fk e2 b hb cg
       ·simp only [if_neg e1] at hb
        by_cases e2:j'=i
        ·simp only [if_pos e2] at cg
         exact uj i' qE e1 b cg hb
        ·simp only [if_neg e2] at cg
         split at hb
         ·cases hb
         ·split at cg
          ·cases cg
          ·exact inv.tF i' j' (((getSet L i i' hL.1 dw).1 qE).resolve_left e1) (((getSet L i j' hL.1 dw).1 fk).resolve_left e2) mh b hb cg
     cases hb:s.b with
     | true=>
      rw [if_pos hb] at ow
      refine .inl ⟨ow.1,qj ow.2 ?_⟩
      rintro v w' ⟨hC,f,vP,hV⟩
      exact step v w' f hC vP (by rw [if_pos hb]; exact hV)
     | false=>
      rw [if_neg (by rw [hb]; exact Bool.false_ne_true)] at ow
      exact .inr ⟨ow,step undef w [] (aq.refl _ _) (fun b h=>nomatch h) (by rw [if_neg (by rw [hb]; exact Bool.false_ne_true)])⟩
    by_cases NR:∃ z,z∈Z∧L.getD z false=false∧∀ o,l[z]? = some o→∀ e∈o.after.toList.filter (Region.binds .any),L.getD e.on false=true
    ·obtain ⟨z,hz,RM,VV⟩:=NR
     obtain ⟨⟨hzm,hzf⟩,Jw⟩:=hZ z hz
     cases B6:l[z]? with
     | none=>rw [B6] at Jw; cases Jw
     | some oz=>
      rw [B6] at Jw
      simp only [Bool.and_eq_true] at Jw
      obtain ⟨hmv,B5⟩:=Jw
      have LW:=VV oz B6
      have VW:Region.free .any l.toArray L z=true:=Jv (fun j hj=>gn L hL z j (fun o' db=>VV o' db) hj) hzf
      have VX:z∈Region.ready .any l.toArray L:=zZ L z oz hL.1 B6 RM LW
      obtain ⟨dz,opz,tyz,pz,az,gz⟩:=oz
      cases opz <;> first | exact (Bool.false_ne_true hmv).elim | skip
      case move x=>
       cases gz with
       | some _=>simp at B5
       | none=>
        have hev:∀ w',(execOp a.eval ⟨dz,.move x,tyz,pz,az,none⟩).run P w' = .ok (.value (a.eval x)) w':=fun _=>rfl
        refine wpAny_take (by simpa using B6) NG VW (by simpa using VX) (fun c a w h=>absurd h.2.2 (hp _ _ _)) (v:=a.eval x) (.inl ⟨rfl,hev⟩) ?_
        rcases main z _ (RJ z hz) B6 RM LW with ⟨_,h⟩ | ⟨h,_⟩
        ·rw [oy]; exact h
        ·exact absurd h (by simp [Region.wanted])
      case extract x k=>
       cases gz with
       | some _=>simp at B5
       | none=>
        rcases main z _ (RJ z hz) B6 RM LW with ⟨_,h⟩ | ⟨h,_⟩
        ·obtain ⟨v,hv,hk⟩:=Fz h
         refine wpAny_take (by simpa using B6) NG VW (by simpa using VX) (fun c a w h=>absurd h.2.2 (hp _ _ _)) (v:=v) (.inl ⟨rfl,fun w'=>by rw [oy]; exact hv w'⟩) ?_
         exact hk
        ·exact absurd h (by simp [Region.wanted])
    refine ⟨fun h=>(by obtain ⟨i,hi⟩:=Ht; rw [h] at hi; cases hi),fun i hi=>?_⟩
    obtain ⟨q1,oi,mi,r3⟩:=Gt L i hi
    have dw:i < l.length:=(List.getElem?_eq_some_iff.1 mi).1
    have rZ:L.getD i false=false:=getD_both q1
    have rY:i < m:=by
     rcases Nat.lt_or_ge i m with h | h
     ·exact h
     ·have bad:∀ j,j < i→L.getD j false=false→False:=by
       intro j
       induction j using Nat.strongRecOn with
       | _ j ih=>
        intro iy qb
        rcases Hs i h dw j iy with hj | hj
        ·have:=gn L hL i j (fun o' db=>by have:o'=oi:=Option.some.inj (db.symm.trans mi); subst this; exact r3) hj
         rw [qb] at this; cases this
        ·refine NR ⟨j,hj,qb,fun o ho e he=>?_⟩
         cases hb:L.getD e.on false with
         | true=>rfl
         | false=>have bo:=tL j o ho e he; exact (ih e.on bo (by omega) hb).elim
      exact (bad j0 (by omega) IY).elim
    unfold wpOp
    rw [show (l.toArray)[i]? = some oi by simpa using mi]
    simp only []
    rw [wS (by rw [g1]; exact hd)]
    rcases main i oi rY mi rZ r3 with ⟨hw,h⟩ | ⟨hw,h⟩
    ·rw [if_pos hw]
     exact .inl (h.wp fun v w' hv=>hv)
    ·rw [if_neg (by rw [hw]; exact Bool.false_ne_true)]
     exact h
 refine head _ _ a _ (fun j=>if j=l.length then H else []) ⟨by simp,?_⟩ ?_ ?_ h1 h2 ⟨aq.nil (aq.drew _ _),fun _=>⟨aq.drew _ _,by simp⟩,fun b hb=>by simpa using hb,?_,?_,?_,?_,?_,?_⟩
 ·intro j o ho hj
  rw [getD_replicate_false] at hj; cases hj
 ·intro j hj
  rw [getD_replicate_false] at hj; cases hj
 ·simp
 ·intro j hj
  rw [getD_replicate_false] at hj; cases hj
 ·intro j hj
  rw [getD_replicate_false] at hj; cases hj
 ·intro j hj
  rw [getD_replicate_false] at hj; cases hj
 ·intro t _
  rw [h3]
 ·intro j hj
  rw [getD_replicate_false] at hj; cases hj
 ·intro i j hi
  rw [getD_replicate_false] at hi; cases hi
theorem fy.val {m i:Nat} {U:LL} {H:LN} {o:Oper} {v:Value} (ho:l[i]? = some o) (hs:S[i]? = some ⟨true,pl fun _ _ u=>u=v⟩) (hg:o.guard=none)
  (h:∀ (g:Nat→List Nat) (r:NV) (w:World),aq H w0 w→(∀ j∈(bp l).getD i [],Old l S j r)→(∀ j,ov l U m i j=true→rT l S j g r w)→(∀ t,(∀ j,j < m→bh l j≠some t)→r t=r0 t)→
   (execOp (ev r) o).run P w = .ok (.value v) w):fy P l m S U r0 w0 H i:=by
 intro o' s' db jk g r w hC hV hO hd jw AY qa
 obtain rfl:o=o':=Option.some.inj (ho.symm.trans db)
 obtain rfl:_=s':=Option.some.inj (hs.symm.trans jk)
 rw [if_pos rfl]
 refine ⟨by unfold Region.wanted; rw [hg],?_⟩
 unfold eg
 rw [h g r w hC hO hd jw]
 exact ⟨aq.refl _ _,[],(fun _ h=>nomatch h),rfl⟩
theorem fy.call {m i:Nat} {U:LL} {H:LN} {o:Oper} {v:Value} {f:FuncId} (ho:l[i]? = some o) (hs:S[i]? = some ⟨true,pl fun _ _ u=>u=v⟩) (hg:o.guard=none)
  (h:∀ (g:Nat→List Nat) (r:NV) (w:World),aq H w0 w→(∀ j∈(bp l).getD i [],Old l S j r)→(∀ j,ov l U m i j=true→rT l S j g r w)→(∀ t,(∀ j,j < m→bh l j≠some t)→r t=r0 t)→
   ∃ args,(execOp (ev r) o).run P w = .ok (.enter f args) w∧Calls P f args w fun e w'=>e = .returned v∧aq [] w w'):fy P l m S U r0 w0 H i:=by
 intro o' s' db jk g r w hC hV hO hd jw AY qa
 obtain rfl:o=o':=Option.some.inj (ho.symm.trans db)
 obtain rfl:_=s':=Option.some.inj (hs.symm.trans jk)
 rw [if_pos rfl]
 refine ⟨by unfold Region.wanted; rw [hg],?_⟩
 unfold eg
 obtain ⟨args,h1,h2⟩:=h g r w hC hO hd jw
 rw [h1]
 exact h2.mono fun e w' ⟨he,hc⟩=>⟨v,he,hc.nil,[],(fun _ h=>nomatch h),rfl⟩
theorem fy.mem {m i:Nat} {U:LL} {H:LN} {o:Oper} {V:List Nat→World→Value→Prop} (ho:l[i]? = some o) (hs:S[i]? = some ⟨true,pl V⟩) (hg:o.guard=none)
  (h:∀ (g:Nat→List Nat) (r:NV) (w:World),aq H w0 w→(∀ j∈(bp l).getD i [],Old l S j r)→(∀ j,ov l U m i j=true→rT l S j g r w)→(∀ t,(∀ j,j < m→bh l j≠some t)→r t=r0 t)→
   eg P o r w fun v w'=>aq [] w w'∧∃ f,(∀ b∈f,w.heap.size≤b∧b < w'.heap.size)∧V f w' v):fy P l m S U r0 w0 H i:=by
 intro o' s' db jk g r w hC hV hO hd jw AY qa
 obtain rfl:o=o':=Option.some.inj (ho.symm.trans db)
 obtain rfl:_=s':=Option.some.inj (hs.symm.trans jk)
 rw [if_pos rfl]
 refine ⟨by unfold Region.wanted; rw [hg],qj (h g r w hC hO hd jw) ?_⟩
 rintro v w' ⟨hC,f,hf,hV⟩
 exact ⟨hC.nil,f,fun b hb=>⟨.inr (hf b hb).1,(hf b hb).2⟩,hV⟩
theorem fy.KV {m i:Nat} {U:LL} {H:LN} {o:Oper} {V:List Nat→World→(Nat→Value)→Value→Prop} (ho:l[i]? = some o) (hs:S[i]? = some ⟨true,V⟩) (hg:o.guard=none)
  (h:∀ (g:Nat→List Nat) (r:NV) (w:World),aq H w0 w→(∀ j∈(bp l).getD i [],Old l S j r)→(∀ j,ov l U m i j=true→rT l S j g r w)→(∀ t,(∀ j,j < m→bh l j≠some t)→r t=r0 t)→
   eg P o r w fun v w'=>aq [] w w'∧∃ f,(∀ b∈f,w.heap.size≤b∧b < w'.heap.size)∧V f w' r v):fy P l m S U r0 w0 H i:=by
 intro o' s' db jk g r w hC hV hO hd jw AY qa
 obtain rfl:o=o':=Option.some.inj (ho.symm.trans db)
 obtain rfl:_=s':=Option.some.inj (hs.symm.trans jk)
 rw [if_pos rfl]
 refine ⟨by unfold Region.wanted; rw [hg],qj (h g r w hC hO hd jw) ?_⟩
 rintro v w' ⟨hC,f,hf,hV⟩
 exact ⟨hC.nil,f,fun b hb=>⟨.inr (hf b hb).1,(hf b hb).2⟩,hV⟩
def AX {α:Type} (T:ah α) (x:α):List Nat→World→Value→Prop:=fun f w v=>T.rep w.heap [v] x f∧f.Nodup
def WZ (cs:LV) (e:TI) (n:Nat):List Nat→World→Value→Prop:=fun f w v=>∃ b,f=[b]∧v = .slice (some ⟨b,0,none⟩) n n∧Row w b cs e
def C4 (a:LN) (l:LO) (s:ep):Prop:=∀ f F (w w':World) (r r':NV) v,aq F w w'→(∀ b∈f,b ∉ F)→(∀ j∈a,∀ t,bh l j=some t→r' t=r t)→s.V f w r v→s.V f w' r' v
theorem Jx {a:LN} {b:Bool} {V:List Nat→World→Value→Prop} (h:∀ f F (w w':World) v,aq F w w'→(∀ b∈f,b ∉ F)→V f w v→V f w' v):C4 a l ⟨b,pl V⟩:=
 fun f F w w' _ _ v hC hn _ hv=>h f F w w' v hC hn hv
theorem Hk {a:LN} {b:Bool} {u:Value}:C4 a l ⟨b,pl fun _ _ v=>v=u⟩:=Jx fun _ _ _ _ _ _ _ h=>h
theorem eg.own {α:Type} {T:ah α} {x:α} {o:Oper} {r:NV} {w:World} {f:FuncId} {args:Array Value} (h:(execOp (ev r) o).run P w = .ok (.enter f args) w)
  (hc:Calls P f args w fun e w'=>∃ (v:Value) (k:LN),e = .returned v∧aq [] w w'∧OE [] w.heap.size w' T [v] x k) :
  eg P o r w fun v w'=>aq [] w w'∧∃ f,(∀ b∈f,w.heap.size≤b∧b < w'.heap.size)∧AX T x f w' v:=by
 unfold eg
 rw [h]
 exact hc.mono fun e w' ⟨v,k,he,hC,ho⟩=>⟨v,he,hC,k,fun b hb=>⟨ho.fresh b hb,T.lt ho.1 b hb⟩,ho.1,ho.2.1⟩
theorem eg.made {α:Type} {T:ah α} {x:α} {o:Oper} {r:NV} {w:World} (h:∃ v w' f,(execOp (ev r) o).run P w = .ok (.value v) w'∧aq [] w w'∧OE [] w.heap.size w' T [v] x f) :
  eg P o r w fun v w'=>aq [] w w'∧∃ f,(∀ b∈f,w.heap.size≤b∧b < w'.heap.size)∧AX T x f w' v:=by
 obtain ⟨v,w',f,hr,hC,ho⟩:=h
 unfold eg
 rw [hr]
 exact ⟨hC,f,fun b hb=>⟨ho.fresh b hb,T.lt ho.1 b hb⟩,ho.1,ho.2.1⟩
theorem xY {f g:LN} (h1:f.Nodup) (h2:g.Nodup) (d:p9 f g):(f++g).Nodup:=List.nodup_append.2 ⟨h1,h2,fun a ha _ hb u5=>d a ha (u5 ▸ hb)⟩
theorem eg.tX {α:Type} {E:ah α} {F f:LN} {t e et:TI} {s x:OO} {i:TypeInfo} {z:Value} {sv u:Value} {xs:List α} {y:α} {b:Nat} {r:NV} {w:World} {d:Option Nat} {ty:TI} {pos:String} {af:Array Edge}
  (ht:P.underlying t=some (.slice e)) (hi:P.info? e=some i) (hz:i.zero=some z) (hs:i.size=1) (hE:E.size=1) (vN:z.oneCell'=true)
  (uh:ev r s=sv) (hO:AX (aL e E) xs f w sv) (hF:∀ b∈f,b∈F) (hx:ev r x = .slice (some ⟨b,0,none⟩) 1 1) (br:Row w b [u] et) (hy:E.rep w.heap [u] y [])
  (hb:(xs.length+1) * i.bytes≤140737488355328) (u3:xs.length+1≤maxLen) :
  eg P ⟨d,.call ⟨.builtin .append,#[s,x],#[t,t]⟩,ty,pos,af,none⟩ r w fun v w'=>aq F w w'∧∃ f',(∀ b∈f',(b∈F∨w.heap.size≤b)∧b < w'.heap.size)∧AX (aL e E) (xs++[y]) f' w' v:=by
 obtain ⟨v,w',f',h,hC,e6,ei,ey⟩:=qx (d:=d) (ty:=ty) (pos:=pos) (af:=af) (g:=none) (ys:=[y]) ht hi hz (by rw [hs,hE]) (by rw [cells_one vN,hE]; rfl) uh hO.1 hO.2 hx br.at (qW hy) (fun _ h=>nomatch h) (by simp) hb u3
 unfold eg
 rw [h]
 refine ⟨hC.mono hF,f',fun b hb=>⟨?_,ah.lt _ e6 b hb⟩,e6,ey List.nodup_nil⟩
 rcases ei b hb with h | h | h
 ·exact .inl (hF b h)
 ·cases h
 ·exact .inr h
theorem eg.AS {t e:TI} {i:TypeInfo} {z u:Value} {x:OO} {r:NV} {w:World} {d:Option Nat} {ty:TI} {pos:String} {af:Array Edge} (ht:P.underlying t=some (.slice e)) (hi:P.info? e=some i) (hz:i.zero=some z)
  (hs:i.size=1) (hx:ev r x=u) (hv:u.oneCell'=true) :
  eg P ⟨d,.buildSlice t 1 #[(0,x)],ty,pos,af,none⟩ r w fun v w'=>aq [] w w'∧∃ f,(∀ b∈f,w.heap.size≤b∧b < w'.heap.size)∧WZ [u] e 1 f w' v:=by
 unfold eg
 rw [GM ht hi hz hs (by rw [hx]; exact hv),hx]
 exact ⟨aq.alloc _ _ _,[w.heap.size],fun b hb=>by rw [List.mem_singleton.1 hb]; simp,w.heap.size,rfl,rfl,heap_alloc_new w _⟩
end
end Go.Li
