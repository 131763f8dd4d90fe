/- The walk's own calculus: a frame as a function of its slots, one rule a kind of code. No condition. -/
import Derived.Calls
import Derived.Orders
import Derived.Deep.Quiet
import Derived.Deep.LoopGhost
import Derived.Laws.Sem
import Derived.Below
import Derived.Tactics
import Derived.Laws.Entries
import Derived.Laws.Cells
import Derived.Laws.Rows
import Derived.Laws.Build
import Derived.Laws.ByValue
import Derived.Laws.Append
import Derived.Laws.MakeOwn
import Derived.Laws.AppendOwn
import Derived.Laws.OwnMore
namespace Go.Li
open Go
abbrev LN:=List Nat
abbrev LV:=List Value
abbrev TI:=TypeId
abbrev OO:=Operand
abbrev LO:=List Oper
abbrev LL:=List (List Nat)
abbrev LQ:=List (Nat×Nat×Value)
abbrev NV:=Nat→Value
def Dm (r:NV) (d:Nat) (v:Value):Nat→Value:=fun t=>bif Nat.beq t d then v else r t
def gf (r:NV):Option Nat→Value→(Nat→Value)
 | some d,v=>Dm r d v
 | none,_=>r
def ev (r:NV):Operand→Value
 | .tmp t=>r t
 | .const v=>v
 | .global g=>.pointer (some ⟨g,0,none⟩)
 | .func f=>.func (.func f) #[] #[]
def cu (a:Act):Nat→Value:=fun t=>a.tmps.getD t undef
theorem ny (a:Act):a.eval=ev (cu a):=by
 funext x; cases x <;> rfl
theorem Ux {a:Act} {d:Nat} (h:d < a.tmps.size) (v:Value):cu (a.put (some d) v)=Dm (cu a) d v:=by
 funext t
 simp only [cu,Act.put,Dm]
 by_cases e:t=d
 ·subst e
  simp [Array.getD,h]
 ·have:Nat.beq t d=false:=by
   cases hb:Nat.beq t d with
   | false=>rfl
   | true=>exact absurd (Nat.eq_of_beq_eq_true hb) e
  rw [this]
  simp only [cond_false,Array.getD_eq_getD_getElem?]
  rw [Array.getElem?_setIfInBounds_ne (fun h=>e h.symm)]
theorem iT (a:Act) (d:Option Nat) (v:Value):(a.put d v).tmps.size=a.tmps.size:=by
 cases d <;> simp [Act.put]
theorem fu (a:Act) (d:Option Nat) (v:Value):(a.put d v).defers=a.defers:=by
 cases d <;> simp [Act.put]
def dh (n:Nat) (l:LO):Bool:=l.all fun o=>match o.dst with | some d=>Nat.blt d n | none=>true
theorem xk {n:Nat} {o:Oper} {l:LO} (h:dh n (o :: l)=true) :
  (∀ d,o.dst=some d→d < n)∧dh n l=true:=by
 simp only [dh,List.all_cons,Bool.and_eq_true] at h
 refine ⟨fun d hd=>?_,h.2⟩
 have:=h.1
 rw [hd] at this
 exact Nat.lt_of_succ_le (Nat.le_of_ble_eq_true this)
theorem js {a:Act} {d:Option Nat} (h:∀ k,d=some k→k < a.tmps.size) (v:Value):cu (a.put d v)=gf (cu a) d v:=by
 cases d with
 | none=>rfl
 | some k=>exact Ux (h k rfl) v
def yl (ops:LO) (r:NV) (j:Nat):Option Bool:=
 match ((ops[j]?).bind (·.dst)) with
 | some d=>match r d with | .bool b=>some b | _=>none
 | none=>none
theorem vX {ops:LO} {a:Act} (hd:dh a.tmps.size ops=true):yielded ops.toArray a.tmps=yl ops (cu a):=by
 funext j
 simp only [yielded,yl]
 rw [List.getElem?_toArray]
 cases h:(ops[j]?).bind (·.dst) with
 | none=>rfl
 | some d=>
  have bb:d < a.tmps.size:=by
   cases ho:ops[j]? with
   | none=>simp [ho] at h
   | some o=>
    simp [ho] at h
    have hm:o∈ops:=List.mem_of_getElem? ho
    simp only [dh,List.all_eq_true] at hd
    have:=hd o hm
    rw [h] at this
    exact Nat.lt_of_succ_le (Nat.le_of_ble_eq_true this)
  simp only [Option.bind_some,cu,Array.getD_eq_getD_getElem?,bb,Array.getElem?_eq_getElem,Option.getD_some]
  cases a.tmps[d] <;> rfl
def W (P:Program) (n:Nat) (c:Code) (Q:Exit→(Nat→Value)→World→Prop) (r:NV) (w:World):Prop:=
 ∀ a:Act,a.tmps.size=n→a.defers=[]→cu a=r→
  c.wp P (fun e a' w'=>a'.tmps.size=n∧a'.defers=[]∧Q e (cu a') w') a w
section
variable {P:Program} {n:Nat} {Q:Exit→(Nat→Value)→World→Prop} {r:NV} {w:World}
theorem wy {c:Code} {Q':Exit→(Nat→Value)→World→Prop} (h:W P n c Q r w) (hq:∀ e r w,Q e r w→Q' e r w):W P n c Q' r w:=
 fun a h1 h2 h3=>wp_mono (h a h1 h2 h3) fun _ _ _ ⟨x,y,z⟩=>⟨x,y,hq _ _ _ z⟩
theorem Vn (h:Q .normal r w):W P n .skip Q r w:=fun a h1 h2 h3=>wp_skip ⟨h1,h2,by rw [h3]; exact h⟩
theorem Vp {k:Nat} (h:Q (.exit k) r w):W P n (.exit k) Q r w:=fun a h1 h2 h3=>wp_exit ⟨h1,h2,by rw [h3]; exact h⟩
theorem ZJ (h:Q .ret r w):W P n .ret Q r w:=fun a h1 h2 h3=>wp_ret ⟨h1,h2,by rw [h3]; exact h⟩
def andThen (next:(Nat→Value)→World→Prop) (Q:Exit→(Nat→Value)→World→Prop):Exit→(Nat→Value)→World→Prop
 | .normal,r,w=>next r w
 | e,r,w=>Q e r w
theorem ZI {x y:Code} (h:W P n x (andThen (W P n y Q) Q) r w):W P n (.seq x y) Q r w:=by
 intro a h1 h2 h3
 refine wp_seq (wp_mono (h a h1 h2 h3) ?_)
 rintro e a' w' ⟨g1,g2,g3⟩
 cases e
 case normal=>exact g3 a' g1 g2 rfl
 all_goals exact ⟨g1,g2,g3⟩
theorem NG {t:Nat} {x y:Code} {b:Bool} (hb:r t = .bool b) (ht:b=true→W P n x Q r w) (hf:b=false→W P n y Q r w) :
  W P n (.cond (.tmp t) x y) Q r w:=by
 intro a h1 h2 h3
 refine wp_cond (t:=b) (by rw [ny,h3]; exact hb) ?_
 cases b
 ·exact hf rfl a h1 h2 h3
 ·exact ht rfl a h1 h2 h3
def Ht (k:Nat) (Q:Exit→(Nat→Value)→World→Prop):Exit→(Nat→Value)→World→Prop
 | .exit j,r,w=>bif Nat.beq j k then Q .normal r w else Q (.exit j) r w
 | e,r,w=>Q e r w
theorem KD {k:Nat} {c:Code} (h:W P n c (Ht k Q) r w):W P n (.block k c) Q r w:=by
 intro a h1 h2 h3
 refine wp_block (wp_mono (h a h1 h2 h3) ?_)
 rintro e a' w' ⟨g1,g2,g3⟩
 cases e
 case exit j=>
  simp only [Ht] at g3
  simp only [Exit.inBlock]
  by_cases e:j=k
  ·subst e
   rw [show Nat.beq j j=true from Nat.beq_refl j] at g3
   simp only [if_true]
   exact ⟨g1,g2,g3⟩
  ·have hb:Nat.beq j k=false:=by
    cases hb:Nat.beq j k with
    | false=>rfl
    | true=>exact absurd (Nat.eq_of_beq_eq_true hb) e
   rw [hb] at g3
   simp only [e,if_false]
   exact ⟨g1,g2,g3⟩
 all_goals exact ⟨g1,g2,g3⟩
theorem W4 {c:Code} (I:Nat→(Nat→Value)→World→Prop) (k0:Nat) (h0:I k0 r w)
  (round:∀ k r w,I k r w→W P n c (andThen (fun r' w'=>∃ j,j < k∧I j r' w') Q) r w):W P n (.loop c) Q r w:=by
 have key:∀ k r w,I k r w→∀ a:Act,a.tmps.size=n→a.defers=[]→cu a=r→(Code.loop c).wp P (fun e a' w'=>a'.tmps.size=n∧a'.defers=[]∧Q e (cu a') w') a w:=by
  intro k r w hI a h1 h2 h3
  refine wp_loop_ghost (fun k a w=>a.tmps.size=n∧a.defers=[]∧I k (cu a) w) k ⟨h1,h2,by rw [h3]; exact hI⟩ ?_
  rintro k a w ⟨g1,g2,g3⟩
  refine wp_mono (round k _ _ g3 a g1 g2 rfl) ?_
  rintro e a' w' ⟨f1,f2,f3⟩
  cases e
  case normal=>
   obtain ⟨j,hj,hI⟩:=f3
   exact ⟨j,hj,f1,f2,hI⟩
  all_goals exact ⟨f1,f2,f3⟩
 exact fun a h1 h2 h3=>key k0 r w h0 a h1 h2 h3
inductive Out (S R:Type) where
 | norm (s:S)
 | exit (k:Nat) (s:S)
 | ret (r:R)
variable {S R:Type}
def p7 (N:S→(Nat→Value)→World→Prop) (X:Nat→S→(Nat→Value)→World→Prop) (T:R→(Nat→Value)→World→Prop) :
  Out S R→Exit→(Nat→Value)→World→Prop
 | .norm s,.normal,r,w=>N s r w
 | .exit k s,.exit j,r,w=>j=k∧X k s r w
 | .ret x,.ret,r,w=>T x r w
 | _,_,_,_=>False
def Ja (k:Nat):Out S R→Out S R
 | .exit j s=>bif Nat.beq j k then .norm s else .exit j s
 | o=>o
def ae (k:Nat) (m:Option (Out S R)):Option (Out S R):=m.map (Ja k)
def sB (body:S→Option (Out S R)):Nat→S→Option (Out S R)
 | 0,_=>none
 | k+1,s=>
  match body s with
  | some (.norm s')=>sB body k s'
  | o=>o
theorem Ff {body:S→Option (Out S R)} {o:Out S R}:∀ (k j:Nat) (s:S),k≤j→sB body k s=some o→sB body j s=some o:=by
 intro k
 induction k with
 | zero=>intro j s _ h; cases h
 | succ k ih=>
  intro j s hj h
  obtain ⟨j,rfl⟩ : ∃ i,j=i+1:=⟨j - 1,by omega⟩
  unfold sB at h ⊢
  cases hb:body s with
  | none=>rw [hb] at h; cases h
  | some x=>
   rw [hb] at h
   cases x with
   | norm s'=>exact ih j s' (by omega) h
   | exit=>exact h
   | ret=>exact h
open Classical in
noncomputable def af (body:S→Option (Out S R)) (s:S):Option (Out S R):=
 if h:∃ k o,sB body k s=some o then sB body (Classical.choose h) s else none
theorem ze {body:S→Option (Out S R)} {s:S} {o:Out S R}:af body s=some o↔∃ k,sB body k s=some o:=by
 unfold af
 constructor
 ·intro h
  split at h
  ·exact ⟨_,h⟩
  ·cases h
 ·rintro ⟨k,hk⟩
  have h:∃ k o,sB body k s=some o:=⟨k,o,hk⟩
  rw [dif_pos h]
  obtain ⟨o',bm⟩:=Classical.choose_spec h
  rw [bm]
  have h1:=Ff _ (k+Classical.choose h) s (by omega) hk
  have h2:=Ff _ (k+Classical.choose h) s (by omega) bm
  rw [h1] at h2
  exact h2.symm
theorem uo (body:S→Option (Out S R)) (s:S) :
  af body s=match body s with | some (.norm s')=>af body s' | o=>o:=by
 apply Option.ext
 intro o
 rw [ze]
 constructor
 ·rintro ⟨k,hk⟩
  cases k with
  | zero=>cases hk
  | succ k=>
   unfold sB at hk
   cases hb:body s with
   | none=>rw [hb] at hk; cases hk
   | some x=>
    rw [hb] at hk
    cases x with
    | norm s'=>exact ze.2 ⟨k,hk⟩
    | exit=>exact hk
    | ret=>exact hk
 ·intro h
  cases hb:body s with
  | none=>rw [hb] at h; cases h
  | some x=>
   rw [hb] at h
   cases x with
   | norm s'=>
    obtain ⟨k,hk⟩:=ze.1 h
    exact ⟨k+1,by unfold sB; rw [hb]; exact hk⟩
   | exit=>exact ⟨1,by unfold sB; rw [hb]; exact h⟩
   | ret=>exact ⟨1,by unfold sB; rw [hb]; exact h⟩
theorem Uy {c:Code} {body:S→Option (Out S R)} {X:Nat→S→(Nat→Value)→World→Prop} {T:R→(Nat→Value)→World→Prop} {N:S→(Nat→Value)→World→Prop}
  (I:S→(Nat→Value)→World→Prop)
  (step:∀ s r w,I s r w→∀ o,body s=some o→W P n c (p7 I X T o) r w)
  {s0:S} {o:Out S R} (hm:af body s0=some o) (h0:I s0 r w):W P n (.loop c) (p7 N X T o) r w:=by
 obtain ⟨k,hk⟩:=ze.1 hm
 refine W4 (fun k r w=>∃ s,I s r w∧sB body k s=some o) k ⟨s0,h0,hk⟩ ?_
 rintro k r w ⟨s,hI,hl⟩
 cases k with
 | zero=>cases hl
 | succ k=>
  unfold sB at hl
  cases hb:body s with
  | none=>rw [hb] at hl; cases hl
  | some x=>
   rw [hb] at hl
   refine wy (step s r w hI x hb) ?_
   rintro e r' w' hq
   cases x with
   | norm s'=>
    cases e <;> first | exact hq.elim | exact ⟨k,Nat.lt_succ_self k,s',hq,hl⟩
   | exit j s'=>
    cases hl
    cases e <;> first | exact hq.elim | exact hq
   | ret y=>
    cases hl
    cases e <;> first | exact hq.elim | exact hq
theorem Ra {k:Nat} {c:Code} {X:Nat→S→(Nat→Value)→World→Prop} {T:R→(Nat→Value)→World→Prop} {N:S→(Nat→Value)→World→Prop} {o:Out S R}
  (h:W P n c (p7 N (fun j s r w=>bif Nat.beq j k then N s r w else X j s r w) T o) r w) :
  W P n (.block k c) (p7 N X T (Ja k o)) r w:=by
 refine KD (wy h ?_)
 intro e r' w' hq
 cases o with
 | norm s=>cases e <;> first | exact hq.elim | exact hq
 | ret y=>cases e <;> first | exact hq.elim | exact hq
 | exit j s=>
  cases e with
  | exit i=>
   obtain ⟨rfl,hq⟩:=hq
   simp only [Ht,Ja]
   cases hb:Nat.beq i k with
   | true=>rw [hb] at hq; exact hq
   | false=>rw [hb] at hq; exact ⟨rfl,hq⟩
  | _=>exact hq.elim
def ag {S1:Type} (m:Option (Out S1 R)) (f:S1→Option (Out S R)):Option (Out S R):=
 match m with
 | some (.norm s)=>f s
 | some (.ret x)=>some (.ret x)
 | _=>none
def jn {S1:Type} (_t:Nat) (_s0:S1) (m:Option (Out S1 R)) (f:S1→Option (Out S R)):Option (Out S R):=ag m f
theorem LF {S1:Type} {k:Nat} {c:Code} {body:S1→Option (Out S1 R)}
  (I:S1→(Nat→Value)→World→Prop) {T:R→(Nat→Value)→World→Prop}
  {s0:S1} {f:S1→Option (Out S R)} {o:Out S R} (hm:ag (ae k (af body s0)) f=some o) (h0:I s0 r w)
  (ht:∀ x r w,o = .ret x→T x r w→Q .ret r w)
  (step:∀ s r w,I s r w→∀ o,body s=some o→W P n c (p7 I (fun j s r w=>bif Nat.beq j k then I s r w else False) T o) r w)
  (next:∀ s r w,I s r w→f s=some o→Q .normal r w):W P n (.block k (.loop c)) Q r w:=by
 cases hl:af body s0 with
 | none=>rw [hl] at hm; cases hm
 | some o1=>
  rw [hl] at hm
  refine wy (Ra (N:=I) (X:=fun _ _ _ _=>False) (T:=T) (Uy I step hl h0)) ?_
  intro e r' w' hq
  simp only [ae,Option.map_some] at hm
  generalize Ja k o1=o2 at hm hq
  cases o2 with
  | norm s=>cases e <;> first | exact hq.elim | exact next s r' w' hq hm
  | exit j s=>cases e <;> first | exact hq.elim | exact hq.2.elim
  | ret z=>cases hm; cases e <;> first | exact hq.elim | exact ht _ _ _ rfl hq
theorem AQ {f:FuncId} {fn:Func} {c:Code} {args:LV} {w:World} {R:Ending→World→Prop}
  (hf:P.funcs[f]? = some fn) (hb:fn.body=some c) (hn:fn.ntmps=n) (hl:args.length≤n)
  (h:W P n c (fun e r w=>(e = .normal∨e = .ret)∧∃ v,(∀ a:Act,a.tmps.size=n→cu a=r→(results fn a.tmps).run P w = .ok v w)∧R (.returned v) w)
   (fun t=>args.getD t undef) w) :
  Calls P f args.toArray w R:=by
 refine calls_of_wp hf hb (wp_mono (h _ ?_ rfl ?_) ?_)
 ·simp; omega
 ·funext t
  simp only [cu,Array.getD_eq_getD_getElem?,List.getD_eq_getElem?_getD]
  by_cases ht:t < args.length
  ·rw [Array.getElem?_append_left (by simpa using ht)]
   simp
  ·rw [Array.getElem?_append_right (by simpa using ht)]
   rw [List.getElem?_eq_none (by omega)]
   by_cases h2:t - args.length < fn.ntmps - args.length
   ·simp [h2]
   ·rw [Array.getElem?_eq_none (by simpa using h2)]
 ·rintro e a' w' ⟨h1,h2,h3,v,hv,hR⟩
  have kh:=hv a' h1 rfl
  rcases h3 with rfl | rfl
  ·exact ⟨h2,v,kh,hR⟩
  ·exact ⟨h2,v,kh,hR⟩
theorem LG {f:FuncId} {fn:Func} {c:Code} {args:LV} {w:World} {Rr:R→Ending→World→Prop} {m:Option (Out S R)} {y:R}
  (hf:P.funcs[f]? = some fn) (hb:fn.body=some c) (hn:fn.ntmps=n) (hl:args.length≤n) (hm:m=some (.ret y))
  (h:∀ o,m=some o→W P n c (p7 (fun _ _ _=>False) (fun _ _ _ _=>False) (fun x r w=>∃ v,(∀ a:Act,a.tmps.size=n→cu a=r→(results fn a.tmps).run P w = .ok v w)∧Rr x (.returned v) w) o)
   (fun t=>args.getD t undef) w) :
  Calls P f args.toArray w (Rr y):=by
 refine AQ hf hb hn hl (wy (h _ hm) ?_)
 intro e r w hq
 cases e <;> first | exact hq.elim | exact ⟨.inr rfl,hq⟩
def Gh {R:Type}:Option (Out R R)→Option R
 | some (.ret x)=>some x
 | some (.norm x)=>some x
 | _=>none
theorem J4 {f:FuncId} {fn:Func} {c:Code} {args:LV} {w:World} {Rr:R→Ending→World→Prop} {m:Option (Out R R)} {y:R}
  (hf:P.funcs[f]? = some fn) (hb:fn.body=some c) (hn:fn.ntmps=n) (hl:args.length≤n) (hm:Gh m=some y)
  (h:∀ o,m=some o→W P n c (p7 (fun x r w=>∃ v,(∀ a:Act,a.tmps.size=n→cu a=r→(results fn a.tmps).run P w = .ok v w)∧Rr x (.returned v) w) (fun _ _ _ _=>False) (fun x r w=>∃ v,(∀ a:Act,a.tmps.size=n→cu a=r→(results fn a.tmps).run P w = .ok v w)∧Rr x (.returned v) w) o)
   (fun t=>args.getD t undef) w) :
  Calls P f args.toArray w (Rr y):=by
 cases m with
 | none=>cases hm
 | some o=>
  cases o with
  | exit=>cases hm
  | norm x=>
   cases hm
   refine AQ hf hb hn hl (wy (h _ rfl) ?_)
   intro e r w hq
   cases e <;> first | exact hq.elim | exact ⟨.inl rfl,hq⟩
  | ret x=>
   cases hm
   refine AQ hf hb hn hl (wy (h _ rfl) ?_)
   intro e r w hq
   cases e <;> first | exact hq.elim | exact ⟨.inr rfl,hq⟩
end
end Go.Li
namespace Go.Li
open Go
structure ak (F:LN) (w w':World):Prop where
 os:w'.os=w.os
 tape:w'.tape=w.tape
 output:w'.output=w.output
 drawn:w.drawn≤w'.drawn
 size:w.heap.size≤w'.heap.size
 block:∀ b,b < w.heap.size→b ∉ F→w'.heap[b]? = w.heap[b]?
theorem ak.refl (F:LN) (w:World):ak F w w:=⟨rfl,rfl,rfl,Nat.le_refl _,Nat.le_refl _,fun _ _ _=>rfl⟩
theorem ak.mono {F G:LN} {w w':World} (h:ak F w w') (hs:∀ b∈F,b∈G):ak G w w':=
 ⟨h.os,h.tape,h.output,h.drawn,h.size,fun b hb hn=>h.block b hb fun hm=>hn (hs b hm)⟩
theorem ak.nil {G:LN} {w w':World} (h:ak [] w w'):ak G w w':=h.mono fun _ hb=>nomatch hb
theorem ak.trans {F:LN} {a b c:World} (h:ak F a b) (k:ak F b c):ak F a c:=
 ⟨k.os.trans h.os,k.tape.trans h.tape,k.output.trans h.output,Nat.le_trans h.drawn k.drawn,Nat.le_trans h.size k.size,
  fun i hi hn=>(k.block i (Nat.lt_of_lt_of_le hi h.size) hn).trans (h.block i hi hn)⟩
theorem ak.then {F G:LN} {a b c:World} (h:ak F a b) (k:ak G b c) (hG:∀ i∈G,i∈F∨a.heap.size≤i):ak F a c:=
 ⟨k.os.trans h.os,k.tape.trans h.tape,k.output.trans h.output,Nat.le_trans h.drawn k.drawn,Nat.le_trans h.size k.size,
  fun i hi hn=>(k.block i (Nat.lt_of_lt_of_le hi h.size) (fun hm=>(hG i hm).elim hn (fun hle=>absurd hi (Nat.not_lt.2 hle)))).trans (h.block i hi hn)⟩
theorem ak.drew (F:LN) (w:World):ak F w { w with drawn:=w.drawn+1 }:=⟨rfl,rfl,rfl,Nat.le_succ _,Nat.le_refl _,fun _ _ _=>rfl⟩
theorem ak.alloc (F:LN) (w:World) (o:Obj):ak F w (w.alloc o):=
 ⟨rfl,rfl,rfl,Nat.le_refl _,by simp,fun b hb _=>by
  show (w.heap.push o)[b]? = _
  rw [Array.getElem?_push,if_neg (by omega)]⟩
theorem ak.setCell (w:World) (a:Addr) (v:Value):ak [a.block] w (w.setCell a v):=
 ⟨rfl,rfl,rfl,Nat.le_refl _,by simp,fun b _ hn=>by
  simp only [World.setCell,Array.getElem?_modify]
  rw [if_neg (fun h=>hn (by simp [h]))]⟩
theorem Kw {w:World} {a:Addr} {v:Value} (h:w.cell? a=some v):a.block < w.heap.size:=by
 unfold World.cell? at h
 cases hb:w.heap[a.block]? with
 | none=>rw [hb] at h; cases h
 | some o=>exact (Array.getElem?_eq_some_iff.1 hb).1
theorem ak.cell {F:LN} {w w':World} (h:ak F w w') {a:Addr} {v:Value} (hn:a.block ∉ F) (hc:w.cell? a=some v):w'.cell? a=some v:=by
 rw [← hc]; simp only [World.cell?,h.block a.block (Kw hc) hn]
theorem ak.Lz {w w':World} (h:ak [] w w') {a:Addr} {v:Value} (hc:w.cell? a=some v):w'.cell? a=some v:=h.cell (by simp) hc
section
variable {P:Program} {n:Nat} {Q:Exit→(Nat→Value)→World→Prop} {r:NV} {w:World}
def fh (P:Program) (o:Oper) (r:NV) (w:World) (K:Value→World→Prop):Prop:=
 match (execOp (ev r) o).run P w with
 | .ok (.value v) w'=>K v w'
 | .ok .skip w'=>K undef w'
 | .ok (.enter f args) w'=>Calls P f args w' fun e zP=>∃ v,e = .returned v∧K v zP
 | _=>False
def WL (P:Program) (ops:LO):List Oper→(Nat→Value)→World→((Nat→Value)→World→Prop)→Prop
 | [],r,w,K=>K r w
 | o :: l,r,w,K=>(Region.wanted o (yl ops r)=true∧fh P o r w fun v w'=>WL P ops l (gf r o.dst v) w' K)∨
   (Region.wanted o (yl ops r)=false∧WL P ops l (gf r o.dst undef) w K)
theorem fh.wp {o:Oper} {a:Act} {K:Value→World→Prop} {next:Act→World→Prop} {Q':Exit→Act→World→Prop}
  (h:fh P o (cu a) w K) (hk:∀ v w',K v w'→next (a.put o.dst v) w'):o.wp P a w next Q':=by
 unfold Oper.wp
 rw [ny]
 unfold fh at h
 generalize (execOp (ev (cu a)) o).run P w=x at h
 cases x with
 | halt y w'=>exact h.elim
 | ok y w'=>
  cases y <;> first
   | exact h.elim
   | exact hk _ _ h
   | exact h.mono (fun e zP ⟨v,he,hv⟩=>by subst he; exact hk _ _ hv)
theorem xG {id:Nat} {l:LO} (hd:dh n l=true) (h:WL P l l r w (Q .normal)):W P n (.region id l.toArray false) Q r w:=by
 intro a h1 h2 h3
 refine wp_region_lit ?_
 have key:∀ (l':LO) (a:Act) (w:World),dh n l'=true→a.tmps.size=n→a.defers=[]→WL P l l' (cu a) w (Q .normal)→
   wpList P l.toArray (fun e a' w'=>a'.tmps.size=n∧a'.defers=[]∧Q e (cu a') w') l' a w:=by
  intro l'
  induction l' with
  | nil=>intro a w _ g1 g2 hh; exact ⟨g1,g2,hh⟩
  | cons o l' ih=>
   intro a w fx g1 g2 hh
   obtain ⟨d1,d2⟩:=xk fx
   have ya:∀ v,cu (a.put o.dst v)=gf (cu a) o.dst v:=fun v=>js (fun k hk=>by rw [g1]; exact d1 k hk) v
   unfold wpList
   rw [vX (by rw [g1]; exact hd)]
   rcases hh with ⟨hw,hh⟩ | ⟨hw,hh⟩
   ·rw [if_pos hw]
    refine .inl (hh.wp fun v w' hv=>ih _ _ d2 (by rw [iT]; exact g1) (by rw [fu]; exact g2) (by rw [ya]; exact hv))
   ·rw [if_neg (by rw [hw]; exact Bool.false_ne_true)]
    exact ih _ _ d2 (by rw [iT]; exact g1) (by rw [fu]; exact g2) (by rw [ya]; exact hh)
 exact key l a w hd h1 h2 (by rw [h3]; exact h)
def OpQ (P:Program) (C:World→Prop) (o:Oper) (r:NV) (v:Value):Prop:=
 ∀ w,C w→Oper.quietUpon P C w v ((execOp (ev r) o).run P w)
def QL (P:Program) (C:World→Prop) (ops:LO):List Oper→(Nat→Value)→((Nat→Value)→Prop)→Prop
 | [],r,K=>K r
 | o :: l,r,K=>(Region.wanted o (yl ops r)=true∧∃ v,OpQ P C o r v∧QL P C ops l (gf r o.dst v) K)∨
   (Region.wanted o (yl ops r)=false∧QL P C ops l (gf r o.dst undef) K)
theorem QL.wpQuiet {C:World→Prop} {l:LO} {K:(Nat→Value)→Prop}:∀ (l':LO) (a:Act),dh n l=true→dh n l'=true→a.tmps.size=n→a.defers=[]→
  QL P C l l' (cu a) K→Go.wpQuiet P l.toArray C (fun a'=>a'.tmps.size=n∧a'.defers=[]∧K (cu a')) l' a:=by
 intro l'
 induction l' with
 | nil=>intro a _ _ g1 g2 hh; exact ⟨g1,g2,hh⟩
 | cons o l' ih=>
  intro a hd fx g1 g2 hh
  obtain ⟨d1,d2⟩:=xk fx
  have ya:∀ v,cu (a.put o.dst v)=gf (cu a) o.dst v:=fun v=>js (fun k hk=>by rw [g1]; exact d1 k hk) v
  unfold Go.wpQuiet
  rw [vX (by rw [g1]; exact hd)]
  rcases hh with ⟨hw,v,hv,hh⟩ | ⟨hw,hh⟩
  ·rw [if_pos hw]
   refine ⟨v,fun w hC=>?_,ih _ hd d2 (by rw [iT]; exact g1) (by rw [fu]; exact g2) (by rw [ya]; exact hh)⟩
   unfold Oper.quietAt
   rw [ny]
   exact hv w hC
  ·rw [if_neg (by rw [hw]; exact Bool.false_ne_true)]
   exact ih _ hd d2 (by rw [iT]; exact g1) (by rw [fu]; exact g2) (by rw [ya]; exact hh)
theorem Hp {C:World→Prop} {ops:Array Oper} {K K':Act→Prop}:∀ {l:LO} {a:Act},wpQuiet P ops C K l a→(∀ a,K a→K' a)→wpQuiet P ops C K' l a:=by
 intro l
 induction l with
 | nil=>intro a h hk; exact hk _ h
 | cons o l ih=>
  intro a h hk
  unfold wpQuiet at h ⊢
  split
  ·rename_i hw
   rw [if_pos hw] at h
   obtain ⟨v,h1,h2⟩:=h
   exact ⟨v,h1,ih h2 hk⟩
  ·rename_i hw
   rw [if_neg hw] at h
   exact ih h hk
theorem TV {id:Nat} {l:LO} {draw:Bool} {C:World→Prop} (hm:P.follows .mixedOrders=true) (hd:dh n l=true)
  (hB:draw=true→Region.lexB .any l.toArray=true) (hC:C w) (xY:C { w with drawn:=w.drawn+1 })
  (h:QL P C l l r fun r'=>∀ w',C w'→Q .normal r' w'):W P n (.region id l.toArray draw) Q r w:=by
 cases draw with
 | true=>
  intro a h1 h2 h3
  refine wp_region_quiet (C:=C) hm (hB rfl) xY ?_
  have:=QL.wpQuiet (n:=n) (C:=C) (P:=P) l a hd hd h1 h2 (by rw [h3]; exact h)
  refine Hp (by simpa using this) ?_
  rintro a' ⟨g1,g2,g3⟩ w' w9
  exact ⟨g1,g2,g3 w' w9⟩
 | false=>
  refine xG hd ?_
  have key:∀ (l':LO) (r:NV) (w:World),C w→QL P C l l' r (fun r'=>∀ w',C w'→Q .normal r' w')→WL P l l' r w (Q .normal):=by
   intro l'
   induction l' with
   | nil=>intro r w hw hh; exact hh w hw
   | cons o l' ih=>
    intro r w hw hh
    rcases hh with ⟨H7,v,hv,hh⟩ | ⟨H7,hh⟩
    ·refine .inl ⟨H7,?_⟩
     have h3:=hv w hw
     unfold fh
     generalize (execOp (ev r) o).run P w=x at h3
     cases x with
     | halt y w'=>exact h3.elim
     | ok y w'=>
      cases y <;> simp only [Oper.quietUpon] at h3
      case value u=>obtain ⟨rfl,rfl⟩:=h3; exact ih _ _ hw hh
      case skip=>obtain ⟨rfl,rfl⟩:=h3; exact ih _ _ hw hh
      case enter f args=>
       obtain ⟨rfl,h3⟩:=h3
       exact h3.mono fun e zP ⟨he,P9⟩=>⟨v,he,ih _ _ P9 hh⟩
    ·exact .inr ⟨H7,ih _ _ hw hh⟩
  exact key l r w hC h
end
end Go.Li
namespace Go.Li
open Go
section
variable {P:Program} {r:NV} {w:World} {d:Option Nat} {ty:TI} {pos:String} {ab:Array Edge} {g:Option (Nat×Bool)}
theorem mj {t:TI} {d:TypeDesc} (h:P.underlying t=some d) (w:World):(underlying t).run P w = .ok d w:=run_underlying h w
theorem KE {c a b:OO} {t:Bool} (h:ev r c = .bool t) :
  (execOp (ev r) ⟨d,.pick c a b,ty,pos,ab,g⟩).run P w = .ok (.value (bif t then ev r a else ev r b)) w:=by
 simp only [execOp,h,asBool]
 cases t <;> rfl
theorem W5 {x:OO} {t:TI} {b:Bool} (h:ev r x = .bool b) :
  (execOp (ev r) ⟨d,.unOp .not t x,ty,pos,ab,g⟩).run P w = .ok (.value (.bool (!b))) w:=by
 simp only [execOp,h,Op.unary]; rfl
theorem W6 {x:OO} {t:TI} {k:IntKind} {a:Int} (h:ev r x = .int k a) :
  (execOp (ev r) ⟨d,.unOp .neg t x,ty,pos,ab,g⟩).run P w = .ok (.value (.int k (k.wrap (0 - a)))) w:=by
 simp only [execOp,h,Op.unary,Op.intArith]; rfl
theorem DD (op:BinOp) (t:TI) (x y:OO) (k k':IntKind) (a b:Int):(eqGuard op t x y (.int k a) (.int k' b)).run P w = .ok () w:=by
 cases op <;> rfl
theorem Cm (op:BinOp) (t:TI) (x y:OO) (a b:Bool):(eqGuard op t x y (.bool a) (.bool b)).run P w = .ok () w:=by
 cases op <;> rfl
theorem vj {op:BinOp} {x y:OO} {t t':TI} {k:IntKind} {a b:Int} {v:Value} (hx:ev r x = .int k a) (hy:ev r y = .int k b)
  (hv:(binOp op t (.int k a) (.int k b)).run P w = .ok v w) :
  (execOp (ev r) ⟨d,.binOp op t x y t',ty,pos,ab,g⟩).run P w = .ok (.value v) w:=by
 have h:=DD (P:=P) (w:=w) op t x y k k a b
 simp only [execOp,hx,hy]
 simp [h,hv]
theorem Uz {t:TI} {k:IntKind} {a b:Int}:(binOp .add t (.int k a) (.int k b)).run P w = .ok (.int k (k.wrap (a+b))) w:=by simp [binOp,Op.intArith]
theorem UA {t:TI} {k:IntKind} {a b:Int}:(binOp .sub t (.int k a) (.int k b)).run P w = .ok (.int k (k.wrap (a - b))) w:=by simp [binOp,Op.intArith]
theorem UB {t:TI} {k:IntKind} {a b:Int}:(binOp .mul t (.int k a) (.int k b)).run P w = .ok (.int k (k.wrap (a * b))) w:=by simp [binOp,Op.intArith]
theorem UC {t:TI} {k:IntKind} {a b:Int}:(binOp .lss t (.int k a) (.int k b)).run P w = .ok (.bool (decide (a < b))) w:=by simp [binOp,Op.intCmp]
theorem UD {t:TI} {k:IntKind} {a b:Int}:(binOp .leq t (.int k a) (.int k b)).run P w = .ok (.bool (decide (a≤b))) w:=by simp [binOp,Op.intCmp]
theorem UE {t:TI} {k:IntKind} {a b:Int}:(binOp .gtr t (.int k a) (.int k b)).run P w = .ok (.bool (decide (a > b))) w:=by simp [binOp,Op.intCmp]
theorem UF {t:TI} {k:IntKind} {a b:Int}:(binOp .geq t (.int k a) (.int k b)).run P w = .ok (.bool (decide (a ≥ b))) w:=by simp [binOp,Op.intCmp]
theorem UG {t:TI} {k:IntKind} {a b:Int}:(binOp .eql t (.int k a) (.int k b)).run P w = .ok (.bool (a == b)) w:=by simp [binOp,Op.intCmp]
theorem UH {t:TI} {k:IntKind} {a b:Int}:(binOp .neq t (.int k a) (.int k b)).run P w = .ok (.bool (a != b)) w:=by simp [binOp,Op.intCmp]
theorem Jb (k:Nat) {t:TI} {a b:Bool} (ht:P.underlying t=some .bool):(Op.equalIn (k+1) t (.bool a) (.bool b)).run P w = .ok (a == b) w:=by
 simp only [Op.equalIn,Sem.run_bind,mj ht]
 rfl
theorem Fg {t:TI} {a b:Bool} (ht:P.underlying t=some .bool):(Op.equal t (.bool a) (.bool b)).run P w = .ok (a == b) w:=Jb 9999 ht
theorem TW {x y:OO} {t t':TI} {a b:Bool} (hx:ev r x = .bool a) (hy:ev r y = .bool b) (ht:P.underlying t=some .bool) :
  (execOp (ev r) ⟨d,.binOp .eql t x y t',ty,pos,ab,g⟩).run P w = .ok (.value (.bool (a == b))) w:=by
 have h:=Cm (P:=P) (w:=w) .eql t x y a b
 simp only [execOp,hx,hy]
 simp [h,binOp,Fg ht]
theorem Qc {x y:OO} {t t':TI} {a b:Bool} (hx:ev r x = .bool a) (hy:ev r y = .bool b) (ht:P.underlying t=some .bool) :
  (execOp (ev r) ⟨d,.binOp .neq t x y t',ty,pos,ab,g⟩).run P w = .ok (.value (.bool (!(a == b)))) w:=by
 have h:=Cm (P:=P) (w:=w) .neq t x y a b
 simp only [execOp,hx,hy]
 simp [h,binOp,Fg ht]
def vJ:TypeDesc→Bool | .struct _ | .array _ _=>true | _=>false
theorem vL {t:TI} {ds:TypeDesc} (h:P.underlying t=some ds) (w:World):(isAgg t).run P w = .ok (vJ ds) w:=by
 unfold isAgg
 simp only [mj h,Sem.run_bind]
 cases ds <;> rfl
theorem UI {t:TI} {x:OO} {a:Addr} {ds:TypeDesc} {v:Value} (ht:P.underlying t=some ds) (hd:vJ ds=false)
  (hx:ev r x = .pointer (some a)) (hc:w.cell? a=some v) :
  (execOp (ev r) ⟨d,.load t x,ty,pos,ab,g⟩).run P w = .ok (.value v) w:=by
 simp only [execOp,hx,Instr.loadAt,Instr.sureAddr,loadVar]
 simp [vL ht,hd,load,Sem.run,hc]
theorem Mu {t:TI} {x:OO} {a:Addr} {ds:TypeDesc} {i:TypeInfo} {cs:LV} (ht:P.underlying t=some ds) (hd:vJ ds=true)
  (hi:P.info? t=some i) (hl:cs.length=i.size)
  (hx:ev r x = .pointer (some a)) (hc:∀ j v,cs[j]? = some v→w.cell? (a.add j)=some v) :
  (execOp (ev r) ⟨d,.load t x,ty,pos,ab,g⟩).run P w = .ok (.value (.agg cs.toArray)) w:=by
 have h:=run_loadCells_list (P:=P) (w:=w) a cs hc
 simp only [execOp,hx,Instr.loadAt,Instr.sureAddr,loadVar]
 rw [hl] at h
 simp [vL ht,hd,sizeOf,typeInfo,hi,h]
theorem wo {t e:TI} {x:OO} {b:Option Addr} {l c:Nat} (ht:P.underlying t=some (.slice e)) (hx:ev r x = .slice b l c) :
  (execOp (ev r) ⟨d,.call ⟨.builtin .len,#[x],#[t]⟩,ty,pos,ab,g⟩).run P w = .ok (.value (.int .i64 (l:Int))) w:=by
 simp [execOp,resolve,invoke,builtin,Builtin.len_,hx,mj ht,goInt]
theorem yb {s:TI} {x:OO} {k:Nat} {fs:Array Field} {f:Field} {i:TypeInfo} {a:Addr} (hs:P.underlying s=some (.struct fs)) (hf:fs[k]? = some f)
  (hi:P.info? f.type=some i) (h0:i.size≠0) (hx:ev r x = .pointer (some a)) :
  (execOp (ev r) ⟨d,.fieldAddr s x k,ty,pos,ab,g⟩).run P w = .ok (.value (.pointer (some (a.add f.offset)))) w:=by
 simp [execOp,Instr.fieldAt,Instr.sureAddr,hx,mj hs,hf,fieldPlace,sizeOf,typeInfo,hi,h0]
theorem ni {t e:TI} {x y:OO} {i:TypeInfo} {a:Addr} {l c:Nat} {k:IntKind} {j:Int} (ht:P.underlying t=some (.slice e)) (hi:P.info? e=some i)
  (hx:ev r x = .slice (some a) l c) (hy:ev r y = .int k j) (h0:0≤j) (h1:j < l) :
  (execOp (ev r) ⟨d,.indexAddr t x y,ty,pos,ab,g⟩).run P w = .ok (.value (.pointer (some (a.add (j.toNat * i.size))))) w:=by
 simp [execOp,Instr.indexAt,hx,hy,asIntOf,mj ht,sizeOf,typeInfo,hi,h0,h1]
theorem Ka {x:OO} {a:Addr} (hx:ev r x = .pointer (some a)) :
  (execOp (ev r) ⟨d,.nilCheck x,ty,pos,ab,g⟩).run P w = .ok (.value (.pointer (some a))) w:=by
 simp [execOp,hx]
theorem Mw {x:OO} {k:Nat} {vs:Array Value} {v:Value} (hx:ev r x = .tuple vs) (hv:vs[k]? = some v) :
  (execOp (ev r) ⟨d,.extract x k,ty,pos,ab,g⟩).run P w = .ok (.value v) w:=by
 simp [execOp,Instr.extract,hx,hv]
theorem W7 {t:TI} {x:OO} {v:Value} (hx:ev r x=v) :
  (execOp (ev r) ⟨d,.box t x,ty,pos,ab,g⟩).run P w = .ok (.value (.pointer (some ⟨w.heap.size,0,none⟩))) (w.alloc (.cells v.cells t)):=by
 simp only [execOp,Instr.box,newVar,newRow,newObj,hx]
 rfl
theorem D3 {t:TI} {i:TypeInfo} {z:Value} (hi:P.info? t=some i) (hz:i.zero=some z) :
  (execOp (ev r) ⟨d,.alloc t,ty,pos,ab,g⟩).run P w = .ok (.value (.pointer (some ⟨w.heap.size,0,none⟩))) (w.alloc (.cells z.cells t)):=by
 have h:(zeroValue t).run P w = .ok z w:=by simp [zeroValue,typeInfo,hi,hz]
 simp only [execOp,Instr.alloc,Sem.run_bind,h,Result.andThen,newVar,newRow,newObj]
 rfl
theorem D8 {t:TI} {x y:OO} {a:Addr} {i:TypeInfo} {v u:Value} (hi:P.info? t=some i) (hs:i.size=1)
  (hx:ev r x = .pointer (some a)) (hy:ev r y=v) (hv:v.oneCell'=true) (hc:w.cell? a=some u) (hf:w.frozen? a=false) :
  (execOp (ev r) ⟨d,.store t x y,ty,pos,ab,g⟩).run P w = .ok .skip (w.setCell a v):=by
 have rW:v.cells = #[v]:=by cases v <;> first | rfl | (cases hv)
 simp [execOp,Instr.storeAt,Instr.sureAddr,hx,hy,storeVar,rW,sizeOf,typeInfo,hi,hs,storeCells,Addr.add,Go.run_store,hv,hc,hf]
theorem Ar {f : FuncId} {fn : Func} {c : Code} {xs : List Operand} {au : Array TypeId} (hf : P.funcs[f]? = some fn) (hb : fn.body = some c) (hn : (fn.name == "runtime.NumGoroutine") = false) :
  (execOp (ev r) ⟨d,.call ⟨.value (.func f),xs.toArray,au⟩,ty,pos,ab,g⟩).run P w = .ok (.enter f (xs.map (ev r)).toArray) w:=by
 have mh : ¬ (fn.name = "runtime.NumGoroutine") := by simpa using hn
 simp [execOp,resolve,Deferred.ofValue,ev,invoke,callFunc,program,Sem.run,hf,hb,mh]
theorem Ib {f : FuncId} {fn : Func} {c : Code} {x : Operand} {xs : List Operand} {au : Array TypeId} {fst cap : List Value} (hx : ev r x = .func (.func f) fst.toArray cap.toArray) (hf : P.funcs[f]? = some fn) (hb : fn.body = some c) (hn : (fn.name == "runtime.NumGoroutine") = false) :
  (execOp (ev r) ⟨d,.call ⟨.value x,xs.toArray,au⟩,ty,pos,ab,g⟩).run P w = .ok (.enter f (fst++xs.map (ev r)++cap).toArray) w:=by
 have mh : ¬ (fn.name = "runtime.NumGoroutine") := by simpa using hn
 simp [execOp,resolve,Deferred.ofValue,hx,invoke,callFunc,program,Sem.run,hf,hb,mh]
def abW (P : Program) (g : FuncId) : Prop := ∃ fn c, P.funcs[g]? = some fn ∧ fn.body = some c ∧ (fn.name == "runtime.NumGoroutine") = false
theorem J3 {f:FuncId} {fst cap:List Operand} :
  (execOp (ev r) ⟨d,.makeFunc (.func f) fst.toArray cap.toArray,ty,pos,ab,g⟩).run P w = .ok (.value (.func (.func f) (fst.map (ev r)).toArray (cap.map (ev r)).toArray)) w:=by
 simp [execOp,Instr.makeFunc]
end
end Go.Li
namespace Go.Li
open Go
structure ah (α:Type) where
 size:Nat
 rep:Array Obj→List Value→α→List Nat→Prop
 len:∀ {h cs x f},rep h cs x f→cs.length=size
 one:∀ {h cs x f},rep h cs x f→∀ v∈cs,v.oneCell'=true
 congr:∀ {h h':Array Obj} {cs x f},rep h cs x f→(∀ b∈f,h'[b]? = h[b]?)→rep h' cs x f
 lt:∀ {h cs x f},rep h cs x f→∀ b∈f,b < h.size
def aN (k:IntKind):ah Int where
 size:=1
 rep _ cs x f:=cs=[.int k x]∧f=[]
 len:=by rintro h cs x f ⟨rfl,_⟩; rfl
 one:=by rintro h cs x f ⟨rfl,_⟩ v hv; simp at hv; subst hv; rfl
 congr:=fun h _=>h
 lt:=by rintro h cs x f ⟨_,rfl⟩ b hb; cases hb
def jc:ah Bool where
 size:=1
 rep _ cs x f:=cs=[.bool x]∧f=[]
 len:=by rintro h cs x f ⟨rfl,_⟩; rfl
 one:=by rintro h cs x f ⟨rfl,_⟩ v hv; simp at hv; subst hv; rfl
 congr:=fun h _=>h
 lt:=by rintro h cs x f ⟨_,rfl⟩ b hb; cases hb
def dm {α:Type} (E:ah α) (h:Array Obj):List Value→List α→List Nat→Prop
 | cs,[],f=>cs=[]∧f=[]
 | cs,x :: xs,f=>∃ c lf f1 f2,cs=c++lf∧f=f1++f2∧E.rep h c x f1∧dm E h lf xs f2
section
variable {α:Type} {E:ah α} {h h':Array Obj}
theorem jq:∀ {xs:List α} {cs f},dm E h cs xs f→cs.length=xs.length * E.size:=by
 intro xs
 induction xs with
 | nil=>rintro cs f ⟨rfl,_⟩; simp
 | cons x xs ih=>
  rintro cs f ⟨c,lf,f1,f2,rfl,rfl,h1,h2⟩
  rw [List.length_append,E.len h1,ih h2,List.length_cons,Nat.add_mul,Nat.one_mul,Nat.add_comm]
theorem D2:∀ {xs:List α} {cs f},dm E h cs xs f→∀ v∈cs,v.oneCell'=true:=by
 intro xs
 induction xs with
 | nil=>rintro cs f ⟨rfl,_⟩ v hv; cases hv
 | cons x xs ih=>
  rintro cs f ⟨c,lf,f1,f2,rfl,rfl,h1,h2⟩ v hv
  rcases List.mem_append.1 hv with hv | hv
  ·exact E.one h1 v hv
  ·exact ih h2 v hv
theorem jw:∀ {xs:List α} {cs f},dm E h cs xs f→(∀ b∈f,h'[b]? = h[b]?)→dm E h' cs xs f:=by
 intro xs
 induction xs with
 | nil=>intro cs f h _; exact h
 | cons x xs ih=>
  rintro cs f ⟨c,lf,f1,f2,rfl,rfl,h1,h2⟩ hb
  exact ⟨c,lf,f1,f2,rfl,rfl,E.congr h1 fun b hm=>hb b (List.mem_append_left _ hm),ih h2 fun b hm=>hb b (List.mem_append_right _ hm)⟩
theorem mr:∀ {xs:List α} {cs f},dm E h cs xs f→∀ b∈f,b < h.size:=by
 intro xs
 induction xs with
 | nil=>rintro cs f ⟨_,rfl⟩ b hb; cases hb
 | cons x xs ih=>
  rintro cs f ⟨c,lf,f1,f2,rfl,rfl,h1,h2⟩ b hb
  rcases List.mem_append.1 hb with hb | hb
  ·exact E.lt h1 b hb
  ·exact ih h2 b hb
theorem wa:∀ {xs:List α} {cs f} {ys:List α} {ds g},dm E h cs xs f→dm E h ds ys g→dm E h (cs++ds) (xs++ys) (f++g):=by
 intro xs
 induction xs with
 | nil=>rintro cs f ys ds g ⟨rfl,rfl⟩ h2; exact h2
 | cons x xs ih=>
  rintro cs f ys ds g ⟨c,lf,f1,f2,rfl,rfl,h1,h2⟩ h3
  exact ⟨c,lf++ds,f1,f2++g,by simp,by simp,h1,ih h2 h3⟩
theorem l6 {x:α} {cs f} (h1:E.rep h cs x f):dm E h cs [x] f:=
 ⟨cs,[],f,[],by simp,by simp,h1,rfl,rfl⟩
theorem Rb:∀ {xs:List α} {cs f} (i:Nat) (x:α),dm E h cs xs f→xs[i]? = some x→
  ∃ c f0 f1 f2 p q,f=f0++f1++f2∧cs=p++c++q∧p.length=i * E.size∧E.rep h c x f1:=by
 intro xs
 induction xs with
 | nil=>intro cs f i x _ hi; simp at hi
 | cons y xs ih=>
  rintro cs f i x ⟨c,lf,f1,f2,rfl,rfl,h1,h2⟩ hi
  cases i with
  | zero=>
   simp at hi
   subst hi
   exact ⟨c,[],f1,f2,[],lf,by simp,by simp,by simp,h1⟩
  | succ i=>
   obtain ⟨c',g0,g1,g2,p,q,hf,hc,hp,hr⟩:=ih i x h2 (by simpa using hi)
   subst hf; subst hc
   exact ⟨c',f1++g0,g1,g2,c++p,q,by simp,by simp,by rw [List.length_append,E.len h1,hp,Nat.add_mul,Nat.one_mul,Nat.add_comm],hr⟩
theorem Jc:∀ {xs:List α} {cs f} (i:Nat) (x x':α),dm E h cs xs f→xs[i]? = some x→
  ∃ c f0 f1 f2 p q,f=f0++f1++f2∧cs=p++c++q∧p.length=i * E.size∧E.rep h c x f1∧
   ∀ (h':Array Obj) c' yc,(∀ b∈f0,h'[b]? = h[b]?)→(∀ b∈f2,h'[b]? = h[b]?)→E.rep h' c' x' yc→dm E h' (p++c'++q) (xs.set i x') (f0++yc++f2):=by
 intro xs
 induction xs with
 | nil=>intro cs f i x x' _ hi; simp at hi
 | cons y xs ih=>
  rintro cs f i x x' ⟨c,lf,f1,f2,rfl,rfl,h1,h2⟩ hi
  cases i with
  | zero=>
   simp at hi
   subst hi
   refine ⟨c,[],f1,f2,[],lf,by simp,by simp,by simp,h1,?_⟩
   intro h' c' yc _ hb hr
   exact ⟨c',lf,yc,f2,by simp,by simp,hr,jw h2 hb⟩
  | succ i=>
   obtain ⟨c',g0,g1,g2,p,q,hf,hc,hp,hr,hs⟩:=ih i x x' h2 (by simpa using hi)
   subst hf; subst hc
   refine ⟨c',f1++g0,g1,g2,c++p,q,by simp,by simp,by rw [List.length_append,E.len h1,hp,Nat.add_mul,Nat.one_mul,Nat.add_comm],hr,?_⟩
   intro h' OP yc tH Ih eh
   exact ⟨c,p++OP++q,f1,g0++yc++g2,by simp,by simp,E.congr h1 fun b hm=>tH b (List.mem_append_left _ hm),
    hs h' OP yc (fun b hm=>tH b (List.mem_append_right _ hm)) Ih eh⟩
theorem Am:∀ {xs:List α} {cs f} (i:Nat) (x:α),dm E h cs xs f→xs[i]? = some x→
  ∃ c f0 f1 f2 p q,f=f0++f1++f2∧cs=p++c++q∧p.length=i * E.size∧E.rep h c x f1∧
   ∀ (h':Array Obj) c' x' yc,(∀ b∈f0,h'[b]? = h[b]?)→(∀ b∈f2,h'[b]? = h[b]?)→E.rep h' c' x' yc→dm E h' (p++c'++q) (xs.set i x') (f0++yc++f2):=by
 intro xs
 induction xs with
 | nil=>intro cs f i x _ hi; simp at hi
 | cons y xs ih=>
  rintro cs f i x ⟨c,lf,f1,f2,rfl,rfl,h1,h2⟩ hi
  cases i with
  | zero=>
   simp at hi
   subst hi
   refine ⟨c,[],f1,f2,[],lf,by simp,by simp,by simp,h1,?_⟩
   intro h' c' x' yc _ hb hr
   exact ⟨c',lf,yc,f2,by simp,by simp,hr,jw h2 hb⟩
  | succ i=>
   obtain ⟨c',g0,g1,g2,p,q,hf,hc,hp,hr,hs⟩:=ih i x h2 (by simpa using hi)
   subst hf; subst hc
   refine ⟨c',f1++g0,g1,g2,c++p,q,by simp,by simp,by rw [List.length_append,E.len h1,hp,Nat.add_mul,Nat.one_mul,Nat.add_comm],hr,?_⟩
   intro h' OP x' yc tH Ih eh
   exact ⟨c,p++OP++q,f1,g0++yc++g2,by simp,by simp,E.congr h1 fun b hm=>tH b (List.mem_append_left _ hm),
    hs h' OP x' yc (fun b hm=>tH b (List.mem_append_right _ hm)) Ih eh⟩
end
def aV {α:Type} (E:ah α):ah (List α) where
 size:=1
 rep h cs xs f:=∃ base cap,cs=[.slice base xs.length cap]∧((xs=[]∧f=[])∨
  ∃ b off cur e fz f',base=some ⟨b,off,none⟩∧h[b]? = some (.cells cur e fz)∧f=b :: f'∧xs.length≤cap∧
   dm E h ((cur.toList.drop off).take (xs.length * E.size)) xs f')
 len:=by rintro h cs x f ⟨base,cap,rfl,_⟩; rfl
 one:=by rintro h cs x f ⟨base,cap,rfl,_⟩ v hv; simp at hv; subst hv; rfl
 congr:=by
  rintro h h' cs x f ⟨base,cap,rfl,hr⟩ hb
  refine ⟨base,cap,rfl,?_⟩
  rcases hr with hr | ⟨b,off,cur,e,fz,f',h1,h2,rfl,hc,h3⟩
  ·exact .inl hr
  ·exact .inr ⟨b,off,cur,e,fz,f',h1,(hb b (by simp)).trans h2,rfl,hc,jw h3 fun i hi=>hb i (by simp [hi])⟩
 lt:=by
  rintro h cs x f ⟨base,cap,rfl,hr⟩ b hb
  rcases hr with ⟨_,rfl⟩ | ⟨b',off,cur,e,fz,f',h1,h2,rfl,_,h3⟩
  ·cases hb
  ·rcases List.mem_cons.1 hb with rfl | hb
   ·exact (Array.getElem?_eq_some_iff.1 h2).1
   ·exact mr h3 b hb
def aJ {α:Type} (e:TI) (E:ah α):ah (List α) where
 size:=1
 rep h cs xs f:=∃ base cap,cs=[.slice base xs.length cap]∧((base=none∧cap=0∧xs=[]∧f=[])∨
  ∃ b cur f',base=some ⟨b,0,none⟩∧h[b]? = some (.cells cur e (0,0))∧f=b :: f'∧xs.length≤cap∧cap≤maxLen∧cur.size=cap * E.size∧
   dm E h (cur.toList.take (xs.length * E.size)) xs f')
 len:=by rintro h cs x f ⟨base,cap,rfl,_⟩; rfl
 one:=by rintro h cs x f ⟨base,cap,rfl,_⟩ v hv; simp at hv; subst hv; rfl
 congr:=by
  rintro h h' cs x f ⟨base,cap,rfl,hr⟩ hb
  refine ⟨base,cap,rfl,?_⟩
  rcases hr with hr | ⟨b,cur,f',h1,h2,rfl,h4,h5,h6,h3⟩
  ·exact .inl hr
  ·exact .inr ⟨b,cur,f',h1,(hb b (by simp)).trans h2,rfl,h4,h5,h6,jw h3 fun i hi=>hb i (by simp [hi])⟩
 lt:=by
  rintro h cs x f ⟨base,cap,rfl,hr⟩ b hb
  rcases hr with ⟨_,_,_,rfl⟩ | ⟨b',cur,f',h1,h2,rfl,h4,h5,h6,h3⟩
  ·cases hb
  ·rcases List.mem_cons.1 hb with rfl | hb
   ·exact (Array.getElem?_eq_some_iff.1 h2).1
   ·exact mr h3 b hb
structure Le {α:Type} (A B:ah α):Prop where
 size:A.size=B.size
 le:∀ {h cs x f},A.rep h cs x f→B.rep h cs x f
theorem Le.refl {α:Type} (A:ah α):Le A A:=⟨rfl,fun h=>h⟩
theorem vI {α:Type} {A B:ah α} (hl:Le A B) {h:Array Obj}:∀ {xs:List α} {cs f},dm A h cs xs f→dm B h cs xs f:=by
 intro xs
 induction xs with
 | nil=>intro cs f h; exact h
 | cons x xs ih=>
  rintro cs f ⟨c,lf,f1,f2,rfl,rfl,h1,h2⟩
  exact ⟨c,lf,f1,f2,rfl,rfl,hl.le h1,ih h2⟩
theorem Le.own {α:Type} {A B:ah α} (hl:Le A B) (e:TI):Le (aJ e A) (aV B):=by
 refine ⟨rfl,?_⟩
 rintro h cs xs f ⟨base,cap,rfl,hr⟩
 refine ⟨base,cap,rfl,?_⟩
 rcases hr with ⟨rfl,rfl,rfl,rfl⟩ | ⟨b,cur,f',rfl,h2,rfl,h4,h5,h6,h3⟩
 ·exact .inl ⟨rfl,rfl⟩
 ·refine .inr ⟨b,0,cur,e,(0,0),f',rfl,h2,rfl,h4,?_⟩
  rw [List.drop_zero,← hl.size]
  exact vI hl h3
theorem Le.Ko {α:Type} {A B:ah α} (hl:Le A B):Le (aV A) (aV B):=by
 refine ⟨rfl,?_⟩
 rintro h cs xs f ⟨base,cap,rfl,hr⟩
 refine ⟨base,cap,rfl,?_⟩
 rcases hr with hr | ⟨b,off,cur,e,fz,f',rfl,h2,rfl,hc,h3⟩
 ·exact .inl hr
 ·refine .inr ⟨b,off,cur,e,fz,f',rfl,h2,rfl,hc,?_⟩
  rw [← hl.size]
  exact vI hl h3
def cn (v:Value) (size:Nat) (j:Int):Addr:=
 match v with
 | .slice (some a) _ _=>a.add (j.toNat * size)
 | _=>default
section
variable {α:Type} {E:ah α} {P:Program} {r:NV} {w:World} {d:Option Nat} {ty:TI} {pos:String} {ab:Array Edge} {g:Option (Nat×Bool)}
theorem tu {v:Value} {xs:List α} {f:LN} {h:Array Obj} (hr:(aV E).rep h [v] xs f):∃ b c,v = .slice b xs.length c:=by
 obtain ⟨b,c,hv,_⟩:=hr
 exact ⟨b,c,by simpa using hv⟩
theorem gw (b o n:Nat):(⟨b,o,none⟩ : Addr).add n = ⟨b,o+n,none⟩:=by
 unfold Addr.add; split <;> simp_all
theorem tv {v:Value} {xs:List α} {f:LN} (hr:(aV E).rep w.heap [v] xs f) (j:Int) {x:α} (h0:0≤j) (hx:xs[j.toNat]? = some x) :
  (∃ a c,v = .slice (some a) xs.length c)∧j < xs.length∧∃ cs f1,E.rep w.heap cs x f1∧(∀ b∈f1,b∈f)∧∀ i u,cs[i]? = some u→w.cell? ((cn v E.size j).add i)=some u:=by
 obtain ⟨base,cap,hv,hr⟩:=hr
 obtain rfl:v = .slice base xs.length cap:=by simpa using hv
 have bb:j.toNat < xs.length:=(List.getElem?_eq_some_iff.1 hx).1
 rcases hr with ⟨rfl,_⟩ | ⟨b,off,cur,e,fz,f',rfl,h2,rfl,_,h3⟩
 ·simp at bb
 ·refine ⟨⟨_,_,rfl⟩,by omega,?_⟩
  obtain ⟨c,f0,f1,f2,p,q,rfl,hc,hp,c9⟩:=Rb j.toNat x h3 hx
  refine ⟨c,f1,c9,fun b hb=>by simp [hb],?_⟩
  intro i u hi
  have uB:i < c.length:=(List.getElem?_eq_some_iff.1 hi).1
  simp only [cn,gw]
  rw [cell_of_row w b _ cur e fz h2]
  have h4:((cur.toList.drop off).take (xs.length * E.size))[p.length+i]? = some u:=by
   rw [hc,List.append_assoc,List.getElem?_append_right (by omega)]
   rw [List.getElem?_append_left (by omega)]
   simpa using hi
  rw [List.getElem?_take] at h4
  split at h4
  ·rw [List.getElem?_drop] at h4
   rw [← Array.getElem?_toList]
   rw [hp] at h4
   rw [← h4]
   congr 1
   omega
  ·cases h4
theorem UJ {t e:TI} {x:OO} {xs:List α} {f:LN} (ht:P.underlying t=some (.slice e)) (hr:(aV E).rep w.heap [ev r x] xs f) :
  (execOp (ev r) ⟨d,.call ⟨.builtin .len,#[x],#[t]⟩,ty,pos,ab,g⟩).run P w = .ok (.value (.int .i64 (xs.length:Int))) w:=by
 obtain ⟨b,c,hv⟩:=tu hr
 exact wo ht hv
theorem OQ {t e:TI} {x y:OO} {i:TypeInfo} {xs:List α} {f:LN} {k:IntKind} {j:Int} {z:α} (ht:P.underlying t=some (.slice e)) (hi:P.info? e=some i) (hs:i.size=1) (hE:E.size=1)
  (hr:(aV E).rep w.heap [ev r x] xs f) (hy:ev r y = .int k j) (h0:0≤j) (hz:xs[j.toNat]? = some z) :
  (execOp (ev r) ⟨d,.indexAddr t x y,ty,pos,ab,g⟩).run P w = .ok (.value (.pointer (some (cn (ev r x) 1 j)))) w:=by
 obtain ⟨⟨a,c,hv⟩,bb,_⟩:=tv hr j h0 hz
 have _:=hE
 rw [ni ht hi hv hy h0 bb,hv,hs]
 rfl
theorem Ks {v:Value} {xs:List α} {f:LN} (h1:E.size=1) (hr:(aV E).rep w.heap [v] xs f) {j:Int} {x:α} (h0:0≤j) (hx:xs[j.toNat]? = some x) :
  ∃ u f1,w.cell? (cn v 1 j)=some u∧E.rep w.heap [u] x f1∧∀ b∈f1,b∈f:=by
 obtain ⟨_,_,cs,f1,yN,hf,hc⟩:=tv hr j h0 hx
 have hl:=E.len yN
 rw [h1] at hl hc
 match cs,hl with
 | [u],_=>exact ⟨u,f1,hc 0 _ rfl,yN,hf⟩
end
theorem ah.dp {α:Type} (E:ah α) {w w':World} {F:LN} {cs:LV} {x:α} {f:LN} (hr:E.rep w.heap cs x f) (hC:ak F w w') (hn:∀ b∈f,b ∉ F):E.rep w'.heap cs x f:=
 E.congr hr fun b hb=>hC.block b (E.lt hr b hb) (hn b hb)
theorem ah.ic {α:Type} (E:ah α) {w w':World} {cs:LV} {x:α} {f:LN} (hr:E.rep w.heap cs x f) (hC:ak [] w w'):E.rep w'.heap cs x f:=
 E.dp hr hC fun _ _ h=>nomatch h
end Go.Li
namespace Go.Li
open Go
section
variable {P:Program} {n:Nat} {Q:Exit→(Nat→Value)→World→Prop} {r:NV} {w:World} {C:World→Prop} {ops l:LO} {o:Oper}
theorem QL.val {K:(Nat→Value)→Prop} {v:Value} (hg:o.guard=none) (h:∀ w',C w'→(execOp (ev r) o).run P w' = .ok (.value v) w')
  (k:QL P C ops l (gf r o.dst v) K):QL P C ops (o :: l) r K:=
 .inl ⟨by unfold Region.wanted; rw [hg],v,fun w' hC=>by unfold Oper.quietUpon; rw [h w' hC]; exact ⟨rfl,rfl⟩,k⟩
theorem uC {j:Nat} {t b:Bool} (hg:o.guard=some (j,t)) (hy:yl ops r j=some b):Region.wanted o (yl ops r)=(b == t):=by
 unfold Region.wanted
 rw [hg]
 simp only [hy]
 cases b <;> cases t <;> rfl
theorem QL.acE {K:(Nat→Value)→Prop} {v:Value} {j:Nat} {t:Bool} (hg:o.guard=some (j,t)) (hy:yl ops r j=some t) (h:∀ w',C w'→(execOp (ev r) o).run P w' = .ok (.value v) w')
  (k:QL P C ops l (gf r o.dst v) K):QL P C ops (o :: l) r K:=
 .inl ⟨by rw [uC hg hy]; cases t <;> rfl,v,fun w' hC=>by unfold Oper.quietUpon; rw [h w' hC]; exact ⟨rfl,rfl⟩,k⟩
theorem QL.call {K:(Nat→Value)→Prop} {v:Value} {f:FuncId} {args:Array Value} (hg:o.guard=none) (h:∀ w',C w'→(execOp (ev r) o).run P w' = .ok (.enter f args) w')
  (hc:∀ w',C w'→Calls P f args w' fun e zP=>e = .returned v∧C zP)
  (k:QL P C ops l (gf r o.dst v) K):QL P C ops (o :: l) r K:=
 .inl ⟨by unfold Region.wanted; rw [hg],v,fun w' hC=>by unfold Oper.quietUpon; rw [h w' hC]; exact ⟨rfl,hc w' hC⟩,k⟩
theorem QL.Mn {K:(Nat→Value)→Prop} {v:Value} {j:Nat} {t:Bool} {f:FuncId} {args:Array Value} (hg:o.guard=some (j,t)) (hy:yl ops r j=some t) (h:∀ w',C w'→(execOp (ev r) o).run P w' = .ok (.enter f args) w')
  (hc:∀ w',C w'→Calls P f args w' fun e zP=>e = .returned v∧C zP)
  (k:QL P C ops l (gf r o.dst v) K):QL P C ops (o :: l) r K:=
 .inl ⟨by rw [uC hg hy]; cases t <;> rfl,v,fun w' hC=>by unfold Oper.quietUpon; rw [h w' hC]; exact ⟨rfl,hc w' hC⟩,k⟩
theorem WL.val {K:(Nat→Value)→World→Prop} {v:Value} {w':World} (hg:o.guard=none) (h:(execOp (ev r) o).run P w = .ok (.value v) w')
  (k:WL P ops l (gf r o.dst v) w' K):WL P ops (o :: l) r w K:=
 .inl ⟨by unfold Region.wanted; rw [hg],by unfold fh; rw [h]; exact k⟩
theorem WL.skip {K:(Nat→Value)→World→Prop} {w':World} (hg:o.guard=none) (h:(execOp (ev r) o).run P w = .ok .skip w')
  (k:WL P ops l (gf r o.dst undef) w' K):WL P ops (o :: l) r w K:=
 .inl ⟨by unfold Region.wanted; rw [hg],by unfold fh; rw [h]; exact k⟩
theorem WL.call {K:(Nat→Value)→World→Prop} {f:FuncId} {args:Array Value} {R:Ending→World→Prop} (hg:o.guard=none) (h:(execOp (ev r) o).run P w = .ok (.enter f args) w)
  (hc:Calls P f args w R) (k:∀ e w',R e w'→∃ v,e = .returned v∧WL P ops l (gf r o.dst v) w' K):WL P ops (o :: l) r w K:=
 .inl ⟨by unfold Region.wanted; rw [hg],by unfold fh; rw [h]; exact hc.mono k⟩
end
theorem QL.meet {P:Program} {C:World→Prop} {ops:LO} {K:(Nat→Value)→Prop} (K':(Nat→Value)→Prop):∀ {l:LO} {r:NV},QL P C ops l r K'→(∀ r,K' r→K r)→QL P C ops l r K:=by
 intro l
 induction l with
 | nil=>intro r h hk; exact hk _ h
 | cons o l ih=>
  intro r h hk
  rcases h with ⟨h1,v,h2,h3⟩ | ⟨h1,h3⟩
  ·exact .inl ⟨h1,v,h2,ih h3 hk⟩
  ·exact .inr ⟨h1,ih h3 hk⟩
def idx {α:Type} (l:List α) (j:Int):Option α:=if 0≤j then l[j.toNat]? else none
theorem rm {α:Type} {l:List α} {j:Int} {x:α} (h:idx l j=some x):0≤j∧l[j.toNat]? = some x:=by
 unfold idx at h
 split at h
 ·rename_i h0; exact ⟨h0,h⟩
 ·cases h
def ao {S R:Type}:Option (Out S R)→Option R
 | some (.ret x)=>some x
 | _=>none
theorem NQ {S R:Type} {m:Option (Out S R)} {x:R} (h:ao m=some x):m=some (.ret x):=by
 cases m with
 | none=>cases h
 | some o=>cases o <;> first | cases h; rfl | cases h
def fits (bytes n:Nat):Option Unit:=if n * bytes≤140737488355328∧n≤9223372036854775807 then some () else none
theorem ie {bytes n:Nat} {u:Unit} (h:fits bytes n=some u):n * bytes≤140737488355328∧n≤maxLen:=by
 unfold fits at h
 split at h
 ·assumption
 ·cases h
def mk (bytes:Nat) (n:Int):Option Nat:=if 0≤n∧bytes * n.toNat≤281474976710656∧n.toNat≤9223372036854775807 then some n.toNat else none
theorem Gf {bytes:Nat} {n:Int} {k:Nat} (h:mk bytes n=some k):n=(k:Int)∧bytes * k≤281474976710656∧k≤maxLen:=by
 unfold mk at h
 split at h
 ·rename_i h1
  cases h
  exact ⟨by omega,h1.2⟩
 ·cases h
def ai (a:Int):Int:=IntKind.i64.wrap a
theorem bind_some {α β:Type} {m:Option α} {f:α→Option β} {y:β} (h:(m>>=f)=some y):∃ x,m=some x∧f x=some y:=Option.bind_eq_some_iff.1 h
def Mx (F:NV):List (Nat×Value)→(Nat→Value)
 | []=>F
 | (a,v) :: l=>Dm (Mx F l) a v
def agree (r:NV):List (Nat×Value)→Prop
 | []=>True
 | (a,v) :: l=>r a=v∧agree r l
theorem Rc (F:NV) (a:Nat):Dm F a (F a)=F:=by
 funext t
 unfold Dm
 cases hb:Nat.beq t a with
 | false=>rfl
 | true=>rw [Nat.eq_of_beq_eq_true hb]; rfl
theorem fr {r:NV}:∀ {l:List (Nat×Value)},agree r l→∃ F,r=Mx F l:=by
 intro l h
 refine ⟨r,?_⟩
 induction l with
 | nil=>rfl
 | cons p l ih=>
  obtain ⟨a,v⟩:=p
  obtain ⟨h1,h2⟩:=h
  unfold Mx
  rw [← ih h2,← h1,Rc]
end Go.Li
