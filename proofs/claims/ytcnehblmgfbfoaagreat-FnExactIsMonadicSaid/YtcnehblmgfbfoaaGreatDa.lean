/- A calculus of walks: what is known of memory as a list of entries, and how entries are found and taken. No condition. -/
import Derived.Test.YtcnehblmgfbfoaaGreatLm
import Derived.Test.YtcnehblmgfbfoaaGreatLq
namespace Go.Dk
open Go Go.Li
abbrev Fr:=List (Nat×Value)
def look:Fr→Nat→Option Value
 | [],_=>none
 | (a,v) :: l,t=>bif Nat.beq t a then some v else look l t
def cn (r:NV) (f:Fr):Prop:=∀ t v,look f t=some v→r t=v
def bz (f:Fr):Operand→Option Value
 | .tmp t=>look f t
 | .const v=>some v
 | .global g=>some (.pointer (some ⟨g,0,none⟩))
 | .func g=>some (.func (.func g) #[] #[])
def vp (f:Fr):List Operand→Option (List Value)
 | []=>some []
 | x :: l=>match bz f x with
  | some v=>match vp f l with
   | some vs=>some (v :: vs)
   | none=>none
  | none=>none
theorem cB {r:NV} {f:Fr} {x:OO} {v:Value} (h:cn r f) (hx:bz f x=some v):ev r x=v:=by
 cases x with
 | tmp t=>exact h t v hx
 | const c=>cases hx; rfl
 | global g=>cases hx; rfl
 | func g=>cases hx; rfl
theorem tU {r:NV} {f:Fr} (h:cn r f):∀ {l:List Operand} {vs:LV},vp f l=some vs→l.map (ev r)=vs:=by
 intro l
 induction l with
 | nil=>intro vs hx; cases hx; rfl
 | cons x l ih=>
  intro vs hx
  unfold vp at hx
  cases h1:bz f x with
  | none=>rw [h1] at hx; cases hx
  | some v=>
   cases h2:vp f l with
   | none=>rw [h1,h2] at hx; cases hx
   | some ws=>rw [h1,h2] at hx; cases hx; rw [List.map_cons,cB h h1,ih h2]
theorem bd {r:NV} {f:Fr} {t:Nat} {v:Value} (h:cn r f):cn (BE r t v) ((t,v) :: f):=by
 intro s u hs
 unfold look at hs
 unfold BE
 cases hb:Nat.beq s t with
 | true=>rw [hb] at hs; cases hs; rfl
 | false=>rw [hb] at hs; exact h s u hs
theorem yB {r:NV}:cn r []:=fun _ _ h=>nomatch h
inductive p6 (f:Fr):Fr→Prop
 | nil:p6 f []
 | cons {t:Nat} {v:Value} {g:Fr} (h:look f t=some v) (k:p6 f g):p6 f ((t,v) :: g)
theorem p6.sound {r:NV} {f g:Fr} (h:p6 f g) (ha:cn r f):cn r g:=by
 induction h with
 | nil=>exact yB
 | cons h _ ih=>
  intro s u hs
  unfold look at hs
  cases hb:Nat.beq s _ with
  | true=>rw [hb] at hs; cases hs; rw [Nat.eq_of_beq_eq_true hb]; exact ha _ _ h
  | false=>rw [hb] at hs; exact ih s u hs
inductive ay:Type 1
 | own {α:Type} (T:ah α) (v:Value) (x:α)
 | om {α:Type} (e:TI) (E:ah α) (v:Value) (xs:List α)
 | row (b:Nat) (cs:LV) (e:TI)
 | rd (o:Bool) {α:Type} (T:ah α) (v:Value) (x:α)
 | ad (o1 o2:Bool) (v:Value) (j:Int) {α:Type} (T:ah α) (x:α)
 | bb (p:Addr) (cs:LV)
 | hd (v:Value) (j:Int) (u:Value)
 | eb (e:TI) {α:Type} (E:ah α) (v:Value) (xs:List α) (j:Int) (u:Value)
abbrev QE:=List ay
def ua:Value→Nat
 | .slice _ n _=>n
 | _=>0
def rM (o:Bool) (Z:Nat→Prop) (cur:LN) (b:Nat):Prop:=match o with | true=>b∈cur | false=>Z b
def fact (Z:Nat→Prop) (w:World) (cur:LN):ay→Prop
 | .rd o T v x=>∃ g,T.rep w.heap [v] x g∧∀ b∈g,rM o Z cur b
 | .ad o1 o2 v j T x=>0≤j∧j.toNat < ua v∧∃ u g,w.cell? (fi v 1 j)=some u∧T.rep w.heap [u] x g∧rM o1 Z cur (fi v 1 j).block∧∀ b∈g,rM o2 Z cur b
 | .bb p cs=>At w p cs∧(cs≠[]→Z p.block)
 | .hd v j u=>0≤j∧j.toNat < ua v∧w.cell? (fi v 1 j)=some u∧(fi v 1 j).block∈cur
 | _=>False
def FP {α:Type} (e:TI) (E:ah α) (v:Value) (xs:List α) (j:Int) (u:Value) (h:Array Obj) (f:LN):Prop:=
 (∀ b∈f,b < h.size)∧∀ h':Array Obj,(∀ b∈f,h'[b]? = h[b]?)→∀ z' k',E.rep h' [u] z' k'→∃ f',f'.Perm (f++k')∧(aL e E).rep h' [v] (xs.set j.toNat z') f'
theorem FP.dq {α:Type} {e:TI} {E:ah α} {v:Value} {xs:List α} {j:Int} {u:Value} {h h2:Array Obj} {f:LN} (hh:FP e E v xs j u h f) (hb:∀ b∈f,h2[b]? = h[b]?) (hs:h.size≤h2.size):FP e E v xs j u h2 f:=
 ⟨fun b hm=>Nat.lt_of_lt_of_le (hh.1 b hm) hs,fun h' cg z' k' hr=>hh.2 h' (fun b hm=>(cg b hm).trans (hb b hm)) z' k' hr⟩
theorem FQ {α:Type} {E:ah α} {w:World} {e:TI} {v u:Value} {xs:List α} {f:LN} {j:Int} {z:α} (h1:E.size=1) (hO:(aL e E).rep w.heap [v] xs f) (hz:xs[j.toNat]? = some z) (hu:w.cell? (fi v 1 j)=some u) :
  ∃ k g,E.rep w.heap [u] z k∧(k++g).Perm f∧FP e E v xs j u w.heap g:=by
 obtain ⟨base,cap,hv,hr⟩:=hO
 obtain rfl:v = .slice base xs.length cap:=by simpa using hv
 have bo:j.toNat < xs.length:=(List.getElem?_eq_some_iff.1 hz).1
 rcases hr with ⟨_,_,rfl,_⟩ | ⟨b,cur,f0,rfl,hg,rfl,FR,zL,vG,e6⟩
 ·simp at bo
 ·rw [h1,Nat.mul_one] at vG e6
  have CF:fi (.slice (some ⟨b,0,none⟩) xs.length cap) 1 j = ⟨b,j.toNat,none⟩:=by
   simp only [fi,ir,Nat.zero_add,Nat.mul_one]
  rw [CF,cell_of_row w b _ cur e _ hg] at hu
  have Wm:∀ i∈f0,i < w.heap.size:=kh e6
  have hbl:b < w.heap.size:=(Array.getElem?_eq_some_iff.1 hg).1
  obtain ⟨c,g0,g1,g2,p,q,CG,hc,hp,vH,xN⟩:=zM j.toNat z e6 hz
  subst CG
  rw [h1,Nat.mul_one] at hp
  have CH:c.length=1:=by rw [E.len vH,h1]
  obtain ⟨c0,rfl⟩ : ∃ c0,c=[c0]:=by match c,CH with | [c0],_=>exact ⟨c0,rfl⟩
  have hcu:c0=u:=by
   have h2:(cur.toList.take xs.length)[j.toNat]? = some c0:=by
    rw [hc,List.append_assoc,List.getElem?_append_right (by omega),hp,Nat.sub_self]; rfl
   rw [List.getElem?_take,if_pos bo,Array.getElem?_toList,hu] at h2
   exact (Option.some.inj h2).symm
  subst hcu
  refine ⟨g1,b :: (g0++g2),vH,?_,⟨fun i hi=>?_,fun h' hb z' k' hr=>⟨b :: (g0++k'++g2),?_,⟨_,cap,by rw [List.length_set],.inr ⟨b,cur,g0++k'++g2,rfl,(hb b (by simp)).trans hg,rfl,by rw [List.length_set]; exact FR,zL,by simpa [h1] using vG,?_⟩⟩⟩⟩⟩
  ·refine (List.perm_append_comm (l₁:=g1) (l₂:=b :: (g0++g2))).trans ?_
   rw [List.cons_append]
   refine List.Perm.cons b ?_
   rw [List.append_assoc,List.append_assoc]
   exact List.Perm.append_left g0 List.perm_append_comm
  ·rcases List.mem_cons.1 hi with rfl | hi
   ·exact hbl
   ·exact Wm i (by rcases List.mem_append.1 hi with hi | hi <;> simp [hi])
  ·rw [List.cons_append]
   refine List.Perm.cons b ?_
   rw [List.append_assoc,List.append_assoc]
   exact List.Perm.append_left g0 List.perm_append_comm
  ·rw [List.length_set,h1,Nat.mul_one,hc]
   exact xN h' [c0] z' k' (fun i hi=>hb i (by simp [hi])) (fun i hi=>hb i (by simp [hi])) hr
def lu (Z:Nat→Prop) (w:World) (f:LN):ay→Prop
 | .own T v x=>T.rep w.heap [v] x f
 | .om e E v xs=>∃ us g,(aL e nr).rep w.heap [v] us f∧dp E w.heap us xs g∧(∀ b∈g,Z b)∧E.size=1
 | .row b cs e=>f=[b]∧Row w b cs e
 | .eb e E v xs j u=>FP e E v xs j u w.heap f
 | _=>False
def SA (Z:Nat→Prop) (w:World):List ay→List Nat→List Nat→Prop
 | [],_,F=>F=[]
 | .own T v x :: Γ,_,F=>∃ f F',F=f++F'∧lu Z w f (.own T v x)∧SA Z w Γ f F'
 | .om e E v xs :: Γ,_,F=>∃ f F',F=f++F'∧lu Z w f (.om e E v xs)∧SA Z w Γ f F'
 | .row b cs e :: Γ,cur,F=>∃ f F',F=f++F'∧lu Z w f (.row b cs e)∧SA Z w Γ cur F'
 | .rd o T v x :: Γ,cur,F=>fact Z w cur (.rd o T v x)∧SA Z w Γ cur F
 | .ad o1 o2 v j T x :: Γ,cur,F=>fact Z w cur (.ad o1 o2 v j T x)∧SA Z w Γ cur F
 | .bb p cs :: Γ,cur,F=>fact Z w cur (.bb p cs)∧SA Z w Γ cur F
 | .hd v j u :: Γ,cur,F=>fact Z w cur (.hd v j u)∧SA Z w Γ cur F
 | .eb e E v xs j u :: Γ,_,F=>∃ f F',F=f++F'∧lu Z w f (.eb e E v xs j u)∧SA Z w Γ f F'
section
variable {Z Z':Nat→Prop} {w w':World} {cur dh F f H:LN} {Γ Γ' Γ1 Γ2 Δ:QE} {e:ay}
theorem rM.mono {o:Bool} {b:Nat} (hz:∀ b,Z b→Z' b) (hc:∀ b∈cur,b∈dh) (h:rM o Z cur b):rM o Z' dh b:=by
 cases o
 ·exact hz b h
 ·exact hc b h
theorem fact.mono (hz:∀ b,Z b→Z' b) (hc:∀ b∈cur,b∈dh) (h:fact Z w cur e):fact Z' w dh e:=by
 cases e with
 | rd o T v x=>obtain ⟨g,h1,h2⟩:=h; exact ⟨g,h1,fun b hb=>(h2 b hb).mono hz hc⟩
 | ad o1 o2 v j T x=>obtain ⟨j0,j1,u,g,h1,h2,h3,h4⟩:=h; exact ⟨j0,j1,u,g,h1,h2,h3.mono hz hc,fun b hb=>(h4 b hb).mono hz hc⟩
 | bb p cs=>exact ⟨h.1,fun hn=>hz _ (h.2 hn)⟩
 | hd v j u=>exact ⟨h.1,h.2.1,h.2.2.1,hc _ h.2.2.2⟩
 | _=>exact h.elim
theorem lu.mono (hz:∀ b,Z b→Z' b) (h:lu Z w f e):lu Z' w f e:=by
 cases e with
 | om e E v xs=>obtain ⟨us,g,h1,h2,h3,h4⟩:=h; exact ⟨us,g,h1,h2,fun b hb=>hz b (h3 b hb),h4⟩
 | _=>exact h
theorem SA.mono (hz:∀ b,Z b→Z' b):∀ {Γ:QE} {cur dh F:LN},(∀ b∈cur,b∈dh)→SA Z w Γ cur F→SA Z' w Γ dh F:=by
 intro Γ
 induction Γ with
 | nil=>intro cur dh F hc h; exact h
 | cons e Γ ih=>
  intro cur dh F hc h
  cases e with
  | own T v x=>obtain ⟨f,F',h1,h2,h3⟩:=h; exact ⟨f,F',h1,h2.mono hz,ih (fun _ h=>h) h3⟩
  | om e E v xs=>obtain ⟨f,F',h1,h2,h3⟩:=h; exact ⟨f,F',h1,h2.mono hz,ih (fun _ h=>h) h3⟩
  | row b cs e=>obtain ⟨f,F',h1,h2,h3⟩:=h; exact ⟨f,F',h1,h2.mono hz,ih hc h3⟩
  | rd o T v x=>exact ⟨h.1.mono hz hc,ih hc h.2⟩
  | ad o1 o2 v j T x=>exact ⟨h.1.mono hz hc,ih hc h.2⟩
  | bb p cs=>exact ⟨h.1.mono hz hc,ih hc h.2⟩
  | hd v j u=>exact ⟨h.1.mono hz hc,ih hc h.2⟩
  | eb e E v xs j u=>obtain ⟨f,F',h1,h2,h3⟩:=h; exact ⟨f,F',h1,h2,ih (fun _ h=>h) h3⟩
theorem SA.any (h:SA Z w Γ [] F):SA Z w Γ cur F:=SA.mono (cur:=[]) (fun _ h=>h) (fun b (hb:b∈([]:LN))=>absurd hb List.not_mem_nil) h
theorem rM.out {o:Bool} {b:Nat} (hz:∀ b∈H,¬ Z b) (hc:∀ b∈H,b ∉ cur) (h:rM o Z cur b):b ∉ H:=by
 cases o
 ·exact fun hb=>hz b hb h
 ·exact fun hb=>hc b hb h
theorem fact.dq (hC:aq H w w') (hz:∀ b∈H,¬ Z b) (hc:∀ b∈H,b ∉ cur) (h:fact Z w cur e):fact Z w' cur e:=by
 cases e with
 | rd o T v x=>obtain ⟨g,h1,h2⟩:=h; exact ⟨g,T.dq h1 hC fun b hb=>(h2 b hb).out hz hc,h2⟩
 | ad o1 o2 v j T x=>obtain ⟨j0,j1,u,g,h1,h2,h3,h4⟩:=h; exact ⟨j0,j1,u,g,hC.cell (h3.out hz hc) h1,T.dq h2 hC fun b hb=>(h4 b hb).out hz hc,h3,h4⟩
 | bb p cs=>
  refine ⟨?_,h.2⟩
  cases cs with
  | nil=>intro j u hj; simp at hj
  | cons c cs=>exact h.1.dq hC fun hb=>hz _ hb (h.2 (by simp))
 | hd v j u=>exact ⟨h.1,h.2.1,hC.cell (fun hb=>hc _ hb h.2.2.2) h.2.2.1,h.2.2.2⟩
 | _=>exact h.elim
theorem lu.dq (hC:aq H w w') (hz:∀ b∈H,¬ Z b) (hf:∀ b∈H,b ∉ f) (h:lu Z w f e):lu Z w' f e:=by
 cases e with
 | own T v x=>exact T.dq h hC fun b hb hm=>hf b hm hb
 | om e E v xs=>
  obtain ⟨us,g,h1,h2,h3,h4⟩:=h
  exact ⟨us,g,(aL e nr).dq h1 hC fun b hb hm=>hf b hm hb,gu h2 fun b hb=>hC.block b (kh h2 b hb) fun hm=>hz b hm (h3 b hb),h3,h4⟩
 | row b cs e=>obtain ⟨rfl,h2⟩:=h; exact ⟨rfl,h2.dq hC fun hm=>hf b hm (by simp)⟩
 | eb e E v xs j u=>exact FP.dq h (fun b hb=>hC.block b (h.1 b hb) fun hm=>hf b hm hb) hC.size
 | _=>exact h.elim
theorem SA.dq (hC:aq H w w') (hz:∀ b∈H,¬ Z b):∀ {Γ:QE} {cur F:LN},(∀ b∈H,b ∉ cur)→(∀ b∈H,b ∉ F)→SA Z w Γ cur F→SA Z w' Γ cur F:=by
 intro Γ
 induction Γ with
 | nil=>intro cur F hc hF h; exact h
 | cons e Γ ih=>
  intro cur F hc hF h
  cases e with
  | own T v x=>
   obtain ⟨f,F',rfl,h2,h3⟩:=h
   have a1:∀ b∈H,b ∉ f:=fun b hb hm=>hF b hb (List.mem_append_left _ hm)
   have a2:∀ b∈H,b ∉ F':=fun b hb hm=>hF b hb (List.mem_append_right _ hm)
   exact ⟨f,F',rfl,h2.dq hC hz a1,ih a1 a2 h3⟩
  | om e E v xs=>
   obtain ⟨f,F',rfl,h2,h3⟩:=h
   have a1:∀ b∈H,b ∉ f:=fun b hb hm=>hF b hb (List.mem_append_left _ hm)
   have a2:∀ b∈H,b ∉ F':=fun b hb hm=>hF b hb (List.mem_append_right _ hm)
   exact ⟨f,F',rfl,h2.dq hC hz a1,ih a1 a2 h3⟩
  | row b cs e=>
   obtain ⟨f,F',rfl,h2,h3⟩:=h
   have a1:∀ b∈H,b ∉ f:=fun b hb hm=>hF b hb (List.mem_append_left _ hm)
   have a2:∀ b∈H,b ∉ F':=fun b hb hm=>hF b hb (List.mem_append_right _ hm)
   exact ⟨f,F',rfl,h2.dq hC hz a1,ih hc a2 h3⟩
  | rd o T v x=>exact ⟨h.1.dq hC hz hc,ih hc hF h.2⟩
  | ad o1 o2 v j T x=>exact ⟨h.1.dq hC hz hc,ih hc hF h.2⟩
  | bb p cs=>exact ⟨h.1.dq hC hz hc,ih hc hF h.2⟩
  | hd v j u=>exact ⟨h.1.dq hC hz hc,ih hc hF h.2⟩
  | eb e E v xs j u=>
   obtain ⟨f,F',rfl,h2,h3⟩:=h
   have a1:∀ b∈H,b ∉ f:=fun b hb hm=>hF b hb (List.mem_append_left _ hm)
   have a2:∀ b∈H,b ∉ F':=fun b hb hm=>hF b hb (List.mem_append_right _ hm)
   exact ⟨f,F',rfl,h2.dq hC hz a1,ih a1 a2 h3⟩
theorem SA.j7 (hC:aq [] w w') (h:SA Z w Γ cur F):SA Z w' Γ cur F:=h.dq hC (fun _ h=>nomatch h) (fun _ h=>nomatch h) (fun _ h=>nomatch h)
theorem lu.lt (h:lu Z w f e):∀ b∈f,b < w.heap.size:=by
 cases e with
 | own T v x=>exact T.lt h
 | om e E v xs=>obtain ⟨us,g,h1,h2,h3,h4⟩:=h; exact ah.lt _ h1
 | row b cs e=>obtain ⟨rfl,h2⟩:=h; exact Pt h2.lt
 | eb e E v xs j u=>exact h.1
 | _=>exact h.elim
theorem SA.lt:∀ {Γ:QE} {cur F:LN},SA Z w Γ cur F→∀ b∈F,b < w.heap.size:=by
 intro Γ
 induction Γ with
 | nil=>intro cur F h b hb; rw [h] at hb; cases hb
 | cons e Γ ih=>
  intro cur F h
  cases e with
  | own T v x=>obtain ⟨f,F',rfl,h2,h3⟩:=h; exact fun b hb=>(List.mem_append.1 hb).elim (h2.lt b) (ih h3 b)
  | om e E v xs=>obtain ⟨f,F',rfl,h2,h3⟩:=h; exact fun b hb=>(List.mem_append.1 hb).elim (h2.lt b) (ih h3 b)
  | row b cs e=>obtain ⟨f,F',rfl,h2,h3⟩:=h; exact fun b hb=>(List.mem_append.1 hb).elim (h2.lt b) (ih h3 b)
  | rd o T v x=>exact ih h.2
  | ad o1 o2 v j T x=>exact ih h.2
  | bb p cs=>exact ih h.2
  | hd v j u=>exact ih h.2
  | eb e E v xs j u=>obtain ⟨f,F',rfl,h2,h3⟩:=h; exact fun b hb=>(List.mem_append.1 hb).elim (h2.lt b) (ih h3 b)
theorem SA.cons (h:SA Z w Γ [] F) (ho:lu Z w f e):SA Z w (e :: Γ) [] (f++F):=by
 cases e with
 | own T v x=>exact ⟨f,F,rfl,ho,h.any⟩
 | om e E v xs=>exact ⟨f,F,rfl,ho,h.any⟩
 | row b cs e=>exact ⟨f,F,rfl,ho,h⟩
 | eb e E v xs j u=>exact ⟨f,F,rfl,ho,h.any⟩
 | _=>exact ho.elim
theorem SA.fact (h:SA Z w Γ [] F) (hf:fact Z w [] e):SA Z w (e :: Γ) [] F:=by
 cases e with
 | own T v x=>exact hf.elim
 | om e E v xs=>exact hf.elim
 | row b cs e=>exact hf.elim
 | eb e E v xs j u=>exact hf.elim
 | _=>exact ⟨hf,h⟩
end
def M8 (h:Array Obj) (a:Addr):Option Value:=match h[a.block]? with
 | some (.cells c _ _)=>if a.spot.isSome then none else c[a.off]?
 | _=>none
def lv {α:Type} (A:ah α):ah α where
 size:=1
 rep h cs x f:=∃ p iw g,cs=[.pointer (some p)]∧p.block < h.size∧(∀ j u,iw[j]? = some u→M8 h (p.add j)=some u)∧A.rep h iw x g∧f=p.block :: g
 len:=by rintro h cs x f ⟨p,iw,g,rfl,_⟩; rfl
 one:=by rintro h cs x f ⟨p,iw,g,rfl,_⟩ v hv; simp at hv; subst hv; rfl
 congr:=by
  rintro h h' cs x f ⟨p,iw,g,rfl,h1,h2,h3,rfl⟩ hb
  have hp:=hb p.block (by simp)
  refine ⟨p,iw,g,rfl,?_,fun j u hj=>?_,A.congr h3 fun b hm=>hb b (by simp [hm]),rfl⟩
  ·rw [Array.getElem?_eq_getElem h1] at hp
   exact (Array.getElem?_eq_some_iff.1 hp).1
  ·rw [← h2 j u hj]
   unfold M8
   rw [xO,hp]
 lt:=by
  rintro h cs x f ⟨p,iw,g,rfl,h1,h2,h3,rfl⟩ b hb
  rcases List.mem_cons.1 hb with rfl | hb
  ·exact h1
  ·exact A.lt h3 b hb
class Dt {α:Type} (B:ah α):Prop where
 uc:∀ {h:Array Obj} {cs:LV} {x y:α} {f g:LN},B.rep h cs x f→B.rep h cs y g→x=y
def sr {α:Type} (S:ah α):ah α where
 size:=S.size
 rep h cs x f:=True∧S.rep h cs x f
 len:=fun h=>S.len h.2
 one:=fun h=>S.one h.2
 congr:=fun h hb=>⟨trivial,S.congr h.2 hb⟩
 lt:=fun h=>S.lt h.2
theorem Le.str {α:Type} {S:ah α}:Le S (sr S):=⟨rfl,fun h=>⟨trivial,h⟩⟩
def xP {α:Type} (R:Value→α→Prop) (E:ah α):ah α where
 size:=E.size
 rep h cs x f:=(∃ v,cs=[v]∧R v x)∧E.rep h cs x f
 len:=fun h=>E.len h.2
 one:=fun h=>E.one h.2
 congr:=fun h hb=>⟨h.1,E.congr h.2 hb⟩
 lt:=fun h=>E.lt h.2
def cy {α β:Type} (A:ah α) (B:ah β):ah (α×β) where
 size:=A.size+B.size
 rep h cs x f:=∃ c1 c2 f1 f2,cs=c1++c2∧f=f1++f2∧A.rep h c1 x.1 f1∧B.rep h c2 x.2 f2
 len:=by rintro h cs x f ⟨c1,c2,f1,f2,rfl,rfl,h1,h2⟩; rw [List.length_append,A.len h1,B.len h2]
 one:=by
  rintro h cs x f ⟨c1,c2,f1,f2,rfl,rfl,h1,h2⟩ v hv
  rcases List.mem_append.1 hv with hv | hv
  ·exact A.one h1 v hv
  ·exact B.one h2 v hv
 congr:=by
  rintro h h' cs x f ⟨c1,c2,f1,f2,rfl,rfl,h1,h2⟩ hb
  exact ⟨c1,c2,f1,f2,rfl,rfl,A.congr h1 fun b hm=>hb b (List.mem_append_left _ hm),B.congr h2 fun b hm=>hb b (List.mem_append_right _ hm)⟩
 lt:=by
  rintro h cs x f ⟨c1,c2,f1,f2,rfl,rfl,h1,h2⟩ b hb
  rcases List.mem_append.1 hb with hb | hb
  ·exact A.lt h1 b hb
  ·exact B.lt h2 b hb
def wA {α β:Type} (g:β→α) (A:ah α):ah β where
 size:=A.size
 rep h cs y f:=A.rep h cs (g y) f
 len:=A.len
 one:=A.one
 congr:=A.congr
 lt:=A.lt
class RTs {α:Type} (A:ah α) (B:outParam (ah α)):Prop where
 le:Le A B
 uc:Dt B
theorem Le.pair {α β:Type} {A A':ah α} {B B':ah β} (h:Le A A') (k:Le B B'):Le (cy A B) (cy A' B'):=
 ⟨show A.size+B.size=A'.size+B'.size by rw [h.size,k.size],by rintro h' cs x f ⟨c1,c2,f1,f2,e1,e2,h1,h2⟩; exact ⟨c1,c2,f1,f2,e1,e2,h.le h1,k.le h2⟩⟩
theorem Le.map {α β:Type} {g:β→α} {A A':ah α} (h:Le A A'):Le (wA g A) (wA g A'):=⟨h.size,fun hr=>h.le hr⟩
inductive RT:{α:Type}→ah α→ah α→Prop
 | i {k:IntKind}:RT (aK k) (aK k)
 | b:RT uT uT
 | own {α:Type} {e:TI} {A B:ah α} (h:RT A B):RT (aL e A) (bB B)
 | FU {α:Type} {A B:ah α} (h:RT A B):RT (bB A) (bB B)
 | ptr {α:Type} {A:ah α} [hd:Dt A]:RT (lv A) (lv A)
 | str {α:Type} {A:ah α} [hd:Dt A]:RT (sr A) (sr A)
 | Ve {α:Type} {R:Value→α→Prop} {A B:ah α} (h:RT A B):RT (xP R A) (xP R A)
 | Vf {α:Type} {R:Value→α→Prop} {A B:ah α} (h:RT A B):RT (xP R A) B
 | Vg {α:Type} {A B:ah α} [hs:RTs A B]:RT A (sr B)
theorem RT.le {α:Type} {A B:ah α} (h:RT A B):Le A B:=by
 induction h with
 | i=>exact Le.refl _
 | b=>exact Le.refl _
 | own _ ih=>exact Le.own ih _
 | FU _ ih=>exact Le.FU ih
 | ptr=>exact Le.refl _
 | str=>exact Le.refl _
 | Vg=>rename_i hs; exact ⟨hs.le.size,fun h=>⟨trivial,hs.le.le h⟩⟩
 | Ve _ _=>exact Le.refl _
 | Vf _ ih=>exact ⟨ih.size,fun h=>ih.le h.2⟩
theorem Kv {α:Type} {E:ah α} (hE:∀ {h:Array Obj} {cs:LV} {x y:α} {f g:LN},E.rep h cs x f→E.rep h cs y g→x=y) {h:Array Obj}:∀ {xs ys:List α} {cs:LV} {f g:LN},xs.length=ys.length→dp E h cs xs f→dp E h cs ys g→xs=ys:=by
 intro xs
 induction xs with
 | nil=>intro ys cs f g hl _ _; cases ys with
  | nil=>rfl
  | cons y ys=>cases hl
 | cons x xs ih=>
  intro ys cs f g hl h1 h2
  cases ys with
  | nil=>cases hl
  | cons y ys=>
   obtain ⟨c,iw,f1,f2,rfl,rfl,a1,a2⟩:=h1
   obtain ⟨d,ds',g1,g2,e1,rfl,b1,b2⟩:=h2
   obtain ⟨rfl,rfl⟩:=List.append_inj e1 ((E.len a1).trans (E.len b1).symm)
   rw [hE a1 b1,ih (by simpa using hl) a2 b2]
theorem AO {α:Type} {B:ah α} (ih:∀ {h:Array Obj} {cs:LV} {x y:α} {f g:LN},B.rep h cs x f→B.rep h cs y g→x=y) {h:Array Obj} {cs:LV} {x y:List α} {f g:LN} (h1:(bB B).rep h cs x f) (h2:(bB B).rep h cs y g):x=y:=by
 obtain ⟨base,cap,rfl,a⟩:=h1
 obtain ⟨G4,Kw,e,b⟩:=h2
 simp only [List.cons.injEq,Value.slice.injEq,and_true] at e
 obtain ⟨rfl,hl,rfl⟩:=e
 rcases a with ⟨rfl,_⟩ | ⟨b1,off,cr,e,fz,f',rfl,a2,rfl,_,a3⟩
 ·exact (List.eq_nil_of_length_eq_zero hl.symm).symm
 ·rcases b with ⟨rfl,_⟩ | ⟨FW,ahM,Vh,e',fz',g',e1,c2,rfl,_,c3⟩
  ·exact List.eq_nil_of_length_eq_zero hl
  ·cases e1
   rw [a2] at c2
   cases c2
   rw [hl] at a3
   exact Kv ih hl a3 c3
theorem Om {α:Type} {A:ah α} [hd:Dt A] {h:Array Obj} {cs:LV} {x y:α} {f g:LN} (h1:(lv A).rep h cs x f) (h2:(lv A).rep h cs y g):x=y:=by
 obtain ⟨p,c1,g1,rfl,_,a1,a2,rfl⟩:=h1
 obtain ⟨q,c2,g2,e,_,b1,b2,rfl⟩:=h2
 cases e
 have hl:c1.length=c2.length:=(A.len a2).trans (A.len b2).symm
 have he:c1=c2:=by
  refine List.ext_getElem hl fun j hj hk=>?_
  exact Option.some.inj ((a1 j _ (List.getElem?_eq_getElem hj)).symm.trans (b1 j _ (List.getElem?_eq_getElem hk)))
 subst he
 exact hd.uc a2 b2
instance Dt.i {k:IntKind}:Dt (aK k):=⟨by rintro h cs x y f g ⟨rfl,_⟩ ⟨e,_⟩; cases e; rfl⟩
instance Dt.b:Dt uT:=⟨by rintro h cs x y f g ⟨rfl,_⟩ ⟨e,_⟩; cases e; rfl⟩
instance Dt.s {α:Type} {B:ah α} [hb:Dt B]:Dt (bB B):=⟨AO hb.uc⟩
theorem RT.uc {α:Type} {A B:ah α} (h:RT A B):∀ {h:Array Obj} {cs:LV} {x y:α} {f g:LN},B.rep h cs x f→B.rep h cs y g→x=y:=by
 induction h with
 | i=>exact Dt.i.uc
 | b=>exact Dt.b.uc
 | own _ ih=>exact AO ih
 | FU _ ih=>exact AO ih
 | ptr=>exact Om
 | @str α A hd=>exact fun h1 h2=>hd.uc h1.2 h2.2
 | Vg=>rename_i hs; exact fun h1 h2=>hs.uc.uc h1.2 h2.2
 | Ve h ih=>exact fun h1 h2=>ih (h.le.le h1.2) (h.le.le h2.2)
 | Vf _ ih=>exact ih
def AP (Z:Nat→Prop) (w:World) (cur:LN) (o1 o2:Bool) {α:Type} (E:ah α) (v:Value) (xs:List α):Prop:=
 (∃ g,(bB E).rep w.heap [v] xs g∧∀ b∈g,rM o1 Z cur b∨rM o2 Z cur b)∧(E.size=1→∀ (j:Int) (y:α),0≤j→xs[j.toNat]? = some y→fact Z w cur (.ad o1 o2 v j E y))
inductive qD:List ay→Value→Bool→Bool→{α:Type}→ah α→List α→ay→List ay→Prop
 | nil {α:Type} {E:ah α} {e:ay} {Γ:QE}:qD Γ (.slice none 0 0) false false E [] e Γ
 | rd {o:Bool} {α:Type} {E:ah α} {T:ah (List α)} {v:Value} {x:List α} {e:ay} {Γ:QE} (h:RT T (bB E)):qD (.rd o T v x :: Γ) v o o E x e (.rd o T v x :: e :: Γ)
 | own {α:Type} {E:ah α} {T:ah (List α)} {v:Value} {x:List α} {e:ay} {Γ:QE} (h:RT T (bB E)):qD (.own T v x :: Γ) v true true E x e (.own T v x :: e :: Γ)
 | om {α:Type} {t:TI} {E E':ah α} {v:Value} {xs:List α} {e:ay} {Γ:QE} (h:RT E E'):qD (.om t E v xs :: Γ) v true false E' xs e (.om t E v xs :: e :: Γ)
 | there {o1 o2:Bool} {α:Type} {E:ah α} {v:Value} {x:List α} {e a:ay} {Γ Γ':QE} (h:qD Γ v o1 o2 E x e Γ'):qD (a :: Γ) v o1 o2 E x e (a :: Γ')
inductive td:List ay→Addr→Bool→{α:Type}→ah α→α→ay→List ay→Prop
 | ad {o1 o2:Bool} {α:Type} {E:ah α} {v:Value} {j:Int} {x:α} {e:ay} {Γ:QE}:td (.ad o1 o2 v j E x :: Γ) (fi v 1 j) o2 E x e (.ad o1 o2 v j E x :: e :: Γ)
 | there {o2:Bool} {α:Type} {E:ah α} {v:Addr} {x:α} {e a:ay} {Γ Γ':QE} (h:td Γ v o2 E x e Γ'):td (a :: Γ) v o2 E x e (a :: Γ')
inductive xQ:List ay→Value→Int→Value→List ay→Prop
 | ad {o2:Bool} {α:Type} {E:ah α} {v u:Value} {j:Int} {x:α} {Γ:QE}:xQ (.ad true o2 v j E x :: Γ) v j u (.ad true o2 v j E x :: .hd v j u :: Γ)
 | Pu {o2:Bool} {α:Type} {E:ah α} {v u:Value} {j:Int} {x:α} {Γ:QE}:xQ (.ad false o2 v j E x :: Γ) v j u (.ad false o2 v j E x :: Γ)
 | there {v u:Value} {j:Int} {a:ay} {Γ Γ':QE} (h:xQ Γ v j u Γ'):xQ (a :: Γ) v j u (a :: Γ')
inductive su:List ay→Addr→Value→Prop
 | row {b j:Nat} {cs:LV} {t:TI} {v:Value} {Γ:QE} (h:cs[j]? = some v):su (.row b cs t :: Γ) ⟨b,j,none⟩ v
 | at {p:Addr} {j:Nat} {cs:LV} {v:Value} {Γ:QE} (h:cs[j]? = some v):su (.bb p cs :: Γ) (p.add j) v
 | Ir {p:Addr} {cs:LV} {v:Value} {Γ:QE} (h:cs[0]? = some v):su (.bb p cs :: Γ) p v
 | at2 {p:Addr} {i j:Nat} {cs:LV} {v:Value} {Γ:QE} (h:cs[i+j]? = some v) (hn:Nat.beq (i+j) 0=false):su (.bb p cs :: Γ) ⟨p.block,p.off+i+j,none⟩ v
 | there {a:Addr} {v:Value} {e:ay} {Γ:QE} (h:su Γ a v):su (e :: Γ) a v
inductive kv:List ay→List ay→Prop
 | nil:kv [] []
 | CI {α:Type} {T:ah α} {v:Value} {x:α} {Γ Γ':QE} (h:kv Γ Γ'):kv (.rd true T v x :: Γ) Γ'
 | Is {α:Type} {T:ah α} {v:Value} {x:α} {Γ Γ':QE} (h:kv Γ Γ'):kv (.rd false T v x :: Γ) (.rd false T v x :: Γ')
 | adt {o:Bool} {v:Value} {j:Int} {α:Type} {T:ah α} {x:α} {Γ Γ':QE} (h:kv Γ Γ'):kv (.ad true o v j T x :: Γ) Γ'
 | Pu {v:Value} {j:Int} {α:Type} {T:ah α} {x:α} {Γ Γ':QE} (h:kv Γ Γ'):kv (.ad false false v j T x :: Γ) (.ad false false v j T x :: Γ')
 | bb {p:Addr} {cs:LV} {Γ Γ':QE} (h:kv Γ Γ'):kv (.bb p cs :: Γ) (.bb p cs :: Γ')
 | row {b:Nat} {cs:LV} {t:TI} {Γ Γ':QE} (h:kv Γ Γ'):kv (.row b cs t :: Γ) (.row b cs t :: Γ')
 | hd {v u:Value} {j:Int} {Γ Γ':QE} (h:kv Γ Γ'):kv (.hd v j u :: Γ) Γ'
 | eb {α:Type} {e:TI} {E:ah α} {v u:Value} {xs:List α} {j:Int} {Γ:QE}:kv (.eb e E v xs j u :: Γ) (.eb e E v xs j u :: Γ)
 | own {α:Type} {T:ah α} {v:Value} {x:α} {Γ:QE}:kv (.own T v x :: Γ) (.own T v x :: Γ)
 | om {α:Type} {t:TI} {E:ah α} {v:Value} {xs:List α} {Γ:QE}:kv (.om t E v xs :: Γ) (.om t E v xs :: Γ)
inductive dy:List ay→ay→List ay→Prop
 | nil {α:Type} {t:TI} {E:ah α} {Γ:QE}:dy Γ (.own (aL t E) (.slice none 0 0) []) Γ
 | own {α:Type} {T:ah α} {v:Value} {x:α} {Γ Γ':QE} (h:kv Γ Γ'):dy (.own T v x :: Γ) (.own T v x) Γ'
 | om {α:Type} {t:TI} {E:ah α} {v:Value} {xs:List α} {Γ Γ':QE} (h:kv Γ Γ'):dy (.om t E v xs :: Γ) (.om t E v xs) Γ'
 | omn {α:Type} {t:TI} {E:ah α} {Γ:QE} (h:E.size=1):dy Γ (.om t E (.slice none 0 0) []) Γ
 | omz {α β:Type} {t:TI} {E:ah α} {E':ah β} {v:Value} {Γ Γ':QE} (h1:E.size=1) (h2:E'.size=1) (h:kv Γ Γ'):dy (.own (aL t E) v [] :: Γ) (.om t E' v []) Γ'
 | row {b:Nat} {cs:LV} {t:TI} {Γ:QE}:dy (.row b cs t :: Γ) (.row b cs t) Γ
 | eb {α:Type} {e:TI} {E:ah α} {v u:Value} {xs:List α} {j:Int} {Γ Γ':QE} (h:kv Γ Γ'):dy (.eb e E v xs j u :: Γ) (.eb e E v xs j u) Γ'
 | there {e a:ay} {Γ Γ':QE} (h:dy Γ e Γ'):dy (a :: Γ) e (a :: Γ')
section
variable {Z:Nat→Prop} {w:World} {cur F:LN} {Γ Γ':QE} {e:ay} {α:Type} {E:ah α}
theorem CJ {o:Bool} {v:Value} {xs:List α} {g:LN} (h:(bB E).rep w.heap [v] xs g) (hg:∀ b∈g,rM o Z cur b):AP Z w cur o o E v xs:=by
 refine ⟨⟨g,h,fun b hb=>.inl (hg b hb)⟩,fun h1 j y h0 hy=>?_⟩
 obtain ⟨u,k,hc,hr,hk⟩:=FX h1 h h0 hy
 have bo:j.toNat < xs.length:=(List.getElem?_eq_some_iff.1 hy).1
 have Pv:j.toNat < ua v:=by
  obtain ⟨base,cap,hv,_⟩:=h
  obtain rfl:v = .slice base xs.length cap:=by simpa using hv
  exact bo
 refine ⟨h0,Pv,u,k,hc,hr,?_,fun b hb=>hg b (hk b hb)⟩
 obtain ⟨base,cap,hv,hr⟩:=h
 obtain rfl:v = .slice base xs.length cap:=by simpa using hv
 rcases hr with ⟨rfl,_⟩ | ⟨b,off,cr,e,fz,f',rfl,_,rfl,_⟩
 ·simp at hy
 ·have:(fi (.slice (some ⟨b,off,none⟩) xs.length cap) 1 j).block=b:=by simp only [fi,ir]
  rw [this]; exact hg b (by simp)
theorem G5 {t:TI} {v:Value} {xs:List α} {f:LN} (h:lu Z w f (.om t E v xs)):AP Z w f true false E v xs:=by
 obtain ⟨us,g,ho,hr,hg,h1⟩:=h
 have Vi:(bB E).rep w.heap [v] xs (f++g):=by
  obtain ⟨base,cap,hv,je⟩:=ho
  have hl:us.length=xs.length:=by have:=jz hr; rw [h1,Nat.mul_one] at this; exact this
  refine ⟨base,cap,by rw [hv,hl],?_⟩
  rcases je with ⟨rfl,rfl,rfl,rfl⟩ | ⟨b,cr,f',rfl,h2,rfl,h4,h5,h6,h3⟩
  ·cases xs with
   | nil=>obtain ⟨_,rfl⟩:=hr; exact .inl ⟨rfl,rfl⟩
   | cons x xs=>simp at hl
  ·obtain ⟨h7,rfl⟩:=wB h3
   refine .inr ⟨b,0,cr,t,(0,0),g,rfl,h2,rfl,hl ▸ h4,?_⟩
   rw [List.drop_zero,h1,Nat.mul_one,← hl]
   have h8:nr.size=1:=rfl
   rw [h8,Nat.mul_one] at h7
   rw [h7]
   exact hr
 refine ⟨⟨_,Vi,fun b hb=>(List.mem_append.1 hb).elim .inl fun h=>.inr (hg b h)⟩,fun _ j y h0 hy=>?_⟩
 have hO:OM f 0 w t E v xs f g:=by
  refine ⟨us,⟨ho,?_,fun b hb=>.inl hb⟩,hr,h1⟩
  obtain ⟨base,cap,hv,je⟩:=ho
  rcases je with ⟨rfl,rfl,rfl,rfl⟩ | ⟨b,cr,f',rfl,h2,rfl,h4,h5,h6,h3⟩
  ·exact List.nodup_nil
  ·obtain ⟨h7,rfl⟩:=wB h3; simp
 obtain ⟨u,k,hc,hrk,hk⟩:=OM.get hO h0 hy
 have bo:j.toNat < xs.length:=(List.getElem?_eq_some_iff.1 hy).1
 have Pv:j.toNat < ua v:=by
  obtain ⟨base,cap,hv,_⟩:=Vi
  obtain rfl:v = .slice base xs.length cap:=by simpa using hv
  exact bo
 refine ⟨h0,Pv,u,k,hc,hrk,?_,fun b hb=>hg b (hk b hb)⟩
 obtain ⟨base,cap,hv,je⟩:=ho
 obtain rfl:v = .slice base us.length cap:=by simpa using hv
 rcases je with ⟨rfl,rfl,rfl,rfl⟩ | ⟨b,cr,f',rfl,h2,rfl,h4,h5,h6,h3⟩
 ·cases xs with
  | nil=>simp at hy
  | cons x xs=>have:=jz hr; simp [h1] at this
 ·have:(fi (.slice (some ⟨b,0,none⟩) us.length cap) 1 j).block=b:=by simp only [fi,ir]
  show rM true Z _ _
  rw [this]; exact List.mem_cons_self
theorem AP.le {o1 o2:Bool} {E':ah α} {v:Value} {xs:List α} (hl:Le E E') (h:AP Z w cur o1 o2 E v xs):AP Z w cur o1 o2 E' v xs:=by
 obtain ⟨⟨g,h1,h3⟩,h2⟩:=h
 refine ⟨⟨g,(Le.FU hl).le h1,h3⟩,fun hs j y h0 hy=>?_⟩
 obtain ⟨j0,j1,u,k,a,b,c,d⟩:=h2 (by rw [hl.size]; exact hs) j y h0 hy
 exact ⟨j0,j1,u,k,a,hl.le b,c,d⟩
theorem qD.sound {v:Value} {o1 o2:Bool} {xs:List α} (h:qD Γ v o1 o2 E xs e Γ'):∀ {cur F:LN},SA Z w Γ cur F→∃ dh,(∀ b∈dh,b∈cur∨b∈F)∧AP Z w dh o1 o2 E v xs∧(fact Z w dh e→SA Z w Γ' cur F):=by
 induction h with
 | nil=>intro cur F h; exact ⟨[],(fun b (hb:b∈([]:LN))=>absurd hb List.not_mem_nil),CJ (o:=false) FY (fun _ h=>nomatch h),fun _=>h⟩
 | @rd o α E T v x e Γ h=>
  intro cur F hS
  obtain ⟨⟨g,h1,h2⟩,h3⟩:=hS
  refine ⟨cur,fun _ h=>.inl h,CJ (h.le.le h1) h2,fun he=>⟨⟨g,h1,h2⟩,?_⟩⟩
  cases e with
  | own T v x=>exact he.elim
  | om e E v xs=>exact he.elim
  | row b cs e=>exact he.elim
  | eb e E v xs j u=>exact he.elim
  | _=>exact ⟨he,h3⟩
 | @own α E T v x e Γ h=>
  intro cur F hS
  obtain ⟨f,F',h1,h2,h3⟩:=hS
  refine ⟨f,fun b hb=>.inr (by rw [h1]; exact List.mem_append_left _ hb),CJ (o:=true) (h.le.le h2) (fun b hb=>hb),fun he=>⟨f,F',h1,h2,?_⟩⟩
  cases e with
  | own T v x=>exact he.elim
  | om e E v xs=>exact he.elim
  | row b cs e=>exact he.elim
  | eb e E v xs j u=>exact he.elim
  | _=>exact ⟨he,h3⟩
 | @om α t E E' v xs e Γ h=>
  intro cur F hS
  obtain ⟨f,F',h1,h2,h3⟩:=hS
  refine ⟨f,fun b hb=>.inr (by rw [h1]; exact List.mem_append_left _ hb),(G5 h2).le h.le,fun he=>⟨f,F',h1,h2,?_⟩⟩
  cases e with
  | own T v x=>exact he.elim
  | om e E v xs=>exact he.elim
  | row b cs e=>exact he.elim
  | eb e E v xs j u=>exact he.elim
  | _=>exact ⟨he,h3⟩
 | @there o1 o2 α E v x e a Γ Γ' h ih=>
  intro cur F hS
  cases a with
  | own T v x=>obtain ⟨f,F',h1,h2,h3⟩:=hS; obtain ⟨c,a0,a1,a2⟩:=ih h3; exact ⟨c,fun b hb=>.inr (by rw [h1]; exact List.mem_append.2 (a0 b hb)),a1,fun he=>⟨f,F',h1,h2,a2 he⟩⟩
  | om e E v xs=>obtain ⟨f,F',h1,h2,h3⟩:=hS; obtain ⟨c,a0,a1,a2⟩:=ih h3; exact ⟨c,fun b hb=>.inr (by rw [h1]; exact List.mem_append.2 (a0 b hb)),a1,fun he=>⟨f,F',h1,h2,a2 he⟩⟩
  | row b cs e=>obtain ⟨f,F',h1,h2,h3⟩:=hS; obtain ⟨c,a0,a1,a2⟩:=ih h3; exact ⟨c,fun b hb=>(a0 b hb).imp id fun h=>by rw [h1]; exact List.mem_append_right _ h,a1,fun he=>⟨f,F',h1,h2,a2 he⟩⟩
  | eb e E v xs j u=>obtain ⟨f,F',h1,h2,h3⟩:=hS; obtain ⟨c,a0,a1,a2⟩:=ih h3; exact ⟨c,fun b hb=>.inr (by rw [h1]; exact List.mem_append.2 (a0 b hb)),a1,fun he=>⟨f,F',h1,h2,a2 he⟩⟩
  | _=>obtain ⟨c,a0,a1,a2⟩:=ih hS.2; exact ⟨c,a0,a1,fun he=>⟨hS.1,a2 he⟩⟩
theorem td.sound {v:Addr} {o:Bool} {x:α} (h:td Γ v o E x e Γ'):∀ {cur F:LN},SA Z w Γ cur F→∃ dh,(∃ u g,w.cell? v=some u∧E.rep w.heap [u] x g∧∀ b∈g,rM o Z dh b)∧(fact Z w dh e→SA Z w Γ' cur F):=by
 induction h with
 | @ad o1 o2 α E v j x e Γ=>
  intro cur F hS
  obtain ⟨⟨j0,j1,u,g,h1,h2,h3,h4⟩,h5⟩:=hS
  refine ⟨cur,⟨u,g,h1,h2,h4⟩,fun he=>⟨⟨j0,j1,u,g,h1,h2,h3,h4⟩,?_⟩⟩
  cases e with
  | own T v x=>exact he.elim
  | om e E v xs=>exact he.elim
  | row b cs e=>exact he.elim
  | eb e E v xs j u=>exact he.elim
  | _=>exact ⟨he,h5⟩
 | @there o2 α E v x e a Γ Γ' h ih=>
  intro cur F hS
  cases a with
  | own T v x=>obtain ⟨f,F',h1,h2,h3⟩:=hS; obtain ⟨c,a1,a2⟩:=ih h3; exact ⟨c,a1,fun he=>⟨f,F',h1,h2,a2 he⟩⟩
  | om e E v xs=>obtain ⟨f,F',h1,h2,h3⟩:=hS; obtain ⟨c,a1,a2⟩:=ih h3; exact ⟨c,a1,fun he=>⟨f,F',h1,h2,a2 he⟩⟩
  | row b cs e=>obtain ⟨f,F',h1,h2,h3⟩:=hS; obtain ⟨c,a1,a2⟩:=ih h3; exact ⟨c,a1,fun he=>⟨f,F',h1,h2,a2 he⟩⟩
  | eb e E v xs j u=>obtain ⟨f,F',h1,h2,h3⟩:=hS; obtain ⟨c,a1,a2⟩:=ih h3; exact ⟨c,a1,fun he=>⟨f,F',h1,h2,a2 he⟩⟩
  | _=>obtain ⟨c,a1,a2⟩:=ih hS.2; exact ⟨c,a1,fun he=>⟨hS.1,a2 he⟩⟩
theorem xQ.sound {v u:Value} {j:Int} (h:xQ Γ v j u Γ'):∀ {cur F:LN},w.cell? (fi v 1 j)=some u→SA Z w Γ cur F→SA Z w Γ' cur F:=by
 induction h with
 | ad=>
  intro cur F hu hS
  obtain ⟨⟨j0,j1,u',g,h1,h2,h3,h4⟩,h5⟩:=hS
  exact ⟨⟨j0,j1,u',g,h1,h2,h3,h4⟩,⟨j0,j1,hu,h3⟩,h5⟩
 | Pu=>intro cur F _ hS; exact hS
 | @there v u j a Γ Γ' h ih=>
  intro cur F hu hS
  cases a with
  | own T v x=>obtain ⟨f,F',h1,h2,h3⟩:=hS; exact ⟨f,F',h1,h2,ih hu h3⟩
  | om e E v xs=>obtain ⟨f,F',h1,h2,h3⟩:=hS; exact ⟨f,F',h1,h2,ih hu h3⟩
  | row b cs e=>obtain ⟨f,F',h1,h2,h3⟩:=hS; exact ⟨f,F',h1,h2,ih hu h3⟩
  | eb e E v xs j u=>obtain ⟨f,F',h1,h2,h3⟩:=hS; exact ⟨f,F',h1,h2,ih hu h3⟩
  | _=>exact ⟨hS.1,ih hu hS.2⟩
theorem su.sound {a:Addr} {v:Value} (h:su Γ a v):∀ {cur F:LN},SA Z w Γ cur F→w.cell? a=some v:=by
 induction h with
 | row h=>rintro cur F ⟨f,F',h1,⟨_,h2⟩,h3⟩; have:=h2.at.cell h; rwa [ir,Nat.zero_add] at this
 | «at» h=>rintro cur F ⟨⟨h1,_⟩,_⟩; exact h1.cell h
 | Ir h=>rintro cur F ⟨⟨h1,_⟩,_⟩; exact h1.G6 h
 | @at2 p i j cs v Γ h hn=>
  rintro cur F ⟨⟨h1,_⟩,_⟩
  have h2:=h1.cell h
  have hz : ¬ i+j=0:=fun h=>by rw [h] at hn; exact absurd hn (by decide)
  unfold Addr.add at h2
  rw [if_neg hz] at h2
  rwa [Nat.add_assoc]
 | @there a v e Γ h ih=>
  intro cur F hS
  cases e with
  | own T v x=>obtain ⟨f,F',h1,h2,h3⟩:=hS; exact ih h3
  | om e E v xs=>obtain ⟨f,F',h1,h2,h3⟩:=hS; exact ih h3
  | row b cs e=>obtain ⟨f,F',h1,h2,h3⟩:=hS; exact ih h3
  | eb e E v xs j u=>obtain ⟨f,F',h1,h2,h3⟩:=hS; exact ih h3
  | _=>exact ih hS.2
theorem kv.sound (h:kv Γ Γ'):∀ {cur dh F:LN},SA Z w Γ cur F→SA Z w Γ' dh F:=by
 induction h with
 | nil=>intro _ _ _ h; exact h
 | CI _ ih=>intro _ _ _ h; exact ih h.2
 | Is _ ih=>intro _ _ _ h; exact ⟨h.1,ih h.2⟩
 | adt _ ih=>intro _ _ _ h; exact ih h.2
 | Pu _ ih=>intro _ _ _ h; exact ⟨h.1,ih h.2⟩
 | bb _ ih=>intro _ _ _ h; exact ⟨h.1,ih h.2⟩
 | row _ ih=>rintro _ _ _ ⟨f,F',h1,h2,h3⟩; exact ⟨f,F',h1,h2,ih h3⟩
 | hd _ ih=>intro _ _ _ h; exact ih h.2
 | eb=>intro _ _ _ h; exact h
 | own=>intro _ _ _ h; exact h
 | om=>intro _ _ _ h; exact h
theorem dy.sound (h:dy Γ e Γ'):∀ {cur F:LN},SA Z w Γ cur F→∃ f F',(f++F').Perm F∧lu Z w f e∧SA Z w Γ' cur F':=by
 induction h with
 | nil=>intro cur F h; exact ⟨[],F,.refl _,AQ,h⟩
 | own h=>rintro cur F ⟨f,F',rfl,h2,h3⟩; exact ⟨f,F',.refl _,h2,h.sound h3⟩
 | om h=>rintro cur F ⟨f,F',rfl,h2,h3⟩; exact ⟨f,F',.refl _,h2,h.sound h3⟩
 | omn h=>intro cur F hs; exact ⟨[],F,.refl _,⟨[],[],AQ,⟨rfl,rfl⟩,(fun _ h=>absurd h List.not_mem_nil),h⟩,hs⟩
 | @omz α β t E E' v Γ Γ' h1 h2 h=>
  rintro cur F ⟨f,F',rfl,h3,h4⟩
  refine ⟨f,F',.refl _,⟨[],[],?_,⟨rfl,rfl⟩,(fun _ h=>absurd h List.not_mem_nil),h2⟩,h.sound h4⟩
  obtain ⟨base,cap,hv,hr⟩:=h3
  refine ⟨base,cap,hv,?_⟩
  rcases hr with ⟨a1,a2,a3,a4⟩ | ⟨b,cur,f',a1,a2,a3,a4,a5,a6,a7⟩
  ·exact .inl ⟨a1,a2,rfl,a4⟩
  ·obtain ⟨a8,rfl⟩:=a7
   exact .inr ⟨b,cur,[],a1,a2,a3,by simp,a5,by rw [a6,h1]; rfl,⟨by simp,rfl⟩⟩
 | row=>rintro cur F ⟨f,F',rfl,h2,h3⟩; exact ⟨f,F',.refl _,h2,h3⟩
 | eb h=>rintro cur F ⟨f,F',rfl,h2,h3⟩; exact ⟨f,F',.refl _,h2,h.sound h3⟩
 | @there e a Γ Γ' h ih=>
  intro cur F hS
  cases a with
  | own T v x=>
   obtain ⟨f,F',rfl,h2,h3⟩:=hS; obtain ⟨k,K,a1,a2,a3⟩:=ih h3
   exact ⟨k,f++K,(List.perm_append_comm_assoc k f K).trans (a1.append_left f),a2,f,K,rfl,h2,a3⟩
  | om e E v xs=>
   obtain ⟨f,F',rfl,h2,h3⟩:=hS; obtain ⟨k,K,a1,a2,a3⟩:=ih h3
   exact ⟨k,f++K,(List.perm_append_comm_assoc k f K).trans (a1.append_left f),a2,f,K,rfl,h2,a3⟩
  | row b cs e=>
   obtain ⟨f,F',rfl,h2,h3⟩:=hS; obtain ⟨k,K,a1,a2,a3⟩:=ih h3
   exact ⟨k,f++K,(List.perm_append_comm_assoc k f K).trans (a1.append_left f),a2,f,K,rfl,h2,a3⟩
  | eb e E v xs j u=>
   obtain ⟨f,F',rfl,h2,h3⟩:=hS; obtain ⟨k,K,a1,a2,a3⟩:=ih h3
   exact ⟨k,f++K,(List.perm_append_comm_assoc k f K).trans (a1.append_left f),a2,f,K,rfl,h2,a3⟩
  | _=>obtain ⟨k,K,a1,a2,a3⟩:=ih hS.2; exact ⟨k,K,a1,a2,hS.1,a3⟩
end
class SO {α:Type} (S:ah α) (V:outParam Type) (cl:outParam (α→V→List Value)) (en:outParam (α→V→List ay)):Prop where
 ne:∀ x v,cl x v≠[]
 op:∀ {w:World} {cs:LV} {x:α} {g:LN},S.rep w.heap cs x g→∃ v,cs=cl x v∧∀ Z:Nat→Prop,(∀ b∈g,Z b)→∀ e∈en x v,fact Z w [] e
 cl:∀ {w:World} {x:α} {v:V} {Z:Nat→Prop},(∀ e∈en x v,fact Z w [] e)→∃ g,S.rep w.heap (cl x v) x g∧∀ b∈g,Z b
theorem SO.i {k:IntKind}:SO (aK k) Unit (fun x _=>[.int k x]) (fun _ _=>[]):=
 ⟨fun _ _=>by simp,fun h=>⟨(),h.1,fun _ _ e he=>absurd he List.not_mem_nil⟩,fun _=>⟨[],⟨rfl,rfl⟩,fun _ h=>absurd h List.not_mem_nil⟩⟩
theorem SO.s {α:Type} {E:ah α}:SO (bB E) Value (fun _ v=>[v]) (fun x v=>[.rd false (bB E) v x]):=by
 refine ⟨fun _ _=>by simp,fun {w cs x g} h=>?_,fun {w x v Z} h=>?_⟩
 ·obtain ⟨base,cap,rfl,hr⟩:=h
  exact ⟨_,rfl,fun Z hz e he=>by rw [List.mem_singleton.1 he]; exact ⟨g,⟨base,cap,rfl,hr⟩,hz⟩⟩
 ·obtain ⟨g,h1,h2⟩:=h _ (List.mem_singleton.2 rfl)
  exact ⟨g,h1,h2⟩
theorem SO.ip {β V:Type} {k:IntKind} {B:ah β} {cl:β→V→List Value} {en:β→V→List ay} (h:SO B V cl en):SO (cy (aK k) B) V (fun x v=>.int k x.1 :: cl x.2 v) (fun x v=>en x.2 v):=by
 refine ⟨fun _ _=>by simp,fun {w cs x g} hr=>?_,fun {w x v Z} he=>?_⟩
 ·obtain ⟨c1,c2,f1,f2,rfl,rfl,⟨rfl,rfl⟩,h2⟩:=hr
  obtain ⟨v,rfl,hv⟩:=h.op h2
  exact ⟨v,rfl,hv⟩
 ·obtain ⟨g,h1,h2⟩:=h.cl he
  exact ⟨g,⟨[_],_,[],g,rfl,rfl,⟨rfl,rfl⟩,h1⟩,h2⟩
theorem SO.sp {α β V:Type} {E:ah α} {B:ah β} {cl:β→V→List Value} {en:β→V→List ay} (h:SO B V cl en):SO (cy (bB E) B) (Value×V) (fun x v=>v.1 :: cl x.2 v.2) (fun x v=>.rd false (bB E) v.1 x.1 :: en x.2 v.2):=by
 refine ⟨fun _ _=>by simp,fun {w cs x g} hr=>?_,fun {w x v Z} he=>?_⟩
 ·obtain ⟨c1,c2,f1,f2,rfl,rfl,h1,h2⟩:=hr
  obtain ⟨base,cap,rfl,BF⟩:=h1
  obtain ⟨v,rfl,hv⟩:=h.op h2
  refine ⟨(_,v),rfl,fun Z hz e he=>?_⟩
  rcases List.mem_cons.1 he with rfl | he
  ·exact ⟨f1,⟨base,cap,rfl,BF⟩,fun b hb=>hz b (List.mem_append_left _ hb)⟩
  ·exact hv Z (fun b hb=>hz b (List.mem_append_right _ hb)) e he
 ·obtain ⟨g1,a1,a2⟩:=he _ List.mem_cons_self
  obtain ⟨g,h1,h2⟩:=h.cl fun e hm=>he e (List.mem_cons_of_mem _ hm)
  exact ⟨g1++g,⟨[_],_,g1,g,rfl,rfl,a1,h1⟩,fun b hb=>(List.mem_append.1 hb).elim (a2 b) (h2 b)⟩
theorem SO.mp {α β V:Type} {f:β→α} {A:ah α} {cl:α→V→List Value} {en:α→V→List ay} (h:SO A V cl en):SO (wA f A) V (fun y v=>cl (f y) v) (fun y v=>en (f y) v):=
 ⟨fun y v=>h.ne (f y) v,fun hr=>h.op hr,fun he=>h.cl he⟩
instance Dt.p {α β:Type} {A:ah α} {B:ah β} [ha:Dt A] [hb:Dt B]:Dt (cy A B):=by
 refine ⟨fun {h cs x y f g} h1 h2=>?_⟩
 obtain ⟨c1,c2,f1,f2,rfl,rfl,a1,a2⟩:=h1
 obtain ⟨d1,d2,g1,g2,e,rfl,b1,b2⟩:=h2
 obtain ⟨rfl,rfl⟩:=List.append_inj e ((A.len a1).trans (A.len b1).symm)
 exact Prod.ext (ha.uc a1 b1) (hb.uc a2 b2)
theorem Dt.mp {α β:Type} {f:β→α} {A:ah α} [ha:Dt A] (hf:∀ x y,f x=f y→x=y):Dt (wA f A):=
 ⟨fun h1 h2=>hf _ _ (ha.uc h1 h2)⟩
end Go.Dk
namespace Go.Dk
open Go Go.Li
structure Bs where
 w:World
 Z:Nat→Prop
 G:List Nat
inductive HL (Z:Nat→Prop) (w:World):List ay→List Nat→Prop
 | nil:HL Z w [] []
 | own {e:ay} {f F:LN} {Δ:QE} (h:lu Z w f e) (k:HL Z w Δ F):HL Z w (e :: Δ) (f++F)
 | fact {e:ay} {F:LN} {Δ:QE} (h:fact Z w [] e) (k:HL Z w Δ F):HL Z w (e :: Δ) F
structure Gd (B:Bs) (Z:Nat→Prop) (F:LN) (w:World):Prop where
 nd:F.Nodup
 apart:∀ b∈F,¬ Z b
 qT:∀ b,Z b→b < w.heap.size
 low:∀ b∈F,b∈B.G∨B.w.heap.size≤b
 uU:∀ b,B.Z b→Z b
 vq:∀ b,Z b→B.Z b∨b∈B.G∨B.w.heap.size≤b
 jf:aq B.G B.w w
def St (B:Bs) (Γ:QE) (w:World):Prop:=∃ Z F,SA Z w Γ [] F∧Gd B Z F w
def It (B:Bs) (Δ:QE) (w:World):Prop:=∃ Z F,HL Z w Δ F∧Gd B Z F w
def rN:List Value→Value
 | [v]=>v
 | vs=>.tuple vs.toArray
def sO:List ay→Bool
 | []=>true
 | .own _ _ _ :: l=>sO l
 | .row _ _ _ :: l=>sO l
 | _ :: _=>false
def Pw (P:Program) (f:FuncId) (o:Bool) (args:LV) (Δ:QE) (β V:Type) (m:Option β) (ret:β→V→List Value) (post:β→V→List ay):Prop:=
 (o=true→∀ y v,sO (post y v)=true)∧∀ w Z F,HL Z w Δ F→F.Nodup→(∀ b∈F,¬ Z b)→(∀ b,Z b→b < w.heap.size)→∀ y,m=some y→
  Calls P f args.toArray w fun e w'=>∃ v:V,e = .returned (rN (ret y v))∧It ⟨w,Z,F⟩ (post y v) w'
theorem M9:∃ C:Program→FuncId→Bool→List Value→List ay→(β V:Type)→Option β→(β→V→List Value)→(β→V→List ay)→Prop,C=Pw:=⟨_,rfl⟩
noncomputable def Ct (P:Program) (f:FuncId) (o:Bool) {β V:Type} (m:Option β) (args:LV) (Δ:QE) (ret:β→V→List Value) (post:β→V→List ay):Prop:=Classical.choose M9 P f o args Δ β V m ret post
theorem uV {P:Program} {f:FuncId} {o:Bool} {args:LV} {Δ:QE} {β V:Type} {m:Option β} {ret:β→V→List Value} {post:β→V→List ay}:Ct P f o m args Δ ret post=Pw P f o args Δ β V m ret post:=by
 unfold Ct; rw [Classical.choose_spec M9]
theorem Na:∃ C:Prop→Prop,C=id:=⟨_,rfl⟩
noncomputable def Bx (p:Prop):Prop:=Classical.choose Na p
theorem ma {p:Prop}:Bx p=p:=by unfold Bx; rw [Classical.choose_spec Na]; rfl
theorem bxi {p:Prop} (h:p):Bx p:=by rw [ma]; exact h
section
variable {Z Z':Nat→Prop} {w w':World} {cur F f:LN} {Γ Γ' Γ1 Δ:QE} {e:ay} {B:Bs}
theorem Gd.perm {F':LN} (h:Gd B Z F w) (hp:F'.Perm F):Gd B Z F' w:=
 ⟨hp.nodup_iff.2 h.nd,fun b hb=>h.apart b (hp.mem_iff.1 hb),h.qT,fun b hb=>h.low b (hp.mem_iff.1 hb),h.uU,h.vq,h.jf⟩
theorem Gd.j7 (h:Gd B Z F w) (hC:aq [] w w'):Gd B Z F w':=
 ⟨h.nd,h.apart,fun b hb=>Nat.lt_of_lt_of_le (h.qT b hb) hC.size,h.low,h.uU,h.vq,h.jf.trans hC.nil⟩
theorem St.j7 (h:St B Γ w) (hC:aq [] w w'):St B Γ w':=by
 obtain ⟨Z,F,h1,h2⟩:=h
 exact ⟨Z,F,h1.j7 hC,h2.j7 hC⟩
theorem HL.build:∀ {Δ Γ:QE} {Fd F:LN},HL Z w Δ Fd→SA Z w Γ [] F→∃ F',F'.Perm (Fd++F)∧SA Z w (Δ.reverse++Γ) [] F':=by
 intro Δ
 induction Δ with
 | nil=>intro Γ Fd F h hs; cases h; exact ⟨F,.refl _,hs⟩
 | cons e Δ ih=>
  intro Γ Fd F h hs
  rw [List.reverse_cons,List.append_assoc]
  cases h with
  | @own _ f F1 _ h1 h2=>
   obtain ⟨F',a,b⟩:=ih h2 (SA.cons hs h1)
   refine ⟨F',a.trans ?_,b⟩
   rw [List.append_assoc]
   exact List.perm_append_comm_assoc F1 f F
  | fact h1 h2=>exact ih h2 (SA.fact hs h1)
theorem HL.mono (hz:∀ b,Z b→Z' b) {Δ:QE} {F:LN} (h:HL Z w Δ F):HL Z' w Δ F:=by
 induction h with
 | nil=>exact .nil
 | own h _ ih=>exact .own (h.mono hz) ih
 | fact h _ ih=>exact .fact (h.mono hz fun _ h=>h) ih
inductive In (e:ay):List ay→Prop
 | here {Γ:QE}:In e (e :: Γ)
 | there {a:ay} {Γ:QE} (h:In e Γ):In e (a :: Γ)
def CK (n:Nat):ah (List Value) where
 size:=n
 rep _ cs x f:=cs=x∧x.length=n∧(∀ v∈x,v.oneCell'=true)∧f=[]
 len:=by rintro h cs x f ⟨rfl,h1,_⟩; exact h1
 one:=by rintro h cs x f ⟨rfl,_,h2,_⟩; exact h2
 congr:=fun h _=>h
 lt:=by rintro h cs x f ⟨_,_,_,rfl⟩ b hb; cases hb
def gl {α:Type} (S:ah α) (h:Array Obj):List (List Value)→List α→List Nat→Prop
 | [],[],f=>f=[]
 | c :: us,x :: xs,f=>∃ f1 f2,f=f1++f2∧S.rep h c x f1∧gl S h us xs f2
 | _,_,_=>False
theorem Px {α:Type} {S:ah α} {h:Array Obj}:∀ {us:List (List Value)} {xs:List α} {f:LN},gl S h us xs f→us.length=xs.length:=by
 intro us
 induction us with
 | nil=>intro xs f hg; cases xs with
  | nil=>rfl
  | cons=>exact hg.elim
 | cons c us ih=>intro xs f hg; cases xs with
  | nil=>exact hg.elim
  | cons x xs=>obtain ⟨f1,f2,_,_,h2⟩:=hg; simp [ih h2]
theorem Oo {α:Type} {S:ah α} {h:Array Obj}:∀ {us:List (List Value)} {xs:List α} {f:LN},gl S h us xs f→dp S h us.flatten xs f:=by
 intro us
 induction us with
 | nil=>intro xs f hg; cases xs with
  | nil=>exact ⟨rfl,hg⟩
  | cons=>exact hg.elim
 | cons c us ih=>intro xs f hg; cases xs with
  | nil=>exact hg.elim
  | cons x xs=>obtain ⟨f1,f2,rfl,h1,h2⟩:=hg; exact ⟨c,us.flatten,f1,f2,by simp,rfl,h1,ih h2⟩
theorem Kx {α:Type} {S:ah α} {h h':Array Obj}:∀ {us:List (List Value)} {xs:List α} {f:LN},gl S h us xs f→(∀ b∈f,h'[b]? = h[b]?)→gl S h' us xs f:=by
 intro us
 induction us with
 | nil=>intro xs f hg _; cases xs with
  | nil=>exact hg
  | cons=>exact hg.elim
 | cons c us ih=>intro xs f hg hb; cases xs with
  | nil=>exact hg.elim
  | cons x xs=>obtain ⟨f1,f2,rfl,h1,h2⟩:=hg; exact ⟨f1,f2,rfl,S.congr h1 fun b hm=>hb b (List.mem_append_left _ hm),ih h2 fun b hm=>hb b (List.mem_append_right _ hm)⟩
theorem Iu {α:Type} {S:ah α} {h:Array Obj} {x:α}:∀ {us:List (List Value)} {xs:List α} {f:LN} (j:Nat),gl S h us xs f→xs[j]? = some x→∃ c g,us[j]? = some c∧S.rep h c x g∧∀ b∈g,b∈f:=by
 intro us
 induction us with
 | nil=>intro xs f j hg hx; cases xs with
  | nil=>simp at hx
  | cons=>exact hg.elim
 | cons c us ih=>intro xs f j hg hx; cases xs with
  | nil=>exact hg.elim
  | cons y xs=>
   obtain ⟨f1,f2,rfl,h1,h2⟩:=hg
   cases j with
   | zero=>simp at hx; subst hx; exact ⟨c,f1,rfl,h1,fun b hb=>List.mem_append_left _ hb⟩
   | succ j=>obtain ⟨c',g,a1,a2,a3⟩:=ih j h2 (by simpa using hx); exact ⟨c',g,by simpa using a1,a2,fun b hb=>List.mem_append_right _ (a3 b hb)⟩
theorem Kz {n:Nat} {h:Array Obj}:∀ {us:List (List Value)} {cs:LV} {f:LN},dp (CK n) h cs us f→cs=us.flatten∧f=[]:=by
 intro us
 induction us with
 | nil=>rintro cs f ⟨rfl,rfl⟩; exact ⟨rfl,rfl⟩
 | cons c us ih=>
  rintro cs f ⟨c',iw,f1,f2,rfl,rfl,⟨rfl,_,_,rfl⟩,h2⟩
  obtain ⟨rfl,rfl⟩:=ih h2
  exact ⟨by simp,rfl⟩
def sGh {α:Type} (S:ah α):ah (List (List Value)×List α) where
 size:=1
 rep h cs x f:=cs=[.bool true]∧gl S h x.1 x.2 f∧∀ b∈f,b < h.size
 len:=by rintro h cs x f ⟨rfl,_⟩; rfl
 one:=by rintro h cs x f ⟨rfl,_⟩ v hv; simp at hv; subst hv; rfl
 congr:=by
  rintro h h' cs x f ⟨rfl,h1,h2⟩ hb
  refine ⟨rfl,Kx h1 hb,fun b hm=>?_⟩
  have:=hb b hm
  rw [Array.getElem?_eq_getElem (h2 b hm)] at this
  exact (Array.getElem?_eq_some_iff.1 this).1
 lt:=fun h=>h.2.2
theorem In.rd {α:Type} {T:ah α} {v:Value} {x:α} (h:In (.rd false T v x) Γ):∀ {cur F:LN},SA Z w Γ cur F→∀ dh,fact Z w dh (.rd false T v x):=by
 induction h with
 | here=>intro cur F h dh; exact h.1
 | @there a Γ _ ih=>
  intro cur F hS
  cases a with
  | own T v x=>obtain ⟨f,F',h1,h2,h3⟩:=hS; exact ih h3
  | om e E v xs=>obtain ⟨f,F',h1,h2,h3⟩:=hS; exact ih h3
  | row b cs e=>obtain ⟨f,F',h1,h2,h3⟩:=hS; exact ih h3
  | eb e E v xs j u=>obtain ⟨f,F',h1,h2,h3⟩:=hS; exact ih h3
  | _=>exact ih hS.2
theorem In.ad {o1 o2:Bool} {v:Value} {j:Int} {α:Type} {T:ah α} {x:α} (h:In (.ad o1 o2 v j T x) Γ):∀ {cur F:LN},SA Z w Γ cur F→0≤j∧j.toNat < ua v:=by
 induction h with
 | here=>intro cur F h; exact ⟨h.1.1,h.1.2.1⟩
 | @there a Γ _ ih=>
  intro cur F hS
  cases a with
  | own T v x=>obtain ⟨f,F',h1,h2,h3⟩:=hS; exact ih h3
  | om e E v xs=>obtain ⟨f,F',h1,h2,h3⟩:=hS; exact ih h3
  | row b cs e=>obtain ⟨f,F',h1,h2,h3⟩:=hS; exact ih h3
  | eb e E v xs j u=>obtain ⟨f,F',h1,h2,h3⟩:=hS; exact ih h3
  | _=>exact ih hS.2
abbrev uW:ay:=.bb ⟨0,0,none⟩ []
inductive rm where
 | nil | own | om | z | lit | og
 | row (v:Value) (j:Int)
inductive Loc:List ay→Value→rm→Prop
 | og {n:Nat} {e:TI} {v:Value} {us:List (List Value)} {Γ:QE}:Loc (.own (aL e (CK n)) v us :: Γ) v .og
 | own {α:Type} {T:ah α} {v:Value} {x:α} {Γ:QE}:Loc (.own T v x :: Γ) v .own
 | om {α:Type} {t:TI} {E:ah α} {v:Value} {xs:List α} {Γ:QE}:Loc (.om t E v xs :: Γ) v .om
 | hd {v u:Value} {j:Int} {Γ:QE}:Loc (.hd v j u :: Γ) u (.row v j)
 | rd {o:Bool} {α:Type} {T:ah α} {v:Value} {x:α} {Γ:QE}:Loc (.rd o T v x :: Γ) v .z
 | lit {b n c:Nat} {cs:LV} {t:TI} {Γ:QE}:Loc (.row b cs t :: Γ) (.slice (some ⟨b,0,none⟩) n c) .lit
 | nil {Γ:QE}:Loc Γ (.slice none 0 0) .nil
 | there {v:Value} {l:rm} {a:ay} {Γ:QE} (h:Loc Γ v l):Loc (a :: Γ) v l
inductive wC {α:Type} (T:ah α) (x:α) (Γ0:QE):List ay→Value→rm→Prop
 | own {v:Value} {Γ:QE}:wC T x Γ0 (.own T v x :: Γ) v .own
 | there {v:Value} {l:rm} {a:ay} {Γ:QE} (h:wC T x Γ0 Γ v l):wC T x Γ0 (a :: Γ) v l
 | out {v:Value} {l:rm} (h:Loc Γ0 v l):wC T x Γ0 [] v l
theorem wC.Wn {α:Type} {T:ah α} {x:α} {v:Value} {l:rm} {Γ0:QE} (h:wC T x Γ0 Γ v l):Loc Γ v .own∧l = .own∨Loc Γ0 v l:=by
 induction h with
 | own=>exact .inl ⟨.own,rfl⟩
 | there _ ih=>exact ih.imp (fun h=>⟨.there h.1,h.2⟩) id
 | out h=>exact .inr h
theorem wC.loc {α:Type} {T:ah α} {x:α} {v:Value} {l:rm} (h:wC T x Γ Γ v l):Loc Γ v l:=by
 rcases h.Wn with ⟨g,rfl⟩ | g
 ·exact g
 ·exact g
theorem Loc.row {u v:Value} {j:Int} {l:rm} (h:Loc Γ u l):l = .row v j→∀ {cur F:LN},SA Z w Γ cur F→0≤j∧j.toNat < ua v∧w.cell? (fi v 1 j)=some u:=by
 induction h with
 | hd=>intro hl cur F hS; cases hl; exact ⟨hS.1.1,hS.1.2.1,hS.1.2.2.1⟩
 | @there v l a Γ h ih=>
  intro hl cur F hS
  cases a with
  | own T v x=>obtain ⟨f,F',h1,h2,h3⟩:=hS; exact ih hl h3
  | om e E v xs=>obtain ⟨f,F',h1,h2,h3⟩:=hS; exact ih hl h3
  | row b cs e=>obtain ⟨f,F',h1,h2,h3⟩:=hS; exact ih hl h3
  | eb e E v xs j u=>obtain ⟨f,F',h1,h2,h3⟩:=hS; exact ih hl h3
  | _=>exact ih hl hS.2
 | _=>intro hl; cases hl
inductive AR:List ay→{α:Type}→ah α→Value→α→List ay→Prop
 | i {k:IntKind} {a:Int} {Γ:QE}:AR Γ (aK k) (.int k a) a Γ
 | b {a:Bool} {Γ:QE}:AR Γ uT (.bool a) a Γ
 | own {α:Type} {E:ah α} {u:Value} {x:α} {Γ Γ':QE} (h:dy Γ (.own E u x) Γ'):AR Γ E u x Γ'
theorem AR.sound {α:Type} {E:ah α} {u:Value} {x:α} (h:AR Γ E u x Γ'):∀ {F:LN},SA Z w Γ [] F→∃ f F',(f++F').Perm F∧E.rep w.heap [u] x f∧SA Z w Γ' [] F':=by
 induction h with
 | i=>intro F h; exact ⟨[],F,.refl _,⟨rfl,rfl⟩,h⟩
 | b=>intro F h; exact ⟨[],F,.refl _,⟨rfl,rfl⟩,h⟩
 | own h=>intro F hs; obtain ⟨f,F',a,b,c⟩:=h.sound hs; exact ⟨f,F',a,b,c⟩
inductive xn:rm→List ay→ay→List ay→Prop
 | own {α:Type} {T:ah α} {v:Value} {x:α} {Γ Γ':QE} (h:dy Γ (.own T v x) Γ'):xn .own Γ (.own T v x) Γ'
 | nil {α:Type} {T:ah α} {v:Value} {x:α} {Γ Γ':QE} (h:dy Γ (.own T v x) Γ'):xn .nil Γ (.own T v x) Γ'
 | og {α:Type} {T:ah α} {v:Value} {x:α} {Γ Γ':QE} (h:dy Γ (.own T v x) Γ'):xn .og Γ (.own T v x) Γ'
 | om {α:Type} {l:rm} {t:TI} {E:ah α} {v:Value} {xs:List α} {Γ Γ':QE} (h:dy Γ (.om t E v xs) Γ'):xn l Γ (.om t E v xs) Γ'
 | row {β:Type} {e:TI} {E:ah (List β)} {E':ah β} {u v:Value} {j:Int} {z:List β} {xs:List (List β)} {o1 o2:Bool} {Γ Γ' Γx:QE} (h:dy Γ (.own (aL e E) v xs) Γ') (h1:E.size=1) (hr:RT E (bB E')) (hf:qD Γ u o1 o2 E' z uW Γx):xn (.row v j) Γ (.own E u z) (.eb e E v xs j u :: Γ')
 | lit {α:Type} {t:TI} {E:ah α} {b:Nat} {u:Value} {x:α} {Γ Γ1 Γ':QE} (h:dy Γ (.row b [u] t) Γ1) (h1:E.size=1) (he:AR Γ1 E u x Γ'):xn .lit Γ (.own (aL t E) (.slice (some ⟨b,0,none⟩) 1 1) [x]) Γ'
inductive EO:List ay→List ay→List ay→Prop
 | nil {Γ:QE}:EO Γ [] Γ
 | own {l:rm} {α:Type} {T:ah α} {v:Value} {x:α} {Γ Γ1 Γ2 Δ:QE} (hl:wC T x Γ Γ v l) (h:xn l Γ (.own T v x) Γ1) (k:EO Γ1 Δ Γ2):EO Γ (.own T v x :: Δ) Γ2
 | om {l:rm} {α:Type} {t:TI} {E:ah α} {v:Value} {xs:List α} {Γ Γ1 Γ2 Δ:QE} (hl:Loc Γ v l) (h:xn l Γ (.om t E v xs) Γ1) (k:EO Γ1 Δ Γ2):EO Γ (.om t E v xs :: Δ) Γ2
 | eb {α:Type} {e:TI} {E:ah α} {v u:Value} {xs:List α} {j:Int} {Γ Γ1 Γ2 Δ:QE} (h:dy Γ (.eb e E v xs j u) Γ1) (k:EO Γ1 Δ Γ2):EO Γ (.eb e E v xs j u :: Δ) Γ2
 | row {b:Nat} {cs:LV} {t:TI} {Γ Γ1 Γ2 Δ:QE} (h:dy Γ (.row b cs t) Γ1) (k:EO Γ1 Δ Γ2):EO Γ (.row b cs t :: Δ) Γ2
 | rd {o:Bool} {α:Type} {T:ah α} {v:Value} {x:α} {Γ Γ2 Δ:QE} (k:EO Γ Δ Γ2):EO Γ (.rd o T v x :: Δ) Γ2
 | bb {p:Addr} {cs:LV} {Γ Γ2 Δ:QE} (k:EO Γ Δ Γ2):EO Γ (.bb p cs :: Δ) Γ2
inductive rO:List ay→Addr→List Value→Bool→Prop
 | nil {Γ:QE} {p:Addr}:rO Γ p [] false
 | Ir {p:Addr} {cs ds:LV} {Γ:QE} (h:cs.take ds.length=ds):rO (.bb p cs :: Γ) p ds false
 | sub {p:Addr} {j:Nat} {cs ds:LV} {Γ:QE} (h:(cs.drop j).take ds.length=ds):rO (.bb p cs :: Γ) (p.add j) ds false
 | row {b j:Nat} {t:TI} {cs ds:LV} {Γ:QE} (h:(cs.drop j).take ds.length=ds):rO (.row b cs t :: Γ) ⟨b,j,none⟩ ds true
 | Wo {p:Addr} {i j:Nat} {cs ds:LV} {Γ:QE} (h:(cs.drop (i+j)).take ds.length=ds) (hn:Nat.beq (i+j) 0=false):rO (.bb p cs :: Γ) ⟨p.block,p.off+i+j,none⟩ ds false
 | there {p:Addr} {cs:LV} {o:Bool} {e:ay} {Γ:QE} (h:rO Γ p cs o):rO (e :: Γ) p cs o
inductive sP:(V:Type)→V→Prop
 | unit:sP Unit ()
 | val {a:Value}:sP Value a
 | nat {a:Nat}:sP Nat a
 | pv {W:Type} {a:Value} {b:W} (h:sP W b):sP (Value×W) (a,b)
 | pn {W:Type} {a:Nat} {b:W} (h:sP W b):sP (Nat×W) (a,b)
 | us {W:Type} {a:List W}:sP (List W) a
inductive CL (Γ:QE):List ay→Prop
 | nil:CL Γ []
 | rd {α:Type} {E:ah α} {o1 o2:Bool} {v:Value} {x:List α} {Γx Δ:QE} (h:qD Γ v o1 o2 E x uW Γx) (k:CL Γ Δ):CL Γ (.rd false (bB E) v x :: Δ)
inductive FZ (Γ:QE):{α:Type}→ah α→List Value→List α→Prop
 | nil {α:Type} {S:ah α}:FZ Γ S [] []
 | cons {α V:Type} {S:ah α} {cl:α→V→List Value} {en:α→V→List ay} {p:Addr} {x:α} {v:V} {o:Bool} {us:LV} {xs:List α} [hs:SO S V cl en] (hv:sP V v) (hp:rO Γ p (cl x v) o) (hr:CL Γ (en x v)) (k:FZ Γ S us xs):FZ Γ S (.pointer (some p) :: us) (x :: xs)
inductive gj:List Value→List Value→List Value→Prop
 | nil {l:LV}:gj [] l l
 | cons {a:Value} {l k m:LV} (h:gj l k m):gj (a :: l) k (a :: m)
theorem gj.eq {l k m:LV} (h:gj l k m):l++k=m:=by
 induction h with
 | nil=>rfl
 | cons _ ih=>rw [List.cons_append,ih]
inductive F4 (Γ:QE):{α:Type}→ah α→List Value→List α→Prop
 | nil {α:Type} {S:ah α}:F4 Γ S [] []
 | cons {α V:Type} {S:ah α} {cl:α→V→List Value} {en:α→V→List ay} {x:α} {v:V} {us ws:LV} {xs:List α} [hs:SO S V cl en] (hv:sP V v) (hc:gj (cl x v) us ws) (hr:CL Γ (en x v)) (k:F4 Γ S us xs):F4 Γ S ws (x :: xs)
inductive vI (Γ:QE):{α:Type}→ah α→List Value→List α→Prop
 | int {k:IntKind} {a:Int} {us:LV} {xs:List Int} (h:vI Γ (aK k) us xs):vI Γ (aK k) (.int k a :: us) (a :: xs)
 | bool {a:Bool} {us:LV} {xs:List Bool} (h:vI Γ uT us xs):vI Γ uT (.bool a :: us) (a :: xs)
 | lit {α:Type} {E:ah α} {b n:Nat} {vs:LV} {x:List α} {t:TI} {us:LV} {xs:List (List α)} {Γ1:QE} (h:dy Γ (.row b vs t) Γ1) (hn:vs.length=n) (hp:vI Γ E vs x) (k:vI Γ (bB E) us xs):vI Γ (bB E) (.slice (some ⟨b,0,none⟩) n n :: us) (x :: xs)
 | sl {α:Type} {E:ah α} {o1 o2:Bool} {u:Value} {x:List α} {us:LV} {xs:List (List α)} {Γx:QE} (h:qD Γ u o1 o2 E x uW Γx) (k:vI Γ (bB E) us xs):vI Γ (bB E) (u :: us) (x :: xs)
 | nil {α:Type} {E:ah α} (h:E.size=1):vI Γ E [] []
inductive ER:Bool→List ay→List ay→Prop
 | nil {l:Bool} {Γ:QE}:ER l Γ []
 | own {l:Bool} {α:Type} {T:ah α} {v:Value} {x:α} {Γ Δ:QE} (k:ER l Γ Δ):ER l Γ (.own T v x :: Δ)
 | om {l:Bool} {α:Type} {t:TI} {E:ah α} {v:Value} {xs:List α} {Γ Δ:QE} (k:ER l Γ Δ):ER l Γ (.om t E v xs :: Δ)
 | row {l:Bool} {b:Nat} {cs:LV} {t:TI} {Γ Δ:QE} (k:ER l Γ Δ):ER l Γ (.row b cs t :: Δ)
 | eb {l:Bool} {α:Type} {e:TI} {E:ah α} {v u:Value} {xs:List α} {j:Int} {Γ Δ:QE} (k:ER l Γ Δ):ER l Γ (.eb e E v xs j u :: Δ)
 | rp {α:Type} {S:ah α} {b n:Nat} {us:LV} {xs:List α} {t:TI} {Γ Γ1 Δ:QE} (h:dy Γ (.row b us t) Γ1) (hn:us.length=n) (hp:FZ Γ S us xs) (k:ER true Γ Δ):ER true Γ (.rd false (bB (lv S)) (.slice (some ⟨b,0,none⟩) n n) xs :: Δ)
 | rs {α:Type} {S:ah α} {b n:Nat} {us:LV} {xs:List α} {t:TI} {Γ Γ1 Δ:QE} (h:dy Γ (.row b us t) Γ1) (hn:xs.length=n) (hp:F4 Γ S us xs) (k:ER true Γ Δ):ER true Γ (.rd false (bB (sr S)) (.slice (some ⟨b,0,none⟩) n n) xs :: Δ)
 | rr {α:Type} {E:ah α} {b n:Nat} {us:LV} {xs:List α} {t:TI} {Γ Γ1 Δ:QE} (h:dy Γ (.row b us t) Γ1) (hn:us.length=n) (hp:vI Γ E us xs) (k:ER true Γ Δ):ER true Γ (.rd false (bB E) (.slice (some ⟨b,0,none⟩) n n) xs :: Δ)
 | CI {o1 o2:Bool} {α:Type} {E:ah α} {v:Value} {x:List α} {Γ Γx Δ:QE} (h:qD Γ v o1 o2 E x uW Γx) (k:ER true Γ Δ):ER true Γ (.rd false (bB E) v x :: Δ)
 | Is {α:Type} {E:ah α} {v:Value} {x:List α} {Γ Γx Δ:QE} (h:qD Γ v false false E x uW Γx) (k:ER false Γ Δ):ER false Γ (.rd false (bB E) v x :: Δ)
 | att {p:Addr} {cs:LV} {o:Bool} {Γ Δ:QE} (h:rO Γ p cs o) (k:ER true Γ Δ):ER true Γ (.bb p cs :: Δ)
 | atf {p:Addr} {cs:LV} {Γ Δ:QE} (h:rO Γ p cs false) (k:ER false Γ Δ):ER false Γ (.bb p cs :: Δ)
 | mp {l:Bool} {κ υ:Type} {ek:κ→Value} {eu:υ→Value} {v:Value} {x:List (κ×υ)} {Γ Δ:QE} (h:In (.rd false (qU ek eu) v x) Γ) (k:ER l Γ Δ):ER l Γ (.rd false (qU ek eu) v x :: Δ)
inductive HO (Z:Nat→Prop) (w:World):List ay→List Nat→Prop
 | nil:HO Z w [] []
 | own {e:ay} {f F:LN} {Δ:QE} (h:lu Z w f e) (k:HO Z w Δ F):HO Z w (e :: Δ) (f++F)
 | rd {o:Bool} {α:Type} {T:ah α} {v:Value} {x:α} {F:LN} {Δ:QE} (k:HO Z w Δ F):HO Z w (.rd o T v x :: Δ) F
 | bb {p:Addr} {cs:LV} {F:LN} {Δ:QE} (k:HO Z w Δ F):HO Z w (.bb p cs :: Δ) F
theorem xn.sound {l:rm} {v:Value} (h:xn l Γ e Γ') (hl:Loc Γ v l) (hv:∀ {α:Type} {T:ah α} {u:Value} {x:α},e = .own T u x→u=v):∀ {F:LN},SA Z w Γ [] F→∃ f F',(f++F').Perm F∧lu Z w f e∧SA Z w Γ' [] F':=by
 cases h with
 | own h=>intro F hs; exact h.sound hs
 | nil h=>intro F hs; exact h.sound hs
 | og h=>intro F hs; exact h.sound hs
 | om h=>intro F hs; exact h.sound hs
 | @row β e E E' u v' j z xs o1 o2 _ Γ1 Γx h h1 hr hf=>
  intro F hs
  obtain rfl:=hv rfl
  obtain ⟨j0,j1,hu⟩:=Loc.row hl rfl hs
  obtain ⟨f,F1,hp,hO,j5⟩:=h.sound hs
  obtain ⟨dh,_,⟨⟨g,hg,_⟩,_⟩,_⟩:=hf.sound hs
  have hlen:ua v'=xs.length:=by
   obtain ⟨base,cap,hv,_⟩:=id hO
   obtain rfl:v' = .slice base xs.length cap:=by simpa using hv
   rfl
  rw [hlen] at j1
  obtain ⟨k,gg,a1,a2,a3⟩:=FQ h1 hO (List.getElem?_eq_getElem j1) hu
  have hz:xs[j.toNat]=z:=hr.uc (hr.le.le a1) hg
  rw [hz] at a1
  refine ⟨k,gg++F1,?_,a1,?_⟩
  ·rw [← List.append_assoc]; exact (a2.append_right F1).trans hp
  ·exact SA.cons j5 (e:=.eb e E v' xs j u) a3
 | @lit α t E b u x _ Γ1 _ h h1 he=>
  intro F hs
  obtain ⟨f,F1,hp,⟨rfl,br⟩,j5⟩:=h.sound hs
  obtain ⟨k,F2,tD,hk,n5⟩:=he.sound j5
  refine ⟨b :: k,F2,(List.Perm.cons b tD).trans hp,⟨_,1,rfl,.inr ⟨b,_,k,rfl,br,rfl,Nat.le_refl _,by decide,by simp [h1],?_⟩⟩,n5⟩
  simp only [List.length_cons,List.length_nil,h1]
  exact ⟨[u],[],k,[],by simp,by simp,hk,rfl,rfl⟩
theorem EO.sound (h:EO Γ Δ Γ'):∀ {F:LN},SA Z w Γ [] F→∃ Fd F',HO Z w Δ Fd∧SA Z w Γ' [] F'∧(Fd++F').Perm F:=by
 induction h with
 | nil=>intro F h; exact ⟨[],F,.nil,h,.refl _⟩
 | own hl h _ ih=>
  intro F hs
  obtain ⟨f,F1,hp,ho,h1⟩:=h.sound hl.loc (by rintro _ _ _ _ h; cases h; rfl) hs
  obtain ⟨Fd,F',h2,h3,h4⟩:=ih h1
  exact ⟨f++Fd,F',.own ho h2,h3,by rw [List.append_assoc]; exact (h4.append_left f).trans hp⟩
 | om hl h _ ih=>
  intro F hs
  obtain ⟨f,F1,hp,ho,h1⟩:=h.sound hl (by rintro _ _ _ _ h; cases h) hs
  obtain ⟨Fd,F',h2,h3,h4⟩:=ih h1
  exact ⟨f++Fd,F',.own ho h2,h3,by rw [List.append_assoc]; exact (h4.append_left f).trans hp⟩
 | eb h _ ih=>
  intro F hs
  obtain ⟨f,F1,hp,ho,h1⟩:=h.sound hs
  obtain ⟨Fd,F',h2,h3,h4⟩:=ih h1
  exact ⟨f++Fd,F',.own ho h2,h3,by rw [List.append_assoc]; exact (h4.append_left f).trans hp⟩
 | row h _ ih=>
  intro F hs
  obtain ⟨f,F1,hp,ho,h1⟩:=h.sound hs
  obtain ⟨Fd,F',h2,h3,h4⟩:=ih h1
  exact ⟨f++Fd,F',.own ho h2,h3,by rw [List.append_assoc]; exact (h4.append_left f).trans hp⟩
 | rd _ ih=>intro F hs; obtain ⟨Fd,F',h2,h3,h4⟩:=ih hs; exact ⟨Fd,F',.rd h2,h3,h4⟩
 | bb _ ih=>intro F hs; obtain ⟨Fd,F',h2,h3,h4⟩:=ih hs; exact ⟨Fd,F',.bb h2,h3,h4⟩
theorem At.sub {w:World} {p:Addr} {cs ds:LV} {j:Nat} (h:At w p cs) (hd:(cs.drop j).take ds.length=ds):At w (p.add j) ds:=by
 intro i u hi
 have qE:cs[j+i]? = some u:=by
  rw [← hd,List.getElem?_take] at hi
  split at hi
  ·rwa [List.getElem?_drop] at hi
  ·cases hi
 have h2:=h (j+i) u qE
 have e:(p.add j).add i=p.add (j+i):=by
  unfold Addr.add
  by_cases h0:j=0
  ·subst h0; simp
  ·by_cases h1:i=0
   ·subst h1; simp
   ·simp [h0,h1,Nat.add_assoc]
 rw [e]; exact h2
theorem rO.sound {p:Addr} {cs:LV} {o:Bool} (h:rO Γ p cs o):∀ {cur F:LN},SA Z w Γ cur F→At w p cs∧(cs≠[]→(o=false∧Z p.block)∨(o=true∧p.block∈F)):=by
 induction h with
 | nil=>intro cur F _; exact ⟨fun j u hj=>by simp at hj,fun h=>absurd rfl h⟩
 | @Ir p cs ds Γ h=>
  rintro cur F ⟨⟨h1,h2⟩,_⟩
  refine ⟨At.sub (j:=0) h1 (by simpa using h),fun hn=>.inl ⟨rfl,h2 fun hc=>hn (by rw [hc] at h; simpa using h.symm)⟩⟩
 | @sub p j cs ds Γ h=>
  rintro cur F ⟨⟨h1,h2⟩,_⟩
  refine ⟨At.sub h1 h,fun hn=>.inl ⟨rfl,?_⟩⟩
  have:(p.add j).block=p.block:=by unfold Addr.add; split <;> rfl
  rw [this]; exact h2 fun hc=>hn (by rw [hc] at h; simpa using h.symm)
 | @Wo p i j cs ds Γ h hn=>
  rintro cur F ⟨⟨h1,h2⟩,_⟩
  have hz : ¬ i+j=0:=fun h=>by rw [h] at hn; exact absurd hn (by decide)
  have e:p.add (i+j) = ⟨p.block,p.off+i+j,none⟩:=by
   unfold Addr.add
   rw [if_neg hz,Nat.add_assoc]
  have:=At.sub h1 h
  rw [e] at this
  exact ⟨this,fun sQ=>.inl ⟨rfl,h2 fun hc=>sQ (by rw [hc] at h; simpa using h.symm)⟩⟩
 | @row b j t cs ds Γ h=>
  rintro cur F ⟨f,F',h1,⟨h2,h3⟩,_⟩
  refine ⟨?_,fun _=>.inr ⟨rfl,by rw [h1,h2]; simp⟩⟩
  have:=At.sub h3.at h
  rwa [ir,Nat.zero_add] at this
 | @there p cs o e Γ h ih=>
  intro cur F hS
  cases e with
  | own T v x=>obtain ⟨f,F',h1,h2,h3⟩:=hS; obtain ⟨a,b⟩:=ih h3; exact ⟨a,fun hn=>(b hn).imp id fun ⟨x,y⟩=>⟨x,by rw [h1]; exact List.mem_append_right _ y⟩⟩
  | om e E v xs=>obtain ⟨f,F',h1,h2,h3⟩:=hS; obtain ⟨a,b⟩:=ih h3; exact ⟨a,fun hn=>(b hn).imp id fun ⟨x,y⟩=>⟨x,by rw [h1]; exact List.mem_append_right _ y⟩⟩
  | row b cs e=>obtain ⟨f,F',h1,h2,h3⟩:=hS; obtain ⟨a,b⟩:=ih h3; exact ⟨a,fun hn=>(b hn).imp id fun ⟨x,y⟩=>⟨x,by rw [h1]; exact List.mem_append_right _ y⟩⟩
  | eb e E v xs j u=>obtain ⟨f,F',h1,h2,h3⟩:=hS; obtain ⟨a,b⟩:=ih h3; exact ⟨a,fun hn=>(b hn).imp id fun ⟨x,y⟩=>⟨x,by rw [h1]; exact List.mem_append_right _ y⟩⟩
  | _=>exact ih hS.2
theorem CL.sound {Δ:QE} (h:CL Γ Δ) (hZ:∀ b,Z b→Z' b) {F':LN} (hl:∀ b∈F',Z' b) (hs:SA Z w Γ [] F'):∀ e∈Δ,fact Z' w [] e:=by
 induction h with
 | nil=>intro e he; cases he
 | rd h _ ih=>
  intro e he
  rcases List.mem_cons.1 he with rfl | he
  ·obtain ⟨dh,hc,⟨⟨g,h1,h2⟩,_⟩,_⟩:=h.sound hs
   have BG:∀ b∈dh,Z' b:=fun b hb=>hl b ((hc b hb).resolve_left (by simp))
   have key:∀ o b,rM o Z dh b→Z' b:=by
    intro o b hi
    cases o
    ·exact hZ b hi
    ·exact BG b hi
   exact ⟨g,h1,fun b hb=>(h2 b hb).elim (key _ b) (key _ b)⟩
  ·exact ih e he
theorem FZ.sound {α:Type} {S:ah α} {us:LV} {xs:List α} (h:FZ Γ S us xs) (hZ:∀ b,Z b→Z' b) {F':LN} (hl:∀ b∈F',Z' b) (hs:SA Z w Γ [] F'):us.length=xs.length∧∃ g,dp (lv S) w.heap us xs g∧∀ b∈g,Z' b:=by
 induction h with
 | nil=>exact ⟨rfl,[],⟨rfl,rfl⟩,fun b hb=>absurd hb List.not_mem_nil⟩
 | @cons V S cl en p x v o us xs xp _ hp hr _ ih=>
  obtain ⟨e1,g,h1,h2⟩:=ih
  obtain ⟨a1,a2⟩:=hp.sound hs
  obtain ⟨g0,b1,b2⟩:=xp.cl (hr.sound hZ hl hs)
  have mh:=xp.ne x v
  have hpz:Z' p.block:=(a2 mh).elim (fun h=>hZ _ h.2) fun h=>hl _ h.2
  have bo:p.block < w.heap.size:=by
   cases hc:cl x v with
   | nil=>exact absurd hc mh
   | cons u _=>
    have:=F5 (a1 0 u (by rw [hc]; rfl))
    rwa [xO] at this
  refine ⟨by simp [e1],(p.block :: g0)++g,⟨[.pointer (some p)],us,p.block :: g0,g,rfl,rfl,⟨p,_,g0,rfl,bo,fun j u hj=>a1 j u hj,b1,rfl⟩,h1⟩,fun b hb=>?_⟩
  rcases List.mem_append.1 hb with hb | hb
  ·rcases List.mem_cons.1 hb with rfl | hb
   ·exact hpz
   ·exact b2 b hb
  ·exact h2 b hb
theorem F4.sound {α:Type} {S:ah α} {us:LV} {xs:List α} (h:F4 Γ S us xs) (hZ:∀ b,Z b→Z' b) {F':LN} (hl:∀ b∈F',Z' b) (hs:SA Z w Γ [] F'):∃ g,dp S w.heap us xs g∧∀ b∈g,Z' b:=by
 induction h with
 | nil=>exact ⟨[],⟨rfl,rfl⟩,fun b hb=>absurd hb List.not_mem_nil⟩
 | @cons V S cl en x v us ws xs xp _ hc hr _ ih=>
  obtain ⟨g,h1,h2⟩:=ih
  obtain ⟨g0,b1,b2⟩:=xp.cl (hr.sound hZ hl hs)
  exact ⟨g0++g,⟨_,us,g0,g,hc.eq.symm,rfl,b1,h1⟩,fun b hb=>(List.mem_append.1 hb).elim (b2 b) (h2 b)⟩
theorem vI.sound {α:Type} {E:ah α} {us:LV} {xs:List α} (h:vI Γ E us xs) (hZ:∀ b,Z b→Z' b) {F':LN} (hl:∀ b∈F',Z' b) (hs:SA Z w Γ [] F'):E.size=1∧us.length=xs.length∧∃ g,dp E w.heap us xs g∧∀ b∈g,Z' b:=by
 induction h with
 | nil h=>exact ⟨h,rfl,[],⟨rfl,rfl⟩,fun b hb=>absurd hb List.not_mem_nil⟩
 | @int k a us xs _ ih=>
  obtain ⟨e0,e1,g,h1,h2⟩:=ih
  exact ⟨e0,by simp [e1],g,⟨[_],us,[],g,rfl,rfl,⟨rfl,rfl⟩,h1⟩,h2⟩
 | @bool a us xs _ ih=>
  obtain ⟨e0,e1,g,h1,h2⟩:=ih
  exact ⟨e0,by simp [e1],g,⟨[_],us,[],g,rfl,rfl,⟨rfl,rfl⟩,h1⟩,h2⟩
 | @lit α E b n vs x t us xs Γ1 h hn _ _ ihp ih=>
  obtain ⟨e0,e1,g,h1,h2⟩:=ih
  obtain ⟨d0,d1,k,k1,k2⟩:=ihp
  obtain ⟨f,F1,wD,⟨rfl,br⟩,_⟩:=h.sound hs
  have hb:Z' b:=hl b (wD.mem_iff.1 (List.mem_append_left _ (by simp)))
  refine ⟨rfl,by simp [e1],(b :: k)++g,⟨[_],us,b :: k,g,rfl,rfl,⟨_,n,by rw [← hn,d1],.inr ⟨b,0,vs.toArray,t,_,k,rfl,br,rfl,by rw [← hn,d1]; exact Nat.le_refl _,?_⟩⟩,h1⟩,fun i hi=>?_⟩
  ·rw [List.drop_zero,d0,Nat.mul_one,List.toList_toArray,← d1,List.take_length]
   exact k1
  ·rcases List.mem_append.1 hi with hi | hi
   ·rcases List.mem_cons.1 hi with rfl | hi
    ·exact hb
    ·exact k2 i hi
   ·exact h2 i hi
 | @sl α E o1 o2 u x us xs Γx h _ ih=>
  obtain ⟨e0,e1,g,h1,h2⟩:=ih
  obtain ⟨dh,hc,⟨⟨k,a1,a2⟩,_⟩,_⟩:=h.sound hs
  have BG:∀ b∈dh,Z' b:=fun b hb=>hl b ((hc b hb).resolve_left (by simp))
  have key:∀ o b,rM o Z dh b→Z' b:=by
   intro o b hi
   cases o
   ·exact hZ b hi
   ·exact BG b hi
  refine ⟨rfl,by simp [e1],k++g,⟨[u],us,k,g,rfl,rfl,a1,h1⟩,fun b hb=>?_⟩
  exact (List.mem_append.1 hb).elim (fun hb=>(a2 b hb).elim (key _ b) (key _ b)) (h2 b)
theorem ER.sound {l:Bool} (h:ER l Γ Δ) (hZ:∀ b,Z b→Z' b) {F':LN} (hl:l=true→∀ b∈F',Z' b) (hs:SA Z w Γ [] F'):∀ {Fd:LN},HO Z w Δ Fd→HL Z' w Δ Fd:=by
 induction h with
 | mp h _ ih=>
  intro Fd hh
  cases hh with
  | own h k=>exact h.elim
  | rd k=>
   obtain ⟨g,h1,h2⟩:=h.rd hs []
   exact .fact ⟨g,h1,fun b hb=>hZ b (h2 b hb)⟩ (ih hl hs k)
 | nil=>intro Fd h; cases h; exact .nil
 | own _ ih=>intro Fd h; cases h with | own h k=>exact .own (h.mono hZ) (ih hl hs k)
 | om _ ih=>intro Fd h; cases h with | own h k=>exact .own (h.mono hZ) (ih hl hs k)
 | row _ ih=>intro Fd h; cases h with | own h k=>exact .own (h.mono hZ) (ih hl hs k)
 | eb _ ih=>intro Fd h; cases h with | own h k=>exact .own (h.mono hZ) (ih hl hs k)
 | @rp α S b n us xs t Γ Γ1 Δ h hn hp _ ih=>
  intro Fd hh
  cases hh with
  | own h k=>exact h.elim
  | rd k=>
   refine .fact ?_ (ih hl hs k)
   obtain ⟨f,F1,wD,⟨rfl,br⟩,_⟩:=h.sound hs
   obtain ⟨e1,g,h1,h2⟩:=hp.sound hZ (hl rfl) hs
   have hb:Z' b:=hl rfl b (wD.mem_iff.1 (List.mem_append_left _ (by simp)))
   refine ⟨b :: g,⟨_,n,by rw [← hn,e1],.inr ⟨b,0,us.toArray,t,_,g,rfl,br,rfl,by rw [← hn,e1]; exact Nat.le_refl _,?_⟩⟩,fun i hi=>?_⟩
   ·have e2:(lv S).size=1:=rfl
    rw [List.drop_zero,e2,Nat.mul_one,List.toList_toArray,← e1,List.take_length]
    exact h1
   ·rcases List.mem_cons.1 hi with rfl | hi
    ·exact hb
    ·exact h2 i hi
 | @rs α S b n us xs t Γ Γ1 Δ h hn hp _ ih=>
  intro Fd hh
  cases hh with
  | own h k=>exact h.elim
  | rd k=>
   refine .fact ?_ (ih hl hs k)
   obtain ⟨f,F1,wD,⟨rfl,br⟩,_⟩:=h.sound hs
   obtain ⟨g,h1,h2⟩:=hp.sound hZ (hl rfl) hs
   have hb:Z' b:=hl rfl b (wD.mem_iff.1 (List.mem_append_left _ (by simp)))
   refine ⟨b :: g,⟨_,n,by rw [← hn],.inr ⟨b,0,us.toArray,t,_,g,rfl,br,rfl,by rw [← hn]; exact Nat.le_refl _,?_⟩⟩,fun i hi=>?_⟩
   ·have e2:(sr S).size=S.size:=rfl
    rw [List.drop_zero,e2,List.toList_toArray,← jz h1,List.take_length]
    exact vJ Le.str h1
   ·rcases List.mem_cons.1 hi with rfl | hi
    ·exact hb
    ·exact h2 i hi
 | @rr α E b n us xs t Γ Γ1 Δ h hn hp _ ih=>
  intro Fd hh
  cases hh with
  | own h k=>exact h.elim
  | rd k=>
   refine .fact ?_ (ih hl hs k)
   obtain ⟨f,F1,wD,⟨rfl,br⟩,_⟩:=h.sound hs
   obtain ⟨e2,e1,g,h1,h2⟩:=hp.sound hZ (hl rfl) hs
   have hb:Z' b:=hl rfl b (wD.mem_iff.1 (List.mem_append_left _ (by simp)))
   refine ⟨b :: g,⟨_,n,by rw [← hn,e1],.inr ⟨b,0,us.toArray,t,_,g,rfl,br,rfl,by rw [← hn,e1]; exact Nat.le_refl _,?_⟩⟩,fun i hi=>?_⟩
   ·rw [List.drop_zero,e2,Nat.mul_one,List.toList_toArray,← e1,List.take_length]
    exact h1
   ·rcases List.mem_cons.1 hi with rfl | hi
    ·exact hb
    ·exact h2 i hi
 | CI h _ ih=>
  intro Fd hh
  cases hh with
  | own h k=>exact h.elim
  | rd k=>
   refine .fact ?_ (ih hl hs k)
   obtain ⟨dh,hc,⟨⟨g,h1,h2⟩,_⟩,_⟩:=h.sound hs
   have BG:∀ b∈dh,Z' b:=fun b hb=>hl rfl b ((hc b hb).resolve_left (by simp))
   have key:∀ o b,rM o Z dh b→Z' b:=by
    intro o b hi
    cases o
    ·exact hZ b hi
    ·exact BG b hi
   exact ⟨g,h1,fun b hb=>(h2 b hb).elim (key _ b) (key _ b)⟩
 | Is h _ ih=>
  intro Fd hh
  cases hh with
  | own h k=>exact h.elim
  | rd k=>
   refine .fact ?_ (ih hl hs k)
   obtain ⟨dh,hc,⟨⟨g,h1,h2⟩,_⟩,_⟩:=h.sound hs
   exact ⟨g,h1,fun b hb=>(h2 b hb).elim (hZ b) (hZ b)⟩
 | att h _ ih=>
  intro Fd hh
  cases hh with
  | own h k=>exact h.elim
  | bb k=>
   refine .fact ?_ (ih hl hs k)
   obtain ⟨h1,h2⟩:=h.sound hs
   exact ⟨h1,fun hn=>(h2 hn).elim (fun h=>hZ _ h.2) (fun h=>hl rfl _ h.2)⟩
 | atf h _ ih=>
  intro Fd hh
  cases hh with
  | own h k=>exact h.elim
  | bb k=>
   refine .fact ?_ (ih hl hs k)
   obtain ⟨h1,h2⟩:=h.sound hs
   exact ⟨h1,fun hn=>(h2 hn).elim (fun h=>hZ _ h.2) (fun h=>nomatch h.1)⟩
inductive EP:List ay→List ay→Prop
 | nil {Γ:QE}:EP Γ []
 | bb {p:Addr} {cs:LV} {o:Bool} {Γ Δ:QE} (h:rO Γ p cs o) (k:EP Γ Δ):EP Γ (.bb p cs :: Δ)
 | skip {e:ay} {Γ Δ:QE} (k:EP Γ Δ):EP Γ (e :: Δ)
inductive BH:rm→List ay→Value→{α:Type}→ah α→List α→List ay→Prop
 | z {α:Type} {E:ah α} {v:Value} {x:List α} {Γ Γx:QE} (h:qD Γ v false false E x uW Γx):BH .z Γ v E x Γ
 | nil {α:Type} {E:ah α} {Γ:QE}:BH .nil Γ (.slice none 0 0) E [] Γ
 | own {α:Type} {E:ah α} {T:ah (List α)} {v:Value} {x:List α} {Γ Γ':QE} (h:dy Γ (.own T v x) Γ') (hr:RT T (bB E)):BH .own Γ v E x (.rd false (bB E) v x :: Γ')
 | om {α:Type} {t:TI} {E E1:ah α} {v:Value} {x:List α} {Γ Γ':QE} (h:dy Γ (.om t E1 v x) Γ') (hr:RT E1 E):BH .om Γ v E x (.rd false (bB E) v x :: Γ')
 | og {α:Type} {n:Nat} {e:TI} {S:ah α} {v:Value} {us:List (List Value)} {x:List α} {Γ Γ':QE} (h:dy Γ (.own (aL e (CK n)) v us) Γ') (hg:In (.rd false (sGh S) (.bool true) (us,x)) Γ) (hn:S.size=n):BH .og Γ v (sr S) x (.rd false (bB (sr S)) v x :: Γ')
inductive EF:List ay→List ay→List ay→Prop
 | nil {Γ:QE}:EF Γ [] Γ
 | own {l:rm} {α:Type} {T:ah α} {v:Value} {x:α} {Γ Γ1 Γ2 Δ:QE} (hl:Loc Γ v l) (h:xn l Γ (.own T v x) Γ1) (k:EF Γ1 Δ Γ2):EF Γ (.own T v x :: Δ) Γ2
 | om {l:rm} {α:Type} {t:TI} {E:ah α} {v:Value} {xs:List α} {Γ Γ1 Γ2 Δ:QE} (hl:Loc Γ v l) (h:xn l Γ (.om t E v xs) Γ1) (k:EF Γ1 Δ Γ2):EF Γ (.om t E v xs :: Δ) Γ2
 | row {b:Nat} {cs:LV} {t:TI} {Γ Γ1 Γ2 Δ:QE} (h:dy Γ (.row b cs t) Γ1) (k:EF Γ1 Δ Γ2):EF Γ (.row b cs t :: Δ) Γ2
 | rd {l:rm} {α:Type} {E:ah α} {v:Value} {x:List α} {Γ Γ1 Γ2 Δ:QE} (hl:Loc Γ v l) (h:BH l Γ v E x Γ1) (k:EF Γ1 Δ Γ2):EF Γ (.rd false (bB E) v x :: Δ) Γ2
 | bb {p:Addr} {cs:LV} {Γ Γ2 Δ:QE} (h:rO Γ p cs false) (k:EF Γ Δ Γ2):EF Γ (.bb p cs :: Δ) Γ2
 | mp {κ υ:Type} {ek:κ→Value} {eu:υ→Value} {v:Value} {x:List (κ×υ)} {Γ Γ2 Δ:QE} (h:In (.rd false (qU ek eu) v x) Γ) (k:EF Γ Δ Γ2):EF Γ (.rd false (qU ek eu) v x :: Δ) Γ2
def rP (Z:Nat→Prop) (f:LN):Nat→Prop:=fun b=>Z b∨b∈f
theorem SA.left (h:SA Z w Γ [] F):SA (rP Z f) w Γ [] F:=h.mono (fun _ h=>.inl h) fun _ h=>h
theorem F6 {f g:LN} (b:Nat):rP (rP Z f) g b↔rP Z (f++g) b:=by
 unfold rP; rw [List.mem_append,or_assoc]
theorem BH.sound {l:rm} {α:Type} {E:ah α} {v:Value} {x:List α} (h:BH l Γ v E x Γ'):∀ {F:LN},SA Z w Γ [] F→∃ f F',(f++F').Perm F∧fact (rP Z f) w [] (.rd false (bB E) v x)∧SA (rP Z f) w Γ' [] F':=by
 cases h with
 | z h=>
  intro F hs
  obtain ⟨dh,_,⟨⟨g,h1,h2⟩,_⟩,_⟩:=h.sound hs
  exact ⟨[],F,.refl _,⟨g,h1,fun b hb=>.inl ((h2 b hb).elim id id)⟩,hs.left⟩
 | nil=>intro F hs; exact ⟨[],F,.refl _,⟨[],FY,fun _ h=>absurd h List.not_mem_nil⟩,hs.left⟩
 | own h hr=>
  intro F hs
  obtain ⟨f,F1,hp,ho,h1⟩:=h.sound hs
  have hf:fact (rP Z f) w [] (.rd false (bB E) v x):=⟨f,hr.le.le ho,fun b hb=>.inr hb⟩
  exact ⟨f,F1,hp,hf,SA.fact h1.left hf⟩
 | om h hr=>
  intro F hs
  obtain ⟨f,F1,hp,ho,h1⟩:=h.sound hs
  obtain ⟨⟨g,hg,hb⟩,_⟩:=(G5 ho).le hr.le
  have hf:fact (rP Z f) w [] (.rd false (bB E) v x):=⟨g,hg,fun b hm=>(hb b hm).elim .inr .inl⟩
  exact ⟨f,F1,hp,hf,SA.fact h1.left hf⟩
 | @og _ n e S _ us _ _ Γ' h hg hn=>
  intro F hs
  obtain ⟨f,F1,hp,ho,h1⟩:=h.sound hs
  obtain ⟨g,Iv,qF⟩:=hg.rd hs []
  have Nb:∀ b∈g,Z b:=qF
  have hf:fact (rP Z f) w [] (.rd false (bB (sr S)) v x):=by
   obtain ⟨_,Vj,_⟩:=Iv
   obtain ⟨base,cap,hv,hr⟩:=ho
   have hlen:=Px Vj
   rcases hr with ⟨rfl,rfl,e1,rfl⟩ | ⟨b,cur,f',rfl,h2,rfl,h4,h5,h6,h3⟩
   ·have e2:us=[]:=e1
    have ex:x=[]:=List.eq_nil_of_length_eq_zero (by rw [← hlen]; simp [e2])
    subst ex
    exact ⟨[],⟨none,0,by simpa [e2] using hv,.inl ⟨rfl,rfl⟩⟩,fun _ h=>absurd h List.not_mem_nil⟩
   ·refine ⟨b :: g,⟨_,cap,by rw [← hlen]; exact hv,.inr ⟨b,0,cur,e,(0,0),g,rfl,h2,rfl,by rw [← hlen]; exact h4,?_⟩⟩,fun i hi=>?_⟩
    ·have hrl:=vJ (Le.str (S:=S)) (Oo Vj)
     have hc:cur.toList.take (us.length * (CK n).size)=us.flatten:=(Kz h3).1
     have jk:(sr S).size=n:=hn
     rw [List.drop_zero,jk,← hlen]
     show dp (sr S) w.heap (cur.toList.take (us.length * (CK n).size)) x g
     rw [hc]
     exact hrl
    ·rcases List.mem_cons.1 hi with rfl | hi
     ·exact .inr (by simp)
     ·exact .inl (Nb i hi)
  exact ⟨f,F1,hp,hf,SA.fact h1.left hf⟩
theorem EF.sound (h:EF Γ Δ Γ'):∀ {Z:Nat→Prop} {F:LN},SA Z w Γ [] F→∃ Fd F' Zn,HL (rP Z Zn) w Δ Fd∧SA (rP Z Zn) w Γ' [] F'∧(Fd++F'++Zn).Perm F:=by
 induction h with
 | nil=>intro Z F h; exact ⟨[],F,[],.nil,h.left,by simp⟩
 | own hl h _ ih=>
  intro Z F hs
  obtain ⟨f,F1,hp,ho,h1⟩:=h.sound hl (by rintro _ _ _ _ h; cases h; rfl) hs
  obtain ⟨Fd,F',Zn,h2,h3,h4⟩:=ih h1
  exact ⟨f++Fd,F',Zn,.own (ho.mono fun _ h=>.inl h) h2,h3,by simp only [List.append_assoc] at h4 ⊢; exact (h4.append_left f).trans hp⟩
 | om hl h _ ih=>
  intro Z F hs
  obtain ⟨f,F1,hp,ho,h1⟩:=h.sound hl (by rintro _ _ _ _ h; cases h) hs
  obtain ⟨Fd,F',Zn,h2,h3,h4⟩:=ih h1
  exact ⟨f++Fd,F',Zn,.own (ho.mono fun _ h=>.inl h) h2,h3,by simp only [List.append_assoc] at h4 ⊢; exact (h4.append_left f).trans hp⟩
 | row h _ ih=>
  intro Z F hs
  obtain ⟨f,F1,hp,ho,h1⟩:=h.sound hs
  obtain ⟨Fd,F',Zn,h2,h3,h4⟩:=ih h1
  exact ⟨f++Fd,F',Zn,.own (ho.mono fun _ h=>.inl h) h2,h3,by simp only [List.append_assoc] at h4 ⊢; exact (h4.append_left f).trans hp⟩
 | rd hl h _ ih=>
  intro Z F hs
  obtain ⟨f,F1,hp,ho,h1⟩:=h.sound hs
  obtain ⟨Fd,F',Zn,h2,h3,h4⟩:=ih h1
  refine ⟨Fd,F',f++Zn,.fact (ho.mono (fun b hb=>hb.elim .inl fun h=>.inr (List.mem_append_left _ h)) fun _ h=>h) (h2.mono fun b=>(F6 b).1),h3.mono (fun b=>(F6 b).1) fun _ h=>h,?_⟩
  refine .trans ?_ ((h4.append_left f).trans hp)
  rw [← List.append_assoc,← List.append_assoc]
  exact (List.perm_append_comm (l₁:=Fd++F') (l₂:=f)).append_right Zn
 | bb h _ ih=>
  intro Z F hs
  obtain ⟨Fd,F',Zn,h2,h3,h4⟩:=ih hs
  obtain ⟨a,b⟩:=h.sound hs
  exact ⟨Fd,F',Zn,.fact ⟨a,fun hn=>.inl ((b hn).elim (fun h=>h.2) fun h=>nomatch h.1)⟩ h2,h3,h4⟩
 | mp h _ ih=>
  intro Z F hs
  obtain ⟨Fd,F',Zn,h2,h3,h4⟩:=ih hs
  obtain ⟨g,hk,hz⟩:=h.rd hs []
  exact ⟨Fd,F',Zn,.fact ⟨g,hk,fun b hb=>.inl (hz b hb)⟩ h2,h3,h4⟩
theorem Gd.freeze {Zn:LN} (h:Gd B Z (F++Zn) w) (bo:∀ b∈Zn,b < w.heap.size):Gd B (rP Z Zn) F w:=by
 have ey:=List.nodup_append.1 h.nd
 refine ⟨ey.1,?_,?_,fun b hb=>h.low b (List.mem_append_left _ hb),fun b hb=>.inl (h.uU b hb),?_,h.jf⟩
 ·rintro b hb (hz | hz)
  ·exact h.apart b (List.mem_append_left _ hb) hz
  ·exact ey.2.2 b hb b hz rfl
 ·rintro b (hz | hz)
  ·exact h.qT b hz
  ·exact bo b hz
 ·rintro b (hz | hz)
  ·exact h.vq b hz
  ·exact .inr (h.low b (List.mem_append_right _ hz))
end
end Go.Dk
namespace Go.Dk
open Go Go.Li
structure Cx (R:Type) where
 n:Nat
 fn:Func
 V:Type
 ret:R→V→List Value
 post:R→V→List ay
inductive KI where
 | seq (c:Code)
 | xR (k:Nat)
inductive Kb (R:Type):Type→Type 1
 | top {S:Type}:Kb R S
 | KA:Kb R R
 | loop {S:Type} (V:Type) (k:Nat) (Δ:S→V→List ay) (φ:S→V→Fr) (Γ2:QE) (f2:Fr):Kb R S
 | lx {S:Type} (V:Type) (k j:Nat) (Δ:S→V→List ay) (φ:S→V→Fr) (Γ2:QE) (f2:Fr):Kb R S
structure cq (R S:Type) where
 ez:List KI
 b:Kb R S
inductive RK (R:Type):Type→Type 1
 | n {S:Type} (K:cq R S):RK R (Out S R)
 | g (t:Nat) (f0:Fr):RK R Bool
 | s {S:Type} (K:cq R S):RK R (Out S R)
 | h {S:Type} (all tail:LO) (K:cq R S):RK R (Out S R)
inductive Jd (R:Type):Type 1
 | p (φ:Fr) (Δ:QE) (fr:Fr) (Γ:QE) (k:Fr→List ay→Jd R)
 | cs {β:Type} (y:β) (k:β→Jd R)
 | tp (vs:LV) (d:Nat) (fr:Fr) (k:Fr→Jd R)
 | c {S:Type} (K:cq R S) (c:Code) (Γ:QE) (fr:Fr) (m:Option (Out S R))
 | cd {S:Type} (b:Bool) (K:cq R S) (x y:Code) (Γ:QE) (fr:Fr) (m:Option (Out S R))
 | n {S:Type} (K:cq R S) (Γ:QE) (fr:Fr) (m:Option (Out S R))
 | x {S:Type} (k:Nat) (K:cq R S) (Γ:QE) (fr:Fr) (m:Option (Out S R))
 | xb {S:Type} (e:Bool) (k:Nat) (K:cq R S) (Γ:QE) (fr:Fr) (m:Option (Out S R))
 | bk {S:Type} (e:Bool) (k:Nat) (K:cq R S) (c:Code) (Γ:QE) (fr:Fr) (m:Option (Out S R))
 | dr {S:Type} (id:Nat) (ops:LO) (K:cq R S) (Γ:QE) (fr:Fr) (m:Option (Out S R))
 | rg {S:Type} (e:Bool) (draw:Bool) (ops:LO) (K:cq R S) (Γ:QE) (fr:Fr) (m:Option (Out S R))
 | rw {S:Type} (st:Bool) (ops:LO) (K:cq R S) (Γ:QE) (fr:Fr) (m:Option (Out S R))
 | o {M:Type} (q:Bool) (all ops:LO) (rk:RK R M) (Γ:QE) (fr:Fr) (m:Option M)
 | e {M:Type} (q:Bool) (op:Op) (d:Option Nat) (ty:TI) (all ops:LO) (rk:RK R M) (Γ:QE) (fr:Fr) (m:Option M)
 | gd {M:Type} (v:Value) (tt:Bool) (j t:Nat) (q:Bool) (op:Op) (d:Option Nat) (ty:TI) (all ops:LO) (rk:RK R M) (Γ:QE) (fr:Fr) (m:Option M)
 | mo {M:Type} (all ops:LO) (rk:RK R M) (Γ:QE) (fr:Fr) (m:Option M)
 | mn {S:Type} (K:cq R S) (Γ:QE) (fr:Fr) (m:Option (Out S R))
 | tg {S:Type} (q g:Bool) (all tail:LO) (K:cq R S) (Γ:QE) (fr:Fr) (m:Option (Out S R))
 | sl {M:Type} (l:rm) (v:Value) (j:Int) (u:Value) (t:TI) (x y:OO) (ty:TI) (all ops:LO) (rk:RK R M) (Γ:QE) (fr:Fr) (m:Option M)
 | cz {M β V:Type} (o:Bool) (f:FuncId) (vs:LV) (op:Op) (d:Nat) (ty:TI) (Δ:QE) (mo:Option β) (rt:β→V→List Value) (ps:β→V→List ay) (all ops:LO) (rk:RK R M) (Γ:QE) (fr:Fr) (g:β→Option M)
 | fa (f:FuncId) (j:Jd R)
 | ia (t a:TI) (j:Jd R)
 | im (t:TI) (name:String) (j:FuncId→Jd R)
 | cv {M:Type} (f:FuncId) (vs:LV) (q:Bool) (op:Op) (d:Nat) (ty:TI) (all ops:LO) (rk:RK R M) (Γ:QE) (fr:Fr) (m:Option M)
 | la {M:Type} (a:Addr) (lk:Option Nat) (q:Bool) (ty:TI) (x:OO) (d:Nat) (all ops:LO) (rk:RK R M) (Γ:QE) (fr:Fr) (m:Option M)
 | ld {M α:Type} (E:ah α) (z:α) (a:Addr) (q:Bool) (ty:TI) (x:OO) (d:Nat) (all ops:LO) (rk:RK R M) (Γ:QE) (fr:Fr) (m:Option M)
 | ax {M α:Type} (E:ah α) (e t:TI) (bt:Nat) (xv sv:Value) (s x:OO) (d:Nat) (ty:TI) (all ops:LO) (rk:RK R M) (Γ:QE) (fr:Fr) (m:Option M)
 | ap {M α:Type} (E:ah α) (e t:TI) (bt:Nat) (u:Value) (b:Nat) (sv:Value) (s x:OO) (d:Nat) (ty:TI) (all ops:LO) (rk:RK R M) (Γ:QE) (fr:Fr) (m:Option M)
 | Py {M α:Type} (k:Bool) (e':TI) (E:ah α) (e t:TI) (bt:Nat) (u:Value) (b:Nat) (sv:Value) (s x:OO) (d:Nat) (ty:TI) (all ops:LO) (rk:RK R M) (Γ:QE) (fr:Fr) (m:Option M)
 | st {M:Type} (a:Addr) (u:Value) (n:Nat) (t:TI) (x y:OO) (ty:TI) (all ops:LO) (rk:RK R M) (Γ:QE) (fr:Fr) (m:Option M)
def KB (P:Program) (t:TI) {α:Type} (e:TI) (E:ah α) (bt:Nat):Prop:=
 P.underlying t=some (.slice e)∧E.size=1∧∃ i z,P.info? e=some i∧i.zero=some z∧i.size=1∧z.oneCell'=true∧i.bytes=bt
section
variable {R:Type} (P:Program) (cx:Cx R) (B:Bs)
def Rr:R→Ending→World→Prop:=fun y e w=>∃ u:cx.V,e = .returned (rN (cx.ret y u))∧It B (cx.post y u) w
def TT:R→(Nat→Value)→World→Prop:=Tm P cx.fn cx.n (Rr cx B)
def LI {S V:Type} (Δ:S→V→List ay) (φ:S→V→Fr) (Γ2:QE) (f2:Fr):S→(Nat→Value)→World→Prop:=
 fun s r w=>∃ v:V,cn r ((φ s v).reverse++f2)∧St B ((Δ s v).reverse++Γ2) w
def Cv {S:Type} (b:Kb R S) (o:Out S R):Exit→(Nat→Value)→World→Prop:=
 match S,b,o with
 | _,.top,o=>mq (fun _ _ _=>False) (fun _ _ _ _=>False) (TT P cx B) o
 | _,.KA,o=>mq (TT P cx B) (fun _ _ _ _=>False) (TT P cx B) o
 | _,.loop _ k Δ φ Γ2 f2,o=>mq (LI B Δ φ Γ2 f2) (fun j s r w=>bif Nat.beq j k then LI B Δ φ Γ2 f2 s r w else False) (TT P cx B) o
 | _,.lx _ k j Δ φ Γ2 f2,o=>mq (LI B Δ φ Γ2 f2) (fun i s r w=>bif Nat.beq i k then LI B Δ φ Γ2 f2 s r w else bif Nat.beq i j then LI B Δ φ Γ2 f2 s r w else False) (TT P cx B) o
def wE (n:Nat) (Q:Exit→(Nat→Value)→World→Prop):List KI→Exit→(Nat→Value)→World→Prop
 | []=>Q
 | .seq c :: ez=>andThen (W P n c (wE n Q ez)) (wE n Q ez)
 | .xR k :: ez=>Cw k (wE n Q ez)
def iT {S:Type} (K:cq R S) (o:Out S R):Exit→(Nat→Value)→World→Prop:=wE P cx.n (Cv P cx B K.b o) K.ez
def yC {M:Type} (rk:RK R M) (o:M) (r:NV) (w:World):Prop:=
 match M,rk,o with
 | _,.n K,o=>iT P cx B K o .normal r w
 | _,.g t f0,o=>r t = .bool o∧cn r f0
 | _,.s K,o=>iT P cx B K o .normal r w
 | _,.h all tail K,o=>WL P all tail r w (iT P cx B K o .normal)
def run {M:Type} (q:Bool) (all l:LO) (rk:RK R M) (o:M) (r:NV) (w:World):Prop:=
 match q with
 | false=>WL P all l r w (yC P cx B rk o)
 | true=>QL P (aq [] w) all l r fun r'=>∀ w',aq [] w w'→yC P cx B rk o r' w'
def qe {M:Type} (q:Bool) (oo:Oper) (all l:LO) (rk:RK R M) (o:M) (r:NV) (w:World):Prop:=
 match q with
 | false=>eg P oo r w fun v w'=>WL P all l (er r oo.dst v) w' (yC P cx B rk o)
 | true=>∃ v,Vk P (aq [] w) oo r v∧QL P (aq [] w) all l (er r oo.dst v) fun r'=>∀ w',aq [] w w'→yC P cx B rk o r' w'
end
section
variable {R:Type} (P:Program) (cx:Cx R)
def lz:Jd R→Prop
 | .p φ Δ fr Γ k=>lz (k (φ.reverse++fr) (Δ.reverse++Γ))
 | .cs y k=>lz (k y)
 | .tp vs d fr k=>lz (k ((d,rN vs) :: fr))
 | .c K c Γ fr m=>∀ B o,m=some o→∀ r w,cn r fr→St B Γ w→W P cx.n c (iT P cx B K o) r w
 | .bk _ k K c Γ fr m=>∀ B o,m=some o→∀ r w,cn r fr→St B Γ w→W P cx.n (.block k c) (iT P cx B K o) r w
 | .dr id ops K Γ fr m=>∀ B o,m=some o→∀ r w,cn r fr→St B Γ w→W P cx.n (.region id ops.toArray true) (iT P cx B K o) r w
 | .cd b K x y Γ fr m=>∀ B o,m=some o→∀ r w,cn r fr→St B Γ w→(b=true→W P cx.n x (iT P cx B K o) r w)∧(b=false→W P cx.n y (iT P cx B K o) r w)
 | .n K Γ fr m=>∀ B o,m=some o→∀ r w,cn r fr→St B Γ w→iT P cx B K o .normal r w
 | .x k K Γ fr m=>∀ B o,m=some o→∀ r w,cn r fr→St B Γ w→iT P cx B K o (.exit k) r w
 | .xb e k K Γ fr m=>∀ B o,m=some o→∀ r w,cn r fr→St B Γ w→iT P cx B K o (bif e then .normal else .exit k) r w
 | .rg _ draw ops K Γ fr m=>cu cx.n ops=true→(draw=true→P.follows .mixedOrders=true∧Region.lexB .any ops.toArray=true)→∀ B o,m=some o→∀ r w,cn r fr→St B Γ w→∀ id,W P cx.n (.region id ops.toArray draw) (iT P cx B K o) r w
 | .rw _ ops K Γ fr m=>cu cx.n ops=true→∀ B o,m=some o→∀ r w,cn r fr→St B Γ w→∀ id,W P cx.n (.region id ops.toArray false) (iT P cx B K o) r w
 | .o q all ops rk Γ fr m=>∀ B o,m=some o→∀ r w,cn r fr→St B Γ w→run P cx B q all ops rk o r w
 | .e q op d ty all ops rk Γ fr m=>∀ B o,m=some o→∀ r w,cn r fr→St B Γ w→∀ pos af g,qe P cx B q ⟨d,op,ty,pos,af,g⟩ all ops rk o r w
 | .gd v tt j t q op d ty all ops rk Γ fr m=>bh all j=some t→look fr t=some v→∀ B o,m=some o→∀ r w,cn r fr→St B Γ w→∀ pos af,run P cx B q all (⟨d,op,ty,pos,af,some (j,tt)⟩ :: ops) rk o r w
 | .mo all ops rk Γ fr m=>∀ B o,m=some o→∀ r w,cn r fr→St B Γ w→run P cx B false all ops rk o r w
 | .tg q _ all tail K Γ fr m=>∀ B o,m=some o→∀ r w,cn r fr→St B Γ w→run P cx B q all tail (.n K) o r w
 | .mn K Γ fr m=>∀ B o,m=some o→∀ r w,cn r fr→St B Γ w→iT P cx B K o .normal r w
 | .sl l v j u t x y ty all ops rk Γ fr m=>(∃ i,P.info? t=some i∧i.size=1)→bz fr x=some (.pointer (some (fi v 1 j)))→bz fr y=some u→Loc Γ v l→∀ B o,m=some o→∀ r w,cn r fr→St B Γ w→∀ pos af g,qe P cx B false ⟨none,.store t x y,ty,pos,af,g⟩ all ops rk o r w
 | .cz ow f vs op d ty Δ mo rt ps all ops rk Γ fr g=>Ct P f ow mo vs Δ rt ps→∀ B o,(mo>>=g)=some o→∀ r w,cn r fr→St B Γ w→∀ pos af gg,(∀ w',(execOp (ev r) ⟨some d,op,ty,pos,af,gg⟩).run P w' = .ok (.enter f vs.toArray) w')→qe P cx B false ⟨some d,op,ty,pos,af,gg⟩ all ops rk o r w
 | .fa f j=>Wp P f∧lz j
 | .ia t a j=>IA P t a∧lz j
 | .im t name j=>∃ f,IM P t name f∧lz (j f)
 | .cv f vs q op d ty all ops rk Γ fr m=>∀ B o,m=some o→∀ r w,cn r fr→St B Γ w→∀ pos af g,(∀ w',(execOp (ev r) ⟨some d,op,ty,pos,af,g⟩).run P w' = .ok (.enter f vs.toArray) w')→qe P cx B q ⟨some d,op,ty,pos,af,g⟩ all ops rk o r w
 | .la a lk q ty x d all ops rk Γ fr m=>(match lk with | none=>NA P ty | some n=>AG P ty n)→bz fr x=some (.pointer (some a))→∀ B o,m=some o→∀ r w,cn r fr→St B Γ w→∀ t pos af g,qe P cx B q ⟨some d,.load ty x,t,pos,af,g⟩ all ops rk o r w
 | .ld E z a q ty x d all ops rk Γ fr m=>NA P ty→bz fr x=some (.pointer (some a))→∀ B o,m=some o→∀ r w,cn r fr→St B Γ w→(∃ u g,w.cell? a=some u∧E.rep w.heap [u] z g)→∀ t pos af g,qe P cx B q ⟨some d,.load ty x,t,pos,af,g⟩ all ops rk o r w
 | .ax E e t bt xv sv s x d ty all ops rk Γ fr m=>KB P t e E bt→bz fr s=some sv→bz fr x=some xv→∀ B o,m=some o→∀ r w,cn r fr→St B Γ w→∀ pos af g,qe P cx B false ⟨some d,.call ⟨.builtin .append,#[s,x],#[t,t]⟩,ty,pos,af,g⟩ all ops rk o r w
 | .ap E e t bt _ b sv s x d ty all ops rk Γ fr m=>KB P t e E bt→bz fr s=some sv→bz fr x=some (.slice (some ⟨b,0,none⟩) 1 1)→∀ B o,m=some o→∀ r w,cn r fr→St B Γ w→∀ pos af g,qe P cx B false ⟨some d,.call ⟨.builtin .append,#[s,x],#[t,t]⟩,ty,pos,af,g⟩ all ops rk o r w
 | .Py _ e' E e t bt _ b sv s x d ty all ops rk Γ fr m=>KB P t e (aL e' E) bt→bz fr s=some sv→bz fr x=some (.slice (some ⟨b,0,none⟩) 1 1)→∀ B o,m=some o→∀ r w,cn r fr→St B Γ w→∀ pos af g,qe P cx B false ⟨some d,.call ⟨.builtin .append,#[s,x],#[t,t]⟩,ty,pos,af,g⟩ all ops rk o r w
 | .st a u n t x y ty all ops rk Γ fr m=>(∃ i,P.info? t=some i∧i.size=n)→bz fr x=some (.pointer (some a))→bz fr y=some u→∀ B o,m=some o→∀ r w,cn r fr→St B Γ w→∀ pos af g,qe P cx B false ⟨none,.store t x y,ty,pos,af,g⟩ all ops rk o r w
end
section
variable {R:Type} {P:Program} {cx:Cx R} {B:Bs} {S:Type}
theorem Iw {n:Nat} {Q:Exit→(Nat→Value)→World→Prop} {r:NV} {w:World} (h:Q .ret r w):∀ ez,wE P n Q ez .ret r w:=by
 intro ez
 induction ez with
 | nil=>exact h
 | cons a ez ih=>cases a <;> exact ih
theorem Iy {b:Kb R S} {y:R} {r:NV} {w:World} (h:TT P cx B y r w):Cv P cx B b (.ret y) .ret r w:=by
 cases b <;> exact h
theorem sR {K:cq R S} {y:R} {r:NV} {w:World} (h:TT P cx B y r w):iT P cx B K (.ret y) .ret r w:=Iw (Iy h) _
theorem dv {M:Type} {q:Bool} {all l:LO} {rk:RK R M} {o:M} {r:NV} {w:World} {d:Option Nat} {op:Op} {ty:TI} {pos:String} {af:Array Edge} {g:Option (Nat×Bool)} {v:Value}
  (h:Rd P w r ⟨d,op,ty,pos,af,g⟩ v) (k:run P cx B q all l rk o (er r d v) w):qe P cx B q ⟨d,op,ty,pos,af,g⟩ all l rk o r w:=by
 cases q with
 | false=>unfold qe eg; rw [h w (aq.refl _ _)]; exact k
 | true=>exact ⟨v,fun w' hC=>by unfold Oper.quietUpon; rw [h w' hC]; exact ⟨rfl,rfl⟩,k⟩
theorem zo {M:Type} {q:Bool} {all l:LO} {rk:RK R M} {o:M} {r:NV} {w:World} {oo:Oper}
  (hw:Region.wanted oo (yl all r)=true) (k:qe P cx B q oo all l rk o r w):run P cx B q all (oo :: l) rk o r w:=by
 cases q with
 | false=>exact .inl ⟨hw,k⟩
 | true=>obtain ⟨v,h1,h2⟩:=k; exact .inl ⟨hw,v,h1,h2⟩
theorem CM {M:Type} {q:Bool} {all l:LO} {rk:RK R M} {o:M} {r:NV} {w:World} {oo:Oper}
  (hw:Region.wanted oo (yl all r)=false) (k:run P cx B q all l rk o (er r oo.dst undef) w):run P cx B q all (oo :: l) rk o r w:=by
 cases q with
 | false=>exact .inr ⟨hw,k⟩
 | true=>exact .inr ⟨hw,k⟩
theorem qV {oo:Oper} {y:Nat→Option Bool} (h:oo.guard=none):Region.wanted oo y=true:=by unfold Region.wanted; rw [h]
theorem G7 {all:LO} {j t:Nat} {r:NV} (h:bh all j=some t):yl all r j=match r t with | .bool b=>some b | _=>none:=by
 unfold yl
 unfold bh at h
 rw [h]
 show (match r t with | .bool b=>some b | _=>none)=_
 cases r t <;> rfl
theorem uX {all:LO} {j t:Nat} {r:NV} {oo:Oper} {b tt:Bool} (hg:oo.guard=some (j,tt)) (h:bh all j=some t) (hr:r t = .bool b):Region.wanted oo (yl all r)=(b == tt):=
 xS hg (by rw [G7 h,hr])
end
end Go.Dk
namespace Go.Dk
open Go Go.Li
class Nc (P:Program) (t:TI):Prop where
 h:P.underlying t=some (.pointer (P.pointee t))
class Pz (P:Program) (t:TI):Prop where
 h:P.underlying t=some .bool
class Nd (P:Program) (t:TI) (k0 k1:outParam IntKind):Prop where
 h : ∃ f0 f1, P.underlying t = some (.struct #[f0, f1]) ∧ f0.name ≠ "_" ∧ f1.name ≠ "_" ∧ P.underlying f0.type = some (.int k0) ∧ P.underlying f1.type = some (.int k1) ∧ f0.offset = 0 ∧ f1.offset = 1 ∧ P.stoodInHeld t = false ∧ P.eqGuardType P.depth t = false
inductive F7 (P:Program):TypeId→Value→Value→Bool→Prop
 | int {t:TI} {k:IntKind} {a b:Int}:F7 P t (.int k a) (.int k b) (a == b)
 | bool {t:TI} {a b:Bool} [h:Pz P t]:F7 P t (.bool a) (.bool b) (a == b)
 | KC {t:TI} {a:Addr} [h:Nc P t]:F7 P t (.pointer (some a)) (.pointer none) false
 | KD {t:TI} [h:Nc P t]:F7 P t (.pointer none) (.pointer none) true
 | s2 {t:TI} {k0 k1:IntKind} {a b c e:Int} [h:Nd P t k0 k1]:F7 P t (.agg #[.int k0 a,.int k1 b]) (.agg #[.int k0 c,.int k1 e]) (a == c && b == e)
inductive F8 (P:Program):TypeId→Value→Value→Bool→Prop
 | int {t:TI} {k:IntKind} {a b:Int}:F8 P t (.int k a) (.int k b) (a != b)
 | bool {t:TI} {a b:Bool} [h:Pz P t]:F8 P t (.bool a) (.bool b) (!(a == b))
 | KC {t:TI} {a:Addr} [h:Nc P t]:F8 P t (.pointer (some a)) (.pointer none) true
 | KD {t:TI} [h:Nc P t]:F8 P t (.pointer none) (.pointer none) false
 | s2 {t:TI} {k0 k1:IntKind} {a b c e:Int} [h:Nd P t k0 k1]:F8 P t (.agg #[.int k0 a,.int k1 b]) (.agg #[.int k0 c,.int k1 e]) (!(a == c && b == e))
class LK (P:Program) (t:TI) (k:outParam (Option Nat)):Prop where
 h:match k with | none=>NA P t | some n=>AG P t n
class vK (P:Program) (t:TI):Prop where
 h:SL P t
class jc (P:Program) (s k:Nat) (off:outParam Nat):Prop where
 h:FA P s k off
class bm (P:Program) (f:FuncId):Prop where
 h : ∃ fn c, P.funcs[f]? = some fn ∧ fn.body = some c ∧ (fn.name == "runtime.NumGoroutine") = false
inductive zp:Addr→Nat→Addr→Prop
 | lit {b o off:Nat}:zp ⟨b,o,none⟩ off ⟨b,o+off,none⟩
 | zero {p:Addr}:zp p 0 p
 | add {p:Addr} {off:Nat}:zp p off (p.add off)
theorem zp.eq {p q:Addr} {off:Nat} (h:zp p off q):q=p.add off:=by
 cases h with
 | lit=>rw [ir]
 | zero=>rfl
 | add=>rfl
class qG (P:Program) (t:TI) (α:outParam Type) (e:outParam TypeId) (E:outParam (ah α)) (z0:outParam α) (bt:outParam Nat):Prop where
 h:P.underlying t=some (.slice e)∧E.size=1∧∃ i z,P.info? e=some i∧i.zero=some z∧i.size=1∧z.oneCell'=true∧i.bytes=bt∧∀ h,E.rep h [z] z0 []
class sS (P:Program) (t:TI) (n:outParam Nat):Prop where
 h:∃ i,P.info? t=some i∧i.size=n
class xq (P:Program) (t:TI) (cs:outParam (List Value)):Prop where
 h:∃ i z,P.info? t=some i∧i.zero=some z∧z.cells.toList=cs
inductive Has (v:Value):List ay→Prop
 | own {α:Type} {T:ah α} {x:α} {Γ:QE}:Has v (.own T v x :: Γ)
 | om {α:Type} {t:TI} {E:ah α} {xs:List α} {Γ:QE}:Has v (.om t E v xs :: Γ)
 | rd {o:Bool} {α:Type} {T:ah α} {x:α} {Γ:QE}:Has v (.rd o T v x :: Γ)
 | there {e:ay} {Γ:QE} (h:Has v Γ):Has v (e :: Γ)
inductive One (Γ:QE):Value→Prop
 | int {k:IntKind} {a:Int}:One Γ (.int k a)
 | bool {a:Bool}:One Γ (.bool a)
 | ptr {a:Option Addr}:One Γ (.pointer a)
 | sl {a:Option Addr} {n c:Nat}:One Γ (.slice a n c)
 | fn {f:Fn} {as bs:Array Value}:One Γ (.func f as bs)
 | nf:One Γ .nilFunc
 | var {v:Value} (h:Has v Γ):One Γ v
inductive ud (Γ:QE):List Value→Prop
 | nil:ud Γ []
 | cons {v:Value} {l:LV} (h:One Γ v) (k:ud Γ l):ud Γ (v :: l)
inductive qf (Γ:QE):Value→List Value→Prop
 | agg {cs:LV}:qf Γ (.agg cs.toArray) cs
 | one {v:Value} (h:One Γ v):qf Γ v [v]
inductive rb:List Value→Nat→List Value→List Value→Prop
 | nil {cs:LV}:rb [] 0 cs cs
 | put {u c:Value} {us cs ds:LV} (h:rb us 0 cs ds):rb (u :: us) 0 (c :: cs) (u :: ds)
 | s {c:Value} {us cs ds:LV} {j:Nat} (h:rb us j cs ds):rb us (j+1) (c :: cs) (c :: ds)
inductive rQ:Nat→Nat→List Value→List Value→Prop
 | z {cs:LV}:rQ 0 0 cs []
 | c {n:Nat} {c:Value} {cs ds:LV} (h:rQ 0 n cs ds):rQ 0 (n+1) (c :: cs) (c :: ds)
 | s {j n:Nat} {c:Value} {cs ds:LV} (h:rQ j n cs ds):rQ (j+1) n (c :: cs) ds
inductive sw:List ay→Addr→Nat→List Value→Prop
 | row {b j n:Nat} {cs ds:LV} {t:TI} {Γ:QE} (h:rQ j n cs ds):sw (.row b cs t :: Γ) ⟨b,j,none⟩ n ds
 | at {p:Addr} {j n:Nat} {cs ds:LV} {Γ:QE} (h:rQ j n cs ds):sw (.bb p cs :: Γ) (p.add j) n ds
 | Ir {p:Addr} {n:Nat} {cs ds:LV} {Γ:QE} (h:rQ 0 n cs ds):sw (.bb p cs :: Γ) p n ds
 | there {a:Addr} {n:Nat} {ds:LV} {e:ay} {Γ:QE} (h:sw Γ a n ds):sw (e :: Γ) a n ds
class xT (P:Program) (t:TI) (zc:outParam (List Value)) (pl:outParam (List (Nat×Nat))):Prop where
 h:∃ fs i z,P.underlying t=some (.struct fs)∧fs.toList.mapM (fun f=>(P.info? f.type).map fun i=>(f.offset,i.size))=some pl∧P.info? t=some i∧i.zero=some z∧z.cells.toList=zc
def CN:List (Nat×Nat)→Nat→Option (Nat×Nat)
 | [],_=>none
 | a :: _,0=>some a
 | _ :: l,n+1=>CN l n
inductive tI (Γ:QE) (fr:Fr) (pl:List (Nat×Nat)):List (Nat×Operand)→List Value→List Value→Prop
 | nil {cs:LV}:tI Γ fr pl [] cs cs
 | cons {i off k:Nat} {x:OO} {v:Value} {us cs ds es:LV} {ps:List (Nat×Operand)} (hp:CN pl i=some (off,k)) (hx:bz fr x=some v) (hc:qf Γ v us) (hl:us.length=k) (hs:rb us off cs ds) (h:tI Γ fr pl ps ds es):tI Γ fr pl ((i,x) :: ps) cs es
class BI (P:Program) (t:TI) (e:outParam TypeId):Prop where
 h:P.underlying t=some (.slice e)∧∃ i z,P.info? e=some i∧i.zero=some z∧i.size=1
class F9 (P:Program) (t:TI) (e:outParam TypeId):Prop where
 h:P.underlying t=some (.slice e)∧∃ i z,P.info? e=some i∧i.zero=some z∧i.size=1
inductive sx (Γ:QE) (fr:Fr):Nat→List (Nat×Operand)→List Value→Prop
 | nil {k:Nat}:sx Γ fr k [] []
 | cons {k:Nat} {x:OO} {u:Value} {ps:List (Nat×Operand)} {us:LV} (hx:bz fr x=some u) (ho:One Γ u) (h:sx Γ fr (k+1) ps us):sx Γ fr k ((k,x) :: ps) (u :: us)
class SNc (P:Program) (t:TI) (n:outParam Nat):Prop where
 h:∃ e i,P.underlying t=some (.slice e)∧P.info? e=some i∧i.size=n
inductive Vl {α:Type} (S:ah α) (V:Type) (cl:α→V→List Value) (en:α→V→List ay):Prop
 | mk [h:SO S V cl en]:Vl S V cl en
class LSc (P:Program) (t:TI) (e n:outParam Nat):Prop where
 h:P.underlying t=some (.slice e)∧∃ i z,P.info? e=some i∧i.zero=some z∧i.size=n∧0 < n
inductive wF (Γ:QE) (fr:Fr) (n:Nat):Nat→List (Nat×Operand)→List Value→Prop
 | nil {k:Nat}:wF Γ fr n k [] []
 | cons {k:Nat} {x:OO} {v:Value} {cs us ws:LV} {ps:List (Nat×Operand)} (hx:bz fr x=some v) (hc:qf Γ v cs) (hl:cs.length=n) (h:wF Γ fr n (k+1) ps us) (ha:gj cs us ws):wF Γ fr n k ((k,x) :: ps) ws
def Nf:ah Nat where
 size:=1
 rep _ cs n f:=(∃ a c,cs=[.slice a n c])∧f=[]
 len:=by rintro h cs x f ⟨⟨a,c,rfl⟩,_⟩; rfl
 one:=by rintro h cs x f ⟨⟨a,c,rfl⟩,_⟩ v hv; simp at hv; subst hv; rfl
 congr:=fun h _=>h
 lt:=by rintro h cs x f ⟨_,rfl⟩ b hb; cases hb
inductive te:List ay→Value→Nat→Prop
 | lit {a:Option Addr} {n c:Nat} {Γ:QE}:te Γ (.slice a n c) n
 | ln {o:Bool} {v:Value} {n:Nat} {Γ:QE}:te (.rd o Nf v n :: Γ) v n
 | rd {o:Bool} {α:Type} {E:ah α} {T:ah (List α)} {v:Value} {x:List α} {Γ:QE} (h:RT T (bB E)):te (.rd o T v x :: Γ) v x.length
 | own {α:Type} {E:ah α} {T:ah (List α)} {v:Value} {x:List α} {Γ:QE} (h:RT T (bB E)):te (.own T v x :: Γ) v x.length
 | om {α:Type} {t:TI} {E:ah α} {v:Value} {xs:List α} {Γ:QE}:te (.om t E v xs :: Γ) v xs.length
 | there {v:Value} {n:Nat} {e:ay} {Γ:QE} (h:te Γ v n):te (e :: Γ) v n
inductive Ga:List ay→Value→Bool→Prop
 | nil {Γ:QE}:Ga Γ (.slice none 0 0) true
 | own {α:Type} {T:ah α} {v:Value} {x:α} {Γ:QE}:Ga (.own T v x :: Γ) v true
 | rd {o:Bool} {α:Type} {T:ah α} {v:Value} {x:α} {Γ:QE}:Ga (.rd o T v x :: Γ) v false
 | there {v:Value} {k:Bool} {e:ay} {Γ:QE} (h:Ga Γ v k):Ga (e :: Γ) v k
inductive Rg (v:Value) (j:Int):List ay→Prop
 | ad {o1 o2:Bool} {α:Type} {T:ah α} {x:α} {Γ:QE}:Rg v j (.ad o1 o2 v j T x :: Γ)
 | there {e:ay} {Γ:QE} (h:Rg v j Γ):Rg v j (e :: Γ)
inductive vr (P:Program) (fr:Fr) (Γ:QE):List ResultVar→List Value→Prop
 | nil:vr P fr Γ [] []
 | tmp {t:Nat} {v:Value} {l:List ResultVar} {vs:LV} (h:look fr t=some v) (k:vr P fr Γ l vs):vr P fr Γ (.tmp t :: l) (v :: vs)
 | cell {t n:Nat} {ty:TI} {a:Addr} {ds vs:LV} {l:List ResultVar} [ht:LK P ty (some n)] (h:look fr t=some (.pointer (some a))) (hw:sw Γ a n ds) (k:vr P fr Γ l vs):vr P fr Γ (.cell t ty :: l) (.agg ds.toArray :: vs)
def wG:List Oper→Bool
 | []=>false
 | ⟨_,_,_,_,_,none⟩ :: l=>wG l
 | ⟨_,_,_,_,_,some _⟩ :: _=>true
def PB:List Oper→Bool
 | []=>false
 | ⟨none,_,_,_,_,_⟩ :: _=>true
 | ⟨some _,.buildSlice _ _ _,_,_,_,_⟩ :: _=>true
 | ⟨some _,.makeSlice _ _ _,_,_,_,_⟩ :: _=>true
 | ⟨some _,.alloc _,_,_,_,_⟩ :: _=>true
 | ⟨some _,.box _ _,_,_,_,_⟩ :: _=>true
 | _ :: l=>PB l
def Cy:List Oper→Option Nat
 | []=>none
 | [⟨d,_,_,_,_,_⟩]=>d
 | _ :: l=>Cy l
def vu (l:LO):List Nat:=l.filterMap (·.dst)
def gq (t:Nat):List Nat→Bool
 | []=>false
 | a :: l=>bif Nat.beq t a then true else gq t l
inductive Kp:List Nat→Option (Bool×Nat×Value)→Fr→Fr→Prop
 | nil {ws:LN}:Kp ws none [] []
 | cons {ws:LN} {t:Nat} {v:Value} {f u:Fr} (h:Kp ws (some (gq t ws,t,v)) f u):Kp ws none ((t,v) :: f) u
 | drop {ws:LN} {t:Nat} {v:Value} {f u:Fr} (h:Kp ws none f u):Kp ws (some (true,t,v)) f u
 | dq {ws:LN} {t:Nat} {v:Value} {f u:Fr} (h:Kp (t :: ws) none f u):Kp ws (some (false,t,v)) f ((t,v) :: u)
inductive DT:{α:Type}→ah α→Prop
 | i {k:IntKind}:DT (aK k)
 | b:DT uT
 | own {α:Type} {e:TI} {E:ah α} (h:DT E):DT (aL e E)
inductive uY (e:ay):List ay→Prop
 | here {Γ:QE}:uY e (e :: Γ)
 | rd {o:Bool} {α:Type} {T:ah α} {v:Value} {x:α} {Γ:QE} (h:uY e Γ):uY e (.rd o T v x :: Γ)
 | ad {o1 o2:Bool} {v:Value} {j:Int} {α:Type} {T:ah α} {x:α} {Γ:QE} (h:uY e Γ):uY e (.ad o1 o2 v j T x :: Γ)
 | hd {v u:Value} {j:Int} {Γ:QE} (h:uY e Γ):uY e (.hd v j u :: Γ)
 | bb {p:Addr} {cs:LV} {Γ:QE} (h:uY e Γ):uY e (.bb p cs :: Γ)
 | row {b:Nat} {cs:LV} {t:TI} {Γ:QE} (h:uY e Γ):uY e (.row b cs t :: Γ)
inductive Gb {α:Type} (T:ah α) (v:Value) (x:α) (e:ay):List ay→Prop
 | here {Γ:QE} (h:uY e Γ):Gb T v x e (.own T v x :: Γ)
 | there {a:ay} {Γ:QE} (h:Gb T v x e Γ):Gb T v x e (a :: Γ)
inductive MF (Γ:QE):Option ay→List ay→Prop
 | nil {o:Option ay}:MF Γ o []
 | own {o:Option ay} {α:Type} {T:ah α} {v:Value} {x:α} {Δ:QE} (k:MF Γ (some (.own T v x)) Δ):MF Γ o (.own T v x :: Δ)
 | om {o:Option ay} {α:Type} {t:TI} {E:ah α} {v:Value} {xs:List α} {Δ:QE} (k:MF Γ none Δ):MF Γ o (.om t E v xs :: Δ)
 | row {o:Option ay} {b:Nat} {cs:LV} {t:TI} {Δ:QE} (k:MF Γ o Δ):MF Γ o (.row b cs t :: Δ)
 | eb {o:Option ay} {α:Type} {e:TI} {E:ah α} {v u:Value} {xs:List α} {j:Int} {Δ:QE} (k:MF Γ none Δ):MF Γ o (.eb e E v xs j u :: Δ)
 | rd {o:Option ay} {α:Type} {T:ah α} {v:Value} {x:α} {Δ:QE} (h:In (.rd false T v x) Γ) (k:MF Γ o Δ):MF Γ o (.rd false T v x :: Δ)
 | CI {α β:Type} {T:ah α} {v u:Value} {x:α} {T':ah β} {z:β} {Δ:QE} (hd:DT T) (h:Gb T v x (.rd true T' u z) Γ) (k:MF Γ (some (.own T v x)) Δ):MF Γ (some (.own T v x)) (.rd true T' u z :: Δ)
 | bb {o:Option ay} {p:Addr} {cs:LV} {Δ:QE} (h:In (.bb p cs) Γ) (k:MF Γ o Δ):MF Γ o (.bb p cs :: Δ)
inductive ic:List ay→List ay→Prop
 | nil:ic [] []
 | own {α:Type} {T:ah α} {v:Value} {x:α} {Γ Δ:QE} (k:ic Γ Δ):ic (.own T v x :: Γ) (.own T v x :: Δ)
 | om {α:Type} {t:TI} {E:ah α} {v:Value} {xs:List α} {Γ Δ:QE} (k:ic Γ Δ):ic (.om t E v xs :: Γ) (.om t E v xs :: Δ)
 | row {b:Nat} {cs:LV} {t:TI} {Γ Δ:QE} (k:ic Γ Δ):ic (.row b cs t :: Γ) (.row b cs t :: Δ)
 | Is {α:Type} {T:ah α} {v:Value} {x:α} {Γ Δ:QE} (k:ic Γ Δ):ic (.rd false T v x :: Γ) (.rd false T v x :: Δ)
 | CI {α:Type} {T:ah α} {v:Value} {x:α} {Γ Δ:QE} (k:ic Γ Δ):ic (.rd true T v x :: Γ) (.rd true T v x :: Δ)
 | ad {o1 o2:Bool} {v:Value} {j:Int} {α:Type} {T:ah α} {x:α} {Γ Δ:QE} (k:ic Γ Δ):ic (.ad o1 o2 v j T x :: Γ) Δ
 | bb {p:Addr} {cs:LV} {Γ Δ:QE} (k:ic Γ Δ):ic (.bb p cs :: Γ) (.bb p cs :: Δ)
 | hd {v u:Value} {j:Int} {Γ Δ:QE} (k:ic Γ Δ):ic (.hd v j u :: Γ) Δ
 | eb {α:Type} {e:TI} {E:ah α} {v u:Value} {xs:List α} {j:Int} {Γ Δ:QE} (k:ic Γ Δ):ic (.eb e E v xs j u :: Γ) (.eb e E v xs j u :: Δ)
inductive zN:Type→Prop
 | unit:zN Unit
 | val:zN Value
 | nat:zN Nat
 | pair {V W:Type} (h:zN V) (k:zN W):zN (V×W)
theorem zN.ne {V:Type} (h:zN V):Nonempty V:=by
 induction h with
 | unit=>exact ⟨()⟩
 | val=>exact ⟨.nilFunc⟩
 | nat=>exact ⟨0⟩
 | pair _ _ i j=>obtain ⟨a⟩:=i; obtain ⟨b⟩:=j; exact ⟨(a,b)⟩
inductive CS:{β:Type}→β→(β→Prop)→Prop
 | pair {A B:Type} {y:Option A×B} {p:Option A×B→Prop} (h0:∀ z,CS z fun z=>p (none,z)) (h1:∀ a z,CS z fun z=>p (some a,z)):CS y p
 | opt {A:Type} {y:Option A} {p:Option A→Prop} (h0:p none) (h1:∀ a,p (some a)):CS y p
 | any {β:Type} {y:β} {p:β→Prop} (h:p y):CS y p
theorem CS.sound {β:Type} {y:β} {p:β→Prop} (h:CS y p):p y:=by
 induction h with
 | @pair A B y p _ _ i0 i1=>
  obtain ⟨a,z⟩:=y
  cases a with
  | none=>exact i0 z
  | some a=>exact i1 a z
 | @opt A y p h0 h1=>
  cases y with
  | none=>exact h0
  | some a=>exact h1 a
 | any h=>exact h
inductive OW (Γ:QE):List ay→Prop
 | nil:OW Γ []
 | own {α:Type} {T:ah α} {v:Value} {x:α} {Δ:QE} (k:OW Γ Δ):OW Γ (.own T v x :: Δ)
 | om {α:Type} {t:TI} {E:ah α} {v:Value} {xs:List α} {Δ:QE} (k:OW Γ Δ):OW Γ (.om t E v xs :: Δ)
 | row {b:Nat} {cs:LV} {t:TI} {Δ:QE} (k:OW Γ Δ):OW Γ (.row b cs t :: Δ)
 | rd {α:Type} {T:ah α} {v:Value} {x:α} {Δ:QE} (h:In (.rd false T v x) Γ) (k:OW Γ Δ):OW Γ (.rd false T v x :: Δ)
inductive FO:List ay→Prop
 | nil:FO []
 | rd {o:Bool} {α:Type} {T:ah α} {v:Value} {x:α} {Δ:QE} (k:FO Δ):FO (.rd o T v x :: Δ)
 | bb {p:Addr} {cs:LV} {Δ:QE} (k:FO Δ):FO (.bb p cs :: Δ)
class Iz (P:Program) (t:TI) (κ υ:outParam Type) (bq:outParam (BEq κ)) (ek:outParam (κ→Value)) (eu:outParam (υ→Value)):Prop where
 h:∃ kt vt kd,P.underlying t=some (.map kt vt)∧P.underlying kt=some kd∧Ky ek kd
class PC (P:Program) (t:TI) (υ:Type) (eu:υ→Value) (z0:outParam υ):Prop where
 h:∃ kt vt i,P.underlying t=some (.map kt vt)∧P.info? vt=some i∧i.zero=some (eu z0)
class Vm (P:Program) (s t:TI) (k:outParam IntKind):Prop where
 h:(P.underlying s).isSome=true∧P.underlying t=some (.int k)
class Vn (P:Program) (s t:TI):Prop where
 h:∃ e,P.underlying s=some (.slice e)∧P.underlying e=some (.int .u8)∧P.underlying t=some .string
inductive yY (k:IntKind):List Value→List Int→Prop
 | nil:yY k [] []
 | cons {a:Int} {us:LV} {xs:List Int} (h:yY k us xs):yY k (.int k a :: us) (a :: xs)
inductive zO:List ay→{α:Type}→ah α→Value→α→List ay→Prop
 | int {k:IntKind} {a:Int} {Γ:QE}:zO Γ (aK k) (.int k a) a Γ
 | bool {a:Bool} {Γ:QE}:zO Γ uT (.bool a) a Γ
 | lit {b n:Nat} {us:LV} {k:IntKind} {xs:List Int} {e:TI} {Γ Γ1:QE} (h0:dy Γ (.row b us e) Γ1) (h1:yY k us xs) (hn:us.length=n) (hb:Nat.ble n 16777216=true):zO Γ (aL e (aK k)) (.slice (some ⟨b,0,none⟩) n n) xs Γ1
 | own {α:Type} {T:ah α} {v:Value} {x:α} {Γ Γ1:QE} (h:dy Γ (.own T v x) Γ1):zO Γ T v x Γ1
inductive Gc:List ay→{α:Type}→ah α→List Value→List α→List ay→Prop
 | nil {α:Type} {E:ah α} {Γ:QE}:Gc Γ E [] [] Γ
 | cons {α:Type} {E:ah α} {u:Value} {x:α} {us:LV} {xs:List α} {Γ Γ1 Γ2:QE} (h:zO Γ E u x Γ1) (k:Gc Γ1 E us xs Γ2):Gc Γ E (u :: us) (x :: xs) Γ2
inductive BJ {κ υ:Type} (ek:κ→Value) (eu:υ→Value):List ay→Value→List (κ×υ)→Prop
 | own {v:Value} {x:List (κ×υ)} {Γ:QE}:BJ ek eu (.own (qU ek eu) v x :: Γ) v x
 | rd {v:Value} {x:List (κ×υ)} {Γ:QE}:BJ ek eu (.rd false (qU ek eu) v x :: Γ) v x
 | there {v:Value} {x:List (κ×υ)} {e:ay} {Γ:QE} (h:BJ ek eu Γ v x):BJ ek eu (e :: Γ) v x
def PD:Code→Bool
 | .loop _=>true
 | _=>false
inductive D {R:Type} (P:Program) (cx:Cx R):Jd R→Prop
 | plain {M:Type} {q:Bool} {d:Option Nat} {op:Op} {ty:TI} {pos:String} {af:Array Edge} {all l:LO} {rk:RK R M} {Γ:QE} {fr:Fr} {m:Option M} (h:D P cx (.e q op d ty all l rk Γ fr m)):D P cx (.o q all (⟨d,op,ty,pos,af,none⟩ :: l) rk Γ fr m)
 | mv {M:Type} {q:Bool} {d:Nat} {x:OO} {v:Value} {ty:TI} {all l:LO} {rk:RK R M} {Γ:QE} {fr:Fr} {m:Option M} (hx:bz fr x=some v) (h:D P cx (.o q all l rk Γ ((d,v) :: fr) m)):D P cx (.e q (.move x) (some d) ty all l rk Γ fr m)
 | as {M:Type} {q:Bool} {d:Nat} {x:OO} {v:Value} {ty:TI} {all l:LO} {rk:RK R M} {Γ:QE} {fr:Fr} {m:Option M} (hx:bz fr x=some v) (h:D P cx (.o q all l rk Γ ((d,v) :: fr) m)):D P cx (.e q (.assign x) (some d) ty all l rk Γ fr m)
 | PE {M:Type} {q:Bool} {d s k off:Nat} {x:OO} {ty:TI} {a a':Addr} {all l:LO} {rk:RK R M} {Γ:QE} {fr:Fr} {m:Option M} [hf:jc P s k off] (hx:bz fr x=some (.pointer (some a))) (ha:zp a off a') (h:D P cx (.o q all l rk Γ ((d,.pointer (some a')) :: fr) m)):D P cx (.e q (.fieldAddr s x k) (some d) ty all l rk Γ fr m)
 | KE {M:Type} {q:Bool} {d:Nat} {x:OO} {ty:TI} {a:Addr} {all l:LO} {rk:RK R M} {Γ:QE} {fr:Fr} {m:Option M} (hx:bz fr x=some (.pointer (some a))) (h:D P cx (.o q all l rk Γ ((d,.pointer (some a)) :: fr) m)):D P cx (.e q (.nilCheck x) (some d) ty all l rk Γ fr m)
 | load {M:Type} {q:Bool} {d:Nat} {x:OO} {a:Addr} {t ty:TI} {lk:Option Nat} {all l:LO} {rk:RK R M} {Γ:QE} {fr:Fr} {m:Option M} [ht:LK P t lk] (hx:bz fr x=some (.pointer (some a))) (h:D P cx (.la a lk q t x d all l rk Γ fr m)):D P cx (.e q (.load t x) (some d) ty all l rk Γ fr m)
 | PF {M α:Type} {q:Bool} {d:Nat} {x:OO} {v:Value} {j:Int} {ty:TI} {o:Bool} {E:ah α} {z:α} {Γx:QE} {all l:LO} {rk:RK R M} {Γ:QE} {fr:Fr} {m:Option M} (h:td Γ (fi v 1 j) o E z uW Γx) (k:D P cx (.ld E z (fi v 1 j) q ty x d all l rk Γ fr m)):D P cx (.la (fi v 1 j) none q ty x d all l rk Γ fr m)
 | PG {M:Type} {q:Bool} {d:Nat} {x:OO} {a:Addr} {u:Value} {ty:TI} {all l:LO} {rk:RK R M} {Γ:QE} {fr:Fr} {m:Option M} (h:su Γ a u) (k:D P cx (.o q all l rk Γ ((d,u) :: fr) m)):D P cx (.la a none q ty x d all l rk Γ fr m)
 | PH {M:Type} {q:Bool} {d:Nat} {x:OO} {a:Addr} {k:IntKind} {z:Int} {ty:TI} {all l:LO} {rk:RK R M} {Γ:QE} {fr:Fr} {m:Option M} (h:D P cx (.o q all l rk Γ ((d,.int k z) :: fr) m)):D P cx (.ld (aK k) z a q ty x d all l rk Γ fr m)
 | PI {M α:Type} {q o:Bool} {d:Nat} {x:OO} {v:Value} {j:Int} {E:ah α} {z:List α} {ty:TI} {all l:LO} {rk:RK R M} {Γ:QE} {Γ1 Γ':Value→List ay} {fr:Fr} {m:Option M} (h:∀ u,td Γ (fi v 1 j) o (bB E) z (.rd o (bB E) u z) (Γ1 u)) (h2:∀ u,xQ (Γ1 u) v j u (Γ' u)) (k:∀ u,D P cx (.o q all l rk (Γ' u) ((d,u) :: fr) m)):D P cx (.ld (bB E) z (fi v 1 j) q ty x d all l rk Γ fr m)
 | ldp {M α V:Type} {q:Bool} {d:Nat} {x:OO} {a:Addr} {S:ah α} {cl:α→V→List Value} {en:α→V→List ay} {z:α} {ty:TI} {all l:LO} {rk:RK R M} {Γ Γx:QE} {fr:Fr} {m:Option M} [hs:SO S V cl en] (h:td Γ a false (lv S) z uW Γx)
   (k:∀ p v,D P cx (.p [] (.bb p (cl z v) :: en z v) fr Γ fun fr Γ=>.o q all l rk Γ ((d,.pointer (some p)) :: fr) m)):D P cx (.ld (lv S) z a q ty x d all l rk Γ fr m)
 | len {M:Type} {q:Bool} {d n:Nat} {x:OO} {v:Value} {t ty:TI} {all l:LO} {rk:RK R M} {Γ:QE} {fr:Fr} {m:Option M} [ht:vK P t] (hx:bz fr x=some v) (hr:te Γ v n) (h:D P cx (.o q all l rk Γ ((d,.int .i64 (n:Int)) :: fr) m)):D P cx (.e q (.call ⟨.builtin .len,#[x],#[t]⟩) (some d) ty all l rk Γ fr m)
 | idx {M α:Type} {q:Bool} {d:Nat} {x y:OO} {v:Value} {k:IntKind} {j:Int} {t ty:TI} {o1 o2:Bool} {E:ah α} {xs:List α} {Γ':α→List ay} {all l:LO} {rk:RK R M} {Γ:QE} {fr:Fr} {f:α→Option M} [ht:vK P t] (hx:bz fr x=some v) (hy:bz fr y=some (.int k j))
   (hr:∀ z,qD Γ v o1 o2 E xs (.ad o1 o2 v j E z) (Γ' z)) (hE:E.size=1) (h:∀ z,D P cx (.o q all l rk (Γ' z) ((d,.pointer (some (fi v 1 j))) :: fr) (f z))):D P cx (.e q (.indexAddr t x y) (some d) ty all l rk Γ fr (idx xs j>>=f))
 | Wq {S:Type} {q:Bool} {all:LO} {K:cq R S} {Γ:QE} {fr:Fr} {m:Option (Out S R)} (h:D P cx (.n K Γ fr m)):D P cx (.o q all [] (.n K) Γ fr m)
 | Tx {S:Type} {K:cq R S} {c:Code} {Γ:QE} {fr:Fr}:D P cx (.c K c Γ fr none)
 | seq {S:Type} {ez:List KI} {kb:Kb R S} {a b:Code} {Γ:QE} {fr:Fr} {m:Option (Out S R)} (h:D P cx (.c ⟨.seq b :: ez,kb⟩ a Γ fr m)):D P cx (.c ⟨ez,kb⟩ (.seq a b) Γ fr m)
 | Wr {S:Type} {ez:List KI} {kb:Kb R S} {c:Code} {Γ:QE} {fr:Fr} {m:Option (Out S R)} (h:D P cx (.c ⟨ez,kb⟩ c Γ fr m)):D P cx (.n ⟨.seq c :: ez,kb⟩ Γ fr m)
 | region {S:Type} {id:Nat} {K:cq R S} {ops:LO} {Γ:QE} {fr:Fr} {m:Option (Out S R)} (hd:cu cx.n ops=true) (h:D P cx (.rg (wG ops) false ops K Γ fr m)):D P cx (.c K (.region id ops.toArray false) Γ fr m)
 | rgf {S:Type} {K:cq R S} {ops:LO} {Γ:QE} {fr:Fr} {m:Option (Out S R)} (h:D P cx (.o false ops ops (.n K) Γ fr m)):D P cx (.rg false false ops K Γ fr m)
 | lss {M:Type} {q:Bool} {d:Nat} {x y:OO} {t t' ty:TI} {k:IntKind} {a b:Int} {all l:LO} {rk:RK R M} {Γ:QE} {fr:Fr} {m:Option M} (hx:bz fr x=some (.int k a)) (hy:bz fr y=some (.int k b)) (h:D P cx (.o q all l rk Γ ((d,.bool (decide (a < b))) :: fr) m)):D P cx (.e q (.binOp .lss t x y t') (some d) ty all l rk Γ fr m)
 | add {M:Type} {q:Bool} {d:Nat} {x y:OO} {t t' ty:TI} {a b:Int} {all l:LO} {rk:RK R M} {Γ:QE} {fr:Fr} {m:Option M} (hx:bz fr x=some (.int .i64 a)) (hy:bz fr y=some (.int .i64 b)) (h:D P cx (.o q all l rk Γ ((d,.int .i64 (bg (a+b))) :: fr) m)):D P cx (.e q (.binOp .add t x y t') (some d) ty all l rk Γ fr m)
 | eql {M:Type} {q:Bool} {d:Nat} {x y:OO} {t t' ty:TI} {u v:Value} {b:Bool} {all l:LO} {rk:RK R M} {Γ:QE} {fr:Fr} {m:Option M} (hx:bz fr x=some u) (hy:bz fr y=some v) (hb:F7 P t u v b) (h:D P cx (.o q all l rk Γ ((d,.bool b) :: fr) m)):D P cx (.e q (.binOp .eql t x y t') (some d) ty all l rk Γ fr m)
 | neq {M:Type} {q:Bool} {d:Nat} {x y:OO} {t t' ty:TI} {u v:Value} {b:Bool} {all l:LO} {rk:RK R M} {Γ:QE} {fr:Fr} {m:Option M} (hx:bz fr x=some u) (hy:bz fr y=some v) (hb:F8 P t u v b) (h:D P cx (.o q all l rk Γ ((d,.bool b) :: fr) m)):D P cx (.e q (.binOp .neq t x y t') (some d) ty all l rk Γ fr m)
 | pf {t:Nat} {v:Value} {φ fr:Fr} {Δ Γ:QE} {k:Fr→List ay→Jd R} (h:D P cx (.p φ Δ ((t,v) :: fr) Γ k)):D P cx (.p ((t,v) :: φ) Δ fr Γ k)
 | pz {fr:Fr} {Γ:QE} {k:Fr→List ay→Jd R} (h:D P cx (k fr Γ)):D P cx (.p [] [] fr Γ k)
 | pe {e:ay} {fr:Fr} {Δ Γ:QE} {k:Fr→List ay→Jd R} (h:D P cx (.p [] Δ fr (e :: Γ) k)):D P cx (.p [] (e :: Δ) fr Γ k)
 | not {M:Type} {q:Bool} {d:Nat} {x:OO} {t ty:TI} {b:Bool} {all l:LO} {rk:RK R M} {Γ:QE} {fr:Fr} {m:Option M} (hx:bz fr x=some (.bool b)) (h:D P cx (.o q all l rk Γ ((d,.bool (!b)) :: fr) m)):D P cx (.e q (.unOp .not t x) (some d) ty all l rk Γ fr m)
 | cond {S:Type} {K:cq R S} {t:Nat} {b:Bool} {x y:Code} {Γ:QE} {fr:Fr} {m:Option (Out S R)} (hb:look fr t=some (.bool b)) (h:D P cx (.cd b K x y Γ fr m)):D P cx (.c K (.cond (.tmp t) x y) Γ fr m)
 | cdt {S:Type} {K:cq R S} {x y:Code} {Γ:QE} {fr:Fr} {m:Option (Out S R)} (h:D P cx (.c K x Γ fr m)):D P cx (.cd true K x y Γ fr m)
 | cds {S:Type} {b:Bool} {K:cq R S} {x y:Code} {Γ:QE} {fr:Fr} {m1 m2:Option (Out S R)} (h1:D P cx (.c K x Γ fr m1)) (h2:D P cx (.c K y Γ fr m2)):D P cx (.cd b K x y Γ fr (bif b then m1 else m2))
 | skip {S:Type} {K:cq R S} {Γ:QE} {fr:Fr} {m:Option (Out S R)} (h:D P cx (.n K Γ fr m)):D P cx (.c K .skip Γ fr m)
 | exit {S:Type} {k:Nat} {K:cq R S} {Γ:QE} {fr:Fr} {m:Option (Out S R)} (h:D P cx (.x k K Γ fr m)):D P cx (.c K (.exit k) Γ fr m)
 | Ws {S:Type} {ez:List KI} {kb:Kb R S} {k:Nat} {Γ:QE} {fr:Fr} {m:Option (Out S R)} (h:D P cx (.n ⟨ez,kb⟩ Γ fr m)):D P cx (.n ⟨.xR k :: ez,kb⟩ Γ fr m)
 | Wt {S:Type} {ez:List KI} {kb:Kb R S} {k:Nat} {c:Code} {Γ:QE} {fr:Fr} {m:Option (Out S R)} (h:D P cx (.x k ⟨ez,kb⟩ Γ fr m)):D P cx (.x k ⟨.seq c :: ez,kb⟩ Γ fr m)
 | Wu {S:Type} {ez:List KI} {kb:Kb R S} {k j:Nat} {Γ:QE} {fr:Fr} {m:Option (Out S R)} (h:D P cx (.xb (Nat.beq k j) k ⟨ez,kb⟩ Γ fr m)):D P cx (.x k ⟨.xR j :: ez,kb⟩ Γ fr m)
 | xbt {S:Type} {K:cq R S} {k:Nat} {Γ:QE} {fr:Fr} {m:Option (Out S R)} (h:D P cx (.n K Γ fr m)):D P cx (.xb true k K Γ fr m)
 | xbf {S:Type} {K:cq R S} {k:Nat} {Γ:QE} {fr:Fr} {m:Option (Out S R)} (h:D P cx (.x k K Γ fr m)):D P cx (.xb false k K Γ fr m)
 | Tz {S V:Type} {k:Nat} {Δ:S→V→List ay} {φ:S→V→Fr} {Γ2 Γ Γ1 Γ3:QE} {f2 fr:Fr} {s:S} {v:V} (hv:sP V v) (ha:p6 fr (φ s v)) (hf:p6 fr f2) (h0:EO Γ (Δ s v) Γ1) (hw:OW Γ (Δ s v)) (h1:EO Γ1 Γ2 Γ3) (h2:MF Γ none Γ2) :
   D P cx (.x k ⟨[],.loop V k Δ φ Γ2 f2⟩ Γ fr (some (.exit k s)))
 | TA {S V:Type} {k:Nat} {Δ:S→V→List ay} {φ:S→V→Fr} {Γ2 Γ Γ1 Γ3:QE} {f2 fr:Fr} {s:S} {v:V} (hv:sP V v) (ha:p6 fr (φ s v)) (hf:p6 fr f2) (h0:EO Γ (Δ s v) Γ1) (hw:OW Γ (Δ s v)) (h1:EO Γ1 Γ2 Γ3) (h2:MF Γ none Γ2) :
   D P cx (.n ⟨[],.loop V k Δ φ Γ2 f2⟩ Γ fr (some (.norm s)))
 | gtr {M:Type} {q:Bool} {d:Nat} {x y:OO} {t t' ty:TI} {k:IntKind} {a b:Int} {all l:LO} {rk:RK R M} {Γ:QE} {fr:Fr} {m:Option M} (hx:bz fr x=some (.int k a)) (hy:bz fr y=some (.int k b)) (h:D P cx (.o q all l rk Γ ((d,.bool (decide (a > b))) :: fr) m)):D P cx (.e q (.binOp .gtr t x y t') (some d) ty all l rk Γ fr m)
 | geq {M:Type} {q:Bool} {d:Nat} {x y:OO} {t t' ty:TI} {k:IntKind} {a b:Int} {all l:LO} {rk:RK R M} {Γ:QE} {fr:Fr} {m:Option M} (hx:bz fr x=some (.int k a)) (hy:bz fr y=some (.int k b)) (h:D P cx (.o q all l rk Γ ((d,.bool (decide (a ≥ b))) :: fr) m)):D P cx (.e q (.binOp .geq t x y t') (some d) ty all l rk Γ fr m)
 | leq {M:Type} {q:Bool} {d:Nat} {x y:OO} {t t' ty:TI} {k:IntKind} {a b:Int} {all l:LO} {rk:RK R M} {Γ:QE} {fr:Fr} {m:Option M} (hx:bz fr x=some (.int k a)) (hy:bz fr y=some (.int k b)) (h:D P cx (.o q all l rk Γ ((d,.bool (decide (a≤b))) :: fr) m)):D P cx (.e q (.binOp .leq t x y t') (some d) ty all l rk Γ fr m)
 | sub {M:Type} {q:Bool} {d:Nat} {x y:OO} {t t' ty:TI} {a b:Int} {all l:LO} {rk:RK R M} {Γ:QE} {fr:Fr} {m:Option M} (hx:bz fr x=some (.int .i64 a)) (hy:bz fr y=some (.int .i64 b)) (h:D P cx (.o q all l rk Γ ((d,.int .i64 (bg (a - b))) :: fr) m)):D P cx (.e q (.binOp .sub t x y t') (some d) ty all l rk Γ fr m)
 | grd {M:Type} {q:Bool} {d:Option Nat} {op:Op} {ty:TI} {pos:String} {af:Array Edge} {j t:Nat} {tt:Bool} {v:Value} {all l:LO} {rk:RK R M} {Γ:QE} {fr:Fr} {m:Option M} (hj:bh all j=some t) (hv:look fr t=some v) (h:D P cx (.gd v tt j t q op d ty all l rk Γ fr m)) :
   D P cx (.o q all (⟨d,op,ty,pos,af,some (j,tt)⟩ :: l) rk Γ fr m)
 | gtt {M:Type} {q:Bool} {d:Option Nat} {op:Op} {ty:TI} {j t:Nat} {all l:LO} {rk:RK R M} {Γ:QE} {fr:Fr} {m:Option M} (h:D P cx (.e q op d ty all l rk Γ fr m)):D P cx (.gd (.bool true) true j t q op d ty all l rk Γ fr m)
 | gff {M:Type} {q:Bool} {d:Option Nat} {op:Op} {ty:TI} {j t:Nat} {all l:LO} {rk:RK R M} {Γ:QE} {fr:Fr} {m:Option M} (h:D P cx (.e q op d ty all l rk Γ fr m)):D P cx (.gd (.bool false) false j t q op d ty all l rk Γ fr m)
 | gtf {M:Type} {q:Bool} {d:Nat} {op:Op} {ty:TI} {j t:Nat} {all l:LO} {rk:RK R M} {Γ:QE} {fr:Fr} {m:Option M} (h:D P cx (.o q all l rk Γ ((d,undef) :: fr) m)):D P cx (.gd (.bool true) false j t q op (some d) ty all l rk Γ fr m)
 | gft {M:Type} {q:Bool} {d:Nat} {op:Op} {ty:TI} {j t:Nat} {all l:LO} {rk:RK R M} {Γ:QE} {fr:Fr} {m:Option M} (h:D P cx (.o q all l rk Γ ((d,undef) :: fr) m)):D P cx (.gd (.bool false) true j t q op (some d) ty all l rk Γ fr m)
 | gsp {M:Type} {q b tt:Bool} {d:Option Nat} {op:Op} {ty:TI} {j t:Nat} {all l:LO} {rk:RK R M} {Γ:QE} {fr:Fr} {m1 m2:Option M}
   (h1:D P cx (.gd (.bool true) tt j t q op d ty all l rk Γ ((t,.bool true) :: fr) m1)) (h2:D P cx (.gd (.bool false) tt j t q op d ty all l rk Γ ((t,.bool false) :: fr) m2)):D P cx (.gd (.bool b) tt j t q op d ty all l rk Γ fr (bif b then m1 else m2))
 | pick {M:Type} {q:Bool} {d:Nat} {c x y:OO} {ty:TI} {b:Bool} {v:Value} {all l:LO} {rk:RK R M} {Γ:QE} {fr:Fr} {m:Option M} (hc:bz fr c=some (.bool b)) (hx:(bif b then bz fr x else bz fr y)=some v) (h:D P cx (.o q all l rk Γ ((d,v) :: fr) m)):D P cx (.e q (.pick c x y) (some d) ty all l rk Γ fr m)
 | ogd {q:Bool} {all:LO} {t:Nat} {f0 fr:Fr} {Γ:QE} {b:Bool} (h:look fr t=some (.bool b)) (k:p6 fr f0):D P cx (.o q all [] (.g t f0) Γ fr (some b))
 | tp1 {v:Value} {d:Nat} {fr:Fr} {k:Fr→Jd R} (h:D P cx (k ((d,v) :: fr))):D P cx (.tp [v] d fr k)
 | IB {M:Type} {q:Bool} {d:Nat} {f:FuncId} {xs:List Operand} {vs:LV} {bb:Array TypeId} {ty:TI} {all l:LO} {rk:RK R M} {Γ:QE} {fr:Fr} {m:Option M} [hf:bm P f] (hx:vp fr xs=some vs)
   (h:D P cx (.cv f vs q (.call ⟨.value (.func f),xs.toArray,bb⟩) d ty all l rk Γ fr m)):D P cx (.e q (.call ⟨.value (.func f),xs.toArray,bb⟩) (some d) ty all l rk Γ fr m)
 | cvn {M:Type} {q:Bool} {d:Nat} {f:FuncId} {vs:LV} {op:Op} {ty:TI} {all l:LO} {rk:RK R M} {Γ:QE} {fr:Fr}:D P cx (.cv f vs q op d ty all l rk Γ fr none)
 | cvq {M β:Type} {ow:Bool} {d:Nat} {f:FuncId} {vs:LV} {op:Op} {ty:TI} {Δ:QE} {mo:Option β} {rt:β→Unit→List Value} {all l:LO} {rk:RK R M} {Γ:QE} {fr:Fr} {g:β→Option M}
   (hc:Ct P f ow mo vs Δ rt (fun _ _=>[])) (h0:FO Δ) (h1:ER true Γ Δ) (k:∀ y,D P cx (.tp (rt y ()) d fr fun fr=>.o true all l rk Γ fr (g y))):D P cx (.cv f vs true op d ty all l rk Γ fr (mo>>=g))
 | cvw {M β V:Type} {ow:Bool} {d:Nat} {f:FuncId} {vs:LV} {op:Op} {ty:TI} {Δ:QE} {mo:Option β} {rt:β→V→List Value} {ps:β→V→List ay} {all l:LO} {rk:RK R M} {Γ:QE} {fr:Fr} {g:β→Option M}
   (hc:Ct P f ow mo vs Δ rt ps) (hp:EP Γ Δ) (h:D P cx (.cz ow f vs op d ty Δ mo rt ps all l rk Γ fr g)):D P cx (.cv f vs false op d ty all l rk Γ fr (mo>>=g))
 | czt {M β V:Type} {d:Nat} {f:FuncId} {vs:LV} {op:Op} {ty:TI} {Δ:QE} {mo:Option β} {rt:β→V→List Value} {ps:β→V→List ay} {all l:LO} {rk:RK R M} {Γ Γ1:QE} {fr:Fr} {g:β→Option M}
   (h0:EO Γ Δ Γ1) (h1:ER true Γ1 Δ) (k:∀ y v,D P cx (.cs y fun y=>.tp (rt y v) d fr fun fr=>.p [] (ps y v) fr Γ1 fun fr Γ=>.mo all l rk Γ fr (g y))):D P cx (.cz true f vs op d ty Δ mo rt ps all l rk Γ fr g)
 | czf {M β V:Type} {d:Nat} {f:FuncId} {vs:LV} {op:Op} {ty:TI} {Δ:QE} {mo:Option β} {rt:β→V→List Value} {ps:β→V→List ay} {all l:LO} {rk:RK R M} {Γ Γ1:QE} {fr:Fr} {g:β→Option M}
   (h0:EF Γ Δ Γ1) (k:∀ y v,D P cx (.cs y fun y=>.tp (rt y v) d fr fun fr=>.p [] (ps y v) fr Γ1 fun fr Γ=>.mo all l rk Γ fr (g y))):D P cx (.cz false f vs op d ty Δ mo rt ps all l rk Γ fr g)
 | mo0 {M:Type} {all l:LO} {rk:RK R M} {Γ:QE} {fr:Fr} {m:Option M} (h:D P cx (.o false all l rk Γ fr m)):D P cx (.mo all l rk Γ fr m)
 | tgn {S:Type} {q:Bool} {all ops:LO} {K:cq R S} {Γ:QE} {fr:Fr} {m:Option (Out S R)} (h:D P cx (.o q all ops (.n K) Γ fr m)):D P cx (.tg q false all ops K Γ fr m)
 | tgg {S:Type} {t:Nat} {K:cq R S} {all ops:LO} {Γ:QE} {fr:Fr} {gm:Option Bool} {f:Bool→Option (Out S R)} {f0:Fr} (ht:Cy ops=some t) (hf:Kp (vu ops) none fr f0) (h:D P cx (.o true all ops (.g t f0) Γ fr gm)) (k:∀ g,D P cx (.n K Γ ((t,.bool g) :: f0) (f g))):D P cx (.tg true true all ops K Γ fr (gm>>=f))
 | mn0 {S:Type} {K:cq R S} {Γ:QE} {fr:Fr} {m:Option (Out S R)} (h:D P cx (.n K Γ fr m)):D P cx (.mn K Γ fr m)
 | cav {M:Type} {q:Bool} {d:Nat} {f:FuncId} {x:OO} {xs:List Operand} {vs us ws as bs:LV} {bb:Array TypeId} {ty:TI} {all l:LO} {rk:RK R M} {Γ:QE} {fr:Fr} {m:Option M} (hv:bz fr x=some (.func (.func f) as.toArray bs.toArray)) (hx:vp fr xs=some vs) (h1:gj vs bs us) (h2:gj as us ws)
   (h:D P cx (.fa f (.cv f ws q (.call ⟨.value x,xs.toArray,bb⟩) d ty all l rk Γ fr m))):D P cx (.e q (.call ⟨.value x,xs.toArray,bb⟩) (some d) ty all l rk Γ fr m)
 | fa {f:FuncId} {j:Jd R} [hf:bm P f] (h:D P cx j):D P cx (.fa f j)
 | mkf {M:Type} {q:Bool} {d:Nat} {f:FuncId} {xs ys:List Operand} {as bs:LV} {ty:TI} {all l:LO} {rk:RK R M} {Γ:QE} {fr:Fr} {m:Option M} (hx:vp fr xs=some as) (hy:vp fr ys=some bs)
   (h:D P cx (.o q all l rk Γ ((d,.func (.func f) as.toArray bs.toArray) :: fr) m)):D P cx (.e q (.makeFunc (.func f) xs.toArray ys.toArray) (some d) ty all l rk Γ fr m)
 | csp {A B:Type} {y:Option A×B} {k:Option A×B→Jd R} (h0:∀ z,D P cx (.cs z fun z=>k (none,z))) (h1:∀ a z,D P cx (.cs z fun z=>k (some a,z))):D P cx (.cs y k)
 | cso {A:Type} {y:Option A} {k:Option A→Jd R} (h0:D P cx (k none)) (h1:∀ a,D P cx (k (some a))):D P cx (.cs y k)
 | csd {β:Type} {y:β} {k:β→Jd R} (h:D P cx (k y)):D P cx (.cs y k)
 | tp0 {d:Nat} {fr:Fr} {k:Fr→Jd R} (h:D P cx (k ((d,.tuple #[]) :: fr))):D P cx (.tp [] d fr k)
 | tp2 {u v:Value} {vs:LV} {d:Nat} {fr:Fr} {k:Fr→Jd R} (h:D P cx (k ((d,.tuple (u :: v :: vs).toArray) :: fr))):D P cx (.tp (u :: v :: vs) d fr k)
 | ret {S:Type} {K:cq R S} {rs:List ResultVar} {y:R} {v:cx.V} {Γ Γ':QE} {fr:Fr} (hr:cx.fn.results=rs.toArray) (hv:sP cx.V v) (h:vr P fr Γ rs (cx.ret y v)) (h1:EF Γ (cx.post y v) Γ'):D P cx (.c K .ret Γ fr (some (.ret y)))
 | block {S:Type} {K:cq R S} {k:Nat} {c:Code} {Γ:QE} {fr:Fr} {m:Option (Out S R)} (h:D P cx (.bk (PD c) k K c Γ fr m)):D P cx (.c K (.block k c) Γ fr m)
 | bkf {S:Type} {ez:List KI} {kb:Kb R S} {k:Nat} {c:Code} {Γ:QE} {fr:Fr} {m:Option (Out S R)} (h:D P cx (.c ⟨.xR k :: ez,kb⟩ c Γ fr m)):D P cx (.bk false k ⟨ez,kb⟩ c Γ fr m)
 | bks {S:Type} {K:cq R S} {k:Nat} {c:Code} {Γ:QE} {fr:Fr} {m:Option (Out S R)} (h:Bx (lz P cx (.bk true k K c Γ fr m))):D P cx (.bk true k K c Γ fr m)
 | draw {S:Type} {id:Nat} {K:cq R S} {ops:LO} {Γ:QE} {fr:Fr} {m:Option (Out S R)} (h:D P cx (.dr id ops K Γ fr m)):D P cx (.c K (.region id ops.toArray true) Γ fr m)
 | drs {S:Type} {id:Nat} {K:cq R S} {ops:LO} {Γ:QE} {fr:Fr} {m:Option (Out S R)} (h:Bx (lz P cx (.dr id ops K Γ fr m))):D P cx (.dr id ops K Γ fr m)
 | rgq {S:Type} {K:cq R S} {ops:LO} {Γ:QE} {fr:Fr} {m:Option (Out S R)} (h:D P cx (.o true ops ops (.n K) Γ fr m)):D P cx (.rg false true ops K Γ fr m)
 | rgt {S:Type} {K:cq R S} {ops:LO} {Γ:QE} {fr:Fr} {m:Option (Out S R)} (h:D P cx (.rw (PB ops) ops K Γ fr m)):D P cx (.rg true false ops K Γ fr m)
 | rwf {S:Type} {t:Nat} {K:cq R S} {ops:LO} {Γ:QE} {fr:Fr} {gm:Option Bool} {f:Bool→Option (Out S R)} {f0:Fr} (ht:Cy ops=some t) (hf:Kp (vu ops) none fr f0) (h:D P cx (.o true ops ops (.g t f0) Γ fr gm)) (k:∀ g,D P cx (.n K Γ ((t,.bool g) :: f0) (f g))):D P cx (.rw false ops K Γ fr (gm>>=f))
 | rwu {S:Type} {K:cq R S} {ops:LO} {Γ:QE} {fr:Fr} {m:Option (Out S R)} (h:D P cx (.o false ops ops (.s K) Γ fr m)):D P cx (.rw false ops K Γ fr m)
 | rgg {S:Type} {t:Nat} {K:cq R S} {ops:LO} {Γ:QE} {fr:Fr} {gm:Option Bool} {f:Bool→Option (Out S R)} {f0:Fr} (ht:Cy ops=some t) (hf:Kp (vu ops) none fr f0) (h:D P cx (.o true ops ops (.g t f0) Γ fr gm)) (k:∀ g,D P cx (.n K Γ ((t,.bool g) :: f0) (f g))):D P cx (.rg true true ops K Γ fr (gm>>=f))
 | Wv {rs:List ResultVar} {y:R} {v:cx.V} {Γ Γ':QE} {fr:Fr} (hr:cx.fn.results=rs.toArray) (hv:sP cx.V v) (h:vr P fr Γ rs (cx.ret y v)) (h1:EF Γ (cx.post y v) Γ'):D P cx (.n ⟨[],.KA⟩ Γ fr (some (.norm y)))
 | ext {M:Type} {q:Bool} {d k:Nat} {x:OO} {ty:TI} {vs:LV} {v:Value} {all l:LO} {rk:RK R M} {Γ:QE} {fr:Fr} {m:Option M} (hx:bz fr x=some (.tuple vs.toArray)) (hv:vs[k]? = some v) (h:D P cx (.o q all l rk Γ ((d,v) :: fr) m)):D P cx (.e q (.extract x k) (some d) ty all l rk Γ fr m)
 | IC {M:Type} {q:Bool} {d n:Nat} {x:OO} {a:Addr} {ds:LV} {ty:TI} {all l:LO} {rk:RK R M} {Γ:QE} {fr:Fr} {m:Option M} (h:sw Γ a n ds) (k:D P cx (.o q all l rk Γ ((d,.agg ds.toArray) :: fr) m)):D P cx (.la a (some n) q ty x d all l rk Γ fr m)
 | Ng {M:Type} {q:Bool} {d:Nat} {t ty:TI} {ps:List (Nat×Operand)} {zc cs:LV} {pl:List (Nat×Nat)} {all l:LO} {rk:RK R M} {Γ:QE} {fr:Fr} {m:Option M} [hb:xT P t zc pl] (hf:tI Γ fr pl ps zc cs) (h:D P cx (.o q all l rk Γ ((d,.agg cs.toArray) :: fr) m)):D P cx (.e q (.build t ps.toArray) (some d) ty all l rk Γ fr m)
 | box {M:Type} {d:Nat} {x:OO} {t ty:TI} {v:Value} {cs:LV} {all l:LO} {rk:RK R M} {Γ:QE} {fr:Fr} {m:Option M} (hx:bz fr x=some v) (hc:qf Γ v cs)
   (h:∀ b,D P cx (.o false all l rk (.row b cs t :: Γ) ((d,.pointer (some ⟨b,0,none⟩)) :: fr) m)):D P cx (.e false (.box t x) (some d) ty all l rk Γ fr m)
 | alloc {M:Type} {d:Nat} {t ty:TI} {cs:LV} {all l:LO} {rk:RK R M} {Γ:QE} {fr:Fr} {m:Option M} [hz:xq P t cs]
   (h:∀ b,D P cx (.o false all l rk (.row b cs t :: Γ) ((d,.pointer (some ⟨b,0,none⟩)) :: fr) m)):D P cx (.e false (.alloc t) (some d) ty all l rk Γ fr m)
 | G8 {M α:Type} {d:Nat} {t e ty:TI} {E:ah α} {z0:α} {bt:Nat} {all l:LO} {rk:RK R M} {Γ:QE} {fr:Fr} {m:Option M} [hz:qG P t α e E z0 bt]
   (h:∀ v,D P cx (.o false all l rk (.own (aL e E) v [] :: Γ) ((d,v) :: fr) m)):D P cx (.e false (.buildSlice t 0 #[]) (some d) ty all l rk Γ fr m)
 | AS {M α:Type} {d:Nat} {x:OO} {u:Value} {t e ty:TI} {E:ah α} {z0:α} {bt:Nat} {all l:LO} {rk:RK R M} {Γ:QE} {fr:Fr} {m:Option M} [hz:qG P t α e E z0 bt] (hx:bz fr x=some u) (h1:One Γ u)
   (h:∀ b,D P cx (.o false all l rk (.row b [u] e :: Γ) ((d,.slice (some ⟨b,0,none⟩) 1 1) :: fr) m)):D P cx (.e false (.buildSlice t 1 #[(0,x)]) (some d) ty all l rk Γ fr m)
 | Ww {M:Type} {d n:Nat} {ps:List (Nat×Operand)} {us:LV} {t e ty:TI} {all l:LO} {rk:RK R M} {Γ:QE} {fr:Fr} {m:Option M} [hz:BI P t e] (hl:sx Γ fr 0 ps us) (hn:us.length=n) (hb:(Nat.ble 1 n && Nat.ble n 16777216)=true)
   (h:∀ b,D P cx (.o false all l rk (.row b us e :: Γ) ((d,.slice (some ⟨b,0,none⟩) n n) :: fr) m)):D P cx (.e false (.buildSlice t n ps.toArray) (some d) ty all l rk Γ fr m)
 | G9 {M α:Type} {d:Nat} {y:OO} {a:Int} {t e ty:TI} {E:ah α} {z0:α} {bt:Nat} {all l:LO} {rk:RK R M} {Γ:QE} {fr:Fr} {f:Nat→Option M} [hz:qG P t α e E z0 bt] (hy:bz fr y=some (.int .i64 a))
   (h:∀ n v,D P cx (.o false all l rk (.own (aL e E) v [] :: Γ) ((d,v) :: fr) (f n))):D P cx (.e false (.makeSlice t (.const (.int .i64 0)) y) (some d) ty all l rk Γ fr (mk bt a>>=f))
 | make {M α:Type} {d:Nat} {x:OO} {a:Int} {t e ty:TI} {E:ah α} {z0:α} {bt:Nat} {all l:LO} {rk:RK R M} {Γ:QE} {fr:Fr} {f:Nat→Option M} [hz:qG P t α e E z0 bt] (hx:bz fr x=some (.int .i64 a))
   (h:∀ n v,D P cx (.o false all l rk (.own (aL e E) v (List.replicate n z0) :: Γ) ((d,v) :: fr) (f n))):D P cx (.e false (.makeSlice t x x) (some d) ty all l rk Γ fr (mk bt a>>=f))
 | app {M α:Type} {d:Nat} {s x:OO} {sv xv:Value} {t e ty:TI} {E:ah α} {z0:α} {bt:Nat} {all l:LO} {rk:RK R M} {Γ:QE} {fr:Fr} {m:Option M} [hz:qG P t α e E z0 bt] (hs:bz fr s=some sv) (hx:bz fr x=some xv)
   (h:D P cx (.ax E e t bt xv sv s x d ty all l rk Γ fr m)):D P cx (.e false (.call ⟨.builtin .append,#[s,x],#[t,t]⟩) (some d) ty all l rk Γ fr m)
 | ax1 {M α:Type} {d b:Nat} {s x:OO} {sv u:Value} {t e ty:TI} {E:ah α} {bt:Nat} {all l:LO} {rk:RK R M} {Γ:QE} {fr:Fr} {m:Option M} (hc:su Γ ⟨b,0,none⟩ u)
   (h:D P cx (.ap E e t bt u b sv s x d ty all l rk Γ fr m)):D P cx (.ax E e t bt (.slice (some ⟨b,0,none⟩) 1 1) sv s x d ty all l rk Γ fr m)
 | axi {M:Type} {d:Nat} {k:IntKind} {s x:OO} {sv yv:Value} {o1 o2:Bool} {t e ty:TI} {xs ys:List Int} {bt:Nat} {all l:LO} {rk:RK R M} {Γ Γ1 Γx:QE} {fr:Fr} {f:Unit→Option M} (h1:dy Γ (.own (aL e (aK k)) sv xs) Γ1) (h2:qD Γ1 yv o1 o2 (aK k) ys uW Γx)
   (h:∀ v,D P cx (.o false all l rk (.own (aL e (aK k)) v (xs++ys) :: Γ1) ((d,v) :: fr) (f ()))):D P cx (.ax (aK k) e t bt yv sv s x d ty all l rk Γ fr (fits bt (xs.length+ys.length)>>=f))
 | api {M:Type} {d b:Nat} {k:IntKind} {y:Int} {s x:OO} {sv:Value} {t e et ty:TI} {xs:List Int} {bt:Nat} {all l:LO} {rk:RK R M} {Γ Γ1 Γ2:QE} {fr:Fr} {f:Unit→Option M} (h0:dy Γ (.row b [.int k y] et) Γ1) (h1:dy Γ1 (.own (aL e (aK k)) sv xs) Γ2)
   (h:∀ v,D P cx (.o false all l rk (.own (aL e (aK k)) v (xs++[y]) :: Γ2) ((d,v) :: fr) (f ()))):D P cx (.ap (aK k) e t bt (.int k y) b sv s x d ty all l rk Γ fr (fits bt (xs.length+1)>>=f))
 | PJ {M α:Type} {d b:Nat} {s x:OO} {sv u:Value} {k:Bool} {t e e' ty:TI} {E:ah α} {bt:Nat} {all l:LO} {rk:RK R M} {Γ:QE} {fr:Fr} {m:Option M} (hk:Ga Γ u k)
   (h:D P cx (.Py k e' E e t bt u b sv s x d ty all l rk Γ fr m)):D P cx (.ap (aL e' E) e t bt u b sv s x d ty all l rk Γ fr m)
 | apo {M α:Type} {d b:Nat} {s x:OO} {sv u:Value} {y:List α} {xs:List (List α)} {t e e' et ty:TI} {E:ah α} {bt:Nat} {all l:LO} {rk:RK R M} {Γ Γ1 Γ2 Γ3:QE} {fr:Fr} {f:Unit→Option M} (h0:dy Γ (.row b [u] et) Γ1) (h1:dy Γ1 (.own (aL e' E) u y) Γ2) (h2:dy Γ2 (.own (aL e (aL e' E)) sv xs) Γ3)
   (h:∀ v,D P cx (.o false all l rk (.own (aL e (aL e' E)) v (xs++[y]) :: .rd false Nf u y.length :: Γ3) ((d,v) :: fr) (f ()))):D P cx (.Py true e' E e t bt u b sv s x d ty all l rk Γ fr (fits bt (xs.length+1)>>=f))
 | PK {M:Type} {x y:OO} {a:Addr} {u:Value} {t ty:TI} {n:Nat} {all l:LO} {rk:RK R M} {Γ:QE} {fr:Fr} {m:Option M} [ht:sS P t n] (hx:bz fr x=some (.pointer (some a))) (hy:bz fr y=some u)
   (h:D P cx (.st a u n t x y ty all l rk Γ fr m)):D P cx (.e false (.store t x y) none ty all l rk Γ fr m)
 | stn {M:Type} {x y:OO} {b j n:Nat} {us cs ds:LV} {t e ty:TI} {all l:LO} {rk:RK R M} {Γ Γ1:QE} {fr:Fr} {m:Option M} (h0:dy Γ (.row b cs e) Γ1) (h1:rb us j cs ds) (h2:ud Γ us) (h3:us.length=n)
   (h:D P cx (.o false all l rk (.row b ds e :: Γ1) fr m)):D P cx (.st ⟨b,j,none⟩ (.agg us.toArray) n t x y ty all l rk Γ fr m)
 | st1 {M:Type} {x y:OO} {b j:Nat} {u:Value} {cs ds:LV} {t e ty:TI} {all l:LO} {rk:RK R M} {Γ Γ1:QE} {fr:Fr} {m:Option M} (h0:dy Γ (.row b cs e) Γ1) (h1:rb [u] j cs ds) (h2:One Γ u)
   (h:D P cx (.o false all l rk (.row b ds e :: Γ1) fr m)):D P cx (.st ⟨b,j,none⟩ u 1 t x y ty all l rk Γ fr m)
 | stl {M:Type} {l:rm} {x y:OO} {v u:Value} {j:Int} {t ty:TI} {all ops:LO} {rk:RK R M} {Γ:QE} {fr:Fr} {m:Option M} (hl:Loc Γ v l) (h:D P cx (.sl l v j u t x y ty all ops rk Γ fr m)):D P cx (.st (fi v 1 j) u 1 t x y ty all ops rk Γ fr m)
 | sti {M:Type} {x y:OO} {v:Value} {j z:Int} {k:IntKind} {xs:List Int} {t e ty:TI} {all l:LO} {rk:RK R M} {Γ Γ1:QE} {fr:Fr} {m:Option M} (h0:Rg v j Γ) (h1:dy Γ (.own (aL e (aK k)) v xs) Γ1)
   (h:D P cx (.o false all l rk (.own (aL e (aK k)) v (xs.set j.toNat z) :: Γ1) fr m)):D P cx (.sl .own v j (.int k z) t x y ty all l rk Γ fr m)
 | stw {M α:Type} {x y:OO} {v u:Value} {j:Int} {z:List α} {xs:List (List α)} {E:ah α} {t e e' ty:TI} {all l:LO} {rk:RK R M} {Γ Γ1 Γ2:QE} {fr:Fr} {m:Option M} (h0:Rg v j Γ) (h1:dy Γ (.own (aL e' E) u z) Γ1) (h2:dy Γ1 (.own (aL e (aL e' E)) v xs) Γ2)
   (h:D P cx (.o false all l rk (.own (aL e (aL e' E)) v (xs.set j.toNat z) :: Γ2) fr m)):D P cx (.sl .own v j u t x y ty all l rk Γ fr m)
 | sri {M:Type} {x y:OO} {v v':Value} {j j' z:Int} {k:IntKind} {zs:List Int} {xs:List (List Int)} {t e e' ty:TI} {o1 o2:Bool} {all l:LO} {rk:RK R M} {Γ Γ1 Γx:QE} {fr:Fr} {m:Option M} (h0:Rg v j Γ) (h1:qD Γ v o1 o2 (aK k) zs uW Γx) (h2:dy Γ (.own (aL e (aL e' (aK k))) v' xs) Γ1)
   (h:D P cx (.o false all l rk (.own (aL e (aL e' (aK k))) v' (xs.set j'.toNat (zs.set j.toNat z)) :: Γ1) fr m)):D P cx (.sl (.row v' j') v j (.int k z) t x y ty all l rk Γ fr m)
 | cvb {M:Type} {q:Bool} {d:Nat} {x:OO} {k k2:IntKind} {n:Int} {s t ty:TI} {all l:LO} {rk:RK R M} {Γ:QE} {fr:Fr} {m:Option M} [ht:Vm P s t k2] (hx:bz fr x=some (.int k n)) (h:D P cx (.o q all l rk Γ ((d,.int k2 (k2.wrap n)) :: fr) m)):D P cx (.e q (.convert s t x) (some d) ty all l rk Γ fr m)
 | cvs {M:Type} {q o1 o2:Bool} {d:Nat} {x:OO} {v:Value} {xs:List Int} {s t ty:TI} {all l:LO} {rk:RK R M} {Γ Γx:QE} {fr:Fr} {m:Option M} [ht:Vn P s t] (hx:bz fr x=some v) (hr:qD Γ v o1 o2 (aK .u8) xs uW Γx) (h:D P cx (.o q all l rk Γ ((d,.string (strOfNums xs)) :: fr) m)):D P cx (.e q (.convert s t x) (some d) ty all l rk Γ fr m)
 | mkm {M κ υ:Type} {d:Nat} {t ty:TI} {bq:BEq κ} {ek:κ→Value} {eu:υ→Value} {all l:LO} {rk:RK R M} {Γ:QE} {fr:Fr} {m:Option M} [ht:Iz P t κ υ bq ek eu]
   (h:∀ v,D P cx (.o false all l rk (.own (qU ek eu) v [] :: Γ) ((d,v) :: fr) m)):D P cx (.e false (.makeMap t none) (some d) ty all l rk Γ fr m)
 | mpu {M κ υ:Type} {x y z:OO} {v:Value} {t ty:TI} {bq:BEq κ} {ek:κ→Value} {eu:υ→Value} {xs:List (κ×υ)} {a:κ} {b:υ} {all l:LO} {rk:RK R M} {Γ Γ1:QE} {fr:Fr} {m:Option M} [ht:Iz P t κ υ bq ek eu] (hx:bz fr x=some v) (hy:bz fr y=some (ek a)) (hz:bz fr z=some (eu b)) (h1:dy Γ (.own (qU ek eu) v xs) Γ1)
   (h:D P cx (.o false all l rk (.own (qU ek eu) v (ue xs a b) :: Γ1) fr m)):D P cx (.e false (.mapUpdate t x y z) none ty all l rk Γ fr m)
 | Wx {M:Type} {d n:Nat} {ps:List (Nat×Operand)} {us:LV} {t e ty:TI} {all l:LO} {rk:RK R M} {Γ:QE} {fr:Fr} {m:Option M} [hz:F9 P t e] (hl:sx Γ fr 0 ps us) (hn:us.length=n) (hb:(Nat.ble 1 n && Nat.ble n 16777216)=true)
   (h:∀ b,D P cx (.o false all l rk (.row b us e :: Γ) ((d,.slice (some ⟨b,0,none⟩) n n) :: fr) m)):D P cx (.e false (.buildSlice t n ps.toArray) (some d) ty all l rk Γ fr m)
 | inj {J:Jd R} (h:Bx (lz P cx J)):D P cx J
end Go.Dk
