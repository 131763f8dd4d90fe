/- A calculus of walks: what is known of memory as a list of entries, and how entries are found and taken. No condition. -/
import Derived.Test.YtcnehblmgfbfoaaGreatLm
import Derived.Test.YtcnehblmgfbfoaaGreatLq
namespace Go.Dk
open Go Go.Li
abbrev Fr:=List (Nat×Value)
def look:Fr→Nat→Option Value
 | [],_=>none
 | (a,v) :: l,t=>bif Nat.beq t a then some v else look l t
def cq (r:NV) (f:Fr):Prop:=∀ t v,look f t=some v→r t=v
def ay (f:Fr):Operand→Option Value
 | .tmp t=>look f t
 | .const v=>some v
 | .global g=>some (.pointer (some ⟨g,0,none⟩))
 | .func g=>some (.func (.func g) #[] #[])
def tM (f:Fr):List Operand→Option (List Value)
 | []=>some []
 | x :: l=>match ay f x with
  | some v=>match tM f l with
   | some vs=>some (v :: vs)
   | none=>none
  | none=>none
theorem aQ {r:NV} {f:Fr} {x:OO} {v:Value} (h:cq r f) (hx:ay f x=some v):ev r x=v:=by
 cases x with
 | tmp t=>exact h t v hx
 | const c=>cases hx; rfl
 | global g=>cases hx; rfl
 | func g=>cases hx; rfl
theorem mq {r:NV} {f:Fr} (h:cq r f):∀ {l:List Operand} {vs:LV},tM f l=some vs→l.map (ev r)=vs:=by
 intro l
 induction l with
 | nil=>intro vs hx; cases hx; rfl
 | cons x l ih=>
  intro vs hx
  unfold tM at hx
  cases h1:ay f x with
  | none=>rw [h1] at hx; cases hx
  | some v=>
   cases h2:tM f l with
   | none=>rw [h1,h2] at hx; cases hx
   | some ws=>rw [h1,h2] at hx; cases hx; rw [List.map_cons,aQ h h1,ih h2]
theorem an {r:NV} {f:Fr} {t:Nat} {v:Value} (h:cq r f):cq (Dm r t v) ((t,v) :: f):=by
 intro s u hs
 unfold look at hs
 unfold Dm
 cases hb:Nat.beq s t with
 | true=>rw [hb] at hs; cases hs; rfl
 | false=>rw [hb] at hs; exact h s u hs
theorem vF {r:NV}:cq r []:=fun _ _ h=>nomatch h
inductive qm (f:Fr):Fr→Prop
 | nil:qm f []
 | cons {t:Nat} {v:Value} {g:Fr} (h:look f t=some v) (k:qm f g):qm f ((t,v) :: g)
theorem qm.sound {r:NV} {f g:Fr} (h:qm f g) (ha:cq r f):cq r g:=by
 induction h with
 | nil=>exact vF
 | cons h _ ih=>
  intro s u hs
  unfold look at hs
  cases hb:Nat.beq s _ with
  | true=>rw [hb] at hs; cases hs; rw [Nat.eq_of_beq_eq_true hb]; exact ha _ _ h
  | false=>rw [hb] at hs; exact ih s u hs
inductive aq:Type 1
 | own {α:Type} (T:ah α) (v:Value) (x:α)
 | om {α:Type} (e:TI) (E:ah α) (v:Value) (xs:List α)
 | row (b:Nat) (cs:LV) (e:TI)
 | rd (o:Bool) {α:Type} (T:ah α) (v:Value) (x:α)
 | ad (o1 o2:Bool) (v:Value) (j:Int) {α:Type} (T:ah α) (x:α)
 | au (p:Addr) (cs:LV)
 | hd (v:Value) (j:Int) (u:Value)
 | fv (e:TI) {α:Type} (E:ah α) (v:Value) (xs:List α) (j:Int) (u:Value)
abbrev QE:=List aq
def vG:Value→Nat
 | .slice _ n _=>n
 | _=>0
def uX (o:Bool) (Z:Nat→Prop) (cur:LN) (b:Nat):Prop:=match o with | true=>b∈cur | false=>Z b
def fact (Z:Nat→Prop) (w:World) (cur:LN):aq→Prop
 | .rd o T v x=>∃ g,T.rep w.heap [v] x g∧∀ b∈g,uX o Z cur b
 | .ad o1 o2 v j T x=>0≤j∧j.toNat < vG v∧∃ u g,w.cell? (cn v 1 j)=some u∧T.rep w.heap [u] x g∧uX o1 Z cur (cn v 1 j).block∧∀ b∈g,uX o2 Z cur b
 | .au p cs=>At w p cs∧(cs≠[]→Z p.block)
 | .hd v j u=>0≤j∧j.toNat < vG v∧w.cell? (cn v 1 j)=some u∧(cn v 1 j).block∈cur
 | _=>False
def Km {α:Type} (e:TI) (E:ah α) (v:Value) (xs:List α) (j:Int) (u:Value) (h:Array Obj) (f:LN):Prop:=
 (∀ b∈f,b < h.size)∧∀ h':Array Obj,(∀ b∈f,h'[b]? = h[b]?)→∀ z' k',E.rep h' [u] z' k'→∃ f',f'.Perm (f++k')∧(aJ e E).rep h' [v] (xs.set j.toNat z') f'
theorem Km.dp {α:Type} {e:TI} {E:ah α} {v:Value} {xs:List α} {j:Int} {u:Value} {h h2:Array Obj} {f:LN} (hh:Km e E v xs j u h f) (hb:∀ b∈f,h2[b]? = h[b]?) (hs:h.size≤h2.size):Km e E v xs j u h2 f:=
 ⟨fun b hm=>Nat.lt_of_lt_of_le (hh.1 b hm) hs,fun h' cg z' k' hr=>hh.2 h' (fun b hm=>(cg b hm).trans (hb b hm)) z' k' hr⟩
theorem Kn {α:Type} {E:ah α} {w:World} {e:TI} {v u:Value} {xs:List α} {f:LN} {j:Int} {z:α} (h1:E.size=1) (hO:(aJ e E).rep w.heap [v] xs f) (hz:xs[j.toNat]? = some z) (hu:w.cell? (cn v 1 j)=some u) :
  ∃ k g,E.rep w.heap [u] z k∧(k++g).Perm f∧Km e E v xs j u w.heap g:=by
 obtain ⟨base,cap,hv,hr⟩:=hO
 obtain rfl:v = .slice base xs.length cap:=by simpa using hv
 have bb:j.toNat < xs.length:=(List.getElem?_eq_some_iff.1 hz).1
 rcases hr with ⟨_,_,rfl,_⟩ | ⟨b,cur,f0,rfl,hg,rfl,BQ,BD,vy,c9⟩
 ·simp at bb
 ·rw [h1,Nat.mul_one] at vy c9
  have uf:cn (.slice (some ⟨b,0,none⟩) xs.length cap) 1 j = ⟨b,j.toNat,none⟩:=by
   simp only [cn,gw,Nat.zero_add,Nat.mul_one]
  rw [uf,cell_of_row w b _ cur e _ hg] at hu
  have PV:∀ i∈f0,i < w.heap.size:=mr c9
  have Np:b < w.heap.size:=(Array.getElem?_eq_some_iff.1 hg).1
  obtain ⟨c,g0,g1,g2,p,q,Er,hc,hp,BE,pr⟩:=Am j.toNat z c9 hz
  subst Er
  rw [h1,Nat.mul_one] at hp
  have Es:c.length=1:=by rw [E.len BE,h1]
  obtain ⟨c0,rfl⟩ : ∃ c0,c=[c0]:=by match c,Es with | [c0],_=>exact ⟨c0,rfl⟩
  have UY:c0=u:=by
   have h2:(cur.toList.take xs.length)[j.toNat]? = some c0:=by
    rw [hc,List.append_assoc,List.getElem?_append_right (by omega),hp,Nat.sub_self]; rfl
   rw [List.getElem?_take,if_pos bb,Array.getElem?_toList,hu] at h2
   exact (Option.some.inj h2).symm
  subst UY
  refine ⟨g1,b :: (g0++g2),BE,?_,⟨fun i hi=>?_,fun h' hb z' k' hr=>⟨b :: (g0++k'++g2),?_,⟨_,cap,by rw [List.length_set],.inr ⟨b,cur,g0++k'++g2,rfl,(hb b (by simp)).trans hg,rfl,by rw [List.length_set]; exact BQ,BD,by simpa [h1] using vy,?_⟩⟩⟩⟩⟩
  ·refine (List.perm_append_comm (l₁:=g1) (l₂:=b :: (g0++g2))).trans ?_
   rw [List.cons_append]
   refine List.Perm.cons b ?_
   rw [List.append_assoc,List.append_assoc]
   exact List.Perm.append_left g0 List.perm_append_comm
  ·rcases List.mem_cons.1 hi with rfl | hi
   ·exact Np
   ·exact PV i (by rcases List.mem_append.1 hi with hi | hi <;> simp [hi])
  ·rw [List.cons_append]
   refine List.Perm.cons b ?_
   rw [List.append_assoc,List.append_assoc]
   exact List.Perm.append_left g0 List.perm_append_comm
  ·rw [List.length_set,h1,Nat.mul_one,hc]
   exact pr h' [c0] z' k' (fun i hi=>hb i (by simp [hi])) (fun i hi=>hb i (by simp [hi])) hr
def pw (Z:Nat→Prop) (w:World) (f:LN):aq→Prop
 | .own T v x=>T.rep w.heap [v] x f
 | .om e E v xs=>∃ us g,(aJ e se).rep w.heap [v] us f∧dm E w.heap us xs g∧(∀ b∈g,Z b)∧E.size=1
 | .row b cs e=>f=[b]∧Row w b cs e
 | .fv e E v xs j u=>Km e E v xs j u w.heap f
 | _=>False
def SA (Z:Nat→Prop) (w:World):List aq→List Nat→List Nat→Prop
 | [],_,F=>F=[]
 | .own T v x :: Γ,_,F=>∃ f F',F=f++F'∧pw Z w f (.own T v x)∧SA Z w Γ f F'
 | .om e E v xs :: Γ,_,F=>∃ f F',F=f++F'∧pw Z w f (.om e E v xs)∧SA Z w Γ f F'
 | .row b cs e :: Γ,cur,F=>∃ f F',F=f++F'∧pw Z w f (.row b cs e)∧SA Z w Γ cur F'
 | .rd o T v x :: Γ,cur,F=>fact Z w cur (.rd o T v x)∧SA Z w Γ cur F
 | .ad o1 o2 v j T x :: Γ,cur,F=>fact Z w cur (.ad o1 o2 v j T x)∧SA Z w Γ cur F
 | .au p cs :: Γ,cur,F=>fact Z w cur (.au p cs)∧SA Z w Γ cur F
 | .hd v j u :: Γ,cur,F=>fact Z w cur (.hd v j u)∧SA Z w Γ cur F
 | .fv e E v xs j u :: Γ,_,F=>∃ f F',F=f++F'∧pw Z w f (.fv e E v xs j u)∧SA Z w Γ f F'
section
variable {Z Z':Nat→Prop} {w w':World} {cur dg F f H:LN} {Γ Γ' Γ1 Γ2 Δ:QE} {e:aq}
theorem uX.mono {o:Bool} {b:Nat} (hz:∀ b,Z b→Z' b) (hc:∀ b∈cur,b∈dg) (h:uX o Z cur b):uX o Z' dg b:=by
 cases o
 ·exact hz b h
 ·exact hc b h
theorem fact.mono (hz:∀ b,Z b→Z' b) (hc:∀ b∈cur,b∈dg) (h:fact Z w cur e):fact Z' w dg e:=by
 cases e with
 | rd o T v x=>obtain ⟨g,h1,h2⟩:=h; exact ⟨g,h1,fun b hb=>(h2 b hb).mono hz hc⟩
 | ad o1 o2 v j T x=>obtain ⟨j0,j1,u,g,h1,h2,h3,h4⟩:=h; exact ⟨j0,j1,u,g,h1,h2,h3.mono hz hc,fun b hb=>(h4 b hb).mono hz hc⟩
 | au p cs=>exact ⟨h.1,fun hn=>hz _ (h.2 hn)⟩
 | hd v j u=>exact ⟨h.1,h.2.1,h.2.2.1,hc _ h.2.2.2⟩
 | _=>exact h.elim
theorem pw.mono (hz:∀ b,Z b→Z' b) (h:pw Z w f e):pw Z' w f e:=by
 cases e with
 | om e E v xs=>obtain ⟨us,g,h1,h2,h3,h4⟩:=h; exact ⟨us,g,h1,h2,fun b hb=>hz b (h3 b hb),h4⟩
 | _=>exact h
theorem SA.mono (hz:∀ b,Z b→Z' b):∀ {Γ:QE} {cur dg F:LN},(∀ b∈cur,b∈dg)→SA Z w Γ cur F→SA Z' w Γ dg F:=by
 intro Γ
 induction Γ with
 | nil=>intro cur dg F hc h; exact h
 | cons e Γ ih=>
  intro cur dg F hc h
  cases e with
  | own T v x=>obtain ⟨f,F',h1,h2,h3⟩:=h; exact ⟨f,F',h1,h2.mono hz,ih (fun _ h=>h) h3⟩
  | om e E v xs=>obtain ⟨f,F',h1,h2,h3⟩:=h; exact ⟨f,F',h1,h2.mono hz,ih (fun _ h=>h) h3⟩
  | row b cs e=>obtain ⟨f,F',h1,h2,h3⟩:=h; exact ⟨f,F',h1,h2.mono hz,ih hc h3⟩
  | rd o T v x=>exact ⟨h.1.mono hz hc,ih hc h.2⟩
  | ad o1 o2 v j T x=>exact ⟨h.1.mono hz hc,ih hc h.2⟩
  | au p cs=>exact ⟨h.1.mono hz hc,ih hc h.2⟩
  | hd v j u=>exact ⟨h.1.mono hz hc,ih hc h.2⟩
  | fv e E v xs j u=>obtain ⟨f,F',h1,h2,h3⟩:=h; exact ⟨f,F',h1,h2,ih (fun _ h=>h) h3⟩
theorem SA.any (h:SA Z w Γ [] F):SA Z w Γ cur F:=SA.mono (cur:=[]) (fun _ h=>h) (fun b (hb:b∈([]:LN))=>absurd hb List.not_mem_nil) h
theorem uX.out {o:Bool} {b:Nat} (hz:∀ b∈H,¬ Z b) (hc:∀ b∈H,b ∉ cur) (h:uX o Z cur b):b ∉ H:=by
 cases o
 ·exact fun hb=>hz b hb h
 ·exact fun hb=>hc b hb h
theorem fact.dp (hC:ak H w w') (hz:∀ b∈H,¬ Z b) (hc:∀ b∈H,b ∉ cur) (h:fact Z w cur e):fact Z w' cur e:=by
 cases e with
 | rd o T v x=>obtain ⟨g,h1,h2⟩:=h; exact ⟨g,T.dp h1 hC fun b hb=>(h2 b hb).out hz hc,h2⟩
 | ad o1 o2 v j T x=>obtain ⟨j0,j1,u,g,h1,h2,h3,h4⟩:=h; exact ⟨j0,j1,u,g,hC.cell (h3.out hz hc) h1,T.dp h2 hC fun b hb=>(h4 b hb).out hz hc,h3,h4⟩
 | au p cs=>
  refine ⟨?_,h.2⟩
  cases cs with
  | nil=>intro j u hj; simp at hj
  | cons c cs=>exact h.1.dp hC fun hb=>hz _ hb (h.2 (by simp))
 | hd v j u=>exact ⟨h.1,h.2.1,hC.cell (fun hb=>hc _ hb h.2.2.2) h.2.2.1,h.2.2.2⟩
 | _=>exact h.elim
theorem pw.dp (hC:ak H w w') (hz:∀ b∈H,¬ Z b) (hf:∀ b∈H,b ∉ f) (h:pw Z w f e):pw Z w' f e:=by
 cases e with
 | own T v x=>exact T.dp h hC fun b hb hm=>hf b hm hb
 | om e E v xs=>
  obtain ⟨us,g,h1,h2,h3,h4⟩:=h
  exact ⟨us,g,(aJ e se).dp h1 hC fun b hb hm=>hf b hm hb,jw h2 fun b hb=>hC.block b (mr h2 b hb) fun hm=>hz b hm (h3 b hb),h3,h4⟩
 | row b cs e=>obtain ⟨rfl,h2⟩:=h; exact ⟨rfl,h2.dp hC fun hm=>hf b hm (by simp)⟩
 | fv e E v xs j u=>exact Km.dp h (fun b hb=>hC.block b (h.1 b hb) fun hm=>hf b hm hb) hC.size
 | _=>exact h.elim
theorem SA.dp (hC:ak H w w') (hz:∀ b∈H,¬ Z b):∀ {Γ:QE} {cur F:LN},(∀ b∈H,b ∉ cur)→(∀ b∈H,b ∉ F)→SA Z w Γ cur F→SA Z w' Γ cur F:=by
 intro Γ
 induction Γ with
 | nil=>intro cur F hc hF h; exact h
 | cons e Γ ih=>
  intro cur F hc hF h
  cases e with
  | own T v x=>
   obtain ⟨f,F',rfl,h2,h3⟩:=h
   have a1:∀ b∈H,b ∉ f:=fun b hb hm=>hF b hb (List.mem_append_left _ hm)
   have a2:∀ b∈H,b ∉ F':=fun b hb hm=>hF b hb (List.mem_append_right _ hm)
   exact ⟨f,F',rfl,h2.dp hC hz a1,ih a1 a2 h3⟩
  | om e E v xs=>
   obtain ⟨f,F',rfl,h2,h3⟩:=h
   have a1:∀ b∈H,b ∉ f:=fun b hb hm=>hF b hb (List.mem_append_left _ hm)
   have a2:∀ b∈H,b ∉ F':=fun b hb hm=>hF b hb (List.mem_append_right _ hm)
   exact ⟨f,F',rfl,h2.dp hC hz a1,ih a1 a2 h3⟩
  | row b cs e=>
   obtain ⟨f,F',rfl,h2,h3⟩:=h
   have a1:∀ b∈H,b ∉ f:=fun b hb hm=>hF b hb (List.mem_append_left _ hm)
   have a2:∀ b∈H,b ∉ F':=fun b hb hm=>hF b hb (List.mem_append_right _ hm)
   exact ⟨f,F',rfl,h2.dp hC hz a1,ih hc a2 h3⟩
  | rd o T v x=>exact ⟨h.1.dp hC hz hc,ih hc hF h.2⟩
  | ad o1 o2 v j T x=>exact ⟨h.1.dp hC hz hc,ih hc hF h.2⟩
  | au p cs=>exact ⟨h.1.dp hC hz hc,ih hc hF h.2⟩
  | hd v j u=>exact ⟨h.1.dp hC hz hc,ih hc hF h.2⟩
  | fv e E v xs j u=>
   obtain ⟨f,F',rfl,h2,h3⟩:=h
   have a1:∀ b∈H,b ∉ f:=fun b hb hm=>hF b hb (List.mem_append_left _ hm)
   have a2:∀ b∈H,b ∉ F':=fun b hb hm=>hF b hb (List.mem_append_right _ hm)
   exact ⟨f,F',rfl,h2.dp hC hz a1,ih a1 a2 h3⟩
theorem SA.ic (hC:ak [] w w') (h:SA Z w Γ cur F):SA Z w' Γ cur F:=h.dp hC (fun _ h=>nomatch h) (fun _ h=>nomatch h) (fun _ h=>nomatch h)
theorem pw.lt (h:pw Z w f e):∀ b∈f,b < w.heap.size:=by
 cases e with
 | own T v x=>exact T.lt h
 | om e E v xs=>obtain ⟨us,g,h1,h2,h3,h4⟩:=h; exact ah.lt _ h1
 | row b cs e=>obtain ⟨rfl,h2⟩:=h; exact UZ h2.lt
 | fv e E v xs j u=>exact h.1
 | _=>exact h.elim
theorem SA.lt:∀ {Γ:QE} {cur F:LN},SA Z w Γ cur F→∀ b∈F,b < w.heap.size:=by
 intro Γ
 induction Γ with
 | nil=>intro cur F h b hb; rw [h] at hb; cases hb
 | cons e Γ ih=>
  intro cur F h
  cases e with
  | own T v x=>obtain ⟨f,F',rfl,h2,h3⟩:=h; exact fun b hb=>(List.mem_append.1 hb).elim (h2.lt b) (ih h3 b)
  | om e E v xs=>obtain ⟨f,F',rfl,h2,h3⟩:=h; exact fun b hb=>(List.mem_append.1 hb).elim (h2.lt b) (ih h3 b)
  | row b cs e=>obtain ⟨f,F',rfl,h2,h3⟩:=h; exact fun b hb=>(List.mem_append.1 hb).elim (h2.lt b) (ih h3 b)
  | rd o T v x=>exact ih h.2
  | ad o1 o2 v j T x=>exact ih h.2
  | au p cs=>exact ih h.2
  | hd v j u=>exact ih h.2
  | fv e E v xs j u=>obtain ⟨f,F',rfl,h2,h3⟩:=h; exact fun b hb=>(List.mem_append.1 hb).elim (h2.lt b) (ih h3 b)
theorem SA.cons (h:SA Z w Γ [] F) (ho:pw Z w f e):SA Z w (e :: Γ) [] (f++F):=by
 cases e with
 | own T v x=>exact ⟨f,F,rfl,ho,h.any⟩
 | om e E v xs=>exact ⟨f,F,rfl,ho,h.any⟩
 | row b cs e=>exact ⟨f,F,rfl,ho,h⟩
 | fv e E v xs j u=>exact ⟨f,F,rfl,ho,h.any⟩
 | _=>exact ho.elim
theorem SA.fact (h:SA Z w Γ [] F) (hf:fact Z w [] e):SA Z w (e :: Γ) [] F:=by
 cases e with
 | own T v x=>exact hf.elim
 | om e E v xs=>exact hf.elim
 | row b cs e=>exact hf.elim
 | fv e E v xs j u=>exact hf.elim
 | _=>exact ⟨hf,h⟩
end
def Sz (h:Array Obj) (a:Addr):Option Value:=match h[a.block]? with
 | some (.cells c _ _)=>if a.spot.isSome then none else c[a.off]?
 | _=>none
def wU {α:Type} (A:ah α):ah α where
 size:=1
 rep h cs x f:=∃ p lf g,cs=[.pointer (some p)]∧p.block < h.size∧(∀ j u,lf[j]? = some u→Sz h (p.add j)=some u)∧A.rep h lf x g∧f=p.block :: g
 len:=by rintro h cs x f ⟨p,lf,g,rfl,_⟩; rfl
 one:=by rintro h cs x f ⟨p,lf,g,rfl,_⟩ v hv; simp at hv; subst hv; rfl
 congr:=by
  rintro h h' cs x f ⟨p,lf,g,rfl,h1,h2,h3,rfl⟩ hb
  have hp:=hb p.block (by simp)
  refine ⟨p,lf,g,rfl,?_,fun j u hj=>?_,A.congr h3 fun b hm=>hb b (by simp [hm]),rfl⟩
  ·rw [Array.getElem?_eq_getElem h1] at hp
   exact (Array.getElem?_eq_some_iff.1 hp).1
  ·rw [← h2 j u hj]
   unfold Sz
   rw [wi,hp]
 lt:=by
  rintro h cs x f ⟨p,lf,g,rfl,h1,h2,h3,rfl⟩ b hb
  rcases List.mem_cons.1 hb with rfl | hb
  ·exact h1
  ·exact A.lt h3 b hb
class Dt {α:Type} (B:ah α):Prop where
 uy:∀ {h:Array Obj} {cs:LV} {x y:α} {f g:LN},B.rep h cs x f→B.rep h cs y g→x=y
def sg {α:Type} (S:ah α):ah α where
 size:=S.size
 rep h cs x f:=True∧S.rep h cs x f
 len:=fun h=>S.len h.2
 one:=fun h=>S.one h.2
 congr:=fun h hb=>⟨trivial,S.congr h.2 hb⟩
 lt:=fun h=>S.lt h.2
theorem Le.str {α:Type} {S:ah α}:Le S (sg S):=⟨rfl,fun h=>⟨trivial,h⟩⟩
def so {α:Type} (R:Value→α→Prop) (E:ah α):ah α where
 size:=E.size
 rep h cs x f:=(∃ v,cs=[v]∧R v x)∧E.rep h cs x f
 len:=fun h=>E.len h.2
 one:=fun h=>E.one h.2
 congr:=fun h hb=>⟨h.1,E.congr h.2 hb⟩
 lt:=fun h=>E.lt h.2
def jb {α β:Type} (A:ah α) (B:ah β):ah (α×β) where
 size:=A.size+B.size
 rep h cs x f:=∃ c1 c2 f1 f2,cs=c1++c2∧f=f1++f2∧A.rep h c1 x.1 f1∧B.rep h c2 x.2 f2
 len:=by rintro h cs x f ⟨c1,c2,f1,f2,rfl,rfl,h1,h2⟩; rw [List.length_append,A.len h1,B.len h2]
 one:=by
  rintro h cs x f ⟨c1,c2,f1,f2,rfl,rfl,h1,h2⟩ v hv
  rcases List.mem_append.1 hv with hv | hv
  ·exact A.one h1 v hv
  ·exact B.one h2 v hv
 congr:=by
  rintro h h' cs x f ⟨c1,c2,f1,f2,rfl,rfl,h1,h2⟩ hb
  exact ⟨c1,c2,f1,f2,rfl,rfl,A.congr h1 fun b hm=>hb b (List.mem_append_left _ hm),B.congr h2 fun b hm=>hb b (List.mem_append_right _ hm)⟩
 lt:=by
  rintro h cs x f ⟨c1,c2,f1,f2,rfl,rfl,h1,h2⟩ b hb
  rcases List.mem_append.1 hb with hb | hb
  ·exact A.lt h1 b hb
  ·exact B.lt h2 b hb
def An {α β:Type} (g:β→α) (A:ah α):ah β where
 size:=A.size
 rep h cs y f:=A.rep h cs (g y) f
 len:=A.len
 one:=A.one
 congr:=A.congr
 lt:=A.lt
class RTs {α:Type} (A:ah α) (B:outParam (ah α)):Prop where
 le:Le A B
 uy:Dt B
theorem Le.pair {α β:Type} {A A':ah α} {B B':ah β} (h:Le A A') (k:Le B B'):Le (jb A B) (jb A' B'):=
 ⟨show A.size+B.size=A'.size+B'.size by rw [h.size,k.size],by rintro h' cs x f ⟨c1,c2,f1,f2,e1,e2,h1,h2⟩; exact ⟨c1,c2,f1,f2,e1,e2,h.le h1,k.le h2⟩⟩
theorem Le.map {α β:Type} {g:β→α} {A A':ah α} (h:Le A A'):Le (An g A) (An g A'):=⟨h.size,fun hr=>h.le hr⟩
inductive RT:{α:Type}→ah α→ah α→Prop
 | i {k:IntKind}:RT (aN k) (aN k)
 | b:RT jc jc
 | own {α:Type} {e:TI} {A B:ah α} (h:RT A B):RT (aJ e A) (aV B)
 | Ko {α:Type} {A B:ah α} (h:RT A B):RT (aV A) (aV B)
 | ptr {α:Type} {A:ah α} [hd:Dt A]:RT (wU A) (wU A)
 | str {α:Type} {A:ah α} [hd:Dt A]:RT (sg A) (sg A)
 | inx {α:Type} {R:Value→α→Prop} {A B:ah α} (h:RT A B):RT (so R A) (so R A)
 | inn {α:Type} {R:Value→α→Prop} {A B:ah α} (h:RT A B):RT (so R A) B
 | sos {α:Type} {A B:ah α} [hs:RTs A B]:RT A (sg B)
theorem RT.le {α:Type} {A B:ah α} (h:RT A B):Le A B:=by
 induction h with
 | i=>exact Le.refl _
 | b=>exact Le.refl _
 | own _ ih=>exact Le.own ih _
 | Ko _ ih=>exact Le.Ko ih
 | ptr=>exact Le.refl _
 | str=>exact Le.refl _
 | sos=>rename_i hs; exact ⟨hs.le.size,fun h=>⟨trivial,hs.le.le h⟩⟩
 | inx _ _=>exact Le.refl _
 | inn _ ih=>exact ⟨ih.size,fun h=>ih.le h.2⟩
theorem PW {α:Type} {E:ah α} (hE:∀ {h:Array Obj} {cs:LV} {x y:α} {f g:LN},E.rep h cs x f→E.rep h cs y g→x=y) {h:Array Obj}:∀ {xs ys:List α} {cs:LV} {f g:LN},xs.length=ys.length→dm E h cs xs f→dm E h cs ys g→xs=ys:=by
 intro xs
 induction xs with
 | nil=>intro ys cs f g hl _ _; cases ys with
  | nil=>rfl
  | cons y ys=>cases hl
 | cons x xs ih=>
  intro ys cs f g hl h1 h2
  cases ys with
  | nil=>cases hl
  | cons y ys=>
   obtain ⟨c,lf,f1,f2,rfl,rfl,a1,a2⟩:=h1
   obtain ⟨d,U0,g1,g2,e1,rfl,b1,b2⟩:=h2
   obtain ⟨rfl,rfl⟩:=List.append_inj e1 ((E.len a1).trans (E.len b1).symm)
   rw [hE a1 b1,ih (by simpa using hl) a2 b2]
theorem Ga {α:Type} {B:ah α} (ih:∀ {h:Array Obj} {cs:LV} {x y:α} {f g:LN},B.rep h cs x f→B.rep h cs y g→x=y) {h:Array Obj} {cs:LV} {x y:List α} {f g:LN} (h1:(aV B).rep h cs x f) (h2:(aV B).rep h cs y g):x=y:=by
 obtain ⟨base,cap,rfl,a⟩:=h1
 obtain ⟨Lx,PX,e,b⟩:=h2
 simp only [List.cons.injEq,Value.slice.injEq,and_true] at e
 obtain ⟨rfl,hl,rfl⟩:=e
 rcases a with ⟨rfl,_⟩ | ⟨b1,off,cr,e,fz,f',rfl,a2,rfl,_,a3⟩
 ·exact (List.eq_nil_of_length_eq_zero hl.symm).symm
 ·rcases b with ⟨rfl,_⟩ | ⟨Kr,ao3,cr',e',fz',g',e1,c2,rfl,_,c3⟩
  ·exact List.eq_nil_of_length_eq_zero hl
  ·cases e1
   rw [a2] at c2
   cases c2
   rw [hl] at a3
   exact PW ih hl a3 c3
theorem TQ {α:Type} {A:ah α} [hd:Dt A] {h:Array Obj} {cs:LV} {x y:α} {f g:LN} (h1:(wU A).rep h cs x f) (h2:(wU A).rep h cs y g):x=y:=by
 obtain ⟨p,c1,g1,rfl,_,a1,a2,rfl⟩:=h1
 obtain ⟨q,c2,g2,e,_,b1,b2,rfl⟩:=h2
 cases e
 have hl:c1.length=c2.length:=(A.len a2).trans (A.len b2).symm
 have he:c1=c2:=by
  refine List.ext_getElem hl fun j hj hk=>?_
  exact Option.some.inj ((a1 j _ (List.getElem?_eq_getElem hj)).symm.trans (b1 j _ (List.getElem?_eq_getElem hk)))
 subst he
 exact hd.uy a2 b2
instance Dt.i {k:IntKind}:Dt (aN k):=⟨by rintro h cs x y f g ⟨rfl,_⟩ ⟨e,_⟩; cases e; rfl⟩
instance Dt.b:Dt jc:=⟨by rintro h cs x y f g ⟨rfl,_⟩ ⟨e,_⟩; cases e; rfl⟩
instance Dt.s {α:Type} {B:ah α} [hb:Dt B]:Dt (aV B):=⟨Ga hb.uy⟩
theorem RT.uy {α:Type} {A B:ah α} (h:RT A B):∀ {h:Array Obj} {cs:LV} {x y:α} {f g:LN},B.rep h cs x f→B.rep h cs y g→x=y:=by
 induction h with
 | i=>exact Dt.i.uy
 | b=>exact Dt.b.uy
 | own _ ih=>exact Ga ih
 | Ko _ ih=>exact Ga ih
 | ptr=>exact TQ
 | @str α A hd=>exact fun h1 h2=>hd.uy h1.2 h2.2
 | sos=>rename_i hs; exact fun h1 h2=>hs.uy.uy h1.2 h2.2
 | inx h ih=>exact fun h1 h2=>ih (h.le.le h1.2) (h.le.le h2.2)
 | inn _ ih=>exact ih
def Gb (Z:Nat→Prop) (w:World) (cur:LN) (o1 o2:Bool) {α:Type} (E:ah α) (v:Value) (xs:List α):Prop:=
 (∃ g,(aV E).rep w.heap [v] xs g∧∀ b∈g,uX o1 Z cur b∨uX o2 Z cur b)∧(E.size=1→∀ (j:Int) (y:α),0≤j→xs[j.toNat]? = some y→fact Z w cur (.ad o1 o2 v j E y))
inductive lr:List aq→Value→Bool→Bool→{α:Type}→ah α→List α→aq→List aq→Prop
 | nil {α:Type} {E:ah α} {e:aq} {Γ:QE}:lr Γ (.slice none 0 0) false false E [] e Γ
 | rd {o:Bool} {α:Type} {E:ah α} {T:ah (List α)} {v:Value} {x:List α} {e:aq} {Γ:QE} (h:RT T (aV E)):lr (.rd o T v x :: Γ) v o o E x e (.rd o T v x :: e :: Γ)
 | own {α:Type} {E:ah α} {T:ah (List α)} {v:Value} {x:List α} {e:aq} {Γ:QE} (h:RT T (aV E)):lr (.own T v x :: Γ) v true true E x e (.own T v x :: e :: Γ)
 | om {α:Type} {t:TI} {E E':ah α} {v:Value} {xs:List α} {e:aq} {Γ:QE} (h:RT E E'):lr (.om t E v xs :: Γ) v true false E' xs e (.om t E v xs :: e :: Γ)
 | there {o1 o2:Bool} {α:Type} {E:ah α} {v:Value} {x:List α} {e a:aq} {Γ Γ':QE} (h:lr Γ v o1 o2 E x e Γ'):lr (a :: Γ) v o1 o2 E x e (a :: Γ')
inductive uY:List aq→Addr→Bool→{α:Type}→ah α→α→aq→List aq→Prop
 | ad {o1 o2:Bool} {α:Type} {E:ah α} {v:Value} {j:Int} {x:α} {e:aq} {Γ:QE}:uY (.ad o1 o2 v j E x :: Γ) (cn v 1 j) o2 E x e (.ad o1 o2 v j E x :: e :: Γ)
 | there {o2:Bool} {α:Type} {E:ah α} {v:Addr} {x:α} {e a:aq} {Γ Γ':QE} (h:uY Γ v o2 E x e Γ'):uY (a :: Γ) v o2 E x e (a :: Γ')
inductive zC:List aq→Value→Int→Value→List aq→Prop
 | ad {o2:Bool} {α:Type} {E:ah α} {v u:Value} {j:Int} {x:α} {Γ:QE}:zC (.ad true o2 v j E x :: Γ) v j u (.ad true o2 v j E x :: .hd v j u :: Γ)
 | U1 {o2:Bool} {α:Type} {E:ah α} {v u:Value} {j:Int} {x:α} {Γ:QE}:zC (.ad false o2 v j E x :: Γ) v j u (.ad false o2 v j E x :: Γ)
 | there {v u:Value} {j:Int} {a:aq} {Γ Γ':QE} (h:zC Γ v j u Γ'):zC (a :: Γ) v j u (a :: Γ')
inductive o5:List aq→Addr→Value→Prop
 | row {b j:Nat} {cs:LV} {t:TI} {v:Value} {Γ:QE} (h:cs[j]? = some v):o5 (.row b cs t :: Γ) ⟨b,j,none⟩ v
 | at {p:Addr} {j:Nat} {cs:LV} {v:Value} {Γ:QE} (h:cs[j]? = some v):o5 (.au p cs :: Γ) (p.add j) v
 | Nq {p:Addr} {cs:LV} {v:Value} {Γ:QE} (h:cs[0]? = some v):o5 (.au p cs :: Γ) p v
 | at2 {p:Addr} {i j:Nat} {cs:LV} {v:Value} {Γ:QE} (h:cs[i+j]? = some v) (hn:Nat.beq (i+j) 0=false):o5 (.au p cs :: Γ) ⟨p.block,p.off+i+j,none⟩ v
 | there {a:Addr} {v:Value} {e:aq} {Γ:QE} (h:o5 Γ a v):o5 (e :: Γ) a v
inductive ot:List aq→List aq→Prop
 | nil:ot [] []
 | HM {α:Type} {T:ah α} {v:Value} {x:α} {Γ Γ':QE} (h:ot Γ Γ'):ot (.rd true T v x :: Γ) Γ'
 | Nr {α:Type} {T:ah α} {v:Value} {x:α} {Γ Γ':QE} (h:ot Γ Γ'):ot (.rd false T v x :: Γ) (.rd false T v x :: Γ')
 | adt {o:Bool} {v:Value} {j:Int} {α:Type} {T:ah α} {x:α} {Γ Γ':QE} (h:ot Γ Γ'):ot (.ad true o v j T x :: Γ) Γ'
 | U1 {v:Value} {j:Int} {α:Type} {T:ah α} {x:α} {Γ Γ':QE} (h:ot Γ Γ'):ot (.ad false false v j T x :: Γ) (.ad false false v j T x :: Γ')
 | au {p:Addr} {cs:LV} {Γ Γ':QE} (h:ot Γ Γ'):ot (.au p cs :: Γ) (.au p cs :: Γ')
 | row {b:Nat} {cs:LV} {t:TI} {Γ Γ':QE} (h:ot Γ Γ'):ot (.row b cs t :: Γ) (.row b cs t :: Γ')
 | hd {v u:Value} {j:Int} {Γ Γ':QE} (h:ot Γ Γ'):ot (.hd v j u :: Γ) Γ'
 | fv {α:Type} {e:TI} {E:ah α} {v u:Value} {xs:List α} {j:Int} {Γ:QE}:ot (.fv e E v xs j u :: Γ) (.fv e E v xs j u :: Γ)
 | own {α:Type} {T:ah α} {v:Value} {x:α} {Γ:QE}:ot (.own T v x :: Γ) (.own T v x :: Γ)
 | om {α:Type} {t:TI} {E:ah α} {v:Value} {xs:List α} {Γ:QE}:ot (.om t E v xs :: Γ) (.om t E v xs :: Γ)
inductive bz:List aq→aq→List aq→Prop
 | nil {α:Type} {t:TI} {E:ah α} {Γ:QE}:bz Γ (.own (aJ t E) (.slice none 0 0) []) Γ
 | own {α:Type} {T:ah α} {v:Value} {x:α} {Γ Γ':QE} (h:ot Γ Γ'):bz (.own T v x :: Γ) (.own T v x) Γ'
 | om {α:Type} {t:TI} {E:ah α} {v:Value} {xs:List α} {Γ Γ':QE} (h:ot Γ Γ'):bz (.om t E v xs :: Γ) (.om t E v xs) Γ'
 | omn {α:Type} {t:TI} {E:ah α} {Γ:QE} (h:E.size=1):bz Γ (.om t E (.slice none 0 0) []) Γ
 | omz {α β:Type} {t:TI} {E:ah α} {E':ah β} {v:Value} {Γ Γ':QE} (h1:E.size=1) (h2:E'.size=1) (h:ot Γ Γ'):bz (.own (aJ t E) v [] :: Γ) (.om t E' v []) Γ'
 | row {b:Nat} {cs:LV} {t:TI} {Γ:QE}:bz (.row b cs t :: Γ) (.row b cs t) Γ
 | fv {α:Type} {e:TI} {E:ah α} {v u:Value} {xs:List α} {j:Int} {Γ Γ':QE} (h:ot Γ Γ'):bz (.fv e E v xs j u :: Γ) (.fv e E v xs j u) Γ'
 | there {e a:aq} {Γ Γ':QE} (h:bz Γ e Γ'):bz (a :: Γ) e (a :: Γ')
section
variable {Z:Nat→Prop} {w:World} {cur F:LN} {Γ Γ':QE} {e:aq} {α:Type} {E:ah α}
theorem HP {o:Bool} {v:Value} {xs:List α} {g:LN} (h:(aV E).rep w.heap [v] xs g) (hg:∀ b∈g,uX o Z cur b):Gb Z w cur o o E v xs:=by
 refine ⟨⟨g,h,fun b hb=>.inl (hg b hb)⟩,fun h1 j y h0 hy=>?_⟩
 obtain ⟨u,k,hc,hr,hk⟩:=Ks h1 h h0 hy
 have bb:j.toNat < xs.length:=(List.getElem?_eq_some_iff.1 hy).1
 have wj:j.toNat < vG v:=by
  obtain ⟨base,cap,hv,_⟩:=h
  obtain rfl:v = .slice base xs.length cap:=by simpa using hv
  exact bb
 refine ⟨h0,wj,u,k,hc,hr,?_,fun b hb=>hg b (hk b hb)⟩
 obtain ⟨base,cap,hv,hr⟩:=h
 obtain rfl:v = .slice base xs.length cap:=by simpa using hv
 rcases hr with ⟨rfl,_⟩ | ⟨b,off,cr,e,fz,f',rfl,_,rfl,_⟩
 ·simp at hy
 ·have:(cn (.slice (some ⟨b,off,none⟩) xs.length cap) 1 j).block=b:=by simp only [cn,gw]
  rw [this]; exact hg b (by simp)
theorem Ly {t:TI} {v:Value} {xs:List α} {f:LN} (h:pw Z w f (.om t E v xs)):Gb Z w f true false E v xs:=by
 obtain ⟨us,g,ho,hr,hg,h1⟩:=h
 have hrd:(aV E).rep w.heap [v] xs (f++g):=by
  obtain ⟨base,cap,hv,eh⟩:=ho
  have hl:us.length=xs.length:=by have:=jq hr; rw [h1,Nat.mul_one] at this; exact this
  refine ⟨base,cap,by rw [hv,hl],?_⟩
  rcases eh with ⟨rfl,rfl,rfl,rfl⟩ | ⟨b,cr,f',rfl,h2,rfl,h4,h5,h6,h3⟩
  ·cases xs with
   | nil=>obtain ⟨_,rfl⟩:=hr; exact .inl ⟨rfl,rfl⟩
   | cons x xs=>simp at hl
  ·obtain ⟨h7,rfl⟩:=Ao h3
   refine .inr ⟨b,0,cr,t,(0,0),g,rfl,h2,rfl,hl ▸ h4,?_⟩
   rw [List.drop_zero,h1,Nat.mul_one,← hl]
   have h8:se.size=1:=rfl
   rw [h8,Nat.mul_one] at h7
   rw [h7]
   exact hr
 refine ⟨⟨_,hrd,fun b hb=>(List.mem_append.1 hb).elim .inl fun h=>.inr (hg b h)⟩,fun _ j y h0 hy=>?_⟩
 have hO:OM f 0 w t E v xs f g:=by
  refine ⟨us,⟨ho,?_,fun b hb=>.inl hb⟩,hr,h1⟩
  obtain ⟨base,cap,hv,eh⟩:=ho
  rcases eh with ⟨rfl,rfl,rfl,rfl⟩ | ⟨b,cr,f',rfl,h2,rfl,h4,h5,h6,h3⟩
  ·exact List.nodup_nil
  ·obtain ⟨h7,rfl⟩:=Ao h3; simp
 obtain ⟨u,k,hc,hrk,hk⟩:=OM.get hO h0 hy
 have bb:j.toNat < xs.length:=(List.getElem?_eq_some_iff.1 hy).1
 have wj:j.toNat < vG v:=by
  obtain ⟨base,cap,hv,_⟩:=hrd
  obtain rfl:v = .slice base xs.length cap:=by simpa using hv
  exact bb
 refine ⟨h0,wj,u,k,hc,hrk,?_,fun b hb=>hg b (hk b hb)⟩
 obtain ⟨base,cap,hv,eh⟩:=ho
 obtain rfl:v = .slice base us.length cap:=by simpa using hv
 rcases eh with ⟨rfl,rfl,rfl,rfl⟩ | ⟨b,cr,f',rfl,h2,rfl,h4,h5,h6,h3⟩
 ·cases xs with
  | nil=>simp at hy
  | cons x xs=>have:=jq hr; simp [h1] at this
 ·have:(cn (.slice (some ⟨b,0,none⟩) us.length cap) 1 j).block=b:=by simp only [cn,gw]
  show uX true Z _ _
  rw [this]; exact List.mem_cons_self
theorem Gb.le {o1 o2:Bool} {E':ah α} {v:Value} {xs:List α} (hl:Le E E') (h:Gb Z w cur o1 o2 E v xs):Gb Z w cur o1 o2 E' v xs:=by
 obtain ⟨⟨g,h1,h3⟩,h2⟩:=h
 refine ⟨⟨g,(Le.Ko hl).le h1,h3⟩,fun hs j y h0 hy=>?_⟩
 obtain ⟨j0,j1,u,k,a,b,c,d⟩:=h2 (by rw [hl.size]; exact hs) j y h0 hy
 exact ⟨j0,j1,u,k,a,hl.le b,c,d⟩
theorem lr.sound {v:Value} {o1 o2:Bool} {xs:List α} (h:lr Γ v o1 o2 E xs e Γ'):∀ {cur F:LN},SA Z w Γ cur F→∃ dg,(∀ b∈dg,b∈cur∨b∈F)∧Gb Z w dg o1 o2 E v xs∧(fact Z w dg e→SA Z w Γ' cur F):=by
 induction h with
 | nil=>intro cur F h; exact ⟨[],(fun b (hb:b∈([]:LN))=>absurd hb List.not_mem_nil),HP (o:=false) Kt (fun _ h=>nomatch h),fun _=>h⟩
 | @rd o α E T v x e Γ h=>
  intro cur F hS
  obtain ⟨⟨g,h1,h2⟩,h3⟩:=hS
  refine ⟨cur,fun _ h=>.inl h,HP (h.le.le h1) h2,fun he=>⟨⟨g,h1,h2⟩,?_⟩⟩
  cases e with
  | own T v x=>exact he.elim
  | om e E v xs=>exact he.elim
  | row b cs e=>exact he.elim
  | fv e E v xs j u=>exact he.elim
  | _=>exact ⟨he,h3⟩
 | @own α E T v x e Γ h=>
  intro cur F hS
  obtain ⟨f,F',h1,h2,h3⟩:=hS
  refine ⟨f,fun b hb=>.inr (by rw [h1]; exact List.mem_append_left _ hb),HP (o:=true) (h.le.le h2) (fun b hb=>hb),fun he=>⟨f,F',h1,h2,?_⟩⟩
  cases e with
  | own T v x=>exact he.elim
  | om e E v xs=>exact he.elim
  | row b cs e=>exact he.elim
  | fv e E v xs j u=>exact he.elim
  | _=>exact ⟨he,h3⟩
 | @om α t E E' v xs e Γ h=>
  intro cur F hS
  obtain ⟨f,F',h1,h2,h3⟩:=hS
  refine ⟨f,fun b hb=>.inr (by rw [h1]; exact List.mem_append_left _ hb),(Ly h2).le h.le,fun he=>⟨f,F',h1,h2,?_⟩⟩
  cases e with
  | own T v x=>exact he.elim
  | om e E v xs=>exact he.elim
  | row b cs e=>exact he.elim
  | fv e E v xs j u=>exact he.elim
  | _=>exact ⟨he,h3⟩
 | @there o1 o2 α E v x e a Γ Γ' h ih=>
  intro cur F hS
  cases a with
  | own T v x=>obtain ⟨f,F',h1,h2,h3⟩:=hS; obtain ⟨c,a0,a1,a2⟩:=ih h3; exact ⟨c,fun b hb=>.inr (by rw [h1]; exact List.mem_append.2 (a0 b hb)),a1,fun he=>⟨f,F',h1,h2,a2 he⟩⟩
  | om e E v xs=>obtain ⟨f,F',h1,h2,h3⟩:=hS; obtain ⟨c,a0,a1,a2⟩:=ih h3; exact ⟨c,fun b hb=>.inr (by rw [h1]; exact List.mem_append.2 (a0 b hb)),a1,fun he=>⟨f,F',h1,h2,a2 he⟩⟩
  | row b cs e=>obtain ⟨f,F',h1,h2,h3⟩:=hS; obtain ⟨c,a0,a1,a2⟩:=ih h3; exact ⟨c,fun b hb=>(a0 b hb).imp id fun h=>by rw [h1]; exact List.mem_append_right _ h,a1,fun he=>⟨f,F',h1,h2,a2 he⟩⟩
  | fv e E v xs j u=>obtain ⟨f,F',h1,h2,h3⟩:=hS; obtain ⟨c,a0,a1,a2⟩:=ih h3; exact ⟨c,fun b hb=>.inr (by rw [h1]; exact List.mem_append.2 (a0 b hb)),a1,fun he=>⟨f,F',h1,h2,a2 he⟩⟩
  | _=>obtain ⟨c,a0,a1,a2⟩:=ih hS.2; exact ⟨c,a0,a1,fun he=>⟨hS.1,a2 he⟩⟩
theorem uY.sound {v:Addr} {o:Bool} {x:α} (h:uY Γ v o E x e Γ'):∀ {cur F:LN},SA Z w Γ cur F→∃ dg,(∃ u g,w.cell? v=some u∧E.rep w.heap [u] x g∧∀ b∈g,uX o Z dg b)∧(fact Z w dg e→SA Z w Γ' cur F):=by
 induction h with
 | @ad o1 o2 α E v j x e Γ=>
  intro cur F hS
  obtain ⟨⟨j0,j1,u,g,h1,h2,h3,h4⟩,h5⟩:=hS
  refine ⟨cur,⟨u,g,h1,h2,h4⟩,fun he=>⟨⟨j0,j1,u,g,h1,h2,h3,h4⟩,?_⟩⟩
  cases e with
  | own T v x=>exact he.elim
  | om e E v xs=>exact he.elim
  | row b cs e=>exact he.elim
  | fv e E v xs j u=>exact he.elim
  | _=>exact ⟨he,h5⟩
 | @there o2 α E v x e a Γ Γ' h ih=>
  intro cur F hS
  cases a with
  | own T v x=>obtain ⟨f,F',h1,h2,h3⟩:=hS; obtain ⟨c,a1,a2⟩:=ih h3; exact ⟨c,a1,fun he=>⟨f,F',h1,h2,a2 he⟩⟩
  | om e E v xs=>obtain ⟨f,F',h1,h2,h3⟩:=hS; obtain ⟨c,a1,a2⟩:=ih h3; exact ⟨c,a1,fun he=>⟨f,F',h1,h2,a2 he⟩⟩
  | row b cs e=>obtain ⟨f,F',h1,h2,h3⟩:=hS; obtain ⟨c,a1,a2⟩:=ih h3; exact ⟨c,a1,fun he=>⟨f,F',h1,h2,a2 he⟩⟩
  | fv e E v xs j u=>obtain ⟨f,F',h1,h2,h3⟩:=hS; obtain ⟨c,a1,a2⟩:=ih h3; exact ⟨c,a1,fun he=>⟨f,F',h1,h2,a2 he⟩⟩
  | _=>obtain ⟨c,a1,a2⟩:=ih hS.2; exact ⟨c,a1,fun he=>⟨hS.1,a2 he⟩⟩
theorem zC.sound {v u:Value} {j:Int} (h:zC Γ v j u Γ'):∀ {cur F:LN},w.cell? (cn v 1 j)=some u→SA Z w Γ cur F→SA Z w Γ' cur F:=by
 induction h with
 | ad=>
  intro cur F hu hS
  obtain ⟨⟨j0,j1,u',g,h1,h2,h3,h4⟩,h5⟩:=hS
  exact ⟨⟨j0,j1,u',g,h1,h2,h3,h4⟩,⟨j0,j1,hu,h3⟩,h5⟩
 | U1=>intro cur F _ hS; exact hS
 | @there v u j a Γ Γ' h ih=>
  intro cur F hu hS
  cases a with
  | own T v x=>obtain ⟨f,F',h1,h2,h3⟩:=hS; exact ⟨f,F',h1,h2,ih hu h3⟩
  | om e E v xs=>obtain ⟨f,F',h1,h2,h3⟩:=hS; exact ⟨f,F',h1,h2,ih hu h3⟩
  | row b cs e=>obtain ⟨f,F',h1,h2,h3⟩:=hS; exact ⟨f,F',h1,h2,ih hu h3⟩
  | fv e E v xs j u=>obtain ⟨f,F',h1,h2,h3⟩:=hS; exact ⟨f,F',h1,h2,ih hu h3⟩
  | _=>exact ⟨hS.1,ih hu hS.2⟩
theorem o5.sound {a:Addr} {v:Value} (h:o5 Γ a v):∀ {cur F:LN},SA Z w Γ cur F→w.cell? a=some v:=by
 induction h with
 | row h=>rintro cur F ⟨f,F',h1,⟨_,h2⟩,h3⟩; have:=h2.at.cell h; rwa [gw,Nat.zero_add] at this
 | «at» h=>rintro cur F ⟨⟨h1,_⟩,_⟩; exact h1.cell h
 | Nq h=>rintro cur F ⟨⟨h1,_⟩,_⟩; exact h1.Lz h
 | @at2 p i j cs v Γ h hn=>
  rintro cur F ⟨⟨h1,_⟩,_⟩
  have h2:=h1.cell h
  have hz : ¬ i+j=0:=fun h=>by rw [h] at hn; exact absurd hn (by decide)
  unfold Addr.add at h2
  rw [if_neg hz] at h2
  rwa [Nat.add_assoc]
 | @there a v e Γ h ih=>
  intro cur F hS
  cases e with
  | own T v x=>obtain ⟨f,F',h1,h2,h3⟩:=hS; exact ih h3
  | om e E v xs=>obtain ⟨f,F',h1,h2,h3⟩:=hS; exact ih h3
  | row b cs e=>obtain ⟨f,F',h1,h2,h3⟩:=hS; exact ih h3
  | fv e E v xs j u=>obtain ⟨f,F',h1,h2,h3⟩:=hS; exact ih h3
  | _=>exact ih hS.2
theorem ot.sound (h:ot Γ Γ'):∀ {cur dg F:LN},SA Z w Γ cur F→SA Z w Γ' dg F:=by
 induction h with
 | nil=>intro _ _ _ h; exact h
 | HM _ ih=>intro _ _ _ h; exact ih h.2
 | Nr _ ih=>intro _ _ _ h; exact ⟨h.1,ih h.2⟩
 | adt _ ih=>intro _ _ _ h; exact ih h.2
 | U1 _ ih=>intro _ _ _ h; exact ⟨h.1,ih h.2⟩
 | au _ ih=>intro _ _ _ h; exact ⟨h.1,ih h.2⟩
 | row _ ih=>rintro _ _ _ ⟨f,F',h1,h2,h3⟩; exact ⟨f,F',h1,h2,ih h3⟩
 | hd _ ih=>intro _ _ _ h; exact ih h.2
 | fv=>intro _ _ _ h; exact h
 | own=>intro _ _ _ h; exact h
 | om=>intro _ _ _ h; exact h
theorem bz.sound (h:bz Γ e Γ'):∀ {cur F:LN},SA Z w Γ cur F→∃ f F',(f++F').Perm F∧pw Z w f e∧SA Z w Γ' cur F':=by
 induction h with
 | nil=>intro cur F h; exact ⟨[],F,.refl _,CL,h⟩
 | own h=>rintro cur F ⟨f,F',rfl,h2,h3⟩; exact ⟨f,F',.refl _,h2,h.sound h3⟩
 | om h=>rintro cur F ⟨f,F',rfl,h2,h3⟩; exact ⟨f,F',.refl _,h2,h.sound h3⟩
 | omn h=>intro cur F hs; exact ⟨[],F,.refl _,⟨[],[],CL,⟨rfl,rfl⟩,(fun _ h=>absurd h List.not_mem_nil),h⟩,hs⟩
 | @omz α β t E E' v Γ Γ' h1 h2 h=>
  rintro cur F ⟨f,F',rfl,h3,h4⟩
  refine ⟨f,F',.refl _,⟨[],[],?_,⟨rfl,rfl⟩,(fun _ h=>absurd h List.not_mem_nil),h2⟩,h.sound h4⟩
  obtain ⟨base,cap,hv,hr⟩:=h3
  refine ⟨base,cap,hv,?_⟩
  rcases hr with ⟨a1,a2,a3,a4⟩ | ⟨b,cur,f',a1,a2,a3,a4,a5,a6,a7⟩
  ·exact .inl ⟨a1,a2,rfl,a4⟩
  ·obtain ⟨a8,rfl⟩:=a7
   exact .inr ⟨b,cur,[],a1,a2,a3,by simp,a5,by rw [a6,h1]; rfl,⟨by simp,rfl⟩⟩
 | row=>rintro cur F ⟨f,F',rfl,h2,h3⟩; exact ⟨f,F',.refl _,h2,h3⟩
 | fv h=>rintro cur F ⟨f,F',rfl,h2,h3⟩; exact ⟨f,F',.refl _,h2,h.sound h3⟩
 | @there e a Γ Γ' h ih=>
  intro cur F hS
  cases a with
  | own T v x=>
   obtain ⟨f,F',rfl,h2,h3⟩:=hS; obtain ⟨k,K,a1,a2,a3⟩:=ih h3
   exact ⟨k,f++K,(List.perm_append_comm_assoc k f K).trans (a1.append_left f),a2,f,K,rfl,h2,a3⟩
  | om e E v xs=>
   obtain ⟨f,F',rfl,h2,h3⟩:=hS; obtain ⟨k,K,a1,a2,a3⟩:=ih h3
   exact ⟨k,f++K,(List.perm_append_comm_assoc k f K).trans (a1.append_left f),a2,f,K,rfl,h2,a3⟩
  | row b cs e=>
   obtain ⟨f,F',rfl,h2,h3⟩:=hS; obtain ⟨k,K,a1,a2,a3⟩:=ih h3
   exact ⟨k,f++K,(List.perm_append_comm_assoc k f K).trans (a1.append_left f),a2,f,K,rfl,h2,a3⟩
  | fv e E v xs j u=>
   obtain ⟨f,F',rfl,h2,h3⟩:=hS; obtain ⟨k,K,a1,a2,a3⟩:=ih h3
   exact ⟨k,f++K,(List.perm_append_comm_assoc k f K).trans (a1.append_left f),a2,f,K,rfl,h2,a3⟩
  | _=>obtain ⟨k,K,a1,a2,a3⟩:=ih hS.2; exact ⟨k,K,a1,a2,hS.1,a3⟩
end
class SO {α:Type} (S:ah α) (V:outParam Type) (cl:outParam (α→V→List Value)) (en:outParam (α→V→List aq)):Prop where
 ne:∀ x v,cl x v≠[]
 op:∀ {w:World} {cs:LV} {x:α} {g:LN},S.rep w.heap cs x g→∃ v,cs=cl x v∧∀ Z:Nat→Prop,(∀ b∈g,Z b)→∀ e∈en x v,fact Z w [] e
 cl:∀ {w:World} {x:α} {v:V} {Z:Nat→Prop},(∀ e∈en x v,fact Z w [] e)→∃ g,S.rep w.heap (cl x v) x g∧∀ b∈g,Z b
theorem SO.i {k:IntKind}:SO (aN k) Unit (fun x _=>[.int k x]) (fun _ _=>[]):=
 ⟨fun _ _=>by simp,fun h=>⟨(),h.1,fun _ _ e he=>absurd he List.not_mem_nil⟩,fun _=>⟨[],⟨rfl,rfl⟩,fun _ h=>absurd h List.not_mem_nil⟩⟩
theorem SO.s {α:Type} {E:ah α}:SO (aV E) Value (fun _ v=>[v]) (fun x v=>[.rd false (aV E) v x]):=by
 refine ⟨fun _ _=>by simp,fun {w cs x g} h=>?_,fun {w x v Z} h=>?_⟩
 ·obtain ⟨base,cap,rfl,hr⟩:=h
  exact ⟨_,rfl,fun Z hz e he=>by rw [List.mem_singleton.1 he]; exact ⟨g,⟨base,cap,rfl,hr⟩,hz⟩⟩
 ·obtain ⟨g,h1,h2⟩:=h _ (List.mem_singleton.2 rfl)
  exact ⟨g,h1,h2⟩
theorem SO.ip {β V:Type} {k:IntKind} {B:ah β} {cl:β→V→List Value} {en:β→V→List aq} (h:SO B V cl en):SO (jb (aN k) B) V (fun x v=>.int k x.1 :: cl x.2 v) (fun x v=>en x.2 v):=by
 refine ⟨fun _ _=>by simp,fun {w cs x g} hr=>?_,fun {w x v Z} he=>?_⟩
 ·obtain ⟨c1,c2,f1,f2,rfl,rfl,⟨rfl,rfl⟩,h2⟩:=hr
  obtain ⟨v,rfl,hv⟩:=h.op h2
  exact ⟨v,rfl,hv⟩
 ·obtain ⟨g,h1,h2⟩:=h.cl he
  exact ⟨g,⟨[_],_,[],g,rfl,rfl,⟨rfl,rfl⟩,h1⟩,h2⟩
theorem SO.sp {α β V:Type} {E:ah α} {B:ah β} {cl:β→V→List Value} {en:β→V→List aq} (h:SO B V cl en):SO (jb (aV E) B) (Value×V) (fun x v=>v.1 :: cl x.2 v.2) (fun x v=>.rd false (aV E) v.1 x.1 :: en x.2 v.2):=by
 refine ⟨fun _ _=>by simp,fun {w cs x g} hr=>?_,fun {w x v Z} he=>?_⟩
 ·obtain ⟨c1,c2,f1,f2,rfl,rfl,h1,h2⟩:=hr
  obtain ⟨base,cap,rfl,yN⟩:=h1
  obtain ⟨v,rfl,hv⟩:=h.op h2
  refine ⟨(_,v),rfl,fun Z hz e he=>?_⟩
  rcases List.mem_cons.1 he with rfl | he
  ·exact ⟨f1,⟨base,cap,rfl,yN⟩,fun b hb=>hz b (List.mem_append_left _ hb)⟩
  ·exact hv Z (fun b hb=>hz b (List.mem_append_right _ hb)) e he
 ·obtain ⟨g1,a1,a2⟩:=he _ List.mem_cons_self
  obtain ⟨g,h1,h2⟩:=h.cl fun e hm=>he e (List.mem_cons_of_mem _ hm)
  exact ⟨g1++g,⟨[_],_,g1,g,rfl,rfl,a1,h1⟩,fun b hb=>(List.mem_append.1 hb).elim (a2 b) (h2 b)⟩
theorem SO.mp {α β V:Type} {f:β→α} {A:ah α} {cl:α→V→List Value} {en:α→V→List aq} (h:SO A V cl en):SO (An f A) V (fun y v=>cl (f y) v) (fun y v=>en (f y) v):=
 ⟨fun y v=>h.ne (f y) v,fun hr=>h.op hr,fun he=>h.cl he⟩
instance Dt.p {α β:Type} {A:ah α} {B:ah β} [ha:Dt A] [hb:Dt B]:Dt (jb A B):=by
 refine ⟨fun {h cs x y f g} h1 h2=>?_⟩
 obtain ⟨c1,c2,f1,f2,rfl,rfl,a1,a2⟩:=h1
 obtain ⟨d1,d2,g1,g2,e,rfl,b1,b2⟩:=h2
 obtain ⟨rfl,rfl⟩:=List.append_inj e ((A.len a1).trans (A.len b1).symm)
 exact Prod.ext (ha.uy a1 b1) (hb.uy a2 b2)
theorem Dt.mp {α β:Type} {f:β→α} {A:ah α} [ha:Dt A] (hf:∀ x y,f x=f y→x=y):Dt (An f A):=
 ⟨fun h1 h2=>hf _ _ (ha.uy h1 h2)⟩
end Go.Dk
namespace Go.Dk
open Go Go.Li
structure Bs where
 w:World
 Z:Nat→Prop
 G:List Nat
inductive HL (Z:Nat→Prop) (w:World):List aq→List Nat→Prop
 | nil:HL Z w [] []
 | own {e:aq} {f F:LN} {Δ:QE} (h:pw Z w f e) (k:HL Z w Δ F):HL Z w (e :: Δ) (f++F)
 | fact {e:aq} {F:LN} {Δ:QE} (h:fact Z w [] e) (k:HL Z w Δ F):HL Z w (e :: Δ) F
structure Gd (B:Bs) (Z:Nat→Prop) (F:LN) (w:World):Prop where
 nd:F.Nodup
 apart:∀ b∈F,¬ Z b
 nh:∀ b,Z b→b < w.heap.size
 low:∀ b∈F,b∈B.G∨B.w.heap.size≤b
 wk:∀ b,B.Z b→Z b
 vH:∀ b,Z b→B.Z b∨b∈B.G∨B.w.heap.size≤b
 jf:ak B.G B.w w
def St (B:Bs) (Γ:QE) (w:World):Prop:=∃ Z F,SA Z w Γ [] F∧Gd B Z F w
def Ns (B:Bs) (Δ:QE) (w:World):Prop:=∃ Z F,HL Z w Δ F∧Gd B Z F w
def l7:List Value→Value
 | [v]=>v
 | vs=>.tuple vs.toArray
def qu:List aq→Bool
 | []=>true
 | .own _ _ _ :: l=>qu l
 | .row _ _ _ :: l=>qu l
 | _ :: _=>false
def SB (P:Program) (f:FuncId) (o:Bool) (args:LV) (Δ:QE) (β V:Type) (m:Option β) (ret:β→V→List Value) (post:β→V→List aq):Prop:=
 (o=true→∀ y v,qu (post y v)=true)∧∀ w Z F,HL Z w Δ F→F.Nodup→(∀ b∈F,¬ Z b)→(∀ b,Z b→b < w.heap.size)→∀ y,m=some y→
  Calls P f args.toArray w fun e w'=>∃ v:V,e = .returned (l7 (ret y v))∧Ns ⟨w,Z,F⟩ (post y v) w'
theorem SC:∃ C:Program→FuncId→Bool→List Value→List aq→(β V:Type)→Option β→(β→V→List Value)→(β→V→List aq)→Prop,C=SB:=⟨_,rfl⟩
noncomputable def Ct (P:Program) (f:FuncId) (o:Bool) {β V:Type} (m:Option β) (args:LV) (Δ:QE) (ret:β→V→List Value) (post:β→V→List aq):Prop:=Classical.choose SC P f o args Δ β V m ret post
theorem p9 {P:Program} {f:FuncId} {o:Bool} {args:LV} {Δ:QE} {β V:Type} {m:Option β} {ret:β→V→List Value} {post:β→V→List aq}:Ct P f o m args Δ ret post=SB P f o args Δ β V m ret post:=by
 unfold Ct; rw [Classical.choose_spec SC]
theorem SD:∃ C:Prop→Prop,C=id:=⟨_,rfl⟩
noncomputable def Bx (p:Prop):Prop:=Classical.choose SD p
theorem nb {p:Prop}:Bx p=p:=by unfold Bx; rw [Classical.choose_spec SD]; rfl
theorem bxi {p:Prop} (h:p):Bx p:=by rw [nb]; exact h
section
variable {Z Z':Nat→Prop} {w w':World} {cur F f:LN} {Γ Γ' Γ1 Δ:QE} {e:aq} {B:Bs}
theorem Gd.perm {F':LN} (h:Gd B Z F w) (hp:F'.Perm F):Gd B Z F' w:=
 ⟨hp.nodup_iff.2 h.nd,fun b hb=>h.apart b (hp.mem_iff.1 hb),h.nh,fun b hb=>h.low b (hp.mem_iff.1 hb),h.wk,h.vH,h.jf⟩
theorem Gd.ic (h:Gd B Z F w) (hC:ak [] w w'):Gd B Z F w':=
 ⟨h.nd,h.apart,fun b hb=>Nat.lt_of_lt_of_le (h.nh b hb) hC.size,h.low,h.wk,h.vH,h.jf.trans hC.nil⟩
theorem St.ic (h:St B Γ w) (hC:ak [] w w'):St B Γ w':=by
 obtain ⟨Z,F,h1,h2⟩:=h
 exact ⟨Z,F,h1.ic hC,h2.ic hC⟩
theorem HL.build:∀ {Δ Γ:QE} {Fd F:LN},HL Z w Δ Fd→SA Z w Γ [] F→∃ F',F'.Perm (Fd++F)∧SA Z w (Δ.reverse++Γ) [] F':=by
 intro Δ
 induction Δ with
 | nil=>intro Γ Fd F h hs; cases h; exact ⟨F,.refl _,hs⟩
 | cons e Δ ih=>
  intro Γ Fd F h hs
  rw [List.reverse_cons,List.append_assoc]
  cases h with
  | @own _ f F1 _ h1 h2=>
   obtain ⟨F',a,b⟩:=ih h2 (SA.cons hs h1)
   refine ⟨F',a.trans ?_,b⟩
   rw [List.append_assoc]
   exact List.perm_append_comm_assoc F1 f F
  | fact h1 h2=>exact ih h2 (SA.fact hs h1)
theorem HL.mono (hz:∀ b,Z b→Z' b) {Δ:QE} {F:LN} (h:HL Z w Δ F):HL Z' w Δ F:=by
 induction h with
 | nil=>exact .nil
 | own h _ ih=>exact .own (h.mono hz) ih
 | fact h _ ih=>exact .fact (h.mono hz fun _ h=>h) ih
inductive In (e:aq):List aq→Prop
 | here {Γ:QE}:In e (e :: Γ)
 | there {a:aq} {Γ:QE} (h:In e Γ):In e (a :: Γ)
def kq (n:Nat):ah (List Value) where
 size:=n
 rep _ cs x f:=cs=x∧x.length=n∧(∀ v∈x,v.oneCell'=true)∧f=[]
 len:=by rintro h cs x f ⟨rfl,h1,_⟩; exact h1
 one:=by rintro h cs x f ⟨rfl,_,h2,_⟩; exact h2
 congr:=fun h _=>h
 lt:=by rintro h cs x f ⟨_,_,_,rfl⟩ b hb; cases hb
def gl {α:Type} (S:ah α) (h:Array Obj):List (List Value)→List α→List Nat→Prop
 | [],[],f=>f=[]
 | c :: us,x :: xs,f=>∃ f1 f2,f=f1++f2∧S.rep h c x f1∧gl S h us xs f2
 | _,_,_=>False
theorem zM {α:Type} {S:ah α} {h:Array Obj}:∀ {us:List (List Value)} {xs:List α} {f:LN},gl S h us xs f→us.length=xs.length:=by
 intro us
 induction us with
 | nil=>intro xs f hg; cases xs with
  | nil=>rfl
  | cons=>exact hg.elim
 | cons c us ih=>intro xs f hg; cases xs with
  | nil=>exact hg.elim
  | cons x xs=>obtain ⟨f1,f2,_,_,h2⟩:=hg; simp [ih h2]
theorem TR {α:Type} {S:ah α} {h:Array Obj}:∀ {us:List (List Value)} {xs:List α} {f:LN},gl S h us xs f→dm S h us.flatten xs f:=by
 intro us
 induction us with
 | nil=>intro xs f hg; cases xs with
  | nil=>exact ⟨rfl,hg⟩
  | cons=>exact hg.elim
 | cons c us ih=>intro xs f hg; cases xs with
  | nil=>exact hg.elim
  | cons x xs=>obtain ⟨f1,f2,rfl,h1,h2⟩:=hg; exact ⟨c,us.flatten,f1,f2,by simp,rfl,h1,ih h2⟩
theorem PY {α:Type} {S:ah α} {h h':Array Obj}:∀ {us:List (List Value)} {xs:List α} {f:LN},gl S h us xs f→(∀ b∈f,h'[b]? = h[b]?)→gl S h' us xs f:=by
 intro us
 induction us with
 | nil=>intro xs f hg _; cases xs with
  | nil=>exact hg
  | cons=>exact hg.elim
 | cons c us ih=>intro xs f hg hb; cases xs with
  | nil=>exact hg.elim
  | cons x xs=>obtain ⟨f1,f2,rfl,h1,h2⟩:=hg; exact ⟨f1,f2,rfl,S.congr h1 fun b hm=>hb b (List.mem_append_left _ hm),ih h2 fun b hm=>hb b (List.mem_append_right _ hm)⟩
theorem U2 {α:Type} {S:ah α} {h:Array Obj} {c:LV} {y:α} {g:LN} (hy:S.rep h c y g):∀ {us:List (List Value)} {xs:List α} {f:LN},gl S h us xs f→gl S h (us++[c]) (xs++[y]) (f++g):=by
 intro us
 induction us with
 | nil=>intro xs f hg; cases xs with
  | nil=>have e:f=[]:=hg; subst e; exact ⟨g,[],by simp,hy,rfl⟩
  | cons=>exact hg.elim
 | cons c us ih=>intro xs f hg; cases xs with
  | nil=>exact hg.elim
  | cons x xs=>obtain ⟨f1,f2,rfl,h1,h2⟩:=hg; exact ⟨f1,f2++g,by simp,h1,ih h2⟩
theorem Et {α:Type} {S:ah α} {h:Array Obj} {x:α}:∀ {us:List (List Value)} {xs:List α} {f:LN} (j:Nat),gl S h us xs f→xs[j]? = some x→∃ c g,us[j]? = some c∧S.rep h c x g∧∀ b∈g,b∈f:=by
 intro us
 induction us with
 | nil=>intro xs f j hg hx; cases xs with
  | nil=>simp at hx
  | cons=>exact hg.elim
 | cons c us ih=>intro xs f j hg hx; cases xs with
  | nil=>exact hg.elim
  | cons y xs=>
   obtain ⟨f1,f2,rfl,h1,h2⟩:=hg
   cases j with
   | zero=>simp at hx; subst hx; exact ⟨c,f1,rfl,h1,fun b hb=>List.mem_append_left _ hb⟩
   | succ j=>obtain ⟨c',g,a1,a2,a3⟩:=ih j h2 (by simpa using hx); exact ⟨c',g,by simpa using a1,a2,fun b hb=>List.mem_append_right _ (a3 b hb)⟩
theorem xC {α:Type} {S:ah α} {h:Array Obj} {c:LV} {y:α} {k:LN} (hy:S.rep h c y k):∀ {us:List (List Value)} {xs:List α} {f:LN} (j:Nat),gl S h us xs f→∃ g,gl S h (us.set j c) (xs.set j y) g∧∀ b∈g,b∈f∨b∈k:=by
 intro us
 induction us with
 | nil=>intro xs f j hg; cases xs with
  | nil=>exact ⟨f,hg,fun b hb=>.inl hb⟩
  | cons=>exact hg.elim
 | cons c' us ih=>intro xs f j hg; cases xs with
  | nil=>exact hg.elim
  | cons x xs=>
   obtain ⟨f1,f2,rfl,h1,h2⟩:=hg
   cases j with
   | zero=>exact ⟨k++f2,⟨k,f2,rfl,hy,h2⟩,fun b hb=>(List.mem_append.1 hb).elim .inr fun h=>.inl (List.mem_append_right _ h)⟩
   | succ j=>
    obtain ⟨g,a1,a2⟩:=ih j h2
    exact ⟨f1++g,⟨f1,g,rfl,h1,a1⟩,fun b hb=>(List.mem_append.1 hb).elim (fun h=>.inl (List.mem_append_left _ h)) fun h=>(a2 b h).imp (List.mem_append_right _) id⟩
theorem HQ {n:Nat} {h:Array Obj}:∀ {us:List (List Value)} {cs:LV} {f:LN},dm (kq n) h cs us f→cs=us.flatten∧f=[]:=by
 intro us
 induction us with
 | nil=>rintro cs f ⟨rfl,rfl⟩; exact ⟨rfl,rfl⟩
 | cons c us ih=>
  rintro cs f ⟨c',lf,f1,f2,rfl,rfl,⟨rfl,_,_,rfl⟩,h2⟩
  obtain ⟨rfl,rfl⟩:=ih h2
  exact ⟨by simp,rfl⟩
def vz {α:Type} (S:ah α):ah (List (List Value)×List α) where
 size:=1
 rep h cs x f:=cs=[.bool true]∧gl S h x.1 x.2 f∧∀ b∈f,b < h.size
 len:=by rintro h cs x f ⟨rfl,_⟩; rfl
 one:=by rintro h cs x f ⟨rfl,_⟩ v hv; simp at hv; subst hv; rfl
 congr:=by
  rintro h h' cs x f ⟨rfl,h1,h2⟩ hb
  refine ⟨rfl,PY h1 hb,fun b hm=>?_⟩
  have:=hb b hm
  rw [Array.getElem?_eq_getElem (h2 b hm)] at this
  exact (Array.getElem?_eq_some_iff.1 this).1
 lt:=fun h=>h.2.2
def Dn (us:List (List Value)) (j:Int):ah (List Value) where
 size:=1
 rep _ cs x f:=cs=[.bool true]∧(0≤j∧us[j.toNat]? = some x)∧f=[]
 len:=by rintro h cs x f ⟨rfl,_⟩; rfl
 one:=by rintro h cs x f ⟨rfl,_⟩ v hv; simp at hv; subst hv; rfl
 congr:=fun h _=>h
 lt:=by rintro h cs x f ⟨_,_,rfl⟩ b hb; cases hb
theorem In.rd {α:Type} {T:ah α} {v:Value} {x:α} (h:In (.rd false T v x) Γ):∀ {cur F:LN},SA Z w Γ cur F→∀ dg,fact Z w dg (.rd false T v x):=by
 induction h with
 | here=>intro cur F h dg; exact h.1
 | @there a Γ _ ih=>
  intro cur F hS
  cases a with
  | own T v x=>obtain ⟨f,F',h1,h2,h3⟩:=hS; exact ih h3
  | om e E v xs=>obtain ⟨f,F',h1,h2,h3⟩:=hS; exact ih h3
  | row b cs e=>obtain ⟨f,F',h1,h2,h3⟩:=hS; exact ih h3
  | fv e E v xs j u=>obtain ⟨f,F',h1,h2,h3⟩:=hS; exact ih h3
  | _=>exact ih hS.2
theorem In.ad {o1 o2:Bool} {v:Value} {j:Int} {α:Type} {T:ah α} {x:α} (h:In (.ad o1 o2 v j T x) Γ):∀ {cur F:LN},SA Z w Γ cur F→0≤j∧j.toNat < vG v:=by
 induction h with
 | here=>intro cur F h; exact ⟨h.1.1,h.1.2.1⟩
 | @there a Γ _ ih=>
  intro cur F hS
  cases a with
  | own T v x=>obtain ⟨f,F',h1,h2,h3⟩:=hS; exact ih h3
  | om e E v xs=>obtain ⟨f,F',h1,h2,h3⟩:=hS; exact ih h3
  | row b cs e=>obtain ⟨f,F',h1,h2,h3⟩:=hS; exact ih h3
  | fv e E v xs j u=>obtain ⟨f,F',h1,h2,h3⟩:=hS; exact ih h3
  | _=>exact ih hS.2
abbrev o6:aq:=.au ⟨0,0,none⟩ []
inductive uz where
 | nil | own | om | z | lit | og
 | row (v:Value) (j:Int)
inductive Loc:List aq→Value→uz→Prop
 | og {n:Nat} {e:TI} {v:Value} {us:List (List Value)} {Γ:QE}:Loc (.own (aJ e (kq n)) v us :: Γ) v .og
 | own {α:Type} {T:ah α} {v:Value} {x:α} {Γ:QE}:Loc (.own T v x :: Γ) v .own
 | om {α:Type} {t:TI} {E:ah α} {v:Value} {xs:List α} {Γ:QE}:Loc (.om t E v xs :: Γ) v .om
 | hd {v u:Value} {j:Int} {Γ:QE}:Loc (.hd v j u :: Γ) u (.row v j)
 | rd {o:Bool} {α:Type} {T:ah α} {v:Value} {x:α} {Γ:QE}:Loc (.rd o T v x :: Γ) v .z
 | lit {b n c:Nat} {cs:LV} {t:TI} {Γ:QE}:Loc (.row b cs t :: Γ) (.slice (some ⟨b,0,none⟩) n c) .lit
 | nil {Γ:QE}:Loc Γ (.slice none 0 0) .nil
 | there {v:Value} {l:uz} {a:aq} {Γ:QE} (h:Loc Γ v l):Loc (a :: Γ) v l
inductive Ap {α:Type} (T:ah α) (x:α) (Γ0:QE):List aq→Value→uz→Prop
 | own {v:Value} {Γ:QE}:Ap T x Γ0 (.own T v x :: Γ) v .own
 | there {v:Value} {l:uz} {a:aq} {Γ:QE} (h:Ap T x Γ0 Γ v l):Ap T x Γ0 (a :: Γ) v l
 | out {v:Value} {l:uz} (h:Loc Γ0 v l):Ap T x Γ0 [] v l
theorem Ap.abU {α:Type} {T:ah α} {x:α} {v:Value} {l:uz} {Γ0:QE} (h:Ap T x Γ0 Γ v l):Loc Γ v .own∧l = .own∨Loc Γ0 v l:=by
 induction h with
 | own=>exact .inl ⟨.own,rfl⟩
 | there _ ih=>exact ih.imp (fun h=>⟨.there h.1,h.2⟩) id
 | out h=>exact .inr h
theorem Ap.loc {α:Type} {T:ah α} {x:α} {v:Value} {l:uz} (h:Ap T x Γ Γ v l):Loc Γ v l:=by
 rcases h.abU with ⟨g,rfl⟩ | g
 ·exact g
 ·exact g
theorem Loc.row {u v:Value} {j:Int} {l:uz} (h:Loc Γ u l):l = .row v j→∀ {cur F:LN},SA Z w Γ cur F→0≤j∧j.toNat < vG v∧w.cell? (cn v 1 j)=some u:=by
 induction h with
 | hd=>intro hl cur F hS; cases hl; exact ⟨hS.1.1,hS.1.2.1,hS.1.2.2.1⟩
 | @there v l a Γ h ih=>
  intro hl cur F hS
  cases a with
  | own T v x=>obtain ⟨f,F',h1,h2,h3⟩:=hS; exact ih hl h3
  | om e E v xs=>obtain ⟨f,F',h1,h2,h3⟩:=hS; exact ih hl h3
  | row b cs e=>obtain ⟨f,F',h1,h2,h3⟩:=hS; exact ih hl h3
  | fv e E v xs j u=>obtain ⟨f,F',h1,h2,h3⟩:=hS; exact ih hl h3
  | _=>exact ih hl hS.2
 | _=>intro hl; cases hl
inductive Gc:List aq→{α:Type}→ah α→Value→α→List aq→Prop
 | i {k:IntKind} {a:Int} {Γ:QE}:Gc Γ (aN k) (.int k a) a Γ
 | b {a:Bool} {Γ:QE}:Gc Γ jc (.bool a) a Γ
 | own {α:Type} {E:ah α} {u:Value} {x:α} {Γ Γ':QE} (h:bz Γ (.own E u x) Γ'):Gc Γ E u x Γ'
theorem Gc.sound {α:Type} {E:ah α} {u:Value} {x:α} (h:Gc Γ E u x Γ'):∀ {F:LN},SA Z w Γ [] F→∃ f F',(f++F').Perm F∧E.rep w.heap [u] x f∧SA Z w Γ' [] F':=by
 induction h with
 | i=>intro F h; exact ⟨[],F,.refl _,⟨rfl,rfl⟩,h⟩
 | b=>intro F h; exact ⟨[],F,.refl _,⟨rfl,rfl⟩,h⟩
 | own h=>intro F hs; obtain ⟨f,F',a,b,c⟩:=h.sound hs; exact ⟨f,F',a,b,c⟩
inductive BF:uz→List aq→aq→List aq→Prop
 | own {α:Type} {T:ah α} {v:Value} {x:α} {Γ Γ':QE} (h:bz Γ (.own T v x) Γ'):BF .own Γ (.own T v x) Γ'
 | nil {α:Type} {T:ah α} {v:Value} {x:α} {Γ Γ':QE} (h:bz Γ (.own T v x) Γ'):BF .nil Γ (.own T v x) Γ'
 | og {α:Type} {T:ah α} {v:Value} {x:α} {Γ Γ':QE} (h:bz Γ (.own T v x) Γ'):BF .og Γ (.own T v x) Γ'
 | om {α:Type} {l:uz} {t:TI} {E:ah α} {v:Value} {xs:List α} {Γ Γ':QE} (h:bz Γ (.om t E v xs) Γ'):BF l Γ (.om t E v xs) Γ'
 | row {β:Type} {e:TI} {E:ah (List β)} {E':ah β} {u v:Value} {j:Int} {z:List β} {xs:List (List β)} {o1 o2:Bool} {Γ Γ' Γx:QE} (h:bz Γ (.own (aJ e E) v xs) Γ') (h1:E.size=1) (hr:RT E (aV E')) (hf:lr Γ u o1 o2 E' z o6 Γx):BF (.row v j) Γ (.own E u z) (.fv e E v xs j u :: Γ')
 | lit {α:Type} {t:TI} {E:ah α} {b:Nat} {u:Value} {x:α} {Γ Γ1 Γ':QE} (h:bz Γ (.row b [u] t) Γ1) (h1:E.size=1) (he:Gc Γ1 E u x Γ'):BF .lit Γ (.own (aJ t E) (.slice (some ⟨b,0,none⟩) 1 1) [x]) Γ'
inductive EO:List aq→List aq→List aq→Prop
 | nil {Γ:QE}:EO Γ [] Γ
 | own {l:uz} {α:Type} {T:ah α} {v:Value} {x:α} {Γ Γ1 Γ2 Δ:QE} (hl:Ap T x Γ Γ v l) (h:BF l Γ (.own T v x) Γ1) (k:EO Γ1 Δ Γ2):EO Γ (.own T v x :: Δ) Γ2
 | om {l:uz} {α:Type} {t:TI} {E:ah α} {v:Value} {xs:List α} {Γ Γ1 Γ2 Δ:QE} (hl:Loc Γ v l) (h:BF l Γ (.om t E v xs) Γ1) (k:EO Γ1 Δ Γ2):EO Γ (.om t E v xs :: Δ) Γ2
 | fv {α:Type} {e:TI} {E:ah α} {v u:Value} {xs:List α} {j:Int} {Γ Γ1 Γ2 Δ:QE} (h:bz Γ (.fv e E v xs j u) Γ1) (k:EO Γ1 Δ Γ2):EO Γ (.fv e E v xs j u :: Δ) Γ2
 | row {b:Nat} {cs:LV} {t:TI} {Γ Γ1 Γ2 Δ:QE} (h:bz Γ (.row b cs t) Γ1) (k:EO Γ1 Δ Γ2):EO Γ (.row b cs t :: Δ) Γ2
 | rd {o:Bool} {α:Type} {T:ah α} {v:Value} {x:α} {Γ Γ2 Δ:QE} (k:EO Γ Δ Γ2):EO Γ (.rd o T v x :: Δ) Γ2
 | au {p:Addr} {cs:LV} {Γ Γ2 Δ:QE} (k:EO Γ Δ Γ2):EO Γ (.au p cs :: Δ) Γ2
inductive qd:List aq→Addr→List Value→Bool→Prop
 | nil {Γ:QE} {p:Addr}:qd Γ p [] false
 | Nq {p:Addr} {cs ds:LV} {Γ:QE} (h:cs.take ds.length=ds):qd (.au p cs :: Γ) p ds false
 | sub {p:Addr} {j:Nat} {cs ds:LV} {Γ:QE} (h:(cs.drop j).take ds.length=ds):qd (.au p cs :: Γ) (p.add j) ds false
 | row {b j:Nat} {t:TI} {cs ds:LV} {Γ:QE} (h:(cs.drop j).take ds.length=ds):qd (.row b cs t :: Γ) ⟨b,j,none⟩ ds true
 | abV {p:Addr} {i j:Nat} {cs ds:LV} {Γ:QE} (h:(cs.drop (i+j)).take ds.length=ds) (hn:Nat.beq (i+j) 0=false):qd (.au p cs :: Γ) ⟨p.block,p.off+i+j,none⟩ ds false
 | there {p:Addr} {cs:LV} {o:Bool} {e:aq} {Γ:QE} (h:qd Γ p cs o):qd (e :: Γ) p cs o
inductive uA:(V:Type)→V→Prop
 | unit:uA Unit ()
 | val {a:Value}:uA Value a
 | nat {a:Nat}:uA Nat a
 | pv {W:Type} {a:Value} {b:W} (h:uA W b):uA (Value×W) (a,b)
 | pn {W:Type} {a:Nat} {b:W} (h:uA W b):uA (Nat×W) (a,b)
 | us {W:Type} {a:List W}:uA (List W) a
inductive HR (Γ:QE):List aq→Prop
 | nil:HR Γ []
 | rd {α:Type} {E:ah α} {o1 o2:Bool} {v:Value} {x:List α} {Γx Δ:QE} (h:lr Γ v o1 o2 E x o6 Γx) (k:HR Γ Δ):HR Γ (.rd false (aV E) v x :: Δ)
inductive Ku (Γ:QE):{α:Type}→ah α→List Value→List α→Prop
 | nil {α:Type} {S:ah α}:Ku Γ S [] []
 | cons {α V:Type} {S:ah α} {cl:α→V→List Value} {en:α→V→List aq} {p:Addr} {x:α} {v:V} {o:Bool} {us:LV} {xs:List α} [hs:SO S V cl en] (hv:uA V v) (hp:qd Γ p (cl x v) o) (hr:HR Γ (en x v)) (k:Ku Γ S us xs):Ku Γ S (.pointer (some p) :: us) (x :: xs)
inductive lg:List Value→List Value→List Value→Prop
 | nil {l:LV}:lg [] l l
 | cons {a:Value} {l k m:LV} (h:lg l k m):lg (a :: l) k (a :: m)
theorem lg.eq {l k m:LV} (h:lg l k m):l++k=m:=by
 induction h with
 | nil=>rfl
 | cons _ ih=>rw [List.cons_append,ih]
inductive Kv (Γ:QE):{α:Type}→ah α→List Value→List α→Prop
 | nil {α:Type} {S:ah α}:Kv Γ S [] []
 | cons {α V:Type} {S:ah α} {cl:α→V→List Value} {en:α→V→List aq} {x:α} {v:V} {us ws:LV} {xs:List α} [hs:SO S V cl en] (hv:uA V v) (hc:lg (cl x v) us ws) (hr:HR Γ (en x v)) (k:Kv Γ S us xs):Kv Γ S ws (x :: xs)
inductive zN (Γ:QE):{α:Type}→ah α→List Value→List α→Prop
 | int {k:IntKind} {a:Int} {us:LV} {xs:List Int} (h:zN Γ (aN k) us xs):zN Γ (aN k) (.int k a :: us) (a :: xs)
 | bool {a:Bool} {us:LV} {xs:List Bool} (h:zN Γ jc us xs):zN Γ jc (.bool a :: us) (a :: xs)
 | lit {α:Type} {E:ah α} {b n:Nat} {vs:LV} {x:List α} {t:TI} {us:LV} {xs:List (List α)} {Γ1:QE} (h:bz Γ (.row b vs t) Γ1) (hn:vs.length=n) (hp:zN Γ E vs x) (k:zN Γ (aV E) us xs):zN Γ (aV E) (.slice (some ⟨b,0,none⟩) n n :: us) (x :: xs)
 | sl {α:Type} {E:ah α} {o1 o2:Bool} {u:Value} {x:List α} {us:LV} {xs:List (List α)} {Γx:QE} (h:lr Γ u o1 o2 E x o6 Γx) (k:zN Γ (aV E) us xs):zN Γ (aV E) (u :: us) (x :: xs)
 | nil {α:Type} {E:ah α} (h:E.size=1):zN Γ E [] []
inductive ER:Bool→List aq→List aq→Prop
 | nil {l:Bool} {Γ:QE}:ER l Γ []
 | own {l:Bool} {α:Type} {T:ah α} {v:Value} {x:α} {Γ Δ:QE} (k:ER l Γ Δ):ER l Γ (.own T v x :: Δ)
 | om {l:Bool} {α:Type} {t:TI} {E:ah α} {v:Value} {xs:List α} {Γ Δ:QE} (k:ER l Γ Δ):ER l Γ (.om t E v xs :: Δ)
 | row {l:Bool} {b:Nat} {cs:LV} {t:TI} {Γ Δ:QE} (k:ER l Γ Δ):ER l Γ (.row b cs t :: Δ)
 | fv {l:Bool} {α:Type} {e:TI} {E:ah α} {v u:Value} {xs:List α} {j:Int} {Γ Δ:QE} (k:ER l Γ Δ):ER l Γ (.fv e E v xs j u :: Δ)
 | rp {α:Type} {S:ah α} {b n:Nat} {us:LV} {xs:List α} {t:TI} {Γ Γ1 Δ:QE} (h:bz Γ (.row b us t) Γ1) (hn:us.length=n) (hp:Ku Γ S us xs) (k:ER true Γ Δ):ER true Γ (.rd false (aV (wU S)) (.slice (some ⟨b,0,none⟩) n n) xs :: Δ)
 | rs {α:Type} {S:ah α} {b n:Nat} {us:LV} {xs:List α} {t:TI} {Γ Γ1 Δ:QE} (h:bz Γ (.row b us t) Γ1) (hn:xs.length=n) (hp:Kv Γ S us xs) (k:ER true Γ Δ):ER true Γ (.rd false (aV (sg S)) (.slice (some ⟨b,0,none⟩) n n) xs :: Δ)
 | rr {α:Type} {E:ah α} {b n:Nat} {us:LV} {xs:List α} {t:TI} {Γ Γ1 Δ:QE} (h:bz Γ (.row b us t) Γ1) (hn:us.length=n) (hp:zN Γ E us xs) (k:ER true Γ Δ):ER true Γ (.rd false (aV E) (.slice (some ⟨b,0,none⟩) n n) xs :: Δ)
 | HM {o1 o2:Bool} {α:Type} {E:ah α} {v:Value} {x:List α} {Γ Γx Δ:QE} (h:lr Γ v o1 o2 E x o6 Γx) (k:ER true Γ Δ):ER true Γ (.rd false (aV E) v x :: Δ)
 | Nr {α:Type} {E:ah α} {v:Value} {x:List α} {Γ Γx Δ:QE} (h:lr Γ v false false E x o6 Γx) (k:ER false Γ Δ):ER false Γ (.rd false (aV E) v x :: Δ)
 | att {p:Addr} {cs:LV} {o:Bool} {Γ Δ:QE} (h:qd Γ p cs o) (k:ER true Γ Δ):ER true Γ (.au p cs :: Δ)
 | atf {p:Addr} {cs:LV} {Γ Δ:QE} (h:qd Γ p cs false) (k:ER false Γ Δ):ER false Γ (.au p cs :: Δ)
 | mp {l:Bool} {κ υ:Type} {ek:κ→Value} {eu:υ→Value} {v:Value} {x:List (κ×υ)} {Γ Δ:QE} (h:In (.rd false (sG ek eu) v x) Γ) (k:ER l Γ Δ):ER l Γ (.rd false (sG ek eu) v x :: Δ)
inductive HO (Z:Nat→Prop) (w:World):List aq→List Nat→Prop
 | nil:HO Z w [] []
 | own {e:aq} {f F:LN} {Δ:QE} (h:pw Z w f e) (k:HO Z w Δ F):HO Z w (e :: Δ) (f++F)
 | rd {o:Bool} {α:Type} {T:ah α} {v:Value} {x:α} {F:LN} {Δ:QE} (k:HO Z w Δ F):HO Z w (.rd o T v x :: Δ) F
 | au {p:Addr} {cs:LV} {F:LN} {Δ:QE} (k:HO Z w Δ F):HO Z w (.au p cs :: Δ) F
theorem BF.sound {l:uz} {v:Value} (h:BF l Γ e Γ') (hl:Loc Γ v l) (hv:∀ {α:Type} {T:ah α} {u:Value} {x:α},e = .own T u x→u=v):∀ {F:LN},SA Z w Γ [] F→∃ f F',(f++F').Perm F∧pw Z w f e∧SA Z w Γ' [] F':=by
 cases h with
 | own h=>intro F hs; exact h.sound hs
 | nil h=>intro F hs; exact h.sound hs
 | og h=>intro F hs; exact h.sound hs
 | om h=>intro F hs; exact h.sound hs
 | @row β e E E' u v' j z xs o1 o2 _ Γ1 Γx h h1 hr hf=>
  intro F hs
  obtain rfl:=hv rfl
  obtain ⟨j0,j1,hu⟩:=Loc.row hl rfl hs
  obtain ⟨f,F1,hp,hO,ep⟩:=h.sound hs
  obtain ⟨dg,_,⟨⟨g,hg,_⟩,_⟩,_⟩:=hf.sound hs
  have hlen:vG v'=xs.length:=by
   obtain ⟨base,cap,hv,_⟩:=id hO
   obtain rfl:v' = .slice base xs.length cap:=by simpa using hv
   rfl
  rw [hlen] at j1
  obtain ⟨k,gg,a1,a2,a3⟩:=Kn h1 hO (List.getElem?_eq_getElem j1) hu
  have hz:xs[j.toNat]=z:=hr.uy (hr.le.le a1) hg
  rw [hz] at a1
  refine ⟨k,gg++F1,?_,a1,?_⟩
  ·rw [← List.append_assoc]; exact (a2.append_right F1).trans hp
  ·exact SA.cons ep (e:=.fv e E v' xs j u) a3
 | @lit α t E b u x _ Γ1 _ h h1 he=>
  intro F hs
  obtain ⟨f,F1,hp,⟨rfl,av⟩,ep⟩:=h.sound hs
  obtain ⟨k,F2,nv,hk,ja⟩:=he.sound ep
  refine ⟨b :: k,F2,(List.Perm.cons b nv).trans hp,⟨_,1,rfl,.inr ⟨b,_,k,rfl,av,rfl,Nat.le_refl _,by decide,by simp [h1],?_⟩⟩,ja⟩
  simp only [List.length_cons,List.length_nil,h1]
  exact ⟨[u],[],k,[],by simp,by simp,hk,rfl,rfl⟩
theorem EO.sound (h:EO Γ Δ Γ'):∀ {F:LN},SA Z w Γ [] F→∃ Fd F',HO Z w Δ Fd∧SA Z w Γ' [] F'∧(Fd++F').Perm F:=by
 induction h with
 | nil=>intro F h; exact ⟨[],F,.nil,h,.refl _⟩
 | own hl h _ ih=>
  intro F hs
  obtain ⟨f,F1,hp,ho,h1⟩:=h.sound hl.loc (by rintro _ _ _ _ h; cases h; rfl) hs
  obtain ⟨Fd,F',h2,h3,h4⟩:=ih h1
  exact ⟨f++Fd,F',.own ho h2,h3,by rw [List.append_assoc]; exact (h4.append_left f).trans hp⟩
 | om hl h _ ih=>
  intro F hs
  obtain ⟨f,F1,hp,ho,h1⟩:=h.sound hl (by rintro _ _ _ _ h; cases h) hs
  obtain ⟨Fd,F',h2,h3,h4⟩:=ih h1
  exact ⟨f++Fd,F',.own ho h2,h3,by rw [List.append_assoc]; exact (h4.append_left f).trans hp⟩
 | fv h _ ih=>
  intro F hs
  obtain ⟨f,F1,hp,ho,h1⟩:=h.sound hs
  obtain ⟨Fd,F',h2,h3,h4⟩:=ih h1
  exact ⟨f++Fd,F',.own ho h2,h3,by rw [List.append_assoc]; exact (h4.append_left f).trans hp⟩
 | row h _ ih=>
  intro F hs
  obtain ⟨f,F1,hp,ho,h1⟩:=h.sound hs
  obtain ⟨Fd,F',h2,h3,h4⟩:=ih h1
  exact ⟨f++Fd,F',.own ho h2,h3,by rw [List.append_assoc]; exact (h4.append_left f).trans hp⟩
 | rd _ ih=>intro F hs; obtain ⟨Fd,F',h2,h3,h4⟩:=ih hs; exact ⟨Fd,F',.rd h2,h3,h4⟩
 | au _ ih=>intro F hs; obtain ⟨Fd,F',h2,h3,h4⟩:=ih hs; exact ⟨Fd,F',.au h2,h3,h4⟩
theorem At.sub {w:World} {p:Addr} {cs ds:LV} {j:Nat} (h:At w p cs) (hd:(cs.drop j).take ds.length=ds):At w (p.add j) ds:=by
 intro i u hi
 have uB:cs[j+i]? = some u:=by
  rw [← hd,List.getElem?_take] at hi
  split at hi
  ·rwa [List.getElem?_drop] at hi
  ·cases hi
 have h2:=h (j+i) u uB
 have e:(p.add j).add i=p.add (j+i):=by
  unfold Addr.add
  by_cases h0:j=0
  ·subst h0; simp
  ·by_cases h1:i=0
   ·subst h1; simp
   ·simp [h0,h1,Nat.add_assoc]
 rw [e]; exact h2
theorem qd.sound {p:Addr} {cs:LV} {o:Bool} (h:qd Γ p cs o):∀ {cur F:LN},SA Z w Γ cur F→At w p cs∧(cs≠[]→(o=false∧Z p.block)∨(o=true∧p.block∈F)):=by
 induction h with
 | nil=>intro cur F _; exact ⟨fun j u hj=>by simp at hj,fun h=>absurd rfl h⟩
 | @Nq p cs ds Γ h=>
  rintro cur F ⟨⟨h1,h2⟩,_⟩
  refine ⟨At.sub (j:=0) h1 (by simpa using h),fun hn=>.inl ⟨rfl,h2 fun hc=>hn (by rw [hc] at h; simpa using h.symm)⟩⟩
 | @sub p j cs ds Γ h=>
  rintro cur F ⟨⟨h1,h2⟩,_⟩
  refine ⟨At.sub h1 h,fun hn=>.inl ⟨rfl,?_⟩⟩
  have:(p.add j).block=p.block:=by unfold Addr.add; split <;> rfl
  rw [this]; exact h2 fun hc=>hn (by rw [hc] at h; simpa using h.symm)
 | @abV p i j cs ds Γ h hn=>
  rintro cur F ⟨⟨h1,h2⟩,_⟩
  have hz : ¬ i+j=0:=fun h=>by rw [h] at hn; exact absurd hn (by decide)
  have e:p.add (i+j) = ⟨p.block,p.off+i+j,none⟩:=by
   unfold Addr.add
   rw [if_neg hz,Nat.add_assoc]
  have:=At.sub h1 h
  rw [e] at this
  exact ⟨this,fun mh=>.inl ⟨rfl,h2 fun hc=>mh (by rw [hc] at h; simpa using h.symm)⟩⟩
 | @row b j t cs ds Γ h=>
  rintro cur F ⟨f,F',h1,⟨h2,h3⟩,_⟩
  refine ⟨?_,fun _=>.inr ⟨rfl,by rw [h1,h2]; simp⟩⟩
  have:=At.sub h3.at h
  rwa [gw,Nat.zero_add] at this
 | @there p cs o e Γ h ih=>
  intro cur F hS
  cases e with
  | own T v x=>obtain ⟨f,F',h1,h2,h3⟩:=hS; obtain ⟨a,b⟩:=ih h3; exact ⟨a,fun hn=>(b hn).imp id fun ⟨x,y⟩=>⟨x,by rw [h1]; exact List.mem_append_right _ y⟩⟩
  | om e E v xs=>obtain ⟨f,F',h1,h2,h3⟩:=hS; obtain ⟨a,b⟩:=ih h3; exact ⟨a,fun hn=>(b hn).imp id fun ⟨x,y⟩=>⟨x,by rw [h1]; exact List.mem_append_right _ y⟩⟩
  | row b cs e=>obtain ⟨f,F',h1,h2,h3⟩:=hS; obtain ⟨a,b⟩:=ih h3; exact ⟨a,fun hn=>(b hn).imp id fun ⟨x,y⟩=>⟨x,by rw [h1]; exact List.mem_append_right _ y⟩⟩
  | fv e E v xs j u=>obtain ⟨f,F',h1,h2,h3⟩:=hS; obtain ⟨a,b⟩:=ih h3; exact ⟨a,fun hn=>(b hn).imp id fun ⟨x,y⟩=>⟨x,by rw [h1]; exact List.mem_append_right _ y⟩⟩
  | _=>exact ih hS.2
theorem HR.sound {Δ:QE} (h:HR Γ Δ) (hZ:∀ b,Z b→Z' b) {F':LN} (hl:∀ b∈F',Z' b) (hs:SA Z w Γ [] F'):∀ e∈Δ,fact Z' w [] e:=by
 induction h with
 | nil=>intro e he; cases he
 | rd h _ ih=>
  intro e he
  rcases List.mem_cons.1 he with rfl | he
  ·obtain ⟨dg,hc,⟨⟨g,h1,h2⟩,_⟩,_⟩:=h.sound hs
   have BR:∀ b∈dg,Z' b:=fun b hb=>hl b ((hc b hb).resolve_left (by simp))
   have key:∀ o b,uX o Z dg b→Z' b:=by
    intro o b hi
    cases o
    ·exact hZ b hi
    ·exact BR b hi
   exact ⟨g,h1,fun b hb=>(h2 b hb).elim (key _ b) (key _ b)⟩
  ·exact ih e he
theorem Ku.sound {α:Type} {S:ah α} {us:LV} {xs:List α} (h:Ku Γ S us xs) (hZ:∀ b,Z b→Z' b) {F':LN} (hl:∀ b∈F',Z' b) (hs:SA Z w Γ [] F'):us.length=xs.length∧∃ g,dm (wU S) w.heap us xs g∧∀ b∈g,Z' b:=by
 induction h with
 | nil=>exact ⟨rfl,[],⟨rfl,rfl⟩,fun b hb=>absurd hb List.not_mem_nil⟩
 | @cons V S cl en p x v o us xs qn _ hp hr _ ih=>
  obtain ⟨e1,g,h1,h2⟩:=ih
  obtain ⟨a1,a2⟩:=hp.sound hs
  obtain ⟨g0,b1,b2⟩:=qn.cl (hr.sound hZ hl hs)
  have mc:=qn.ne x v
  have hpz:Z' p.block:=(a2 mc).elim (fun h=>hZ _ h.2) fun h=>hl _ h.2
  have bb:p.block < w.heap.size:=by
   cases hc:cl x v with
   | nil=>exact absurd hc mc
   | cons u _=>
    have:=Kw (a1 0 u (by rw [hc]; rfl))
    rwa [wi] at this
  refine ⟨by simp [e1],(p.block :: g0)++g,⟨[.pointer (some p)],us,p.block :: g0,g,rfl,rfl,⟨p,_,g0,rfl,bb,fun j u hj=>a1 j u hj,b1,rfl⟩,h1⟩,fun b hb=>?_⟩
  rcases List.mem_append.1 hb with hb | hb
  ·rcases List.mem_cons.1 hb with rfl | hb
   ·exact hpz
   ·exact b2 b hb
  ·exact h2 b hb
theorem Kv.sound {α:Type} {S:ah α} {us:LV} {xs:List α} (h:Kv Γ S us xs) (hZ:∀ b,Z b→Z' b) {F':LN} (hl:∀ b∈F',Z' b) (hs:SA Z w Γ [] F'):∃ g,dm S w.heap us xs g∧∀ b∈g,Z' b:=by
 induction h with
 | nil=>exact ⟨[],⟨rfl,rfl⟩,fun b hb=>absurd hb List.not_mem_nil⟩
 | @cons V S cl en x v us ws xs qn _ hc hr _ ih=>
  obtain ⟨g,h1,h2⟩:=ih
  obtain ⟨g0,b1,b2⟩:=qn.cl (hr.sound hZ hl hs)
  exact ⟨g0++g,⟨_,us,g0,g,hc.eq.symm,rfl,b1,h1⟩,fun b hb=>(List.mem_append.1 hb).elim (b2 b) (h2 b)⟩
theorem zN.sound {α:Type} {E:ah α} {us:LV} {xs:List α} (h:zN Γ E us xs) (hZ:∀ b,Z b→Z' b) {F':LN} (hl:∀ b∈F',Z' b) (hs:SA Z w Γ [] F'):E.size=1∧us.length=xs.length∧∃ g,dm E w.heap us xs g∧∀ b∈g,Z' b:=by
 induction h with
 | nil h=>exact ⟨h,rfl,[],⟨rfl,rfl⟩,fun b hb=>absurd hb List.not_mem_nil⟩
 | @int k a us xs _ ih=>
  obtain ⟨e0,e1,g,h1,h2⟩:=ih
  exact ⟨e0,by simp [e1],g,⟨[_],us,[],g,rfl,rfl,⟨rfl,rfl⟩,h1⟩,h2⟩
 | @bool a us xs _ ih=>
  obtain ⟨e0,e1,g,h1,h2⟩:=ih
  exact ⟨e0,by simp [e1],g,⟨[_],us,[],g,rfl,rfl,⟨rfl,rfl⟩,h1⟩,h2⟩
 | @lit α E b n vs x t us xs Γ1 h hn _ _ ihp ih=>
  obtain ⟨e0,e1,g,h1,h2⟩:=ih
  obtain ⟨d0,d1,k,k1,k2⟩:=ihp
  obtain ⟨f,F1,tr,⟨rfl,av⟩,_⟩:=h.sound hs
  have hb:Z' b:=hl b (tr.mem_iff.1 (List.mem_append_left _ (by simp)))
  refine ⟨rfl,by simp [e1],(b :: k)++g,⟨[_],us,b :: k,g,rfl,rfl,⟨_,n,by rw [← hn,d1],.inr ⟨b,0,vs.toArray,t,_,k,rfl,av,rfl,by rw [← hn,d1]; exact Nat.le_refl _,?_⟩⟩,h1⟩,fun i hi=>?_⟩
  ·rw [List.drop_zero,d0,Nat.mul_one,List.toList_toArray,← d1,List.take_length]
   exact k1
  ·rcases List.mem_append.1 hi with hi | hi
   ·rcases List.mem_cons.1 hi with rfl | hi
    ·exact hb
    ·exact k2 i hi
   ·exact h2 i hi
 | @sl α E o1 o2 u x us xs Γx h _ ih=>
  obtain ⟨e0,e1,g,h1,h2⟩:=ih
  obtain ⟨dg,hc,⟨⟨k,a1,a2⟩,_⟩,_⟩:=h.sound hs
  have BR:∀ b∈dg,Z' b:=fun b hb=>hl b ((hc b hb).resolve_left (by simp))
  have key:∀ o b,uX o Z dg b→Z' b:=by
   intro o b hi
   cases o
   ·exact hZ b hi
   ·exact BR b hi
  refine ⟨rfl,by simp [e1],k++g,⟨[u],us,k,g,rfl,rfl,a1,h1⟩,fun b hb=>?_⟩
  exact (List.mem_append.1 hb).elim (fun hb=>(a2 b hb).elim (key _ b) (key _ b)) (h2 b)
theorem ER.sound {l:Bool} (h:ER l Γ Δ) (hZ:∀ b,Z b→Z' b) {F':LN} (hl:l=true→∀ b∈F',Z' b) (hs:SA Z w Γ [] F'):∀ {Fd:LN},HO Z w Δ Fd→HL Z' w Δ Fd:=by
 induction h with
 | mp h _ ih=>
  intro Fd hh
  cases hh with
  | own h k=>exact h.elim
  | rd k=>
   obtain ⟨g,h1,h2⟩:=h.rd hs []
   exact .fact ⟨g,h1,fun b hb=>hZ b (h2 b hb)⟩ (ih hl hs k)
 | nil=>intro Fd h; cases h; exact .nil
 | own _ ih=>intro Fd h; cases h with | own h k=>exact .own (h.mono hZ) (ih hl hs k)
 | om _ ih=>intro Fd h; cases h with | own h k=>exact .own (h.mono hZ) (ih hl hs k)
 | row _ ih=>intro Fd h; cases h with | own h k=>exact .own (h.mono hZ) (ih hl hs k)
 | fv _ ih=>intro Fd h; cases h with | own h k=>exact .own (h.mono hZ) (ih hl hs k)
 | @rp α S b n us xs t Γ Γ1 Δ h hn hp _ ih=>
  intro Fd hh
  cases hh with
  | own h k=>exact h.elim
  | rd k=>
   refine .fact ?_ (ih hl hs k)
   obtain ⟨f,F1,tr,⟨rfl,av⟩,_⟩:=h.sound hs
   obtain ⟨e1,g,h1,h2⟩:=hp.sound hZ (hl rfl) hs
   have hb:Z' b:=hl rfl b (tr.mem_iff.1 (List.mem_append_left _ (by simp)))
   refine ⟨b :: g,⟨_,n,by rw [← hn,e1],.inr ⟨b,0,us.toArray,t,_,g,rfl,av,rfl,by rw [← hn,e1]; exact Nat.le_refl _,?_⟩⟩,fun i hi=>?_⟩
   ·have e2:(wU S).size=1:=rfl
    rw [List.drop_zero,e2,Nat.mul_one,List.toList_toArray,← e1,List.take_length]
    exact h1
   ·rcases List.mem_cons.1 hi with rfl | hi
    ·exact hb
    ·exact h2 i hi
 | @rs α S b n us xs t Γ Γ1 Δ h hn hp _ ih=>
  intro Fd hh
  cases hh with
  | own h k=>exact h.elim
  | rd k=>
   refine .fact ?_ (ih hl hs k)
   obtain ⟨f,F1,tr,⟨rfl,av⟩,_⟩:=h.sound hs
   obtain ⟨g,h1,h2⟩:=hp.sound hZ (hl rfl) hs
   have hb:Z' b:=hl rfl b (tr.mem_iff.1 (List.mem_append_left _ (by simp)))
   refine ⟨b :: g,⟨_,n,by rw [← hn],.inr ⟨b,0,us.toArray,t,_,g,rfl,av,rfl,by rw [← hn]; exact Nat.le_refl _,?_⟩⟩,fun i hi=>?_⟩
   ·have e2:(sg S).size=S.size:=rfl
    rw [List.drop_zero,e2,List.toList_toArray,← jq h1,List.take_length]
    exact vI Le.str h1
   ·rcases List.mem_cons.1 hi with rfl | hi
    ·exact hb
    ·exact h2 i hi
 | @rr α E b n us xs t Γ Γ1 Δ h hn hp _ ih=>
  intro Fd hh
  cases hh with
  | own h k=>exact h.elim
  | rd k=>
   refine .fact ?_ (ih hl hs k)
   obtain ⟨f,F1,tr,⟨rfl,av⟩,_⟩:=h.sound hs
   obtain ⟨e2,e1,g,h1,h2⟩:=hp.sound hZ (hl rfl) hs
   have hb:Z' b:=hl rfl b (tr.mem_iff.1 (List.mem_append_left _ (by simp)))
   refine ⟨b :: g,⟨_,n,by rw [← hn,e1],.inr ⟨b,0,us.toArray,t,_,g,rfl,av,rfl,by rw [← hn,e1]; exact Nat.le_refl _,?_⟩⟩,fun i hi=>?_⟩
   ·rw [List.drop_zero,e2,Nat.mul_one,List.toList_toArray,← e1,List.take_length]
    exact h1
   ·rcases List.mem_cons.1 hi with rfl | hi
    ·exact hb
    ·exact h2 i hi
 | HM h _ ih=>
  intro Fd hh
  cases hh with
  | own h k=>exact h.elim
  | rd k=>
   refine .fact ?_ (ih hl hs k)
   obtain ⟨dg,hc,⟨⟨g,h1,h2⟩,_⟩,_⟩:=h.sound hs
   have BR:∀ b∈dg,Z' b:=fun b hb=>hl rfl b ((hc b hb).resolve_left (by simp))
   have key:∀ o b,uX o Z dg b→Z' b:=by
    intro o b hi
    cases o
    ·exact hZ b hi
    ·exact BR b hi
   exact ⟨g,h1,fun b hb=>(h2 b hb).elim (key _ b) (key _ b)⟩
 | Nr h _ ih=>
  intro Fd hh
  cases hh with
  | own h k=>exact h.elim
  | rd k=>
   refine .fact ?_ (ih hl hs k)
   obtain ⟨dg,hc,⟨⟨g,h1,h2⟩,_⟩,_⟩:=h.sound hs
   exact ⟨g,h1,fun b hb=>(h2 b hb).elim (hZ b) (hZ b)⟩
 | att h _ ih=>
  intro Fd hh
  cases hh with
  | own h k=>exact h.elim
  | au k=>
   refine .fact ?_ (ih hl hs k)
   obtain ⟨h1,h2⟩:=h.sound hs
   exact ⟨h1,fun hn=>(h2 hn).elim (fun h=>hZ _ h.2) (fun h=>hl rfl _ h.2)⟩
 | atf h _ ih=>
  intro Fd hh
  cases hh with
  | own h k=>exact h.elim
  | au k=>
   refine .fact ?_ (ih hl hs k)
   obtain ⟨h1,h2⟩:=h.sound hs
   exact ⟨h1,fun hn=>(h2 hn).elim (fun h=>hZ _ h.2) (fun h=>nomatch h.1)⟩
inductive EP:List aq→List aq→Prop
 | nil {Γ:QE}:EP Γ []
 | au {p:Addr} {cs:LV} {o:Bool} {Γ Δ:QE} (h:qd Γ p cs o) (k:EP Γ Δ):EP Γ (.au p cs :: Δ)
 | skip {e:aq} {Γ Δ:QE} (k:EP Γ Δ):EP Γ (e :: Δ)
inductive GL:uz→List aq→Value→{α:Type}→ah α→List α→List aq→Prop
 | z {α:Type} {E:ah α} {v:Value} {x:List α} {Γ Γx:QE} (h:lr Γ v false false E x o6 Γx):GL .z Γ v E x Γ
 | nil {α:Type} {E:ah α} {Γ:QE}:GL .nil Γ (.slice none 0 0) E [] Γ
 | own {α:Type} {E:ah α} {T:ah (List α)} {v:Value} {x:List α} {Γ Γ':QE} (h:bz Γ (.own T v x) Γ') (hr:RT T (aV E)):GL .own Γ v E x (.rd false (aV E) v x :: Γ')
 | om {α:Type} {t:TI} {E E1:ah α} {v:Value} {x:List α} {Γ Γ':QE} (h:bz Γ (.om t E1 v x) Γ') (hr:RT E1 E):GL .om Γ v E x (.rd false (aV E) v x :: Γ')
 | og {α:Type} {n:Nat} {e:TI} {S:ah α} {v:Value} {us:List (List Value)} {x:List α} {Γ Γ':QE} (h:bz Γ (.own (aJ e (kq n)) v us) Γ') (hg:In (.rd false (vz S) (.bool true) (us,x)) Γ) (hn:S.size=n):GL .og Γ v (sg S) x (.rd false (aV (sg S)) v x :: Γ')
inductive EF:List aq→List aq→List aq→Prop
 | nil {Γ:QE}:EF Γ [] Γ
 | own {l:uz} {α:Type} {T:ah α} {v:Value} {x:α} {Γ Γ1 Γ2 Δ:QE} (hl:Loc Γ v l) (h:BF l Γ (.own T v x) Γ1) (k:EF Γ1 Δ Γ2):EF Γ (.own T v x :: Δ) Γ2
 | om {l:uz} {α:Type} {t:TI} {E:ah α} {v:Value} {xs:List α} {Γ Γ1 Γ2 Δ:QE} (hl:Loc Γ v l) (h:BF l Γ (.om t E v xs) Γ1) (k:EF Γ1 Δ Γ2):EF Γ (.om t E v xs :: Δ) Γ2
 | row {b:Nat} {cs:LV} {t:TI} {Γ Γ1 Γ2 Δ:QE} (h:bz Γ (.row b cs t) Γ1) (k:EF Γ1 Δ Γ2):EF Γ (.row b cs t :: Δ) Γ2
 | rd {l:uz} {α:Type} {E:ah α} {v:Value} {x:List α} {Γ Γ1 Γ2 Δ:QE} (hl:Loc Γ v l) (h:GL l Γ v E x Γ1) (k:EF Γ1 Δ Γ2):EF Γ (.rd false (aV E) v x :: Δ) Γ2
 | au {p:Addr} {cs:LV} {Γ Γ2 Δ:QE} (h:qd Γ p cs false) (k:EF Γ Δ Γ2):EF Γ (.au p cs :: Δ) Γ2
 | mp {κ υ:Type} {ek:κ→Value} {eu:υ→Value} {v:Value} {x:List (κ×υ)} {Γ Γ2 Δ:QE} (h:In (.rd false (sG ek eu) v x) Γ) (k:EF Γ Δ Γ2):EF Γ (.rd false (sG ek eu) v x :: Δ) Γ2
def qv (Z:Nat→Prop) (f:LN):Nat→Prop:=fun b=>Z b∨b∈f
theorem SA.left (h:SA Z w Γ [] F):SA (qv Z f) w Γ [] F:=h.mono (fun _ h=>.inl h) fun _ h=>h
theorem Kx {f g:LN} (b:Nat):qv (qv Z f) g b↔qv Z (f++g) b:=by
 unfold qv; rw [List.mem_append,or_assoc]
theorem GL.sound {l:uz} {α:Type} {E:ah α} {v:Value} {x:List α} (h:GL l Γ v E x Γ'):∀ {F:LN},SA Z w Γ [] F→∃ f F',(f++F').Perm F∧fact (qv Z f) w [] (.rd false (aV E) v x)∧SA (qv Z f) w Γ' [] F':=by
 cases h with
 | z h=>
  intro F hs
  obtain ⟨dg,_,⟨⟨g,h1,h2⟩,_⟩,_⟩:=h.sound hs
  exact ⟨[],F,.refl _,⟨g,h1,fun b hb=>.inl ((h2 b hb).elim id id)⟩,hs.left⟩
 | nil=>intro F hs; exact ⟨[],F,.refl _,⟨[],Kt,fun _ h=>absurd h List.not_mem_nil⟩,hs.left⟩
 | own h hr=>
  intro F hs
  obtain ⟨f,F1,hp,ho,h1⟩:=h.sound hs
  have hf:fact (qv Z f) w [] (.rd false (aV E) v x):=⟨f,hr.le.le ho,fun b hb=>.inr hb⟩
  exact ⟨f,F1,hp,hf,SA.fact h1.left hf⟩
 | om h hr=>
  intro F hs
  obtain ⟨f,F1,hp,ho,h1⟩:=h.sound hs
  obtain ⟨⟨g,hg,hb⟩,_⟩:=(Ly ho).le hr.le
  have hf:fact (qv Z f) w [] (.rd false (aV E) v x):=⟨g,hg,fun b hm=>(hb b hm).elim .inr .inl⟩
  exact ⟨f,F1,hp,hf,SA.fact h1.left hf⟩
 | @og _ n e S _ us _ _ Γ' h hg hn=>
  intro F hs
  obtain ⟨f,F1,hp,ho,h1⟩:=h.sound hs
  obtain ⟨g,vA,gq⟩:=hg.rd hs []
  have n7:∀ b∈g,Z b:=gq
  have hf:fact (qv Z f) w [] (.rd false (aV (sg S)) v x):=by
   obtain ⟨_,HS,_⟩:=vA
   obtain ⟨base,cap,hv,hr⟩:=ho
   have hlen:=zM HS
   rcases hr with ⟨rfl,rfl,e1,rfl⟩ | ⟨b,cur,f',rfl,h2,rfl,h4,h5,h6,h3⟩
   ·have e2:us=[]:=e1
    have ex:x=[]:=List.eq_nil_of_length_eq_zero (by rw [← hlen]; simp [e2])
    subst ex
    exact ⟨[],⟨none,0,by simpa [e2] using hv,.inl ⟨rfl,rfl⟩⟩,fun _ h=>absurd h List.not_mem_nil⟩
   ·refine ⟨b :: g,⟨_,cap,by rw [← hlen]; exact hv,.inr ⟨b,0,cur,e,(0,0),g,rfl,h2,rfl,by rw [← hlen]; exact h4,?_⟩⟩,fun i hi=>?_⟩
    ·have Eu:=vI (Le.str (S:=S)) (TR HS)
     have hc:cur.toList.take (us.length * (kq n).size)=us.flatten:=(HQ h3).1
     have b9:(sg S).size=n:=hn
     rw [List.drop_zero,b9,← hlen]
     show dm (sg S) w.heap (cur.toList.take (us.length * (kq n).size)) x g
     rw [hc]
     exact Eu
    ·rcases List.mem_cons.1 hi with rfl | hi
     ·exact .inr (by simp)
     ·exact .inl (n7 i hi)
  exact ⟨f,F1,hp,hf,SA.fact h1.left hf⟩
theorem EF.sound (h:EF Γ Δ Γ'):∀ {Z:Nat→Prop} {F:LN},SA Z w Γ [] F→∃ Fd F' Zn,HL (qv Z Zn) w Δ Fd∧SA (qv Z Zn) w Γ' [] F'∧(Fd++F'++Zn).Perm F:=by
 induction h with
 | nil=>intro Z F h; exact ⟨[],F,[],.nil,h.left,by simp⟩
 | own hl h _ ih=>
  intro Z F hs
  obtain ⟨f,F1,hp,ho,h1⟩:=h.sound hl (by rintro _ _ _ _ h; cases h; rfl) hs
  obtain ⟨Fd,F',Zn,h2,h3,h4⟩:=ih h1
  exact ⟨f++Fd,F',Zn,.own (ho.mono fun _ h=>.inl h) h2,h3,by simp only [List.append_assoc] at h4 ⊢; exact (h4.append_left f).trans hp⟩
 | om hl h _ ih=>
  intro Z F hs
  obtain ⟨f,F1,hp,ho,h1⟩:=h.sound hl (by rintro _ _ _ _ h; cases h) hs
  obtain ⟨Fd,F',Zn,h2,h3,h4⟩:=ih h1
  exact ⟨f++Fd,F',Zn,.own (ho.mono fun _ h=>.inl h) h2,h3,by simp only [List.append_assoc] at h4 ⊢; exact (h4.append_left f).trans hp⟩
 | row h _ ih=>
  intro Z F hs
  obtain ⟨f,F1,hp,ho,h1⟩:=h.sound hs
  obtain ⟨Fd,F',Zn,h2,h3,h4⟩:=ih h1
  exact ⟨f++Fd,F',Zn,.own (ho.mono fun _ h=>.inl h) h2,h3,by simp only [List.append_assoc] at h4 ⊢; exact (h4.append_left f).trans hp⟩
 | rd hl h _ ih=>
  intro Z F hs
  obtain ⟨f,F1,hp,ho,h1⟩:=h.sound hs
  obtain ⟨Fd,F',Zn,h2,h3,h4⟩:=ih h1
  refine ⟨Fd,F',f++Zn,.fact (ho.mono (fun b hb=>hb.elim .inl fun h=>.inr (List.mem_append_left _ h)) fun _ h=>h) (h2.mono fun b=>(Kx b).1),h3.mono (fun b=>(Kx b).1) fun _ h=>h,?_⟩
  refine .trans ?_ ((h4.append_left f).trans hp)
  rw [← List.append_assoc,← List.append_assoc]
  exact (List.perm_append_comm (l₁:=Fd++F') (l₂:=f)).append_right Zn
 | au h _ ih=>
  intro Z F hs
  obtain ⟨Fd,F',Zn,h2,h3,h4⟩:=ih hs
  obtain ⟨a,b⟩:=h.sound hs
  exact ⟨Fd,F',Zn,.fact ⟨a,fun hn=>.inl ((b hn).elim (fun h=>h.2) fun h=>nomatch h.1)⟩ h2,h3,h4⟩
 | mp h _ ih=>
  intro Z F hs
  obtain ⟨Fd,F',Zn,h2,h3,h4⟩:=ih hs
  obtain ⟨g,hk,hz⟩:=h.rd hs []
  exact ⟨Fd,F',Zn,.fact ⟨g,hk,fun b hb=>.inl (hz b hb)⟩ h2,h3,h4⟩
theorem Gd.freeze {Zn:LN} (h:Gd B Z (F++Zn) w) (bb:∀ b∈Zn,b < w.heap.size):Gd B (qv Z Zn) F w:=by
 have cp:=List.nodup_append.1 h.nd
 refine ⟨cp.1,?_,?_,fun b hb=>h.low b (List.mem_append_left _ hb),fun b hb=>.inl (h.wk b hb),?_,h.jf⟩
 ·rintro b hb (hz | hz)
  ·exact h.apart b (List.mem_append_left _ hb) hz
  ·exact cp.2.2 b hb b hz rfl
 ·rintro b (hz | hz)
  ·exact h.nh b hz
  ·exact bb b hz
 ·rintro b (hz | hz)
  ·exact h.vH b hz
  ·exact .inr (h.low b (List.mem_append_right _ hz))
end
end Go.Dk
namespace Go.Dk
open Go Go.Li
structure Cx (R:Type) where
 n:Nat
 fn:Func
 V:Type
 ret:R→V→List Value
 post:R→V→List aq
inductive KI where
 | seq (c:Code)
 | BS (k:Nat)
inductive Kb (R:Type):Type→Type 1
 | top {S:Type}:Kb R S
 | PZ:Kb R R
 | loop {S:Type} (V:Type) (k:Nat) (Δ:S→V→List aq) (φ:S→V→Fr) (Γ2:QE) (f2:Fr):Kb R S
 | lx {S:Type} (V:Type) (k j:Nat) (Δ:S→V→List aq) (φ:S→V→Fr) (Γ2:QE) (f2:Fr):Kb R S
structure ch (R S:Type) where
 iz:List KI
 b:Kb R S
inductive RK (R:Type):Type→Type 1
 | n {S:Type} (K:ch R S):RK R (Out S R)
 | g (t:Nat) (f0:Fr):RK R Bool
 | s {S:Type} (K:ch R S):RK R (Out S R)
 | h {S:Type} (all tail:LO) (K:ch R S):RK R (Out S R)
inductive Jd (R:Type):Type 1
 | p (φ:Fr) (Δ:QE) (fr:Fr) (Γ:QE) (k:Fr→List aq→Jd R)
 | cs {β:Type} (y:β) (k:β→Jd R)
 | tp (vs:LV) (d:Nat) (fr:Fr) (k:Fr→Jd R)
 | c {S:Type} (K:ch R S) (c:Code) (Γ:QE) (fr:Fr) (m:Option (Out S R))
 | cd {S:Type} (b:Bool) (K:ch R S) (x y:Code) (Γ:QE) (fr:Fr) (m:Option (Out S R))
 | n {S:Type} (K:ch R S) (Γ:QE) (fr:Fr) (m:Option (Out S R))
 | x {S:Type} (k:Nat) (K:ch R S) (Γ:QE) (fr:Fr) (m:Option (Out S R))
 | xb {S:Type} (e:Bool) (k:Nat) (K:ch R S) (Γ:QE) (fr:Fr) (m:Option (Out S R))
 | bk {S:Type} (e:Bool) (k:Nat) (K:ch R S) (c:Code) (Γ:QE) (fr:Fr) (m:Option (Out S R))
 | dr {S:Type} (id:Nat) (ops:LO) (K:ch R S) (Γ:QE) (fr:Fr) (m:Option (Out S R))
 | rg {S:Type} (e:Bool) (draw:Bool) (ops:LO) (K:ch R S) (Γ:QE) (fr:Fr) (m:Option (Out S R))
 | rw {S:Type} (st:Bool) (ops:LO) (K:ch R S) (Γ:QE) (fr:Fr) (m:Option (Out S R))
 | o {M:Type} (q:Bool) (all ops:LO) (rk:RK R M) (Γ:QE) (fr:Fr) (m:Option M)
 | e {M:Type} (q:Bool) (op:Op) (d:Option Nat) (ty:TI) (all ops:LO) (rk:RK R M) (Γ:QE) (fr:Fr) (m:Option M)
 | gd {M:Type} (v:Value) (tt:Bool) (j t:Nat) (q:Bool) (op:Op) (d:Option Nat) (ty:TI) (all ops:LO) (rk:RK R M) (Γ:QE) (fr:Fr) (m:Option M)
 | mo {M:Type} (all ops:LO) (rk:RK R M) (Γ:QE) (fr:Fr) (m:Option M)
 | mn {S:Type} (K:ch R S) (Γ:QE) (fr:Fr) (m:Option (Out S R))
 | tg {S:Type} (q g:Bool) (all tail:LO) (K:ch R S) (Γ:QE) (fr:Fr) (m:Option (Out S R))
 | sl {M:Type} (l:uz) (v:Value) (j:Int) (u:Value) (t:TI) (x y:OO) (ty:TI) (all ops:LO) (rk:RK R M) (Γ:QE) (fr:Fr) (m:Option M)
 | cz {M β V:Type} (o:Bool) (f:FuncId) (vs:LV) (op:Op) (d:Nat) (ty:TI) (Δ:QE) (mo:Option β) (rt:β→V→List Value) (ps:β→V→List aq) (all ops:LO) (rk:RK R M) (Γ:QE) (fr:Fr) (g:β→Option M)
 | fa (f:FuncId) (j:Jd R)
 | ia (t a:TI) (j:Jd R)
 | im (t:TI) (name:String) (j:FuncId→Jd R)
 | cv {M:Type} (f:FuncId) (vs:LV) (q:Bool) (op:Op) (d:Nat) (ty:TI) (all ops:LO) (rk:RK R M) (Γ:QE) (fr:Fr) (m:Option M)
 | la {M:Type} (a:Addr) (lk:Option Nat) (q:Bool) (ty:TI) (x:OO) (d:Nat) (all ops:LO) (rk:RK R M) (Γ:QE) (fr:Fr) (m:Option M)
 | ld {M α:Type} (E:ah α) (z:α) (a:Addr) (q:Bool) (ty:TI) (x:OO) (d:Nat) (all ops:LO) (rk:RK R M) (Γ:QE) (fr:Fr) (m:Option M)
 | ax {M α:Type} (E:ah α) (e t:TI) (bt:Nat) (xv sv:Value) (s x:OO) (d:Nat) (ty:TI) (all ops:LO) (rk:RK R M) (Γ:QE) (fr:Fr) (m:Option M)
 | ap {M α:Type} (E:ah α) (e t:TI) (bt:Nat) (u:Value) (b:Nat) (sv:Value) (s x:OO) (d:Nat) (ty:TI) (all ops:LO) (rk:RK R M) (Γ:QE) (fr:Fr) (m:Option M)
 | Nu {M α:Type} (k:Bool) (e':TI) (E:ah α) (e t:TI) (bt:Nat) (u:Value) (b:Nat) (sv:Value) (s x:OO) (d:Nat) (ty:TI) (all ops:LO) (rk:RK R M) (Γ:QE) (fr:Fr) (m:Option M)
 | st {M:Type} (a:Addr) (u:Value) (n:Nat) (t:TI) (x y:OO) (ty:TI) (all ops:LO) (rk:RK R M) (Γ:QE) (fr:Fr) (m:Option M)
def P0 (P:Program) (t:TI) {α:Type} (e:TI) (E:ah α) (bt:Nat):Prop:=
 P.underlying t=some (.slice e)∧E.size=1∧∃ i z,P.info? e=some i∧i.zero=some z∧i.size=1∧z.oneCell'=true∧i.bytes=bt
section
variable {R:Type} (P:Program) (cx:Cx R) (B:Bs)
def Rr:R→Ending→World→Prop:=fun y e w=>∃ u:cx.V,e = .returned (l7 (cx.ret y u))∧Ns B (cx.post y u) w
def TT:R→(Nat→Value)→World→Prop:=Tm P cx.fn cx.n (Rr cx B)
def LI {S V:Type} (Δ:S→V→List aq) (φ:S→V→Fr) (Γ2:QE) (f2:Fr):S→(Nat→Value)→World→Prop:=
 fun s r w=>∃ v:V,cq r ((φ s v).reverse++f2)∧St B ((Δ s v).reverse++Γ2) w
def LA {S:Type} (b:Kb R S) (o:Out S R):Exit→(Nat→Value)→World→Prop:=
 match S,b,o with
 | _,.top,o=>p7 (fun _ _ _=>False) (fun _ _ _ _=>False) (TT P cx B) o
 | _,.PZ,o=>p7 (TT P cx B) (fun _ _ _ _=>False) (TT P cx B) o
 | _,.loop _ k Δ φ Γ2 f2,o=>p7 (LI B Δ φ Γ2 f2) (fun j s r w=>bif Nat.beq j k then LI B Δ φ Γ2 f2 s r w else False) (TT P cx B) o
 | _,.lx _ k j Δ φ Γ2 f2,o=>p7 (LI B Δ φ Γ2 f2) (fun i s r w=>bif Nat.beq i k then LI B Δ φ Γ2 f2 s r w else bif Nat.beq i j then LI B Δ φ Γ2 f2 s r w else False) (TT P cx B) o
def CM (n:Nat) (Q:Exit→(Nat→Value)→World→Prop):List KI→Exit→(Nat→Value)→World→Prop
 | []=>Q
 | .seq c :: iz=>andThen (W P n c (CM n Q iz)) (CM n Q iz)
 | .BS k :: iz=>Ht k (CM n Q iz)
def ku {S:Type} (K:ch R S) (o:Out S R):Exit→(Nat→Value)→World→Prop:=CM P cx.n (LA P cx B K.b o) K.iz
def CN {M:Type} (rk:RK R M) (o:M) (r:NV) (w:World):Prop:=
 match M,rk,o with
 | _,.n K,o=>ku P cx B K o .normal r w
 | _,.g t f0,o=>r t = .bool o∧cq r f0
 | _,.s K,o=>ku P cx B K o .normal r w
 | _,.h all tail K,o=>WL P all tail r w (ku P cx B K o .normal)
def run {M:Type} (q:Bool) (all l:LO) (rk:RK R M) (o:M) (r:NV) (w:World):Prop:=
 match q with
 | false=>WL P all l r w (CN P cx B rk o)
 | true=>QL P (ak [] w) all l r fun r'=>∀ w',ak [] w w'→CN P cx B rk o r' w'
def sH {M:Type} (q:Bool) (oo:Oper) (all l:LO) (rk:RK R M) (o:M) (r:NV) (w:World):Prop:=
 match q with
 | false=>fh P oo r w fun v w'=>WL P all l (gf r oo.dst v) w' (CN P cx B rk o)
 | true=>∃ v,OpQ P (ak [] w) oo r v∧QL P (ak [] w) all l (gf r oo.dst v) fun r'=>∀ w',ak [] w w'→CN P cx B rk o r' w'
end
section
variable {R:Type} (P:Program) (cx:Cx R)
def qa:Jd R→Prop
 | .p φ Δ fr Γ k=>qa (k (φ.reverse++fr) (Δ.reverse++Γ))
 | .cs y k=>qa (k y)
 | .tp vs d fr k=>qa (k ((d,l7 vs) :: fr))
 | .c K c Γ fr m=>∀ B o,m=some o→∀ r w,cq r fr→St B Γ w→W P cx.n c (ku P cx B K o) r w
 | .bk _ k K c Γ fr m=>∀ B o,m=some o→∀ r w,cq r fr→St B Γ w→W P cx.n (.block k c) (ku P cx B K o) r w
 | .dr id ops K Γ fr m=>∀ B o,m=some o→∀ r w,cq r fr→St B Γ w→W P cx.n (.region id ops.toArray true) (ku P cx B K o) r w
 | .cd b K x y Γ fr m=>∀ B o,m=some o→∀ r w,cq r fr→St B Γ w→(b=true→W P cx.n x (ku P cx B K o) r w)∧(b=false→W P cx.n y (ku P cx B K o) r w)
 | .n K Γ fr m=>∀ B o,m=some o→∀ r w,cq r fr→St B Γ w→ku P cx B K o .normal r w
 | .x k K Γ fr m=>∀ B o,m=some o→∀ r w,cq r fr→St B Γ w→ku P cx B K o (.exit k) r w
 | .xb e k K Γ fr m=>∀ B o,m=some o→∀ r w,cq r fr→St B Γ w→ku P cx B K o (bif e then .normal else .exit k) r w
 | .rg _ draw ops K Γ fr m=>dh cx.n ops=true→(draw=true→P.follows .mixedOrders=true∧Region.lexB .any ops.toArray=true)→∀ B o,m=some o→∀ r w,cq r fr→St B Γ w→∀ id,W P cx.n (.region id ops.toArray draw) (ku P cx B K o) r w
 | .rw _ ops K Γ fr m=>dh cx.n ops=true→∀ B o,m=some o→∀ r w,cq r fr→St B Γ w→∀ id,W P cx.n (.region id ops.toArray false) (ku P cx B K o) r w
 | .o q all ops rk Γ fr m=>∀ B o,m=some o→∀ r w,cq r fr→St B Γ w→run P cx B q all ops rk o r w
 | .e q op d ty all ops rk Γ fr m=>∀ B o,m=some o→∀ r w,cq r fr→St B Γ w→∀ pos ab g,sH P cx B q ⟨d,op,ty,pos,ab,g⟩ all ops rk o r w
 | .gd v tt j t q op d ty all ops rk Γ fr m=>bj all j=some t→look fr t=some v→∀ B o,m=some o→∀ r w,cq r fr→St B Γ w→∀ pos ab,run P cx B q all (⟨d,op,ty,pos,ab,some (j,tt)⟩ :: ops) rk o r w
 | .mo all ops rk Γ fr m=>∀ B o,m=some o→∀ r w,cq r fr→St B Γ w→run P cx B false all ops rk o r w
 | .tg q _ all tail K Γ fr m=>∀ B o,m=some o→∀ r w,cq r fr→St B Γ w→run P cx B q all tail (.n K) o r w
 | .mn K Γ fr m=>∀ B o,m=some o→∀ r w,cq r fr→St B Γ w→ku P cx B K o .normal r w
 | .sl l v j u t x y ty all ops rk Γ fr m=>(∃ i,P.info? t=some i∧i.size=1)→ay fr x=some (.pointer (some (cn v 1 j)))→ay fr y=some u→Loc Γ v l→∀ B o,m=some o→∀ r w,cq r fr→St B Γ w→∀ pos ab g,sH P cx B false ⟨none,.store t x y,ty,pos,ab,g⟩ all ops rk o r w
 | .cz ow f vs op d ty Δ mo rt ps all ops rk Γ fr g=>Ct P f ow mo vs Δ rt ps→∀ B o,(mo>>=g)=some o→∀ r w,cq r fr→St B Γ w→∀ pos ab gg,(∀ w',(execOp (ev r) ⟨some d,op,ty,pos,ab,gg⟩).run P w' = .ok (.enter f vs.toArray) w')→sH P cx B false ⟨some d,op,ty,pos,ab,gg⟩ all ops rk o r w
 | .fa f j=>abW P f∧qa j
 | .ia t a j=>IA P t a∧qa j
 | .im t name j=>∃ f,IM P t name f∧qa (j f)
 | .cv f vs q op d ty all ops rk Γ fr m=>∀ B o,m=some o→∀ r w,cq r fr→St B Γ w→∀ pos ab g,(∀ w',(execOp (ev r) ⟨some d,op,ty,pos,ab,g⟩).run P w' = .ok (.enter f vs.toArray) w')→sH P cx B q ⟨some d,op,ty,pos,ab,g⟩ all ops rk o r w
 | .la a lk q ty x d all ops rk Γ fr m=>(match lk with | none=>NA P ty | some n=>AG P ty n)→ay fr x=some (.pointer (some a))→∀ B o,m=some o→∀ r w,cq r fr→St B Γ w→∀ t pos ab g,sH P cx B q ⟨some d,.load ty x,t,pos,ab,g⟩ all ops rk o r w
 | .ld E z a q ty x d all ops rk Γ fr m=>NA P ty→ay fr x=some (.pointer (some a))→∀ B o,m=some o→∀ r w,cq r fr→St B Γ w→(∃ u g,w.cell? a=some u∧E.rep w.heap [u] z g)→∀ t pos ab g,sH P cx B q ⟨some d,.load ty x,t,pos,ab,g⟩ all ops rk o r w
 | .ax E e t bt xv sv s x d ty all ops rk Γ fr m=>P0 P t e E bt→ay fr s=some sv→ay fr x=some xv→∀ B o,m=some o→∀ r w,cq r fr→St B Γ w→∀ pos ab g,sH P cx B false ⟨some d,.call ⟨.builtin .append,#[s,x],#[t,t]⟩,ty,pos,ab,g⟩ all ops rk o r w
 | .ap E e t bt _ b sv s x d ty all ops rk Γ fr m=>P0 P t e E bt→ay fr s=some sv→ay fr x=some (.slice (some ⟨b,0,none⟩) 1 1)→∀ B o,m=some o→∀ r w,cq r fr→St B Γ w→∀ pos ab g,sH P cx B false ⟨some d,.call ⟨.builtin .append,#[s,x],#[t,t]⟩,ty,pos,ab,g⟩ all ops rk o r w
 | .Nu _ e' E e t bt _ b sv s x d ty all ops rk Γ fr m=>P0 P t e (aJ e' E) bt→ay fr s=some sv→ay fr x=some (.slice (some ⟨b,0,none⟩) 1 1)→∀ B o,m=some o→∀ r w,cq r fr→St B Γ w→∀ pos ab g,sH P cx B false ⟨some d,.call ⟨.builtin .append,#[s,x],#[t,t]⟩,ty,pos,ab,g⟩ all ops rk o r w
 | .st a u n t x y ty all ops rk Γ fr m=>(∃ i,P.info? t=some i∧i.size=n)→ay fr x=some (.pointer (some a))→ay fr y=some u→∀ B o,m=some o→∀ r w,cq r fr→St B Γ w→∀ pos ab g,sH P cx B false ⟨none,.store t x y,ty,pos,ab,g⟩ all ops rk o r w
end
section
variable {R:Type} {P:Program} {cx:Cx R} {B:Bs} {S:Type}
theorem Nv {n:Nat} {Q:Exit→(Nat→Value)→World→Prop} {r:NV} {w:World} (h:Q .ret r w):∀ iz,CM P n Q iz .ret r w:=by
 intro iz
 induction iz with
 | nil=>exact h
 | cons a iz ih=>cases a <;> exact ih
theorem Nw {b:Kb R S} {y:R} {r:NV} {w:World} (h:TT P cx B y r w):LA P cx B b (.ret y) .ret r w:=by
 cases b <;> exact h
theorem yO {K:ch R S} {y:R} {r:NV} {w:World} (h:TT P cx B y r w):ku P cx B K (.ret y) .ret r w:=Nv (Nw h) _
theorem bu {M:Type} {q:Bool} {all l:LO} {rk:RK R M} {o:M} {r:NV} {w:World} {d:Option Nat} {op:Op} {ty:TI} {pos:String} {ab:Array Edge} {g:Option (Nat×Bool)} {v:Value}
  (h:Rd P w r ⟨d,op,ty,pos,ab,g⟩ v) (k:run P cx B q all l rk o (gf r d v) w):sH P cx B q ⟨d,op,ty,pos,ab,g⟩ all l rk o r w:=by
 cases q with
 | false=>unfold sH fh; rw [h w (ak.refl _ _)]; exact k
 | true=>exact ⟨v,fun w' hC=>by unfold Oper.quietUpon; rw [h w' hC]; exact ⟨rfl,rfl⟩,k⟩
theorem DO {M:Type} {q:Bool} {all l:LO} {rk:RK R M} {o:M} {r:NV} {w:World} {oo:Oper}
  (hw:Region.wanted oo (yl all r)=true) (k:sH P cx B q oo all l rk o r w):run P cx B q all (oo :: l) rk o r w:=by
 cases q with
 | false=>exact .inl ⟨hw,k⟩
 | true=>obtain ⟨v,h1,h2⟩:=k; exact .inl ⟨hw,v,h1,h2⟩
theorem DP {M:Type} {q:Bool} {all l:LO} {rk:RK R M} {o:M} {r:NV} {w:World} {oo:Oper}
  (hw:Region.wanted oo (yl all r)=false) (k:run P cx B q all l rk o (gf r oo.dst undef) w):run P cx B q all (oo :: l) rk o r w:=by
 cases q with
 | false=>exact .inr ⟨hw,k⟩
 | true=>exact .inr ⟨hw,k⟩
theorem tS {oo:Oper} {y:Nat→Option Bool} (h:oo.guard=none):Region.wanted oo y=true:=by unfold Region.wanted; rw [h]
theorem LB {all:LO} {j t:Nat} {r:NV} (h:bj all j=some t):yl all r j=match r t with | .bool b=>some b | _=>none:=by
 unfold yl
 unfold bj at h
 rw [h]
 show (match r t with | .bool b=>some b | _=>none)=_
 cases r t <;> rfl
theorem yP {all:LO} {j t:Nat} {r:NV} {oo:Oper} {b tt:Bool} (hg:oo.guard=some (j,tt)) (h:bj all j=some t) (hr:r t = .bool b):Region.wanted oo (yl all r)=(b == tt):=
 uC hg (by rw [LB h,hr])
theorem HT {all:LO} {j t:Nat} {r:NV} {oo:Oper} {tt:Bool} (hg:oo.guard=some (j,tt)) (h:bj all j=some t) (hr:r t=undef):Region.wanted oo (yl all r)=false:=by
 have:yl all r j=none:=by rw [LB h,hr]; rfl
 unfold Region.wanted
 rw [hg]
 simp only [this]
 rfl
end
end Go.Dk
namespace Go.Dk
open Go Go.Li
class SE (P:Program) (t:TI):Prop where
 h:P.underlying t=some (.pointer (P.pointee t))
class U3 (P:Program) (t:TI):Prop where
 h:P.underlying t=some .bool
class U4 (P:Program) (t:TI) (k0 k1:outParam IntKind):Prop where
 h : ∃ f0 f1, P.underlying t = some (.struct #[f0, f1]) ∧ f0.name ≠ "_" ∧ f1.name ≠ "_" ∧ P.underlying f0.type = some (.int k0) ∧ P.underlying f1.type = some (.int k1) ∧ f0.offset = 0 ∧ f1.offset = 1 ∧ P.stoodInHeld t = false ∧ P.eqGuardType P.depth t = false
inductive Kz (P:Program):TypeId→Value→Value→Bool→Prop
 | int {t:TI} {k:IntKind} {a b:Int}:Kz P t (.int k a) (.int k b) (a == b)
 | bool {t:TI} {a b:Bool} [h:U3 P t]:Kz P t (.bool a) (.bool b) (a == b)
 | P1 {t:TI} {a:Addr} [h:SE P t]:Kz P t (.pointer (some a)) (.pointer none) false
 | P2 {t:TI} [h:SE P t]:Kz P t (.pointer none) (.pointer none) true
 | s2 {t:TI} {k0 k1:IntKind} {a b c e:Int} [h:U4 P t k0 k1]:Kz P t (.agg #[.int k0 a,.int k1 b]) (.agg #[.int k0 c,.int k1 e]) (a == c && b == e)
inductive KA (P:Program):TypeId→Value→Value→Bool→Prop
 | int {t:TI} {k:IntKind} {a b:Int}:KA P t (.int k a) (.int k b) (a != b)
 | bool {t:TI} {a b:Bool} [h:U3 P t]:KA P t (.bool a) (.bool b) (!(a == b))
 | P1 {t:TI} {a:Addr} [h:SE P t]:KA P t (.pointer (some a)) (.pointer none) true
 | P2 {t:TI} [h:SE P t]:KA P t (.pointer none) (.pointer none) false
 | s2 {t:TI} {k0 k1:IntKind} {a b c e:Int} [h:U4 P t k0 k1]:KA P t (.agg #[.int k0 a,.int k1 b]) (.agg #[.int k0 c,.int k1 e]) (!(a == c && b == e))
class LK (P:Program) (t:TI) (k:outParam (Option Nat)):Prop where
 h:match k with | none=>NA P t | some n=>AG P t n
class tT (P:Program) (t:TI):Prop where
 h:SL P t
class my (P:Program) (s k:Nat) (off:outParam Nat):Prop where
 h:FA P s k off
class U5 (P:Program) (s k:Nat) (off:outParam Nat):Prop where
 h:∃ fs f ds,P.underlying s=some (.struct fs)∧fs[k]? = some f∧P.underlying f.type=some ds∧vJ ds=false∧f.offset=off
class bg (P:Program) (f:FuncId):Prop where
 h : ∃ fn c, P.funcs[f]? = some fn ∧ fn.body = some c ∧ (fn.name == "runtime.NumGoroutine") = false
class AtL (P:Program) (f:FuncId):Prop where
 h : ∃ fn, P.funcs[f]? = some fn ∧ (fn.name == "runtime.NumGoroutine") = false ∧ fn.body.isNone = true ∧ Extern.findNext fn = none ∧ Extern.find fn = some (Extern.Atomic.loadT (.int .i64))
class AtA (P:Program) (f:FuncId):Prop where
 h : ∃ fn, P.funcs[f]? = some fn ∧ (fn.name == "runtime.NumGoroutine") = false ∧ fn.body.isNone = true ∧ Extern.findNext fn = none ∧ Extern.find fn = some (Extern.Atomic.update (Op.intArith .add) .i64 true)
class IFc (P:Program) (t:TI):Prop where
 h:∃ ds,P.underlying t=some ds∧GM ds=false
class IAc (P:Program) (t a:TI):Prop where
 h:IA P t a
class U6 (P:Program) (t:TI) (name:outParam String) (f:outParam FuncId):Prop where
 h:IM P t name f
inductive DQ:Addr→Nat→Addr→Prop
 | lit {b o off:Nat}:DQ ⟨b,o,none⟩ off ⟨b,o+off,none⟩
 | zero {p:Addr}:DQ p 0 p
 | add {p:Addr} {off:Nat}:DQ p off (p.add off)
theorem DQ.eq {p q:Addr} {off:Nat} (h:DQ p off q):q=p.add off:=by
 cases h with
 | lit=>rw [gw]
 | zero=>rfl
 | add=>rfl
class mz (P:Program) (t:TI) (α:outParam Type) (e:outParam TypeId) (E:outParam (ah α)) (z0:outParam α) (bt:outParam Nat):Prop where
 h:P.underlying t=some (.slice e)∧E.size=1∧∃ i z,P.info? e=some i∧i.zero=some z∧i.size=1∧z.oneCell'=true∧i.bytes=bt∧∀ h,E.rep h [z] z0 []
class sI (P:Program) (t:TI) (n:outParam Nat):Prop where
 h:∃ i,P.info? t=some i∧i.size=n
class zO (P:Program) (t:TI) (cs:outParam (List Value)):Prop where
 h:∃ i z,P.info? t=some i∧i.zero=some z∧z.cells.toList=cs
inductive Has (v:Value):List aq→Prop
 | own {α:Type} {T:ah α} {x:α} {Γ:QE}:Has v (.own T v x :: Γ)
 | om {α:Type} {t:TI} {E:ah α} {xs:List α} {Γ:QE}:Has v (.om t E v xs :: Γ)
 | rd {o:Bool} {α:Type} {T:ah α} {x:α} {Γ:QE}:Has v (.rd o T v x :: Γ)
 | there {e:aq} {Γ:QE} (h:Has v Γ):Has v (e :: Γ)
inductive One (Γ:QE):Value→Prop
 | int {k:IntKind} {a:Int}:One Γ (.int k a)
 | bool {a:Bool}:One Γ (.bool a)
 | ptr {a:Option Addr}:One Γ (.pointer a)
 | sl {a:Option Addr} {n c:Nat}:One Γ (.slice a n c)
 | fn {f:Fn} {as bs:Array Value}:One Γ (.func f as bs)
 | nf:One Γ .nilFunc
 | var {v:Value} (h:Has v Γ):One Γ v
inductive uZ (Γ:QE):List Value→Prop
 | nil:uZ Γ []
 | cons {v:Value} {l:LV} (h:One Γ v) (k:uZ Γ l):uZ Γ (v :: l)
inductive rU (Γ:QE):Value→List Value→Prop
 | agg {cs:LV}:rU Γ (.agg cs.toArray) cs
 | one {v:Value} (h:One Γ v):rU Γ v [v]
inductive sJ:List Value→Nat→List Value→List Value→Prop
 | nil {cs:LV}:sJ [] 0 cs cs
 | put {u c:Value} {us cs ds:LV} (h:sJ us 0 cs ds):sJ (u :: us) 0 (c :: cs) (u :: ds)
 | s {c:Value} {us cs ds:LV} {j:Nat} (h:sJ us j cs ds):sJ us (j+1) (c :: cs) (c :: ds)
inductive u2:Nat→Nat→List Value→List Value→Prop
 | z {cs:LV}:u2 0 0 cs []
 | c {n:Nat} {c:Value} {cs ds:LV} (h:u2 0 n cs ds):u2 0 (n+1) (c :: cs) (c :: ds)
 | s {j n:Nat} {c:Value} {cs ds:LV} (h:u2 j n cs ds):u2 (j+1) n (c :: cs) ds
inductive ug:List aq→Addr→Nat→List Value→Prop
 | row {b j n:Nat} {cs ds:LV} {t:TI} {Γ:QE} (h:u2 j n cs ds):ug (.row b cs t :: Γ) ⟨b,j,none⟩ n ds
 | at {p:Addr} {j n:Nat} {cs ds:LV} {Γ:QE} (h:u2 j n cs ds):ug (.au p cs :: Γ) (p.add j) n ds
 | Nq {p:Addr} {n:Nat} {cs ds:LV} {Γ:QE} (h:u2 0 n cs ds):ug (.au p cs :: Γ) p n ds
 | there {a:Addr} {n:Nat} {ds:LV} {e:aq} {Γ:QE} (h:ug Γ a n ds):ug (e :: Γ) a n ds
class yQ (P:Program) (t:TI) (zc:outParam (List Value)) (pl:outParam (List (Nat×Nat))):Prop where
 h:∃ fs i z,P.underlying t=some (.struct fs)∧fs.toList.mapM (fun f=>(P.info? f.type).map fun i=>(f.offset,i.size))=some pl∧P.info? t=some i∧i.zero=some z∧z.cells.toList=zc
def HU:List (Nat×Nat)→Nat→Option (Nat×Nat)
 | [],_=>none
 | a :: _,0=>some a
 | _ :: l,n+1=>HU l n
inductive xe (Γ:QE) (fr:Fr) (pl:List (Nat×Nat)):List (Nat×Operand)→List Value→List Value→Prop
 | nil {cs:LV}:xe Γ fr pl [] cs cs
 | cons {i off k:Nat} {x:OO} {v:Value} {us cs ds es:LV} {ps:List (Nat×Operand)} (hp:HU pl i=some (off,k)) (hx:ay fr x=some v) (hc:rU Γ v us) (hl:us.length=k) (hs:sJ us off cs ds) (h:xe Γ fr pl ps ds es):xe Γ fr pl ((i,x) :: ps) cs es
class HW (P:Program) (t:TI) (e:outParam TypeId):Prop where
 h:P.underlying t=some (.slice e)∧∃ i z,P.info? e=some i∧i.zero=some z∧i.size=1
class GN (P:Program) (t:TI) (e:outParam TypeId):Prop where
 h:P.underlying t=some (.slice e)∧∃ i z,P.info? e=some i∧i.zero=some z∧i.size=1
inductive vK (Γ:QE) (fr:Fr):Nat→List (Nat×Operand)→List Value→Prop
 | nil {k:Nat}:vK Γ fr k [] []
 | cons {k:Nat} {x:OO} {u:Value} {ps:List (Nat×Operand)} {us:LV} (hx:ay fr x=some u) (ho:One Γ u) (h:vK Γ fr (k+1) ps us):vK Γ fr k ((k,x) :: ps) (u :: us)
class HX (P:Program) (t:TI) (n:outParam Nat):Prop where
 h:∃ e i,P.underlying t=some (.slice e)∧P.info? e=some i∧i.size=n
inductive GO {α:Type} (S:ah α) (V:Type) (cl:α→V→List Value) (en:α→V→List aq):Prop
 | mk [h:SO S V cl en]:GO S V cl en
class Nx (P:Program) (t:TI) (e n:outParam Nat):Prop where
 h:P.underlying t=some (.slice e)∧∃ i z,P.info? e=some i∧i.zero=some z∧i.size=n∧0 < n
inductive xf (Γ:QE) (fr:Fr) (n:Nat):Nat→List (Nat×Operand)→List Value→Prop
 | nil {k:Nat}:xf Γ fr n k [] []
 | cons {k:Nat} {x:OO} {v:Value} {cs us ws:LV} {ps:List (Nat×Operand)} (hx:ay fr x=some v) (hc:rU Γ v cs) (hl:cs.length=n) (h:xf Γ fr n (k+1) ps us) (ha:lg cs us ws):xf Γ fr n k ((k,x) :: ps) ws
def SG:ah Nat where
 size:=1
 rep _ cs n f:=(∃ a c,cs=[.slice a n c])∧f=[]
 len:=by rintro h cs x f ⟨⟨a,c,rfl⟩,_⟩; rfl
 one:=by rintro h cs x f ⟨⟨a,c,rfl⟩,_⟩ v hv; simp at hv; subst hv; rfl
 congr:=fun h _=>h
 lt:=by rintro h cs x f ⟨_,rfl⟩ b hb; cases hb
inductive u3:List aq→Value→Nat→Prop
 | lit {a:Option Addr} {n c:Nat} {Γ:QE}:u3 Γ (.slice a n c) n
 | ln {o:Bool} {v:Value} {n:Nat} {Γ:QE}:u3 (.rd o SG v n :: Γ) v n
 | rd {o:Bool} {α:Type} {E:ah α} {T:ah (List α)} {v:Value} {x:List α} {Γ:QE} (h:RT T (aV E)):u3 (.rd o T v x :: Γ) v x.length
 | own {α:Type} {E:ah α} {T:ah (List α)} {v:Value} {x:List α} {Γ:QE} (h:RT T (aV E)):u3 (.own T v x :: Γ) v x.length
 | om {α:Type} {t:TI} {E:ah α} {v:Value} {xs:List α} {Γ:QE}:u3 (.om t E v xs :: Γ) v xs.length
 | there {v:Value} {n:Nat} {e:aq} {Γ:QE} (h:u3 Γ v n):u3 (e :: Γ) v n
inductive KB:List aq→Value→Bool→Prop
 | nil {Γ:QE}:KB Γ (.slice none 0 0) true
 | own {α:Type} {T:ah α} {v:Value} {x:α} {Γ:QE}:KB (.own T v x :: Γ) v true
 | rd {o:Bool} {α:Type} {T:ah α} {v:Value} {x:α} {Γ:QE}:KB (.rd o T v x :: Γ) v false
 | there {v:Value} {k:Bool} {e:aq} {Γ:QE} (h:KB Γ v k):KB (e :: Γ) v k
inductive Rg (v:Value) (j:Int):List aq→Prop
 | ad {o1 o2:Bool} {α:Type} {T:ah α} {x:α} {Γ:QE}:Rg v j (.ad o1 o2 v j T x :: Γ)
 | there {e:aq} {Γ:QE} (h:Rg v j Γ):Rg v j (e :: Γ)
inductive zD (P:Program) (fr:Fr) (Γ:QE):List ResultVar→List Value→Prop
 | nil:zD P fr Γ [] []
 | tmp {t:Nat} {v:Value} {l:List ResultVar} {vs:LV} (h:look fr t=some v) (k:zD P fr Γ l vs):zD P fr Γ (.tmp t :: l) (v :: vs)
 | cell {t n:Nat} {ty:TI} {a:Addr} {ds vs:LV} {l:List ResultVar} [ht:LK P ty (some n)] (h:look fr t=some (.pointer (some a))) (hw:ug Γ a n ds) (k:zD P fr Γ l vs):zD P fr Γ (.cell t ty :: l) (.agg ds.toArray :: vs)
def BT:List Oper→Bool
 | []=>false
 | ⟨_,_,_,_,_,none⟩ :: l=>BT l
 | ⟨_,_,_,_,_,some _⟩ :: _=>true
def U7:List Oper→Bool
 | []=>false
 | ⟨none,_,_,_,_,_⟩ :: _=>true
 | ⟨some _,.buildSlice _ _ _,_,_,_,_⟩ :: _=>true
 | ⟨some _,.makeSlice _ _ _,_,_,_,_⟩ :: _=>true
 | ⟨some _,.alloc _,_,_,_,_⟩ :: _=>true
 | ⟨some _,.box _ _,_,_,_,_⟩ :: _=>true
 | _ :: l=>U7 l
def Ev:List Oper→Option Nat
 | []=>none
 | [⟨d,_,_,_,_,_⟩]=>d
 | _ :: l=>Ev l
def Aq (l:LO):List Nat:=l.filterMap (·.dst)
def cw (t:Nat):List Nat→Bool
 | []=>false
 | a :: l=>bif Nat.beq t a then true else cw t l
inductive Kp:List Nat→Option (Bool×Nat×Value)→Fr→Fr→Prop
 | nil {ws:LN}:Kp ws none [] []
 | cons {ws:LN} {t:Nat} {v:Value} {f u:Fr} (h:Kp ws (some (cw t ws,t,v)) f u):Kp ws none ((t,v) :: f) u
 | drop {ws:LN} {t:Nat} {v:Value} {f u:Fr} (h:Kp ws none f u):Kp ws (some (true,t,v)) f u
 | dp {ws:LN} {t:Nat} {v:Value} {f u:Fr} (h:Kp (t :: ws) none f u):Kp ws (some (false,t,v)) f ((t,v) :: u)
inductive DT:{α:Type}→ah α→Prop
 | i {k:IntKind}:DT (aN k)
 | b:DT jc
 | own {α:Type} {e:TI} {E:ah α} (h:DT E):DT (aJ e E)
inductive yR (e:aq):List aq→Prop
 | here {Γ:QE}:yR e (e :: Γ)
 | rd {o:Bool} {α:Type} {T:ah α} {v:Value} {x:α} {Γ:QE} (h:yR e Γ):yR e (.rd o T v x :: Γ)
 | ad {o1 o2:Bool} {v:Value} {j:Int} {α:Type} {T:ah α} {x:α} {Γ:QE} (h:yR e Γ):yR e (.ad o1 o2 v j T x :: Γ)
 | hd {v u:Value} {j:Int} {Γ:QE} (h:yR e Γ):yR e (.hd v j u :: Γ)
 | au {p:Addr} {cs:LV} {Γ:QE} (h:yR e Γ):yR e (.au p cs :: Γ)
 | row {b:Nat} {cs:LV} {t:TI} {Γ:QE} (h:yR e Γ):yR e (.row b cs t :: Γ)
inductive KC {α:Type} (T:ah α) (v:Value) (x:α) (e:aq):List aq→Prop
 | here {Γ:QE} (h:yR e Γ):KC T v x e (.own T v x :: Γ)
 | there {a:aq} {Γ:QE} (h:KC T v x e Γ):KC T v x e (a :: Γ)
inductive MF (Γ:QE):Option aq→List aq→Prop
 | nil {o:Option aq}:MF Γ o []
 | own {o:Option aq} {α:Type} {T:ah α} {v:Value} {x:α} {Δ:QE} (k:MF Γ (some (.own T v x)) Δ):MF Γ o (.own T v x :: Δ)
 | om {o:Option aq} {α:Type} {t:TI} {E:ah α} {v:Value} {xs:List α} {Δ:QE} (k:MF Γ none Δ):MF Γ o (.om t E v xs :: Δ)
 | row {o:Option aq} {b:Nat} {cs:LV} {t:TI} {Δ:QE} (k:MF Γ o Δ):MF Γ o (.row b cs t :: Δ)
 | fv {o:Option aq} {α:Type} {e:TI} {E:ah α} {v u:Value} {xs:List α} {j:Int} {Δ:QE} (k:MF Γ none Δ):MF Γ o (.fv e E v xs j u :: Δ)
 | rd {o:Option aq} {α:Type} {T:ah α} {v:Value} {x:α} {Δ:QE} (h:In (.rd false T v x) Γ) (k:MF Γ o Δ):MF Γ o (.rd false T v x :: Δ)
 | HM {α β:Type} {T:ah α} {v u:Value} {x:α} {T':ah β} {z:β} {Δ:QE} (hd:DT T) (h:KC T v x (.rd true T' u z) Γ) (k:MF Γ (some (.own T v x)) Δ):MF Γ (some (.own T v x)) (.rd true T' u z :: Δ)
 | au {o:Option aq} {p:Addr} {cs:LV} {Δ:QE} (h:In (.au p cs) Γ) (k:MF Γ o Δ):MF Γ o (.au p cs :: Δ)
inductive jy:List aq→List aq→Prop
 | nil:jy [] []
 | own {α:Type} {T:ah α} {v:Value} {x:α} {Γ Δ:QE} (k:jy Γ Δ):jy (.own T v x :: Γ) (.own T v x :: Δ)
 | om {α:Type} {t:TI} {E:ah α} {v:Value} {xs:List α} {Γ Δ:QE} (k:jy Γ Δ):jy (.om t E v xs :: Γ) (.om t E v xs :: Δ)
 | row {b:Nat} {cs:LV} {t:TI} {Γ Δ:QE} (k:jy Γ Δ):jy (.row b cs t :: Γ) (.row b cs t :: Δ)
 | Nr {α:Type} {T:ah α} {v:Value} {x:α} {Γ Δ:QE} (k:jy Γ Δ):jy (.rd false T v x :: Γ) (.rd false T v x :: Δ)
 | HM {α:Type} {T:ah α} {v:Value} {x:α} {Γ Δ:QE} (k:jy Γ Δ):jy (.rd true T v x :: Γ) (.rd true T v x :: Δ)
 | ad {o1 o2:Bool} {v:Value} {j:Int} {α:Type} {T:ah α} {x:α} {Γ Δ:QE} (k:jy Γ Δ):jy (.ad o1 o2 v j T x :: Γ) Δ
 | au {p:Addr} {cs:LV} {Γ Δ:QE} (k:jy Γ Δ):jy (.au p cs :: Γ) (.au p cs :: Δ)
 | hd {v u:Value} {j:Int} {Γ Δ:QE} (k:jy Γ Δ):jy (.hd v j u :: Γ) Δ
 | fv {α:Type} {e:TI} {E:ah α} {v u:Value} {xs:List α} {j:Int} {Γ Δ:QE} (k:jy Γ Δ):jy (.fv e E v xs j u :: Γ) (.fv e E v xs j u :: Δ)
inductive Ew:Type→Prop
 | unit:Ew Unit
 | val:Ew Value
 | nat:Ew Nat
 | pair {V W:Type} (h:Ew V) (k:Ew W):Ew (V×W)
theorem Ew.ne {V:Type} (h:Ew V):Nonempty V:=by
 induction h with
 | unit=>exact ⟨()⟩
 | val=>exact ⟨.nilFunc⟩
 | nat=>exact ⟨0⟩
 | pair _ _ i j=>obtain ⟨a⟩:=i; obtain ⟨b⟩:=j; exact ⟨(a,b)⟩
inductive CS:{β:Type}→β→(β→Prop)→Prop
 | pair {A B:Type} {y:Option A×B} {p:Option A×B→Prop} (h0:∀ z,CS z fun z=>p (none,z)) (h1:∀ a z,CS z fun z=>p (some a,z)):CS y p
 | opt {A:Type} {y:Option A} {p:Option A→Prop} (h0:p none) (h1:∀ a,p (some a)):CS y p
 | any {β:Type} {y:β} {p:β→Prop} (h:p y):CS y p
theorem CS.sound {β:Type} {y:β} {p:β→Prop} (h:CS y p):p y:=by
 induction h with
 | @pair A B y p _ _ i0 i1=>
  obtain ⟨a,z⟩:=y
  cases a with
  | none=>exact i0 z
  | some a=>exact i1 a z
 | @opt A y p h0 h1=>
  cases y with
  | none=>exact h0
  | some a=>exact h1 a
 | any h=>exact h
inductive OW (Γ:QE):List aq→Prop
 | nil:OW Γ []
 | own {α:Type} {T:ah α} {v:Value} {x:α} {Δ:QE} (k:OW Γ Δ):OW Γ (.own T v x :: Δ)
 | om {α:Type} {t:TI} {E:ah α} {v:Value} {xs:List α} {Δ:QE} (k:OW Γ Δ):OW Γ (.om t E v xs :: Δ)
 | row {b:Nat} {cs:LV} {t:TI} {Δ:QE} (k:OW Γ Δ):OW Γ (.row b cs t :: Δ)
 | rd {α:Type} {T:ah α} {v:Value} {x:α} {Δ:QE} (h:In (.rd false T v x) Γ) (k:OW Γ Δ):OW Γ (.rd false T v x :: Δ)
inductive FO:List aq→Prop
 | nil:FO []
 | rd {o:Bool} {α:Type} {T:ah α} {v:Value} {x:α} {Δ:QE} (k:FO Δ):FO (.rd o T v x :: Δ)
 | au {p:Addr} {cs:LV} {Δ:QE} (k:FO Δ):FO (.au p cs :: Δ)
class HY (P:Program) (t:TI) (e n bt:outParam Nat):Prop where
 h:P.underlying t=some (.slice e)∧∃ i z,P.info? e=some i∧i.zero=some z∧z.cells.size=n∧i.size=n∧i.bytes=bt∧0 < n
class HZ (P:Program) (t:TI) (κ υ:outParam Type) (bq:outParam (BEq κ)) (ek:outParam (κ→Value)) (eu:outParam (υ→Value)):Prop where
 h:∃ kt vt kd,P.underlying t=some (.map kt vt)∧P.underlying kt=some kd∧Ky ek kd
class SI (P:Program) (t:TI) (υ:Type) (eu:υ→Value) (z0:outParam υ):Prop where
 h:∃ kt vt i,P.underlying t=some (.map kt vt)∧P.info? vt=some i∧i.zero=some (eu z0)
class H0 (P:Program) (s t:TI) (k:outParam IntKind):Prop where
 h:(P.underlying s).isSome=true∧P.underlying t=some (.int k)
class BSc (P:Program) (s t:TI):Prop where
 h:∃ e,P.underlying s=some (.slice e)∧P.underlying e=some (.int .u8)∧P.underlying t=some .string
inductive w5 (k:IntKind):List Value→List Int→Prop
 | nil:w5 k [] []
 | cons {a:Int} {us:LV} {xs:List Int} (h:w5 k us xs):w5 k (.int k a :: us) (a :: xs)
inductive BG:List aq→{α:Type}→ah α→Value→α→List aq→Prop
 | int {k:IntKind} {a:Int} {Γ:QE}:BG Γ (aN k) (.int k a) a Γ
 | bool {a:Bool} {Γ:QE}:BG Γ jc (.bool a) a Γ
 | lit {b n:Nat} {us:LV} {k:IntKind} {xs:List Int} {e:TI} {Γ Γ1:QE} (h0:bz Γ (.row b us e) Γ1) (h1:w5 k us xs) (hn:us.length=n) (hb:Nat.ble n 16777216=true):BG Γ (aJ e (aN k)) (.slice (some ⟨b,0,none⟩) n n) xs Γ1
 | own {α:Type} {T:ah α} {v:Value} {x:α} {Γ Γ1:QE} (h:bz Γ (.own T v x) Γ1):BG Γ T v x Γ1
inductive H4:List aq→{α:Type}→ah α→List Value→List α→List aq→Prop
 | nil {α:Type} {E:ah α} {Γ:QE}:H4 Γ E [] [] Γ
 | cons {α:Type} {E:ah α} {u:Value} {x:α} {us:LV} {xs:List α} {Γ Γ1 Γ2:QE} (h:BG Γ E u x Γ1) (k:H4 Γ1 E us xs Γ2):H4 Γ E (u :: us) (x :: xs) Γ2
inductive SK:BinOp→IntKind→IntKind→Prop
 | same {op:BinOp} {k:IntKind}:SK op k k
 | sh {op:BinOp} {k k':IntKind} (h:Ny op=true):SK op k k'
inductive Dp {κ υ:Type} (ek:κ→Value) (eu:υ→Value):List aq→Value→List (κ×υ)→Prop
 | own {v:Value} {x:List (κ×υ)} {Γ:QE}:Dp ek eu (.own (sG ek eu) v x :: Γ) v x
 | rd {v:Value} {x:List (κ×υ)} {Γ:QE}:Dp ek eu (.rd false (sG ek eu) v x :: Γ) v x
 | there {v:Value} {x:List (κ×υ)} {e:aq} {Γ:QE} (h:Dp ek eu Γ v x):Dp ek eu (e :: Γ) v x
def U8:Code→Bool
 | .loop _=>true
 | _=>false
inductive D {R:Type} (P:Program) (cx:Cx R):Jd R→Prop
 | plain {M:Type} {q:Bool} {d:Option Nat} {op:Op} {ty:TI} {pos:String} {ab:Array Edge} {all l:LO} {rk:RK R M} {Γ:QE} {fr:Fr} {m:Option M} (h:D P cx (.e q op d ty all l rk Γ fr m)):D P cx (.o q all (⟨d,op,ty,pos,ab,none⟩ :: l) rk Γ fr m)
 | mv {M:Type} {q:Bool} {d:Nat} {x:OO} {v:Value} {ty:TI} {all l:LO} {rk:RK R M} {Γ:QE} {fr:Fr} {m:Option M} (hx:ay fr x=some v) (h:D P cx (.o q all l rk Γ ((d,v) :: fr) m)):D P cx (.e q (.move x) (some d) ty all l rk Γ fr m)
 | as {M:Type} {q:Bool} {d:Nat} {x:OO} {v:Value} {ty:TI} {all l:LO} {rk:RK R M} {Γ:QE} {fr:Fr} {m:Option M} (hx:ay fr x=some v) (h:D P cx (.o q all l rk Γ ((d,v) :: fr) m)):D P cx (.e q (.assign x) (some d) ty all l rk Γ fr m)
 | U9 {M:Type} {q:Bool} {d s k off:Nat} {x:OO} {ty:TI} {a a':Addr} {all l:LO} {rk:RK R M} {Γ:QE} {fr:Fr} {m:Option M} [hf:my P s k off] (hx:ay fr x=some (.pointer (some a))) (ha:DQ a off a') (h:D P cx (.o q all l rk Γ ((d,.pointer (some a')) :: fr) m)):D P cx (.e q (.fieldAddr s x k) (some d) ty all l rk Γ fr m)
 | P3 {M:Type} {q:Bool} {d:Nat} {x:OO} {ty:TI} {a:Addr} {all l:LO} {rk:RK R M} {Γ:QE} {fr:Fr} {m:Option M} (hx:ay fr x=some (.pointer (some a))) (h:D P cx (.o q all l rk Γ ((d,.pointer (some a)) :: fr) m)):D P cx (.e q (.nilCheck x) (some d) ty all l rk Γ fr m)
 | load {M:Type} {q:Bool} {d:Nat} {x:OO} {a:Addr} {t ty:TI} {lk:Option Nat} {all l:LO} {rk:RK R M} {Γ:QE} {fr:Fr} {m:Option M} [ht:LK P t lk] (hx:ay fr x=some (.pointer (some a))) (h:D P cx (.la a lk q t x d all l rk Γ fr m)):D P cx (.e q (.load t x) (some d) ty all l rk Γ fr m)
 | Va {M α:Type} {q:Bool} {d:Nat} {x:OO} {v:Value} {j:Int} {ty:TI} {o:Bool} {E:ah α} {z:α} {Γx:QE} {all l:LO} {rk:RK R M} {Γ:QE} {fr:Fr} {m:Option M} (h:uY Γ (cn v 1 j) o E z o6 Γx) (k:D P cx (.ld E z (cn v 1 j) q ty x d all l rk Γ fr m)):D P cx (.la (cn v 1 j) none q ty x d all l rk Γ fr m)
 | Vb {M:Type} {q:Bool} {d:Nat} {x:OO} {a:Addr} {u:Value} {ty:TI} {all l:LO} {rk:RK R M} {Γ:QE} {fr:Fr} {m:Option M} (h:o5 Γ a u) (k:D P cx (.o q all l rk Γ ((d,u) :: fr) m)):D P cx (.la a none q ty x d all l rk Γ fr m)
 | Vc {M:Type} {q:Bool} {d:Nat} {x:OO} {a:Addr} {k:IntKind} {z:Int} {ty:TI} {all l:LO} {rk:RK R M} {Γ:QE} {fr:Fr} {m:Option M} (h:D P cx (.o q all l rk Γ ((d,.int k z) :: fr) m)):D P cx (.ld (aN k) z a q ty x d all l rk Γ fr m)
 | Vd {M:Type} {q:Bool} {d:Nat} {x:OO} {a:Addr} {z:Bool} {ty:TI} {all l:LO} {rk:RK R M} {Γ:QE} {fr:Fr} {m:Option M} (h:D P cx (.o q all l rk Γ ((d,.bool z) :: fr) m)):D P cx (.ld jc z a q ty x d all l rk Γ fr m)
 | Ve {M α:Type} {q o:Bool} {d:Nat} {x:OO} {v:Value} {j:Int} {E:ah α} {z:List α} {ty:TI} {all l:LO} {rk:RK R M} {Γ:QE} {Γ1 Γ':Value→List aq} {fr:Fr} {m:Option M} (h:∀ u,uY Γ (cn v 1 j) o (aV E) z (.rd o (aV E) u z) (Γ1 u)) (h2:∀ u,zC (Γ1 u) v j u (Γ' u)) (k:∀ u,D P cx (.o q all l rk (Γ' u) ((d,u) :: fr) m)):D P cx (.ld (aV E) z (cn v 1 j) q ty x d all l rk Γ fr m)
 | ldp {M α V:Type} {q:Bool} {d:Nat} {x:OO} {a:Addr} {S:ah α} {cl:α→V→List Value} {en:α→V→List aq} {z:α} {ty:TI} {all l:LO} {rk:RK R M} {Γ Γx:QE} {fr:Fr} {m:Option M} [hs:SO S V cl en] (h:uY Γ a false (wU S) z o6 Γx)
   (k:∀ p v,D P cx (.p [] (.au p (cl z v) :: en z v) fr Γ fun fr Γ=>.o q all l rk Γ ((d,.pointer (some p)) :: fr) m)):D P cx (.ld (wU S) z a q ty x d all l rk Γ fr m)
 | len {M:Type} {q:Bool} {d n:Nat} {x:OO} {v:Value} {t ty:TI} {all l:LO} {rk:RK R M} {Γ:QE} {fr:Fr} {m:Option M} [ht:tT P t] (hx:ay fr x=some v) (hr:u3 Γ v n) (h:D P cx (.o q all l rk Γ ((d,.int .i64 (n:Int)) :: fr) m)):D P cx (.e q (.call ⟨.builtin .len,#[x],#[t]⟩) (some d) ty all l rk Γ fr m)
 | idx {M α:Type} {q:Bool} {d:Nat} {x y:OO} {v:Value} {k:IntKind} {j:Int} {t ty:TI} {o1 o2:Bool} {E:ah α} {xs:List α} {Γ':α→List aq} {all l:LO} {rk:RK R M} {Γ:QE} {fr:Fr} {f:α→Option M} [ht:tT P t] (hx:ay fr x=some v) (hy:ay fr y=some (.int k j))
   (hr:∀ z,lr Γ v o1 o2 E xs (.ad o1 o2 v j E z) (Γ' z)) (hE:E.size=1) (h:∀ z,D P cx (.o q all l rk (Γ' z) ((d,.pointer (some (cn v 1 j))) :: fr) (f z))):D P cx (.e q (.indexAddr t x y) (some d) ty all l rk Γ fr (idx xs j>>=f))
 | P4 {M:Type} {q:Bool} {d n k:Nat} {x:OO} {v:Value} {t ty:TI} {all l:LO} {rk:RK R M} {Γ:QE} {fr:Fr} {m:Option M} [ht:HX P t k] (hx:ay fr x=some v) (hr:u3 Γ v n) (h:D P cx (.o q all l rk Γ ((d,.int .i64 (n:Int)) :: fr) m)):D P cx (.e q (.call ⟨.builtin .len,#[x],#[t]⟩) (some d) ty all l rk Γ fr m)
 | qe {M α V:Type} {q:Bool} {d n:Nat} {x y:OO} {v:Value} {k:IntKind} {j:Int} {t ty:TI} {S:ah α} {cl:α→V→List Value} {en:α→V→List aq} {xs:List α} {all l:LO} {rk:RK R M} {Γ Γx:QE} {fr:Fr} {f:α→Option M} [ht:HX P t n] (hx:ay fr x=some v) (hy:ay fr y=some (.int k j))
   (hr:lr Γ v false false (sg S) xs o6 Γx) (hs:GO S V cl en) (hn:S.size=n) (h:∀ z u,D P cx (.p [] (.au (cn v n j) (cl z u) :: en z u) fr Γ fun fr Γ=>.o q all l rk Γ ((d,.pointer (some (cn v n j))) :: fr) (f z))):D P cx (.e q (.indexAddr t x y) (some d) ty all l rk Γ fr (idx xs j>>=f))
 | abX {S:Type} {q:Bool} {all:LO} {K:ch R S} {Γ:QE} {fr:Fr} {m:Option (Out S R)} (h:D P cx (.n K Γ fr m)):D P cx (.o q all [] (.n K) Γ fr m)
 | ZE {S:Type} {K:ch R S} {c:Code} {Γ:QE} {fr:Fr}:D P cx (.c K c Γ fr none)
 | seq {S:Type} {iz:List KI} {kb:Kb R S} {a b:Code} {Γ:QE} {fr:Fr} {m:Option (Out S R)} (h:D P cx (.c ⟨.seq b :: iz,kb⟩ a Γ fr m)):D P cx (.c ⟨iz,kb⟩ (.seq a b) Γ fr m)
 | abY {S:Type} {iz:List KI} {kb:Kb R S} {c:Code} {Γ:QE} {fr:Fr} {m:Option (Out S R)} (h:D P cx (.c ⟨iz,kb⟩ c Γ fr m)):D P cx (.n ⟨.seq c :: iz,kb⟩ Γ fr m)
 | region {S:Type} {id:Nat} {K:ch R S} {ops:LO} {Γ:QE} {fr:Fr} {m:Option (Out S R)} (hd:dh cx.n ops=true) (h:D P cx (.rg (BT ops) false ops K Γ fr m)):D P cx (.c K (.region id ops.toArray false) Γ fr m)
 | rgf {S:Type} {K:ch R S} {ops:LO} {Γ:QE} {fr:Fr} {m:Option (Out S R)} (h:D P cx (.o false ops ops (.n K) Γ fr m)):D P cx (.rg false false ops K Γ fr m)
 | lss {M:Type} {q:Bool} {d:Nat} {x y:OO} {t t' ty:TI} {k:IntKind} {a b:Int} {all l:LO} {rk:RK R M} {Γ:QE} {fr:Fr} {m:Option M} (hx:ay fr x=some (.int k a)) (hy:ay fr y=some (.int k b)) (h:D P cx (.o q all l rk Γ ((d,.bool (decide (a < b))) :: fr) m)):D P cx (.e q (.binOp .lss t x y t') (some d) ty all l rk Γ fr m)
 | add {M:Type} {q:Bool} {d:Nat} {x y:OO} {t t' ty:TI} {a b:Int} {all l:LO} {rk:RK R M} {Γ:QE} {fr:Fr} {m:Option M} (hx:ay fr x=some (.int .i64 a)) (hy:ay fr y=some (.int .i64 b)) (h:D P cx (.o q all l rk Γ ((d,.int .i64 (ai (a+b))) :: fr) m)):D P cx (.e q (.binOp .add t x y t') (some d) ty all l rk Γ fr m)
 | eql {M:Type} {q:Bool} {d:Nat} {x y:OO} {t t' ty:TI} {u v:Value} {b:Bool} {all l:LO} {rk:RK R M} {Γ:QE} {fr:Fr} {m:Option M} (hx:ay fr x=some u) (hy:ay fr y=some v) (hb:Kz P t u v b) (h:D P cx (.o q all l rk Γ ((d,.bool b) :: fr) m)):D P cx (.e q (.binOp .eql t x y t') (some d) ty all l rk Γ fr m)
 | neq {M:Type} {q:Bool} {d:Nat} {x y:OO} {t t' ty:TI} {u v:Value} {b:Bool} {all l:LO} {rk:RK R M} {Γ:QE} {fr:Fr} {m:Option M} (hx:ay fr x=some u) (hy:ay fr y=some v) (hb:KA P t u v b) (h:D P cx (.o q all l rk Γ ((d,.bool b) :: fr) m)):D P cx (.e q (.binOp .neq t x y t') (some d) ty all l rk Γ fr m)
 | pf {t:Nat} {v:Value} {φ fr:Fr} {Δ Γ:QE} {k:Fr→List aq→Jd R} (h:D P cx (.p φ Δ ((t,v) :: fr) Γ k)):D P cx (.p ((t,v) :: φ) Δ fr Γ k)
 | pz {fr:Fr} {Γ:QE} {k:Fr→List aq→Jd R} (h:D P cx (k fr Γ)):D P cx (.p [] [] fr Γ k)
 | pe {e:aq} {fr:Fr} {Δ Γ:QE} {k:Fr→List aq→Jd R} (h:D P cx (.p [] Δ fr (e :: Γ) k)):D P cx (.p [] (e :: Δ) fr Γ k)
 | not {M:Type} {q:Bool} {d:Nat} {x:OO} {t ty:TI} {b:Bool} {all l:LO} {rk:RK R M} {Γ:QE} {fr:Fr} {m:Option M} (hx:ay fr x=some (.bool b)) (h:D P cx (.o q all l rk Γ ((d,.bool (!b)) :: fr) m)):D P cx (.e q (.unOp .not t x) (some d) ty all l rk Γ fr m)
 | cond {S:Type} {K:ch R S} {t:Nat} {b:Bool} {x y:Code} {Γ:QE} {fr:Fr} {m:Option (Out S R)} (hb:look fr t=some (.bool b)) (h:D P cx (.cd b K x y Γ fr m)):D P cx (.c K (.cond (.tmp t) x y) Γ fr m)
 | cdt {S:Type} {K:ch R S} {x y:Code} {Γ:QE} {fr:Fr} {m:Option (Out S R)} (h:D P cx (.c K x Γ fr m)):D P cx (.cd true K x y Γ fr m)
 | cdf {S:Type} {K:ch R S} {x y:Code} {Γ:QE} {fr:Fr} {m:Option (Out S R)} (h:D P cx (.c K y Γ fr m)):D P cx (.cd false K x y Γ fr m)
 | cds {S:Type} {b:Bool} {K:ch R S} {x y:Code} {Γ:QE} {fr:Fr} {m1 m2:Option (Out S R)} (h1:D P cx (.c K x Γ fr m1)) (h2:D P cx (.c K y Γ fr m2)):D P cx (.cd b K x y Γ fr (bif b then m1 else m2))
 | skip {S:Type} {K:ch R S} {Γ:QE} {fr:Fr} {m:Option (Out S R)} (h:D P cx (.n K Γ fr m)):D P cx (.c K .skip Γ fr m)
 | exit {S:Type} {k:Nat} {K:ch R S} {Γ:QE} {fr:Fr} {m:Option (Out S R)} (h:D P cx (.x k K Γ fr m)):D P cx (.c K (.exit k) Γ fr m)
 | abZ {S:Type} {iz:List KI} {kb:Kb R S} {k:Nat} {Γ:QE} {fr:Fr} {m:Option (Out S R)} (h:D P cx (.n ⟨iz,kb⟩ Γ fr m)):D P cx (.n ⟨.BS k :: iz,kb⟩ Γ fr m)
 | ab0 {S:Type} {iz:List KI} {kb:Kb R S} {k:Nat} {c:Code} {Γ:QE} {fr:Fr} {m:Option (Out S R)} (h:D P cx (.x k ⟨iz,kb⟩ Γ fr m)):D P cx (.x k ⟨.seq c :: iz,kb⟩ Γ fr m)
 | ab1 {S:Type} {iz:List KI} {kb:Kb R S} {k j:Nat} {Γ:QE} {fr:Fr} {m:Option (Out S R)} (h:D P cx (.xb (Nat.beq k j) k ⟨iz,kb⟩ Γ fr m)):D P cx (.x k ⟨.BS j :: iz,kb⟩ Γ fr m)
 | xbt {S:Type} {K:ch R S} {k:Nat} {Γ:QE} {fr:Fr} {m:Option (Out S R)} (h:D P cx (.n K Γ fr m)):D P cx (.xb true k K Γ fr m)
 | xbf {S:Type} {K:ch R S} {k:Nat} {Γ:QE} {fr:Fr} {m:Option (Out S R)} (h:D P cx (.x k K Γ fr m)):D P cx (.xb false k K Γ fr m)
 | ZF {S V:Type} {k:Nat} {Δ:S→V→List aq} {φ:S→V→Fr} {Γ2 Γ Γ1 Γ3:QE} {f2 fr:Fr} {s:S} {v:V} (hv:uA V v) (ha:qm fr (φ s v)) (hf:qm fr f2) (h0:EO Γ (Δ s v) Γ1) (hw:OW Γ (Δ s v)) (h1:EO Γ1 Γ2 Γ3) (h2:MF Γ none Γ2) :
   D P cx (.x k ⟨[],.loop V k Δ φ Γ2 f2⟩ Γ fr (some (.exit k s)))
 | ZG {S V:Type} {k:Nat} {Δ:S→V→List aq} {φ:S→V→Fr} {Γ2 Γ Γ1 Γ3:QE} {f2 fr:Fr} {s:S} {v:V} (hv:uA V v) (ha:qm fr (φ s v)) (hf:qm fr f2) (h0:EO Γ (Δ s v) Γ1) (hw:OW Γ (Δ s v)) (h1:EO Γ1 Γ2 Γ3) (h2:MF Γ none Γ2) :
   D P cx (.n ⟨[],.loop V k Δ φ Γ2 f2⟩ Γ fr (some (.norm s)))
 | gtr {M:Type} {q:Bool} {d:Nat} {x y:OO} {t t' ty:TI} {k:IntKind} {a b:Int} {all l:LO} {rk:RK R M} {Γ:QE} {fr:Fr} {m:Option M} (hx:ay fr x=some (.int k a)) (hy:ay fr y=some (.int k b)) (h:D P cx (.o q all l rk Γ ((d,.bool (decide (a > b))) :: fr) m)):D P cx (.e q (.binOp .gtr t x y t') (some d) ty all l rk Γ fr m)
 | geq {M:Type} {q:Bool} {d:Nat} {x y:OO} {t t' ty:TI} {k:IntKind} {a b:Int} {all l:LO} {rk:RK R M} {Γ:QE} {fr:Fr} {m:Option M} (hx:ay fr x=some (.int k a)) (hy:ay fr y=some (.int k b)) (h:D P cx (.o q all l rk Γ ((d,.bool (decide (a ≥ b))) :: fr) m)):D P cx (.e q (.binOp .geq t x y t') (some d) ty all l rk Γ fr m)
 | leq {M:Type} {q:Bool} {d:Nat} {x y:OO} {t t' ty:TI} {k:IntKind} {a b:Int} {all l:LO} {rk:RK R M} {Γ:QE} {fr:Fr} {m:Option M} (hx:ay fr x=some (.int k a)) (hy:ay fr y=some (.int k b)) (h:D P cx (.o q all l rk Γ ((d,.bool (decide (a≤b))) :: fr) m)):D P cx (.e q (.binOp .leq t x y t') (some d) ty all l rk Γ fr m)
 | sub {M:Type} {q:Bool} {d:Nat} {x y:OO} {t t' ty:TI} {a b:Int} {all l:LO} {rk:RK R M} {Γ:QE} {fr:Fr} {m:Option M} (hx:ay fr x=some (.int .i64 a)) (hy:ay fr y=some (.int .i64 b)) (h:D P cx (.o q all l rk Γ ((d,.int .i64 (ai (a - b))) :: fr) m)):D P cx (.e q (.binOp .sub t x y t') (some d) ty all l rk Γ fr m)
 | grd {M:Type} {q:Bool} {d:Option Nat} {op:Op} {ty:TI} {pos:String} {ab:Array Edge} {j t:Nat} {tt:Bool} {v:Value} {all l:LO} {rk:RK R M} {Γ:QE} {fr:Fr} {m:Option M} (hj:bj all j=some t) (hv:look fr t=some v) (h:D P cx (.gd v tt j t q op d ty all l rk Γ fr m)) :
   D P cx (.o q all (⟨d,op,ty,pos,ab,some (j,tt)⟩ :: l) rk Γ fr m)
 | gtt {M:Type} {q:Bool} {d:Option Nat} {op:Op} {ty:TI} {j t:Nat} {all l:LO} {rk:RK R M} {Γ:QE} {fr:Fr} {m:Option M} (h:D P cx (.e q op d ty all l rk Γ fr m)):D P cx (.gd (.bool true) true j t q op d ty all l rk Γ fr m)
 | gff {M:Type} {q:Bool} {d:Option Nat} {op:Op} {ty:TI} {j t:Nat} {all l:LO} {rk:RK R M} {Γ:QE} {fr:Fr} {m:Option M} (h:D P cx (.e q op d ty all l rk Γ fr m)):D P cx (.gd (.bool false) false j t q op d ty all l rk Γ fr m)
 | gtf {M:Type} {q:Bool} {d:Nat} {op:Op} {ty:TI} {j t:Nat} {all l:LO} {rk:RK R M} {Γ:QE} {fr:Fr} {m:Option M} (h:D P cx (.o q all l rk Γ ((d,undef) :: fr) m)):D P cx (.gd (.bool true) false j t q op (some d) ty all l rk Γ fr m)
 | gft {M:Type} {q:Bool} {d:Nat} {op:Op} {ty:TI} {j t:Nat} {all l:LO} {rk:RK R M} {Γ:QE} {fr:Fr} {m:Option M} (h:D P cx (.o q all l rk Γ ((d,undef) :: fr) m)):D P cx (.gd (.bool false) true j t q op (some d) ty all l rk Γ fr m)
 | gun {M:Type} {q tt:Bool} {d:Nat} {op:Op} {ty:TI} {j t:Nat} {all l:LO} {rk:RK R M} {Γ:QE} {fr:Fr} {m:Option M} (h:D P cx (.o q all l rk Γ ((d,undef) :: fr) m)):D P cx (.gd undef tt j t q op (some d) ty all l rk Γ fr m)
 | gsb {M α:Type} {q b tt:Bool} {d:Option Nat} {op:Op} {ty:TI} {j t:Nat} {all l:LO} {rk:RK R M} {Γ:QE} {fr:Fr} {m1 m2:Option α} {f:α→Option M}
   (h1:D P cx (.gd (.bool true) tt j t q op d ty all l rk Γ ((t,.bool true) :: fr) (m1>>=f))) (h2:D P cx (.gd (.bool false) tt j t q op d ty all l rk Γ ((t,.bool false) :: fr) (m2>>=f))):D P cx (.gd (.bool b) tt j t q op d ty all l rk Γ fr ((bif b then m1 else m2)>>=f))
 | gsp {M:Type} {q b tt:Bool} {d:Option Nat} {op:Op} {ty:TI} {j t:Nat} {all l:LO} {rk:RK R M} {Γ:QE} {fr:Fr} {m1 m2:Option M}
   (h1:D P cx (.gd (.bool true) tt j t q op d ty all l rk Γ ((t,.bool true) :: fr) m1)) (h2:D P cx (.gd (.bool false) tt j t q op d ty all l rk Γ ((t,.bool false) :: fr) m2)):D P cx (.gd (.bool b) tt j t q op d ty all l rk Γ fr (bif b then m1 else m2))
 | assoc {α β:Type} {q:Bool} {d:Option Nat} {op:Op} {ty:TI} {all l:LO} {gt:Nat} {g0:Fr} {Γ:QE} {fr:Fr} {m:Option α} {f:α→Option β} {g:β→Option Bool} (h:D P cx (.e q op d ty all l (.g gt g0) Γ fr (m>>=fun x=>f x>>=g))):D P cx (.e q op d ty all l (.g gt g0) Γ fr ((m>>=f)>>=g))
 | pick {M:Type} {q:Bool} {d:Nat} {c x y:OO} {ty:TI} {b:Bool} {v:Value} {all l:LO} {rk:RK R M} {Γ:QE} {fr:Fr} {m:Option M} (hc:ay fr c=some (.bool b)) (hx:(bif b then ay fr x else ay fr y)=some v) (h:D P cx (.o q all l rk Γ ((d,v) :: fr) m)):D P cx (.e q (.pick c x y) (some d) ty all l rk Γ fr m)
 | ogd {q:Bool} {all:LO} {t:Nat} {f0 fr:Fr} {Γ:QE} {b:Bool} (h:look fr t=some (.bool b)) (k:qm fr f0):D P cx (.o q all [] (.g t f0) Γ fr (some b))
 | tp1 {v:Value} {d:Nat} {fr:Fr} {k:Fr→Jd R} (h:D P cx (k ((d,v) :: fr))):D P cx (.tp [v] d fr k)
 | Nz {M:Type} {q:Bool} {d:Nat} {f:FuncId} {xs:List Operand} {vs:LV} {au:Array TypeId} {ty:TI} {all l:LO} {rk:RK R M} {Γ:QE} {fr:Fr} {m:Option M} [hf:bg P f] (hx:tM fr xs=some vs)
   (h:D P cx (.cv f vs q (.call ⟨.value (.func f),xs.toArray,au⟩) d ty all l rk Γ fr m)):D P cx (.e q (.call ⟨.value (.func f),xs.toArray,au⟩) (some d) ty all l rk Γ fr m)
 | cvn {M:Type} {q:Bool} {d:Nat} {f:FuncId} {vs:LV} {op:Op} {ty:TI} {all l:LO} {rk:RK R M} {Γ:QE} {fr:Fr}:D P cx (.cv f vs q op d ty all l rk Γ fr none)
 | cvq {M β:Type} {ow:Bool} {d:Nat} {f:FuncId} {vs:LV} {op:Op} {ty:TI} {Δ:QE} {mo:Option β} {rt:β→Unit→List Value} {all l:LO} {rk:RK R M} {Γ:QE} {fr:Fr} {g:β→Option M}
   (hc:Ct P f ow mo vs Δ rt (fun _ _=>[])) (h0:FO Δ) (h1:ER true Γ Δ) (k:∀ y,D P cx (.tp (rt y ()) d fr fun fr=>.o true all l rk Γ fr (g y))):D P cx (.cv f vs true op d ty all l rk Γ fr (mo>>=g))
 | cvw {M β V:Type} {ow:Bool} {d:Nat} {f:FuncId} {vs:LV} {op:Op} {ty:TI} {Δ:QE} {mo:Option β} {rt:β→V→List Value} {ps:β→V→List aq} {all l:LO} {rk:RK R M} {Γ:QE} {fr:Fr} {g:β→Option M}
   (hc:Ct P f ow mo vs Δ rt ps) (hp:EP Γ Δ) (h:D P cx (.cz ow f vs op d ty Δ mo rt ps all l rk Γ fr g)):D P cx (.cv f vs false op d ty all l rk Γ fr (mo>>=g))
 | czt {M β V:Type} {d:Nat} {f:FuncId} {vs:LV} {op:Op} {ty:TI} {Δ:QE} {mo:Option β} {rt:β→V→List Value} {ps:β→V→List aq} {all l:LO} {rk:RK R M} {Γ Γ1:QE} {fr:Fr} {g:β→Option M}
   (h0:EO Γ Δ Γ1) (h1:ER true Γ1 Δ) (k:∀ y v,D P cx (.cs y fun y=>.tp (rt y v) d fr fun fr=>.p [] (ps y v) fr Γ1 fun fr Γ=>.mo all l rk Γ fr (g y))):D P cx (.cz true f vs op d ty Δ mo rt ps all l rk Γ fr g)
 | czf {M β V:Type} {d:Nat} {f:FuncId} {vs:LV} {op:Op} {ty:TI} {Δ:QE} {mo:Option β} {rt:β→V→List Value} {ps:β→V→List aq} {all l:LO} {rk:RK R M} {Γ Γ1:QE} {fr:Fr} {g:β→Option M}
   (h0:EF Γ Δ Γ1) (k:∀ y v,D P cx (.cs y fun y=>.tp (rt y v) d fr fun fr=>.p [] (ps y v) fr Γ1 fun fr Γ=>.mo all l rk Γ fr (g y))):D P cx (.cz false f vs op d ty Δ mo rt ps all l rk Γ fr g)
 | mo1 {M β:Type} {e:TI} {E:ah β} {v u:Value} {xs:List β} {j:Int} {z:β} {all l:LO} {rk:RK R M} {Γ:QE} {fr:Fr} {m:Option M} (h:D P cx (.mo all l rk (.own (aJ e E) v (xs.set j.toNat z) :: Γ) fr m)):D P cx (.mo all l rk (.own E u z :: .fv e E v xs j u :: Γ) fr m)
 | mo2 {M α β:Type} {T:ah α} {v':Value} {x':α} {e:TI} {E:ah β} {v u:Value} {xs:List β} {j:Int} {z:β} {all l:LO} {rk:RK R M} {Γ:QE} {fr:Fr} {m:Option M} (h:D P cx (.mo all l rk (.own T v' x' :: .own (aJ e E) v (xs.set j.toNat z) :: Γ) fr m)):D P cx (.mo all l rk (.own T v' x' :: .own E u z :: .fv e E v xs j u :: Γ) fr m)
 | mo0 {M:Type} {all l:LO} {rk:RK R M} {Γ:QE} {fr:Fr} {m:Option M} (h:D P cx (.o false all l rk Γ fr m)):D P cx (.mo all l rk Γ fr m)
 | tgn {S:Type} {q:Bool} {all ops:LO} {K:ch R S} {Γ:QE} {fr:Fr} {m:Option (Out S R)} (h:D P cx (.o q all ops (.n K) Γ fr m)):D P cx (.tg q false all ops K Γ fr m)
 | tgg {S:Type} {t:Nat} {K:ch R S} {all ops:LO} {Γ:QE} {fr:Fr} {gm:Option Bool} {f:Bool→Option (Out S R)} {f0:Fr} (ht:Ev ops=some t) (hf:Kp (Aq ops) none fr f0) (h:D P cx (.o true all ops (.g t f0) Γ fr gm)) (k:∀ g,D P cx (.n K Γ ((t,.bool g) :: f0) (f g))):D P cx (.tg true true all ops K Γ fr (gm>>=f))
 | mn1 {S β:Type} {e:TI} {E:ah β} {v u:Value} {xs:List β} {j:Int} {z:β} {K:ch R S} {Γ:QE} {fr:Fr} {m:Option (Out S R)} (h:D P cx (.mn K (.own (aJ e E) v (xs.set j.toNat z) :: Γ) fr m)):D P cx (.mn K (.own E u z :: .fv e E v xs j u :: Γ) fr m)
 | mn2 {S α β:Type} {T:ah α} {v':Value} {x':α} {e:TI} {E:ah β} {v u:Value} {xs:List β} {j:Int} {z:β} {K:ch R S} {Γ:QE} {fr:Fr} {m:Option (Out S R)} (h:D P cx (.mn K (.own T v' x' :: .own (aJ e E) v (xs.set j.toNat z) :: Γ) fr m)):D P cx (.mn K (.own T v' x' :: .own E u z :: .fv e E v xs j u :: Γ) fr m)
 | mn0 {S:Type} {K:ch R S} {Γ:QE} {fr:Fr} {m:Option (Out S R)} (h:D P cx (.n K Γ fr m)):D P cx (.mn K Γ fr m)
 | atl {M:Type} {q:Bool} {d:Nat} {f:FuncId} {x:OO} {a:Addr} {n:Int} {au:Array TypeId} {ty:TI} {all l:LO} {rk:RK R M} {Γ:QE} {fr:Fr} {m:Option M} [hf:AtL P f] (hx:ay fr x=some (.pointer (some a))) (hc:o5 Γ a (.int .i64 n))
   (h:D P cx (.o q all l rk Γ ((d,.int .i64 n) :: fr) m)):D P cx (.e q (.call ⟨.value (.func f),#[x],au⟩) (some d) ty all l rk Γ fr m)
 | ata {M:Type} {d:Nat} {f:FuncId} {x y:OO} {b j:Nat} {n z:Int} {cs ds:LV} {au:Array TypeId} {ty e:TI} {all l:LO} {rk:RK R M} {Γ Γ1:QE} {fr:Fr} {m:Option M} [hf:AtA P f] (hx:ay fr x=some (.pointer (some ⟨b,j,none⟩))) (hy:ay fr y=some (.int .i64 z))
   (h0:bz Γ (.row b cs e) Γ1) (h1:cs[j]? = some (.int .i64 n)) (h2:sJ [.int .i64 (ai (n+z))] j cs ds) (h:D P cx (.o false all l rk (.row b ds e :: Γ1) ((d,.int .i64 (ai (n+z))) :: fr) m)):D P cx (.e false (.call ⟨.value (.func f),#[x,y],au⟩) (some d) ty all l rk Γ fr m)
 | cav {M:Type} {q:Bool} {d:Nat} {f:FuncId} {x:OO} {xs:List Operand} {vs us ws as bs:LV} {au:Array TypeId} {ty:TI} {all l:LO} {rk:RK R M} {Γ:QE} {fr:Fr} {m:Option M} (hv:ay fr x=some (.func (.func f) as.toArray bs.toArray)) (hx:tM fr xs=some vs) (h1:lg vs bs us) (h2:lg as us ws)
   (h:D P cx (.fa f (.cv f ws q (.call ⟨.value x,xs.toArray,au⟩) d ty all l rk Γ fr m))):D P cx (.e q (.call ⟨.value x,xs.toArray,au⟩) (some d) ty all l rk Γ fr m)
 | fa {f:FuncId} {j:Jd R} [hf:bg P f] (h:D P cx j):D P cx (.fa f j)
 | cin {M:Type} {q:Bool} {d:Nat} {name:String} {t:TI} {x:OO} {u:Value} {xs:List Operand} {vs:LV} {au:Array TypeId} {ty:TI} {all l:LO} {rk:RK R M} {Γ:QE} {fr:Fr} {m:Option M} (hv:ay fr x=some (.iface t u)) (hx:tM fr xs=some vs)
   (h:D P cx (.im t name fun f=>.cv f (u :: vs) q (.call ⟨.invoke x name,xs.toArray,au⟩) d ty all l rk Γ fr m)):D P cx (.e q (.call ⟨.invoke x name,xs.toArray,au⟩) (some d) ty all l rk Γ fr m)
 | im {t:TI} {name nm:String} {f:FuncId} {j:FuncId→Jd R} [hf:U6 P t nm f] (hn:Bx (name=nm)) (h:D P cx (j f)):D P cx (.im t name j)
 | ia {t a:TI} {j:Jd R} [hf:IAc P t a] (h:D P cx j):D P cx (.ia t a j)
 | mkf {M:Type} {q:Bool} {d:Nat} {f:FuncId} {xs ys:List Operand} {as bs:LV} {ty:TI} {all l:LO} {rk:RK R M} {Γ:QE} {fr:Fr} {m:Option M} (hx:tM fr xs=some as) (hy:tM fr ys=some bs)
   (h:D P cx (.o q all l rk Γ ((d,.func (.func f) as.toArray bs.toArray) :: fr) m)):D P cx (.e q (.makeFunc (.func f) xs.toArray ys.toArray) (some d) ty all l rk Γ fr m)
 | mki {M:Type} {q:Bool} {d:Nat} {x:OO} {v:Value} {t ty:TI} {all l:LO} {rk:RK R M} {Γ:QE} {fr:Fr} {m:Option M} [hf:IFc P t] (hx:ay fr x=some v)
   (h:D P cx (.o q all l rk Γ ((d,.iface t v) :: fr) m)):D P cx (.e q (.makeInterface t x) (some d) ty all l rk Γ fr m)
 | tas {M:Type} {q:Bool} {d:Nat} {x:OO} {u:Value} {t a xt ty:TI} {all l:LO} {rk:RK R M} {Γ:QE} {fr:Fr} {m:Option M} (hx:ay fr x=some (.iface t u))
   (h:D P cx (.ia t a (.o q all l rk Γ ((d,.tuple #[.iface t u,.bool true]) :: fr) m))):D P cx (.e q (.typeAssert x xt a true) (some d) ty all l rk Γ fr m)
 | csp {A B:Type} {y:Option A×B} {k:Option A×B→Jd R} (h0:∀ z,D P cx (.cs z fun z=>k (none,z))) (h1:∀ a z,D P cx (.cs z fun z=>k (some a,z))):D P cx (.cs y k)
 | cso {A:Type} {y:Option A} {k:Option A→Jd R} (h0:D P cx (k none)) (h1:∀ a,D P cx (k (some a))):D P cx (.cs y k)
 | Vf {β:Type} {y:β} {k:β→Jd R} (h:D P cx (k y)):D P cx (.cs y k)
 | tp0 {d:Nat} {fr:Fr} {k:Fr→Jd R} (h:D P cx (k ((d,.tuple #[]) :: fr))):D P cx (.tp [] d fr k)
 | tp2 {u v:Value} {vs:LV} {d:Nat} {fr:Fr} {k:Fr→Jd R} (h:D P cx (k ((d,.tuple (u :: v :: vs).toArray) :: fr))):D P cx (.tp (u :: v :: vs) d fr k)
 | ret {S:Type} {K:ch R S} {rs:List ResultVar} {y:R} {v:cx.V} {Γ Γ':QE} {fr:Fr} (hr:cx.fn.results=rs.toArray) (hv:uA cx.V v) (h:zD P fr Γ rs (cx.ret y v)) (h1:EF Γ (cx.post y v) Γ'):D P cx (.c K .ret Γ fr (some (.ret y)))
 | block {S:Type} {K:ch R S} {k:Nat} {c:Code} {Γ:QE} {fr:Fr} {m:Option (Out S R)} (h:D P cx (.bk (U8 c) k K c Γ fr m)):D P cx (.c K (.block k c) Γ fr m)
 | bkf {S:Type} {iz:List KI} {kb:Kb R S} {k:Nat} {c:Code} {Γ:QE} {fr:Fr} {m:Option (Out S R)} (h:D P cx (.c ⟨.BS k :: iz,kb⟩ c Γ fr m)):D P cx (.bk false k ⟨iz,kb⟩ c Γ fr m)
 | bks {S:Type} {K:ch R S} {k:Nat} {c:Code} {Γ:QE} {fr:Fr} {m:Option (Out S R)} (h:Bx (qa P cx (.bk true k K c Γ fr m))):D P cx (.bk true k K c Γ fr m)
 | draw {S:Type} {id:Nat} {K:ch R S} {ops:LO} {Γ:QE} {fr:Fr} {m:Option (Out S R)} (h:D P cx (.dr id ops K Γ fr m)):D P cx (.c K (.region id ops.toArray true) Γ fr m)
 | drs {S:Type} {id:Nat} {K:ch R S} {ops:LO} {Γ:QE} {fr:Fr} {m:Option (Out S R)} (h:Bx (qa P cx (.dr id ops K Γ fr m))):D P cx (.dr id ops K Γ fr m)
 | rgq {S:Type} {K:ch R S} {ops:LO} {Γ:QE} {fr:Fr} {m:Option (Out S R)} (h:D P cx (.o true ops ops (.n K) Γ fr m)):D P cx (.rg false true ops K Γ fr m)
 | rgt {S:Type} {K:ch R S} {ops:LO} {Γ:QE} {fr:Fr} {m:Option (Out S R)} (h:D P cx (.rw (U7 ops) ops K Γ fr m)):D P cx (.rg true false ops K Γ fr m)
 | rwt {S:Type} {K:ch R S} {ops:LO} {Γ:QE} {fr:Fr} {m:Option (Out S R)} (h:D P cx (.o false ops ops (.s K) Γ fr m)):D P cx (.rw true ops K Γ fr m)
 | rwf {S:Type} {t:Nat} {K:ch R S} {ops:LO} {Γ:QE} {fr:Fr} {gm:Option Bool} {f:Bool→Option (Out S R)} {f0:Fr} (ht:Ev ops=some t) (hf:Kp (Aq ops) none fr f0) (h:D P cx (.o true ops ops (.g t f0) Γ fr gm)) (k:∀ g,D P cx (.n K Γ ((t,.bool g) :: f0) (f g))):D P cx (.rw false ops K Γ fr (gm>>=f))
 | rwu {S:Type} {K:ch R S} {ops:LO} {Γ:QE} {fr:Fr} {m:Option (Out S R)} (h:D P cx (.o false ops ops (.s K) Γ fr m)):D P cx (.rw false ops K Γ fr m)
 | osl {S:Type} {q:Bool} {all:LO} {K:ch R S} {Γ:QE} {fr:Fr} {m:Option (Out S R)} (h:D P cx (.n K Γ fr m)):D P cx (.o q all [] (.s K) Γ fr m)
 | ohl {S:Type} {q:Bool} {all tail:LO} {K:ch R S} {Γ:QE} {fr:Fr} {m:Option (Out S R)} (h:D P cx (.o false all tail (.s K) Γ fr m)):D P cx (.o q all [] (.h all tail K) Γ fr m)
 | as1 {S:Type} {α β:Type} {q:Bool} {d:Option Nat} {op:Op} {ty:TI} {all l:LO} {K:ch R S} {Γ:QE} {fr:Fr} {m:Option α} {f:α→Option β} {g:β→Option (Out S R)} (h:D P cx (.e q op d ty all l (.s K) Γ fr (m>>=fun x=>f x>>=g))):D P cx (.e q op d ty all l (.s K) Γ fr ((m>>=f)>>=g))
 | as2 {S:Type} {α β:Type} {q:Bool} {d:Option Nat} {op:Op} {ty:TI} {al all tail l:LO} {K:ch R S} {Γ:QE} {fr:Fr} {m:Option α} {f:α→Option β} {g:β→Option (Out S R)} (h:D P cx (.e q op d ty al l (.h all tail K) Γ fr (m>>=fun x=>f x>>=g))):D P cx (.e q op d ty al l (.h all tail K) Γ fr ((m>>=f)>>=g))
 | rgg {S:Type} {t:Nat} {K:ch R S} {ops:LO} {Γ:QE} {fr:Fr} {gm:Option Bool} {f:Bool→Option (Out S R)} {f0:Fr} (ht:Ev ops=some t) (hf:Kp (Aq ops) none fr f0) (h:D P cx (.o true ops ops (.g t f0) Γ fr gm)) (k:∀ g,D P cx (.n K Γ ((t,.bool g) :: f0) (f g))):D P cx (.rg true true ops K Γ fr (gm>>=f))
 | ab2 {rs:List ResultVar} {y:R} {v:cx.V} {Γ Γ':QE} {fr:Fr} (hr:cx.fn.results=rs.toArray) (hv:uA cx.V v) (h:zD P fr Γ rs (cx.ret y v)) (h1:EF Γ (cx.post y v) Γ'):D P cx (.n ⟨[],.PZ⟩ Γ fr (some (.norm y)))
 | Vg {M:Type} {q:Bool} {d s k off:Nat} {x:OO} {cs:LV} {v:Value} {ty:TI} {all l:LO} {rk:RK R M} {Γ:QE} {fr:Fr} {m:Option M} [hf:U5 P s k off] (hx:ay fr x=some (.agg cs.toArray)) (hc:cs[off]? = some v) (h:D P cx (.o q all l rk Γ ((d,v) :: fr) m)):D P cx (.e q (.field s x k) (some d) ty all l rk Γ fr m)
 | mul {M:Type} {q:Bool} {d:Nat} {x y:OO} {t t' ty:TI} {a b:Int} {all l:LO} {rk:RK R M} {Γ:QE} {fr:Fr} {m:Option M} (hx:ay fr x=some (.int .i64 a)) (hy:ay fr y=some (.int .i64 b)) (h:D P cx (.o q all l rk Γ ((d,.int .i64 (ai (a * b))) :: fr) m)):D P cx (.e q (.binOp .mul t x y t') (some d) ty all l rk Γ fr m)
 | neg {M:Type} {q:Bool} {d:Nat} {x:OO} {t ty:TI} {a:Int} {all l:LO} {rk:RK R M} {Γ:QE} {fr:Fr} {m:Option M} (hx:ay fr x=some (.int .i64 a)) (h:D P cx (.o q all l rk Γ ((d,.int .i64 (ai (0 - a))) :: fr) m)):D P cx (.e q (.unOp .neg t x) (some d) ty all l rk Γ fr m)
 | ext {M:Type} {q:Bool} {d k:Nat} {x:OO} {ty:TI} {vs:LV} {v:Value} {all l:LO} {rk:RK R M} {Γ:QE} {fr:Fr} {m:Option M} (hx:ay fr x=some (.tuple vs.toArray)) (hv:vs[k]? = some v) (h:D P cx (.o q all l rk Γ ((d,v) :: fr) m)):D P cx (.e q (.extract x k) (some d) ty all l rk Γ fr m)
 | NB {M:Type} {q:Bool} {d n:Nat} {x:OO} {a:Addr} {ds:LV} {ty:TI} {all l:LO} {rk:RK R M} {Γ:QE} {fr:Fr} {m:Option M} (h:ug Γ a n ds) (k:D P cx (.o q all l rk Γ ((d,.agg ds.toArray) :: fr) m)):D P cx (.la a (some n) q ty x d all l rk Γ fr m)
 | SN {M:Type} {q:Bool} {d:Nat} {t ty:TI} {ps:List (Nat×Operand)} {zc cs:LV} {pl:List (Nat×Nat)} {all l:LO} {rk:RK R M} {Γ:QE} {fr:Fr} {m:Option M} [hb:yQ P t zc pl] (hf:xe Γ fr pl ps zc cs) (h:D P cx (.o q all l rk Γ ((d,.agg cs.toArray) :: fr) m)):D P cx (.e q (.build t ps.toArray) (some d) ty all l rk Γ fr m)
 | box {M:Type} {d:Nat} {x:OO} {t ty:TI} {v:Value} {cs:LV} {all l:LO} {rk:RK R M} {Γ:QE} {fr:Fr} {m:Option M} (hx:ay fr x=some v) (hc:rU Γ v cs)
   (h:∀ b,D P cx (.o false all l rk (.row b cs t :: Γ) ((d,.pointer (some ⟨b,0,none⟩)) :: fr) m)):D P cx (.e false (.box t x) (some d) ty all l rk Γ fr m)
 | alloc {M:Type} {d:Nat} {t ty:TI} {cs:LV} {all l:LO} {rk:RK R M} {Γ:QE} {fr:Fr} {m:Option M} [hz:zO P t cs]
   (h:∀ b,D P cx (.o false all l rk (.row b cs t :: Γ) ((d,.pointer (some ⟨b,0,none⟩)) :: fr) m)):D P cx (.e false (.alloc t) (some d) ty all l rk Γ fr m)
 | H5 {M α:Type} {d:Nat} {t e ty:TI} {E:ah α} {z0:α} {bt:Nat} {all l:LO} {rk:RK R M} {Γ:QE} {fr:Fr} {m:Option M} [hz:mz P t α e E z0 bt]
   (h:∀ v,D P cx (.o false all l rk (.own (aJ e E) v [] :: Γ) ((d,v) :: fr) m)):D P cx (.e false (.buildSlice t 0 #[]) (some d) ty all l rk Γ fr m)
 | Ge {M α:Type} {d:Nat} {x:OO} {u:Value} {t e ty:TI} {E:ah α} {z0:α} {bt:Nat} {all l:LO} {rk:RK R M} {Γ:QE} {fr:Fr} {m:Option M} [hz:mz P t α e E z0 bt] (hx:ay fr x=some u) (h1:One Γ u)
   (h:∀ b,D P cx (.o false all l rk (.row b [u] e :: Γ) ((d,.slice (some ⟨b,0,none⟩) 1 1) :: fr) m)):D P cx (.e false (.buildSlice t 1 #[(0,x)]) (some d) ty all l rk Γ fr m)
 | ab3 {M:Type} {d n:Nat} {ps:List (Nat×Operand)} {us:LV} {t e ty:TI} {all l:LO} {rk:RK R M} {Γ:QE} {fr:Fr} {m:Option M} [hz:HW P t e] (hl:vK Γ fr 0 ps us) (hn:us.length=n) (hb:(Nat.ble 1 n && Nat.ble n 16777216)=true)
   (h:∀ b,D P cx (.o false all l rk (.row b us e :: Γ) ((d,.slice (some ⟨b,0,none⟩) n n) :: fr) m)):D P cx (.e false (.buildSlice t n ps.toArray) (some d) ty all l rk Γ fr m)
 | lits {M:Type} {d n k:Nat} {ps:List (Nat×Operand)} {us:LV} {t e ty:TI} {all l:LO} {rk:RK R M} {Γ:QE} {fr:Fr} {m:Option M} [hz:Nx P t e k] (hl:xf Γ fr k 0 ps us) (hn:ps.length=n) (hb:(Nat.ble 1 n && Nat.ble (n * k) 16777216)=true)
   (h:∀ b,D P cx (.o false all l rk (.row b us e :: Γ) ((d,.slice (some ⟨b,0,none⟩) n n) :: fr) m)):D P cx (.e false (.buildSlice t n ps.toArray) (some d) ty all l rk Γ fr m)
 | LC {M α:Type} {d:Nat} {y:OO} {a:Int} {t e ty:TI} {E:ah α} {z0:α} {bt:Nat} {all l:LO} {rk:RK R M} {Γ:QE} {fr:Fr} {f:Nat→Option M} [hz:mz P t α e E z0 bt] (hy:ay fr y=some (.int .i64 a))
   (h:∀ n v,D P cx (.o false all l rk (.own (aJ e E) v [] :: Γ) ((d,v) :: fr) (f n))):D P cx (.e false (.makeSlice t (.const (.int .i64 0)) y) (some d) ty all l rk Γ fr (mk bt a>>=f))
 | make {M α:Type} {d:Nat} {x:OO} {a:Int} {t e ty:TI} {E:ah α} {z0:α} {bt:Nat} {all l:LO} {rk:RK R M} {Γ:QE} {fr:Fr} {f:Nat→Option M} [hz:mz P t α e E z0 bt] (hx:ay fr x=some (.int .i64 a))
   (h:∀ n v,D P cx (.o false all l rk (.own (aJ e E) v (List.replicate n z0) :: Γ) ((d,v) :: fr) (f n))):D P cx (.e false (.makeSlice t x x) (some d) ty all l rk Γ fr (mk bt a>>=f))
 | app {M α:Type} {d:Nat} {s x:OO} {sv xv:Value} {t e ty:TI} {E:ah α} {z0:α} {bt:Nat} {all l:LO} {rk:RK R M} {Γ:QE} {fr:Fr} {m:Option M} [hz:mz P t α e E z0 bt] (hs:ay fr s=some sv) (hx:ay fr x=some xv)
   (h:D P cx (.ax E e t bt xv sv s x d ty all l rk Γ fr m)):D P cx (.e false (.call ⟨.builtin .append,#[s,x],#[t,t]⟩) (some d) ty all l rk Γ fr m)
 | ax1 {M α:Type} {d b:Nat} {s x:OO} {sv u:Value} {t e ty:TI} {E:ah α} {bt:Nat} {all l:LO} {rk:RK R M} {Γ:QE} {fr:Fr} {m:Option M} (hc:o5 Γ ⟨b,0,none⟩ u)
   (h:D P cx (.ap E e t bt u b sv s x d ty all l rk Γ fr m)):D P cx (.ax E e t bt (.slice (some ⟨b,0,none⟩) 1 1) sv s x d ty all l rk Γ fr m)
 | axi {M:Type} {d:Nat} {k:IntKind} {s x:OO} {sv yv:Value} {o1 o2:Bool} {t e ty:TI} {xs ys:List Int} {bt:Nat} {all l:LO} {rk:RK R M} {Γ Γ1 Γx:QE} {fr:Fr} {f:Unit→Option M} (h1:bz Γ (.own (aJ e (aN k)) sv xs) Γ1) (h2:lr Γ1 yv o1 o2 (aN k) ys o6 Γx)
   (h:∀ v,D P cx (.o false all l rk (.own (aJ e (aN k)) v (xs++ys) :: Γ1) ((d,v) :: fr) (f ()))):D P cx (.ax (aN k) e t bt yv sv s x d ty all l rk Γ fr (fits bt (xs.length+ys.length)>>=f))
 | axb {M:Type} {d:Nat} {s x:OO} {sv yv:Value} {o1 o2:Bool} {t e ty:TI} {xs ys:List Bool} {bt:Nat} {all l:LO} {rk:RK R M} {Γ Γ1 Γx:QE} {fr:Fr} {f:Unit→Option M} (h1:bz Γ (.own (aJ e jc) sv xs) Γ1) (h2:lr Γ1 yv o1 o2 jc ys o6 Γx)
   (h:∀ v,D P cx (.o false all l rk (.own (aJ e jc) v (xs++ys) :: Γ1) ((d,v) :: fr) (f ()))):D P cx (.ax jc e t bt yv sv s x d ty all l rk Γ fr (fits bt (xs.length+ys.length)>>=f))
 | api {M:Type} {d b:Nat} {k:IntKind} {y:Int} {s x:OO} {sv:Value} {t e et ty:TI} {xs:List Int} {bt:Nat} {all l:LO} {rk:RK R M} {Γ Γ1 Γ2:QE} {fr:Fr} {f:Unit→Option M} (h0:bz Γ (.row b [.int k y] et) Γ1) (h1:bz Γ1 (.own (aJ e (aN k)) sv xs) Γ2)
   (h:∀ v,D P cx (.o false all l rk (.own (aJ e (aN k)) v (xs++[y]) :: Γ2) ((d,v) :: fr) (f ()))):D P cx (.ap (aN k) e t bt (.int k y) b sv s x d ty all l rk Γ fr (fits bt (xs.length+1)>>=f))
 | apb {M:Type} {d b:Nat} {y:Bool} {s x:OO} {sv:Value} {t e et ty:TI} {xs:List Bool} {bt:Nat} {all l:LO} {rk:RK R M} {Γ Γ1 Γ2:QE} {fr:Fr} {f:Unit→Option M} (h0:bz Γ (.row b [.bool y] et) Γ1) (h1:bz Γ1 (.own (aJ e jc) sv xs) Γ2)
   (h:∀ v,D P cx (.o false all l rk (.own (aJ e jc) v (xs++[y]) :: Γ2) ((d,v) :: fr) (f ()))):D P cx (.ap jc e t bt (.bool y) b sv s x d ty all l rk Γ fr (fits bt (xs.length+1)>>=f))
 | Vh {M α:Type} {d b:Nat} {s x:OO} {sv u:Value} {k:Bool} {t e e' ty:TI} {E:ah α} {bt:Nat} {all l:LO} {rk:RK R M} {Γ:QE} {fr:Fr} {m:Option M} (hk:KB Γ u k)
   (h:D P cx (.Nu k e' E e t bt u b sv s x d ty all l rk Γ fr m)):D P cx (.ap (aJ e' E) e t bt u b sv s x d ty all l rk Γ fr m)
 | apo {M α:Type} {d b:Nat} {s x:OO} {sv u:Value} {y:List α} {xs:List (List α)} {t e e' et ty:TI} {E:ah α} {bt:Nat} {all l:LO} {rk:RK R M} {Γ Γ1 Γ2 Γ3:QE} {fr:Fr} {f:Unit→Option M} (h0:bz Γ (.row b [u] et) Γ1) (h1:bz Γ1 (.own (aJ e' E) u y) Γ2) (h2:bz Γ2 (.own (aJ e (aJ e' E)) sv xs) Γ3)
   (h:∀ v,D P cx (.o false all l rk (.own (aJ e (aJ e' E)) v (xs++[y]) :: .rd false SG u y.length :: Γ3) ((d,v) :: fr) (f ()))):D P cx (.Nu true e' E e t bt u b sv s x d ty all l rk Γ fr (fits bt (xs.length+1)>>=f))
 | apm {M α:Type} {d b:Nat} {s x:OO} {sv u:Value} {y:List α} {xs:List (List α)} {t e e' et ty:TI} {E E1:ah α} {bt:Nat} {all l:LO} {rk:RK R M} {Γ Γ1 Γ2 Γx:QE} {fr:Fr} {f:Unit→Option M} (h0:bz Γ (.row b [u] et) Γ1) (h1:lr Γ1 u false false E1 y o6 Γx) (h2:bz Γ1 (.om e (aV E1) sv xs) Γ2)
   (h:∀ v,D P cx (.o false all l rk (.om e (aV E1) v (xs++[y]) :: Γ2) ((d,v) :: fr) (f ()))):D P cx (.Nu false e' E e t bt u b sv s x d ty all l rk Γ fr (fits bt (xs.length+1)>>=f))
 | axm {M α:Type} {d:Nat} {s x:OO} {sv yv:Value} {xs ys:List (List α)} {t e e' ty:TI} {E E1:ah α} {bt:Nat} {all l:LO} {rk:RK R M} {Γ Γ1 Γx:QE} {fr:Fr} {f:Unit→Option M} (h2:lr Γ yv false false (aV E1) ys o6 Γx) (h1:bz Γ (.om e (aV E1) sv xs) Γ1)
   (h:∀ v,D P cx (.o false all l rk (.om e (aV E1) v (xs++ys) :: Γ1) ((d,v) :: fr) (f ()))):D P cx (.ax (aJ e' E) e t bt yv sv s x d ty all l rk Γ fr (fits bt (xs.length+ys.length)>>=f))
 | Vi {M:Type} {x y:OO} {a:Addr} {u:Value} {t ty:TI} {n:Nat} {all l:LO} {rk:RK R M} {Γ:QE} {fr:Fr} {m:Option M} [ht:sI P t n] (hx:ay fr x=some (.pointer (some a))) (hy:ay fr y=some u)
   (h:D P cx (.st a u n t x y ty all l rk Γ fr m)):D P cx (.e false (.store t x y) none ty all l rk Γ fr m)
 | stn {M:Type} {x y:OO} {b j n:Nat} {us cs ds:LV} {t e ty:TI} {all l:LO} {rk:RK R M} {Γ Γ1:QE} {fr:Fr} {m:Option M} (h0:bz Γ (.row b cs e) Γ1) (h1:sJ us j cs ds) (h2:uZ Γ us) (h3:us.length=n)
   (h:D P cx (.o false all l rk (.row b ds e :: Γ1) fr m)):D P cx (.st ⟨b,j,none⟩ (.agg us.toArray) n t x y ty all l rk Γ fr m)
 | st1 {M:Type} {x y:OO} {b j:Nat} {u:Value} {cs ds:LV} {t e ty:TI} {all l:LO} {rk:RK R M} {Γ Γ1:QE} {fr:Fr} {m:Option M} (h0:bz Γ (.row b cs e) Γ1) (h1:sJ [u] j cs ds) (h2:One Γ u)
   (h:D P cx (.o false all l rk (.row b ds e :: Γ1) fr m)):D P cx (.st ⟨b,j,none⟩ u 1 t x y ty all l rk Γ fr m)
 | stl {M:Type} {l:uz} {x y:OO} {v u:Value} {j:Int} {t ty:TI} {all ops:LO} {rk:RK R M} {Γ:QE} {fr:Fr} {m:Option M} (hl:Loc Γ v l) (h:D P cx (.sl l v j u t x y ty all ops rk Γ fr m)):D P cx (.st (cn v 1 j) u 1 t x y ty all ops rk Γ fr m)
 | sti {M:Type} {x y:OO} {v:Value} {j z:Int} {k:IntKind} {xs:List Int} {t e ty:TI} {all l:LO} {rk:RK R M} {Γ Γ1:QE} {fr:Fr} {m:Option M} (h0:Rg v j Γ) (h1:bz Γ (.own (aJ e (aN k)) v xs) Γ1)
   (h:D P cx (.o false all l rk (.own (aJ e (aN k)) v (xs.set j.toNat z) :: Γ1) fr m)):D P cx (.sl .own v j (.int k z) t x y ty all l rk Γ fr m)
 | stb {M:Type} {x y:OO} {v:Value} {j:Int} {z:Bool} {xs:List Bool} {t e ty:TI} {all l:LO} {rk:RK R M} {Γ Γ1:QE} {fr:Fr} {m:Option M} (h0:Rg v j Γ) (h1:bz Γ (.own (aJ e jc) v xs) Γ1)
   (h:D P cx (.o false all l rk (.own (aJ e jc) v (xs.set j.toNat z) :: Γ1) fr m)):D P cx (.sl .own v j (.bool z) t x y ty all l rk Γ fr m)
 | stw {M α:Type} {x y:OO} {v u:Value} {j:Int} {z:List α} {xs:List (List α)} {E:ah α} {t e e' ty:TI} {all l:LO} {rk:RK R M} {Γ Γ1 Γ2:QE} {fr:Fr} {m:Option M} (h0:Rg v j Γ) (h1:bz Γ (.own (aJ e' E) u z) Γ1) (h2:bz Γ1 (.own (aJ e (aJ e' E)) v xs) Γ2)
   (h:D P cx (.o false all l rk (.own (aJ e (aJ e' E)) v (xs.set j.toNat z) :: Γ2) fr m)):D P cx (.sl .own v j u t x y ty all l rk Γ fr m)
 | stm {M α:Type} {x y:OO} {v u:Value} {j:Int} {z:List α} {xs:List (List α)} {E:ah α} {t e ty:TI} {all l:LO} {rk:RK R M} {Γ Γ1 Γx:QE} {fr:Fr} {m:Option M} (h0:Rg v j Γ) (h1:lr Γ u false false E z o6 Γx) (h2:bz Γ (.om e (aV E) v xs) Γ1)
   (h:D P cx (.o false all l rk (.om e (aV E) v (xs.set j.toNat z) :: Γ1) fr m)):D P cx (.sl .om v j u t x y ty all l rk Γ fr m)
 | sri {M:Type} {x y:OO} {v v':Value} {j j' z:Int} {k:IntKind} {zs:List Int} {xs:List (List Int)} {t e e' ty:TI} {o1 o2:Bool} {all l:LO} {rk:RK R M} {Γ Γ1 Γx:QE} {fr:Fr} {m:Option M} (h0:Rg v j Γ) (h1:lr Γ v o1 o2 (aN k) zs o6 Γx) (h2:bz Γ (.own (aJ e (aJ e' (aN k))) v' xs) Γ1)
   (h:D P cx (.o false all l rk (.own (aJ e (aJ e' (aN k))) v' (xs.set j'.toNat (zs.set j.toNat z)) :: Γ1) fr m)):D P cx (.sl (.row v' j') v j (.int k z) t x y ty all l rk Γ fr m)
 | srb {M:Type} {x y:OO} {v v':Value} {j j':Int} {z:Bool} {zs:List Bool} {xs:List (List Bool)} {t e e' ty:TI} {o1 o2:Bool} {all l:LO} {rk:RK R M} {Γ Γ1 Γx:QE} {fr:Fr} {m:Option M} (h0:Rg v j Γ) (h1:lr Γ v o1 o2 jc zs o6 Γx) (h2:bz Γ (.own (aJ e (aJ e' jc)) v' xs) Γ1)
   (h:D P cx (.o false all l rk (.own (aJ e (aJ e' jc)) v' (xs.set j'.toNat (zs.set j.toNat z)) :: Γ1) fr m)):D P cx (.sl (.row v' j') v j (.bool z) t x y ty all l rk Γ fr m)
 | lnm {M κ υ:Type} {q:Bool} {d:Nat} {x:OO} {v:Value} {t ty:TI} {bq:BEq κ} {ek:κ→Value} {eu:υ→Value} {xs:List (κ×υ)} {all l:LO} {rk:RK R M} {Γ:QE} {fr:Fr} {m:Option M} [ht:HZ P t κ υ bq ek eu] (hx:ay fr x=some v) (hr:Dp ek eu Γ v xs) (h:D P cx (.o q all l rk Γ ((d,.int .i64 (xs.length:Int)) :: fr) m)):D P cx (.e q (.call ⟨.builtin .len,#[x],#[t]⟩) (some d) ty all l rk Γ fr m)
 | Vj {M:Type} {q:Bool} {d:Nat} {x:OO} {k k2:IntKind} {n:Int} {s t ty:TI} {all l:LO} {rk:RK R M} {Γ:QE} {fr:Fr} {m:Option M} [ht:H0 P s t k2] (hx:ay fr x=some (.int k n)) (h:D P cx (.o q all l rk Γ ((d,.int k2 (k2.wrap n)) :: fr) m)):D P cx (.e q (.convert s t x) (some d) ty all l rk Γ fr m)
 | cvs {M:Type} {q o1 o2:Bool} {d:Nat} {x:OO} {v:Value} {xs:List Int} {s t ty:TI} {all l:LO} {rk:RK R M} {Γ Γx:QE} {fr:Fr} {m:Option M} [ht:BSc P s t] (hx:ay fr x=some v) (hr:lr Γ v o1 o2 (aN .u8) xs o6 Γx) (h:D P cx (.o q all l rk Γ ((d,.string (strOfNums xs)) :: fr) m)):D P cx (.e q (.convert s t x) (some d) ty all l rk Γ fr m)
 | mkm {M κ υ:Type} {d:Nat} {t ty:TI} {bq:BEq κ} {ek:κ→Value} {eu:υ→Value} {all l:LO} {rk:RK R M} {Γ:QE} {fr:Fr} {m:Option M} [ht:HZ P t κ υ bq ek eu]
   (h:∀ v,D P cx (.o false all l rk (.own (sG ek eu) v [] :: Γ) ((d,v) :: fr) m)):D P cx (.e false (.makeMap t none) (some d) ty all l rk Γ fr m)
 | mpu {M κ υ:Type} {x y z:OO} {v:Value} {t ty:TI} {bq:BEq κ} {ek:κ→Value} {eu:υ→Value} {xs:List (κ×υ)} {a:κ} {b:υ} {all l:LO} {rk:RK R M} {Γ Γ1:QE} {fr:Fr} {m:Option M} [ht:HZ P t κ υ bq ek eu] (hx:ay fr x=some v) (hy:ay fr y=some (ek a)) (hz:ay fr z=some (eu b)) (h1:bz Γ (.own (sG ek eu) v xs) Γ1)
   (h:D P cx (.o false all l rk (.own (sG ek eu) v (xD xs a b) :: Γ1) fr m)):D P cx (.e false (.mapUpdate t x y z) none ty all l rk Γ fr m)
 | ldn {M α:Type} {q o:Bool} {d:Nat} {x:OO} {v:Value} {j:Int} {Q:Value→α→Prop} {T:ah α} {z:α} {ty:TI} {all l:LO} {rk:RK R M} {Γ:QE} {Γ1 Γ':Value→List aq} {fr:Fr} {m:Option M} (h:∀ u,uY Γ (cn v 1 j) o (so Q T) z (.rd o (so Q T) u z) (Γ1 u)) (h2:∀ u,zC (Γ1 u) v j u (Γ' u)) (k:∀ u,D P cx (.o q all l rk (Γ' u) ((d,u) :: fr) m)):D P cx (.ld (so Q T) z (cn v 1 j) q ty x d all l rk Γ fr m)
 | apn {M α:Type} {d b:Nat} {s x:OO} {sv u:Value} {y:List α} {xs:List (List α)} {t e e' et ty:TI} {E:ah α} {Q:Value→List α→Prop} {T:ah (List α)} {bt:Nat} {all l:LO} {rk:RK R M} {Γ Γ1 Γ2:QE} {fr:Fr} {f:Unit→Option M} (h0:bz Γ (.row b [u] et) Γ1) (h1:In (.rd false (so Q T) u y) Γ1) (h2:bz Γ1 (.om e (so Q T) sv xs) Γ2)
   (h:∀ v,D P cx (.o false all l rk (.om e (so Q T) v (xs++[y]) :: Γ2) ((d,v) :: fr) (f ()))):D P cx (.Nu false e' E e t bt u b sv s x d ty all l rk Γ fr (fits bt (xs.length+1)>>=f))
 | P5 {M:Type} {q:Bool} {d:Nat} {x y:OO} {k k':IntKind} {a b:Int} {au:Array TypeId} {ty:TI} {all l:LO} {rk:RK R M} {Γ:QE} {fr:Fr} {m:Option M} (hx:ay fr x=some (.int k a)) (hy:ay fr y=some (.int k' b)) (h:D P cx (.o q all l rk Γ ((d,.int k (if b > a then b else a)) :: fr) m)):D P cx (.e q (.call ⟨.builtin .max,#[x,y],au⟩) (some d) ty all l rk Γ fr m)
 | P6 {M:Type} {q:Bool} {d:Nat} {x y:OO} {k k':IntKind} {a b:Int} {au:Array TypeId} {ty:TI} {all l:LO} {rk:RK R M} {Γ:QE} {fr:Fr} {m:Option M} (hx:ay fr x=some (.int k a)) (hy:ay fr y=some (.int k' b)) (h:D P cx (.o q all l rk Γ ((d,.int k (if b < a then b else a)) :: fr) m)):D P cx (.e q (.call ⟨.builtin .min,#[x,y],au⟩) (some d) ty all l rk Γ fr m)
 | SP {M κ υ:Type} {q:Bool} {d:Nat} {x y:OO} {v:Value} {t ty:TI} {bq:BEq κ} {ek:κ→Value} {eu:υ→Value} {xs:List (κ×υ)} {a:κ} {z0:υ} {all l:LO} {rk:RK R M} {Γ:QE} {fr:Fr} {m:Option M} [ht:HZ P t κ υ bq ek eu] [hz:SI P t υ eu z0] (hx:ay fr x=some v) (hy:ay fr y=some (ek a)) (hr:Dp ek eu Γ v xs)
   (h:D P cx (.o q all l rk Γ ((d,.tuple #[eu ((qf xs a).getD z0),.bool (qf xs a).isSome]) :: fr) m)):D P cx (.e q (.lookup t x y true) (some d) ty all l rk Γ fr m)
 | ab4 {M:Type} {d n:Nat} {ps:List (Nat×Operand)} {us:LV} {t e ty:TI} {all l:LO} {rk:RK R M} {Γ:QE} {fr:Fr} {m:Option M} [hz:GN P t e] (hl:vK Γ fr 0 ps us) (hn:us.length=n) (hb:(Nat.ble 1 n && Nat.ble n 16777216)=true)
   (h:∀ b,D P cx (.o false all l rk (.row b us e :: Γ) ((d,.slice (some ⟨b,0,none⟩) n n) :: fr) m)):D P cx (.e false (.buildSlice t n ps.toArray) (some d) ty all l rk Γ fr m)
 | Ey {M α:Type} {q:Bool} {d b n:Nat} {x:OO} {us:LV} {E:ah α} {xs:List α} {e ty:TI} {all l:LO} {rk:RK R M} {Γ Γ1 Γ2:QE} {fr:Fr} {m:Option M} (hx:ay fr x=some (.slice (some ⟨b,0,none⟩) n n)) (h0:bz Γ (.row b us e) Γ1) (h1:H4 Γ1 E us xs Γ2) (hE:E.size=1) (hn:us.length=n) (hb:Nat.ble n 16777216=true)
   (h:D P cx (.o q all l rk (.own (aJ e E) (.slice (some ⟨b,0,none⟩) n n) xs :: Γ2) ((d,.slice (some ⟨b,0,none⟩) n n) :: fr) m)):D P cx (.e q (.assign x) (some d) ty all l rk Γ fr m)
 | rV {M:Type} {q:Bool} {d:Nat} {op:BinOp} {x y:OO} {k k':IntKind} {a b:Int} {t t' ty:TI} {all l:LO} {rk:RK R M} {Γ:QE} {fr:Fr} {f:Int→Option M} (hx:ay fr x=some (.int k a)) (hy:ay fr y=some (.int k' b)) (hk:SK op k k') (h:∀ z,D P cx (.o q all l rk Γ ((d,.int k z) :: fr) (f z))):D P cx (.e q (.binOp op t x y t') (some d) ty all l rk Γ fr (qz op k a b>>=f))
 | inj {J:Jd R} (h:Bx (qa P cx J)):D P cx J
end Go.Dk
