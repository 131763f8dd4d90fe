/- A calculus of walks: what is known of memory as a list of entries, and how entries are found and taken. No condition. -/
import Derived.Test.YtcnehblmgfbfoaaGreatLm
import Derived.Test.YtcnehblmgfbfoaaGreatLq
namespace Go.Dk
open Go Go.Li
abbrev Fr:=List (Nat×Value)
def look:Fr→Nat→Option Value
 | [],_=>none
 | (a,v) :: l,t=>bif Nat.beq t a then some v else look l t
def cf (r:NV) (f:Fr):Prop:=∀ t v,look f t=some v→r t=v
def bx (f:Fr):Operand→Option Value
 | .tmp t=>look f t
 | .const v=>some v
 | .global g=>some (.pointer (some ⟨g,0,none⟩))
 | .func g=>some (.func (.func g) #[] #[])
def u7 (f:Fr):List Operand→Option (List Value)
 | []=>some []
 | x :: l=>match bx f x with
  | some v=>match u7 f l with
   | some vs=>some (v :: vs)
   | none=>none
  | none=>none
theorem bL {r:NV} {f:Fr} {x:OO} {v:Value} (h:cf r f) (hx:bx f x=some v):ev r x=v:=by
 cases x with
 | tmp t=>exact h t v hx
 | const c=>cases hx; rfl
 | global g=>cases hx; rfl
 | func g=>cases hx; rfl
theorem tf {r:NV} {f:Fr} (h:cf r f):∀ {l:List Operand} {vs:LV},u7 f l=some vs→l.map (ev r)=vs:=by
 intro l
 induction l with
 | nil=>intro vs hx; cases hx; rfl
 | cons x l ih=>
  intro vs hx
  unfold u7 at hx
  cases h1:bx f x with
  | none=>rw [h1] at hx; cases hx
  | some v=>
   cases h2:u7 f l with
   | none=>rw [h1,h2] at hx; cases hx
   | some ws=>rw [h1,h2] at hx; cases hx; rw [List.map_cons,bL h h1,ih h2]
theorem bc {r:NV} {f:Fr} {t:Nat} {v:Value} (h:cf r f):cf (AT r t v) ((t,v) :: f):=by
 intro s u hs
 unfold look at hs
 unfold AT
 cases hb:Nat.beq s t with
 | true=>rw [hb] at hs; cases hs; rfl
 | false=>rw [hb] at hs; exact h s u hs
theorem xZ {r:NV}:cf r []:=fun _ _ h=>nomatch h
inductive qb (f:Fr):Fr→Prop
 | nil:qb f []
 | cons {t:Nat} {v:Value} {g:Fr} (h:look f t=some v) (k:qb f g):qb f ((t,v) :: g)
theorem qb.sound {r:NV} {f g:Fr} (h:qb f g) (ha:cf r f):cf r g:=by
 induction h with
 | nil=>exact xZ
 | cons h _ ih=>
  intro s u hs
  unfold look at hs
  cases hb:Nat.beq s _ with
  | true=>rw [hb] at hs; cases hs; rw [Nat.eq_of_beq_eq_true hb]; exact ha _ _ h
  | false=>rw [hb] at hs; exact ih s u hs
inductive ay:Type 1
 | own {α:Type} (T:ag α) (v:Value) (x:α)
 | om {α:Type} (e:TI) (E:ag α) (v:Value) (xs:List α)
 | row (b:Nat) (cs:LV) (e:TI)
 | rd (o:Bool) {α:Type} (T:ag α) (v:Value) (x:α)
 | ad (o1 o2:Bool) (v:Value) (j:Int) {α:Type} (T:ag α) (x:α)
 | aw (p:Addr) (cs:LV)
 | hd (v:Value) (j:Int) (u:Value)
 | dn (e:TI) {α:Type} (E:ag α) (v:Value) (xs:List α) (j:Int) (u:Value)
abbrev QE:=List ay
def tA:Value→Nat
 | .slice _ n _=>n
 | _=>0
def rK (o:Bool) (Z:Nat→Prop) (cur:LN) (b:Nat):Prop:=match o with | true=>b∈cur | false=>Z b
def fact (Z:Nat→Prop) (w:World) (cur:LN):ay→Prop
 | .rd o T v x=>∃ g,T.rep w.heap [v] x g∧∀ b∈g,rK o Z cur b
 | .ad o1 o2 v j T x=>0≤j∧j.toNat < tA v∧∃ u g,w.cell? (ep v 1 j)=some u∧T.rep w.heap [u] x g∧rK o1 Z cur (ep v 1 j).block∧∀ b∈g,rK o2 Z cur b
 | .aw p cs=>At w p cs∧(cs≠[]→Z p.block)
 | .hd v j u=>0≤j∧j.toNat < tA v∧w.cell? (ep v 1 j)=some u∧(ep v 1 j).block∈cur
 | _=>False
def EB {α:Type} (e:TI) (E:ag α) (v:Value) (xs:List α) (j:Int) (u:Value) (h:Array Obj) (f:LN):Prop:=
 (∀ b∈f,b < h.size)∧∀ h':Array Obj,(∀ b∈f,h'[b]? = h[b]?)→∀ z' k',E.rep h' [u] z' k'→∃ f',f'.Perm (f++k')∧(aI e E).rep h' [v] (xs.set j.toNat z') f'
theorem EB.cw {α:Type} {e:TI} {E:ag α} {v:Value} {xs:List α} {j:Int} {u:Value} {h h2:Array Obj} {f:LN} (hh:EB e E v xs j u h f) (hb:∀ b∈f,h2[b]? = h[b]?) (hs:h.size≤h2.size):EB e E v xs j u h2 f:=
 ⟨fun b hm=>Nat.lt_of_lt_of_le (hh.1 b hm) hs,fun h' cb z' k' hr=>hh.2 h' (fun b hm=>(cb b hm).trans (hb b hm)) z' k' hr⟩
theorem EC {α:Type} {E:ag α} {w:World} {e:TI} {v u:Value} {xs:List α} {f:LN} {j:Int} {z:α} (h1:E.size=1) (hO:(aI e E).rep w.heap [v] xs f) (hz:xs[j.toNat]? = some z) (hu:w.cell? (ep v 1 j)=some u) :
  ∃ k g,E.rep w.heap [u] z k∧(k++g).Perm f∧EB e E v xs j u w.heap g:=by
 obtain ⟨base,cap,hv,hr⟩:=hO
 obtain rfl:v = .slice base xs.length cap:=by simpa using hv
 have bj:j.toNat < xs.length:=(List.getElem?_eq_some_iff.1 hz).1
 rcases hr with ⟨_,_,rfl,_⟩ | ⟨b,cur,f0,rfl,hg,rfl,ED,zg,vm,ew⟩
 ·simp at bj
 ·rw [h1,Nat.mul_one] at vm ew
  have B0:ep (.slice (some ⟨b,0,none⟩) xs.length cap) 1 j = ⟨b,j.toNat,none⟩:=by
   simp only [ep,iy,Nat.zero_add,Nat.mul_one]
  rw [B0,cell_of_row w b _ cur e _ hg] at hu
  have UF:∀ i∈f0,i < w.heap.size:=j8 ew
  have YF:b < w.heap.size:=(Array.getElem?_eq_some_iff.1 hg).1
  obtain ⟨c,g0,g1,g2,p,q,B1,hc,hp,vn,xe⟩:=zh j.toNat z ew hz
  subst B1
  rw [h1,Nat.mul_one] at hp
  have B2:c.length=1:=by rw [E.len vn,h1]
  obtain ⟨c0,rfl⟩ : ∃ c0,c=[c0]:=by match c,B2 with | [c0],_=>exact ⟨c0,rfl⟩
  have YG:c0=u:=by
   have h2:(cur.toList.take xs.length)[j.toNat]? = some c0:=by
    rw [hc,List.append_assoc,List.getElem?_append_right (by omega),hp,Nat.sub_self]; rfl
   rw [List.getElem?_take,if_pos bj,Array.getElem?_toList,hu] at h2
   exact (Option.some.inj h2).symm
  subst YG
  refine ⟨g1,b :: (g0++g2),vn,?_,⟨fun i hi=>?_,fun h' hb z' k' hr=>⟨b :: (g0++k'++g2),?_,⟨_,cap,by rw [List.length_set],.inr ⟨b,cur,g0++k'++g2,rfl,(hb b (by simp)).trans hg,rfl,by rw [List.length_set]; exact ED,zg,by simpa [h1] using vm,?_⟩⟩⟩⟩⟩
  ·refine (List.perm_append_comm (l₁:=g1) (l₂:=b :: (g0++g2))).trans ?_
   rw [List.cons_append]
   refine List.Perm.cons b ?_
   rw [List.append_assoc,List.append_assoc]
   exact List.Perm.append_left g0 List.perm_append_comm
  ·rcases List.mem_cons.1 hi with rfl | hi
   ·exact YF
   ·exact UF i (by rcases List.mem_append.1 hi with hi | hi <;> simp [hi])
  ·rw [List.cons_append]
   refine List.Perm.cons b ?_
   rw [List.append_assoc,List.append_assoc]
   exact List.Perm.append_left g0 List.perm_append_comm
  ·rw [List.length_set,h1,Nat.mul_one,hc]
   exact xe h' [c0] z' k' (fun i hi=>hb i (by simp [hi])) (fun i hi=>hb i (by simp [hi])) hr
def lh (Z:Nat→Prop) (w:World) (f:LN):ay→Prop
 | .own T v x=>T.rep w.heap [v] x f
 | .om e E v xs=>∃ us g,(aI e nh).rep w.heap [v] us f∧db E w.heap us xs g∧(∀ b∈g,Z b)∧E.size=1
 | .row b cs e=>f=[b]∧Row w b cs e
 | .dn e E v xs j u=>EB e E v xs j u w.heap f
 | _=>False
def SA (Z:Nat→Prop) (w:World):List ay→List Nat→List Nat→Prop
 | [],_,F=>F=[]
 | .own T v x :: Γ,_,F=>∃ f F',F=f++F'∧lh Z w f (.own T v x)∧SA Z w Γ f F'
 | .om e E v xs :: Γ,_,F=>∃ f F',F=f++F'∧lh Z w f (.om e E v xs)∧SA Z w Γ f F'
 | .row b cs e :: Γ,cur,F=>∃ f F',F=f++F'∧lh Z w f (.row b cs e)∧SA Z w Γ cur F'
 | .rd o T v x :: Γ,cur,F=>fact Z w cur (.rd o T v x)∧SA Z w Γ cur F
 | .ad o1 o2 v j T x :: Γ,cur,F=>fact Z w cur (.ad o1 o2 v j T x)∧SA Z w Γ cur F
 | .aw p cs :: Γ,cur,F=>fact Z w cur (.aw p cs)∧SA Z w Γ cur F
 | .hd v j u :: Γ,cur,F=>fact Z w cur (.hd v j u)∧SA Z w Γ cur F
 | .dn e E v xs j u :: Γ,_,F=>∃ f F',F=f++F'∧lh Z w f (.dn e E v xs j u)∧SA Z w Γ f F'
section
variable {Z Z':Nat→Prop} {w w':World} {cur cy F f H:LN} {Γ Γ' Γ1 Γ2 Δ:QE} {e:ay}
theorem rK.mono {o:Bool} {b:Nat} (hz:∀ b,Z b→Z' b) (hc:∀ b∈cur,b∈cy) (h:rK o Z cur b):rK o Z' cy b:=by
 cases o
 ·exact hz b h
 ·exact hc b h
theorem fact.mono (hz:∀ b,Z b→Z' b) (hc:∀ b∈cur,b∈cy) (h:fact Z w cur e):fact Z' w cy e:=by
 cases e with
 | rd o T v x=>obtain ⟨g,h1,h2⟩:=h; exact ⟨g,h1,fun b hb=>(h2 b hb).mono hz hc⟩
 | ad o1 o2 v j T x=>obtain ⟨j0,j1,u,g,h1,h2,h3,h4⟩:=h; exact ⟨j0,j1,u,g,h1,h2,h3.mono hz hc,fun b hb=>(h4 b hb).mono hz hc⟩
 | aw p cs=>exact ⟨h.1,fun hn=>hz _ (h.2 hn)⟩
 | hd v j u=>exact ⟨h.1,h.2.1,h.2.2.1,hc _ h.2.2.2⟩
 | _=>exact h.elim
theorem lh.mono (hz:∀ b,Z b→Z' b) (h:lh Z w f e):lh Z' w f e:=by
 cases e with
 | om e E v xs=>obtain ⟨us,g,h1,h2,h3,h4⟩:=h; exact ⟨us,g,h1,h2,fun b hb=>hz b (h3 b hb),h4⟩
 | _=>exact h
theorem SA.mono (hz:∀ b,Z b→Z' b):∀ {Γ:QE} {cur cy F:LN},(∀ b∈cur,b∈cy)→SA Z w Γ cur F→SA Z' w Γ cy F:=by
 intro Γ
 induction Γ with
 | nil=>intro cur cy F hc h; exact h
 | cons e Γ ih=>
  intro cur cy F hc h
  cases e with
  | own T v x=>obtain ⟨f,F',h1,h2,h3⟩:=h; exact ⟨f,F',h1,h2.mono hz,ih (fun _ h=>h) h3⟩
  | om e E v xs=>obtain ⟨f,F',h1,h2,h3⟩:=h; exact ⟨f,F',h1,h2.mono hz,ih (fun _ h=>h) h3⟩
  | row b cs e=>obtain ⟨f,F',h1,h2,h3⟩:=h; exact ⟨f,F',h1,h2.mono hz,ih hc h3⟩
  | rd o T v x=>exact ⟨h.1.mono hz hc,ih hc h.2⟩
  | ad o1 o2 v j T x=>exact ⟨h.1.mono hz hc,ih hc h.2⟩
  | aw p cs=>exact ⟨h.1.mono hz hc,ih hc h.2⟩
  | hd v j u=>exact ⟨h.1.mono hz hc,ih hc h.2⟩
  | dn e E v xs j u=>obtain ⟨f,F',h1,h2,h3⟩:=h; exact ⟨f,F',h1,h2,ih (fun _ h=>h) h3⟩
theorem SA.any (h:SA Z w Γ [] F):SA Z w Γ cur F:=SA.mono (cur:=[]) (fun _ h=>h) (fun b (hb:b∈([]:LN))=>absurd hb List.not_mem_nil) h
theorem rK.out {o:Bool} {b:Nat} (hz:∀ b∈H,¬ Z b) (hc:∀ b∈H,b ∉ cur) (h:rK o Z cur b):b ∉ H:=by
 cases o
 ·exact fun hb=>hz b hb h
 ·exact fun hb=>hc b hb h
theorem fact.cw (hC:ao H w w') (hz:∀ b∈H,¬ Z b) (hc:∀ b∈H,b ∉ cur) (h:fact Z w cur e):fact Z w' cur e:=by
 cases e with
 | rd o T v x=>obtain ⟨g,h1,h2⟩:=h; exact ⟨g,T.cw h1 hC fun b hb=>(h2 b hb).out hz hc,h2⟩
 | ad o1 o2 v j T x=>obtain ⟨j0,j1,u,g,h1,h2,h3,h4⟩:=h; exact ⟨j0,j1,u,g,hC.cell (h3.out hz hc) h1,T.cw h2 hC fun b hb=>(h4 b hb).out hz hc,h3,h4⟩
 | aw p cs=>
  refine ⟨?_,h.2⟩
  cases cs with
  | nil=>intro j u hj; simp at hj
  | cons c cs=>exact h.1.cw hC fun hb=>hz _ hb (h.2 (by simp))
 | hd v j u=>exact ⟨h.1,h.2.1,hC.cell (fun hb=>hc _ hb h.2.2.2) h.2.2.1,h.2.2.2⟩
 | _=>exact h.elim
theorem lh.cw (hC:ao H w w') (hz:∀ b∈H,¬ Z b) (hf:∀ b∈H,b ∉ f) (h:lh Z w f e):lh Z w' f e:=by
 cases e with
 | own T v x=>exact T.cw h hC fun b hb hm=>hf b hm hb
 | om e E v xs=>
  obtain ⟨us,g,h1,h2,h3,h4⟩:=h
  exact ⟨us,g,(aI e nh).cw h1 hC fun b hb hm=>hf b hm hb,fx h2 fun b hb=>hC.block b (j8 h2 b hb) fun hm=>hz b hm (h3 b hb),h3,h4⟩
 | row b cs e=>obtain ⟨rfl,h2⟩:=h; exact ⟨rfl,h2.cw hC fun hm=>hf b hm (by simp)⟩
 | dn e E v xs j u=>exact EB.cw h (fun b hb=>hC.block b (h.1 b hb) fun hm=>hf b hm hb) hC.size
 | _=>exact h.elim
theorem SA.cw (hC:ao H w w') (hz:∀ b∈H,¬ Z b):∀ {Γ:QE} {cur F:LN},(∀ b∈H,b ∉ cur)→(∀ b∈H,b ∉ F)→SA Z w Γ cur F→SA Z w' Γ cur F:=by
 intro Γ
 induction Γ with
 | nil=>intro cur F hc hF h; exact h
 | cons e Γ ih=>
  intro cur F hc hF h
  cases e with
  | own T v x=>
   obtain ⟨f,F',rfl,h2,h3⟩:=h
   have a1:∀ b∈H,b ∉ f:=fun b hb hm=>hF b hb (List.mem_append_left _ hm)
   have a2:∀ b∈H,b ∉ F':=fun b hb hm=>hF b hb (List.mem_append_right _ hm)
   exact ⟨f,F',rfl,h2.cw hC hz a1,ih a1 a2 h3⟩
  | om e E v xs=>
   obtain ⟨f,F',rfl,h2,h3⟩:=h
   have a1:∀ b∈H,b ∉ f:=fun b hb hm=>hF b hb (List.mem_append_left _ hm)
   have a2:∀ b∈H,b ∉ F':=fun b hb hm=>hF b hb (List.mem_append_right _ hm)
   exact ⟨f,F',rfl,h2.cw hC hz a1,ih a1 a2 h3⟩
  | row b cs e=>
   obtain ⟨f,F',rfl,h2,h3⟩:=h
   have a1:∀ b∈H,b ∉ f:=fun b hb hm=>hF b hb (List.mem_append_left _ hm)
   have a2:∀ b∈H,b ∉ F':=fun b hb hm=>hF b hb (List.mem_append_right _ hm)
   exact ⟨f,F',rfl,h2.cw hC hz a1,ih hc a2 h3⟩
  | rd o T v x=>exact ⟨h.1.cw hC hz hc,ih hc hF h.2⟩
  | ad o1 o2 v j T x=>exact ⟨h.1.cw hC hz hc,ih hc hF h.2⟩
  | aw p cs=>exact ⟨h.1.cw hC hz hc,ih hc hF h.2⟩
  | hd v j u=>exact ⟨h.1.cw hC hz hc,ih hc hF h.2⟩
  | dn e E v xs j u=>
   obtain ⟨f,F',rfl,h2,h3⟩:=h
   have a1:∀ b∈H,b ∉ f:=fun b hb hm=>hF b hb (List.mem_append_left _ hm)
   have a2:∀ b∈H,b ∉ F':=fun b hb hm=>hF b hb (List.mem_append_right _ hm)
   exact ⟨f,F',rfl,h2.cw hC hz a1,ih a1 a2 h3⟩
theorem SA.iq (hC:ao [] w w') (h:SA Z w Γ cur F):SA Z w' Γ cur F:=h.cw hC (fun _ h=>nomatch h) (fun _ h=>nomatch h) (fun _ h=>nomatch h)
theorem lh.lt (h:lh Z w f e):∀ b∈f,b < w.heap.size:=by
 cases e with
 | own T v x=>exact T.lt h
 | om e E v xs=>obtain ⟨us,g,h1,h2,h3,h4⟩:=h; exact ag.lt _ h1
 | row b cs e=>obtain ⟨rfl,h2⟩:=h; exact Oa h2.lt
 | dn e E v xs j u=>exact h.1
 | _=>exact h.elim
theorem SA.lt:∀ {Γ:QE} {cur F:LN},SA Z w Γ cur F→∀ b∈F,b < w.heap.size:=by
 intro Γ
 induction Γ with
 | nil=>intro cur F h b hb; rw [h] at hb; cases hb
 | cons e Γ ih=>
  intro cur F h
  cases e with
  | own T v x=>obtain ⟨f,F',rfl,h2,h3⟩:=h; exact fun b hb=>(List.mem_append.1 hb).elim (h2.lt b) (ih h3 b)
  | om e E v xs=>obtain ⟨f,F',rfl,h2,h3⟩:=h; exact fun b hb=>(List.mem_append.1 hb).elim (h2.lt b) (ih h3 b)
  | row b cs e=>obtain ⟨f,F',rfl,h2,h3⟩:=h; exact fun b hb=>(List.mem_append.1 hb).elim (h2.lt b) (ih h3 b)
  | rd o T v x=>exact ih h.2
  | ad o1 o2 v j T x=>exact ih h.2
  | aw p cs=>exact ih h.2
  | hd v j u=>exact ih h.2
  | dn e E v xs j u=>obtain ⟨f,F',rfl,h2,h3⟩:=h; exact fun b hb=>(List.mem_append.1 hb).elim (h2.lt b) (ih h3 b)
theorem SA.cons (h:SA Z w Γ [] F) (ho:lh Z w f e):SA Z w (e :: Γ) [] (f++F):=by
 cases e with
 | own T v x=>exact ⟨f,F,rfl,ho,h.any⟩
 | om e E v xs=>exact ⟨f,F,rfl,ho,h.any⟩
 | row b cs e=>exact ⟨f,F,rfl,ho,h⟩
 | dn e E v xs j u=>exact ⟨f,F,rfl,ho,h.any⟩
 | _=>exact ho.elim
theorem SA.fact (h:SA Z w Γ [] F) (hf:fact Z w [] e):SA Z w (e :: Γ) [] F:=by
 cases e with
 | own T v x=>exact hf.elim
 | om e E v xs=>exact hf.elim
 | row b cs e=>exact hf.elim
 | dn e E v xs j u=>exact hf.elim
 | _=>exact ⟨hf,h⟩
end
def LD (h:Array Obj) (a:Addr):Option Value:=match h[a.block]? with
 | some (.cells c _ _)=>if a.spot.isSome then none else c[a.off]?
 | _=>none
def kn {α:Type} (A:ag α):ag α where
 size:=1
 rep h cs x f:=∃ p ic g,cs=[.pointer (some p)]∧p.block < h.size∧(∀ j u,ic[j]? = some u→LD h (p.add j)=some u)∧A.rep h ic x g∧f=p.block :: g
 len:=by rintro h cs x f ⟨p,ic,g,rfl,_⟩; rfl
 one:=by rintro h cs x f ⟨p,ic,g,rfl,_⟩ v hv; simp at hv; subst hv; rfl
 congr:=by
  rintro h h' cs x f ⟨p,ic,g,rfl,h1,h2,h3,rfl⟩ hb
  have hp:=hb p.block (by simp)
  refine ⟨p,ic,g,rfl,?_,fun j u hj=>?_,A.congr h3 fun b hm=>hb b (by simp [hm]),rfl⟩
  ·rw [Array.getElem?_eq_getElem h1] at hp
   exact (Array.getElem?_eq_some_iff.1 hp).1
  ·rw [← h2 j u hj]
   unfold LD
   rw [xf,hp]
 lt:=by
  rintro h cs x f ⟨p,ic,g,rfl,h1,h2,h3,rfl⟩ b hb
  rcases List.mem_cons.1 hb with rfl | hb
  ·exact h1
  ·exact A.lt h3 b hb
class Dt {α:Type} (B:ag α):Prop where
 tB:∀ {h:Array Obj} {cs:LV} {x y:α} {f g:LN},B.rep h cs x f→B.rep h cs y g→x=y
def rO {α:Type} (S:ag α):ag α where
 size:=S.size
 rep h cs x f:=True∧S.rep h cs x f
 len:=fun h=>S.len h.2
 one:=fun h=>S.one h.2
 congr:=fun h hb=>⟨trivial,S.congr h.2 hb⟩
 lt:=fun h=>S.lt h.2
theorem Le.str {α:Type} {S:ag α}:Le S (rO S):=⟨rfl,fun h=>⟨trivial,h⟩⟩
def xg {α:Type} (R:Value→α→Prop) (E:ag α):ag α where
 size:=E.size
 rep h cs x f:=(∃ v,cs=[v]∧R v x)∧E.rep h cs x f
 len:=fun h=>E.len h.2
 one:=fun h=>E.one h.2
 congr:=fun h hb=>⟨h.1,E.congr h.2 hb⟩
 lt:=fun h=>E.lt h.2
def cn {α β:Type} (A:ag α) (B:ag β):ag (α×β) where
 size:=A.size+B.size
 rep h cs x f:=∃ c1 c2 f1 f2,cs=c1++c2∧f=f1++f2∧A.rep h c1 x.1 f1∧B.rep h c2 x.2 f2
 len:=by rintro h cs x f ⟨c1,c2,f1,f2,rfl,rfl,h1,h2⟩; rw [List.length_append,A.len h1,B.len h2]
 one:=by
  rintro h cs x f ⟨c1,c2,f1,f2,rfl,rfl,h1,h2⟩ v hv
  rcases List.mem_append.1 hv with hv | hv
  ·exact A.one h1 v hv
  ·exact B.one h2 v hv
 congr:=by
  rintro h h' cs x f ⟨c1,c2,f1,f2,rfl,rfl,h1,h2⟩ hb
  exact ⟨c1,c2,f1,f2,rfl,rfl,A.congr h1 fun b hm=>hb b (List.mem_append_left _ hm),B.congr h2 fun b hm=>hb b (List.mem_append_right _ hm)⟩
 lt:=by
  rintro h cs x f ⟨c1,c2,f1,f2,rfl,rfl,h1,h2⟩ b hb
  rcases List.mem_append.1 hb with hb | hb
  ·exact A.lt h1 b hb
  ·exact B.lt h2 b hb
def vR {α β:Type} (g:β→α) (A:ag α):ag β where
 size:=A.size
 rep h cs y f:=A.rep h cs (g y) f
 len:=A.len
 one:=A.one
 congr:=A.congr
 lt:=A.lt
class YH {α:Type} (A:ag α) (B:outParam (ag α)):Prop where
 le:Le A B
 tB:Dt B
theorem Le.pair {α β:Type} {A A':ag α} {B B':ag β} (h:Le A A') (k:Le B B'):Le (cn A B) (cn A' B'):=
 ⟨show A.size+B.size=A'.size+B'.size by rw [h.size,k.size],by rintro h' cs x f ⟨c1,c2,f1,f2,e1,e2,h1,h2⟩; exact ⟨c1,c2,f1,f2,e1,e2,h.le h1,k.le h2⟩⟩
theorem Le.map {α β:Type} {g:β→α} {A A':ag α} (h:Le A A'):Le (vR g A) (vR g A'):=⟨h.size,fun hr=>h.le hr⟩
inductive RT:{α:Type}→ag α→ag α→Prop
 | i {k:IntKind}:RT (aJ k) (aJ k)
 | b:RT uy uy
 | own {α:Type} {e:TI} {A B:ag α} (h:RT A B):RT (aI e A) (bE B)
 | EE {α:Type} {A B:ag α} (h:RT A B):RT (bE A) (bE B)
 | ptr {α:Type} {A:ag α} [hd:Dt A]:RT (kn A) (kn A)
 | str {α:Type} {A:ag α} [hd:Dt A]:RT (rO A) (rO A)
 | Tz {α:Type} {R:Value→α→Prop} {A B:ag α} (h:RT A B):RT (xg R A) (xg R A)
 | TA {α:Type} {R:Value→α→Prop} {A B:ag α} (h:RT A B):RT (xg R A) B
 | TB {α:Type} {A B:ag α} [hs:YH A B]:RT A (rO B)
theorem RT.le {α:Type} {A B:ag α} (h:RT A B):Le A B:=by
 induction h with
 | i=>exact Le.refl _
 | b=>exact Le.refl _
 | own _ ih=>exact Le.own ih _
 | EE _ ih=>exact Le.EE ih
 | ptr=>exact Le.refl _
 | str=>exact Le.refl _
 | TB=>rename_i hs; exact ⟨hs.le.size,fun h=>⟨trivial,hs.le.le h⟩⟩
 | Tz _ _=>exact Le.refl _
 | TA _ ih=>exact ⟨ih.size,fun h=>ih.le h.2⟩
theorem Js {α:Type} {E:ag α} (hE:∀ {h:Array Obj} {cs:LV} {x y:α} {f g:LN},E.rep h cs x f→E.rep h cs y g→x=y) {h:Array Obj}:∀ {xs ys:List α} {cs:LV} {f g:LN},xs.length=ys.length→db E h cs xs f→db E h cs ys g→xs=ys:=by
 intro xs
 induction xs with
 | nil=>intro ys cs f g hl _ _; cases ys with
  | nil=>rfl
  | cons y ys=>cases hl
 | cons x xs ih=>
  intro ys cs f g hl h1 h2
  cases ys with
  | nil=>cases hl
  | cons y ys=>
   obtain ⟨c,ic,f1,f2,rfl,rfl,a1,a2⟩:=h1
   obtain ⟨d,YI,g1,g2,e1,rfl,b1,b2⟩:=h2
   obtain ⟨rfl,rfl⟩:=List.append_inj e1 ((E.len a1).trans (E.len b1).symm)
   rw [hE a1 b1,ih (by simpa using hl) a2 b2]
theorem Ag {α:Type} {B:ag α} (ih:∀ {h:Array Obj} {cs:LV} {x y:α} {f g:LN},B.rep h cs x f→B.rep h cs y g→x=y) {h:Array Obj} {cs:LV} {x y:List α} {f g:LN} (h1:(bE B).rep h cs x f) (h2:(bE B).rep h cs y g):x=y:=by
 obtain ⟨base,cap,rfl,a⟩:=h1
 obtain ⟨Sm,UG,e,b⟩:=h2
 simp only [List.cons.injEq,Value.slice.injEq,and_true] at e
 obtain ⟨rfl,hl,rfl⟩:=e
 rcases a with ⟨rfl,_⟩ | ⟨b1,off,cr,e,fz,f',rfl,a2,rfl,_,a3⟩
 ·exact (List.eq_nil_of_length_eq_zero hl.symm).symm
 ·rcases b with ⟨rfl,_⟩ | ⟨EG,afz,TC,e',fz',g',e1,c2,rfl,_,c3⟩
  ·exact List.eq_nil_of_length_eq_zero hl
  ·cases e1
   rw [a2] at c2
   cases c2
   rw [hl] at a3
   exact Js ih hl a3 c3
theorem MZ {α:Type} {A:ag α} [hd:Dt A] {h:Array Obj} {cs:LV} {x y:α} {f g:LN} (h1:(kn A).rep h cs x f) (h2:(kn A).rep h cs y g):x=y:=by
 obtain ⟨p,c1,g1,rfl,_,a1,a2,rfl⟩:=h1
 obtain ⟨q,c2,g2,e,_,b1,b2,rfl⟩:=h2
 cases e
 have hl:c1.length=c2.length:=(A.len a2).trans (A.len b2).symm
 have he:c1=c2:=by
  refine List.ext_getElem hl fun j hj hk=>?_
  exact Option.some.inj ((a1 j _ (List.getElem?_eq_getElem hj)).symm.trans (b1 j _ (List.getElem?_eq_getElem hk)))
 subst he
 exact hd.tB a2 b2
instance Dt.i {k:IntKind}:Dt (aJ k):=⟨by rintro h cs x y f g ⟨rfl,_⟩ ⟨e,_⟩; cases e; rfl⟩
instance Dt.b:Dt uy:=⟨by rintro h cs x y f g ⟨rfl,_⟩ ⟨e,_⟩; cases e; rfl⟩
instance Dt.s {α:Type} {B:ag α} [hb:Dt B]:Dt (bE B):=⟨Ag hb.tB⟩
theorem RT.tB {α:Type} {A B:ag α} (h:RT A B):∀ {h:Array Obj} {cs:LV} {x y:α} {f g:LN},B.rep h cs x f→B.rep h cs y g→x=y:=by
 induction h with
 | i=>exact Dt.i.tB
 | b=>exact Dt.b.tB
 | own _ ih=>exact Ag ih
 | EE _ ih=>exact Ag ih
 | ptr=>exact MZ
 | @str α A hd=>exact fun h1 h2=>hd.tB h1.2 h2.2
 | TB=>rename_i hs; exact fun h1 h2=>hs.tB.tB h1.2 h2.2
 | Tz h ih=>exact fun h1 h2=>ih (h.le.le h1.2) (h.le.le h2.2)
 | TA _ ih=>exact ih
def Ah (Z:Nat→Prop) (w:World) (cur:LN) (o1 o2:Bool) {α:Type} (E:ag α) (v:Value) (xs:List α):Prop:=
 (∃ g,(bE E).rep w.heap [v] xs g∧∀ b∈g,rK o1 Z cur b∨rK o2 Z cur b)∧(E.size=1→∀ (j:Int) (y:α),0≤j→xs[j.toNat]? = some y→fact Z w cur (.ad o1 o2 v j E y))
inductive qw:List ay→Value→Bool→Bool→{α:Type}→ag α→List α→ay→List ay→Prop
 | nil {α:Type} {E:ag α} {e:ay} {Γ:QE}:qw Γ (.slice none 0 0) false false E [] e Γ
 | rd {o:Bool} {α:Type} {E:ag α} {T:ag (List α)} {v:Value} {x:List α} {e:ay} {Γ:QE} (h:RT T (bE E)):qw (.rd o T v x :: Γ) v o o E x e (.rd o T v x :: e :: Γ)
 | own {α:Type} {E:ag α} {T:ag (List α)} {v:Value} {x:List α} {e:ay} {Γ:QE} (h:RT T (bE E)):qw (.own T v x :: Γ) v true true E x e (.own T v x :: e :: Γ)
 | om {α:Type} {t:TI} {E E':ag α} {v:Value} {xs:List α} {e:ay} {Γ:QE} (h:RT E E'):qw (.om t E v xs :: Γ) v true false E' xs e (.om t E v xs :: e :: Γ)
 | there {o1 o2:Bool} {α:Type} {E:ag α} {v:Value} {x:List α} {e a:ay} {Γ Γ':QE} (h:qw Γ v o1 o2 E x e Γ'):qw (a :: Γ) v o1 o2 E x e (a :: Γ')
inductive sK:List ay→Addr→Bool→{α:Type}→ag α→α→ay→List ay→Prop
 | ad {o1 o2:Bool} {α:Type} {E:ag α} {v:Value} {j:Int} {x:α} {e:ay} {Γ:QE}:sK (.ad o1 o2 v j E x :: Γ) (ep v 1 j) o2 E x e (.ad o1 o2 v j E x :: e :: Γ)
 | there {o2:Bool} {α:Type} {E:ag α} {v:Addr} {x:α} {e a:ay} {Γ Γ':QE} (h:sK Γ v o2 E x e Γ'):sK (a :: Γ) v o2 E x e (a :: Γ')
inductive xh:List ay→Value→Int→Value→List ay→Prop
 | ad {o2:Bool} {α:Type} {E:ag α} {v u:Value} {j:Int} {x:α} {Γ:QE}:xh (.ad true o2 v j E x :: Γ) v j u (.ad true o2 v j E x :: .hd v j u :: Γ)
 | Ob {o2:Bool} {α:Type} {E:ag α} {v u:Value} {j:Int} {x:α} {Γ:QE}:xh (.ad false o2 v j E x :: Γ) v j u (.ad false o2 v j E x :: Γ)
 | there {v u:Value} {j:Int} {a:ay} {Γ Γ':QE} (h:xh Γ v j u Γ'):xh (a :: Γ) v j u (a :: Γ')
inductive rP:List ay→Addr→Value→Prop
 | row {b j:Nat} {cs:LV} {t:TI} {v:Value} {Γ:QE} (h:cs[j]? = some v):rP (.row b cs t :: Γ) ⟨b,j,none⟩ v
 | at {p:Addr} {j:Nat} {cs:LV} {v:Value} {Γ:QE} (h:cs[j]? = some v):rP (.aw p cs :: Γ) (p.add j) v
 | He {p:Addr} {cs:LV} {v:Value} {Γ:QE} (h:cs[0]? = some v):rP (.aw p cs :: Γ) p v
 | YJ {p:Addr} {i j:Nat} {cs:LV} {v:Value} {Γ:QE} (h:cs[i+j]? = some v) (hn:Nat.beq (i+j) 0=false):rP (.aw p cs :: Γ) ⟨p.block,p.off+i+j,none⟩ v
 | there {a:Addr} {v:Value} {e:ay} {Γ:QE} (h:rP Γ a v):rP (e :: Γ) a v
inductive ko:List ay→List ay→Prop
 | nil:ko [] []
 | B3 {α:Type} {T:ag α} {v:Value} {x:α} {Γ Γ':QE} (h:ko Γ Γ'):ko (.rd true T v x :: Γ) Γ'
 | Hf {α:Type} {T:ag α} {v:Value} {x:α} {Γ Γ':QE} (h:ko Γ Γ'):ko (.rd false T v x :: Γ) (.rd false T v x :: Γ')
 | YK {o:Bool} {v:Value} {j:Int} {α:Type} {T:ag α} {x:α} {Γ Γ':QE} (h:ko Γ Γ'):ko (.ad true o v j T x :: Γ) Γ'
 | Ob {v:Value} {j:Int} {α:Type} {T:ag α} {x:α} {Γ Γ':QE} (h:ko Γ Γ'):ko (.ad false false v j T x :: Γ) (.ad false false v j T x :: Γ')
 | aw {p:Addr} {cs:LV} {Γ Γ':QE} (h:ko Γ Γ'):ko (.aw p cs :: Γ) (.aw p cs :: Γ')
 | row {b:Nat} {cs:LV} {t:TI} {Γ Γ':QE} (h:ko Γ Γ'):ko (.row b cs t :: Γ) (.row b cs t :: Γ')
 | hd {v u:Value} {j:Int} {Γ Γ':QE} (h:ko Γ Γ'):ko (.hd v j u :: Γ) Γ'
 | dn {α:Type} {e:TI} {E:ag α} {v u:Value} {xs:List α} {j:Int} {Γ:QE}:ko (.dn e E v xs j u :: Γ) (.dn e E v xs j u :: Γ)
 | own {α:Type} {T:ag α} {v:Value} {x:α} {Γ:QE}:ko (.own T v x :: Γ) (.own T v x :: Γ)
 | om {α:Type} {t:TI} {E:ag α} {v:Value} {xs:List α} {Γ:QE}:ko (.om t E v xs :: Γ) (.om t E v xs :: Γ)
inductive dh:List ay→ay→List ay→Prop
 | nil {α:Type} {t:TI} {E:ag α} {Γ:QE}:dh Γ (.own (aI t E) (.slice none 0 0) []) Γ
 | own {α:Type} {T:ag α} {v:Value} {x:α} {Γ Γ':QE} (h:ko Γ Γ'):dh (.own T v x :: Γ) (.own T v x) Γ'
 | om {α:Type} {t:TI} {E:ag α} {v:Value} {xs:List α} {Γ Γ':QE} (h:ko Γ Γ'):dh (.om t E v xs :: Γ) (.om t E v xs) Γ'
 | YL {α:Type} {t:TI} {E:ag α} {Γ:QE} (h:E.size=1):dh Γ (.om t E (.slice none 0 0) []) Γ
 | YM {α β:Type} {t:TI} {E:ag α} {E':ag β} {v:Value} {Γ Γ':QE} (h1:E.size=1) (h2:E'.size=1) (h:ko Γ Γ'):dh (.own (aI t E) v [] :: Γ) (.om t E' v []) Γ'
 | row {b:Nat} {cs:LV} {t:TI} {Γ:QE}:dh (.row b cs t :: Γ) (.row b cs t) Γ
 | dn {α:Type} {e:TI} {E:ag α} {v u:Value} {xs:List α} {j:Int} {Γ Γ':QE} (h:ko Γ Γ'):dh (.dn e E v xs j u :: Γ) (.dn e E v xs j u) Γ'
 | there {e a:ay} {Γ Γ':QE} (h:dh Γ e Γ'):dh (a :: Γ) e (a :: Γ')
section
variable {Z:Nat→Prop} {w:World} {cur F:LN} {Γ Γ':QE} {e:ay} {α:Type} {E:ag α}
theorem B4 {o:Bool} {v:Value} {xs:List α} {g:LN} (h:(bE E).rep w.heap [v] xs g) (hg:∀ b∈g,rK o Z cur b):Ah Z w cur o o E v xs:=by
 refine ⟨⟨g,h,fun b hb=>.inl (hg b hb)⟩,fun h1 j y h0 hy=>?_⟩
 obtain ⟨u,k,hc,hr,hk⟩:=EH h1 h h0 hy
 have bj:j.toNat < xs.length:=(List.getElem?_eq_some_iff.1 hy).1
 have Oc:j.toNat < tA v:=by
  obtain ⟨base,cap,hv,_⟩:=h
  obtain rfl:v = .slice base xs.length cap:=by simpa using hv
  exact bj
 refine ⟨h0,Oc,u,k,hc,hr,?_,fun b hb=>hg b (hk b hb)⟩
 obtain ⟨base,cap,hv,hr⟩:=h
 obtain rfl:v = .slice base xs.length cap:=by simpa using hv
 rcases hr with ⟨rfl,_⟩ | ⟨b,off,cr,e,fz,f',rfl,_,rfl,_⟩
 ·simp at hy
 ·have:(ep (.slice (some ⟨b,off,none⟩) xs.length cap) 1 j).block=b:=by simp only [ep,iy]
  rw [this]; exact hg b (by simp)
theorem FU {t:TI} {v:Value} {xs:List α} {f:LN} (h:lh Z w f (.om t E v xs)):Ah Z w f true false E v xs:=by
 obtain ⟨us,g,ho,hr,hg,h1⟩:=h
 have TD:(bE E).rep w.heap [v] xs (f++g):=by
  obtain ⟨base,cap,hv,jd⟩:=ho
  have hl:us.length=xs.length:=by have:=ju hr; rw [h1,Nat.mul_one] at this; exact this
  refine ⟨base,cap,by rw [hv,hl],?_⟩
  rcases jd with ⟨rfl,rfl,rfl,rfl⟩ | ⟨b,cr,f',rfl,h2,rfl,h4,h5,h6,h3⟩
  ·cases xs with
   | nil=>obtain ⟨_,rfl⟩:=hr; exact .inl ⟨rfl,rfl⟩
   | cons x xs=>simp at hl
  ·obtain ⟨h7,rfl⟩:=vS h3
   refine .inr ⟨b,0,cr,t,(0,0),g,rfl,h2,rfl,hl ▸ h4,?_⟩
   rw [List.drop_zero,h1,Nat.mul_one,← hl]
   have h8:nh.size=1:=rfl
   rw [h8,Nat.mul_one] at h7
   rw [h7]
   exact hr
 refine ⟨⟨_,TD,fun b hb=>(List.mem_append.1 hb).elim .inl fun h=>.inr (hg b h)⟩,fun _ j y h0 hy=>?_⟩
 have hO:OM f 0 w t E v xs f g:=by
  refine ⟨us,⟨ho,?_,fun b hb=>.inl hb⟩,hr,h1⟩
  obtain ⟨base,cap,hv,jd⟩:=ho
  rcases jd with ⟨rfl,rfl,rfl,rfl⟩ | ⟨b,cr,f',rfl,h2,rfl,h4,h5,h6,h3⟩
  ·exact List.nodup_nil
  ·obtain ⟨h7,rfl⟩:=vS h3; simp
 obtain ⟨u,k,hc,YN,hk⟩:=OM.get hO h0 hy
 have bj:j.toNat < xs.length:=(List.getElem?_eq_some_iff.1 hy).1
 have Oc:j.toNat < tA v:=by
  obtain ⟨base,cap,hv,_⟩:=TD
  obtain rfl:v = .slice base xs.length cap:=by simpa using hv
  exact bj
 refine ⟨h0,Oc,u,k,hc,YN,?_,fun b hb=>hg b (hk b hb)⟩
 obtain ⟨base,cap,hv,jd⟩:=ho
 obtain rfl:v = .slice base us.length cap:=by simpa using hv
 rcases jd with ⟨rfl,rfl,rfl,rfl⟩ | ⟨b,cr,f',rfl,h2,rfl,h4,h5,h6,h3⟩
 ·cases xs with
  | nil=>simp at hy
  | cons x xs=>have:=ju hr; simp [h1] at this
 ·have:(ep (.slice (some ⟨b,0,none⟩) us.length cap) 1 j).block=b:=by simp only [ep,iy]
  show rK true Z _ _
  rw [this]; exact List.mem_cons_self
theorem Ah.le {o1 o2:Bool} {E':ag α} {v:Value} {xs:List α} (hl:Le E E') (h:Ah Z w cur o1 o2 E v xs):Ah Z w cur o1 o2 E' v xs:=by
 obtain ⟨⟨g,h1,h3⟩,h2⟩:=h
 refine ⟨⟨g,(Le.EE hl).le h1,h3⟩,fun hs j y h0 hy=>?_⟩
 obtain ⟨j0,j1,u,k,a,b,c,d⟩:=h2 (by rw [hl.size]; exact hs) j y h0 hy
 exact ⟨j0,j1,u,k,a,hl.le b,c,d⟩
theorem qw.sound {v:Value} {o1 o2:Bool} {xs:List α} (h:qw Γ v o1 o2 E xs e Γ'):∀ {cur F:LN},SA Z w Γ cur F→∃ cy,(∀ b∈cy,b∈cur∨b∈F)∧Ah Z w cy o1 o2 E v xs∧(fact Z w cy e→SA Z w Γ' cur F):=by
 induction h with
 | nil=>intro cur F h; exact ⟨[],(fun b (hb:b∈([]:LN))=>absurd hb List.not_mem_nil),B4 (o:=false) EI (fun _ h=>nomatch h),fun _=>h⟩
 | @rd o α E T v x e Γ h=>
  intro cur F hS
  obtain ⟨⟨g,h1,h2⟩,h3⟩:=hS
  refine ⟨cur,fun _ h=>.inl h,B4 (h.le.le h1) h2,fun he=>⟨⟨g,h1,h2⟩,?_⟩⟩
  cases e with
  | own T v x=>exact he.elim
  | om e E v xs=>exact he.elim
  | row b cs e=>exact he.elim
  | dn e E v xs j u=>exact he.elim
  | _=>exact ⟨he,h3⟩
 | @own α E T v x e Γ h=>
  intro cur F hS
  obtain ⟨f,F',h1,h2,h3⟩:=hS
  refine ⟨f,fun b hb=>.inr (by rw [h1]; exact List.mem_append_left _ hb),B4 (o:=true) (h.le.le h2) (fun b hb=>hb),fun he=>⟨f,F',h1,h2,?_⟩⟩
  cases e with
  | own T v x=>exact he.elim
  | om e E v xs=>exact he.elim
  | row b cs e=>exact he.elim
  | dn e E v xs j u=>exact he.elim
  | _=>exact ⟨he,h3⟩
 | @om α t E E' v xs e Γ h=>
  intro cur F hS
  obtain ⟨f,F',h1,h2,h3⟩:=hS
  refine ⟨f,fun b hb=>.inr (by rw [h1]; exact List.mem_append_left _ hb),(FU h2).le h.le,fun he=>⟨f,F',h1,h2,?_⟩⟩
  cases e with
  | own T v x=>exact he.elim
  | om e E v xs=>exact he.elim
  | row b cs e=>exact he.elim
  | dn e E v xs j u=>exact he.elim
  | _=>exact ⟨he,h3⟩
 | @there o1 o2 α E v x e a Γ Γ' h ih=>
  intro cur F hS
  cases a with
  | own T v x=>obtain ⟨f,F',h1,h2,h3⟩:=hS; obtain ⟨c,a0,a1,a2⟩:=ih h3; exact ⟨c,fun b hb=>.inr (by rw [h1]; exact List.mem_append.2 (a0 b hb)),a1,fun he=>⟨f,F',h1,h2,a2 he⟩⟩
  | om e E v xs=>obtain ⟨f,F',h1,h2,h3⟩:=hS; obtain ⟨c,a0,a1,a2⟩:=ih h3; exact ⟨c,fun b hb=>.inr (by rw [h1]; exact List.mem_append.2 (a0 b hb)),a1,fun he=>⟨f,F',h1,h2,a2 he⟩⟩
  | row b cs e=>obtain ⟨f,F',h1,h2,h3⟩:=hS; obtain ⟨c,a0,a1,a2⟩:=ih h3; exact ⟨c,fun b hb=>(a0 b hb).imp id fun h=>by rw [h1]; exact List.mem_append_right _ h,a1,fun he=>⟨f,F',h1,h2,a2 he⟩⟩
  | dn e E v xs j u=>obtain ⟨f,F',h1,h2,h3⟩:=hS; obtain ⟨c,a0,a1,a2⟩:=ih h3; exact ⟨c,fun b hb=>.inr (by rw [h1]; exact List.mem_append.2 (a0 b hb)),a1,fun he=>⟨f,F',h1,h2,a2 he⟩⟩
  | _=>obtain ⟨c,a0,a1,a2⟩:=ih hS.2; exact ⟨c,a0,a1,fun he=>⟨hS.1,a2 he⟩⟩
theorem sK.sound {v:Addr} {o:Bool} {x:α} (h:sK Γ v o E x e Γ'):∀ {cur F:LN},SA Z w Γ cur F→∃ cy,(∃ u g,w.cell? v=some u∧E.rep w.heap [u] x g∧∀ b∈g,rK o Z cy b)∧(fact Z w cy e→SA Z w Γ' cur F):=by
 induction h with
 | @ad o1 o2 α E v j x e Γ=>
  intro cur F hS
  obtain ⟨⟨j0,j1,u,g,h1,h2,h3,h4⟩,h5⟩:=hS
  refine ⟨cur,⟨u,g,h1,h2,h4⟩,fun he=>⟨⟨j0,j1,u,g,h1,h2,h3,h4⟩,?_⟩⟩
  cases e with
  | own T v x=>exact he.elim
  | om e E v xs=>exact he.elim
  | row b cs e=>exact he.elim
  | dn e E v xs j u=>exact he.elim
  | _=>exact ⟨he,h5⟩
 | @there o2 α E v x e a Γ Γ' h ih=>
  intro cur F hS
  cases a with
  | own T v x=>obtain ⟨f,F',h1,h2,h3⟩:=hS; obtain ⟨c,a1,a2⟩:=ih h3; exact ⟨c,a1,fun he=>⟨f,F',h1,h2,a2 he⟩⟩
  | om e E v xs=>obtain ⟨f,F',h1,h2,h3⟩:=hS; obtain ⟨c,a1,a2⟩:=ih h3; exact ⟨c,a1,fun he=>⟨f,F',h1,h2,a2 he⟩⟩
  | row b cs e=>obtain ⟨f,F',h1,h2,h3⟩:=hS; obtain ⟨c,a1,a2⟩:=ih h3; exact ⟨c,a1,fun he=>⟨f,F',h1,h2,a2 he⟩⟩
  | dn e E v xs j u=>obtain ⟨f,F',h1,h2,h3⟩:=hS; obtain ⟨c,a1,a2⟩:=ih h3; exact ⟨c,a1,fun he=>⟨f,F',h1,h2,a2 he⟩⟩
  | _=>obtain ⟨c,a1,a2⟩:=ih hS.2; exact ⟨c,a1,fun he=>⟨hS.1,a2 he⟩⟩
theorem xh.sound {v u:Value} {j:Int} (h:xh Γ v j u Γ'):∀ {cur F:LN},w.cell? (ep v 1 j)=some u→SA Z w Γ cur F→SA Z w Γ' cur F:=by
 induction h with
 | ad=>
  intro cur F hu hS
  obtain ⟨⟨j0,j1,u',g,h1,h2,h3,h4⟩,h5⟩:=hS
  exact ⟨⟨j0,j1,u',g,h1,h2,h3,h4⟩,⟨j0,j1,hu,h3⟩,h5⟩
 | Ob=>intro cur F _ hS; exact hS
 | @there v u j a Γ Γ' h ih=>
  intro cur F hu hS
  cases a with
  | own T v x=>obtain ⟨f,F',h1,h2,h3⟩:=hS; exact ⟨f,F',h1,h2,ih hu h3⟩
  | om e E v xs=>obtain ⟨f,F',h1,h2,h3⟩:=hS; exact ⟨f,F',h1,h2,ih hu h3⟩
  | row b cs e=>obtain ⟨f,F',h1,h2,h3⟩:=hS; exact ⟨f,F',h1,h2,ih hu h3⟩
  | dn e E v xs j u=>obtain ⟨f,F',h1,h2,h3⟩:=hS; exact ⟨f,F',h1,h2,ih hu h3⟩
  | _=>exact ⟨hS.1,ih hu hS.2⟩
theorem rP.sound {a:Addr} {v:Value} (h:rP Γ a v):∀ {cur F:LN},SA Z w Γ cur F→w.cell? a=some v:=by
 induction h with
 | row h=>rintro cur F ⟨f,F',h1,⟨_,h2⟩,h3⟩; have:=h2.at.cell h; rwa [iy,Nat.zero_add] at this
 | «at» h=>rintro cur F ⟨⟨h1,_⟩,_⟩; exact h1.cell h
 | He h=>rintro cur F ⟨⟨h1,_⟩,_⟩; exact h1.FW h
 | @YJ p i j cs v Γ h hn=>
  rintro cur F ⟨⟨h1,_⟩,_⟩
  have h2:=h1.cell h
  have hz : ¬ i+j=0:=fun h=>by rw [h] at hn; exact absurd hn (by decide)
  unfold Addr.add at h2
  rw [if_neg hz] at h2
  rwa [Nat.add_assoc]
 | @there a v e Γ h ih=>
  intro cur F hS
  cases e with
  | own T v x=>obtain ⟨f,F',h1,h2,h3⟩:=hS; exact ih h3
  | om e E v xs=>obtain ⟨f,F',h1,h2,h3⟩:=hS; exact ih h3
  | row b cs e=>obtain ⟨f,F',h1,h2,h3⟩:=hS; exact ih h3
  | dn e E v xs j u=>obtain ⟨f,F',h1,h2,h3⟩:=hS; exact ih h3
  | _=>exact ih hS.2
theorem ko.sound (h:ko Γ Γ'):∀ {cur cy F:LN},SA Z w Γ cur F→SA Z w Γ' cy F:=by
 induction h with
 | nil=>intro _ _ _ h; exact h
 | B3 _ ih=>intro _ _ _ h; exact ih h.2
 | Hf _ ih=>intro _ _ _ h; exact ⟨h.1,ih h.2⟩
 | YK _ ih=>intro _ _ _ h; exact ih h.2
 | Ob _ ih=>intro _ _ _ h; exact ⟨h.1,ih h.2⟩
 | aw _ ih=>intro _ _ _ h; exact ⟨h.1,ih h.2⟩
 | row _ ih=>rintro _ _ _ ⟨f,F',h1,h2,h3⟩; exact ⟨f,F',h1,h2,ih h3⟩
 | hd _ ih=>intro _ _ _ h; exact ih h.2
 | dn=>intro _ _ _ h; exact h
 | own=>intro _ _ _ h; exact h
 | om=>intro _ _ _ h; exact h
theorem dh.sound (h:dh Γ e Γ'):∀ {cur F:LN},SA Z w Γ cur F→∃ f F',(f++F').Perm F∧lh Z w f e∧SA Z w Γ' cur F':=by
 induction h with
 | nil=>intro cur F h; exact ⟨[],F,.refl _,Ak,h⟩
 | own h=>rintro cur F ⟨f,F',rfl,h2,h3⟩; exact ⟨f,F',.refl _,h2,h.sound h3⟩
 | om h=>rintro cur F ⟨f,F',rfl,h2,h3⟩; exact ⟨f,F',.refl _,h2,h.sound h3⟩
 | YL h=>intro cur F hs; exact ⟨[],F,.refl _,⟨[],[],Ak,⟨rfl,rfl⟩,(fun _ h=>absurd h List.not_mem_nil),h⟩,hs⟩
 | @YM α β t E E' v Γ Γ' h1 h2 h=>
  rintro cur F ⟨f,F',rfl,h3,h4⟩
  refine ⟨f,F',.refl _,⟨[],[],?_,⟨rfl,rfl⟩,(fun _ h=>absurd h List.not_mem_nil),h2⟩,h.sound h4⟩
  obtain ⟨base,cap,hv,hr⟩:=h3
  refine ⟨base,cap,hv,?_⟩
  rcases hr with ⟨a1,a2,a3,a4⟩ | ⟨b,cur,f',a1,a2,a3,a4,a5,a6,a7⟩
  ·exact .inl ⟨a1,a2,rfl,a4⟩
  ·obtain ⟨a8,rfl⟩:=a7
   exact .inr ⟨b,cur,[],a1,a2,a3,by simp,a5,by rw [a6,h1]; rfl,⟨by simp,rfl⟩⟩
 | row=>rintro cur F ⟨f,F',rfl,h2,h3⟩; exact ⟨f,F',.refl _,h2,h3⟩
 | dn h=>rintro cur F ⟨f,F',rfl,h2,h3⟩; exact ⟨f,F',.refl _,h2,h.sound h3⟩
 | @there e a Γ Γ' h ih=>
  intro cur F hS
  cases a with
  | own T v x=>
   obtain ⟨f,F',rfl,h2,h3⟩:=hS; obtain ⟨k,K,a1,a2,a3⟩:=ih h3
   exact ⟨k,f++K,(List.perm_append_comm_assoc k f K).trans (a1.append_left f),a2,f,K,rfl,h2,a3⟩
  | om e E v xs=>
   obtain ⟨f,F',rfl,h2,h3⟩:=hS; obtain ⟨k,K,a1,a2,a3⟩:=ih h3
   exact ⟨k,f++K,(List.perm_append_comm_assoc k f K).trans (a1.append_left f),a2,f,K,rfl,h2,a3⟩
  | row b cs e=>
   obtain ⟨f,F',rfl,h2,h3⟩:=hS; obtain ⟨k,K,a1,a2,a3⟩:=ih h3
   exact ⟨k,f++K,(List.perm_append_comm_assoc k f K).trans (a1.append_left f),a2,f,K,rfl,h2,a3⟩
  | dn e E v xs j u=>
   obtain ⟨f,F',rfl,h2,h3⟩:=hS; obtain ⟨k,K,a1,a2,a3⟩:=ih h3
   exact ⟨k,f++K,(List.perm_append_comm_assoc k f K).trans (a1.append_left f),a2,f,K,rfl,h2,a3⟩
  | _=>obtain ⟨k,K,a1,a2,a3⟩:=ih hS.2; exact ⟨k,K,a1,a2,hS.1,a3⟩
end
class SO {α:Type} (S:ag α) (V:outParam Type) (cl:outParam (α→V→List Value)) (en:outParam (α→V→List ay)):Prop where
 ne:∀ x v,cl x v≠[]
 op:∀ {w:World} {cs:LV} {x:α} {g:LN},S.rep w.heap cs x g→∃ v,cs=cl x v∧∀ Z:Nat→Prop,(∀ b∈g,Z b)→∀ e∈en x v,fact Z w [] e
 cl:∀ {w:World} {x:α} {v:V} {Z:Nat→Prop},(∀ e∈en x v,fact Z w [] e)→∃ g,S.rep w.heap (cl x v) x g∧∀ b∈g,Z b
theorem SO.i {k:IntKind}:SO (aJ k) Unit (fun x _=>[.int k x]) (fun _ _=>[]):=
 ⟨fun _ _=>by simp,fun h=>⟨(),h.1,fun _ _ e he=>absurd he List.not_mem_nil⟩,fun _=>⟨[],⟨rfl,rfl⟩,fun _ h=>absurd h List.not_mem_nil⟩⟩
theorem SO.s {α:Type} {E:ag α}:SO (bE E) Value (fun _ v=>[v]) (fun x v=>[.rd false (bE E) v x]):=by
 refine ⟨fun _ _=>by simp,fun {w cs x g} h=>?_,fun {w x v Z} h=>?_⟩
 ·obtain ⟨base,cap,rfl,hr⟩:=h
  exact ⟨_,rfl,fun Z hz e he=>by rw [List.mem_singleton.1 he]; exact ⟨g,⟨base,cap,rfl,hr⟩,hz⟩⟩
 ·obtain ⟨g,h1,h2⟩:=h _ (List.mem_singleton.2 rfl)
  exact ⟨g,h1,h2⟩
theorem SO.ip {β V:Type} {k:IntKind} {B:ag β} {cl:β→V→List Value} {en:β→V→List ay} (h:SO B V cl en):SO (cn (aJ k) B) V (fun x v=>.int k x.1 :: cl x.2 v) (fun x v=>en x.2 v):=by
 refine ⟨fun _ _=>by simp,fun {w cs x g} hr=>?_,fun {w x v Z} he=>?_⟩
 ·obtain ⟨c1,c2,f1,f2,rfl,rfl,⟨rfl,rfl⟩,h2⟩:=hr
  obtain ⟨v,rfl,hv⟩:=h.op h2
  exact ⟨v,rfl,hv⟩
 ·obtain ⟨g,h1,h2⟩:=h.cl he
  exact ⟨g,⟨[_],_,[],g,rfl,rfl,⟨rfl,rfl⟩,h1⟩,h2⟩
theorem SO.sp {α β V:Type} {E:ag α} {B:ag β} {cl:β→V→List Value} {en:β→V→List ay} (h:SO B V cl en):SO (cn (bE E) B) (Value×V) (fun x v=>v.1 :: cl x.2 v.2) (fun x v=>.rd false (bE E) v.1 x.1 :: en x.2 v.2):=by
 refine ⟨fun _ _=>by simp,fun {w cs x g} hr=>?_,fun {w x v Z} he=>?_⟩
 ·obtain ⟨c1,c2,f1,f2,rfl,rfl,h1,h2⟩:=hr
  obtain ⟨base,cap,rfl,AU⟩:=h1
  obtain ⟨v,rfl,hv⟩:=h.op h2
  refine ⟨(_,v),rfl,fun Z hz e he=>?_⟩
  rcases List.mem_cons.1 he with rfl | he
  ·exact ⟨f1,⟨base,cap,rfl,AU⟩,fun b hb=>hz b (List.mem_append_left _ hb)⟩
  ·exact hv Z (fun b hb=>hz b (List.mem_append_right _ hb)) e he
 ·obtain ⟨g1,a1,a2⟩:=he _ List.mem_cons_self
  obtain ⟨g,h1,h2⟩:=h.cl fun e hm=>he e (List.mem_cons_of_mem _ hm)
  exact ⟨g1++g,⟨[_],_,g1,g,rfl,rfl,a1,h1⟩,fun b hb=>(List.mem_append.1 hb).elim (a2 b) (h2 b)⟩
theorem SO.mp {α β V:Type} {f:β→α} {A:ag α} {cl:α→V→List Value} {en:α→V→List ay} (h:SO A V cl en):SO (vR f A) V (fun y v=>cl (f y) v) (fun y v=>en (f y) v):=
 ⟨fun y v=>h.ne (f y) v,fun hr=>h.op hr,fun he=>h.cl he⟩
instance Dt.p {α β:Type} {A:ag α} {B:ag β} [ha:Dt A] [hb:Dt B]:Dt (cn A B):=by
 refine ⟨fun {h cs x y f g} h1 h2=>?_⟩
 obtain ⟨c1,c2,f1,f2,rfl,rfl,a1,a2⟩:=h1
 obtain ⟨d1,d2,g1,g2,e,rfl,b1,b2⟩:=h2
 obtain ⟨rfl,rfl⟩:=List.append_inj e ((A.len a1).trans (A.len b1).symm)
 exact Prod.ext (ha.tB a1 b1) (hb.tB a2 b2)
theorem Dt.mp {α β:Type} {f:β→α} {A:ag α} [ha:Dt A] (hf:∀ x y,f x=f y→x=y):Dt (vR f A):=
 ⟨fun h1 h2=>hf _ _ (ha.tB h1 h2)⟩
end Go.Dk
namespace Go.Dk
open Go Go.Li
structure Bs where
 w:World
 Z:Nat→Prop
 G:List Nat
inductive HL (Z:Nat→Prop) (w:World):List ay→List Nat→Prop
 | nil:HL Z w [] []
 | own {e:ay} {f F:LN} {Δ:QE} (h:lh Z w f e) (k:HL Z w Δ F):HL Z w (e :: Δ) (f++F)
 | fact {e:ay} {F:LN} {Δ:QE} (h:fact Z w [] e) (k:HL Z w Δ F):HL Z w (e :: Δ) F
structure Gd (B:Bs) (Z:Nat→Prop) (F:LN) (w:World):Prop where
 nd:F.Nodup
 apart:∀ b∈F,¬ Z b
 qc:∀ b,Z b→b < w.heap.size
 low:∀ b∈F,b∈B.G∨B.w.heap.size≤b
 tC:∀ b,B.Z b→Z b
 tD:∀ b,Z b→B.Z b∨b∈B.G∨B.w.heap.size≤b
 iv:ao B.G B.w w
def St (B:Bs) (Γ:QE) (w:World):Prop:=∃ Z F,SA Z w Γ [] F∧Gd B Z F w
def Hg (B:Bs) (Δ:QE) (w:World):Prop:=∃ Z F,HL Z w Δ F∧Gd B Z F w
def qX:List Value→Value
 | [v]=>v
 | vs=>.tuple vs.toArray
def sd:List ay→Bool
 | []=>true
 | .own _ _ _ :: l=>sd l
 | .row _ _ _ :: l=>sd l
 | _ :: _=>false
def Od (P:Program) (f:FuncId) (o:Bool) (args:LV) (Δ:QE) (β V:Type) (m:Option β) (ret:β→V→List Value) (post:β→V→List ay):Prop:=
 (o=true→∀ y v,sd (post y v)=true)∧∀ w Z F,HL Z w Δ F→F.Nodup→(∀ b∈F,¬ Z b)→(∀ b,Z b→b < w.heap.size)→∀ y,m=some y→
  Calls P f args.toArray w fun e w'=>∃ v:V,e = .returned (qX (ret y v))∧Hg ⟨w,Z,F⟩ (post y v) w'
theorem LF:∃ C:Program→FuncId→Bool→List Value→List ay→(β V:Type)→Option β→(β→V→List Value)→(β→V→List ay)→Prop,C=Od:=⟨_,rfl⟩
noncomputable def Ct (P:Program) (f:FuncId) (o:Bool) {β V:Type} (m:Option β) (args:LV) (Δ:QE) (ret:β→V→List Value) (post:β→V→List ay):Prop:=Classical.choose LF P f o args Δ β V m ret post
theorem uz {P:Program} {f:FuncId} {o:Bool} {args:LV} {Δ:QE} {β V:Type} {m:Option β} {ret:β→V→List Value} {post:β→V→List ay}:Ct P f o m args Δ ret post=Od P f o args Δ β V m ret post:=by
 unfold Ct; rw [Classical.choose_spec LF]
theorem LG:∃ C:Prop→Prop,C=id:=⟨_,rfl⟩
noncomputable def Bx (p:Prop):Prop:=Classical.choose LG p
theorem pG {p:Prop}:Bx p=p:=by unfold Bx; rw [Classical.choose_spec LG]; rfl
theorem YO {p:Prop} (h:p):Bx p:=by rw [pG]; exact h
section
variable {Z Z':Nat→Prop} {w w':World} {cur F f:LN} {Γ Γ' Γ1 Δ:QE} {e:ay} {B:Bs}
theorem Gd.perm {F':LN} (h:Gd B Z F w) (hp:F'.Perm F):Gd B Z F' w:=
 ⟨hp.nodup_iff.2 h.nd,fun b hb=>h.apart b (hp.mem_iff.1 hb),h.qc,fun b hb=>h.low b (hp.mem_iff.1 hb),h.tC,h.tD,h.iv⟩
theorem Gd.iq (h:Gd B Z F w) (hC:ao [] w w'):Gd B Z F w':=
 ⟨h.nd,h.apart,fun b hb=>Nat.lt_of_lt_of_le (h.qc b hb) hC.size,h.low,h.tC,h.tD,h.iv.trans hC.nil⟩
theorem St.iq (h:St B Γ w) (hC:ao [] w w'):St B Γ w':=by
 obtain ⟨Z,F,h1,h2⟩:=h
 exact ⟨Z,F,h1.iq hC,h2.iq hC⟩
theorem HL.build:∀ {Δ Γ:QE} {Fd F:LN},HL Z w Δ Fd→SA Z w Γ [] F→∃ F',F'.Perm (Fd++F)∧SA Z w (Δ.reverse++Γ) [] F':=by
 intro Δ
 induction Δ with
 | nil=>intro Γ Fd F h hs; cases h; exact ⟨F,.refl _,hs⟩
 | cons e Δ ih=>
  intro Γ Fd F h hs
  rw [List.reverse_cons,List.append_assoc]
  cases h with
  | @own _ f F1 _ h1 h2=>
   obtain ⟨F',a,b⟩:=ih h2 (SA.cons hs h1)
   refine ⟨F',a.trans ?_,b⟩
   rw [List.append_assoc]
   exact List.perm_append_comm_assoc F1 f F
  | fact h1 h2=>exact ih h2 (SA.fact hs h1)
theorem HL.mono (hz:∀ b,Z b→Z' b) {Δ:QE} {F:LN} (h:HL Z w Δ F):HL Z' w Δ F:=by
 induction h with
 | nil=>exact .nil
 | own h _ ih=>exact .own (h.mono hz) ih
 | fact h _ ih=>exact .fact (h.mono hz fun _ h=>h) ih
inductive In (e:ay):List ay→Prop
 | here {Γ:QE}:In e (e :: Γ)
 | there {a:ay} {Γ:QE} (h:In e Γ):In e (a :: Γ)
def B5 (n:Nat):ag (List Value) where
 size:=n
 rep _ cs x f:=cs=x∧x.length=n∧(∀ v∈x,v.oneCell'=true)∧f=[]
 len:=by rintro h cs x f ⟨rfl,h1,_⟩; exact h1
 one:=by rintro h cs x f ⟨rfl,_,h2,_⟩; exact h2
 congr:=fun h _=>h
 lt:=by rintro h cs x f ⟨_,_,_,rfl⟩ b hb; cases hb
def gl {α:Type} (S:ag α) (h:Array Obj):List (List Value)→List α→List Nat→Prop
 | [],[],f=>f=[]
 | c :: us,x :: xs,f=>∃ f1 f2,f=f1++f2∧S.rep h c x f1∧gl S h us xs f2
 | _,_,_=>False
theorem Oe {α:Type} {S:ag α} {h:Array Obj}:∀ {us:List (List Value)} {xs:List α} {f:LN},gl S h us xs f→us.length=xs.length:=by
 intro us
 induction us with
 | nil=>intro xs f hg; cases xs with
  | nil=>rfl
  | cons=>exact hg.elim
 | cons c us ih=>intro xs f hg; cases xs with
  | nil=>exact hg.elim
  | cons x xs=>obtain ⟨f1,f2,_,_,h2⟩:=hg; simp [ih h2]
theorem M1 {α:Type} {S:ag α} {h:Array Obj}:∀ {us:List (List Value)} {xs:List α} {f:LN},gl S h us xs f→db S h us.flatten xs f:=by
 intro us
 induction us with
 | nil=>intro xs f hg; cases xs with
  | nil=>exact ⟨rfl,hg⟩
  | cons=>exact hg.elim
 | cons c us ih=>intro xs f hg; cases xs with
  | nil=>exact hg.elim
  | cons x xs=>obtain ⟨f1,f2,rfl,h1,h2⟩:=hg; exact ⟨c,us.flatten,f1,f2,by simp,rfl,h1,ih h2⟩
theorem Jt {α:Type} {S:ag α} {h h':Array Obj}:∀ {us:List (List Value)} {xs:List α} {f:LN},gl S h us xs f→(∀ b∈f,h'[b]? = h[b]?)→gl S h' us xs f:=by
 intro us
 induction us with
 | nil=>intro xs f hg _; cases xs with
  | nil=>exact hg
  | cons=>exact hg.elim
 | cons c us ih=>intro xs f hg hb; cases xs with
  | nil=>exact hg.elim
  | cons x xs=>obtain ⟨f1,f2,rfl,h1,h2⟩:=hg; exact ⟨f1,f2,rfl,S.congr h1 fun b hm=>hb b (List.mem_append_left _ hm),ih h2 fun b hm=>hb b (List.mem_append_right _ hm)⟩
theorem Hh {α:Type} {S:ag α} {h:Array Obj} {x:α}:∀ {us:List (List Value)} {xs:List α} {f:LN} (j:Nat),gl S h us xs f→xs[j]? = some x→∃ c g,us[j]? = some c∧S.rep h c x g∧∀ b∈g,b∈f:=by
 intro us
 induction us with
 | nil=>intro xs f j hg hx; cases xs with
  | nil=>simp at hx
  | cons=>exact hg.elim
 | cons c us ih=>intro xs f j hg hx; cases xs with
  | nil=>exact hg.elim
  | cons y xs=>
   obtain ⟨f1,f2,rfl,h1,h2⟩:=hg
   cases j with
   | zero=>simp at hx; subst hx; exact ⟨c,f1,rfl,h1,fun b hb=>List.mem_append_left _ hb⟩
   | succ j=>obtain ⟨c',g,a1,a2,a3⟩:=ih j h2 (by simpa using hx); exact ⟨c',g,by simpa using a1,a2,fun b hb=>List.mem_append_right _ (a3 b hb)⟩
theorem Ju {n:Nat} {h:Array Obj}:∀ {us:List (List Value)} {cs:LV} {f:LN},db (B5 n) h cs us f→cs=us.flatten∧f=[]:=by
 intro us
 induction us with
 | nil=>rintro cs f ⟨rfl,rfl⟩; exact ⟨rfl,rfl⟩
 | cons c us ih=>
  rintro cs f ⟨c',ic,f1,f2,rfl,rfl,⟨rfl,_,_,rfl⟩,h2⟩
  obtain ⟨rfl,rfl⟩:=ih h2
  exact ⟨by simp,rfl⟩
def YP {α:Type} (S:ag α):ag (List (List Value)×List α) where
 size:=1
 rep h cs x f:=cs=[.bool true]∧gl S h x.1 x.2 f∧∀ b∈f,b < h.size
 len:=by rintro h cs x f ⟨rfl,_⟩; rfl
 one:=by rintro h cs x f ⟨rfl,_⟩ v hv; simp at hv; subst hv; rfl
 congr:=by
  rintro h h' cs x f ⟨rfl,h1,h2⟩ hb
  refine ⟨rfl,Jt h1 hb,fun b hm=>?_⟩
  have:=hb b hm
  rw [Array.getElem?_eq_getElem (h2 b hm)] at this
  exact (Array.getElem?_eq_some_iff.1 this).1
 lt:=fun h=>h.2.2
theorem In.rd {α:Type} {T:ag α} {v:Value} {x:α} (h:In (.rd false T v x) Γ):∀ {cur F:LN},SA Z w Γ cur F→∀ cy,fact Z w cy (.rd false T v x):=by
 induction h with
 | here=>intro cur F h cy; exact h.1
 | @there a Γ _ ih=>
  intro cur F hS
  cases a with
  | own T v x=>obtain ⟨f,F',h1,h2,h3⟩:=hS; exact ih h3
  | om e E v xs=>obtain ⟨f,F',h1,h2,h3⟩:=hS; exact ih h3
  | row b cs e=>obtain ⟨f,F',h1,h2,h3⟩:=hS; exact ih h3
  | dn e E v xs j u=>obtain ⟨f,F',h1,h2,h3⟩:=hS; exact ih h3
  | _=>exact ih hS.2
theorem In.ad {o1 o2:Bool} {v:Value} {j:Int} {α:Type} {T:ag α} {x:α} (h:In (.ad o1 o2 v j T x) Γ):∀ {cur F:LN},SA Z w Γ cur F→0≤j∧j.toNat < tA v:=by
 induction h with
 | here=>intro cur F h; exact ⟨h.1.1,h.1.2.1⟩
 | @there a Γ _ ih=>
  intro cur F hS
  cases a with
  | own T v x=>obtain ⟨f,F',h1,h2,h3⟩:=hS; exact ih h3
  | om e E v xs=>obtain ⟨f,F',h1,h2,h3⟩:=hS; exact ih h3
  | row b cs e=>obtain ⟨f,F',h1,h2,h3⟩:=hS; exact ih h3
  | dn e E v xs j u=>obtain ⟨f,F',h1,h2,h3⟩:=hS; exact ih h3
  | _=>exact ih hS.2
abbrev uA:ay:=.aw ⟨0,0,none⟩ []
inductive qJ where
 | nil | own | om | z | lit | og
 | row (v:Value) (j:Int)
inductive Loc:List ay→Value→qJ→Prop
 | og {n:Nat} {e:TI} {v:Value} {us:List (List Value)} {Γ:QE}:Loc (.own (aI e (B5 n)) v us :: Γ) v .og
 | own {α:Type} {T:ag α} {v:Value} {x:α} {Γ:QE}:Loc (.own T v x :: Γ) v .own
 | om {α:Type} {t:TI} {E:ag α} {v:Value} {xs:List α} {Γ:QE}:Loc (.om t E v xs :: Γ) v .om
 | hd {v u:Value} {j:Int} {Γ:QE}:Loc (.hd v j u :: Γ) u (.row v j)
 | rd {o:Bool} {α:Type} {T:ag α} {v:Value} {x:α} {Γ:QE}:Loc (.rd o T v x :: Γ) v .z
 | lit {b n c:Nat} {cs:LV} {t:TI} {Γ:QE}:Loc (.row b cs t :: Γ) (.slice (some ⟨b,0,none⟩) n c) .lit
 | nil {Γ:QE}:Loc Γ (.slice none 0 0) .nil
 | there {v:Value} {l:qJ} {a:ay} {Γ:QE} (h:Loc Γ v l):Loc (a :: Γ) v l
inductive vT {α:Type} (T:ag α) (x:α) (Γ0:QE):List ay→Value→qJ→Prop
 | own {v:Value} {Γ:QE}:vT T x Γ0 (.own T v x :: Γ) v .own
 | there {v:Value} {l:qJ} {a:ay} {Γ:QE} (h:vT T x Γ0 Γ v l):vT T x Γ0 (a :: Γ) v l
 | out {v:Value} {l:qJ} (h:Loc Γ0 v l):vT T x Γ0 [] v l
theorem vT.UH {α:Type} {T:ag α} {x:α} {v:Value} {l:qJ} {Γ0:QE} (h:vT T x Γ0 Γ v l):Loc Γ v .own∧l = .own∨Loc Γ0 v l:=by
 induction h with
 | own=>exact .inl ⟨.own,rfl⟩
 | there _ ih=>exact ih.imp (fun h=>⟨.there h.1,h.2⟩) id
 | out h=>exact .inr h
theorem vT.loc {α:Type} {T:ag α} {x:α} {v:Value} {l:qJ} (h:vT T x Γ Γ v l):Loc Γ v l:=by
 rcases h.UH with ⟨g,rfl⟩ | g
 ·exact g
 ·exact g
theorem Loc.row {u v:Value} {j:Int} {l:qJ} (h:Loc Γ u l):l = .row v j→∀ {cur F:LN},SA Z w Γ cur F→0≤j∧j.toNat < tA v∧w.cell? (ep v 1 j)=some u:=by
 induction h with
 | hd=>intro hl cur F hS; cases hl; exact ⟨hS.1.1,hS.1.2.1,hS.1.2.2.1⟩
 | @there v l a Γ h ih=>
  intro hl cur F hS
  cases a with
  | own T v x=>obtain ⟨f,F',h1,h2,h3⟩:=hS; exact ih hl h3
  | om e E v xs=>obtain ⟨f,F',h1,h2,h3⟩:=hS; exact ih hl h3
  | row b cs e=>obtain ⟨f,F',h1,h2,h3⟩:=hS; exact ih hl h3
  | dn e E v xs j u=>obtain ⟨f,F',h1,h2,h3⟩:=hS; exact ih hl h3
  | _=>exact ih hl hS.2
 | _=>intro hl; cases hl
inductive Al:List ay→{α:Type}→ag α→Value→α→List ay→Prop
 | i {k:IntKind} {a:Int} {Γ:QE}:Al Γ (aJ k) (.int k a) a Γ
 | b {a:Bool} {Γ:QE}:Al Γ uy (.bool a) a Γ
 | own {α:Type} {E:ag α} {u:Value} {x:α} {Γ Γ':QE} (h:dh Γ (.own E u x) Γ'):Al Γ E u x Γ'
theorem Al.sound {α:Type} {E:ag α} {u:Value} {x:α} (h:Al Γ E u x Γ'):∀ {F:LN},SA Z w Γ [] F→∃ f F',(f++F').Perm F∧E.rep w.heap [u] x f∧SA Z w Γ' [] F':=by
 induction h with
 | i=>intro F h; exact ⟨[],F,.refl _,⟨rfl,rfl⟩,h⟩
 | b=>intro F h; exact ⟨[],F,.refl _,⟨rfl,rfl⟩,h⟩
 | own h=>intro F hs; obtain ⟨f,F',a,b,c⟩:=h.sound hs; exact ⟨f,F',a,b,c⟩
inductive wS:qJ→List ay→ay→List ay→Prop
 | own {α:Type} {T:ag α} {v:Value} {x:α} {Γ Γ':QE} (h:dh Γ (.own T v x) Γ'):wS .own Γ (.own T v x) Γ'
 | nil {α:Type} {T:ag α} {v:Value} {x:α} {Γ Γ':QE} (h:dh Γ (.own T v x) Γ'):wS .nil Γ (.own T v x) Γ'
 | og {α:Type} {T:ag α} {v:Value} {x:α} {Γ Γ':QE} (h:dh Γ (.own T v x) Γ'):wS .og Γ (.own T v x) Γ'
 | om {α:Type} {l:qJ} {t:TI} {E:ag α} {v:Value} {xs:List α} {Γ Γ':QE} (h:dh Γ (.om t E v xs) Γ'):wS l Γ (.om t E v xs) Γ'
 | row {β:Type} {e:TI} {E:ag (List β)} {E':ag β} {u v:Value} {j:Int} {z:List β} {xs:List (List β)} {o1 o2:Bool} {Γ Γ' Γx:QE} (h:dh Γ (.own (aI e E) v xs) Γ') (h1:E.size=1) (hr:RT E (bE E')) (hf:qw Γ u o1 o2 E' z uA Γx):wS (.row v j) Γ (.own E u z) (.dn e E v xs j u :: Γ')
 | lit {α:Type} {t:TI} {E:ag α} {b:Nat} {u:Value} {x:α} {Γ Γ1 Γ':QE} (h:dh Γ (.row b [u] t) Γ1) (h1:E.size=1) (he:Al Γ1 E u x Γ'):wS .lit Γ (.own (aI t E) (.slice (some ⟨b,0,none⟩) 1 1) [x]) Γ'
inductive EO:List ay→List ay→List ay→Prop
 | nil {Γ:QE}:EO Γ [] Γ
 | own {l:qJ} {α:Type} {T:ag α} {v:Value} {x:α} {Γ Γ1 Γ2 Δ:QE} (hl:vT T x Γ Γ v l) (h:wS l Γ (.own T v x) Γ1) (k:EO Γ1 Δ Γ2):EO Γ (.own T v x :: Δ) Γ2
 | om {l:qJ} {α:Type} {t:TI} {E:ag α} {v:Value} {xs:List α} {Γ Γ1 Γ2 Δ:QE} (hl:Loc Γ v l) (h:wS l Γ (.om t E v xs) Γ1) (k:EO Γ1 Δ Γ2):EO Γ (.om t E v xs :: Δ) Γ2
 | dn {α:Type} {e:TI} {E:ag α} {v u:Value} {xs:List α} {j:Int} {Γ Γ1 Γ2 Δ:QE} (h:dh Γ (.dn e E v xs j u) Γ1) (k:EO Γ1 Δ Γ2):EO Γ (.dn e E v xs j u :: Δ) Γ2
 | row {b:Nat} {cs:LV} {t:TI} {Γ Γ1 Γ2 Δ:QE} (h:dh Γ (.row b cs t) Γ1) (k:EO Γ1 Δ Γ2):EO Γ (.row b cs t :: Δ) Γ2
 | rd {o:Bool} {α:Type} {T:ag α} {v:Value} {x:α} {Γ Γ2 Δ:QE} (k:EO Γ Δ Γ2):EO Γ (.rd o T v x :: Δ) Γ2
 | aw {p:Addr} {cs:LV} {Γ Γ2 Δ:QE} (k:EO Γ Δ Γ2):EO Γ (.aw p cs :: Δ) Γ2
inductive qY:List ay→Addr→List Value→Bool→Prop
 | nil {Γ:QE} {p:Addr}:qY Γ p [] false
 | He {p:Addr} {cs ds:LV} {Γ:QE} (h:cs.take ds.length=ds):qY (.aw p cs :: Γ) p ds false
 | sub {p:Addr} {j:Nat} {cs ds:LV} {Γ:QE} (h:(cs.drop j).take ds.length=ds):qY (.aw p cs :: Γ) (p.add j) ds false
 | row {b j:Nat} {t:TI} {cs ds:LV} {Γ:QE} (h:(cs.drop j).take ds.length=ds):qY (.row b cs t :: Γ) ⟨b,j,none⟩ ds true
 | UI {p:Addr} {i j:Nat} {cs ds:LV} {Γ:QE} (h:(cs.drop (i+j)).take ds.length=ds) (hn:Nat.beq (i+j) 0=false):qY (.aw p cs :: Γ) ⟨p.block,p.off+i+j,none⟩ ds false
 | there {p:Addr} {cs:LV} {o:Bool} {e:ay} {Γ:QE} (h:qY Γ p cs o):qY (e :: Γ) p cs o
inductive se:(V:Type)→V→Prop
 | unit:se Unit ()
 | val {a:Value}:se Value a
 | nat {a:Nat}:se Nat a
 | pv {W:Type} {a:Value} {b:W} (h:se W b):se (Value×W) (a,b)
 | pn {W:Type} {a:Nat} {b:W} (h:se W b):se (Nat×W) (a,b)
 | us {W:Type} {a:List W}:se (List W) a
inductive B6 (Γ:QE):List ay→Prop
 | nil:B6 Γ []
 | rd {α:Type} {E:ag α} {o1 o2:Bool} {v:Value} {x:List α} {Γx Δ:QE} (h:qw Γ v o1 o2 E x uA Γx) (k:B6 Γ Δ):B6 Γ (.rd false (bE E) v x :: Δ)
inductive EJ (Γ:QE):{α:Type}→ag α→List Value→List α→Prop
 | nil {α:Type} {S:ag α}:EJ Γ S [] []
 | cons {α V:Type} {S:ag α} {cl:α→V→List Value} {en:α→V→List ay} {p:Addr} {x:α} {v:V} {o:Bool} {us:LV} {xs:List α} [hs:SO S V cl en] (hv:se V v) (hp:qY Γ p (cl x v) o) (hr:B6 Γ (en x v)) (k:EJ Γ S us xs):EJ Γ S (.pointer (some p) :: us) (x :: xs)
inductive gp:List Value→List Value→List Value→Prop
 | nil {l:LV}:gp [] l l
 | cons {a:Value} {l k m:LV} (h:gp l k m):gp (a :: l) k (a :: m)
theorem gp.eq {l k m:LV} (h:gp l k m):l++k=m:=by
 induction h with
 | nil=>rfl
 | cons _ ih=>rw [List.cons_append,ih]
inductive EK (Γ:QE):{α:Type}→ag α→List Value→List α→Prop
 | nil {α:Type} {S:ag α}:EK Γ S [] []
 | cons {α V:Type} {S:ag α} {cl:α→V→List Value} {en:α→V→List ay} {x:α} {v:V} {us ws:LV} {xs:List α} [hs:SO S V cl en] (hv:se V v) (hc:gp (cl x v) us ws) (hr:B6 Γ (en x v)) (k:EK Γ S us xs):EK Γ S ws (x :: xs)
inductive vo (Γ:QE):{α:Type}→ag α→List Value→List α→Prop
 | int {k:IntKind} {a:Int} {us:LV} {xs:List Int} (h:vo Γ (aJ k) us xs):vo Γ (aJ k) (.int k a :: us) (a :: xs)
 | bool {a:Bool} {us:LV} {xs:List Bool} (h:vo Γ uy us xs):vo Γ uy (.bool a :: us) (a :: xs)
 | lit {α:Type} {E:ag α} {b n:Nat} {vs:LV} {x:List α} {t:TI} {us:LV} {xs:List (List α)} {Γ1:QE} (h:dh Γ (.row b vs t) Γ1) (hn:vs.length=n) (hp:vo Γ E vs x) (k:vo Γ (bE E) us xs):vo Γ (bE E) (.slice (some ⟨b,0,none⟩) n n :: us) (x :: xs)
 | sl {α:Type} {E:ag α} {o1 o2:Bool} {u:Value} {x:List α} {us:LV} {xs:List (List α)} {Γx:QE} (h:qw Γ u o1 o2 E x uA Γx) (k:vo Γ (bE E) us xs):vo Γ (bE E) (u :: us) (x :: xs)
 | nil {α:Type} {E:ag α} (h:E.size=1):vo Γ E [] []
inductive ER:Bool→List ay→List ay→Prop
 | nil {l:Bool} {Γ:QE}:ER l Γ []
 | own {l:Bool} {α:Type} {T:ag α} {v:Value} {x:α} {Γ Δ:QE} (k:ER l Γ Δ):ER l Γ (.own T v x :: Δ)
 | om {l:Bool} {α:Type} {t:TI} {E:ag α} {v:Value} {xs:List α} {Γ Δ:QE} (k:ER l Γ Δ):ER l Γ (.om t E v xs :: Δ)
 | row {l:Bool} {b:Nat} {cs:LV} {t:TI} {Γ Δ:QE} (k:ER l Γ Δ):ER l Γ (.row b cs t :: Δ)
 | dn {l:Bool} {α:Type} {e:TI} {E:ag α} {v u:Value} {xs:List α} {j:Int} {Γ Δ:QE} (k:ER l Γ Δ):ER l Γ (.dn e E v xs j u :: Δ)
 | rp {α:Type} {S:ag α} {b n:Nat} {us:LV} {xs:List α} {t:TI} {Γ Γ1 Δ:QE} (h:dh Γ (.row b us t) Γ1) (hn:us.length=n) (hp:EJ Γ S us xs) (k:ER true Γ Δ):ER true Γ (.rd false (bE (kn S)) (.slice (some ⟨b,0,none⟩) n n) xs :: Δ)
 | rs {α:Type} {S:ag α} {b n:Nat} {us:LV} {xs:List α} {t:TI} {Γ Γ1 Δ:QE} (h:dh Γ (.row b us t) Γ1) (hn:xs.length=n) (hp:EK Γ S us xs) (k:ER true Γ Δ):ER true Γ (.rd false (bE (rO S)) (.slice (some ⟨b,0,none⟩) n n) xs :: Δ)
 | rr {α:Type} {E:ag α} {b n:Nat} {us:LV} {xs:List α} {t:TI} {Γ Γ1 Δ:QE} (h:dh Γ (.row b us t) Γ1) (hn:us.length=n) (hp:vo Γ E us xs) (k:ER true Γ Δ):ER true Γ (.rd false (bE E) (.slice (some ⟨b,0,none⟩) n n) xs :: Δ)
 | B3 {o1 o2:Bool} {α:Type} {E:ag α} {v:Value} {x:List α} {Γ Γx Δ:QE} (h:qw Γ v o1 o2 E x uA Γx) (k:ER true Γ Δ):ER true Γ (.rd false (bE E) v x :: Δ)
 | Hf {α:Type} {E:ag α} {v:Value} {x:List α} {Γ Γx Δ:QE} (h:qw Γ v false false E x uA Γx) (k:ER false Γ Δ):ER false Γ (.rd false (bE E) v x :: Δ)
 | YQ {p:Addr} {cs:LV} {o:Bool} {Γ Δ:QE} (h:qY Γ p cs o) (k:ER true Γ Δ):ER true Γ (.aw p cs :: Δ)
 | YR {p:Addr} {cs:LV} {Γ Δ:QE} (h:qY Γ p cs false) (k:ER false Γ Δ):ER false Γ (.aw p cs :: Δ)
 | mp {l:Bool} {κ υ:Type} {ek:κ→Value} {eu:υ→Value} {v:Value} {x:List (κ×υ)} {Γ Δ:QE} (h:In (.rd false (o3 ek eu) v x) Γ) (k:ER l Γ Δ):ER l Γ (.rd false (o3 ek eu) v x :: Δ)
inductive HO (Z:Nat→Prop) (w:World):List ay→List Nat→Prop
 | nil:HO Z w [] []
 | own {e:ay} {f F:LN} {Δ:QE} (h:lh Z w f e) (k:HO Z w Δ F):HO Z w (e :: Δ) (f++F)
 | rd {o:Bool} {α:Type} {T:ag α} {v:Value} {x:α} {F:LN} {Δ:QE} (k:HO Z w Δ F):HO Z w (.rd o T v x :: Δ) F
 | aw {p:Addr} {cs:LV} {F:LN} {Δ:QE} (k:HO Z w Δ F):HO Z w (.aw p cs :: Δ) F
theorem wS.sound {l:qJ} {v:Value} (h:wS l Γ e Γ') (hl:Loc Γ v l) (hv:∀ {α:Type} {T:ag α} {u:Value} {x:α},e = .own T u x→u=v):∀ {F:LN},SA Z w Γ [] F→∃ f F',(f++F').Perm F∧lh Z w f e∧SA Z w Γ' [] F':=by
 cases h with
 | own h=>intro F hs; exact h.sound hs
 | nil h=>intro F hs; exact h.sound hs
 | og h=>intro F hs; exact h.sound hs
 | om h=>intro F hs; exact h.sound hs
 | @row β e E E' u v' j z xs o1 o2 _ Γ1 Γx h h1 hr hf=>
  intro F hs
  obtain rfl:=hv rfl
  obtain ⟨j0,j1,hu⟩:=Loc.row hl rfl hs
  obtain ⟨f,F1,hp,hO,jz⟩:=h.sound hs
  obtain ⟨cy,_,⟨⟨g,hg,_⟩,_⟩,_⟩:=hf.sound hs
  have hlen:tA v'=xs.length:=by
   obtain ⟨base,cap,hv,_⟩:=id hO
   obtain rfl:v' = .slice base xs.length cap:=by simpa using hv
   rfl
  rw [hlen] at j1
  obtain ⟨k,gg,a1,a2,a3⟩:=EC h1 hO (List.getElem?_eq_getElem j1) hu
  have hz:xs[j.toNat]=z:=hr.tB (hr.le.le a1) hg
  rw [hz] at a1
  refine ⟨k,gg++F1,?_,a1,?_⟩
  ·rw [← List.append_assoc]; exact (a2.append_right F1).trans hp
  ·exact SA.cons jz (e:=.dn e E v' xs j u) a3
 | @lit α t E b u x _ Γ1 _ h h1 he=>
  intro F hs
  obtain ⟨f,F1,hp,⟨rfl,bo⟩,jz⟩:=h.sound hs
  obtain ⟨k,F2,sR,hk,my⟩:=he.sound jz
  refine ⟨b :: k,F2,(List.Perm.cons b sR).trans hp,⟨_,1,rfl,.inr ⟨b,_,k,rfl,bo,rfl,Nat.le_refl _,by decide,by simp [h1],?_⟩⟩,my⟩
  simp only [List.length_cons,List.length_nil,h1]
  exact ⟨[u],[],k,[],by simp,by simp,hk,rfl,rfl⟩
theorem EO.sound (h:EO Γ Δ Γ'):∀ {F:LN},SA Z w Γ [] F→∃ Fd F',HO Z w Δ Fd∧SA Z w Γ' [] F'∧(Fd++F').Perm F:=by
 induction h with
 | nil=>intro F h; exact ⟨[],F,.nil,h,.refl _⟩
 | own hl h _ ih=>
  intro F hs
  obtain ⟨f,F1,hp,ho,h1⟩:=h.sound hl.loc (by rintro _ _ _ _ h; cases h; rfl) hs
  obtain ⟨Fd,F',h2,h3,h4⟩:=ih h1
  exact ⟨f++Fd,F',.own ho h2,h3,by rw [List.append_assoc]; exact (h4.append_left f).trans hp⟩
 | om hl h _ ih=>
  intro F hs
  obtain ⟨f,F1,hp,ho,h1⟩:=h.sound hl (by rintro _ _ _ _ h; cases h) hs
  obtain ⟨Fd,F',h2,h3,h4⟩:=ih h1
  exact ⟨f++Fd,F',.own ho h2,h3,by rw [List.append_assoc]; exact (h4.append_left f).trans hp⟩
 | dn h _ ih=>
  intro F hs
  obtain ⟨f,F1,hp,ho,h1⟩:=h.sound hs
  obtain ⟨Fd,F',h2,h3,h4⟩:=ih h1
  exact ⟨f++Fd,F',.own ho h2,h3,by rw [List.append_assoc]; exact (h4.append_left f).trans hp⟩
 | row h _ ih=>
  intro F hs
  obtain ⟨f,F1,hp,ho,h1⟩:=h.sound hs
  obtain ⟨Fd,F',h2,h3,h4⟩:=ih h1
  exact ⟨f++Fd,F',.own ho h2,h3,by rw [List.append_assoc]; exact (h4.append_left f).trans hp⟩
 | rd _ ih=>intro F hs; obtain ⟨Fd,F',h2,h3,h4⟩:=ih hs; exact ⟨Fd,F',.rd h2,h3,h4⟩
 | aw _ ih=>intro F hs; obtain ⟨Fd,F',h2,h3,h4⟩:=ih hs; exact ⟨Fd,F',.aw h2,h3,h4⟩
theorem At.sub {w:World} {p:Addr} {cs ds:LV} {j:Nat} (h:At w p cs) (hd:(cs.drop j).take ds.length=ds):At w (p.add j) ds:=by
 intro i u hi
 have qd:cs[j+i]? = some u:=by
  rw [← hd,List.getElem?_take] at hi
  split at hi
  ·rwa [List.getElem?_drop] at hi
  ·cases hi
 have h2:=h (j+i) u qd
 have e:(p.add j).add i=p.add (j+i):=by
  unfold Addr.add
  by_cases h0:j=0
  ·subst h0; simp
  ·by_cases h1:i=0
   ·subst h1; simp
   ·simp [h0,h1,Nat.add_assoc]
 rw [e]; exact h2
theorem qY.sound {p:Addr} {cs:LV} {o:Bool} (h:qY Γ p cs o):∀ {cur F:LN},SA Z w Γ cur F→At w p cs∧(cs≠[]→(o=false∧Z p.block)∨(o=true∧p.block∈F)):=by
 induction h with
 | nil=>intro cur F _; exact ⟨fun j u hj=>by simp at hj,fun h=>absurd rfl h⟩
 | @He p cs ds Γ h=>
  rintro cur F ⟨⟨h1,h2⟩,_⟩
  refine ⟨At.sub (j:=0) h1 (by simpa using h),fun hn=>.inl ⟨rfl,h2 fun hc=>hn (by rw [hc] at h; simpa using h.symm)⟩⟩
 | @sub p j cs ds Γ h=>
  rintro cur F ⟨⟨h1,h2⟩,_⟩
  refine ⟨At.sub h1 h,fun hn=>.inl ⟨rfl,?_⟩⟩
  have:(p.add j).block=p.block:=by unfold Addr.add; split <;> rfl
  rw [this]; exact h2 fun hc=>hn (by rw [hc] at h; simpa using h.symm)
 | @UI p i j cs ds Γ h hn=>
  rintro cur F ⟨⟨h1,h2⟩,_⟩
  have hz : ¬ i+j=0:=fun h=>by rw [h] at hn; exact absurd hn (by decide)
  have e:p.add (i+j) = ⟨p.block,p.off+i+j,none⟩:=by
   unfold Addr.add
   rw [if_neg hz,Nat.add_assoc]
  have:=At.sub h1 h
  rw [e] at this
  exact ⟨this,fun sf=>.inl ⟨rfl,h2 fun hc=>sf (by rw [hc] at h; simpa using h.symm)⟩⟩
 | @row b j t cs ds Γ h=>
  rintro cur F ⟨f,F',h1,⟨h2,h3⟩,_⟩
  refine ⟨?_,fun _=>.inr ⟨rfl,by rw [h1,h2]; simp⟩⟩
  have:=At.sub h3.at h
  rwa [iy,Nat.zero_add] at this
 | @there p cs o e Γ h ih=>
  intro cur F hS
  cases e with
  | own T v x=>obtain ⟨f,F',h1,h2,h3⟩:=hS; obtain ⟨a,b⟩:=ih h3; exact ⟨a,fun hn=>(b hn).imp id fun ⟨x,y⟩=>⟨x,by rw [h1]; exact List.mem_append_right _ y⟩⟩
  | om e E v xs=>obtain ⟨f,F',h1,h2,h3⟩:=hS; obtain ⟨a,b⟩:=ih h3; exact ⟨a,fun hn=>(b hn).imp id fun ⟨x,y⟩=>⟨x,by rw [h1]; exact List.mem_append_right _ y⟩⟩
  | row b cs e=>obtain ⟨f,F',h1,h2,h3⟩:=hS; obtain ⟨a,b⟩:=ih h3; exact ⟨a,fun hn=>(b hn).imp id fun ⟨x,y⟩=>⟨x,by rw [h1]; exact List.mem_append_right _ y⟩⟩
  | dn e E v xs j u=>obtain ⟨f,F',h1,h2,h3⟩:=hS; obtain ⟨a,b⟩:=ih h3; exact ⟨a,fun hn=>(b hn).imp id fun ⟨x,y⟩=>⟨x,by rw [h1]; exact List.mem_append_right _ y⟩⟩
  | _=>exact ih hS.2
theorem B6.sound {Δ:QE} (h:B6 Γ Δ) (hZ:∀ b,Z b→Z' b) {F':LN} (hl:∀ b∈F',Z' b) (hs:SA Z w Γ [] F'):∀ e∈Δ,fact Z' w [] e:=by
 induction h with
 | nil=>intro e he; cases he
 | rd h _ ih=>
  intro e he
  rcases List.mem_cons.1 he with rfl | he
  ·obtain ⟨cy,hc,⟨⟨g,h1,h2⟩,_⟩,_⟩:=h.sound hs
   have AV:∀ b∈cy,Z' b:=fun b hb=>hl b ((hc b hb).resolve_left (by simp))
   have key:∀ o b,rK o Z cy b→Z' b:=by
    intro o b hi
    cases o
    ·exact hZ b hi
    ·exact AV b hi
   exact ⟨g,h1,fun b hb=>(h2 b hb).elim (key _ b) (key _ b)⟩
  ·exact ih e he
theorem EJ.sound {α:Type} {S:ag α} {us:LV} {xs:List α} (h:EJ Γ S us xs) (hZ:∀ b,Z b→Z' b) {F':LN} (hl:∀ b∈F',Z' b) (hs:SA Z w Γ [] F'):us.length=xs.length∧∃ g,db (kn S) w.heap us xs g∧∀ b∈g,Z' b:=by
 induction h with
 | nil=>exact ⟨rfl,[],⟨rfl,rfl⟩,fun b hb=>absurd hb List.not_mem_nil⟩
 | @cons V S cl en p x v o us xs wT _ hp hr _ ih=>
  obtain ⟨e1,g,h1,h2⟩:=ih
  obtain ⟨a1,a2⟩:=hp.sound hs
  obtain ⟨g0,b1,b2⟩:=wT.cl (hr.sound hZ hl hs)
  have mz:=wT.ne x v
  have YS:Z' p.block:=(a2 mz).elim (fun h=>hZ _ h.2) fun h=>hl _ h.2
  have bj:p.block < w.heap.size:=by
   cases hc:cl x v with
   | nil=>exact absurd hc mz
   | cons u _=>
    have:=EL (a1 0 u (by rw [hc]; rfl))
    rwa [xf] at this
  refine ⟨by simp [e1],(p.block :: g0)++g,⟨[.pointer (some p)],us,p.block :: g0,g,rfl,rfl,⟨p,_,g0,rfl,bj,fun j u hj=>a1 j u hj,b1,rfl⟩,h1⟩,fun b hb=>?_⟩
  rcases List.mem_append.1 hb with hb | hb
  ·rcases List.mem_cons.1 hb with rfl | hb
   ·exact YS
   ·exact b2 b hb
  ·exact h2 b hb
theorem EK.sound {α:Type} {S:ag α} {us:LV} {xs:List α} (h:EK Γ S us xs) (hZ:∀ b,Z b→Z' b) {F':LN} (hl:∀ b∈F',Z' b) (hs:SA Z w Γ [] F'):∃ g,db S w.heap us xs g∧∀ b∈g,Z' b:=by
 induction h with
 | nil=>exact ⟨[],⟨rfl,rfl⟩,fun b hb=>absurd hb List.not_mem_nil⟩
 | @cons V S cl en x v us ws xs wT _ hc hr _ ih=>
  obtain ⟨g,h1,h2⟩:=ih
  obtain ⟨g0,b1,b2⟩:=wT.cl (hr.sound hZ hl hs)
  exact ⟨g0++g,⟨_,us,g0,g,hc.eq.symm,rfl,b1,h1⟩,fun b hb=>(List.mem_append.1 hb).elim (b2 b) (h2 b)⟩
theorem vo.sound {α:Type} {E:ag α} {us:LV} {xs:List α} (h:vo Γ E us xs) (hZ:∀ b,Z b→Z' b) {F':LN} (hl:∀ b∈F',Z' b) (hs:SA Z w Γ [] F'):E.size=1∧us.length=xs.length∧∃ g,db E w.heap us xs g∧∀ b∈g,Z' b:=by
 induction h with
 | nil h=>exact ⟨h,rfl,[],⟨rfl,rfl⟩,fun b hb=>absurd hb List.not_mem_nil⟩
 | @int k a us xs _ ih=>
  obtain ⟨e0,e1,g,h1,h2⟩:=ih
  exact ⟨e0,by simp [e1],g,⟨[_],us,[],g,rfl,rfl,⟨rfl,rfl⟩,h1⟩,h2⟩
 | @bool a us xs _ ih=>
  obtain ⟨e0,e1,g,h1,h2⟩:=ih
  exact ⟨e0,by simp [e1],g,⟨[_],us,[],g,rfl,rfl,⟨rfl,rfl⟩,h1⟩,h2⟩
 | @lit α E b n vs x t us xs Γ1 h hn _ _ YT ih=>
  obtain ⟨e0,e1,g,h1,h2⟩:=ih
  obtain ⟨d0,d1,k,k1,k2⟩:=YT
  obtain ⟨f,F1,vU,⟨rfl,bo⟩,_⟩:=h.sound hs
  have hb:Z' b:=hl b (vU.mem_iff.1 (List.mem_append_left _ (by simp)))
  refine ⟨rfl,by simp [e1],(b :: k)++g,⟨[_],us,b :: k,g,rfl,rfl,⟨_,n,by rw [← hn,d1],.inr ⟨b,0,vs.toArray,t,_,k,rfl,bo,rfl,by rw [← hn,d1]; exact Nat.le_refl _,?_⟩⟩,h1⟩,fun i hi=>?_⟩
  ·rw [List.drop_zero,d0,Nat.mul_one,List.toList_toArray,← d1,List.take_length]
   exact k1
  ·rcases List.mem_append.1 hi with hi | hi
   ·rcases List.mem_cons.1 hi with rfl | hi
    ·exact hb
    ·exact k2 i hi
   ·exact h2 i hi
 | @sl α E o1 o2 u x us xs Γx h _ ih=>
  obtain ⟨e0,e1,g,h1,h2⟩:=ih
  obtain ⟨cy,hc,⟨⟨k,a1,a2⟩,_⟩,_⟩:=h.sound hs
  have AV:∀ b∈cy,Z' b:=fun b hb=>hl b ((hc b hb).resolve_left (by simp))
  have key:∀ o b,rK o Z cy b→Z' b:=by
   intro o b hi
   cases o
   ·exact hZ b hi
   ·exact AV b hi
  refine ⟨rfl,by simp [e1],k++g,⟨[u],us,k,g,rfl,rfl,a1,h1⟩,fun b hb=>?_⟩
  exact (List.mem_append.1 hb).elim (fun hb=>(a2 b hb).elim (key _ b) (key _ b)) (h2 b)
theorem ER.sound {l:Bool} (h:ER l Γ Δ) (hZ:∀ b,Z b→Z' b) {F':LN} (hl:l=true→∀ b∈F',Z' b) (hs:SA Z w Γ [] F'):∀ {Fd:LN},HO Z w Δ Fd→HL Z' w Δ Fd:=by
 induction h with
 | mp h _ ih=>
  intro Fd hh
  cases hh with
  | own h k=>exact h.elim
  | rd k=>
   obtain ⟨g,h1,h2⟩:=h.rd hs []
   exact .fact ⟨g,h1,fun b hb=>hZ b (h2 b hb)⟩ (ih hl hs k)
 | nil=>intro Fd h; cases h; exact .nil
 | own _ ih=>intro Fd h; cases h with | own h k=>exact .own (h.mono hZ) (ih hl hs k)
 | om _ ih=>intro Fd h; cases h with | own h k=>exact .own (h.mono hZ) (ih hl hs k)
 | row _ ih=>intro Fd h; cases h with | own h k=>exact .own (h.mono hZ) (ih hl hs k)
 | dn _ ih=>intro Fd h; cases h with | own h k=>exact .own (h.mono hZ) (ih hl hs k)
 | @rp α S b n us xs t Γ Γ1 Δ h hn hp _ ih=>
  intro Fd hh
  cases hh with
  | own h k=>exact h.elim
  | rd k=>
   refine .fact ?_ (ih hl hs k)
   obtain ⟨f,F1,vU,⟨rfl,bo⟩,_⟩:=h.sound hs
   obtain ⟨e1,g,h1,h2⟩:=hp.sound hZ (hl rfl) hs
   have hb:Z' b:=hl rfl b (vU.mem_iff.1 (List.mem_append_left _ (by simp)))
   refine ⟨b :: g,⟨_,n,by rw [← hn,e1],.inr ⟨b,0,us.toArray,t,_,g,rfl,bo,rfl,by rw [← hn,e1]; exact Nat.le_refl _,?_⟩⟩,fun i hi=>?_⟩
   ·have e2:(kn S).size=1:=rfl
    rw [List.drop_zero,e2,Nat.mul_one,List.toList_toArray,← e1,List.take_length]
    exact h1
   ·rcases List.mem_cons.1 hi with rfl | hi
    ·exact hb
    ·exact h2 i hi
 | @rs α S b n us xs t Γ Γ1 Δ h hn hp _ ih=>
  intro Fd hh
  cases hh with
  | own h k=>exact h.elim
  | rd k=>
   refine .fact ?_ (ih hl hs k)
   obtain ⟨f,F1,vU,⟨rfl,bo⟩,_⟩:=h.sound hs
   obtain ⟨g,h1,h2⟩:=hp.sound hZ (hl rfl) hs
   have hb:Z' b:=hl rfl b (vU.mem_iff.1 (List.mem_append_left _ (by simp)))
   refine ⟨b :: g,⟨_,n,by rw [← hn],.inr ⟨b,0,us.toArray,t,_,g,rfl,bo,rfl,by rw [← hn]; exact Nat.le_refl _,?_⟩⟩,fun i hi=>?_⟩
   ·have e2:(rO S).size=S.size:=rfl
    rw [List.drop_zero,e2,List.toList_toArray,← ju h1,List.take_length]
    exact vp Le.str h1
   ·rcases List.mem_cons.1 hi with rfl | hi
    ·exact hb
    ·exact h2 i hi
 | @rr α E b n us xs t Γ Γ1 Δ h hn hp _ ih=>
  intro Fd hh
  cases hh with
  | own h k=>exact h.elim
  | rd k=>
   refine .fact ?_ (ih hl hs k)
   obtain ⟨f,F1,vU,⟨rfl,bo⟩,_⟩:=h.sound hs
   obtain ⟨e2,e1,g,h1,h2⟩:=hp.sound hZ (hl rfl) hs
   have hb:Z' b:=hl rfl b (vU.mem_iff.1 (List.mem_append_left _ (by simp)))
   refine ⟨b :: g,⟨_,n,by rw [← hn,e1],.inr ⟨b,0,us.toArray,t,_,g,rfl,bo,rfl,by rw [← hn,e1]; exact Nat.le_refl _,?_⟩⟩,fun i hi=>?_⟩
   ·rw [List.drop_zero,e2,Nat.mul_one,List.toList_toArray,← e1,List.take_length]
    exact h1
   ·rcases List.mem_cons.1 hi with rfl | hi
    ·exact hb
    ·exact h2 i hi
 | B3 h _ ih=>
  intro Fd hh
  cases hh with
  | own h k=>exact h.elim
  | rd k=>
   refine .fact ?_ (ih hl hs k)
   obtain ⟨cy,hc,⟨⟨g,h1,h2⟩,_⟩,_⟩:=h.sound hs
   have AV:∀ b∈cy,Z' b:=fun b hb=>hl rfl b ((hc b hb).resolve_left (by simp))
   have key:∀ o b,rK o Z cy b→Z' b:=by
    intro o b hi
    cases o
    ·exact hZ b hi
    ·exact AV b hi
   exact ⟨g,h1,fun b hb=>(h2 b hb).elim (key _ b) (key _ b)⟩
 | Hf h _ ih=>
  intro Fd hh
  cases hh with
  | own h k=>exact h.elim
  | rd k=>
   refine .fact ?_ (ih hl hs k)
   obtain ⟨cy,hc,⟨⟨g,h1,h2⟩,_⟩,_⟩:=h.sound hs
   exact ⟨g,h1,fun b hb=>(h2 b hb).elim (hZ b) (hZ b)⟩
 | YQ h _ ih=>
  intro Fd hh
  cases hh with
  | own h k=>exact h.elim
  | aw k=>
   refine .fact ?_ (ih hl hs k)
   obtain ⟨h1,h2⟩:=h.sound hs
   exact ⟨h1,fun hn=>(h2 hn).elim (fun h=>hZ _ h.2) (fun h=>hl rfl _ h.2)⟩
 | YR h _ ih=>
  intro Fd hh
  cases hh with
  | own h k=>exact h.elim
  | aw k=>
   refine .fact ?_ (ih hl hs k)
   obtain ⟨h1,h2⟩:=h.sound hs
   exact ⟨h1,fun hn=>(h2 hn).elim (fun h=>hZ _ h.2) (fun h=>nomatch h.1)⟩
inductive EP:List ay→List ay→Prop
 | nil {Γ:QE}:EP Γ []
 | aw {p:Addr} {cs:LV} {o:Bool} {Γ Δ:QE} (h:qY Γ p cs o) (k:EP Γ Δ):EP Γ (.aw p cs :: Δ)
 | skip {e:ay} {Γ Δ:QE} (k:EP Γ Δ):EP Γ (e :: Δ)
inductive AW:qJ→List ay→Value→{α:Type}→ag α→List α→List ay→Prop
 | z {α:Type} {E:ag α} {v:Value} {x:List α} {Γ Γx:QE} (h:qw Γ v false false E x uA Γx):AW .z Γ v E x Γ
 | nil {α:Type} {E:ag α} {Γ:QE}:AW .nil Γ (.slice none 0 0) E [] Γ
 | own {α:Type} {E:ag α} {T:ag (List α)} {v:Value} {x:List α} {Γ Γ':QE} (h:dh Γ (.own T v x) Γ') (hr:RT T (bE E)):AW .own Γ v E x (.rd false (bE E) v x :: Γ')
 | om {α:Type} {t:TI} {E E1:ag α} {v:Value} {x:List α} {Γ Γ':QE} (h:dh Γ (.om t E1 v x) Γ') (hr:RT E1 E):AW .om Γ v E x (.rd false (bE E) v x :: Γ')
 | og {α:Type} {n:Nat} {e:TI} {S:ag α} {v:Value} {us:List (List Value)} {x:List α} {Γ Γ':QE} (h:dh Γ (.own (aI e (B5 n)) v us) Γ') (hg:In (.rd false (YP S) (.bool true) (us,x)) Γ) (hn:S.size=n):AW .og Γ v (rO S) x (.rd false (bE (rO S)) v x :: Γ')
inductive EF:List ay→List ay→List ay→Prop
 | nil {Γ:QE}:EF Γ [] Γ
 | own {l:qJ} {α:Type} {T:ag α} {v:Value} {x:α} {Γ Γ1 Γ2 Δ:QE} (hl:Loc Γ v l) (h:wS l Γ (.own T v x) Γ1) (k:EF Γ1 Δ Γ2):EF Γ (.own T v x :: Δ) Γ2
 | om {l:qJ} {α:Type} {t:TI} {E:ag α} {v:Value} {xs:List α} {Γ Γ1 Γ2 Δ:QE} (hl:Loc Γ v l) (h:wS l Γ (.om t E v xs) Γ1) (k:EF Γ1 Δ Γ2):EF Γ (.om t E v xs :: Δ) Γ2
 | row {b:Nat} {cs:LV} {t:TI} {Γ Γ1 Γ2 Δ:QE} (h:dh Γ (.row b cs t) Γ1) (k:EF Γ1 Δ Γ2):EF Γ (.row b cs t :: Δ) Γ2
 | rd {l:qJ} {α:Type} {E:ag α} {v:Value} {x:List α} {Γ Γ1 Γ2 Δ:QE} (hl:Loc Γ v l) (h:AW l Γ v E x Γ1) (k:EF Γ1 Δ Γ2):EF Γ (.rd false (bE E) v x :: Δ) Γ2
 | aw {p:Addr} {cs:LV} {Γ Γ2 Δ:QE} (h:qY Γ p cs false) (k:EF Γ Δ Γ2):EF Γ (.aw p cs :: Δ) Γ2
 | mp {κ υ:Type} {ek:κ→Value} {eu:υ→Value} {v:Value} {x:List (κ×υ)} {Γ Γ2 Δ:QE} (h:In (.rd false (o3 ek eu) v x) Γ) (k:EF Γ Δ Γ2):EF Γ (.rd false (o3 ek eu) v x :: Δ) Γ2
def qZ (Z:Nat→Prop) (f:LN):Nat→Prop:=fun b=>Z b∨b∈f
theorem SA.left (h:SA Z w Γ [] F):SA (qZ Z f) w Γ [] F:=h.mono (fun _ h=>.inl h) fun _ h=>h
theorem EM {f g:LN} (b:Nat):qZ (qZ Z f) g b↔qZ Z (f++g) b:=by
 unfold qZ; rw [List.mem_append,or_assoc]
theorem AW.sound {l:qJ} {α:Type} {E:ag α} {v:Value} {x:List α} (h:AW l Γ v E x Γ'):∀ {F:LN},SA Z w Γ [] F→∃ f F',(f++F').Perm F∧fact (qZ Z f) w [] (.rd false (bE E) v x)∧SA (qZ Z f) w Γ' [] F':=by
 cases h with
 | z h=>
  intro F hs
  obtain ⟨cy,_,⟨⟨g,h1,h2⟩,_⟩,_⟩:=h.sound hs
  exact ⟨[],F,.refl _,⟨g,h1,fun b hb=>.inl ((h2 b hb).elim id id)⟩,hs.left⟩
 | nil=>intro F hs; exact ⟨[],F,.refl _,⟨[],EI,fun _ h=>absurd h List.not_mem_nil⟩,hs.left⟩
 | own h hr=>
  intro F hs
  obtain ⟨f,F1,hp,ho,h1⟩:=h.sound hs
  have hf:fact (qZ Z f) w [] (.rd false (bE E) v x):=⟨f,hr.le.le ho,fun b hb=>.inr hb⟩
  exact ⟨f,F1,hp,hf,SA.fact h1.left hf⟩
 | om h hr=>
  intro F hs
  obtain ⟨f,F1,hp,ho,h1⟩:=h.sound hs
  obtain ⟨⟨g,hg,hb⟩,_⟩:=(FU ho).le hr.le
  have hf:fact (qZ Z f) w [] (.rd false (bE E) v x):=⟨g,hg,fun b hm=>(hb b hm).elim .inr .inl⟩
  exact ⟨f,F1,hp,hf,SA.fact h1.left hf⟩
 | @og _ n e S _ us _ _ Γ' h hg hn=>
  intro F hs
  obtain ⟨f,F1,hp,ho,h1⟩:=h.sound hs
  obtain ⟨g,Hi,pH⟩:=hg.rd hs []
  have LH:∀ b∈g,Z b:=pH
  have hf:fact (qZ Z f) w [] (.rd false (bE (rO S)) v x):=by
   obtain ⟨_,TE,_⟩:=Hi
   obtain ⟨base,cap,hv,hr⟩:=ho
   have hlen:=Oe TE
   rcases hr with ⟨rfl,rfl,e1,rfl⟩ | ⟨b,cur,f',rfl,h2,rfl,h4,h5,h6,h3⟩
   ·have e2:us=[]:=e1
    have ex:x=[]:=List.eq_nil_of_length_eq_zero (by rw [← hlen]; simp [e2])
    subst ex
    exact ⟨[],⟨none,0,by simpa [e2] using hv,.inl ⟨rfl,rfl⟩⟩,fun _ h=>absurd h List.not_mem_nil⟩
   ·refine ⟨b :: g,⟨_,cap,by rw [← hlen]; exact hv,.inr ⟨b,0,cur,e,(0,0),g,rfl,h2,rfl,by rw [← hlen]; exact h4,?_⟩⟩,fun i hi=>?_⟩
    ·have YU:=vp (Le.str (S:=S)) (M1 TE)
     have hc:cur.toList.take (us.length * (B5 n).size)=us.flatten:=(Ju h3).1
     have fg:(rO S).size=n:=hn
     rw [List.drop_zero,fg,← hlen]
     show db (rO S) w.heap (cur.toList.take (us.length * (B5 n).size)) x g
     rw [hc]
     exact YU
    ·rcases List.mem_cons.1 hi with rfl | hi
     ·exact .inr (by simp)
     ·exact .inl (LH i hi)
  exact ⟨f,F1,hp,hf,SA.fact h1.left hf⟩
theorem EF.sound (h:EF Γ Δ Γ'):∀ {Z:Nat→Prop} {F:LN},SA Z w Γ [] F→∃ Fd F' Zn,HL (qZ Z Zn) w Δ Fd∧SA (qZ Z Zn) w Γ' [] F'∧(Fd++F'++Zn).Perm F:=by
 induction h with
 | nil=>intro Z F h; exact ⟨[],F,[],.nil,h.left,by simp⟩
 | own hl h _ ih=>
  intro Z F hs
  obtain ⟨f,F1,hp,ho,h1⟩:=h.sound hl (by rintro _ _ _ _ h; cases h; rfl) hs
  obtain ⟨Fd,F',Zn,h2,h3,h4⟩:=ih h1
  exact ⟨f++Fd,F',Zn,.own (ho.mono fun _ h=>.inl h) h2,h3,by simp only [List.append_assoc] at h4 ⊢; exact (h4.append_left f).trans hp⟩
 | om hl h _ ih=>
  intro Z F hs
  obtain ⟨f,F1,hp,ho,h1⟩:=h.sound hl (by rintro _ _ _ _ h; cases h) hs
  obtain ⟨Fd,F',Zn,h2,h3,h4⟩:=ih h1
  exact ⟨f++Fd,F',Zn,.own (ho.mono fun _ h=>.inl h) h2,h3,by simp only [List.append_assoc] at h4 ⊢; exact (h4.append_left f).trans hp⟩
 | row h _ ih=>
  intro Z F hs
  obtain ⟨f,F1,hp,ho,h1⟩:=h.sound hs
  obtain ⟨Fd,F',Zn,h2,h3,h4⟩:=ih h1
  exact ⟨f++Fd,F',Zn,.own (ho.mono fun _ h=>.inl h) h2,h3,by simp only [List.append_assoc] at h4 ⊢; exact (h4.append_left f).trans hp⟩
 | rd hl h _ ih=>
  intro Z F hs
  obtain ⟨f,F1,hp,ho,h1⟩:=h.sound hs
  obtain ⟨Fd,F',Zn,h2,h3,h4⟩:=ih h1
  refine ⟨Fd,F',f++Zn,.fact (ho.mono (fun b hb=>hb.elim .inl fun h=>.inr (List.mem_append_left _ h)) fun _ h=>h) (h2.mono fun b=>(EM b).1),h3.mono (fun b=>(EM b).1) fun _ h=>h,?_⟩
  refine .trans ?_ ((h4.append_left f).trans hp)
  rw [← List.append_assoc,← List.append_assoc]
  exact (List.perm_append_comm (l₁:=Fd++F') (l₂:=f)).append_right Zn
 | aw h _ ih=>
  intro Z F hs
  obtain ⟨Fd,F',Zn,h2,h3,h4⟩:=ih hs
  obtain ⟨a,b⟩:=h.sound hs
  exact ⟨Fd,F',Zn,.fact ⟨a,fun hn=>.inl ((b hn).elim (fun h=>h.2) fun h=>nomatch h.1)⟩ h2,h3,h4⟩
 | mp h _ ih=>
  intro Z F hs
  obtain ⟨Fd,F',Zn,h2,h3,h4⟩:=ih hs
  obtain ⟨g,hk,hz⟩:=h.rd hs []
  exact ⟨Fd,F',Zn,.fact ⟨g,hk,fun b hb=>.inl (hz b hb)⟩ h2,h3,h4⟩
theorem Gd.freeze {Zn:LN} (h:Gd B Z (F++Zn) w) (bj:∀ b∈Zn,b < w.heap.size):Gd B (qZ Z Zn) F w:=by
 have dv:=List.nodup_append.1 h.nd
 refine ⟨dv.1,?_,?_,fun b hb=>h.low b (List.mem_append_left _ hb),fun b hb=>.inl (h.tC b hb),?_,h.iv⟩
 ·rintro b hb (hz | hz)
  ·exact h.apart b (List.mem_append_left _ hb) hz
  ·exact dv.2.2 b hb b hz rfl
 ·rintro b (hz | hz)
  ·exact h.qc b hz
  ·exact bj b hz
 ·rintro b (hz | hz)
  ·exact h.tD b hz
  ·exact .inr (h.low b (List.mem_append_right _ hz))
end
end Go.Dk
namespace Go.Dk
open Go Go.Li
structure Cx (R:Type) where
 n:Nat
 fn:Func
 V:Type
 ret:R→V→List Value
 post:R→V→List ay
inductive KI where
 | seq (c:Code)
 | xi (k:Nat)
inductive Kb (R:Type):Type→Type 1
 | top {S:Type}:Kb R S
 | Jv:Kb R R
 | loop {S:Type} (V:Type) (k:Nat) (Δ:S→V→List ay) (φ:S→V→Fr) (Γ2:QE) (f2:Fr):Kb R S
 | lx {S:Type} (V:Type) (k j:Nat) (Δ:S→V→List ay) (φ:S→V→Fr) (Γ2:QE) (f2:Fr):Kb R S
structure ch (R S:Type) where
 fi:List KI
 b:Kb R S
inductive RK (R:Type):Type→Type 1
 | n {S:Type} (K:ch R S):RK R (Out S R)
 | g (t:Nat) (f0:Fr):RK R Bool
 | s {S:Type} (K:ch R S):RK R (Out S R)
 | h {S:Type} (all tail:LO) (K:ch R S):RK R (Out S R)
inductive Jd (R:Type):Type 1
 | p (φ:Fr) (Δ:QE) (fr:Fr) (Γ:QE) (k:Fr→List ay→Jd R)
 | cs {β:Type} (y:β) (k:β→Jd R)
 | tp (vs:LV) (d:Nat) (fr:Fr) (k:Fr→Jd R)
 | c {S:Type} (K:ch R S) (c:Code) (Γ:QE) (fr:Fr) (m:Option (Out S R))
 | cd {S:Type} (b:Bool) (K:ch R S) (x y:Code) (Γ:QE) (fr:Fr) (m:Option (Out S R))
 | n {S:Type} (K:ch R S) (Γ:QE) (fr:Fr) (m:Option (Out S R))
 | x {S:Type} (k:Nat) (K:ch R S) (Γ:QE) (fr:Fr) (m:Option (Out S R))
 | xb {S:Type} (e:Bool) (k:Nat) (K:ch R S) (Γ:QE) (fr:Fr) (m:Option (Out S R))
 | bk {S:Type} (e:Bool) (k:Nat) (K:ch R S) (c:Code) (Γ:QE) (fr:Fr) (m:Option (Out S R))
 | dr {S:Type} (id:Nat) (ops:LO) (K:ch R S) (Γ:QE) (fr:Fr) (m:Option (Out S R))
 | rg {S:Type} (e:Bool) (draw:Bool) (ops:LO) (K:ch R S) (Γ:QE) (fr:Fr) (m:Option (Out S R))
 | rw {S:Type} (st:Bool) (ops:LO) (K:ch R S) (Γ:QE) (fr:Fr) (m:Option (Out S R))
 | o {M:Type} (q:Bool) (all ops:LO) (rk:RK R M) (Γ:QE) (fr:Fr) (m:Option M)
 | e {M:Type} (q:Bool) (op:Op) (d:Option Nat) (ty:TI) (all ops:LO) (rk:RK R M) (Γ:QE) (fr:Fr) (m:Option M)
 | gd {M:Type} (v:Value) (tt:Bool) (j t:Nat) (q:Bool) (op:Op) (d:Option Nat) (ty:TI) (all ops:LO) (rk:RK R M) (Γ:QE) (fr:Fr) (m:Option M)
 | mo {M:Type} (all ops:LO) (rk:RK R M) (Γ:QE) (fr:Fr) (m:Option M)
 | mn {S:Type} (K:ch R S) (Γ:QE) (fr:Fr) (m:Option (Out S R))
 | tg {S:Type} (q g:Bool) (all tail:LO) (K:ch R S) (Γ:QE) (fr:Fr) (m:Option (Out S R))
 | sl {M:Type} (l:qJ) (v:Value) (j:Int) (u:Value) (t:TI) (x y:OO) (ty:TI) (all ops:LO) (rk:RK R M) (Γ:QE) (fr:Fr) (m:Option M)
 | cz {M β V:Type} (o:Bool) (f:FuncId) (vs:LV) (op:Op) (d:Nat) (ty:TI) (Δ:QE) (mo:Option β) (rt:β→V→List Value) (ps:β→V→List ay) (all ops:LO) (rk:RK R M) (Γ:QE) (fr:Fr) (g:β→Option M)
 | fa (f:FuncId) (j:Jd R)
 | ia (t a:TI) (j:Jd R)
 | im (t:TI) (name:String) (j:FuncId→Jd R)
 | cv {M:Type} (f:FuncId) (vs:LV) (q:Bool) (op:Op) (d:Nat) (ty:TI) (all ops:LO) (rk:RK R M) (Γ:QE) (fr:Fr) (m:Option M)
 | la {M:Type} (a:Addr) (lk:Option Nat) (q:Bool) (ty:TI) (x:OO) (d:Nat) (all ops:LO) (rk:RK R M) (Γ:QE) (fr:Fr) (m:Option M)
 | ld {M α:Type} (E:ag α) (z:α) (a:Addr) (q:Bool) (ty:TI) (x:OO) (d:Nat) (all ops:LO) (rk:RK R M) (Γ:QE) (fr:Fr) (m:Option M)
 | ax {M α:Type} (E:ag α) (e t:TI) (bt:Nat) (xv sv:Value) (s x:OO) (d:Nat) (ty:TI) (all ops:LO) (rk:RK R M) (Γ:QE) (fr:Fr) (m:Option M)
 | ap {M α:Type} (E:ag α) (e t:TI) (bt:Nat) (u:Value) (b:Nat) (sv:Value) (s x:OO) (d:Nat) (ty:TI) (all ops:LO) (rk:RK R M) (Γ:QE) (fr:Fr) (m:Option M)
 | Of {M α:Type} (k:Bool) (e':TI) (E:ag α) (e t:TI) (bt:Nat) (u:Value) (b:Nat) (sv:Value) (s x:OO) (d:Nat) (ty:TI) (all ops:LO) (rk:RK R M) (Γ:QE) (fr:Fr) (m:Option M)
 | st {M:Type} (a:Addr) (u:Value) (n:Nat) (t:TI) (x y:OO) (ty:TI) (all ops:LO) (rk:RK R M) (Γ:QE) (fr:Fr) (m:Option M)
def Jw (P:Program) (t:TI) {α:Type} (e:TI) (E:ag α) (bt:Nat):Prop:=
 P.underlying t=some (.slice e)∧E.size=1∧∃ i z,P.info? e=some i∧i.zero=some z∧i.size=1∧z.oneCell'=true∧i.bytes=bt
section
variable {R:Type} (P:Program) (cx:Cx R) (B:Bs)
def Rr:R→Ending→World→Prop:=fun y e w=>∃ u:cx.V,e = .returned (qX (cx.ret y u))∧Hg B (cx.post y u) w
def TT:R→(Nat→Value)→World→Prop:=Tm P cx.fn cx.n (Rr cx B)
def LI {S V:Type} (Δ:S→V→List ay) (φ:S→V→Fr) (Γ2:QE) (f2:Fr):S→(Nat→Value)→World→Prop:=
 fun s r w=>∃ v:V,cf r ((φ s v).reverse++f2)∧St B ((Δ s v).reverse++Γ2) w
def FX {S:Type} (b:Kb R S) (o:Out S R):Exit→(Nat→Value)→World→Prop:=
 match S,b,o with
 | _,.top,o=>l7 (fun _ _ _=>False) (fun _ _ _ _=>False) (TT P cx B) o
 | _,.Jv,o=>l7 (TT P cx B) (fun _ _ _ _=>False) (TT P cx B) o
 | _,.loop _ k Δ φ Γ2 f2,o=>l7 (LI B Δ φ Γ2 f2) (fun j s r w=>bif Nat.beq j k then LI B Δ φ Γ2 f2 s r w else False) (TT P cx B) o
 | _,.lx _ k j Δ φ Γ2 f2,o=>l7 (LI B Δ φ Γ2 f2) (fun i s r w=>bif Nat.beq i k then LI B Δ φ Γ2 f2 s r w else bif Nat.beq i j then LI B Δ φ Γ2 f2 s r w else False) (TT P cx B) o
def x5 (n:Nat) (Q:Exit→(Nat→Value)→World→Prop):List KI→Exit→(Nat→Value)→World→Prop
 | []=>Q
 | .seq c :: fi=>andThen (W P n c (x5 n Q fi)) (x5 n Q fi)
 | .xi k :: fi=>BU k (x5 n Q fi)
def ir {S:Type} (K:ch R S) (o:Out S R):Exit→(Nat→Value)→World→Prop:=x5 P cx.n (FX P cx B K.b o) K.fi
def x6 {M:Type} (rk:RK R M) (o:M) (r:NV) (w:World):Prop:=
 match M,rk,o with
 | _,.n K,o=>ir P cx B K o .normal r w
 | _,.g t f0,o=>r t = .bool o∧cf r f0
 | _,.s K,o=>ir P cx B K o .normal r w
 | _,.h all tail K,o=>WL P all tail r w (ir P cx B K o .normal)
def run {M:Type} (q:Bool) (all l:LO) (rk:RK R M) (o:M) (r:NV) (w:World):Prop:=
 match q with
 | false=>WL P all l r w (x6 P cx B rk o)
 | true=>QL P (ao [] w) all l r fun r'=>∀ w',ao [] w w'→x6 P cx B rk o r' w'
def pQ {M:Type} (q:Bool) (oo:Oper) (all l:LO) (rk:RK R M) (o:M) (r:NV) (w:World):Prop:=
 match q with
 | false=>dq P oo r w fun v w'=>WL P all l (dw r oo.dst v) w' (x6 P cx B rk o)
 | true=>∃ v,TF P (ao [] w) oo r v∧QL P (ao [] w) all l (dw r oo.dst v) fun r'=>∀ w',ao [] w w'→x6 P cx B rk o r' w'
end
section
variable {R:Type} (P:Program) (cx:Cx R)
def ni:Jd R→Prop
 | .p φ Δ fr Γ k=>ni (k (φ.reverse++fr) (Δ.reverse++Γ))
 | .cs y k=>ni (k y)
 | .tp vs d fr k=>ni (k ((d,qX vs) :: fr))
 | .c K c Γ fr m=>∀ B o,m=some o→∀ r w,cf r fr→St B Γ w→W P cx.n c (ir P cx B K o) r w
 | .bk _ k K c Γ fr m=>∀ B o,m=some o→∀ r w,cf r fr→St B Γ w→W P cx.n (.block k c) (ir P cx B K o) r w
 | .dr id ops K Γ fr m=>∀ B o,m=some o→∀ r w,cf r fr→St B Γ w→W P cx.n (.region id ops.toArray true) (ir P cx B K o) r w
 | .cd b K x y Γ fr m=>∀ B o,m=some o→∀ r w,cf r fr→St B Γ w→(b=true→W P cx.n x (ir P cx B K o) r w)∧(b=false→W P cx.n y (ir P cx B K o) r w)
 | .n K Γ fr m=>∀ B o,m=some o→∀ r w,cf r fr→St B Γ w→ir P cx B K o .normal r w
 | .x k K Γ fr m=>∀ B o,m=some o→∀ r w,cf r fr→St B Γ w→ir P cx B K o (.exit k) r w
 | .xb e k K Γ fr m=>∀ B o,m=some o→∀ r w,cf r fr→St B Γ w→ir P cx B K o (bif e then .normal else .exit k) r w
 | .rg _ draw ops K Γ fr m=>cg cx.n ops=true→(draw=true→P.follows .mixedOrders=true∧Region.lexB .any ops.toArray=true)→∀ B o,m=some o→∀ r w,cf r fr→St B Γ w→∀ id,W P cx.n (.region id ops.toArray draw) (ir P cx B K o) r w
 | .rw _ ops K Γ fr m=>cg cx.n ops=true→∀ B o,m=some o→∀ r w,cf r fr→St B Γ w→∀ id,W P cx.n (.region id ops.toArray false) (ir P cx B K o) r w
 | .o q all ops rk Γ fr m=>∀ B o,m=some o→∀ r w,cf r fr→St B Γ w→run P cx B q all ops rk o r w
 | .e q op d ty all ops rk Γ fr m=>∀ B o,m=some o→∀ r w,cf r fr→St B Γ w→∀ pos ae g,pQ P cx B q ⟨d,op,ty,pos,ae,g⟩ all ops rk o r w
 | .gd v tt j t q op d ty all ops rk Γ fr m=>bg all j=some t→look fr t=some v→∀ B o,m=some o→∀ r w,cf r fr→St B Γ w→∀ pos ae,run P cx B q all (⟨d,op,ty,pos,ae,some (j,tt)⟩ :: ops) rk o r w
 | .mo all ops rk Γ fr m=>∀ B o,m=some o→∀ r w,cf r fr→St B Γ w→run P cx B false all ops rk o r w
 | .tg q _ all tail K Γ fr m=>∀ B o,m=some o→∀ r w,cf r fr→St B Γ w→run P cx B q all tail (.n K) o r w
 | .mn K Γ fr m=>∀ B o,m=some o→∀ r w,cf r fr→St B Γ w→ir P cx B K o .normal r w
 | .sl l v j u t x y ty all ops rk Γ fr m=>(∃ i,P.info? t=some i∧i.size=1)→bx fr x=some (.pointer (some (ep v 1 j)))→bx fr y=some u→Loc Γ v l→∀ B o,m=some o→∀ r w,cf r fr→St B Γ w→∀ pos ae g,pQ P cx B false ⟨none,.store t x y,ty,pos,ae,g⟩ all ops rk o r w
 | .cz ow f vs op d ty Δ mo rt ps all ops rk Γ fr g=>Ct P f ow mo vs Δ rt ps→∀ B o,(mo>>=g)=some o→∀ r w,cf r fr→St B Γ w→∀ pos ae gg,(∀ w',(execOp (ev r) ⟨some d,op,ty,pos,ae,gg⟩).run P w' = .ok (.enter f vs.toArray) w')→pQ P cx B false ⟨some d,op,ty,pos,ae,gg⟩ all ops rk o r w
 | .fa f j=>UJ P f∧ni j
 | .ia t a j=>IA P t a∧ni j
 | .im t name j=>∃ f,IM P t name f∧ni (j f)
 | .cv f vs q op d ty all ops rk Γ fr m=>∀ B o,m=some o→∀ r w,cf r fr→St B Γ w→∀ pos ae g,(∀ w',(execOp (ev r) ⟨some d,op,ty,pos,ae,g⟩).run P w' = .ok (.enter f vs.toArray) w')→pQ P cx B q ⟨some d,op,ty,pos,ae,g⟩ all ops rk o r w
 | .la a lk q ty x d all ops rk Γ fr m=>(match lk with | none=>NA P ty | some n=>AG P ty n)→bx fr x=some (.pointer (some a))→∀ B o,m=some o→∀ r w,cf r fr→St B Γ w→∀ t pos ae g,pQ P cx B q ⟨some d,.load ty x,t,pos,ae,g⟩ all ops rk o r w
 | .ld E z a q ty x d all ops rk Γ fr m=>NA P ty→bx fr x=some (.pointer (some a))→∀ B o,m=some o→∀ r w,cf r fr→St B Γ w→(∃ u g,w.cell? a=some u∧E.rep w.heap [u] z g)→∀ t pos ae g,pQ P cx B q ⟨some d,.load ty x,t,pos,ae,g⟩ all ops rk o r w
 | .ax E e t bt xv sv s x d ty all ops rk Γ fr m=>Jw P t e E bt→bx fr s=some sv→bx fr x=some xv→∀ B o,m=some o→∀ r w,cf r fr→St B Γ w→∀ pos ae g,pQ P cx B false ⟨some d,.call ⟨.builtin .append,#[s,x],#[t,t]⟩,ty,pos,ae,g⟩ all ops rk o r w
 | .ap E e t bt _ b sv s x d ty all ops rk Γ fr m=>Jw P t e E bt→bx fr s=some sv→bx fr x=some (.slice (some ⟨b,0,none⟩) 1 1)→∀ B o,m=some o→∀ r w,cf r fr→St B Γ w→∀ pos ae g,pQ P cx B false ⟨some d,.call ⟨.builtin .append,#[s,x],#[t,t]⟩,ty,pos,ae,g⟩ all ops rk o r w
 | .Of _ e' E e t bt _ b sv s x d ty all ops rk Γ fr m=>Jw P t e (aI e' E) bt→bx fr s=some sv→bx fr x=some (.slice (some ⟨b,0,none⟩) 1 1)→∀ B o,m=some o→∀ r w,cf r fr→St B Γ w→∀ pos ae g,pQ P cx B false ⟨some d,.call ⟨.builtin .append,#[s,x],#[t,t]⟩,ty,pos,ae,g⟩ all ops rk o r w
 | .st a u n t x y ty all ops rk Γ fr m=>(∃ i,P.info? t=some i∧i.size=n)→bx fr x=some (.pointer (some a))→bx fr y=some u→∀ B o,m=some o→∀ r w,cf r fr→St B Γ w→∀ pos ae g,pQ P cx B false ⟨none,.store t x y,ty,pos,ae,g⟩ all ops rk o r w
end
section
variable {R:Type} {P:Program} {cx:Cx R} {B:Bs} {S:Type}
theorem Hj {n:Nat} {Q:Exit→(Nat→Value)→World→Prop} {r:NV} {w:World} (h:Q .ret r w):∀ fi,x5 P n Q fi .ret r w:=by
 intro fi
 induction fi with
 | nil=>exact h
 | cons a fi ih=>cases a <;> exact ih
theorem Hk {b:Kb R S} {y:R} {r:NV} {w:World} (h:TT P cx B y r w):FX P cx B b (.ret y) .ret r w:=by
 cases b <;> exact h
theorem uB {K:ch R S} {y:R} {r:NV} {w:World} (h:TT P cx B y r w):ir P cx B K (.ret y) .ret r w:=Hj (Hk h) _
theorem dj {M:Type} {q:Bool} {all l:LO} {rk:RK R M} {o:M} {r:NV} {w:World} {d:Option Nat} {op:Op} {ty:TI} {pos:String} {ae:Array Edge} {g:Option (Nat×Bool)} {v:Value}
  (h:Rd P w r ⟨d,op,ty,pos,ae,g⟩ v) (k:run P cx B q all l rk o (dw r d v) w):pQ P cx B q ⟨d,op,ty,pos,ae,g⟩ all l rk o r w:=by
 cases q with
 | false=>unfold pQ dq; rw [h w (ao.refl _ _)]; exact k
 | true=>exact ⟨v,fun w' hC=>by unfold Oper.quietUpon; rw [h w' hC]; exact ⟨rfl,rfl⟩,k⟩
theorem yM {M:Type} {q:Bool} {all l:LO} {rk:RK R M} {o:M} {r:NV} {w:World} {oo:Oper}
  (hw:Region.wanted oo (yl all r)=true) (k:pQ P cx B q oo all l rk o r w):run P cx B q all (oo :: l) rk o r w:=by
 cases q with
 | false=>exact .inl ⟨hw,k⟩
 | true=>obtain ⟨v,h1,h2⟩:=k; exact .inl ⟨hw,v,h1,h2⟩
theorem B7 {M:Type} {q:Bool} {all l:LO} {rk:RK R M} {o:M} {r:NV} {w:World} {oo:Oper}
  (hw:Region.wanted oo (yl all r)=false) (k:run P cx B q all l rk o (dw r oo.dst undef) w):run P cx B q all (oo :: l) rk o r w:=by
 cases q with
 | false=>exact .inr ⟨hw,k⟩
 | true=>exact .inr ⟨hw,k⟩
theorem qx {oo:Oper} {y:Nat→Option Bool} (h:oo.guard=none):Region.wanted oo y=true:=by unfold Region.wanted; rw [h]
theorem FY {all:LO} {j t:Nat} {r:NV} (h:bg all j=some t):yl all r j=match r t with | .bool b=>some b | _=>none:=by
 unfold yl
 unfold bg at h
 rw [h]
 show (match r t with | .bool b=>some b | _=>none)=_
 cases r t <;> rfl
theorem uC {all:LO} {j t:Nat} {r:NV} {oo:Oper} {b tt:Bool} (hg:oo.guard=some (j,tt)) (h:bg all j=some t) (hr:r t = .bool b):Region.wanted oo (yl all r)=(b == tt):=
 uD hg (by rw [FY h,hr])
end
end Go.Dk
namespace Go.Dk
open Go Go.Li
class LJ (P:Program) (t:TI):Prop where
 h:P.underlying t=some (.pointer (P.pointee t))
class TG (P:Program) (t:TI):Prop where
 h:P.underlying t=some .bool
class LM (P:Program) (t:TI) (k0 k1:outParam IntKind):Prop where
 h : ∃ f0 f1, P.underlying t = some (.struct #[f0, f1]) ∧ f0.name ≠ "_" ∧ f1.name ≠ "_" ∧ P.underlying f0.type = some (.int k0) ∧ P.underlying f1.type = some (.int k1) ∧ f0.offset = 0 ∧ f1.offset = 1 ∧ P.stoodInHeld t = false ∧ P.eqGuardType P.depth t = false
inductive EN (P:Program):TypeId→Value→Value→Bool→Prop
 | int {t:TI} {k:IntKind} {a b:Int}:EN P t (.int k a) (.int k b) (a == b)
 | bool {t:TI} {a b:Bool} [h:TG P t]:EN P t (.bool a) (.bool b) (a == b)
 | Jx {t:TI} {a:Addr} [h:LJ P t]:EN P t (.pointer (some a)) (.pointer none) false
 | Jy {t:TI} [h:LJ P t]:EN P t (.pointer none) (.pointer none) true
 | s2 {t:TI} {k0 k1:IntKind} {a b c e:Int} [h:LM P t k0 k1]:EN P t (.agg #[.int k0 a,.int k1 b]) (.agg #[.int k0 c,.int k1 e]) (a == c && b == e)
inductive ES (P:Program):TypeId→Value→Value→Bool→Prop
 | int {t:TI} {k:IntKind} {a b:Int}:ES P t (.int k a) (.int k b) (a != b)
 | bool {t:TI} {a b:Bool} [h:TG P t]:ES P t (.bool a) (.bool b) (!(a == b))
 | Jx {t:TI} {a:Addr} [h:LJ P t]:ES P t (.pointer (some a)) (.pointer none) true
 | Jy {t:TI} [h:LJ P t]:ES P t (.pointer none) (.pointer none) false
 | s2 {t:TI} {k0 k1:IntKind} {a b c e:Int} [h:LM P t k0 k1]:ES P t (.agg #[.int k0 a,.int k1 b]) (.agg #[.int k0 c,.int k1 e]) (!(a == c && b == e))
class LK (P:Program) (t:TI) (k:outParam (Option Nat)):Prop where
 h:match k with | none=>NA P t | some n=>AG P t n
class wU (P:Program) (t:TI):Prop where
 h:SL P t
class jo (P:Program) (s k:Nat) (off:outParam Nat):Prop where
 h:FA P s k off
class bm (P:Program) (f:FuncId):Prop where
 h : ∃ fn c, P.funcs[f]? = some fn ∧ fn.body = some c ∧ (fn.name == "runtime.NumGoroutine") = false
inductive yN:Addr→Nat→Addr→Prop
 | lit {b o off:Nat}:yN ⟨b,o,none⟩ off ⟨b,o+off,none⟩
 | zero {p:Addr}:yN p 0 p
 | add {p:Addr} {off:Nat}:yN p off (p.add off)
theorem yN.eq {p q:Addr} {off:Nat} (h:yN p off q):q=p.add off:=by
 cases h with
 | lit=>rw [iy]
 | zero=>rfl
 | add=>rfl
class pI (P:Program) (t:TI) (α:outParam Type) (e:outParam TypeId) (E:outParam (ag α)) (z0:outParam α) (bt:outParam Nat):Prop where
 h:P.underlying t=some (.slice e)∧E.size=1∧∃ i z,P.info? e=some i∧i.zero=some z∧i.size=1∧z.oneCell'=true∧i.bytes=bt∧∀ h,E.rep h [z] z0 []
class sg (P:Program) (t:TI) (n:outParam Nat):Prop where
 h:∃ i,P.info? t=some i∧i.size=n
class uE (P:Program) (t:TI) (cs:outParam (List Value)):Prop where
 h:∃ i z,P.info? t=some i∧i.zero=some z∧z.cells.toList=cs
inductive Has (v:Value):List ay→Prop
 | own {α:Type} {T:ag α} {x:α} {Γ:QE}:Has v (.own T v x :: Γ)
 | om {α:Type} {t:TI} {E:ag α} {xs:List α} {Γ:QE}:Has v (.om t E v xs :: Γ)
 | rd {o:Bool} {α:Type} {T:ag α} {x:α} {Γ:QE}:Has v (.rd o T v x :: Γ)
 | there {e:ay} {Γ:QE} (h:Has v Γ):Has v (e :: Γ)
inductive One (Γ:QE):Value→Prop
 | int {k:IntKind} {a:Int}:One Γ (.int k a)
 | bool {a:Bool}:One Γ (.bool a)
 | ptr {a:Option Addr}:One Γ (.pointer a)
 | sl {a:Option Addr} {n c:Nat}:One Γ (.slice a n c)
 | fn {f:Fn} {as bs:Array Value}:One Γ (.func f as bs)
 | nf:One Γ .nilFunc
 | var {v:Value} (h:Has v Γ):One Γ v
inductive tE (Γ:QE):List Value→Prop
 | nil:tE Γ []
 | cons {v:Value} {l:LV} (h:One Γ v) (k:tE Γ l):tE Γ (v :: l)
inductive pR (Γ:QE):Value→List Value→Prop
 | agg {cs:LV}:pR Γ (.agg cs.toArray) cs
 | one {v:Value} (h:One Γ v):pR Γ v [v]
inductive qA:List Value→Nat→List Value→List Value→Prop
 | nil {cs:LV}:qA [] 0 cs cs
 | put {u c:Value} {us cs ds:LV} (h:qA us 0 cs ds):qA (u :: us) 0 (c :: cs) (u :: ds)
 | s {c:Value} {us cs ds:LV} {j:Nat} (h:qA us j cs ds):qA us (j+1) (c :: cs) (c :: ds)
inductive q8:Nat→Nat→List Value→List Value→Prop
 | z {cs:LV}:q8 0 0 cs []
 | c {n:Nat} {c:Value} {cs ds:LV} (h:q8 0 n cs ds):q8 0 (n+1) (c :: cs) (c :: ds)
 | s {j n:Nat} {c:Value} {cs ds:LV} (h:q8 j n cs ds):q8 (j+1) n (c :: cs) ds
inductive rQ:List ay→Addr→Nat→List Value→Prop
 | row {b j n:Nat} {cs ds:LV} {t:TI} {Γ:QE} (h:q8 j n cs ds):rQ (.row b cs t :: Γ) ⟨b,j,none⟩ n ds
 | at {p:Addr} {j n:Nat} {cs ds:LV} {Γ:QE} (h:q8 j n cs ds):rQ (.aw p cs :: Γ) (p.add j) n ds
 | He {p:Addr} {n:Nat} {cs ds:LV} {Γ:QE} (h:q8 0 n cs ds):rQ (.aw p cs :: Γ) p n ds
 | there {a:Addr} {n:Nat} {ds:LV} {e:ay} {Γ:QE} (h:rQ Γ a n ds):rQ (e :: Γ) a n ds
class xj (P:Program) (t:TI) (zc:outParam (List Value)) (pl:outParam (List (Nat×Nat))):Prop where
 h:∃ fs i z,P.underlying t=some (.struct fs)∧fs.toList.mapM (fun f=>(P.info? f.type).map fun i=>(f.offset,i.size))=some pl∧P.info? t=some i∧i.zero=some z∧z.cells.toList=zc
def B8:List (Nat×Nat)→Nat→Option (Nat×Nat)
 | [],_=>none
 | a :: _,0=>some a
 | _ :: l,n+1=>B8 l n
inductive sY (Γ:QE) (fr:Fr) (pl:List (Nat×Nat)):List (Nat×Operand)→List Value→List Value→Prop
 | nil {cs:LV}:sY Γ fr pl [] cs cs
 | cons {i off k:Nat} {x:OO} {v:Value} {us cs ds es:LV} {ps:List (Nat×Operand)} (hp:B8 pl i=some (off,k)) (hx:bx fr x=some v) (hc:pR Γ v us) (hl:us.length=k) (hs:qA us off cs ds) (h:sY Γ fr pl ps ds es):sY Γ fr pl ((i,x) :: ps) cs es
class AX (P:Program) (t:TI) (e:outParam TypeId):Prop where
 h:P.underlying t=some (.slice e)∧∃ i z,P.info? e=some i∧i.zero=some z∧i.size=1
class ET (P:Program) (t:TI) (e:outParam TypeId):Prop where
 h:P.underlying t=some (.slice e)∧∃ i z,P.info? e=some i∧i.zero=some z∧i.size=1
inductive rR (Γ:QE) (fr:Fr):Nat→List (Nat×Operand)→List Value→Prop
 | nil {k:Nat}:rR Γ fr k [] []
 | cons {k:Nat} {x:OO} {u:Value} {ps:List (Nat×Operand)} {us:LV} (hx:bx fr x=some u) (ho:One Γ u) (h:rR Γ fr (k+1) ps us):rR Γ fr k ((k,x) :: ps) (u :: us)
class YV (P:Program) (t:TI) (n:outParam Nat):Prop where
 h:∃ e i,P.underlying t=some (.slice e)∧P.info? e=some i∧i.size=n
inductive TH {α:Type} (S:ag α) (V:Type) (cl:α→V→List Value) (en:α→V→List ay):Prop
 | mk [h:SO S V cl en]:TH S V cl en
class YW (P:Program) (t:TI) (e n:outParam Nat):Prop where
 h:P.underlying t=some (.slice e)∧∃ i z,P.info? e=some i∧i.zero=some z∧i.size=n∧0 < n
inductive vV (Γ:QE) (fr:Fr) (n:Nat):Nat→List (Nat×Operand)→List Value→Prop
 | nil {k:Nat}:vV Γ fr n k [] []
 | cons {k:Nat} {x:OO} {v:Value} {cs us ws:LV} {ps:List (Nat×Operand)} (hx:bx fr x=some v) (hc:pR Γ v cs) (hl:cs.length=n) (h:vV Γ fr n (k+1) ps us) (ha:gp cs us ws):vV Γ fr n k ((k,x) :: ps) ws
def LP:ag Nat where
 size:=1
 rep _ cs n f:=(∃ a c,cs=[.slice a n c])∧f=[]
 len:=by rintro h cs x f ⟨⟨a,c,rfl⟩,_⟩; rfl
 one:=by rintro h cs x f ⟨⟨a,c,rfl⟩,_⟩ v hv; simp at hv; subst hv; rfl
 congr:=fun h _=>h
 lt:=by rintro h cs x f ⟨_,rfl⟩ b hb; cases hb
inductive sL:List ay→Value→Nat→Prop
 | lit {a:Option Addr} {n c:Nat} {Γ:QE}:sL Γ (.slice a n c) n
 | ln {o:Bool} {v:Value} {n:Nat} {Γ:QE}:sL (.rd o LP v n :: Γ) v n
 | rd {o:Bool} {α:Type} {E:ag α} {T:ag (List α)} {v:Value} {x:List α} {Γ:QE} (h:RT T (bE E)):sL (.rd o T v x :: Γ) v x.length
 | own {α:Type} {E:ag α} {T:ag (List α)} {v:Value} {x:List α} {Γ:QE} (h:RT T (bE E)):sL (.own T v x :: Γ) v x.length
 | om {α:Type} {t:TI} {E:ag α} {v:Value} {xs:List α} {Γ:QE}:sL (.om t E v xs :: Γ) v xs.length
 | there {v:Value} {n:Nat} {e:ay} {Γ:QE} (h:sL Γ v n):sL (e :: Γ) v n
inductive EU:List ay→Value→Bool→Prop
 | nil {Γ:QE}:EU Γ (.slice none 0 0) true
 | own {α:Type} {T:ag α} {v:Value} {x:α} {Γ:QE}:EU (.own T v x :: Γ) v true
 | rd {o:Bool} {α:Type} {T:ag α} {v:Value} {x:α} {Γ:QE}:EU (.rd o T v x :: Γ) v false
 | there {v:Value} {k:Bool} {e:ay} {Γ:QE} (h:EU Γ v k):EU (e :: Γ) v k
inductive Rg (v:Value) (j:Int):List ay→Prop
 | ad {o1 o2:Bool} {α:Type} {T:ag α} {x:α} {Γ:QE}:Rg v j (.ad o1 o2 v j T x :: Γ)
 | there {e:ay} {Γ:QE} (h:Rg v j Γ):Rg v j (e :: Γ)
inductive u9 (P:Program) (fr:Fr) (Γ:QE):List ResultVar→List Value→Prop
 | nil:u9 P fr Γ [] []
 | tmp {t:Nat} {v:Value} {l:List ResultVar} {vs:LV} (h:look fr t=some v) (k:u9 P fr Γ l vs):u9 P fr Γ (.tmp t :: l) (v :: vs)
 | cell {t n:Nat} {ty:TI} {a:Addr} {ds vs:LV} {l:List ResultVar} [ht:LK P ty (some n)] (h:look fr t=some (.pointer (some a))) (hw:rQ Γ a n ds) (k:u9 P fr Γ l vs):u9 P fr Γ (.cell t ty :: l) (.agg ds.toArray :: vs)
def vW:List Oper→Bool
 | []=>false
 | ⟨_,_,_,_,_,none⟩ :: l=>vW l
 | ⟨_,_,_,_,_,some _⟩ :: _=>true
def Og:List Oper→Bool
 | []=>false
 | ⟨none,_,_,_,_,_⟩ :: _=>true
 | ⟨some _,.buildSlice _ _ _,_,_,_,_⟩ :: _=>true
 | ⟨some _,.makeSlice _ _ _,_,_,_,_⟩ :: _=>true
 | ⟨some _,.alloc _,_,_,_,_⟩ :: _=>true
 | ⟨some _,.box _ _,_,_,_,_⟩ :: _=>true
 | _ :: l=>Og l
def zi:List Oper→Option Nat
 | []=>none
 | [⟨d,_,_,_,_,_⟩]=>d
 | _ :: l=>zi l
def tF (l:LO):List Nat:=l.filterMap (·.dst)
def fq (t:Nat):List Nat→Bool
 | []=>false
 | a :: l=>bif Nat.beq t a then true else fq t l
inductive Kp:List Nat→Option (Bool×Nat×Value)→Fr→Fr→Prop
 | nil {ws:LN}:Kp ws none [] []
 | cons {ws:LN} {t:Nat} {v:Value} {f u:Fr} (h:Kp ws (some (fq t ws,t,v)) f u):Kp ws none ((t,v) :: f) u
 | drop {ws:LN} {t:Nat} {v:Value} {f u:Fr} (h:Kp ws none f u):Kp ws (some (true,t,v)) f u
 | cw {ws:LN} {t:Nat} {v:Value} {f u:Fr} (h:Kp (t :: ws) none f u):Kp ws (some (false,t,v)) f ((t,v) :: u)
inductive DT:{α:Type}→ag α→Prop
 | i {k:IntKind}:DT (aJ k)
 | b:DT uy
 | own {α:Type} {e:TI} {E:ag α} (h:DT E):DT (aI e E)
inductive uF (e:ay):List ay→Prop
 | here {Γ:QE}:uF e (e :: Γ)
 | rd {o:Bool} {α:Type} {T:ag α} {v:Value} {x:α} {Γ:QE} (h:uF e Γ):uF e (.rd o T v x :: Γ)
 | ad {o1 o2:Bool} {v:Value} {j:Int} {α:Type} {T:ag α} {x:α} {Γ:QE} (h:uF e Γ):uF e (.ad o1 o2 v j T x :: Γ)
 | hd {v u:Value} {j:Int} {Γ:QE} (h:uF e Γ):uF e (.hd v j u :: Γ)
 | aw {p:Addr} {cs:LV} {Γ:QE} (h:uF e Γ):uF e (.aw p cs :: Γ)
 | row {b:Nat} {cs:LV} {t:TI} {Γ:QE} (h:uF e Γ):uF e (.row b cs t :: Γ)
inductive EV {α:Type} (T:ag α) (v:Value) (x:α) (e:ay):List ay→Prop
 | here {Γ:QE} (h:uF e Γ):EV T v x e (.own T v x :: Γ)
 | there {a:ay} {Γ:QE} (h:EV T v x e Γ):EV T v x e (a :: Γ)
inductive MF (Γ:QE):Option ay→List ay→Prop
 | nil {o:Option ay}:MF Γ o []
 | own {o:Option ay} {α:Type} {T:ag α} {v:Value} {x:α} {Δ:QE} (k:MF Γ (some (.own T v x)) Δ):MF Γ o (.own T v x :: Δ)
 | om {o:Option ay} {α:Type} {t:TI} {E:ag α} {v:Value} {xs:List α} {Δ:QE} (k:MF Γ none Δ):MF Γ o (.om t E v xs :: Δ)
 | row {o:Option ay} {b:Nat} {cs:LV} {t:TI} {Δ:QE} (k:MF Γ o Δ):MF Γ o (.row b cs t :: Δ)
 | dn {o:Option ay} {α:Type} {e:TI} {E:ag α} {v u:Value} {xs:List α} {j:Int} {Δ:QE} (k:MF Γ none Δ):MF Γ o (.dn e E v xs j u :: Δ)
 | rd {o:Option ay} {α:Type} {T:ag α} {v:Value} {x:α} {Δ:QE} (h:In (.rd false T v x) Γ) (k:MF Γ o Δ):MF Γ o (.rd false T v x :: Δ)
 | B3 {α β:Type} {T:ag α} {v u:Value} {x:α} {T':ag β} {z:β} {Δ:QE} (hd:DT T) (h:EV T v x (.rd true T' u z) Γ) (k:MF Γ (some (.own T v x)) Δ):MF Γ (some (.own T v x)) (.rd true T' u z :: Δ)
 | aw {o:Option ay} {p:Addr} {cs:LV} {Δ:QE} (h:In (.aw p cs) Γ) (k:MF Γ o Δ):MF Γ o (.aw p cs :: Δ)
inductive gu:List ay→List ay→Prop
 | nil:gu [] []
 | own {α:Type} {T:ag α} {v:Value} {x:α} {Γ Δ:QE} (k:gu Γ Δ):gu (.own T v x :: Γ) (.own T v x :: Δ)
 | om {α:Type} {t:TI} {E:ag α} {v:Value} {xs:List α} {Γ Δ:QE} (k:gu Γ Δ):gu (.om t E v xs :: Γ) (.om t E v xs :: Δ)
 | row {b:Nat} {cs:LV} {t:TI} {Γ Δ:QE} (k:gu Γ Δ):gu (.row b cs t :: Γ) (.row b cs t :: Δ)
 | Hf {α:Type} {T:ag α} {v:Value} {x:α} {Γ Δ:QE} (k:gu Γ Δ):gu (.rd false T v x :: Γ) (.rd false T v x :: Δ)
 | B3 {α:Type} {T:ag α} {v:Value} {x:α} {Γ Δ:QE} (k:gu Γ Δ):gu (.rd true T v x :: Γ) (.rd true T v x :: Δ)
 | ad {o1 o2:Bool} {v:Value} {j:Int} {α:Type} {T:ag α} {x:α} {Γ Δ:QE} (k:gu Γ Δ):gu (.ad o1 o2 v j T x :: Γ) Δ
 | aw {p:Addr} {cs:LV} {Γ Δ:QE} (k:gu Γ Δ):gu (.aw p cs :: Γ) (.aw p cs :: Δ)
 | hd {v u:Value} {j:Int} {Γ Δ:QE} (k:gu Γ Δ):gu (.hd v j u :: Γ) Δ
 | dn {α:Type} {e:TI} {E:ag α} {v u:Value} {xs:List α} {j:Int} {Γ Δ:QE} (k:gu Γ Δ):gu (.dn e E v xs j u :: Γ) (.dn e E v xs j u :: Δ)
inductive zj:Type→Prop
 | unit:zj Unit
 | val:zj Value
 | nat:zj Nat
 | pair {V W:Type} (h:zj V) (k:zj W):zj (V×W)
theorem zj.ne {V:Type} (h:zj V):Nonempty V:=by
 induction h with
 | unit=>exact ⟨()⟩
 | val=>exact ⟨.nilFunc⟩
 | nat=>exact ⟨0⟩
 | pair _ _ i j=>obtain ⟨a⟩:=i; obtain ⟨b⟩:=j; exact ⟨(a,b)⟩
inductive CS:{β:Type}→β→(β→Prop)→Prop
 | pair {A B:Type} {y:Option A×B} {p:Option A×B→Prop} (h0:∀ z,CS z fun z=>p (none,z)) (h1:∀ a z,CS z fun z=>p (some a,z)):CS y p
 | opt {A:Type} {y:Option A} {p:Option A→Prop} (h0:p none) (h1:∀ a,p (some a)):CS y p
 | any {β:Type} {y:β} {p:β→Prop} (h:p y):CS y p
theorem CS.sound {β:Type} {y:β} {p:β→Prop} (h:CS y p):p y:=by
 induction h with
 | @pair A B y p _ _ i0 i1=>
  obtain ⟨a,z⟩:=y
  cases a with
  | none=>exact i0 z
  | some a=>exact i1 a z
 | @opt A y p h0 h1=>
  cases y with
  | none=>exact h0
  | some a=>exact h1 a
 | any h=>exact h
inductive OW (Γ:QE):List ay→Prop
 | nil:OW Γ []
 | own {α:Type} {T:ag α} {v:Value} {x:α} {Δ:QE} (k:OW Γ Δ):OW Γ (.own T v x :: Δ)
 | om {α:Type} {t:TI} {E:ag α} {v:Value} {xs:List α} {Δ:QE} (k:OW Γ Δ):OW Γ (.om t E v xs :: Δ)
 | row {b:Nat} {cs:LV} {t:TI} {Δ:QE} (k:OW Γ Δ):OW Γ (.row b cs t :: Δ)
 | rd {α:Type} {T:ag α} {v:Value} {x:α} {Δ:QE} (h:In (.rd false T v x) Γ) (k:OW Γ Δ):OW Γ (.rd false T v x :: Δ)
inductive FO:List ay→Prop
 | nil:FO []
 | rd {o:Bool} {α:Type} {T:ag α} {v:Value} {x:α} {Δ:QE} (k:FO Δ):FO (.rd o T v x :: Δ)
 | aw {p:Addr} {cs:LV} {Δ:QE} (k:FO Δ):FO (.aw p cs :: Δ)
class Hl (P:Program) (t:TI) (κ υ:outParam Type) (bq:outParam (BEq κ)) (ek:outParam (κ→Value)) (eu:outParam (υ→Value)):Prop where
 h:∃ kt vt kd,P.underlying t=some (.map kt vt)∧P.underlying kt=some kd∧Ky ek kd
class Oh (P:Program) (t:TI) (υ:Type) (eu:υ→Value) (z0:outParam υ):Prop where
 h:∃ kt vt i,P.underlying t=some (.map kt vt)∧P.info? vt=some i∧i.zero=some (eu z0)
class TJ (P:Program) (s t:TI) (k:outParam IntKind):Prop where
 h:(P.underlying s).isSome=true∧P.underlying t=some (.int k)
class TK (P:Program) (s t:TI):Prop where
 h:∃ e,P.underlying s=some (.slice e)∧P.underlying e=some (.int .u8)∧P.underlying t=some .string
inductive yt (k:IntKind):List Value→List Int→Prop
 | nil:yt k [] []
 | cons {a:Int} {us:LV} {xs:List Int} (h:yt k us xs):yt k (.int k a :: us) (a :: xs)
inductive zk:List ay→{α:Type}→ag α→Value→α→List ay→Prop
 | int {k:IntKind} {a:Int} {Γ:QE}:zk Γ (aJ k) (.int k a) a Γ
 | bool {a:Bool} {Γ:QE}:zk Γ uy (.bool a) a Γ
 | lit {b n:Nat} {us:LV} {k:IntKind} {xs:List Int} {e:TI} {Γ Γ1:QE} (h0:dh Γ (.row b us e) Γ1) (h1:yt k us xs) (hn:us.length=n) (hb:Nat.ble n 16777216=true):zk Γ (aI e (aJ k)) (.slice (some ⟨b,0,none⟩) n n) xs Γ1
 | own {α:Type} {T:ag α} {v:Value} {x:α} {Γ Γ1:QE} (h:dh Γ (.own T v x) Γ1):zk Γ T v x Γ1
inductive EW:List ay→{α:Type}→ag α→List Value→List α→List ay→Prop
 | nil {α:Type} {E:ag α} {Γ:QE}:EW Γ E [] [] Γ
 | cons {α:Type} {E:ag α} {u:Value} {x:α} {us:LV} {xs:List α} {Γ Γ1 Γ2:QE} (h:zk Γ E u x Γ1) (k:EW Γ1 E us xs Γ2):EW Γ E (u :: us) (x :: xs) Γ2
inductive AY {κ υ:Type} (ek:κ→Value) (eu:υ→Value):List ay→Value→List (κ×υ)→Prop
 | own {v:Value} {x:List (κ×υ)} {Γ:QE}:AY ek eu (.own (o3 ek eu) v x :: Γ) v x
 | rd {v:Value} {x:List (κ×υ)} {Γ:QE}:AY ek eu (.rd false (o3 ek eu) v x :: Γ) v x
 | there {v:Value} {x:List (κ×υ)} {e:ay} {Γ:QE} (h:AY ek eu Γ v x):AY ek eu (e :: Γ) v x
def Oi:Code→Bool
 | .loop _=>true
 | _=>false
inductive D {R:Type} (P:Program) (cx:Cx R):Jd R→Prop
 | plain {M:Type} {q:Bool} {d:Option Nat} {op:Op} {ty:TI} {pos:String} {ae:Array Edge} {all l:LO} {rk:RK R M} {Γ:QE} {fr:Fr} {m:Option M} (h:D P cx (.e q op d ty all l rk Γ fr m)):D P cx (.o q all (⟨d,op,ty,pos,ae,none⟩ :: l) rk Γ fr m)
 | mv {M:Type} {q:Bool} {d:Nat} {x:OO} {v:Value} {ty:TI} {all l:LO} {rk:RK R M} {Γ:QE} {fr:Fr} {m:Option M} (hx:bx fr x=some v) (h:D P cx (.o q all l rk Γ ((d,v) :: fr) m)):D P cx (.e q (.move x) (some d) ty all l rk Γ fr m)
 | as {M:Type} {q:Bool} {d:Nat} {x:OO} {v:Value} {ty:TI} {all l:LO} {rk:RK R M} {Γ:QE} {fr:Fr} {m:Option M} (hx:bx fr x=some v) (h:D P cx (.o q all l rk Γ ((d,v) :: fr) m)):D P cx (.e q (.assign x) (some d) ty all l rk Γ fr m)
 | Oj {M:Type} {q:Bool} {d s k off:Nat} {x:OO} {ty:TI} {a a':Addr} {all l:LO} {rk:RK R M} {Γ:QE} {fr:Fr} {m:Option M} [hf:jo P s k off] (hx:bx fr x=some (.pointer (some a))) (ha:yN a off a') (h:D P cx (.o q all l rk Γ ((d,.pointer (some a')) :: fr) m)):D P cx (.e q (.fieldAddr s x k) (some d) ty all l rk Γ fr m)
 | Jz {M:Type} {q:Bool} {d:Nat} {x:OO} {ty:TI} {a:Addr} {all l:LO} {rk:RK R M} {Γ:QE} {fr:Fr} {m:Option M} (hx:bx fr x=some (.pointer (some a))) (h:D P cx (.o q all l rk Γ ((d,.pointer (some a)) :: fr) m)):D P cx (.e q (.nilCheck x) (some d) ty all l rk Γ fr m)
 | load {M:Type} {q:Bool} {d:Nat} {x:OO} {a:Addr} {t ty:TI} {lk:Option Nat} {all l:LO} {rk:RK R M} {Γ:QE} {fr:Fr} {m:Option M} [ht:LK P t lk] (hx:bx fr x=some (.pointer (some a))) (h:D P cx (.la a lk q t x d all l rk Γ fr m)):D P cx (.e q (.load t x) (some d) ty all l rk Γ fr m)
 | Ol {M α:Type} {q:Bool} {d:Nat} {x:OO} {v:Value} {j:Int} {ty:TI} {o:Bool} {E:ag α} {z:α} {Γx:QE} {all l:LO} {rk:RK R M} {Γ:QE} {fr:Fr} {m:Option M} (h:sK Γ (ep v 1 j) o E z uA Γx) (k:D P cx (.ld E z (ep v 1 j) q ty x d all l rk Γ fr m)):D P cx (.la (ep v 1 j) none q ty x d all l rk Γ fr m)
 | Om {M:Type} {q:Bool} {d:Nat} {x:OO} {a:Addr} {u:Value} {ty:TI} {all l:LO} {rk:RK R M} {Γ:QE} {fr:Fr} {m:Option M} (h:rP Γ a u) (k:D P cx (.o q all l rk Γ ((d,u) :: fr) m)):D P cx (.la a none q ty x d all l rk Γ fr m)
 | Oo {M:Type} {q:Bool} {d:Nat} {x:OO} {a:Addr} {k:IntKind} {z:Int} {ty:TI} {all l:LO} {rk:RK R M} {Γ:QE} {fr:Fr} {m:Option M} (h:D P cx (.o q all l rk Γ ((d,.int k z) :: fr) m)):D P cx (.ld (aJ k) z a q ty x d all l rk Γ fr m)
 | Oq {M α:Type} {q o:Bool} {d:Nat} {x:OO} {v:Value} {j:Int} {E:ag α} {z:List α} {ty:TI} {all l:LO} {rk:RK R M} {Γ:QE} {Γ1 Γ':Value→List ay} {fr:Fr} {m:Option M} (h:∀ u,sK Γ (ep v 1 j) o (bE E) z (.rd o (bE E) u z) (Γ1 u)) (h2:∀ u,xh (Γ1 u) v j u (Γ' u)) (k:∀ u,D P cx (.o q all l rk (Γ' u) ((d,u) :: fr) m)):D P cx (.ld (bE E) z (ep v 1 j) q ty x d all l rk Γ fr m)
 | YX {M α V:Type} {q:Bool} {d:Nat} {x:OO} {a:Addr} {S:ag α} {cl:α→V→List Value} {en:α→V→List ay} {z:α} {ty:TI} {all l:LO} {rk:RK R M} {Γ Γx:QE} {fr:Fr} {m:Option M} [hs:SO S V cl en] (h:sK Γ a false (kn S) z uA Γx)
   (k:∀ p v,D P cx (.p [] (.aw p (cl z v) :: en z v) fr Γ fun fr Γ=>.o q all l rk Γ ((d,.pointer (some p)) :: fr) m)):D P cx (.ld (kn S) z a q ty x d all l rk Γ fr m)
 | len {M:Type} {q:Bool} {d n:Nat} {x:OO} {v:Value} {t ty:TI} {all l:LO} {rk:RK R M} {Γ:QE} {fr:Fr} {m:Option M} [ht:wU P t] (hx:bx fr x=some v) (hr:sL Γ v n) (h:D P cx (.o q all l rk Γ ((d,.int .i64 (n:Int)) :: fr) m)):D P cx (.e q (.call ⟨.builtin .len,#[x],#[t]⟩) (some d) ty all l rk Γ fr m)
 | idx {M α:Type} {q:Bool} {d:Nat} {x y:OO} {v:Value} {k:IntKind} {j:Int} {t ty:TI} {o1 o2:Bool} {E:ag α} {xs:List α} {Γ':α→List ay} {all l:LO} {rk:RK R M} {Γ:QE} {fr:Fr} {f:α→Option M} [ht:wU P t] (hx:bx fr x=some v) (hy:bx fr y=some (.int k j))
   (hr:∀ z,qw Γ v o1 o2 E xs (.ad o1 o2 v j E z) (Γ' z)) (hE:E.size=1) (h:∀ z,D P cx (.o q all l rk (Γ' z) ((d,.pointer (some (ep v 1 j))) :: fr) (f z))):D P cx (.e q (.indexAddr t x y) (some d) ty all l rk Γ fr (idx xs j>>=f))
 | UK {S:Type} {q:Bool} {all:LO} {K:ch R S} {Γ:QE} {fr:Fr} {m:Option (Out S R)} (h:D P cx (.n K Γ fr m)):D P cx (.o q all [] (.n K) Γ fr m)
 | Sn {S:Type} {K:ch R S} {c:Code} {Γ:QE} {fr:Fr}:D P cx (.c K c Γ fr none)
 | seq {S:Type} {fi:List KI} {kb:Kb R S} {a b:Code} {Γ:QE} {fr:Fr} {m:Option (Out S R)} (h:D P cx (.c ⟨.seq b :: fi,kb⟩ a Γ fr m)):D P cx (.c ⟨fi,kb⟩ (.seq a b) Γ fr m)
 | UL {S:Type} {fi:List KI} {kb:Kb R S} {c:Code} {Γ:QE} {fr:Fr} {m:Option (Out S R)} (h:D P cx (.c ⟨fi,kb⟩ c Γ fr m)):D P cx (.n ⟨.seq c :: fi,kb⟩ Γ fr m)
 | region {S:Type} {id:Nat} {K:ch R S} {ops:LO} {Γ:QE} {fr:Fr} {m:Option (Out S R)} (hd:cg cx.n ops=true) (h:D P cx (.rg (vW ops) false ops K Γ fr m)):D P cx (.c K (.region id ops.toArray false) Γ fr m)
 | YY {S:Type} {K:ch R S} {ops:LO} {Γ:QE} {fr:Fr} {m:Option (Out S R)} (h:D P cx (.o false ops ops (.n K) Γ fr m)):D P cx (.rg false false ops K Γ fr m)
 | lss {M:Type} {q:Bool} {d:Nat} {x y:OO} {t t' ty:TI} {k:IntKind} {a b:Int} {all l:LO} {rk:RK R M} {Γ:QE} {fr:Fr} {m:Option M} (hx:bx fr x=some (.int k a)) (hy:bx fr y=some (.int k b)) (h:D P cx (.o q all l rk Γ ((d,.bool (decide (a < b))) :: fr) m)):D P cx (.e q (.binOp .lss t x y t') (some d) ty all l rk Γ fr m)
 | add {M:Type} {q:Bool} {d:Nat} {x y:OO} {t t' ty:TI} {a b:Int} {all l:LO} {rk:RK R M} {Γ:QE} {fr:Fr} {m:Option M} (hx:bx fr x=some (.int .i64 a)) (hy:bx fr y=some (.int .i64 b)) (h:D P cx (.o q all l rk Γ ((d,.int .i64 (bf (a+b))) :: fr) m)):D P cx (.e q (.binOp .add t x y t') (some d) ty all l rk Γ fr m)
 | eql {M:Type} {q:Bool} {d:Nat} {x y:OO} {t t' ty:TI} {u v:Value} {b:Bool} {all l:LO} {rk:RK R M} {Γ:QE} {fr:Fr} {m:Option M} (hx:bx fr x=some u) (hy:bx fr y=some v) (hb:EN P t u v b) (h:D P cx (.o q all l rk Γ ((d,.bool b) :: fr) m)):D P cx (.e q (.binOp .eql t x y t') (some d) ty all l rk Γ fr m)
 | neq {M:Type} {q:Bool} {d:Nat} {x y:OO} {t t' ty:TI} {u v:Value} {b:Bool} {all l:LO} {rk:RK R M} {Γ:QE} {fr:Fr} {m:Option M} (hx:bx fr x=some u) (hy:bx fr y=some v) (hb:ES P t u v b) (h:D P cx (.o q all l rk Γ ((d,.bool b) :: fr) m)):D P cx (.e q (.binOp .neq t x y t') (some d) ty all l rk Γ fr m)
 | pf {t:Nat} {v:Value} {φ fr:Fr} {Δ Γ:QE} {k:Fr→List ay→Jd R} (h:D P cx (.p φ Δ ((t,v) :: fr) Γ k)):D P cx (.p ((t,v) :: φ) Δ fr Γ k)
 | pz {fr:Fr} {Γ:QE} {k:Fr→List ay→Jd R} (h:D P cx (k fr Γ)):D P cx (.p [] [] fr Γ k)
 | pe {e:ay} {fr:Fr} {Δ Γ:QE} {k:Fr→List ay→Jd R} (h:D P cx (.p [] Δ fr (e :: Γ) k)):D P cx (.p [] (e :: Δ) fr Γ k)
 | not {M:Type} {q:Bool} {d:Nat} {x:OO} {t ty:TI} {b:Bool} {all l:LO} {rk:RK R M} {Γ:QE} {fr:Fr} {m:Option M} (hx:bx fr x=some (.bool b)) (h:D P cx (.o q all l rk Γ ((d,.bool (!b)) :: fr) m)):D P cx (.e q (.unOp .not t x) (some d) ty all l rk Γ fr m)
 | cond {S:Type} {K:ch R S} {t:Nat} {b:Bool} {x y:Code} {Γ:QE} {fr:Fr} {m:Option (Out S R)} (hb:look fr t=some (.bool b)) (h:D P cx (.cd b K x y Γ fr m)):D P cx (.c K (.cond (.tmp t) x y) Γ fr m)
 | YZ {S:Type} {K:ch R S} {x y:Code} {Γ:QE} {fr:Fr} {m:Option (Out S R)} (h:D P cx (.c K x Γ fr m)):D P cx (.cd true K x y Γ fr m)
 | Y0 {S:Type} {b:Bool} {K:ch R S} {x y:Code} {Γ:QE} {fr:Fr} {m1 m2:Option (Out S R)} (h1:D P cx (.c K x Γ fr m1)) (h2:D P cx (.c K y Γ fr m2)):D P cx (.cd b K x y Γ fr (bif b then m1 else m2))
 | skip {S:Type} {K:ch R S} {Γ:QE} {fr:Fr} {m:Option (Out S R)} (h:D P cx (.n K Γ fr m)):D P cx (.c K .skip Γ fr m)
 | exit {S:Type} {k:Nat} {K:ch R S} {Γ:QE} {fr:Fr} {m:Option (Out S R)} (h:D P cx (.x k K Γ fr m)):D P cx (.c K (.exit k) Γ fr m)
 | UM {S:Type} {fi:List KI} {kb:Kb R S} {k:Nat} {Γ:QE} {fr:Fr} {m:Option (Out S R)} (h:D P cx (.n ⟨fi,kb⟩ Γ fr m)):D P cx (.n ⟨.xi k :: fi,kb⟩ Γ fr m)
 | UN {S:Type} {fi:List KI} {kb:Kb R S} {k:Nat} {c:Code} {Γ:QE} {fr:Fr} {m:Option (Out S R)} (h:D P cx (.x k ⟨fi,kb⟩ Γ fr m)):D P cx (.x k ⟨.seq c :: fi,kb⟩ Γ fr m)
 | UO {S:Type} {fi:List KI} {kb:Kb R S} {k j:Nat} {Γ:QE} {fr:Fr} {m:Option (Out S R)} (h:D P cx (.xb (Nat.beq k j) k ⟨fi,kb⟩ Γ fr m)):D P cx (.x k ⟨.xi j :: fi,kb⟩ Γ fr m)
 | Y1 {S:Type} {K:ch R S} {k:Nat} {Γ:QE} {fr:Fr} {m:Option (Out S R)} (h:D P cx (.n K Γ fr m)):D P cx (.xb true k K Γ fr m)
 | Sp {S V:Type} {k:Nat} {Δ:S→V→List ay} {φ:S→V→Fr} {Γ2 Γ Γ1 Γ3:QE} {f2 fr:Fr} {s:S} {v:V} (hv:se V v) (ha:qb fr (φ s v)) (hf:qb fr f2) (h0:EO Γ (Δ s v) Γ1) (hw:OW Γ (Δ s v)) (h1:EO Γ1 Γ2 Γ3) (h2:MF Γ none Γ2) :
   D P cx (.x k ⟨[],.loop V k Δ φ Γ2 f2⟩ Γ fr (some (.exit k s)))
 | Sq {S V:Type} {k:Nat} {Δ:S→V→List ay} {φ:S→V→Fr} {Γ2 Γ Γ1 Γ3:QE} {f2 fr:Fr} {s:S} {v:V} (hv:se V v) (ha:qb fr (φ s v)) (hf:qb fr f2) (h0:EO Γ (Δ s v) Γ1) (hw:OW Γ (Δ s v)) (h1:EO Γ1 Γ2 Γ3) (h2:MF Γ none Γ2) :
   D P cx (.n ⟨[],.loop V k Δ φ Γ2 f2⟩ Γ fr (some (.norm s)))
 | gtr {M:Type} {q:Bool} {d:Nat} {x y:OO} {t t' ty:TI} {k:IntKind} {a b:Int} {all l:LO} {rk:RK R M} {Γ:QE} {fr:Fr} {m:Option M} (hx:bx fr x=some (.int k a)) (hy:bx fr y=some (.int k b)) (h:D P cx (.o q all l rk Γ ((d,.bool (decide (a > b))) :: fr) m)):D P cx (.e q (.binOp .gtr t x y t') (some d) ty all l rk Γ fr m)
 | geq {M:Type} {q:Bool} {d:Nat} {x y:OO} {t t' ty:TI} {k:IntKind} {a b:Int} {all l:LO} {rk:RK R M} {Γ:QE} {fr:Fr} {m:Option M} (hx:bx fr x=some (.int k a)) (hy:bx fr y=some (.int k b)) (h:D P cx (.o q all l rk Γ ((d,.bool (decide (a ≥ b))) :: fr) m)):D P cx (.e q (.binOp .geq t x y t') (some d) ty all l rk Γ fr m)
 | leq {M:Type} {q:Bool} {d:Nat} {x y:OO} {t t' ty:TI} {k:IntKind} {a b:Int} {all l:LO} {rk:RK R M} {Γ:QE} {fr:Fr} {m:Option M} (hx:bx fr x=some (.int k a)) (hy:bx fr y=some (.int k b)) (h:D P cx (.o q all l rk Γ ((d,.bool (decide (a≤b))) :: fr) m)):D P cx (.e q (.binOp .leq t x y t') (some d) ty all l rk Γ fr m)
 | sub {M:Type} {q:Bool} {d:Nat} {x y:OO} {t t' ty:TI} {a b:Int} {all l:LO} {rk:RK R M} {Γ:QE} {fr:Fr} {m:Option M} (hx:bx fr x=some (.int .i64 a)) (hy:bx fr y=some (.int .i64 b)) (h:D P cx (.o q all l rk Γ ((d,.int .i64 (bf (a - b))) :: fr) m)):D P cx (.e q (.binOp .sub t x y t') (some d) ty all l rk Γ fr m)
 | Y2 {M:Type} {q:Bool} {d:Option Nat} {op:Op} {ty:TI} {pos:String} {ae:Array Edge} {j t:Nat} {tt:Bool} {v:Value} {all l:LO} {rk:RK R M} {Γ:QE} {fr:Fr} {m:Option M} (hj:bg all j=some t) (hv:look fr t=some v) (h:D P cx (.gd v tt j t q op d ty all l rk Γ fr m)) :
   D P cx (.o q all (⟨d,op,ty,pos,ae,some (j,tt)⟩ :: l) rk Γ fr m)
 | Y3 {M:Type} {q:Bool} {d:Option Nat} {op:Op} {ty:TI} {j t:Nat} {all l:LO} {rk:RK R M} {Γ:QE} {fr:Fr} {m:Option M} (h:D P cx (.e q op d ty all l rk Γ fr m)):D P cx (.gd (.bool true) true j t q op d ty all l rk Γ fr m)
 | Y4 {M:Type} {q:Bool} {d:Option Nat} {op:Op} {ty:TI} {j t:Nat} {all l:LO} {rk:RK R M} {Γ:QE} {fr:Fr} {m:Option M} (h:D P cx (.e q op d ty all l rk Γ fr m)):D P cx (.gd (.bool false) false j t q op d ty all l rk Γ fr m)
 | Y5 {M:Type} {q:Bool} {d:Nat} {op:Op} {ty:TI} {j t:Nat} {all l:LO} {rk:RK R M} {Γ:QE} {fr:Fr} {m:Option M} (h:D P cx (.o q all l rk Γ ((d,undef) :: fr) m)):D P cx (.gd (.bool true) false j t q op (some d) ty all l rk Γ fr m)
 | Y6 {M:Type} {q:Bool} {d:Nat} {op:Op} {ty:TI} {j t:Nat} {all l:LO} {rk:RK R M} {Γ:QE} {fr:Fr} {m:Option M} (h:D P cx (.o q all l rk Γ ((d,undef) :: fr) m)):D P cx (.gd (.bool false) true j t q op (some d) ty all l rk Γ fr m)
 | Y7 {M:Type} {q b tt:Bool} {d:Option Nat} {op:Op} {ty:TI} {j t:Nat} {all l:LO} {rk:RK R M} {Γ:QE} {fr:Fr} {m1 m2:Option M}
   (h1:D P cx (.gd (.bool true) tt j t q op d ty all l rk Γ ((t,.bool true) :: fr) m1)) (h2:D P cx (.gd (.bool false) tt j t q op d ty all l rk Γ ((t,.bool false) :: fr) m2)):D P cx (.gd (.bool b) tt j t q op d ty all l rk Γ fr (bif b then m1 else m2))
 | pick {M:Type} {q:Bool} {d:Nat} {c x y:OO} {ty:TI} {b:Bool} {v:Value} {all l:LO} {rk:RK R M} {Γ:QE} {fr:Fr} {m:Option M} (hc:bx fr c=some (.bool b)) (hx:(bif b then bx fr x else bx fr y)=some v) (h:D P cx (.o q all l rk Γ ((d,v) :: fr) m)):D P cx (.e q (.pick c x y) (some d) ty all l rk Γ fr m)
 | Y8 {q:Bool} {all:LO} {t:Nat} {f0 fr:Fr} {Γ:QE} {b:Bool} (h:look fr t=some (.bool b)) (k:qb fr f0):D P cx (.o q all [] (.g t f0) Γ fr (some b))
 | Y9 {v:Value} {d:Nat} {fr:Fr} {k:Fr→Jd R} (h:D P cx (k ((d,v) :: fr))):D P cx (.tp [v] d fr k)
 | Hm {M:Type} {q:Bool} {d:Nat} {f:FuncId} {xs:List Operand} {vs:LV} {aw:Array TypeId} {ty:TI} {all l:LO} {rk:RK R M} {Γ:QE} {fr:Fr} {m:Option M} [hf:bm P f] (hx:u7 fr xs=some vs)
   (h:D P cx (.cv f vs q (.call ⟨.value (.func f),xs.toArray,aw⟩) d ty all l rk Γ fr m)):D P cx (.e q (.call ⟨.value (.func f),xs.toArray,aw⟩) (some d) ty all l rk Γ fr m)
 | Za {M:Type} {q:Bool} {d:Nat} {f:FuncId} {vs:LV} {op:Op} {ty:TI} {all l:LO} {rk:RK R M} {Γ:QE} {fr:Fr}:D P cx (.cv f vs q op d ty all l rk Γ fr none)
 | Zb {M β:Type} {ow:Bool} {d:Nat} {f:FuncId} {vs:LV} {op:Op} {ty:TI} {Δ:QE} {mo:Option β} {rt:β→Unit→List Value} {all l:LO} {rk:RK R M} {Γ:QE} {fr:Fr} {g:β→Option M}
   (hc:Ct P f ow mo vs Δ rt (fun _ _=>[])) (h0:FO Δ) (h1:ER true Γ Δ) (k:∀ y,D P cx (.tp (rt y ()) d fr fun fr=>.o true all l rk Γ fr (g y))):D P cx (.cv f vs true op d ty all l rk Γ fr (mo>>=g))
 | Zc {M β V:Type} {ow:Bool} {d:Nat} {f:FuncId} {vs:LV} {op:Op} {ty:TI} {Δ:QE} {mo:Option β} {rt:β→V→List Value} {ps:β→V→List ay} {all l:LO} {rk:RK R M} {Γ:QE} {fr:Fr} {g:β→Option M}
   (hc:Ct P f ow mo vs Δ rt ps) (hp:EP Γ Δ) (h:D P cx (.cz ow f vs op d ty Δ mo rt ps all l rk Γ fr g)):D P cx (.cv f vs false op d ty all l rk Γ fr (mo>>=g))
 | Zd {M β V:Type} {d:Nat} {f:FuncId} {vs:LV} {op:Op} {ty:TI} {Δ:QE} {mo:Option β} {rt:β→V→List Value} {ps:β→V→List ay} {all l:LO} {rk:RK R M} {Γ Γ1:QE} {fr:Fr} {g:β→Option M}
   (h0:EO Γ Δ Γ1) (h1:ER true Γ1 Δ) (k:∀ y v,D P cx (.cs y fun y=>.tp (rt y v) d fr fun fr=>.p [] (ps y v) fr Γ1 fun fr Γ=>.mo all l rk Γ fr (g y))):D P cx (.cz true f vs op d ty Δ mo rt ps all l rk Γ fr g)
 | Ze {M β V:Type} {d:Nat} {f:FuncId} {vs:LV} {op:Op} {ty:TI} {Δ:QE} {mo:Option β} {rt:β→V→List Value} {ps:β→V→List ay} {all l:LO} {rk:RK R M} {Γ Γ1:QE} {fr:Fr} {g:β→Option M}
   (h0:EF Γ Δ Γ1) (k:∀ y v,D P cx (.cs y fun y=>.tp (rt y v) d fr fun fr=>.p [] (ps y v) fr Γ1 fun fr Γ=>.mo all l rk Γ fr (g y))):D P cx (.cz false f vs op d ty Δ mo rt ps all l rk Γ fr g)
 | Zf {M β:Type} {e:TI} {E:ag β} {v u:Value} {xs:List β} {j:Int} {z:β} {all l:LO} {rk:RK R M} {Γ:QE} {fr:Fr} {m:Option M} (h:D P cx (.mo all l rk (.own (aI e E) v (xs.set j.toNat z) :: Γ) fr m)):D P cx (.mo all l rk (.own E u z :: .dn e E v xs j u :: Γ) fr m)
 | Zg {M:Type} {all l:LO} {rk:RK R M} {Γ:QE} {fr:Fr} {m:Option M} (h:D P cx (.o false all l rk Γ fr m)):D P cx (.mo all l rk Γ fr m)
 | Zh {S:Type} {q:Bool} {all ops:LO} {K:ch R S} {Γ:QE} {fr:Fr} {m:Option (Out S R)} (h:D P cx (.o q all ops (.n K) Γ fr m)):D P cx (.tg q false all ops K Γ fr m)
 | Zi {S:Type} {t:Nat} {K:ch R S} {all ops:LO} {Γ:QE} {fr:Fr} {gm:Option Bool} {f:Bool→Option (Out S R)} {f0:Fr} (ht:zi ops=some t) (hf:Kp (tF ops) none fr f0) (h:D P cx (.o true all ops (.g t f0) Γ fr gm)) (k:∀ g,D P cx (.n K Γ ((t,.bool g) :: f0) (f g))):D P cx (.tg true true all ops K Γ fr (gm>>=f))
 | Zj {S:Type} {K:ch R S} {Γ:QE} {fr:Fr} {m:Option (Out S R)} (h:D P cx (.n K Γ fr m)):D P cx (.mn K Γ fr m)
 | Zk {M:Type} {q:Bool} {d:Nat} {f:FuncId} {x:OO} {xs:List Operand} {vs us ws as bs:LV} {aw:Array TypeId} {ty:TI} {all l:LO} {rk:RK R M} {Γ:QE} {fr:Fr} {m:Option M} (hv:bx fr x=some (.func (.func f) as.toArray bs.toArray)) (hx:u7 fr xs=some vs) (h1:gp vs bs us) (h2:gp as us ws)
   (h:D P cx (.fa f (.cv f ws q (.call ⟨.value x,xs.toArray,aw⟩) d ty all l rk Γ fr m))):D P cx (.e q (.call ⟨.value x,xs.toArray,aw⟩) (some d) ty all l rk Γ fr m)
 | fa {f:FuncId} {j:Jd R} [hf:bm P f] (h:D P cx j):D P cx (.fa f j)
 | Zm {M:Type} {q:Bool} {d:Nat} {f:FuncId} {xs ys:List Operand} {as bs:LV} {ty:TI} {all l:LO} {rk:RK R M} {Γ:QE} {fr:Fr} {m:Option M} (hx:u7 fr xs=some as) (hy:u7 fr ys=some bs)
   (h:D P cx (.o q all l rk Γ ((d,.func (.func f) as.toArray bs.toArray) :: fr) m)):D P cx (.e q (.makeFunc (.func f) xs.toArray ys.toArray) (some d) ty all l rk Γ fr m)
 | Zo {A B:Type} {y:Option A×B} {k:Option A×B→Jd R} (h0:∀ z,D P cx (.cs z fun z=>k (none,z))) (h1:∀ a z,D P cx (.cs z fun z=>k (some a,z))):D P cx (.cs y k)
 | Zp {A:Type} {y:Option A} {k:Option A→Jd R} (h0:D P cx (k none)) (h1:∀ a,D P cx (k (some a))):D P cx (.cs y k)
 | Zq {β:Type} {y:β} {k:β→Jd R} (h:D P cx (k y)):D P cx (.cs y k)
 | Zr {d:Nat} {fr:Fr} {k:Fr→Jd R} (h:D P cx (k ((d,.tuple #[]) :: fr))):D P cx (.tp [] d fr k)
 | Zs {u v:Value} {vs:LV} {d:Nat} {fr:Fr} {k:Fr→Jd R} (h:D P cx (k ((d,.tuple (u :: v :: vs).toArray) :: fr))):D P cx (.tp (u :: v :: vs) d fr k)
 | ret {S:Type} {K:ch R S} {rs:List ResultVar} {y:R} {v:cx.V} {Γ Γ':QE} {fr:Fr} (hr:cx.fn.results=rs.toArray) (hv:se cx.V v) (h:u9 P fr Γ rs (cx.ret y v)) (h1:EF Γ (cx.post y v) Γ'):D P cx (.c K .ret Γ fr (some (.ret y)))
 | block {S:Type} {K:ch R S} {k:Nat} {c:Code} {Γ:QE} {fr:Fr} {m:Option (Out S R)} (h:D P cx (.bk (Oi c) k K c Γ fr m)):D P cx (.c K (.block k c) Γ fr m)
 | Zt {S:Type} {fi:List KI} {kb:Kb R S} {k:Nat} {c:Code} {Γ:QE} {fr:Fr} {m:Option (Out S R)} (h:D P cx (.c ⟨.xi k :: fi,kb⟩ c Γ fr m)):D P cx (.bk false k ⟨fi,kb⟩ c Γ fr m)
 | Zu {S:Type} {K:ch R S} {k:Nat} {c:Code} {Γ:QE} {fr:Fr} {m:Option (Out S R)} (h:Bx (ni P cx (.bk true k K c Γ fr m))):D P cx (.bk true k K c Γ fr m)
 | draw {S:Type} {id:Nat} {K:ch R S} {ops:LO} {Γ:QE} {fr:Fr} {m:Option (Out S R)} (h:D P cx (.dr id ops K Γ fr m)):D P cx (.c K (.region id ops.toArray true) Γ fr m)
 | Zv {S:Type} {id:Nat} {K:ch R S} {ops:LO} {Γ:QE} {fr:Fr} {m:Option (Out S R)} (h:Bx (ni P cx (.dr id ops K Γ fr m))):D P cx (.dr id ops K Γ fr m)
 | Zw {S:Type} {K:ch R S} {ops:LO} {Γ:QE} {fr:Fr} {m:Option (Out S R)} (h:D P cx (.o true ops ops (.n K) Γ fr m)):D P cx (.rg false true ops K Γ fr m)
 | Zx {S:Type} {K:ch R S} {ops:LO} {Γ:QE} {fr:Fr} {m:Option (Out S R)} (h:D P cx (.rw (Og ops) ops K Γ fr m)):D P cx (.rg true false ops K Γ fr m)
 | Zy {S:Type} {K:ch R S} {ops:LO} {Γ:QE} {fr:Fr} {m:Option (Out S R)} (h:D P cx (.o false ops ops (.s K) Γ fr m)):D P cx (.rw true ops K Γ fr m)
 | Zz {S:Type} {t:Nat} {K:ch R S} {ops:LO} {Γ:QE} {fr:Fr} {gm:Option Bool} {f:Bool→Option (Out S R)} {f0:Fr} (ht:zi ops=some t) (hf:Kp (tF ops) none fr f0) (h:D P cx (.o true ops ops (.g t f0) Γ fr gm)) (k:∀ g,D P cx (.n K Γ ((t,.bool g) :: f0) (f g))):D P cx (.rw false ops K Γ fr (gm>>=f))
 | TL {S:Type} {K:ch R S} {ops:LO} {Γ:QE} {fr:Fr} {m:Option (Out S R)} (h:D P cx (.o false ops ops (.s K) Γ fr m)):D P cx (.rw false ops K Γ fr m)
 | ZA {S:Type} {q:Bool} {all:LO} {K:ch R S} {Γ:QE} {fr:Fr} {m:Option (Out S R)} (h:D P cx (.n K Γ fr m)):D P cx (.o q all [] (.s K) Γ fr m)
 | ZB {S:Type} {t:Nat} {K:ch R S} {ops:LO} {Γ:QE} {fr:Fr} {gm:Option Bool} {f:Bool→Option (Out S R)} {f0:Fr} (ht:zi ops=some t) (hf:Kp (tF ops) none fr f0) (h:D P cx (.o true ops ops (.g t f0) Γ fr gm)) (k:∀ g,D P cx (.n K Γ ((t,.bool g) :: f0) (f g))):D P cx (.rg true true ops K Γ fr (gm>>=f))
 | UP {rs:List ResultVar} {y:R} {v:cx.V} {Γ Γ':QE} {fr:Fr} (hr:cx.fn.results=rs.toArray) (hv:se cx.V v) (h:u9 P fr Γ rs (cx.ret y v)) (h1:EF Γ (cx.post y v) Γ'):D P cx (.n ⟨[],.Jv⟩ Γ fr (some (.norm y)))
 | ext {M:Type} {q:Bool} {d k:Nat} {x:OO} {ty:TI} {vs:LV} {v:Value} {all l:LO} {rk:RK R M} {Γ:QE} {fr:Fr} {m:Option M} (hx:bx fr x=some (.tuple vs.toArray)) (hv:vs[k]? = some v) (h:D P cx (.o q all l rk Γ ((d,v) :: fr) m)):D P cx (.e q (.extract x k) (some d) ty all l rk Γ fr m)
 | Hn {M:Type} {q:Bool} {d n:Nat} {x:OO} {a:Addr} {ds:LV} {ty:TI} {all l:LO} {rk:RK R M} {Γ:QE} {fr:Fr} {m:Option M} (h:rQ Γ a n ds) (k:D P cx (.o q all l rk Γ ((d,.agg ds.toArray) :: fr) m)):D P cx (.la a (some n) q ty x d all l rk Γ fr m)
 | LR {M:Type} {q:Bool} {d:Nat} {t ty:TI} {ps:List (Nat×Operand)} {zc cs:LV} {pl:List (Nat×Nat)} {all l:LO} {rk:RK R M} {Γ:QE} {fr:Fr} {m:Option M} [hb:xj P t zc pl] (hf:sY Γ fr pl ps zc cs) (h:D P cx (.o q all l rk Γ ((d,.agg cs.toArray) :: fr) m)):D P cx (.e q (.build t ps.toArray) (some d) ty all l rk Γ fr m)
 | box {M:Type} {d:Nat} {x:OO} {t ty:TI} {v:Value} {cs:LV} {all l:LO} {rk:RK R M} {Γ:QE} {fr:Fr} {m:Option M} (hx:bx fr x=some v) (hc:pR Γ v cs)
   (h:∀ b,D P cx (.o false all l rk (.row b cs t :: Γ) ((d,.pointer (some ⟨b,0,none⟩)) :: fr) m)):D P cx (.e false (.box t x) (some d) ty all l rk Γ fr m)
 | alloc {M:Type} {d:Nat} {t ty:TI} {cs:LV} {all l:LO} {rk:RK R M} {Γ:QE} {fr:Fr} {m:Option M} [hz:uE P t cs]
   (h:∀ b,D P cx (.o false all l rk (.row b cs t :: Γ) ((d,.pointer (some ⟨b,0,none⟩)) :: fr) m)):D P cx (.e false (.alloc t) (some d) ty all l rk Γ fr m)
 | Am {M α:Type} {d:Nat} {t e ty:TI} {E:ag α} {z0:α} {bt:Nat} {all l:LO} {rk:RK R M} {Γ:QE} {fr:Fr} {m:Option M} [hz:pI P t α e E z0 bt]
   (h:∀ v,D P cx (.o false all l rk (.own (aI e E) v [] :: Γ) ((d,v) :: fr) m)):D P cx (.e false (.buildSlice t 0 #[]) (some d) ty all l rk Γ fr m)
 | An {M α:Type} {d:Nat} {x:OO} {u:Value} {t e ty:TI} {E:ag α} {z0:α} {bt:Nat} {all l:LO} {rk:RK R M} {Γ:QE} {fr:Fr} {m:Option M} [hz:pI P t α e E z0 bt] (hx:bx fr x=some u) (h1:One Γ u)
   (h:∀ b,D P cx (.o false all l rk (.row b [u] e :: Γ) ((d,.slice (some ⟨b,0,none⟩) 1 1) :: fr) m)):D P cx (.e false (.buildSlice t 1 #[(0,x)]) (some d) ty all l rk Γ fr m)
 | UQ {M:Type} {d n:Nat} {ps:List (Nat×Operand)} {us:LV} {t e ty:TI} {all l:LO} {rk:RK R M} {Γ:QE} {fr:Fr} {m:Option M} [hz:AX P t e] (hl:rR Γ fr 0 ps us) (hn:us.length=n) (hb:(Nat.ble 1 n && Nat.ble n 16777216)=true)
   (h:∀ b,D P cx (.o false all l rk (.row b us e :: Γ) ((d,.slice (some ⟨b,0,none⟩) n n) :: fr) m)):D P cx (.e false (.buildSlice t n ps.toArray) (some d) ty all l rk Γ fr m)
 | FZ {M α:Type} {d:Nat} {y:OO} {a:Int} {t e ty:TI} {E:ag α} {z0:α} {bt:Nat} {all l:LO} {rk:RK R M} {Γ:QE} {fr:Fr} {f:Nat→Option M} [hz:pI P t α e E z0 bt] (hy:bx fr y=some (.int .i64 a))
   (h:∀ n v,D P cx (.o false all l rk (.own (aI e E) v [] :: Γ) ((d,v) :: fr) (f n))):D P cx (.e false (.makeSlice t (.const (.int .i64 0)) y) (some d) ty all l rk Γ fr (mk bt a>>=f))
 | make {M α:Type} {d:Nat} {x:OO} {a:Int} {t e ty:TI} {E:ag α} {z0:α} {bt:Nat} {all l:LO} {rk:RK R M} {Γ:QE} {fr:Fr} {f:Nat→Option M} [hz:pI P t α e E z0 bt] (hx:bx fr x=some (.int .i64 a))
   (h:∀ n v,D P cx (.o false all l rk (.own (aI e E) v (List.replicate n z0) :: Γ) ((d,v) :: fr) (f n))):D P cx (.e false (.makeSlice t x x) (some d) ty all l rk Γ fr (mk bt a>>=f))
 | app {M α:Type} {d:Nat} {s x:OO} {sv xv:Value} {t e ty:TI} {E:ag α} {z0:α} {bt:Nat} {all l:LO} {rk:RK R M} {Γ:QE} {fr:Fr} {m:Option M} [hz:pI P t α e E z0 bt] (hs:bx fr s=some sv) (hx:bx fr x=some xv)
   (h:D P cx (.ax E e t bt xv sv s x d ty all l rk Γ fr m)):D P cx (.e false (.call ⟨.builtin .append,#[s,x],#[t,t]⟩) (some d) ty all l rk Γ fr m)
 | ZC {M α:Type} {d b:Nat} {s x:OO} {sv u:Value} {t e ty:TI} {E:ag α} {bt:Nat} {all l:LO} {rk:RK R M} {Γ:QE} {fr:Fr} {m:Option M} (hc:rP Γ ⟨b,0,none⟩ u)
   (h:D P cx (.ap E e t bt u b sv s x d ty all l rk Γ fr m)):D P cx (.ax E e t bt (.slice (some ⟨b,0,none⟩) 1 1) sv s x d ty all l rk Γ fr m)
 | ZD {M:Type} {d:Nat} {k:IntKind} {s x:OO} {sv yv:Value} {o1 o2:Bool} {t e ty:TI} {xs ys:List Int} {bt:Nat} {all l:LO} {rk:RK R M} {Γ Γ1 Γx:QE} {fr:Fr} {f:Unit→Option M} (h1:dh Γ (.own (aI e (aJ k)) sv xs) Γ1) (h2:qw Γ1 yv o1 o2 (aJ k) ys uA Γx)
   (h:∀ v,D P cx (.o false all l rk (.own (aI e (aJ k)) v (xs++ys) :: Γ1) ((d,v) :: fr) (f ()))):D P cx (.ax (aJ k) e t bt yv sv s x d ty all l rk Γ fr (fits bt (xs.length+ys.length)>>=f))
 | ZE {M:Type} {d b:Nat} {k:IntKind} {y:Int} {s x:OO} {sv:Value} {t e et ty:TI} {xs:List Int} {bt:Nat} {all l:LO} {rk:RK R M} {Γ Γ1 Γ2:QE} {fr:Fr} {f:Unit→Option M} (h0:dh Γ (.row b [.int k y] et) Γ1) (h1:dh Γ1 (.own (aI e (aJ k)) sv xs) Γ2)
   (h:∀ v,D P cx (.o false all l rk (.own (aI e (aJ k)) v (xs++[y]) :: Γ2) ((d,v) :: fr) (f ()))):D P cx (.ap (aJ k) e t bt (.int k y) b sv s x d ty all l rk Γ fr (fits bt (xs.length+1)>>=f))
 | Ot {M α:Type} {d b:Nat} {s x:OO} {sv u:Value} {k:Bool} {t e e' ty:TI} {E:ag α} {bt:Nat} {all l:LO} {rk:RK R M} {Γ:QE} {fr:Fr} {m:Option M} (hk:EU Γ u k)
   (h:D P cx (.Of k e' E e t bt u b sv s x d ty all l rk Γ fr m)):D P cx (.ap (aI e' E) e t bt u b sv s x d ty all l rk Γ fr m)
 | ZF {M α:Type} {d b:Nat} {s x:OO} {sv u:Value} {y:List α} {xs:List (List α)} {t e e' et ty:TI} {E:ag α} {bt:Nat} {all l:LO} {rk:RK R M} {Γ Γ1 Γ2 Γ3:QE} {fr:Fr} {f:Unit→Option M} (h0:dh Γ (.row b [u] et) Γ1) (h1:dh Γ1 (.own (aI e' E) u y) Γ2) (h2:dh Γ2 (.own (aI e (aI e' E)) sv xs) Γ3)
   (h:∀ v,D P cx (.o false all l rk (.own (aI e (aI e' E)) v (xs++[y]) :: .rd false LP u y.length :: Γ3) ((d,v) :: fr) (f ()))):D P cx (.Of true e' E e t bt u b sv s x d ty all l rk Γ fr (fits bt (xs.length+1)>>=f))
 | Ou {M:Type} {x y:OO} {a:Addr} {u:Value} {t ty:TI} {n:Nat} {all l:LO} {rk:RK R M} {Γ:QE} {fr:Fr} {m:Option M} [ht:sg P t n] (hx:bx fr x=some (.pointer (some a))) (hy:bx fr y=some u)
   (h:D P cx (.st a u n t x y ty all l rk Γ fr m)):D P cx (.e false (.store t x y) none ty all l rk Γ fr m)
 | ZG {M:Type} {x y:OO} {b j n:Nat} {us cs ds:LV} {t e ty:TI} {all l:LO} {rk:RK R M} {Γ Γ1:QE} {fr:Fr} {m:Option M} (h0:dh Γ (.row b cs e) Γ1) (h1:qA us j cs ds) (h2:tE Γ us) (h3:us.length=n)
   (h:D P cx (.o false all l rk (.row b ds e :: Γ1) fr m)):D P cx (.st ⟨b,j,none⟩ (.agg us.toArray) n t x y ty all l rk Γ fr m)
 | ZH {M:Type} {x y:OO} {b j:Nat} {u:Value} {cs ds:LV} {t e ty:TI} {all l:LO} {rk:RK R M} {Γ Γ1:QE} {fr:Fr} {m:Option M} (h0:dh Γ (.row b cs e) Γ1) (h1:qA [u] j cs ds) (h2:One Γ u)
   (h:D P cx (.o false all l rk (.row b ds e :: Γ1) fr m)):D P cx (.st ⟨b,j,none⟩ u 1 t x y ty all l rk Γ fr m)
 | ZI {M:Type} {l:qJ} {x y:OO} {v u:Value} {j:Int} {t ty:TI} {all ops:LO} {rk:RK R M} {Γ:QE} {fr:Fr} {m:Option M} (hl:Loc Γ v l) (h:D P cx (.sl l v j u t x y ty all ops rk Γ fr m)):D P cx (.st (ep v 1 j) u 1 t x y ty all ops rk Γ fr m)
 | ZJ {M:Type} {x y:OO} {v:Value} {j z:Int} {k:IntKind} {xs:List Int} {t e ty:TI} {all l:LO} {rk:RK R M} {Γ Γ1:QE} {fr:Fr} {m:Option M} (h0:Rg v j Γ) (h1:dh Γ (.own (aI e (aJ k)) v xs) Γ1)
   (h:D P cx (.o false all l rk (.own (aI e (aJ k)) v (xs.set j.toNat z) :: Γ1) fr m)):D P cx (.sl .own v j (.int k z) t x y ty all l rk Γ fr m)
 | ZK {M α:Type} {x y:OO} {v u:Value} {j:Int} {z:List α} {xs:List (List α)} {E:ag α} {t e e' ty:TI} {all l:LO} {rk:RK R M} {Γ Γ1 Γ2:QE} {fr:Fr} {m:Option M} (h0:Rg v j Γ) (h1:dh Γ (.own (aI e' E) u z) Γ1) (h2:dh Γ1 (.own (aI e (aI e' E)) v xs) Γ2)
   (h:D P cx (.o false all l rk (.own (aI e (aI e' E)) v (xs.set j.toNat z) :: Γ2) fr m)):D P cx (.sl .own v j u t x y ty all l rk Γ fr m)
 | ZL {M:Type} {x y:OO} {v v':Value} {j j' z:Int} {k:IntKind} {zs:List Int} {xs:List (List Int)} {t e e' ty:TI} {o1 o2:Bool} {all l:LO} {rk:RK R M} {Γ Γ1 Γx:QE} {fr:Fr} {m:Option M} (h0:Rg v j Γ) (h1:qw Γ v o1 o2 (aJ k) zs uA Γx) (h2:dh Γ (.own (aI e (aI e' (aJ k))) v' xs) Γ1)
   (h:D P cx (.o false all l rk (.own (aI e (aI e' (aJ k))) v' (xs.set j'.toNat (zs.set j.toNat z)) :: Γ1) fr m)):D P cx (.sl (.row v' j') v j (.int k z) t x y ty all l rk Γ fr m)
 | ZM {M:Type} {q:Bool} {d:Nat} {x:OO} {k k2:IntKind} {n:Int} {s t ty:TI} {all l:LO} {rk:RK R M} {Γ:QE} {fr:Fr} {m:Option M} [ht:TJ P s t k2] (hx:bx fr x=some (.int k n)) (h:D P cx (.o q all l rk Γ ((d,.int k2 (k2.wrap n)) :: fr) m)):D P cx (.e q (.convert s t x) (some d) ty all l rk Γ fr m)
 | ZN {M:Type} {q o1 o2:Bool} {d:Nat} {x:OO} {v:Value} {xs:List Int} {s t ty:TI} {all l:LO} {rk:RK R M} {Γ Γx:QE} {fr:Fr} {m:Option M} [ht:TK P s t] (hx:bx fr x=some v) (hr:qw Γ v o1 o2 (aJ .u8) xs uA Γx) (h:D P cx (.o q all l rk Γ ((d,.string (strOfNums xs)) :: fr) m)):D P cx (.e q (.convert s t x) (some d) ty all l rk Γ fr m)
 | ZO {M κ υ:Type} {d:Nat} {t ty:TI} {bq:BEq κ} {ek:κ→Value} {eu:υ→Value} {all l:LO} {rk:RK R M} {Γ:QE} {fr:Fr} {m:Option M} [ht:Hl P t κ υ bq ek eu]
   (h:∀ v,D P cx (.o false all l rk (.own (o3 ek eu) v [] :: Γ) ((d,v) :: fr) m)):D P cx (.e false (.makeMap t none) (some d) ty all l rk Γ fr m)
 | ZP {M κ υ:Type} {x y z:OO} {v:Value} {t ty:TI} {bq:BEq κ} {ek:κ→Value} {eu:υ→Value} {xs:List (κ×υ)} {a:κ} {b:υ} {all l:LO} {rk:RK R M} {Γ Γ1:QE} {fr:Fr} {m:Option M} [ht:Hl P t κ υ bq ek eu] (hx:bx fr x=some v) (hy:bx fr y=some (ek a)) (hz:bx fr z=some (eu b)) (h1:dh Γ (.own (o3 ek eu) v xs) Γ1)
   (h:D P cx (.o false all l rk (.own (o3 ek eu) v (tG xs a b) :: Γ1) fr m)):D P cx (.e false (.mapUpdate t x y z) none ty all l rk Γ fr m)
 | UR {M:Type} {d n:Nat} {ps:List (Nat×Operand)} {us:LV} {t e ty:TI} {all l:LO} {rk:RK R M} {Γ:QE} {fr:Fr} {m:Option M} [hz:ET P t e] (hl:rR Γ fr 0 ps us) (hn:us.length=n) (hb:(Nat.ble 1 n && Nat.ble n 16777216)=true)
   (h:∀ b,D P cx (.o false all l rk (.row b us e :: Γ) ((d,.slice (some ⟨b,0,none⟩) n n) :: fr) m)):D P cx (.e false (.buildSlice t n ps.toArray) (some d) ty all l rk Γ fr m)
 | inj {J:Jd R} (h:Bx (ni P cx J)):D P cx J
end Go.Dk
