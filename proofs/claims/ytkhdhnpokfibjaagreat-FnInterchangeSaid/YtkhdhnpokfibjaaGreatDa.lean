/- A calculus of walks: what is known of memory as a list of entries, and how entries are found and taken. No condition. -/
import Derived.Test.YtkhdhnpokfibjaaGreatLm
import Derived.Test.YtkhdhnpokfibjaaGreatLq
namespace Go.Dk
open Go Go.Li
abbrev Fr:=List (Nat×Value)
def look:Fr→Nat→Option Value
 | [],_=>none
 | (a,v) :: l,t=>bif Nat.beq t a then some v else look l t
def agr (r:Nat→Value) (f:Fr):Prop:=∀ t v,look f t=some v→r t=v
def opv (f:Fr):Operand→Option Value
 | .tmp t=>look f t
 | .const v=>some v
 | .global g=>some (.pointer (some ⟨g,0,none⟩))
 | .func g=>some (.func (.func g) #[] #[])
def opvs (f:Fr):List Operand→Option (List Value)
 | []=>some []
 | x :: l=>match opv f x with
  | some v=>match opvs f l with
   | some vs=>some (v :: vs)
   | none=>none
  | none=>none
theorem aU {r:Nat→Value} {f:Fr} {x:Operand} {v:Value} (h:agr r f) (hx:opv f x=some v):ev r x=v:=by
 cases x with
 | tmp t=>exact h t v hx
 | const c=>cases hx; rfl
 | global g=>cases hx; rfl
 | func g=>cases hx; rfl
theorem opvs_ev {r:Nat→Value} {f:Fr} (h:agr r f):∀ {l:List Operand} {vs:List Value},opvs f l=some vs→l.map (ev r)=vs:=by
 intro l
 induction l with
 | nil=>intro vs hx; cases hx; rfl
 | cons x l ih=>
  intro vs hx
  unfold opvs at hx
  cases h1:opv f x with
  | none=>rw [h1] at hx; cases hx
  | some v=>
   cases h2:opvs f l with
   | none=>rw [h1,h2] at hx; cases hx
   | some ws=>rw [h1,h2] at hx; cases hx; rw [List.map_cons,aU h h1,ih h2]
theorem agr_cons {r:Nat→Value} {f:Fr} {t:Nat} {v:Value} (h:agr r f):agr (upd r t v) ((t,v) :: f):=by
 intro s u hs
 unfold look at hs
 unfold upd
 cases hb:Nat.beq s t with
 | true=>rw [hb] at hs; cases hs; rfl
 | false=>rw [hb] at hs; exact h s u hs
theorem agr_nil {r:Nat→Value}:agr r []:=fun _ _ h=>nomatch h
inductive Agr (f:Fr):Fr→Prop
 | nil:Agr f []
 | cons {t:Nat} {v:Value} {g:Fr} (h:look f t=some v) (k:Agr f g):Agr f ((t,v) :: g)
theorem Agr.sound {r:Nat→Value} {f g:Fr} (h:Agr f g) (ha:agr r f):agr r g:=by
 induction h with
 | nil=>exact agr_nil
 | cons h _ ih=>
  intro s u hs
  unfold look at hs
  cases hb:Nat.beq s _ with
  | true=>rw [hb] at hs; cases hs; rw [Nat.eq_of_beq_eq_true hb]; exact ha _ _ h
  | false=>rw [hb] at hs; exact ih s u hs
inductive Ent:Type 1
 | own {α:Type} (T:STy α) (v:Value) (x:α)
 | om {α:Type} (e:TypeId) (E:STy α) (v:Value) (xs:List α)
 | row (b:Nat) (cs:List Value) (e:TypeId)
 | rd (o:Bool) {α:Type} (T:STy α) (v:Value) (x:α)
 | ad (o1 o2:Bool) (v:Value) (j:Int) {α:Type} (T:STy α) (x:α)
 | ats (p:Addr) (cs:List Value)
 | hd (v:Value) (j:Int) (u:Value)
 | hol (e:TypeId) {α:Type} (E:STy α) (v:Value) (xs:List α) (j:Int) (u:Value)
def slen:Value→Nat
 | .slice _ n _=>n
 | _=>0
def inZ (o:Bool) (Z:Nat→Prop) (cur:List Nat) (b:Nat):Prop:=match o with | true=>b∈cur | false=>Z b
def fact (Z:Nat→Prop) (w:World) (cur:List Nat):Ent→Prop
 | .rd o T v x=>∃ g,T.rep w.heap [v] x g∧∀ b∈g,inZ o Z cur b
 | .ad o1 o2 v j T x=>0≤j∧j.toNat < slen v∧∃ u g,w.cell? (elA v 1 j)=some u∧T.rep w.heap [u] x g∧inZ o1 Z cur (elA v 1 j).block∧∀ b∈g,inZ o2 Z cur b
 | .ats p cs=>At w p cs∧(cs≠[]→Z p.block)
 | .hd v j u=>0≤j∧j.toNat < slen v∧w.cell? (elA v 1 j)=some u∧(elA v 1 j).block∈cur
 | _=>False
def Hol {α:Type} (e:TypeId) (E:STy α) (v:Value) (xs:List α) (j:Int) (u:Value) (h:Array Obj) (f:List Nat):Prop:=
 (∀ b∈f,b < h.size)∧∀ h':Array Obj,(∀ b∈f,h'[b]? = h[b]?)→∀ z' k',E.rep h' [u] z' k'→∃ f',f'.Perm (f++k')∧(aK e E).rep h' [v] (xs.set j.toNat z') f'
theorem Hol.keep {α:Type} {e:TypeId} {E:STy α} {v:Value} {xs:List α} {j:Int} {u:Value} {h h2:Array Obj} {f:List Nat} (hh:Hol e E v xs j u h f) (hb:∀ b∈f,h2[b]? = h[b]?) (hs:h.size≤h2.size):Hol e E v xs j u h2 f:=
 ⟨fun b hm=>Nat.lt_of_lt_of_le (hh.1 b hm) hs,fun h' hb' z' k' hr=>hh.2 h' (fun b hm=>(hb' b hm).trans (hb b hm)) z' k' hr⟩
theorem own_hol {α:Type} {E:STy α} {w:World} {e:TypeId} {v u:Value} {xs:List α} {f:List Nat} {j:Int} {z:α} (h1:E.size=1) (hO:(aK e E).rep w.heap [v] xs f) (hz:xs[j.toNat]? = some z) (hu:w.cell? (elA v 1 j)=some u) :
  ∃ k g,E.rep w.heap [u] z k∧(k++g).Perm f∧Hol e E v xs j u w.heap g:=by
 obtain ⟨base,cap,hv,hr⟩:=hO
 obtain rfl:v = .slice base xs.length cap:=by simpa using hv
 have hlt:j.toNat < xs.length:=(List.getElem?_eq_some_iff.1 hz).1
 rcases hr with ⟨_,_,rfl,_⟩ | ⟨b,cur,f0,rfl,hg,rfl,hnc,hcm,hcs,hrep⟩
 ·simp at hlt
 ·rw [h1,Nat.mul_one] at hcs hrep
  have hadr:elA (.slice (some ⟨b,0,none⟩) xs.length cap) 1 j = ⟨b,j.toNat,none⟩:=by
   simp only [elA,addr_add,Nat.zero_add,Nat.mul_one]
  rw [hadr,cell_of_row w b _ cur e _ hg] at hu
  have hltb:∀ i∈f0,i < w.heap.size:=repL_lt hrep
  have hbl:b < w.heap.size:=(Array.getElem?_eq_some_iff.1 hg).1
  obtain ⟨c,g0,g1,g2,p,q,hfe,hc,hp,hrc,hset⟩:=repL_split j.toNat z hrep hz
  subst hfe
  rw [h1,Nat.mul_one] at hp
  have hc1:c.length=1:=by rw [E.len hrc,h1]
  obtain ⟨c0,rfl⟩ : ∃ c0,c=[c0]:=by match c,hc1 with | [c0],_=>exact ⟨c0,rfl⟩
  have hcu:c0=u:=by
   have h2:(cur.toList.take xs.length)[j.toNat]? = some c0:=by
    rw [hc,List.append_assoc,List.getElem?_append_right (by omega),hp,Nat.sub_self]; rfl
   rw [List.getElem?_take,if_pos hlt,Array.getElem?_toList,hu] at h2
   exact (Option.some.inj h2).symm
  subst hcu
  refine ⟨g1,b :: (g0++g2),hrc,?_,⟨fun i hi=>?_,fun h' hb z' k' hr=>⟨b :: (g0++k'++g2),?_,⟨_,cap,by rw [List.length_set],.inr ⟨b,cur,g0++k'++g2,rfl,(hb b (by simp)).trans hg,rfl,by rw [List.length_set]; exact hnc,hcm,by simpa [h1] using hcs,?_⟩⟩⟩⟩⟩
  ·refine (List.perm_append_comm (l₁:=g1) (l₂:=b :: (g0++g2))).trans ?_
   rw [List.cons_append]
   refine List.Perm.cons b ?_
   rw [List.append_assoc,List.append_assoc]
   exact List.Perm.append_left g0 List.perm_append_comm
  ·rcases List.mem_cons.1 hi with rfl | hi
   ·exact hbl
   ·exact hltb i (by rcases List.mem_append.1 hi with hi | hi <;> simp [hi])
  ·rw [List.cons_append]
   refine List.Perm.cons b ?_
   rw [List.append_assoc,List.append_assoc]
   exact List.Perm.append_left g0 List.perm_append_comm
  ·rw [List.length_set,h1,Nat.mul_one,hc]
   exact hset h' [c0] z' k' (fun i hi=>hb i (by simp [hi])) (fun i hi=>hb i (by simp [hi])) hr
def owns (Z:Nat→Prop) (w:World) (f:List Nat):Ent→Prop
 | .own T v x=>T.rep w.heap [v] x f
 | .om e E v xs=>∃ us g,(aK e sVal).rep w.heap [v] us f∧repL E w.heap us xs g∧(∀ b∈g,Z b)∧E.size=1
 | .row b cs e=>f=[b]∧Row w b cs e
 | .hol e E v xs j u=>Hol e E v xs j u w.heap f
 | _=>False
def SA (Z:Nat→Prop) (w:World):List Ent→List Nat→List Nat→Prop
 | [],_,F=>F=[]
 | .own T v x :: Γ,_,F=>∃ f F',F=f++F'∧owns Z w f (.own T v x)∧SA Z w Γ f F'
 | .om e E v xs :: Γ,_,F=>∃ f F',F=f++F'∧owns Z w f (.om e E v xs)∧SA Z w Γ f F'
 | .row b cs e :: Γ,cur,F=>∃ f F',F=f++F'∧owns Z w f (.row b cs e)∧SA Z w Γ cur F'
 | .rd o T v x :: Γ,cur,F=>fact Z w cur (.rd o T v x)∧SA Z w Γ cur F
 | .ad o1 o2 v j T x :: Γ,cur,F=>fact Z w cur (.ad o1 o2 v j T x)∧SA Z w Γ cur F
 | .ats p cs :: Γ,cur,F=>fact Z w cur (.ats p cs)∧SA Z w Γ cur F
 | .hd v j u :: Γ,cur,F=>fact Z w cur (.hd v j u)∧SA Z w Γ cur F
 | .hol e E v xs j u :: Γ,_,F=>∃ f F',F=f++F'∧owns Z w f (.hol e E v xs j u)∧SA Z w Γ f F'
section
variable {Z Z':Nat→Prop} {w w':World} {cur cur' F f H:List Nat} {Γ Γ' Γ1 Γ2 Δ:List Ent} {e:Ent}
theorem inZ.mono {o:Bool} {b:Nat} (hz:∀ b,Z b→Z' b) (hc:∀ b∈cur,b∈cur') (h:inZ o Z cur b):inZ o Z' cur' b:=by
 cases o
 ·exact hz b h
 ·exact hc b h
theorem fact.mono (hz:∀ b,Z b→Z' b) (hc:∀ b∈cur,b∈cur') (h:fact Z w cur e):fact Z' w cur' e:=by
 cases e with
 | rd o T v x=>obtain ⟨g,h1,h2⟩:=h; exact ⟨g,h1,fun b hb=>(h2 b hb).mono hz hc⟩
 | ad o1 o2 v j T x=>obtain ⟨j0,j1,u,g,h1,h2,h3,h4⟩:=h; exact ⟨j0,j1,u,g,h1,h2,h3.mono hz hc,fun b hb=>(h4 b hb).mono hz hc⟩
 | ats p cs=>exact ⟨h.1,fun hn=>hz _ (h.2 hn)⟩
 | hd v j u=>exact ⟨h.1,h.2.1,h.2.2.1,hc _ h.2.2.2⟩
 | _=>exact h.elim
theorem owns.mono (hz:∀ b,Z b→Z' b) (h:owns Z w f e):owns Z' w f e:=by
 cases e with
 | om e E v xs=>obtain ⟨us,g,h1,h2,h3,h4⟩:=h; exact ⟨us,g,h1,h2,fun b hb=>hz b (h3 b hb),h4⟩
 | _=>exact h
theorem SA.mono (hz:∀ b,Z b→Z' b):∀ {Γ:List Ent} {cur cur' F:List Nat},(∀ b∈cur,b∈cur')→SA Z w Γ cur F→SA Z' w Γ cur' F:=by
 intro Γ
 induction Γ with
 | nil=>intro cur cur' F hc h; exact h
 | cons e Γ ih=>
  intro cur cur' F hc h
  cases e with
  | own T v x=>obtain ⟨f,F',h1,h2,h3⟩:=h; exact ⟨f,F',h1,h2.mono hz,ih (fun _ h=>h) h3⟩
  | om e E v xs=>obtain ⟨f,F',h1,h2,h3⟩:=h; exact ⟨f,F',h1,h2.mono hz,ih (fun _ h=>h) h3⟩
  | row b cs e=>obtain ⟨f,F',h1,h2,h3⟩:=h; exact ⟨f,F',h1,h2.mono hz,ih hc h3⟩
  | rd o T v x=>exact ⟨h.1.mono hz hc,ih hc h.2⟩
  | ad o1 o2 v j T x=>exact ⟨h.1.mono hz hc,ih hc h.2⟩
  | ats p cs=>exact ⟨h.1.mono hz hc,ih hc h.2⟩
  | hd v j u=>exact ⟨h.1.mono hz hc,ih hc h.2⟩
  | hol e E v xs j u=>obtain ⟨f,F',h1,h2,h3⟩:=h; exact ⟨f,F',h1,h2,ih (fun _ h=>h) h3⟩
theorem SA.any (h:SA Z w Γ [] F):SA Z w Γ cur F:=SA.mono (cur:=[]) (fun _ h=>h) (fun b (hb:b∈([]:List Nat))=>absurd hb List.not_mem_nil) h
theorem inZ.out {o:Bool} {b:Nat} (hz:∀ b∈H,¬ Z b) (hc:∀ b∈H,b ∉ cur) (h:inZ o Z cur b):b ∉ H:=by
 cases o
 ·exact fun hb=>hz b hb h
 ·exact fun hb=>hc b hb h
theorem fact.keep (hC:Chg H w w') (hz:∀ b∈H,¬ Z b) (hc:∀ b∈H,b ∉ cur) (h:fact Z w cur e):fact Z w' cur e:=by
 cases e with
 | rd o T v x=>obtain ⟨g,h1,h2⟩:=h; exact ⟨g,T.keep h1 hC fun b hb=>(h2 b hb).out hz hc,h2⟩
 | ad o1 o2 v j T x=>obtain ⟨j0,j1,u,g,h1,h2,h3,h4⟩:=h; exact ⟨j0,j1,u,g,hC.cell (h3.out hz hc) h1,T.keep h2 hC fun b hb=>(h4 b hb).out hz hc,h3,h4⟩
 | ats p cs=>
  refine ⟨?_,h.2⟩
  cases cs with
  | nil=>intro j u hj; simp at hj
  | cons c cs=>exact h.1.keep hC fun hb=>hz _ hb (h.2 (by simp))
 | hd v j u=>exact ⟨h.1,h.2.1,hC.cell (fun hb=>hc _ hb h.2.2.2) h.2.2.1,h.2.2.2⟩
 | _=>exact h.elim
theorem owns.keep (hC:Chg H w w') (hz:∀ b∈H,¬ Z b) (hf:∀ b∈H,b ∉ f) (h:owns Z w f e):owns Z w' f e:=by
 cases e with
 | own T v x=>exact T.keep h hC fun b hb hm=>hf b hm hb
 | om e E v xs=>
  obtain ⟨us,g,h1,h2,h3,h4⟩:=h
  exact ⟨us,g,(aK e sVal).keep h1 hC fun b hb hm=>hf b hm hb,repL_congr h2 fun b hb=>hC.block b (repL_lt h2 b hb) fun hm=>hz b hm (h3 b hb),h3,h4⟩
 | row b cs e=>obtain ⟨rfl,h2⟩:=h; exact ⟨rfl,h2.keep hC fun hm=>hf b hm (by simp)⟩
 | hol e E v xs j u=>exact Hol.keep h (fun b hb=>hC.block b (h.1 b hb) fun hm=>hf b hm hb) hC.size
 | _=>exact h.elim
theorem SA.keep (hC:Chg H w w') (hz:∀ b∈H,¬ Z b):∀ {Γ:List Ent} {cur F:List Nat},(∀ b∈H,b ∉ cur)→(∀ b∈H,b ∉ F)→SA Z w Γ cur F→SA Z w' Γ cur F:=by
 intro Γ
 induction Γ with
 | nil=>intro cur F hc hF h; exact h
 | cons e Γ ih=>
  intro cur F hc hF h
  cases e with
  | own T v x=>
   obtain ⟨f,F',rfl,h2,h3⟩:=h
   have a1:∀ b∈H,b ∉ f:=fun b hb hm=>hF b hb (List.mem_append_left _ hm)
   have a2:∀ b∈H,b ∉ F':=fun b hb hm=>hF b hb (List.mem_append_right _ hm)
   exact ⟨f,F',rfl,h2.keep hC hz a1,ih a1 a2 h3⟩
  | om e E v xs=>
   obtain ⟨f,F',rfl,h2,h3⟩:=h
   have a1:∀ b∈H,b ∉ f:=fun b hb hm=>hF b hb (List.mem_append_left _ hm)
   have a2:∀ b∈H,b ∉ F':=fun b hb hm=>hF b hb (List.mem_append_right _ hm)
   exact ⟨f,F',rfl,h2.keep hC hz a1,ih a1 a2 h3⟩
  | row b cs e=>
   obtain ⟨f,F',rfl,h2,h3⟩:=h
   have a1:∀ b∈H,b ∉ f:=fun b hb hm=>hF b hb (List.mem_append_left _ hm)
   have a2:∀ b∈H,b ∉ F':=fun b hb hm=>hF b hb (List.mem_append_right _ hm)
   exact ⟨f,F',rfl,h2.keep hC hz a1,ih hc a2 h3⟩
  | rd o T v x=>exact ⟨h.1.keep hC hz hc,ih hc hF h.2⟩
  | ad o1 o2 v j T x=>exact ⟨h.1.keep hC hz hc,ih hc hF h.2⟩
  | ats p cs=>exact ⟨h.1.keep hC hz hc,ih hc hF h.2⟩
  | hd v j u=>exact ⟨h.1.keep hC hz hc,ih hc hF h.2⟩
  | hol e E v xs j u=>
   obtain ⟨f,F',rfl,h2,h3⟩:=h
   have a1:∀ b∈H,b ∉ f:=fun b hb hm=>hF b hb (List.mem_append_left _ hm)
   have a2:∀ b∈H,b ∉ F':=fun b hb hm=>hF b hb (List.mem_append_right _ hm)
   exact ⟨f,F',rfl,h2.keep hC hz a1,ih a1 a2 h3⟩
theorem SA.keep0 (hC:Chg [] w w') (h:SA Z w Γ cur F):SA Z w' Γ cur F:=h.keep hC (fun _ h=>nomatch h) (fun _ h=>nomatch h) (fun _ h=>nomatch h)
theorem owns.lt (h:owns Z w f e):∀ b∈f,b < w.heap.size:=by
 cases e with
 | own T v x=>exact T.lt h
 | om e E v xs=>obtain ⟨us,g,h1,h2,h3,h4⟩:=h; exact STy.lt _ h1
 | row b cs e=>obtain ⟨rfl,h2⟩:=h; exact one_lt h2.lt
 | hol e E v xs j u=>exact h.1
 | _=>exact h.elim
theorem SA.lt:∀ {Γ:List Ent} {cur F:List Nat},SA Z w Γ cur F→∀ b∈F,b < w.heap.size:=by
 intro Γ
 induction Γ with
 | nil=>intro cur F h b hb; rw [h] at hb; cases hb
 | cons e Γ ih=>
  intro cur F h
  cases e with
  | own T v x=>obtain ⟨f,F',rfl,h2,h3⟩:=h; exact fun b hb=>(List.mem_append.1 hb).elim (h2.lt b) (ih h3 b)
  | om e E v xs=>obtain ⟨f,F',rfl,h2,h3⟩:=h; exact fun b hb=>(List.mem_append.1 hb).elim (h2.lt b) (ih h3 b)
  | row b cs e=>obtain ⟨f,F',rfl,h2,h3⟩:=h; exact fun b hb=>(List.mem_append.1 hb).elim (h2.lt b) (ih h3 b)
  | rd o T v x=>exact ih h.2
  | ad o1 o2 v j T x=>exact ih h.2
  | ats p cs=>exact ih h.2
  | hd v j u=>exact ih h.2
  | hol e E v xs j u=>obtain ⟨f,F',rfl,h2,h3⟩:=h; exact fun b hb=>(List.mem_append.1 hb).elim (h2.lt b) (ih h3 b)
theorem SA.cons (h:SA Z w Γ [] F) (ho:owns Z w f e):SA Z w (e :: Γ) [] (f++F):=by
 cases e with
 | own T v x=>exact ⟨f,F,rfl,ho,h.any⟩
 | om e E v xs=>exact ⟨f,F,rfl,ho,h.any⟩
 | row b cs e=>exact ⟨f,F,rfl,ho,h⟩
 | hol e E v xs j u=>exact ⟨f,F,rfl,ho,h.any⟩
 | _=>exact ho.elim
theorem SA.fact (h:SA Z w Γ [] F) (hf:fact Z w [] e):SA Z w (e :: Γ) [] F:=by
 cases e with
 | own T v x=>exact hf.elim
 | om e E v xs=>exact hf.elim
 | row b cs e=>exact hf.elim
 | hol e E v xs j u=>exact hf.elim
 | _=>exact ⟨hf,h⟩
end
def cellH (h:Array Obj) (a:Addr):Option Value:=match h[a.block]? with
 | some (.cells c _ _)=>if a.spot.isSome then none else c[a.off]?
 | _=>none
def sPtr {α:Type} (A:STy α):STy α where
 size:=1
 rep h cs x f:=∃ p cs' g,cs=[.pointer (some p)]∧p.block < h.size∧(∀ j u,cs'[j]? = some u→cellH h (p.add j)=some u)∧A.rep h cs' x g∧f=p.block :: g
 len:=by rintro h cs x f ⟨p,cs',g,rfl,_⟩; rfl
 one:=by rintro h cs x f ⟨p,cs',g,rfl,_⟩ v hv; simp at hv; subst hv; rfl
 congr:=by
  rintro h h' cs x f ⟨p,cs',g,rfl,h1,h2,h3,rfl⟩ hb
  have hp:=hb p.block (by simp)
  refine ⟨p,cs',g,rfl,?_,fun j u hj=>?_,A.congr h3 fun b hm=>hb b (by simp [hm]),rfl⟩
  ·rw [Array.getElem?_eq_getElem h1] at hp
   exact (Array.getElem?_eq_some_iff.1 hp).1
  ·rw [← h2 j u hj]
   unfold cellH
   rw [add_block,hp]
 lt:=by
  rintro h cs x f ⟨p,cs',g,rfl,h1,h2,h3,rfl⟩ b hb
  rcases List.mem_cons.1 hb with rfl | hb
  ·exact h1
  ·exact A.lt h3 b hb
class Dt {α:Type} (B:STy α):Prop where
 det:∀ {h:Array Obj} {cs:List Value} {x y:α} {f g:List Nat},B.rep h cs x f→B.rep h cs y g→x=y
def sStr {α:Type} (S:STy α):STy α where
 size:=S.size
 rep h cs x f:=True∧S.rep h cs x f
 len:=fun h=>S.len h.2
 one:=fun h=>S.one h.2
 congr:=fun h hb=>⟨trivial,S.congr h.2 hb⟩
 lt:=fun h=>S.lt h.2
theorem Le.str {α:Type} {S:STy α}:Le S (sStr S):=⟨rfl,fun h=>⟨trivial,h⟩⟩
def sIn {α:Type} (R:Value→α→Prop) (E:STy α):STy α where
 size:=E.size
 rep h cs x f:=(∃ v,cs=[v]∧R v x)∧E.rep h cs x f
 len:=fun h=>E.len h.2
 one:=fun h=>E.one h.2
 congr:=fun h hb=>⟨h.1,E.congr h.2 hb⟩
 lt:=fun h=>E.lt h.2
def sPair {α β:Type} (A:STy α) (B:STy β):STy (α×β) where
 size:=A.size+B.size
 rep h cs x f:=∃ c1 c2 f1 f2,cs=c1++c2∧f=f1++f2∧A.rep h c1 x.1 f1∧B.rep h c2 x.2 f2
 len:=by rintro h cs x f ⟨c1,c2,f1,f2,rfl,rfl,h1,h2⟩; rw [List.length_append,A.len h1,B.len h2]
 one:=by
  rintro h cs x f ⟨c1,c2,f1,f2,rfl,rfl,h1,h2⟩ v hv
  rcases List.mem_append.1 hv with hv | hv
  ·exact A.one h1 v hv
  ·exact B.one h2 v hv
 congr:=by
  rintro h h' cs x f ⟨c1,c2,f1,f2,rfl,rfl,h1,h2⟩ hb
  exact ⟨c1,c2,f1,f2,rfl,rfl,A.congr h1 fun b hm=>hb b (List.mem_append_left _ hm),B.congr h2 fun b hm=>hb b (List.mem_append_right _ hm)⟩
 lt:=by
  rintro h cs x f ⟨c1,c2,f1,f2,rfl,rfl,h1,h2⟩ b hb
  rcases List.mem_append.1 hb with hb | hb
  ·exact A.lt h1 b hb
  ·exact B.lt h2 b hb
def sMap {α β:Type} (g:β→α) (A:STy α):STy β where
 size:=A.size
 rep h cs y f:=A.rep h cs (g y) f
 len:=A.len
 one:=A.one
 congr:=A.congr
 lt:=A.lt
class RTs {α:Type} (A:STy α) (B:outParam (STy α)):Prop where
 le:Le A B
 det:Dt B
theorem Le.pair {α β:Type} {A A':STy α} {B B':STy β} (h:Le A A') (k:Le B B'):Le (sPair A B) (sPair A' B'):=
 ⟨show A.size+B.size=A'.size+B'.size by rw [h.size,k.size],by rintro h' cs x f ⟨c1,c2,f1,f2,e1,e2,h1,h2⟩; exact ⟨c1,c2,f1,f2,e1,e2,h.le h1,k.le h2⟩⟩
theorem Le.map {α β:Type} {g:β→α} {A A':STy α} (h:Le A A'):Le (sMap g A) (sMap g A'):=⟨h.size,fun hr=>h.le hr⟩
inductive RT:{α:Type}→STy α→STy α→Prop
 | i {k:IntKind}:RT (aC k) (aC k)
 | b:RT sBool sBool
 | own {α:Type} {e:TypeId} {A B:STy α} (h:RT A B):RT (aK e A) (aE B)
 | imm {α:Type} {A B:STy α} (h:RT A B):RT (aE A) (aE B)
 | ptr {α:Type} {A:STy α} [hd:Dt A]:RT (sPtr A) (sPtr A)
 | str {α:Type} {A:STy α} [hd:Dt A]:RT (sStr A) (sStr A)
 | inx {α:Type} {R:Value→α→Prop} {A B:STy α} (h:RT A B):RT (sIn R A) (sIn R A)
 | inn {α:Type} {R:Value→α→Prop} {A B:STy α} (h:RT A B):RT (sIn R A) B
 | sos {α:Type} {A B:STy α} [hs:RTs A B]:RT A (sStr B)
theorem RT.le {α:Type} {A B:STy α} (h:RT A B):Le A B:=by
 induction h with
 | i=>exact Le.refl _
 | b=>exact Le.refl _
 | own _ ih=>exact Le.own ih _
 | imm _ ih=>exact Le.imm ih
 | ptr=>exact Le.refl _
 | str=>exact Le.refl _
 | sos=>rename_i hs; exact ⟨hs.le.size,fun h=>⟨trivial,hs.le.le h⟩⟩
 | inx _ _=>exact Le.refl _
 | inn _ ih=>exact ⟨ih.size,fun h=>ih.le h.2⟩
theorem repL_det {α:Type} {E:STy α} (hE:∀ {h:Array Obj} {cs:List Value} {x y:α} {f g:List Nat},E.rep h cs x f→E.rep h cs y g→x=y) {h:Array Obj}:∀ {xs ys:List α} {cs:List Value} {f g:List Nat},xs.length=ys.length→repL E h cs xs f→repL E h cs ys g→xs=ys:=by
 intro xs
 induction xs with
 | nil=>intro ys cs f g hl _ _; cases ys with
  | nil=>rfl
  | cons y ys=>cases hl
 | cons x xs ih=>
  intro ys cs f g hl h1 h2
  cases ys with
  | nil=>cases hl
  | cons y ys=>
   obtain ⟨c,cs',f1,f2,rfl,rfl,a1,a2⟩:=h1
   obtain ⟨d,ds',g1,g2,e1,rfl,b1,b2⟩:=h2
   obtain ⟨rfl,rfl⟩:=List.append_inj e1 ((E.len a1).trans (E.len b1).symm)
   rw [hE a1 b1,ih (by simpa using hl) a2 b2]
theorem imm_det {α:Type} {B:STy α} (ih:∀ {h:Array Obj} {cs:List Value} {x y:α} {f g:List Nat},B.rep h cs x f→B.rep h cs y g→x=y) {h:Array Obj} {cs:List Value} {x y:List α} {f g:List Nat} (h1:(aE B).rep h cs x f) (h2:(aE B).rep h cs y g):x=y:=by
 obtain ⟨base,cap,rfl,a⟩:=h1
 obtain ⟨base',cap',e,b⟩:=h2
 simp only [List.cons.injEq,Value.slice.injEq,and_true] at e
 obtain ⟨rfl,hl,rfl⟩:=e
 rcases a with ⟨rfl,_⟩ | ⟨b1,off,cr,e,fz,f',rfl,a2,rfl,a3⟩
 ·exact (List.eq_nil_of_length_eq_zero hl.symm).symm
 ·rcases b with ⟨rfl,_⟩ | ⟨b1',off',cr',e',fz',g',e1,c2,rfl,c3⟩
  ·exact List.eq_nil_of_length_eq_zero hl
  ·cases e1
   rw [a2] at c2
   cases c2
   rw [hl] at a3
   exact repL_det ih hl a3 c3
theorem ptr_det {α:Type} {A:STy α} [hd:Dt A] {h:Array Obj} {cs:List Value} {x y:α} {f g:List Nat} (h1:(sPtr A).rep h cs x f) (h2:(sPtr A).rep h cs y g):x=y:=by
 obtain ⟨p,c1,g1,rfl,_,a1,a2,rfl⟩:=h1
 obtain ⟨q,c2,g2,e,_,b1,b2,rfl⟩:=h2
 cases e
 have hl:c1.length=c2.length:=(A.len a2).trans (A.len b2).symm
 have he:c1=c2:=by
  refine List.ext_getElem hl fun j hj hk=>?_
  exact Option.some.inj ((a1 j _ (List.getElem?_eq_getElem hj)).symm.trans (b1 j _ (List.getElem?_eq_getElem hk)))
 subst he
 exact hd.det a2 b2
instance Dt.i {k:IntKind}:Dt (aC k):=⟨by rintro h cs x y f g ⟨rfl,_⟩ ⟨e,_⟩; cases e; rfl⟩
instance Dt.b:Dt sBool:=⟨by rintro h cs x y f g ⟨rfl,_⟩ ⟨e,_⟩; cases e; rfl⟩
instance Dt.s {α:Type} {B:STy α} [hb:Dt B]:Dt (aE B):=⟨imm_det hb.det⟩
theorem RT.det {α:Type} {A B:STy α} (h:RT A B):∀ {h:Array Obj} {cs:List Value} {x y:α} {f g:List Nat},B.rep h cs x f→B.rep h cs y g→x=y:=by
 induction h with
 | i=>exact Dt.i.det
 | b=>exact Dt.b.det
 | own _ ih=>exact imm_det ih
 | imm _ ih=>exact imm_det ih
 | ptr=>exact ptr_det
 | @str α A hd=>exact fun h1 h2=>hd.det h1.2 h2.2
 | sos=>rename_i hs; exact fun h1 h2=>hs.det.det h1.2 h2.2
 | inx h ih=>exact fun h1 h2=>ih (h.le.le h1.2) (h.le.le h2.2)
 | inn _ ih=>exact ih
def slOk (Z:Nat→Prop) (w:World) (cur:List Nat) (o1 o2:Bool) {α:Type} (E:STy α) (v:Value) (xs:List α):Prop:=
 (∃ g,(aE E).rep w.heap [v] xs g∧∀ b∈g,inZ o1 Z cur b∨inZ o2 Z cur b)∧(E.size=1→∀ (j:Int) (y:α),0≤j→xs[j.toNat]? = some y→fact Z w cur (.ad o1 o2 v j E y))
inductive Fnd:List Ent→Value→Bool→Bool→{α:Type}→STy α→List α→Ent→List Ent→Prop
 | nil {α:Type} {E:STy α} {e:Ent} {Γ:List Ent}:Fnd Γ (.slice none 0 0) false false E [] e Γ
 | rd {o:Bool} {α:Type} {E:STy α} {T:STy (List α)} {v:Value} {x:List α} {e:Ent} {Γ:List Ent} (h:RT T (aE E)):Fnd (.rd o T v x :: Γ) v o o E x e (.rd o T v x :: e :: Γ)
 | own {α:Type} {E:STy α} {T:STy (List α)} {v:Value} {x:List α} {e:Ent} {Γ:List Ent} (h:RT T (aE E)):Fnd (.own T v x :: Γ) v true true E x e (.own T v x :: e :: Γ)
 | om {α:Type} {t:TypeId} {E E':STy α} {v:Value} {xs:List α} {e:Ent} {Γ:List Ent} (h:RT E E'):Fnd (.om t E v xs :: Γ) v true false E' xs e (.om t E v xs :: e :: Γ)
 | there {o1 o2:Bool} {α:Type} {E:STy α} {v:Value} {x:List α} {e a:Ent} {Γ Γ':List Ent} (h:Fnd Γ v o1 o2 E x e Γ'):Fnd (a :: Γ) v o1 o2 E x e (a :: Γ')
inductive FndA:List Ent→Addr→Bool→{α:Type}→STy α→α→Ent→List Ent→Prop
 | ad {o1 o2:Bool} {α:Type} {E:STy α} {v:Value} {j:Int} {x:α} {e:Ent} {Γ:List Ent}:FndA (.ad o1 o2 v j E x :: Γ) (elA v 1 j) o2 E x e (.ad o1 o2 v j E x :: e :: Γ)
 | there {o2:Bool} {α:Type} {E:STy α} {v:Addr} {x:α} {e a:Ent} {Γ Γ':List Ent} (h:FndA Γ v o2 E x e Γ'):FndA (a :: Γ) v o2 E x e (a :: Γ')
inductive FndH:List Ent→Value→Int→Value→List Ent→Prop
 | ad {o2:Bool} {α:Type} {E:STy α} {v u:Value} {j:Int} {x:α} {Γ:List Ent}:FndH (.ad true o2 v j E x :: Γ) v j u (.ad true o2 v j E x :: .hd v j u :: Γ)
 | adf {o2:Bool} {α:Type} {E:STy α} {v u:Value} {j:Int} {x:α} {Γ:List Ent}:FndH (.ad false o2 v j E x :: Γ) v j u (.ad false o2 v j E x :: Γ)
 | there {v u:Value} {j:Int} {a:Ent} {Γ Γ':List Ent} (h:FndH Γ v j u Γ'):FndH (a :: Γ) v j u (a :: Γ')
inductive FndC:List Ent→Addr→Value→Prop
 | row {b j:Nat} {cs:List Value} {t:TypeId} {v:Value} {Γ:List Ent} (h:cs[j]? = some v):FndC (.row b cs t :: Γ) ⟨b,j,none⟩ v
 | at {p:Addr} {j:Nat} {cs:List Value} {v:Value} {Γ:List Ent} (h:cs[j]? = some v):FndC (.ats p cs :: Γ) (p.add j) v
 | at0 {p:Addr} {cs:List Value} {v:Value} {Γ:List Ent} (h:cs[0]? = some v):FndC (.ats p cs :: Γ) p v
 | at2 {p:Addr} {i j:Nat} {cs:List Value} {v:Value} {Γ:List Ent} (h:cs[i+j]? = some v) (hn:Nat.beq (i+j) 0=false):FndC (.ats p cs :: Γ) ⟨p.block,p.off+i+j,none⟩ v
 | there {a:Addr} {v:Value} {e:Ent} {Γ:List Ent} (h:FndC Γ a v):FndC (e :: Γ) a v
inductive Skip:List Ent→List Ent→Prop
 | nil:Skip [] []
 | rdt {α:Type} {T:STy α} {v:Value} {x:α} {Γ Γ':List Ent} (h:Skip Γ Γ'):Skip (.rd true T v x :: Γ) Γ'
 | rdf {α:Type} {T:STy α} {v:Value} {x:α} {Γ Γ':List Ent} (h:Skip Γ Γ'):Skip (.rd false T v x :: Γ) (.rd false T v x :: Γ')
 | adt {o:Bool} {v:Value} {j:Int} {α:Type} {T:STy α} {x:α} {Γ Γ':List Ent} (h:Skip Γ Γ'):Skip (.ad true o v j T x :: Γ) Γ'
 | adf {v:Value} {j:Int} {α:Type} {T:STy α} {x:α} {Γ Γ':List Ent} (h:Skip Γ Γ'):Skip (.ad false false v j T x :: Γ) (.ad false false v j T x :: Γ')
 | ats {p:Addr} {cs:List Value} {Γ Γ':List Ent} (h:Skip Γ Γ'):Skip (.ats p cs :: Γ) (.ats p cs :: Γ')
 | row {b:Nat} {cs:List Value} {t:TypeId} {Γ Γ':List Ent} (h:Skip Γ Γ'):Skip (.row b cs t :: Γ) (.row b cs t :: Γ')
 | hd {v u:Value} {j:Int} {Γ Γ':List Ent} (h:Skip Γ Γ'):Skip (.hd v j u :: Γ) Γ'
 | hol {α:Type} {e:TypeId} {E:STy α} {v u:Value} {xs:List α} {j:Int} {Γ:List Ent}:Skip (.hol e E v xs j u :: Γ) (.hol e E v xs j u :: Γ)
 | own {α:Type} {T:STy α} {v:Value} {x:α} {Γ:List Ent}:Skip (.own T v x :: Γ) (.own T v x :: Γ)
 | om {α:Type} {t:TypeId} {E:STy α} {v:Value} {xs:List α} {Γ:List Ent}:Skip (.om t E v xs :: Γ) (.om t E v xs :: Γ)
inductive Sel:List Ent→Ent→List Ent→Prop
 | nil {α:Type} {t:TypeId} {E:STy α} {Γ:List Ent}:Sel Γ (.own (aK t E) (.slice none 0 0) []) Γ
 | own {α:Type} {T:STy α} {v:Value} {x:α} {Γ Γ':List Ent} (h:Skip Γ Γ'):Sel (.own T v x :: Γ) (.own T v x) Γ'
 | om {α:Type} {t:TypeId} {E:STy α} {v:Value} {xs:List α} {Γ Γ':List Ent} (h:Skip Γ Γ'):Sel (.om t E v xs :: Γ) (.om t E v xs) Γ'
 | omn {α:Type} {t:TypeId} {E:STy α} {Γ:List Ent} (h:E.size=1):Sel Γ (.om t E (.slice none 0 0) []) Γ
 | omz {α β:Type} {t:TypeId} {E:STy α} {E':STy β} {v:Value} {Γ Γ':List Ent} (h1:E.size=1) (h2:E'.size=1) (h:Skip Γ Γ'):Sel (.own (aK t E) v [] :: Γ) (.om t E' v []) Γ'
 | row {b:Nat} {cs:List Value} {t:TypeId} {Γ:List Ent}:Sel (.row b cs t :: Γ) (.row b cs t) Γ
 | hol {α:Type} {e:TypeId} {E:STy α} {v u:Value} {xs:List α} {j:Int} {Γ Γ':List Ent} (h:Skip Γ Γ'):Sel (.hol e E v xs j u :: Γ) (.hol e E v xs j u) Γ'
 | there {e a:Ent} {Γ Γ':List Ent} (h:Sel Γ e Γ'):Sel (a :: Γ) e (a :: Γ')
section
variable {Z:Nat→Prop} {w:World} {cur F:List Nat} {Γ Γ':List Ent} {e:Ent} {α:Type} {E:STy α}
theorem sl_imm {o:Bool} {v:Value} {xs:List α} {g:List Nat} (h:(aE E).rep w.heap [v] xs g) (hg:∀ b∈g,inZ o Z cur b):slOk Z w cur o o E v xs:=by
 refine ⟨⟨g,h,fun b hb=>.inl (hg b hb)⟩,fun h1 j y h0 hy=>?_⟩
 obtain ⟨u,k,hc,hr,hk⟩:=one_get h1 h h0 hy
 have hlt:j.toNat < xs.length:=(List.getElem?_eq_some_iff.1 hy).1
 have hsl:j.toNat < slen v:=by
  obtain ⟨base,cap,hv,_⟩:=h
  obtain rfl:v = .slice base xs.length cap:=by simpa using hv
  exact hlt
 refine ⟨h0,hsl,u,k,hc,hr,?_,fun b hb=>hg b (hk b hb)⟩
 obtain ⟨base,cap,hv,hr⟩:=h
 obtain rfl:v = .slice base xs.length cap:=by simpa using hv
 rcases hr with ⟨rfl,_⟩ | ⟨b,off,cr,e,fz,f',rfl,_,rfl,_⟩
 ·simp at hy
 ·have:(elA (.slice (some ⟨b,off,none⟩) xs.length cap) 1 j).block=b:=by simp only [elA,addr_add]
  rw [this]; exact hg b (by simp)
theorem sl_om {t:TypeId} {v:Value} {xs:List α} {f:List Nat} (h:owns Z w f (.om t E v xs)):slOk Z w f true false E v xs:=by
 obtain ⟨us,g,ho,hr,hg,h1⟩:=h
 have hrd:(aE E).rep w.heap [v] xs (f++g):=by
  obtain ⟨base,cap,hv,hr'⟩:=ho
  have hl:us.length=xs.length:=by have:=repL_len hr; rw [h1,Nat.mul_one] at this; exact this
  refine ⟨base,cap,by rw [hv,hl],?_⟩
  rcases hr' with ⟨rfl,rfl,rfl,rfl⟩ | ⟨b,cr,f',rfl,h2,rfl,h4,h5,h6,h3⟩
  ·cases xs with
   | nil=>obtain ⟨_,rfl⟩:=hr; exact .inl ⟨rfl,rfl⟩
   | cons x xs=>simp at hl
  ·obtain ⟨h7,rfl⟩:=repL_val h3
   refine .inr ⟨b,0,cr,t,(0,0),g,rfl,h2,rfl,?_⟩
   rw [List.drop_zero,h1,Nat.mul_one,← hl]
   have h8:sVal.size=1:=rfl
   rw [h8,Nat.mul_one] at h7
   rw [h7]
   exact hr
 refine ⟨⟨_,hrd,fun b hb=>(List.mem_append.1 hb).elim .inl fun h=>.inr (hg b h)⟩,fun _ j y h0 hy=>?_⟩
 have hO:OM f 0 w t E v xs f g:=by
  refine ⟨us,⟨ho,?_,fun b hb=>.inl hb⟩,hr,h1⟩
  obtain ⟨base,cap,hv,hr'⟩:=ho
  rcases hr' with ⟨rfl,rfl,rfl,rfl⟩ | ⟨b,cr,f',rfl,h2,rfl,h4,h5,h6,h3⟩
  ·exact List.nodup_nil
  ·obtain ⟨h7,rfl⟩:=repL_val h3; simp
 obtain ⟨u,k,hc,hrk,hk⟩:=OM.get hO h0 hy
 have hlt:j.toNat < xs.length:=(List.getElem?_eq_some_iff.1 hy).1
 have hsl:j.toNat < slen v:=by
  obtain ⟨base,cap,hv,_⟩:=hrd
  obtain rfl:v = .slice base xs.length cap:=by simpa using hv
  exact hlt
 refine ⟨h0,hsl,u,k,hc,hrk,?_,fun b hb=>hg b (hk b hb)⟩
 obtain ⟨base,cap,hv,hr'⟩:=ho
 obtain rfl:v = .slice base us.length cap:=by simpa using hv
 rcases hr' with ⟨rfl,rfl,rfl,rfl⟩ | ⟨b,cr,f',rfl,h2,rfl,h4,h5,h6,h3⟩
 ·cases xs with
  | nil=>simp at hy
  | cons x xs=>have:=repL_len hr; simp [h1] at this
 ·have:(elA (.slice (some ⟨b,0,none⟩) us.length cap) 1 j).block=b:=by simp only [elA,addr_add]
  show inZ true Z _ _
  rw [this]; exact List.mem_cons_self
theorem slOk.le {o1 o2:Bool} {E':STy α} {v:Value} {xs:List α} (hl:Le E E') (h:slOk Z w cur o1 o2 E v xs):slOk Z w cur o1 o2 E' v xs:=by
 obtain ⟨⟨g,h1,h3⟩,h2⟩:=h
 refine ⟨⟨g,(Le.imm hl).le h1,h3⟩,fun hs j y h0 hy=>?_⟩
 obtain ⟨j0,j1,u,k,a,b,c,d⟩:=h2 (by rw [hl.size]; exact hs) j y h0 hy
 exact ⟨j0,j1,u,k,a,hl.le b,c,d⟩
theorem Fnd.sound {v:Value} {o1 o2:Bool} {xs:List α} (h:Fnd Γ v o1 o2 E xs e Γ'):∀ {cur F:List Nat},SA Z w Γ cur F→∃ cur',(∀ b∈cur',b∈cur∨b∈F)∧slOk Z w cur' o1 o2 E v xs∧(fact Z w cur' e→SA Z w Γ' cur F):=by
 induction h with
 | nil=>intro cur F h; exact ⟨[],(fun b (hb:b∈([]:List Nat))=>absurd hb List.not_mem_nil),sl_imm (o:=false) nil_imm (fun _ h=>nomatch h),fun _=>h⟩
 | @rd o α E T v x e Γ h=>
  intro cur F hS
  obtain ⟨⟨g,h1,h2⟩,h3⟩:=hS
  refine ⟨cur,fun _ h=>.inl h,sl_imm (h.le.le h1) h2,fun he=>⟨⟨g,h1,h2⟩,?_⟩⟩
  cases e with
  | own T v x=>exact he.elim
  | om e E v xs=>exact he.elim
  | row b cs e=>exact he.elim
  | hol e E v xs j u=>exact he.elim
  | _=>exact ⟨he,h3⟩
 | @own α E T v x e Γ h=>
  intro cur F hS
  obtain ⟨f,F',h1,h2,h3⟩:=hS
  refine ⟨f,fun b hb=>.inr (by rw [h1]; exact List.mem_append_left _ hb),sl_imm (o:=true) (h.le.le h2) (fun b hb=>hb),fun he=>⟨f,F',h1,h2,?_⟩⟩
  cases e with
  | own T v x=>exact he.elim
  | om e E v xs=>exact he.elim
  | row b cs e=>exact he.elim
  | hol e E v xs j u=>exact he.elim
  | _=>exact ⟨he,h3⟩
 | @om α t E E' v xs e Γ h=>
  intro cur F hS
  obtain ⟨f,F',h1,h2,h3⟩:=hS
  refine ⟨f,fun b hb=>.inr (by rw [h1]; exact List.mem_append_left _ hb),(sl_om h2).le h.le,fun he=>⟨f,F',h1,h2,?_⟩⟩
  cases e with
  | own T v x=>exact he.elim
  | om e E v xs=>exact he.elim
  | row b cs e=>exact he.elim
  | hol e E v xs j u=>exact he.elim
  | _=>exact ⟨he,h3⟩
 | @there o1 o2 α E v x e a Γ Γ' h ih=>
  intro cur F hS
  cases a with
  | own T v x=>obtain ⟨f,F',h1,h2,h3⟩:=hS; obtain ⟨c,a0,a1,a2⟩:=ih h3; exact ⟨c,fun b hb=>.inr (by rw [h1]; exact List.mem_append.2 (a0 b hb)),a1,fun he=>⟨f,F',h1,h2,a2 he⟩⟩
  | om e E v xs=>obtain ⟨f,F',h1,h2,h3⟩:=hS; obtain ⟨c,a0,a1,a2⟩:=ih h3; exact ⟨c,fun b hb=>.inr (by rw [h1]; exact List.mem_append.2 (a0 b hb)),a1,fun he=>⟨f,F',h1,h2,a2 he⟩⟩
  | row b cs e=>obtain ⟨f,F',h1,h2,h3⟩:=hS; obtain ⟨c,a0,a1,a2⟩:=ih h3; exact ⟨c,fun b hb=>(a0 b hb).imp id fun h=>by rw [h1]; exact List.mem_append_right _ h,a1,fun he=>⟨f,F',h1,h2,a2 he⟩⟩
  | hol e E v xs j u=>obtain ⟨f,F',h1,h2,h3⟩:=hS; obtain ⟨c,a0,a1,a2⟩:=ih h3; exact ⟨c,fun b hb=>.inr (by rw [h1]; exact List.mem_append.2 (a0 b hb)),a1,fun he=>⟨f,F',h1,h2,a2 he⟩⟩
  | _=>obtain ⟨c,a0,a1,a2⟩:=ih hS.2; exact ⟨c,a0,a1,fun he=>⟨hS.1,a2 he⟩⟩
theorem FndA.sound {v:Addr} {o:Bool} {x:α} (h:FndA Γ v o E x e Γ'):∀ {cur F:List Nat},SA Z w Γ cur F→∃ cur',(∃ u g,w.cell? v=some u∧E.rep w.heap [u] x g∧∀ b∈g,inZ o Z cur' b)∧(fact Z w cur' e→SA Z w Γ' cur F):=by
 induction h with
 | @ad o1 o2 α E v j x e Γ=>
  intro cur F hS
  obtain ⟨⟨j0,j1,u,g,h1,h2,h3,h4⟩,h5⟩:=hS
  refine ⟨cur,⟨u,g,h1,h2,h4⟩,fun he=>⟨⟨j0,j1,u,g,h1,h2,h3,h4⟩,?_⟩⟩
  cases e with
  | own T v x=>exact he.elim
  | om e E v xs=>exact he.elim
  | row b cs e=>exact he.elim
  | hol e E v xs j u=>exact he.elim
  | _=>exact ⟨he,h5⟩
 | @there o2 α E v x e a Γ Γ' h ih=>
  intro cur F hS
  cases a with
  | own T v x=>obtain ⟨f,F',h1,h2,h3⟩:=hS; obtain ⟨c,a1,a2⟩:=ih h3; exact ⟨c,a1,fun he=>⟨f,F',h1,h2,a2 he⟩⟩
  | om e E v xs=>obtain ⟨f,F',h1,h2,h3⟩:=hS; obtain ⟨c,a1,a2⟩:=ih h3; exact ⟨c,a1,fun he=>⟨f,F',h1,h2,a2 he⟩⟩
  | row b cs e=>obtain ⟨f,F',h1,h2,h3⟩:=hS; obtain ⟨c,a1,a2⟩:=ih h3; exact ⟨c,a1,fun he=>⟨f,F',h1,h2,a2 he⟩⟩
  | hol e E v xs j u=>obtain ⟨f,F',h1,h2,h3⟩:=hS; obtain ⟨c,a1,a2⟩:=ih h3; exact ⟨c,a1,fun he=>⟨f,F',h1,h2,a2 he⟩⟩
  | _=>obtain ⟨c,a1,a2⟩:=ih hS.2; exact ⟨c,a1,fun he=>⟨hS.1,a2 he⟩⟩
theorem FndH.sound {v u:Value} {j:Int} (h:FndH Γ v j u Γ'):∀ {cur F:List Nat},w.cell? (elA v 1 j)=some u→SA Z w Γ cur F→SA Z w Γ' cur F:=by
 induction h with
 | ad=>
  intro cur F hu hS
  obtain ⟨⟨j0,j1,u',g,h1,h2,h3,h4⟩,h5⟩:=hS
  exact ⟨⟨j0,j1,u',g,h1,h2,h3,h4⟩,⟨j0,j1,hu,h3⟩,h5⟩
 | adf=>intro cur F _ hS; exact hS
 | @there v u j a Γ Γ' h ih=>
  intro cur F hu hS
  cases a with
  | own T v x=>obtain ⟨f,F',h1,h2,h3⟩:=hS; exact ⟨f,F',h1,h2,ih hu h3⟩
  | om e E v xs=>obtain ⟨f,F',h1,h2,h3⟩:=hS; exact ⟨f,F',h1,h2,ih hu h3⟩
  | row b cs e=>obtain ⟨f,F',h1,h2,h3⟩:=hS; exact ⟨f,F',h1,h2,ih hu h3⟩
  | hol e E v xs j u=>obtain ⟨f,F',h1,h2,h3⟩:=hS; exact ⟨f,F',h1,h2,ih hu h3⟩
  | _=>exact ⟨hS.1,ih hu hS.2⟩
theorem FndC.sound {a:Addr} {v:Value} (h:FndC Γ a v):∀ {cur F:List Nat},SA Z w Γ cur F→w.cell? a=some v:=by
 induction h with
 | row h=>rintro cur F ⟨f,F',h1,⟨_,h2⟩,h3⟩; have:=h2.at.cell h; rwa [addr_add,Nat.zero_add] at this
 | «at» h=>rintro cur F ⟨⟨h1,_⟩,_⟩; exact h1.cell h
 | at0 h=>rintro cur F ⟨⟨h1,_⟩,_⟩; exact h1.cell0 h
 | @at2 p i j cs v Γ h hn=>
  rintro cur F ⟨⟨h1,_⟩,_⟩
  have h2:=h1.cell h
  have hz : ¬ i+j=0:=fun h=>by rw [h] at hn; exact absurd hn (by decide)
  unfold Addr.add at h2
  rw [if_neg hz] at h2
  rwa [Nat.add_assoc]
 | @there a v e Γ h ih=>
  intro cur F hS
  cases e with
  | own T v x=>obtain ⟨f,F',h1,h2,h3⟩:=hS; exact ih h3
  | om e E v xs=>obtain ⟨f,F',h1,h2,h3⟩:=hS; exact ih h3
  | row b cs e=>obtain ⟨f,F',h1,h2,h3⟩:=hS; exact ih h3
  | hol e E v xs j u=>obtain ⟨f,F',h1,h2,h3⟩:=hS; exact ih h3
  | _=>exact ih hS.2
theorem Skip.sound (h:Skip Γ Γ'):∀ {cur cur' F:List Nat},SA Z w Γ cur F→SA Z w Γ' cur' F:=by
 induction h with
 | nil=>intro _ _ _ h; exact h
 | rdt _ ih=>intro _ _ _ h; exact ih h.2
 | rdf _ ih=>intro _ _ _ h; exact ⟨h.1,ih h.2⟩
 | adt _ ih=>intro _ _ _ h; exact ih h.2
 | adf _ ih=>intro _ _ _ h; exact ⟨h.1,ih h.2⟩
 | ats _ ih=>intro _ _ _ h; exact ⟨h.1,ih h.2⟩
 | row _ ih=>rintro _ _ _ ⟨f,F',h1,h2,h3⟩; exact ⟨f,F',h1,h2,ih h3⟩
 | hd _ ih=>intro _ _ _ h; exact ih h.2
 | hol=>intro _ _ _ h; exact h
 | own=>intro _ _ _ h; exact h
 | om=>intro _ _ _ h; exact h
theorem Sel.sound (h:Sel Γ e Γ'):∀ {cur F:List Nat},SA Z w Γ cur F→∃ f F',(f++F').Perm F∧owns Z w f e∧SA Z w Γ' cur F':=by
 induction h with
 | nil=>intro cur F h; exact ⟨[],F,.refl _,nil_own,h⟩
 | own h=>rintro cur F ⟨f,F',rfl,h2,h3⟩; exact ⟨f,F',.refl _,h2,h.sound h3⟩
 | om h=>rintro cur F ⟨f,F',rfl,h2,h3⟩; exact ⟨f,F',.refl _,h2,h.sound h3⟩
 | omn h=>intro cur F hs; exact ⟨[],F,.refl _,⟨[],[],nil_own,⟨rfl,rfl⟩,(fun _ h=>absurd h List.not_mem_nil),h⟩,hs⟩
 | @omz α β t E E' v Γ Γ' h1 h2 h=>
  rintro cur F ⟨f,F',rfl,h3,h4⟩
  refine ⟨f,F',.refl _,⟨[],[],?_,⟨rfl,rfl⟩,(fun _ h=>absurd h List.not_mem_nil),h2⟩,h.sound h4⟩
  obtain ⟨base,cap,hv,hr⟩:=h3
  refine ⟨base,cap,hv,?_⟩
  rcases hr with ⟨a1,a2,a3,a4⟩ | ⟨b,cur,f',a1,a2,a3,a4,a5,a6,a7⟩
  ·exact .inl ⟨a1,a2,rfl,a4⟩
  ·obtain ⟨a8,rfl⟩:=a7
   exact .inr ⟨b,cur,[],a1,a2,a3,by simp,a5,by rw [a6,h1]; rfl,⟨by simp,rfl⟩⟩
 | row=>rintro cur F ⟨f,F',rfl,h2,h3⟩; exact ⟨f,F',.refl _,h2,h3⟩
 | hol h=>rintro cur F ⟨f,F',rfl,h2,h3⟩; exact ⟨f,F',.refl _,h2,h.sound h3⟩
 | @there e a Γ Γ' h ih=>
  intro cur F hS
  cases a with
  | own T v x=>
   obtain ⟨f,F',rfl,h2,h3⟩:=hS; obtain ⟨k,K,a1,a2,a3⟩:=ih h3
   exact ⟨k,f++K,(List.perm_append_comm_assoc k f K).trans (a1.append_left f),a2,f,K,rfl,h2,a3⟩
  | om e E v xs=>
   obtain ⟨f,F',rfl,h2,h3⟩:=hS; obtain ⟨k,K,a1,a2,a3⟩:=ih h3
   exact ⟨k,f++K,(List.perm_append_comm_assoc k f K).trans (a1.append_left f),a2,f,K,rfl,h2,a3⟩
  | row b cs e=>
   obtain ⟨f,F',rfl,h2,h3⟩:=hS; obtain ⟨k,K,a1,a2,a3⟩:=ih h3
   exact ⟨k,f++K,(List.perm_append_comm_assoc k f K).trans (a1.append_left f),a2,f,K,rfl,h2,a3⟩
  | hol e E v xs j u=>
   obtain ⟨f,F',rfl,h2,h3⟩:=hS; obtain ⟨k,K,a1,a2,a3⟩:=ih h3
   exact ⟨k,f++K,(List.perm_append_comm_assoc k f K).trans (a1.append_left f),a2,f,K,rfl,h2,a3⟩
  | _=>obtain ⟨k,K,a1,a2,a3⟩:=ih hS.2; exact ⟨k,K,a1,a2,hS.1,a3⟩
end
class SO {α:Type} (S:STy α) (V:outParam Type) (cl:outParam (α→V→List Value)) (en:outParam (α→V→List Ent)):Prop where
 ne:∀ x v,cl x v≠[]
 op:∀ {w:World} {cs:List Value} {x:α} {g:List Nat},S.rep w.heap cs x g→∃ v,cs=cl x v∧∀ Z:Nat→Prop,(∀ b∈g,Z b)→∀ e∈en x v,fact Z w [] e
 cl:∀ {w:World} {x:α} {v:V} {Z:Nat→Prop},(∀ e∈en x v,fact Z w [] e)→∃ g,S.rep w.heap (cl x v) x g∧∀ b∈g,Z b
theorem SO.i {k:IntKind}:SO (aC k) Unit (fun x _=>[.int k x]) (fun _ _=>[]):=
 ⟨fun _ _=>by simp,fun h=>⟨(),h.1,fun _ _ e he=>absurd he List.not_mem_nil⟩,fun _=>⟨[],⟨rfl,rfl⟩,fun _ h=>absurd h List.not_mem_nil⟩⟩
theorem SO.s {α:Type} {E:STy α}:SO (aE E) Value (fun _ v=>[v]) (fun x v=>[.rd false (aE E) v x]):=by
 refine ⟨fun _ _=>by simp,fun {w cs x g} h=>?_,fun {w x v Z} h=>?_⟩
 ·obtain ⟨base,cap,rfl,hr⟩:=h
  exact ⟨_,rfl,fun Z hz e he=>by rw [List.mem_singleton.1 he]; exact ⟨g,⟨base,cap,rfl,hr⟩,hz⟩⟩
 ·obtain ⟨g,h1,h2⟩:=h _ (List.mem_singleton.2 rfl)
  exact ⟨g,h1,h2⟩
theorem SO.ip {β V:Type} {k:IntKind} {B:STy β} {cl:β→V→List Value} {en:β→V→List Ent} (h:SO B V cl en):SO (sPair (aC k) B) V (fun x v=>.int k x.1 :: cl x.2 v) (fun x v=>en x.2 v):=by
 refine ⟨fun _ _=>by simp,fun {w cs x g} hr=>?_,fun {w x v Z} he=>?_⟩
 ·obtain ⟨c1,c2,f1,f2,rfl,rfl,⟨rfl,rfl⟩,h2⟩:=hr
  obtain ⟨v,rfl,hv⟩:=h.op h2
  exact ⟨v,rfl,hv⟩
 ·obtain ⟨g,h1,h2⟩:=h.cl he
  exact ⟨g,⟨[_],_,[],g,rfl,rfl,⟨rfl,rfl⟩,h1⟩,h2⟩
theorem SO.sp {α β V:Type} {E:STy α} {B:STy β} {cl:β→V→List Value} {en:β→V→List Ent} (h:SO B V cl en):SO (sPair (aE E) B) (Value×V) (fun x v=>v.1 :: cl x.2 v.2) (fun x v=>.rd false (aE E) v.1 x.1 :: en x.2 v.2):=by
 refine ⟨fun _ _=>by simp,fun {w cs x g} hr=>?_,fun {w x v Z} he=>?_⟩
 ·obtain ⟨c1,c2,f1,f2,rfl,rfl,h1,h2⟩:=hr
  obtain ⟨base,cap,rfl,hr1⟩:=h1
  obtain ⟨v,rfl,hv⟩:=h.op h2
  refine ⟨(_,v),rfl,fun Z hz e he=>?_⟩
  rcases List.mem_cons.1 he with rfl | he
  ·exact ⟨f1,⟨base,cap,rfl,hr1⟩,fun b hb=>hz b (List.mem_append_left _ hb)⟩
  ·exact hv Z (fun b hb=>hz b (List.mem_append_right _ hb)) e he
 ·obtain ⟨g1,a1,a2⟩:=he _ List.mem_cons_self
  obtain ⟨g,h1,h2⟩:=h.cl fun e hm=>he e (List.mem_cons_of_mem _ hm)
  exact ⟨g1++g,⟨[_],_,g1,g,rfl,rfl,a1,h1⟩,fun b hb=>(List.mem_append.1 hb).elim (a2 b) (h2 b)⟩
theorem SO.mp {α β V:Type} {f:β→α} {A:STy α} {cl:α→V→List Value} {en:α→V→List Ent} (h:SO A V cl en):SO (sMap f A) V (fun y v=>cl (f y) v) (fun y v=>en (f y) v):=
 ⟨fun y v=>h.ne (f y) v,fun hr=>h.op hr,fun he=>h.cl he⟩
instance Dt.p {α β:Type} {A:STy α} {B:STy β} [ha:Dt A] [hb:Dt B]:Dt (sPair A B):=by
 refine ⟨fun {h cs x y f g} h1 h2=>?_⟩
 obtain ⟨c1,c2,f1,f2,rfl,rfl,a1,a2⟩:=h1
 obtain ⟨d1,d2,g1,g2,e,rfl,b1,b2⟩:=h2
 obtain ⟨rfl,rfl⟩:=List.append_inj e ((A.len a1).trans (A.len b1).symm)
 exact Prod.ext (ha.det a1 b1) (hb.det a2 b2)
theorem Dt.mp {α β:Type} {f:β→α} {A:STy α} [ha:Dt A] (hf:∀ x y,f x=f y→x=y):Dt (sMap f A):=
 ⟨fun h1 h2=>hf _ _ (ha.det h1 h2)⟩
end Go.Dk
namespace Go.Dk
open Go Go.Li
structure Bs where
 w:World
 Z:Nat→Prop
 G:List Nat
inductive HL (Z:Nat→Prop) (w:World):List Ent→List Nat→Prop
 | nil:HL Z w [] []
 | own {e:Ent} {f F:List Nat} {Δ:List Ent} (h:owns Z w f e) (k:HL Z w Δ F):HL Z w (e :: Δ) (f++F)
 | fact {e:Ent} {F:List Nat} {Δ:List Ent} (h:fact Z w [] e) (k:HL Z w Δ F):HL Z w (e :: Δ) F
structure Gd (B:Bs) (Z:Nat→Prop) (F:List Nat) (w:World):Prop where
 nd:F.Nodup
 apart:∀ b∈F,¬ Z b
 zlt:∀ b,Z b→b < w.heap.size
 low:∀ b∈F,b∈B.G∨B.w.heap.size≤b
 zup:∀ b,B.Z b→Z b
 zlow:∀ b,Z b→B.Z b∨b∈B.G∨B.w.heap.size≤b
 chg:Chg B.G B.w w
def St (B:Bs) (Γ:List Ent) (w:World):Prop:=∃ Z F,SA Z w Γ [] F∧Gd B Z F w
def StH (B:Bs) (Δ:List Ent) (w:World):Prop:=∃ Z F,HL Z w Δ F∧Gd B Z F w
def tupv:List Value→Value
 | [v]=>v
 | vs=>.tuple vs.toArray
def owB:List Ent→Bool
 | []=>true
 | .own _ _ _ :: l=>owB l
 | .row _ _ _ :: l=>owB l
 | _ :: _=>false
def CtS (P:Program) (f:FuncId) (o:Bool) (args:List Value) (Δ:List Ent) (β V:Type) (m:Option β) (ret:β→V→List Value) (post:β→V→List Ent):Prop:=
 (o=true→∀ y v,owB (post y v)=true)∧∀ w Z F,HL Z w Δ F→F.Nodup→(∀ b∈F,¬ Z b)→(∀ b,Z b→b < w.heap.size)→∀ y,m=some y→
  Calls P f args.toArray w fun e w'=>∃ v:V,e = .returned (tupv (ret y v))∧StH ⟨w,Z,F⟩ (post y v) w'
theorem ct_ex:∃ C:Program→FuncId→Bool→List Value→List Ent→(β V:Type)→Option β→(β→V→List Value)→(β→V→List Ent)→Prop,C=CtS:=⟨_,rfl⟩
noncomputable def Ct (P:Program) (f:FuncId) (o:Bool) {β V:Type} (m:Option β) (args:List Value) (Δ:List Ent) (ret:β→V→List Value) (post:β→V→List Ent):Prop:=Classical.choose ct_ex P f o args Δ β V m ret post
theorem ct_eq {P:Program} {f:FuncId} {o:Bool} {args:List Value} {Δ:List Ent} {β V:Type} {m:Option β} {ret:β→V→List Value} {post:β→V→List Ent}:Ct P f o m args Δ ret post=CtS P f o args Δ β V m ret post:=by
 unfold Ct; rw [Classical.choose_spec ct_ex]
theorem bx_ex:∃ C:Prop→Prop,C=id:=⟨_,rfl⟩
noncomputable def Bx (p:Prop):Prop:=Classical.choose bx_ex p
theorem bx_eq {p:Prop}:Bx p=p:=by unfold Bx; rw [Classical.choose_spec bx_ex]; rfl
theorem bxi {p:Prop} (h:p):Bx p:=by rw [bx_eq]; exact h
section
variable {Z Z':Nat→Prop} {w w':World} {cur F f:List Nat} {Γ Γ' Γ1 Δ:List Ent} {e:Ent} {B:Bs}
theorem Gd.perm {F':List Nat} (h:Gd B Z F w) (hp:F'.Perm F):Gd B Z F' w:=
 ⟨hp.nodup_iff.2 h.nd,fun b hb=>h.apart b (hp.mem_iff.1 hb),h.zlt,fun b hb=>h.low b (hp.mem_iff.1 hb),h.zup,h.zlow,h.chg⟩
theorem Gd.keep0 (h:Gd B Z F w) (hC:Chg [] w w'):Gd B Z F w':=
 ⟨h.nd,h.apart,fun b hb=>Nat.lt_of_lt_of_le (h.zlt b hb) hC.size,h.low,h.zup,h.zlow,h.chg.trans hC.nil⟩
theorem St.keep0 (h:St B Γ w) (hC:Chg [] w w'):St B Γ w':=by
 obtain ⟨Z,F,h1,h2⟩:=h
 exact ⟨Z,F,h1.keep0 hC,h2.keep0 hC⟩
theorem HL.build:∀ {Δ Γ:List Ent} {Fd F:List Nat},HL Z w Δ Fd→SA Z w Γ [] F→∃ F',F'.Perm (Fd++F)∧SA Z w (Δ.reverse++Γ) [] F':=by
 intro Δ
 induction Δ with
 | nil=>intro Γ Fd F h hs; cases h; exact ⟨F,.refl _,hs⟩
 | cons e Δ ih=>
  intro Γ Fd F h hs
  rw [List.reverse_cons,List.append_assoc]
  cases h with
  | @own _ f F1 _ h1 h2=>
   obtain ⟨F',a,b⟩:=ih h2 (SA.cons hs h1)
   refine ⟨F',a.trans ?_,b⟩
   rw [List.append_assoc]
   exact List.perm_append_comm_assoc F1 f F
  | fact h1 h2=>exact ih h2 (SA.fact hs h1)
theorem HL.mono (hz:∀ b,Z b→Z' b) {Δ:List Ent} {F:List Nat} (h:HL Z w Δ F):HL Z' w Δ F:=by
 induction h with
 | nil=>exact .nil
 | own h _ ih=>exact .own (h.mono hz) ih
 | fact h _ ih=>exact .fact (h.mono hz fun _ h=>h) ih
inductive In (e:Ent):List Ent→Prop
 | here {Γ:List Ent}:In e (e :: Γ)
 | there {a:Ent} {Γ:List Ent} (h:In e Γ):In e (a :: Γ)
def sCel (n:Nat):STy (List Value) where
 size:=n
 rep _ cs x f:=cs=x∧x.length=n∧(∀ v∈x,v.oneCell'=true)∧f=[]
 len:=by rintro h cs x f ⟨rfl,h1,_⟩; exact h1
 one:=by rintro h cs x f ⟨rfl,_,h2,_⟩; exact h2
 congr:=fun h _=>h
 lt:=by rintro h cs x f ⟨_,_,_,rfl⟩ b hb; cases hb
def gl {α:Type} (S:STy α) (h:Array Obj):List (List Value)→List α→List Nat→Prop
 | [],[],f=>f=[]
 | c :: us,x :: xs,f=>∃ f1 f2,f=f1++f2∧S.rep h c x f1∧gl S h us xs f2
 | _,_,_=>False
theorem gl_len {α:Type} {S:STy α} {h:Array Obj}:∀ {us:List (List Value)} {xs:List α} {f:List Nat},gl S h us xs f→us.length=xs.length:=by
 intro us
 induction us with
 | nil=>intro xs f hg; cases xs with
  | nil=>rfl
  | cons=>exact hg.elim
 | cons c us ih=>intro xs f hg; cases xs with
  | nil=>exact hg.elim
  | cons x xs=>obtain ⟨f1,f2,_,_,h2⟩:=hg; simp [ih h2]
theorem gl_repL {α:Type} {S:STy α} {h:Array Obj}:∀ {us:List (List Value)} {xs:List α} {f:List Nat},gl S h us xs f→repL S h us.flatten xs f:=by
 intro us
 induction us with
 | nil=>intro xs f hg; cases xs with
  | nil=>exact ⟨rfl,hg⟩
  | cons=>exact hg.elim
 | cons c us ih=>intro xs f hg; cases xs with
  | nil=>exact hg.elim
  | cons x xs=>obtain ⟨f1,f2,rfl,h1,h2⟩:=hg; exact ⟨c,us.flatten,f1,f2,by simp,rfl,h1,ih h2⟩
theorem gl_congr {α:Type} {S:STy α} {h h':Array Obj}:∀ {us:List (List Value)} {xs:List α} {f:List Nat},gl S h us xs f→(∀ b∈f,h'[b]? = h[b]?)→gl S h' us xs f:=by
 intro us
 induction us with
 | nil=>intro xs f hg _; cases xs with
  | nil=>exact hg
  | cons=>exact hg.elim
 | cons c us ih=>intro xs f hg hb; cases xs with
  | nil=>exact hg.elim
  | cons x xs=>obtain ⟨f1,f2,rfl,h1,h2⟩:=hg; exact ⟨f1,f2,rfl,S.congr h1 fun b hm=>hb b (List.mem_append_left _ hm),ih h2 fun b hm=>hb b (List.mem_append_right _ hm)⟩
theorem gl_app {α:Type} {S:STy α} {h:Array Obj} {c:List Value} {y:α} {g:List Nat} (hy:S.rep h c y g):∀ {us:List (List Value)} {xs:List α} {f:List Nat},gl S h us xs f→gl S h (us++[c]) (xs++[y]) (f++g):=by
 intro us
 induction us with
 | nil=>intro xs f hg; cases xs with
  | nil=>have e:f=[]:=hg; subst e; exact ⟨g,[],by simp,hy,rfl⟩
  | cons=>exact hg.elim
 | cons c us ih=>intro xs f hg; cases xs with
  | nil=>exact hg.elim
  | cons x xs=>obtain ⟨f1,f2,rfl,h1,h2⟩:=hg; exact ⟨f1,f2++g,by simp,h1,ih h2⟩
theorem gl_get {α:Type} {S:STy α} {h:Array Obj} {x:α}:∀ {us:List (List Value)} {xs:List α} {f:List Nat} (j:Nat),gl S h us xs f→xs[j]? = some x→∃ c g,us[j]? = some c∧S.rep h c x g∧∀ b∈g,b∈f:=by
 intro us
 induction us with
 | nil=>intro xs f j hg hx; cases xs with
  | nil=>simp at hx
  | cons=>exact hg.elim
 | cons c us ih=>intro xs f j hg hx; cases xs with
  | nil=>exact hg.elim
  | cons y xs=>
   obtain ⟨f1,f2,rfl,h1,h2⟩:=hg
   cases j with
   | zero=>simp at hx; subst hx; exact ⟨c,f1,rfl,h1,fun b hb=>List.mem_append_left _ hb⟩
   | succ j=>obtain ⟨c',g,a1,a2,a3⟩:=ih j h2 (by simpa using hx); exact ⟨c',g,by simpa using a1,a2,fun b hb=>List.mem_append_right _ (a3 b hb)⟩
theorem gl_set {α:Type} {S:STy α} {h:Array Obj} {c:List Value} {y:α} {k:List Nat} (hy:S.rep h c y k):∀ {us:List (List Value)} {xs:List α} {f:List Nat} (j:Nat),gl S h us xs f→∃ g,gl S h (us.set j c) (xs.set j y) g∧∀ b∈g,b∈f∨b∈k:=by
 intro us
 induction us with
 | nil=>intro xs f j hg; cases xs with
  | nil=>exact ⟨f,hg,fun b hb=>.inl hb⟩
  | cons=>exact hg.elim
 | cons c' us ih=>intro xs f j hg; cases xs with
  | nil=>exact hg.elim
  | cons x xs=>
   obtain ⟨f1,f2,rfl,h1,h2⟩:=hg
   cases j with
   | zero=>exact ⟨k++f2,⟨k,f2,rfl,hy,h2⟩,fun b hb=>(List.mem_append.1 hb).elim .inr fun h=>.inl (List.mem_append_right _ h)⟩
   | succ j=>
    obtain ⟨g,a1,a2⟩:=ih j h2
    exact ⟨f1++g,⟨f1,g,rfl,h1,a1⟩,fun b hb=>(List.mem_append.1 hb).elim (fun h=>.inl (List.mem_append_left _ h)) fun h=>(a2 b h).imp (List.mem_append_right _) id⟩
theorem cel_flat {n:Nat} {h:Array Obj}:∀ {us:List (List Value)} {cs:List Value} {f:List Nat},repL (sCel n) h cs us f→cs=us.flatten∧f=[]:=by
 intro us
 induction us with
 | nil=>rintro cs f ⟨rfl,rfl⟩; exact ⟨rfl,rfl⟩
 | cons c us ih=>
  rintro cs f ⟨c',cs',f1,f2,rfl,rfl,⟨rfl,_,_,rfl⟩,h2⟩
  obtain ⟨rfl,rfl⟩:=ih h2
  exact ⟨by simp,rfl⟩
def sGh {α:Type} (S:STy α):STy (List (List Value)×List α) where
 size:=1
 rep h cs x f:=cs=[.bool true]∧gl S h x.1 x.2 f∧∀ b∈f,b < h.size
 len:=by rintro h cs x f ⟨rfl,_⟩; rfl
 one:=by rintro h cs x f ⟨rfl,_⟩ v hv; simp at hv; subst hv; rfl
 congr:=by
  rintro h h' cs x f ⟨rfl,h1,h2⟩ hb
  refine ⟨rfl,gl_congr h1 hb,fun b hm=>?_⟩
  have:=hb b hm
  rw [Array.getElem?_eq_getElem (h2 b hm)] at this
  exact (Array.getElem?_eq_some_iff.1 this).1
 lt:=fun h=>h.2.2
def sPu (us:List (List Value)) (j:Int):STy (List Value) where
 size:=1
 rep _ cs x f:=cs=[.bool true]∧(0≤j∧us[j.toNat]? = some x)∧f=[]
 len:=by rintro h cs x f ⟨rfl,_⟩; rfl
 one:=by rintro h cs x f ⟨rfl,_⟩ v hv; simp at hv; subst hv; rfl
 congr:=fun h _=>h
 lt:=by rintro h cs x f ⟨_,_,rfl⟩ b hb; cases hb
theorem In.rd {α:Type} {T:STy α} {v:Value} {x:α} (h:In (.rd false T v x) Γ):∀ {cur F:List Nat},SA Z w Γ cur F→∀ cur',fact Z w cur' (.rd false T v x):=by
 induction h with
 | here=>intro cur F h cur'; exact h.1
 | @there a Γ _ ih=>
  intro cur F hS
  cases a with
  | own T v x=>obtain ⟨f,F',h1,h2,h3⟩:=hS; exact ih h3
  | om e E v xs=>obtain ⟨f,F',h1,h2,h3⟩:=hS; exact ih h3
  | row b cs e=>obtain ⟨f,F',h1,h2,h3⟩:=hS; exact ih h3
  | hol e E v xs j u=>obtain ⟨f,F',h1,h2,h3⟩:=hS; exact ih h3
  | _=>exact ih hS.2
theorem In.ad {o1 o2:Bool} {v:Value} {j:Int} {α:Type} {T:STy α} {x:α} (h:In (.ad o1 o2 v j T x) Γ):∀ {cur F:List Nat},SA Z w Γ cur F→0≤j∧j.toNat < slen v:=by
 induction h with
 | here=>intro cur F h; exact ⟨h.1.1,h.1.2.1⟩
 | @there a Γ _ ih=>
  intro cur F hS
  cases a with
  | own T v x=>obtain ⟨f,F',h1,h2,h3⟩:=hS; exact ih h3
  | om e E v xs=>obtain ⟨f,F',h1,h2,h3⟩:=hS; exact ih h3
  | row b cs e=>obtain ⟨f,F',h1,h2,h3⟩:=hS; exact ih h3
  | hol e E v xs j u=>obtain ⟨f,F',h1,h2,h3⟩:=hS; exact ih h3
  | _=>exact ih hS.2
abbrev noE:Ent:=.ats ⟨0,0,none⟩ []
inductive Plc where
 | nil | own | om | z | lit | og
 | row (v:Value) (j:Int)
inductive Loc:List Ent→Value→Plc→Prop
 | og {n:Nat} {e:TypeId} {v:Value} {us:List (List Value)} {Γ:List Ent}:Loc (.own (aK e (sCel n)) v us :: Γ) v .og
 | own {α:Type} {T:STy α} {v:Value} {x:α} {Γ:List Ent}:Loc (.own T v x :: Γ) v .own
 | om {α:Type} {t:TypeId} {E:STy α} {v:Value} {xs:List α} {Γ:List Ent}:Loc (.om t E v xs :: Γ) v .om
 | hd {v u:Value} {j:Int} {Γ:List Ent}:Loc (.hd v j u :: Γ) u (.row v j)
 | rd {o:Bool} {α:Type} {T:STy α} {v:Value} {x:α} {Γ:List Ent}:Loc (.rd o T v x :: Γ) v .z
 | lit {b n c:Nat} {cs:List Value} {t:TypeId} {Γ:List Ent}:Loc (.row b cs t :: Γ) (.slice (some ⟨b,0,none⟩) n c) .lit
 | nil {Γ:List Ent}:Loc Γ (.slice none 0 0) .nil
 | there {v:Value} {l:Plc} {a:Ent} {Γ:List Ent} (h:Loc Γ v l):Loc (a :: Γ) v l
inductive LocO {α:Type} (T:STy α) (x:α) (Γ0:List Ent):List Ent→Value→Plc→Prop
 | own {v:Value} {Γ:List Ent}:LocO T x Γ0 (.own T v x :: Γ) v .own
 | there {v:Value} {l:Plc} {a:Ent} {Γ:List Ent} (h:LocO T x Γ0 Γ v l):LocO T x Γ0 (a :: Γ) v l
 | out {v:Value} {l:Plc} (h:Loc Γ0 v l):LocO T x Γ0 [] v l
theorem LocO.loc' {α:Type} {T:STy α} {x:α} {v:Value} {l:Plc} {Γ0:List Ent} (h:LocO T x Γ0 Γ v l):Loc Γ v .own∧l = .own∨Loc Γ0 v l:=by
 induction h with
 | own=>exact .inl ⟨.own,rfl⟩
 | there _ ih=>exact ih.imp (fun h=>⟨.there h.1,h.2⟩) id
 | out h=>exact .inr h
theorem LocO.loc {α:Type} {T:STy α} {x:α} {v:Value} {l:Plc} (h:LocO T x Γ Γ v l):Loc Γ v l:=by
 rcases h.loc' with ⟨g,rfl⟩ | g
 ·exact g
 ·exact g
theorem Loc.row {u v:Value} {j:Int} {l:Plc} (h:Loc Γ u l):l = .row v j→∀ {cur F:List Nat},SA Z w Γ cur F→0≤j∧j.toNat < slen v∧w.cell? (elA v 1 j)=some u:=by
 induction h with
 | hd=>intro hl cur F hS; cases hl; exact ⟨hS.1.1,hS.1.2.1,hS.1.2.2.1⟩
 | @there v l a Γ h ih=>
  intro hl cur F hS
  cases a with
  | own T v x=>obtain ⟨f,F',h1,h2,h3⟩:=hS; exact ih hl h3
  | om e E v xs=>obtain ⟨f,F',h1,h2,h3⟩:=hS; exact ih hl h3
  | row b cs e=>obtain ⟨f,F',h1,h2,h3⟩:=hS; exact ih hl h3
  | hol e E v xs j u=>obtain ⟨f,F',h1,h2,h3⟩:=hS; exact ih hl h3
  | _=>exact ih hl hS.2
 | _=>intro hl; cases hl
inductive LitC:List Ent→{α:Type}→STy α→Value→α→List Ent→Prop
 | i {k:IntKind} {a:Int} {Γ:List Ent}:LitC Γ (aC k) (.int k a) a Γ
 | b {a:Bool} {Γ:List Ent}:LitC Γ sBool (.bool a) a Γ
 | own {α:Type} {E:STy α} {u:Value} {x:α} {Γ Γ':List Ent} (h:Sel Γ (.own E u x) Γ'):LitC Γ E u x Γ'
theorem LitC.sound {α:Type} {E:STy α} {u:Value} {x:α} (h:LitC Γ E u x Γ'):∀ {F:List Nat},SA Z w Γ [] F→∃ f F',(f++F').Perm F∧E.rep w.heap [u] x f∧SA Z w Γ' [] F':=by
 induction h with
 | i=>intro F h; exact ⟨[],F,.refl _,⟨rfl,rfl⟩,h⟩
 | b=>intro F h; exact ⟨[],F,.refl _,⟨rfl,rfl⟩,h⟩
 | own h=>intro F hs; obtain ⟨f,F',a,b,c⟩:=h.sound hs; exact ⟨f,F',a,b,c⟩
inductive EOl:Plc→List Ent→Ent→List Ent→Prop
 | own {α:Type} {T:STy α} {v:Value} {x:α} {Γ Γ':List Ent} (h:Sel Γ (.own T v x) Γ'):EOl .own Γ (.own T v x) Γ'
 | nil {α:Type} {T:STy α} {v:Value} {x:α} {Γ Γ':List Ent} (h:Sel Γ (.own T v x) Γ'):EOl .nil Γ (.own T v x) Γ'
 | og {α:Type} {T:STy α} {v:Value} {x:α} {Γ Γ':List Ent} (h:Sel Γ (.own T v x) Γ'):EOl .og Γ (.own T v x) Γ'
 | om {α:Type} {l:Plc} {t:TypeId} {E:STy α} {v:Value} {xs:List α} {Γ Γ':List Ent} (h:Sel Γ (.om t E v xs) Γ'):EOl l Γ (.om t E v xs) Γ'
 | row {β:Type} {e:TypeId} {E:STy (List β)} {E':STy β} {u v:Value} {j:Int} {z:List β} {xs:List (List β)} {o1 o2:Bool} {Γ Γ' Γx:List Ent} (h:Sel Γ (.own (aK e E) v xs) Γ') (h1:E.size=1) (hr:RT E (aE E')) (hf:Fnd Γ u o1 o2 E' z noE Γx):EOl (.row v j) Γ (.own E u z) (.hol e E v xs j u :: Γ')
 | lit {α:Type} {t:TypeId} {E:STy α} {b:Nat} {u:Value} {x:α} {Γ Γ1 Γ':List Ent} (h:Sel Γ (.row b [u] t) Γ1) (h1:E.size=1) (he:LitC Γ1 E u x Γ'):EOl .lit Γ (.own (aK t E) (.slice (some ⟨b,0,none⟩) 1 1) [x]) Γ'
inductive EO:List Ent→List Ent→List Ent→Prop
 | nil {Γ:List Ent}:EO Γ [] Γ
 | own {l:Plc} {α:Type} {T:STy α} {v:Value} {x:α} {Γ Γ1 Γ2 Δ:List Ent} (hl:LocO T x Γ Γ v l) (h:EOl l Γ (.own T v x) Γ1) (k:EO Γ1 Δ Γ2):EO Γ (.own T v x :: Δ) Γ2
 | om {l:Plc} {α:Type} {t:TypeId} {E:STy α} {v:Value} {xs:List α} {Γ Γ1 Γ2 Δ:List Ent} (hl:Loc Γ v l) (h:EOl l Γ (.om t E v xs) Γ1) (k:EO Γ1 Δ Γ2):EO Γ (.om t E v xs :: Δ) Γ2
 | hol {α:Type} {e:TypeId} {E:STy α} {v u:Value} {xs:List α} {j:Int} {Γ Γ1 Γ2 Δ:List Ent} (h:Sel Γ (.hol e E v xs j u) Γ1) (k:EO Γ1 Δ Γ2):EO Γ (.hol e E v xs j u :: Δ) Γ2
 | row {b:Nat} {cs:List Value} {t:TypeId} {Γ Γ1 Γ2 Δ:List Ent} (h:Sel Γ (.row b cs t) Γ1) (k:EO Γ1 Δ Γ2):EO Γ (.row b cs t :: Δ) Γ2
 | rd {o:Bool} {α:Type} {T:STy α} {v:Value} {x:α} {Γ Γ2 Δ:List Ent} (k:EO Γ Δ Γ2):EO Γ (.rd o T v x :: Δ) Γ2
 | ats {p:Addr} {cs:List Value} {Γ Γ2 Δ:List Ent} (k:EO Γ Δ Γ2):EO Γ (.ats p cs :: Δ) Γ2
inductive FndP:List Ent→Addr→List Value→Bool→Prop
 | nil {Γ:List Ent} {p:Addr}:FndP Γ p [] false
 | at0 {p:Addr} {cs ds:List Value} {Γ:List Ent} (h:cs.take ds.length=ds):FndP (.ats p cs :: Γ) p ds false
 | sub {p:Addr} {j:Nat} {cs ds:List Value} {Γ:List Ent} (h:(cs.drop j).take ds.length=ds):FndP (.ats p cs :: Γ) (p.add j) ds false
 | row {b j:Nat} {t:TypeId} {cs ds:List Value} {Γ:List Ent} (h:(cs.drop j).take ds.length=ds):FndP (.row b cs t :: Γ) ⟨b,j,none⟩ ds true
 | sub2 {p:Addr} {i j:Nat} {cs ds:List Value} {Γ:List Ent} (h:(cs.drop (i+j)).take ds.length=ds) (hn:Nat.beq (i+j) 0=false):FndP (.ats p cs :: Γ) ⟨p.block,p.off+i+j,none⟩ ds false
 | there {p:Addr} {cs:List Value} {o:Bool} {e:Ent} {Γ:List Ent} (h:FndP Γ p cs o):FndP (e :: Γ) p cs o
inductive MkV:(V:Type)→V→Prop
 | unit:MkV Unit ()
 | val {a:Value}:MkV Value a
 | nat {a:Nat}:MkV Nat a
 | pv {W:Type} {a:Value} {b:W} (h:MkV W b):MkV (Value×W) (a,b)
 | pn {W:Type} {a:Nat} {b:W} (h:MkV W b):MkV (Nat×W) (a,b)
 | us {a:List (List Value)}:MkV (List (List Value)) a
inductive RdL (Γ:List Ent):List Ent→Prop
 | nil:RdL Γ []
 | rd {α:Type} {E:STy α} {o1 o2:Bool} {v:Value} {x:List α} {Γx Δ:List Ent} (h:Fnd Γ v o1 o2 E x noE Γx) (k:RdL Γ Δ):RdL Γ (.rd false (aE E) v x :: Δ)
inductive PtL (Γ:List Ent):{α:Type}→STy α→List Value→List α→Prop
 | nil {α:Type} {S:STy α}:PtL Γ S [] []
 | cons {α V:Type} {S:STy α} {cl:α→V→List Value} {en:α→V→List Ent} {p:Addr} {x:α} {v:V} {o:Bool} {us:List Value} {xs:List α} [hs:SO S V cl en] (hv:MkV V v) (hp:FndP Γ p (cl x v) o) (hr:RdL Γ (en x v)) (k:PtL Γ S us xs):PtL Γ S (.pointer (some p) :: us) (x :: xs)
inductive Cat:List Value→List Value→List Value→Prop
 | nil {l:List Value}:Cat [] l l
 | cons {a:Value} {l k m:List Value} (h:Cat l k m):Cat (a :: l) k (a :: m)
theorem Cat.eq {l k m:List Value} (h:Cat l k m):l++k=m:=by
 induction h with
 | nil=>rfl
 | cons _ ih=>rw [List.cons_append,ih]
inductive StL (Γ:List Ent):{α:Type}→STy α→List Value→List α→Prop
 | nil {α:Type} {S:STy α}:StL Γ S [] []
 | cons {α V:Type} {S:STy α} {cl:α→V→List Value} {en:α→V→List Ent} {x:α} {v:V} {us ws:List Value} {xs:List α} [hs:SO S V cl en] (hv:MkV V v) (hc:Cat (cl x v) us ws) (hr:RdL Γ (en x v)) (k:StL Γ S us xs):StL Γ S ws (x :: xs)
inductive RwL (Γ:List Ent):{α:Type}→STy α→List Value→List α→Prop
 | int {k:IntKind} {a:Int} {us:List Value} {xs:List Int} (h:RwL Γ (aC k) us xs):RwL Γ (aC k) (.int k a :: us) (a :: xs)
 | bool {a:Bool} {us:List Value} {xs:List Bool} (h:RwL Γ sBool us xs):RwL Γ sBool (.bool a :: us) (a :: xs)
 | lit {α:Type} {E:STy α} {b n:Nat} {vs:List Value} {x:List α} {t:TypeId} {us:List Value} {xs:List (List α)} {Γ1:List Ent} (h:Sel Γ (.row b vs t) Γ1) (hn:vs.length=n) (hp:RwL Γ E vs x) (k:RwL Γ (aE E) us xs):RwL Γ (aE E) (.slice (some ⟨b,0,none⟩) n n :: us) (x :: xs)
 | sl {α:Type} {E:STy α} {o1 o2:Bool} {u:Value} {x:List α} {us:List Value} {xs:List (List α)} {Γx:List Ent} (h:Fnd Γ u o1 o2 E x noE Γx) (k:RwL Γ (aE E) us xs):RwL Γ (aE E) (u :: us) (x :: xs)
 | nil {α:Type} {E:STy α} (h:E.size=1):RwL Γ E [] []
inductive ER:Bool→List Ent→List Ent→Prop
 | nil {l:Bool} {Γ:List Ent}:ER l Γ []
 | own {l:Bool} {α:Type} {T:STy α} {v:Value} {x:α} {Γ Δ:List Ent} (k:ER l Γ Δ):ER l Γ (.own T v x :: Δ)
 | om {l:Bool} {α:Type} {t:TypeId} {E:STy α} {v:Value} {xs:List α} {Γ Δ:List Ent} (k:ER l Γ Δ):ER l Γ (.om t E v xs :: Δ)
 | row {l:Bool} {b:Nat} {cs:List Value} {t:TypeId} {Γ Δ:List Ent} (k:ER l Γ Δ):ER l Γ (.row b cs t :: Δ)
 | hol {l:Bool} {α:Type} {e:TypeId} {E:STy α} {v u:Value} {xs:List α} {j:Int} {Γ Δ:List Ent} (k:ER l Γ Δ):ER l Γ (.hol e E v xs j u :: Δ)
 | rp {α:Type} {S:STy α} {b n:Nat} {us:List Value} {xs:List α} {t:TypeId} {Γ Γ1 Δ:List Ent} (h:Sel Γ (.row b us t) Γ1) (hn:us.length=n) (hp:PtL Γ S us xs) (k:ER true Γ Δ):ER true Γ (.rd false (aE (sPtr S)) (.slice (some ⟨b,0,none⟩) n n) xs :: Δ)
 | rs {α:Type} {S:STy α} {b n:Nat} {us:List Value} {xs:List α} {t:TypeId} {Γ Γ1 Δ:List Ent} (h:Sel Γ (.row b us t) Γ1) (hn:xs.length=n) (hp:StL Γ S us xs) (k:ER true Γ Δ):ER true Γ (.rd false (aE (sStr S)) (.slice (some ⟨b,0,none⟩) n n) xs :: Δ)
 | rr {α:Type} {E:STy α} {b n:Nat} {us:List Value} {xs:List α} {t:TypeId} {Γ Γ1 Δ:List Ent} (h:Sel Γ (.row b us t) Γ1) (hn:us.length=n) (hp:RwL Γ E us xs) (k:ER true Γ Δ):ER true Γ (.rd false (aE E) (.slice (some ⟨b,0,none⟩) n n) xs :: Δ)
 | rdt {o1 o2:Bool} {α:Type} {E:STy α} {v:Value} {x:List α} {Γ Γx Δ:List Ent} (h:Fnd Γ v o1 o2 E x noE Γx) (k:ER true Γ Δ):ER true Γ (.rd false (aE E) v x :: Δ)
 | rdf {α:Type} {E:STy α} {v:Value} {x:List α} {Γ Γx Δ:List Ent} (h:Fnd Γ v false false E x noE Γx) (k:ER false Γ Δ):ER false Γ (.rd false (aE E) v x :: Δ)
 | att {p:Addr} {cs:List Value} {o:Bool} {Γ Δ:List Ent} (h:FndP Γ p cs o) (k:ER true Γ Δ):ER true Γ (.ats p cs :: Δ)
 | atf {p:Addr} {cs:List Value} {Γ Δ:List Ent} (h:FndP Γ p cs false) (k:ER false Γ Δ):ER false Γ (.ats p cs :: Δ)
inductive HO (Z:Nat→Prop) (w:World):List Ent→List Nat→Prop
 | nil:HO Z w [] []
 | own {e:Ent} {f F:List Nat} {Δ:List Ent} (h:owns Z w f e) (k:HO Z w Δ F):HO Z w (e :: Δ) (f++F)
 | rd {o:Bool} {α:Type} {T:STy α} {v:Value} {x:α} {F:List Nat} {Δ:List Ent} (k:HO Z w Δ F):HO Z w (.rd o T v x :: Δ) F
 | ats {p:Addr} {cs:List Value} {F:List Nat} {Δ:List Ent} (k:HO Z w Δ F):HO Z w (.ats p cs :: Δ) F
theorem EOl.sound {l:Plc} {v:Value} (h:EOl l Γ e Γ') (hl:Loc Γ v l) (hv:∀ {α:Type} {T:STy α} {u:Value} {x:α},e = .own T u x→u=v):∀ {F:List Nat},SA Z w Γ [] F→∃ f F',(f++F').Perm F∧owns Z w f e∧SA Z w Γ' [] F':=by
 cases h with
 | own h=>intro F hs; exact h.sound hs
 | nil h=>intro F hs; exact h.sound hs
 | og h=>intro F hs; exact h.sound hs
 | om h=>intro F hs; exact h.sound hs
 | @row β e E E' u v' j z xs o1 o2 _ Γ1 Γx h h1 hr hf=>
  intro F hs
  obtain rfl:=hv rfl
  obtain ⟨j0,j1,hu⟩:=Loc.row hl rfl hs
  obtain ⟨f,F1,hp,hO,hS1⟩:=h.sound hs
  obtain ⟨cur',_,⟨⟨g,hg,_⟩,_⟩,_⟩:=hf.sound hs
  have hlen:slen v'=xs.length:=by
   obtain ⟨base,cap,hv,_⟩:=id hO
   obtain rfl:v' = .slice base xs.length cap:=by simpa using hv
   rfl
  rw [hlen] at j1
  obtain ⟨k,gg,a1,a2,a3⟩:=own_hol h1 hO (List.getElem?_eq_getElem j1) hu
  have hz:xs[j.toNat]=z:=hr.det (hr.le.le a1) hg
  rw [hz] at a1
  refine ⟨k,gg++F1,?_,a1,?_⟩
  ·rw [← List.append_assoc]; exact (a2.append_right F1).trans hp
  ·exact SA.cons hS1 (e:=.hol e E v' xs j u) a3
 | @lit α t E b u x _ Γ1 _ h h1 he=>
  intro F hs
  obtain ⟨f,F1,hp,⟨rfl,hrow⟩,hS1⟩:=h.sound hs
  obtain ⟨k,F2,hp2,hk,hS2⟩:=he.sound hS1
  refine ⟨b :: k,F2,(List.Perm.cons b hp2).trans hp,⟨_,1,rfl,.inr ⟨b,_,k,rfl,hrow,rfl,Nat.le_refl _,by decide,by simp [h1],?_⟩⟩,hS2⟩
  simp only [List.length_cons,List.length_nil,h1]
  exact ⟨[u],[],k,[],by simp,by simp,hk,rfl,rfl⟩
theorem EO.sound (h:EO Γ Δ Γ'):∀ {F:List Nat},SA Z w Γ [] F→∃ Fd F',HO Z w Δ Fd∧SA Z w Γ' [] F'∧(Fd++F').Perm F:=by
 induction h with
 | nil=>intro F h; exact ⟨[],F,.nil,h,.refl _⟩
 | own hl h _ ih=>
  intro F hs
  obtain ⟨f,F1,hp,ho,h1⟩:=h.sound hl.loc (by rintro _ _ _ _ h; cases h; rfl) hs
  obtain ⟨Fd,F',h2,h3,h4⟩:=ih h1
  exact ⟨f++Fd,F',.own ho h2,h3,by rw [List.append_assoc]; exact (h4.append_left f).trans hp⟩
 | om hl h _ ih=>
  intro F hs
  obtain ⟨f,F1,hp,ho,h1⟩:=h.sound hl (by rintro _ _ _ _ h; cases h) hs
  obtain ⟨Fd,F',h2,h3,h4⟩:=ih h1
  exact ⟨f++Fd,F',.own ho h2,h3,by rw [List.append_assoc]; exact (h4.append_left f).trans hp⟩
 | hol h _ ih=>
  intro F hs
  obtain ⟨f,F1,hp,ho,h1⟩:=h.sound hs
  obtain ⟨Fd,F',h2,h3,h4⟩:=ih h1
  exact ⟨f++Fd,F',.own ho h2,h3,by rw [List.append_assoc]; exact (h4.append_left f).trans hp⟩
 | row h _ ih=>
  intro F hs
  obtain ⟨f,F1,hp,ho,h1⟩:=h.sound hs
  obtain ⟨Fd,F',h2,h3,h4⟩:=ih h1
  exact ⟨f++Fd,F',.own ho h2,h3,by rw [List.append_assoc]; exact (h4.append_left f).trans hp⟩
 | rd _ ih=>intro F hs; obtain ⟨Fd,F',h2,h3,h4⟩:=ih hs; exact ⟨Fd,F',.rd h2,h3,h4⟩
 | ats _ ih=>intro F hs; obtain ⟨Fd,F',h2,h3,h4⟩:=ih hs; exact ⟨Fd,F',.ats h2,h3,h4⟩
theorem At.sub {w:World} {p:Addr} {cs ds:List Value} {j:Nat} (h:At w p cs) (hd:(cs.drop j).take ds.length=ds):At w (p.add j) ds:=by
 intro i u hi
 have hi':cs[j+i]? = some u:=by
  rw [← hd,List.getElem?_take] at hi
  split at hi
  ·rwa [List.getElem?_drop] at hi
  ·cases hi
 have h2:=h (j+i) u hi'
 have e:(p.add j).add i=p.add (j+i):=by
  unfold Addr.add
  by_cases h0:j=0
  ·subst h0; simp
  ·by_cases h1:i=0
   ·subst h1; simp
   ·simp [h0,h1,Nat.add_assoc]
 rw [e]; exact h2
theorem FndP.sound {p:Addr} {cs:List Value} {o:Bool} (h:FndP Γ p cs o):∀ {cur F:List Nat},SA Z w Γ cur F→At w p cs∧(cs≠[]→(o=false∧Z p.block)∨(o=true∧p.block∈F)):=by
 induction h with
 | nil=>intro cur F _; exact ⟨fun j u hj=>by simp at hj,fun h=>absurd rfl h⟩
 | @at0 p cs ds Γ h=>
  rintro cur F ⟨⟨h1,h2⟩,_⟩
  refine ⟨At.sub (j:=0) h1 (by simpa using h),fun hn=>.inl ⟨rfl,h2 fun hc=>hn (by rw [hc] at h; simpa using h.symm)⟩⟩
 | @sub p j cs ds Γ h=>
  rintro cur F ⟨⟨h1,h2⟩,_⟩
  refine ⟨At.sub h1 h,fun hn=>.inl ⟨rfl,?_⟩⟩
  have:(p.add j).block=p.block:=by unfold Addr.add; split <;> rfl
  rw [this]; exact h2 fun hc=>hn (by rw [hc] at h; simpa using h.symm)
 | @sub2 p i j cs ds Γ h hn=>
  rintro cur F ⟨⟨h1,h2⟩,_⟩
  have hz : ¬ i+j=0:=fun h=>by rw [h] at hn; exact absurd hn (by decide)
  have e:p.add (i+j) = ⟨p.block,p.off+i+j,none⟩:=by
   unfold Addr.add
   rw [if_neg hz,Nat.add_assoc]
  have:=At.sub h1 h
  rw [e] at this
  exact ⟨this,fun hn'=>.inl ⟨rfl,h2 fun hc=>hn' (by rw [hc] at h; simpa using h.symm)⟩⟩
 | @row b j t cs ds Γ h=>
  rintro cur F ⟨f,F',h1,⟨h2,h3⟩,_⟩
  refine ⟨?_,fun _=>.inr ⟨rfl,by rw [h1,h2]; simp⟩⟩
  have:=At.sub h3.at h
  rwa [addr_add,Nat.zero_add] at this
 | @there p cs o e Γ h ih=>
  intro cur F hS
  cases e with
  | own T v x=>obtain ⟨f,F',h1,h2,h3⟩:=hS; obtain ⟨a,b⟩:=ih h3; exact ⟨a,fun hn=>(b hn).imp id fun ⟨x,y⟩=>⟨x,by rw [h1]; exact List.mem_append_right _ y⟩⟩
  | om e E v xs=>obtain ⟨f,F',h1,h2,h3⟩:=hS; obtain ⟨a,b⟩:=ih h3; exact ⟨a,fun hn=>(b hn).imp id fun ⟨x,y⟩=>⟨x,by rw [h1]; exact List.mem_append_right _ y⟩⟩
  | row b cs e=>obtain ⟨f,F',h1,h2,h3⟩:=hS; obtain ⟨a,b⟩:=ih h3; exact ⟨a,fun hn=>(b hn).imp id fun ⟨x,y⟩=>⟨x,by rw [h1]; exact List.mem_append_right _ y⟩⟩
  | hol e E v xs j u=>obtain ⟨f,F',h1,h2,h3⟩:=hS; obtain ⟨a,b⟩:=ih h3; exact ⟨a,fun hn=>(b hn).imp id fun ⟨x,y⟩=>⟨x,by rw [h1]; exact List.mem_append_right _ y⟩⟩
  | _=>exact ih hS.2
theorem RdL.sound {Δ:List Ent} (h:RdL Γ Δ) (hZ:∀ b,Z b→Z' b) {F':List Nat} (hl:∀ b∈F',Z' b) (hs:SA Z w Γ [] F'):∀ e∈Δ,fact Z' w [] e:=by
 induction h with
 | nil=>intro e he; cases he
 | rd h _ ih=>
  intro e he
  rcases List.mem_cons.1 he with rfl | he
  ·obtain ⟨cur',hc,⟨⟨g,h1,h2⟩,_⟩,_⟩:=h.sound hs
   have hc':∀ b∈cur',Z' b:=fun b hb=>hl b ((hc b hb).resolve_left (by simp))
   have key:∀ o b,inZ o Z cur' b→Z' b:=by
    intro o b hi
    cases o
    ·exact hZ b hi
    ·exact hc' b hi
   exact ⟨g,h1,fun b hb=>(h2 b hb).elim (key _ b) (key _ b)⟩
  ·exact ih e he
theorem PtL.sound {α:Type} {S:STy α} {us:List Value} {xs:List α} (h:PtL Γ S us xs) (hZ:∀ b,Z b→Z' b) {F':List Nat} (hl:∀ b∈F',Z' b) (hs:SA Z w Γ [] F'):us.length=xs.length∧∃ g,repL (sPtr S) w.heap us xs g∧∀ b∈g,Z' b:=by
 induction h with
 | nil=>exact ⟨rfl,[],⟨rfl,rfl⟩,fun b hb=>absurd hb List.not_mem_nil⟩
 | @cons V S cl en p x v o us xs hso _ hp hr _ ih=>
  obtain ⟨e1,g,h1,h2⟩:=ih
  obtain ⟨a1,a2⟩:=hp.sound hs
  obtain ⟨g0,b1,b2⟩:=hso.cl (hr.sound hZ hl hs)
  have hne:=hso.ne x v
  have hpz:Z' p.block:=(a2 hne).elim (fun h=>hZ _ h.2) fun h=>hl _ h.2
  have hlt:p.block < w.heap.size:=by
   cases hc:cl x v with
   | nil=>exact absurd hc hne
   | cons u _=>
    have:=cell_lt (a1 0 u (by rw [hc]; rfl))
    rwa [add_block] at this
  refine ⟨by simp [e1],(p.block :: g0)++g,⟨[.pointer (some p)],us,p.block :: g0,g,rfl,rfl,⟨p,_,g0,rfl,hlt,fun j u hj=>a1 j u hj,b1,rfl⟩,h1⟩,fun b hb=>?_⟩
  rcases List.mem_append.1 hb with hb | hb
  ·rcases List.mem_cons.1 hb with rfl | hb
   ·exact hpz
   ·exact b2 b hb
  ·exact h2 b hb
theorem StL.sound {α:Type} {S:STy α} {us:List Value} {xs:List α} (h:StL Γ S us xs) (hZ:∀ b,Z b→Z' b) {F':List Nat} (hl:∀ b∈F',Z' b) (hs:SA Z w Γ [] F'):∃ g,repL S w.heap us xs g∧∀ b∈g,Z' b:=by
 induction h with
 | nil=>exact ⟨[],⟨rfl,rfl⟩,fun b hb=>absurd hb List.not_mem_nil⟩
 | @cons V S cl en x v us ws xs hso _ hc hr _ ih=>
  obtain ⟨g,h1,h2⟩:=ih
  obtain ⟨g0,b1,b2⟩:=hso.cl (hr.sound hZ hl hs)
  exact ⟨g0++g,⟨_,us,g0,g,hc.eq.symm,rfl,b1,h1⟩,fun b hb=>(List.mem_append.1 hb).elim (b2 b) (h2 b)⟩
theorem RwL.sound {α:Type} {E:STy α} {us:List Value} {xs:List α} (h:RwL Γ E us xs) (hZ:∀ b,Z b→Z' b) {F':List Nat} (hl:∀ b∈F',Z' b) (hs:SA Z w Γ [] F'):E.size=1∧us.length=xs.length∧∃ g,repL E w.heap us xs g∧∀ b∈g,Z' b:=by
 induction h with
 | nil h=>exact ⟨h,rfl,[],⟨rfl,rfl⟩,fun b hb=>absurd hb List.not_mem_nil⟩
 | @int k a us xs _ ih=>
  obtain ⟨e0,e1,g,h1,h2⟩:=ih
  exact ⟨e0,by simp [e1],g,⟨[_],us,[],g,rfl,rfl,⟨rfl,rfl⟩,h1⟩,h2⟩
 | @bool a us xs _ ih=>
  obtain ⟨e0,e1,g,h1,h2⟩:=ih
  exact ⟨e0,by simp [e1],g,⟨[_],us,[],g,rfl,rfl,⟨rfl,rfl⟩,h1⟩,h2⟩
 | @lit α E b n vs x t us xs Γ1 h hn _ _ ihp ih=>
  obtain ⟨e0,e1,g,h1,h2⟩:=ih
  obtain ⟨d0,d1,k,k1,k2⟩:=ihp
  obtain ⟨f,F1,hperm,⟨rfl,hrow⟩,_⟩:=h.sound hs
  have hb:Z' b:=hl b (hperm.mem_iff.1 (List.mem_append_left _ (by simp)))
  refine ⟨rfl,by simp [e1],(b :: k)++g,⟨[_],us,b :: k,g,rfl,rfl,⟨_,n,by rw [← hn,d1],.inr ⟨b,0,vs.toArray,t,_,k,rfl,hrow,rfl,?_⟩⟩,h1⟩,fun i hi=>?_⟩
  ·rw [List.drop_zero,d0,Nat.mul_one,List.toList_toArray,← d1,List.take_length]
   exact k1
  ·rcases List.mem_append.1 hi with hi | hi
   ·rcases List.mem_cons.1 hi with rfl | hi
    ·exact hb
    ·exact k2 i hi
   ·exact h2 i hi
 | @sl α E o1 o2 u x us xs Γx h _ ih=>
  obtain ⟨e0,e1,g,h1,h2⟩:=ih
  obtain ⟨cur',hc,⟨⟨k,a1,a2⟩,_⟩,_⟩:=h.sound hs
  have hc':∀ b∈cur',Z' b:=fun b hb=>hl b ((hc b hb).resolve_left (by simp))
  have key:∀ o b,inZ o Z cur' b→Z' b:=by
   intro o b hi
   cases o
   ·exact hZ b hi
   ·exact hc' b hi
  refine ⟨rfl,by simp [e1],k++g,⟨[u],us,k,g,rfl,rfl,a1,h1⟩,fun b hb=>?_⟩
  exact (List.mem_append.1 hb).elim (fun hb=>(a2 b hb).elim (key _ b) (key _ b)) (h2 b)
theorem ER.sound {l:Bool} (h:ER l Γ Δ) (hZ:∀ b,Z b→Z' b) {F':List Nat} (hl:l=true→∀ b∈F',Z' b) (hs:SA Z w Γ [] F'):∀ {Fd:List Nat},HO Z w Δ Fd→HL Z' w Δ Fd:=by
 induction h with
 | nil=>intro Fd h; cases h; exact .nil
 | own _ ih=>intro Fd h; cases h with | own h k=>exact .own (h.mono hZ) (ih hl hs k)
 | om _ ih=>intro Fd h; cases h with | own h k=>exact .own (h.mono hZ) (ih hl hs k)
 | row _ ih=>intro Fd h; cases h with | own h k=>exact .own (h.mono hZ) (ih hl hs k)
 | hol _ ih=>intro Fd h; cases h with | own h k=>exact .own (h.mono hZ) (ih hl hs k)
 | @rp α S b n us xs t Γ Γ1 Δ h hn hp _ ih=>
  intro Fd hh
  cases hh with
  | own h k=>exact h.elim
  | rd k=>
   refine .fact ?_ (ih hl hs k)
   obtain ⟨f,F1,hperm,⟨rfl,hrow⟩,_⟩:=h.sound hs
   obtain ⟨e1,g,h1,h2⟩:=hp.sound hZ (hl rfl) hs
   have hb:Z' b:=hl rfl b (hperm.mem_iff.1 (List.mem_append_left _ (by simp)))
   refine ⟨b :: g,⟨_,n,by rw [← hn,e1],.inr ⟨b,0,us.toArray,t,_,g,rfl,hrow,rfl,?_⟩⟩,fun i hi=>?_⟩
   ·have e2:(sPtr S).size=1:=rfl
    rw [List.drop_zero,e2,Nat.mul_one,List.toList_toArray,← e1,List.take_length]
    exact h1
   ·rcases List.mem_cons.1 hi with rfl | hi
    ·exact hb
    ·exact h2 i hi
 | @rs α S b n us xs t Γ Γ1 Δ h hn hp _ ih=>
  intro Fd hh
  cases hh with
  | own h k=>exact h.elim
  | rd k=>
   refine .fact ?_ (ih hl hs k)
   obtain ⟨f,F1,hperm,⟨rfl,hrow⟩,_⟩:=h.sound hs
   obtain ⟨g,h1,h2⟩:=hp.sound hZ (hl rfl) hs
   have hb:Z' b:=hl rfl b (hperm.mem_iff.1 (List.mem_append_left _ (by simp)))
   refine ⟨b :: g,⟨_,n,by rw [← hn],.inr ⟨b,0,us.toArray,t,_,g,rfl,hrow,rfl,?_⟩⟩,fun i hi=>?_⟩
   ·have e2:(sStr S).size=S.size:=rfl
    rw [List.drop_zero,e2,List.toList_toArray,← repL_len h1,List.take_length]
    exact repL_le Le.str h1
   ·rcases List.mem_cons.1 hi with rfl | hi
    ·exact hb
    ·exact h2 i hi
 | @rr α E b n us xs t Γ Γ1 Δ h hn hp _ ih=>
  intro Fd hh
  cases hh with
  | own h k=>exact h.elim
  | rd k=>
   refine .fact ?_ (ih hl hs k)
   obtain ⟨f,F1,hperm,⟨rfl,hrow⟩,_⟩:=h.sound hs
   obtain ⟨e2,e1,g,h1,h2⟩:=hp.sound hZ (hl rfl) hs
   have hb:Z' b:=hl rfl b (hperm.mem_iff.1 (List.mem_append_left _ (by simp)))
   refine ⟨b :: g,⟨_,n,by rw [← hn,e1],.inr ⟨b,0,us.toArray,t,_,g,rfl,hrow,rfl,?_⟩⟩,fun i hi=>?_⟩
   ·rw [List.drop_zero,e2,Nat.mul_one,List.toList_toArray,← e1,List.take_length]
    exact h1
   ·rcases List.mem_cons.1 hi with rfl | hi
    ·exact hb
    ·exact h2 i hi
 | rdt h _ ih=>
  intro Fd hh
  cases hh with
  | own h k=>exact h.elim
  | rd k=>
   refine .fact ?_ (ih hl hs k)
   obtain ⟨cur',hc,⟨⟨g,h1,h2⟩,_⟩,_⟩:=h.sound hs
   have hc':∀ b∈cur',Z' b:=fun b hb=>hl rfl b ((hc b hb).resolve_left (by simp))
   have key:∀ o b,inZ o Z cur' b→Z' b:=by
    intro o b hi
    cases o
    ·exact hZ b hi
    ·exact hc' b hi
   exact ⟨g,h1,fun b hb=>(h2 b hb).elim (key _ b) (key _ b)⟩
 | rdf h _ ih=>
  intro Fd hh
  cases hh with
  | own h k=>exact h.elim
  | rd k=>
   refine .fact ?_ (ih hl hs k)
   obtain ⟨cur',hc,⟨⟨g,h1,h2⟩,_⟩,_⟩:=h.sound hs
   exact ⟨g,h1,fun b hb=>(h2 b hb).elim (hZ b) (hZ b)⟩
 | att h _ ih=>
  intro Fd hh
  cases hh with
  | own h k=>exact h.elim
  | ats k=>
   refine .fact ?_ (ih hl hs k)
   obtain ⟨h1,h2⟩:=h.sound hs
   exact ⟨h1,fun hn=>(h2 hn).elim (fun h=>hZ _ h.2) (fun h=>hl rfl _ h.2)⟩
 | atf h _ ih=>
  intro Fd hh
  cases hh with
  | own h k=>exact h.elim
  | ats k=>
   refine .fact ?_ (ih hl hs k)
   obtain ⟨h1,h2⟩:=h.sound hs
   exact ⟨h1,fun hn=>(h2 hn).elim (fun h=>hZ _ h.2) (fun h=>nomatch h.1)⟩
inductive EP:List Ent→List Ent→Prop
 | nil {Γ:List Ent}:EP Γ []
 | ats {p:Addr} {cs:List Value} {o:Bool} {Γ Δ:List Ent} (h:FndP Γ p cs o) (k:EP Γ Δ):EP Γ (.ats p cs :: Δ)
 | skip {e:Ent} {Γ Δ:List Ent} (k:EP Γ Δ):EP Γ (e :: Δ)
inductive EFl:Plc→List Ent→Value→{α:Type}→STy α→List α→List Ent→Prop
 | z {α:Type} {E:STy α} {v:Value} {x:List α} {Γ Γx:List Ent} (h:Fnd Γ v false false E x noE Γx):EFl .z Γ v E x Γ
 | nil {α:Type} {E:STy α} {Γ:List Ent}:EFl .nil Γ (.slice none 0 0) E [] Γ
 | own {α:Type} {E:STy α} {T:STy (List α)} {v:Value} {x:List α} {Γ Γ':List Ent} (h:Sel Γ (.own T v x) Γ') (hr:RT T (aE E)):EFl .own Γ v E x (.rd false (aE E) v x :: Γ')
 | om {α:Type} {t:TypeId} {E E1:STy α} {v:Value} {x:List α} {Γ Γ':List Ent} (h:Sel Γ (.om t E1 v x) Γ') (hr:RT E1 E):EFl .om Γ v E x (.rd false (aE E) v x :: Γ')
 | og {α:Type} {n:Nat} {e:TypeId} {S:STy α} {v:Value} {us:List (List Value)} {x:List α} {Γ Γ':List Ent} (h:Sel Γ (.own (aK e (sCel n)) v us) Γ') (hg:In (.rd false (sGh S) (.bool true) (us,x)) Γ) (hn:S.size=n):EFl .og Γ v (sStr S) x (.rd false (aE (sStr S)) v x :: Γ')
inductive EF:List Ent→List Ent→List Ent→Prop
 | nil {Γ:List Ent}:EF Γ [] Γ
 | own {l:Plc} {α:Type} {T:STy α} {v:Value} {x:α} {Γ Γ1 Γ2 Δ:List Ent} (hl:Loc Γ v l) (h:EOl l Γ (.own T v x) Γ1) (k:EF Γ1 Δ Γ2):EF Γ (.own T v x :: Δ) Γ2
 | om {l:Plc} {α:Type} {t:TypeId} {E:STy α} {v:Value} {xs:List α} {Γ Γ1 Γ2 Δ:List Ent} (hl:Loc Γ v l) (h:EOl l Γ (.om t E v xs) Γ1) (k:EF Γ1 Δ Γ2):EF Γ (.om t E v xs :: Δ) Γ2
 | row {b:Nat} {cs:List Value} {t:TypeId} {Γ Γ1 Γ2 Δ:List Ent} (h:Sel Γ (.row b cs t) Γ1) (k:EF Γ1 Δ Γ2):EF Γ (.row b cs t :: Δ) Γ2
 | rd {l:Plc} {α:Type} {E:STy α} {v:Value} {x:List α} {Γ Γ1 Γ2 Δ:List Ent} (hl:Loc Γ v l) (h:EFl l Γ v E x Γ1) (k:EF Γ1 Δ Γ2):EF Γ (.rd false (aE E) v x :: Δ) Γ2
 | ats {p:Addr} {cs:List Value} {Γ Γ2 Δ:List Ent} (h:FndP Γ p cs false) (k:EF Γ Δ Γ2):EF Γ (.ats p cs :: Δ) Γ2
def orZ (Z:Nat→Prop) (f:List Nat):Nat→Prop:=fun b=>Z b∨b∈f
theorem SA.left (h:SA Z w Γ [] F):SA (orZ Z f) w Γ [] F:=h.mono (fun _ h=>.inl h) fun _ h=>h
theorem orZ_orZ {f g:List Nat} (b:Nat):orZ (orZ Z f) g b↔orZ Z (f++g) b:=by
 unfold orZ; rw [List.mem_append,or_assoc]
theorem EFl.sound {l:Plc} {α:Type} {E:STy α} {v:Value} {x:List α} (h:EFl l Γ v E x Γ'):∀ {F:List Nat},SA Z w Γ [] F→∃ f F',(f++F').Perm F∧fact (orZ Z f) w [] (.rd false (aE E) v x)∧SA (orZ Z f) w Γ' [] F':=by
 cases h with
 | z h=>
  intro F hs
  obtain ⟨cur',_,⟨⟨g,h1,h2⟩,_⟩,_⟩:=h.sound hs
  exact ⟨[],F,.refl _,⟨g,h1,fun b hb=>.inl ((h2 b hb).elim id id)⟩,hs.left⟩
 | nil=>intro F hs; exact ⟨[],F,.refl _,⟨[],nil_imm,fun _ h=>absurd h List.not_mem_nil⟩,hs.left⟩
 | own h hr=>
  intro F hs
  obtain ⟨f,F1,hp,ho,h1⟩:=h.sound hs
  have hf:fact (orZ Z f) w [] (.rd false (aE E) v x):=⟨f,hr.le.le ho,fun b hb=>.inr hb⟩
  exact ⟨f,F1,hp,hf,SA.fact h1.left hf⟩
 | om h hr=>
  intro F hs
  obtain ⟨f,F1,hp,ho,h1⟩:=h.sound hs
  obtain ⟨⟨g,hg,hb⟩,_⟩:=(sl_om ho).le hr.le
  have hf:fact (orZ Z f) w [] (.rd false (aE E) v x):=⟨g,hg,fun b hm=>(hb b hm).elim .inr .inl⟩
  exact ⟨f,F1,hp,hf,SA.fact h1.left hf⟩
 | @og _ n e S _ us _ _ Γ' h hg hn=>
  intro F hs
  obtain ⟨f,F1,hp,ho,h1⟩:=h.sound hs
  obtain ⟨g,hg1,hg2⟩:=hg.rd hs []
  have hgz:∀ b∈g,Z b:=hg2
  have hf:fact (orZ Z f) w [] (.rd false (aE (sStr S)) v x):=by
   obtain ⟨_,hgl,_⟩:=hg1
   obtain ⟨base,cap,hv,hr⟩:=ho
   have hlen:=gl_len hgl
   rcases hr with ⟨rfl,rfl,e1,rfl⟩ | ⟨b,cur,f',rfl,h2,rfl,h4,h5,h6,h3⟩
   ·have e2:us=[]:=e1
    have ex:x=[]:=List.eq_nil_of_length_eq_zero (by rw [← hlen]; simp [e2])
    subst ex
    exact ⟨[],⟨none,0,by simpa [e2] using hv,.inl ⟨rfl,rfl⟩⟩,fun _ h=>absurd h List.not_mem_nil⟩
   ·refine ⟨b :: g,⟨_,cap,by rw [← hlen]; exact hv,.inr ⟨b,0,cur,e,(0,0),g,rfl,h2,rfl,?_⟩⟩,fun i hi=>?_⟩
    ·have hrl:=repL_le (Le.str (S:=S)) (gl_repL hgl)
     have hc:cur.toList.take (us.length * (sCel n).size)=us.flatten:=(cel_flat h3).1
     have hs':(sStr S).size=n:=hn
     rw [List.drop_zero,hs',← hlen]
     show repL (sStr S) w.heap (cur.toList.take (us.length * (sCel n).size)) x g
     rw [hc]
     exact hrl
    ·rcases List.mem_cons.1 hi with rfl | hi
     ·exact .inr (by simp)
     ·exact .inl (hgz i hi)
  exact ⟨f,F1,hp,hf,SA.fact h1.left hf⟩
theorem EF.sound (h:EF Γ Δ Γ'):∀ {Z:Nat→Prop} {F:List Nat},SA Z w Γ [] F→∃ Fd F' Zn,HL (orZ Z Zn) w Δ Fd∧SA (orZ Z Zn) w Γ' [] F'∧(Fd++F'++Zn).Perm F:=by
 induction h with
 | nil=>intro Z F h; exact ⟨[],F,[],.nil,h.left,by simp⟩
 | own hl h _ ih=>
  intro Z F hs
  obtain ⟨f,F1,hp,ho,h1⟩:=h.sound hl (by rintro _ _ _ _ h; cases h; rfl) hs
  obtain ⟨Fd,F',Zn,h2,h3,h4⟩:=ih h1
  exact ⟨f++Fd,F',Zn,.own (ho.mono fun _ h=>.inl h) h2,h3,by simp only [List.append_assoc] at h4 ⊢; exact (h4.append_left f).trans hp⟩
 | om hl h _ ih=>
  intro Z F hs
  obtain ⟨f,F1,hp,ho,h1⟩:=h.sound hl (by rintro _ _ _ _ h; cases h) hs
  obtain ⟨Fd,F',Zn,h2,h3,h4⟩:=ih h1
  exact ⟨f++Fd,F',Zn,.own (ho.mono fun _ h=>.inl h) h2,h3,by simp only [List.append_assoc] at h4 ⊢; exact (h4.append_left f).trans hp⟩
 | row h _ ih=>
  intro Z F hs
  obtain ⟨f,F1,hp,ho,h1⟩:=h.sound hs
  obtain ⟨Fd,F',Zn,h2,h3,h4⟩:=ih h1
  exact ⟨f++Fd,F',Zn,.own (ho.mono fun _ h=>.inl h) h2,h3,by simp only [List.append_assoc] at h4 ⊢; exact (h4.append_left f).trans hp⟩
 | rd hl h _ ih=>
  intro Z F hs
  obtain ⟨f,F1,hp,ho,h1⟩:=h.sound hs
  obtain ⟨Fd,F',Zn,h2,h3,h4⟩:=ih h1
  refine ⟨Fd,F',f++Zn,.fact (ho.mono (fun b hb=>hb.elim .inl fun h=>.inr (List.mem_append_left _ h)) fun _ h=>h) (h2.mono fun b=>(orZ_orZ b).1),h3.mono (fun b=>(orZ_orZ b).1) fun _ h=>h,?_⟩
  refine .trans ?_ ((h4.append_left f).trans hp)
  rw [← List.append_assoc,← List.append_assoc]
  exact (List.perm_append_comm (l₁:=Fd++F') (l₂:=f)).append_right Zn
 | ats h _ ih=>
  intro Z F hs
  obtain ⟨Fd,F',Zn,h2,h3,h4⟩:=ih hs
  obtain ⟨a,b⟩:=h.sound hs
  exact ⟨Fd,F',Zn,.fact ⟨a,fun hn=>.inl ((b hn).elim (fun h=>h.2) fun h=>nomatch h.1)⟩ h2,h3,h4⟩
theorem Gd.freeze {Zn:List Nat} (h:Gd B Z (F++Zn) w) (hlt:∀ b∈Zn,b < w.heap.size):Gd B (orZ Z Zn) F w:=by
 have hnd:=List.nodup_append.1 h.nd
 refine ⟨hnd.1,?_,?_,fun b hb=>h.low b (List.mem_append_left _ hb),fun b hb=>.inl (h.zup b hb),?_,h.chg⟩
 ·rintro b hb (hz | hz)
  ·exact h.apart b (List.mem_append_left _ hb) hz
  ·exact hnd.2.2 b hb b hz rfl
 ·rintro b (hz | hz)
  ·exact h.zlt b hz
  ·exact hlt b hz
 ·rintro b (hz | hz)
  ·exact h.zlow b hz
  ·exact .inr (h.low b (List.mem_append_right _ hz))
end
end Go.Dk
namespace Go.Dk
open Go Go.Li
structure Cx (R:Type) where
 n:Nat
 fn:Func
 V:Type
 ret:R→V→List Value
 post:R→V→List Ent
inductive KI where
 | seq (c:Code)
 | blk (k:Nat)
inductive Kb (R:Type):Type→Type 1
 | top {S:Type}:Kb R S
 | topv:Kb R R
 | loop {S:Type} (V:Type) (k:Nat) (Δ:S→V→List Ent) (φ:S→V→Fr) (Γ2:List Ent) (f2:Fr):Kb R S
structure Kont (R S:Type) where
 its:List KI
 b:Kb R S
inductive RK (R:Type):Type→Type 1
 | n {S:Type} (K:Kont R S):RK R (Out S R)
 | g (t:Nat) (f0:Fr):RK R Bool
 | s {S:Type} (K:Kont R S):RK R (Out S R)
 | h {S:Type} (all tail:List Oper) (K:Kont R S):RK R (Out S R)
inductive Jd (R:Type):Type 1
 | p (φ:Fr) (Δ:List Ent) (fr:Fr) (Γ:List Ent) (k:Fr→List Ent→Jd R)
 | cs {β:Type} (y:β) (k:β→Jd R)
 | tp (vs:List Value) (d:Nat) (fr:Fr) (k:Fr→Jd R)
 | c {S:Type} (K:Kont R S) (c:Code) (Γ:List Ent) (fr:Fr) (m:Option (Out S R))
 | cd {S:Type} (b:Bool) (K:Kont R S) (x y:Code) (Γ:List Ent) (fr:Fr) (m:Option (Out S R))
 | n {S:Type} (K:Kont R S) (Γ:List Ent) (fr:Fr) (m:Option (Out S R))
 | x {S:Type} (k:Nat) (K:Kont R S) (Γ:List Ent) (fr:Fr) (m:Option (Out S R))
 | xb {S:Type} (e:Bool) (k:Nat) (K:Kont R S) (Γ:List Ent) (fr:Fr) (m:Option (Out S R))
 | bk {S:Type} (e:Bool) (k:Nat) (K:Kont R S) (c:Code) (Γ:List Ent) (fr:Fr) (m:Option (Out S R))
 | dr {S:Type} (id:Nat) (ops:List Oper) (K:Kont R S) (Γ:List Ent) (fr:Fr) (m:Option (Out S R))
 | rg {S:Type} (e:Bool) (draw:Bool) (ops:List Oper) (K:Kont R S) (Γ:List Ent) (fr:Fr) (m:Option (Out S R))
 | rw {S:Type} (st:Bool) (ops:List Oper) (K:Kont R S) (Γ:List Ent) (fr:Fr) (m:Option (Out S R))
 | o {M:Type} (q:Bool) (all ops:List Oper) (rk:RK R M) (Γ:List Ent) (fr:Fr) (m:Option M)
 | e {M:Type} (q:Bool) (op:Op) (d:Option Nat) (ty:TypeId) (all ops:List Oper) (rk:RK R M) (Γ:List Ent) (fr:Fr) (m:Option M)
 | gd {M:Type} (v:Value) (tt:Bool) (j t:Nat) (q:Bool) (op:Op) (d:Option Nat) (ty:TypeId) (all ops:List Oper) (rk:RK R M) (Γ:List Ent) (fr:Fr) (m:Option M)
 | mo {M:Type} (all ops:List Oper) (rk:RK R M) (Γ:List Ent) (fr:Fr) (m:Option M)
 | mn {S:Type} (K:Kont R S) (Γ:List Ent) (fr:Fr) (m:Option (Out S R))
 | tg {S:Type} (q g:Bool) (all tail:List Oper) (K:Kont R S) (Γ:List Ent) (fr:Fr) (m:Option (Out S R))
 | sl {M:Type} (l:Plc) (v:Value) (j:Int) (u:Value) (t:TypeId) (x y:Operand) (ty:TypeId) (all ops:List Oper) (rk:RK R M) (Γ:List Ent) (fr:Fr) (m:Option M)
 | cz {M β V:Type} (o:Bool) (f:FuncId) (vs:List Value) (op:Op) (d:Nat) (ty:TypeId) (Δ:List Ent) (mo:Option β) (rt:β→V→List Value) (ps:β→V→List Ent) (all ops:List Oper) (rk:RK R M) (Γ:List Ent) (fr:Fr) (g:β→Option M)
 | fa (f:FuncId) (j:Jd R)
 | ia (t a:TypeId) (j:Jd R)
 | im (t:TypeId) (name:String) (j:FuncId→Jd R)
 | cv {M:Type} (f:FuncId) (vs:List Value) (q:Bool) (op:Op) (d:Nat) (ty:TypeId) (all ops:List Oper) (rk:RK R M) (Γ:List Ent) (fr:Fr) (m:Option M)
 | la {M:Type} (a:Addr) (lk:Option Nat) (q:Bool) (ty:TypeId) (x:Operand) (d:Nat) (all ops:List Oper) (rk:RK R M) (Γ:List Ent) (fr:Fr) (m:Option M)
 | ld {M α:Type} (E:STy α) (z:α) (a:Addr) (q:Bool) (ty:TypeId) (x:Operand) (d:Nat) (all ops:List Oper) (rk:RK R M) (Γ:List Ent) (fr:Fr) (m:Option M)
 | ax {M α:Type} (E:STy α) (e t:TypeId) (bt:Nat) (xv sv:Value) (s x:Operand) (d:Nat) (ty:TypeId) (all ops:List Oper) (rk:RK R M) (Γ:List Ent) (fr:Fr) (m:Option M)
 | ap {M α:Type} (E:STy α) (e t:TypeId) (bt:Nat) (u:Value) (b:Nat) (sv:Value) (s x:Operand) (d:Nat) (ty:TypeId) (all ops:List Oper) (rk:RK R M) (Γ:List Ent) (fr:Fr) (m:Option M)
 | ap2 {M α:Type} (k:Bool) (e':TypeId) (E:STy α) (e t:TypeId) (bt:Nat) (u:Value) (b:Nat) (sv:Value) (s x:Operand) (d:Nat) (ty:TypeId) (all ops:List Oper) (rk:RK R M) (Γ:List Ent) (fr:Fr) (m:Option M)
 | st {M:Type} (a:Addr) (u:Value) (n:Nat) (t:TypeId) (x y:Operand) (ty:TypeId) (all ops:List Oper) (rk:RK R M) (Γ:List Ent) (fr:Fr) (m:Option M)
def StH1 (P:Program) (t:TypeId) {α:Type} (e:TypeId) (E:STy α) (bt:Nat):Prop:=
 P.underlying t=some (.slice e)∧E.size=1∧∃ i z,P.info? e=some i∧i.zero=some z∧i.size=1∧z.oneCell'=true∧i.bytes=bt
section
variable {R:Type} (P:Program) (cx:Cx R) (B:Bs)
def Rr:R→Ending→World→Prop:=fun y e w=>∃ u:cx.V,e = .returned (tupv (cx.ret y u))∧StH B (cx.post y u) w
def TT:R→(Nat→Value)→World→Prop:=Tm P cx.fn cx.n (Rr cx B)
def LI {S V:Type} (Δ:S→V→List Ent) (φ:S→V→Fr) (Γ2:List Ent) (f2:Fr):S→(Nat→Value)→World→Prop:=
 fun s r w=>∃ v:V,agr r ((φ s v).reverse++f2)∧St B ((Δ s v).reverse++Γ2) w
def baseQ {S:Type} (b:Kb R S) (o:Out S R):Exit→(Nat→Value)→World→Prop:=
 match S,b,o with
 | _,.top,o=>outPost (fun _ _ _=>False) (fun _ _ _ _=>False) (TT P cx B) o
 | _,.topv,o=>outPost (TT P cx B) (fun _ _ _ _=>False) (TT P cx B) o
 | _,.loop _ k Δ φ Γ2 f2,o=>outPost (LI B Δ φ Γ2 f2) (fun j s r w=>bif Nat.beq j k then LI B Δ φ Γ2 f2 s r w else False) (TT P cx B) o
def postI (n:Nat) (Q:Exit→(Nat→Value)→World→Prop):List KI→Exit→(Nat→Value)→World→Prop
 | []=>Q
 | .seq c :: its=>andThen (W P n c (postI n Q its)) (postI n Q its)
 | .blk k :: its=>inBlk k (postI n Q its)
def postK {S:Type} (K:Kont R S) (o:Out S R):Exit→(Nat→Value)→World→Prop:=postI P cx.n (baseQ P cx B K.b o) K.its
def endRK {M:Type} (rk:RK R M) (o:M) (r:Nat→Value) (w:World):Prop:=
 match M,rk,o with
 | _,.n K,o=>postK P cx B K o .normal r w
 | _,.g t f0,o=>r t = .bool o∧agr r f0
 | _,.s K,o=>postK P cx B K o .normal r w
 | _,.h all tail K,o=>WL P all tail r w (postK P cx B K o .normal)
def run {M:Type} (q:Bool) (all l:List Oper) (rk:RK R M) (o:M) (r:Nat→Value) (w:World):Prop:=
 match q with
 | false=>WL P all l r w (endRK P cx B rk o)
 | true=>QL P (Chg [] w) all l r fun r'=>∀ w',Chg [] w w'→endRK P cx B rk o r' w'
def erun {M:Type} (q:Bool) (oo:Oper) (all l:List Oper) (rk:RK R M) (o:M) (r:Nat→Value) (w:World):Prop:=
 match q with
 | false=>OpW P oo r w fun v w'=>WL P all l (updO r oo.dst v) w' (endRK P cx B rk o)
 | true=>∃ v,OpQ P (Chg [] w) oo r v∧QL P (Chg [] w) all l (updO r oo.dst v) fun r'=>∀ w',Chg [] w w'→endRK P cx B rk o r' w'
end
section
variable {R:Type} (P:Program) (cx:Cx R)
def sem:Jd R→Prop
 | .p φ Δ fr Γ k=>sem (k (φ.reverse++fr) (Δ.reverse++Γ))
 | .cs y k=>sem (k y)
 | .tp vs d fr k=>sem (k ((d,tupv vs) :: fr))
 | .c K c Γ fr m=>∀ B o,m=some o→∀ r w,agr r fr→St B Γ w→W P cx.n c (postK P cx B K o) r w
 | .bk _ k K c Γ fr m=>∀ B o,m=some o→∀ r w,agr r fr→St B Γ w→W P cx.n (.block k c) (postK P cx B K o) r w
 | .dr id ops K Γ fr m=>∀ B o,m=some o→∀ r w,agr r fr→St B Γ w→W P cx.n (.region id ops.toArray true) (postK P cx B K o) r w
 | .cd b K x y Γ fr m=>∀ B o,m=some o→∀ r w,agr r fr→St B Γ w→(b=true→W P cx.n x (postK P cx B K o) r w)∧(b=false→W P cx.n y (postK P cx B K o) r w)
 | .n K Γ fr m=>∀ B o,m=some o→∀ r w,agr r fr→St B Γ w→postK P cx B K o .normal r w
 | .x k K Γ fr m=>∀ B o,m=some o→∀ r w,agr r fr→St B Γ w→postK P cx B K o (.exit k) r w
 | .xb e k K Γ fr m=>∀ B o,m=some o→∀ r w,agr r fr→St B Γ w→postK P cx B K o (bif e then .normal else .exit k) r w
 | .rg _ draw ops K Γ fr m=>dstOk cx.n ops=true→(draw=true→P.follows .mixedOrders=true∧Region.lexB .any ops.toArray=true)→∀ B o,m=some o→∀ r w,agr r fr→St B Γ w→∀ id,W P cx.n (.region id ops.toArray draw) (postK P cx B K o) r w
 | .rw _ ops K Γ fr m=>dstOk cx.n ops=true→∀ B o,m=some o→∀ r w,agr r fr→St B Γ w→∀ id,W P cx.n (.region id ops.toArray false) (postK P cx B K o) r w
 | .o q all ops rk Γ fr m=>∀ B o,m=some o→∀ r w,agr r fr→St B Γ w→run P cx B q all ops rk o r w
 | .e q op d ty all ops rk Γ fr m=>∀ B o,m=some o→∀ r w,agr r fr→St B Γ w→∀ pos aft g,erun P cx B q ⟨d,op,ty,pos,aft,g⟩ all ops rk o r w
 | .gd v tt j t q op d ty all ops rk Γ fr m=>dstAt all j=some t→look fr t=some v→∀ B o,m=some o→∀ r w,agr r fr→St B Γ w→∀ pos aft,run P cx B q all (⟨d,op,ty,pos,aft,some (j,tt)⟩ :: ops) rk o r w
 | .mo all ops rk Γ fr m=>∀ B o,m=some o→∀ r w,agr r fr→St B Γ w→run P cx B false all ops rk o r w
 | .tg q _ all tail K Γ fr m=>∀ B o,m=some o→∀ r w,agr r fr→St B Γ w→run P cx B q all tail (.n K) o r w
 | .mn K Γ fr m=>∀ B o,m=some o→∀ r w,agr r fr→St B Γ w→postK P cx B K o .normal r w
 | .sl l v j u t x y ty all ops rk Γ fr m=>(∃ i,P.info? t=some i∧i.size=1)→opv fr x=some (.pointer (some (elA v 1 j)))→opv fr y=some u→Loc Γ v l→∀ B o,m=some o→∀ r w,agr r fr→St B Γ w→∀ pos aft g,erun P cx B false ⟨none,.store t x y,ty,pos,aft,g⟩ all ops rk o r w
 | .cz ow f vs op d ty Δ mo rt ps all ops rk Γ fr g=>Ct P f ow mo vs Δ rt ps→∀ B o,(mo>>=g)=some o→∀ r w,agr r fr→St B Γ w→∀ pos aft gg,(∀ w',(execOp (ev r) ⟨some d,op,ty,pos,aft,gg⟩).run P w' = .ok (.enter f vs.toArray) w')→erun P cx B false ⟨some d,op,ty,pos,aft,gg⟩ all ops rk o r w
 | .fa f j=>FnOk P f∧sem j
 | .ia t a j=>IA P t a∧sem j
 | .im t name j=>∃ f,IM P t name f∧sem (j f)
 | .cv f vs q op d ty all ops rk Γ fr m=>∀ B o,m=some o→∀ r w,agr r fr→St B Γ w→∀ pos aft g,(∀ w',(execOp (ev r) ⟨some d,op,ty,pos,aft,g⟩).run P w' = .ok (.enter f vs.toArray) w')→erun P cx B q ⟨some d,op,ty,pos,aft,g⟩ all ops rk o r w
 | .la a lk q ty x d all ops rk Γ fr m=>(match lk with | none=>NA P ty | some n=>AG P ty n)→opv fr x=some (.pointer (some a))→∀ B o,m=some o→∀ r w,agr r fr→St B Γ w→∀ t pos aft g,erun P cx B q ⟨some d,.load ty x,t,pos,aft,g⟩ all ops rk o r w
 | .ld E z a q ty x d all ops rk Γ fr m=>NA P ty→opv fr x=some (.pointer (some a))→∀ B o,m=some o→∀ r w,agr r fr→St B Γ w→(∃ u g,w.cell? a=some u∧E.rep w.heap [u] z g)→∀ t pos aft g,erun P cx B q ⟨some d,.load ty x,t,pos,aft,g⟩ all ops rk o r w
 | .ax E e t bt xv sv s x d ty all ops rk Γ fr m=>StH1 P t e E bt→opv fr s=some sv→opv fr x=some xv→∀ B o,m=some o→∀ r w,agr r fr→St B Γ w→∀ pos aft g,erun P cx B false ⟨some d,.call ⟨.builtin .append,#[s,x],#[t,t]⟩,ty,pos,aft,g⟩ all ops rk o r w
 | .ap E e t bt _ b sv s x d ty all ops rk Γ fr m=>StH1 P t e E bt→opv fr s=some sv→opv fr x=some (.slice (some ⟨b,0,none⟩) 1 1)→∀ B o,m=some o→∀ r w,agr r fr→St B Γ w→∀ pos aft g,erun P cx B false ⟨some d,.call ⟨.builtin .append,#[s,x],#[t,t]⟩,ty,pos,aft,g⟩ all ops rk o r w
 | .ap2 _ e' E e t bt _ b sv s x d ty all ops rk Γ fr m=>StH1 P t e (aK e' E) bt→opv fr s=some sv→opv fr x=some (.slice (some ⟨b,0,none⟩) 1 1)→∀ B o,m=some o→∀ r w,agr r fr→St B Γ w→∀ pos aft g,erun P cx B false ⟨some d,.call ⟨.builtin .append,#[s,x],#[t,t]⟩,ty,pos,aft,g⟩ all ops rk o r w
 | .st a u n t x y ty all ops rk Γ fr m=>(∃ i,P.info? t=some i∧i.size=n)→opv fr x=some (.pointer (some a))→opv fr y=some u→∀ B o,m=some o→∀ r w,agr r fr→St B Γ w→∀ pos aft g,erun P cx B false ⟨none,.store t x y,ty,pos,aft,g⟩ all ops rk o r w
end
section
variable {R:Type} {P:Program} {cx:Cx R} {B:Bs} {S:Type}
theorem postI_ret {n:Nat} {Q:Exit→(Nat→Value)→World→Prop} {r:Nat→Value} {w:World} (h:Q .ret r w):∀ its,postI P n Q its .ret r w:=by
 intro its
 induction its with
 | nil=>exact h
 | cons a its ih=>cases a <;> exact ih
theorem baseQ_ret {b:Kb R S} {y:R} {r:Nat→Value} {w:World} (h:TT P cx B y r w):baseQ P cx B b (.ret y) .ret r w:=by
 cases b <;> exact h
theorem postK_ret {K:Kont R S} {y:R} {r:Nat→Value} {w:World} (h:TT P cx B y r w):postK P cx B K (.ret y) .ret r w:=postI_ret (baseQ_ret h) _
theorem erun_of {M:Type} {q:Bool} {all l:List Oper} {rk:RK R M} {o:M} {r:Nat→Value} {w:World} {d:Option Nat} {op:Op} {ty:TypeId} {pos:String} {aft:Array Edge} {g:Option (Nat×Bool)} {v:Value}
  (h:Rd P w r ⟨d,op,ty,pos,aft,g⟩ v) (k:run P cx B q all l rk o (updO r d v) w):erun P cx B q ⟨d,op,ty,pos,aft,g⟩ all l rk o r w:=by
 cases q with
 | false=>unfold erun OpW; rw [h w (Chg.refl _ _)]; exact k
 | true=>exact ⟨v,fun w' hC=>by unfold Oper.quietUpon; rw [h w' hC]; exact ⟨rfl,rfl⟩,k⟩
theorem run_cons {M:Type} {q:Bool} {all l:List Oper} {rk:RK R M} {o:M} {r:Nat→Value} {w:World} {oo:Oper}
  (hw:Region.wanted oo (yl all r)=true) (k:erun P cx B q oo all l rk o r w):run P cx B q all (oo :: l) rk o r w:=by
 cases q with
 | false=>exact .inl ⟨hw,k⟩
 | true=>obtain ⟨v,h1,h2⟩:=k; exact .inl ⟨hw,v,h1,h2⟩
theorem run_skip {M:Type} {q:Bool} {all l:List Oper} {rk:RK R M} {o:M} {r:Nat→Value} {w:World} {oo:Oper}
  (hw:Region.wanted oo (yl all r)=false) (k:run P cx B q all l rk o (updO r oo.dst undef) w):run P cx B q all (oo :: l) rk o r w:=by
 cases q with
 | false=>exact .inr ⟨hw,k⟩
 | true=>exact .inr ⟨hw,k⟩
theorem wanted_none {oo:Oper} {y:Nat→Option Bool} (h:oo.guard=none):Region.wanted oo y=true:=by unfold Region.wanted; rw [h]
theorem yl_at {all:List Oper} {j t:Nat} {r:Nat→Value} (h:dstAt all j=some t):yl all r j=match r t with | .bool b=>some b | _=>none:=by
 unfold yl
 unfold dstAt at h
 rw [h]
 show (match r t with | .bool b=>some b | _=>none)=_
 cases r t <;> rfl
theorem wanted_at {all:List Oper} {j t:Nat} {r:Nat→Value} {oo:Oper} {b tt:Bool} (hg:oo.guard=some (j,tt)) (h:dstAt all j=some t) (hr:r t = .bool b):Region.wanted oo (yl all r)=(b == tt):=
 wanted_of hg (by rw [yl_at h,hr])
theorem wanted_undef {all:List Oper} {j t:Nat} {r:Nat→Value} {oo:Oper} {tt:Bool} (hg:oo.guard=some (j,tt)) (h:dstAt all j=some t) (hr:r t=undef):Region.wanted oo (yl all r)=false:=by
 have:yl all r j=none:=by rw [yl_at h,hr]; rfl
 unfold Region.wanted
 rw [hg]
 simp only [this]
 rfl
end
end Go.Dk
namespace Go.Dk
open Go Go.Li
class PTc (P:Program) (t:TypeId):Prop where
 h:P.underlying t=some (.pointer (P.pointee t))
class BLc (P:Program) (t:TypeId):Prop where
 h:P.underlying t=some .bool
class S2c (P:Program) (t:TypeId) (k0 k1:outParam IntKind):Prop where
 h : ∃ f0 f1, P.underlying t = some (.struct #[f0, f1]) ∧ f0.name ≠ "_" ∧ f1.name ≠ "_" ∧ P.underlying f0.type = some (.int k0) ∧ P.underlying f1.type = some (.int k1) ∧ f0.offset = 0 ∧ f1.offset = 1 ∧ P.stoodInHeld t = false ∧ P.eqGuardType P.depth t = false
inductive EqV (P:Program):TypeId→Value→Value→Bool→Prop
 | int {t:TypeId} {k:IntKind} {a b:Int}:EqV P t (.int k a) (.int k b) (a == b)
 | bool {t:TypeId} {a b:Bool} [h:BLc P t]:EqV P t (.bool a) (.bool b) (a == b)
 | ptr1 {t:TypeId} {a:Addr} [h:PTc P t]:EqV P t (.pointer (some a)) (.pointer none) false
 | ptr0 {t:TypeId} [h:PTc P t]:EqV P t (.pointer none) (.pointer none) true
 | s2 {t:TypeId} {k0 k1:IntKind} {a b c e:Int} [h:S2c P t k0 k1]:EqV P t (.agg #[.int k0 a,.int k1 b]) (.agg #[.int k0 c,.int k1 e]) (a == c && b == e)
inductive NeV (P:Program):TypeId→Value→Value→Bool→Prop
 | int {t:TypeId} {k:IntKind} {a b:Int}:NeV P t (.int k a) (.int k b) (a != b)
 | bool {t:TypeId} {a b:Bool} [h:BLc P t]:NeV P t (.bool a) (.bool b) (!(a == b))
 | ptr1 {t:TypeId} {a:Addr} [h:PTc P t]:NeV P t (.pointer (some a)) (.pointer none) true
 | ptr0 {t:TypeId} [h:PTc P t]:NeV P t (.pointer none) (.pointer none) false
 | s2 {t:TypeId} {k0 k1:IntKind} {a b c e:Int} [h:S2c P t k0 k1]:NeV P t (.agg #[.int k0 a,.int k1 b]) (.agg #[.int k0 c,.int k1 e]) (!(a == c && b == e))
class LK (P:Program) (t:TypeId) (k:outParam (Option Nat)):Prop where
 h:match k with | none=>NA P t | some n=>AG P t n
class SLc (P:Program) (t:TypeId):Prop where
 h:SL P t
class FAc (P:Program) (s k:Nat) (off:outParam Nat):Prop where
 h:FA P s k off
class FLc (P:Program) (s k:Nat) (off:outParam Nat):Prop where
 h:∃ fs f ds,P.underlying s=some (.struct fs)∧fs[k]? = some f∧P.underlying f.type=some ds∧aggDesc ds=false∧f.offset=off
class FnC (P:Program) (f:FuncId):Prop where
 h : ∃ fn c, P.funcs[f]? = some fn ∧ fn.body = some c ∧ (fn.name == "runtime.NumGoroutine") = false
class AtL (P:Program) (f:FuncId):Prop where
 h : ∃ fn, P.funcs[f]? = some fn ∧ (fn.name == "runtime.NumGoroutine") = false ∧ fn.body.isNone = true ∧ Extern.findNext fn = none ∧ Extern.find fn = some (Extern.Atomic.loadT (.int .i64))
class AtA (P:Program) (f:FuncId):Prop where
 h : ∃ fn, P.funcs[f]? = some fn ∧ (fn.name == "runtime.NumGoroutine") = false ∧ fn.body.isNone = true ∧ Extern.findNext fn = none ∧ Extern.find fn = some (Extern.Atomic.update (Op.intArith .add) .i64 true)
class IFc (P:Program) (t:TypeId):Prop where
 h:∃ ds,P.underlying t=some ds∧ifaceDesc ds=false
class IAc (P:Program) (t a:TypeId):Prop where
 h:IA P t a
class IMc (P:Program) (t:TypeId) (name:outParam String) (f:outParam FuncId):Prop where
 h:IM P t name f
inductive AddA:Addr→Nat→Addr→Prop
 | lit {b o off:Nat}:AddA ⟨b,o,none⟩ off ⟨b,o+off,none⟩
 | zero {p:Addr}:AddA p 0 p
 | add {p:Addr} {off:Nat}:AddA p off (p.add off)
theorem AddA.eq {p q:Addr} {off:Nat} (h:AddA p off q):q=p.add off:=by
 cases h with
 | lit=>rw [addr_add]
 | zero=>rfl
 | add=>rfl
class STc (P:Program) (t:TypeId) (α:outParam Type) (e:outParam TypeId) (E:outParam (STy α)) (z0:outParam α) (bt:outParam Nat):Prop where
 h:P.underlying t=some (.slice e)∧E.size=1∧∃ i z,P.info? e=some i∧i.zero=some z∧i.size=1∧z.oneCell'=true∧i.bytes=bt∧∀ h,E.rep h [z] z0 []
class STo (P:Program) (t:TypeId) (n:outParam Nat):Prop where
 h:∃ i,P.info? t=some i∧i.size=n
class ZVc (P:Program) (t:TypeId) (cs:outParam (List Value)):Prop where
 h:∃ i z,P.info? t=some i∧i.zero=some z∧z.cells.toList=cs
inductive Has (v:Value):List Ent→Prop
 | own {α:Type} {T:STy α} {x:α} {Γ:List Ent}:Has v (.own T v x :: Γ)
 | om {α:Type} {t:TypeId} {E:STy α} {xs:List α} {Γ:List Ent}:Has v (.om t E v xs :: Γ)
 | rd {o:Bool} {α:Type} {T:STy α} {x:α} {Γ:List Ent}:Has v (.rd o T v x :: Γ)
 | there {e:Ent} {Γ:List Ent} (h:Has v Γ):Has v (e :: Γ)
inductive One (Γ:List Ent):Value→Prop
 | int {k:IntKind} {a:Int}:One Γ (.int k a)
 | bool {a:Bool}:One Γ (.bool a)
 | ptr {a:Option Addr}:One Γ (.pointer a)
 | sl {a:Option Addr} {n c:Nat}:One Γ (.slice a n c)
 | var {v:Value} (h:Has v Γ):One Γ v
inductive Ones (Γ:List Ent):List Value→Prop
 | nil:Ones Γ []
 | cons {v:Value} {l:List Value} (h:One Γ v) (k:Ones Γ l):Ones Γ (v :: l)
inductive CellsD (Γ:List Ent):Value→List Value→Prop
 | agg {cs:List Value}:CellsD Γ (.agg cs.toArray) cs
 | one {v:Value} (h:One Γ v):CellsD Γ v [v]
inductive SegD:List Value→Nat→List Value→List Value→Prop
 | nil {cs:List Value}:SegD [] 0 cs cs
 | put {u c:Value} {us cs ds:List Value} (h:SegD us 0 cs ds):SegD (u :: us) 0 (c :: cs) (u :: ds)
 | s {c:Value} {us cs ds:List Value} {j:Nat} (h:SegD us j cs ds):SegD us (j+1) (c :: cs) (c :: ds)
inductive TakeD:Nat→Nat→List Value→List Value→Prop
 | z {cs:List Value}:TakeD 0 0 cs []
 | c {n:Nat} {c:Value} {cs ds:List Value} (h:TakeD 0 n cs ds):TakeD 0 (n+1) (c :: cs) (c :: ds)
 | s {j n:Nat} {c:Value} {cs ds:List Value} (h:TakeD j n cs ds):TakeD (j+1) n (c :: cs) ds
inductive FndW:List Ent→Addr→Nat→List Value→Prop
 | row {b j n:Nat} {cs ds:List Value} {t:TypeId} {Γ:List Ent} (h:TakeD j n cs ds):FndW (.row b cs t :: Γ) ⟨b,j,none⟩ n ds
 | at {p:Addr} {j n:Nat} {cs ds:List Value} {Γ:List Ent} (h:TakeD j n cs ds):FndW (.ats p cs :: Γ) (p.add j) n ds
 | at0 {p:Addr} {n:Nat} {cs ds:List Value} {Γ:List Ent} (h:TakeD 0 n cs ds):FndW (.ats p cs :: Γ) p n ds
 | there {a:Addr} {n:Nat} {ds:List Value} {e:Ent} {Γ:List Ent} (h:FndW Γ a n ds):FndW (e :: Γ) a n ds
class BuC (P:Program) (t:TypeId) (zc:outParam (List Value)) (pl:outParam (List (Nat×Nat))):Prop where
 h:∃ fs i z,P.underlying t=some (.struct fs)∧fs.toList.mapM (fun f=>(P.info? f.type).map fun i=>(f.offset,i.size))=some pl∧P.info? t=some i∧i.zero=some z∧z.cells.toList=zc
def nthP:List (Nat×Nat)→Nat→Option (Nat×Nat)
 | [],_=>none
 | a :: _,0=>some a
 | _ :: l,n+1=>nthP l n
inductive FillD (Γ:List Ent) (fr:Fr) (pl:List (Nat×Nat)):List (Nat×Operand)→List Value→List Value→Prop
 | nil {cs:List Value}:FillD Γ fr pl [] cs cs
 | cons {i off k:Nat} {x:Operand} {v:Value} {us cs ds es:List Value} {ps:List (Nat×Operand)} (hp:nthP pl i=some (off,k)) (hx:opv fr x=some v) (hc:CellsD Γ v us) (hl:us.length=k) (hs:SegD us off cs ds) (h:FillD Γ fr pl ps ds es):FillD Γ fr pl ((i,x) :: ps) cs es
class LTc (P:Program) (t:TypeId) (e:outParam TypeId):Prop where
 h:P.underlying t=some (.slice e)∧∃ i z,P.info? e=some i∧i.zero=some z∧i.size=1
class LUc (P:Program) (t:TypeId) (e:outParam TypeId):Prop where
 h:P.underlying t=some (.slice e)∧∃ i z,P.info? e=some i∧i.zero=some z∧i.size=1
inductive LitD (Γ:List Ent) (fr:Fr):Nat→List (Nat×Operand)→List Value→Prop
 | nil {k:Nat}:LitD Γ fr k [] []
 | cons {k:Nat} {x:Operand} {u:Value} {ps:List (Nat×Operand)} {us:List Value} (hx:opv fr x=some u) (ho:One Γ u) (h:LitD Γ fr (k+1) ps us):LitD Γ fr k ((k,x) :: ps) (u :: us)
class SNc (P:Program) (t:TypeId) (n:outParam Nat):Prop where
 h:∃ e i,P.underlying t=some (.slice e)∧P.info? e=some i∧i.size=n
inductive SOc {α:Type} (S:STy α) (V:Type) (cl:α→V→List Value) (en:α→V→List Ent):Prop
 | mk [h:SO S V cl en]:SOc S V cl en
class LSc (P:Program) (t:TypeId) (e n:outParam Nat):Prop where
 h:P.underlying t=some (.slice e)∧∃ i z,P.info? e=some i∧i.zero=some z∧i.size=n∧0 < n
inductive LitSD (Γ:List Ent) (fr:Fr) (n:Nat):Nat→List (Nat×Operand)→List Value→Prop
 | nil {k:Nat}:LitSD Γ fr n k [] []
 | cons {k:Nat} {x:Operand} {v:Value} {cs us ws:List Value} {ps:List (Nat×Operand)} (hx:opv fr x=some v) (hc:CellsD Γ v cs) (hl:cs.length=n) (h:LitSD Γ fr n (k+1) ps us) (ha:Cat cs us ws):LitSD Γ fr n k ((k,x) :: ps) ws
def sLn:STy Nat where
 size:=1
 rep _ cs n f:=(∃ a c,cs=[.slice a n c])∧f=[]
 len:=by rintro h cs x f ⟨⟨a,c,rfl⟩,_⟩; rfl
 one:=by rintro h cs x f ⟨⟨a,c,rfl⟩,_⟩ v hv; simp at hv; subst hv; rfl
 congr:=fun h _=>h
 lt:=by rintro h cs x f ⟨_,rfl⟩ b hb; cases hb
inductive LenD:List Ent→Value→Nat→Prop
 | lit {a:Option Addr} {n c:Nat} {Γ:List Ent}:LenD Γ (.slice a n c) n
 | ln {o:Bool} {v:Value} {n:Nat} {Γ:List Ent}:LenD (.rd o sLn v n :: Γ) v n
 | rd {o:Bool} {α:Type} {E:STy α} {T:STy (List α)} {v:Value} {x:List α} {Γ:List Ent} (h:RT T (aE E)):LenD (.rd o T v x :: Γ) v x.length
 | own {α:Type} {E:STy α} {T:STy (List α)} {v:Value} {x:List α} {Γ:List Ent} (h:RT T (aE E)):LenD (.own T v x :: Γ) v x.length
 | om {α:Type} {t:TypeId} {E:STy α} {v:Value} {xs:List α} {Γ:List Ent}:LenD (.om t E v xs :: Γ) v xs.length
 | there {v:Value} {n:Nat} {e:Ent} {Γ:List Ent} (h:LenD Γ v n):LenD (e :: Γ) v n
inductive KdD:List Ent→Value→Bool→Prop
 | nil {Γ:List Ent}:KdD Γ (.slice none 0 0) true
 | own {α:Type} {T:STy α} {v:Value} {x:α} {Γ:List Ent}:KdD (.own T v x :: Γ) v true
 | rd {o:Bool} {α:Type} {T:STy α} {v:Value} {x:α} {Γ:List Ent}:KdD (.rd o T v x :: Γ) v false
 | there {v:Value} {k:Bool} {e:Ent} {Γ:List Ent} (h:KdD Γ v k):KdD (e :: Γ) v k
inductive Rg (v:Value) (j:Int):List Ent→Prop
 | ad {o1 o2:Bool} {α:Type} {T:STy α} {x:α} {Γ:List Ent}:Rg v j (.ad o1 o2 v j T x :: Γ)
 | there {e:Ent} {Γ:List Ent} (h:Rg v j Γ):Rg v j (e :: Γ)
inductive ResD (P:Program) (fr:Fr) (Γ:List Ent):List ResultVar→List Value→Prop
 | nil:ResD P fr Γ [] []
 | tmp {t:Nat} {v:Value} {l:List ResultVar} {vs:List Value} (h:look fr t=some v) (k:ResD P fr Γ l vs):ResD P fr Γ (.tmp t :: l) (v :: vs)
 | cell {t n:Nat} {ty:TypeId} {a:Addr} {ds vs:List Value} {l:List ResultVar} [ht:LK P ty (some n)] (h:look fr t=some (.pointer (some a))) (hw:FndW Γ a n ds) (k:ResD P fr Γ l vs):ResD P fr Γ (.cell t ty :: l) (.agg ds.toArray :: vs)
def hasG:List Oper→Bool
 | []=>false
 | ⟨_,_,_,_,_,none⟩ :: l=>hasG l
 | ⟨_,_,_,_,_,some _⟩ :: _=>true
def hasS:List Oper→Bool
 | []=>false
 | ⟨none,_,_,_,_,_⟩ :: _=>true
 | ⟨some _,.buildSlice _ _ _,_,_,_,_⟩ :: _=>true
 | ⟨some _,.makeSlice _ _ _,_,_,_,_⟩ :: _=>true
 | ⟨some _,.alloc _,_,_,_,_⟩ :: _=>true
 | ⟨some _,.box _ _,_,_,_,_⟩ :: _=>true
 | _ :: l=>hasS l
def lastD:List Oper→Option Nat
 | []=>none
 | [⟨d,_,_,_,_,_⟩]=>d
 | _ :: l=>lastD l
def dsts (l:List Oper):List Nat:=l.filterMap (·.dst)
def memB (t:Nat):List Nat→Bool
 | []=>false
 | a :: l=>bif Nat.beq t a then true else memB t l
inductive Kp:List Nat→Option (Bool×Nat×Value)→Fr→Fr→Prop
 | nil {ws:List Nat}:Kp ws none [] []
 | cons {ws:List Nat} {t:Nat} {v:Value} {f u:Fr} (h:Kp ws (some (memB t ws,t,v)) f u):Kp ws none ((t,v) :: f) u
 | drop {ws:List Nat} {t:Nat} {v:Value} {f u:Fr} (h:Kp ws none f u):Kp ws (some (true,t,v)) f u
 | keep {ws:List Nat} {t:Nat} {v:Value} {f u:Fr} (h:Kp (t :: ws) none f u):Kp ws (some (false,t,v)) f ((t,v) :: u)
inductive DT:{α:Type}→STy α→Prop
 | i {k:IntKind}:DT (aC k)
 | b:DT sBool
 | own {α:Type} {e:TypeId} {E:STy α} (h:DT E):DT (aK e E)
inductive InW (e:Ent):List Ent→Prop
 | here {Γ:List Ent}:InW e (e :: Γ)
 | rd {o:Bool} {α:Type} {T:STy α} {v:Value} {x:α} {Γ:List Ent} (h:InW e Γ):InW e (.rd o T v x :: Γ)
 | ad {o1 o2:Bool} {v:Value} {j:Int} {α:Type} {T:STy α} {x:α} {Γ:List Ent} (h:InW e Γ):InW e (.ad o1 o2 v j T x :: Γ)
 | hd {v u:Value} {j:Int} {Γ:List Ent} (h:InW e Γ):InW e (.hd v j u :: Γ)
 | ats {p:Addr} {cs:List Value} {Γ:List Ent} (h:InW e Γ):InW e (.ats p cs :: Γ)
 | row {b:Nat} {cs:List Value} {t:TypeId} {Γ:List Ent} (h:InW e Γ):InW e (.row b cs t :: Γ)
inductive InV {α:Type} (T:STy α) (v:Value) (x:α) (e:Ent):List Ent→Prop
 | here {Γ:List Ent} (h:InW e Γ):InV T v x e (.own T v x :: Γ)
 | there {a:Ent} {Γ:List Ent} (h:InV T v x e Γ):InV T v x e (a :: Γ)
inductive MF (Γ:List Ent):Option Ent→List Ent→Prop
 | nil {o:Option Ent}:MF Γ o []
 | own {o:Option Ent} {α:Type} {T:STy α} {v:Value} {x:α} {Δ:List Ent} (k:MF Γ (some (.own T v x)) Δ):MF Γ o (.own T v x :: Δ)
 | om {o:Option Ent} {α:Type} {t:TypeId} {E:STy α} {v:Value} {xs:List α} {Δ:List Ent} (k:MF Γ none Δ):MF Γ o (.om t E v xs :: Δ)
 | row {o:Option Ent} {b:Nat} {cs:List Value} {t:TypeId} {Δ:List Ent} (k:MF Γ o Δ):MF Γ o (.row b cs t :: Δ)
 | hol {o:Option Ent} {α:Type} {e:TypeId} {E:STy α} {v u:Value} {xs:List α} {j:Int} {Δ:List Ent} (k:MF Γ none Δ):MF Γ o (.hol e E v xs j u :: Δ)
 | rd {o:Option Ent} {α:Type} {T:STy α} {v:Value} {x:α} {Δ:List Ent} (h:In (.rd false T v x) Γ) (k:MF Γ o Δ):MF Γ o (.rd false T v x :: Δ)
 | rdt {α β:Type} {T:STy α} {v u:Value} {x:α} {T':STy β} {z:β} {Δ:List Ent} (hd:DT T) (h:InV T v x (.rd true T' u z) Γ) (k:MF Γ (some (.own T v x)) Δ):MF Γ (some (.own T v x)) (.rd true T' u z :: Δ)
 | ats {o:Option Ent} {p:Addr} {cs:List Value} {Δ:List Ent} (h:In (.ats p cs) Γ) (k:MF Γ o Δ):MF Γ o (.ats p cs :: Δ)
inductive Strip:List Ent→List Ent→Prop
 | nil:Strip [] []
 | own {α:Type} {T:STy α} {v:Value} {x:α} {Γ Δ:List Ent} (k:Strip Γ Δ):Strip (.own T v x :: Γ) (.own T v x :: Δ)
 | om {α:Type} {t:TypeId} {E:STy α} {v:Value} {xs:List α} {Γ Δ:List Ent} (k:Strip Γ Δ):Strip (.om t E v xs :: Γ) (.om t E v xs :: Δ)
 | row {b:Nat} {cs:List Value} {t:TypeId} {Γ Δ:List Ent} (k:Strip Γ Δ):Strip (.row b cs t :: Γ) (.row b cs t :: Δ)
 | rdf {α:Type} {T:STy α} {v:Value} {x:α} {Γ Δ:List Ent} (k:Strip Γ Δ):Strip (.rd false T v x :: Γ) (.rd false T v x :: Δ)
 | rdt {α:Type} {T:STy α} {v:Value} {x:α} {Γ Δ:List Ent} (k:Strip Γ Δ):Strip (.rd true T v x :: Γ) (.rd true T v x :: Δ)
 | ad {o1 o2:Bool} {v:Value} {j:Int} {α:Type} {T:STy α} {x:α} {Γ Δ:List Ent} (k:Strip Γ Δ):Strip (.ad o1 o2 v j T x :: Γ) Δ
 | ats {p:Addr} {cs:List Value} {Γ Δ:List Ent} (k:Strip Γ Δ):Strip (.ats p cs :: Γ) (.ats p cs :: Δ)
 | hd {v u:Value} {j:Int} {Γ Δ:List Ent} (k:Strip Γ Δ):Strip (.hd v j u :: Γ) Δ
 | hol {α:Type} {e:TypeId} {E:STy α} {v u:Value} {xs:List α} {j:Int} {Γ Δ:List Ent} (k:Strip Γ Δ):Strip (.hol e E v xs j u :: Γ) (.hol e E v xs j u :: Δ)
inductive Inh:Type→Prop
 | unit:Inh Unit
 | val:Inh Value
 | nat:Inh Nat
 | pair {V W:Type} (h:Inh V) (k:Inh W):Inh (V×W)
theorem Inh.ne {V:Type} (h:Inh V):Nonempty V:=by
 induction h with
 | unit=>exact ⟨()⟩
 | val=>exact ⟨.nilFunc⟩
 | nat=>exact ⟨0⟩
 | pair _ _ i j=>obtain ⟨a⟩:=i; obtain ⟨b⟩:=j; exact ⟨(a,b)⟩
inductive CS:{β:Type}→β→(β→Prop)→Prop
 | pair {A B:Type} {y:Option A×B} {p:Option A×B→Prop} (h0:∀ z,CS z fun z=>p (none,z)) (h1:∀ a z,CS z fun z=>p (some a,z)):CS y p
 | opt {A:Type} {y:Option A} {p:Option A→Prop} (h0:p none) (h1:∀ a,p (some a)):CS y p
 | any {β:Type} {y:β} {p:β→Prop} (h:p y):CS y p
theorem CS.sound {β:Type} {y:β} {p:β→Prop} (h:CS y p):p y:=by
 induction h with
 | @pair A B y p _ _ i0 i1=>
  obtain ⟨a,z⟩:=y
  cases a with
  | none=>exact i0 z
  | some a=>exact i1 a z
 | @opt A y p h0 h1=>
  cases y with
  | none=>exact h0
  | some a=>exact h1 a
 | any h=>exact h
inductive OW (Γ:List Ent):List Ent→Prop
 | nil:OW Γ []
 | own {α:Type} {T:STy α} {v:Value} {x:α} {Δ:List Ent} (k:OW Γ Δ):OW Γ (.own T v x :: Δ)
 | om {α:Type} {t:TypeId} {E:STy α} {v:Value} {xs:List α} {Δ:List Ent} (k:OW Γ Δ):OW Γ (.om t E v xs :: Δ)
 | row {b:Nat} {cs:List Value} {t:TypeId} {Δ:List Ent} (k:OW Γ Δ):OW Γ (.row b cs t :: Δ)
 | rd {α:Type} {T:STy α} {v:Value} {x:α} {Δ:List Ent} (h:In (.rd false T v x) Γ) (k:OW Γ Δ):OW Γ (.rd false T v x :: Δ)
inductive FO:List Ent→Prop
 | nil:FO []
 | rd {o:Bool} {α:Type} {T:STy α} {v:Value} {x:α} {Δ:List Ent} (k:FO Δ):FO (.rd o T v x :: Δ)
 | ats {p:Addr} {cs:List Value} {Δ:List Ent} (k:FO Δ):FO (.ats p cs :: Δ)
class SBc (P:Program) (t:TypeId) (e n bt:outParam Nat):Prop where
 h:P.underlying t=some (.slice e)∧∃ i z,P.info? e=some i∧i.zero=some z∧z.cells.size=n∧i.size=n∧i.bytes=bt∧0 < n
class MPc (P:Program) (t:TypeId) (κ υ:outParam Type) (bq:outParam (BEq κ)) (ek:outParam (κ→Value)) (eu:outParam (υ→Value)):Prop where
 h:∃ kt vt kd,P.underlying t=some (.map kt vt)∧P.underlying kt=some kd∧Ky ek kd
class MZc (P:Program) (t:TypeId) (υ:Type) (eu:υ→Value) (z0:outParam υ):Prop where
 h:∃ kt vt i,P.underlying t=some (.map kt vt)∧P.info? vt=some i∧i.zero=some (eu z0)
class ICc (P:Program) (s t:TypeId) (k:outParam IntKind):Prop where
 h:(P.underlying s).isSome=true∧P.underlying t=some (.int k)
class BSc (P:Program) (s t:TypeId):Prop where
 h:∃ e,P.underlying s=some (.slice e)∧P.underlying e=some (.int .u8)∧P.underlying t=some .string
inductive LiI (k:IntKind):List Value→List Int→Prop
 | nil:LiI k [] []
 | cons {a:Int} {us:List Value} {xs:List Int} (h:LiI k us xs):LiI k (.int k a :: us) (a :: xs)
inductive TkE:List Ent→{α:Type}→STy α→Value→α→List Ent→Prop
 | int {k:IntKind} {a:Int} {Γ:List Ent}:TkE Γ (aC k) (.int k a) a Γ
 | bool {a:Bool} {Γ:List Ent}:TkE Γ sBool (.bool a) a Γ
 | lit {b n:Nat} {us:List Value} {k:IntKind} {xs:List Int} {e:TypeId} {Γ Γ1:List Ent} (h0:Sel Γ (.row b us e) Γ1) (h1:LiI k us xs) (hn:us.length=n) (hb:Nat.ble n 16777216=true):TkE Γ (aK e (aC k)) (.slice (some ⟨b,0,none⟩) n n) xs Γ1
 | own {α:Type} {T:STy α} {v:Value} {x:α} {Γ Γ1:List Ent} (h:Sel Γ (.own T v x) Γ1):TkE Γ T v x Γ1
inductive TkL:List Ent→{α:Type}→STy α→List Value→List α→List Ent→Prop
 | nil {α:Type} {E:STy α} {Γ:List Ent}:TkL Γ E [] [] Γ
 | cons {α:Type} {E:STy α} {u:Value} {x:α} {us:List Value} {xs:List α} {Γ Γ1 Γ2:List Ent} (h:TkE Γ E u x Γ1) (k:TkL Γ1 E us xs Γ2):TkL Γ E (u :: us) (x :: xs) Γ2
inductive AoK:BinOp→IntKind→IntKind→Prop
 | same {op:BinOp} {k:IntKind}:AoK op k k
 | sh {op:BinOp} {k k':IntKind} (h:shB op=true):AoK op k k'
inductive MpD {κ υ:Type} (ek:κ→Value) (eu:υ→Value):List Ent→Value→List (κ×υ)→Prop
 | own {v:Value} {x:List (κ×υ)} {Γ:List Ent}:MpD ek eu (.own (sMp ek eu) v x :: Γ) v x
 | there {v:Value} {x:List (κ×υ)} {e:Ent} {Γ:List Ent} (h:MpD ek eu Γ v x):MpD ek eu (e :: Γ) v x
def isLoop:Code→Bool
 | .loop _=>true
 | _=>false
inductive D {R:Type} (P:Program) (cx:Cx R):Jd R→Prop
 | plain {M:Type} {q:Bool} {d:Option Nat} {op:Op} {ty:TypeId} {pos:String} {aft:Array Edge} {all l:List Oper} {rk:RK R M} {Γ:List Ent} {fr:Fr} {m:Option M} (h:D P cx (.e q op d ty all l rk Γ fr m)):D P cx (.o q all (⟨d,op,ty,pos,aft,none⟩ :: l) rk Γ fr m)
 | mv {M:Type} {q:Bool} {d:Nat} {x:Operand} {v:Value} {ty:TypeId} {all l:List Oper} {rk:RK R M} {Γ:List Ent} {fr:Fr} {m:Option M} (hx:opv fr x=some v) (h:D P cx (.o q all l rk Γ ((d,v) :: fr) m)):D P cx (.e q (.move x) (some d) ty all l rk Γ fr m)
 | as {M:Type} {q:Bool} {d:Nat} {x:Operand} {v:Value} {ty:TypeId} {all l:List Oper} {rk:RK R M} {Γ:List Ent} {fr:Fr} {m:Option M} (hx:opv fr x=some v) (h:D P cx (.o q all l rk Γ ((d,v) :: fr) m)):D P cx (.e q (.assign x) (some d) ty all l rk Γ fr m)
 | fad {M:Type} {q:Bool} {d s k off:Nat} {x:Operand} {ty:TypeId} {a a':Addr} {all l:List Oper} {rk:RK R M} {Γ:List Ent} {fr:Fr} {m:Option M} [hf:FAc P s k off] (hx:opv fr x=some (.pointer (some a))) (ha:AddA a off a') (h:D P cx (.o q all l rk Γ ((d,.pointer (some a')) :: fr) m)):D P cx (.e q (.fieldAddr s x k) (some d) ty all l rk Γ fr m)
 | nilc {M:Type} {q:Bool} {d:Nat} {x:Operand} {ty:TypeId} {a:Addr} {all l:List Oper} {rk:RK R M} {Γ:List Ent} {fr:Fr} {m:Option M} (hx:opv fr x=some (.pointer (some a))) (h:D P cx (.o q all l rk Γ ((d,.pointer (some a)) :: fr) m)):D P cx (.e q (.nilCheck x) (some d) ty all l rk Γ fr m)
 | load {M:Type} {q:Bool} {d:Nat} {x:Operand} {a:Addr} {t ty:TypeId} {lk:Option Nat} {all l:List Oper} {rk:RK R M} {Γ:List Ent} {fr:Fr} {m:Option M} [ht:LK P t lk] (hx:opv fr x=some (.pointer (some a))) (h:D P cx (.la a lk q t x d all l rk Γ fr m)):D P cx (.e q (.load t x) (some d) ty all l rk Γ fr m)
 | lel {M α:Type} {q:Bool} {d:Nat} {x:Operand} {v:Value} {j:Int} {ty:TypeId} {o:Bool} {E:STy α} {z:α} {Γx:List Ent} {all l:List Oper} {rk:RK R M} {Γ:List Ent} {fr:Fr} {m:Option M} (h:FndA Γ (elA v 1 j) o E z noE Γx) (k:D P cx (.ld E z (elA v 1 j) q ty x d all l rk Γ fr m)):D P cx (.la (elA v 1 j) none q ty x d all l rk Γ fr m)
 | lce {M:Type} {q:Bool} {d:Nat} {x:Operand} {a:Addr} {u:Value} {ty:TypeId} {all l:List Oper} {rk:RK R M} {Γ:List Ent} {fr:Fr} {m:Option M} (h:FndC Γ a u) (k:D P cx (.o q all l rk Γ ((d,u) :: fr) m)):D P cx (.la a none q ty x d all l rk Γ fr m)
 | ldi {M:Type} {q:Bool} {d:Nat} {x:Operand} {a:Addr} {k:IntKind} {z:Int} {ty:TypeId} {all l:List Oper} {rk:RK R M} {Γ:List Ent} {fr:Fr} {m:Option M} (h:D P cx (.o q all l rk Γ ((d,.int k z) :: fr) m)):D P cx (.ld (aC k) z a q ty x d all l rk Γ fr m)
 | ldb {M:Type} {q:Bool} {d:Nat} {x:Operand} {a:Addr} {z:Bool} {ty:TypeId} {all l:List Oper} {rk:RK R M} {Γ:List Ent} {fr:Fr} {m:Option M} (h:D P cx (.o q all l rk Γ ((d,.bool z) :: fr) m)):D P cx (.ld sBool z a q ty x d all l rk Γ fr m)
 | lds {M α:Type} {q o:Bool} {d:Nat} {x:Operand} {v:Value} {j:Int} {E:STy α} {z:List α} {ty:TypeId} {all l:List Oper} {rk:RK R M} {Γ:List Ent} {Γ1 Γ':Value→List Ent} {fr:Fr} {m:Option M} (h:∀ u,FndA Γ (elA v 1 j) o (aE E) z (.rd o (aE E) u z) (Γ1 u)) (h2:∀ u,FndH (Γ1 u) v j u (Γ' u)) (k:∀ u,D P cx (.o q all l rk (Γ' u) ((d,u) :: fr) m)):D P cx (.ld (aE E) z (elA v 1 j) q ty x d all l rk Γ fr m)
 | ldp {M α V:Type} {q:Bool} {d:Nat} {x:Operand} {a:Addr} {S:STy α} {cl:α→V→List Value} {en:α→V→List Ent} {z:α} {ty:TypeId} {all l:List Oper} {rk:RK R M} {Γ Γx:List Ent} {fr:Fr} {m:Option M} [hs:SO S V cl en] (h:FndA Γ a false (sPtr S) z noE Γx)
   (k:∀ p v,D P cx (.p [] (.ats p (cl z v) :: en z v) fr Γ fun fr Γ=>.o q all l rk Γ ((d,.pointer (some p)) :: fr) m)):D P cx (.ld (sPtr S) z a q ty x d all l rk Γ fr m)
 | len {M:Type} {q:Bool} {d n:Nat} {x:Operand} {v:Value} {t ty:TypeId} {all l:List Oper} {rk:RK R M} {Γ:List Ent} {fr:Fr} {m:Option M} [ht:SLc P t] (hx:opv fr x=some v) (hr:LenD Γ v n) (h:D P cx (.o q all l rk Γ ((d,.int .i64 (n:Int)) :: fr) m)):D P cx (.e q (.call ⟨.builtin .len,#[x],#[t]⟩) (some d) ty all l rk Γ fr m)
 | idx {M α:Type} {q:Bool} {d:Nat} {x y:Operand} {v:Value} {k:IntKind} {j:Int} {t ty:TypeId} {o1 o2:Bool} {E:STy α} {xs:List α} {Γ':α→List Ent} {all l:List Oper} {rk:RK R M} {Γ:List Ent} {fr:Fr} {f:α→Option M} [ht:SLc P t] (hx:opv fr x=some v) (hy:opv fr y=some (.int k j))
   (hr:∀ z,Fnd Γ v o1 o2 E xs (.ad o1 o2 v j E z) (Γ' z)) (hE:E.size=1) (h:∀ z,D P cx (.o q all l rk (Γ' z) ((d,.pointer (some (elA v 1 j))) :: fr) (f z))):D P cx (.e q (.indexAddr t x y) (some d) ty all l rk Γ fr (idx xs j>>=f))
 | lenS {M:Type} {q:Bool} {d n k:Nat} {x:Operand} {v:Value} {t ty:TypeId} {all l:List Oper} {rk:RK R M} {Γ:List Ent} {fr:Fr} {m:Option M} [ht:SNc P t k] (hx:opv fr x=some v) (hr:LenD Γ v n) (h:D P cx (.o q all l rk Γ ((d,.int .i64 (n:Int)) :: fr) m)):D P cx (.e q (.call ⟨.builtin .len,#[x],#[t]⟩) (some d) ty all l rk Γ fr m)
 | idxS {M α V:Type} {q:Bool} {d n:Nat} {x y:Operand} {v:Value} {k:IntKind} {j:Int} {t ty:TypeId} {S:STy α} {cl:α→V→List Value} {en:α→V→List Ent} {xs:List α} {all l:List Oper} {rk:RK R M} {Γ Γx:List Ent} {fr:Fr} {f:α→Option M} [ht:SNc P t n] (hx:opv fr x=some v) (hy:opv fr y=some (.int k j))
   (hr:Fnd Γ v false false (sStr S) xs noE Γx) (hs:SOc S V cl en) (hn:S.size=n) (h:∀ z u,D P cx (.p [] (.ats (elA v n j) (cl z u) :: en z u) fr Γ fun fr Γ=>.o q all l rk Γ ((d,.pointer (some (elA v n j))) :: fr) (f z))):D P cx (.e q (.indexAddr t x y) (some d) ty all l rk Γ fr (idx xs j>>=f))
 | onil {S:Type} {q:Bool} {all:List Oper} {K:Kont R S} {Γ:List Ent} {fr:Fr} {m:Option (Out S R)} (h:D P cx (.n K Γ fr m)):D P cx (.o q all [] (.n K) Γ fr m)
 | cnone {S:Type} {K:Kont R S} {c:Code} {Γ:List Ent} {fr:Fr}:D P cx (.c K c Γ fr none)
 | seq {S:Type} {its:List KI} {kb:Kb R S} {a b:Code} {Γ:List Ent} {fr:Fr} {m:Option (Out S R)} (h:D P cx (.c ⟨.seq b :: its,kb⟩ a Γ fr m)):D P cx (.c ⟨its,kb⟩ (.seq a b) Γ fr m)
 | nseq {S:Type} {its:List KI} {kb:Kb R S} {c:Code} {Γ:List Ent} {fr:Fr} {m:Option (Out S R)} (h:D P cx (.c ⟨its,kb⟩ c Γ fr m)):D P cx (.n ⟨.seq c :: its,kb⟩ Γ fr m)
 | region {S:Type} {id:Nat} {K:Kont R S} {ops:List Oper} {Γ:List Ent} {fr:Fr} {m:Option (Out S R)} (hd:dstOk cx.n ops=true) (h:D P cx (.rg (hasG ops) false ops K Γ fr m)):D P cx (.c K (.region id ops.toArray false) Γ fr m)
 | rgf {S:Type} {K:Kont R S} {ops:List Oper} {Γ:List Ent} {fr:Fr} {m:Option (Out S R)} (h:D P cx (.o false ops ops (.n K) Γ fr m)):D P cx (.rg false false ops K Γ fr m)
 | lss {M:Type} {q:Bool} {d:Nat} {x y:Operand} {t t' ty:TypeId} {k:IntKind} {a b:Int} {all l:List Oper} {rk:RK R M} {Γ:List Ent} {fr:Fr} {m:Option M} (hx:opv fr x=some (.int k a)) (hy:opv fr y=some (.int k b)) (h:D P cx (.o q all l rk Γ ((d,.bool (decide (a < b))) :: fr) m)):D P cx (.e q (.binOp .lss t x y t') (some d) ty all l rk Γ fr m)
 | add {M:Type} {q:Bool} {d:Nat} {x y:Operand} {t t' ty:TypeId} {a b:Int} {all l:List Oper} {rk:RK R M} {Γ:List Ent} {fr:Fr} {m:Option M} (hx:opv fr x=some (.int .i64 a)) (hy:opv fr y=some (.int .i64 b)) (h:D P cx (.o q all l rk Γ ((d,.int .i64 (w64 (a+b))) :: fr) m)):D P cx (.e q (.binOp .add t x y t') (some d) ty all l rk Γ fr m)
 | eql {M:Type} {q:Bool} {d:Nat} {x y:Operand} {t t' ty:TypeId} {u v:Value} {b:Bool} {all l:List Oper} {rk:RK R M} {Γ:List Ent} {fr:Fr} {m:Option M} (hx:opv fr x=some u) (hy:opv fr y=some v) (hb:EqV P t u v b) (h:D P cx (.o q all l rk Γ ((d,.bool b) :: fr) m)):D P cx (.e q (.binOp .eql t x y t') (some d) ty all l rk Γ fr m)
 | neq {M:Type} {q:Bool} {d:Nat} {x y:Operand} {t t' ty:TypeId} {u v:Value} {b:Bool} {all l:List Oper} {rk:RK R M} {Γ:List Ent} {fr:Fr} {m:Option M} (hx:opv fr x=some u) (hy:opv fr y=some v) (hb:NeV P t u v b) (h:D P cx (.o q all l rk Γ ((d,.bool b) :: fr) m)):D P cx (.e q (.binOp .neq t x y t') (some d) ty all l rk Γ fr m)
 | pf {t:Nat} {v:Value} {φ fr:Fr} {Δ Γ:List Ent} {k:Fr→List Ent→Jd R} (h:D P cx (.p φ Δ ((t,v) :: fr) Γ k)):D P cx (.p ((t,v) :: φ) Δ fr Γ k)
 | pz {fr:Fr} {Γ:List Ent} {k:Fr→List Ent→Jd R} (h:D P cx (k fr Γ)):D P cx (.p [] [] fr Γ k)
 | pe {e:Ent} {fr:Fr} {Δ Γ:List Ent} {k:Fr→List Ent→Jd R} (h:D P cx (.p [] Δ fr (e :: Γ) k)):D P cx (.p [] (e :: Δ) fr Γ k)
 | not {M:Type} {q:Bool} {d:Nat} {x:Operand} {t ty:TypeId} {b:Bool} {all l:List Oper} {rk:RK R M} {Γ:List Ent} {fr:Fr} {m:Option M} (hx:opv fr x=some (.bool b)) (h:D P cx (.o q all l rk Γ ((d,.bool (!b)) :: fr) m)):D P cx (.e q (.unOp .not t x) (some d) ty all l rk Γ fr m)
 | cond {S:Type} {K:Kont R S} {t:Nat} {b:Bool} {x y:Code} {Γ:List Ent} {fr:Fr} {m:Option (Out S R)} (hb:look fr t=some (.bool b)) (h:D P cx (.cd b K x y Γ fr m)):D P cx (.c K (.cond (.tmp t) x y) Γ fr m)
 | cdt {S:Type} {K:Kont R S} {x y:Code} {Γ:List Ent} {fr:Fr} {m:Option (Out S R)} (h:D P cx (.c K x Γ fr m)):D P cx (.cd true K x y Γ fr m)
 | cdf {S:Type} {K:Kont R S} {x y:Code} {Γ:List Ent} {fr:Fr} {m:Option (Out S R)} (h:D P cx (.c K y Γ fr m)):D P cx (.cd false K x y Γ fr m)
 | cds {S:Type} {b:Bool} {K:Kont R S} {x y:Code} {Γ:List Ent} {fr:Fr} {m1 m2:Option (Out S R)} (h1:D P cx (.c K x Γ fr m1)) (h2:D P cx (.c K y Γ fr m2)):D P cx (.cd b K x y Γ fr (bif b then m1 else m2))
 | skip {S:Type} {K:Kont R S} {Γ:List Ent} {fr:Fr} {m:Option (Out S R)} (h:D P cx (.n K Γ fr m)):D P cx (.c K .skip Γ fr m)
 | exit {S:Type} {k:Nat} {K:Kont R S} {Γ:List Ent} {fr:Fr} {m:Option (Out S R)} (h:D P cx (.x k K Γ fr m)):D P cx (.c K (.exit k) Γ fr m)
 | nblk {S:Type} {its:List KI} {kb:Kb R S} {k:Nat} {Γ:List Ent} {fr:Fr} {m:Option (Out S R)} (h:D P cx (.n ⟨its,kb⟩ Γ fr m)):D P cx (.n ⟨.blk k :: its,kb⟩ Γ fr m)
 | xseq {S:Type} {its:List KI} {kb:Kb R S} {k:Nat} {c:Code} {Γ:List Ent} {fr:Fr} {m:Option (Out S R)} (h:D P cx (.x k ⟨its,kb⟩ Γ fr m)):D P cx (.x k ⟨.seq c :: its,kb⟩ Γ fr m)
 | xblk {S:Type} {its:List KI} {kb:Kb R S} {k j:Nat} {Γ:List Ent} {fr:Fr} {m:Option (Out S R)} (h:D P cx (.xb (Nat.beq k j) k ⟨its,kb⟩ Γ fr m)):D P cx (.x k ⟨.blk j :: its,kb⟩ Γ fr m)
 | xbt {S:Type} {K:Kont R S} {k:Nat} {Γ:List Ent} {fr:Fr} {m:Option (Out S R)} (h:D P cx (.n K Γ fr m)):D P cx (.xb true k K Γ fr m)
 | xbf {S:Type} {K:Kont R S} {k:Nat} {Γ:List Ent} {fr:Fr} {m:Option (Out S R)} (h:D P cx (.x k K Γ fr m)):D P cx (.xb false k K Γ fr m)
 | xloop {S V:Type} {k:Nat} {Δ:S→V→List Ent} {φ:S→V→Fr} {Γ2 Γ Γ1 Γ3:List Ent} {f2 fr:Fr} {s:S} {v:V} (hv:MkV V v) (ha:Agr fr (φ s v)) (hf:Agr fr f2) (h0:EO Γ (Δ s v) Γ1) (hw:OW Γ (Δ s v)) (h1:EO Γ1 Γ2 Γ3) (h2:MF Γ none Γ2) :
   D P cx (.x k ⟨[],.loop V k Δ φ Γ2 f2⟩ Γ fr (some (.exit k s)))
 | nloop {S V:Type} {k:Nat} {Δ:S→V→List Ent} {φ:S→V→Fr} {Γ2 Γ Γ1 Γ3:List Ent} {f2 fr:Fr} {s:S} {v:V} (hv:MkV V v) (ha:Agr fr (φ s v)) (hf:Agr fr f2) (h0:EO Γ (Δ s v) Γ1) (hw:OW Γ (Δ s v)) (h1:EO Γ1 Γ2 Γ3) (h2:MF Γ none Γ2) :
   D P cx (.n ⟨[],.loop V k Δ φ Γ2 f2⟩ Γ fr (some (.norm s)))
 | gtr {M:Type} {q:Bool} {d:Nat} {x y:Operand} {t t' ty:TypeId} {k:IntKind} {a b:Int} {all l:List Oper} {rk:RK R M} {Γ:List Ent} {fr:Fr} {m:Option M} (hx:opv fr x=some (.int k a)) (hy:opv fr y=some (.int k b)) (h:D P cx (.o q all l rk Γ ((d,.bool (decide (a > b))) :: fr) m)):D P cx (.e q (.binOp .gtr t x y t') (some d) ty all l rk Γ fr m)
 | geq {M:Type} {q:Bool} {d:Nat} {x y:Operand} {t t' ty:TypeId} {k:IntKind} {a b:Int} {all l:List Oper} {rk:RK R M} {Γ:List Ent} {fr:Fr} {m:Option M} (hx:opv fr x=some (.int k a)) (hy:opv fr y=some (.int k b)) (h:D P cx (.o q all l rk Γ ((d,.bool (decide (a ≥ b))) :: fr) m)):D P cx (.e q (.binOp .geq t x y t') (some d) ty all l rk Γ fr m)
 | leq {M:Type} {q:Bool} {d:Nat} {x y:Operand} {t t' ty:TypeId} {k:IntKind} {a b:Int} {all l:List Oper} {rk:RK R M} {Γ:List Ent} {fr:Fr} {m:Option M} (hx:opv fr x=some (.int k a)) (hy:opv fr y=some (.int k b)) (h:D P cx (.o q all l rk Γ ((d,.bool (decide (a≤b))) :: fr) m)):D P cx (.e q (.binOp .leq t x y t') (some d) ty all l rk Γ fr m)
 | sub {M:Type} {q:Bool} {d:Nat} {x y:Operand} {t t' ty:TypeId} {a b:Int} {all l:List Oper} {rk:RK R M} {Γ:List Ent} {fr:Fr} {m:Option M} (hx:opv fr x=some (.int .i64 a)) (hy:opv fr y=some (.int .i64 b)) (h:D P cx (.o q all l rk Γ ((d,.int .i64 (w64 (a - b))) :: fr) m)):D P cx (.e q (.binOp .sub t x y t') (some d) ty all l rk Γ fr m)
 | grd {M:Type} {q:Bool} {d:Option Nat} {op:Op} {ty:TypeId} {pos:String} {aft:Array Edge} {j t:Nat} {tt:Bool} {v:Value} {all l:List Oper} {rk:RK R M} {Γ:List Ent} {fr:Fr} {m:Option M} (hj:dstAt all j=some t) (hv:look fr t=some v) (h:D P cx (.gd v tt j t q op d ty all l rk Γ fr m)) :
   D P cx (.o q all (⟨d,op,ty,pos,aft,some (j,tt)⟩ :: l) rk Γ fr m)
 | gtt {M:Type} {q:Bool} {d:Option Nat} {op:Op} {ty:TypeId} {j t:Nat} {all l:List Oper} {rk:RK R M} {Γ:List Ent} {fr:Fr} {m:Option M} (h:D P cx (.e q op d ty all l rk Γ fr m)):D P cx (.gd (.bool true) true j t q op d ty all l rk Γ fr m)
 | gff {M:Type} {q:Bool} {d:Option Nat} {op:Op} {ty:TypeId} {j t:Nat} {all l:List Oper} {rk:RK R M} {Γ:List Ent} {fr:Fr} {m:Option M} (h:D P cx (.e q op d ty all l rk Γ fr m)):D P cx (.gd (.bool false) false j t q op d ty all l rk Γ fr m)
 | gtf {M:Type} {q:Bool} {d:Nat} {op:Op} {ty:TypeId} {j t:Nat} {all l:List Oper} {rk:RK R M} {Γ:List Ent} {fr:Fr} {m:Option M} (h:D P cx (.o q all l rk Γ ((d,undef) :: fr) m)):D P cx (.gd (.bool true) false j t q op (some d) ty all l rk Γ fr m)
 | gft {M:Type} {q:Bool} {d:Nat} {op:Op} {ty:TypeId} {j t:Nat} {all l:List Oper} {rk:RK R M} {Γ:List Ent} {fr:Fr} {m:Option M} (h:D P cx (.o q all l rk Γ ((d,undef) :: fr) m)):D P cx (.gd (.bool false) true j t q op (some d) ty all l rk Γ fr m)
 | gun {M:Type} {q tt:Bool} {d:Nat} {op:Op} {ty:TypeId} {j t:Nat} {all l:List Oper} {rk:RK R M} {Γ:List Ent} {fr:Fr} {m:Option M} (h:D P cx (.o q all l rk Γ ((d,undef) :: fr) m)):D P cx (.gd undef tt j t q op (some d) ty all l rk Γ fr m)
 | gsb {M α:Type} {q b tt:Bool} {d:Option Nat} {op:Op} {ty:TypeId} {j t:Nat} {all l:List Oper} {rk:RK R M} {Γ:List Ent} {fr:Fr} {m1 m2:Option α} {f:α→Option M}
   (h1:D P cx (.gd (.bool true) tt j t q op d ty all l rk Γ ((t,.bool true) :: fr) (m1>>=f))) (h2:D P cx (.gd (.bool false) tt j t q op d ty all l rk Γ ((t,.bool false) :: fr) (m2>>=f))):D P cx (.gd (.bool b) tt j t q op d ty all l rk Γ fr ((bif b then m1 else m2)>>=f))
 | gsp {M:Type} {q b tt:Bool} {d:Option Nat} {op:Op} {ty:TypeId} {j t:Nat} {all l:List Oper} {rk:RK R M} {Γ:List Ent} {fr:Fr} {m1 m2:Option M}
   (h1:D P cx (.gd (.bool true) tt j t q op d ty all l rk Γ ((t,.bool true) :: fr) m1)) (h2:D P cx (.gd (.bool false) tt j t q op d ty all l rk Γ ((t,.bool false) :: fr) m2)):D P cx (.gd (.bool b) tt j t q op d ty all l rk Γ fr (bif b then m1 else m2))
 | assoc {α β:Type} {q:Bool} {d:Option Nat} {op:Op} {ty:TypeId} {all l:List Oper} {gt:Nat} {g0:Fr} {Γ:List Ent} {fr:Fr} {m:Option α} {f:α→Option β} {g:β→Option Bool} (h:D P cx (.e q op d ty all l (.g gt g0) Γ fr (m>>=fun x=>f x>>=g))):D P cx (.e q op d ty all l (.g gt g0) Γ fr ((m>>=f)>>=g))
 | pick {M:Type} {q:Bool} {d:Nat} {c x y:Operand} {ty:TypeId} {b:Bool} {v:Value} {all l:List Oper} {rk:RK R M} {Γ:List Ent} {fr:Fr} {m:Option M} (hc:opv fr c=some (.bool b)) (hx:(bif b then opv fr x else opv fr y)=some v) (h:D P cx (.o q all l rk Γ ((d,v) :: fr) m)):D P cx (.e q (.pick c x y) (some d) ty all l rk Γ fr m)
 | ogd {q:Bool} {all:List Oper} {t:Nat} {f0 fr:Fr} {Γ:List Ent} {b:Bool} (h:look fr t=some (.bool b)) (k:Agr fr f0):D P cx (.o q all [] (.g t f0) Γ fr (some b))
 | tp1 {v:Value} {d:Nat} {fr:Fr} {k:Fr→Jd R} (h:D P cx (k ((d,v) :: fr))):D P cx (.tp [v] d fr k)
 | cal {M:Type} {q:Bool} {d:Nat} {f:FuncId} {xs:List Operand} {vs:List Value} {ats:Array TypeId} {ty:TypeId} {all l:List Oper} {rk:RK R M} {Γ:List Ent} {fr:Fr} {m:Option M} [hf:FnC P f] (hx:opvs fr xs=some vs)
   (h:D P cx (.cv f vs q (.call ⟨.value (.func f),xs.toArray,ats⟩) d ty all l rk Γ fr m)):D P cx (.e q (.call ⟨.value (.func f),xs.toArray,ats⟩) (some d) ty all l rk Γ fr m)
 | cvn {M:Type} {q:Bool} {d:Nat} {f:FuncId} {vs:List Value} {op:Op} {ty:TypeId} {all l:List Oper} {rk:RK R M} {Γ:List Ent} {fr:Fr}:D P cx (.cv f vs q op d ty all l rk Γ fr none)
 | cvq {M β:Type} {ow:Bool} {d:Nat} {f:FuncId} {vs:List Value} {op:Op} {ty:TypeId} {Δ:List Ent} {mo:Option β} {rt:β→Unit→List Value} {all l:List Oper} {rk:RK R M} {Γ:List Ent} {fr:Fr} {g:β→Option M}
   (hc:Ct P f ow mo vs Δ rt (fun _ _=>[])) (h0:FO Δ) (h1:ER true Γ Δ) (k:∀ y,D P cx (.tp (rt y ()) d fr fun fr=>.o true all l rk Γ fr (g y))):D P cx (.cv f vs true op d ty all l rk Γ fr (mo>>=g))
 | cvw {M β V:Type} {ow:Bool} {d:Nat} {f:FuncId} {vs:List Value} {op:Op} {ty:TypeId} {Δ:List Ent} {mo:Option β} {rt:β→V→List Value} {ps:β→V→List Ent} {all l:List Oper} {rk:RK R M} {Γ:List Ent} {fr:Fr} {g:β→Option M}
   (hc:Ct P f ow mo vs Δ rt ps) (hp:EP Γ Δ) (h:D P cx (.cz ow f vs op d ty Δ mo rt ps all l rk Γ fr g)):D P cx (.cv f vs false op d ty all l rk Γ fr (mo>>=g))
 | czt {M β V:Type} {d:Nat} {f:FuncId} {vs:List Value} {op:Op} {ty:TypeId} {Δ:List Ent} {mo:Option β} {rt:β→V→List Value} {ps:β→V→List Ent} {all l:List Oper} {rk:RK R M} {Γ Γ1:List Ent} {fr:Fr} {g:β→Option M}
   (h0:EO Γ Δ Γ1) (h1:ER true Γ1 Δ) (k:∀ y v,D P cx (.cs y fun y=>.tp (rt y v) d fr fun fr=>.p [] (ps y v) fr Γ1 fun fr Γ=>.mo all l rk Γ fr (g y))):D P cx (.cz true f vs op d ty Δ mo rt ps all l rk Γ fr g)
 | czf {M β V:Type} {d:Nat} {f:FuncId} {vs:List Value} {op:Op} {ty:TypeId} {Δ:List Ent} {mo:Option β} {rt:β→V→List Value} {ps:β→V→List Ent} {all l:List Oper} {rk:RK R M} {Γ Γ1:List Ent} {fr:Fr} {g:β→Option M}
   (h0:EF Γ Δ Γ1) (k:∀ y v,D P cx (.cs y fun y=>.tp (rt y v) d fr fun fr=>.p [] (ps y v) fr Γ1 fun fr Γ=>.mo all l rk Γ fr (g y))):D P cx (.cz false f vs op d ty Δ mo rt ps all l rk Γ fr g)
 | mo1 {M β:Type} {e:TypeId} {E:STy β} {v u:Value} {xs:List β} {j:Int} {z:β} {all l:List Oper} {rk:RK R M} {Γ:List Ent} {fr:Fr} {m:Option M} (h:D P cx (.mo all l rk (.own (aK e E) v (xs.set j.toNat z) :: Γ) fr m)):D P cx (.mo all l rk (.own E u z :: .hol e E v xs j u :: Γ) fr m)
 | mo2 {M α β:Type} {T:STy α} {v':Value} {x':α} {e:TypeId} {E:STy β} {v u:Value} {xs:List β} {j:Int} {z:β} {all l:List Oper} {rk:RK R M} {Γ:List Ent} {fr:Fr} {m:Option M} (h:D P cx (.mo all l rk (.own T v' x' :: .own (aK e E) v (xs.set j.toNat z) :: Γ) fr m)):D P cx (.mo all l rk (.own T v' x' :: .own E u z :: .hol e E v xs j u :: Γ) fr m)
 | mo0 {M:Type} {all l:List Oper} {rk:RK R M} {Γ:List Ent} {fr:Fr} {m:Option M} (h:D P cx (.o false all l rk Γ fr m)):D P cx (.mo all l rk Γ fr m)
 | tgn {S:Type} {q:Bool} {all ops:List Oper} {K:Kont R S} {Γ:List Ent} {fr:Fr} {m:Option (Out S R)} (h:D P cx (.o q all ops (.n K) Γ fr m)):D P cx (.tg q false all ops K Γ fr m)
 | tgg {S:Type} {t:Nat} {K:Kont R S} {all ops:List Oper} {Γ:List Ent} {fr:Fr} {gm:Option Bool} {f:Bool→Option (Out S R)} {f0:Fr} (ht:lastD ops=some t) (hf:Kp (dsts ops) none fr f0) (h:D P cx (.o true all ops (.g t f0) Γ fr gm)) (k:∀ g,D P cx (.n K Γ ((t,.bool g) :: f0) (f g))):D P cx (.tg true true all ops K Γ fr (gm>>=f))
 | mn1 {S β:Type} {e:TypeId} {E:STy β} {v u:Value} {xs:List β} {j:Int} {z:β} {K:Kont R S} {Γ:List Ent} {fr:Fr} {m:Option (Out S R)} (h:D P cx (.mn K (.own (aK e E) v (xs.set j.toNat z) :: Γ) fr m)):D P cx (.mn K (.own E u z :: .hol e E v xs j u :: Γ) fr m)
 | mn2 {S α β:Type} {T:STy α} {v':Value} {x':α} {e:TypeId} {E:STy β} {v u:Value} {xs:List β} {j:Int} {z:β} {K:Kont R S} {Γ:List Ent} {fr:Fr} {m:Option (Out S R)} (h:D P cx (.mn K (.own T v' x' :: .own (aK e E) v (xs.set j.toNat z) :: Γ) fr m)):D P cx (.mn K (.own T v' x' :: .own E u z :: .hol e E v xs j u :: Γ) fr m)
 | mn0 {S:Type} {K:Kont R S} {Γ:List Ent} {fr:Fr} {m:Option (Out S R)} (h:D P cx (.n K Γ fr m)):D P cx (.mn K Γ fr m)
 | atl {M:Type} {q:Bool} {d:Nat} {f:FuncId} {x:Operand} {a:Addr} {n:Int} {ats:Array TypeId} {ty:TypeId} {all l:List Oper} {rk:RK R M} {Γ:List Ent} {fr:Fr} {m:Option M} [hf:AtL P f] (hx:opv fr x=some (.pointer (some a))) (hc:FndC Γ a (.int .i64 n))
   (h:D P cx (.o q all l rk Γ ((d,.int .i64 n) :: fr) m)):D P cx (.e q (.call ⟨.value (.func f),#[x],ats⟩) (some d) ty all l rk Γ fr m)
 | ata {M:Type} {d:Nat} {f:FuncId} {x y:Operand} {b j:Nat} {n z:Int} {cs ds:List Value} {ats:Array TypeId} {ty e:TypeId} {all l:List Oper} {rk:RK R M} {Γ Γ1:List Ent} {fr:Fr} {m:Option M} [hf:AtA P f] (hx:opv fr x=some (.pointer (some ⟨b,j,none⟩))) (hy:opv fr y=some (.int .i64 z))
   (h0:Sel Γ (.row b cs e) Γ1) (h1:cs[j]? = some (.int .i64 n)) (h2:SegD [.int .i64 (w64 (n+z))] j cs ds) (h:D P cx (.o false all l rk (.row b ds e :: Γ1) ((d,.int .i64 (w64 (n+z))) :: fr) m)):D P cx (.e false (.call ⟨.value (.func f),#[x,y],ats⟩) (some d) ty all l rk Γ fr m)
 | cav {M:Type} {q:Bool} {d:Nat} {f:FuncId} {x:Operand} {xs:List Operand} {vs us ws as bs:List Value} {ats:Array TypeId} {ty:TypeId} {all l:List Oper} {rk:RK R M} {Γ:List Ent} {fr:Fr} {m:Option M} (hv:opv fr x=some (.func (.func f) as.toArray bs.toArray)) (hx:opvs fr xs=some vs) (h1:Cat vs bs us) (h2:Cat as us ws)
   (h:D P cx (.fa f (.cv f ws q (.call ⟨.value x,xs.toArray,ats⟩) d ty all l rk Γ fr m))):D P cx (.e q (.call ⟨.value x,xs.toArray,ats⟩) (some d) ty all l rk Γ fr m)
 | fa {f:FuncId} {j:Jd R} [hf:FnC P f] (h:D P cx j):D P cx (.fa f j)
 | cin {M:Type} {q:Bool} {d:Nat} {name:String} {t:TypeId} {x:Operand} {u:Value} {xs:List Operand} {vs:List Value} {ats:Array TypeId} {ty:TypeId} {all l:List Oper} {rk:RK R M} {Γ:List Ent} {fr:Fr} {m:Option M} (hv:opv fr x=some (.iface t u)) (hx:opvs fr xs=some vs)
   (h:D P cx (.im t name fun f=>.cv f (u :: vs) q (.call ⟨.invoke x name,xs.toArray,ats⟩) d ty all l rk Γ fr m)):D P cx (.e q (.call ⟨.invoke x name,xs.toArray,ats⟩) (some d) ty all l rk Γ fr m)
 | im {t:TypeId} {name nm:String} {f:FuncId} {j:FuncId→Jd R} [hf:IMc P t nm f] (hn:Bx (name=nm)) (h:D P cx (j f)):D P cx (.im t name j)
 | ia {t a:TypeId} {j:Jd R} [hf:IAc P t a] (h:D P cx j):D P cx (.ia t a j)
 | mkf {M:Type} {q:Bool} {d:Nat} {f:FuncId} {xs ys:List Operand} {as bs:List Value} {ty:TypeId} {all l:List Oper} {rk:RK R M} {Γ:List Ent} {fr:Fr} {m:Option M} (hx:opvs fr xs=some as) (hy:opvs fr ys=some bs)
   (h:D P cx (.o q all l rk Γ ((d,.func (.func f) as.toArray bs.toArray) :: fr) m)):D P cx (.e q (.makeFunc (.func f) xs.toArray ys.toArray) (some d) ty all l rk Γ fr m)
 | mki {M:Type} {q:Bool} {d:Nat} {x:Operand} {v:Value} {t ty:TypeId} {all l:List Oper} {rk:RK R M} {Γ:List Ent} {fr:Fr} {m:Option M} [hf:IFc P t] (hx:opv fr x=some v)
   (h:D P cx (.o q all l rk Γ ((d,.iface t v) :: fr) m)):D P cx (.e q (.makeInterface t x) (some d) ty all l rk Γ fr m)
 | tas {M:Type} {q:Bool} {d:Nat} {x:Operand} {u:Value} {t a xt ty:TypeId} {all l:List Oper} {rk:RK R M} {Γ:List Ent} {fr:Fr} {m:Option M} (hx:opv fr x=some (.iface t u))
   (h:D P cx (.ia t a (.o q all l rk Γ ((d,.tuple #[.iface t u,.bool true]) :: fr) m))):D P cx (.e q (.typeAssert x xt a true) (some d) ty all l rk Γ fr m)
 | csp {A B:Type} {y:Option A×B} {k:Option A×B→Jd R} (h0:∀ z,D P cx (.cs z fun z=>k (none,z))) (h1:∀ a z,D P cx (.cs z fun z=>k (some a,z))):D P cx (.cs y k)
 | cso {A:Type} {y:Option A} {k:Option A→Jd R} (h0:D P cx (k none)) (h1:∀ a,D P cx (k (some a))):D P cx (.cs y k)
 | csd {β:Type} {y:β} {k:β→Jd R} (h:D P cx (k y)):D P cx (.cs y k)
 | tp0 {d:Nat} {fr:Fr} {k:Fr→Jd R} (h:D P cx (k ((d,.tuple #[]) :: fr))):D P cx (.tp [] d fr k)
 | tp2 {u v:Value} {vs:List Value} {d:Nat} {fr:Fr} {k:Fr→Jd R} (h:D P cx (k ((d,.tuple (u :: v :: vs).toArray) :: fr))):D P cx (.tp (u :: v :: vs) d fr k)
 | ret {S:Type} {K:Kont R S} {rs:List ResultVar} {y:R} {v:cx.V} {Γ Γ':List Ent} {fr:Fr} (hr:cx.fn.results=rs.toArray) (hv:MkV cx.V v) (h:ResD P fr Γ rs (cx.ret y v)) (h1:EF Γ (cx.post y v) Γ'):D P cx (.c K .ret Γ fr (some (.ret y)))
 | block {S:Type} {K:Kont R S} {k:Nat} {c:Code} {Γ:List Ent} {fr:Fr} {m:Option (Out S R)} (h:D P cx (.bk (isLoop c) k K c Γ fr m)):D P cx (.c K (.block k c) Γ fr m)
 | bkf {S:Type} {its:List KI} {kb:Kb R S} {k:Nat} {c:Code} {Γ:List Ent} {fr:Fr} {m:Option (Out S R)} (h:D P cx (.c ⟨.blk k :: its,kb⟩ c Γ fr m)):D P cx (.bk false k ⟨its,kb⟩ c Γ fr m)
 | bks {S:Type} {K:Kont R S} {k:Nat} {c:Code} {Γ:List Ent} {fr:Fr} {m:Option (Out S R)} (h:Bx (sem P cx (.bk true k K c Γ fr m))):D P cx (.bk true k K c Γ fr m)
 | draw {S:Type} {id:Nat} {K:Kont R S} {ops:List Oper} {Γ:List Ent} {fr:Fr} {m:Option (Out S R)} (h:D P cx (.dr id ops K Γ fr m)):D P cx (.c K (.region id ops.toArray true) Γ fr m)
 | drs {S:Type} {id:Nat} {K:Kont R S} {ops:List Oper} {Γ:List Ent} {fr:Fr} {m:Option (Out S R)} (h:Bx (sem P cx (.dr id ops K Γ fr m))):D P cx (.dr id ops K Γ fr m)
 | rgq {S:Type} {K:Kont R S} {ops:List Oper} {Γ:List Ent} {fr:Fr} {m:Option (Out S R)} (h:D P cx (.o true ops ops (.n K) Γ fr m)):D P cx (.rg false true ops K Γ fr m)
 | rgt {S:Type} {K:Kont R S} {ops:List Oper} {Γ:List Ent} {fr:Fr} {m:Option (Out S R)} (h:D P cx (.rw (hasS ops) ops K Γ fr m)):D P cx (.rg true false ops K Γ fr m)
 | rwt {S:Type} {K:Kont R S} {ops:List Oper} {Γ:List Ent} {fr:Fr} {m:Option (Out S R)} (h:D P cx (.o false ops ops (.s K) Γ fr m)):D P cx (.rw true ops K Γ fr m)
 | rwf {S:Type} {t:Nat} {K:Kont R S} {ops:List Oper} {Γ:List Ent} {fr:Fr} {gm:Option Bool} {f:Bool→Option (Out S R)} {f0:Fr} (ht:lastD ops=some t) (hf:Kp (dsts ops) none fr f0) (h:D P cx (.o true ops ops (.g t f0) Γ fr gm)) (k:∀ g,D P cx (.n K Γ ((t,.bool g) :: f0) (f g))):D P cx (.rw false ops K Γ fr (gm>>=f))
 | rwu {S:Type} {K:Kont R S} {ops:List Oper} {Γ:List Ent} {fr:Fr} {m:Option (Out S R)} (h:D P cx (.o false ops ops (.s K) Γ fr m)):D P cx (.rw false ops K Γ fr m)
 | osl {S:Type} {q:Bool} {all:List Oper} {K:Kont R S} {Γ:List Ent} {fr:Fr} {m:Option (Out S R)} (h:D P cx (.n K Γ fr m)):D P cx (.o q all [] (.s K) Γ fr m)
 | ohl {S:Type} {q:Bool} {all tail:List Oper} {K:Kont R S} {Γ:List Ent} {fr:Fr} {m:Option (Out S R)} (h:D P cx (.o false all tail (.s K) Γ fr m)):D P cx (.o q all [] (.h all tail K) Γ fr m)
 | as1 {S:Type} {α β:Type} {q:Bool} {d:Option Nat} {op:Op} {ty:TypeId} {all l:List Oper} {K:Kont R S} {Γ:List Ent} {fr:Fr} {m:Option α} {f:α→Option β} {g:β→Option (Out S R)} (h:D P cx (.e q op d ty all l (.s K) Γ fr (m>>=fun x=>f x>>=g))):D P cx (.e q op d ty all l (.s K) Γ fr ((m>>=f)>>=g))
 | as2 {S:Type} {α β:Type} {q:Bool} {d:Option Nat} {op:Op} {ty:TypeId} {al all tail l:List Oper} {K:Kont R S} {Γ:List Ent} {fr:Fr} {m:Option α} {f:α→Option β} {g:β→Option (Out S R)} (h:D P cx (.e q op d ty al l (.h all tail K) Γ fr (m>>=fun x=>f x>>=g))):D P cx (.e q op d ty al l (.h all tail K) Γ fr ((m>>=f)>>=g))
 | rgg {S:Type} {t:Nat} {K:Kont R S} {ops:List Oper} {Γ:List Ent} {fr:Fr} {gm:Option Bool} {f:Bool→Option (Out S R)} {f0:Fr} (ht:lastD ops=some t) (hf:Kp (dsts ops) none fr f0) (h:D P cx (.o true ops ops (.g t f0) Γ fr gm)) (k:∀ g,D P cx (.n K Γ ((t,.bool g) :: f0) (f g))):D P cx (.rg true true ops K Γ fr (gm>>=f))
 | ntop {rs:List ResultVar} {y:R} {v:cx.V} {Γ Γ':List Ent} {fr:Fr} (hr:cx.fn.results=rs.toArray) (hv:MkV cx.V v) (h:ResD P fr Γ rs (cx.ret y v)) (h1:EF Γ (cx.post y v) Γ'):D P cx (.n ⟨[],.topv⟩ Γ fr (some (.norm y)))
 | fld {M:Type} {q:Bool} {d s k off:Nat} {x:Operand} {cs:List Value} {v:Value} {ty:TypeId} {all l:List Oper} {rk:RK R M} {Γ:List Ent} {fr:Fr} {m:Option M} [hf:FLc P s k off] (hx:opv fr x=some (.agg cs.toArray)) (hc:cs[off]? = some v) (h:D P cx (.o q all l rk Γ ((d,v) :: fr) m)):D P cx (.e q (.field s x k) (some d) ty all l rk Γ fr m)
 | mul {M:Type} {q:Bool} {d:Nat} {x y:Operand} {t t' ty:TypeId} {a b:Int} {all l:List Oper} {rk:RK R M} {Γ:List Ent} {fr:Fr} {m:Option M} (hx:opv fr x=some (.int .i64 a)) (hy:opv fr y=some (.int .i64 b)) (h:D P cx (.o q all l rk Γ ((d,.int .i64 (w64 (a * b))) :: fr) m)):D P cx (.e q (.binOp .mul t x y t') (some d) ty all l rk Γ fr m)
 | neg {M:Type} {q:Bool} {d:Nat} {x:Operand} {t ty:TypeId} {a:Int} {all l:List Oper} {rk:RK R M} {Γ:List Ent} {fr:Fr} {m:Option M} (hx:opv fr x=some (.int .i64 a)) (h:D P cx (.o q all l rk Γ ((d,.int .i64 (w64 (0 - a))) :: fr) m)):D P cx (.e q (.unOp .neg t x) (some d) ty all l rk Γ fr m)
 | ext {M:Type} {q:Bool} {d k:Nat} {x:Operand} {ty:TypeId} {vs:List Value} {v:Value} {all l:List Oper} {rk:RK R M} {Γ:List Ent} {fr:Fr} {m:Option M} (hx:opv fr x=some (.tuple vs.toArray)) (hv:vs[k]? = some v) (h:D P cx (.o q all l rk Γ ((d,v) :: fr) m)):D P cx (.e q (.extract x k) (some d) ty all l rk Γ fr m)
 | las {M:Type} {q:Bool} {d n:Nat} {x:Operand} {a:Addr} {ds:List Value} {ty:TypeId} {all l:List Oper} {rk:RK R M} {Γ:List Ent} {fr:Fr} {m:Option M} (h:FndW Γ a n ds) (k:D P cx (.o q all l rk Γ ((d,.agg ds.toArray) :: fr) m)):D P cx (.la a (some n) q ty x d all l rk Γ fr m)
 | bld {M:Type} {q:Bool} {d:Nat} {t ty:TypeId} {ps:List (Nat×Operand)} {zc cs:List Value} {pl:List (Nat×Nat)} {all l:List Oper} {rk:RK R M} {Γ:List Ent} {fr:Fr} {m:Option M} [hb:BuC P t zc pl] (hf:FillD Γ fr pl ps zc cs) (h:D P cx (.o q all l rk Γ ((d,.agg cs.toArray) :: fr) m)):D P cx (.e q (.build t ps.toArray) (some d) ty all l rk Γ fr m)
 | box {M:Type} {d:Nat} {x:Operand} {t ty:TypeId} {v:Value} {cs:List Value} {all l:List Oper} {rk:RK R M} {Γ:List Ent} {fr:Fr} {m:Option M} (hx:opv fr x=some v) (hc:CellsD Γ v cs)
   (h:∀ b,D P cx (.o false all l rk (.row b cs t :: Γ) ((d,.pointer (some ⟨b,0,none⟩)) :: fr) m)):D P cx (.e false (.box t x) (some d) ty all l rk Γ fr m)
 | alloc {M:Type} {d:Nat} {t ty:TypeId} {cs:List Value} {all l:List Oper} {rk:RK R M} {Γ:List Ent} {fr:Fr} {m:Option M} [hz:ZVc P t cs]
   (h:∀ b,D P cx (.o false all l rk (.row b cs t :: Γ) ((d,.pointer (some ⟨b,0,none⟩)) :: fr) m)):D P cx (.e false (.alloc t) (some d) ty all l rk Γ fr m)
 | lit0 {M α:Type} {d:Nat} {t e ty:TypeId} {E:STy α} {z0:α} {bt:Nat} {all l:List Oper} {rk:RK R M} {Γ:List Ent} {fr:Fr} {m:Option M} [hz:STc P t α e E z0 bt]
   (h:∀ v,D P cx (.o false all l rk (.own (aK e E) v [] :: Γ) ((d,v) :: fr) m)):D P cx (.e false (.buildSlice t 0 #[]) (some d) ty all l rk Γ fr m)
 | lit1 {M α:Type} {d:Nat} {x:Operand} {u:Value} {t e ty:TypeId} {E:STy α} {z0:α} {bt:Nat} {all l:List Oper} {rk:RK R M} {Γ:List Ent} {fr:Fr} {m:Option M} [hz:STc P t α e E z0 bt] (hx:opv fr x=some u) (h1:One Γ u)
   (h:∀ b,D P cx (.o false all l rk (.row b [u] e :: Γ) ((d,.slice (some ⟨b,0,none⟩) 1 1) :: fr) m)):D P cx (.e false (.buildSlice t 1 #[(0,x)]) (some d) ty all l rk Γ fr m)
 | litn {M:Type} {d n:Nat} {ps:List (Nat×Operand)} {us:List Value} {t e ty:TypeId} {all l:List Oper} {rk:RK R M} {Γ:List Ent} {fr:Fr} {m:Option M} [hz:LTc P t e] (hl:LitD Γ fr 0 ps us) (hn:us.length=n) (hb:(Nat.ble 1 n && Nat.ble n 16777216)=true)
   (h:∀ b,D P cx (.o false all l rk (.row b us e :: Γ) ((d,.slice (some ⟨b,0,none⟩) n n) :: fr) m)):D P cx (.e false (.buildSlice t n ps.toArray) (some d) ty all l rk Γ fr m)
 | lits {M:Type} {d n k:Nat} {ps:List (Nat×Operand)} {us:List Value} {t e ty:TypeId} {all l:List Oper} {rk:RK R M} {Γ:List Ent} {fr:Fr} {m:Option M} [hz:LSc P t e k] (hl:LitSD Γ fr k 0 ps us) (hn:ps.length=n) (hb:(Nat.ble 1 n && Nat.ble (n * k) 16777216)=true)
   (h:∀ b,D P cx (.o false all l rk (.row b us e :: Γ) ((d,.slice (some ⟨b,0,none⟩) n n) :: fr) m)):D P cx (.e false (.buildSlice t n ps.toArray) (some d) ty all l rk Γ fr m)
 | make0 {M α:Type} {d:Nat} {y:Operand} {a:Int} {t e ty:TypeId} {E:STy α} {z0:α} {bt:Nat} {all l:List Oper} {rk:RK R M} {Γ:List Ent} {fr:Fr} {f:Nat→Option M} [hz:STc P t α e E z0 bt] (hy:opv fr y=some (.int .i64 a))
   (h:∀ n v,D P cx (.o false all l rk (.own (aK e E) v [] :: Γ) ((d,v) :: fr) (f n))):D P cx (.e false (.makeSlice t (.const (.int .i64 0)) y) (some d) ty all l rk Γ fr (mk bt a>>=f))
 | make {M α:Type} {d:Nat} {x:Operand} {a:Int} {t e ty:TypeId} {E:STy α} {z0:α} {bt:Nat} {all l:List Oper} {rk:RK R M} {Γ:List Ent} {fr:Fr} {f:Nat→Option M} [hz:STc P t α e E z0 bt] (hx:opv fr x=some (.int .i64 a))
   (h:∀ n v,D P cx (.o false all l rk (.own (aK e E) v (List.replicate n z0) :: Γ) ((d,v) :: fr) (f n))):D P cx (.e false (.makeSlice t x x) (some d) ty all l rk Γ fr (mk bt a>>=f))
 | app {M α:Type} {d:Nat} {s x:Operand} {sv xv:Value} {t e ty:TypeId} {E:STy α} {z0:α} {bt:Nat} {all l:List Oper} {rk:RK R M} {Γ:List Ent} {fr:Fr} {m:Option M} [hz:STc P t α e E z0 bt] (hs:opv fr s=some sv) (hx:opv fr x=some xv)
   (h:D P cx (.ax E e t bt xv sv s x d ty all l rk Γ fr m)):D P cx (.e false (.call ⟨.builtin .append,#[s,x],#[t,t]⟩) (some d) ty all l rk Γ fr m)
 | ax1 {M α:Type} {d b:Nat} {s x:Operand} {sv u:Value} {t e ty:TypeId} {E:STy α} {bt:Nat} {all l:List Oper} {rk:RK R M} {Γ:List Ent} {fr:Fr} {m:Option M} (hc:FndC Γ ⟨b,0,none⟩ u)
   (h:D P cx (.ap E e t bt u b sv s x d ty all l rk Γ fr m)):D P cx (.ax E e t bt (.slice (some ⟨b,0,none⟩) 1 1) sv s x d ty all l rk Γ fr m)
 | axi {M:Type} {d:Nat} {k:IntKind} {s x:Operand} {sv yv:Value} {o1 o2:Bool} {t e ty:TypeId} {xs ys:List Int} {bt:Nat} {all l:List Oper} {rk:RK R M} {Γ Γ1 Γx:List Ent} {fr:Fr} {f:Unit→Option M} (h1:Sel Γ (.own (aK e (aC k)) sv xs) Γ1) (h2:Fnd Γ1 yv o1 o2 (aC k) ys noE Γx)
   (h:∀ v,D P cx (.o false all l rk (.own (aK e (aC k)) v (xs++ys) :: Γ1) ((d,v) :: fr) (f ()))):D P cx (.ax (aC k) e t bt yv sv s x d ty all l rk Γ fr (fits bt (xs.length+ys.length)>>=f))
 | axb {M:Type} {d:Nat} {s x:Operand} {sv yv:Value} {o1 o2:Bool} {t e ty:TypeId} {xs ys:List Bool} {bt:Nat} {all l:List Oper} {rk:RK R M} {Γ Γ1 Γx:List Ent} {fr:Fr} {f:Unit→Option M} (h1:Sel Γ (.own (aK e sBool) sv xs) Γ1) (h2:Fnd Γ1 yv o1 o2 sBool ys noE Γx)
   (h:∀ v,D P cx (.o false all l rk (.own (aK e sBool) v (xs++ys) :: Γ1) ((d,v) :: fr) (f ()))):D P cx (.ax sBool e t bt yv sv s x d ty all l rk Γ fr (fits bt (xs.length+ys.length)>>=f))
 | api {M:Type} {d b:Nat} {k:IntKind} {y:Int} {s x:Operand} {sv:Value} {t e et ty:TypeId} {xs:List Int} {bt:Nat} {all l:List Oper} {rk:RK R M} {Γ Γ1 Γ2:List Ent} {fr:Fr} {f:Unit→Option M} (h0:Sel Γ (.row b [.int k y] et) Γ1) (h1:Sel Γ1 (.own (aK e (aC k)) sv xs) Γ2)
   (h:∀ v,D P cx (.o false all l rk (.own (aK e (aC k)) v (xs++[y]) :: Γ2) ((d,v) :: fr) (f ()))):D P cx (.ap (aC k) e t bt (.int k y) b sv s x d ty all l rk Γ fr (fits bt (xs.length+1)>>=f))
 | apb {M:Type} {d b:Nat} {y:Bool} {s x:Operand} {sv:Value} {t e et ty:TypeId} {xs:List Bool} {bt:Nat} {all l:List Oper} {rk:RK R M} {Γ Γ1 Γ2:List Ent} {fr:Fr} {f:Unit→Option M} (h0:Sel Γ (.row b [.bool y] et) Γ1) (h1:Sel Γ1 (.own (aK e sBool) sv xs) Γ2)
   (h:∀ v,D P cx (.o false all l rk (.own (aK e sBool) v (xs++[y]) :: Γ2) ((d,v) :: fr) (f ()))):D P cx (.ap sBool e t bt (.bool y) b sv s x d ty all l rk Γ fr (fits bt (xs.length+1)>>=f))
 | aps {M α:Type} {d b:Nat} {s x:Operand} {sv u:Value} {k:Bool} {t e e' ty:TypeId} {E:STy α} {bt:Nat} {all l:List Oper} {rk:RK R M} {Γ:List Ent} {fr:Fr} {m:Option M} (hk:KdD Γ u k)
   (h:D P cx (.ap2 k e' E e t bt u b sv s x d ty all l rk Γ fr m)):D P cx (.ap (aK e' E) e t bt u b sv s x d ty all l rk Γ fr m)
 | apo {M α:Type} {d b:Nat} {s x:Operand} {sv u:Value} {y:List α} {xs:List (List α)} {t e e' et ty:TypeId} {E:STy α} {bt:Nat} {all l:List Oper} {rk:RK R M} {Γ Γ1 Γ2 Γ3:List Ent} {fr:Fr} {f:Unit→Option M} (h0:Sel Γ (.row b [u] et) Γ1) (h1:Sel Γ1 (.own (aK e' E) u y) Γ2) (h2:Sel Γ2 (.own (aK e (aK e' E)) sv xs) Γ3)
   (h:∀ v,D P cx (.o false all l rk (.own (aK e (aK e' E)) v (xs++[y]) :: .rd false sLn u y.length :: Γ3) ((d,v) :: fr) (f ()))):D P cx (.ap2 true e' E e t bt u b sv s x d ty all l rk Γ fr (fits bt (xs.length+1)>>=f))
 | apm {M α:Type} {d b:Nat} {s x:Operand} {sv u:Value} {y:List α} {xs:List (List α)} {t e e' et ty:TypeId} {E E1:STy α} {bt:Nat} {all l:List Oper} {rk:RK R M} {Γ Γ1 Γ2 Γx:List Ent} {fr:Fr} {f:Unit→Option M} (h0:Sel Γ (.row b [u] et) Γ1) (h1:Fnd Γ1 u false false E1 y noE Γx) (h2:Sel Γ1 (.om e (aE E1) sv xs) Γ2)
   (h:∀ v,D P cx (.o false all l rk (.om e (aE E1) v (xs++[y]) :: Γ2) ((d,v) :: fr) (f ()))):D P cx (.ap2 false e' E e t bt u b sv s x d ty all l rk Γ fr (fits bt (xs.length+1)>>=f))
 | axm {M α:Type} {d:Nat} {s x:Operand} {sv yv:Value} {xs ys:List (List α)} {t e e' ty:TypeId} {E E1:STy α} {bt:Nat} {all l:List Oper} {rk:RK R M} {Γ Γ1 Γx:List Ent} {fr:Fr} {f:Unit→Option M} (h2:Fnd Γ yv false false (aE E1) ys noE Γx) (h1:Sel Γ (.om e (aE E1) sv xs) Γ1)
   (h:∀ v,D P cx (.o false all l rk (.om e (aE E1) v (xs++ys) :: Γ1) ((d,v) :: fr) (f ()))):D P cx (.ax (aK e' E) e t bt yv sv s x d ty all l rk Γ fr (fits bt (xs.length+ys.length)>>=f))
 | sto {M:Type} {x y:Operand} {a:Addr} {u:Value} {t ty:TypeId} {n:Nat} {all l:List Oper} {rk:RK R M} {Γ:List Ent} {fr:Fr} {m:Option M} [ht:STo P t n] (hx:opv fr x=some (.pointer (some a))) (hy:opv fr y=some u)
   (h:D P cx (.st a u n t x y ty all l rk Γ fr m)):D P cx (.e false (.store t x y) none ty all l rk Γ fr m)
 | stn {M:Type} {x y:Operand} {b j n:Nat} {us cs ds:List Value} {t e ty:TypeId} {all l:List Oper} {rk:RK R M} {Γ Γ1:List Ent} {fr:Fr} {m:Option M} (h0:Sel Γ (.row b cs e) Γ1) (h1:SegD us j cs ds) (h2:Ones Γ us) (h3:us.length=n)
   (h:D P cx (.o false all l rk (.row b ds e :: Γ1) fr m)):D P cx (.st ⟨b,j,none⟩ (.agg us.toArray) n t x y ty all l rk Γ fr m)
 | st1 {M:Type} {x y:Operand} {b j:Nat} {u:Value} {cs ds:List Value} {t e ty:TypeId} {all l:List Oper} {rk:RK R M} {Γ Γ1:List Ent} {fr:Fr} {m:Option M} (h0:Sel Γ (.row b cs e) Γ1) (h1:SegD [u] j cs ds) (h2:One Γ u)
   (h:D P cx (.o false all l rk (.row b ds e :: Γ1) fr m)):D P cx (.st ⟨b,j,none⟩ u 1 t x y ty all l rk Γ fr m)
 | stl {M:Type} {l:Plc} {x y:Operand} {v u:Value} {j:Int} {t ty:TypeId} {all ops:List Oper} {rk:RK R M} {Γ:List Ent} {fr:Fr} {m:Option M} (hl:Loc Γ v l) (h:D P cx (.sl l v j u t x y ty all ops rk Γ fr m)):D P cx (.st (elA v 1 j) u 1 t x y ty all ops rk Γ fr m)
 | sti {M:Type} {x y:Operand} {v:Value} {j z:Int} {k:IntKind} {xs:List Int} {t e ty:TypeId} {all l:List Oper} {rk:RK R M} {Γ Γ1:List Ent} {fr:Fr} {m:Option M} (h0:Rg v j Γ) (h1:Sel Γ (.own (aK e (aC k)) v xs) Γ1)
   (h:D P cx (.o false all l rk (.own (aK e (aC k)) v (xs.set j.toNat z) :: Γ1) fr m)):D P cx (.sl .own v j (.int k z) t x y ty all l rk Γ fr m)
 | stb {M:Type} {x y:Operand} {v:Value} {j:Int} {z:Bool} {xs:List Bool} {t e ty:TypeId} {all l:List Oper} {rk:RK R M} {Γ Γ1:List Ent} {fr:Fr} {m:Option M} (h0:Rg v j Γ) (h1:Sel Γ (.own (aK e sBool) v xs) Γ1)
   (h:D P cx (.o false all l rk (.own (aK e sBool) v (xs.set j.toNat z) :: Γ1) fr m)):D P cx (.sl .own v j (.bool z) t x y ty all l rk Γ fr m)
 | stw {M α:Type} {x y:Operand} {v u:Value} {j:Int} {z:List α} {xs:List (List α)} {E:STy α} {t e e' ty:TypeId} {all l:List Oper} {rk:RK R M} {Γ Γ1 Γ2:List Ent} {fr:Fr} {m:Option M} (h0:Rg v j Γ) (h1:Sel Γ (.own (aK e' E) u z) Γ1) (h2:Sel Γ1 (.own (aK e (aK e' E)) v xs) Γ2)
   (h:D P cx (.o false all l rk (.own (aK e (aK e' E)) v (xs.set j.toNat z) :: Γ2) fr m)):D P cx (.sl .own v j u t x y ty all l rk Γ fr m)
 | stm {M α:Type} {x y:Operand} {v u:Value} {j:Int} {z:List α} {xs:List (List α)} {E:STy α} {t e ty:TypeId} {all l:List Oper} {rk:RK R M} {Γ Γ1 Γx:List Ent} {fr:Fr} {m:Option M} (h0:Rg v j Γ) (h1:Fnd Γ u false false E z noE Γx) (h2:Sel Γ (.om e (aE E) v xs) Γ1)
   (h:D P cx (.o false all l rk (.om e (aE E) v (xs.set j.toNat z) :: Γ1) fr m)):D P cx (.sl .om v j u t x y ty all l rk Γ fr m)
 | sri {M:Type} {x y:Operand} {v v':Value} {j j' z:Int} {k:IntKind} {zs:List Int} {xs:List (List Int)} {t e e' ty:TypeId} {o1 o2:Bool} {all l:List Oper} {rk:RK R M} {Γ Γ1 Γx:List Ent} {fr:Fr} {m:Option M} (h0:Rg v j Γ) (h1:Fnd Γ v o1 o2 (aC k) zs noE Γx) (h2:Sel Γ (.own (aK e (aK e' (aC k))) v' xs) Γ1)
   (h:D P cx (.o false all l rk (.own (aK e (aK e' (aC k))) v' (xs.set j'.toNat (zs.set j.toNat z)) :: Γ1) fr m)):D P cx (.sl (.row v' j') v j (.int k z) t x y ty all l rk Γ fr m)
 | srb {M:Type} {x y:Operand} {v v':Value} {j j':Int} {z:Bool} {zs:List Bool} {xs:List (List Bool)} {t e e' ty:TypeId} {o1 o2:Bool} {all l:List Oper} {rk:RK R M} {Γ Γ1 Γx:List Ent} {fr:Fr} {m:Option M} (h0:Rg v j Γ) (h1:Fnd Γ v o1 o2 sBool zs noE Γx) (h2:Sel Γ (.own (aK e (aK e' sBool)) v' xs) Γ1)
   (h:D P cx (.o false all l rk (.own (aK e (aK e' sBool)) v' (xs.set j'.toNat (zs.set j.toNat z)) :: Γ1) fr m)):D P cx (.sl (.row v' j') v j (.bool z) t x y ty all l rk Γ fr m)
 | lnm {M κ υ:Type} {q:Bool} {d:Nat} {x:Operand} {v:Value} {t ty:TypeId} {bq:BEq κ} {ek:κ→Value} {eu:υ→Value} {xs:List (κ×υ)} {all l:List Oper} {rk:RK R M} {Γ:List Ent} {fr:Fr} {m:Option M} [ht:MPc P t κ υ bq ek eu] (hx:opv fr x=some v) (hr:MpD ek eu Γ v xs) (h:D P cx (.o q all l rk Γ ((d,.int .i64 (xs.length:Int)) :: fr) m)):D P cx (.e q (.call ⟨.builtin .len,#[x],#[t]⟩) (some d) ty all l rk Γ fr m)
 | cvb {M:Type} {q:Bool} {d:Nat} {x:Operand} {k k2:IntKind} {n:Int} {s t ty:TypeId} {all l:List Oper} {rk:RK R M} {Γ:List Ent} {fr:Fr} {m:Option M} [ht:ICc P s t k2] (hx:opv fr x=some (.int k n)) (h:D P cx (.o q all l rk Γ ((d,.int k2 (k2.wrap n)) :: fr) m)):D P cx (.e q (.convert s t x) (some d) ty all l rk Γ fr m)
 | cvs {M:Type} {q o1 o2:Bool} {d:Nat} {x:Operand} {v:Value} {xs:List Int} {s t ty:TypeId} {all l:List Oper} {rk:RK R M} {Γ Γx:List Ent} {fr:Fr} {m:Option M} [ht:BSc P s t] (hx:opv fr x=some v) (hr:Fnd Γ v o1 o2 (aC .u8) xs noE Γx) (h:D P cx (.o q all l rk Γ ((d,.string (strOfNums xs)) :: fr) m)):D P cx (.e q (.convert s t x) (some d) ty all l rk Γ fr m)
 | mkm {M κ υ:Type} {d:Nat} {t ty:TypeId} {bq:BEq κ} {ek:κ→Value} {eu:υ→Value} {all l:List Oper} {rk:RK R M} {Γ:List Ent} {fr:Fr} {m:Option M} [ht:MPc P t κ υ bq ek eu]
   (h:∀ v,D P cx (.o false all l rk (.own (sMp ek eu) v [] :: Γ) ((d,v) :: fr) m)):D P cx (.e false (.makeMap t none) (some d) ty all l rk Γ fr m)
 | mpu {M κ υ:Type} {x y z:Operand} {v:Value} {t ty:TypeId} {bq:BEq κ} {ek:κ→Value} {eu:υ→Value} {xs:List (κ×υ)} {a:κ} {b:υ} {all l:List Oper} {rk:RK R M} {Γ Γ1:List Ent} {fr:Fr} {m:Option M} [ht:MPc P t κ υ bq ek eu] (hx:opv fr x=some v) (hy:opv fr y=some (ek a)) (hz:opv fr z=some (eu b)) (h1:Sel Γ (.own (sMp ek eu) v xs) Γ1)
   (h:D P cx (.o false all l rk (.own (sMp ek eu) v (mput xs a b) :: Γ1) fr m)):D P cx (.e false (.mapUpdate t x y z) none ty all l rk Γ fr m)
 | ldn {M α:Type} {q o:Bool} {d:Nat} {x:Operand} {v:Value} {j:Int} {Q:Value→α→Prop} {T:STy α} {z:α} {ty:TypeId} {all l:List Oper} {rk:RK R M} {Γ:List Ent} {Γ1 Γ':Value→List Ent} {fr:Fr} {m:Option M} (h:∀ u,FndA Γ (elA v 1 j) o (sIn Q T) z (.rd o (sIn Q T) u z) (Γ1 u)) (h2:∀ u,FndH (Γ1 u) v j u (Γ' u)) (k:∀ u,D P cx (.o q all l rk (Γ' u) ((d,u) :: fr) m)):D P cx (.ld (sIn Q T) z (elA v 1 j) q ty x d all l rk Γ fr m)
 | apn {M α:Type} {d b:Nat} {s x:Operand} {sv u:Value} {y:List α} {xs:List (List α)} {t e e' et ty:TypeId} {E:STy α} {Q:Value→List α→Prop} {T:STy (List α)} {bt:Nat} {all l:List Oper} {rk:RK R M} {Γ Γ1 Γ2:List Ent} {fr:Fr} {f:Unit→Option M} (h0:Sel Γ (.row b [u] et) Γ1) (h1:In (.rd false (sIn Q T) u y) Γ1) (h2:Sel Γ1 (.om e (sIn Q T) sv xs) Γ2)
   (h:∀ v,D P cx (.o false all l rk (.om e (sIn Q T) v (xs++[y]) :: Γ2) ((d,v) :: fr) (f ()))):D P cx (.ap2 false e' E e t bt u b sv s x d ty all l rk Γ fr (fits bt (xs.length+1)>>=f))
 | maxi {M:Type} {q:Bool} {d:Nat} {x y:Operand} {k k':IntKind} {a b:Int} {ats:Array TypeId} {ty:TypeId} {all l:List Oper} {rk:RK R M} {Γ:List Ent} {fr:Fr} {m:Option M} (hx:opv fr x=some (.int k a)) (hy:opv fr y=some (.int k' b)) (h:D P cx (.o q all l rk Γ ((d,.int k (if b > a then b else a)) :: fr) m)):D P cx (.e q (.call ⟨.builtin .max,#[x,y],ats⟩) (some d) ty all l rk Γ fr m)
 | mini {M:Type} {q:Bool} {d:Nat} {x y:Operand} {k k':IntKind} {a b:Int} {ats:Array TypeId} {ty:TypeId} {all l:List Oper} {rk:RK R M} {Γ:List Ent} {fr:Fr} {m:Option M} (hx:opv fr x=some (.int k a)) (hy:opv fr y=some (.int k' b)) (h:D P cx (.o q all l rk Γ ((d,.int k (if b < a then b else a)) :: fr) m)):D P cx (.e q (.call ⟨.builtin .min,#[x,y],ats⟩) (some d) ty all l rk Γ fr m)
 | lkp {M κ υ:Type} {q:Bool} {d:Nat} {x y:Operand} {v:Value} {t ty:TypeId} {bq:BEq κ} {ek:κ→Value} {eu:υ→Value} {xs:List (κ×υ)} {a:κ} {z0:υ} {all l:List Oper} {rk:RK R M} {Γ:List Ent} {fr:Fr} {m:Option M} [ht:MPc P t κ υ bq ek eu] [hz:MZc P t υ eu z0] (hx:opv fr x=some v) (hy:opv fr y=some (ek a)) (hr:MpD ek eu Γ v xs)
   (h:D P cx (.o q all l rk Γ ((d,.tuple #[eu ((mget xs a).getD z0),.bool (mget xs a).isSome]) :: fr) m)):D P cx (.e q (.lookup t x y true) (some d) ty all l rk Γ fr m)
 | litu {M:Type} {d n:Nat} {ps:List (Nat×Operand)} {us:List Value} {t e ty:TypeId} {all l:List Oper} {rk:RK R M} {Γ:List Ent} {fr:Fr} {m:Option M} [hz:LUc P t e] (hl:LitD Γ fr 0 ps us) (hn:us.length=n) (hb:(Nat.ble 1 n && Nat.ble n 16777216)=true)
   (h:∀ b,D P cx (.o false all l rk (.row b us e :: Γ) ((d,.slice (some ⟨b,0,none⟩) n n) :: fr) m)):D P cx (.e false (.buildSlice t n ps.toArray) (some d) ty all l rk Γ fr m)
 | asl {M α:Type} {q:Bool} {d b n:Nat} {x:Operand} {us:List Value} {E:STy α} {xs:List α} {e ty:TypeId} {all l:List Oper} {rk:RK R M} {Γ Γ1 Γ2:List Ent} {fr:Fr} {m:Option M} (hx:opv fr x=some (.slice (some ⟨b,0,none⟩) n n)) (h0:Sel Γ (.row b us e) Γ1) (h1:TkL Γ1 E us xs Γ2) (hE:E.size=1) (hn:us.length=n) (hb:Nat.ble n 16777216=true)
   (h:D P cx (.o q all l rk (.own (aK e E) (.slice (some ⟨b,0,none⟩) n n) xs :: Γ2) ((d,.slice (some ⟨b,0,none⟩) n n) :: fr) m)):D P cx (.e q (.assign x) (some d) ty all l rk Γ fr m)
 | ari {M:Type} {q:Bool} {d:Nat} {op:BinOp} {x y:Operand} {k k':IntKind} {a b:Int} {t t' ty:TypeId} {all l:List Oper} {rk:RK R M} {Γ:List Ent} {fr:Fr} {f:Int→Option M} (hx:opv fr x=some (.int k a)) (hy:opv fr y=some (.int k' b)) (hk:AoK op k k') (h:∀ z,D P cx (.o q all l rk Γ ((d,.int k z) :: fr) (f z))):D P cx (.e q (.binOp op t x y t') (some d) ty all l rk Γ fr (aop op k a b>>=f))
 | inj {J:Jd R} (h:Bx (sem P cx J)):D P cx J
end Go.Dk
