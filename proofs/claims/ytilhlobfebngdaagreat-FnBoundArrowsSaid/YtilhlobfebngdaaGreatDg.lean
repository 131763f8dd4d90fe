/- A calculus of walks: regions that draw their order and make memory. No condition. -/
import Derived.Test.YtilhlobfebngdaaGreatDe
import Derived.Laws.Slices
namespace Go.Dk
open Go Go.Li
section
variable {w:World}
def wN {α:Type} (e:TI) (E:ai α) (j:Nat):ai (List α) where
 size:=1
 rep h cs xs f:=∃ b cap cur f1 f2 p c0 q,cs=[.slice (some ⟨b,0,none⟩) xs.length cap]∧h[b]? = some (.cells cur e (0,0))∧f=b :: (f1++f2)∧(xs.length≤cap∧cap≤maxLen∧cur.size=cap∧E.size=1)∧cur.toList.take xs.length=p++[c0]++q∧(p.length=j∧j < xs.length)∧
  (∀ i∈f1++f2,i < h.size)∧∀ h':Array Obj,(∀ i∈f1++f2,h'[i]? = h[i]?)→∀ u z k,E.rep h' [u] z k→dv E h' (p++[u]++q) (xs.set j z) (f1++k++f2)
 len:=by rintro h cs x f ⟨b,cap,cur,f1,f2,p,c0,q,rfl,_⟩; rfl
 one:=by rintro h cs x f ⟨b,cap,cur,f1,f2,p,c0,q,rfl,_⟩ v hv; simp at hv; subst hv; rfl
 congr:=by
  rintro h h' cs x f ⟨b,cap,cur,f1,f2,p,c0,q,rfl,h1,rfl,h2,h3,h4,h5,h6⟩ hb
  refine ⟨b,cap,cur,f1,f2,p,c0,q,rfl,(hb b (by simp)).trans h1,rfl,h2,h3,h4,fun i hi=>?_,fun h'' cu=>h6 h'' fun i hi=>(cu i hi).trans (hb i (List.mem_cons_of_mem _ hi))⟩
  have:=hb i (List.mem_cons_of_mem _ hi)
  rw [Array.getElem?_eq_getElem (h5 i hi)] at this
  exact (Array.getElem?_eq_some_iff.1 this).1
 lt:=by
  rintro h cs x f ⟨b,cap,cur,f1,f2,p,c0,q,rfl,h1,rfl,h2,h3,h4,h5,h6⟩ i hi
  rcases List.mem_cons.1 hi with rfl | hi
  ·exact (Array.getElem?_eq_some_iff.1 h1).1
  ·exact h5 i hi
theorem JK {α:Type} {e:TI} {E:ai α} {v u:Value} {xs:List α} {f:LN} {j:Int} {z:α} (h1:E.size=1) (hO:(aI e E).rep w.heap [v] xs f) (hz:xs[j.toNat]? = some z) (hu:w.cell? (db v 1 j)=some u) :
  ∃ k g,E.rep w.heap [u] z k∧(k++g).Perm f∧(wN e E j.toNat).rep w.heap [v] xs g:=by
 obtain ⟨base,cap,hv,hr⟩:=hO
 obtain rfl:v = .slice base xs.length cap:=by simpa using hv
 have bn:j.toNat < xs.length:=(List.getElem?_eq_some_iff.1 hz).1
 rcases hr with ⟨_,_,rfl,_⟩ | ⟨b,cur,f0,rfl,hg,rfl,CZ,Dm,yK,fc⟩
 ·simp at bn
 ·rw [h1,Nat.mul_one] at yK fc
  have zw:db (.slice (some ⟨b,0,none⟩) xs.length cap) 1 j = ⟨b,j.toNat,none⟩:=by
   simp only [db,jr,Nat.zero_add,Nat.mul_one]
  rw [zw,cell_of_row w b _ cur e _ hg] at hu
  have RM:∀ i∈f0,i < w.heap.size:=mz fc
  obtain ⟨c,g0,g1,g2,p,q,Dn,hc,hp,C0,wE⟩:=Cb j.toNat z fc hz
  subst Dn
  rw [h1,Nat.mul_one] at hp
  have FY:c.length=1:=by rw [E.len C0,h1]
  obtain ⟨c0,rfl⟩ : ∃ c0,c=[c0]:=by match c,FY with | [c0],_=>exact ⟨c0,rfl⟩
  have Xs:c0=u:=by
   have h2:(cur.toList.take xs.length)[j.toNat]? = some c0:=by
    rw [hc,List.append_assoc,List.getElem?_append_right (by omega),hp,Nat.sub_self]; rfl
   rw [List.getElem?_take,if_pos bn,Array.getElem?_toList,hu] at h2
   exact (Option.some.inj h2).symm
  subst Xs
  refine ⟨g1,b :: (g0++g2),C0,?_,b,cap,cur,g0,g2,p,c0,q,rfl,hg,rfl,⟨CZ,Dm,yK,h1⟩,hc,⟨hp,bn⟩,fun i hi=>RM i (by rcases List.mem_append.1 hi with hi | hi <;> simp [hi]),fun h' cu u z' k' hr=>wE h' [u] z' k' (fun i hi=>cu i (by simp [hi])) (fun i hi=>cu i (by simp [hi])) hr⟩
  refine (List.perm_append_comm (l₁:=g1) (l₂:=b :: (g0++g2))).trans ?_
  rw [List.cons_append]
  refine List.Perm.cons b ?_
  rw [List.append_assoc,List.append_assoc]
  exact List.Perm.append_left g0 List.perm_append_comm
end
structure iq where
 j:Nat
 d:Nat
 src:List Nat
 V:Type
 rt:Value→V→Value
 ps:Value→V→List av
abbrev MM:=List iq
def nr:List iq→Type
 | []=>Unit
 | a :: l=>a.V×nr l
def Bt (f:NV):List Nat→Value
 | []=>undef
 | [t]=>f t
 | ts=>.tuple (ts.map f).toArray
def AN (f:Fr) (t:Nat):Value:=match look f t with
 | some v=>v
 | none=>undef
def yF (a:iq) (r:NV):Value:=Bt r a.src
def Du (a:iq) (f:Fr):Value:=Bt (AN f) a.src
theorem Eu {f g:NV}:∀ {ts:LN},(∀ t∈ts,f t=g t)→Bt f ts=Bt g ts:=by
 intro ts h
 match ts,h with
 | [],_=>rfl
 | [t],h=>exact h t (by simp)
 | t :: s :: ts,h=>
  show Value.tuple (List.map f (t :: s :: ts)).toArray=Value.tuple (List.map g (t :: s :: ts)).toArray
  rw [List.map_congr_left h]
def mF:(ms:MM)→nr ms→Fr
 | [],_=>[]
 | a :: l,x=>(a.d,a.rt (Du a (mF l x.2)) x.1) :: mF l x.2
def Dv:(ms:MM)→nr ms→List av
 | [],_=>[]
 | a :: l,x=>a.ps (Du a (mF l x.2)) x.1++Dv l x.2
def na (A:LN):(ms:MM)→nr ms→Fr
 | [],_=>[]
 | a :: l,x=>bif gy a.j A then (a.d,a.rt (Du a (mF l x.2)) x.1) :: na A l x.2 else na A l x.2
def r4 (A:LN):(ms:MM)→nr ms→List av
 | [],_=>[]
 | a :: l,x=>bif gy a.j A then a.ps (Du a (mF l x.2)) x.1++r4 A l x.2 else r4 A l x.2
def qa (t:Nat):List iq→Option Nat
 | []=>none
 | a :: l=>bif Nat.beq t a.d then some a.j else qa t l
def Cf (ms:MM):List (Nat×Operand)→List Nat
 | []=>[]
 | (_,.tmp s) :: l=>match qa s ms with
  | some _=>s :: Cf ms l
  | none=>Cf ms l
 | _ :: l=>Cf ms l
def ixL (s:Nat):List Nat→Option Nat
 | []=>none
 | t :: l=>bif Nat.beq s t then some 0 else (ixL s l).map (·+1)
def aeL (v:Value) (k:Nat):Value:=match v with
 | .tuple vs=>vs.toList.getD k undef
 | _=>undef
def aeM (f:Fr) (ts:LN) (u:Value):Operand→Value
 | .tmp s=>match ixL s ts with
  | some k=>(match ts with
   | [_]=>u
   | _=>aeL u k)
  | none=>AN f s
 | x=>match bp f x with
  | some v=>v
  | none=>undef
def abX (k:Nat) (v:Value):List Value:=bif Nat.beq k 1 then [v] else match v with
 | .agg cs=>cs.toList
 | _=>[]
def UU (pl:List (Nat×Nat)):List (Nat×Value)→List Value→List Value
 | [],cs=>cs
 | (i,v) :: l,cs=>match Jo pl i with
  | some (off,k)=>UU pl l (cs.take off++abX k v++cs.drop (off+k))
  | none=>cs
def XT (pl:List (Nat×Nat)) (f:Fr) (ts:LN) (ps:List (Nat×Operand)) (zc:LV) (u:Value):List Value:=UU pl (ps.map fun p=>(p.1,aeM f ts u p.2)) zc
def tsB (A:LN) (ms:MM) (ts:LN):Bool:=ts.all fun t=>match qa t ms with
 | some j=>gy j A
 | none=>false
def ph (A:LN):List iq→Bool
 | []=>true
 | a :: l=>(bif gy a.j A then a.src.all (fun t=>match qa t l with
   | some j=>gy j A
   | none=>false) else true) && ph A l
def Cg:List iq→Bool
 | []=>true
 | a :: l=>a.src.all (fun t=>(qa t l).isSome) && Cg l
theorem JL {A:LN} {r:NV} {t:Nat}:∀ {ms:MM} {x:nr ms} {j:Nat},qa t ms=some j→gy j A=true→(∀ p∈na A ms x,r p.1=p.2)→look (mF ms x) t=some (r t):=by
 intro ms
 induction ms with
 | nil=>intro x j h; cases h
 | cons a l ih=>
  intro x j h hj hp
  unfold qa at h
  unfold mF look
  cases hb:Nat.beq t a.d with
  | true=>
   rw [hb] at h
   cases h
   have:=hp (a.d,a.rt (Du a (mF l x.2)) x.1) (by unfold na; rw [hj]; simp)
   simp only [cond_true]
   rw [Nat.eq_of_beq_eq_true hb,this]
  | false=>
   rw [hb] at h
   refine ih h hj fun p hm=>hp p ?_
   unfold na
   cases gy a.j A with
   | true=>exact List.mem_cons_of_mem _ hm
   | false=>exact hm
theorem R9 {r:NV} {t:Nat}:∀ {ms:MM} {x:nr ms},(qa t ms).isSome=true→(∀ p∈mF ms x,r p.1=p.2)→look (mF ms x) t=some (r t):=by
 intro ms
 induction ms with
 | nil=>intro x h; cases h
 | cons a l ih=>
  intro x h hp
  unfold qa at h
  unfold mF at hp ⊢
  unfold look
  cases hb:Nat.beq t a.d with
  | true=>
   simp only [cond_true]
   rw [Nat.eq_of_beq_eq_true hb,hp (a.d,a.rt (Du a (mF l x.2)) x.1) (by simp)]
  | false=>
   rw [hb] at h
   exact ih h fun p hm=>hp p (List.mem_cons_of_mem _ hm)
def HN (N:Nat→Prop) (w:World) (Δ:QE) (f:LN):Prop:=HL (fun _=>False) w Δ f∨∃ Fo Fr,f=Fo++Fr∧(uj Δ=false∧∀ b∈Fr,b < w.heap.size)∧HL (fun b=>N b∨b∈Fr) w Δ Fo
def PF (N:Nat→Prop) (a:iq):List Nat→World→(Nat→Value)→Value→Prop:=fun f w r _=>∃ v:a.V,r a.d=a.rt (yF a r) v∧HN N w (a.ps (yF a r) v) f∧f.Nodup
def MV (N:Nat→Prop) (a:iq):List Nat→World→(Nat→Value)→Value→Prop:=fun f w r x=>∃ v:a.V,x=a.rt (yF a r) v∧HN N w (a.ps (yF a r) v) f∧f.Nodup
def PG (N:Nat→Prop) (a:LN) (l:LO) (s:gp):Prop:=∀ f F (w w':World) (r r':NV) v,aq F w w'→(∀ b∈f,b ∉ F)→(∀ b∈F,¬ N b)→(∀ j∈a,∀ t,br l j=some t→r' t=r t)→s.V f w r v→s.V f w' r' v
theorem JM.n {N:Nat→Prop} {a:LN} {l:LO} {s:gp} (h:JM a l s):PG N a l s:=fun f F w w' r r' v hC hn _=>h f F w w' r r' v hC hn
section
variable {P:Program} {w w':World} {Z:Nat→Prop}
theorem HL.abY {F H:LN} {Δ:QE} (h:HL (fun _=>False) w Δ F) (hC:aq H w w') (hd:∀ b∈F,b ∉ H):HL (fun _=>False) w' Δ F:=by
 induction h with
 | nil=>exact .nil
 | @own e f F Δ h _ ih=>exact .own (h.fk hC (fun _ _ h=>h) fun b hb hm=>hd b (List.mem_append_left _ hm) hb) (ih fun b hb=>hd b (List.mem_append_right _ hb))
 | @fact e F Δ h _ ih=>
  refine .fact ?_ (ih hd)
  cases e with
  | rd o T v x=>
   obtain ⟨g,h1,h2⟩:=h
   have hg:g=[]:=by
    cases g with
    | nil=>rfl
    | cons b g=>exact absurd (h2 b (by simp)) (by cases o <;> simp [xg])
   subst hg
   exact ⟨[],T.fk h1 hC (fun _ h=>absurd h List.not_mem_nil),fun _ h=>absurd h List.not_mem_nil⟩
  | ad o1 o2 v j T x=>obtain ⟨_,_,u,g,_,_,h3,_⟩:=h; exact absurd h3 (by cases o1 <;> simp [xg])
  | bc p cs=>
   have hc:cs=[]:=by
    cases cs with
    | nil=>rfl
    | cons c cs=>exact (h.2 (by simp)).elim
   subst hc
   exact ⟨fun j u hj=>by simp at hj,fun hn=>absurd rfl hn⟩
  | hd v j u=>exact absurd h.2.2.2 List.not_mem_nil
  | _=>exact h.elim
theorem HL.abZ {F H:LN} {Δ:QE} (h:HL Z w Δ F) (hC:aq H w w') (hz:∀ b∈H,¬ Z b) (hd:∀ b∈F,b ∉ H):HL Z w' Δ F:=by
 induction h with
 | nil=>exact .nil
 | @own e f F Δ h _ ih=>exact .own (h.fk hC hz fun b hb hm=>hd b (List.mem_append_left _ hm) hb) (ih fun b hb=>hd b (List.mem_append_right _ hb))
 | @fact e F Δ h _ ih=>exact .fact (h.fk hC hz fun _ _ h=>nomatch h) (ih hd)
theorem HN.fk {N:Nat→Prop} {f H:LN} {Δ:QE} (h:HN N w Δ f) (hC:aq H w w') (hd:∀ b∈f,b ∉ H) (hz:∀ b∈H,¬ N b):HN N w' Δ f:=by
 rcases h with h | ⟨Fo,Fr,rfl,h1,h2⟩
 ·exact .inl (h.abY hC hd)
 ·exact .inr ⟨Fo,Fr,rfl,⟨h1.1,fun b hb=>Nat.lt_of_lt_of_le (h1.2 b hb) hC.size⟩,h2.abZ hC (fun b hb h=>h.elim (hz b hb) fun h=>hd b (List.mem_append_right _ h) hb) fun b hb=>hd b (List.mem_append_left _ hb)⟩
theorem HN.own {N:Nat→Prop} {f:LN} {Δ:QE} (h:HN N w Δ f) (ho:uj Δ=true):HL (fun _=>False) w Δ f:=by
 rcases h with h | ⟨_,_,_,h1,_⟩
 ·exact h
 ·rw [ho] at h1; cases h1.1
theorem HN.all {N:Nat→Prop} {f:LN} {Δ:QE} (h:HN N w Δ f):∃ Fo Fr,f=Fo++Fr∧(∀ b∈Fr,b < w.heap.size)∧HL (fun b=>N b∨b∈Fr) w Δ Fo:=by
 rcases h with h | ⟨Fo,Fr,rfl,h1,h2⟩
 ·exact ⟨f,[],by simp,fun b (h:b∈[])=>absurd h List.not_mem_nil,h.mono fun _ h=>h.elim⟩
 ·exact ⟨Fo,Fr,rfl,h1.2,h2⟩
theorem HL.up {F:LN} {Δ:QE} (h:HL (fun _=>False) w Δ F):HL Z w Δ F:=by
 induction h with
 | nil=>exact .nil
 | own h _ ih=>exact .own (h.mono fun _ h=>h.elim) ih
 | fact h _ ih=>exact .fact (h.mono (fun _ h=>h.elim) fun _ h=>h) ih
theorem HL.app {Δ Δ':QE} {F F':LN} (h:HL Z w Δ F) (k:HL Z w Δ' F'):HL Z w (Δ++Δ') (F++F'):=by
 induction h with
 | nil=>exact k
 | own h _ ih=>rw [List.append_assoc]; exact .own h ih
 | fact h _ ih=>exact .fact h ih
theorem MR {a:iq} {r r':NV} (h:∀ t∈a.src,r' t=r t):yF a r'=yF a r:=Eu h
theorem PH {l:LO} {a:LN} {b:Bool} {m:iq} (hs:∀ t∈m.src,∃ j∈a,br l j=some t):PG Z a l ⟨b,MV Z m⟩:=by
 intro f F w w' r r' x hC hn hz hr ⟨v,h1,h2,h3⟩
 have e:=MR (a:=m) (r:=r) (r':=r') fun t ht=>by
  obtain ⟨j,hj,hd⟩:=hs t ht
  exact hr j hj t hd
 refine ⟨v,by rw [e]; exact h1,by rw [e]; exact h2.fk hC hn hz,h3⟩
theorem NZ {l:LO} {a:LN} {b:Bool} {m:iq} (hd:∃ j∈a,br l j=some m.d) (hs:∀ t∈m.src,∃ j∈a,br l j=some t):PG Z a l ⟨b,PF Z m⟩:=by
 intro f F w w' r r' x hC hn hz hr ⟨v,h1,h2,h3⟩
 have e:=MR (a:=m) (r:=r) (r':=r') fun t ht=>by
  obtain ⟨j,hj,hd⟩:=hs t ht
  exact hr j hj t hd
 obtain ⟨j,hj,hjd⟩:=hd
 refine ⟨v,by rw [e,hr j hj _ hjd]; exact h1,by rw [e]; exact h2.fk hC hn hz,h3⟩
theorem jg.more {l:LO} {m i:Nat} {U:LL} {S S':List gp} {r0:NV} {w0:World} {H:LN} (h:jg P l m S U r0 w0 H i) (hi:i < S.length):jg P l m (S++S') U r0 w0 H i:=by
 intro o s ho hs g r w hC hV hO hn kp hd hf
 rw [List.getElem?_append_left hi] at hs
 refine h o s ho hs g r w hC hV (fun j hj d ju s' fi=>hO j hj d ju s' (by rw [List.getElem?_append_left (List.getElem?_eq_some_iff.1 fi).1]; exact fi)) (fun j hj=>?_) kp hd hf
 have:=hn j hj
 refine ⟨fun d ju=>?_,fun ju s' fi cu=>?_⟩
 ·have h2:=this.1 d ju
  by_cases hl:j < S.length
  ·rw [List.getElem?_append_left hl] at h2; exact h2
  ·rw [List.getElem?_eq_none (by omega)]; trivial
 ·exact this.2 ju s' (by rw [List.getElem?_append_left (List.getElem?_eq_some_iff.1 fi).1]; exact fi) cu
end
inductive fB (A:LN):Option (Bool×Nat×Value)→List (Nat×Nat×Value)→Fr→Fr→Prop
 | nil {base:Fr}:fB A none [] base base
 | cons {j d:Nat} {u:Value} {l:LQ} {base fr:Fr} (h:fB A (some (gy j A,d,u)) l base fr):fB A none ((j,d,u) :: l) base fr
 | fk {d:Nat} {u:Value} {l:LQ} {base fr:Fr} (h:fB A none l base fr):fB A (some (true,d,u)) l base ((d,u) :: fr)
 | drop {d:Nat} {u:Value} {l:LQ} {base fr:Fr} (h:fB A none l base fr):fB A (some (false,d,u)) l base fr
theorem wF.Dq {Γ Γ':QE} {v:Addr} {o:Bool} {α:Type} {E:ai α} {x:α} {e:av} (h:wF Γ v o E x e Γ') {Z:Nat→Prop} {w:World}:∀ {cur F:LN},SA Z w Γ cur F→(v.block∈cur∨v.block∈F)∨Z v.block:=by
 induction h with
 | @ad o1 o2 α E v j x e Γ=>
  intro cur F hS
  obtain ⟨⟨j0,j1,u,g,h1,h2,h3,h4⟩,h5⟩:=hS
  cases o1 with
  | false=>exact .inr h3
  | true=>exact .inl (.inl h3)
 | @there o2 α E v x e a Γ Γ' h ih=>
  intro cur F hS
  cases a with
  | own T v x=>obtain ⟨f,F',rfl,h2,h3⟩:=hS; exact (ih h3).imp (fun h=>.inr (List.mem_append.2 h)) id
  | om e E v xs=>obtain ⟨f,F',rfl,h2,h3⟩:=hS; exact (ih h3).imp (fun h=>.inr (List.mem_append.2 h)) id
  | row b cs e=>obtain ⟨f,F',rfl,h2,h3⟩:=hS; exact (ih h3).imp (fun h=>h.imp id (List.mem_append_right _)) id
  | gv e E v xs j u=>obtain ⟨f,F',rfl,h2,h3⟩:=hS; exact (ih h3).imp (fun h=>.inr (List.mem_append.2 h)) id
  | _=>exact ih hS.2
inductive VQ (P:Program) (Γ:QE) (fr:Fr):Op→Value→Prop
 | mv {x:OO} {v:Value} (hx:bp fr x=some v):VQ P Γ fr (.move x) v
 | as {x:OO} {v:Value} (hx:bp fr x=some v):VQ P Γ fr (.assign x) v
 | pick {c x y:OO} {b:Bool} {v:Value} (hc:bp fr c=some (.bool b)) (hx:(bif b then bp fr x else bp fr y)=some v):VQ P Γ fr (.pick c x y) v
 | add {x y:OO} {t t':TI} {a b:Int} (hx:bp fr x=some (.int .i64 a)) (hy:bp fr y=some (.int .i64 b)):VQ P Γ fr (.binOp .add t x y t') (.int .i64 (aj (a+b)))
 | sub {x y:OO} {t t':TI} {a b:Int} (hx:bp fr x=some (.int .i64 a)) (hy:bp fr y=some (.int .i64 b)):VQ P Γ fr (.binOp .sub t x y t') (.int .i64 (aj (a - b)))
 | not {x:OO} {t:TI} {b:Bool} (hx:bp fr x=some (.bool b)):VQ P Γ fr (.unOp .not t x) (.bool (!b))
 | RV {x:OO} {a:Addr} (hx:bp fr x=some (.pointer (some a))):VQ P Γ fr (.nilCheck x) (.pointer (some a))
 | XC {s k off:Nat} {x:OO} {a a':Addr} [hf:n8 P s k off] (hx:bp fr x=some (.pointer (some a))) (ha:Fm a off a'):VQ P Γ fr (.fieldAddr s x k) (.pointer (some a'))
 | len {x:OO} {v:Value} {t:TI} {n:Nat} [ht:zA P t] (hx:bp fr x=some v) (hr:xA Γ v n):VQ P Γ fr (.call ⟨.builtin .len,#[x],#[t]⟩) (.int .i64 (n:Int))
 | UR {t:TI} {ps:List (Nat×Operand)} {zc cs:LV} {pl:List (Nat×Nat)} [hb:AJ P t zc pl] (hf:yV Γ fr pl ps zc cs):VQ P Γ fr (.build t ps.toArray) (.agg cs.toArray)
 | XJ {x:OO} {k k2:IntKind} {n:Int} {s t:TI} [ht:Js P s t k2] (hx:bp fr x=some (.int k n)):VQ P Γ fr (.convert s t x) (.int k2 (k2.wrap n))
 | mul {x y:OO} {t t':TI} {a b:Int} (hx:bp fr x=some (.int .i64 a)) (hy:bp fr y=some (.int .i64 b)):VQ P Γ fr (.binOp .mul t x y t') (.int .i64 (aj (a * b)))
 | lkp {κ υ:Type} {x y:OO} {v:Value} {t:TI} {bq:BEq κ} {ek:κ→Value} {eu:υ→Value} {xs:List (κ×υ)} {a:κ} {z0:υ} [ht:Pr P t κ υ bq ek eu] [hz:XA P t υ eu z0] (hx:bp fr x=some v) (hy:bp fr y=some (ek a)) (hr:Ig ek eu Γ v xs):VQ P Γ fr (.lookup t x y false) (eu ((vV xs a).getD z0))
theorem VQ.sound {P:Program} {Γ:QE} {fr:Fr} {op:Op} {u:Value} (h:VQ P Γ fr op u) {Z:Nat→Prop} {w:World} {cur F:LN} (hS:SA Z w Γ cur F) {r:NV} (ha:dg r fr) (d:Option Nat) (ty:TI) (pos:String) (ag:Array Edge) (g:Option (Nat×Bool)) :
  Rd P w r ⟨d,op,ty,pos,ag,g⟩ u:=by
 cases h with
 | mv hx=>exact Mv _ (bD ha hx)
 | as hx=>exact Av _ (bD ha hx)
 | @pick c x y b v hc hx=>
  intro w' _
  rw [MP (bD ha hc)]
  cases b
  ·rw [← bD ha hx]; rfl
  ·rw [← bD ha hx]; rfl
 | add hx hy=>exact Ba (bD ha hx) (bD ha hy)
 | sub hx hy=>exact Go.Li.Bs (bD ha hx) (bD ha hy)
 | not hx=>exact Nt (bD ha hx)
 | RV hx=>exact Nk (bD ha hx)
 | @XC s k off x a a' hf hx hq=>rw [hq.eq]; exact Fp hf.h (bD ha hx)
 | @XJ x k k2 n s t ht hx=>exact fun _ _=>MQ ht.h.1 ht.h.2 (bD ha hx)
 | mul hx hy=>exact Bm (bD ha hx) (bD ha hy)
 | @len x v t n ht hx hr=>
  obtain ⟨b,c,rfl⟩:=hr.sound hS
  obtain ⟨e,i,h1,_,_⟩:=ht.h
  exact fun _ _=>zF h1 (bD ha hx)
 | @lkp κ υ x y v t bq ek eu xs a z0 ht hz hx hy hr=>
  obtain ⟨f,hm⟩:=hr.sound hS
  obtain ⟨kt,vt,kd,h1,h2,h3⟩:=ht.h
  obtain ⟨kt',vt',i,g1,g2,g3⟩:=hz.h
  rw [h1] at g1
  cases g1
  exact fun w' hC=>N0 (ek:=ek) (ye:=eu) h3 h1 h2 g2 g3 (by rw [bD ha hx]; exact ai.fk _ hm hC fun _ _=>List.not_mem_nil) (bD ha hy)
 | @UR t ps zc cs pl hb hf=>
  obtain ⟨fs,i,z,h1,h2,h3,h4,h5⟩:=hb.h
  refine Bu ?_
  have:=hf.fill ha hS
  unfold Program.built
  rw [h3,h1]
  simp only [h4,h2]
  rw [show z.cells=zc.toArray by rw [← h5]]
  exact this
theorem fB.sound {A:LN} {q:Option (Bool×Nat×Value)} {sl:LQ} {base fr:Fr} {r:NV} (h:fB A q sl base fr) (hb:dg r base) :
  (∀ p∈sl,gy p.1 A=true→r p.2.1=p.2.2)→(∀ b d u,q=some (b,d,u)→b=true→r d=u)→dg r fr:=by
 induction h with
 | nil=>intro _ _; exact hb
 | @cons j d u l base fr _ ih=>
  intro h1 _
  refine ih hb (fun p hp=>h1 p (by simp [hp])) ?_
  rintro b d' u' he hbt
  cases he
  exact h1 (j,d,u) (by simp) hbt
 | @fk d u l base fr _ ih=>
  intro h1 h2
  intro s v hl
  unfold look at hl
  cases JN:Nat.beq s d with
  | true=>rw [JN] at hl; cases hl; rw [Nat.eq_of_beq_eq_true JN]; exact h2 true d _ rfl rfl
  | false=>rw [JN] at hl; exact ih hb h1 (fun _ _ _ h=>nomatch h) s v hl
 | drop _ ih=>intro h1 _; exact ih hb h1 (fun _ _ _ h=>nomatch h)
def Bv:List (Nat×Nat×Value)→Fr→Fr
 | [],f=>f
 | (_,d,u) :: l,f=>(d,u) :: Bv l f
inductive N1 (P:Program) (f:FuncId) (xs:List Operand) (fr:Fr) (Γ:QE) {β V:Type} (mo:Option β) (rt:β→V→List Value) (ps:β→V→List av):Prop
 | mk {vs:LV} {Δ:QE} (hx:zv fr xs=some vs) (hc:Ct P f true mo vs Δ rt ps) (hd:FO Δ) (hr:ER true Γ Δ):N1 P f xs fr Γ mo rt ps
inductive FnJ (P:Program) (f:FuncId):Prop
 | mk [h:bm P f]:FnJ P f
inductive N2 (P:Program) (f:FuncId) (as bs:LV) (xs:List Operand) (fr:Fr) (Γ:QE) {β V:Type} (mo:Option β) (rt:β→V→List Value) (ps:β→V→List av):Prop
 | mk {vs us ws:LV} {Δ:QE} (hx:zv fr xs=some vs) (h1:l5 vs bs us) (h2:l5 as us ws) (hc:Ct P f true mo ws Δ rt ps) (hd:FO Δ) (hr:ER true Γ Δ):N2 P f as bs xs fr Γ mo rt ps
inductive Gc (P:Program) (f:FuncId) (xs:List Operand) (fr:Fr) (hd:QE) (Γ:QE) {β V:Type} (mo:Option β) (rt:β→V→List Value) (ps:β→V→List av):Prop
 | mk {vs:LV} {Δ Γ':QE} (hx:zv fr xs=some vs) (hc:Ct P f true mo vs Δ rt ps) (ho:EO hd Δ Γ') (hr:ER true Γ Δ):Gc P f xs fr hd Γ mo rt ps
inductive nt:List iq→Prop
 | nil:nt []
 | cons {a:iq} {l:MM} (h:F6 a.V) (k:nt l):nt (a :: l)
theorem nt.ne {ms:MM} (h:nt ms):Nonempty (nr ms):=by
 induction h with
 | nil=>exact ⟨()⟩
 | cons h _ ih=>obtain ⟨a⟩:=h.ne; obtain ⟨b⟩:=ih; exact ⟨(a,b)⟩
inductive Il:List iq→Nat→Bool→Prop
 | here {a:iq} {l:MM}:Il (a :: l) a.d true
 | there {a:iq} {l:MM} {t:Nat} {b:Bool} (h:Il l t b):Il (a :: l) t b
 | nil {t:Nat}:Il [] t false
inductive XU (fr:Fr) (t k:Nat):Prop
 | mk {cs:LV} {v:Value} (h:look fr t=some (.tuple cs.toArray)) (hc:cs[k]? = some v):XU fr t k
inductive Sa (fr:Fr) (Γ:QE) (t:Nat):Prop
 | mk {v:Value} (h:look fr t=some v) (hc:One Γ v):Sa fr Γ t
inductive Sb (fr:Fr) (t n:Nat):Prop
 | mk {cs:LV} (h:look fr t=some (.agg cs.toArray)) (hl:cs.length=n):Sb fr t n
inductive XV (fr:Fr) (Γ:QE) (t n:Nat):Prop
 | mk {v:Value} (h:look fr t=some v) (hc:xA Γ v n):XV fr Γ t n
inductive JA (R S:Type):Type 1
 | a (as:LL) (ops:LO) (i:Nat) (sl:LQ) (ms:MM) (Γ:QE) (m:Option (Out S R))
 | o (A:LN) (op:Op) (d:Nat) (ty:TI) (as:LL) (ops:LO) (i:Nat) (sl:LQ) (ms:MM) (Γ:QE) (m:Option (Out S R))
 | ow (b:Bool) (A:LN) (op:Op) (d:Nat) (ty:TI) (as:LL) (ops:LO) (i:Nat) (sl:LQ) (ms:MM) (Γ:QE) (m:Option (Out S R))
 | ix (b:Bool) (v:Value) (fr:Fr) (x y:OO) (t:TI) (A:LN) (d:Nat) (ty:TI) (as:LL) (ops:LO) (i:Nat) (sl:LQ) (ms:MM) (Γ:QE) (m:Option (Out S R))
 | lb (b:Bool) (v:Value) (j:Int) (fr:Fr) (t:TI) (x:OO) (A:LN) (d:Nat) (ty:TI) (as:LL) (ops:LO) (i:Nat) (sl:LQ) (ms:MM) (Γ:QE) (m:Option (Out S R))
 | ap (us:LN) (t1 t2:Nat) (t:TI) (A:LN) (d:Nat) (ty:TI) (as:LL) (ops:LO) (i:Nat) (sl:LQ) (ms:MM) (Γ:QE) (m:Option (Out S R))
 | la (fr:Fr) (ad:Addr) (lk:Option Nat) (t:TI) (x:OO) (A:LN) (d:Nat) (ty:TI) (as:LL) (ops:LO) (i:Nat) (sl:LQ) (ms:MM) (Γ:QE) (m:Option (Out S R))
 | ld {α:Type} (E:ai α) (z:α) (fr:Fr) (ad:Addr) (t:TI) (x:OO) (A:LN) (d:Nat) (ty:TI) (as:LL) (ops:LO) (i:Nat) (sl:LQ) (ms:MM) (Γ:QE) (m:Option (Out S R))
 | oc (us:LN) (f:FuncId) (xs:List Operand) (bc:Array TypeId) (A:LN) (d:Nat) (ty:TI) (as:LL) (ops:LO) (i:Nat) (sl:LQ) (ms:MM) (Γ:QE) (m:Option (Out S R))
 | os (A:LN) (op:Op) (ty:TI) (as:LL) (ops:LO) (i:Nat) (sl:LQ) (ms:MM) (Γ:QE) (m:Option (Out S R))
 | cr {V:Type} (u:V→Value) (ps:V→List av) (d:Nat) (as:LL) (ops:LO) (i:Nat) (sl:LQ) (ms:MM) (Γ:QE) (m:Option (Out S R))
 | p (Δ:QE) (as:LL) (ops:LO) (i:Nat) (sl:LQ) (ms:MM) (Γ:QE) (m:Option (Out S R))
inductive MS:List av→Value→Bool→Prop
 | here {α:Type} {T:ai α} {v:Value} {x:α} {Γ:QE}:MS (.own T v x :: Γ) v true
 | there {e:av} {v:Value} {b:Bool} {Γ:QE} (h:MS Γ v b):MS (e :: Γ) v b
 | nil {v:Value}:MS [] v false
inductive xI:List iq→Nat→iq→List iq→Prop
 | here {a:iq} {l:MM}:xI (a :: l) a.d a l
 | there {a b:iq} {l l':MM} {t:Nat} (h:xI l t a l'):xI (b :: l) t a (b :: l')
inductive Fq:List iq→Nat→iq→List iq→Prop
 | here {a:iq} {l:MM}:Fq (a :: l) a.j a l
 | there {a b:iq} {l l':MM} {t:Nat} (h:Fq l t a l'):Fq (b :: l) t a (b :: l')
def Sd (j i:Nat) (sl:LQ):List (Nat×Nat×Value):=sl.map fun p=>bif Nat.beq p.1 j then (i,p.2) else p
def JO (sl:LQ) (j d:Nat) (b:Bool):Bool:=sl.any fun q=>Nat.beq q.1 j && (Nat.beq q.2.1 d && (match q.2.2 with | .bool c=>(bif b then c else !c) | _=>false))
theorem Im {sl:LQ} {j d:Nat} {b:Bool} (h:JO sl j d b=true):(j,d,.bool b)∈sl:=by
 unfold JO at h
 rw [List.any_eq_true] at h
 obtain ⟨⟨j',d',v⟩,hq,h⟩:=h
 rw [Bool.and_eq_true,Bool.and_eq_true] at h
 obtain ⟨h1,h2,h3⟩:=h
 obtain rfl:j'=j:=Nat.eq_of_beq_eq_true h1
 obtain rfl:d'=d:=Nat.eq_of_beq_eq_true h2
 cases v with
 | bool c=>cases b <;> cases c <;> first | exact hq | (cases h3; done)
 | _=>cases h3
def UW (sl:LQ):List Nat→Bool
 | [j,d,b]=>JO sl (j - 1000000) (d - 1000000) (Nat.beq b 1000001)
 | _=>true
def gdB (U:LL) (sl:LQ):Bool:=bif Nat.ble 1000000 ((U.getLastD []).headD 0) then UW sl (U.getLastD []) else true
def By (U:LL) (sl:LQ) (ms:MM):Bool:=(U.all fun us=>us.all fun j=>ms.all fun a=>!Nat.beq a.j j) && gdB U sl
inductive AD {R S:Type} (tq:Bool) (P:Program) (cx:Cx R) (K:dq R S) (l tail:LO) (base:Fr) (U:LL):List av→JA R S→Prop
 | nil {hd:QE} {i:Nat} {sl:LQ} {ms:MM} {Γ:QE} {m:Option (Out S R)} (Bz:Cg ms=true) (he:By U sl ms=true) (h:∀ x:nr ms,D P cx (.p (Bv sl (mF ms x)) (Dv ms x) base Γ fun fr Γ=>.tg tq (Ce tail) l tail K Γ fr m)):AD tq P cx K l tail base U hd (.a [] [] i sl ms Γ m)
 | gbt {hd:QE} {j d:Nat} {b:Bool} {q:Nat×Nat×Value} {as:LL} {ops:LO} {i:Nat} {sl:LQ} {ms:MM} {Γ:QE} {m:Option (Out S R)} (h:AD tq P cx K l tail base U hd (.a as ops i (q :: (j,d,.bool true) :: sl) ms Γ m)):AD tq P cx K l tail base U hd (.a as ops i ((j,d,.bool b) :: q :: sl) ms Γ (bif b then m else none))
 | gbf {hd:QE} {j d:Nat} {b:Bool} {q:Nat×Nat×Value} {as:LL} {ops:LO} {i:Nat} {sl:LQ} {ms:MM} {Γ:QE} {m:Option (Out S R)} (h:AD tq P cx K l tail base U hd (.a as ops i (q :: (j,d,.bool false) :: sl) ms Γ m)):AD tq P cx K l tail base U hd (.a as ops i ((j,d,.bool b) :: q :: sl) ms Γ (bif b then none else m))
 | skp {hd:QE} {A:LN} {dst:Option Nat} {op:Op} {ty:TI} {pos:String} {ag:Array Edge} {j d:Nat} {p:Bool} {as:LL} {ops:LO} {i:Nat} {sl:LQ} {ms:MM} {Γ:QE} {m:Option (Out S R)} (ju:br l j=some d) (hb:JO sl j d (!p)=true) (hA:gy j A=true) (h:AD tq P cx K l tail base U hd (.a as ops (i+1) sl ms Γ m)):AD tq P cx K l tail base U hd (.a (A :: as) (⟨dst,op,ty,pos,ag,some (j,p)⟩ :: ops) i sl ms Γ m)
 | cons {hd:QE} {A:LN} {as:LL} {op:Op} {d:Nat} {ty:TI} {pos:String} {ag:Array Edge} {ops:LO} {i:Nat} {sl:LQ} {ms:MM} {Γ:QE} {m:Option (Out S R)} (h:AD tq P cx K l tail base U hd (.o A op d ty as ops i sl ms Γ m)) :
   AD tq P cx K l tail base U hd (.a (A :: as) (⟨some d,op,ty,pos,ag,none⟩ :: ops) i sl ms Γ m)
 | N3 {hd:QE} {A:LN} {as:LL} {op:Op} {ty:TI} {pos:String} {ag:Array Edge} {ops:LO} {i:Nat} {sl:LQ} {ms:MM} {Γ:QE} {m:Option (Out S R)} (h:AD tq P cx K l tail base U hd (.os A op ty as ops i sl ms Γ m)) :
   AD tq P cx K l tail base U hd (.a (A :: as) (⟨none,op,ty,pos,ag,none⟩ :: ops) i sl ms Γ m)
 | XI {hd:QE} {t e:TI} {t1 j1 n:Nat} {y:OO} {u:Value} {us cs ds:LV} {p8:MM} {fr:Fr} {A:LN} {as:LL} {ty:TI} {ops:LO} {i:Nat} {sl:LQ} {ms:MM} {Γ:QE} {m:Option (Out S R)} [ht:wk P t n]
   (h1:xI ms t1 ⟨j1,t1,[],Nat,fun _ b=>.pointer (some ⟨b,0,none⟩),fun _ b=>[.row b cs e]⟩ p8) (hv:fB A none sl base fr) (hy:bp fr y=some u) (hc:um Γ u us) (hn:us.length=n) (hs:vT us 0 cs ds) (ho:xx Γ us) (h4:gy j1 A=true) (h6:U.getD i []=[j1])
   (h:AD tq P cx K l tail base U hd (.a as ops (i+1) sl (⟨i,t1,[],Nat,fun _ b=>.pointer (some ⟨b,0,none⟩),fun _ b=>[.row b ds e]⟩ :: p8) Γ m)):AD tq P cx K l tail base U hd (.os A (.store t (.tmp t1) y) ty as ops i sl ms Γ m)
 | Jw {hd:QE} {α:Type} {A:LN} {as:LL} {d:Nat} {t e ty:TI} {E:ai α} {z0:α} {bt:Nat} {ops:LO} {i:Nat} {sl:LQ} {ms:MM} {Γ:QE} {m:Option (Out S R)} [hz:vi P t α e E z0 bt]
   (h:AD tq P cx K l tail base U hd (.a as ops (i+1) sl (⟨i,d,[],Value,fun _ v=>v,fun _ v=>[.own (aI e E) v []]⟩ :: ms) Γ m)):AD tq P cx K l tail base U hd (.o A (.buildSlice t 0 #[]) d ty as ops i sl ms Γ m)
 | sw4 {hd:QE} {t st e:Nat} {α:Type} {E:ai α} {z0:α} {bt:Nat} {b:Bool} {A:LN} {as:LL} {d:Nat} {ty:TI} {ops:LO} {i:Nat} {sl:LQ} {ms:MM} {Γ:QE} {m:Option (Out S R)} [hz:vi P st α e E z0 bt] (hw:Il ms t b) (h:AD tq P cx K l tail base U hd (.ow b A (.buildSlice st 1 #[(0,.tmp t)]) d ty as ops i sl ms Γ m)):AD tq P cx K l tail base U hd (.o A (.buildSlice st 1 #[(0,.tmp t)]) d ty as ops i sl ms Γ m)
 | ltn {hd:QE} {t e:TI} {n:Nat} {ps:List (Nat×Operand)} {us:LV} {fr:Fr} {A:LN} {as:LL} {d:Nat} {ty:TI} {ops:LO} {i:Nat} {sl:LQ} {ms:MM} {Γ:QE} {m:Option (Out S R)} [hz:Jp P t e] (hv:fB A none sl base fr) (hl:xz Γ fr 0 ps us) (hn:us.length=n) (hb:(Nat.ble 1 n && Nat.ble n 16777216)=true)
   (h:AD tq P cx K l tail base U hd (.a as ops (i+1) sl (⟨i,d,[],Nat,fun _ b=>.slice (some ⟨b,0,none⟩) n n,fun _ b=>[.row b us e]⟩ :: ms) Γ m)):AD tq P cx K l tail base U hd (.o A (.buildSlice t n ps.toArray) d ty as ops i sl ms Γ m)
 | ltu {hd:QE} {t e:TI} {n:Nat} {ps:List (Nat×Operand)} {us:LV} {fr:Fr} {A:LN} {as:LL} {d:Nat} {ty:TI} {ops:LO} {i:Nat} {sl:LQ} {ms:MM} {Γ:QE} {m:Option (Out S R)} [hz:MK P t e] (hv:fB A none sl base fr) (hl:xz Γ fr 0 ps us) (hn:us.length=n) (hb:(Nat.ble 1 n && Nat.ble n 16777216)=true)
   (h:AD tq P cx K l tail base U hd (.a as ops (i+1) sl (⟨i,d,[],Nat,fun _ b=>.slice (some ⟨b,0,none⟩) n n,fun _ b=>[.row b us e]⟩ :: ms) Γ m)):AD tq P cx K l tail base U hd (.o A (.buildSlice t n ps.toArray) d ty as ops i sl ms Γ m)
 | sw1 {hd:QE} {t:Nat} {b:Bool} {A:LN} {as:LL} {d:Nat} {ty:TI} {ops:LO} {i:Nat} {sl:LQ} {ms:MM} {Γ:QE} {m:Option (Out S R)} (hw:Il ms t b) (h:AD tq P cx K l tail base U hd (.ow b A (.move (.tmp t)) d ty as ops i sl ms Γ m)):AD tq P cx K l tail base U hd (.o A (.move (.tmp t)) d ty as ops i sl ms Γ m)
 | sw2 {hd:QE} {t k:Nat} {b:Bool} {A:LN} {as:LL} {d:Nat} {ty:TI} {ops:LO} {i:Nat} {sl:LQ} {ms:MM} {Γ:QE} {m:Option (Out S R)} (hw:Il ms t b) (h:AD tq P cx K l tail base U hd (.ow b A (.extract (.tmp t) k) d ty as ops i sl ms Γ m)):AD tq P cx K l tail base U hd (.o A (.extract (.tmp t) k) d ty as ops i sl ms Γ m)
 | wlt {hd:QE} {t e:TI} {α:Type} {E:ai α} {z0:α} {bt:Nat} {u:Value} {x:OO} {fr:Fr} {A:LN} {as:LL} {d:Nat} {ty:TI} {ops:LO} {i:Nat} {sl:LQ} {ms:MM} {Γ:QE} {m:Option (Out S R)} [hz:vi P t α e E z0 bt] (hv:fB A none sl base fr) (hx:bp fr x=some u) (h1:One Γ u)
   (h:AD tq P cx K l tail base U hd (.a as ops (i+1) sl (⟨i,d,[],Nat,fun _ b=>.slice (some ⟨b,0,none⟩) 1 1,fun _ b=>[.row b [u] e]⟩ :: ms) Γ m)):AD tq P cx K l tail base U hd (.ow false A (.buildSlice t 1 #[(0,x)]) d ty as ops i sl ms Γ m)
 | sw5 {hd:QE} {t st:Nat} {b:Bool} {A:LN} {as:LL} {d:Nat} {ty:TI} {ops:LO} {i:Nat} {sl:LQ} {ms:MM} {Γ:QE} {m:Option (Out S R)} (hw:Il ms t b) (h:AD tq P cx K l tail base U hd (.ow b A (.call ⟨.builtin .len,#[.tmp t],#[st]⟩) d ty as ops i sl ms Γ m)):AD tq P cx K l tail base U hd (.o A (.call ⟨.builtin .len,#[.tmp t],#[st]⟩) d ty as ops i sl ms Γ m)
 | mln {hd:QE} {t n:Nat} {st:TI} {A:LN} {as:LL} {d:Nat} {ty:TI} {ops:LO} {i:Nat} {sl:LQ} {ms:MM} {Γ:QE} {m:Option (Out S R)} [ht:zA P st] (hi:nt ms) (Bz:ph A ms=true) (hx:∀ x:nr ms,XV (na A ms x) (r4 A ms x) t n) (h:AD tq P cx K l tail base U hd (.a as ops (i+1) ((i,d,.int .i64 (n:Int)) :: sl) ms Γ m)):AD tq P cx K l tail base U hd (.ow true A (.call ⟨.builtin .len,#[.tmp t],#[st]⟩) d ty as ops i sl ms Γ m)
 | UX {hd:QE} {t:TI} {cs:LV} {A:LN} {as:LL} {d:Nat} {ty:TI} {ops:LO} {i:Nat} {sl:LQ} {ms:MM} {Γ:QE} {m:Option (Out S R)} [hz:zB P t cs] (h:AD tq P cx K l tail base U hd (.a as ops (i+1) sl (⟨i,d,[],Nat,fun _ b=>.pointer (some ⟨b,0,none⟩),fun _ b=>[.row b cs t]⟩ :: ms) Γ m)):AD tq P cx K l tail base U hd (.o A (.alloc t) d ty as ops i sl ms Γ m)
 | XH {hd:QE} {us:LN} {t1 t2:Nat} {t:TI} {A:LN} {as:LL} {d:Nat} {ty:TI} {ops:LO} {i:Nat} {sl:LQ} {ms:MM} {Γ:QE} {m:Option (Out S R)} (hU:U.getD i []=us) (h:AD tq P cx K l tail base U hd (.ap us t1 t2 t A d ty as ops i sl ms Γ m)):AD tq P cx K l tail base U hd (.o A (.call ⟨.builtin .append,#[.tmp t1,.tmp t2],#[t,t]⟩) d ty as ops i sl ms Γ m)
 | apH {hd ju:QE} {α:Type} {t e e' et:TI} {E E':ai α} {z0:α} {bt t1 t2 j2:Nat} {v u yv:Value} {j:Int} {y:α} {z:List α} {xs:List (List α)} {o1 o2:Bool} {Γx:QE} {JP:MM} {fr:Fr} {f:Unit→Option (Out S R)} {A:LN} {as:LL} {d:Nat} {ty:TI} {ops:LO} {i:Nat} {sl:LQ} {ms:MM} {Γ:QE} [hT:vi P t α e E z0 bt]
   (hV:((U.set i []).all fun us=>!(us.contains l.length))=true) (hv:fB A none sl base fr) (hs:look fr t1=some u) (h2:xI ms t2 ⟨j2,t2,[],Nat,fun _ b=>.slice (some ⟨b,0,none⟩) 1 1,fun _ b=>[.row b [yv] et]⟩ JP) (h5:gy j2 A=true) (hl:Loc hd u (.row v j)) (hz:qh hd u o1 o2 E' z vv Γx) (h1:ed hd (.own (aI e' (aI e E)) v xs) ju) (hr:RT (aI e E) (bE E')) (hy:EZ [] E yv y [])
   (h:AD tq P cx K l tail base U ju (.a as ops (i+1) sl (⟨i,d,[],Value,fun _ v'=>v',fun _ v'=>[.own (aI e E) v' (z++[y]),.own (wN e' (aI e E) j.toNat) v xs]⟩ :: ms) Γ (f ()))):AD tq P cx K l tail base U hd (.ap [l.length] t1 t2 t A d ty as ops i sl ms Γ (fits bt (z.length+1)>>=f))
 | ap1 {hd:QE} {us:LN} {t e et:TI} {E:ai Int} {z0:Int} {bt t1 t2 j2 d2:Nat} {k:IntKind} {y:Int} {xs:List Int} {a1:iq} {p8 JP:MM} {f:Unit→Option (Out S R)} {A:LN} {as:LL} {d:Nat} {ty:TI} {ops:LO} {i:Nat} {sl:LQ} {ms:MM} {Γ:QE} [hz:vi P t Int e E z0 bt] (h1:xI ms t1 a1 p8) (h2:xI p8 t2 ⟨j2,d2,[],Nat,fun _ b=>.slice (some ⟨b,0,none⟩) 1 1,fun _ b=>[.row b [.int k y] et]⟩ JP) (h3:∀ u v,a1.ps u v=[.own (aI e (aL k)) (a1.rt u v) xs]) (hu:us=[a1.j]) (h4:gy a1.j A=true) (h5:gy j2 A=true)
   (h:AD tq P cx K l tail base U hd (.a as ops (i+1) sl (⟨i,d,[],Value,fun _ v=>v,fun _ v=>[.own (aI e (aL k)) v (xs++[y])]⟩ :: p8) Γ (f ()))):AD tq P cx K l tail base U hd (.ap us t1 t2 t A d ty as ops i sl ms Γ (fits bt (xs.length+1)>>=f))
 | wv {hd:QE} {op:Op} {u:Value} {fr:Fr} {A:LN} {as:LL} {d:Nat} {ty:TI} {ops:LO} {i:Nat} {sl:LQ} {ms:MM} {Γ:QE} {m:Option (Out S R)} (hv:fB A none sl base fr) (hq:VQ P Γ fr op u) (h:AD tq P cx K l tail base U hd (.a as ops (i+1) ((i,d,u) :: sl) ms Γ m)):AD tq P cx K l tail base U hd (.ow false A op d ty as ops i sl ms Γ m)
 | mmv {hd:QE} {t:Nat} {A:LN} {as:LL} {d:Nat} {ty:TI} {ops:LO} {i:Nat} {sl:LQ} {ms:MM} {Γ:QE} {m:Option (Out S R)} (hi:nt ms) (Bz:ph A ms=true) (hj:∃ j,qa t ms=some j∧gy j A=true) (h:AD tq P cx K l tail base U hd (.a as ops (i+1) sl (⟨i,d,[t],Unit,fun u _=>u,fun _ _=>[]⟩ :: ms) Γ m)):AD tq P cx K l tail base U hd (.ow true A (.move (.tmp t)) d ty as ops i sl ms Γ m)
 | mbl {hd:QE} {t:TI} {ps:List (Nat×Operand)} {zc:LV} {pl:List (Nat×Nat)} {fr:Fr} {A:LN} {as:LL} {d:Nat} {ty:TI} {ops:LO} {i:Nat} {sl:LQ} {ms:MM} {Γ:QE} {m:Option (Out S R)} [hb:AJ P t zc pl] (hi:nt ms) (Bz:ph A ms=true) (rb:(Cf ms ps).isEmpty=false) (hj:tsB A ms (Cf ms ps)=true) (hv:fB A none sl base fr)
   (hx:∀ x:nr ms,yV (r4 A ms x++Γ) (na A ms x++fr) pl ps zc (XT pl fr (Cf ms ps) ps zc (Bt (AN (mF ms x)) (Cf ms ps))))
   (h:AD tq P cx K l tail base U hd (.a as ops (i+1) sl (⟨i,d,Cf ms ps,Unit,fun u _=>.agg (XT pl fr (Cf ms ps) ps zc u).toArray,fun _ _=>[]⟩ :: ms) Γ m)):AD tq P cx K l tail base U hd (.o A (.build t ps.toArray) d ty as ops i sl ms Γ m)
 | mex {hd:QE} {t k:Nat} {A:LN} {as:LL} {d:Nat} {ty:TI} {ops:LO} {i:Nat} {sl:LQ} {ms:MM} {Γ:QE} {m:Option (Out S R)} (hi:nt ms) (Bz:ph A ms=true) (hj:∃ j,qa t ms=some j∧gy j A=true) (hx:∀ x:nr ms,XU (na A ms x) t k) (h:AD tq P cx K l tail base U hd (.a as ops (i+1) sl (⟨i,d,[t],Unit,fun u _=>N4 u k,fun _ _=>[]⟩ :: ms) Γ m)):AD tq P cx K l tail base U hd (.ow true A (.extract (.tmp t) k) d ty as ops i sl ms Γ m)
 | mlt {hd:QE} {t:Nat} {PI e:TI} {α:Type} {E:ai α} {z0:α} {bt:Nat} {A:LN} {as:LL} {d:Nat} {ty:TI} {ops:LO} {i:Nat} {sl:LQ} {ms:MM} {Γ:QE} {m:Option (Out S R)} [hz:vi P PI α e E z0 bt] (hi:nt ms) (Bz:ph A ms=true) (hj:∃ j,qa t ms=some j∧gy j A=true) (hx:∀ x:nr ms,Sa (na A ms x) (r4 A ms x) t)
   (h:AD tq P cx K l tail base U hd (.a as ops (i+1) sl (⟨i,d,[t],Nat,fun _ b=>.slice (some ⟨b,0,none⟩) 1 1,fun u b=>[.row b [u] e]⟩ :: ms) Γ m)):AD tq P cx K l tail base U hd (.ow true A (.buildSlice PI 1 #[(0,.tmp t)]) d ty as ops i sl ms Γ m)
 | mls {hd:QE} {t n:Nat} {PI e:TI} {A:LN} {as:LL} {d:Nat} {ty:TI} {ops:LO} {i:Nat} {sl:LQ} {ms:MM} {Γ:QE} {m:Option (Out S R)} [hz:Jr P PI e n] (hb:(Nat.ble 1 1 && Nat.ble (1 * n) 16777216)=true) (hi:nt ms) (Bz:ph A ms=true) (hj:∃ j,qa t ms=some j∧gy j A=true) (hx:∀ x:nr ms,Sb (na A ms x) t n)
   (h:AD tq P cx K l tail base U hd (.a as ops (i+1) sl (⟨i,d,[t],Nat,fun _ b=>.slice (some ⟨b,0,none⟩) 1 1,fun u b=>[.row b u.cells.toList e]⟩ :: ms) Γ m)):AD tq P cx K l tail base U hd (.o A (.buildSlice PI 1 #[(0,.tmp t)]) d ty as ops i sl ms Γ m)
 | mk {hd:QE} {t e:TI} {α:Type} {E:ai α} {z0:α} {bt:Nat} {x:OO} {z:Int} {fr:Fr} {f:Nat→Option (Out S R)} {A:LN} {as:LL} {d:Nat} {ty:TI} {ops:LO} {i:Nat} {sl:LQ} {ms:MM} {Γ:QE} [hz:vi P t α e E z0 bt] (hv:fB A none sl base fr) (hx:bp fr x=some (.int .i64 z))
   (h:∀ n,AD tq P cx K l tail base U hd (.a as ops (i+1) sl (⟨i,d,[],Value,fun _ v=>v,fun _ v=>[.own (aI e E) v (List.replicate n z0)]⟩ :: ms) Γ (f n))):AD tq P cx K l tail base U hd (.o A (.makeSlice t x x) d ty as ops i sl ms Γ (mk bt z>>=f))
 | ixs {hd:QE} {b:Bool} {v:Value} {x y:OO} {t:TI} {fr:Fr} {A:LN} {as:LL} {d:Nat} {ty:TI} {ops:LO} {i:Nat} {sl:LQ} {ms:MM} {Γ:QE} {m:Option (Out S R)} (hv:fB A none sl base fr) (hx:bp fr x=some v) (hw:MS hd v b) (h:AD tq P cx K l tail base U hd (.ix b v fr x y t A d ty as ops i sl ms Γ m)):AD tq P cx K l tail base U hd (.o A (.indexAddr t x y) d ty as ops i sl ms Γ m)
 | idx {hd:QE} {α:Type} {A:LN} {as:LL} {d:Nat} {x y:OO} {v:Value} {k:IntKind} {j:Int} {t ty:TI} {o1 o2:Bool} {E:ai α} {xs:List α} {ops:LO} {i:Nat} {sl:LQ} {ms:MM} {fr:Fr} {Γ:QE} {Γ':α→List av} {f:α→Option (Out S R)} [ht:zA P t]
   (hy:bp fr y=some (.int k j)) (hr:∀ z,qh Γ v o1 o2 E xs (.ad o1 o2 v j E z) (Γ' z)) (hE:E.size=1)
   (h:∀ z,AD tq P cx K l tail base U hd (.a as ops (i+1) ((i,d,.pointer (some (db v 1 j))) :: sl) ms (Γ' z) (f z))):AD tq P cx K l tail base U hd (.ix false v fr x y t A d ty as ops i sl ms Γ (idx xs j>>=f))
 | aeN {hd:QE} {α:Type} {A:LN} {as:LL} {d:Nat} {x y:OO} {v:Value} {k:IntKind} {j:Int} {t ty:TI} {o1 o2:Bool} {E:ai α} {xs:List α} {ops:LO} {i:Nat} {sl:LQ} {ms:MM} {fr:Fr} {Γ:QE} {ju:α→List av} {f:α→Option (Out S R)} [ht:zA P t]
   (hy:bp fr y=some (.int k j)) (hr:∀ z,qh hd v o1 o2 E xs (.ad o1 o2 v j E z) (ju z)) (hE:E.size=1)
   (h:∀ z,AD tq P cx K l tail base U (ju z) (.a as ops (i+1) ((i,d,.pointer (some (db v 1 j))) :: sl) ms Γ (f z))):AD tq P cx K l tail base U hd (.ix true v fr x y t A d ty as ops i sl ms Γ (idx xs j>>=f))
 | load {hd:QE} {A:LN} {as:LL} {d:Nat} {x:OO} {a:Addr} {t ty:TI} {lk:Option Nat} {ops:LO} {i:Nat} {sl:LQ} {ms:MM} {fr:Fr} {Γ:QE} {m:Option (Out S R)} [ht:LK P t lk] (hv:fB A none sl base fr) (hx:bp fr x=some (.pointer (some a)))
   (h:AD tq P cx K l tail base U hd (.la fr a lk t x A d ty as ops i sl ms Γ m)):AD tq P cx K l tail base U hd (.o A (.load t x) d ty as ops i sl ms Γ m)
 | lsw {hd:QE} {b:Bool} {v:Value} {j:Int} {x:OO} {t:TI} {fr:Fr} {A:LN} {as:LL} {d:Nat} {ty:TI} {ops:LO} {i:Nat} {sl:LQ} {ms:MM} {Γ:QE} {m:Option (Out S R)} (hw:MS hd v b) (h:AD tq P cx K l tail base U hd (.lb b v j fr t x A d ty as ops i sl ms Γ m)):AD tq P cx K l tail base U hd (.la fr (db v 1 j) none t x A d ty as ops i sl ms Γ m)
 | XD {hd:QE} {α:Type} {A:LN} {as:LL} {d:Nat} {x:OO} {v:Value} {j:Int} {o:Bool} {E:ai α} {z:α} {t ty:TI} {ops:LO} {i:Nat} {sl:LQ} {ms:MM} {fr:Fr} {Γ Γx:QE} {m:Option (Out S R)} (h:wF Γ (db v 1 j) o E z vv Γx)
   (k:AD tq P cx K l tail base U hd (.ld E z fr (db v 1 j) t x A d ty as ops i sl ms Γ m)):AD tq P cx K l tail base U hd (.lb false v j fr t x A d ty as ops i sl ms Γ m)
 | aeO {hd:QE} {α:Type} {A:LN} {as:LL} {d:Nat} {x:OO} {v:Value} {j:Int} {E:ai α} {z:List α} {o:Bool} {t ty:TI} {ops:LO} {i:Nat} {sl:LQ} {ms:MM} {fr:Fr} {Γ:QE} {XW ju:Value→List av} {m:Option (Out S R)} (hV:((U.zipIdx.all fun p=>!(p.1.contains l.length) || ((b9 l).getD p.2 []).contains i))=true) (h:∀ u,wF hd (db v 1 j) o (bE E) z (.rd o (bE E) u z) (XW u)) (h2:∀ u,Bq (XW u) v j u (ju u))
   (k:∀ u,AD tq P cx K l tail base U (ju u) (.a as ops (i+1) ((i,d,u) :: sl) ms Γ m)):AD tq P cx K l tail base U hd (.lb true v j fr t x A d ty as ops i sl ms Γ m)
 | XE {hd:QE} {A:LN} {as:LL} {d:Nat} {x:OO} {a:Addr} {u:Value} {t ty:TI} {ops:LO} {i:Nat} {sl:LQ} {ms:MM} {fr:Fr} {Γ:QE} {m:Option (Out S R)} (h:xr Γ a u)
   (k:AD tq P cx K l tail base U hd (.a as ops (i+1) ((i,d,u) :: sl) ms Γ m)):AD tq P cx K l tail base U hd (.la fr a none t x A d ty as ops i sl ms Γ m)
 | Pu {hd:QE} {A:LN} {as:LL} {d n:Nat} {x:OO} {a:Addr} {ds:LV} {t ty:TI} {ops:LO} {i:Nat} {sl:LQ} {ms:MM} {fr:Fr} {Γ:QE} {m:Option (Out S R)} (h:xy Γ a n ds)
   (k:AD tq P cx K l tail base U hd (.a as ops (i+1) ((i,d,.agg ds.toArray) :: sl) ms Γ m)):AD tq P cx K l tail base U hd (.la fr a (some n) t x A d ty as ops i sl ms Γ m)
 | XF {hd:QE} {A:LN} {as:LL} {d:Nat} {x:OO} {a:Addr} {k:IntKind} {z:Int} {t ty:TI} {ops:LO} {i:Nat} {sl:LQ} {ms:MM} {fr:Fr} {Γ:QE} {m:Option (Out S R)}
   (h:AD tq P cx K l tail base U hd (.a as ops (i+1) ((i,d,.int k z) :: sl) ms Γ m)):AD tq P cx K l tail base U hd (.ld (aL k) z fr a t x A d ty as ops i sl ms Γ m)
 | XG {hd:QE} {α:Type} {A:LN} {as:LL} {d:Nat} {x:OO} {v:Value} {j:Int} {E:ai α} {z:List α} {o:Bool} {t ty:TI} {ops:LO} {i:Nat} {sl:LQ} {ms:MM} {fr:Fr} {Γ:QE} {Γ1 Γ':Value→List av} {m:Option (Out S R)} (h:∀ u,wF Γ (db v 1 j) o (bE E) z (.rd o (bE E) u z) (Γ1 u)) (h2:∀ u,Bq (Γ1 u) v j u (Γ' u))
   (k:∀ u,AD tq P cx K l tail base U hd (.a as ops (i+1) ((i,d,u) :: sl) ms (Γ' u) m)):AD tq P cx K l tail base U hd (.ld (bE E) z fr (db v 1 j) t x A d ty as ops i sl ms Γ m)
 | Pt {hd:QE} {us:LN} {A:LN} {as:LL} {d:Nat} {f:FuncId} {xs:List Operand} {bc:Array TypeId} {ty:TI} {ops:LO} {i:Nat} {sl:LQ} {ms:MM} {Γ:QE} {m:Option (Out S R)} (hU:U.getD i []=us) (h:AD tq P cx K l tail base U hd (.oc us f xs bc A d ty as ops i sl ms Γ m)):AD tq P cx K l tail base U hd (.o A (.call ⟨.value (.func f),xs.toArray,bc⟩) d ty as ops i sl ms Γ m)
 | aeP {hd:QE} {β V:Type} {A:LN} {as:LL} {d:Nat} {f:FuncId} {fs bs:LV} {xo:OO} {xs:List Operand} {bc:Array TypeId} {ty:TI} {mo:Option β} {rt:β→V→List Value} {ps:β→V→List av} {ops:LO} {i:Nat} {sl:LQ} {ms:MM} {fr:Fr} {Γ:QE} {g:β→Option (Out S R)}
   (hv:fB A none sl base fr) (hx:bp fr xo=some (.func (.func f) fs.toArray bs.toArray)) (hf:FnJ P f) (hc:∀ x:nr ms,N2 P f fs bs xs (na A ms x++fr) (r4 A ms x++Γ) mo rt ps) (hi:nt ms) (Bz:ph A ms=true) (ho:∀ y v,uj (ps y v)=true)
   (h:∀ y,AD tq P cx K l tail base U hd (.cr (fun v=>tz (rt y v)) (ps y) d as ops i sl ms Γ (g y))):AD tq P cx K l tail base U hd (.o A (.call ⟨.value xo,xs.toArray,bc⟩) d ty as ops i sl ms Γ (mo>>=g))
 | call {hd:QE} {β V:Type} {A:LN} {as:LL} {d:Nat} {f:FuncId} {xs:List Operand} {bc:Array TypeId} {ty:TI} {mo:Option β} {rt:β→V→List Value} {ps:β→V→List av} {ops:LO} {i:Nat} {sl:LQ} {ms:MM} {fr:Fr} {Γ:QE} {g:β→Option (Out S R)} [hf:bm P f]
   (hv:fB A none sl base fr) (hc:∀ x:nr ms,N1 P f xs (na A ms x++fr) (r4 A ms x++Γ) mo rt ps) (hi:nt ms) (Bz:ph A ms=true) (ho:∀ y v,uj (ps y v)=true)
   (h:∀ y,AD tq P cx K l tail base U hd (.cr (fun v=>tz (rt y v)) (ps y) d as ops i sl ms Γ (g y))):AD tq P cx K l tail base U hd (.oc [] f xs bc A d ty as ops i sl ms Γ (mo>>=g))
 | ab0 {hd:QE} {β V:Type} {A:LN} {as:LL} {d:Nat} {f:FuncId} {xs:List Operand} {bc:Array TypeId} {ty:TI} {mo:Option β} {rt:β→V→List Value} {ps:β→V→List av} {ops:LO} {i:Nat} {sl:LQ} {ms:MM} {fr:Fr} {Γ:QE} {g:β→Option (Out S R)} [hf:bm P f]
   (hV:((U.set i []).all fun us=>!(us.contains l.length))=true) (hv:fB A none sl base fr) (hc:∀ x:nr ms,Gc P f xs (na A ms x++fr) hd (r4 A ms x++Γ) mo rt ps) (hi:nt ms) (Bz:ph A ms=true) (ho:∀ y v,uj (ps y v)=true)
   (h:∀ y,AD tq P cx K l tail base U hd (.cr (fun v=>tz (rt y v)) (ps y) d as ops i sl ms Γ (g y))):AD tq P cx K l tail base U hd (.oc [l.length] f xs bc A d ty as ops i sl ms Γ (mo>>=g))
 | ab1 {hd:QE} {β V:Type} {j1:Nat} {a1:iq} {p8:MM} {A:LN} {as:LL} {d:Nat} {f:FuncId} {xs:List Operand} {bc:Array TypeId} {ty:TI} {mo:Option β} {rt:β→V→List Value} {ps:β→V→List av} {ops:LO} {i:Nat} {sl:LQ} {ms:MM} {fr:Fr} {Γ:QE} {g:β→Option (Out S R)} [hf:bm P f]
   (h1:Fq ms j1 a1 p8) (UY:a1.src=[]) (h4:gy j1 A=true) (hv:fB A none sl base fr) (hc:∀ (q:a1.V) (x:nr p8),Gc P f xs (na A p8 x++fr) (a1.ps undef q) (r4 A p8 x++Γ) mo rt ps) (hi:nt p8) (Bz:ph A p8=true) (ho:∀ y v,uj (ps y v)=true)
   (h:∀ y,AD tq P cx K l tail base U hd (.cr (fun v=>tz (rt y v)) (ps y) d as ops i (Sd j1 i sl) p8 Γ (g y))):AD tq P cx K l tail base U hd (.oc [j1] f xs bc A d ty as ops i sl ms Γ (mo>>=g))
 | crv {hd:QE} {u:Unit→Value} {d:Nat} {as:LL} {ops:LO} {i:Nat} {sl:LQ} {ms:MM} {Γ:QE} {m:Option (Out S R)} (h:AD tq P cx K l tail base U hd (.a as ops (i+1) ((i,d,u ()) :: sl) ms Γ m)):AD tq P cx K l tail base U hd (.cr u (fun _=>[]) d as ops i sl ms Γ m)
 | crb {hd:QE} {u:Unit→Value} {ps:Unit→List av} {d:Nat} {as:LL} {ops:LO} {i:Nat} {sl:LQ} {ms:MM} {Γ:QE} {m:Option (Out S R)} (h:AD tq P cx K l tail base U hd (.a as ops (i+1) ((i,d,u ()) :: sl) (⟨i,d,[],Unit,fun _=>u,fun _=>ps⟩ :: ms) Γ m)):AD tq P cx K l tail base U hd (.cr u ps d as ops i sl ms Γ m)
 | crm {hd:QE} {V:Type} {u:V→Value} {ps:V→List av} {d:Nat} {as:LL} {ops:LO} {i:Nat} {sl:LQ} {ms:MM} {Γ:QE} {m:Option (Out S R)} (h:AD tq P cx K l tail base U hd (.a as ops (i+1) sl (⟨i,d,[],V,fun _=>u,fun _=>ps⟩ :: ms) Γ m)):AD tq P cx K l tail base U hd (.cr u ps d as ops i sl ms Γ m)
 | val {hd:QE} {A:LN} {as:LL} {op:Op} {d:Nat} {ty:TI} {u:Value} {ops:LO} {i:Nat} {sl:LQ} {ms:MM} {fr:Fr} {Γ:QE} {m:Option (Out S R)} (hv:fB A none sl base fr) (hq:VQ P Γ fr op u)
   (h:AD tq P cx K l tail base U hd (.a as ops (i+1) ((i,d,u) :: sl) ms Γ m)):AD tq P cx K l tail base U hd (.o A op d ty as ops i sl ms Γ m)
 | vx {hd:QE} {A:LN} {as:LL} {op:BinOp} {x y:OO} {k k':IntKind} {a b:Int} {t t':TI} {d:Nat} {ty:TI} {ops:LO} {i:Nat} {sl:LQ} {ms:MM} {fr:Fr} {Γ:QE} {f:Int→Option (Out S R)} (hv:fB A none sl base fr) (hx:bp fr x=some (.int k a)) (hy:bp fr y=some (.int k' b)) (hk:UQ op k k')
   (h:∀ z,AD tq P cx K l tail base U hd (.a as ops (i+1) ((i,d,.int k z) :: sl) ms Γ (f z))):AD tq P cx K l tail base U hd (.o A (.binOp op t x y t') d ty as ops i sl ms Γ (xi op k a b>>=f))
 | pz {hd:QE} {as:LL} {ops:LO} {i:Nat} {sl:LQ} {ms:MM} {Γ:QE} {m:Option (Out S R)} (h:AD tq P cx K l tail base U hd (.a as ops i sl ms Γ m)):AD tq P cx K l tail base U hd (.p [] as ops i sl ms Γ m)
 | pe {hd:QE} {e:av} {Δ:QE} {as:LL} {ops:LO} {i:Nat} {sl:LQ} {ms:MM} {Γ:QE} {m:Option (Out S R)} (h:AD tq P cx K l tail base U hd (.p Δ as ops i sl ms (e :: Γ) m)):AD tq P cx K l tail base U hd (.p (e :: Δ) as ops i sl ms Γ m)
 | Jv {hd:QE} {α V:Type} {Sc:ai α} {cl:α→V→List Value} {en:α→V→List av} {A:LN} {as:LL} {d n:Nat} {x y:OO} {v:Value} {xs:List α} {k:IntKind} {j:Int} {t ty:TI} {ops:LO} {i:Nat} {sl:LQ} {ms:MM} {fr:Fr} {Γ Γx:QE} {f:α→Option (Out S R)} [ht:Jq P t n]
   (hy:bp fr y=some (.int k j)) (hr:qh Γ v false false (sr Sc) xs vv Γx) (hs:Ie Sc V cl en) (hn:Sc.size=n)
   (h:∀ z u,AD tq P cx K l tail base U hd (.p (.bc (db v n j) (cl z u) :: en z u) as ops (i+1) ((i,d,.pointer (some (db v n j))) :: sl) ms Γ (f z))):AD tq P cx K l tail base U hd (.ix false v fr x y t A d ty as ops i sl ms Γ (idx xs j>>=f))
 | XX {hd:QE} {α V:Type} {Sc:ai α} {cl:α→V→List Value} {en:α→V→List av} {A:LN} {as:LL} {d n e bt:Nat} {x y:OO} {v:Value} {us:List (List Value)} {xs:List α} {k:IntKind} {j:Int} {t ty:TI} {ops:LO} {i:Nat} {sl:LQ} {ms:MM} {fr:Fr} {Γ Γ1:QE} {f:α→Option (Out S R)} [ht:C3 P t e n bt]
   (hy:bp fr y=some (.int k j)) (h1:ed Γ (.own (aI e (jx n)) v us) Γ1) (hg:In (.rd false (yc Sc) (.bool true) (us,xs)) Γ) (hs:Ie Sc V cl en)
   (h:∀ z u,AD tq P cx K l tail base U hd (.p (.rd false (C1 us j) (.bool true) (cl z u) :: en z u) as ops (i+1) ((i,d,.pointer (some (db v n j))) :: sl) ms Γ (f z))):AD tq P cx K l tail base U hd (.ix false v fr x y t A d ty as ops i sl ms Γ (idx xs j>>=f))
 | laG {hd:QE} {A:LN} {as:LL} {d n e off:Nat} {x:OO} {v u:Value} {us:List (List Value)} {j:Int} {cs:LV} {t ty:TI} {ops:LO} {i:Nat} {sl:LQ} {ms:MM} {fr:Fr} {Γ Γ1:QE} {m:Option (Out S R)} (h1:ed Γ (.own (aI e (jx n)) v us) Γ1) (hp:In (.rd false (C1 us j) (.bool true) cs) Γ) (hc:cs[off]? = some u)
   (k:AD tq P cx K l tail base U hd (.a as ops (i+1) ((i,d,u) :: sl) ms Γ m)):AD tq P cx K l tail base U hd (.la fr ((db v n j).add off) none t x A d ty as ops i sl ms Γ m)
 | XY {hd:QE} {A:LN} {as:LL} {d n e:Nat} {x:OO} {v u:Value} {us:List (List Value)} {j:Int} {cs:LV} {t ty:TI} {ops:LO} {i:Nat} {sl:LQ} {ms:MM} {fr:Fr} {Γ Γ1:QE} {m:Option (Out S R)} (h1:ed Γ (.own (aI e (jx n)) v us) Γ1) (hp:In (.rd false (C1 us j) (.bool true) cs) Γ) (hc:cs[0]? = some u)
   (k:AD tq P cx K l tail base U hd (.a as ops (i+1) ((i,d,u) :: sl) ms Γ m)):AD tq P cx K l tail base U hd (.la fr (db v n j) none t x A d ty as ops i sl ms Γ m)
end Go.Dk
namespace Go.Dk
open Go Go.Li
theorem pj {t:Nat} {l:LN}:gy t l=true↔t∈l:=by
 induction l with
 | nil=>simp [gy]
 | cons a l ih=>
  unfold gy
  cases hb:Nat.beq t a with
  | true=>simp [Nat.eq_of_beq_eq_true hb]
  | false=>simp only [cond_false,ih,List.mem_cons]; exact ⟨.inr,fun h=>h.resolve_left fun e=>by rw [e,Nat.beq_refl] at hb; cases hb⟩
def lq (l:LO) (U:LL) (mt:Nat):List (List Nat):=(List.range mt).map fun i=>(List.range l.length).filter (sw l U mt i)
theorem r5 {l:LO} {U:LL} {mt i j:Nat} (h:j∈(lq l U mt).getD i []):j∈(b9 l).getD i []∧sw l U mt i j=true:=by
 unfold lq at h
 rw [List.getD_eq_getElem?_getD,List.getElem?_map] at h
 by_cases hi:i < mt
 ·rw [List.getElem?_range hi] at h
  have h1:=(List.mem_filter.1 h).2
  refine ⟨?_,h1⟩
  unfold sw at h1
  rw [Bool.and_eq_true] at h1
  simpa using h1.1
 ·rw [List.getElem?_eq_none (by simpa using hi)] at h
  exact absurd h List.not_mem_nil
variable {Z:Nat→Prop}
structure je (Z:Nat→Prop) (l:LO) (S:List gp) (sl:LQ) (ms:MM):Prop where
 v:∀ p∈sl,∃ j,(j=p.1∨j∈(b9 l).getD p.1 [])∧br l j=some p.2.1∧∃ s,S[j]? = some s∧s.b=true∧∀ f w r x,s.V f w r x→x=p.2.2
 m:∀ a∈ms,(S[a.j]? = some ⟨true,MV Z a⟩∧br l a.j=some a.d)∨(S[a.j]? = some ⟨true,PF Z a⟩∧br l a.j=none∧∃ k∈(b9 l).getD a.j [],br l k=some a.d)
 s:∀ i s,S[i]? = some s→PG Z ((b9 l).getD i []) l s
 d:(ms.map (·.j)).Nodup
 t:∀ i j k,j∈(b9 l).getD k []→k∈(b9 l).getD i []→j∈(b9 l).getD i []
theorem je.lt {l:LO} {S:List gp} {sl:LQ} {ms:MM} (h:je Z l S sl ms) {a:iq} (ha:a∈ms):a.j < S.length:=by
 rcases h.m a ha with h | h <;> exact (List.getElem?_eq_some_iff.1 h.1).1
theorem je.JR {l:LO} {S S2:List gp} {sl:LQ} {ms:MM} (h:je Z l S sl ms) {a:iq} (ha:a∈ms) {g:Nat→List Nat} {r:NV} {w:World} (hd:wO l (S++S2) a.j g r w):MV Z a (g a.j) w r (r a.d):=by
 rcases h.m a ha with h1 | h1
 ·have h2:=hd.1 a.d h1.2
  rw [List.getElem?_append_left (List.getElem?_eq_some_iff.1 h1.1).1,h1.1] at h2
  exact h2
 ·obtain ⟨x,hx⟩:=hd.2 h1.2.1 _ (by rw [List.getElem?_append_left (List.getElem?_eq_some_iff.1 h1.1).1]; exact h1.1) rfl
  exact hx
theorem je.slot {l:LO} {S:List gp} {sl:LQ} {ms:MM} (h:je Z l S sl ms) {a:iq} (ha:a∈ms) {i:Nat} (hi:a.j∈(b9 l).getD i []):∃ k∈(b9 l).getD i [],br l k=some a.d:=by
 rcases h.m a ha with h1 | ⟨_,_,k,hk,hd⟩
 ·exact ⟨a.j,hi,h1.2⟩
 ·exact ⟨k,h.t i k a.j hk hi,hd⟩
theorem je.vm {l:LO} {S S2:List gp} {sl:LQ} {ms:MM} (h:je Z l S sl ms) {a:iq} (ha:a∈ms):((S++S2)[a.j]? = some ⟨true,MV Z a⟩∧br l a.j=some a.d)∨((S++S2)[a.j]? = some ⟨true,PF Z a⟩∧br l a.j=none∧∃ k∈(b9 l).getD a.j [],br l k=some a.d):=by
 rw [List.getElem?_append_left (h.lt ha)]
 exact h.m a ha
theorem je.N5 {l:LO} {S S2:List gp} {sl:LQ} {ms:MM} (h:je Z l S sl ms) {p:Nat×Nat×Value} (hp:p∈sl):∃ j,(j=p.1∨j∈(b9 l).getD p.1 [])∧br l j=some p.2.1∧∃ s,(S++S2)[j]? = some s∧s.b=true∧∀ f w r x,s.V f w r x→x=p.2.2:=by
 obtain ⟨j,hj,h1,s,h2,h3⟩:=h.v p hp
 exact ⟨j,hj,h1,s,by rw [List.getElem?_append_left (List.getElem?_eq_some_iff.1 h2).1]; exact h2,h3⟩
theorem je.zJ {l:LO} {S S2:List gp} {sl:LQ} {ms:MM} (h:je Z l S sl ms) {p:Nat×Nat×Value} (hp:p∈sl) {r:NV} (ho:∀ j,(j=p.1∨j∈(b9 l).getD p.1 [])→j < S.length→Old l (S++S2) j r):r p.2.1=p.2.2:=by
 obtain ⟨j,hj,h1,s,h2,h3,h4⟩:=h.v p hp
 have hl:=(List.getElem?_eq_some_iff.1 h2).1
 have:=ho j hj hl _ h1 s (by rw [List.getElem?_append_left hl]; exact h2)
 rw [if_pos h3] at this
 obtain ⟨f,w,hV⟩:=this
 exact h4 f w r _ hV
theorem je.val {l:LO} {S:List gp} {sl:LQ} {ms:MM} (h:je Z l S sl ms) {d:Nat} {u:Value} (hd:br l S.length=some d):je Z l (S++[sV u]) ((S.length,d,u) :: sl) ms:=by
 refine ⟨?_,fun a ha=>h.vm ha,?_,h.d,h.t⟩
 ·intro p hp
  rcases List.mem_cons.1 hp with rfl | hp
  ·exact ⟨S.length,.inl rfl,hd,sV u,by simp,rfl,fun _ _ _ _ h=>h⟩
  ·exact h.N5 hp
 ·intro i s hs
  by_cases hi:i < S.length
  ·rw [List.getElem?_append_left hi] at hs; exact h.s i s hs
  ·rw [List.getElem?_append_right (by omega)] at hs
   have yf:i - S.length=0:=by
    have:=(List.getElem?_eq_some_iff.1 hs).1
    simp at this; omega
   rw [yf] at hs
   cases hs
   exact JM.n N6
theorem je.mem {l:LO} {S:List gp} {sl:LQ} {ms:MM} (h:je Z l S sl ms) {b:iq} (hj:b.j=S.length) (hd:br l S.length=some b.d) (iT:∀ t∈b.src,∃ j∈(b9 l).getD S.length [],br l j=some t):je Z l (S++[⟨true,MV Z b⟩]) sl (b :: ms):=by
 have bn:∀ a∈ms,a.j < S.length:=fun a ha=>h.lt ha
 refine ⟨fun p hp=>?_,?_,?_,?_,h.t⟩
 ·exact h.N5 hp
 ·intro a ha
  rcases List.mem_cons.1 ha with rfl | ha
  ·exact .inl ⟨by rw [hj]; simp,by rw [hj]; exact hd⟩
  ·exact h.vm ha
 ·intro i s hs
  by_cases hi:i < S.length
  ·rw [List.getElem?_append_left hi] at hs; exact h.s i s hs
  ·rw [List.getElem?_append_right (by omega)] at hs
   have yf:i - S.length=0:=by
    have:=(List.getElem?_eq_some_iff.1 hs).1
    simp at this; omega
   have XZ:i=S.length:=by omega
   rw [yf] at hs
   cases hs
   rw [XZ]
   exact PH iT
 ·rw [List.map_cons,List.nodup_cons]
  refine ⟨fun hm=>?_,h.d⟩
  obtain ⟨a,ha,he⟩:=List.mem_map.1 hm
  have:=bn a ha
  omega
theorem je.aeQ {l:LO} {S:List gp} {sl:LQ} {ms:MM} (h:je Z l S sl ms) {j d:Nat} {u:Value} (hd:br l j=some d) {s:gp} (hs:S[j]? = some s) (hb:s.b=true) (hV:∀ f w r x,s.V f w r x→x=u):je Z l S ((j,d,u) :: sl) ms:=
 ⟨fun p hp=>by
  rcases List.mem_cons.1 hp with rfl | hp
  ·exact ⟨j,.inl rfl,hd,s,hs,hb,hV⟩
  ·exact h.v p hp,h.m,h.s,h.d,h.t⟩
theorem je.re {l:LO} {S:List gp} {sl:LQ} {ms:MM} (h:je Z l S sl ms) {j i:Nat} (hj:j∈(b9 l).getD i []):je Z l S (Sd j i sl) ms:=by
 refine ⟨fun p hp=>?_,h.m,h.s,h.d,h.t⟩
 obtain ⟨q,hq,rfl⟩:=List.mem_map.1 hp
 obtain ⟨k,hk,h1⟩:=h.v q hq
 cases hb:Nat.beq q.1 j with
 | false=>exact ⟨k,hk,h1⟩
 | true=>
  refine ⟨k,.inr ?_,h1⟩
  have hq1:=Nat.eq_of_beq_eq_true hb
  show k∈(b9 l).getD i []
  rcases hk with rfl | hk
  ·rw [hq1]; exact hj
  ·rw [hq1] at hk; exact h.t i k j hk hj
theorem je.aeR {l:LO} {S:List gp} {sl:LQ} {ms:MM} (h:je Z l S sl ms) {b:iq} (hj:b.j=S.length) (hd:br l S.length=none) (hk:∃ k∈(b9 l).getD S.length [],br l k=some b.d) (iT:b.src=[]):je Z l (S++[⟨true,PF Z b⟩]) sl (b :: ms):=by
 have bn:∀ a∈ms,a.j < S.length:=fun a ha=>h.lt ha
 refine ⟨fun p hp=>?_,?_,?_,?_,h.t⟩
 ·exact h.N5 hp
 ·intro a ha
  rcases List.mem_cons.1 ha with rfl | ha
  ·exact .inr ⟨by rw [hj]; simp,by rw [hj]; exact hd,by rw [hj]; exact hk⟩
  ·exact h.vm ha
 ·intro i s hs
  by_cases hi:i < S.length
  ·rw [List.getElem?_append_left hi] at hs; exact h.s i s hs
  ·rw [List.getElem?_append_right (by omega)] at hs
   have yf:i - S.length=0:=by
    have:=(List.getElem?_eq_some_iff.1 hs).1
    simp at this; omega
   have XZ:i=S.length:=by omega
   rw [yf] at hs
   cases hs
   rw [XZ]
   exact NZ hk fun t ht=>by rw [iT] at ht; cases ht
 ·rw [List.map_cons,List.nodup_cons]
  refine ⟨fun hm=>?_,h.d⟩
  obtain ⟨a,ha,he⟩:=List.mem_map.1 hm
  have:=bn a ha
  omega
theorem mf {l:LO} {m:Nat} {base:Fr} {r r0:NV} (hh:ma l m base=true) (ha:dg r0 base) (ho:∀ t,(∀ j,j < m→br l j≠some t)→r t=r0 t):dg r base:=by
 intro t v hl
 have hm:∃ u,(t,u)∈base:=by
  clear hh ha
  induction base with
  | nil=>cases hl
  | cons p base ih=>
   obtain ⟨a,u⟩:=p
   unfold look at hl
   cases hb:Nat.beq t a with
   | true=>exact ⟨u,by rw [Nat.eq_of_beq_eq_true hb]; simp⟩
   | false=>rw [hb] at hl; obtain ⟨u',h⟩:=ih hl; exact ⟨u',by simp [h]⟩
 obtain ⟨u,hu⟩:=hm
 rw [ho t fun j hj=>PJ hh (t,u) hu j hj]
 exact ha t v hl
section
variable {P:Program} {l:LO} {mt:Nat} {S:List gp} {sl:LQ} {ms:MM} {base fr:Fr} {r r0:NV} {w w0:World} {g:Nat→List Nat} {i:Nat} {A:LN} {U:LL}
theorem qf (hR:je Z l S sl ms) (hA:A=(lq l U mt).getD i []) (hv:fB A none sl base fr) (hb:dg r base) {S':List gp} (hO:∀ j∈(b9 l).getD i [],Old l (S++S') j r):dg r fr:=by
 refine hv.sound hb ?_ (fun _ _ _ h=>nomatch h)
 intro p hp hm
 have hi:=(r5 (by rw [← hA]; exact pj.1 hm)).1
 exact hR.zJ hp fun j hj _=>hO j (hj.elim (fun e=>e ▸ hi) fun hj=>hR.t i j p.1 hj hi)
theorem Se {H:LN} {o:Oper} {u:Value} (hh:ma l mt base=true) (ha:dg r0 base) (hR:je Z l S sl ms) (ho:l[S.length]? = some o) (hg:o.guard=none) (hA:A=(lq l U mt).getD S.length []) (hv:fB A none sl base fr)
  (h:∀ r,dg r fr→∀ w,aq H w0 w→(execOp (ev r) o).run P w = .ok (.value u) w):jg P l mt (S++[sV u]) U r0 w0 H S.length:=
 jg.val ho (by simp) hg fun g r w hC hO hn kp=>h r (qf hR hA hv (mf hh ha kp) hO) w hC
end
end Go.Dk
namespace Go.Dk
open Go Go.Li
section
variable {R S:Type} {P:Program} {cx:Cx R} {K:dq R S} {l tail:LO} {base fr:Fr} {w:World} {Z:Nat→Prop} {U:LL}
def jj (P:Program) (Z:Nat→Prop) (l:LO) (mt:Nat) (U:LL) (r0:NV) (w0:World) (H:LN) (i:Nat) (sl:LQ) (ms:MM):Prop:=
 ∃ S:List gp,S.length=i∧je Z l S sl ms∧∀ j,j < i→jg P l mt S U r0 w0 H j
def ud (B:Bs) (Z:Nat→Prop) (hd Γ:QE) (H:LN) (w:World):Prop:=∃ F Hd,(SA Z w hd [] Hd∧(∀ b∈Hd,b∈H∧b < w.heap.size)∧(∀ b∈H,b < w.heap.size)∧Hd.Nodup)∧SA Z w Γ [] F∧Gd B Z (H++F) w
theorem ud.stay {B:Bs} {Γ:QE} {F H:LN} {w w':World} (hS:SA Z w Γ [] F) (hG:Gd B Z (H++F) w) (hC:aq H w w'):SA Z w' Γ [] F:=
 hS.fk hC (fun b hb=>hG.apart b (List.mem_append_left _ hb)) (fun _ _=>List.not_mem_nil) (fun b hb hf=>(List.nodup_append.1 hG.nd).2.2 b hb b hf rfl)
def Fin (P:Program) (cx:Cx R) (K:dq R S) (l l0:LO) (mt:Nat) (U:LL) (hd:QE) (_id:Nat) (base:Fr) (i:Nat) (sl:LQ) (ms:MM) (Γ:QE) (m:Option (Out S R)):Prop:=
 ∀ B o,m=some o→∀ r0 w0 H Z,dg r0 base→ud B Z hd Γ H w0→jj P Z l mt U r0 w0 H i sl ms→nb P cx.n l0 (l8 P cx B K o) r0 w0
theorem jj.re {mt:Nat} {r0:NV} {w0:World} {H:LN} {i k j:Nat} {sl:LQ} {ms:MM} (h:jj P Z l mt U r0 w0 H k sl ms) (hj:j∈(b9 l).getD i []):jj P Z l mt U r0 w0 H k (Sd j i sl) ms:=by
 obtain ⟨S,h1,h2,h3⟩:=h
 exact ⟨S,h1,h2.re hj,h3⟩
structure yG (l:LO) (mt:Nat) (U:LL) (as:LL) (ops:LO) (i:Nat):Prop where
 a:as=(lq l U mt).drop i
 o:ops=(l.take mt).drop i
 le:i≤mt
structure X0 (l:LO) (mt:Nat) (U:LL) (A:LN) (op:Op) (ty:TI) (as:LL) (ops:LO) (i:Nat):Prop where
 A:A=(lq l U mt).getD i []
 o:∃ pos ag,l[i]? = some ⟨none,op,ty,pos,ag,none⟩
 n:yG l mt U as ops (i+1)
theorem yG.N3 {mt:Nat} {A:LN} {as:LL} {op:Op} {ty:TI} {pos:String} {ag:Array Edge} {ops:LO} {i:Nat} (h:yG l mt U (A :: as) (⟨none,op,ty,pos,ag,none⟩ :: ops) i):X0 l mt U A op ty as ops i:=by
 obtain ⟨h1,h2,h3⟩:=h
 have e1:(lq l U mt)[i]? = some A:=by
  have:=congrArg (fun x=>x[0]?) h1
  simpa using this.symm
 have e2:(l.take mt)[i]? = some ⟨none,op,ty,pos,ag,none⟩:=by
  have:=congrArg (fun x=>x[0]?) h2
  simpa using this.symm
 have t1:as=(lq l U mt).drop (i+1):=by
  have:=congrArg List.tail h1
  simpa [List.tail_drop] using this
 have t2:ops=(l.take mt).drop (i+1):=by
  have:=congrArg List.tail h2
  simpa [List.tail_drop] using this
 have hi:i < mt:=by
  have:=(List.getElem?_eq_some_iff.1 e1).1
  simpa [lq] using this
 rw [List.getElem?_take,if_pos hi] at e2
 exact ⟨by rw [List.getD_eq_getElem?_getD,e1]; rfl,⟨pos,ag,e2⟩,t1,t2,hi⟩
structure rf (l:LO) (mt:Nat) (U:LL) (A:LN) (op:Op) (d:Nat) (ty:TI) (as:LL) (ops:LO) (i:Nat):Prop where
 A:A=(lq l U mt).getD i []
 o:∃ pos ag,l[i]? = some ⟨some d,op,ty,pos,ag,none⟩
 n:yG l mt U as ops (i+1)
theorem yG.cons {mt:Nat} {A:LN} {as:LL} {op:Op} {d:Nat} {ty:TI} {pos:String} {ag:Array Edge} {ops:LO} {i:Nat} (h:yG l mt U (A :: as) (⟨some d,op,ty,pos,ag,none⟩ :: ops) i):rf l mt U A op d ty as ops i:=by
 obtain ⟨h1,h2,h3⟩:=h
 have e1:(lq l U mt)[i]? = some A:=by
  have:=congrArg (fun x=>x[0]?) h1
  simpa using this.symm
 have e2:(l.take mt)[i]? = some ⟨some d,op,ty,pos,ag,none⟩:=by
  have:=congrArg (fun x=>x[0]?) h2
  simpa using this.symm
 have t1:as=(lq l U mt).drop (i+1):=by
  have:=congrArg List.tail h1
  simpa [List.tail_drop] using this
 have t2:ops=(l.take mt).drop (i+1):=by
  have:=congrArg List.tail h2
  simpa [List.tail_drop] using this
 have hi:i < mt:=by
  have:=(List.getElem?_eq_some_iff.1 e1).1
  simpa [lq] using this
 rw [List.getElem?_take,if_pos hi] at e2
 exact ⟨by rw [List.getD_eq_getElem?_getD,e1]; rfl,⟨pos,ag,e2⟩,t1,t2,hi⟩
theorem yG.next {mt:Nat} {A:LN} {as:LL} {o:Oper} {ops:LO} {i:Nat} (h:yG l mt U (A :: as) (o :: ops) i):A=(lq l U mt).getD i []∧l[i]? = some o∧yG l mt U as ops (i+1):=by
 obtain ⟨h1,h2,h3⟩:=h
 have e1:(lq l U mt)[i]? = some A:=by
  have:=congrArg (fun x=>x[0]?) h1
  simpa using this.symm
 have e2:(l.take mt)[i]? = some o:=by
  have:=congrArg (fun x=>x[0]?) h2
  simpa using this.symm
 have t1:as=(lq l U mt).drop (i+1):=by
  have:=congrArg List.tail h1
  simpa [List.tail_drop] using this
 have t2:ops=(l.take mt).drop (i+1):=by
  have:=congrArg List.tail h2
  simpa [List.tail_drop] using this
 have hi:i < mt:=by
  have:=(List.getElem?_eq_some_iff.1 e1).1
  simpa [lq] using this
 rw [List.getElem?_take,if_pos hi] at e2
 exact ⟨by rw [List.getD_eq_getElem?_getD,e1]; rfl,e2,t1,t2,hi⟩
theorem jj.swap {mt:Nat} {i:Nat} {p q:Nat×Nat×Value} {sl:LQ} {ms:MM} {r0:NV} {w0:World} {H:LN} (h:jj P Z l mt U r0 w0 H i (p :: q :: sl) ms):jj P Z l mt U r0 w0 H i (q :: p :: sl) ms:=by
 obtain ⟨S,h1,h2,h3⟩:=h
 refine ⟨S,h1,⟨fun a ha=>h2.v a ?_,h2.m,h2.s,h2.d,h2.t⟩,h3⟩
 rcases List.mem_cons.1 ha with rfl | ha
 ·simp
 ·rcases List.mem_cons.1 ha with rfl | ha
  ·simp
  ·exact List.mem_cons_of_mem _ (List.mem_cons_of_mem _ ha)
theorem jj.skip {mt:Nat} {A:LN} {j d:Nat} {p:Bool} {dst:Option Nat} {op:Op} {ty:TI} {pos:String} {ag:Array Edge} {i:Nat} {sl:LQ} {ms:MM} {r0:NV} {w0:World} {H:LN} (h:jj P Z l mt U r0 w0 H i sl ms) (hA:A=(lq l U mt).getD i []) (ho:l[i]? = some ⟨dst,op,ty,pos,ag,some (j,p)⟩)
  (hd:br l j=some d) (hb:JO sl j d (!p)=true) (hj:gy j A=true):jj P Z l mt U r0 w0 H (i+1) sl ms:=by
 obtain ⟨S',hl,hR,hO⟩:=h
 subst hl
 have zK:j∈(b9 l).getD S'.length []:=(r5 (by rw [← hA]; exact pj.1 hj)).1
 have hm:=Im hb
 have hR2:je Z l (S'++[⟨false,fun _ _ _ _=>True⟩]) sl ms:=by
  refine ⟨fun q hq=>hR.N5 hq,fun a ha=>hR.vm ha,fun i s hs=>?_,hR.d,hR.t⟩
  by_cases hi:i < S'.length
  ·rw [List.getElem?_append_left hi] at hs; exact hR.s i s hs
  ·rw [List.getElem?_append_right (by omega)] at hs
   have yf:i - S'.length=0:=by
    have:=(List.getElem?_eq_some_iff.1 hs).1
    simp at this; omega
   rw [yf] at hs
   cases hs
   exact fun _ _ _ _ _ _ _ _ _ _ _ _=>trivial
 refine ⟨S'++[⟨false,fun _ _ _ _=>True⟩],by simp,hR2,fun k hk=>?_⟩
 by_cases h2:k < S'.length
 ·exact jg.more (hO k h2) h2
 ·obtain rfl:k=S'.length:=by omega
  intro o s cj hs g r w hC hV kz hn kp qk hf
  rw [ho] at cj
  obtain rfl:=Option.some.inj cj
  rw [List.getElem?_append_right (Nat.le_refl _),Nat.sub_self] at hs
  obtain rfl:_=s:=Option.some.inj hs
  rw [if_neg (by simp)]
  have hr:r d = .bool (!p):=hR.zJ (S2:=[⟨false,fun _ _ _ _=>True⟩]) hm fun q hq _=>kz q (hq.elim (fun e=>e ▸ zK) fun e=>hR.t _ _ _ e zK)
  unfold Region.wanted
  dsimp only
  rw [NS hd,hr]
  cases p <;> rfl
theorem jj.val {mt:Nat} {A:LN} {op:Op} {d:Nat} {ty:TI} {as:LL} {ops:LO} {i:Nat} {sl:LQ} {ms:MM} {r0:NV} {w0:World} {H:LN} {u:Value} (h:jj P Z l mt U r0 w0 H i sl ms) (hh:ma l mt base=true) (ha:dg r0 base) (h1:rf l mt U A op d ty as ops i)
  (hv:fB A none sl base fr) (hq:∀ r,dg r fr→∀ pos ag g w,aq H w0 w→(execOp (ev r) ⟨some d,op,ty,pos,ag,g⟩).run P w = .ok (.value u) w):jj P Z l mt U r0 w0 H (i+1) ((i,d,u) :: sl) ms:=by
 obtain ⟨S',hl,hR,hO⟩:=h
 subst hl
 obtain ⟨hA,⟨pos,ag,ho⟩,_⟩:=h1
 refine ⟨S'++[sV u],by simp,hR.val (by unfold br; rw [ho]; rfl),fun j hj=>?_⟩
 by_cases h2:j < S'.length
 ·exact jg.more (hO j h2) h2
 ·obtain rfl:j=S'.length:=by omega
  exact Se hh ha hR ho rfl hA hv fun r hr=>hq r hr _ _ _
def JS (P:Program) (Z:Nat→Prop) (l:LO) (mt:Nat) (U:LL) (r0:NV) (w0:World) (H:LN) (i:Nat) (sl:LQ) (ms:MM) (a:iq):Prop:=
 ∃ S:List gp,S.length=i∧je Z l S sl ms∧(∀ j,j < i→jg P l mt S U r0 w0 H j)∧
  ∀ V:List Nat→World→(Nat→Value)→Value→Prop,(∀ f w r x,MV Z a f w r x→∃ f',(∀ b∈f',b∈f)∧V f' w r x)→jg P l mt (S++[⟨true,V⟩]) U r0 w0 H i
theorem HL.front {Δ Γ:QE} {Fd F:LN} (h:HL Z w Δ Fd) (hs:SA Z w Γ [] F):SA Z w (Δ++Γ) [] (Fd++F):=by
 induction h with
 | nil=>exact hs
 | own h _ ih=>rw [List.append_assoc]; exact SA.cons ih h
 | fact h _ ih=>exact SA.fact ih h
def Dw (A:LN) (g:Nat→List Nat):List iq→List Nat
 | []=>[]
 | a :: l=>bif gy a.j A then g a.j++Dw A g l else Dw A g l
def HV (Z:Nat→Prop) (w:World) (Δ:QE) (B:LN):Prop:=∃ Vo Vr,(∀ b∈Vo++Vr,b∈B)∧(∀ b∈Vr,b < w.heap.size)∧HL (fun b=>Z b∨b∈Vr) w Δ Vo
theorem HV.front {Δ Γ:QE} {B F:LN} (h:HV Z w Δ B) (hs:SA Z w Γ [] F):∃ G:List Nat,(∀ b∈G,b∈B++F∧b < w.heap.size)∧∃ F':List Nat,(∀ b∈F',b∈G)∧SA (fun b=>Z b∨b∈G) w (Δ++Γ) [] F':=by
 obtain ⟨Vo,Vr,h1,h2,h3⟩:=h
 have hS:=h3.front (hs.mono (Z':=fun b=>Z b∨b∈Vr) (fun _ h=>.inl h) fun _ h=>h)
 refine ⟨Vr++(Vo++F),fun b hb=>?_,Vo++F,fun b hb=>List.mem_append_right _ hb,hS.mono (fun b h=>h.imp id fun h=>List.mem_append_left _ h) fun _ h=>h⟩
 rcases List.mem_append.1 hb with hb | hb
 ·exact ⟨List.mem_append_left _ (h1 b (List.mem_append_right _ hb)),h2 b hb⟩
 ·refine ⟨?_,hS.lt b hb⟩
  rcases List.mem_append.1 hb with hb | hb
  ·exact List.mem_append_left _ (h1 b (List.mem_append_left _ hb))
  ·exact List.mem_append_right _ hb
theorem HV.app {Δ Δ':QE} {f B:LN} (h:HN Z w Δ f) (k:HV Z w Δ' B):HV Z w (Δ++Δ') (f++B):=by
 obtain ⟨Fo,Fr,rfl,h1,h2⟩:=h.all
 obtain ⟨Vo,Vr,k1,k2,k3⟩:=k
 refine ⟨Fo++Vo,Fr++Vr,fun b hb=>?_,fun b hb=>(List.mem_append.1 hb).elim (h1 b) (k2 b),(h2.mono fun b h=>h.imp id fun h=>List.mem_append_left _ h).app (k3.mono fun b h=>h.imp id fun h=>List.mem_append_right _ h)⟩
 have:=fun h=>k1 b h
 simp only [List.mem_append] at hb this ⊢
 rcases hb with (h | h) | h | h
 ·exact .inl (.inl h)
 ·exact .inr (this (.inl h))
 ·exact .inl (.inr h)
 ·exact .inr (this (.inr h))
theorem ab2 {A:LN} {g:Nat→List Nat} {r:NV}:∀ {ms:MM},nt ms→ph A ms=true→(∀ a∈ms,gy a.j A=true→MV Z a (g a.j) w r (r a.d))→
  ∃ x:nr ms,(∀ p∈na A ms x,r p.1=p.2)∧HV Z w (r4 A ms x) (Dw A g ms):=by
 intro ms
 induction ms with
 | nil=>intro _ _ _; exact ⟨(),fun p hp=>absurd hp List.not_mem_nil,[],[],fun b (h:b∈[])=>absurd h List.not_mem_nil,fun b (h:b∈[])=>absurd h List.not_mem_nil,.nil⟩
 | cons a ms ih=>
  intro hi iT h
  unfold ph at iT
  rw [Bool.and_eq_true] at iT
  cases hi with
  | cons h1 h2=>
   obtain ⟨x,hx,hl⟩:=ih h2 iT.2 fun b hb=>h b (List.mem_cons_of_mem _ hb)
   cases hb:gy a.j A with
   | false=>
    obtain ⟨v⟩:=h1.ne
    refine ⟨(v,x),?_,?_⟩
    ·simp only [na,hb,cond_false]; exact hx
    ·simp only [r4,Dw,hb,cond_false]; exact hl
   | true=>
    obtain ⟨v,e1,e2,_⟩:=h a (by simp) hb
    have es:yF a r=Du a (mF ms x):=by
     have h3:=iT.1
     rw [hb,cond_true,List.all_eq_true] at h3
     refine Eu fun t ht=>?_
     have h4:=h3 t ht
     cases hj:qa t ms with
     | none=>rw [hj] at h4; cases h4
     | some j=>rw [hj] at h4; unfold AN; rw [JL hj h4 hx]
    rw [es] at e1 e2
    refine ⟨(v,x),?_,?_⟩
    ·simp only [na,hb,cond_true]
     intro p hp
     rcases List.mem_cons.1 hp with rfl | hp
     ·exact e1
     ·exact hx p hp
    ·simp only [r4,Dw,hb,cond_true]; exact HV.app e2 hl
theorem Sf {t j:Nat}:∀ {ms:MM},qa t ms=some j→∃ a∈ms,a.j=j∧a.d=t:=by
 intro ms
 induction ms with
 | nil=>intro h; cases h
 | cons a l ih=>
  intro h
  unfold qa at h
  cases hb:Nat.beq t a.d with
  | true=>rw [hb] at h; cases h; exact ⟨a,by simp,rfl,(Nat.eq_of_beq_eq_true hb).symm⟩
  | false=>rw [hb] at h; obtain ⟨b,h1,h2⟩:=ih h; exact ⟨b,List.mem_cons_of_mem _ h1,h2⟩
theorem Ev {mt i:Nat} {A:LN} (hA:A=(lq l U mt).getD i []) {S':List gp} {sl:LQ} {ms:MM} {t:Nat} (hR:je Z l S' sl ms) (hj:∃ j,qa t ms=some j∧gy j A=true):∃ j∈(b9 l).getD i [],br l j=some t:=by
 obtain ⟨j,h1,h2⟩:=hj
 obtain ⟨a,ha,rfl,rfl⟩:=Sf h1
 exact hR.slot ha (r5 (by rw [← hA]; exact pj.1 h2)).1
theorem zJ {mt:Nat} {A:LN} {S' S2:List gp} {sl:LQ} {ms:MM} {g:Nat→List Nat} {r:NV} (hR:je Z l S' sl ms) (hA:A=(lq l U mt).getD S'.length []) (hi:nt ms) (iT:ph A ms=true) (hn:∀ j,sw l U mt S'.length j=true→wO l (S'++S2) j g r w) :
  ∃ x:nr ms,(∀ p∈na A ms x,r p.1=p.2)∧HV Z w (r4 A ms x) (Dw A g ms):=
 ab2 hi iT fun a hm hb=>by
  exact hR.JR hm (hn a.j (r5 (by rw [← hA]; exact pj.1 hb)).2)
theorem jj.mem {mt:Nat} {A:LN} {op:Op} {d:Nat} {ty:TI} {as:LL} {ops:LO} {i:Nat} {sl:LQ} {ms:MM} {r0:NV} {w0:World} {H:LN} {a:iq} (h:jj P Z l mt U r0 w0 H i sl ms) (h1:rf l mt U A op d ty as ops i) (haj:a.j=i) (had:a.d=d)
  (iT:∀ S',je Z l S' sl ms→∀ t∈a.src,∃ j∈(b9 l).getD i [],br l j=some t)
  (hq:∀ S' S2,S'.length=i→je Z l S' sl ms→∀ (g:Nat→List Nat) (r:NV) (w:World),aq H w0 w→(∀ j∈(b9 l).getD S'.length [],Old l (S'++S2) j r)→(∀ j,sw l U mt S'.length j=true→wO l (S'++S2) j g r w)→(∀ t,(∀ j,j < mt→br l j≠some t)→r t=r0 t)→∀ pos ag,
   gn P ⟨some d,op,ty,pos,ag,none⟩ r w fun v w'=>aq [] w w'∧∃ f,(∀ b∈f,w.heap.size≤b∧b < w'.heap.size)∧MV Z a f w' r v):jj P Z l mt U r0 w0 H (i+1) sl (a :: ms):=by
 obtain ⟨S',hl,hR,hO⟩:=h
 subst hl
 subst had
 obtain ⟨hA,⟨pos,ag,ho⟩,_⟩:=h1
 refine ⟨S'++[⟨true,MV Z a⟩],by simp,hR.mem haj (by unfold br; rw [ho]; rfl) (iT S' hR),fun j hj=>?_⟩
 by_cases h2:j < S'.length
 ·exact jg.more (hO j h2) h2
 ·obtain rfl:j=S'.length:=by omega
  exact jg.Sg (V:=MV Z a) ho (by simp) rfl fun g r w hC hO hn kp=>hq S' _ rfl hR g r w hC hO hn kp pos ag
theorem xI.sub {ms C5:MM} {a:iq} {t:Nat} (h:xI ms t a C5):a∈ms∧a.d=t∧(∀ b∈C5,b∈ms)∧(C5.map (·.j)).Sublist (ms.map (·.j)):=by
 induction h with
 | here=>exact ⟨by simp,rfl,fun b hb=>List.mem_cons_of_mem _ hb,by simp⟩
 | there _ ih=>
  obtain ⟨h1,h2,h3,h4⟩:=ih
  refine ⟨List.mem_cons_of_mem _ h1,h2,fun b hb=>?_,by simpa using h4⟩
  rcases List.mem_cons.1 hb with rfl | hb
  ·simp
  ·exact List.mem_cons_of_mem _ (h3 b hb)
theorem je.sub {S':List gp} {sl:LQ} {ms C5:MM} (h:je Z l S' sl ms) (hm:∀ b∈C5,b∈ms) (hn:(C5.map (·.j)).Sublist (ms.map (·.j))):je Z l S' sl C5:=⟨h.v,fun a ha=>h.m a (hm a ha),h.s,h.d.sublist hn,h.t⟩
theorem Wp {mt:Nat} {t e et:TI} {E:ai Int} {z0:Int} {bt t1 t2 j2 d2 i d:Nat} {k:IntKind} {y:Int} {xs:List Int} {a1:iq} {ms p8 JP:MM} {sl:LQ} {A:LN} {ty:TI} {as:LL} {ops:LO} {r0:NV} {w0:World} {H:LN} (hz:vi P t Int e E z0 bt) (h1:xI ms t1 a1 p8) (h2:xI p8 t2 ⟨j2,d2,[],Nat,fun _ b=>.slice (some ⟨b,0,none⟩) 1 1,fun _ b=>[.row b [.int k y] et]⟩ JP) (h3:∀ u v,a1.ps u v=[.own (aI e (aL k)) (a1.rt u v) xs]) (h4:gy a1.j A=true) (h5:gy j2 A=true) (h6:U.getD i []=[a1.j])
  (hf:fits bt (xs.length+1)=some ()) (JE:rf l mt U A (.call ⟨.builtin .append,#[.tmp t1,.tmp t2],#[t,t]⟩) d ty as ops i) (h:jj P Z l mt U r0 w0 H i sl ms) :
  jj P Z l mt U r0 w0 H (i+1) sl (⟨i,d,[],Value,fun _ v=>v,fun _ v=>[.own (aI e (aL k)) v (xs++[y])]⟩ :: p8):=by
 obtain ⟨S',hl,hR,hO⟩:=h
 subst hl
 obtain ⟨hA,⟨pos,ag,ho⟩,_⟩:=JE
 obtain ⟨b1,b2⟩:=qj hf
 obtain ⟨q1,hE,i',z,q3,q4,q5,q6,q7,q8⟩:=hz.h
 obtain ⟨m1,m2,m3,m4⟩:=h1.sub
 obtain ⟨n1,n2,_,_⟩:=h2.sub
 refine ⟨S'++[⟨true,MV Z ⟨S'.length,d,[],Value,fun _ v=>v,fun _ v=>[.own (aI e (aL k)) v (xs++[y])]⟩⟩],by simp,(hR.sub m3 m4).mem rfl (by unfold br; rw [ho]; rfl) (by intro t h; cases h),fun j hj=>?_⟩
 by_cases bn:j < S'.length
 ·exact jg.more (hO j bn) bn
 ·obtain rfl:j=S'.length:=by omega
  intro o' s' cj fi g r w hC Io kz hn kp BA rh
  rw [ho] at cj
  cases cj
  rw [List.getElem?_append_right (Nat.le_refl _),Nat.sub_self] at fi
  cases fi
  rw [if_pos rfl]
  refine ⟨rfl,?_⟩
  have get:∀ a∈ms,gy a.j A=true→MV Z a (g a.j) w r (r a.d):=fun a hm hb=>by
   exact hR.JR hm (hn a.j (r5 (by rw [← hA]; exact pj.1 hb)).2)
  obtain ⟨v1,c1,c2,c3⟩:=get a1 m1 h4
  obtain ⟨v2,f1,f2,f3⟩:=get _ (m3 _ n1) h5
  rw [h3,← c1,m2] at c2
  rw [m2] at c1
  simp only at f1 f2
  subst n2
  replace c2:=c2.own rfl
  replace f2:=f2.own rfl
  generalize Ic:g a1.j=G1 at c2 c3
  generalize mw:g j2=G2 at f2 f3
  cases c2 with
  | fact h _=>exact h.elim
  | @own _ ff F0 _ Sh Ch=>
   cases Ch
   rw [List.append_nil] at c3
   cases f2 with
   | fact h _=>exact h.elim
   | @own _ gg F0 _ bd Ch=>
    cases Ch
    obtain ⟨rfl,bd⟩:=bd
    have hb:r6 g (U.getD S'.length [])=ff:=by rw [h6]; simp [r6,Ic]
    refine qw (gn.xH (E:=aL k) (F:=ff) q1 q3 q4 q5 rfl q6 (s:=.tmp t1) (x:=.tmp d2) rfl ⟨Sh,c3⟩ (fun b hb=>hb) f1 bd ⟨rfl,rfl⟩ (by rw [q7]; exact b1) b2) ?_
    rintro v w' ⟨JT,f',wP,hV⟩
    rw [hb]
    refine ⟨JT,f',wP,v,rfl,?_,hV.2⟩
    have:=HL.own (Z:=fun _=>False) (e:=.own (aI e (aL k)) v (xs++[y])) (f:=f') hV.1 .nil
    exact .inl (by simpa using this)
theorem gn.Et {α:Type} {E:ai α} {F f k:LN} {t e:TI} {s x:OO} {i:TypeInfo} {z:Value} {sv yv:Value} {xs ys:List α} {r:NV} {w:World} {d:Option Nat} {ty:TI} {pos:String} {ag:Array Edge} (PK:∀ {h cs x f},E.rep h cs x f→f=[])
  (ht:P.underlying t=some (.slice e)) (hi:P.info? e=some i) (hz:i.zero=some z) (hs:i.size=1) (hE:E.size=1) (xk:z.oneCell'=true)
  (yg:ev r s=sv) (hO:Hv (aI e E) xs f w sv) (hF:∀ b∈f,b∈F) (hx:ev r x=yv) (hy:(bE E).rep w.heap [yv] ys k)
  (hb:(xs.length+ys.length) * i.bytes≤140737488355328) (AO:xs.length+ys.length≤maxLen) :
  gn P ⟨d,.call ⟨.builtin .append,#[s,x],#[t,t]⟩,ty,pos,ag,none⟩ r w fun v w'=>aq F w w'∧∃ f',(∀ b∈f',(b∈F∨w.heap.size≤b)∧b < w'.heap.size)∧Hv (aI e E) (xs++ys) f' w' v:=by
 have tc:=Ip hy
 rcases Nat.eq_zero_or_pos ys.length with E3 | E3
 ·obtain rfl:ys=[]:=List.eq_nil_of_length_eq_zero E3
  obtain ⟨b0,c0,JU⟩:=xC hy
  obtain ⟨base,cap,hv,hr⟩:=hO.1
  obtain rfl:sv = .slice base xs.length cap:=by simpa using hv
  have Si:xs.length≤cap:=by
   rcases hr with ⟨_,rfl,rfl,_⟩ | ⟨_,_,_,_,_,_,h,_⟩
   ·simp
   ·exact h
  have oh:=BI (P:=P) (w:=w) (ty:=ty) ht hi (b:=base) (a:=b0) (c:=c0) Si
  subst JU
  have ab3:(execOp (ev r) ⟨d,.call ⟨.builtin .append,#[s,x],#[t,t]⟩,ty,pos,ag,none⟩).run P w = .ok (.value (.slice base xs.length cap)) w:=by
   simp only [execOp,resolve,invoke,builtin,Sem.run_bind,Sem.run_pure,Result.andThen_ok,List.map_toArray,List.map_cons,List.map_nil,yg,hx,List.length_nil,oh]
  unfold gn
  rw [ab3]
  exact ⟨aq.refl _ _,f,fun b hb=>⟨.inl (hF b hb),ai.lt _ hO.1 b hb⟩,by rw [List.append_nil]; exact hO⟩
 ·rcases tc with rfl | ⟨a,c,news,g1,JU,Ci,fc,_⟩
  ·simp at E3
  ·obtain ⟨rfl,_⟩:=Dx (h':=w.heap) PK fc
   obtain ⟨v,w',f',h,hC,I9,dx,dp⟩:=ql (d:=d) (ty:=ty) (pos:=pos) (ag:=ag) (g:=none) ht hi hz (by rw [hs,hE]) (by rw [cells_one xk,hE]; rfl) yg hO.1 hO.2 (hx.trans JU) Ci fc (fun _ h=>nomatch h) E3 hb AO
   unfold gn
   rw [h]
   refine ⟨hC.mono hF,f',fun b hb=>⟨?_,ai.lt _ I9 b hb⟩,I9,dp List.nodup_nil⟩
   rcases dx b hb with h | h | h
   ·exact .inl (hF b h)
   ·cases h
   ·exact .inr h
theorem xW {t:TI} {x y:OO} {i:TypeInfo} {b off:Nat} {cs us:LV} {e:TI} {r:NV} {d:Option Nat} {ty:TI} {pos:String} {ag:Array Edge} {gg:Option (Nat×Bool)}
  (hi:P.info? t=some i) (hs:us.length=i.size) (bd:Row w b cs e) (hl:off+us.length≤cs.length) (hx:ev r x = .pointer (some ⟨b,off,none⟩)) (hy:(ev r y).cells.toList=us) (hu:∀ u∈us,u.oneCell'=true) :
  (execOp (ev r) ⟨d,.store t x y,ty,pos,ag,gg⟩).run P w = .ok .skip (w.setRow b (cs.take off++us++cs.drop (off+us.length)).toArray):=by
 have h:=run_storeCells_at P b off e us 0 cs.toArray w bd (by simpa using hl) hu
 simp only [Nat.add_zero] at h
 have vn:(ev r y).cells=us.toArray:=by rw [← hy]
 simp only [execOp,Instr.storeAt,Instr.sureAddr,hx,storeVar]
 simp [vn,sizeOf,typeInfo,hi,hs,h]
theorem Wq {mt:Nat} {t e:TI} {t1 j1 n i:Nat} {y:OO} {u:Value} {us cs ds:LV} {ms p8:MM} {sl:LQ} {A:LN} {ty:TI} {as:LL} {ops:LO} {r0:NV} {w0:World} {H:LN} {Γ:QE} {F:LN} (hh:ma l mt base=true) (ha:dg r0 base) (ht:wk P t n)
  (h1:xI ms t1 ⟨j1,t1,[],Nat,fun _ b=>.pointer (some ⟨b,0,none⟩),fun _ b=>[.row b cs e]⟩ p8) (hv:fB A none sl base fr) (hy:bp fr y=some u) (hc:um Γ u us) (yd:us.length=n) (hs:vT us 0 cs ds) (ho:xx Γ us) (h4:gy j1 A=true) (h6:U.getD i []=[j1])
  (hS:∀ w,aq H w0 w→SA Z w Γ [] F) (JE:X0 l mt U A (.store t (.tmp t1) y) ty as ops i) (h:jj P Z l mt U r0 w0 H i sl ms) :
  jj P Z l mt U r0 w0 H (i+1) sl (⟨i,t1,[],Nat,fun _ b=>.pointer (some ⟨b,0,none⟩),fun _ b=>[.row b ds e]⟩ :: p8):=by
 obtain ⟨S',hl,hR,hO⟩:=h
 subst hl
 obtain ⟨hA,⟨pos,ag,UZ⟩,_⟩:=JE
 obtain ⟨ti,q1,q2⟩:=ht.h
 obtain ⟨m1,_,m3,m4⟩:=h1.sub
 have Hx:=r5 (by rw [← hA]; exact pj.1 h4)
 refine ⟨S'++[⟨true,PF Z ⟨S'.length,t1,[],Nat,fun _ b=>.pointer (some ⟨b,0,none⟩),fun _ b=>[.row b ds e]⟩⟩],by simp,(hR.sub m3 m4).aeR (b:=⟨S'.length,t1,[],Nat,fun _ b=>.pointer (some ⟨b,0,none⟩),fun _ b=>[.row b ds e]⟩) rfl (by unfold br; rw [UZ]; rfl) (hR.slot m1 Hx.1) rfl,fun j hj=>?_⟩
 by_cases bn:j < S'.length
 ·exact jg.more (hO j bn) bn
 ·obtain rfl:j=S'.length:=by omega
  intro o' s' cj fi g r w hC Io kz hn kp BA rh
  rw [UZ] at cj
  cases cj
  rw [List.getElem?_append_right (Nat.le_refl _),Nat.sub_self] at fi
  cases fi
  rw [if_pos rfl]
  refine ⟨rfl,?_⟩
  obtain ⟨b,c1,c2,c3⟩:=hR.JR m1 (hn j1 Hx.2)
  simp only at c1 c2
  replace c2:=c2.own rfl
  generalize Ic:g j1=G1 at c2 c3
  cases c2 with
  | fact h _=>exact h.elim
  | @own _ ff F0 _ Sh Ch=>
   cases Ch
   obtain ⟨rfl,bd⟩:=Sh
   have hb:r6 g (U.getD S'.length [])=[b]:=by rw [h6]; simp [r6,Ic]
   have hr:=qf hR hA hv (mf hh ha kp) kz
   obtain ⟨e1,e2⟩:=hs.eq
   have JJ:=hS w hC
   have oh:=xW (P:=P) (d:=none) (ty:=ty) (pos:=pos) (ag:=ag) (gg:=none) q1 (by rw [yd,q2]) bd e1 (x:=.tmp t1) c1 (y:=y) (by rw [bD hr hy]; exact hc.eq JJ) (ho.one JJ)
   unfold gn
   rw [oh,hb]
   have wM:=setRow_heap w b cs.toArray (cs.take 0++us++cs.drop (0+us.length)).toArray e _ bd
   have aeS:b < w.heap.size:=bd.lt
   refine ⟨⟨rfl,rfl,rfl,Nat.le_refl _,by simp,fun j _ hj=>setRow_other w b j _ fun h=>hj (by simp [h])⟩,[b],fun b' cu=>?_,b,c1,?_,by simp⟩
   ·rw [List.mem_singleton.1 cu]
    exact ⟨.inl (by simp),by simpa using aeS⟩
   ·refine .inl (HL.own (f:=[b]) ⟨rfl,?_⟩ .nil)
    rw [e2]
    exact wM
theorem Wr {mt:Nat} {t i d:Nat} {cs:LV} {sl:LQ} {ms:MM} {A:LN} {ty:TI} {as:LL} {ops:LO} {r0:NV} {w0:World} {H:LN} (hz:zB P t cs) (h1:rf l mt U A (.alloc t) d ty as ops i) (h:jj P Z l mt U r0 w0 H i sl ms) :
   jj P Z l mt U r0 w0 H (i+1) sl (⟨i,d,[],Nat,fun _ b=>.pointer (some ⟨b,0,none⟩),fun _ b=>[.row b cs t]⟩ :: ms):=by
 obtain ⟨i',z,t1,t2,t3⟩:=hz.h
 refine h.mem h1 rfl rfl (fun _ _ _ h=>nomatch h) fun S' S2 hl hR g r w hC kz hn kp pos ag=>qw (gn.UX (cs:=cs) t1 t2 (by rw [← t3])) ?_
 rintro v w' ⟨hC,f,hf,b,e1,e2,bd⟩
 refine ⟨hC,f,hf,b,e2,?_,by rw [e1]; simp⟩
 have:=HL.own (Z:=fun _=>False) (e:=.row b cs t) (f:=[b]) ⟨rfl,bd⟩ .nil
 rw [e1]
 exact .inl (by simpa using this)
theorem X1 {mt t n:Nat} {A:LN} {st:TI} {d:Nat} {ty:TI} {as:LL} {ops:LO} {i:Nat} {sl:LQ} {ms:MM} {r0:NV} {w0:World} {H:LN} (h:jj P Z l mt U r0 w0 H i sl ms) (h1:rf l mt U A (.call ⟨.builtin .len,#[.tmp t],#[st]⟩) d ty as ops i) (ht:zA P st) (hi:nt ms) (iT:ph A ms=true) (hx:∀ x:nr ms,XV (na A ms x) (r4 A ms x) t n):jj P Z l mt U r0 w0 H (i+1) ((i,d,.int .i64 (n:Int)) :: sl) ms:=by
 obtain ⟨S',hl,hR,hO⟩:=h
 subst hl
 obtain ⟨hA,⟨pos,ag,ho⟩,_⟩:=h1
 obtain ⟨e,i',q1,_,_⟩:=ht.h
 refine ⟨S'++[sV (.int .i64 (n:Int))],by simp,hR.val (by unfold br; rw [ho]; rfl),fun j hj=>?_⟩
 by_cases h2:j < S'.length
 ·exact jg.more (hO j h2) h2
 ·obtain rfl:j=S'.length:=by omega
  refine jg.val (v:=.int .i64 (n:Int)) ho (by simp) rfl fun g r w hC kz hn kp=>?_
  obtain ⟨x,hv,hE⟩:=zJ hR hA hi iT hn
  obtain ⟨BJ,XP⟩:=hx x
  have Dy:=(tn hv zi) t _ (by rw [List.append_nil]; exact BJ)
  obtain ⟨_,_,_,_,hS⟩:=hE.front (Γ:=[]) (F:=[]) rfl
  rw [List.append_nil] at hS
  obtain ⟨b,c,rfl⟩:=XP.sound hS
  exact zF q1 (x:=.tmp t) Dy
theorem jj.dep {mt t:Nat} {A:LN} {op:Op} {d:Nat} {ty:TI} {as:LL} {ops:LO} {i:Nat} {sl:LQ} {ms:MM} {r0:NV} {w0:World} {H:LN} {X:Value→Value} (h:jj P Z l mt U r0 w0 H i sl ms) (h1:rf l mt U A op d ty as ops i) (hi:nt ms) (iT:ph A ms=true) (hj:∃ j,qa t ms=some j∧gy j A=true)
  (hq:∀ (r:NV) (x:nr ms),(∀ p∈na A ms x,r p.1=p.2)→∀ w pos ag,(execOp (ev r) ⟨some d,op,ty,pos,ag,none⟩).run P w = .ok (.value (X (r t))) w):jj P Z l mt U r0 w0 H (i+1) sl (⟨i,d,[t],Unit,fun u _=>X u,fun _ _=>[]⟩ :: ms):=by
 refine h.mem h1 rfl rfl (fun S' hR t' ht=>by rw [List.mem_singleton.1 ht]; exact Ev h1.A hR hj) ?_
 intro S' S2 hl hR g r w hC kz hn kp pos ag
 obtain ⟨x,hx,_⟩:=zJ hR (by rw [hl]; exact h1.A) hi iT hn
 unfold gn
 rw [hq r x hx]
 exact ⟨aq.refl _ _,[],fun b hb=>absurd hb List.not_mem_nil,(),rfl,.inl .nil,List.nodup_nil⟩
theorem Ws {mt:Nat} {t:TI} {ps:List (Nat×Operand)} {zc:LV} {pl:List (Nat×Nat)} {A:LN} {as:LL} {d:Nat} {ty:TI} {ops:LO} {i:Nat} {sl:LQ} {ms:MM} {fr:Fr} {hd Γ:QE} {B:Bs} {r0:NV} {w0:World} {H:LN} {X:Value→List Value} {ts:LN} (hh:ma l mt base=true) (hb:AJ P t zc pl) (hi:nt ms) (iT:ph A ms=true) (hj:tsB A ms ts=true) (hv:fB A none sl base fr)
   (hx:∀ x:nr ms,yV (r4 A ms x++Γ) (na A ms x++fr) pl ps zc (X (Bt (AN (mF ms x)) ts))) (h1:rf l mt U A (.build t ps.toArray) d ty as ops i) (ha:dg r0 base) (hs:ud B Z hd Γ H w0) (h:jj P Z l mt U r0 w0 H i sl ms) :
   jj P Z l mt U r0 w0 H (i+1) sl (⟨i,d,ts,Unit,fun u _=>.agg (X u).toArray,fun _ _=>[]⟩ :: ms):=by
 have hts:∀ t∈ts,∃ j,qa t ms=some j∧gy j A=true:=fun t ht=>by
  have:=List.all_eq_true.1 hj t ht
  cases hf:qa t ms with
  | none=>rw [hf] at this; cases this
  | some j=>rw [hf] at this; exact ⟨j,rfl,this⟩
 refine h.mem h1 rfl rfl (fun S' hR t' ht=>Ev h1.A hR (hts t' ht)) ?_
 intro S' S2 hl hR g r w hC kz hn kp pos ag
 have hA:=h1.A
 rw [← hl] at hA
 have hbs:=qf hR hA hv (mf hh ha kp) kz
 obtain ⟨x,hxv,qm⟩:=zJ hR hA hi iT hn
 obtain ⟨F,Hd,⟨C6,C7,wQ,C8⟩,hS,hG⟩:=hs
 obtain ⟨G,_,_,_,jd⟩:=qm.front (ud.stay hS hG hC)
 have e:Bt (AN (mF ms x)) ts=Bt r ts:=Eu fun t ht=>by
  obtain ⟨j,h2,h3⟩:=hts t ht
  unfold AN
  rw [JL h2 h3 hxv]
 have hF:=hx x
 rw [e] at hF
 have oh:=(VQ.UR (P:=P) (hb:=hb) hF).sound jd (tn hxv hbs) (some d) ty pos ag none w (aq.refl _ _)
 unfold gn
 rw [oh]
 exact ⟨aq.refl _ _,[],fun b hb=>absurd hb List.not_mem_nil,(),rfl,.inl .nil,List.nodup_nil⟩
theorem Wt {mt:Nat} {α:Type} {t e:TI} {E:ai α} {z0:α} {bt i d:Nat} {sl:LQ} {ms:MM} {A:LN} {ty:TI} {as:LL} {ops:LO} {r0:NV} {w0:World} {H:LN} (hz:vi P t α e E z0 bt) (h1:rf l mt U A (.buildSlice t 0 #[]) d ty as ops i) (h:jj P Z l mt U r0 w0 H i sl ms) :
   jj P Z l mt U r0 w0 H (i+1) sl (⟨i,d,[],Value,fun _ v=>v,fun _ v=>[.own (aI e E) v []]⟩ :: ms):=by
 obtain ⟨t1,_,i',z,t2,_⟩:=hz.h
 refine h.mem h1 rfl rfl (fun _ _ _ h=>nomatch h) fun S' S2 hl hR g r w hC kz hn kp pos ag=>qw (gn.made (Cj (E:=E) t1 t2)) ?_
 rintro v w' ⟨hC,f,hf,hV⟩
 refine ⟨hC,f,hf,v,rfl,?_,hV.2⟩
 have:=HL.own (Z:=fun _=>False) (e:=.own (aI e E) v []) (f:=f) hV.1 .nil
 exact .inl (by simpa using this)
theorem X2 {mt n:Nat} {α:Type} {t e:TI} {E:ai α} {z0:α} {bt i d:Nat} {sl:LQ} {ms:MM} {A:LN} {ty:TI} {as:LL} {ops:LO} {r0:NV} {w0:World} {H:LN} {x:OO} {z:Int} (hh:ma l mt base=true) (ha:dg r0 base) (hz:vi P t α e E z0 bt) (hv:fB A none sl base fr) (hx:bp fr x=some (.int .i64 z)) (hn:mk bt z=some n) (h1:rf l mt U A (.makeSlice t x x) d ty as ops i) (h:jj P Z l mt U r0 w0 H i sl ms) :
   jj P Z l mt U r0 w0 H (i+1) sl (⟨i,d,[],Value,fun _ v=>v,fun _ v=>[.own (aI e E) v (List.replicate n z0)]⟩ :: ms):=by
 obtain ⟨e1,e2,e3⟩:=Hs hn
 obtain ⟨t1,hE,i',z',t2,t3,t4,t5,t6,t7⟩:=hz.h
 subst e1
 refine h.mem h1 rfl rfl (fun _ _ _ h=>nomatch h) fun S' S2 hl hR g r w hC kz hn kp pos ag=>?_
 have hb:=qf hR (by rw [hl]; exact h1.A) hv (mf hh ha kp) kz
 refine qw (gn.made (JV (E:=E) (z0:=z0) t1 t2 t3 t4 hE t5 t7 (bD hb hx) (bD hb hx) (by rw [t6]; exact e2) e3)) ?_
 rintro v w' ⟨hC,f,hf,hV⟩
 refine ⟨hC,f,hf,v,rfl,?_,hV.2⟩
 have:=HL.own (Z:=fun _=>False) (e:=.own (aI e E) v (List.replicate n z0)) (f:=f) hV.1 .nil
 exact .inl (by simpa using this)
theorem X3 {mt:Nat} {α:Type} {t e:TI} {E:ai α} {z0:α} {bt i d:Nat} {sl:LQ} {ms:MM} {A:LN} {ty:TI} {as:LL} {ops:LO} {r0:NV} {w0:World} {H:LN} {x:OO} {u:Value} {Γ:QE} {F:LN} (hh:ma l mt base=true) (ha:dg r0 base) (hz:vi P t α e E z0 bt) (hv:fB A none sl base fr) (hx:bp fr x=some u) (ho:One Γ u) (hS:∀ w,aq H w0 w→SA Z w Γ [] F) (h1:rf l mt U A (.buildSlice t 1 #[(0,x)]) d ty as ops i) (h:jj P Z l mt U r0 w0 H i sl ms) :
   jj P Z l mt U r0 w0 H (i+1) sl (⟨i,d,[],Nat,fun _ b=>.slice (some ⟨b,0,none⟩) 1 1,fun _ b=>[.row b [u] e]⟩ :: ms):=by
 obtain ⟨t1,hE,i',z',t2,t3,t4,t5,t6,t7⟩:=hz.h
 refine h.mem h1 rfl rfl (fun _ _ _ h=>nomatch h) fun S' S2 hl hR g r w hC kz hn kp pos ag=>?_
 have hb:=qf hR (by rw [hl]; exact h1.A) hv (mf hh ha kp) kz
 refine qw (gn.Hq t1 t2 t3 t4 (bD hb hx) (ho.one (hS w hC))) ?_
 rintro v w' ⟨hC,f,hf,b,e1,e2,bd⟩
 refine ⟨hC,f,hf,b,e2,?_,by rw [e1]; simp⟩
 have:=HL.own (Z:=fun _=>False) (e:=.row b [u] e) (f:=[b]) ⟨rfl,bd⟩ .nil
 rw [e1]
 exact .inl (by simpa using this)
theorem MT {mt n:Nat} {t e:TI} {i d:Nat} {sl:LQ} {ms:MM} {A:LN} {ty:TI} {as:LL} {ops:LO} {r0:NV} {w0:World} {H:LN} {ps:List (Nat×Operand)} {us:LV} {Γ:QE} {F:LN} (hh:ma l mt base=true) (ha:dg r0 base) (hz:Jp P t e) (hv:fB A none sl base fr) (hd:xz Γ fr 0 ps us) (hn:us.length=n) (hb:(Nat.ble 1 n && Nat.ble n 16777216)=true) (hS:∀ w,aq H w0 w→SA Z w Γ [] F) (h1:rf l mt U A (.buildSlice t n ps.toArray) d ty as ops i) (h:jj P Z l mt U r0 w0 H i sl ms) :
   jj P Z l mt U r0 w0 H (i+1) sl (⟨i,d,[],Nat,fun _ b=>.slice (some ⟨b,0,none⟩) n n,fun _ b=>[.row b us e]⟩ :: ms):=by
 refine h.mem h1 rfl rfl (fun _ _ _ h=>nomatch h) fun S' S2 hl hR g r w hC kz hnn kp pos ag=>?_
 have cu:=qf hR (by rw [hl]; exact h1.A) hv (mf hh ha kp) kz
 unfold gn
 rw [hd.op cu (hS w hC) hz hn hb]
 refine ⟨aq.alloc _ _ _,[w.heap.size],fun b hb=>by rw [List.mem_singleton.1 hb]; simp,w.heap.size,rfl,?_,by simp⟩
 have:=HL.own (Z:=fun _=>False) (e:=.row w.heap.size us e) (f:=[w.heap.size]) ⟨rfl,heap_alloc_new w _⟩ .nil
 exact .inl (by simpa using this)
theorem Wu {mt t:Nat} {α:Type} {s e:TI} {E:ai α} {z0:α} {bt i d:Nat} {sl:LQ} {ms:MM} {A:LN} {ty:TI} {as:LL} {ops:LO} {r0:NV} {w0:World} {H:LN} (hz:vi P s α e E z0 bt) (hi:nt ms) (iT:ph A ms=true) (hj:∃ j,qa t ms=some j∧gy j A=true) (hx:∀ x:nr ms,Sa (na A ms x) (r4 A ms x) t) (h1:rf l mt U A (.buildSlice s 1 #[(0,.tmp t)]) d ty as ops i) (h:jj P Z l mt U r0 w0 H i sl ms) :
   jj P Z l mt U r0 w0 H (i+1) sl (⟨i,d,[t],Nat,fun _ b=>.slice (some ⟨b,0,none⟩) 1 1,fun u b=>[.row b [u] e]⟩ :: ms):=by
 obtain ⟨t1,hE,i',z',t2,t3,t4,t5,t6,t7⟩:=hz.h
 refine h.mem h1 rfl rfl (fun S' hR t' ht=>by rw [List.mem_singleton.1 ht]; exact Ev h1.A hR hj) ?_
 intro S' S2 hl hR g r w hC kz hn kp pos ag
 obtain ⟨x,hv,hE⟩:=zJ hR (by rw [hl]; exact h1.A) hi iT hn
 obtain ⟨BJ,vW⟩:=hx x
 have Dy:r t=_:=(tn hv zi) t _ (by rw [List.append_nil]; exact BJ)
 obtain ⟨_,_,_,_,hS⟩:=hE.front (Γ:=[]) (F:=[]) rfl
 rw [List.append_nil] at hS
 refine qw (gn.Hq t1 t2 t3 t4 (x:=.tmp t) rfl (by show (r t).oneCell'=true; rw [Dy]; exact vW.one hS)) ?_
 rintro v w' ⟨hC,f,hf,b,e1,e2,bd⟩
 refine ⟨hC,f,hf,b,e2,?_,by rw [e1]; simp⟩
 have:=HL.own (Z:=fun _=>False) (e:=.row b [r t] e) (f:=[b]) ⟨rfl,bd⟩ .nil
 rw [e1]
 exact .inl (by simpa [yF,Bt] using this)
theorem Wv:∀ cs:List Value,l5 cs [] cs:=by
 intro cs
 induction cs with
 | nil=>exact .nil
 | cons c cs ih=>exact .cons ih
theorem Ww {mt t n:Nat} {s e:TI} {i d:Nat} {sl:LQ} {ms:MM} {A:LN} {ty:TI} {as:LL} {ops:LO} {r0:NV} {w0:World} {H:LN} (hz:Jr P s e n) (hb:(Nat.ble 1 1 && Nat.ble (1 * n) 16777216)=true) (hi:nt ms) (iT:ph A ms=true) (hj:∃ j,qa t ms=some j∧gy j A=true) (hx:∀ x:nr ms,Sb (na A ms x) t n) (h1:rf l mt U A (.buildSlice s 1 #[(0,.tmp t)]) d ty as ops i) (h:jj P Z l mt U r0 w0 H i sl ms) :
   jj P Z l mt U r0 w0 H (i+1) sl (⟨i,d,[t],Nat,fun _ b=>.slice (some ⟨b,0,none⟩) 1 1,fun u b=>[.row b u.cells.toList e]⟩ :: ms):=by
 refine h.mem h1 rfl rfl (fun S' hR t' ht=>by rw [List.mem_singleton.1 ht]; exact Ev h1.A hR hj) ?_
 intro S' S2 hl hR g r w hC kz hn kp pos ag
 obtain ⟨x,hv,hE⟩:=zJ hR (by rw [hl]; exact h1.A) hi iT hn
 obtain ⟨BJ,hlen⟩:=hx x
 rename_i cs
 have Dy:r t = .agg cs.toArray:=(tn hv zi) t _ (by rw [List.append_nil]; exact BJ)
 have wK:dg r [(t,.agg cs.toArray)]:=(fun t' v' h'=>by
  simp only [look] at h'
  cases h2:Nat.beq t' t with
  | true=>rw [h2] at h'; cases h'; rw [Nat.eq_of_beq_eq_true h2]; exact Dy
  | false=>rw [h2] at h'; cases h')
 have hd:yW [] [(t,.agg cs.toArray)] n 0 [(0,.tmp t)] cs:=.cons (v:=.agg cs.toArray) (by simp [bp,look]) .agg hlen .nil (Wv cs)
 have UZ:(execOp (ev r) ⟨some d,.buildSlice s 1 #[(0,.tmp t)],ty,pos,ag,none⟩).run P w=_:=hd.op (Z:=fun _=>False) (w:=w) (cur:=[]) (F:=[]) wK rfl hz rfl hb
 unfold gn
 rw [UZ]
 refine ⟨aq.alloc _ _ _,[w.heap.size],fun b hb=>by rw [List.mem_singleton.1 hb]; simp,w.heap.size,rfl,?_,by simp⟩
 have yK:(Value.agg cs.toArray).cells.toList=cs:=rfl
 have:=HL.own (Z:=fun _=>False) (e:=.row w.heap.size (r t).cells.toList e) (f:=[w.heap.size]) ⟨rfl,by rw [Dy,yK]; exact heap_alloc_new w _⟩ .nil
 exact .inl (by simpa [yF,Bt] using this)
theorem Sj {mt:Nat} {β V:Type} {A:LN} {as:LL} {d:Nat} {f:FuncId} {xs:List Operand} {bc:Array TypeId} {ty:TI} {mo:Option β} {rt:β→V→List Value} {ps:β→V→List av} {ops:LO} {i:Nat} {sl:LQ} {ms:MM} {fr:Fr} {hd Γ:QE} {B:Bs} {r0:NV} {w0:World} {H:LN} {y:β} (hh:ma l mt base=true) (hf:bm P f) (hv:fB A none sl base fr)
   (hc:∀ x:nr ms,N1 P f xs (na A ms x++fr) (r4 A ms x++Γ) mo rt ps) (hi:nt ms) (iT:ph A ms=true) (hw:∀ y v,uj (ps y v)=true) (h1:rf l mt U A (.call ⟨.value (.func f),xs.toArray,bc⟩) d ty as ops i) (hy:mo=some y) (ha:dg r0 base) (hs:ud B Z hd Γ H w0) (h:jj P Z l mt U r0 w0 H i sl ms) :
   JS P Z l mt U r0 w0 H i sl ms ⟨i,d,[],V,fun _ v=>tz (rt y v),fun _=>ps y⟩:=by
 obtain ⟨S',hl,hR,hO⟩:=h
 subst hl
 refine ⟨S',rfl,hR,hO,fun V' hV=>?_⟩
 obtain ⟨hA,⟨pos,ag,ho⟩,_⟩:=h1
 refine jg.Sg (V:=V') ho (by simp) rfl fun g r w hC kz hn kp=>?_
 have hb:=qf hR hA hv (mf hh ha kp) kz
 obtain ⟨x,hx,qm⟩:=zJ hR hA hi iT hn
 obtain ⟨JW,Dz,hd,hr⟩:=hc x
 obtain ⟨fn,c,f1,f2,f3⟩:=hf.h
 refine Calls.NU f1 f2 f3 ?_
 rw [wg (tn hx hb) JW]
 obtain ⟨F,Hd,⟨C6,C7,wQ,C8⟩,hS,hG⟩:=hs
 obtain ⟨G,j8,FV,DA,jd⟩:=qm.front (ud.stay hS hG hC)
 rw [u5] at Dz
 refine (Dz.2 w (fun b=>Z b∨b∈G) [] (hr.sound (fun _ h=>h) (fun _ b hb=>.inr (DA b hb)) jd hd.ho) List.nodup_nil (fun b hb=>absurd hb List.not_mem_nil)
  (fun b hb=>hb.elim (fun h=>Nat.lt_of_lt_of_le (hG.tb b h) hC.size) fun h=>(j8 b h).2) y hy).mono ?_
 rintro e w' ⟨v,he,Z2,F2,vj,mw⟩
 have DB:HL (fun _=>False) w' (ps y v) F2:=Dr (hw y v) vj
 have bn:=(DB.front (Γ:=[]) (F:=[]) rfl).lt
 obtain ⟨f',dx,JX⟩:=hV F2 w' r _ ⟨v,rfl,.inl DB,mw.nd⟩
 refine ⟨_,he,mw.ly,f',fun b hb=>⟨(mw.low b (dx b hb)).resolve_left List.not_mem_nil,bn b (by simpa using dx b hb)⟩,JX⟩
theorem PL {mt:Nat} {β V:Type} {A:LN} {as:LL} {d:Nat} {f:FuncId} {fs bs:LV} {xo:OO} {xs:List Operand} {bc:Array TypeId} {ty:TI} {mo:Option β} {rt:β→V→List Value} {ps:β→V→List av} {ops:LO} {i:Nat} {sl:LQ} {ms:MM} {fr:Fr} {hd Γ:QE} {B:Bs} {r0:NV} {w0:World} {H:LN} {y:β} (hh:ma l mt base=true) (hf:bm P f) (hv:fB A none sl base fr)
   (X4:bp fr xo=some (.func (.func f) fs.toArray bs.toArray)) (hc:∀ x:nr ms,N2 P f fs bs xs (na A ms x++fr) (r4 A ms x++Γ) mo rt ps) (hi:nt ms) (iT:ph A ms=true) (hw:∀ y v,uj (ps y v)=true) (h1:rf l mt U A (.call ⟨.value xo,xs.toArray,bc⟩) d ty as ops i) (hy:mo=some y) (ha:dg r0 base) (hs:ud B Z hd Γ H w0) (h:jj P Z l mt U r0 w0 H i sl ms) :
   JS P Z l mt U r0 w0 H i sl ms ⟨i,d,[],V,fun _ v=>tz (rt y v),fun _=>ps y⟩:=by
 obtain ⟨S',hl,hR,hO⟩:=h
 subst hl
 refine ⟨S',rfl,hR,hO,fun V' hV=>?_⟩
 obtain ⟨hA,⟨pos,ag,ho⟩,_⟩:=h1
 refine jg.Sg (V:=V') ho (by simp) rfl fun g r w hC kz hn kp=>?_
 have hb:=qf hR hA hv (mf hh ha kp) kz
 obtain ⟨x,hx,qm⟩:=zJ hR hA hi iT hn
 obtain ⟨JW,k1,k2,Dz,hd,hr⟩:=hc x
 obtain ⟨fn,c,f1,f2,f3⟩:=hf.h
 unfold gn
 rw [JI (bD hb X4) f1 f2 f3,wg (tn hx hb) JW,List.append_assoc,k1.eq,k2.eq]
 obtain ⟨F,Hd,⟨C6,C7,wQ,C8⟩,hS,hG⟩:=hs
 obtain ⟨G,j8,FV,DA,jd⟩:=qm.front (ud.stay hS hG hC)
 rw [u5] at Dz
 refine (Dz.2 w (fun b=>Z b∨b∈G) [] (hr.sound (fun _ h=>h) (fun _ b hb=>.inr (DA b hb)) jd hd.ho) List.nodup_nil (fun b hb=>absurd hb List.not_mem_nil)
  (fun b hb=>hb.elim (fun h=>Nat.lt_of_lt_of_le (hG.tb b h) hC.size) fun h=>(j8 b h).2) y hy).mono ?_
 rintro e w' ⟨v,he,Z2,F2,vj,mw⟩
 have DB:HL (fun _=>False) w' (ps y v) F2:=Dr (hw y v) vj
 have bn:=(DB.front (Γ:=[]) (F:=[]) rfl).lt
 obtain ⟨f',dx,JX⟩:=hV F2 w' r _ ⟨v,rfl,.inl DB,mw.nd⟩
 refine ⟨_,he,mw.ly,f',fun b hb=>⟨(mw.low b (dx b hb)).resolve_left List.not_mem_nil,bn b (by simpa using dx b hb)⟩,JX⟩
theorem JY {A:LN} {g:Nat→List Nat} {b:Nat}:∀ {ms:MM},b∈Dw A g ms→∃ a∈ms,gy a.j A=true∧b∈g a.j:=by
 intro ms
 induction ms with
 | nil=>intro h; exact absurd h List.not_mem_nil
 | cons a l ih=>
  intro h
  unfold Dw at h
  cases hb:gy a.j A with
  | true=>
   rw [hb] at h
   rcases List.mem_append.1 h with h | h
   ·exact ⟨a,by simp,hb,h⟩
   ·obtain ⟨c,h1,h2⟩:=ih h; exact ⟨c,List.mem_cons_of_mem _ h1,h2⟩
  | false=>rw [hb] at h; obtain ⟨c,h1,h2⟩:=ih h; exact ⟨c,List.mem_cons_of_mem _ h1,h2⟩
theorem JZ {mt i:Nat} (h:((U.set i []).all fun us=>!(us.contains l.length))=true):xX l U mt i=true:=by
 unfold xX
 simp only [List.all_eq_true,List.mem_range,Bool.or_eq_true,Bool.not_eq_true'] at h ⊢
 intro k _
 by_cases hk:k=i
 ·exact .inl (.inr (by rw [hk]; exact Nat.beq_refl i))
 ·refine .inl (.inl ?_)
  rw [List.getD_eq_getElem?_getD]
  cases hu:U[k]? with
  | none=>rfl
  | some us=>exact h us (List.mem_of_getElem? (i:=k) (by rw [List.getElem?_set_ne (fun e=>hk e.symm)]; exact hu))
theorem HO.mono {Z':Nat→Prop} (hz:∀ b,Z b→Z' b) {Δ:QE} {F:LN} (h:HO Z w Δ F):HO Z' w Δ F:=by
 induction h with
 | nil=>exact .nil
 | own h _ ih=>exact .own (h.mono hz) ih
 | rd _ ih=>exact .rd ih
 | bc _ ih=>exact .bc ih
theorem PM {mt:Nat} {β V:Type} {A:LN} {as:LL} {d:Nat} {f:FuncId} {xs:List Operand} {bc:Array TypeId} {ty:TI} {mo:Option β} {rt:β→V→List Value} {ps:β→V→List av} {ops:LO} {i:Nat} {sl:LQ} {ms:MM} {fr:Fr} {hd Γ:QE} {B:Bs} {r0:NV} {w0:World} {H:LN} {y:β} (hh:ma l mt base=true) (hf:bm P f) (hv:fB A none sl base fr)
   (hU:U.getD i []=[l.length]) (PN:((U.set i []).all fun us=>!(us.contains l.length))=true)
   (hc:∀ x:nr ms,Gc P f xs (na A ms x++fr) hd (r4 A ms x++Γ) mo rt ps) (hi:nt ms) (iT:ph A ms=true) (hw:∀ y v,uj (ps y v)=true) (h1:rf l mt U A (.call ⟨.value (.func f),xs.toArray,bc⟩) d ty as ops i) (hy:mo=some y) (ha:dg r0 base) (hs:ud B Z hd Γ H w0) (h:jj P Z l mt U r0 w0 H i sl ms) :
   JS P Z l mt U r0 w0 H i sl ms ⟨i,d,[],V,fun _ v=>tz (rt y v),fun _=>ps y⟩:=by
 obtain ⟨S',hl,hR,hO⟩:=h
 subst hl
 refine ⟨S',rfl,hR,hO,fun V' hV=>?_⟩
 obtain ⟨hA,⟨pos,ag,ho⟩,_⟩:=h1
 intro o' s' cj fi g r w hC Io kz hn kp BA rh
 rw [ho] at cj
 cases cj
 rw [List.getElem?_append_right (Nat.le_refl _),Nat.sub_self] at fi
 cases fi
 rw [if_pos rfl]
 refine ⟨rfl,?_⟩
 obtain ⟨X5,X6,X7⟩:=Io (JZ PN)
 have hb:=qf hR hA hv (mf hh ha kp) kz
 obtain ⟨x,hx,qm⟩:=zJ hR hA hi iT hn
 obtain ⟨JW,Dz,X8,hr⟩:=hc x
 obtain ⟨fn,c,f1,f2,f3⟩:=hf.h
 refine Calls.NU f1 f2 f3 ?_
 rw [wg (tn hx hb) JW]
 obtain ⟨F,Hd,⟨C6,C7,wQ,C8⟩,hS,hG⟩:=hs
 obtain ⟨G,j8,FV,DA,jd⟩:=qm.front (ud.stay hS hG hC)
 obtain ⟨Fd,F',X9,_,J3⟩:=X8.sound (C6.lu X5)
 have dx:∀ b∈Fd,b∈H:=fun b hb=>(C7 b (J3.mem_iff.1 (List.mem_append_left _ hb))).1
 have dp:=List.nodup_append.1 hG.nd
 have hblk:r6 g (U.getD S'.length [])=H:=by rw [hU]; simp [r6,X6]
 rw [hblk]
 rw [u5] at Dz
 refine (Dz.2 w (fun b=>Z b∨b∈G) Fd (hr.sound (fun _ h=>h) (fun _ b hb=>.inr (DA b hb)) jd (X9.mono fun _ h=>.inl h)) ((J3.nodup_iff.2 C8).sublist (List.sublist_append_left _ _)) (fun b hb=>?_)
  (fun b hb=>hb.elim (fun h=>Nat.lt_of_lt_of_le (hG.tb b h) hC.size) fun h=>(j8 b h).2) y hy).mono ?_
 ·rintro (hz | hz)
  ·exact hG.apart b (List.mem_append_left _ (dx b hb)) hz
  ·rcases List.mem_append.1 (j8 b hz).1 with hz | hz
   ·obtain ⟨a,ham,yh,wK⟩:=JY hz
    have h2:=X7 a.j (r5 (by rw [← hA]; exact pj.1 yh)).1 b wK
    have h3:=wQ b (dx b hb)
    omega
   ·exact dp.2.2 b (dx b hb) b hz rfl
 ·rintro e w' ⟨v,he,Z2,F2,vj,mw⟩
  have DB:HL (fun _=>False) w' (ps y v) F2:=Dr (hw y v) vj
  have bn:=(DB.front (Γ:=[]) (F:=[]) rfl).lt
  obtain ⟨f',PO,JX⟩:=hV F2 w' r _ ⟨v,rfl,.inl DB,mw.nd⟩
  exact ⟨_,he,mw.ly.mono dx,f',fun b hb=>⟨(mw.low b (PO b hb)).imp (dx b) id,bn b (by simpa using PO b hb)⟩,JX⟩
theorem Fq.sub {ms C5:MM} {a:iq} {t:Nat} (h:Fq ms t a C5):a∈ms∧a.j=t∧(∀ b∈C5,b∈ms)∧(C5.map (·.j)).Sublist (ms.map (·.j))∧((ms.map (·.j)).Nodup→∀ b∈C5,b.j≠t):=by
 induction h with
 | here=>exact ⟨by simp,rfl,fun b hb=>List.mem_cons_of_mem _ hb,by simp,fun hn b hb he=>by rw [List.map_cons,List.nodup_cons] at hn; exact hn.1 (by rw [← he]; exact List.mem_map_of_mem hb)⟩
 | there _ ih=>
  obtain ⟨h1,h2,h3,h4,h5⟩:=ih
  refine ⟨List.mem_cons_of_mem _ h1,h2,fun b hb=>?_,by simpa using h4,fun hn b hb=>?_⟩
  ·rcases List.mem_cons.1 hb with rfl | hb
   ·simp
   ·exact List.mem_cons_of_mem _ (h3 b hb)
  ·rw [List.map_cons,List.nodup_cons] at hn
   rcases List.mem_cons.1 hb with rfl | hb
   ·intro he
    exact hn.1 (by rw [he,← h2]; exact List.mem_map_of_mem h1)
   ·exact h5 hn.2 b hb
theorem PR {mt:Nat} {β V:Type} {j1:Nat} {a1:iq} {A:LN} {as:LL} {d:Nat} {f:FuncId} {xs:List Operand} {bc:Array TypeId} {ty:TI} {mo:Option β} {rt:β→V→List Value} {ps:β→V→List av} {ops:LO} {i:Nat} {sl:LQ} {ms p8:MM} {fr:Fr} {hd Γ:QE} {B:Bs} {r0:NV} {w0:World} {H:LN} {y:β} (hh:ma l mt base=true) (hf:bm P f) (hv:fB A none sl base fr)
   (hU:U.getD i []=[j1]) (Ic:Fq ms j1 a1 p8) (UY:a1.src=[]) (h4:gy j1 A=true)
   (hc:∀ (q:a1.V) (x:nr p8),Gc P f xs (na A p8 x++fr) (a1.ps undef q) (r4 A p8 x++Γ) mo rt ps) (hi:nt p8) (iT:ph A p8=true) (hw:∀ y v,uj (ps y v)=true) (h1:rf l mt U A (.call ⟨.value (.func f),xs.toArray,bc⟩) d ty as ops i) (hy:mo=some y) (ha:dg r0 base) (hs:ud B Z hd Γ H w0) (h:jj P Z l mt U r0 w0 H i sl ms) :
   JS P Z l mt U r0 w0 H i sl p8 ⟨i,d,[],V,fun _ v=>tz (rt y v),fun _=>ps y⟩:=by
 obtain ⟨S',hl,Ya,hO⟩:=h
 subst hl
 obtain ⟨m1,m2,m3,m4,m5⟩:=Ic.sub
 have hR:=Ya.sub m3 m4
 refine ⟨S',rfl,hR,hO,fun V' hV=>?_⟩
 obtain ⟨hA,⟨pos,ag,ho⟩,_⟩:=h1
 intro o' s' cj fi g r w hC Io kz hn kp BA rh
 rw [ho] at cj
 cases cj
 rw [List.getElem?_append_right (Nat.le_refl _),Nat.sub_self] at fi
 cases fi
 rw [if_pos rfl]
 refine ⟨rfl,?_⟩
 have Hx:=r5 (by rw [← hA]; exact pj.1 h4)
 have hb:=qf hR hA hv (mf hh ha kp) kz
 obtain ⟨x,hx,qm⟩:=zJ hR hA hi iT hn
 obtain ⟨q,_,MU,hq3⟩:=Ya.JR m1 (hn a1.j (by rw [m2]; exact Hx.2))
 have yg:yF a1 r=undef:=by unfold yF; rw [UY]; rfl
 rw [yg,m2] at MU
 rw [m2] at hq3
 obtain ⟨JW,Dz,X8,hr⟩:=hc q x
 obtain ⟨fn,c,f1,f2,f3⟩:=hf.h
 refine Calls.NU f1 f2 f3 ?_
 rw [wg (tn hx hb) JW]
 obtain ⟨F,Hd,⟨C6,C7,wQ,C8⟩,hS,hG⟩:=hs
 have hSt:=ud.stay hS hG hC
 obtain ⟨G,j8,FV,DA,jd⟩:=qm.front hSt
 obtain ⟨Fo,Fr,hff,hFr,hq4⟩:=MU.all
 have hSq:SA (fun b=>Z b∨b∈Fr) w (a1.ps undef q) [] Fo:=by
  have:=hq4.front (Γ:=[]) (F:=[]) rfl
  simpa using this
 have hnq:=List.nodup_append.1 (hff ▸ hq3)
 obtain ⟨Fd,F',X9,_,J3⟩:=X8.sound hSq
 have U0:∀ b∈Fd,b∈Fo:=fun b hb=>J3.mem_iff.1 (List.mem_append_left _ hb)
 have dx:∀ b∈Fd,b∈g j1:=fun b hb=>by rw [hff]; exact List.mem_append_left _ (U0 b hb)
 have dp:=List.nodup_append.1 hG.nd
 have hblk:r6 g (U.getD S'.length [])=g j1:=by rw [hU]; simp [r6]
 rw [hblk]
 rw [u5] at Dz
 have MW:∀ b∈g j1,w0.heap.size≤b∨b∈H:=fun b hb=>(rh j1 Hx.1 b hb).1
 refine (Dz.2 w (fun b=>Z b∨b∈Fr++G) Fd (hr.sound (fun _ h=>h) (fun _ b hb=>.inr (List.mem_append_right _ (DA b hb))) (jd.mono (fun _ h=>h.imp id fun h=>List.mem_append_right _ h) fun _ h=>h) (X9.mono fun _ h=>h.imp id fun h=>List.mem_append_left _ h)) ((J3.nodup_iff.2 hnq.1).sublist (List.sublist_append_left _ _)) (fun b hb=>?_)
  (fun b hb=>hb.elim (fun h=>Nat.lt_of_lt_of_le (hG.tb b h) hC.size) fun h=>(List.mem_append.1 h).elim (hFr b) fun h=>(j8 b h).2) y hy).mono ?_
 ·rintro (hz | hz)
  ·rcases MW b (dx b hb) with h | h
   ·have:=hG.tb b hz; omega
   ·exact hG.apart b (List.mem_append_left _ h) hz
  ·rcases List.mem_append.1 hz with hz | hz
   ·exact hnq.2.2 b (U0 b hb) b hz rfl
   rcases List.mem_append.1 (j8 b hz).1 with hz | hz
   ·obtain ⟨a,ham,yh,wK⟩:=JY hz
    exact BA a.j (r5 (by rw [← hA]; exact pj.1 yh)).1 j1 Hx.1 (m5 Ya.d a ham) b wK (dx b hb)
   ·rcases MW b (dx b hb) with h | h
    ·have:=hS.lt b hz; omega
    ·exact dp.2.2 b h b hz rfl
 ·rintro e w' ⟨v,he,Z2,F2,vj,mw⟩
  have DB:HL (fun _=>False) w' (ps y v) F2:=Dr (hw y v) vj
  have bn:=(DB.front (Γ:=[]) (F:=[]) rfl).lt
  obtain ⟨f',PO,JX⟩:=hV F2 w' r _ ⟨v,rfl,.inl DB,mw.nd⟩
  exact ⟨_,he,mw.ly.mono dx,f',fun b hb=>⟨(mw.low b (PO b hb)).imp (dx b) id,bn b (by simpa using PO b hb)⟩,JX⟩
theorem SA.app {Γ Γ':QE} {F F':LN}:∀ {cur:LN},SA Z w Γ' cur F'→SA Z w Γ [] F→SA Z w (Γ'++Γ) cur (F'++F):=by
 induction Γ' generalizing F' with
 | nil=>intro cur h hs; cases h; exact hs.any
 | cons e Γ' ih=>
  intro cur h hs
  cases e with
  | own T v x=>obtain ⟨f,F1,rfl,h1,h2⟩:=h; exact ⟨f,F1++F,by rw [List.append_assoc],h1,ih h2 hs⟩
  | om e E v xs=>obtain ⟨f,F1,rfl,h1,h2⟩:=h; exact ⟨f,F1++F,by rw [List.append_assoc],h1,ih h2 hs⟩
  | row b cs e=>obtain ⟨f,F1,rfl,h1,h2⟩:=h; exact ⟨f,F1++F,by rw [List.append_assoc],h1,ih h2 hs⟩
  | gv e E v xs j u=>obtain ⟨f,F1,rfl,h1,h2⟩:=h; exact ⟨f,F1++F,by rw [List.append_assoc],h1,ih h2 hs⟩
  | rd o T v x=>exact ⟨h.1,ih h.2 hs⟩
  | ad o1 o2 v j T x=>exact ⟨h.1,ih h.2 hs⟩
  | bc p cs=>exact ⟨h.1,ih h.2 hs⟩
  | hd v j u=>exact ⟨h.1,ih h.2 hs⟩
theorem jj.aeT {mt:Nat} {A:LN} {op:Op} {d:Nat} {ty:TI} {as:LL} {ops:LO} {i:Nat} {sl:LQ} {ms:MM} {r0:NV} {w0:World} {H:LN} {u:Value} (h:jj P Z l mt U r0 w0 H i sl ms) (hh:ma l mt base=true) (ha:dg r0 base) (h1:rf l mt U A op d ty as ops i)
  (hV:(U.zipIdx.all fun p=>!(p.1.contains l.length) || ((b9 l).getD p.2 []).contains i)=true) (hv:fB A none sl base fr) (hq:∀ r,dg r fr→∀ pos ag g w,aq [] w0 w→(execOp (ev r) ⟨some d,op,ty,pos,ag,g⟩).run P w = .ok (.value u) w):jj P Z l mt U r0 w0 H (i+1) ((i,d,u) :: sl) ms:=by
 obtain ⟨S',hl,hR,hO⟩:=h
 subst hl
 obtain ⟨hA,⟨pos,ag,ho⟩,_⟩:=h1
 refine ⟨S'++[sV u],by simp,hR.val (by unfold br; rw [ho]; rfl),fun j hj=>?_⟩
 by_cases h2:j < S'.length
 ·exact jg.more (hO j h2) h2
 ·obtain rfl:j=S'.length:=by omega
  have hN:xX l U mt S'.length=true:=by
   unfold xX
   simp only [List.all_eq_true,List.mem_range,Bool.or_eq_true,Bool.not_eq_true'] at hV ⊢
   intro k _
   rw [List.getD_eq_getElem?_getD]
   cases hu:U[k]? with
   | none=>exact .inl (.inl rfl)
   | some us=>
    have hm:(us,k)∈U.zipIdx:=by rw [List.mem_zipIdx_iff_getElem?]; exact hu
    exact (hV _ hm).imp .inl id
  intro o' s' cj fi g r w hC Io kz hn kp BA rh
  rw [ho] at cj
  cases cj
  rw [List.getElem?_append_right (Nat.le_refl _),Nat.sub_self] at fi
  cases fi
  rw [if_pos rfl]
  refine ⟨rfl,?_⟩
  unfold gn
  rw [hq r (qf hR hA hv (mf hh ha kp) kz) _ _ _ w (Io hN).1]
  exact ⟨aq.refl _ _,[],fun b hb=>absurd hb List.not_mem_nil,rfl⟩
theorem Wx {mt:Nat} {hd ju:QE} {α:Type} {t e e' et:TI} {E E':ai α} {z0:α} {bt t1 t2 j2:Nat} {v u yv:Value} {j:Int} {y:α} {z:List α} {xs:List (List α)} {o1 o2:Bool} {Γx:QE} {JP:MM} {A:LN} {as:LL} {d:Nat} {ty:TI} {ops:LO} {i:Nat} {sl:LQ} {ms:MM} {Γ:QE} {B:Bs} {r0:NV} {w0:World} {H:LN} (hh:ma l mt base=true) (ha:dg r0 base) (hT:vi P t α e E z0 bt) (hU:U.getD i []=[l.length])
   (PN:((U.set i []).all fun us=>!(us.contains l.length))=true) (hv:fB A none sl base fr) (hs:look fr t1=some u) (h2:xI ms t2 ⟨j2,t2,[],Nat,fun _ b=>.slice (some ⟨b,0,none⟩) 1 1,fun _ b=>[.row b [yv] et]⟩ JP) (h5:gy j2 A=true) (hl:Loc hd u (.row v j)) (hz:qh hd u o1 o2 E' z vv Γx) (h1:ed hd (.own (aI e' (aI e E)) v xs) ju) (hr:RT (aI e E) (bE E')) (hy:EZ [] E yv y [])
   (hf:fits bt (z.length+1)=some ()) (JE:rf l mt U A (.call ⟨.builtin .append,#[.tmp t1,.tmp t2],#[t,t]⟩) d ty as ops i) (rz:ud B Z hd Γ H w0) (h:jj P Z l mt U r0 w0 H i sl ms) :
  jj P Z l mt U r0 w0 H (i+1) sl (⟨i,d,[],Value,fun _ v'=>v',fun _ v'=>[.own (aI e E) v' (z++[y]),.own (wN e' (aI e E) j.toNat) v xs]⟩ :: ms)∧ud B Z ju Γ H w0:=by
 obtain ⟨F,Hd,⟨C6,C7,wQ,C8⟩,hS,hG⟩:=rz
 obtain ⟨fm0,F10,Yb,_,aeU⟩:=h1.sound C6
 refine ⟨?_,F,F10,⟨aeU,fun b hb=>C7 b (Yb.mem_iff.1 (List.mem_append_right _ hb)),wQ,(Yb.nodup_iff.2 C8).sublist (List.sublist_append_right _ _)⟩,hS,hG⟩
 obtain ⟨S',F8,hR,hO⟩:=h
 subst F8
 obtain ⟨hA,⟨pos,ag,ho⟩,_⟩:=JE
 obtain ⟨b1,b2⟩:=qj hf
 obtain ⟨q1,q2,ii,zz,q3,q4,q5,q6,q7,_⟩:=hT.h
 obtain ⟨n1,_,_,_⟩:=h2.sub
 refine ⟨S'++[⟨true,MV Z ⟨S'.length,d,[],Value,fun _ v'=>v',fun _ v'=>[.own (aI e E) v' (z++[y]),.own (wN e' (aI e E) j.toNat) v xs]⟩⟩],by simp,hR.mem rfl (by unfold br; rw [ho]; rfl) (by intro t h; cases h),fun k hk=>?_⟩
 by_cases bn:k < S'.length
 ·exact jg.more (hO k bn) bn
 ·obtain rfl:k=S'.length:=by omega
  intro o' s' cj fi g r w hC Io kz hn kp BA rh
  rw [ho] at cj
  cases cj
  rw [List.getElem?_append_right (Nat.le_refl _),Nat.sub_self] at fi
  cases fi
  rw [if_pos rfl]
  refine ⟨rfl,?_⟩
  obtain ⟨X5,X6,X7⟩:=Io (JZ PN)
  have Yc:=C6.lu X5
  obtain ⟨j0,j1,km⟩:=Loc.row hl rfl Yc
  obtain ⟨dw,_,⟨⟨gz,vh,_⟩,_⟩,_⟩:=hz.sound Yc
  obtain ⟨fm,F1,vk,hOw,_⟩:=h1.sound Yc
  obtain ⟨ky,F2,n7,Yd,_⟩:=hy.sound (Z:=Z) (w:=w) (F:=[]) rfl
  have Ye:ky=[]:=by
   cases ky with
   | nil=>rfl
   | cons a l=>exact absurd (n7.mem_iff.1 (List.mem_append_left _ List.mem_cons_self)) List.not_mem_nil
  subst Ye
  rw [vU hOw] at j1
  obtain ⟨k,gm,a1,a2,a3⟩:=JK rfl hOw (List.getElem?_eq_getElem j1) km
  have Yf:xs[j.toNat]=z:=hr.xh (hr.le.le a1) vh
  rw [Yf] at a1
  have aeV:(k++gm).Nodup:=a2.nodup_iff.2 ((vk.nodup_iff.2 C8).sublist (List.sublist_append_left _ _))
  have JC:=List.nodup_append.1 aeV
  have N8:∀ b∈k++gm,b∈H:=fun b hb=>(C7 b (vk.mem_iff.1 (List.mem_append_left _ (a2.mem_iff.1 hb)))).1
  obtain ⟨b,c1,c2,c3⟩:=hR.JR n1 (hn j2 (r5 (by rw [← hA]; exact pj.1 h5)).2)
  simp only at c1 c2
  replace c2:=c2.own rfl
  generalize Ic:g j2=G1 at c2 c3
  cases c2 with
  | fact h _=>exact h.elim
  | @own _ ff F0 _ ab4 Ch=>
   cases Ch
   obtain ⟨rfl,bd⟩:=ab4
   have hb:=qf hR hA hv (mf hh ha kp) kz
   obtain ⟨v',w',f',oh,JT,fc,dx,J4⟩:=ql (E:=E) (d:=some d) (ty:=ty) (pos:=pos) (ag:=ag) (g:=none) (r:=r) (s:=.tmp t1) (x:=.tmp t2) (k:=[]) (ys:=[y]) (news:=[yv]) q1 q3 q4 (by rw [q5,q2]) (by rw [cells_one q6,q2]; rfl) (hb _ _ hs) a1 JC.1 c1 (fun i u hi=>bd.at i u hi) (tv Yd) (fun _ h=>absurd h List.not_mem_nil) (by simp) (by rw [q7]; exact b1) b2
   unfold gn
   rw [oh]
   have hblk:r6 g (U.getD S'.length [])=H:=by rw [hU]; simp [r6,X6]
   rw [hblk]
   have hgm:(wN e' (aI e E) j.toNat).rep w'.heap [v] xs gm:=ai.fk _ a3 JT fun b hb hk=>JC.2.2 b hk b hb rfl
   refine ⟨JT.mono fun b hb=>N8 b (List.mem_append_left _ hb),f'++gm,fun b hb=>?_,v',rfl,?_,?_⟩
   ·rcases List.mem_append.1 hb with hb | hb
    ·refine ⟨?_,ai.lt _ fc b hb⟩
     rcases dx b hb with h | h | h
     ·exact .inl (N8 b (List.mem_append_left _ h))
     ·exact absurd h List.not_mem_nil
     ·exact .inr h
    ·exact ⟨.inl (N8 b (List.mem_append_right _ hb)),ai.lt _ hgm b hb⟩
   ·have:=HL.own (Z:=fun _=>False) (e:=.own (aI e E) v' (z++[y])) (f:=f') fc (HL.own (e:=.own (wN e' (aI e E) j.toNat) v xs) (f:=gm) hgm .nil)
    exact .inl (by simpa using this)
   ·refine AP (J4 List.nodup_nil) JC.2.1 fun b hb hm=>?_
    rcases dx b hb with h | h | h
    ·exact JC.2.2 b h b hm rfl
    ·exact absurd h List.not_mem_nil
    ·have:=ai.lt _ a3 b hm; omega
end
end Go.Dk
namespace Go.Dk
open Go Go.Li
section
variable {R S:Type} {P:Program} {cx:Cx R} {K:dq R S} {l tail:LO} {base fr:Fr} {U:LL} {hd:QE}
def J5 (P:Program) (cx:Cx R) (K:dq R S) (l l0:LO) (mt:Nat) (U:LL) (hd:QE) (id:Nat) (base:Fr):JA R S→Prop
 | .a as ops i sl ms Γ m=>yG l mt U as ops i→Fin P cx K l l0 mt U hd id base i sl ms Γ m
 | .o A op d ty as ops i sl ms Γ m=>rf l mt U A op d ty as ops i→Fin P cx K l l0 mt U hd id base i sl ms Γ m
 | .oc us f xs bc A d ty as ops i sl ms Γ m=>U.getD i []=us→rf l mt U A (.call ⟨.value (.func f),xs.toArray,bc⟩) d ty as ops i→Fin P cx K l l0 mt U hd id base i sl ms Γ m
 | .os A op ty as ops i sl ms Γ m=>X0 l mt U A op ty as ops i→Fin P cx K l l0 mt U hd id base i sl ms Γ m
 | .ow _ A op d ty as ops i sl ms Γ m=>rf l mt U A op d ty as ops i→Fin P cx K l l0 mt U hd id base i sl ms Γ m
 | .ix _ v fr x y t A d ty as ops i sl ms Γ m=>fB A none sl base fr→bp fr x=some v→rf l mt U A (.indexAddr t x y) d ty as ops i→Fin P cx K l l0 mt U hd id base i sl ms Γ m
 | .lb _ v j fr t x A d ty as ops i sl ms Γ m=>fB A none sl base fr→bp fr x=some (.pointer (some (db v 1 j)))→NA P t→rf l mt U A (.load t x) d ty as ops i→Fin P cx K l l0 mt U hd id base i sl ms Γ m
 | .ap us t1 t2 t A d ty as ops i sl ms Γ m=>U.getD i []=us→rf l mt U A (.call ⟨.builtin .append,#[.tmp t1,.tmp t2],#[t,t]⟩) d ty as ops i→Fin P cx K l l0 mt U hd id base i sl ms Γ m
 | .la fr a lk t x A d ty as ops i sl ms Γ m=>fB A none sl base fr→bp fr x=some (.pointer (some a))→(match lk with | none=>NA P t | some n=>AG P t n)→rf l mt U A (.load t x) d ty as ops i→Fin P cx K l l0 mt U hd id base i sl ms Γ m
 | .ld E z fr a t x A d ty as ops i sl ms Γ m=>fB A none sl base fr→bp fr x=some (.pointer (some a))→NA P t→rf l mt U A (.load t x) d ty as ops i→
   ∀ B o,m=some o→∀ r0 w0 H Z,dg r0 base→ud B Z hd Γ H w0→(∃ u,∀ w,aq H w0 w→w.cell? a=some u∧∃ g,E.rep w.heap [u] z g)→jj P Z l mt U r0 w0 H i sl ms→nb P cx.n l0 (l8 P cx B K o) r0 w0
 | .p Δ as ops i sl ms Γ m=>yG l mt U as ops i→Fin P cx K l l0 mt U hd id base i sl ms (Δ.reverse++Γ) m
 | .cr u ps d as ops i sl ms Γ m=>yG l mt U as ops (i+1)→br l i=some d→
   ∀ B o,m=some o→∀ r0 w0 H Z,dg r0 base→ud B Z hd Γ H w0→JS P Z l mt U r0 w0 H i sl ms ⟨i,d,[],_,fun _=>u,fun _=>ps⟩→nb P cx.n l0 (l8 P cx B K o) r0 w0
theorem AQ {w:World} {e n:Nat} {v:Value} {us:List (List Value)} {f:LN} {j:Int} {c:LV} (hO:(aI e (jx n)).rep w.heap [v] us f) (hj:0≤j) (hu:us[j.toNat]? = some c):c.length=n∧(∀ u∈c,u.oneCell'=true)∧∀ i u,c[i]? = some u→w.cell? ((db v n j).add i)=some u:=by
 obtain ⟨_,_,cs,f1,⟨rfl,h1,h2,_⟩,_,h3⟩:=u6 (((Le.own (Le.refl (jx n)) e).le) hO) j hj hu
 exact ⟨h1,h2,h3⟩
theorem AD.sound {l0:LO} {tq:Bool} {mt id:Nat} (hh:ma l mt base=true)
  (Ch:∀ hd i sl ms Γ m,Cg ms=true→By U sl ms=true→(∀ x:nr ms,D P cx (.p (Bv sl (mF ms x)) (Dv ms x) base Γ fun fr Γ=>.tg tq (Ce tail) l tail K Γ fr m))→J5 P cx K l l0 mt U hd id base (.a [] [] i sl ms Γ m))
  {J:JA R S} (h:AD tq P cx K l tail base U hd J):J5 P cx K l l0 mt U hd id base J:=by
 have stay:∀ {B:Bs} {Z:Nat→Prop} {hd Γ:QE} {H:LN} {w0:World},ud B Z hd Γ H w0→∃ F Hd,(SA Z w0 hd [] Hd∧(∀ b∈Hd,b∈H∧b < w0.heap.size)∧(∀ b∈H,b < w0.heap.size)∧Hd.Nodup)∧SA Z w0 Γ [] F∧Gd B Z (H++F) w0∧∀ w,aq H w0 w→SA Z w Γ [] F:=by
  rintro B Z hd Γ H w0 ⟨F,Hd,h1,h2,h3⟩
  exact ⟨F,Hd,h1,h2,h3,fun w hC=>ud.stay h2 h3 hC⟩
 induction h with
 | nil hs he h=>exact Ch _ _ _ _ _ _ hs he h
 | @gbt hd j d b q as ops i sl ms Γ m _ ih=>
  intro h B o ho r0 w0 H Z ha hs hp
  cases b with
  | false=>cases ho
  | true=>exact ih h B o ho r0 w0 H Z ha hs (hp.swap)
 | @gbf hd j d b q as ops i sl ms Γ m _ ih=>
  intro h B o ho r0 w0 H Z ha hs hp
  cases b with
  | true=>cases ho
  | false=>exact ih h B o ho r0 w0 H Z ha hs (hp.swap)
 | skp ju hb hA _ ih=>
  intro h B o ho r0 w0 H Z ha hs hp
  obtain ⟨h1,h2,h3⟩:=h.next
  exact ih h3 B o ho r0 w0 H Z ha hs (hp.skip h1 h2 ju hb hA)
 | cons _ ih=>exact fun h=>ih h.cons
 | N3 _ ih=>exact fun h=>ih h.N3
 | XI h1 hv hy hc hn fi ho h4 h6 _ ih=>
  rename_i ht _
  intro h B o cj r0 w0 H Z ha hs hp
  obtain ⟨F,_,_,_,_,hK⟩:=stay hs
  exact ih h.n B o cj r0 w0 H Z ha hs (Wq hh ha ht h1 hv hy hc hn fi ho h4 h6 hK h hp)
 | ixs hv hx _ _ ih=>exact fun h1=>ih hv hx h1
 | @aeN hd α A as d x y v k j t ty o1 o2 E xs ops i sl ms fr Γ ju f ht hy hr hE _ ih=>
  intro hv hx h1 B o ho r0 w0 H Z ha hs hp
  obtain ⟨z,hz,ho⟩:=bind_some ho
  replace hz:=qv hz
  obtain ⟨e,ii,q1,q2,q3⟩:=ht.h
  obtain ⟨F,Hd,⟨hL,Yg⟩,hS,hG,hK⟩:=stay hs
  obtain ⟨dw,_,⟨⟨n,hn,_⟩,Ga⟩,xF⟩:=(hr z).sound hL
  obtain ⟨⟨a,c,mb⟩,bn,_⟩:=u6 hn j hz.1 hz.2
  refine ih z h1.n B o ho r0 w0 H Z ha ⟨F,Hd,⟨xF (Ga hE j z hz.1 hz.2),Yg⟩,hS,hG⟩ (hp.val hh ha h1 hv fun r ik _ _ _ w hC=>?_)
  rw [me q1 q2 ((bD ik hx).trans mb) (bD ik hy) hz.1 (by omega),q3,mb]
  rfl
 | @idx hd α A as d x y v k j t ty o1 o2 E xs ops i sl ms fr Γ Γ' f ht hy hr hE _ ih=>
  intro hv hx h1 B o ho r0 w0 H Z ha hs hp
  obtain ⟨z,hz,ho⟩:=bind_some ho
  replace hz:=qv hz
  obtain ⟨F,Hd,hL,hS,hG,hK⟩:=stay hs
  obtain ⟨dw,_,⟨⟨n,hn,_⟩,Ga⟩,xF⟩:=(hr z).sound hS
  refine ih z h1.n B o ho r0 w0 H Z ha ⟨F,Hd,hL,xF (Ga hE j z hz.1 hz.2),hG⟩ (hp.val hh ha h1 hv fun r ik _ _ _ w hC=>?_)
  obtain ⟨_,_,⟨⟨n',yd,_⟩,_⟩,_⟩:=(hr z).sound (hK w hC)
  exact Ix ht.h yd hz (bD ik hx) (bD ik hy) hE w (aq.refl _ _)
 | pz _ ih=>exact ih
 | @pe hd e Δ as ops i sl ms Γ m _ ih=>
  intro h1
  have h2:=ih h1
  have h3:(e :: Δ).reverse++Γ=Δ.reverse++e :: Γ:=by rw [List.reverse_cons,List.append_assoc]; rfl
  rw [h3]
  exact h2
 | @Jv hd α V Sc cl en A as d n x y v xs k j t ty ops i sl ms fr Γ Γx f ht hy hr q9 hn _ ih=>
  intro hv hx hA B o ho r0 w0 H Z ha hs hp
  replace q9:SO Sc V cl en:=by cases q9; assumption
  obtain ⟨z,hz,ho⟩:=bind_some ho
  replace hz:=qv hz
  obtain ⟨e,i',h1,h2,h3⟩:=ht.h
  obtain ⟨F,Hd,hL,hS,hG,hK⟩:=stay hs
  obtain ⟨dw,_,⟨⟨f0,E0,xj⟩,_⟩,_⟩:=hr.sound hS
  have hZ:∀ b∈f0,Z b:=fun b hb=>(xj b hb).elim (fun h=>h) (fun h=>h)
  obtain ⟨⟨a,c,mb⟩,bn,cs,f1,fc,PC,km⟩:=u6 E0 j hz.1 hz.2
  have yd:(sr Sc).size=n:=hn
  rw [yd] at km
  obtain ⟨u,rfl,p7⟩:=q9.op fc.2
  have hblk:Z (db v n j).block:=by
   obtain ⟨base,cap,mb,ik⟩:=E0
   rcases ik with ⟨rfl,_⟩ | ⟨b,off,cr,e',fz,f',rfl,_,rfl,_⟩
   ·simp at bn; omega
   ·obtain rfl:v = .slice (some ⟨b,off,none⟩) xs.length cap:=by simpa using mb
    have:(db (.slice (some ⟨b,off,none⟩) xs.length cap) n j).block=b:=by unfold db; rw [yb]
    rw [this]; exact hZ b (by simp)
  have JD:fact Z w0 [] (.bc (db v n j) (cl z u)):=⟨fun i u' hi=>km i u' hi,fun _=>hblk⟩
  have fq:HL Z w0 (.bc (db v n j) (cl z u) :: en z u) []:=.fact JD (xE (p7 Z fun b hb=>hZ b (PC b hb)))
  obtain ⟨F',AL,jd⟩:=fq.build hS
  refine ih z u hA.n B o ho r0 w0 H Z ha ⟨F',Hd,hL,jd,hG.perm (List.Perm.append_left H (by simpa using AL))⟩ (hp.val hh ha hA hv fun r ik _ _ _ w hC=>?_)
  rw [me h1 h2 ((bD ik hx).trans mb) (bD ik hy) hz.1 (by omega),h3,mb]
  rfl
 | @XX hd α V Sc cl en A as d n e bt x y v us xs k j t ty ops i sl ms fr Γ Γ1 f ht hy h1 hg q9 _ ih=>
  intro hv hx hA B o ho r0 w0 H Z ha hs hp
  replace q9:SO Sc V cl en:=by cases q9; assumption
  obtain ⟨z,hz,ho⟩:=bind_some ho
  replace hz:=qv hz
  obtain ⟨q1,i',_,q2,_,_,q3,_⟩:=ht.h
  obtain ⟨F,Hd,hL,hS,hG,hK⟩:=stay hs
  obtain ⟨f0,F1,_,hO,_⟩:=h1.sound hS
  obtain ⟨g0,hk,vh⟩:=hg.rd hS []
  obtain ⟨c,g1,e1,e2,e3⟩:=FZ j.toNat hk.2.1 hz.2
  obtain ⟨u,rfl,p7⟩:=q9.op e2
  have hlen:us.length=xs.length:=Dp hk.2.1
  have bn:j.toNat < xs.length:=(List.getElem?_eq_some_iff.1 hz.2).1
  have mb:∃ a c,v = .slice (some a) us.length c:=by
   obtain ⟨b0,cap,hv,hr⟩:=hO
   obtain rfl:v = .slice b0 us.length cap:=by simpa using hv
   rcases hr with ⟨_,_,rfl,_⟩ | ⟨b,cur,f',rfl,_⟩
   ·rw [← hlen] at bn; simp at bn
   ·exact ⟨_,_,rfl⟩
  obtain ⟨a,c',rfl⟩:=mb
  have fq:HL Z w0 (.rd false (C1 us j) (.bool true) (cl z u) :: en z u) []:=.fact ⟨[],⟨rfl,⟨hz.1,e1⟩,rfl⟩,fun _ h=>absurd h List.not_mem_nil⟩ (xE (p7 Z fun b hb=>vh b (e3 b hb)))
  obtain ⟨F',AL,jd⟩:=fq.build hS
  refine ih z u hA.n B o ho r0 w0 H Z ha ⟨F',Hd,hL,jd,hG.perm (List.Perm.append_left H (by simpa using AL))⟩ (hp.val hh ha hA hv fun r ik _ _ _ w hC=>?_)
  rw [me q1 q2 (bD ik hx) (bD ik hy) hz.1 (by omega),q3]
  rfl
 | @laG hd A as d n e off x v u us j cs t ty ops i sl ms fr Γ Γ1 m h1 wL hc _ ih=>
  intro hv hx ht hA B o ho r0 w0 H Z ha hs hp
  obtain ⟨F,_,_,hS,_,hK⟩:=stay hs
  refine ih hA.n B o ho r0 w0 H Z ha hs (hp.val hh ha hA hv fun r hr _ _ _ w hC=>?_)
  obtain ⟨f,F1,_,hO,_⟩:=h1.sound (hK w hC)
  obtain ⟨_,⟨_,⟨hj,hu⟩,_⟩,_⟩:=wL.rd (hK w hC) []
  exact Ld ht ((AQ hO hj hu).2.2 off u hc) (bD hr hx) w (aq.refl _ _)
 | @XY hd A as d n e x v u us j cs t ty ops i sl ms fr Γ Γ1 m h1 wL hc _ ih=>
  intro hv hx ht hA B o ho r0 w0 H Z ha hs hp
  obtain ⟨F,_,_,hS,_,hK⟩:=stay hs
  refine ih hA.n B o ho r0 w0 H Z ha hs (hp.val hh ha hA hv fun r hr _ _ _ w hC=>?_)
  obtain ⟨f,F1,_,hO,_⟩:=h1.sound (hK w hC)
  obtain ⟨_,⟨_,⟨hj,hu⟩,_⟩,_⟩:=wL.rd (hK w hC) []
  exact Ld ht ((AQ hO hj hu).2.2 0 u hc) (bD hr hx) w (aq.refl _ _)
 | load hv hx _ ih=>rename_i ht _; exact fun h1=>ih hv hx ht.h h1
 | lsw _ _ ih=>exact fun hv hx ht h1=>ih hv hx ht h1
 | @aeO hd α A as d x v j E z o' t ty ops i sl ms fr Γ XW ju m hV h Ds _ ih=>
  intro hv hx ht h1 B o ho r0 w0 H Z ha hs hp
  obtain ⟨F,Hd,⟨hL,Yg⟩,hS,hG,hK⟩:=stay hs
  obtain ⟨_,⟨u,k,h3,h4,h5⟩,_⟩:=(h (.bool true)).sound hL
  obtain ⟨dw,⟨u',k',h4',h5',h6⟩,xF⟩:=(h u).sound hL
  rw [h3] at h4'
  cases h4'
  exact ih u h1.n B o ho r0 w0 H Z ha ⟨F,Hd,⟨(Ds u).sound h3 (xF ⟨k',h5',h6⟩),Yg⟩,hS,hG⟩ (hp.aeT hh ha h1 hV hv fun r hr _ _ _ w hC=>Ld ht h3 (bD hr hx) w hC)
 | @XD hd α A as d x v j o E z t ty ops i sl ms fr Γ Γx m h _ ih=>
  intro hv hx ht h1 B o' ho r0 w0 H Z ha hs hp
  obtain ⟨F,Hd,hL,hS,hG,hK⟩:=stay hs
  obtain ⟨_,⟨u,k,h2,h3,_⟩,_⟩:=h.sound hS
  refine ih hv hx ht h1 B o' ho r0 w0 H Z ha hs ⟨u,fun w hC=>?_⟩ hp
  have hb:(db v 1 j).block ∉ H:=fun hm=>(h.Dq hS).elim (fun h=>h.elim (fun h=>absurd h List.not_mem_nil) fun h=>(List.nodup_append.1 hG.nd).2.2 _ hm _ h rfl) fun h=>hG.apart _ (List.mem_append_left _ hm) h
  have hc:=hC.cell hb h2
  obtain ⟨_,⟨u',k',h4,h5,_⟩,_⟩:=h.sound (hK w hC)
  rw [hc] at h4
  cases h4
  exact ⟨hc,k',h5⟩
 | XE h _ ih=>
  intro hv hx ht h1 B o ho r0 w0 H Z ha hs hp
  obtain ⟨F,_,_,hS,_,hK⟩:=stay hs
  exact ih h1.n B o ho r0 w0 H Z ha hs (hp.val hh ha h1 hv fun r hr _ _ _ w hC=>Ld ht (h.sound (hK w hC)) (bD hr hx) w (aq.refl _ _))
 | Pu h _ ih=>
  intro hv hx ht h1 B o ho r0 w0 H Z ha hs hp
  obtain ⟨F,_,_,hS,_,hK⟩:=stay hs
  refine ih h1.n B o ho r0 w0 H Z ha hs (hp.val hh ha h1 hv fun r hr _ _ _ w hC=>?_)
  obtain ⟨h2,h3⟩:=h.sound (hK w hC)
  exact Lg ht h2 (bD hr hx) h3 w (aq.refl _ _)
 | XF _ ih=>
  intro hv hx ht h1 B o ho r0 w0 H Z ha hs hu hp
  obtain ⟨u,hu⟩:=hu
  obtain ⟨_,_,h3,_⟩:=hu w0 (aq.refl _ _)
  obtain rfl:u=_:=by simpa using h3
  exact ih h1.n B o ho r0 w0 H Z ha hs (hp.val hh ha h1 hv fun r hr _ _ _ w hC=>Ld ht (hu w hC).1 (bD hr hx) w (aq.refl _ _))
 | @XG hd α A as d x v j E z o' t ty ops i sl ms fr Γ Γ1 Γ' m h Ds _ ih=>
  intro hv hx ht h1 B o ho r0 w0 H Z ha hs hu hp
  obtain ⟨u,hu⟩:=hu
  obtain ⟨h2,_⟩:=hu w0 (aq.refl _ _)
  obtain ⟨F,Hd,hL,hS,hG,hK⟩:=stay hs
  obtain ⟨dw,⟨u',k',h4,h5,h6⟩,xF⟩:=(h u).sound hS
  rw [h2] at h4
  cases h4
  exact ih u h1.n B o ho r0 w0 H Z ha ⟨F,Hd,hL,(Ds u).sound h2 (xF ⟨k',h5,h6⟩),hG⟩ (hp.val hh ha h1 hv fun r hr _ _ _ w hC=>Ld ht (hu w hC).1 (bD hr hx) w (aq.refl _ _))
 | @Jw hd α A as d t e ty E z0 bt ops i sl ms Γ m hz _ ih=>
  intro h1 B o ho r0 w0 H Z ha hs hp
  exact ih h1.n B o ho r0 w0 H Z ha hs (Wt hz h1 hp)
 | Pt hU _ ih=>exact fun h1=>ih hU h1
 | @aeP hd β V A as d f fs bs xo xs bc ty mo rt ps ops i sl ms fr Γ g hv X4 hf hc hi iT hw _ ih=>
  intro h1 B o ho r0 w0 H Z ha hs hp
  obtain @⟨wP⟩:=hf
  obtain ⟨y,hy,ho⟩:=bind_some ho
  obtain ⟨pos,ag,h2⟩:=h1.o
  exact ih y h1.n (by unfold br; rw [h2]; rfl) B o ho r0 w0 H Z ha hs (PL hh wP hv X4 hc hi iT hw h1 hy ha hs hp)
 | @call hd β V A as d f xs bc ty mo rt ps ops i sl ms fr Γ g hf hv hc hi iT hw _ ih=>
  intro _ h1 B o ho r0 w0 H Z ha hs hp
  obtain ⟨y,hy,ho⟩:=bind_some ho
  obtain ⟨pos,ag,h2⟩:=h1.o
  exact ih y h1.n (by unfold br; rw [h2]; rfl) B o ho r0 w0 H Z ha hs (Sj hh hf hv hc hi iT hw h1 hy ha hs hp)
 | @ab0 hd β V A as d f xs bc ty mo rt ps ops i sl ms fr Γ g hf hV hv hc hi iT hw _ ih=>
  intro hU h1 B o ho r0 w0 H Z ha hs hp
  obtain ⟨y,hy,ho⟩:=bind_some ho
  obtain ⟨pos,ag,h2⟩:=h1.o
  exact ih y h1.n (by unfold br; rw [h2]; rfl) B o ho r0 w0 H Z ha hs (PM hh hf hv hU hV hc hi iT hw h1 hy ha hs hp)
 | @ab1 hd β V j1 a1 p8 A as d f xs bc ty mo rt ps ops i sl ms fr Γ g hf hg UY h4 hv hc hi iT hw _ ih=>
  intro hU h1 B o ho r0 w0 H Z ha hs hp
  obtain ⟨y,hy,ho⟩:=bind_some ho
  obtain ⟨pos,ag,h2⟩:=h1.o
  exact ih y h1.n (by unfold br; rw [h2]; rfl) B o ho r0 w0 H Z ha hs (let ⟨S',e1,e2,e3⟩:=PR hh hf hv hU hg UY h4 hc hi iT hw h1 hy ha hs hp; ⟨S',e1,e2.re (r5 (by rw [← h1.A]; exact pj.1 h4)).1,e3⟩)
 | @crb hd u ps d as ops i sl ms Γ m _ ih=>
  intro h1 ju B o ho r0 w0 H Z ha hs ⟨S',hl,hR,hO,hL⟩
  subst hl
  refine ih h1 B o ho r0 w0 H Z ha hs ⟨S'++[⟨true,MV Z ⟨S'.length,d,[],Unit,fun _=>u,fun _=>ps⟩⟩],by simp,(hR.mem (b:=⟨S'.length,d,[],Unit,fun _=>u,fun _=>ps⟩) rfl ju (fun _ h=>nomatch h)).aeQ (s:=⟨true,MV Z ⟨S'.length,d,[],Unit,fun _=>u,fun _=>ps⟩⟩) ju (by simp) rfl (fun f w r x ⟨v,h,_⟩=>h),fun j hj=>?_⟩
  by_cases h2:j < S'.length
  ·exact jg.more (hO j h2) h2
  ·obtain rfl:j=S'.length:=by omega
   exact hL _ fun f w r x h=>⟨f,fun _ h=>h,h⟩
 | @crv hd u d as ops i sl ms Γ m _ ih=>
  intro h1 ju B o ho r0 w0 H Z ha hs ⟨S',hl,hR,hO,hL⟩
  subst hl
  refine ih h1 B o ho r0 w0 H Z ha hs ⟨_,by simp,hR.val ju,fun j hj=>?_⟩
  by_cases h2:j < S'.length
  ·exact jg.more (hO j h2) h2
  ·obtain rfl:j=S'.length:=by omega
   exact hL (pl fun _ _ x=>x=_) fun f w r x ⟨v,h,_⟩=>⟨[],fun _ h=>absurd h List.not_mem_nil,h⟩
 | @crm hd V u ps d as ops i sl ms Γ m _ ih=>
  intro h1 ju B o ho r0 w0 H Z ha hs ⟨S',hl,hR,hO,hL⟩
  subst hl
  refine ih h1 B o ho r0 w0 H Z ha hs ⟨_,by simp,hR.mem rfl ju (fun _ h=>nomatch h),fun j hj=>?_⟩
  by_cases h2:j < S'.length
  ·exact jg.more (hO j h2) h2
  ·obtain rfl:j=S'.length:=by omega
   exact hL _ fun f w r x h=>⟨f,fun _ h=>h,h⟩
 | XH hU _ ih=>exact fun h1=>ih hU h1
 | apH PN hv fi h2 h5 hl hz h1 hr hy _ ih=>
  rename_i hT _
  intro hU h B o ho r0 w0 H Z ha hs hp
  obtain ⟨u,hu,ho⟩:=bind_some ho
  obtain ⟨p1,p2⟩:=Wx hh ha hT hU PN hv fi h2 h5 hl hz h1 hr hy hu h hs hp
  exact ih h.n B o ho r0 w0 H Z ha p2 p1
 | ap1 h1 h2 h3 hw h4 h5 _ ih=>
  rename_i hz _
  intro h6 h B o ho r0 w0 H Z ha hs hp
  obtain ⟨u,hu,ho⟩:=bind_some ho
  exact ih h.n B o ho r0 w0 H Z ha hs (Wp hz h1 h2 h3 h4 h5 (h6.trans hw) hu h hp)
 | sw1 _ _ ih=>exact fun h1=>ih h1
 | sw2 _ _ ih=>exact fun h1=>ih h1
 | sw4 _ _ ih=>exact fun h1=>ih h1
 | UX _ ih=>
  rename_i hz _
  intro h1 B o ho r0 w0 H Z ha hs hp
  exact ih h1.n B o ho r0 w0 H Z ha hs (Wr hz h1 hp)
 | sw5 _ _ ih=>exact fun h1=>ih h1
 | mln hi iT hx _ ih=>
  rename_i ht _
  intro h1 B o ho r0 w0 H Z ha hs hp
  exact ih h1.n B o ho r0 w0 H Z ha hs (X1 hp h1 ht hi iT hx)
 | wv hv hq _ ih=>
  intro h1 B o ho r0 w0 H Z ha hs hp
  obtain ⟨F,_,_,_,_,hK⟩:=stay hs
  exact ih h1.n B o ho r0 w0 H Z ha hs (hp.val hh ha h1 hv fun r hr _ _ _ w hC=>hq.sound (hK w hC) hr _ _ _ _ _ w (aq.refl _ _))
 | wlt hv hx ho _ ih=>
  rename_i hz _
  intro h1 B o cj r0 w0 H Z ha hs hp
  obtain ⟨F,_,_,_,_,hK⟩:=stay hs
  exact ih h1.n B o cj r0 w0 H Z ha hs (X3 hh ha hz hv hx ho hK h1 hp)
 | ltn hv ju hn hb _ ih=>
  rename_i hz _
  intro h1 B o cj r0 w0 H Z ha hs hp
  obtain ⟨F,_,_,_,_,hK⟩:=stay hs
  exact ih h1.n B o cj r0 w0 H Z ha hs (MT hh ha hz hv ju hn hb hK h1 hp)
 | ltu hv ju hn hb _ ih=>
  rename_i hz _
  intro h1 B o cj r0 w0 H Z ha hs hp
  obtain ⟨F,_,_,_,_,hK⟩:=stay hs
  exact ih h1.n B o cj r0 w0 H Z ha hs (MT hh ha ⟨hz.h⟩ hv ju hn hb hK h1 hp)
 | @vx hd A as op x y k k' a b t t' d ty ops i sl ms fr Γ f hv hx hy hk _ ih=>
  intro h1 B o ho r0 w0 H Z ha hs hp
  obtain ⟨z,hz,ho⟩:=bind_some ho
  have zG:Ps op=true∨k=k':=by
   cases hk with
   | same=>exact .inr rfl
   | sh h=>exact .inl h
  exact ih z h1.n B o ho r0 w0 H Z ha hs (hp.val hh ha h1 hv fun r hr _ _ _ w hC=>Pz (bD hr hx) (bD hr hy) zG hz)
 | mk hv hx _ ih=>
  rename_i hz _
  intro h1 B o ho r0 w0 H Z ha hs hp
  obtain ⟨n,hn,ho⟩:=bind_some ho
  exact ih n h1.n B o ho r0 w0 H Z ha hs (X2 hh ha hz hv hx hn h1 hp)
 | mmv hi iT hj _ ih=>
  intro h1 B o ho r0 w0 H Z ha hs hp
  exact ih h1.n B o ho r0 w0 H Z ha hs (hp.dep (X:=fun u=>u) h1 hi iT hj fun r x hx w pos ag=>(Mv (W:=w) _ rfl) w (aq.refl _ _))
 | @mex hd t k A as d ty ops i sl ms Γ m hi iT hj J6 _ ih=>
  intro h1 B o ho r0 w0 H Z ha hs hp
  refine ih h1.n B o ho r0 w0 H Z ha hs (hp.dep (X:=fun u=>N4 u _) h1 hi iT hj fun r x hx w pos ag=>?_)
  obtain ⟨BJ,hc⟩:=J6 x
  have Dy:=(tn hx zi) _ _ (by rw [List.append_nil]; exact BJ)
  have:=(Ex (W:=w) (P:=P) (r:=r) (d:=some d) (ty:=ty) (pos:=pos) (ag:=ag) (g:=none) _ (x:=.tmp t) Dy (by simpa using hc)) w (aq.refl _ _)
  rw [this,Dy]
  simp [N4,hc]
 | mbl hi iT _ hj hv J6 _ ih=>
  rename_i hb _ _
  intro h1 B o ho r0 w0 H Z ha hs hp
  exact ih h1.n B o ho r0 w0 H Z ha hs (Ws hh hb hi iT hj hv J6 h1 ha hs hp)
 | mlt hi iT hj J6 _ ih=>
  rename_i hz _
  intro h1 B o ho r0 w0 H Z ha hs hp
  exact ih h1.n B o ho r0 w0 H Z ha hs (Wu hz hi iT hj J6 h1 hp)
 | mls hb hi iT hj J6 _ ih=>
  rename_i hz _
  intro h1 B o ho r0 w0 H Z ha hs hp
  exact ih h1.n B o ho r0 w0 H Z ha hs (Ww hz hb hi iT hj J6 h1 hp)
 | val hv hq _ ih=>
  intro h1 B o ho r0 w0 H Z ha hs hp
  obtain ⟨F,_,_,_,_,hK⟩:=stay hs
  exact ih h1.n B o ho r0 w0 H Z ha hs (hp.val hh ha h1 hv fun r hr _ _ _ w hC=>hq.sound (hK w hC) hr _ _ _ _ _ w (aq.refl _ _))
end
end Go.Dk
namespace Go.Dk
open Go Go.Li
section
variable {R S:Type} {P:Program} {cx:Cx R} {K:dq R S} {l tail:LO} {base fr:Fr} {w:World} {Z:Nat→Prop}
theorem Me {n:Nat} {Q:Exit→(Nat→Value)→World→Prop} {r:NV} (hQ:∀ c,¬ Q (.panic c) r w):∀ ji,∀ c,¬ Er P n Q ji (.panic c) r w:=by
 intro ji
 induction ji with
 | nil=>exact hQ
 | cons a ji ih=>cases a <;> exact ih
theorem Mf {B:Bs} {b:Kb R S} {o:Out S R} {r:NV}:∀ c,¬ NR P cx B b o (.panic c) r w:=by
 intro c
 cases b <;> cases o <;> exact fun h=>h
theorem vy {B:Bs} {K:dq R S} {o:Out S R} {r:NV}:∀ c,¬ l8 P cx B K o (.panic c) r w:=Me Mf _
def Ck (g:Nat→List Nat):List iq→List Nat
 | []=>[]
 | a :: l=>g a.j++Ck g l
theorem Ft {g:Nat→List Nat}:∀ {ms:MM} {b:Nat},b∈Ck g ms→∃ a∈ms,b∈g a.j:=by
 intro ms
 induction ms with
 | nil=>intro b h; exact absurd h List.not_mem_nil
 | cons a ms ih=>
  intro b h
  rcases List.mem_append.1 h with h | h
  ·exact ⟨a,by simp,h⟩
  ·obtain ⟨c,h1,h2⟩:=ih h
   exact ⟨c,List.mem_cons_of_mem _ h1,h2⟩
theorem MX {Vo Vr A F:LN} (h:(Vo++Vr).Perm A):((Vo++F)++Vr).Perm (A++F):=by
 refine List.Perm.trans ?_ (h.append_right F)
 rw [List.append_assoc,List.append_assoc]
 exact List.Perm.append_left Vo List.perm_append_comm
theorem U1 {g:Nat→List Nat} {r:NV}:∀ {ms:MM},Cg ms=true→(ms.map (·.j)).Nodup→(∀ a∈ms,∀ b∈ms,a.j≠b.j→td (g a.j) (g b.j))→(∀ a∈ms,MV Z a (g a.j) w r (r a.d))→
  ∃ x:nr ms,(∀ p∈mF ms x,r p.1=p.2)∧(∃ Vo Vr,(Vo++Vr).Perm (Ck g ms)∧(∀ b∈Vr,b < w.heap.size)∧HL (se Z Vr) w (Dv ms x) Vo)∧(Ck g ms).Nodup:=by
 intro ms
 induction ms with
 | nil=>intro _ _ _ _; exact ⟨(),fun p hp=>absurd hp List.not_mem_nil,⟨[],[],.refl _,fun b (h:b∈[])=>absurd h List.not_mem_nil,.nil⟩,List.nodup_nil⟩
 | cons a ms ih=>
  intro iT hd hi h
  unfold Cg at iT
  rw [Bool.and_eq_true] at iT
  rw [List.map_cons,List.nodup_cons] at hd
  obtain ⟨x,hx,hl,hn⟩:=ih iT.2 hd.2 (fun b hb c hc=>hi b (List.mem_cons_of_mem _ hb) c (List.mem_cons_of_mem _ hc)) fun b hb=>h b (List.mem_cons_of_mem _ hb)
  obtain ⟨v,e1,e2,e3⟩:=h a (by simp)
  have es:yF a r=Du a (mF ms x):=by
   have h3:=iT.1
   rw [List.all_eq_true] at h3
   refine Eu fun t ht=>?_
   unfold AN
   rw [R9 (h3 t ht) hx]
  rw [es] at e1 e2
  refine ⟨(v,x),?_,?_,AP e3 hn ?_⟩
  rotate_left
  ·obtain ⟨Fo,Fr,hf,h1,h2⟩:=e2.all
   obtain ⟨Vo,Vr,k1,k2,k3⟩:=hl
   refine ⟨Fo++Vo,Fr++Vr,?_,fun b hb=>(List.mem_append.1 hb).elim (h1 b) (k2 b),(h2.mono fun b h=>h.imp id fun h=>List.mem_append_left _ h).app (k3.mono fun b h=>h.imp id fun h=>List.mem_append_right _ h)⟩
   show List.Perm _ (g a.j++Ck g ms)
   rw [hf]
   refine List.Perm.trans ?_ (k1.append_left (Fo++Fr))
   rw [List.append_assoc,List.append_assoc]
   refine List.Perm.append_left Fo ?_
   rw [← List.append_assoc,← List.append_assoc]
   exact List.Perm.append_right Vr List.perm_append_comm
  rotate_right
  ·intro p hp
   rcases List.mem_cons.1 hp with rfl | hp
   ·exact e1
   ·exact hx p hp
  ·intro b hb hm
   obtain ⟨c,h1,h2⟩:=Ft hm
   exact hi a (by simp) c (List.mem_cons_of_mem _ h1) (fun e=>hd.1 (by rw [e]; exact List.mem_map_of_mem h1)) b hb h2
theorem J7 {r:NV} {f:Fr}:∀ {sl:LQ},(∀ p∈sl,r p.2.1=p.2.2)→(∀ p∈f,r p.1=p.2)→∀ p∈Bv sl f,r p.1=p.2:=by
 intro sl
 induction sl with
 | nil=>intro _ h; exact h
 | cons a sl ih=>
  intro h1 h2 p hp
  rcases List.mem_cons.1 hp with rfl | hp
  ·exact h1 a (by simp)
  ·exact ih (fun p hp=>h1 p (List.mem_cons_of_mem _ hp)) h2 p hp
theorem J8 {mt:Nat} {U:LL} {J9:QE} (hh:ma l mt base=true) {sl:LQ} {ms:MM} {Γ:QE} {m:Option (Out S R)} (Ka:Cg ms=true) (p7:By U sl ms=true)
  (h:∀ x:nr ms,D P cx (.p (Bv sl (mF ms x)) (Dv ms x) base Γ fun fr Γ=>.tg false (Ce tail) l tail K Γ fr m)) {B:Bs} {o:Out S R} (ho:m=some o) {r0:NV} {w0:World} {H:LN} {Z:Nat→Prop} (ha:dg r0 base) (hs:ud B Z J9 Γ H w0) {S':List gp} (hi:S'.length=mt) (hR:je Z l S' sl ms) :
  ∀ g r w,zL l mt S' U r0 w0 H (fun j=>j < mt) g r w→WL P l tail r w (l8 P cx B K o .normal):=by
 obtain ⟨F,Hd,⟨C6,C7,wQ,C8⟩,hS,hG⟩:=hs
 intro g r w hI
 have N9:∀ k j,j∈U.getD k []→∀ a∈ms,a.j≠j:=by
  intro k j hj
  unfold By at p7
  rw [Bool.and_eq_true] at p7
  rw [List.getD_eq_getElem?_getD] at hj
  cases hk:U[k]? with
  | none=>rw [hk] at hj; exact absurd hj List.not_mem_nil
  | some us=>
   rw [hk] at hj
   have h1:=List.all_eq_true.1 (List.all_eq_true.1 p7.1 us (List.mem_of_getElem? hk)) j hj
   intro a ha he
   have:=List.all_eq_true.1 h1 a ha
   rw [he,Nat.beq_refl] at this
   cases this
 have hD:∀ j,j < mt→(∀ k,j ∉ U.getD k [])→wO l S' j g r w:=fun j hj hn=>hI.done j hj fun k _=>hn k
 have bn:∀ a∈ms,a.j < mt:=fun a ha=>hi ▸ hR.lt ha
 obtain ⟨x,hx,qm,Yh⟩:=U1 (g:=g) (r:=r) (w:=w) Ka hR.d (fun a ha b hb yh=>hI.yP _ _ (bn a ha) (bn b hb) yh) fun a ha=>by
  have:=hR.JR (S2:=[]) ha (by rw [List.append_nil]; exact hD a.j (bn a ha) (fun k hk=>N9 k _ hk a ha rfl))
  exact this
 have Ge:=List.nodup_append.1 hG.nd
 have rh:∀ b∈Ck g ms,w0.heap.size≤b∨b∈H:=fun b hb=>by
  obtain ⟨a,h1,h2⟩:=Ft hb
  exact (hI.fresh a.j (bn a h1) b h2).1.imp (fun h=>h) (·.1)
 have iy:=ud.stay hS hG hI.ly
 obtain ⟨Vo,Vr,Yi,Yj,qm⟩:=qm
 obtain ⟨F',hp,jd⟩:=qm.build (iy.mono (fun _ h=>.inl h) fun _ h=>h)
 have Kc:Gd B Z (Ck g ms++F) w:=by
  refine ⟨AP Yh Ge.2.1 fun b hb hF=>(rh b hb).elim (fun h=>Nat.lt_irrefl _ (Nat.lt_of_lt_of_le (hS.lt b hF) h)) (fun h=>Ge.2.2 b h b hF rfl),?_,fun b hb=>Nat.lt_of_lt_of_le (hG.tb b hb) hI.ly.size,?_,hG.zx,hG.zy,hG.ly.then hI.ly fun b hb=>hG.low b (List.mem_append_left _ hb)⟩
  ·intro b hb hz
   rcases List.mem_append.1 hb with hb | hb
   ·exact (rh b hb).elim (fun h=>Nat.lt_irrefl _ (Nat.lt_of_lt_of_le (hG.tb b hz) h)) (fun h=>hG.apart b (List.mem_append_left _ h) hz)
   ·exact hG.apart b (List.mem_append_right _ hb) hz
  ·intro b hb
   rcases List.mem_append.1 hb with hb | hb
   ·exact (rh b hb).elim (fun h=>.inr (Nat.le_trans hG.ly.size h)) (fun h=>hG.low b (List.mem_append_left _ h))
   ·exact hG.low b (List.mem_append_right _ hb)
 have Sk:dg r ((Bv sl (mF ms x)).reverse++base):=by
  refine xB (J7 (fun p hp=>?_) hx) (mf hh ha hI.other)
  exact hR.zJ (S2:=[]) hp fun j _ hj=>(by rw [List.append_nil]; exact hI.vm j (hi ▸ hj))
 have:=(h x).sound B o ho r w Sk ⟨_,F',jd,((Kc.perm (MX Yi)).freeze Yj).perm hp⟩
 exact this
theorem Wy {mt id:Nat} {U:LL} {Zl:LN} {J9:QE} (hU:((List.range mt).all fun i=>(U.getD i []).all fun u=>Nat.beq u l.length || ((b9 l).getD i []).contains u)=true) (hh:ma l mt base=true) (hd:di cx.n l=true) (hA:yH l mt Zl=true) (hZ:E4 l mt Zl=true) (Iq:mt≤l.length) (ht:tail=l.drop mt) {i:Nat} {sl:LQ} {ms:MM} {Γ:QE} {m:Option (Out S R)} (Ka:Cg ms=true) (p7:By U sl ms=true)
  (h:∀ x:nr ms,D P cx (.p (Bv sl (mF ms x)) (Dv ms x) base Γ fun fr Γ=>.tg false (Ce tail) l tail K Γ fr m)):J5 P cx K l l mt U J9 id base (.a [] [] i sl ms Γ m):=by
 rintro ⟨_,h2,h3⟩ B o ho r0 w0 H Z ha hs ⟨S',hl,hR,hO⟩
 have hi:i=mt:=by
  have:=congrArg List.length h2
  simp at this
  omega
 subst hl
 have Yk:=hs
 obtain ⟨F,Hd,⟨C6,C7,wQ,C8⟩,hS,hG⟩:=hs
 refine PS (N:=Z) (S:=S') (U:=U) (H:=H) hd hA hZ (fun c r w h=>vy c h) Iq hi wQ hU (fun b hb=>⟨hG.tb b hb,fun h=>hG.apart b (List.mem_append_left _ h) hb⟩) (fun i s hs=>hR.s i s hs) (fun j hj=>hO j (by omega)) ?_
 intro g r w hI
 have:=J8 hh Ka p7 h ho ha Yk hi hR g r w hI
 rwa [ht] at this
def Kq (q:Option (Bool×Nat×Value)) (f:Fr):Fr:=
 match q with
 | none=>f
 | some (_,d,u)=>(d,u) :: f
theorem Kp.lk {ws:LN} {q:Option (Bool×Nat×Value)} {f g:Fr} (h:Kp ws q f g):(∀ b d u,q=some (b,d,u)→b=gy d ws)→∀ t v,look g t=some v→gy t ws=false∧look (Kq q f) t=some v:=by
 induction h with
 | nil=>intro _ t v h; cases h
 | cons _ ih=>intro _ t v h; exact ih (by rintro b d u h; cases h; rfl) t v h
 | @drop ws d u f g _ ih=>
  intro hq t v h
  obtain ⟨h1,h2⟩:=ih (by rintro b d u h; cases h) t v h
  refine ⟨h1,?_⟩
  show look ((d,u) :: f) t=some v
  unfold look
  cases hb:Nat.beq t d with
  | true=>have:=hq true d u rfl; rw [Nat.eq_of_beq_eq_true hb,← this] at h1; cases h1
  | false=>exact h2
 | @fk ws d u f g _ ih=>
  intro hq t v h
  unfold look at h
  show gy t ws=false∧look ((d,u) :: f) t=some v
  unfold look
  cases hb:Nat.beq t d with
  | true=>rw [hb] at h; exact ⟨by rw [Nat.eq_of_beq_eq_true hb]; exact (hq false d u rfl).symm,h⟩
  | false=>
   rw [hb] at h
   obtain ⟨h1,h2⟩:=ih (by rintro b d u h; cases h) t v h
   unfold gy at h1
   rw [hb] at h1
   exact ⟨h1,h2⟩
theorem Kp.sound {ws:LN} {f g:Fr} {r:NV} (h:Kp ws none f g) (ha:dg r f):dg r g:=
 fun t v hl=>ha t v (h.lk (by rintro b d u h; cases h) t v hl).2
theorem Yl {id:Nat} (hd:QE) (mt:Nat) (Zl:LN) (U as:LL) {ops:LO} {Γ Γ1:QE} {fr:Fr} {m:Option (Out S R)}
  (hB:(P.follows .mixedOrders && di cx.n l && yH l mt Zl && E4 l mt Zl && Nat.ble mt l.length && (lq l U mt == as) && ((List.range mt).all fun i=>(U.getD i []).all fun u=>Nat.beq u l.length || ((b9 l).getD i []).contains u))=true)
  (ho:ops=l.take mt) (ht:tail=l.drop mt) (hf:Kp (zC ops) none fr base) (hh:ma l mt base=true) (he:EO Γ hd Γ1) (Kd:OW Γ hd)
  (h:AD false P cx K l tail base U hd (.a as ops 0 [] [] Γ1 m)):∀ B o,m=some o→∀ r w,dg r fr→St B Γ w→nb P cx.n l (l8 P cx B K o) r w:=by
 simp only [Bool.and_eq_true] at hB
 obtain ⟨⟨⟨⟨⟨⟨_,b2⟩,b3⟩,b4⟩,b5⟩,b6⟩,b7⟩:=hB
 intro B o hm r w ha hs
 obtain ⟨Z,F,hS,hG⟩:=hs
 obtain ⟨Fd,F',h1,h2,h3⟩:=he.sound hS
 have Ke:SA Z w hd [] Fd:=by
  have:=(HO.hl Kd hS h1).front (Γ:=[]) (F:=[]) rfl
  simpa using this
 have hX:ud B Z hd Γ1 Fd w:=⟨F',Fd,⟨Ke,fun b hb=>⟨hb,Ke.lt b hb⟩,Ke.lt,(List.nodup_append.1 (hG.perm h3).nd).1⟩,h2,hG.perm h3⟩
 refine AD.sound (id:=id) hh (fun _ _ _ _ _ _ hs he h=>Wy b7 hh b2 b3 b4 (Nat.le_of_ble_eq_true b5) ht hs he h) h
  ⟨by rw [List.drop_zero]; exact (eq_of_beq b6).symm,by rw [List.drop_zero]; exact ho,Nat.zero_le _⟩ B o hm r w Fd Z (hf.sound ha) hX ⟨[],rfl,⟨fun _ h=>absurd h List.not_mem_nil,fun _ h=>absurd h List.not_mem_nil,fun i s h=>by simp at h,List.nodup_nil,fun _ _ _ h1 h2=>Cm l (Ir b3) h1 h2⟩,fun j hj=>absurd hj (Nat.not_lt_zero j)⟩
theorem xJ {id:Nat} (hd:QE) (mt:Nat) (Zl:LN) (U as:LL) {ops:LO} {Γ Γ1:QE} {fr:Fr} {m:Option (Out S R)}
  (hB:(P.follows .mixedOrders && di cx.n l && yH l mt Zl && E4 l mt Zl && Nat.ble mt l.length && (lq l U mt == as) && ((List.range mt).all fun i=>(U.getD i []).all fun u=>Nat.beq u l.length || ((b9 l).getD i []).contains u))=true)
  (ho:ops=l.take mt) (ht:tail=l.drop mt) (hf:Kp (zC ops) none fr base) (hh:ma l mt base=true) (he:EO Γ hd Γ1) (Kd:OW Γ hd)
  (h:AD false P cx K l tail base U hd (.a as ops 0 [] [] Γ1 m)):Bx (qi P cx (.dr id l K Γ fr m)):=by
 have hm:P.follows .mixedOrders=true:=by
  simp only [Bool.and_eq_true] at hB
  exact hB.1.1.1.1.1.1
 rw [rq]
 intro B o xm r w ha hs
 exact (Yl (id:=id) hd mt Zl U as hB ho ht hf hh he Kd h B o xm r w ha hs).W hm
theorem Sl {id:Nat} {l0:LO} (σ π:LN) (hd:QE) (mt:Nat) (Zl:LN) (U as:LL) {ops:LO} {Γ Γ1:QE} {fr:Fr} {m:Option (Out S R)}
  (hB:(P.follows .mixedOrders && Sm l0 σ π && di cx.n (qb l0 σ π) && yH (qb l0 σ π) mt Zl && E4 (qb l0 σ π) mt Zl && Nat.ble mt (qb l0 σ π).length && (lq (qb l0 σ π) U mt == as) && ((List.range mt).all fun i=>(U.getD i []).all fun u=>Nat.beq u (qb l0 σ π).length || ((b9 (qb l0 σ π)).getD i []).contains u))=true)
  (hl:l=qb l0 σ π) (ho:ops=l.take mt) (ht:tail=l.drop mt) (hf:Kp (zC ops) none fr base) (hh:ma l mt base=true) (he:EO Γ hd Γ1) (Kd:OW Γ hd)
  (h:AD false P cx K l tail base U hd (.a as ops 0 [] [] Γ1 m)):Bx (qi P cx (.dr id l0 K Γ fr m)):=by
 subst hl
 simp only [Bool.and_eq_true] at hB
 obtain ⟨⟨⟨⟨⟨⟨⟨b0,b1⟩,b2⟩,b3⟩,b4⟩,b5⟩,b6⟩,b7⟩:=hB
 rw [rq]
 intro B o xm r w ha hs
 refine ((Yl (id:=id) hd mt Zl U as ?_ ho ht hf hh he Kd h B o xm r w ha hs).prm b1).W b0
 simp only [Bool.and_eq_true]
 exact ⟨⟨⟨⟨⟨⟨b0,b2⟩,b3⟩,b4⟩,b5⟩,b6⟩,b7⟩
theorem any {id:Nat} (mt:Nat) (Zl:LN) (U as:LL) {ops:LO} {Γ:QE} {fr:Fr} {m:Option (Out S R)}
  (hB:(P.follows .mixedOrders && di cx.n l && yH l mt Zl && E4 l mt Zl && Nat.ble mt l.length && (lq l U mt == as) && ((List.range mt).all fun i=>(U.getD i []).all fun u=>Nat.beq u l.length || ((b9 l).getD i []).contains u))=true)
  (ho:ops=l.take mt) (ht:tail=l.drop mt) (hf:Kp (zC ops) none fr base) (hh:ma l mt base=true)
  (h:AD false P cx K l tail base U [] (.a as ops 0 [] [] Γ m)):Bx (qi P cx (.dr id l K Γ fr m)):=xJ [] mt Zl U as hB ho ht hf hh .nil .nil h
end
end Go.Dk
