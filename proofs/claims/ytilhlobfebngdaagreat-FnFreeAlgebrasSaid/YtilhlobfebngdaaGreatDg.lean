/- A calculus of walks: regions that draw their order and make memory. No condition. -/
import Derived.Test.YtilhlobfebngdaaGreatDe
import Derived.Laws.Slices
namespace Go.Dk
open Go Go.Li
section
variable {w:World}
def vI {α:Type} (e:TI) (E:an α) (j:Nat):an (List α) where
 size:=1
 rep h cs xs f:=∃ b cap cur f1 f2 p c0 q,cs=[.slice (some ⟨b,0,none⟩) xs.length cap]∧h[b]? = some (.cells cur e (0,0))∧f=b :: (f1++f2)∧(xs.length≤cap∧cap≤maxLen∧cur.size=cap∧E.size=1)∧cur.toList.take xs.length=p++[c0]++q∧(p.length=j∧j < xs.length)∧
  (∀ i∈f1++f2,i < h.size)∧∀ h':Array Obj,(∀ i∈f1++f2,h'[i]? = h[i]?)→∀ u z k,E.rep h' [u] z k→dt E h' (p++[u]++q) (xs.set j z) (f1++k++f2)
 len:=by rintro h cs x f ⟨b,cap,cur,f1,f2,p,c0,q,rfl,_⟩; rfl
 one:=by rintro h cs x f ⟨b,cap,cur,f1,f2,p,c0,q,rfl,_⟩ v hv; simp at hv; subst hv; rfl
 congr:=by
  rintro h h' cs x f ⟨b,cap,cur,f1,f2,p,c0,q,rfl,h1,rfl,h2,h3,h4,h5,h6⟩ hb
  refine ⟨b,cap,cur,f1,f2,p,c0,q,rfl,(hb b (by simp)).trans h1,rfl,h2,h3,h4,fun i hi=>?_,fun h'' cu=>h6 h'' fun i hi=>(cu i hi).trans (hb i (List.mem_cons_of_mem _ hi))⟩
  have:=hb i (List.mem_cons_of_mem _ hi)
  rw [Array.getElem?_eq_getElem (h5 i hi)] at this
  exact (Array.getElem?_eq_some_iff.1 this).1
 lt:=by
  rintro h cs x f ⟨b,cap,cur,f1,f2,p,c0,q,rfl,h1,rfl,h2,h3,h4,h5,h6⟩ i hi
  rcases List.mem_cons.1 hi with rfl | hi
  ·exact (Array.getElem?_eq_some_iff.1 h1).1
  ·exact h5 i hi
theorem Ip {α:Type} {e:TI} {E:an α} {v u:Value} {xs:List α} {f:LN} {j:Int} {z:α} (h1:E.size=1) (hO:(aL e E).rep w.heap [v] xs f) (hz:xs[j.toNat]? = some z) (hu:w.cell? (dg v 1 j)=some u) :
  ∃ k g,E.rep w.heap [u] z k∧(k++g).Perm f∧(vI e E j.toNat).rep w.heap [v] xs g:=by
 obtain ⟨base,cap,hv,hr⟩:=hO
 obtain rfl:v = .slice base xs.length cap:=by simpa using hv
 have bp:j.toNat < xs.length:=(List.getElem?_eq_some_iff.1 hz).1
 rcases hr with ⟨_,_,rfl,_⟩ | ⟨b,cur,f0,rfl,hg,rfl,DJ,EC,Aq,ei⟩
 ·simp at bp
 ·rw [h1,Nat.mul_one] at Aq ei
  have A4:dg (.slice (some ⟨b,0,none⟩) xs.length cap) 1 j = ⟨b,j.toNat,none⟩:=by
   simp only [dg,jr,Nat.zero_add,Nat.mul_one]
  rw [A4,cell_of_row w b _ cur e _ hg] at hu
  have PE:∀ i∈f0,i < w.heap.size:=mi ei
  obtain ⟨c,g0,g1,g2,p,q,ED,hc,hp,DK,A5⟩:=A6 j.toNat z ei hz
  subst ED
  rw [h1,Nat.mul_one] at hp
  have HQ:c.length=1:=by rw [E.len DK,h1]
  obtain ⟨c0,rfl⟩ : ∃ c0,c=[c0]:=by match c,HQ with | [c0],_=>exact ⟨c0,rfl⟩
  have U9:c0=u:=by
   have h2:(cur.toList.take xs.length)[j.toNat]? = some c0:=by
    rw [hc,List.append_assoc,List.getElem?_append_right (by omega),hp,Nat.sub_self]; rfl
   rw [List.getElem?_take,if_pos bp,Array.getElem?_toList,hu] at h2
   exact (Option.some.inj h2).symm
  subst U9
  refine ⟨g1,b :: (g0++g2),DK,?_,b,cap,cur,g0,g2,p,c0,q,rfl,hg,rfl,⟨DJ,EC,Aq,h1⟩,hc,⟨hp,bp⟩,fun i hi=>PE i (by rcases List.mem_append.1 hi with hi | hi <;> simp [hi]),fun h' cu u z' k' hr=>A5 h' [u] z' k' (fun i hi=>cu i (by simp [hi])) (fun i hi=>cu i (by simp [hi])) hr⟩
  refine (List.perm_append_comm (l₁:=g1) (l₂:=b :: (g0++g2))).trans ?_
  rw [List.cons_append]
  refine List.Perm.cons b ?_
  rw [List.append_assoc,List.append_assoc]
  exact List.Perm.append_left g0 List.perm_append_comm
end
structure gx where
 j:Nat
 d:Nat
 src:List Nat
 V:Type
 rt:Value→V→Value
 ps:Value→V→List aX
abbrev MM:=List gx
def nv:List gx→Type
 | []=>Unit
 | a :: l=>a.V×nv l
def Ae (f:NV):List Nat→Value
 | []=>undef
 | [t]=>f t
 | ts=>.tuple (ts.map f).toArray
def zI (f:Fr) (t:Nat):Value:=match look f t with
 | some v=>v
 | none=>undef
def xI (a:gx) (r:NV):Value:=Ae r a.src
def Ck (a:gx) (f:Fr):Value:=Ae (zI f) a.src
theorem Di {f g:NV}:∀ {ts:LN},(∀ t∈ts,f t=g t)→Ae f ts=Ae g ts:=by
 intro ts h
 match ts,h with
 | [],_=>rfl
 | [t],h=>exact h t (by simp)
 | t :: s :: ts,h=>
  show Value.tuple (List.map f (t :: s :: ts)).toArray=Value.tuple (List.map g (t :: s :: ts)).toArray
  rw [List.map_congr_left h]
def mF:(ms:MM)→nv ms→Fr
 | [],_=>[]
 | a :: l,x=>(a.d,a.rt (Ck a (mF l x.2)) x.1) :: mF l x.2
def Cm:(ms:MM)→nv ms→List aX
 | [],_=>[]
 | a :: l,x=>a.ps (Ck a (mF l x.2)) x.1++Cm l x.2
def nk (A:LN):(ms:MM)→nv ms→Fr
 | [],_=>[]
 | a :: l,x=>bif gp a.j A then (a.d,a.rt (Ck a (mF l x.2)) x.1) :: nk A l x.2 else nk A l x.2
def sf (A:LN):(ms:MM)→nv ms→List aX
 | [],_=>[]
 | a :: l,x=>bif gp a.j A then a.ps (Ck a (mF l x.2)) x.1++sf A l x.2 else sf A l x.2
def pr (t:Nat):List gx→Option Nat
 | []=>none
 | a :: l=>bif Nat.beq t a.d then some a.j else pr t l
def Bc (ms:MM):List (Nat×Operand)→List Nat
 | []=>[]
 | (_,.tmp s) :: l=>match pr s ms with
  | some _=>s :: Bc ms l
  | none=>Bc ms l
 | _ :: l=>Bc ms l
def ixL (s:Nat):List Nat→Option Nat
 | []=>none
 | t :: l=>bif Nat.beq s t then some 0 else (ixL s l).map (·+1)
def abL (v:Value) (k:Nat):Value:=match v with
 | .tuple vs=>vs.toList.getD k undef
 | _=>undef
def abM (f:Fr) (ts:LN) (u:Value):Operand→Value
 | .tmp s=>match ixL s ts with
  | some k=>(match ts with
   | [_]=>u
   | _=>abL u k)
  | none=>zI f s
 | x=>match cb f x with
  | some v=>v
  | none=>undef
def Zf (k:Nat) (v:Value):List Value:=bif Nat.beq k 1 then [v] else match v with
 | .agg cs=>cs.toList
 | _=>[]
def SG (pl:List (Nat×Nat)):List (Nat×Value)→List Value→List Value
 | [],cs=>cs
 | (i,v) :: l,cs=>match HY pl i with
  | some (off,k)=>SG pl l (cs.take off++Zf k v++cs.drop (off+k))
  | none=>cs
def VB (pl:List (Nat×Nat)) (f:Fr) (ts:LN) (ps:List (Nat×Operand)) (zc:LV) (u:Value):List Value:=SG pl (ps.map fun p=>(p.1,abM f ts u p.2)) zc
def tsB (A:LN) (ms:MM) (ts:LN):Bool:=ts.all fun t=>match pr t ms with
 | some j=>gp j A
 | none=>false
def qb (A:LN):List gx→Bool
 | []=>true
 | a :: l=>(bif gp a.j A then a.src.all (fun t=>match pr t l with
   | some j=>gp j A
   | none=>false) else true) && qb A l
def Bd:List gx→Bool
 | []=>true
 | a :: l=>a.src.all (fun t=>(pr t l).isSome) && Bd l
theorem Iq {A:LN} {r:NV} {t:Nat}:∀ {ms:MM} {x:nv ms} {j:Nat},pr t ms=some j→gp j A=true→(∀ p∈nk A ms x,r p.1=p.2)→look (mF ms x) t=some (r t):=by
 intro ms
 induction ms with
 | nil=>intro x j h; cases h
 | cons a l ih=>
  intro x j h hj hp
  unfold pr at h
  unfold mF look
  cases hb:Nat.beq t a.d with
  | true=>
   rw [hb] at h
   cases h
   have:=hp (a.d,a.rt (Ck a (mF l x.2)) x.1) (by unfold nk; rw [hj]; simp)
   simp only [cond_true]
   rw [Nat.eq_of_beq_eq_true hb,this]
  | false=>
   rw [hb] at h
   refine ih h hj fun p hm=>hp p ?_
   unfold nk
   cases gp a.j A with
   | true=>exact List.mem_cons_of_mem _ hm
   | false=>exact hm
theorem PX {r:NV} {t:Nat}:∀ {ms:MM} {x:nv ms},(pr t ms).isSome=true→(∀ p∈mF ms x,r p.1=p.2)→look (mF ms x) t=some (r t):=by
 intro ms
 induction ms with
 | nil=>intro x h; cases h
 | cons a l ih=>
  intro x h hp
  unfold pr at h
  unfold mF at hp ⊢
  unfold look
  cases hb:Nat.beq t a.d with
  | true=>
   simp only [cond_true]
   rw [Nat.eq_of_beq_eq_true hb,hp (a.d,a.rt (Ck a (mF l x.2)) x.1) (by simp)]
  | false=>
   rw [hb] at h
   exact ih h fun p hm=>hp p (List.mem_cons_of_mem _ hm)
def HN (N:Nat→Prop) (w:World) (Δ:QE) (f:LN):Prop:=HL (fun _=>False) w Δ f∨∃ Fo Fr,f=Fo++Fr∧(ur Δ=false∧∀ b∈Fr,b < w.heap.size)∧HL (fun b=>N b∨b∈Fr) w Δ Fo
def NU (N:Nat→Prop) (a:gx):List Nat→World→(Nat→Value)→Value→Prop:=fun f w r _=>∃ v:a.V,r a.d=a.rt (xI a r) v∧HN N w (a.ps (xI a r) v) f∧f.Nodup
def MV (N:Nat→Prop) (a:gx):List Nat→World→(Nat→Value)→Value→Prop:=fun f w r x=>∃ v:a.V,x=a.rt (xI a r) v∧HN N w (a.ps (xI a r) v) f∧f.Nodup
def NW (N:Nat→Prop) (a:LN) (l:LO) (s:fv):Prop:=∀ f F (w w':World) (r r':NV) v,ay F w w'→(∀ b∈f,b ∉ F)→(∀ b∈F,¬ N b)→(∀ j∈a,∀ t,bw l j=some t→r' t=r t)→s.V f w r v→s.V f w' r' v
theorem Ir.n {N:Nat→Prop} {a:LN} {l:LO} {s:fv} (h:Ir a l s):NW N a l s:=fun f F w w' r r' v hC hn _=>h f F w w' r r' v hC hn
section
variable {P:Program} {w w':World} {Z:Nat→Prop}
theorem HL.Zg {F H:LN} {Δ:QE} (h:HL (fun _=>False) w Δ F) (hC:ay H w w') (hd:∀ b∈F,b ∉ H):HL (fun _=>False) w' Δ F:=by
 induction h with
 | nil=>exact .nil
 | @own e f F Δ h _ ih=>exact .own (h.fk hC (fun _ _ h=>h) fun b hb hm=>hd b (List.mem_append_left _ hm) hb) (ih fun b hb=>hd b (List.mem_append_right _ hb))
 | @fact e F Δ h _ ih=>
  refine .fact ?_ (ih hd)
  cases e with
  | rd o T v x=>
   obtain ⟨g,h1,h2⟩:=h
   have hg:g=[]:=by
    cases g with
    | nil=>rfl
    | cons b g=>exact absurd (h2 b (by simp)) (by cases o <;> simp [wg])
   subst hg
   exact ⟨[],T.fk h1 hC (fun _ h=>absurd h List.not_mem_nil),fun _ h=>absurd h List.not_mem_nil⟩
  | ad o1 o2 v j T x=>obtain ⟨_,_,u,g,_,_,h3,_⟩:=h; exact absurd h3 (by cases o1 <;> simp [wg])
  | bn p cs=>
   have hc:cs=[]:=by
    cases cs with
    | nil=>rfl
    | cons c cs=>exact (h.2 (by simp)).elim
   subst hc
   exact ⟨fun j u hj=>by simp at hj,fun hn=>absurd rfl hn⟩
  | hd v j u=>exact absurd h.2.2.2 List.not_mem_nil
  | _=>exact h.elim
theorem HL.Zh {F H:LN} {Δ:QE} (h:HL Z w Δ F) (hC:ay H w w') (hz:∀ b∈H,¬ Z b) (hd:∀ b∈F,b ∉ H):HL Z w' Δ F:=by
 induction h with
 | nil=>exact .nil
 | @own e f F Δ h _ ih=>exact .own (h.fk hC hz fun b hb hm=>hd b (List.mem_append_left _ hm) hb) (ih fun b hb=>hd b (List.mem_append_right _ hb))
 | @fact e F Δ h _ ih=>exact .fact (h.fk hC hz fun _ _ h=>nomatch h) (ih hd)
theorem HN.fk {N:Nat→Prop} {f H:LN} {Δ:QE} (h:HN N w Δ f) (hC:ay H w w') (hd:∀ b∈f,b ∉ H) (hz:∀ b∈H,¬ N b):HN N w' Δ f:=by
 rcases h with h | ⟨Fo,Fr,rfl,h1,h2⟩
 ·exact .inl (h.Zg hC hd)
 ·exact .inr ⟨Fo,Fr,rfl,⟨h1.1,fun b hb=>Nat.lt_of_lt_of_le (h1.2 b hb) hC.size⟩,h2.Zh hC (fun b hb h=>h.elim (hz b hb) fun h=>hd b (List.mem_append_right _ h) hb) fun b hb=>hd b (List.mem_append_left _ hb)⟩
theorem HN.own {N:Nat→Prop} {f:LN} {Δ:QE} (h:HN N w Δ f) (ho:ur Δ=true):HL (fun _=>False) w Δ f:=by
 rcases h with h | ⟨_,_,_,h1,_⟩
 ·exact h
 ·rw [ho] at h1; cases h1.1
theorem HN.all {N:Nat→Prop} {f:LN} {Δ:QE} (h:HN N w Δ f):∃ Fo Fr,f=Fo++Fr∧(∀ b∈Fr,b < w.heap.size)∧HL (fun b=>N b∨b∈Fr) w Δ Fo:=by
 rcases h with h | ⟨Fo,Fr,rfl,h1,h2⟩
 ·exact ⟨f,[],by simp,fun b (h:b∈[])=>absurd h List.not_mem_nil,h.mono fun _ h=>h.elim⟩
 ·exact ⟨Fo,Fr,rfl,h1.2,h2⟩
theorem HL.up {F:LN} {Δ:QE} (h:HL (fun _=>False) w Δ F):HL Z w Δ F:=by
 induction h with
 | nil=>exact .nil
 | own h _ ih=>exact .own (h.mono fun _ h=>h.elim) ih
 | fact h _ ih=>exact .fact (h.mono (fun _ h=>h.elim) fun _ h=>h) ih
theorem HL.app {Δ Δ':QE} {F F':LN} (h:HL Z w Δ F) (k:HL Z w Δ' F'):HL Z w (Δ++Δ') (F++F'):=by
 induction h with
 | nil=>exact k
 | own h _ ih=>rw [List.append_assoc]; exact .own h ih
 | fact h _ ih=>exact .fact h ih
theorem K9 {a:gx} {r r':NV} (h:∀ t∈a.src,r' t=r t):xI a r'=xI a r:=Di h
theorem NX {l:LO} {a:LN} {b:Bool} {m:gx} (hs:∀ t∈m.src,∃ j∈a,bw l j=some t):NW Z a l ⟨b,MV Z m⟩:=by
 intro f F w w' r r' x hC hn hz hr ⟨v,h1,h2,h3⟩
 have e:=K9 (a:=m) (r:=r) (r':=r') fun t ht=>by
  obtain ⟨j,hj,hd⟩:=hs t ht
  exact hr j hj t hd
 refine ⟨v,by rw [e]; exact h1,by rw [e]; exact h2.fk hC hn hz,h3⟩
theorem Mg {l:LO} {a:LN} {b:Bool} {m:gx} (hd:∃ j∈a,bw l j=some m.d) (hs:∀ t∈m.src,∃ j∈a,bw l j=some t):NW Z a l ⟨b,NU Z m⟩:=by
 intro f F w w' r r' x hC hn hz hr ⟨v,h1,h2,h3⟩
 have e:=K9 (a:=m) (r:=r) (r':=r') fun t ht=>by
  obtain ⟨j,hj,hd⟩:=hs t ht
  exact hr j hj t hd
 obtain ⟨j,hj,hjd⟩:=hd
 refine ⟨v,by rw [e,hr j hj _ hjd]; exact h1,by rw [e]; exact h2.fk hC hn hz,h3⟩
theorem iH.more {l:LO} {m i:Nat} {U:LL} {S S':List fv} {r0:NV} {w0:World} {H:LN} (h:iH P l m S U r0 w0 H i) (hi:i < S.length):iH P l m (S++S') U r0 w0 H i:=by
 intro o s ho hs g r w hC hV hO hn kn hd hf
 rw [List.getElem?_append_left hi] at hs
 refine h o s ho hs g r w hC hV (fun j hj d jh s' eh=>hO j hj d jh s' (by rw [List.getElem?_append_left (List.getElem?_eq_some_iff.1 eh).1]; exact eh)) (fun j hj=>?_) kn hd hf
 have:=hn j hj
 refine ⟨fun d jh=>?_,fun jh s' eh cu=>?_⟩
 ·have h2:=this.1 d jh
  by_cases hl:j < S.length
  ·rw [List.getElem?_append_left hl] at h2; exact h2
  ·rw [List.getElem?_eq_none (by omega)]; trivial
 ·exact this.2 jh s' (by rw [List.getElem?_append_left (List.getElem?_eq_some_iff.1 eh).1]; exact eh) cu
end
inductive fI (A:LN):Option (Bool×Nat×Value)→List (Nat×Nat×Value)→Fr→Fr→Prop
 | nil {base:Fr}:fI A none [] base base
 | cons {j d:Nat} {u:Value} {l:LQ} {base fr:Fr} (h:fI A (some (gp j A,d,u)) l base fr):fI A none ((j,d,u) :: l) base fr
 | fk {d:Nat} {u:Value} {l:LQ} {base fr:Fr} (h:fI A none l base fr):fI A (some (true,d,u)) l base ((d,u) :: fr)
 | drop {d:Nat} {u:Value} {l:LQ} {base fr:Fr} (h:fI A none l base fr):fI A (some (false,d,u)) l base fr
theorem vA.Cg {Γ Γ':QE} {v:Addr} {o:Bool} {α:Type} {E:an α} {x:α} {e:aX} (h:vA Γ v o E x e Γ') {Z:Nat→Prop} {w:World}:∀ {cur F:LN},SA Z w Γ cur F→(v.block∈cur∨v.block∈F)∨Z v.block:=by
 induction h with
 | @ad o1 o2 α E v j x e Γ=>
  intro cur F hS
  obtain ⟨⟨j0,j1,u,g,h1,h2,h3,h4⟩,h5⟩:=hS
  cases o1 with
  | false=>exact .inr h3
  | true=>exact .inl (.inl h3)
 | @there o2 α E v x e a Γ Γ' h ih=>
  intro cur F hS
  cases a with
  | own T v x=>obtain ⟨f,F',rfl,h2,h3⟩:=hS; exact (ih h3).imp (fun h=>.inr (List.mem_append.2 h)) id
  | om e E v xs=>obtain ⟨f,F',rfl,h2,h3⟩:=hS; exact (ih h3).imp (fun h=>.inr (List.mem_append.2 h)) id
  | row b cs e=>obtain ⟨f,F',rfl,h2,h3⟩:=hS; exact (ih h3).imp (fun h=>h.imp id (List.mem_append_right _)) id
  | gu e E v xs j u=>obtain ⟨f,F',rfl,h2,h3⟩:=hS; exact (ih h3).imp (fun h=>.inr (List.mem_append.2 h)) id
  | _=>exact ih hS.2
inductive VQ (P:Program) (Γ:QE) (fr:Fr):Op→Value→Prop
 | mv {x:OO} {v:Value} (hx:cb fr x=some v):VQ P Γ fr (.move x) v
 | pick {c x y:OO} {b:Bool} {v:Value} (hc:cb fr c=some (.bool b)) (hx:(bif b then cb fr x else cb fr y)=some v):VQ P Γ fr (.pick c x y) v
 | add {x y:OO} {t t':TI} {a b:Int} (hx:cb fr x=some (.int .i64 a)) (hy:cb fr y=some (.int .i64 b)):VQ P Γ fr (.binOp .add t x y t') (.int .i64 (ao (a+b)))
 | sub {x y:OO} {t t':TI} {a b:Int} (hx:cb fr x=some (.int .i64 a)) (hy:cb fr y=some (.int .i64 b)):VQ P Γ fr (.binOp .sub t x y t') (.int .i64 (ao (a - b)))
 | not {x:OO} {t:TI} {b:Bool} (hx:cb fr x=some (.bool b)):VQ P Γ fr (.unOp .not t x) (.bool (!b))
 | PL {x:OO} {a:Addr} (hx:cb fr x=some (.pointer (some a))):VQ P Γ fr (.nilCheck x) (.pointer (some a))
 | Vi {s k off:Nat} {x:OO} {a a':Addr} [hf:ni P s k off] (hx:cb fr x=some (.pointer (some a))) (ha:Eb a off a'):VQ P Γ fr (.fieldAddr s x k) (.pointer (some a'))
 | len {x:OO} {v:Value} {t:TI} {n:Nat} [ht:yx P t] (hx:cb fr x=some v) (hr:wA Γ v n):VQ P Γ fr (.call ⟨.builtin .len,#[x],#[t]⟩) (.int .i64 (n:Int))
 | SD {t:TI} {ps:List (Nat×Operand)} {zc cs:LV} {pl:List (Nat×Nat)} [hb:zD P t zc pl] (hf:xX Γ fr pl ps zc cs):VQ P Γ fr (.build t ps.toArray) (.agg cs.toArray)
 | Vq {x:OO} {k k2:IntKind} {n:Int} {s t:TI} [ht:K5 P s t k2] (hx:cb fr x=some (.int k n)):VQ P Γ fr (.convert s t x) (.int k2 (k2.wrap n))
 | mul {x y:OO} {t t':TI} {a b:Int} (hx:cb fr x=some (.int .i64 a)) (hy:cb fr y=some (.int .i64 b)):VQ P Γ fr (.binOp .mul t x y t') (.int .i64 (ao (a * b)))
 | lkp {κ υ:Type} {x y:OO} {v:Value} {t:TI} {bq:BEq κ} {ek:κ→Value} {eu:υ→Value} {xs:List (κ×υ)} {a:κ} {z0:υ} [ht:MPc P t κ υ bq ek eu] [hz:MZc P t υ eu z0] (hx:cb fr x=some v) (hy:cb fr y=some (ek a)) (hr:H7 ek eu Γ v xs):VQ P Γ fr (.lookup t x y false) (eu ((Cn xs a).getD z0))
theorem VQ.sound {P:Program} {Γ:QE} {fr:Fr} {op:Op} {u:Value} (h:VQ P Γ fr op u) {Z:Nat→Prop} {w:World} {cur F:LN} (hS:SA Z w Γ cur F) {r:NV} (ha:di r fr) (d:Option Nat) (ty:TI) (pos:String) (ai:Array Edge) (g:Option (Nat×Bool)) :
  Rd P w r ⟨d,op,ty,pos,ai,g⟩ u:=by
 cases h with
 | mv hx=>exact Mv _ (bI ha hx)
 | @pick c x y b v hc hx=>
  intro w' _
  rw [K7 (bI ha hc)]
  cases b
  ·rw [← bI ha hx]; rfl
  ·rw [← bI ha hx]; rfl
 | add hx hy=>exact Ba (bI ha hx) (bI ha hy)
 | sub hx hy=>exact Go.Li.Bs (bI ha hx) (bI ha hy)
 | not hx=>exact Nt (bI ha hx)
 | PL hx=>exact Nk (bI ha hx)
 | @Vi s k off x a a' hf hx hq=>rw [hq.eq]; exact Fp hf.h (bI ha hx)
 | @Vq x k k2 n s t ht hx=>exact fun _ _=>K8 ht.h.1 ht.h.2 (bI ha hx)
 | mul hx hy=>exact Bm (bI ha hx) (bI ha hy)
 | @len x v t n ht hx hr=>
  obtain ⟨b,c,rfl⟩:=hr.sound hS
  obtain ⟨e,i,h1,_,_⟩:=ht.h
  exact fun _ _=>yB h1 (bI ha hx)
 | @lkp κ υ x y v t bq ek eu xs a z0 ht hz hx hy hr=>
  obtain ⟨f,hm⟩:=hr.sound hS
  obtain ⟨kt,vt,kd,h1,h2,h3⟩:=ht.h
  obtain ⟨kt',vt',i,g1,g2,g3⟩:=hz.h
  rw [h1] at g1
  cases g1
  exact fun w' hC=>Mh (ek:=ek) (Co:=eu) h3 h1 h2 g2 g3 (by rw [bI ha hx]; exact an.fk _ hm hC fun _ _=>List.not_mem_nil) (bI ha hy)
 | @SD t ps zc cs pl hb hf=>
  obtain ⟨fs,i,z,h1,h2,h3,h4,h5⟩:=hb.h
  refine Bu ?_
  have:=hf.fill ha hS
  unfold Program.built
  rw [h3,h1]
  simp only [h4,h2]
  rw [show z.cells=zc.toArray by rw [← h5]]
  exact this
theorem fI.sound {A:LN} {q:Option (Bool×Nat×Value)} {sl:LQ} {base fr:Fr} {r:NV} (h:fI A q sl base fr) (hb:di r base) :
  (∀ p∈sl,gp p.1 A=true→r p.2.1=p.2.2)→(∀ b d u,q=some (b,d,u)→b=true→r d=u)→di r fr:=by
 induction h with
 | nil=>intro _ _; exact hb
 | @cons j d u l base fr _ ih=>
  intro h1 _
  refine ih hb (fun p hp=>h1 p (by simp [hp])) ?_
  rintro b d' u' he hbt
  cases he
  exact h1 (j,d,u) (by simp) hbt
 | @fk d u l base fr _ ih=>
  intro h1 h2
  intro s v hl
  unfold look at hl
  cases Is:Nat.beq s d with
  | true=>rw [Is] at hl; cases hl; rw [Nat.eq_of_beq_eq_true Is]; exact h2 true d _ rfl rfl
  | false=>rw [Is] at hl; exact ih hb h1 (fun _ _ _ h=>nomatch h) s v hl
 | drop _ ih=>intro h1 _; exact ih hb h1 (fun _ _ _ h=>nomatch h)
def Af:List (Nat×Nat×Value)→Fr→Fr
 | [],f=>f
 | (_,d,u) :: l,f=>(d,u) :: Af l f
inductive Mi (P:Program) (f:FuncId) (xs:List Operand) (fr:Fr) (Γ:QE) {β V:Type} (mo:Option β) (rt:β→V→List Value) (ps:β→V→List aX):Prop
 | mk {vs:LV} {Δ:QE} (hx:z8 fr xs=some vs) (hc:Ct P f true mo vs Δ rt ps) (hd:FO Δ) (hr:ER true Γ Δ):Mi P f xs fr Γ mo rt ps
inductive ES (P:Program) (f:FuncId) (xs:List Operand) (fr:Fr) (hd:QE) (Γ:QE) {β V:Type} (mo:Option β) (rt:β→V→List Value) (ps:β→V→List aX):Prop
 | mk {vs:LV} {Δ Γ':QE} (hx:z8 fr xs=some vs) (hc:Ct P f true mo vs Δ rt ps) (ho:EO hd Δ Γ') (hr:ER true Γ Δ):ES P f xs fr hd Γ mo rt ps
inductive nz:List gx→Prop
 | nil:nz []
 | cons {a:gx} {l:MM} (h:EI a.V) (k:nz l):nz (a :: l)
theorem nz.ne {ms:MM} (h:nz ms):Nonempty (nv ms):=by
 induction h with
 | nil=>exact ⟨()⟩
 | cons h _ ih=>obtain ⟨a⟩:=h.ne; obtain ⟨b⟩:=ih; exact ⟨(a,b)⟩
inductive GQ:List gx→Nat→Bool→Prop
 | here {a:gx} {l:MM}:GQ (a :: l) a.d true
 | there {a:gx} {l:MM} {t:Nat} {b:Bool} (h:GQ l t b):GQ (a :: l) t b
 | nil {t:Nat}:GQ [] t false
inductive VC (fr:Fr) (t k:Nat):Prop
 | mk {cs:LV} {v:Value} (h:look fr t=some (.tuple cs.toArray)) (hc:cs[k]? = some v):VC fr t k
inductive PY (fr:Fr) (Γ:QE) (t:Nat):Prop
 | mk {v:Value} (h:look fr t=some v) (hc:One Γ v):PY fr Γ t
inductive PZ (fr:Fr) (t n:Nat):Prop
 | mk {cs:LV} (h:look fr t=some (.agg cs.toArray)) (hl:cs.length=n):PZ fr t n
inductive VD (fr:Fr) (Γ:QE) (t n:Nat):Prop
 | mk {v:Value} (h:look fr t=some v) (hc:wA Γ v n):VD fr Γ t n
inductive JA (R S:Type):Type 1
 | a (as:LL) (ops:LO) (i:Nat) (sl:LQ) (ms:MM) (Γ:QE) (m:Option (Out S R))
 | o (A:LN) (op:Op) (d:Nat) (ty:TI) (as:LL) (ops:LO) (i:Nat) (sl:LQ) (ms:MM) (Γ:QE) (m:Option (Out S R))
 | ow (b:Bool) (A:LN) (op:Op) (d:Nat) (ty:TI) (as:LL) (ops:LO) (i:Nat) (sl:LQ) (ms:MM) (Γ:QE) (m:Option (Out S R))
 | ix (b:Bool) (v:Value) (fr:Fr) (x y:OO) (t:TI) (A:LN) (d:Nat) (ty:TI) (as:LL) (ops:LO) (i:Nat) (sl:LQ) (ms:MM) (Γ:QE) (m:Option (Out S R))
 | lb (b:Bool) (v:Value) (j:Int) (fr:Fr) (t:TI) (x:OO) (A:LN) (d:Nat) (ty:TI) (as:LL) (ops:LO) (i:Nat) (sl:LQ) (ms:MM) (Γ:QE) (m:Option (Out S R))
 | ap (us:LN) (t1 t2:Nat) (t:TI) (A:LN) (d:Nat) (ty:TI) (as:LL) (ops:LO) (i:Nat) (sl:LQ) (ms:MM) (Γ:QE) (m:Option (Out S R))
 | la (fr:Fr) (ad:Addr) (lk:Option Nat) (t:TI) (x:OO) (A:LN) (d:Nat) (ty:TI) (as:LL) (ops:LO) (i:Nat) (sl:LQ) (ms:MM) (Γ:QE) (m:Option (Out S R))
 | ld {α:Type} (E:an α) (z:α) (fr:Fr) (ad:Addr) (t:TI) (x:OO) (A:LN) (d:Nat) (ty:TI) (as:LL) (ops:LO) (i:Nat) (sl:LQ) (ms:MM) (Γ:QE) (m:Option (Out S R))
 | oc (us:LN) (f:FuncId) (xs:List Operand) (bn:Array TypeId) (A:LN) (d:Nat) (ty:TI) (as:LL) (ops:LO) (i:Nat) (sl:LQ) (ms:MM) (Γ:QE) (m:Option (Out S R))
 | os (A:LN) (op:Op) (ty:TI) (as:LL) (ops:LO) (i:Nat) (sl:LQ) (ms:MM) (Γ:QE) (m:Option (Out S R))
 | cr {V:Type} (u:V→Value) (ps:V→List aX) (d:Nat) (as:LL) (ops:LO) (i:Nat) (sl:LQ) (ms:MM) (Γ:QE) (m:Option (Out S R))
 | p (Δ:QE) (as:LL) (ops:LO) (i:Nat) (sl:LQ) (ms:MM) (Γ:QE) (m:Option (Out S R))
inductive Lb:List aX→Value→Bool→Prop
 | here {α:Type} {T:an α} {v:Value} {x:α} {Γ:QE}:Lb (.own T v x :: Γ) v true
 | there {e:aX} {v:Value} {b:Bool} {Γ:QE} (h:Lb Γ v b):Lb (e :: Γ) v b
 | nil {v:Value}:Lb [] v false
inductive wH:List gx→Nat→gx→List gx→Prop
 | here {a:gx} {l:MM}:wH (a :: l) a.d a l
 | there {a b:gx} {l l':MM} {t:Nat} (h:wH l t a l'):wH (b :: l) t a (b :: l')
inductive Ec:List gx→Nat→gx→List gx→Prop
 | here {a:gx} {l:MM}:Ec (a :: l) a.j a l
 | there {a b:gx} {l l':MM} {t:Nat} (h:Ec l t a l'):Ec (b :: l) t a (b :: l')
def P1 (j i:Nat) (sl:LQ):List (Nat×Nat×Value):=sl.map fun p=>bif Nat.beq p.1 j then (i,p.2) else p
def It (sl:LQ) (j d:Nat) (b:Bool):Bool:=sl.any fun q=>Nat.beq q.1 j && (Nat.beq q.2.1 d && (match q.2.2 with | .bool c=>(bif b then c else !c) | _=>false))
theorem GR {sl:LQ} {j d:Nat} {b:Bool} (h:It sl j d b=true):(j,d,.bool b)∈sl:=by
 unfold It at h
 rw [List.any_eq_true] at h
 obtain ⟨⟨j',d',v⟩,hq,h⟩:=h
 rw [Bool.and_eq_true,Bool.and_eq_true] at h
 obtain ⟨h1,h2,h3⟩:=h
 obtain rfl:j'=j:=Nat.eq_of_beq_eq_true h1
 obtain rfl:d'=d:=Nat.eq_of_beq_eq_true h2
 cases v with
 | bool c=>cases b <;> cases c <;> first | exact hq | (cases h3; done)
 | _=>cases h3
def SH (sl:LQ):List Nat→Bool
 | [j,d,b]=>It sl (j - 1000000) (d - 1000000) (Nat.beq b 1000001)
 | _=>true
def gdB (U:LL) (sl:LQ):Bool:=bif Nat.ble 1000000 ((U.getLastD []).headD 0) then SH sl (U.getLastD []) else true
def Ag (U:LL) (sl:LQ) (ms:MM):Bool:=(U.all fun us=>us.all fun j=>ms.all fun a=>!Nat.beq a.j j) && gdB U sl
inductive AD {R S:Type} (tq:Bool) (P:Program) (cx:Cx R) (K:dq R S) (l tail:LO) (base:Fr) (U:LL):List aX→JA R S→Prop
 | nil {hd:QE} {i:Nat} {sl:LQ} {ms:MM} {Γ:QE} {m:Option (Out S R)} (Bf:Bd ms=true) (he:Ag U sl ms=true) (h:∀ x:nv ms,D P cx (.p (Af sl (mF ms x)) (Cm ms x) base Γ fun fr Γ=>.tg tq (Bb tail) l tail K Γ fr m)):AD tq P cx K l tail base U hd (.a [] [] i sl ms Γ m)
 | gbt {hd:QE} {j d:Nat} {b:Bool} {q:Nat×Nat×Value} {as:LL} {ops:LO} {i:Nat} {sl:LQ} {ms:MM} {Γ:QE} {m:Option (Out S R)} (h:AD tq P cx K l tail base U hd (.a as ops i (q :: (j,d,.bool true) :: sl) ms Γ m)):AD tq P cx K l tail base U hd (.a as ops i ((j,d,.bool b) :: q :: sl) ms Γ (bif b then m else none))
 | gbf {hd:QE} {j d:Nat} {b:Bool} {q:Nat×Nat×Value} {as:LL} {ops:LO} {i:Nat} {sl:LQ} {ms:MM} {Γ:QE} {m:Option (Out S R)} (h:AD tq P cx K l tail base U hd (.a as ops i (q :: (j,d,.bool false) :: sl) ms Γ m)):AD tq P cx K l tail base U hd (.a as ops i ((j,d,.bool b) :: q :: sl) ms Γ (bif b then none else m))
 | skp {hd:QE} {A:LN} {dst:Option Nat} {op:Op} {ty:TI} {pos:String} {ai:Array Edge} {j d:Nat} {p:Bool} {as:LL} {ops:LO} {i:Nat} {sl:LQ} {ms:MM} {Γ:QE} {m:Option (Out S R)} (jh:bw l j=some d) (hb:It sl j d (!p)=true) (hA:gp j A=true) (h:AD tq P cx K l tail base U hd (.a as ops (i+1) sl ms Γ m)):AD tq P cx K l tail base U hd (.a (A :: as) (⟨dst,op,ty,pos,ai,some (j,p)⟩ :: ops) i sl ms Γ m)
 | cons {hd:QE} {A:LN} {as:LL} {op:Op} {d:Nat} {ty:TI} {pos:String} {ai:Array Edge} {ops:LO} {i:Nat} {sl:LQ} {ms:MM} {Γ:QE} {m:Option (Out S R)} (h:AD tq P cx K l tail base U hd (.o A op d ty as ops i sl ms Γ m)) :
   AD tq P cx K l tail base U hd (.a (A :: as) (⟨some d,op,ty,pos,ai,none⟩ :: ops) i sl ms Γ m)
 | Mj {hd:QE} {A:LN} {as:LL} {op:Op} {ty:TI} {pos:String} {ai:Array Edge} {ops:LO} {i:Nat} {sl:LQ} {ms:MM} {Γ:QE} {m:Option (Out S R)} (h:AD tq P cx K l tail base U hd (.os A op ty as ops i sl ms Γ m)) :
   AD tq P cx K l tail base U hd (.a (A :: as) (⟨none,op,ty,pos,ai,none⟩ :: ops) i sl ms Γ m)
 | Vp {hd:QE} {t e:TI} {t1 j1 n:Nat} {y:OO} {u:Value} {us cs ds:LV} {po:MM} {fr:Fr} {A:LN} {as:LL} {ty:TI} {ops:LO} {i:Nat} {sl:LQ} {ms:MM} {Γ:QE} {m:Option (Out S R)} [ht:xd P t n]
   (h1:wH ms t1 ⟨j1,t1,[],Nat,fun _ b=>.pointer (some ⟨b,0,none⟩),fun _ b=>[.row b cs e]⟩ po) (hv:fI A none sl base fr) (hy:cb fr y=some u) (hc:s6 Γ u us) (hn:us.length=n) (hs:u5 us 0 cs ds) (ho:wx Γ us) (h4:gp j1 A=true) (h6:U.getD i []=[j1])
   (h:AD tq P cx K l tail base U hd (.a as ops (i+1) sl (⟨i,t1,[],Nat,fun _ b=>.pointer (some ⟨b,0,none⟩),fun _ b=>[.row b ds e]⟩ :: po) Γ m)):AD tq P cx K l tail base U hd (.os A (.store t (.tmp t1) y) ty as ops i sl ms Γ m)
 | H9 {hd:QE} {α:Type} {A:LN} {as:LL} {d:Nat} {t e ty:TI} {E:an α} {z0:α} {bt:Nat} {ops:LO} {i:Nat} {sl:LQ} {ms:MM} {Γ:QE} {m:Option (Out S R)} [hz:ux P t α e E z0 bt]
   (h:AD tq P cx K l tail base U hd (.a as ops (i+1) sl (⟨i,d,[],Value,fun _ v=>v,fun _ v=>[.own (aL e E) v []]⟩ :: ms) Γ m)):AD tq P cx K l tail base U hd (.o A (.buildSlice t 0 #[]) d ty as ops i sl ms Γ m)
 | sw4 {hd:QE} {t st e:Nat} {α:Type} {E:an α} {z0:α} {bt:Nat} {b:Bool} {A:LN} {as:LL} {d:Nat} {ty:TI} {ops:LO} {i:Nat} {sl:LQ} {ms:MM} {Γ:QE} {m:Option (Out S R)} [hz:ux P st α e E z0 bt] (hw:GQ ms t b) (h:AD tq P cx K l tail base U hd (.ow b A (.buildSlice st 1 #[(0,.tmp t)]) d ty as ops i sl ms Γ m)):AD tq P cx K l tail base U hd (.o A (.buildSlice st 1 #[(0,.tmp t)]) d ty as ops i sl ms Γ m)
 | ltn {hd:QE} {t e:TI} {n:Nat} {ps:List (Nat×Operand)} {us:LV} {fr:Fr} {A:LN} {as:LL} {d:Nat} {ty:TI} {ops:LO} {i:Nat} {sl:LQ} {ms:MM} {Γ:QE} {m:Option (Out S R)} [hz:HZ P t e] (hv:fI A none sl base fr) (hl:wz Γ fr 0 ps us) (hn:us.length=n) (hb:(Nat.ble 1 n && Nat.ble n 16777216)=true)
   (h:AD tq P cx K l tail base U hd (.a as ops (i+1) sl (⟨i,d,[],Nat,fun _ b=>.slice (some ⟨b,0,none⟩) n n,fun _ b=>[.row b us e]⟩ :: ms) Γ m)):AD tq P cx K l tail base U hd (.o A (.buildSlice t n ps.toArray) d ty as ops i sl ms Γ m)
 | ltu {hd:QE} {t e:TI} {n:Nat} {ps:List (Nat×Operand)} {us:LV} {fr:Fr} {A:LN} {as:LL} {d:Nat} {ty:TI} {ops:LO} {i:Nat} {sl:LQ} {ms:MM} {Γ:QE} {m:Option (Out S R)} [hz:NI P t e] (hv:fI A none sl base fr) (hl:wz Γ fr 0 ps us) (hn:us.length=n) (hb:(Nat.ble 1 n && Nat.ble n 16777216)=true)
   (h:AD tq P cx K l tail base U hd (.a as ops (i+1) sl (⟨i,d,[],Nat,fun _ b=>.slice (some ⟨b,0,none⟩) n n,fun _ b=>[.row b us e]⟩ :: ms) Γ m)):AD tq P cx K l tail base U hd (.o A (.buildSlice t n ps.toArray) d ty as ops i sl ms Γ m)
 | sw1 {hd:QE} {t:Nat} {b:Bool} {A:LN} {as:LL} {d:Nat} {ty:TI} {ops:LO} {i:Nat} {sl:LQ} {ms:MM} {Γ:QE} {m:Option (Out S R)} (hw:GQ ms t b) (h:AD tq P cx K l tail base U hd (.ow b A (.move (.tmp t)) d ty as ops i sl ms Γ m)):AD tq P cx K l tail base U hd (.o A (.move (.tmp t)) d ty as ops i sl ms Γ m)
 | sw2 {hd:QE} {t k:Nat} {b:Bool} {A:LN} {as:LL} {d:Nat} {ty:TI} {ops:LO} {i:Nat} {sl:LQ} {ms:MM} {Γ:QE} {m:Option (Out S R)} (hw:GQ ms t b) (h:AD tq P cx K l tail base U hd (.ow b A (.extract (.tmp t) k) d ty as ops i sl ms Γ m)):AD tq P cx K l tail base U hd (.o A (.extract (.tmp t) k) d ty as ops i sl ms Γ m)
 | wlt {hd:QE} {t e:TI} {α:Type} {E:an α} {z0:α} {bt:Nat} {u:Value} {x:OO} {fr:Fr} {A:LN} {as:LL} {d:Nat} {ty:TI} {ops:LO} {i:Nat} {sl:LQ} {ms:MM} {Γ:QE} {m:Option (Out S R)} [hz:ux P t α e E z0 bt] (hv:fI A none sl base fr) (hx:cb fr x=some u) (h1:One Γ u)
   (h:AD tq P cx K l tail base U hd (.a as ops (i+1) sl (⟨i,d,[],Nat,fun _ b=>.slice (some ⟨b,0,none⟩) 1 1,fun _ b=>[.row b [u] e]⟩ :: ms) Γ m)):AD tq P cx K l tail base U hd (.ow false A (.buildSlice t 1 #[(0,x)]) d ty as ops i sl ms Γ m)
 | sw5 {hd:QE} {t st:Nat} {b:Bool} {A:LN} {as:LL} {d:Nat} {ty:TI} {ops:LO} {i:Nat} {sl:LQ} {ms:MM} {Γ:QE} {m:Option (Out S R)} (hw:GQ ms t b) (h:AD tq P cx K l tail base U hd (.ow b A (.call ⟨.builtin .len,#[.tmp t],#[st]⟩) d ty as ops i sl ms Γ m)):AD tq P cx K l tail base U hd (.o A (.call ⟨.builtin .len,#[.tmp t],#[st]⟩) d ty as ops i sl ms Γ m)
 | mln {hd:QE} {t n:Nat} {st:TI} {A:LN} {as:LL} {d:Nat} {ty:TI} {ops:LO} {i:Nat} {sl:LQ} {ms:MM} {Γ:QE} {m:Option (Out S R)} [ht:yx P st] (hi:nz ms) (Bf:qb A ms=true) (hx:∀ x:nv ms,VD (nk A ms x) (sf A ms x) t n) (h:AD tq P cx K l tail base U hd (.a as ops (i+1) ((i,d,.int .i64 (n:Int)) :: sl) ms Γ m)):AD tq P cx K l tail base U hd (.ow true A (.call ⟨.builtin .len,#[.tmp t],#[st]⟩) d ty as ops i sl ms Γ m)
 | SI {hd:QE} {t:TI} {cs:LV} {A:LN} {as:LL} {d:Nat} {ty:TI} {ops:LO} {i:Nat} {sl:LQ} {ms:MM} {Γ:QE} {m:Option (Out S R)} [hz:Ch P t cs] (h:AD tq P cx K l tail base U hd (.a as ops (i+1) sl (⟨i,d,[],Nat,fun _ b=>.pointer (some ⟨b,0,none⟩),fun _ b=>[.row b cs t]⟩ :: ms) Γ m)):AD tq P cx K l tail base U hd (.o A (.alloc t) d ty as ops i sl ms Γ m)
 | Vn {hd:QE} {us:LN} {t1 t2:Nat} {t:TI} {A:LN} {as:LL} {d:Nat} {ty:TI} {ops:LO} {i:Nat} {sl:LQ} {ms:MM} {Γ:QE} {m:Option (Out S R)} (hU:U.getD i []=us) (h:AD tq P cx K l tail base U hd (.ap us t1 t2 t A d ty as ops i sl ms Γ m)):AD tq P cx K l tail base U hd (.o A (.call ⟨.builtin .append,#[.tmp t1,.tmp t2],#[t,t]⟩) d ty as ops i sl ms Γ m)
 | apH {hd jh:QE} {α:Type} {t e e' et:TI} {E E':an α} {z0:α} {bt t1 t2 j2:Nat} {v u yv:Value} {j:Int} {y:α} {z:List α} {xs:List (List α)} {o1 o2:Bool} {Γx:QE} {Iu:MM} {fr:Fr} {f:Unit→Option (Out S R)} {A:LN} {as:LL} {d:Nat} {ty:TI} {ops:LO} {i:Nat} {sl:LQ} {ms:MM} {Γ:QE} [hT:ux P t α e E z0 bt]
   (hV:((U.set i []).all fun us=>!(us.contains l.length))=true) (hv:fI A none sl base fr) (hs:look fr t1=some u) (h2:wH ms t2 ⟨j2,t2,[],Nat,fun _ b=>.slice (some ⟨b,0,none⟩) 1 1,fun _ b=>[.row b [yv] et]⟩ Iu) (h5:gp j2 A=true) (hl:Loc hd u (.row v j)) (hz:qh hd u o1 o2 E' z vi Γx) (h1:ee hd (.own (aL e' (aL e E)) v xs) jh) (hr:RT (aL e E) (bH E')) (hy:DL [] E yv y [])
   (h:AD tq P cx K l tail base U jh (.a as ops (i+1) sl (⟨i,d,[],Value,fun _ v'=>v',fun _ v'=>[.own (aL e E) v' (z++[y]),.own (vI e' (aL e E) j.toNat) v xs]⟩ :: ms) Γ (f ()))):AD tq P cx K l tail base U hd (.ap [l.length] t1 t2 t A d ty as ops i sl ms Γ (fits bt (z.length+1)>>=f))
 | ap1 {hd:QE} {us:LN} {t e et:TI} {E:an Int} {z0:Int} {bt t1 t2 j2 d2:Nat} {k:IntKind} {y:Int} {xs:List Int} {a1:gx} {po Iu:MM} {f:Unit→Option (Out S R)} {A:LN} {as:LL} {d:Nat} {ty:TI} {ops:LO} {i:Nat} {sl:LQ} {ms:MM} {Γ:QE} [hz:ux P t Int e E z0 bt] (h1:wH ms t1 a1 po) (h2:wH po t2 ⟨j2,d2,[],Nat,fun _ b=>.slice (some ⟨b,0,none⟩) 1 1,fun _ b=>[.row b [.int k y] et]⟩ Iu) (h3:∀ u v,a1.ps u v=[.own (aL e (aN k)) (a1.rt u v) xs]) (hu:us=[a1.j]) (h4:gp a1.j A=true) (h5:gp j2 A=true)
   (h:AD tq P cx K l tail base U hd (.a as ops (i+1) sl (⟨i,d,[],Value,fun _ v=>v,fun _ v=>[.own (aL e (aN k)) v (xs++[y])]⟩ :: po) Γ (f ()))):AD tq P cx K l tail base U hd (.ap us t1 t2 t A d ty as ops i sl ms Γ (fits bt (xs.length+1)>>=f))
 | wv {hd:QE} {op:Op} {u:Value} {fr:Fr} {A:LN} {as:LL} {d:Nat} {ty:TI} {ops:LO} {i:Nat} {sl:LQ} {ms:MM} {Γ:QE} {m:Option (Out S R)} (hv:fI A none sl base fr) (hq:VQ P Γ fr op u) (h:AD tq P cx K l tail base U hd (.a as ops (i+1) ((i,d,u) :: sl) ms Γ m)):AD tq P cx K l tail base U hd (.ow false A op d ty as ops i sl ms Γ m)
 | mmv {hd:QE} {t:Nat} {A:LN} {as:LL} {d:Nat} {ty:TI} {ops:LO} {i:Nat} {sl:LQ} {ms:MM} {Γ:QE} {m:Option (Out S R)} (hi:nz ms) (Bf:qb A ms=true) (hj:∃ j,pr t ms=some j∧gp j A=true) (h:AD tq P cx K l tail base U hd (.a as ops (i+1) sl (⟨i,d,[t],Unit,fun u _=>u,fun _ _=>[]⟩ :: ms) Γ m)):AD tq P cx K l tail base U hd (.ow true A (.move (.tmp t)) d ty as ops i sl ms Γ m)
 | mbl {hd:QE} {t:TI} {ps:List (Nat×Operand)} {zc:LV} {pl:List (Nat×Nat)} {fr:Fr} {A:LN} {as:LL} {d:Nat} {ty:TI} {ops:LO} {i:Nat} {sl:LQ} {ms:MM} {Γ:QE} {m:Option (Out S R)} [hb:zD P t zc pl] (hi:nz ms) (Bf:qb A ms=true) (q9:(Bc ms ps).isEmpty=false) (hj:tsB A ms (Bc ms ps)=true) (hv:fI A none sl base fr)
   (hx:∀ x:nv ms,xX (sf A ms x++Γ) (nk A ms x++fr) pl ps zc (VB pl fr (Bc ms ps) ps zc (Ae (zI (mF ms x)) (Bc ms ps))))
   (h:AD tq P cx K l tail base U hd (.a as ops (i+1) sl (⟨i,d,Bc ms ps,Unit,fun u _=>.agg (VB pl fr (Bc ms ps) ps zc u).toArray,fun _ _=>[]⟩ :: ms) Γ m)):AD tq P cx K l tail base U hd (.o A (.build t ps.toArray) d ty as ops i sl ms Γ m)
 | mex {hd:QE} {t k:Nat} {A:LN} {as:LL} {d:Nat} {ty:TI} {ops:LO} {i:Nat} {sl:LQ} {ms:MM} {Γ:QE} {m:Option (Out S R)} (hi:nz ms) (Bf:qb A ms=true) (hj:∃ j,pr t ms=some j∧gp j A=true) (hx:∀ x:nv ms,VC (nk A ms x) t k) (h:AD tq P cx K l tail base U hd (.a as ops (i+1) sl (⟨i,d,[t],Unit,fun u _=>Mk u k,fun _ _=>[]⟩ :: ms) Γ m)):AD tq P cx K l tail base U hd (.ow true A (.extract (.tmp t) k) d ty as ops i sl ms Γ m)
 | mlt {hd:QE} {t:Nat} {NY e:TI} {α:Type} {E:an α} {z0:α} {bt:Nat} {A:LN} {as:LL} {d:Nat} {ty:TI} {ops:LO} {i:Nat} {sl:LQ} {ms:MM} {Γ:QE} {m:Option (Out S R)} [hz:ux P NY α e E z0 bt] (hi:nz ms) (Bf:qb A ms=true) (hj:∃ j,pr t ms=some j∧gp j A=true) (hx:∀ x:nv ms,PY (nk A ms x) (sf A ms x) t)
   (h:AD tq P cx K l tail base U hd (.a as ops (i+1) sl (⟨i,d,[t],Nat,fun _ b=>.slice (some ⟨b,0,none⟩) 1 1,fun u b=>[.row b [u] e]⟩ :: ms) Γ m)):AD tq P cx K l tail base U hd (.ow true A (.buildSlice NY 1 #[(0,.tmp t)]) d ty as ops i sl ms Γ m)
 | mls {hd:QE} {t n:Nat} {NY e:TI} {A:LN} {as:LL} {d:Nat} {ty:TI} {ops:LO} {i:Nat} {sl:LQ} {ms:MM} {Γ:QE} {m:Option (Out S R)} [hz:H4 P NY e n] (hb:(Nat.ble 1 1 && Nat.ble (1 * n) 16777216)=true) (hi:nz ms) (Bf:qb A ms=true) (hj:∃ j,pr t ms=some j∧gp j A=true) (hx:∀ x:nv ms,PZ (nk A ms x) t n)
   (h:AD tq P cx K l tail base U hd (.a as ops (i+1) sl (⟨i,d,[t],Nat,fun _ b=>.slice (some ⟨b,0,none⟩) 1 1,fun u b=>[.row b u.cells.toList e]⟩ :: ms) Γ m)):AD tq P cx K l tail base U hd (.o A (.buildSlice NY 1 #[(0,.tmp t)]) d ty as ops i sl ms Γ m)
 | mk {hd:QE} {t e:TI} {α:Type} {E:an α} {z0:α} {bt:Nat} {x:OO} {z:Int} {fr:Fr} {f:Nat→Option (Out S R)} {A:LN} {as:LL} {d:Nat} {ty:TI} {ops:LO} {i:Nat} {sl:LQ} {ms:MM} {Γ:QE} [hz:ux P t α e E z0 bt] (hv:fI A none sl base fr) (hx:cb fr x=some (.int .i64 z))
   (h:∀ n,AD tq P cx K l tail base U hd (.a as ops (i+1) sl (⟨i,d,[],Value,fun _ v=>v,fun _ v=>[.own (aL e E) v (List.replicate n z0)]⟩ :: ms) Γ (f n))):AD tq P cx K l tail base U hd (.o A (.makeSlice t x x) d ty as ops i sl ms Γ (mk bt z>>=f))
 | ixs {hd:QE} {b:Bool} {v:Value} {x y:OO} {t:TI} {fr:Fr} {A:LN} {as:LL} {d:Nat} {ty:TI} {ops:LO} {i:Nat} {sl:LQ} {ms:MM} {Γ:QE} {m:Option (Out S R)} (hv:fI A none sl base fr) (hx:cb fr x=some v) (hw:Lb hd v b) (h:AD tq P cx K l tail base U hd (.ix b v fr x y t A d ty as ops i sl ms Γ m)):AD tq P cx K l tail base U hd (.o A (.indexAddr t x y) d ty as ops i sl ms Γ m)
 | idx {hd:QE} {α:Type} {A:LN} {as:LL} {d:Nat} {x y:OO} {v:Value} {k:IntKind} {j:Int} {t ty:TI} {o1 o2:Bool} {E:an α} {xs:List α} {ops:LO} {i:Nat} {sl:LQ} {ms:MM} {fr:Fr} {Γ:QE} {Γ':α→List aX} {f:α→Option (Out S R)} [ht:yx P t]
   (hy:cb fr y=some (.int k j)) (hr:∀ z,qh Γ v o1 o2 E xs (.ad o1 o2 v j E z) (Γ' z)) (hE:E.size=1)
   (h:∀ z,AD tq P cx K l tail base U hd (.a as ops (i+1) ((i,d,.pointer (some (dg v 1 j))) :: sl) ms (Γ' z) (f z))):AD tq P cx K l tail base U hd (.ix false v fr x y t A d ty as ops i sl ms Γ (idx xs j>>=f))
 | abN {hd:QE} {α:Type} {A:LN} {as:LL} {d:Nat} {x y:OO} {v:Value} {k:IntKind} {j:Int} {t ty:TI} {o1 o2:Bool} {E:an α} {xs:List α} {ops:LO} {i:Nat} {sl:LQ} {ms:MM} {fr:Fr} {Γ:QE} {jh:α→List aX} {f:α→Option (Out S R)} [ht:yx P t]
   (hy:cb fr y=some (.int k j)) (hr:∀ z,qh hd v o1 o2 E xs (.ad o1 o2 v j E z) (jh z)) (hE:E.size=1)
   (h:∀ z,AD tq P cx K l tail base U (jh z) (.a as ops (i+1) ((i,d,.pointer (some (dg v 1 j))) :: sl) ms Γ (f z))):AD tq P cx K l tail base U hd (.ix true v fr x y t A d ty as ops i sl ms Γ (idx xs j>>=f))
 | load {hd:QE} {A:LN} {as:LL} {d:Nat} {x:OO} {a:Addr} {t ty:TI} {lk:Option Nat} {ops:LO} {i:Nat} {sl:LQ} {ms:MM} {fr:Fr} {Γ:QE} {m:Option (Out S R)} [ht:LK P t lk] (hv:fI A none sl base fr) (hx:cb fr x=some (.pointer (some a)))
   (h:AD tq P cx K l tail base U hd (.la fr a lk t x A d ty as ops i sl ms Γ m)):AD tq P cx K l tail base U hd (.o A (.load t x) d ty as ops i sl ms Γ m)
 | lsw {hd:QE} {b:Bool} {v:Value} {j:Int} {x:OO} {t:TI} {fr:Fr} {A:LN} {as:LL} {d:Nat} {ty:TI} {ops:LO} {i:Nat} {sl:LQ} {ms:MM} {Γ:QE} {m:Option (Out S R)} (hw:Lb hd v b) (h:AD tq P cx K l tail base U hd (.lb b v j fr t x A d ty as ops i sl ms Γ m)):AD tq P cx K l tail base U hd (.la fr (dg v 1 j) none t x A d ty as ops i sl ms Γ m)
 | Vj {hd:QE} {α:Type} {A:LN} {as:LL} {d:Nat} {x:OO} {v:Value} {j:Int} {o:Bool} {E:an α} {z:α} {t ty:TI} {ops:LO} {i:Nat} {sl:LQ} {ms:MM} {fr:Fr} {Γ Γx:QE} {m:Option (Out S R)} (h:vA Γ (dg v 1 j) o E z vi Γx)
   (k:AD tq P cx K l tail base U hd (.ld E z fr (dg v 1 j) t x A d ty as ops i sl ms Γ m)):AD tq P cx K l tail base U hd (.lb false v j fr t x A d ty as ops i sl ms Γ m)
 | abO {hd:QE} {α:Type} {A:LN} {as:LL} {d:Nat} {x:OO} {v:Value} {j:Int} {E:an α} {z:List α} {o:Bool} {t ty:TI} {ops:LO} {i:Nat} {sl:LQ} {ms:MM} {fr:Fr} {Γ:QE} {VE jh:Value→List aX} {m:Option (Out S R)} (hV:((U.zipIdx.all fun p=>!(p.1.contains l.length) || ((cc l).getD p.2 []).contains i))=true) (h:∀ u,vA hd (dg v 1 j) o (bH E) z (.rd o (bH E) u z) (VE u)) (h2:∀ u,Aa (VE u) v j u (jh u))
   (k:∀ u,AD tq P cx K l tail base U (jh u) (.a as ops (i+1) ((i,d,u) :: sl) ms Γ m)):AD tq P cx K l tail base U hd (.lb true v j fr t x A d ty as ops i sl ms Γ m)
 | Vk {hd:QE} {A:LN} {as:LL} {d:Nat} {x:OO} {a:Addr} {u:Value} {t ty:TI} {ops:LO} {i:Nat} {sl:LQ} {ms:MM} {fr:Fr} {Γ:QE} {m:Option (Out S R)} (h:wq Γ a u)
   (k:AD tq P cx K l tail base U hd (.a as ops (i+1) ((i,d,u) :: sl) ms Γ m)):AD tq P cx K l tail base U hd (.la fr a none t x A d ty as ops i sl ms Γ m)
 | NL {hd:QE} {A:LN} {as:LL} {d n:Nat} {x:OO} {a:Addr} {ds:LV} {t ty:TI} {ops:LO} {i:Nat} {sl:LQ} {ms:MM} {fr:Fr} {Γ:QE} {m:Option (Out S R)} (h:wy Γ a n ds)
   (k:AD tq P cx K l tail base U hd (.a as ops (i+1) ((i,d,.agg ds.toArray) :: sl) ms Γ m)):AD tq P cx K l tail base U hd (.la fr a (some n) t x A d ty as ops i sl ms Γ m)
 | Vl {hd:QE} {A:LN} {as:LL} {d:Nat} {x:OO} {a:Addr} {k:IntKind} {z:Int} {t ty:TI} {ops:LO} {i:Nat} {sl:LQ} {ms:MM} {fr:Fr} {Γ:QE} {m:Option (Out S R)}
   (h:AD tq P cx K l tail base U hd (.a as ops (i+1) ((i,d,.int k z) :: sl) ms Γ m)):AD tq P cx K l tail base U hd (.ld (aN k) z fr a t x A d ty as ops i sl ms Γ m)
 | Vm {hd:QE} {α:Type} {A:LN} {as:LL} {d:Nat} {x:OO} {v:Value} {j:Int} {E:an α} {z:List α} {o:Bool} {t ty:TI} {ops:LO} {i:Nat} {sl:LQ} {ms:MM} {fr:Fr} {Γ:QE} {Γ1 Γ':Value→List aX} {m:Option (Out S R)} (h:∀ u,vA Γ (dg v 1 j) o (bH E) z (.rd o (bH E) u z) (Γ1 u)) (h2:∀ u,Aa (Γ1 u) v j u (Γ' u))
   (k:∀ u,AD tq P cx K l tail base U hd (.a as ops (i+1) ((i,d,u) :: sl) ms (Γ' u) m)):AD tq P cx K l tail base U hd (.ld (bH E) z fr (dg v 1 j) t x A d ty as ops i sl ms Γ m)
 | NK {hd:QE} {us:LN} {A:LN} {as:LL} {d:Nat} {f:FuncId} {xs:List Operand} {bn:Array TypeId} {ty:TI} {ops:LO} {i:Nat} {sl:LQ} {ms:MM} {Γ:QE} {m:Option (Out S R)} (hU:U.getD i []=us) (h:AD tq P cx K l tail base U hd (.oc us f xs bn A d ty as ops i sl ms Γ m)):AD tq P cx K l tail base U hd (.o A (.call ⟨.value (.func f),xs.toArray,bn⟩) d ty as ops i sl ms Γ m)
 | call {hd:QE} {β V:Type} {A:LN} {as:LL} {d:Nat} {f:FuncId} {xs:List Operand} {bn:Array TypeId} {ty:TI} {mo:Option β} {rt:β→V→List Value} {ps:β→V→List aX} {ops:LO} {i:Nat} {sl:LQ} {ms:MM} {fr:Fr} {Γ:QE} {g:β→Option (Out S R)} [hf:bm P f]
   (hv:fI A none sl base fr) (hc:∀ x:nv ms,Mi P f xs (nk A ms x++fr) (sf A ms x++Γ) mo rt ps) (hi:nz ms) (Bf:qb A ms=true) (ho:∀ y v,ur (ps y v)=true)
   (h:∀ y,AD tq P cx K l tail base U hd (.cr (fun v=>um (rt y v)) (ps y) d as ops i sl ms Γ (g y))):AD tq P cx K l tail base U hd (.oc [] f xs bn A d ty as ops i sl ms Γ (mo>>=g))
 | Zi {hd:QE} {β V:Type} {A:LN} {as:LL} {d:Nat} {f:FuncId} {xs:List Operand} {bn:Array TypeId} {ty:TI} {mo:Option β} {rt:β→V→List Value} {ps:β→V→List aX} {ops:LO} {i:Nat} {sl:LQ} {ms:MM} {fr:Fr} {Γ:QE} {g:β→Option (Out S R)} [hf:bm P f]
   (hV:((U.set i []).all fun us=>!(us.contains l.length))=true) (hv:fI A none sl base fr) (hc:∀ x:nv ms,ES P f xs (nk A ms x++fr) hd (sf A ms x++Γ) mo rt ps) (hi:nz ms) (Bf:qb A ms=true) (ho:∀ y v,ur (ps y v)=true)
   (h:∀ y,AD tq P cx K l tail base U hd (.cr (fun v=>um (rt y v)) (ps y) d as ops i sl ms Γ (g y))):AD tq P cx K l tail base U hd (.oc [l.length] f xs bn A d ty as ops i sl ms Γ (mo>>=g))
 | Zj {hd:QE} {β V:Type} {j1:Nat} {a1:gx} {po:MM} {A:LN} {as:LL} {d:Nat} {f:FuncId} {xs:List Operand} {bn:Array TypeId} {ty:TI} {mo:Option β} {rt:β→V→List Value} {ps:β→V→List aX} {ops:LO} {i:Nat} {sl:LQ} {ms:MM} {fr:Fr} {Γ:QE} {g:β→Option (Out S R)} [hf:bm P f]
   (h1:Ec ms j1 a1 po) (SJ:a1.src=[]) (h4:gp j1 A=true) (hv:fI A none sl base fr) (hc:∀ (q:a1.V) (x:nv po),ES P f xs (nk A po x++fr) (a1.ps undef q) (sf A po x++Γ) mo rt ps) (hi:nz po) (Bf:qb A po=true) (ho:∀ y v,ur (ps y v)=true)
   (h:∀ y,AD tq P cx K l tail base U hd (.cr (fun v=>um (rt y v)) (ps y) d as ops i (P1 j1 i sl) po Γ (g y))):AD tq P cx K l tail base U hd (.oc [j1] f xs bn A d ty as ops i sl ms Γ (mo>>=g))
 | crv {hd:QE} {u:Unit→Value} {d:Nat} {as:LL} {ops:LO} {i:Nat} {sl:LQ} {ms:MM} {Γ:QE} {m:Option (Out S R)} (h:AD tq P cx K l tail base U hd (.a as ops (i+1) ((i,d,u ()) :: sl) ms Γ m)):AD tq P cx K l tail base U hd (.cr u (fun _=>[]) d as ops i sl ms Γ m)
 | crb {hd:QE} {u:Unit→Value} {ps:Unit→List aX} {d:Nat} {as:LL} {ops:LO} {i:Nat} {sl:LQ} {ms:MM} {Γ:QE} {m:Option (Out S R)} (h:AD tq P cx K l tail base U hd (.a as ops (i+1) ((i,d,u ()) :: sl) (⟨i,d,[],Unit,fun _=>u,fun _=>ps⟩ :: ms) Γ m)):AD tq P cx K l tail base U hd (.cr u ps d as ops i sl ms Γ m)
 | crm {hd:QE} {V:Type} {u:V→Value} {ps:V→List aX} {d:Nat} {as:LL} {ops:LO} {i:Nat} {sl:LQ} {ms:MM} {Γ:QE} {m:Option (Out S R)} (h:AD tq P cx K l tail base U hd (.a as ops (i+1) sl (⟨i,d,[],V,fun _=>u,fun _=>ps⟩ :: ms) Γ m)):AD tq P cx K l tail base U hd (.cr u ps d as ops i sl ms Γ m)
 | val {hd:QE} {A:LN} {as:LL} {op:Op} {d:Nat} {ty:TI} {u:Value} {ops:LO} {i:Nat} {sl:LQ} {ms:MM} {fr:Fr} {Γ:QE} {m:Option (Out S R)} (hv:fI A none sl base fr) (hq:VQ P Γ fr op u)
   (h:AD tq P cx K l tail base U hd (.a as ops (i+1) ((i,d,u) :: sl) ms Γ m)):AD tq P cx K l tail base U hd (.o A op d ty as ops i sl ms Γ m)
 | uz {hd:QE} {A:LN} {as:LL} {op:BinOp} {x y:OO} {k k':IntKind} {a b:Int} {t t':TI} {d:Nat} {ty:TI} {ops:LO} {i:Nat} {sl:LQ} {ms:MM} {fr:Fr} {Γ:QE} {f:Int→Option (Out S R)} (hv:fI A none sl base fr) (hx:cb fr x=some (.int k a)) (hy:cb fr y=some (.int k' b)) (hk:SC op k k')
   (h:∀ z,AD tq P cx K l tail base U hd (.a as ops (i+1) ((i,d,.int k z) :: sl) ms Γ (f z))):AD tq P cx K l tail base U hd (.o A (.binOp op t x y t') d ty as ops i sl ms Γ (wi op k a b>>=f))
 | pz {hd:QE} {as:LL} {ops:LO} {i:Nat} {sl:LQ} {ms:MM} {Γ:QE} {m:Option (Out S R)} (h:AD tq P cx K l tail base U hd (.a as ops i sl ms Γ m)):AD tq P cx K l tail base U hd (.p [] as ops i sl ms Γ m)
 | pe {hd:QE} {e:aX} {Δ:QE} {as:LL} {ops:LO} {i:Nat} {sl:LQ} {ms:MM} {Γ:QE} {m:Option (Out S R)} (h:AD tq P cx K l tail base U hd (.p Δ as ops i sl ms (e :: Γ) m)):AD tq P cx K l tail base U hd (.p (e :: Δ) as ops i sl ms Γ m)
 | H8 {hd:QE} {α V:Type} {Sc:an α} {cl:α→V→List Value} {en:α→V→List aX} {A:LN} {as:LL} {d n:Nat} {x y:OO} {v:Value} {xs:List α} {k:IntKind} {j:Int} {t ty:TI} {ops:LO} {i:Nat} {sl:LQ} {ms:MM} {fr:Fr} {Γ Γx:QE} {f:α→Option (Out S R)} [ht:H0 P t n]
   (hy:cb fr y=some (.int k j)) (hr:qh Γ v false false (rj Sc) xs vi Γx) (hs:GK Sc V cl en) (hn:Sc.size=n)
   (h:∀ z u,AD tq P cx K l tail base U hd (.p (.bn (dg v n j) (cl z u) :: en z u) as ops (i+1) ((i,d,.pointer (some (dg v n j))) :: sl) ms Γ (f z))):AD tq P cx K l tail base U hd (.ix false v fr x y t A d ty as ops i sl ms Γ (idx xs j>>=f))
 | VF {hd:QE} {α V:Type} {Sc:an α} {cl:α→V→List Value} {en:α→V→List aX} {A:LN} {as:LL} {d n e bt:Nat} {x y:OO} {v:Value} {us:List (List Value)} {xs:List α} {k:IntKind} {j:Int} {t ty:TI} {ops:LO} {i:Nat} {sl:LQ} {ms:MM} {fr:Fr} {Γ Γ1:QE} {f:α→Option (Out S R)} [ht:B4 P t e n bt]
   (hy:cb fr y=some (.int k j)) (h1:ee Γ (.own (aL e (jm n)) v us) Γ1) (hg:In (.rd false (xa Sc) (.bool true) (us,xs)) Γ) (hs:GK Sc V cl en)
   (h:∀ z u,AD tq P cx K l tail base U hd (.p (.rd false (B2 us j) (.bool true) (cl z u) :: en z u) as ops (i+1) ((i,d,.pointer (some (dg v n j))) :: sl) ms Γ (f z))):AD tq P cx K l tail base U hd (.ix false v fr x y t A d ty as ops i sl ms Γ (idx xs j>>=f))
 | laG {hd:QE} {A:LN} {as:LL} {d n e off:Nat} {x:OO} {v u:Value} {us:List (List Value)} {j:Int} {cs:LV} {t ty:TI} {ops:LO} {i:Nat} {sl:LQ} {ms:MM} {fr:Fr} {Γ Γ1:QE} {m:Option (Out S R)} (h1:ee Γ (.own (aL e (jm n)) v us) Γ1) (hp:In (.rd false (B2 us j) (.bool true) cs) Γ) (hc:cs[off]? = some u)
   (k:AD tq P cx K l tail base U hd (.a as ops (i+1) ((i,d,u) :: sl) ms Γ m)):AD tq P cx K l tail base U hd (.la fr ((dg v n j).add off) none t x A d ty as ops i sl ms Γ m)
 | VG {hd:QE} {A:LN} {as:LL} {d n e:Nat} {x:OO} {v u:Value} {us:List (List Value)} {j:Int} {cs:LV} {t ty:TI} {ops:LO} {i:Nat} {sl:LQ} {ms:MM} {fr:Fr} {Γ Γ1:QE} {m:Option (Out S R)} (h1:ee Γ (.own (aL e (jm n)) v us) Γ1) (hp:In (.rd false (B2 us j) (.bool true) cs) Γ) (hc:cs[0]? = some u)
   (k:AD tq P cx K l tail base U hd (.a as ops (i+1) ((i,d,u) :: sl) ms Γ m)):AD tq P cx K l tail base U hd (.la fr (dg v n j) none t x A d ty as ops i sl ms Γ m)
end Go.Dk
namespace Go.Dk
open Go Go.Li
theorem oy {t:Nat} {l:LN}:gp t l=true↔t∈l:=by
 induction l with
 | nil=>simp [gp]
 | cons a l ih=>
  unfold gp
  cases hb:Nat.beq t a with
  | true=>simp [Nat.eq_of_beq_eq_true hb]
  | false=>simp only [cond_false,ih,List.mem_cons]; exact ⟨.inr,fun h=>h.resolve_left fun e=>by rw [e,Nat.beq_refl] at hb; cases hb⟩
def kp (l:LO) (U:LL) (mt:Nat):List (List Nat):=(List.range mt).map fun i=>(List.range l.length).filter (rq l U mt i)
theorem qo {l:LO} {U:LL} {mt i j:Nat} (h:j∈(kp l U mt).getD i []):j∈(cc l).getD i []∧rq l U mt i j=true:=by
 unfold kp at h
 rw [List.getD_eq_getElem?_getD,List.getElem?_map] at h
 by_cases hi:i < mt
 ·rw [List.getElem?_range hi] at h
  have h1:=(List.mem_filter.1 h).2
  refine ⟨?_,h1⟩
  unfold rq at h1
  rw [Bool.and_eq_true] at h1
  simpa using h1.1
 ·rw [List.getElem?_eq_none (by simpa using hi)] at h
  exact absurd h List.not_mem_nil
variable {Z:Nat→Prop}
structure iv (Z:Nat→Prop) (l:LO) (S:List fv) (sl:LQ) (ms:MM):Prop where
 v:∀ p∈sl,∃ j,(j=p.1∨j∈(cc l).getD p.1 [])∧bw l j=some p.2.1∧∃ s,S[j]? = some s∧s.b=true∧∀ f w r x,s.V f w r x→x=p.2.2
 m:∀ a∈ms,(S[a.j]? = some ⟨true,MV Z a⟩∧bw l a.j=some a.d)∨(S[a.j]? = some ⟨true,NU Z a⟩∧bw l a.j=none∧∃ k∈(cc l).getD a.j [],bw l k=some a.d)
 s:∀ i s,S[i]? = some s→NW Z ((cc l).getD i []) l s
 d:(ms.map (·.j)).Nodup
 t:∀ i j k,j∈(cc l).getD k []→k∈(cc l).getD i []→j∈(cc l).getD i []
theorem iv.lt {l:LO} {S:List fv} {sl:LQ} {ms:MM} (h:iv Z l S sl ms) {a:gx} (ha:a∈ms):a.j < S.length:=by
 rcases h.m a ha with h | h <;> exact (List.getElem?_eq_some_iff.1 h.1).1
theorem iv.Iv {l:LO} {S S2:List fv} {sl:LQ} {ms:MM} (h:iv Z l S sl ms) {a:gx} (ha:a∈ms) {g:Nat→List Nat} {r:NV} {w:World} (hd:vJ l (S++S2) a.j g r w):MV Z a (g a.j) w r (r a.d):=by
 rcases h.m a ha with h1 | h1
 ·have h2:=hd.1 a.d h1.2
  rw [List.getElem?_append_left (List.getElem?_eq_some_iff.1 h1.1).1,h1.1] at h2
  exact h2
 ·obtain ⟨x,hx⟩:=hd.2 h1.2.1 _ (by rw [List.getElem?_append_left (List.getElem?_eq_some_iff.1 h1.1).1]; exact h1.1) rfl
  exact hx
theorem iv.slot {l:LO} {S:List fv} {sl:LQ} {ms:MM} (h:iv Z l S sl ms) {a:gx} (ha:a∈ms) {i:Nat} (hi:a.j∈(cc l).getD i []):∃ k∈(cc l).getD i [],bw l k=some a.d:=by
 rcases h.m a ha with h1 | ⟨_,_,k,hk,hd⟩
 ·exact ⟨a.j,hi,h1.2⟩
 ·exact ⟨k,h.t i k a.j hk hi,hd⟩
theorem iv.uh {l:LO} {S S2:List fv} {sl:LQ} {ms:MM} (h:iv Z l S sl ms) {a:gx} (ha:a∈ms):((S++S2)[a.j]? = some ⟨true,MV Z a⟩∧bw l a.j=some a.d)∨((S++S2)[a.j]? = some ⟨true,NU Z a⟩∧bw l a.j=none∧∃ k∈(cc l).getD a.j [],bw l k=some a.d):=by
 rw [List.getElem?_append_left (h.lt ha)]
 exact h.m a ha
theorem iv.Ml {l:LO} {S S2:List fv} {sl:LQ} {ms:MM} (h:iv Z l S sl ms) {p:Nat×Nat×Value} (hp:p∈sl):∃ j,(j=p.1∨j∈(cc l).getD p.1 [])∧bw l j=some p.2.1∧∃ s,(S++S2)[j]? = some s∧s.b=true∧∀ f w r x,s.V f w r x→x=p.2.2:=by
 obtain ⟨j,hj,h1,s,h2,h3⟩:=h.v p hp
 exact ⟨j,hj,h1,s,by rw [List.getElem?_append_left (List.getElem?_eq_some_iff.1 h2).1]; exact h2,h3⟩
theorem iv.zJ {l:LO} {S S2:List fv} {sl:LQ} {ms:MM} (h:iv Z l S sl ms) {p:Nat×Nat×Value} (hp:p∈sl) {r:NV} (ho:∀ j,(j=p.1∨j∈(cc l).getD p.1 [])→j < S.length→Old l (S++S2) j r):r p.2.1=p.2.2:=by
 obtain ⟨j,hj,h1,s,h2,h3,h4⟩:=h.v p hp
 have hl:=(List.getElem?_eq_some_iff.1 h2).1
 have:=ho j hj hl _ h1 s (by rw [List.getElem?_append_left hl]; exact h2)
 rw [if_pos h3] at this
 obtain ⟨f,w,hV⟩:=this
 exact h4 f w r _ hV
theorem iv.val {l:LO} {S:List fv} {sl:LQ} {ms:MM} (h:iv Z l S sl ms) {d:Nat} {u:Value} (hd:bw l S.length=some d):iv Z l (S++[sV u]) ((S.length,d,u) :: sl) ms:=by
 refine ⟨?_,fun a ha=>h.uh ha,?_,h.d,h.t⟩
 ·intro p hp
  rcases List.mem_cons.1 hp with rfl | hp
  ·exact ⟨S.length,.inl rfl,hd,sV u,by simp,rfl,fun _ _ _ _ h=>h⟩
  ·exact h.Ml hp
 ·intro i s hs
  by_cases hi:i < S.length
  ·rw [List.getElem?_append_left hi] at hs; exact h.s i s hs
  ·rw [List.getElem?_append_right (by omega)] at hs
   have xf:i - S.length=0:=by
    have:=(List.getElem?_eq_some_iff.1 hs).1
    simp at this; omega
   rw [xf] at hs
   cases hs
   exact Ir.n Mm
theorem iv.mem {l:LO} {S:List fv} {sl:LQ} {ms:MM} (h:iv Z l S sl ms) {b:gx} (hj:b.j=S.length) (hd:bw l S.length=some b.d) (iT:∀ t∈b.src,∃ j∈(cc l).getD S.length [],bw l j=some t):iv Z l (S++[⟨true,MV Z b⟩]) sl (b :: ms):=by
 have bp:∀ a∈ms,a.j < S.length:=fun a ha=>h.lt ha
 refine ⟨fun p hp=>?_,?_,?_,?_,h.t⟩
 ·exact h.Ml hp
 ·intro a ha
  rcases List.mem_cons.1 ha with rfl | ha
  ·exact .inl ⟨by rw [hj]; simp,by rw [hj]; exact hd⟩
  ·exact h.uh ha
 ·intro i s hs
  by_cases hi:i < S.length
  ·rw [List.getElem?_append_left hi] at hs; exact h.s i s hs
  ·rw [List.getElem?_append_right (by omega)] at hs
   have xf:i - S.length=0:=by
    have:=(List.getElem?_eq_some_iff.1 hs).1
    simp at this; omega
   have VH:i=S.length:=by omega
   rw [xf] at hs
   cases hs
   rw [VH]
   exact NX iT
 ·rw [List.map_cons,List.nodup_cons]
  refine ⟨fun hm=>?_,h.d⟩
  obtain ⟨a,ha,he⟩:=List.mem_map.1 hm
  have:=bp a ha
  omega
theorem iv.abP {l:LO} {S:List fv} {sl:LQ} {ms:MM} (h:iv Z l S sl ms) {j d:Nat} {u:Value} (hd:bw l j=some d) {s:fv} (hs:S[j]? = some s) (hb:s.b=true) (hV:∀ f w r x,s.V f w r x→x=u):iv Z l S ((j,d,u) :: sl) ms:=
 ⟨fun p hp=>by
  rcases List.mem_cons.1 hp with rfl | hp
  ·exact ⟨j,.inl rfl,hd,s,hs,hb,hV⟩
  ·exact h.v p hp,h.m,h.s,h.d,h.t⟩
theorem iv.re {l:LO} {S:List fv} {sl:LQ} {ms:MM} (h:iv Z l S sl ms) {j i:Nat} (hj:j∈(cc l).getD i []):iv Z l S (P1 j i sl) ms:=by
 refine ⟨fun p hp=>?_,h.m,h.s,h.d,h.t⟩
 obtain ⟨q,hq,rfl⟩:=List.mem_map.1 hp
 obtain ⟨k,hk,h1⟩:=h.v q hq
 cases hb:Nat.beq q.1 j with
 | false=>exact ⟨k,hk,h1⟩
 | true=>
  refine ⟨k,.inr ?_,h1⟩
  have hq1:=Nat.eq_of_beq_eq_true hb
  show k∈(cc l).getD i []
  rcases hk with rfl | hk
  ·rw [hq1]; exact hj
  ·rw [hq1] at hk; exact h.t i k j hk hj
theorem iv.abQ {l:LO} {S:List fv} {sl:LQ} {ms:MM} (h:iv Z l S sl ms) {b:gx} (hj:b.j=S.length) (hd:bw l S.length=none) (hk:∃ k∈(cc l).getD S.length [],bw l k=some b.d) (iT:b.src=[]):iv Z l (S++[⟨true,NU Z b⟩]) sl (b :: ms):=by
 have bp:∀ a∈ms,a.j < S.length:=fun a ha=>h.lt ha
 refine ⟨fun p hp=>?_,?_,?_,?_,h.t⟩
 ·exact h.Ml hp
 ·intro a ha
  rcases List.mem_cons.1 ha with rfl | ha
  ·exact .inr ⟨by rw [hj]; simp,by rw [hj]; exact hd,by rw [hj]; exact hk⟩
  ·exact h.uh ha
 ·intro i s hs
  by_cases hi:i < S.length
  ·rw [List.getElem?_append_left hi] at hs; exact h.s i s hs
  ·rw [List.getElem?_append_right (by omega)] at hs
   have xf:i - S.length=0:=by
    have:=(List.getElem?_eq_some_iff.1 hs).1
    simp at this; omega
   have VH:i=S.length:=by omega
   rw [xf] at hs
   cases hs
   rw [VH]
   exact Mg hk fun t ht=>by rw [iT] at ht; cases ht
 ·rw [List.map_cons,List.nodup_cons]
  refine ⟨fun hm=>?_,h.d⟩
  obtain ⟨a,ha,he⟩:=List.mem_map.1 hm
  have:=bp a ha
  omega
theorem mj {l:LO} {m:Nat} {base:Fr} {r r0:NV} (hh:l6 l m base=true) (ha:di r0 base) (ho:∀ t,(∀ j,j < m→bw l j≠some t)→r t=r0 t):di r base:=by
 intro t v hl
 have hm:∃ u,(t,u)∈base:=by
  clear hh ha
  induction base with
  | nil=>cases hl
  | cons p base ih=>
   obtain ⟨a,u⟩:=p
   unfold look at hl
   cases hb:Nat.beq t a with
   | true=>exact ⟨u,by rw [Nat.eq_of_beq_eq_true hb]; simp⟩
   | false=>rw [hb] at hl; obtain ⟨u',h⟩:=ih hl; exact ⟨u',by simp [h]⟩
 obtain ⟨u,hu⟩:=hm
 rw [ho t fun j hj=>NZ hh (t,u) hu j hj]
 exact ha t v hl
section
variable {P:Program} {l:LO} {mt:Nat} {S:List fv} {sl:LQ} {ms:MM} {base fr:Fr} {r r0:NV} {w w0:World} {g:Nat→List Nat} {i:Nat} {A:LN} {U:LL}
theorem qp (hR:iv Z l S sl ms) (hA:A=(kp l U mt).getD i []) (hv:fI A none sl base fr) (hb:di r base) {S':List fv} (hO:∀ j∈(cc l).getD i [],Old l (S++S') j r):di r fr:=by
 refine hv.sound hb ?_ (fun _ _ _ h=>nomatch h)
 intro p hp hm
 have hi:=(qo (by rw [← hA]; exact oy.1 hm)).1
 exact hR.zJ hp fun j hj _=>hO j (hj.elim (fun e=>e ▸ hi) fun hj=>hR.t i j p.1 hj hi)
theorem P3 {H:LN} {o:Oper} {u:Value} (hh:l6 l mt base=true) (ha:di r0 base) (hR:iv Z l S sl ms) (ho:l[S.length]? = some o) (hg:o.guard=none) (hA:A=(kp l U mt).getD S.length []) (hv:fI A none sl base fr)
  (h:∀ r,di r fr→∀ w,ay H w0 w→(execOp (ev r) o).run P w = .ok (.value u) w):iH P l mt (S++[sV u]) U r0 w0 H S.length:=
 iH.val ho (by simp) hg fun g r w hC hO hn kn=>h r (qp hR hA hv (mj hh ha kn) hO) w hC
end
end Go.Dk
namespace Go.Dk
open Go Go.Li
section
variable {R S:Type} {P:Program} {cx:Cx R} {K:dq R S} {l tail:LO} {base fr:Fr} {w:World} {Z:Nat→Prop} {U:LL}
def jd (P:Program) (Z:Nat→Prop) (l:LO) (mt:Nat) (U:LL) (r0:NV) (w0:World) (H:LN) (i:Nat) (sl:LQ) (ms:MM):Prop:=
 ∃ S:List fv,S.length=i∧iv Z l S sl ms∧∀ j,j < i→iH P l mt S U r0 w0 H j
def ui (B:Bs) (Z:Nat→Prop) (hd Γ:QE) (H:LN) (w:World):Prop:=∃ F Hd,(SA Z w hd [] Hd∧(∀ b∈Hd,b∈H∧b < w.heap.size)∧(∀ b∈H,b < w.heap.size)∧Hd.Nodup)∧SA Z w Γ [] F∧Gd B Z (H++F) w
theorem ui.stay {B:Bs} {Γ:QE} {F H:LN} {w w':World} (hS:SA Z w Γ [] F) (hG:Gd B Z (H++F) w) (hC:ay H w w'):SA Z w' Γ [] F:=
 hS.fk hC (fun b hb=>hG.apart b (List.mem_append_left _ hb)) (fun _ _=>List.not_mem_nil) (fun b hb hf=>(List.nodup_append.1 hG.nd).2.2 b hb b hf rfl)
def Fin (P:Program) (cx:Cx R) (K:dq R S) (l l0:LO) (mt:Nat) (U:LL) (hd:QE) (_id:Nat) (base:Fr) (i:Nat) (sl:LQ) (ms:MM) (Γ:QE) (m:Option (Out S R)):Prop:=
 ∀ B o,m=some o→∀ r0 w0 H Z,di r0 base→ui B Z hd Γ H w0→jd P Z l mt U r0 w0 H i sl ms→mx P cx.n l0 (lu P cx B K o) r0 w0
theorem jd.re {mt:Nat} {r0:NV} {w0:World} {H:LN} {i k j:Nat} {sl:LQ} {ms:MM} (h:jd P Z l mt U r0 w0 H k sl ms) (hj:j∈(cc l).getD i []):jd P Z l mt U r0 w0 H k (P1 j i sl) ms:=by
 obtain ⟨S,h1,h2,h3⟩:=h
 exact ⟨S,h1,h2.re hj,h3⟩
structure xJ (l:LO) (mt:Nat) (U:LL) (as:LL) (ops:LO) (i:Nat):Prop where
 a:as=(kp l U mt).drop i
 o:ops=(l.take mt).drop i
 le:i≤mt
structure VI (l:LO) (mt:Nat) (U:LL) (A:LN) (op:Op) (ty:TI) (as:LL) (ops:LO) (i:Nat):Prop where
 A:A=(kp l U mt).getD i []
 o:∃ pos ai,l[i]? = some ⟨none,op,ty,pos,ai,none⟩
 n:xJ l mt U as ops (i+1)
theorem xJ.Mj {mt:Nat} {A:LN} {as:LL} {op:Op} {ty:TI} {pos:String} {ai:Array Edge} {ops:LO} {i:Nat} (h:xJ l mt U (A :: as) (⟨none,op,ty,pos,ai,none⟩ :: ops) i):VI l mt U A op ty as ops i:=by
 obtain ⟨h1,h2,h3⟩:=h
 have e1:(kp l U mt)[i]? = some A:=by
  have:=congrArg (fun x=>x[0]?) h1
  simpa using this.symm
 have e2:(l.take mt)[i]? = some ⟨none,op,ty,pos,ai,none⟩:=by
  have:=congrArg (fun x=>x[0]?) h2
  simpa using this.symm
 have t1:as=(kp l U mt).drop (i+1):=by
  have:=congrArg List.tail h1
  simpa [List.tail_drop] using this
 have t2:ops=(l.take mt).drop (i+1):=by
  have:=congrArg List.tail h2
  simpa [List.tail_drop] using this
 have hi:i < mt:=by
  have:=(List.getElem?_eq_some_iff.1 e1).1
  simpa [kp] using this
 rw [List.getElem?_take,if_pos hi] at e2
 exact ⟨by rw [List.getD_eq_getElem?_getD,e1]; rfl,⟨pos,ai,e2⟩,t1,t2,hi⟩
structure qt (l:LO) (mt:Nat) (U:LL) (A:LN) (op:Op) (d:Nat) (ty:TI) (as:LL) (ops:LO) (i:Nat):Prop where
 A:A=(kp l U mt).getD i []
 o:∃ pos ai,l[i]? = some ⟨some d,op,ty,pos,ai,none⟩
 n:xJ l mt U as ops (i+1)
theorem xJ.cons {mt:Nat} {A:LN} {as:LL} {op:Op} {d:Nat} {ty:TI} {pos:String} {ai:Array Edge} {ops:LO} {i:Nat} (h:xJ l mt U (A :: as) (⟨some d,op,ty,pos,ai,none⟩ :: ops) i):qt l mt U A op d ty as ops i:=by
 obtain ⟨h1,h2,h3⟩:=h
 have e1:(kp l U mt)[i]? = some A:=by
  have:=congrArg (fun x=>x[0]?) h1
  simpa using this.symm
 have e2:(l.take mt)[i]? = some ⟨some d,op,ty,pos,ai,none⟩:=by
  have:=congrArg (fun x=>x[0]?) h2
  simpa using this.symm
 have t1:as=(kp l U mt).drop (i+1):=by
  have:=congrArg List.tail h1
  simpa [List.tail_drop] using this
 have t2:ops=(l.take mt).drop (i+1):=by
  have:=congrArg List.tail h2
  simpa [List.tail_drop] using this
 have hi:i < mt:=by
  have:=(List.getElem?_eq_some_iff.1 e1).1
  simpa [kp] using this
 rw [List.getElem?_take,if_pos hi] at e2
 exact ⟨by rw [List.getD_eq_getElem?_getD,e1]; rfl,⟨pos,ai,e2⟩,t1,t2,hi⟩
theorem xJ.next {mt:Nat} {A:LN} {as:LL} {o:Oper} {ops:LO} {i:Nat} (h:xJ l mt U (A :: as) (o :: ops) i):A=(kp l U mt).getD i []∧l[i]? = some o∧xJ l mt U as ops (i+1):=by
 obtain ⟨h1,h2,h3⟩:=h
 have e1:(kp l U mt)[i]? = some A:=by
  have:=congrArg (fun x=>x[0]?) h1
  simpa using this.symm
 have e2:(l.take mt)[i]? = some o:=by
  have:=congrArg (fun x=>x[0]?) h2
  simpa using this.symm
 have t1:as=(kp l U mt).drop (i+1):=by
  have:=congrArg List.tail h1
  simpa [List.tail_drop] using this
 have t2:ops=(l.take mt).drop (i+1):=by
  have:=congrArg List.tail h2
  simpa [List.tail_drop] using this
 have hi:i < mt:=by
  have:=(List.getElem?_eq_some_iff.1 e1).1
  simpa [kp] using this
 rw [List.getElem?_take,if_pos hi] at e2
 exact ⟨by rw [List.getD_eq_getElem?_getD,e1]; rfl,e2,t1,t2,hi⟩
theorem jd.swap {mt:Nat} {i:Nat} {p q:Nat×Nat×Value} {sl:LQ} {ms:MM} {r0:NV} {w0:World} {H:LN} (h:jd P Z l mt U r0 w0 H i (p :: q :: sl) ms):jd P Z l mt U r0 w0 H i (q :: p :: sl) ms:=by
 obtain ⟨S,h1,h2,h3⟩:=h
 refine ⟨S,h1,⟨fun a ha=>h2.v a ?_,h2.m,h2.s,h2.d,h2.t⟩,h3⟩
 rcases List.mem_cons.1 ha with rfl | ha
 ·simp
 ·rcases List.mem_cons.1 ha with rfl | ha
  ·simp
  ·exact List.mem_cons_of_mem _ (List.mem_cons_of_mem _ ha)
theorem jd.skip {mt:Nat} {A:LN} {j d:Nat} {p:Bool} {dst:Option Nat} {op:Op} {ty:TI} {pos:String} {ai:Array Edge} {i:Nat} {sl:LQ} {ms:MM} {r0:NV} {w0:World} {H:LN} (h:jd P Z l mt U r0 w0 H i sl ms) (hA:A=(kp l U mt).getD i []) (ho:l[i]? = some ⟨dst,op,ty,pos,ai,some (j,p)⟩)
  (hd:bw l j=some d) (hb:It sl j d (!p)=true) (hj:gp j A=true):jd P Z l mt U r0 w0 H (i+1) sl ms:=by
 obtain ⟨S',hl,hR,hO⟩:=h
 subst hl
 have s9:j∈(cc l).getD S'.length []:=(qo (by rw [← hA]; exact oy.1 hj)).1
 have hm:=GR hb
 have hR2:iv Z l (S'++[⟨false,fun _ _ _ _=>True⟩]) sl ms:=by
  refine ⟨fun q hq=>hR.Ml hq,fun a ha=>hR.uh ha,fun i s hs=>?_,hR.d,hR.t⟩
  by_cases hi:i < S'.length
  ·rw [List.getElem?_append_left hi] at hs; exact hR.s i s hs
  ·rw [List.getElem?_append_right (by omega)] at hs
   have xf:i - S'.length=0:=by
    have:=(List.getElem?_eq_some_iff.1 hs).1
    simp at this; omega
   rw [xf] at hs
   cases hs
   exact fun _ _ _ _ _ _ _ _ _ _ _ _=>trivial
 refine ⟨S'++[⟨false,fun _ _ _ _=>True⟩],by simp,hR2,fun k hk=>?_⟩
 by_cases h2:k < S'.length
 ·exact iH.more (hO k h2) h2
 ·obtain rfl:k=S'.length:=by omega
  intro o s ch hs g r w hC hV lj hn kn p4 hf
  rw [ho] at ch
  obtain rfl:=Option.some.inj ch
  rw [List.getElem?_append_right (Nat.le_refl _),Nat.sub_self] at hs
  obtain rfl:_=s:=Option.some.inj hs
  rw [if_neg (by simp)]
  have hr:r d = .bool (!p):=hR.zJ (S2:=[⟨false,fun _ _ _ _=>True⟩]) hm fun q hq _=>lj q (hq.elim (fun e=>e ▸ s9) fun e=>hR.t _ _ _ e s9)
  unfold Region.wanted
  dsimp only
  rw [Ma hd,hr]
  cases p <;> rfl
theorem jd.val {mt:Nat} {A:LN} {op:Op} {d:Nat} {ty:TI} {as:LL} {ops:LO} {i:Nat} {sl:LQ} {ms:MM} {r0:NV} {w0:World} {H:LN} {u:Value} (h:jd P Z l mt U r0 w0 H i sl ms) (hh:l6 l mt base=true) (ha:di r0 base) (h1:qt l mt U A op d ty as ops i)
  (hv:fI A none sl base fr) (hq:∀ r,di r fr→∀ pos ai g w,ay H w0 w→(execOp (ev r) ⟨some d,op,ty,pos,ai,g⟩).run P w = .ok (.value u) w):jd P Z l mt U r0 w0 H (i+1) ((i,d,u) :: sl) ms:=by
 obtain ⟨S',hl,hR,hO⟩:=h
 subst hl
 obtain ⟨hA,⟨pos,ai,ho⟩,_⟩:=h1
 refine ⟨S'++[sV u],by simp,hR.val (by unfold bw; rw [ho]; rfl),fun j hj=>?_⟩
 by_cases h2:j < S'.length
 ·exact iH.more (hO j h2) h2
 ·obtain rfl:j=S'.length:=by omega
  exact P3 hh ha hR ho rfl hA hv fun r hr=>hq r hr _ _ _
def Mn (P:Program) (Z:Nat→Prop) (l:LO) (mt:Nat) (U:LL) (r0:NV) (w0:World) (H:LN) (i:Nat) (sl:LQ) (ms:MM) (a:gx):Prop:=
 ∃ S:List fv,S.length=i∧iv Z l S sl ms∧(∀ j,j < i→iH P l mt S U r0 w0 H j)∧
  ∀ V:List Nat→World→(Nat→Value)→Value→Prop,(∀ f w r x,MV Z a f w r x→∃ f',(∀ b∈f',b∈f)∧V f' w r x)→iH P l mt (S++[⟨true,V⟩]) U r0 w0 H i
theorem HL.front {Δ Γ:QE} {Fd F:LN} (h:HL Z w Δ Fd) (hs:SA Z w Γ [] F):SA Z w (Δ++Γ) [] (Fd++F):=by
 induction h with
 | nil=>exact hs
 | own h _ ih=>rw [List.append_assoc]; exact SA.cons ih h
 | fact h _ ih=>exact SA.fact ih h
def Cp (A:LN) (g:Nat→List Nat):List gx→List Nat
 | []=>[]
 | a :: l=>bif gp a.j A then g a.j++Cp A g l else Cp A g l
def HV (Z:Nat→Prop) (w:World) (Δ:QE) (B:LN):Prop:=∃ Vo Vr,(∀ b∈Vo++Vr,b∈B)∧(∀ b∈Vr,b < w.heap.size)∧HL (fun b=>Z b∨b∈Vr) w Δ Vo
theorem HV.front {Δ Γ:QE} {B F:LN} (h:HV Z w Δ B) (hs:SA Z w Γ [] F):∃ G:List Nat,(∀ b∈G,b∈B++F∧b < w.heap.size)∧∃ F':List Nat,(∀ b∈F',b∈G)∧SA (fun b=>Z b∨b∈G) w (Δ++Γ) [] F':=by
 obtain ⟨Vo,Vr,h1,h2,h3⟩:=h
 have hS:=h3.front (hs.mono (Z':=fun b=>Z b∨b∈Vr) (fun _ h=>.inl h) fun _ h=>h)
 refine ⟨Vr++(Vo++F),fun b hb=>?_,Vo++F,fun b hb=>List.mem_append_right _ hb,hS.mono (fun b h=>h.imp id fun h=>List.mem_append_left _ h) fun _ h=>h⟩
 rcases List.mem_append.1 hb with hb | hb
 ·exact ⟨List.mem_append_left _ (h1 b (List.mem_append_right _ hb)),h2 b hb⟩
 ·refine ⟨?_,hS.lt b hb⟩
  rcases List.mem_append.1 hb with hb | hb
  ·exact List.mem_append_left _ (h1 b (List.mem_append_left _ hb))
  ·exact List.mem_append_right _ hb
theorem HV.app {Δ Δ':QE} {f B:LN} (h:HN Z w Δ f) (k:HV Z w Δ' B):HV Z w (Δ++Δ') (f++B):=by
 obtain ⟨Fo,Fr,rfl,h1,h2⟩:=h.all
 obtain ⟨Vo,Vr,k1,k2,k3⟩:=k
 refine ⟨Fo++Vo,Fr++Vr,fun b hb=>?_,fun b hb=>(List.mem_append.1 hb).elim (h1 b) (k2 b),(h2.mono fun b h=>h.imp id fun h=>List.mem_append_left _ h).app (k3.mono fun b h=>h.imp id fun h=>List.mem_append_right _ h)⟩
 have:=fun h=>k1 b h
 simp only [List.mem_append] at hb this ⊢
 rcases hb with (h | h) | h | h
 ·exact .inl (.inl h)
 ·exact .inr (this (.inl h))
 ·exact .inl (.inr h)
 ·exact .inr (this (.inr h))
theorem Zk {A:LN} {g:Nat→List Nat} {r:NV}:∀ {ms:MM},nz ms→qb A ms=true→(∀ a∈ms,gp a.j A=true→MV Z a (g a.j) w r (r a.d))→
  ∃ x:nv ms,(∀ p∈nk A ms x,r p.1=p.2)∧HV Z w (sf A ms x) (Cp A g ms):=by
 intro ms
 induction ms with
 | nil=>intro _ _ _; exact ⟨(),fun p hp=>absurd hp List.not_mem_nil,[],[],fun b (h:b∈[])=>absurd h List.not_mem_nil,fun b (h:b∈[])=>absurd h List.not_mem_nil,.nil⟩
 | cons a ms ih=>
  intro hi iT h
  unfold qb at iT
  rw [Bool.and_eq_true] at iT
  cases hi with
  | cons h1 h2=>
   obtain ⟨x,hx,hl⟩:=ih h2 iT.2 fun b hb=>h b (List.mem_cons_of_mem _ hb)
   cases hb:gp a.j A with
   | false=>
    obtain ⟨v⟩:=h1.ne
    refine ⟨(v,x),?_,?_⟩
    ·simp only [nk,hb,cond_false]; exact hx
    ·simp only [sf,Cp,hb,cond_false]; exact hl
   | true=>
    obtain ⟨v,e1,e2,_⟩:=h a (by simp) hb
    have es:xI a r=Ck a (mF ms x):=by
     have h3:=iT.1
     rw [hb,cond_true,List.all_eq_true] at h3
     refine Di fun t ht=>?_
     have h4:=h3 t ht
     cases hj:pr t ms with
     | none=>rw [hj] at h4; cases h4
     | some j=>rw [hj] at h4; unfold zI; rw [Iq hj h4 hx]
    rw [es] at e1 e2
    refine ⟨(v,x),?_,?_⟩
    ·simp only [nk,hb,cond_true]
     intro p hp
     rcases List.mem_cons.1 hp with rfl | hp
     ·exact e1
     ·exact hx p hp
    ·simp only [sf,Cp,hb,cond_true]; exact HV.app e2 hl
theorem P4 {t j:Nat}:∀ {ms:MM},pr t ms=some j→∃ a∈ms,a.j=j∧a.d=t:=by
 intro ms
 induction ms with
 | nil=>intro h; cases h
 | cons a l ih=>
  intro h
  unfold pr at h
  cases hb:Nat.beq t a.d with
  | true=>rw [hb] at h; cases h; exact ⟨a,by simp,rfl,(Nat.eq_of_beq_eq_true hb).symm⟩
  | false=>rw [hb] at h; obtain ⟨b,h1,h2⟩:=ih h; exact ⟨b,List.mem_cons_of_mem _ h1,h2⟩
theorem Dj {mt i:Nat} {A:LN} (hA:A=(kp l U mt).getD i []) {S':List fv} {sl:LQ} {ms:MM} {t:Nat} (hR:iv Z l S' sl ms) (hj:∃ j,pr t ms=some j∧gp j A=true):∃ j∈(cc l).getD i [],bw l j=some t:=by
 obtain ⟨j,h1,h2⟩:=hj
 obtain ⟨a,ha,rfl,rfl⟩:=P4 h1
 exact hR.slot ha (qo (by rw [← hA]; exact oy.1 h2)).1
theorem zJ {mt:Nat} {A:LN} {S' S2:List fv} {sl:LQ} {ms:MM} {g:Nat→List Nat} {r:NV} (hR:iv Z l S' sl ms) (hA:A=(kp l U mt).getD S'.length []) (hi:nz ms) (iT:qb A ms=true) (hn:∀ j,rq l U mt S'.length j=true→vJ l (S'++S2) j g r w) :
  ∃ x:nv ms,(∀ p∈nk A ms x,r p.1=p.2)∧HV Z w (sf A ms x) (Cp A g ms):=
 Zk hi iT fun a hm hb=>by
  exact hR.Iv hm (hn a.j (qo (by rw [← hA]; exact oy.1 hb)).2)
theorem jd.mem {mt:Nat} {A:LN} {op:Op} {d:Nat} {ty:TI} {as:LL} {ops:LO} {i:Nat} {sl:LQ} {ms:MM} {r0:NV} {w0:World} {H:LN} {a:gx} (h:jd P Z l mt U r0 w0 H i sl ms) (h1:qt l mt U A op d ty as ops i) (haj:a.j=i) (had:a.d=d)
  (iT:∀ S',iv Z l S' sl ms→∀ t∈a.src,∃ j∈(cc l).getD i [],bw l j=some t)
  (hq:∀ S' S2,S'.length=i→iv Z l S' sl ms→∀ (g:Nat→List Nat) (r:NV) (w:World),ay H w0 w→(∀ j∈(cc l).getD S'.length [],Old l (S'++S2) j r)→(∀ j,rq l U mt S'.length j=true→vJ l (S'++S2) j g r w)→(∀ t,(∀ j,j < mt→bw l j≠some t)→r t=r0 t)→∀ pos ai,
   fw P ⟨some d,op,ty,pos,ai,none⟩ r w fun v w'=>ay [] w w'∧∃ f,(∀ b∈f,w.heap.size≤b∧b < w'.heap.size)∧MV Z a f w' r v):jd P Z l mt U r0 w0 H (i+1) sl (a :: ms):=by
 obtain ⟨S',hl,hR,hO⟩:=h
 subst hl
 subst had
 obtain ⟨hA,⟨pos,ai,ho⟩,_⟩:=h1
 refine ⟨S'++[⟨true,MV Z a⟩],by simp,hR.mem haj (by unfold bw; rw [ho]; rfl) (iT S' hR),fun j hj=>?_⟩
 by_cases h2:j < S'.length
 ·exact iH.more (hO j h2) h2
 ·obtain rfl:j=S'.length:=by omega
  exact iH.VJ (V:=MV Z a) ho (by simp) rfl fun g r w hC hO hn kn=>hq S' _ rfl hR g r w hC hO hn kn pos ai
theorem wH.sub {ms B7:MM} {a:gx} {t:Nat} (h:wH ms t a B7):a∈ms∧a.d=t∧(∀ b∈B7,b∈ms)∧(B7.map (·.j)).Sublist (ms.map (·.j)):=by
 induction h with
 | here=>exact ⟨by simp,rfl,fun b hb=>List.mem_cons_of_mem _ hb,by simp⟩
 | there _ ih=>
  obtain ⟨h1,h2,h3,h4⟩:=ih
  refine ⟨List.mem_cons_of_mem _ h1,h2,fun b hb=>?_,by simpa using h4⟩
  rcases List.mem_cons.1 hb with rfl | hb
  ·simp
  ·exact List.mem_cons_of_mem _ (h3 b hb)
theorem iv.sub {S':List fv} {sl:LQ} {ms B7:MM} (h:iv Z l S' sl ms) (hm:∀ b∈B7,b∈ms) (hn:(B7.map (·.j)).Sublist (ms.map (·.j))):iv Z l S' sl B7:=⟨h.v,fun a ha=>h.m a (hm a ha),h.s,h.d.sublist hn,h.t⟩
theorem T5 {mt:Nat} {t e et:TI} {E:an Int} {z0:Int} {bt t1 t2 j2 d2 i d:Nat} {k:IntKind} {y:Int} {xs:List Int} {a1:gx} {ms po Iu:MM} {sl:LQ} {A:LN} {ty:TI} {as:LL} {ops:LO} {r0:NV} {w0:World} {H:LN} (hz:ux P t Int e E z0 bt) (h1:wH ms t1 a1 po) (h2:wH po t2 ⟨j2,d2,[],Nat,fun _ b=>.slice (some ⟨b,0,none⟩) 1 1,fun _ b=>[.row b [.int k y] et]⟩ Iu) (h3:∀ u v,a1.ps u v=[.own (aL e (aN k)) (a1.rt u v) xs]) (h4:gp a1.j A=true) (h5:gp j2 A=true) (h6:U.getD i []=[a1.j])
  (hf:fits bt (xs.length+1)=some ()) (Ij:qt l mt U A (.call ⟨.builtin .append,#[.tmp t1,.tmp t2],#[t,t]⟩) d ty as ops i) (h:jd P Z l mt U r0 w0 H i sl ms) :
  jd P Z l mt U r0 w0 H (i+1) sl (⟨i,d,[],Value,fun _ v=>v,fun _ v=>[.own (aL e (aN k)) v (xs++[y])]⟩ :: po):=by
 obtain ⟨S',hl,hR,hO⟩:=h
 subst hl
 obtain ⟨hA,⟨pos,ai,ho⟩,_⟩:=Ij
 obtain ⟨b1,b2⟩:=p3 hf
 obtain ⟨q1,hE,i',z,q3,q4,q5,q6,q7,q8⟩:=hz.h
 obtain ⟨m1,m2,m3,m4⟩:=h1.sub
 obtain ⟨n1,n2,_,_⟩:=h2.sub
 refine ⟨S'++[⟨true,MV Z ⟨S'.length,d,[],Value,fun _ v=>v,fun _ v=>[.own (aL e (aN k)) v (xs++[y])]⟩⟩],by simp,(hR.sub m3 m4).mem rfl (by unfold bw; rw [ho]; rfl) (by intro t h; cases h),fun j hj=>?_⟩
 by_cases bp:j < S'.length
 ·exact iH.more (hO j bp) bp
 ·obtain rfl:j=S'.length:=by omega
  intro o' s' ch eh g r w hC GU lj hn kn Ah qk
  rw [ho] at ch
  cases ch
  rw [List.getElem?_append_right (Nat.le_refl _),Nat.sub_self] at eh
  cases eh
  rw [if_pos rfl]
  refine ⟨rfl,?_⟩
  have get:∀ a∈ms,gp a.j A=true→MV Z a (g a.j) w r (r a.d):=fun a hm hb=>by
   exact hR.Iv hm (hn a.j (qo (by rw [← hA]; exact oy.1 hb)).2)
  obtain ⟨v1,c1,c2,c3⟩:=get a1 m1 h4
  obtain ⟨v2,f1,f2,f3⟩:=get _ (m3 _ n1) h5
  rw [h3,← c1,m2] at c2
  rw [m2] at c1
  simp only at f1 f2
  subst n2
  replace c2:=c2.own rfl
  replace f2:=f2.own rfl
  generalize GJ:g a1.j=G1 at c2 c3
  generalize ox:g j2=G2 at f2 f3
  cases c2 with
  | fact h _=>exact h.elim
  | @own _ ff F0 _ P5 Bi=>
   cases Bi
   rw [List.append_nil] at c3
   cases f2 with
   | fact h _=>exact h.elim
   | @own _ gg F0 _ bj Bi=>
    cases Bi
    obtain ⟨rfl,bj⟩:=bj
    have hb:qu g (U.getD S'.length [])=ff:=by rw [h6]; simp [qu,GJ]
    refine qc (fw.wG (E:=aN k) (F:=ff) q1 q3 q4 q5 rfl q6 (s:=.tmp t1) (x:=.tmp d2) rfl ⟨P5,c3⟩ (fun b hb=>hb) f1 bj ⟨rfl,rfl⟩ (by rw [q7]; exact b1) b2) ?_
    rintro v w' ⟨Iw,f',xg,hV⟩
    rw [hb]
    refine ⟨Iw,f',xg,v,rfl,?_,hV.2⟩
    have:=HL.own (Z:=fun _=>False) (e:=.own (aL e (aN k)) v (xs++[y])) (f:=f') hV.1 .nil
    exact .inl (by simpa using this)
theorem fw.Dh {α:Type} {E:an α} {F f k:LN} {t e:TI} {s x:OO} {i:TypeInfo} {z:Value} {sv yv:Value} {xs ys:List α} {r:NV} {w:World} {d:Option Nat} {ty:TI} {pos:String} {ai:Array Edge} (N0:∀ {h cs x f},E.rep h cs x f→f=[])
  (ht:P.underlying t=some (.slice e)) (hi:P.info? e=some i) (hz:i.zero=some z) (hs:i.size=1) (hE:E.size=1) (wj:z.oneCell'=true)
  (xh:ev r s=sv) (hO:F6 (aL e E) xs f w sv) (hF:∀ b∈f,b∈F) (hx:ev r x=yv) (hy:(bH E).rep w.heap [yv] ys k)
  (hb:(xs.length+ys.length) * i.bytes≤140737488355328) (zK:xs.length+ys.length≤maxLen) :
  fw P ⟨d,.call ⟨.builtin .append,#[s,x],#[t,t]⟩,ty,pos,ai,none⟩ r w fun v w'=>ay F w w'∧∃ f',(∀ b∈f',(b∈F∨w.heap.size≤b)∧b < w'.heap.size)∧F6 (aL e E) (xs++ys) f' w' v:=by
 have r7:=GV hy
 rcases Nat.eq_zero_or_pos ys.length with DN | DN
 ·obtain rfl:ys=[]:=List.eq_nil_of_length_eq_zero DN
  obtain ⟨b0,c0,Iy⟩:=yj hy
  obtain ⟨base,cap,hv,hr⟩:=hO.1
  obtain rfl:sv = .slice base xs.length cap:=by simpa using hv
  have P6:xs.length≤cap:=by
   rcases hr with ⟨_,rfl,rfl,_⟩ | ⟨_,_,_,_,_,_,h,_⟩
   ·simp
   ·exact h
  have nm:=As (P:=P) (w:=w) (ty:=ty) ht hi (b:=base) (a:=b0) (c:=c0) P6
  subst Iy
  have Zm:(execOp (ev r) ⟨d,.call ⟨.builtin .append,#[s,x],#[t,t]⟩,ty,pos,ai,none⟩).run P w = .ok (.value (.slice base xs.length cap)) w:=by
   simp only [execOp,resolve,invoke,builtin,Sem.run_bind,Sem.run_pure,Result.andThen_ok,List.map_toArray,List.map_cons,List.map_nil,xh,hx,List.length_nil,nm]
  unfold fw
  rw [Zm]
  exact ⟨ay.refl _ _,f,fun b hb=>⟨.inl (hF b hb),an.lt _ hO.1 b hb⟩,by rw [List.append_nil]; exact hO⟩
 ·rcases r7 with rfl | ⟨a,c,news,g1,Iy,Bj,ei,_⟩
  ·simp at DN
  ·obtain ⟨rfl,_⟩:=Cq (h':=w.heap) N0 ei
   obtain ⟨v,w',f',h,hC,HF,ed,dx⟩:=p5 (d:=d) (ty:=ty) (pos:=pos) (ai:=ai) (g:=none) ht hi hz (by rw [hs,hE]) (by rw [cells_one wj,hE]; rfl) xh hO.1 hO.2 (hx.trans Iy) Bj ei (fun _ h=>nomatch h) DN hb zK
   unfold fw
   rw [h]
   refine ⟨hC.mono hF,f',fun b hb=>⟨?_,an.lt _ HF b hb⟩,HF,dx List.nodup_nil⟩
   rcases ed b hb with h | h | h
   ·exact .inl (hF b h)
   ·cases h
   ·exact .inr h
theorem wX {t:TI} {x y:OO} {i:TypeInfo} {b off:Nat} {cs us:LV} {e:TI} {r:NV} {d:Option Nat} {ty:TI} {pos:String} {ai:Array Edge} {gg:Option (Nat×Bool)}
  (hi:P.info? t=some i) (hs:us.length=i.size) (bj:Row w b cs e) (hl:off+us.length≤cs.length) (hx:ev r x = .pointer (some ⟨b,off,none⟩)) (hy:(ev r y).cells.toList=us) (hu:∀ u∈us,u.oneCell'=true) :
  (execOp (ev r) ⟨d,.store t x y,ty,pos,ai,gg⟩).run P w = .ok .skip (w.setRow b (cs.take off++us++cs.drop (off+us.length)).toArray):=by
 have h:=run_storeCells_at P b off e us 0 cs.toArray w bj (by simpa using hl) hu
 simp only [Nat.add_zero] at h
 have uV:(ev r y).cells=us.toArray:=by rw [← hy]
 simp only [execOp,Instr.storeAt,Instr.sureAddr,hx,storeVar]
 simp [uV,sizeOf,typeInfo,hi,hs,h]
theorem T6 {mt:Nat} {t e:TI} {t1 j1 n i:Nat} {y:OO} {u:Value} {us cs ds:LV} {ms po:MM} {sl:LQ} {A:LN} {ty:TI} {as:LL} {ops:LO} {r0:NV} {w0:World} {H:LN} {Γ:QE} {F:LN} (hh:l6 l mt base=true) (ha:di r0 base) (ht:xd P t n)
  (h1:wH ms t1 ⟨j1,t1,[],Nat,fun _ b=>.pointer (some ⟨b,0,none⟩),fun _ b=>[.row b cs e]⟩ po) (hv:fI A none sl base fr) (hy:cb fr y=some u) (hc:s6 Γ u us) (xc:us.length=n) (hs:u5 us 0 cs ds) (ho:wx Γ us) (h4:gp j1 A=true) (h6:U.getD i []=[j1])
  (hS:∀ w,ay H w0 w→SA Z w Γ [] F) (Ij:VI l mt U A (.store t (.tmp t1) y) ty as ops i) (h:jd P Z l mt U r0 w0 H i sl ms) :
  jd P Z l mt U r0 w0 H (i+1) sl (⟨i,t1,[],Nat,fun _ b=>.pointer (some ⟨b,0,none⟩),fun _ b=>[.row b ds e]⟩ :: po):=by
 obtain ⟨S',hl,hR,hO⟩:=h
 subst hl
 obtain ⟨hA,⟨pos,ai,SK⟩,_⟩:=Ij
 obtain ⟨ti,q1,q2⟩:=ht.h
 obtain ⟨m1,_,m3,m4⟩:=h1.sub
 have F7:=qo (by rw [← hA]; exact oy.1 h4)
 refine ⟨S'++[⟨true,NU Z ⟨S'.length,t1,[],Nat,fun _ b=>.pointer (some ⟨b,0,none⟩),fun _ b=>[.row b ds e]⟩⟩],by simp,(hR.sub m3 m4).abQ (b:=⟨S'.length,t1,[],Nat,fun _ b=>.pointer (some ⟨b,0,none⟩),fun _ b=>[.row b ds e]⟩) rfl (by unfold bw; rw [SK]; rfl) (hR.slot m1 F7.1) rfl,fun j hj=>?_⟩
 by_cases bp:j < S'.length
 ·exact iH.more (hO j bp) bp
 ·obtain rfl:j=S'.length:=by omega
  intro o' s' ch eh g r w hC GU lj hn kn Ah qk
  rw [SK] at ch
  cases ch
  rw [List.getElem?_append_right (Nat.le_refl _),Nat.sub_self] at eh
  cases eh
  rw [if_pos rfl]
  refine ⟨rfl,?_⟩
  obtain ⟨b,c1,c2,c3⟩:=hR.Iv m1 (hn j1 F7.2)
  simp only at c1 c2
  replace c2:=c2.own rfl
  generalize GJ:g j1=G1 at c2 c3
  cases c2 with
  | fact h _=>exact h.elim
  | @own _ ff F0 _ P5 Bi=>
   cases Bi
   obtain ⟨rfl,bj⟩:=P5
   have hb:qu g (U.getD S'.length [])=[b]:=by rw [h6]; simp [qu,GJ]
   have hr:=qp hR hA hv (mj hh ha kn) lj
   obtain ⟨e1,e2⟩:=hs.eq
   have Io:=hS w hC
   have nm:=wX (P:=P) (d:=none) (ty:=ty) (pos:=pos) (ai:=ai) (gg:=none) q1 (by rw [xc,q2]) bj e1 (x:=.tmp t1) c1 (y:=y) (by rw [bI hr hy]; exact hc.eq Io) (ho.one Io)
   unfold fw
   rw [nm,hb]
   have vH:=setRow_heap w b cs.toArray (cs.take 0++us++cs.drop (0+us.length)).toArray e _ bj
   have abR:b < w.heap.size:=bj.lt
   refine ⟨⟨rfl,rfl,rfl,Nat.le_refl _,by simp,fun j _ hj=>setRow_other w b j _ fun h=>hj (by simp [h])⟩,[b],fun b' cu=>?_,b,c1,?_,by simp⟩
   ·rw [List.mem_singleton.1 cu]
    exact ⟨.inl (by simp),by simpa using abR⟩
   ·refine .inl (HL.own (f:=[b]) ⟨rfl,?_⟩ .nil)
    rw [e2]
    exact vH
theorem T8 {mt:Nat} {t i d:Nat} {cs:LV} {sl:LQ} {ms:MM} {A:LN} {ty:TI} {as:LL} {ops:LO} {r0:NV} {w0:World} {H:LN} (hz:Ch P t cs) (h1:qt l mt U A (.alloc t) d ty as ops i) (h:jd P Z l mt U r0 w0 H i sl ms) :
   jd P Z l mt U r0 w0 H (i+1) sl (⟨i,d,[],Nat,fun _ b=>.pointer (some ⟨b,0,none⟩),fun _ b=>[.row b cs t]⟩ :: ms):=by
 obtain ⟨i',z,t1,t2,t3⟩:=hz.h
 refine h.mem h1 rfl rfl (fun _ _ _ h=>nomatch h) fun S' S2 hl hR g r w hC lj hn kn pos ai=>qc (fw.SI (cs:=cs) t1 t2 (by rw [← t3])) ?_
 rintro v w' ⟨hC,f,hf,b,e1,e2,bj⟩
 refine ⟨hC,f,hf,b,e2,?_,by rw [e1]; simp⟩
 have:=HL.own (Z:=fun _=>False) (e:=.row b cs t) (f:=[b]) ⟨rfl,bj⟩ .nil
 rw [e1]
 exact .inl (by simpa using this)
theorem VK {mt t n:Nat} {A:LN} {st:TI} {d:Nat} {ty:TI} {as:LL} {ops:LO} {i:Nat} {sl:LQ} {ms:MM} {r0:NV} {w0:World} {H:LN} (h:jd P Z l mt U r0 w0 H i sl ms) (h1:qt l mt U A (.call ⟨.builtin .len,#[.tmp t],#[st]⟩) d ty as ops i) (ht:yx P st) (hi:nz ms) (iT:qb A ms=true) (hx:∀ x:nv ms,VD (nk A ms x) (sf A ms x) t n):jd P Z l mt U r0 w0 H (i+1) ((i,d,.int .i64 (n:Int)) :: sl) ms:=by
 obtain ⟨S',hl,hR,hO⟩:=h
 subst hl
 obtain ⟨hA,⟨pos,ai,ho⟩,_⟩:=h1
 obtain ⟨e,i',q1,_,_⟩:=ht.h
 refine ⟨S'++[sV (.int .i64 (n:Int))],by simp,hR.val (by unfold bw; rw [ho]; rfl),fun j hj=>?_⟩
 by_cases h2:j < S'.length
 ·exact iH.more (hO j h2) h2
 ·obtain rfl:j=S'.length:=by omega
  refine iH.val (v:=.int .i64 (n:Int)) ho (by simp) rfl fun g r w hC lj hn kn=>?_
  obtain ⟨x,hv,hE⟩:=zJ hR hA hi iT hn
  obtain ⟨Au,Vx⟩:=hx x
  have Cr:=(tx hv yi) t _ (by rw [List.append_nil]; exact Au)
  obtain ⟨_,_,_,_,hS⟩:=hE.front (Γ:=[]) (F:=[]) rfl
  rw [List.append_nil] at hS
  obtain ⟨b,c,rfl⟩:=Vx.sound hS
  exact yB q1 (x:=.tmp t) Cr
theorem jd.dep {mt t:Nat} {A:LN} {op:Op} {d:Nat} {ty:TI} {as:LL} {ops:LO} {i:Nat} {sl:LQ} {ms:MM} {r0:NV} {w0:World} {H:LN} {X:Value→Value} (h:jd P Z l mt U r0 w0 H i sl ms) (h1:qt l mt U A op d ty as ops i) (hi:nz ms) (iT:qb A ms=true) (hj:∃ j,pr t ms=some j∧gp j A=true)
  (hq:∀ (r:NV) (x:nv ms),(∀ p∈nk A ms x,r p.1=p.2)→∀ w pos ai,(execOp (ev r) ⟨some d,op,ty,pos,ai,none⟩).run P w = .ok (.value (X (r t))) w):jd P Z l mt U r0 w0 H (i+1) sl (⟨i,d,[t],Unit,fun u _=>X u,fun _ _=>[]⟩ :: ms):=by
 refine h.mem h1 rfl rfl (fun S' hR t' ht=>by rw [List.mem_singleton.1 ht]; exact Dj h1.A hR hj) ?_
 intro S' S2 hl hR g r w hC lj hn kn pos ai
 obtain ⟨x,hx,_⟩:=zJ hR (by rw [hl]; exact h1.A) hi iT hn
 unfold fw
 rw [hq r x hx]
 exact ⟨ay.refl _ _,[],fun b hb=>absurd hb List.not_mem_nil,(),rfl,.inl .nil,List.nodup_nil⟩
theorem T9 {mt:Nat} {t:TI} {ps:List (Nat×Operand)} {zc:LV} {pl:List (Nat×Nat)} {A:LN} {as:LL} {d:Nat} {ty:TI} {ops:LO} {i:Nat} {sl:LQ} {ms:MM} {fr:Fr} {hd Γ:QE} {B:Bs} {r0:NV} {w0:World} {H:LN} {X:Value→List Value} {ts:LN} (hh:l6 l mt base=true) (hb:zD P t zc pl) (hi:nz ms) (iT:qb A ms=true) (hj:tsB A ms ts=true) (hv:fI A none sl base fr)
   (hx:∀ x:nv ms,xX (sf A ms x++Γ) (nk A ms x++fr) pl ps zc (X (Ae (zI (mF ms x)) ts))) (h1:qt l mt U A (.build t ps.toArray) d ty as ops i) (ha:di r0 base) (hs:ui B Z hd Γ H w0) (h:jd P Z l mt U r0 w0 H i sl ms) :
   jd P Z l mt U r0 w0 H (i+1) sl (⟨i,d,ts,Unit,fun u _=>.agg (X u).toArray,fun _ _=>[]⟩ :: ms):=by
 have hts:∀ t∈ts,∃ j,pr t ms=some j∧gp j A=true:=fun t ht=>by
  have:=List.all_eq_true.1 hj t ht
  cases hf:pr t ms with
  | none=>rw [hf] at this; cases this
  | some j=>rw [hf] at this; exact ⟨j,rfl,this⟩
 refine h.mem h1 rfl rfl (fun S' hR t' ht=>Dj h1.A hR (hts t' ht)) ?_
 intro S' S2 hl hR g r w hC lj hn kn pos ai
 have hA:=h1.A
 rw [← hl] at hA
 have hbs:=qp hR hA hv (mj hh ha kn) lj
 obtain ⟨x,hxv,qv⟩:=zJ hR hA hi iT hn
 obtain ⟨F,Hd,⟨Cs,Cu,wI,Cv⟩,hS,hG⟩:=hs
 obtain ⟨G,_,_,_,jo⟩:=qv.front (ui.stay hS hG hC)
 have e:Ae (zI (mF ms x)) ts=Ae r ts:=Di fun t ht=>by
  obtain ⟨j,h2,h3⟩:=hts t ht
  unfold zI
  rw [Iq h2 h3 hxv]
 have hF:=hx x
 rw [e] at hF
 have nm:=(VQ.SD (P:=P) (hb:=hb) hF).sound jo (tx hxv hbs) (some d) ty pos ai none w (ay.refl _ _)
 unfold fw
 rw [nm]
 exact ⟨ay.refl _ _,[],fun b hb=>absurd hb List.not_mem_nil,(),rfl,.inl .nil,List.nodup_nil⟩
theorem Ub {mt:Nat} {α:Type} {t e:TI} {E:an α} {z0:α} {bt i d:Nat} {sl:LQ} {ms:MM} {A:LN} {ty:TI} {as:LL} {ops:LO} {r0:NV} {w0:World} {H:LN} (hz:ux P t α e E z0 bt) (h1:qt l mt U A (.buildSlice t 0 #[]) d ty as ops i) (h:jd P Z l mt U r0 w0 H i sl ms) :
   jd P Z l mt U r0 w0 H (i+1) sl (⟨i,d,[],Value,fun _ v=>v,fun _ v=>[.own (aL e E) v []]⟩ :: ms):=by
 obtain ⟨t1,_,i',z,t2,_⟩:=hz.h
 refine h.mem h1 rfl rfl (fun _ _ _ h=>nomatch h) fun S' S2 hl hR g r w hC lj hn kn pos ai=>qc (fw.made (Bo (E:=E) t1 t2)) ?_
 rintro v w' ⟨hC,f,hf,hV⟩
 refine ⟨hC,f,hf,v,rfl,?_,hV.2⟩
 have:=HL.own (Z:=fun _=>False) (e:=.own (aL e E) v []) (f:=f) hV.1 .nil
 exact .inl (by simpa using this)
theorem VL {mt n:Nat} {α:Type} {t e:TI} {E:an α} {z0:α} {bt i d:Nat} {sl:LQ} {ms:MM} {A:LN} {ty:TI} {as:LL} {ops:LO} {r0:NV} {w0:World} {H:LN} {x:OO} {z:Int} (hh:l6 l mt base=true) (ha:di r0 base) (hz:ux P t α e E z0 bt) (hv:fI A none sl base fr) (hx:cb fr x=some (.int .i64 z)) (hn:mk bt z=some n) (h1:qt l mt U A (.makeSlice t x x) d ty as ops i) (h:jd P Z l mt U r0 w0 H i sl ms) :
   jd P Z l mt U r0 w0 H (i+1) sl (⟨i,d,[],Value,fun _ v=>v,fun _ v=>[.own (aL e E) v (List.replicate n z0)]⟩ :: ms):=by
 obtain ⟨e1,e2,e3⟩:=F4 hn
 obtain ⟨t1,hE,i',z',t2,t3,t4,t5,t6,t7⟩:=hz.h
 subst e1
 refine h.mem h1 rfl rfl (fun _ _ _ h=>nomatch h) fun S' S2 hl hR g r w hC lj hn kn pos ai=>?_
 have hb:=qp hR (by rw [hl]; exact h1.A) hv (mj hh ha kn) lj
 refine qc (fw.made (Iz (E:=E) (z0:=z0) t1 t2 t3 t4 hE t5 t7 (bI hb hx) (bI hb hx) (by rw [t6]; exact e2) e3)) ?_
 rintro v w' ⟨hC,f,hf,hV⟩
 refine ⟨hC,f,hf,v,rfl,?_,hV.2⟩
 have:=HL.own (Z:=fun _=>False) (e:=.own (aL e E) v (List.replicate n z0)) (f:=f) hV.1 .nil
 exact .inl (by simpa using this)
theorem VM {mt:Nat} {α:Type} {t e:TI} {E:an α} {z0:α} {bt i d:Nat} {sl:LQ} {ms:MM} {A:LN} {ty:TI} {as:LL} {ops:LO} {r0:NV} {w0:World} {H:LN} {x:OO} {u:Value} {Γ:QE} {F:LN} (hh:l6 l mt base=true) (ha:di r0 base) (hz:ux P t α e E z0 bt) (hv:fI A none sl base fr) (hx:cb fr x=some u) (ho:One Γ u) (hS:∀ w,ay H w0 w→SA Z w Γ [] F) (h1:qt l mt U A (.buildSlice t 1 #[(0,x)]) d ty as ops i) (h:jd P Z l mt U r0 w0 H i sl ms) :
   jd P Z l mt U r0 w0 H (i+1) sl (⟨i,d,[],Nat,fun _ b=>.slice (some ⟨b,0,none⟩) 1 1,fun _ b=>[.row b [u] e]⟩ :: ms):=by
 obtain ⟨t1,hE,i',z',t2,t3,t4,t5,t6,t7⟩:=hz.h
 refine h.mem h1 rfl rfl (fun _ _ _ h=>nomatch h) fun S' S2 hl hR g r w hC lj hn kn pos ai=>?_
 have hb:=qp hR (by rw [hl]; exact h1.A) hv (mj hh ha kn) lj
 refine qc (fw.FY t1 t2 t3 t4 (bI hb hx) (ho.one (hS w hC))) ?_
 rintro v w' ⟨hC,f,hf,b,e1,e2,bj⟩
 refine ⟨hC,f,hf,b,e2,?_,by rw [e1]; simp⟩
 have:=HL.own (Z:=fun _=>False) (e:=.row b [u] e) (f:=[b]) ⟨rfl,bj⟩ .nil
 rw [e1]
 exact .inl (by simpa using this)
theorem Lc {mt n:Nat} {t e:TI} {i d:Nat} {sl:LQ} {ms:MM} {A:LN} {ty:TI} {as:LL} {ops:LO} {r0:NV} {w0:World} {H:LN} {ps:List (Nat×Operand)} {us:LV} {Γ:QE} {F:LN} (hh:l6 l mt base=true) (ha:di r0 base) (hz:HZ P t e) (hv:fI A none sl base fr) (hd:wz Γ fr 0 ps us) (hn:us.length=n) (hb:(Nat.ble 1 n && Nat.ble n 16777216)=true) (hS:∀ w,ay H w0 w→SA Z w Γ [] F) (h1:qt l mt U A (.buildSlice t n ps.toArray) d ty as ops i) (h:jd P Z l mt U r0 w0 H i sl ms) :
   jd P Z l mt U r0 w0 H (i+1) sl (⟨i,d,[],Nat,fun _ b=>.slice (some ⟨b,0,none⟩) n n,fun _ b=>[.row b us e]⟩ :: ms):=by
 refine h.mem h1 rfl rfl (fun _ _ _ h=>nomatch h) fun S' S2 hl hR g r w hC lj hnn kn pos ai=>?_
 have cu:=qp hR (by rw [hl]; exact h1.A) hv (mj hh ha kn) lj
 unfold fw
 rw [hd.op cu (hS w hC) hz hn hb]
 refine ⟨ay.alloc _ _ _,[w.heap.size],fun b hb=>by rw [List.mem_singleton.1 hb]; simp,w.heap.size,rfl,?_,by simp⟩
 have:=HL.own (Z:=fun _=>False) (e:=.row w.heap.size us e) (f:=[w.heap.size]) ⟨rfl,heap_alloc_new w _⟩ .nil
 exact .inl (by simpa using this)
theorem Uc {mt t:Nat} {α:Type} {s e:TI} {E:an α} {z0:α} {bt i d:Nat} {sl:LQ} {ms:MM} {A:LN} {ty:TI} {as:LL} {ops:LO} {r0:NV} {w0:World} {H:LN} (hz:ux P s α e E z0 bt) (hi:nz ms) (iT:qb A ms=true) (hj:∃ j,pr t ms=some j∧gp j A=true) (hx:∀ x:nv ms,PY (nk A ms x) (sf A ms x) t) (h1:qt l mt U A (.buildSlice s 1 #[(0,.tmp t)]) d ty as ops i) (h:jd P Z l mt U r0 w0 H i sl ms) :
   jd P Z l mt U r0 w0 H (i+1) sl (⟨i,d,[t],Nat,fun _ b=>.slice (some ⟨b,0,none⟩) 1 1,fun u b=>[.row b [u] e]⟩ :: ms):=by
 obtain ⟨t1,hE,i',z',t2,t3,t4,t5,t6,t7⟩:=hz.h
 refine h.mem h1 rfl rfl (fun S' hR t' ht=>by rw [List.mem_singleton.1 ht]; exact Dj h1.A hR hj) ?_
 intro S' S2 hl hR g r w hC lj hn kn pos ai
 obtain ⟨x,hv,hE⟩:=zJ hR (by rw [hl]; exact h1.A) hi iT hn
 obtain ⟨Au,wJ⟩:=hx x
 have Cr:r t=_:=(tx hv yi) t _ (by rw [List.append_nil]; exact Au)
 obtain ⟨_,_,_,_,hS⟩:=hE.front (Γ:=[]) (F:=[]) rfl
 rw [List.append_nil] at hS
 refine qc (fw.FY t1 t2 t3 t4 (x:=.tmp t) rfl (by show (r t).oneCell'=true; rw [Cr]; exact wJ.one hS)) ?_
 rintro v w' ⟨hC,f,hf,b,e1,e2,bj⟩
 refine ⟨hC,f,hf,b,e2,?_,by rw [e1]; simp⟩
 have:=HL.own (Z:=fun _=>False) (e:=.row b [r t] e) (f:=[b]) ⟨rfl,bj⟩ .nil
 rw [e1]
 exact .inl (by simpa [xI,Ae] using this)
theorem Ud:∀ cs:List Value,km cs [] cs:=by
 intro cs
 induction cs with
 | nil=>exact .nil
 | cons c cs ih=>exact .cons ih
theorem Ue {mt t n:Nat} {s e:TI} {i d:Nat} {sl:LQ} {ms:MM} {A:LN} {ty:TI} {as:LL} {ops:LO} {r0:NV} {w0:World} {H:LN} (hz:H4 P s e n) (hb:(Nat.ble 1 1 && Nat.ble (1 * n) 16777216)=true) (hi:nz ms) (iT:qb A ms=true) (hj:∃ j,pr t ms=some j∧gp j A=true) (hx:∀ x:nv ms,PZ (nk A ms x) t n) (h1:qt l mt U A (.buildSlice s 1 #[(0,.tmp t)]) d ty as ops i) (h:jd P Z l mt U r0 w0 H i sl ms) :
   jd P Z l mt U r0 w0 H (i+1) sl (⟨i,d,[t],Nat,fun _ b=>.slice (some ⟨b,0,none⟩) 1 1,fun u b=>[.row b u.cells.toList e]⟩ :: ms):=by
 refine h.mem h1 rfl rfl (fun S' hR t' ht=>by rw [List.mem_singleton.1 ht]; exact Dj h1.A hR hj) ?_
 intro S' S2 hl hR g r w hC lj hn kn pos ai
 obtain ⟨x,hv,hE⟩:=zJ hR (by rw [hl]; exact h1.A) hi iT hn
 obtain ⟨Au,hlen⟩:=hx x
 rename_i cs
 have Cr:r t = .agg cs.toArray:=(tx hv yi) t _ (by rw [List.append_nil]; exact Au)
 have vF:di r [(t,.agg cs.toArray)]:=(fun t' v' h'=>by
  simp only [look] at h'
  cases h2:Nat.beq t' t with
  | true=>rw [h2] at h'; cases h'; rw [Nat.eq_of_beq_eq_true h2]; exact Cr
  | false=>rw [h2] at h'; cases h')
 have hd:xY [] [(t,.agg cs.toArray)] n 0 [(0,.tmp t)] cs:=.cons (v:=.agg cs.toArray) (by simp [cb,look]) .agg hlen .nil (Ud cs)
 have SK:(execOp (ev r) ⟨some d,.buildSlice s 1 #[(0,.tmp t)],ty,pos,ai,none⟩).run P w=_:=hd.op (Z:=fun _=>False) (w:=w) (cur:=[]) (F:=[]) vF rfl hz rfl hb
 unfold fw
 rw [SK]
 refine ⟨ay.alloc _ _ _,[w.heap.size],fun b hb=>by rw [List.mem_singleton.1 hb]; simp,w.heap.size,rfl,?_,by simp⟩
 have Aq:(Value.agg cs.toArray).cells.toList=cs:=rfl
 have:=HL.own (Z:=fun _=>False) (e:=.row w.heap.size (r t).cells.toList e) (f:=[w.heap.size]) ⟨rfl,by rw [Cr,Aq]; exact heap_alloc_new w _⟩ .nil
 exact .inl (by simpa [xI,Ae] using this)
theorem P7 {mt:Nat} {β V:Type} {A:LN} {as:LL} {d:Nat} {f:FuncId} {xs:List Operand} {bn:Array TypeId} {ty:TI} {mo:Option β} {rt:β→V→List Value} {ps:β→V→List aX} {ops:LO} {i:Nat} {sl:LQ} {ms:MM} {fr:Fr} {hd Γ:QE} {B:Bs} {r0:NV} {w0:World} {H:LN} {y:β} (hh:l6 l mt base=true) (hf:bm P f) (hv:fI A none sl base fr)
   (hc:∀ x:nv ms,Mi P f xs (nk A ms x++fr) (sf A ms x++Γ) mo rt ps) (hi:nz ms) (iT:qb A ms=true) (hw:∀ y v,ur (ps y v)=true) (h1:qt l mt U A (.call ⟨.value (.func f),xs.toArray,bn⟩) d ty as ops i) (hy:mo=some y) (ha:di r0 base) (hs:ui B Z hd Γ H w0) (h:jd P Z l mt U r0 w0 H i sl ms) :
   Mn P Z l mt U r0 w0 H i sl ms ⟨i,d,[],V,fun _ v=>um (rt y v),fun _=>ps y⟩:=by
 obtain ⟨S',hl,hR,hO⟩:=h
 subst hl
 refine ⟨S',rfl,hR,hO,fun V' hV=>?_⟩
 obtain ⟨hA,⟨pos,ai,ho⟩,_⟩:=h1
 refine iH.VJ (V:=V') ho (by simp) rfl fun g r w hC lj hn kn=>?_
 have hb:=qp hR hA hv (mj hh ha kn) lj
 obtain ⟨x,hx,qv⟩:=zJ hR hA hi iT hn
 obtain ⟨N1,GW,hd,hr⟩:=hc x
 obtain ⟨fn,c,f1,f2,f3⟩:=hf.h
 refine Calls.Mc f1 f2 f3 ?_
 rw [wo (tx hx hb) N1]
 obtain ⟨F,Hd,⟨Cs,Cu,wI,Cv⟩,hS,hG⟩:=hs
 obtain ⟨G,nu,FV,IB,jo⟩:=qv.front (ui.stay hS hG hC)
 rw [u2] at GW
 refine (GW.2 w (fun b=>Z b∨b∈G) [] (hr.sound (fun _ h=>h) (fun _ b hb=>.inr (IB b hb)) jo hd.ho) List.nodup_nil (fun b hb=>absurd hb List.not_mem_nil)
  (fun b hb=>hb.elim (fun h=>Nat.lt_of_lt_of_le (hG.sy b h) hC.size) fun h=>(nu b h).2) y hy).mono ?_
 rintro e w' ⟨v,he,Z2,F2,vm,ox⟩
 have GX:HL (fun _=>False) w' (ps y v) F2:=EK (hw y v) vm
 have bp:=(GX.front (Γ:=[]) (F:=[]) rfl).lt
 obtain ⟨f',ed,N2⟩:=hV F2 w' r _ ⟨v,rfl,.inl GX,ox.nd⟩
 refine ⟨_,he,ox.ly,f',fun b hb=>⟨(ox.low b (ed b hb)).resolve_left List.not_mem_nil,bp b (by simpa using ed b hb)⟩,N2⟩
theorem IC {A:LN} {g:Nat→List Nat} {b:Nat}:∀ {ms:MM},b∈Cp A g ms→∃ a∈ms,gp a.j A=true∧b∈g a.j:=by
 intro ms
 induction ms with
 | nil=>intro h; exact absurd h List.not_mem_nil
 | cons a l ih=>
  intro h
  unfold Cp at h
  cases hb:gp a.j A with
  | true=>
   rw [hb] at h
   rcases List.mem_append.1 h with h | h
   ·exact ⟨a,by simp,hb,h⟩
   ·obtain ⟨c,h1,h2⟩:=ih h; exact ⟨c,List.mem_cons_of_mem _ h1,h2⟩
  | false=>rw [hb] at h; obtain ⟨c,h1,h2⟩:=ih h; exact ⟨c,List.mem_cons_of_mem _ h1,h2⟩
theorem ID {mt i:Nat} (h:((U.set i []).all fun us=>!(us.contains l.length))=true):wY l U mt i=true:=by
 unfold wY
 simp only [List.all_eq_true,List.mem_range,Bool.or_eq_true,Bool.not_eq_true'] at h ⊢
 intro k _
 by_cases hk:k=i
 ·exact .inl (.inr (by rw [hk]; exact Nat.beq_refl i))
 ·refine .inl (.inl ?_)
  rw [List.getD_eq_getElem?_getD]
  cases hu:U[k]? with
  | none=>rfl
  | some us=>exact h us (List.mem_of_getElem? (i:=k) (by rw [List.getElem?_set_ne (fun e=>hk e.symm)]; exact hu))
theorem HO.mono {Z':Nat→Prop} (hz:∀ b,Z b→Z' b) {Δ:QE} {F:LN} (h:HO Z w Δ F):HO Z' w Δ F:=by
 induction h with
 | nil=>exact .nil
 | own h _ ih=>exact .own (h.mono hz) ih
 | rd _ ih=>exact .rd ih
 | bn _ ih=>exact .bn ih
theorem N3 {mt:Nat} {β V:Type} {A:LN} {as:LL} {d:Nat} {f:FuncId} {xs:List Operand} {bn:Array TypeId} {ty:TI} {mo:Option β} {rt:β→V→List Value} {ps:β→V→List aX} {ops:LO} {i:Nat} {sl:LQ} {ms:MM} {fr:Fr} {hd Γ:QE} {B:Bs} {r0:NV} {w0:World} {H:LN} {y:β} (hh:l6 l mt base=true) (hf:bm P f) (hv:fI A none sl base fr)
   (hU:U.getD i []=[l.length]) (N4:((U.set i []).all fun us=>!(us.contains l.length))=true)
   (hc:∀ x:nv ms,ES P f xs (nk A ms x++fr) hd (sf A ms x++Γ) mo rt ps) (hi:nz ms) (iT:qb A ms=true) (hw:∀ y v,ur (ps y v)=true) (h1:qt l mt U A (.call ⟨.value (.func f),xs.toArray,bn⟩) d ty as ops i) (hy:mo=some y) (ha:di r0 base) (hs:ui B Z hd Γ H w0) (h:jd P Z l mt U r0 w0 H i sl ms) :
   Mn P Z l mt U r0 w0 H i sl ms ⟨i,d,[],V,fun _ v=>um (rt y v),fun _=>ps y⟩:=by
 obtain ⟨S',hl,hR,hO⟩:=h
 subst hl
 refine ⟨S',rfl,hR,hO,fun V' hV=>?_⟩
 obtain ⟨hA,⟨pos,ai,ho⟩,_⟩:=h1
 intro o' s' ch eh g r w hC GU lj hn kn Ah qk
 rw [ho] at ch
 cases ch
 rw [List.getElem?_append_right (Nat.le_refl _),Nat.sub_self] at eh
 cases eh
 rw [if_pos rfl]
 refine ⟨rfl,?_⟩
 obtain ⟨VN,VO,VP⟩:=GU (ID N4)
 have hb:=qp hR hA hv (mj hh ha kn) lj
 obtain ⟨x,hx,qv⟩:=zJ hR hA hi iT hn
 obtain ⟨N1,GW,VR,hr⟩:=hc x
 obtain ⟨fn,c,f1,f2,f3⟩:=hf.h
 refine Calls.Mc f1 f2 f3 ?_
 rw [wo (tx hx hb) N1]
 obtain ⟨F,Hd,⟨Cs,Cu,wI,Cv⟩,hS,hG⟩:=hs
 obtain ⟨G,nu,FV,IB,jo⟩:=qv.front (ui.stay hS hG hC)
 obtain ⟨Fd,F',VS,_,IE⟩:=VR.sound (Cs.l4 VN)
 have ed:∀ b∈Fd,b∈H:=fun b hb=>(Cu b (IE.mem_iff.1 (List.mem_append_left _ hb))).1
 have dx:=List.nodup_append.1 hG.nd
 have hblk:qu g (U.getD S'.length [])=H:=by rw [hU]; simp [qu,VO]
 rw [hblk]
 rw [u2] at GW
 refine (GW.2 w (fun b=>Z b∨b∈G) Fd (hr.sound (fun _ h=>h) (fun _ b hb=>.inr (IB b hb)) jo (VS.mono fun _ h=>.inl h)) ((IE.nodup_iff.2 Cv).sublist (List.sublist_append_left _ _)) (fun b hb=>?_)
  (fun b hb=>hb.elim (fun h=>Nat.lt_of_lt_of_le (hG.sy b h) hC.size) fun h=>(nu b h).2) y hy).mono ?_
 ·rintro (hz | hz)
  ·exact hG.apart b (List.mem_append_left _ (ed b hb)) hz
  ·rcases List.mem_append.1 (nu b hz).1 with hz | hz
   ·obtain ⟨a,ham,xi,vF⟩:=IC hz
    have h2:=VP a.j (qo (by rw [← hA]; exact oy.1 xi)).1 b vF
    have h3:=wI b (ed b hb)
    omega
   ·exact dx.2.2 b (ed b hb) b hz rfl
 ·rintro e w' ⟨v,he,Z2,F2,vm,ox⟩
  have GX:HL (fun _=>False) w' (ps y v) F2:=EK (hw y v) vm
  have bp:=(GX.front (Γ:=[]) (F:=[]) rfl).lt
  obtain ⟨f',N5,N2⟩:=hV F2 w' r _ ⟨v,rfl,.inl GX,ox.nd⟩
  exact ⟨_,he,ox.ly.mono ed,f',fun b hb=>⟨(ox.low b (N5 b hb)).imp (ed b) id,bp b (by simpa using N5 b hb)⟩,N2⟩
theorem Ec.sub {ms B7:MM} {a:gx} {t:Nat} (h:Ec ms t a B7):a∈ms∧a.j=t∧(∀ b∈B7,b∈ms)∧(B7.map (·.j)).Sublist (ms.map (·.j))∧((ms.map (·.j)).Nodup→∀ b∈B7,b.j≠t):=by
 induction h with
 | here=>exact ⟨by simp,rfl,fun b hb=>List.mem_cons_of_mem _ hb,by simp,fun hn b hb he=>by rw [List.map_cons,List.nodup_cons] at hn; exact hn.1 (by rw [← he]; exact List.mem_map_of_mem hb)⟩
 | there _ ih=>
  obtain ⟨h1,h2,h3,h4,h5⟩:=ih
  refine ⟨List.mem_cons_of_mem _ h1,h2,fun b hb=>?_,by simpa using h4,fun hn b hb=>?_⟩
  ·rcases List.mem_cons.1 hb with rfl | hb
   ·simp
   ·exact List.mem_cons_of_mem _ (h3 b hb)
  ·rw [List.map_cons,List.nodup_cons] at hn
   rcases List.mem_cons.1 hb with rfl | hb
   ·intro he
    exact hn.1 (by rw [he,← h2]; exact List.mem_map_of_mem h1)
   ·exact h5 hn.2 b hb
theorem N6 {mt:Nat} {β V:Type} {j1:Nat} {a1:gx} {A:LN} {as:LL} {d:Nat} {f:FuncId} {xs:List Operand} {bn:Array TypeId} {ty:TI} {mo:Option β} {rt:β→V→List Value} {ps:β→V→List aX} {ops:LO} {i:Nat} {sl:LQ} {ms po:MM} {fr:Fr} {hd Γ:QE} {B:Bs} {r0:NV} {w0:World} {H:LN} {y:β} (hh:l6 l mt base=true) (hf:bm P f) (hv:fI A none sl base fr)
   (hU:U.getD i []=[j1]) (GJ:Ec ms j1 a1 po) (SJ:a1.src=[]) (h4:gp j1 A=true)
   (hc:∀ (q:a1.V) (x:nv po),ES P f xs (nk A po x++fr) (a1.ps undef q) (sf A po x++Γ) mo rt ps) (hi:nz po) (iT:qb A po=true) (hw:∀ y v,ur (ps y v)=true) (h1:qt l mt U A (.call ⟨.value (.func f),xs.toArray,bn⟩) d ty as ops i) (hy:mo=some y) (ha:di r0 base) (hs:ui B Z hd Γ H w0) (h:jd P Z l mt U r0 w0 H i sl ms) :
   Mn P Z l mt U r0 w0 H i sl po ⟨i,d,[],V,fun _ v=>um (rt y v),fun _=>ps y⟩:=by
 obtain ⟨S',hl,VT,hO⟩:=h
 subst hl
 obtain ⟨m1,m2,m3,m4,m5⟩:=GJ.sub
 have hR:=VT.sub m3 m4
 refine ⟨S',rfl,hR,hO,fun V' hV=>?_⟩
 obtain ⟨hA,⟨pos,ai,ho⟩,_⟩:=h1
 intro o' s' ch eh g r w hC GU lj hn kn Ah qk
 rw [ho] at ch
 cases ch
 rw [List.getElem?_append_right (Nat.le_refl _),Nat.sub_self] at eh
 cases eh
 rw [if_pos rfl]
 refine ⟨rfl,?_⟩
 have F7:=qo (by rw [← hA]; exact oy.1 h4)
 have hb:=qp hR hA hv (mj hh ha kn) lj
 obtain ⟨x,hx,qv⟩:=zJ hR hA hi iT hn
 obtain ⟨q,_,Lf,hq3⟩:=VT.Iv m1 (hn a1.j (by rw [m2]; exact F7.2))
 have xh:xI a1 r=undef:=by unfold xI; rw [SJ]; rfl
 rw [xh,m2] at Lf
 rw [m2] at hq3
 obtain ⟨N1,GW,VR,hr⟩:=hc q x
 obtain ⟨fn,c,f1,f2,f3⟩:=hf.h
 refine Calls.Mc f1 f2 f3 ?_
 rw [wo (tx hx hb) N1]
 obtain ⟨F,Hd,⟨Cs,Cu,wI,Cv⟩,hS,hG⟩:=hs
 have hSt:=ui.stay hS hG hC
 obtain ⟨G,nu,FV,IB,jo⟩:=qv.front hSt
 obtain ⟨Fo,Fr,hff,hFr,hq4⟩:=Lf.all
 have hSq:SA (fun b=>Z b∨b∈Fr) w (a1.ps undef q) [] Fo:=by
  have:=hq4.front (Γ:=[]) (F:=[]) rfl
  simpa using this
 have hnq:=List.nodup_append.1 (hff ▸ hq3)
 obtain ⟨Fd,F',VS,_,IE⟩:=VR.sound hSq
 have SM:∀ b∈Fd,b∈Fo:=fun b hb=>IE.mem_iff.1 (List.mem_append_left _ hb)
 have ed:∀ b∈Fd,b∈g j1:=fun b hb=>by rw [hff]; exact List.mem_append_left _ (SM b hb)
 have dx:=List.nodup_append.1 hG.nd
 have hblk:qu g (U.getD S'.length [])=g j1:=by rw [hU]; simp [qu]
 rw [hblk]
 rw [u2] at GW
 have Lh:∀ b∈g j1,w0.heap.size≤b∨b∈H:=fun b hb=>(qk j1 F7.1 b hb).1
 refine (GW.2 w (fun b=>Z b∨b∈Fr++G) Fd (hr.sound (fun _ h=>h) (fun _ b hb=>.inr (List.mem_append_right _ (IB b hb))) (jo.mono (fun _ h=>h.imp id fun h=>List.mem_append_right _ h) fun _ h=>h) (VS.mono fun _ h=>h.imp id fun h=>List.mem_append_left _ h)) ((IE.nodup_iff.2 hnq.1).sublist (List.sublist_append_left _ _)) (fun b hb=>?_)
  (fun b hb=>hb.elim (fun h=>Nat.lt_of_lt_of_le (hG.sy b h) hC.size) fun h=>(List.mem_append.1 h).elim (hFr b) fun h=>(nu b h).2) y hy).mono ?_
 ·rintro (hz | hz)
  ·rcases Lh b (ed b hb) with h | h
   ·have:=hG.sy b hz; omega
   ·exact hG.apart b (List.mem_append_left _ h) hz
  ·rcases List.mem_append.1 hz with hz | hz
   ·exact hnq.2.2 b (SM b hb) b hz rfl
   rcases List.mem_append.1 (nu b hz).1 with hz | hz
   ·obtain ⟨a,ham,xi,vF⟩:=IC hz
    exact Ah a.j (qo (by rw [← hA]; exact oy.1 xi)).1 j1 F7.1 (m5 VT.d a ham) b vF (ed b hb)
   ·rcases Lh b (ed b hb) with h | h
    ·have:=hS.lt b hz; omega
    ·exact dx.2.2 b h b hz rfl
 ·rintro e w' ⟨v,he,Z2,F2,vm,ox⟩
  have GX:HL (fun _=>False) w' (ps y v) F2:=EK (hw y v) vm
  have bp:=(GX.front (Γ:=[]) (F:=[]) rfl).lt
  obtain ⟨f',N5,N2⟩:=hV F2 w' r _ ⟨v,rfl,.inl GX,ox.nd⟩
  exact ⟨_,he,ox.ly.mono ed,f',fun b hb=>⟨(ox.low b (N5 b hb)).imp (ed b) id,bp b (by simpa using N5 b hb)⟩,N2⟩
theorem SA.app {Γ Γ':QE} {F F':LN}:∀ {cur:LN},SA Z w Γ' cur F'→SA Z w Γ [] F→SA Z w (Γ'++Γ) cur (F'++F):=by
 induction Γ' generalizing F' with
 | nil=>intro cur h hs; cases h; exact hs.any
 | cons e Γ' ih=>
  intro cur h hs
  cases e with
  | own T v x=>obtain ⟨f,F1,rfl,h1,h2⟩:=h; exact ⟨f,F1++F,by rw [List.append_assoc],h1,ih h2 hs⟩
  | om e E v xs=>obtain ⟨f,F1,rfl,h1,h2⟩:=h; exact ⟨f,F1++F,by rw [List.append_assoc],h1,ih h2 hs⟩
  | row b cs e=>obtain ⟨f,F1,rfl,h1,h2⟩:=h; exact ⟨f,F1++F,by rw [List.append_assoc],h1,ih h2 hs⟩
  | gu e E v xs j u=>obtain ⟨f,F1,rfl,h1,h2⟩:=h; exact ⟨f,F1++F,by rw [List.append_assoc],h1,ih h2 hs⟩
  | rd o T v x=>exact ⟨h.1,ih h.2 hs⟩
  | ad o1 o2 v j T x=>exact ⟨h.1,ih h.2 hs⟩
  | bn p cs=>exact ⟨h.1,ih h.2 hs⟩
  | hd v j u=>exact ⟨h.1,ih h.2 hs⟩
theorem jd.abS {mt:Nat} {A:LN} {op:Op} {d:Nat} {ty:TI} {as:LL} {ops:LO} {i:Nat} {sl:LQ} {ms:MM} {r0:NV} {w0:World} {H:LN} {u:Value} (h:jd P Z l mt U r0 w0 H i sl ms) (hh:l6 l mt base=true) (ha:di r0 base) (h1:qt l mt U A op d ty as ops i)
  (hV:(U.zipIdx.all fun p=>!(p.1.contains l.length) || ((cc l).getD p.2 []).contains i)=true) (hv:fI A none sl base fr) (hq:∀ r,di r fr→∀ pos ai g w,ay [] w0 w→(execOp (ev r) ⟨some d,op,ty,pos,ai,g⟩).run P w = .ok (.value u) w):jd P Z l mt U r0 w0 H (i+1) ((i,d,u) :: sl) ms:=by
 obtain ⟨S',hl,hR,hO⟩:=h
 subst hl
 obtain ⟨hA,⟨pos,ai,ho⟩,_⟩:=h1
 refine ⟨S'++[sV u],by simp,hR.val (by unfold bw; rw [ho]; rfl),fun j hj=>?_⟩
 by_cases h2:j < S'.length
 ·exact iH.more (hO j h2) h2
 ·obtain rfl:j=S'.length:=by omega
  have hN:wY l U mt S'.length=true:=by
   unfold wY
   simp only [List.all_eq_true,List.mem_range,Bool.or_eq_true,Bool.not_eq_true'] at hV ⊢
   intro k _
   rw [List.getD_eq_getElem?_getD]
   cases hu:U[k]? with
   | none=>exact .inl (.inl rfl)
   | some us=>
    have hm:(us,k)∈U.zipIdx:=by rw [List.mem_zipIdx_iff_getElem?]; exact hu
    exact (hV _ hm).imp .inl id
  intro o' s' ch eh g r w hC GU lj hn kn Ah qk
  rw [ho] at ch
  cases ch
  rw [List.getElem?_append_right (Nat.le_refl _),Nat.sub_self] at eh
  cases eh
  rw [if_pos rfl]
  refine ⟨rfl,?_⟩
  unfold fw
  rw [hq r (qp hR hA hv (mj hh ha kn) lj) _ _ _ w (GU hN).1]
  exact ⟨ay.refl _ _,[],fun b hb=>absurd hb List.not_mem_nil,rfl⟩
theorem Uf {mt:Nat} {hd jh:QE} {α:Type} {t e e' et:TI} {E E':an α} {z0:α} {bt t1 t2 j2:Nat} {v u yv:Value} {j:Int} {y:α} {z:List α} {xs:List (List α)} {o1 o2:Bool} {Γx:QE} {Iu:MM} {A:LN} {as:LL} {d:Nat} {ty:TI} {ops:LO} {i:Nat} {sl:LQ} {ms:MM} {Γ:QE} {B:Bs} {r0:NV} {w0:World} {H:LN} (hh:l6 l mt base=true) (ha:di r0 base) (hT:ux P t α e E z0 bt) (hU:U.getD i []=[l.length])
   (N4:((U.set i []).all fun us=>!(us.contains l.length))=true) (hv:fI A none sl base fr) (hs:look fr t1=some u) (h2:wH ms t2 ⟨j2,t2,[],Nat,fun _ b=>.slice (some ⟨b,0,none⟩) 1 1,fun _ b=>[.row b [yv] et]⟩ Iu) (h5:gp j2 A=true) (hl:Loc hd u (.row v j)) (hz:qh hd u o1 o2 E' z vi Γx) (h1:ee hd (.own (aL e' (aL e E)) v xs) jh) (hr:RT (aL e E) (bH E')) (hy:DL [] E yv y [])
   (hf:fits bt (z.length+1)=some ()) (Ij:qt l mt U A (.call ⟨.builtin .append,#[.tmp t1,.tmp t2],#[t,t]⟩) d ty as ops i) (s8:ui B Z hd Γ H w0) (h:jd P Z l mt U r0 w0 H i sl ms) :
  jd P Z l mt U r0 w0 H (i+1) sl (⟨i,d,[],Value,fun _ v'=>v',fun _ v'=>[.own (aL e E) v' (z++[y]),.own (vI e' (aL e E) j.toNat) v xs]⟩ :: ms)∧ui B Z jh Γ H w0:=by
 obtain ⟨F,Hd,⟨Cs,Cu,wI,Cv⟩,hS,hG⟩:=s8
 obtain ⟨fm0,F10,VU,_,abT⟩:=h1.sound Cs
 refine ⟨?_,F,F10,⟨abT,fun b hb=>Cu b (VU.mem_iff.1 (List.mem_append_right _ hb)),wI,(VU.nodup_iff.2 Cv).sublist (List.sublist_append_right _ _)⟩,hS,hG⟩
 obtain ⟨S',EL,hR,hO⟩:=h
 subst EL
 obtain ⟨hA,⟨pos,ai,ho⟩,_⟩:=Ij
 obtain ⟨b1,b2⟩:=p3 hf
 obtain ⟨q1,q2,ii,zz,q3,q4,q5,q6,q7,_⟩:=hT.h
 obtain ⟨n1,_,_,_⟩:=h2.sub
 refine ⟨S'++[⟨true,MV Z ⟨S'.length,d,[],Value,fun _ v'=>v',fun _ v'=>[.own (aL e E) v' (z++[y]),.own (vI e' (aL e E) j.toNat) v xs]⟩⟩],by simp,hR.mem rfl (by unfold bw; rw [ho]; rfl) (by intro t h; cases h),fun k hk=>?_⟩
 by_cases bp:k < S'.length
 ·exact iH.more (hO k bp) bp
 ·obtain rfl:k=S'.length:=by omega
  intro o' s' ch eh g r w hC GU lj hn kn Ah qk
  rw [ho] at ch
  cases ch
  rw [List.getElem?_append_right (Nat.le_refl _),Nat.sub_self] at eh
  cases eh
  rw [if_pos rfl]
  refine ⟨rfl,?_⟩
  obtain ⟨VN,VO,VP⟩:=GU (ID N4)
  have VV:=Cs.l4 VN
  obtain ⟨j0,j1,kz⟩:=Loc.row hl rfl VV
  obtain ⟨dv,_,⟨⟨gz,ug,_⟩,_⟩,_⟩:=hz.sound VV
  obtain ⟨fm,F1,vn,hOw,_⟩:=h1.sound VV
  obtain ⟨ky,F2,n5,VW,_⟩:=hy.sound (Z:=Z) (w:=w) (F:=[]) rfl
  have VX:ky=[]:=by
   cases ky with
   | nil=>rfl
   | cons a l=>exact absurd (n5.mem_iff.1 (List.mem_append_left _ List.mem_cons_self)) List.not_mem_nil
  subst VX
  rw [wC hOw] at j1
  obtain ⟨k,gm,a1,a2,a3⟩:=Ip rfl hOw (List.getElem?_eq_getElem j1) kz
  have VY:xs[j.toNat]=z:=hr.wh (hr.le.le a1) ug
  rw [VY] at a1
  have abU:(k++gm).Nodup:=a2.nodup_iff.2 ((vn.nodup_iff.2 Cv).sublist (List.sublist_append_left _ _))
  have Ig:=List.nodup_append.1 abU
  have Mo:∀ b∈k++gm,b∈H:=fun b hb=>(Cu b (vn.mem_iff.1 (List.mem_append_left _ (a2.mem_iff.1 hb)))).1
  obtain ⟨b,c1,c2,c3⟩:=hR.Iv n1 (hn j2 (qo (by rw [← hA]; exact oy.1 h5)).2)
  simp only at c1 c2
  replace c2:=c2.own rfl
  generalize GJ:g j2=G1 at c2 c3
  cases c2 with
  | fact h _=>exact h.elim
  | @own _ ff F0 _ Zo Bi=>
   cases Bi
   obtain ⟨rfl,bj⟩:=Zo
   have hb:=qp hR hA hv (mj hh ha kn) lj
   obtain ⟨v',w',f',nm,Iw,ei,ed,IF⟩:=p5 (E:=E) (d:=some d) (ty:=ty) (pos:=pos) (ai:=ai) (g:=none) (r:=r) (s:=.tmp t1) (x:=.tmp t2) (k:=[]) (ys:=[y]) (news:=[yv]) q1 q3 q4 (by rw [q5,q2]) (by rw [cells_one q6,q2]; rfl) (hb _ _ hs) a1 Ig.1 c1 (fun i u hi=>bj.at i u hi) (sb VW) (fun _ h=>absurd h List.not_mem_nil) (by simp) (by rw [q7]; exact b1) b2
   unfold fw
   rw [nm]
   have hblk:qu g (U.getD S'.length [])=H:=by rw [hU]; simp [qu,VO]
   rw [hblk]
   have hgm:(vI e' (aL e E) j.toNat).rep w'.heap [v] xs gm:=an.fk _ a3 Iw fun b hb hk=>Ig.2.2 b hk b hb rfl
   refine ⟨Iw.mono fun b hb=>Mo b (List.mem_append_left _ hb),f'++gm,fun b hb=>?_,v',rfl,?_,?_⟩
   ·rcases List.mem_append.1 hb with hb | hb
    ·refine ⟨?_,an.lt _ ei b hb⟩
     rcases ed b hb with h | h | h
     ·exact .inl (Mo b (List.mem_append_left _ h))
     ·exact absurd h List.not_mem_nil
     ·exact .inr h
    ·exact ⟨.inl (Mo b (List.mem_append_right _ hb)),an.lt _ hgm b hb⟩
   ·have:=HL.own (Z:=fun _=>False) (e:=.own (aL e E) v' (z++[y])) (f:=f') ei (HL.own (e:=.own (vI e' (aL e E) j.toNat) v xs) (f:=gm) hgm .nil)
    exact .inl (by simpa using this)
   ·refine zL (IF List.nodup_nil) Ig.2.1 fun b hb hm=>?_
    rcases ed b hb with h | h | h
    ·exact Ig.2.2 b h b hm rfl
    ·exact absurd h List.not_mem_nil
    ·have:=an.lt _ a3 b hm; omega
end
end Go.Dk
namespace Go.Dk
open Go Go.Li
section
variable {R S:Type} {P:Program} {cx:Cx R} {K:dq R S} {l tail:LO} {base fr:Fr} {U:LL} {hd:QE}
def IG (P:Program) (cx:Cx R) (K:dq R S) (l l0:LO) (mt:Nat) (U:LL) (hd:QE) (id:Nat) (base:Fr):JA R S→Prop
 | .a as ops i sl ms Γ m=>xJ l mt U as ops i→Fin P cx K l l0 mt U hd id base i sl ms Γ m
 | .o A op d ty as ops i sl ms Γ m=>qt l mt U A op d ty as ops i→Fin P cx K l l0 mt U hd id base i sl ms Γ m
 | .oc us f xs bn A d ty as ops i sl ms Γ m=>U.getD i []=us→qt l mt U A (.call ⟨.value (.func f),xs.toArray,bn⟩) d ty as ops i→Fin P cx K l l0 mt U hd id base i sl ms Γ m
 | .os A op ty as ops i sl ms Γ m=>VI l mt U A op ty as ops i→Fin P cx K l l0 mt U hd id base i sl ms Γ m
 | .ow _ A op d ty as ops i sl ms Γ m=>qt l mt U A op d ty as ops i→Fin P cx K l l0 mt U hd id base i sl ms Γ m
 | .ix _ v fr x y t A d ty as ops i sl ms Γ m=>fI A none sl base fr→cb fr x=some v→qt l mt U A (.indexAddr t x y) d ty as ops i→Fin P cx K l l0 mt U hd id base i sl ms Γ m
 | .lb _ v j fr t x A d ty as ops i sl ms Γ m=>fI A none sl base fr→cb fr x=some (.pointer (some (dg v 1 j)))→NA P t→qt l mt U A (.load t x) d ty as ops i→Fin P cx K l l0 mt U hd id base i sl ms Γ m
 | .ap us t1 t2 t A d ty as ops i sl ms Γ m=>U.getD i []=us→qt l mt U A (.call ⟨.builtin .append,#[.tmp t1,.tmp t2],#[t,t]⟩) d ty as ops i→Fin P cx K l l0 mt U hd id base i sl ms Γ m
 | .la fr a lk t x A d ty as ops i sl ms Γ m=>fI A none sl base fr→cb fr x=some (.pointer (some a))→(match lk with | none=>NA P t | some n=>AG P t n)→qt l mt U A (.load t x) d ty as ops i→Fin P cx K l l0 mt U hd id base i sl ms Γ m
 | .ld E z fr a t x A d ty as ops i sl ms Γ m=>fI A none sl base fr→cb fr x=some (.pointer (some a))→NA P t→qt l mt U A (.load t x) d ty as ops i→
   ∀ B o,m=some o→∀ r0 w0 H Z,di r0 base→ui B Z hd Γ H w0→(∃ u,∀ w,ay H w0 w→w.cell? a=some u∧∃ g,E.rep w.heap [u] z g)→jd P Z l mt U r0 w0 H i sl ms→mx P cx.n l0 (lu P cx B K o) r0 w0
 | .p Δ as ops i sl ms Γ m=>xJ l mt U as ops i→Fin P cx K l l0 mt U hd id base i sl ms (Δ.reverse++Γ) m
 | .cr u ps d as ops i sl ms Γ m=>xJ l mt U as ops (i+1)→bw l i=some d→
   ∀ B o,m=some o→∀ r0 w0 H Z,di r0 base→ui B Z hd Γ H w0→Mn P Z l mt U r0 w0 H i sl ms ⟨i,d,[],_,fun _=>u,fun _=>ps⟩→mx P cx.n l0 (lu P cx B K o) r0 w0
theorem zM {w:World} {e n:Nat} {v:Value} {us:List (List Value)} {f:LN} {j:Int} {c:LV} (hO:(aL e (jm n)).rep w.heap [v] us f) (hj:0≤j) (hu:us[j.toNat]? = some c):c.length=n∧(∀ u∈c,u.oneCell'=true)∧∀ i u,c[i]? = some u→w.cell? ((dg v n j).add i)=some u:=by
 obtain ⟨_,_,cs,f1,⟨rfl,h1,h2,_⟩,_,h3⟩:=wF (((Le.own (Le.refl (jm n)) e).le) hO) j hj hu
 exact ⟨h1,h2,h3⟩
theorem AD.sound {l0:LO} {tq:Bool} {mt id:Nat} (hh:l6 l mt base=true)
  (Bi:∀ hd i sl ms Γ m,Bd ms=true→Ag U sl ms=true→(∀ x:nv ms,D P cx (.p (Af sl (mF ms x)) (Cm ms x) base Γ fun fr Γ=>.tg tq (Bb tail) l tail K Γ fr m))→IG P cx K l l0 mt U hd id base (.a [] [] i sl ms Γ m))
  {J:JA R S} (h:AD tq P cx K l tail base U hd J):IG P cx K l l0 mt U hd id base J:=by
 have stay:∀ {B:Bs} {Z:Nat→Prop} {hd Γ:QE} {H:LN} {w0:World},ui B Z hd Γ H w0→∃ F Hd,(SA Z w0 hd [] Hd∧(∀ b∈Hd,b∈H∧b < w0.heap.size)∧(∀ b∈H,b < w0.heap.size)∧Hd.Nodup)∧SA Z w0 Γ [] F∧Gd B Z (H++F) w0∧∀ w,ay H w0 w→SA Z w Γ [] F:=by
  rintro B Z hd Γ H w0 ⟨F,Hd,h1,h2,h3⟩
  exact ⟨F,Hd,h1,h2,h3,fun w hC=>ui.stay h2 h3 hC⟩
 induction h with
 | nil hs he h=>exact Bi _ _ _ _ _ _ hs he h
 | @gbt hd j d b q as ops i sl ms Γ m _ ih=>
  intro h B o ho r0 w0 H Z ha hs hp
  cases b with
  | false=>cases ho
  | true=>exact ih h B o ho r0 w0 H Z ha hs (hp.swap)
 | @gbf hd j d b q as ops i sl ms Γ m _ ih=>
  intro h B o ho r0 w0 H Z ha hs hp
  cases b with
  | true=>cases ho
  | false=>exact ih h B o ho r0 w0 H Z ha hs (hp.swap)
 | skp jh hb hA _ ih=>
  intro h B o ho r0 w0 H Z ha hs hp
  obtain ⟨h1,h2,h3⟩:=h.next
  exact ih h3 B o ho r0 w0 H Z ha hs (hp.skip h1 h2 jh hb hA)
 | cons _ ih=>exact fun h=>ih h.cons
 | Mj _ ih=>exact fun h=>ih h.Mj
 | Vp h1 hv hy hc hn eh ho h4 h6 _ ih=>
  rename_i ht _
  intro h B o ch r0 w0 H Z ha hs hp
  obtain ⟨F,_,_,_,_,hK⟩:=stay hs
  exact ih h.n B o ch r0 w0 H Z ha hs (T6 hh ha ht h1 hv hy hc hn eh ho h4 h6 hK h hp)
 | ixs hv hx _ _ ih=>exact fun h1=>ih hv hx h1
 | @abN hd α A as d x y v k j t ty o1 o2 E xs ops i sl ms fr Γ jh f ht hy hr hE _ ih=>
  intro hv hx h1 B o ho r0 w0 H Z ha hs hp
  obtain ⟨z,hz,ho⟩:=bind_some ho
  replace hz:=qa hz
  obtain ⟨e,ii,q1,q2,q3⟩:=ht.h
  obtain ⟨F,Hd,⟨hL,VZ⟩,hS,hG,hK⟩:=stay hs
  obtain ⟨dv,_,⟨⟨n,hn,_⟩,Ih⟩,wE⟩:=(hr z).sound hL
  obtain ⟨⟨a,c,n7⟩,bp,_⟩:=wF hn j hz.1 hz.2
  refine ih z h1.n B o ho r0 w0 H Z ha ⟨F,Hd,⟨wE (Ih hE j z hz.1 hz.2),VZ⟩,hS,hG⟩ (hp.val hh ha h1 hv fun r ig _ _ _ w hC=>?_)
  rw [l5 q1 q2 ((bI ig hx).trans n7) (bI ig hy) hz.1 (by omega),q3,n7]
  rfl
 | @idx hd α A as d x y v k j t ty o1 o2 E xs ops i sl ms fr Γ Γ' f ht hy hr hE _ ih=>
  intro hv hx h1 B o ho r0 w0 H Z ha hs hp
  obtain ⟨z,hz,ho⟩:=bind_some ho
  replace hz:=qa hz
  obtain ⟨F,Hd,hL,hS,hG,hK⟩:=stay hs
  obtain ⟨dv,_,⟨⟨n,hn,_⟩,Ih⟩,wE⟩:=(hr z).sound hS
  refine ih z h1.n B o ho r0 w0 H Z ha ⟨F,Hd,hL,wE (Ih hE j z hz.1 hz.2),hG⟩ (hp.val hh ha h1 hv fun r ig _ _ _ w hC=>?_)
  obtain ⟨_,_,⟨⟨n',xc,_⟩,_⟩,_⟩:=(hr z).sound (hK w hC)
  exact Ix ht.h xc hz (bI ig hx) (bI ig hy) hE w (ay.refl _ _)
 | pz _ ih=>exact ih
 | @pe hd e Δ as ops i sl ms Γ m _ ih=>
  intro h1
  have h2:=ih h1
  have h3:(e :: Δ).reverse++Γ=Δ.reverse++e :: Γ:=by rw [List.reverse_cons,List.append_assoc]; rfl
  rw [h3]
  exact h2
 | @H8 hd α V Sc cl en A as d n x y v xs k j t ty ops i sl ms fr Γ Γx f ht hy hr qi hn _ ih=>
  intro hv hx hA B o ho r0 w0 H Z ha hs hp
  replace qi:SO Sc V cl en:=by cases qi; assumption
  obtain ⟨z,hz,ho⟩:=bind_some ho
  replace hz:=qa hz
  obtain ⟨e,i',h1,h2,h3⟩:=ht.h
  obtain ⟨F,Hd,hL,hS,hG,hK⟩:=stay hs
  obtain ⟨dv,_,⟨⟨f0,GN,zG⟩,_⟩,_⟩:=hr.sound hS
  have hZ:∀ b∈f0,Z b:=fun b hb=>(zG b hb).elim (fun h=>h) (fun h=>h)
  obtain ⟨⟨a,c,n7⟩,bp,cs,f1,ei,NR,kz⟩:=wF GN j hz.1 hz.2
  have xc:(rj Sc).size=n:=hn
  rw [xc] at kz
  obtain ⟨u,rfl,pj⟩:=qi.op ei.2
  have hblk:Z (dg v n j).block:=by
   obtain ⟨base,cap,n7,ig⟩:=GN
   rcases ig with ⟨rfl,_⟩ | ⟨b,off,cr,e',fz,f',rfl,_,rfl,_⟩
   ·simp at bp; omega
   ·obtain rfl:v = .slice (some ⟨b,off,none⟩) xs.length cap:=by simpa using n7
    have:(dg (.slice (some ⟨b,off,none⟩) xs.length cap) n j).block=b:=by unfold dg; rw [w9]
    rw [this]; exact hZ b (by simp)
  have Ii:fact Z w0 [] (.bn (dg v n j) (cl z u)):=⟨fun i u' hi=>kz i u' hi,fun _=>hblk⟩
  have ew:HL Z w0 (.bn (dg v n j) (cl z u) :: en z u) []:=.fact Ii (wD (pj Z fun b hb=>hZ b (NR b hb)))
  obtain ⟨F',zF,jo⟩:=ew.build hS
  refine ih z u hA.n B o ho r0 w0 H Z ha ⟨F',Hd,hL,jo,hG.perm (List.Perm.append_left H (by simpa using zF))⟩ (hp.val hh ha hA hv fun r ig _ _ _ w hC=>?_)
  rw [l5 h1 h2 ((bI ig hx).trans n7) (bI ig hy) hz.1 (by omega),h3,n7]
  rfl
 | @VF hd α V Sc cl en A as d n e bt x y v us xs k j t ty ops i sl ms fr Γ Γ1 f ht hy h1 hg qi _ ih=>
  intro hv hx hA B o ho r0 w0 H Z ha hs hp
  replace qi:SO Sc V cl en:=by cases qi; assumption
  obtain ⟨z,hz,ho⟩:=bind_some ho
  replace hz:=qa hz
  obtain ⟨q1,i',_,q2,_,_,q3,_⟩:=ht.h
  obtain ⟨F,Hd,hL,hS,hG,hK⟩:=stay hs
  obtain ⟨f0,F1,_,hO,_⟩:=h1.sound hS
  obtain ⟨g0,hk,ug⟩:=hg.rd hS []
  obtain ⟨c,g1,e1,e2,e3⟩:=EE j.toNat hk.2.1 hz.2
  obtain ⟨u,rfl,pj⟩:=qi.op e2
  have hlen:us.length=xs.length:=Cf hk.2.1
  have bp:j.toNat < xs.length:=(List.getElem?_eq_some_iff.1 hz.2).1
  have n7:∃ a c,v = .slice (some a) us.length c:=by
   obtain ⟨b0,cap,hv,hr⟩:=hO
   obtain rfl:v = .slice b0 us.length cap:=by simpa using hv
   rcases hr with ⟨_,_,rfl,_⟩ | ⟨b,cur,f',rfl,_⟩
   ·rw [← hlen] at bp; simp at bp
   ·exact ⟨_,_,rfl⟩
  obtain ⟨a,c',rfl⟩:=n7
  have ew:HL Z w0 (.rd false (B2 us j) (.bool true) (cl z u) :: en z u) []:=.fact ⟨[],⟨rfl,⟨hz.1,e1⟩,rfl⟩,fun _ h=>absurd h List.not_mem_nil⟩ (wD (pj Z fun b hb=>ug b (e3 b hb)))
  obtain ⟨F',zF,jo⟩:=ew.build hS
  refine ih z u hA.n B o ho r0 w0 H Z ha ⟨F',Hd,hL,jo,hG.perm (List.Perm.append_left H (by simpa using zF))⟩ (hp.val hh ha hA hv fun r ig _ _ _ w hC=>?_)
  rw [l5 q1 q2 (bI ig hx) (bI ig hy) hz.1 (by omega),q3]
  rfl
 | @laG hd A as d n e off x v u us j cs t ty ops i sl ms fr Γ Γ1 m h1 vG hc _ ih=>
  intro hv hx ht hA B o ho r0 w0 H Z ha hs hp
  obtain ⟨F,_,_,hS,_,hK⟩:=stay hs
  refine ih hA.n B o ho r0 w0 H Z ha hs (hp.val hh ha hA hv fun r hr _ _ _ w hC=>?_)
  obtain ⟨f,F1,_,hO,_⟩:=h1.sound (hK w hC)
  obtain ⟨_,⟨_,⟨hj,hu⟩,_⟩,_⟩:=vG.rd (hK w hC) []
  exact Ld ht ((zM hO hj hu).2.2 off u hc) (bI hr hx) w (ay.refl _ _)
 | @VG hd A as d n e x v u us j cs t ty ops i sl ms fr Γ Γ1 m h1 vG hc _ ih=>
  intro hv hx ht hA B o ho r0 w0 H Z ha hs hp
  obtain ⟨F,_,_,hS,_,hK⟩:=stay hs
  refine ih hA.n B o ho r0 w0 H Z ha hs (hp.val hh ha hA hv fun r hr _ _ _ w hC=>?_)
  obtain ⟨f,F1,_,hO,_⟩:=h1.sound (hK w hC)
  obtain ⟨_,⟨_,⟨hj,hu⟩,_⟩,_⟩:=vG.rd (hK w hC) []
  exact Ld ht ((zM hO hj hu).2.2 0 u hc) (bI hr hx) w (ay.refl _ _)
 | load hv hx _ ih=>rename_i ht _; exact fun h1=>ih hv hx ht.h h1
 | lsw _ _ ih=>exact fun hv hx ht h1=>ih hv hx ht h1
 | @abO hd α A as d x v j E z o' t ty ops i sl ms fr Γ VE jh m hV h Ci _ ih=>
  intro hv hx ht h1 B o ho r0 w0 H Z ha hs hp
  obtain ⟨F,Hd,⟨hL,VZ⟩,hS,hG,hK⟩:=stay hs
  obtain ⟨_,⟨u,k,h3,h4,h5⟩,_⟩:=(h (.bool true)).sound hL
  obtain ⟨dv,⟨u',k',h4',h5',h6⟩,wE⟩:=(h u).sound hL
  rw [h3] at h4'
  cases h4'
  exact ih u h1.n B o ho r0 w0 H Z ha ⟨F,Hd,⟨(Ci u).sound h3 (wE ⟨k',h5',h6⟩),VZ⟩,hS,hG⟩ (hp.abS hh ha h1 hV hv fun r hr _ _ _ w hC=>Ld ht h3 (bI hr hx) w hC)
 | @Vj hd α A as d x v j o E z t ty ops i sl ms fr Γ Γx m h _ ih=>
  intro hv hx ht h1 B o' ho r0 w0 H Z ha hs hp
  obtain ⟨F,Hd,hL,hS,hG,hK⟩:=stay hs
  obtain ⟨_,⟨u,k,h2,h3,_⟩,_⟩:=h.sound hS
  refine ih hv hx ht h1 B o' ho r0 w0 H Z ha hs ⟨u,fun w hC=>?_⟩ hp
  have hb:(dg v 1 j).block ∉ H:=fun hm=>(h.Cg hS).elim (fun h=>h.elim (fun h=>absurd h List.not_mem_nil) fun h=>(List.nodup_append.1 hG.nd).2.2 _ hm _ h rfl) fun h=>hG.apart _ (List.mem_append_left _ hm) h
  have hc:=hC.cell hb h2
  obtain ⟨_,⟨u',k',h4,h5,_⟩,_⟩:=h.sound (hK w hC)
  rw [hc] at h4
  cases h4
  exact ⟨hc,k',h5⟩
 | Vk h _ ih=>
  intro hv hx ht h1 B o ho r0 w0 H Z ha hs hp
  obtain ⟨F,_,_,hS,_,hK⟩:=stay hs
  exact ih h1.n B o ho r0 w0 H Z ha hs (hp.val hh ha h1 hv fun r hr _ _ _ w hC=>Ld ht (h.sound (hK w hC)) (bI hr hx) w (ay.refl _ _))
 | NL h _ ih=>
  intro hv hx ht h1 B o ho r0 w0 H Z ha hs hp
  obtain ⟨F,_,_,hS,_,hK⟩:=stay hs
  refine ih h1.n B o ho r0 w0 H Z ha hs (hp.val hh ha h1 hv fun r hr _ _ _ w hC=>?_)
  obtain ⟨h2,h3⟩:=h.sound (hK w hC)
  exact Lg ht h2 (bI hr hx) h3 w (ay.refl _ _)
 | Vl _ ih=>
  intro hv hx ht h1 B o ho r0 w0 H Z ha hs hu hp
  obtain ⟨u,hu⟩:=hu
  obtain ⟨_,_,h3,_⟩:=hu w0 (ay.refl _ _)
  obtain rfl:u=_:=by simpa using h3
  exact ih h1.n B o ho r0 w0 H Z ha hs (hp.val hh ha h1 hv fun r hr _ _ _ w hC=>Ld ht (hu w hC).1 (bI hr hx) w (ay.refl _ _))
 | @Vm hd α A as d x v j E z o' t ty ops i sl ms fr Γ Γ1 Γ' m h Ci _ ih=>
  intro hv hx ht h1 B o ho r0 w0 H Z ha hs hu hp
  obtain ⟨u,hu⟩:=hu
  obtain ⟨h2,_⟩:=hu w0 (ay.refl _ _)
  obtain ⟨F,Hd,hL,hS,hG,hK⟩:=stay hs
  obtain ⟨dv,⟨u',k',h4,h5,h6⟩,wE⟩:=(h u).sound hS
  rw [h2] at h4
  cases h4
  exact ih u h1.n B o ho r0 w0 H Z ha ⟨F,Hd,hL,(Ci u).sound h2 (wE ⟨k',h5,h6⟩),hG⟩ (hp.val hh ha h1 hv fun r hr _ _ _ w hC=>Ld ht (hu w hC).1 (bI hr hx) w (ay.refl _ _))
 | @H9 hd α A as d t e ty E z0 bt ops i sl ms Γ m hz _ ih=>
  intro h1 B o ho r0 w0 H Z ha hs hp
  exact ih h1.n B o ho r0 w0 H Z ha hs (Ub hz h1 hp)
 | NK hU _ ih=>exact fun h1=>ih hU h1
 | @call hd β V A as d f xs bn ty mo rt ps ops i sl ms fr Γ g hf hv hc hi iT hw _ ih=>
  intro _ h1 B o ho r0 w0 H Z ha hs hp
  obtain ⟨y,hy,ho⟩:=bind_some ho
  obtain ⟨pos,ai,h2⟩:=h1.o
  exact ih y h1.n (by unfold bw; rw [h2]; rfl) B o ho r0 w0 H Z ha hs (P7 hh hf hv hc hi iT hw h1 hy ha hs hp)
 | @Zi hd β V A as d f xs bn ty mo rt ps ops i sl ms fr Γ g hf hV hv hc hi iT hw _ ih=>
  intro hU h1 B o ho r0 w0 H Z ha hs hp
  obtain ⟨y,hy,ho⟩:=bind_some ho
  obtain ⟨pos,ai,h2⟩:=h1.o
  exact ih y h1.n (by unfold bw; rw [h2]; rfl) B o ho r0 w0 H Z ha hs (N3 hh hf hv hU hV hc hi iT hw h1 hy ha hs hp)
 | @Zj hd β V j1 a1 po A as d f xs bn ty mo rt ps ops i sl ms fr Γ g hf hg SJ h4 hv hc hi iT hw _ ih=>
  intro hU h1 B o ho r0 w0 H Z ha hs hp
  obtain ⟨y,hy,ho⟩:=bind_some ho
  obtain ⟨pos,ai,h2⟩:=h1.o
  exact ih y h1.n (by unfold bw; rw [h2]; rfl) B o ho r0 w0 H Z ha hs (let ⟨S',e1,e2,e3⟩:=N6 hh hf hv hU hg SJ h4 hc hi iT hw h1 hy ha hs hp; ⟨S',e1,e2.re (qo (by rw [← h1.A]; exact oy.1 h4)).1,e3⟩)
 | @crb hd u ps d as ops i sl ms Γ m _ ih=>
  intro h1 jh B o ho r0 w0 H Z ha hs ⟨S',hl,hR,hO,hL⟩
  subst hl
  refine ih h1 B o ho r0 w0 H Z ha hs ⟨S'++[⟨true,MV Z ⟨S'.length,d,[],Unit,fun _=>u,fun _=>ps⟩⟩],by simp,(hR.mem (b:=⟨S'.length,d,[],Unit,fun _=>u,fun _=>ps⟩) rfl jh (fun _ h=>nomatch h)).abP (s:=⟨true,MV Z ⟨S'.length,d,[],Unit,fun _=>u,fun _=>ps⟩⟩) jh (by simp) rfl (fun f w r x ⟨v,h,_⟩=>h),fun j hj=>?_⟩
  by_cases h2:j < S'.length
  ·exact iH.more (hO j h2) h2
  ·obtain rfl:j=S'.length:=by omega
   exact hL _ fun f w r x h=>⟨f,fun _ h=>h,h⟩
 | @crv hd u d as ops i sl ms Γ m _ ih=>
  intro h1 jh B o ho r0 w0 H Z ha hs ⟨S',hl,hR,hO,hL⟩
  subst hl
  refine ih h1 B o ho r0 w0 H Z ha hs ⟨_,by simp,hR.val jh,fun j hj=>?_⟩
  by_cases h2:j < S'.length
  ·exact iH.more (hO j h2) h2
  ·obtain rfl:j=S'.length:=by omega
   exact hL (pl fun _ _ x=>x=_) fun f w r x ⟨v,h,_⟩=>⟨[],fun _ h=>absurd h List.not_mem_nil,h⟩
 | @crm hd V u ps d as ops i sl ms Γ m _ ih=>
  intro h1 jh B o ho r0 w0 H Z ha hs ⟨S',hl,hR,hO,hL⟩
  subst hl
  refine ih h1 B o ho r0 w0 H Z ha hs ⟨_,by simp,hR.mem rfl jh (fun _ h=>nomatch h),fun j hj=>?_⟩
  by_cases h2:j < S'.length
  ·exact iH.more (hO j h2) h2
  ·obtain rfl:j=S'.length:=by omega
   exact hL _ fun f w r x h=>⟨f,fun _ h=>h,h⟩
 | Vn hU _ ih=>exact fun h1=>ih hU h1
 | apH N4 hv eh h2 h5 hl hz h1 hr hy _ ih=>
  rename_i hT _
  intro hU h B o ho r0 w0 H Z ha hs hp
  obtain ⟨u,hu,ho⟩:=bind_some ho
  obtain ⟨p1,p2⟩:=Uf hh ha hT hU N4 hv eh h2 h5 hl hz h1 hr hy hu h hs hp
  exact ih h.n B o ho r0 w0 H Z ha p2 p1
 | ap1 h1 h2 h3 hw h4 h5 _ ih=>
  rename_i hz _
  intro h6 h B o ho r0 w0 H Z ha hs hp
  obtain ⟨u,hu,ho⟩:=bind_some ho
  exact ih h.n B o ho r0 w0 H Z ha hs (T5 hz h1 h2 h3 h4 h5 (h6.trans hw) hu h hp)
 | sw1 _ _ ih=>exact fun h1=>ih h1
 | sw2 _ _ ih=>exact fun h1=>ih h1
 | sw4 _ _ ih=>exact fun h1=>ih h1
 | SI _ ih=>
  rename_i hz _
  intro h1 B o ho r0 w0 H Z ha hs hp
  exact ih h1.n B o ho r0 w0 H Z ha hs (T8 hz h1 hp)
 | sw5 _ _ ih=>exact fun h1=>ih h1
 | mln hi iT hx _ ih=>
  rename_i ht _
  intro h1 B o ho r0 w0 H Z ha hs hp
  exact ih h1.n B o ho r0 w0 H Z ha hs (VK hp h1 ht hi iT hx)
 | wv hv hq _ ih=>
  intro h1 B o ho r0 w0 H Z ha hs hp
  obtain ⟨F,_,_,_,_,hK⟩:=stay hs
  exact ih h1.n B o ho r0 w0 H Z ha hs (hp.val hh ha h1 hv fun r hr _ _ _ w hC=>hq.sound (hK w hC) hr _ _ _ _ _ w (ay.refl _ _))
 | wlt hv hx ho _ ih=>
  rename_i hz _
  intro h1 B o ch r0 w0 H Z ha hs hp
  obtain ⟨F,_,_,_,_,hK⟩:=stay hs
  exact ih h1.n B o ch r0 w0 H Z ha hs (VM hh ha hz hv hx ho hK h1 hp)
 | ltn hv jh hn hb _ ih=>
  rename_i hz _
  intro h1 B o ch r0 w0 H Z ha hs hp
  obtain ⟨F,_,_,_,_,hK⟩:=stay hs
  exact ih h1.n B o ch r0 w0 H Z ha hs (Lc hh ha hz hv jh hn hb hK h1 hp)
 | ltu hv jh hn hb _ ih=>
  rename_i hz _
  intro h1 B o ch r0 w0 H Z ha hs hp
  obtain ⟨F,_,_,_,_,hK⟩:=stay hs
  exact ih h1.n B o ch r0 w0 H Z ha hs (Lc hh ha ⟨hz.h⟩ hv jh hn hb hK h1 hp)
 | @uz hd A as op x y k k' a b t t' d ty ops i sl ms fr Γ f hv hx hy hk _ ih=>
  intro h1 B o ho r0 w0 H Z ha hs hp
  obtain ⟨z,hz,ho⟩:=bind_some ho
  have yC:NJ op=true∨k=k':=by
   cases hk with
   | same=>exact .inr rfl
   | sh h=>exact .inl h
  exact ih z h1.n B o ho r0 w0 H Z ha hs (hp.val hh ha h1 hv fun r hr _ _ _ w hC=>NQ (bI hr hx) (bI hr hy) yC hz)
 | mk hv hx _ ih=>
  rename_i hz _
  intro h1 B o ho r0 w0 H Z ha hs hp
  obtain ⟨n,hn,ho⟩:=bind_some ho
  exact ih n h1.n B o ho r0 w0 H Z ha hs (VL hh ha hz hv hx hn h1 hp)
 | mmv hi iT hj _ ih=>
  intro h1 B o ho r0 w0 H Z ha hs hp
  exact ih h1.n B o ho r0 w0 H Z ha hs (hp.dep (X:=fun u=>u) h1 hi iT hj fun r x hx w pos ai=>(Mv (W:=w) _ rfl) w (ay.refl _ _))
 | @mex hd t k A as d ty ops i sl ms Γ m hi iT hj IH _ ih=>
  intro h1 B o ho r0 w0 H Z ha hs hp
  refine ih h1.n B o ho r0 w0 H Z ha hs (hp.dep (X:=fun u=>Mk u _) h1 hi iT hj fun r x hx w pos ai=>?_)
  obtain ⟨Au,hc⟩:=IH x
  have Cr:=(tx hx yi) _ _ (by rw [List.append_nil]; exact Au)
  have:=(Ex (W:=w) (P:=P) (r:=r) (d:=some d) (ty:=ty) (pos:=pos) (ai:=ai) (g:=none) _ (x:=.tmp t) Cr (by simpa using hc)) w (ay.refl _ _)
  rw [this,Cr]
  simp [Mk,hc]
 | mbl hi iT _ hj hv IH _ ih=>
  rename_i hb _ _
  intro h1 B o ho r0 w0 H Z ha hs hp
  exact ih h1.n B o ho r0 w0 H Z ha hs (T9 hh hb hi iT hj hv IH h1 ha hs hp)
 | mlt hi iT hj IH _ ih=>
  rename_i hz _
  intro h1 B o ho r0 w0 H Z ha hs hp
  exact ih h1.n B o ho r0 w0 H Z ha hs (Uc hz hi iT hj IH h1 hp)
 | mls hb hi iT hj IH _ ih=>
  rename_i hz _
  intro h1 B o ho r0 w0 H Z ha hs hp
  exact ih h1.n B o ho r0 w0 H Z ha hs (Ue hz hb hi iT hj IH h1 hp)
 | val hv hq _ ih=>
  intro h1 B o ho r0 w0 H Z ha hs hp
  obtain ⟨F,_,_,_,_,hK⟩:=stay hs
  exact ih h1.n B o ho r0 w0 H Z ha hs (hp.val hh ha h1 hv fun r hr _ _ _ w hC=>hq.sound (hK w hC) hr _ _ _ _ _ w (ay.refl _ _))
end
end Go.Dk
namespace Go.Dk
open Go Go.Li
section
variable {R S:Type} {P:Program} {cx:Cx R} {K:dq R S} {l tail:LO} {base fr:Fr} {w:World} {Z:Nat→Prop}
theorem Kw {n:Nat} {Q:Exit→(Nat→Value)→World→Prop} {r:NV} (hQ:∀ c,¬ Q (.panic c) r w):∀ iz,∀ c,¬ Df P n Q iz (.panic c) r w:=by
 intro iz
 induction iz with
 | nil=>exact hQ
 | cons a iz ih=>cases a <;> exact ih
theorem Kx {B:Bs} {b:Kb R S} {o:Out S R} {r:NV}:∀ c,¬ L9 P cx B b o (.panic c) r w:=by
 intro c
 cases b <;> cases o <;> exact fun h=>h
theorem Ai {B:Bs} {K:dq R S} {o:Out S R} {r:NV}:∀ c,¬ lu P cx B K o (.panic c) r w:=Kw Kx _
def Bp (g:Nat→List Nat):List gx→List Nat
 | []=>[]
 | a :: l=>g a.j++Bp g l
theorem Ed {g:Nat→List Nat}:∀ {ms:MM} {b:Nat},b∈Bp g ms→∃ a∈ms,b∈g a.j:=by
 intro ms
 induction ms with
 | nil=>intro b h; exact absurd h List.not_mem_nil
 | cons a ms ih=>
  intro b h
  rcases List.mem_append.1 h with h | h
  ·exact ⟨a,by simp,h⟩
  ·obtain ⟨c,h1,h2⟩:=ih h
   exact ⟨c,List.mem_cons_of_mem _ h1,h2⟩
theorem Lj {Vo Vr A F:LN} (h:(Vo++Vr).Perm A):((Vo++F)++Vr).Perm (A++F):=by
 refine List.Perm.trans ?_ (h.append_right F)
 rw [List.append_assoc,List.append_assoc]
 exact List.Perm.append_left Vo List.perm_append_comm
theorem SN {g:Nat→List Nat} {r:NV}:∀ {ms:MM},Bd ms=true→(ms.map (·.j)).Nodup→(∀ a∈ms,∀ b∈ms,a.j≠b.j→si (g a.j) (g b.j))→(∀ a∈ms,MV Z a (g a.j) w r (r a.d))→
  ∃ x:nv ms,(∀ p∈mF ms x,r p.1=p.2)∧(∃ Vo Vr,(Vo++Vr).Perm (Bp g ms)∧(∀ b∈Vr,b < w.heap.size)∧HL (r6 Z Vr) w (Cm ms x) Vo)∧(Bp g ms).Nodup:=by
 intro ms
 induction ms with
 | nil=>intro _ _ _ _; exact ⟨(),fun p hp=>absurd hp List.not_mem_nil,⟨[],[],.refl _,fun b (h:b∈[])=>absurd h List.not_mem_nil,.nil⟩,List.nodup_nil⟩
 | cons a ms ih=>
  intro iT hd hi h
  unfold Bd at iT
  rw [Bool.and_eq_true] at iT
  rw [List.map_cons,List.nodup_cons] at hd
  obtain ⟨x,hx,hl,hn⟩:=ih iT.2 hd.2 (fun b hb c hc=>hi b (List.mem_cons_of_mem _ hb) c (List.mem_cons_of_mem _ hc)) fun b hb=>h b (List.mem_cons_of_mem _ hb)
  obtain ⟨v,e1,e2,e3⟩:=h a (by simp)
  have es:xI a r=Ck a (mF ms x):=by
   have h3:=iT.1
   rw [List.all_eq_true] at h3
   refine Di fun t ht=>?_
   unfold zI
   rw [PX (h3 t ht) hx]
  rw [es] at e1 e2
  refine ⟨(v,x),?_,?_,zL e3 hn ?_⟩
  rotate_left
  ·obtain ⟨Fo,Fr,hf,h1,h2⟩:=e2.all
   obtain ⟨Vo,Vr,k1,k2,k3⟩:=hl
   refine ⟨Fo++Vo,Fr++Vr,?_,fun b hb=>(List.mem_append.1 hb).elim (h1 b) (k2 b),(h2.mono fun b h=>h.imp id fun h=>List.mem_append_left _ h).app (k3.mono fun b h=>h.imp id fun h=>List.mem_append_right _ h)⟩
   show List.Perm _ (g a.j++Bp g ms)
   rw [hf]
   refine List.Perm.trans ?_ (k1.append_left (Fo++Fr))
   rw [List.append_assoc,List.append_assoc]
   refine List.Perm.append_left Fo ?_
   rw [← List.append_assoc,← List.append_assoc]
   exact List.Perm.append_right Vr List.perm_append_comm
  rotate_right
  ·intro p hp
   rcases List.mem_cons.1 hp with rfl | hp
   ·exact e1
   ·exact hx p hp
  ·intro b hb hm
   obtain ⟨c,h1,h2⟩:=Ed hm
   exact hi a (by simp) c (List.mem_cons_of_mem _ h1) (fun e=>hd.1 (by rw [e]; exact List.mem_map_of_mem h1)) b hb h2
theorem II {r:NV} {f:Fr}:∀ {sl:LQ},(∀ p∈sl,r p.2.1=p.2.2)→(∀ p∈f,r p.1=p.2)→∀ p∈Af sl f,r p.1=p.2:=by
 intro sl
 induction sl with
 | nil=>intro _ h; exact h
 | cons a sl ih=>
  intro h1 h2 p hp
  rcases List.mem_cons.1 hp with rfl | hp
  ·exact h1 a (by simp)
  ·exact ih (fun p hp=>h1 p (List.mem_cons_of_mem _ hp)) h2 p hp
theorem IJ {mt:Nat} {U:LL} {IK:QE} (hh:l6 l mt base=true) {sl:LQ} {ms:MM} {Γ:QE} {m:Option (Out S R)} (IL:Bd ms=true) (pj:Ag U sl ms=true)
  (h:∀ x:nv ms,D P cx (.p (Af sl (mF ms x)) (Cm ms x) base Γ fun fr Γ=>.tg false (Bb tail) l tail K Γ fr m)) {B:Bs} {o:Out S R} (ho:m=some o) {r0:NV} {w0:World} {H:LN} {Z:Nat→Prop} (ha:di r0 base) (hs:ui B Z IK Γ H w0) {S':List fv} (hi:S'.length=mt) (hR:iv Z l S' sl ms) :
  ∀ g r w,yE l mt S' U r0 w0 H (fun j=>j < mt) g r w→WL P l tail r w (lu P cx B K o .normal):=by
 obtain ⟨F,Hd,⟨Cs,Cu,wI,Cv⟩,hS,hG⟩:=hs
 intro g r w hI
 have Mp:∀ k j,j∈U.getD k []→∀ a∈ms,a.j≠j:=by
  intro k j hj
  unfold Ag at pj
  rw [Bool.and_eq_true] at pj
  rw [List.getD_eq_getElem?_getD] at hj
  cases hk:U[k]? with
  | none=>rw [hk] at hj; exact absurd hj List.not_mem_nil
  | some us=>
   rw [hk] at hj
   have h1:=List.all_eq_true.1 (List.all_eq_true.1 pj.1 us (List.mem_of_getElem? hk)) j hj
   intro a ha he
   have:=List.all_eq_true.1 h1 a ha
   rw [he,Nat.beq_refl] at this
   cases this
 have hD:∀ j,j < mt→(∀ k,j ∉ U.getD k [])→vJ l S' j g r w:=fun j hj hn=>hI.done j hj fun k _=>hn k
 have bp:∀ a∈ms,a.j < mt:=fun a ha=>hi ▸ hR.lt ha
 obtain ⟨x,hx,qv,V0⟩:=SN (g:=g) (r:=r) (w:=w) IL hR.d (fun a ha b hb xi=>hI.xQ _ _ (bp a ha) (bp b hb) xi) fun a ha=>by
  have:=hR.Iv (S2:=[]) ha (by rw [List.append_nil]; exact hD a.j (bp a ha) (fun k hk=>Mp k _ hk a ha rfl))
  exact this
 have ET:=List.nodup_append.1 hG.nd
 have qk:∀ b∈Bp g ms,w0.heap.size≤b∨b∈H:=fun b hb=>by
  obtain ⟨a,h1,h2⟩:=Ed hb
  exact (hI.fresh a.j (bp a h1) b h2).1.imp (fun h=>h) (·.1)
 have jc:=ui.stay hS hG hI.ly
 obtain ⟨Vo,Vr,V1,V2,qv⟩:=qv
 obtain ⟨F',hp,jo⟩:=qv.build (jc.mono (fun _ h=>.inl h) fun _ h=>h)
 have IN:Gd B Z (Bp g ms++F) w:=by
  refine ⟨zL V0 ET.2.1 fun b hb hF=>(qk b hb).elim (fun h=>Nat.lt_irrefl _ (Nat.lt_of_lt_of_le (hS.lt b hF) h)) (fun h=>ET.2.2 b h b hF rfl),?_,fun b hb=>Nat.lt_of_lt_of_le (hG.sy b hb) hI.ly.size,?_,hG.zy,hG.Ab,hG.ly.then hI.ly fun b hb=>hG.low b (List.mem_append_left _ hb)⟩
  ·intro b hb hz
   rcases List.mem_append.1 hb with hb | hb
   ·exact (qk b hb).elim (fun h=>Nat.lt_irrefl _ (Nat.lt_of_lt_of_le (hG.sy b hz) h)) (fun h=>hG.apart b (List.mem_append_left _ h) hz)
   ·exact hG.apart b (List.mem_append_right _ hb) hz
  ·intro b hb
   rcases List.mem_append.1 hb with hb | hb
   ·exact (qk b hb).elim (fun h=>.inr (Nat.le_trans hG.ly.size h)) (fun h=>hG.low b (List.mem_append_left _ h))
   ·exact hG.low b (List.mem_append_right _ hb)
 have P8:di r ((Af sl (mF ms x)).reverse++base):=by
  refine wB (II (fun p hp=>?_) hx) (mj hh ha hI.other)
  exact hR.zJ (S2:=[]) hp fun j _ hj=>(by rw [List.append_nil]; exact hI.uh j (hi ▸ hj))
 have:=(h x).sound B o ho r w P8 ⟨_,F',jo,((IN.perm (Lj V1)).freeze V2).perm hp⟩
 exact this
theorem Ug {mt id:Nat} {U:LL} {Zl:LN} {IK:QE} (hU:((List.range mt).all fun i=>(U.getD i []).all fun u=>Nat.beq u l.length || ((cc l).getD i []).contains u)=true) (hh:l6 l mt base=true) (hd:dj cx.n l=true) (hA:xK l mt Zl=true) (hZ:DO l mt Zl=true) (GY:mt≤l.length) (ht:tail=l.drop mt) {i:Nat} {sl:LQ} {ms:MM} {Γ:QE} {m:Option (Out S R)} (IL:Bd ms=true) (pj:Ag U sl ms=true)
  (h:∀ x:nv ms,D P cx (.p (Af sl (mF ms x)) (Cm ms x) base Γ fun fr Γ=>.tg false (Bb tail) l tail K Γ fr m)):IG P cx K l l mt U IK id base (.a [] [] i sl ms Γ m):=by
 rintro ⟨_,h2,h3⟩ B o ho r0 w0 H Z ha hs ⟨S',hl,hR,hO⟩
 have hi:i=mt:=by
  have:=congrArg List.length h2
  simp at this
  omega
 subst hl
 have V3:=hs
 obtain ⟨F,Hd,⟨Cs,Cu,wI,Cv⟩,hS,hG⟩:=hs
 refine N8 (N:=Z) (S:=S') (U:=U) (H:=H) hd hA hZ (fun c r w h=>Ai c h) GY hi wI hU (fun b hb=>⟨hG.sy b hb,fun h=>hG.apart b (List.mem_append_left _ h) hb⟩) (fun i s hs=>hR.s i s hs) (fun j hj=>hO j (by omega)) ?_
 intro g r w hI
 have:=IJ hh IL pj h ho ha V3 hi hR g r w hI
 rwa [ht] at this
def Kq (q:Option (Bool×Nat×Value)) (f:Fr):Fr:=
 match q with
 | none=>f
 | some (_,d,u)=>(d,u) :: f
theorem Kp.lk {ws:LN} {q:Option (Bool×Nat×Value)} {f g:Fr} (h:Kp ws q f g):(∀ b d u,q=some (b,d,u)→b=gp d ws)→∀ t v,look g t=some v→gp t ws=false∧look (Kq q f) t=some v:=by
 induction h with
 | nil=>intro _ t v h; cases h
 | cons _ ih=>intro _ t v h; exact ih (by rintro b d u h; cases h; rfl) t v h
 | @drop ws d u f g _ ih=>
  intro hq t v h
  obtain ⟨h1,h2⟩:=ih (by rintro b d u h; cases h) t v h
  refine ⟨h1,?_⟩
  show look ((d,u) :: f) t=some v
  unfold look
  cases hb:Nat.beq t d with
  | true=>have:=hq true d u rfl; rw [Nat.eq_of_beq_eq_true hb,← this] at h1; cases h1
  | false=>exact h2
 | @fk ws d u f g _ ih=>
  intro hq t v h
  unfold look at h
  show gp t ws=false∧look ((d,u) :: f) t=some v
  unfold look
  cases hb:Nat.beq t d with
  | true=>rw [hb] at h; exact ⟨by rw [Nat.eq_of_beq_eq_true hb]; exact (hq false d u rfl).symm,h⟩
  | false=>
   rw [hb] at h
   obtain ⟨h1,h2⟩:=ih (by rintro b d u h; cases h) t v h
   unfold gp at h1
   rw [hb] at h1
   exact ⟨h1,h2⟩
theorem Kp.sound {ws:LN} {f g:Fr} {r:NV} (h:Kp ws none f g) (ha:di r f):di r g:=
 fun t v hl=>ha t v (h.lk (by rintro b d u h; cases h) t v hl).2
theorem V4 {id:Nat} (hd:QE) (mt:Nat) (Zl:LN) (U as:LL) {ops:LO} {Γ Γ1:QE} {fr:Fr} {m:Option (Out S R)}
  (hB:(P.follows .mixedOrders && dj cx.n l && xK l mt Zl && DO l mt Zl && Nat.ble mt l.length && (kp l U mt == as) && ((List.range mt).all fun i=>(U.getD i []).all fun u=>Nat.beq u l.length || ((cc l).getD i []).contains u))=true)
  (ho:ops=l.take mt) (ht:tail=l.drop mt) (hf:Kp (yy ops) none fr base) (hh:l6 l mt base=true) (he:EO Γ hd Γ1) (IP:OW Γ hd)
  (h:AD false P cx K l tail base U hd (.a as ops 0 [] [] Γ1 m)):∀ B o,m=some o→∀ r w,di r fr→St B Γ w→mx P cx.n l (lu P cx B K o) r w:=by
 simp only [Bool.and_eq_true] at hB
 obtain ⟨⟨⟨⟨⟨⟨_,b2⟩,b3⟩,b4⟩,b5⟩,b6⟩,b7⟩:=hB
 intro B o hm r w ha hs
 obtain ⟨Z,F,hS,hG⟩:=hs
 obtain ⟨Fd,F',h1,h2,h3⟩:=he.sound hS
 have IQ:SA Z w hd [] Fd:=by
  have:=(HO.hl IP hS h1).front (Γ:=[]) (F:=[]) rfl
  simpa using this
 have hX:ui B Z hd Γ1 Fd w:=⟨F',Fd,⟨IQ,fun b hb=>⟨hb,IQ.lt b hb⟩,IQ.lt,(List.nodup_append.1 (hG.perm h3).nd).1⟩,h2,hG.perm h3⟩
 refine AD.sound (id:=id) hh (fun _ _ _ _ _ _ hs he h=>Ug b7 hh b2 b3 b4 (Nat.le_of_ble_eq_true b5) ht hs he h) h
  ⟨by rw [List.drop_zero]; exact (eq_of_beq b6).symm,by rw [List.drop_zero]; exact ho,Nat.zero_le _⟩ B o hm r w Fd Z (hf.sound ha) hX ⟨[],rfl,⟨fun _ h=>absurd h List.not_mem_nil,fun _ h=>absurd h List.not_mem_nil,fun i s h=>by simp at h,List.nodup_nil,fun _ _ _ h1 h2=>Bq l (GZ b3) h1 h2⟩,fun j hj=>absurd hj (Nat.not_lt_zero j)⟩
theorem wK {id:Nat} (hd:QE) (mt:Nat) (Zl:LN) (U as:LL) {ops:LO} {Γ Γ1:QE} {fr:Fr} {m:Option (Out S R)}
  (hB:(P.follows .mixedOrders && dj cx.n l && xK l mt Zl && DO l mt Zl && Nat.ble mt l.length && (kp l U mt == as) && ((List.range mt).all fun i=>(U.getD i []).all fun u=>Nat.beq u l.length || ((cc l).getD i []).contains u))=true)
  (ho:ops=l.take mt) (ht:tail=l.drop mt) (hf:Kp (yy ops) none fr base) (hh:l6 l mt base=true) (he:EO Γ hd Γ1) (IP:OW Γ hd)
  (h:AD false P cx K l tail base U hd (.a as ops 0 [] [] Γ1 m)):Bx (qj P cx (.dr id l K Γ fr m)):=by
 have hm:P.follows .mixedOrders=true:=by
  simp only [Bool.and_eq_true] at hB
  exact hB.1.1.1.1.1.1
 rw [rm]
 intro B o wk r w ha hs
 exact (V4 (id:=id) hd mt Zl U as hB ho ht hf hh he IP h B o wk r w ha hs).W hm
theorem abV {id:Nat} {l0:LO} (σ π:LN) (hd:QE) (mt:Nat) (Zl:LN) (U as:LL) {ops:LO} {Γ Γ1:QE} {fr:Fr} {m:Option (Out S R)}
  (hB:(P.follows .mixedOrders && P9 l0 σ π && dj cx.n (pw l0 σ π) && xK (pw l0 σ π) mt Zl && DO (pw l0 σ π) mt Zl && Nat.ble mt (pw l0 σ π).length && (kp (pw l0 σ π) U mt == as) && ((List.range mt).all fun i=>(U.getD i []).all fun u=>Nat.beq u (pw l0 σ π).length || ((cc (pw l0 σ π)).getD i []).contains u))=true)
  (hl:l=pw l0 σ π) (ho:ops=l.take mt) (ht:tail=l.drop mt) (hf:Kp (yy ops) none fr base) (hh:l6 l mt base=true) (he:EO Γ hd Γ1) (IP:OW Γ hd)
  (h:AD false P cx K l tail base U hd (.a as ops 0 [] [] Γ1 m)):Bx (qj P cx (.dr id l0 K Γ fr m)):=by
 subst hl
 simp only [Bool.and_eq_true] at hB
 obtain ⟨⟨⟨⟨⟨⟨⟨b0,b1⟩,b2⟩,b3⟩,b4⟩,b5⟩,b6⟩,b7⟩:=hB
 rw [rm]
 intro B o wk r w ha hs
 refine ((V4 (id:=id) hd mt Zl U as ?_ ho ht hf hh he IP h B o wk r w ha hs).prm b1).W b0
 simp only [Bool.and_eq_true]
 exact ⟨⟨⟨⟨⟨⟨b0,b2⟩,b3⟩,b4⟩,b5⟩,b6⟩,b7⟩
theorem any {id:Nat} (mt:Nat) (Zl:LN) (U as:LL) {ops:LO} {Γ:QE} {fr:Fr} {m:Option (Out S R)}
  (hB:(P.follows .mixedOrders && dj cx.n l && xK l mt Zl && DO l mt Zl && Nat.ble mt l.length && (kp l U mt == as) && ((List.range mt).all fun i=>(U.getD i []).all fun u=>Nat.beq u l.length || ((cc l).getD i []).contains u))=true)
  (ho:ops=l.take mt) (ht:tail=l.drop mt) (hf:Kp (yy ops) none fr base) (hh:l6 l mt base=true)
  (h:AD false P cx K l tail base U [] (.a as ops 0 [] [] Γ m)):Bx (qj P cx (.dr id l K Γ fr m)):=wK [] mt Zl U as hB ho ht hf hh .nil .nil h
end
end Go.Dk
