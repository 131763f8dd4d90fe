/- A calculus of walks: regions that draw their order and make memory. No condition. -/
import Derived.Test.YtcnehblmgfbfoaaGreatDe
import Derived.Laws.Slices
namespace Go.Dk
open Go Go.Li
section
variable {w:World}
def sF {α:Type} (e:TI) (E:ag α) (j:Nat):ag (List α) where
 size:=1
 rep h cs xs f:=∃ b cap cur f1 f2 p c0 q,cs=[.slice (some ⟨b,0,none⟩) xs.length cap]∧h[b]? = some (.cells cur e (0,0))∧f=b :: (f1++f2)∧(xs.length≤cap∧cap≤maxLen∧cur.size=cap∧E.size=1)∧cur.toList.take xs.length=p++[c0]++q∧(p.length=j∧j < xs.length)∧
  (∀ i∈f1++f2,i < h.size)∧∀ h':Array Obj,(∀ i∈f1++f2,h'[i]? = h[i]?)→∀ u z k,E.rep h' [u] z k→db E h' (p++[u]++q) (xs.set j z) (f1++k++f2)
 len:=by rintro h cs x f ⟨b,cap,cur,f1,f2,p,c0,q,rfl,_⟩; rfl
 one:=by rintro h cs x f ⟨b,cap,cur,f1,f2,p,c0,q,rfl,_⟩ v hv; simp at hv; subst hv; rfl
 congr:=by
  rintro h h' cs x f ⟨b,cap,cur,f1,f2,p,c0,q,rfl,h1,rfl,h2,h3,h4,h5,h6⟩ hb
  refine ⟨b,cap,cur,f1,f2,p,c0,q,rfl,(hb b (by simp)).trans h1,rfl,h2,h3,h4,fun i hi=>?_,fun h'' bz=>h6 h'' fun i hi=>(bz i hi).trans (hb i (List.mem_cons_of_mem _ hi))⟩
  have:=hb i (List.mem_cons_of_mem _ hi)
  rw [Array.getElem?_eq_getElem (h5 i hi)] at this
  exact (Array.getElem?_eq_some_iff.1 this).1
 lt:=by
  rintro h cs x f ⟨b,cap,cur,f1,f2,p,c0,q,rfl,h1,rfl,h2,h3,h4,h5,h6⟩ i hi
  rcases List.mem_cons.1 hi with rfl | hi
  ·exact (Array.getElem?_eq_some_iff.1 h1).1
  ·exact h5 i hi
theorem EE {α:Type} {e:TI} {E:ag α} {v u:Value} {xs:List α} {f:LN} {j:Int} {z:α} (h1:E.size=1) (hO:(aI e E).rep w.heap [v] xs f) (hz:xs[j.toNat]? = some z) (hu:w.cell? (ch v 1 j)=some u) :
  ∃ k g,E.rep w.heap [u] z k∧(k++g).Perm f∧(sF e E j.toNat).rep w.heap [v] xs g:=by
 obtain ⟨base,cap,hv,hr⟩:=hO
 obtain rfl:v = .slice base xs.length cap:=by simpa using hv
 have bc:j.toNat < xs.length:=(List.getElem?_eq_some_iff.1 hz).1
 rcases hr with ⟨_,_,rfl,_⟩ | ⟨b,cur,f0,rfl,hg,rfl,yH,yP,v8,df⟩
 ·simp at bc
 ·rw [h1,Nat.mul_one] at v8 df
  have u6:ch (.slice (some ⟨b,0,none⟩) xs.length cap) 1 j = ⟨b,j.toNat,none⟩:=by
   simp only [ch,gq,Nat.zero_add,Nat.mul_one]
  rw [u6,cell_of_row w b _ cur e _ hg] at hu
  have LC:∀ i∈f0,i < w.heap.size:=lj df
  obtain ⟨c,g0,g1,g2,p,q,BC,hc,hp,yI,sx⟩:=xH j.toNat z df hz
  subst BC
  rw [h1,Nat.mul_one] at hp
  have BD:c.length=1:=by rw [E.len yI,h1]
  obtain ⟨c0,rfl⟩ : ∃ c0,c=[c0]:=by match c,BD with | [c0],_=>exact ⟨c0,rfl⟩
  have Qv:c0=u:=by
   have h2:(cur.toList.take xs.length)[j.toNat]? = some c0:=by
    rw [hc,List.append_assoc,List.getElem?_append_right (by omega),hp,Nat.sub_self]; rfl
   rw [List.getElem?_take,if_pos bc,Array.getElem?_toList,hu] at h2
   exact (Option.some.inj h2).symm
  subst Qv
  refine ⟨g1,b :: (g0++g2),yI,?_,b,cap,cur,g0,g2,p,c0,q,rfl,hg,rfl,⟨yH,yP,v8,h1⟩,hc,⟨hp,bc⟩,fun i hi=>LC i (by rcases List.mem_append.1 hi with hi | hi <;> simp [hi]),fun h' bz u z' k' hr=>sx h' [u] z' k' (fun i hi=>bz i (by simp [hi])) (fun i hi=>bz i (by simp [hi])) hr⟩
  refine (List.perm_append_comm (l₁:=g1) (l₂:=b :: (g0++g2))).trans ?_
  rw [List.cons_append]
  refine List.Perm.cons b ?_
  rw [List.append_assoc,List.append_assoc]
  exact List.Perm.append_left g0 List.perm_append_comm
end
structure fg where
 j:Nat
 d:Nat
 src:List Nat
 V:Type
 rt:Value→V→Value
 ps:Value→V→List ao
abbrev MM:=List fg
def pP:List fg→Type
 | []=>Unit
 | a :: l=>a.V×pP l
def yX (f:NV):List Nat→Value
 | []=>undef
 | [t]=>f t
 | ts=>.tuple (ts.map f).toArray
def wk (f:Fr) (t:Nat):Value:=match look f t with
 | some v=>v
 | none=>undef
def wT (a:fg) (r:NV):Value:=yX r a.src
def yY (a:fg) (f:Fr):Value:=yX (wk f) a.src
theorem z6 {f g:NV}:∀ {ts:LN},(∀ t∈ts,f t=g t)→yX f ts=yX g ts:=by
 intro ts h
 match ts,h with
 | [],_=>rfl
 | [t],h=>exact h t (by simp)
 | t :: s :: ts,h=>
  show Value.tuple (List.map f (t :: s :: ts)).toArray=Value.tuple (List.map g (t :: s :: ts)).toArray
  rw [List.map_congr_left h]
def mF:(ms:MM)→pP ms→Fr
 | [],_=>[]
 | a :: l,x=>(a.d,a.rt (yY a (mF l x.2)) x.1) :: mF l x.2
def A6:(ms:MM)→pP ms→List ao
 | [],_=>[]
 | a :: l,x=>a.ps (yY a (mF l x.2)) x.1++A6 l x.2
def pw (A:LN):(ms:MM)→pP ms→Fr
 | [],_=>[]
 | a :: l,x=>bif gh a.j A then (a.d,a.rt (yY a (mF l x.2)) x.1) :: pw A l x.2 else pw A l x.2
def rb (A:LN):(ms:MM)→pP ms→List ao
 | [],_=>[]
 | a :: l,x=>bif gh a.j A then a.ps (yY a (mF l x.2)) x.1++rb A l x.2 else rb A l x.2
def rH (t:Nat):List fg→Option Nat
 | []=>none
 | a :: l=>bif Nat.beq t a.d then some a.j else rH t l
def xO (ms:MM):List (Nat×Operand)→List Nat
 | []=>[]
 | (_,.tmp s) :: l=>match rH s ms with
  | some _=>s :: xO ms l
  | none=>xO ms l
 | _ :: l=>xO ms l
def VM (s:Nat):List Nat→Option Nat
 | []=>none
 | t :: l=>bif Nat.beq s t then some 0 else (VM s l).map (·+1)
def W7 (v:Value) (k:Nat):Value:=match v with
 | .tuple vs=>vs.toList.getD k undef
 | _=>undef
def W8 (f:Fr) (ts:LN) (u:Value):Operand→Value
 | .tmp s=>match VM s ts with
  | some k=>(match ts with
   | [_]=>u
   | _=>W7 u k)
  | none=>wk f s
 | x=>match bd f x with
  | some v=>v
  | none=>undef
def UH (k:Nat) (v:Value):List Value:=bif Nat.beq k 1 then [v] else match v with
 | .agg cs=>cs.toList
 | _=>[]
def Oj (pl:List (Nat×Nat)):List (Nat×Value)→List Value→List Value
 | [],cs=>cs
 | (i,v) :: l,cs=>match Ek pl i with
  | some (off,k)=>Oj pl l (cs.take off++UH k v++cs.drop (off+k))
  | none=>cs
def QY (pl:List (Nat×Nat)) (f:Fr) (ts:LN) (ps:List (Nat×Operand)) (zc:LV) (u:Value):List Value:=Oj pl (ps.map fun p=>(p.1,W8 f ts u p.2)) zc
def VN (A:LN) (ms:MM) (ts:LN):Bool:=ts.all fun t=>match rH t ms with
 | some j=>gh j A
 | none=>false
def rf (A:LN):List fg→Bool
 | []=>true
 | a :: l=>(bif gh a.j A then a.src.all (fun t=>match rH t l with
   | some j=>gh j A
   | none=>false) else true) && rf A l
def yZ:List fg→Bool
 | []=>true
 | a :: l=>a.src.all (fun t=>(rH t l).isSome) && yZ l
theorem EG {A:LN} {r:NV} {t:Nat}:∀ {ms:MM} {x:pP ms} {j:Nat},rH t ms=some j→gh j A=true→(∀ p∈pw A ms x,r p.1=p.2)→look (mF ms x) t=some (r t):=by
 intro ms
 induction ms with
 | nil=>intro x j h; cases h
 | cons a l ih=>
  intro x j h hj hp
  unfold rH at h
  unfold mF look
  cases hb:Nat.beq t a.d with
  | true=>
   rw [hb] at h
   cases h
   have:=hp (a.d,a.rt (yY a (mF l x.2)) x.1) (by unfold pw; rw [hj]; simp)
   simp only [cond_true]
   rw [Nat.eq_of_beq_eq_true hb,this]
  | false=>
   rw [hb] at h
   refine ih h hj fun p hm=>hp p ?_
   unfold pw
   cases gh a.j A with
   | true=>exact List.mem_cons_of_mem _ hm
   | false=>exact hm
theorem L8 {r:NV} {t:Nat}:∀ {ms:MM} {x:pP ms},(rH t ms).isSome=true→(∀ p∈mF ms x,r p.1=p.2)→look (mF ms x) t=some (r t):=by
 intro ms
 induction ms with
 | nil=>intro x h; cases h
 | cons a l ih=>
  intro x h hp
  unfold rH at h
  unfold mF at hp ⊢
  unfold look
  cases hb:Nat.beq t a.d with
  | true=>
   simp only [cond_true]
   rw [Nat.eq_of_beq_eq_true hb,hp (a.d,a.rt (yY a (mF l x.2)) x.1) (by simp)]
  | false=>
   rw [hb] at h
   exact ih h fun p hm=>hp p (List.mem_cons_of_mem _ hm)
def HN (N:Nat→Prop) (w:World) (Δ:QE) (f:LN):Prop:=HL (fun _=>False) w Δ f∨∃ Fo Fr,f=Fo++Fr∧(qj Δ=false∧∀ b∈Fr,b < w.heap.size)∧HL (fun b=>N b∨b∈Fr) w Δ Fo
def JU (N:Nat→Prop) (a:fg):List Nat→World→(Nat→Value)→Value→Prop:=fun f w r _=>∃ v:a.V,r a.d=a.rt (wT a r) v∧HN N w (a.ps (wT a r) v) f∧f.Nodup
def MV (N:Nat→Prop) (a:fg):List Nat→World→(Nat→Value)→Value→Prop:=fun f w r x=>∃ v:a.V,x=a.rt (wT a r) v∧HN N w (a.ps (wT a r) v) f∧f.Nodup
def Ol (N:Nat→Prop) (a:LN) (l:LO) (s:fk):Prop:=∀ f F (w w':World) (r r':NV) v,ak F w w'→(∀ b∈f,b ∉ F)→(∀ b∈F,¬ N b)→(∀ j∈a,∀ t,bh l j=some t→r' t=r t)→s.V f w r v→s.V f w' r' v
theorem EH.n {N:Nat→Prop} {a:LN} {l:LO} {s:fk} (h:EH a l s):Ol N a l s:=fun f F w w' r r' v hC hn _=>h f F w w' r r' v hC hn
section
variable {P:Program} {w w':World} {Z:Nat→Prop}
theorem HL.UI {F H:LN} {Δ:QE} (h:HL (fun _=>False) w Δ F) (hC:ak H w w') (hd:∀ b∈F,b ∉ H):HL (fun _=>False) w' Δ F:=by
 induction h with
 | nil=>exact .nil
 | @own e f F Δ h _ ih=>exact .own (h.dn hC (fun _ _ h=>h) fun b hb hm=>hd b (List.mem_append_left _ hm) hb) (ih fun b hb=>hd b (List.mem_append_right _ hb))
 | @fact e F Δ h _ ih=>
  refine .fact ?_ (ih hd)
  cases e with
  | rd o T v x=>
   obtain ⟨g,h1,h2⟩:=h
   have hg:g=[]:=by
    cases g with
    | nil=>rfl
    | cons b g=>exact absurd (h2 b (by simp)) (by cases o <;> simp [sw])
   subst hg
   exact ⟨[],T.dn h1 hC (fun _ h=>absurd h List.not_mem_nil),fun _ h=>absurd h List.not_mem_nil⟩
  | ad o1 o2 v j T x=>obtain ⟨_,_,u,g,_,_,h3,_⟩:=h; exact absurd h3 (by cases o1 <;> simp [sw])
  | aw p cs=>
   have hc:cs=[]:=by
    cases cs with
    | nil=>rfl
    | cons c cs=>exact (h.2 (by simp)).elim
   subst hc
   exact ⟨fun j u hj=>by simp at hj,fun hn=>absurd rfl hn⟩
  | hd v j u=>exact absurd h.2.2.2 List.not_mem_nil
  | _=>exact h.elim
theorem HL.Om {F H:LN} {Δ:QE} (h:HL Z w Δ F) (hC:ak H w w') (hz:∀ b∈H,¬ Z b) (hd:∀ b∈F,b ∉ H):HL Z w' Δ F:=by
 induction h with
 | nil=>exact .nil
 | @own e f F Δ h _ ih=>exact .own (h.dn hC hz fun b hb hm=>hd b (List.mem_append_left _ hm) hb) (ih fun b hb=>hd b (List.mem_append_right _ hb))
 | @fact e F Δ h _ ih=>exact .fact (h.dn hC hz fun _ _ h=>nomatch h) (ih hd)
theorem HN.dn {N:Nat→Prop} {f H:LN} {Δ:QE} (h:HN N w Δ f) (hC:ak H w w') (hd:∀ b∈f,b ∉ H) (hz:∀ b∈H,¬ N b):HN N w' Δ f:=by
 rcases h with h | ⟨Fo,Fr,rfl,h1,h2⟩
 ·exact .inl (h.UI hC hd)
 ·exact .inr ⟨Fo,Fr,rfl,⟨h1.1,fun b hb=>Nat.lt_of_lt_of_le (h1.2 b hb) hC.size⟩,h2.Om hC (fun b hb h=>h.elim (hz b hb) fun h=>hd b (List.mem_append_right _ h) hb) fun b hb=>hd b (List.mem_append_left _ hb)⟩
theorem HN.own {N:Nat→Prop} {f:LN} {Δ:QE} (h:HN N w Δ f) (ho:qj Δ=true):HL (fun _=>False) w Δ f:=by
 rcases h with h | ⟨_,_,_,h1,_⟩
 ·exact h
 ·rw [ho] at h1; cases h1.1
theorem HN.all {N:Nat→Prop} {f:LN} {Δ:QE} (h:HN N w Δ f):∃ Fo Fr,f=Fo++Fr∧(∀ b∈Fr,b < w.heap.size)∧HL (fun b=>N b∨b∈Fr) w Δ Fo:=by
 rcases h with h | ⟨Fo,Fr,rfl,h1,h2⟩
 ·exact ⟨f,[],by simp,fun b (h:b∈[])=>absurd h List.not_mem_nil,h.mono fun _ h=>h.elim⟩
 ·exact ⟨Fo,Fr,rfl,h1.2,h2⟩
theorem HL.up {F:LN} {Δ:QE} (h:HL (fun _=>False) w Δ F):HL Z w Δ F:=by
 induction h with
 | nil=>exact .nil
 | own h _ ih=>exact .own (h.mono fun _ h=>h.elim) ih
 | fact h _ ih=>exact .fact (h.mono (fun _ h=>h.elim) fun _ h=>h) ih
theorem HL.app {Δ Δ':QE} {F F':LN} (h:HL Z w Δ F) (k:HL Z w Δ' F'):HL Z w (Δ++Δ') (F++F'):=by
 induction h with
 | nil=>exact k
 | own h _ ih=>rw [List.append_assoc]; exact .own h ih
 | fact h _ ih=>exact .fact h ih
theorem Hl {a:fg} {r r':NV} (h:∀ t∈a.src,r' t=r t):wT a r'=wT a r:=z6 h
theorem JV {l:LO} {a:LN} {b:Bool} {m:fg} (hs:∀ t∈m.src,∃ j∈a,bh l j=some t):Ol Z a l ⟨b,MV Z m⟩:=by
 intro f F w w' r r' x hC hn hz hr ⟨v,h1,h2,h3⟩
 have e:=Hl (a:=m) (r:=r) (r':=r') fun t ht=>by
  obtain ⟨j,hj,hd⟩:=hs t ht
  exact hr j hj t hd
 refine ⟨v,by rw [e]; exact h1,by rw [e]; exact h2.dn hC hn hz,h3⟩
theorem Ip {l:LO} {a:LN} {b:Bool} {m:fg} (hd:∃ j∈a,bh l j=some m.d) (hs:∀ t∈m.src,∃ j∈a,bh l j=some t):Ol Z a l ⟨b,JU Z m⟩:=by
 intro f F w w' r r' x hC hn hz hr ⟨v,h1,h2,h3⟩
 have e:=Hl (a:=m) (r:=r) (r':=r') fun t ht=>by
  obtain ⟨j,hj,hd⟩:=hs t ht
  exact hr j hj t hd
 obtain ⟨j,hj,hjd⟩:=hd
 refine ⟨v,by rw [e,hr j hj _ hjd]; exact h1,by rw [e]; exact h2.dn hC hn hz,h3⟩
theorem jx.more {l:LO} {m i:Nat} {U:LL} {S S':List fk} {r0:NV} {w0:World} {H:LN} (h:jx P l m S U r0 w0 H i) (hi:i < S.length):jx P l m (S++S') U r0 w0 H i:=by
 intro o s ho hs g r w hC hV hO hn jy hd hf
 rw [List.getElem?_append_left hi] at hs
 refine h o s ho hs g r w hC hV (fun j hj d jg s' di=>hO j hj d jg s' (by rw [List.getElem?_append_left (List.getElem?_eq_some_iff.1 di).1]; exact di)) (fun j hj=>?_) jy hd hf
 have:=hn j hj
 refine ⟨fun d jg=>?_,fun jg s' di bz=>?_⟩
 ·have h2:=this.1 d jg
  by_cases hl:j < S.length
  ·rw [List.getElem?_append_left hl] at h2; exact h2
  ·rw [List.getElem?_eq_none (by omega)]; trivial
 ·exact this.2 jg s' (by rw [List.getElem?_append_left (List.getElem?_eq_some_iff.1 di).1]; exact di) bz
end
inductive cK (A:LN):Option (Bool×Nat×Value)→List (Nat×Nat×Value)→Fr→Fr→Prop
 | nil {base:Fr}:cK A none [] base base
 | cons {j d:Nat} {u:Value} {l:LQ} {base fr:Fr} (h:cK A (some (gh j A,d,u)) l base fr):cK A none ((j,d,u) :: l) base fr
 | dn {d:Nat} {u:Value} {l:LQ} {base fr:Fr} (h:cK A none l base fr):cK A (some (true,d,u)) l base ((d,u) :: fr)
 | drop {d:Nat} {u:Value} {l:LQ} {base fr:Fr} (h:cK A none l base fr):cK A (some (false,d,u)) l base fr
theorem sy.yS {Γ Γ':QE} {v:Addr} {o:Bool} {α:Type} {E:ag α} {x:α} {e:ao} (h:sy Γ v o E x e Γ') {Z:Nat→Prop} {w:World}:∀ {cur F:LN},SA Z w Γ cur F→(v.block∈cur∨v.block∈F)∨Z v.block:=by
 induction h with
 | @ad o1 o2 α E v j x e Γ=>
  intro cur F hS
  obtain ⟨⟨j0,j1,u,g,h1,h2,h3,h4⟩,h5⟩:=hS
  cases o1 with
  | false=>exact .inr h3
  | true=>exact .inl (.inl h3)
 | @there o2 α E v x e a Γ Γ' h ih=>
  intro cur F hS
  cases a with
  | own T v x=>obtain ⟨f,F',rfl,h2,h3⟩:=hS; exact (ih h3).imp (fun h=>.inr (List.mem_append.2 h)) id
  | om e E v xs=>obtain ⟨f,F',rfl,h2,h3⟩:=hS; exact (ih h3).imp (fun h=>.inr (List.mem_append.2 h)) id
  | row b cs e=>obtain ⟨f,F',rfl,h2,h3⟩:=hS; exact (ih h3).imp (fun h=>h.imp id (List.mem_append_right _)) id
  | fh e E v xs j u=>obtain ⟨f,F',rfl,h2,h3⟩:=hS; exact (ih h3).imp (fun h=>.inr (List.mem_append.2 h)) id
  | _=>exact ih hS.2
inductive VQ (P:Program) (Γ:QE) (fr:Fr):Op→Value→Prop
 | mv {x:OO} {v:Value} (hx:bd fr x=some v):VQ P Γ fr (.move x) v
 | as {x:OO} {v:Value} (hx:bd fr x=some v):VQ P Γ fr (.assign x) v
 | pick {c x y:OO} {b:Bool} {v:Value} (hc:bd fr c=some (.bool b)) (hx:(bif b then bd fr x else bd fr y)=some v):VQ P Γ fr (.pick c x y) v
 | add {x y:OO} {t t':TI} {a b:Int} (hx:bd fr x=some (.int .i64 a)) (hy:bd fr y=some (.int .i64 b)):VQ P Γ fr (.binOp .add t x y t') (.int .i64 (ai (a+b)))
 | sub {x y:OO} {t t':TI} {a b:Int} (hx:bd fr x=some (.int .i64 a)) (hy:bd fr y=some (.int .i64 b)):VQ P Γ fr (.binOp .sub t x y t') (.int .i64 (ai (a - b)))
 | eql {x y:OO} {t t':TI} {k:IntKind} {a b:Int} (hx:bd fr x=some (.int k a)) (hy:bd fr y=some (.int k b)):VQ P Γ fr (.binOp .eql t x y t') (.bool (a == b))
 | LR {x:OO} {a:Addr} (hx:bd fr x=some (.pointer (some a))):VQ P Γ fr (.nilCheck x) (.pointer (some a))
 | QF {s k off:Nat} {x:OO} {a a':Addr} [hf:tK P s k off] (hx:bd fr x=some (.pointer (some a))) (ha:A5 a off a'):VQ P Γ fr (.fieldAddr s x k) (.pointer (some a'))
 | len {x:OO} {v:Value} {t:TI} {n:Nat} [ht:we P t] (hx:bd fr x=some v) (hr:ta Γ v n):VQ P Γ fr (.call ⟨.builtin .len,#[x],#[t]⟩) (.int .i64 (n:Int))
 | Oi {t:TI} {ps:List (Nat×Operand)} {zc cs:LV} {pl:List (Nat×Nat)} [hb:BH P t zc pl] (hf:uF Γ fr pl ps zc cs):VQ P Γ fr (.build t ps.toArray) (.agg cs.toArray)
 | QN {x:OO} {k k2:IntKind} {n:Int} {s t:TI} [ht:Hg P s t k2] (hx:bd fr x=some (.int k n)):VQ P Γ fr (.convert s t x) (.int k2 (k2.wrap n))
 | mul {x y:OO} {t t':TI} {a b:Int} (hx:bd fr x=some (.int .i64 a)) (hy:bd fr y=some (.int .i64 b)):VQ P Γ fr (.binOp .mul t x y t') (.int .i64 (ai (a * b)))
 | LS {x:OO} {v:Value} {t:TI} {n k:Nat} [ht:El P t k] (hx:bd fr x=some v) (hr:ta Γ v n):VQ P Γ fr (.call ⟨.builtin .len,#[x],#[t]⟩) (.int .i64 (n:Int))
 | lkp {κ υ:Type} {x y:OO} {v:Value} {t:TI} {bq:BEq κ} {ek:κ→Value} {eu:υ→Value} {xs:List (κ×υ)} {a:κ} {z0:υ} [ht:MPc P t κ υ bq ek eu] [hz:MZc P t υ eu z0] (hx:bd fr x=some v) (hy:bd fr y=some (ek a)) (hr:Eo ek eu Γ v xs):VQ P Γ fr (.lookup t x y false) (eu ((za xs a).getD z0))
theorem VQ.sound {P:Program} {Γ:QE} {fr:Fr} {op:Op} {u:Value} (h:VQ P Γ fr op u) {Z:Nat→Prop} {w:World} {cur F:LN} (hS:SA Z w Γ cur F) {r:NV} (ha:cn r fr) (d:Option Nat) (ty:TI) (pos:String) (af:Array Edge) (g:Option (Nat×Bool)) :
  Rd P w r ⟨d,op,ty,pos,af,g⟩ u:=by
 cases h with
 | mv hx=>exact Mv _ (aS ha hx)
 | as hx=>exact Av _ (aS ha hx)
 | @pick c x y b v hc hx=>
  intro w' _
  rw [Hi (aS ha hc)]
  cases b
  ·rw [← aS ha hx]; rfl
  ·rw [← aS ha hx]; rfl
 | add hx hy=>exact Ba (aS ha hx) (aS ha hy)
 | sub hx hy=>exact Go.Li.Bs (aS ha hx) (aS ha hy)
 | eql hx hy=>exact Be (aS ha hx) (aS ha hy)
 | LR hx=>exact Nk (aS ha hx)
 | @QF s k off x a a' hf hx hq=>rw [hq.eq]; exact Fp hf.h (aS ha hx)
 | @QN x k k2 n s t ht hx=>exact fun _ _=>Hj ht.h.1 ht.h.2 (aS ha hx)
 | mul hx hy=>exact Bm (aS ha hx) (aS ha hy)
 | @len x v t n ht hx hr=>
  obtain ⟨b,c,rfl⟩:=hr.sound hS
  obtain ⟨e,i,h1,_,_⟩:=ht.h
  exact fun _ _=>vc h1 (aS ha hx)
 | @LS x v t n k ht hx hr=>
  obtain ⟨b,c,rfl⟩:=hr.sound hS
  obtain ⟨e,i,h1,_,_⟩:=ht.h
  exact fun _ _=>vc h1 (aS ha hx)
 | @lkp κ υ x y v t bq ek eu xs a z0 ht hz hx hy hr=>
  obtain ⟨f,hm⟩:=hr.sound hS
  obtain ⟨kt,vt,kd,h1,h2,h3⟩:=ht.h
  obtain ⟨kt',vt',i,g1,g2,g3⟩:=hz.h
  rw [h1] at g1
  cases g1
  exact fun w' hC=>Iq (ek:=ek) (zb:=eu) h3 h1 h2 g2 g3 (by rw [aS ha hx]; exact ag.dn _ hm hC fun _ _=>List.not_mem_nil) (aS ha hy)
 | @Oi t ps zc cs pl hb hf=>
  obtain ⟨fs,i,z,h1,h2,h3,h4,h5⟩:=hb.h
  refine Bu ?_
  have:=hf.fill ha hS
  unfold Program.built
  rw [h3,h1]
  simp only [h4,h2]
  rw [show z.cells=zc.toArray by rw [← h5]]
  exact this
theorem cK.sound {A:LN} {q:Option (Bool×Nat×Value)} {sl:LQ} {base fr:Fr} {r:NV} (h:cK A q sl base fr) (hb:cn r base) :
  (∀ p∈sl,gh p.1 A=true→r p.2.1=p.2.2)→(∀ b d u,q=some (b,d,u)→b=true→r d=u)→cn r fr:=by
 induction h with
 | nil=>intro _ _; exact hb
 | @cons j d u l base fr _ ih=>
  intro h1 _
  refine ih hb (fun p hp=>h1 p (by simp [hp])) ?_
  rintro b d' u' he hbt
  cases he
  exact h1 (j,d,u) (by simp) hbt
 | @dn d u l base fr _ ih=>
  intro h1 h2
  intro s v hl
  unfold look at hl
  cases EI:Nat.beq s d with
  | true=>rw [EI] at hl; cases hl; rw [Nat.eq_of_beq_eq_true EI]; exact h2 true d _ rfl rfl
  | false=>rw [EI] at hl; exact ih hb h1 (fun _ _ _ h=>nomatch h) s v hl
 | drop _ ih=>intro h1 _; exact ih hb h1 (fun _ _ _ h=>nomatch h)
def xP:List (Nat×Nat×Value)→Fr→Fr
 | [],f=>f
 | (_,d,u) :: l,f=>(d,u) :: xP l f
inductive Ir (P:Program) (f:FuncId) (xs:List Operand) (fr:Fr) (Γ:QE) {β V:Type} (mo:Option β) (rt:β→V→List Value) (ps:β→V→List ao):Prop
 | mk {vs:LV} {Δ:QE} (hx:ra fr xs=some vs) (hc:Ct P f true mo vs Δ rt ps) (hd:FO Δ) (hr:ER true Γ Δ):Ir P f xs fr Γ mo rt ps
inductive VO (P:Program) (f:FuncId):Prop
 | mk [h:bo P f]:VO P f
inductive Is (P:Program) (f:FuncId) (as bs:LV) (xs:List Operand) (fr:Fr) (Γ:QE) {β V:Type} (mo:Option β) (rt:β→V→List Value) (ps:β→V→List ao):Prop
 | mk {vs us ws:LV} {Δ:QE} (hx:ra fr xs=some vs) (h1:gu vs bs us) (h2:gu as us ws) (hc:Ct P f true mo ws Δ rt ps) (hd:FO Δ) (hr:ER true Γ Δ):Is P f as bs xs fr Γ mo rt ps
inductive EJ {β V:Type} (P:Program) (f:FuncId) (xs:List Operand) (fr:Fr) (hd Γ:QE) (mo:Option β) (rt:β→V→List Value) (ps:β→V→List ao):Prop
 | mk {vs:LV} {Δ Γ':QE} (hx:ra fr xs=some vs) (hc:Ct P f false mo vs Δ rt ps) (ho:EO hd Δ Γ') (hr:ER false (Γ'++Γ) Δ):EJ P f xs fr hd Γ mo rt ps
inductive BR (P:Program) (f:FuncId) (xs:List Operand) (fr:Fr) (hd:QE) (Γ:QE) {β V:Type} (mo:Option β) (rt:β→V→List Value) (ps:β→V→List ao):Prop
 | mk {vs:LV} {Δ Γ':QE} (hx:ra fr xs=some vs) (hc:Ct P f true mo vs Δ rt ps) (ho:EO hd Δ Γ') (hr:ER true Γ Δ):BR P f xs fr hd Γ mo rt ps
inductive qg:List fg→Prop
 | nil:qg []
 | cons {a:fg} {l:MM} (h:BJ a.V) (k:qg l):qg (a :: l)
theorem qg.ne {ms:MM} (h:qg ms):Nonempty (pP ms):=by
 induction h with
 | nil=>exact ⟨()⟩
 | cons h _ ih=>obtain ⟨a⟩:=h.ne; obtain ⟨b⟩:=ih; exact ⟨(a,b)⟩
inductive EK:List fg→Nat→Bool→Prop
 | here {a:fg} {l:MM}:EK (a :: l) a.d true
 | there {a:fg} {l:MM} {t:Nat} {b:Bool} (h:EK l t b):EK (a :: l) t b
 | nil {t:Nat}:EK [] t false
inductive JA (R S:Type):Type 1
 | a (as:LL) (ops:LO) (i:Nat) (sl:LQ) (ms:MM) (Γ:QE) (m:Option (Out S R))
 | o (A:LN) (op:Op) (d:Nat) (ty:TI) (as:LL) (ops:LO) (i:Nat) (sl:LQ) (ms:MM) (Γ:QE) (m:Option (Out S R))
 | ow (b:Bool) (A:LN) (op:Op) (d:Nat) (ty:TI) (as:LL) (ops:LO) (i:Nat) (sl:LQ) (ms:MM) (Γ:QE) (m:Option (Out S R))
 | ix (b:Bool) (v:Value) (fr:Fr) (x y:OO) (t:TI) (A:LN) (d:Nat) (ty:TI) (as:LL) (ops:LO) (i:Nat) (sl:LQ) (ms:MM) (Γ:QE) (m:Option (Out S R))
 | lb (b:Bool) (v:Value) (j:Int) (fr:Fr) (t:TI) (x:OO) (A:LN) (d:Nat) (ty:TI) (as:LL) (ops:LO) (i:Nat) (sl:LQ) (ms:MM) (Γ:QE) (m:Option (Out S R))
 | ap (us:LN) (t1 t2:Nat) (t:TI) (A:LN) (d:Nat) (ty:TI) (as:LL) (ops:LO) (i:Nat) (sl:LQ) (ms:MM) (Γ:QE) (m:Option (Out S R))
 | la (fr:Fr) (ad:Addr) (lk:Option Nat) (t:TI) (x:OO) (A:LN) (d:Nat) (ty:TI) (as:LL) (ops:LO) (i:Nat) (sl:LQ) (ms:MM) (Γ:QE) (m:Option (Out S R))
 | ld {α:Type} (E:ag α) (z:α) (fr:Fr) (ad:Addr) (t:TI) (x:OO) (A:LN) (d:Nat) (ty:TI) (as:LL) (ops:LO) (i:Nat) (sl:LQ) (ms:MM) (Γ:QE) (m:Option (Out S R))
 | oc (us:LN) (f:FuncId) (xs:List Operand) (aw:Array TypeId) (A:LN) (d:Nat) (ty:TI) (as:LL) (ops:LO) (i:Nat) (sl:LQ) (ms:MM) (Γ:QE) (m:Option (Out S R))
 | os (A:LN) (op:Op) (ty:TI) (as:LL) (ops:LO) (i:Nat) (sl:LQ) (ms:MM) (Γ:QE) (m:Option (Out S R))
 | cr {V:Type} (u:V→Value) (ps:V→List ao) (d:Nat) (as:LL) (ops:LO) (i:Nat) (sl:LQ) (ms:MM) (Γ:QE) (m:Option (Out S R))
 | p (Δ:QE) (as:LL) (ops:LO) (i:Nat) (sl:LQ) (ms:MM) (Γ:QE) (m:Option (Out S R))
inductive Hm:List ao→Value→Bool→Prop
 | here {α:Type} {T:ag α} {v:Value} {x:α} {Γ:QE}:Hm (.own T v x :: Γ) v true
 | there {e:ao} {v:Value} {b:Bool} {Γ:QE} (h:Hm Γ v b):Hm (e :: Γ) v b
 | nil {v:Value}:Hm [] v false
inductive rK:List fg→Nat→fg→List fg→Prop
 | here {a:fg} {l:MM}:rK (a :: l) a.d a l
 | there {a b:fg} {l l':MM} {t:Nat} (h:rK l t a l'):rK (b :: l) t a (b :: l')
inductive A7:List fg→Nat→fg→List fg→Prop
 | here {a:fg} {l:MM}:A7 (a :: l) a.j a l
 | there {a b:fg} {l l':MM} {t:Nat} (h:A7 l t a l'):A7 (b :: l) t a (b :: l')
def L9 (j i:Nat) (sl:LQ):List (Nat×Nat×Value):=sl.map fun p=>bif Nat.beq p.1 j then (i,p.2) else p
def It (sl:LQ) (j d:Nat) (b:Bool):Bool:=sl.any fun q=>Nat.beq q.1 j && (Nat.beq q.2.1 d && (match q.2.2 with | .bool c=>(bif b then c else !c) | _=>false))
theorem JW {sl:LQ} {j d:Nat} {b:Bool} (h:It sl j d b=true):(j,d,.bool b)∈sl:=by
 unfold It at h
 rw [List.any_eq_true] at h
 obtain ⟨⟨j',d',v⟩,hq,h⟩:=h
 rw [Bool.and_eq_true,Bool.and_eq_true] at h
 obtain ⟨h1,h2,h3⟩:=h
 obtain rfl:j'=j:=Nat.eq_of_beq_eq_true h1
 obtain rfl:d'=d:=Nat.eq_of_beq_eq_true h2
 cases v with
 | bool c=>cases b <;> cases c <;> first | exact hq | (cases h3; done)
 | _=>cases h3
def UJ (sl:LQ):List Nat→Bool
 | [j,d,b]=>It sl (j - 1000000) (d - 1000000) (Nat.beq b 1000001)
 | _=>true
def gdB (U:LL) (sl:LQ):Bool:=bif Nat.ble 1000000 ((U.getLastD []).headD 0) then UJ sl (U.getLastD []) else true
def A8 (U:LL) (sl:LQ) (ms:MM):Bool:=(U.all fun us=>us.all fun j=>ms.all fun a=>!Nat.beq a.j j) && gdB U sl
inductive AD {R S:Type} (tq:Bool) (P:Program) (cx:Cx R) (K:cy R S) (l tail:LO) (base:Fr) (U:LL):List ao→JA R S→Prop
 | nil {hd:QE} {i:Nat} {sl:LQ} {ms:MM} {Γ:QE} {m:Option (Out S R)} (CU:yZ ms=true) (he:A8 U sl ms=true) (h:∀ x:pP ms,D P cx (.p (xP sl (mF ms x)) (A6 ms x) base Γ fun fr Γ=>.tg tq (yT tail) l tail K Γ fr m)):AD tq P cx K l tail base U hd (.a [] [] i sl ms Γ m)
 | cons {hd:QE} {A:LN} {as:LL} {op:Op} {d:Nat} {ty:TI} {pos:String} {af:Array Edge} {ops:LO} {i:Nat} {sl:LQ} {ms:MM} {Γ:QE} {m:Option (Out S R)} (h:AD tq P cx K l tail base U hd (.o A op d ty as ops i sl ms Γ m)) :
   AD tq P cx K l tail base U hd (.a (A :: as) (⟨some d,op,ty,pos,af,none⟩ :: ops) i sl ms Γ m)
 | Iu {hd:QE} {A:LN} {as:LL} {op:Op} {ty:TI} {pos:String} {af:Array Edge} {ops:LO} {i:Nat} {sl:LQ} {ms:MM} {Γ:QE} {m:Option (Out S R)} (h:AD tq P cx K l tail base U hd (.os A op ty as ops i sl ms Γ m)) :
   AD tq P cx K l tail base U hd (.a (A :: as) (⟨none,op,ty,pos,af,none⟩ :: ops) i sl ms Γ m)
 | QM {hd:QE} {t e:TI} {t1 j1 n:Nat} {y:OO} {u:Value} {us cs ds:LV} {lu:MM} {fr:Fr} {A:LN} {as:LL} {ty:TI} {ops:LO} {i:Nat} {sl:LQ} {ms:MM} {Γ:QE} {m:Option (Out S R)} [ht:u9 P t n]
   (h1:rK ms t1 ⟨j1,t1,[],Nat,fun _ b=>.pointer (some ⟨b,0,none⟩),fun _ b=>[.row b cs e]⟩ lu) (hv:cK A none sl base fr) (hy:bd fr y=some u) (hc:qH Γ u us) (hn:us.length=n) (hs:rF us 0 cs ds) (ho:s8 Γ us) (h4:gh j1 A=true) (h6:U.getD i []=[j1])
   (h:AD tq P cx K l tail base U hd (.a as ops (i+1) sl (⟨i,t1,[],Nat,fun _ b=>.pointer (some ⟨b,0,none⟩),fun _ b=>[.row b ds e]⟩ :: lu) Γ m)):AD tq P cx K l tail base U hd (.os A (.store t (.tmp t1) y) ty as ops i sl ms Γ m)
 | Er {hd:QE} {α:Type} {A:LN} {as:LL} {d:Nat} {t e ty:TI} {E:ag α} {z0:α} {bt:Nat} {ops:LO} {i:Nat} {sl:LQ} {ms:MM} {Γ:QE} {m:Option (Out S R)} [hz:qY P t α e E z0 bt]
   (h:AD tq P cx K l tail base U hd (.a as ops (i+1) sl (⟨i,d,[],Value,fun _ v=>v,fun _ v=>[.own (aI e E) v []]⟩ :: ms) Γ m)):AD tq P cx K l tail base U hd (.o A (.buildSlice t 0 #[]) d ty as ops i sl ms Γ m)
 | sw4 {hd:QE} {t st e:Nat} {α:Type} {E:ag α} {z0:α} {bt:Nat} {b:Bool} {A:LN} {as:LL} {d:Nat} {ty:TI} {ops:LO} {i:Nat} {sl:LQ} {ms:MM} {Γ:QE} {m:Option (Out S R)} [hz:qY P st α e E z0 bt] (hw:EK ms t b) (h:AD tq P cx K l tail base U hd (.ow b A (.buildSlice st 1 #[(0,.tmp t)]) d ty as ops i sl ms Γ m)):AD tq P cx K l tail base U hd (.o A (.buildSlice st 1 #[(0,.tmp t)]) d ty as ops i sl ms Γ m)
 | ltn {hd:QE} {t e:TI} {n:Nat} {ps:List (Nat×Operand)} {us:LV} {fr:Fr} {A:LN} {as:LL} {d:Nat} {ty:TI} {ops:LO} {i:Nat} {sl:LQ} {ms:MM} {Γ:QE} {m:Option (Out S R)} [hz:Hb P t e] (hv:cK A none sl base fr) (hl:s9 Γ fr 0 ps us) (hn:us.length=n) (hb:(Nat.ble 1 n && Nat.ble n 16777216)=true)
   (h:AD tq P cx K l tail base U hd (.a as ops (i+1) sl (⟨i,d,[],Nat,fun _ b=>.slice (some ⟨b,0,none⟩) n n,fun _ b=>[.row b us e]⟩ :: ms) Γ m)):AD tq P cx K l tail base U hd (.o A (.buildSlice t n ps.toArray) d ty as ops i sl ms Γ m)
 | ltu {hd:QE} {t e:TI} {n:Nat} {ps:List (Nat×Operand)} {us:LV} {fr:Fr} {A:LN} {as:LL} {d:Nat} {ty:TI} {ops:LO} {i:Nat} {sl:LQ} {ms:MM} {Γ:QE} {m:Option (Out S R)} [hz:Hc P t e] (hv:cK A none sl base fr) (hl:s9 Γ fr 0 ps us) (hn:us.length=n) (hb:(Nat.ble 1 n && Nat.ble n 16777216)=true)
   (h:AD tq P cx K l tail base U hd (.a as ops (i+1) sl (⟨i,d,[],Nat,fun _ b=>.slice (some ⟨b,0,none⟩) n n,fun _ b=>[.row b us e]⟩ :: ms) Γ m)):AD tq P cx K l tail base U hd (.o A (.buildSlice t n ps.toArray) d ty as ops i sl ms Γ m)
 | sw1 {hd:QE} {t:Nat} {b:Bool} {A:LN} {as:LL} {d:Nat} {ty:TI} {ops:LO} {i:Nat} {sl:LQ} {ms:MM} {Γ:QE} {m:Option (Out S R)} (hw:EK ms t b) (h:AD tq P cx K l tail base U hd (.ow b A (.move (.tmp t)) d ty as ops i sl ms Γ m)):AD tq P cx K l tail base U hd (.o A (.move (.tmp t)) d ty as ops i sl ms Γ m)
 | wlt {hd:QE} {t e:TI} {α:Type} {E:ag α} {z0:α} {bt:Nat} {u:Value} {x:OO} {fr:Fr} {A:LN} {as:LL} {d:Nat} {ty:TI} {ops:LO} {i:Nat} {sl:LQ} {ms:MM} {Γ:QE} {m:Option (Out S R)} [hz:qY P t α e E z0 bt] (hv:cK A none sl base fr) (hx:bd fr x=some u) (h1:One Γ u)
   (h:AD tq P cx K l tail base U hd (.a as ops (i+1) sl (⟨i,d,[],Nat,fun _ b=>.slice (some ⟨b,0,none⟩) 1 1,fun _ b=>[.row b [u] e]⟩ :: ms) Γ m)):AD tq P cx K l tail base U hd (.ow false A (.buildSlice t 1 #[(0,x)]) d ty as ops i sl ms Γ m)
 | sw5 {hd:QE} {t st:Nat} {b:Bool} {A:LN} {as:LL} {d:Nat} {ty:TI} {ops:LO} {i:Nat} {sl:LQ} {ms:MM} {Γ:QE} {m:Option (Out S R)} (hw:EK ms t b) (h:AD tq P cx K l tail base U hd (.ow b A (.call ⟨.builtin .len,#[.tmp t],#[st]⟩) d ty as ops i sl ms Γ m)):AD tq P cx K l tail base U hd (.o A (.call ⟨.builtin .len,#[.tmp t],#[st]⟩) d ty as ops i sl ms Γ m)
 | QZ {hd:QE} {t:TI} {cs:LV} {A:LN} {as:LL} {d:Nat} {ty:TI} {ops:LO} {i:Nat} {sl:LQ} {ms:MM} {Γ:QE} {m:Option (Out S R)} [hz:BG P t cs] (h:AD tq P cx K l tail base U hd (.a as ops (i+1) sl (⟨i,d,[],Nat,fun _ b=>.pointer (some ⟨b,0,none⟩),fun _ b=>[.row b cs t]⟩ :: ms) Γ m)):AD tq P cx K l tail base U hd (.o A (.alloc t) d ty as ops i sl ms Γ m)
 | QK {hd:QE} {us:LN} {t1 t2:Nat} {t:TI} {A:LN} {as:LL} {d:Nat} {ty:TI} {ops:LO} {i:Nat} {sl:LQ} {ms:MM} {Γ:QE} {m:Option (Out S R)} (hU:U.getD i []=us) (h:AD tq P cx K l tail base U hd (.ap us t1 t2 t A d ty as ops i sl ms Γ m)):AD tq P cx K l tail base U hd (.o A (.call ⟨.builtin .append,#[.tmp t1,.tmp t2],#[t,t]⟩) d ty as ops i sl ms Γ m)
 | apH {hd jg:QE} {α:Type} {t e e' et:TI} {E E':ag α} {z0:α} {bt t1 t2 j2:Nat} {v u yv:Value} {j:Int} {y:α} {z:List α} {xs:List (List α)} {o1 o2:Bool} {Γx:QE} {EL:MM} {fr:Fr} {f:Unit→Option (Out S R)} {A:LN} {as:LL} {d:Nat} {ty:TI} {ops:LO} {i:Nat} {sl:LQ} {ms:MM} {Γ:QE} [hT:qY P t α e E z0 bt]
   (hV:((U.set i []).all fun us=>!(us.contains l.length))=true) (hv:cK A none sl base fr) (hs:look fr t1=some u) (h2:rK ms t2 ⟨j2,t2,[],Nat,fun _ b=>.slice (some ⟨b,0,none⟩) 1 1,fun _ b=>[.row b [yv] et]⟩ EL) (h5:gh j2 A=true) (hl:Loc hd u (.row v j)) (hz:n5 hd u o1 o2 E' z rn Γx) (h1:dj hd (.own (aI e' (aI e E)) v xs) jg) (hr:RT (aI e E) (bE E')) (hy:AF [] E yv y [])
   (h:AD tq P cx K l tail base U jg (.a as ops (i+1) sl (⟨i,d,[],Value,fun _ v'=>v',fun _ v'=>[.own (aI e E) v' (z++[y]),.own (sF e' (aI e E) j.toNat) v xs]⟩ :: ms) Γ (f ()))):AD tq P cx K l tail base U hd (.ap [l.length] t1 t2 t A d ty as ops i sl ms Γ (fits bt (z.length+1)>>=f))
 | ap1 {hd:QE} {us:LN} {t e et:TI} {E:ag Int} {z0:Int} {bt t1 t2 j2 d2:Nat} {k:IntKind} {y:Int} {xs:List Int} {a1:fg} {lu EL:MM} {f:Unit→Option (Out S R)} {A:LN} {as:LL} {d:Nat} {ty:TI} {ops:LO} {i:Nat} {sl:LQ} {ms:MM} {Γ:QE} [hz:qY P t Int e E z0 bt] (h1:rK ms t1 a1 lu) (h2:rK lu t2 ⟨j2,d2,[],Nat,fun _ b=>.slice (some ⟨b,0,none⟩) 1 1,fun _ b=>[.row b [.int k y] et]⟩ EL) (h3:∀ u v,a1.ps u v=[.own (aI e (aL k)) (a1.rt u v) xs]) (hu:us=[a1.j]) (h4:gh a1.j A=true) (h5:gh j2 A=true)
   (h:AD tq P cx K l tail base U hd (.a as ops (i+1) sl (⟨i,d,[],Value,fun _ v=>v,fun _ v=>[.own (aI e (aL k)) v (xs++[y])]⟩ :: lu) Γ (f ()))):AD tq P cx K l tail base U hd (.ap us t1 t2 t A d ty as ops i sl ms Γ (fits bt (xs.length+1)>>=f))
 | wv {hd:QE} {op:Op} {u:Value} {fr:Fr} {A:LN} {as:LL} {d:Nat} {ty:TI} {ops:LO} {i:Nat} {sl:LQ} {ms:MM} {Γ:QE} {m:Option (Out S R)} (hv:cK A none sl base fr) (hq:VQ P Γ fr op u) (h:AD tq P cx K l tail base U hd (.a as ops (i+1) ((i,d,u) :: sl) ms Γ m)):AD tq P cx K l tail base U hd (.ow false A op d ty as ops i sl ms Γ m)
 | mbl {hd:QE} {t:TI} {ps:List (Nat×Operand)} {zc:LV} {pl:List (Nat×Nat)} {fr:Fr} {A:LN} {as:LL} {d:Nat} {ty:TI} {ops:LO} {i:Nat} {sl:LQ} {ms:MM} {Γ:QE} {m:Option (Out S R)} [hb:BH P t zc pl] (hi:qg ms) (CU:rf A ms=true) (pN:(xO ms ps).isEmpty=false) (hj:VN A ms (xO ms ps)=true) (hv:cK A none sl base fr)
   (hx:∀ x:pP ms,uF (rb A ms x++Γ) (pw A ms x++fr) pl ps zc (QY pl fr (xO ms ps) ps zc (yX (wk (mF ms x)) (xO ms ps))))
   (h:AD tq P cx K l tail base U hd (.a as ops (i+1) sl (⟨i,d,xO ms ps,Unit,fun u _=>.agg (QY pl fr (xO ms ps) ps zc u).toArray,fun _ _=>[]⟩ :: ms) Γ m)):AD tq P cx K l tail base U hd (.o A (.build t ps.toArray) d ty as ops i sl ms Γ m)
 | mk {hd:QE} {t e:TI} {α:Type} {E:ag α} {z0:α} {bt:Nat} {x:OO} {z:Int} {fr:Fr} {f:Nat→Option (Out S R)} {A:LN} {as:LL} {d:Nat} {ty:TI} {ops:LO} {i:Nat} {sl:LQ} {ms:MM} {Γ:QE} [hz:qY P t α e E z0 bt] (hv:cK A none sl base fr) (hx:bd fr x=some (.int .i64 z))
   (h:∀ n,AD tq P cx K l tail base U hd (.a as ops (i+1) sl (⟨i,d,[],Value,fun _ v=>v,fun _ v=>[.own (aI e E) v (List.replicate n z0)]⟩ :: ms) Γ (f n))):AD tq P cx K l tail base U hd (.o A (.makeSlice t x x) d ty as ops i sl ms Γ (mk bt z>>=f))
 | ixs {hd:QE} {b:Bool} {v:Value} {x y:OO} {t:TI} {fr:Fr} {A:LN} {as:LL} {d:Nat} {ty:TI} {ops:LO} {i:Nat} {sl:LQ} {ms:MM} {Γ:QE} {m:Option (Out S R)} (hv:cK A none sl base fr) (hx:bd fr x=some v) (hw:Hm hd v b) (h:AD tq P cx K l tail base U hd (.ix b v fr x y t A d ty as ops i sl ms Γ m)):AD tq P cx K l tail base U hd (.o A (.indexAddr t x y) d ty as ops i sl ms Γ m)
 | idx {hd:QE} {α:Type} {A:LN} {as:LL} {d:Nat} {x y:OO} {v:Value} {k:IntKind} {j:Int} {t ty:TI} {o1 o2:Bool} {E:ag α} {xs:List α} {ops:LO} {i:Nat} {sl:LQ} {ms:MM} {fr:Fr} {Γ:QE} {Γ':α→List ao} {f:α→Option (Out S R)} [ht:we P t]
   (hy:bd fr y=some (.int k j)) (hr:∀ z,n5 Γ v o1 o2 E xs (.ad o1 o2 v j E z) (Γ' z)) (hE:E.size=1)
   (h:∀ z,AD tq P cx K l tail base U hd (.a as ops (i+1) ((i,d,.pointer (some (ch v 1 j))) :: sl) ms (Γ' z) (f z))):AD tq P cx K l tail base U hd (.ix false v fr x y t A d ty as ops i sl ms Γ (idx xs j>>=f))
 | W9 {hd:QE} {α:Type} {A:LN} {as:LL} {d:Nat} {x y:OO} {v:Value} {k:IntKind} {j:Int} {t ty:TI} {o1 o2:Bool} {E:ag α} {xs:List α} {ops:LO} {i:Nat} {sl:LQ} {ms:MM} {fr:Fr} {Γ:QE} {jg:α→List ao} {f:α→Option (Out S R)} [ht:we P t]
   (hy:bd fr y=some (.int k j)) (hr:∀ z,n5 hd v o1 o2 E xs (.ad o1 o2 v j E z) (jg z)) (hE:E.size=1)
   (h:∀ z,AD tq P cx K l tail base U (jg z) (.a as ops (i+1) ((i,d,.pointer (some (ch v 1 j))) :: sl) ms Γ (f z))):AD tq P cx K l tail base U hd (.ix true v fr x y t A d ty as ops i sl ms Γ (idx xs j>>=f))
 | load {hd:QE} {A:LN} {as:LL} {d:Nat} {x:OO} {a:Addr} {t ty:TI} {lk:Option Nat} {ops:LO} {i:Nat} {sl:LQ} {ms:MM} {fr:Fr} {Γ:QE} {m:Option (Out S R)} [ht:LK P t lk] (hv:cK A none sl base fr) (hx:bd fr x=some (.pointer (some a)))
   (h:AD tq P cx K l tail base U hd (.la fr a lk t x A d ty as ops i sl ms Γ m)):AD tq P cx K l tail base U hd (.o A (.load t x) d ty as ops i sl ms Γ m)
 | lsw {hd:QE} {b:Bool} {v:Value} {j:Int} {x:OO} {t:TI} {fr:Fr} {A:LN} {as:LL} {d:Nat} {ty:TI} {ops:LO} {i:Nat} {sl:LQ} {ms:MM} {Γ:QE} {m:Option (Out S R)} (hw:Hm hd v b) (h:AD tq P cx K l tail base U hd (.lb b v j fr t x A d ty as ops i sl ms Γ m)):AD tq P cx K l tail base U hd (.la fr (ch v 1 j) none t x A d ty as ops i sl ms Γ m)
 | QG {hd:QE} {α:Type} {A:LN} {as:LL} {d:Nat} {x:OO} {v:Value} {j:Int} {o:Bool} {E:ag α} {z:α} {t ty:TI} {ops:LO} {i:Nat} {sl:LQ} {ms:MM} {fr:Fr} {Γ Γx:QE} {m:Option (Out S R)} (h:sy Γ (ch v 1 j) o E z rn Γx)
   (k:AD tq P cx K l tail base U hd (.ld E z fr (ch v 1 j) t x A d ty as ops i sl ms Γ m)):AD tq P cx K l tail base U hd (.lb false v j fr t x A d ty as ops i sl ms Γ m)
 | Xa {hd:QE} {α:Type} {A:LN} {as:LL} {d:Nat} {x:OO} {v:Value} {j:Int} {E:ag α} {z:List α} {o:Bool} {t ty:TI} {ops:LO} {i:Nat} {sl:LQ} {ms:MM} {fr:Fr} {Γ:QE} {Q0 jg:Value→List ao} {m:Option (Out S R)} (hV:((U.zipIdx.all fun p=>!(p.1.contains l.length) || ((bu l).getD p.2 []).contains i))=true) (h:∀ u,sy hd (ch v 1 j) o (bE E) z (.rd o (bE E) u z) (Q0 u)) (h2:∀ u,wR (Q0 u) v j u (jg u))
   (k:∀ u,AD tq P cx K l tail base U (jg u) (.a as ops (i+1) ((i,d,u) :: sl) ms Γ m)):AD tq P cx K l tail base U hd (.lb true v j fr t x A d ty as ops i sl ms Γ m)
 | QH {hd:QE} {A:LN} {as:LL} {d:Nat} {x:OO} {a:Addr} {u:Value} {t ty:TI} {ops:LO} {i:Nat} {sl:LQ} {ms:MM} {fr:Fr} {Γ:QE} {m:Option (Out S R)} (h:sz Γ a u)
   (k:AD tq P cx K l tail base U hd (.a as ops (i+1) ((i,d,u) :: sl) ms Γ m)):AD tq P cx K l tail base U hd (.la fr a none t x A d ty as ops i sl ms Γ m)
 | JM {hd:QE} {A:LN} {as:LL} {d n:Nat} {x:OO} {a:Addr} {ds:LV} {t ty:TI} {ops:LO} {i:Nat} {sl:LQ} {ms:MM} {fr:Fr} {Γ:QE} {m:Option (Out S R)} (h:sE Γ a n ds)
   (k:AD tq P cx K l tail base U hd (.a as ops (i+1) ((i,d,.agg ds.toArray) :: sl) ms Γ m)):AD tq P cx K l tail base U hd (.la fr a (some n) t x A d ty as ops i sl ms Γ m)
 | QI {hd:QE} {A:LN} {as:LL} {d:Nat} {x:OO} {a:Addr} {k:IntKind} {z:Int} {t ty:TI} {ops:LO} {i:Nat} {sl:LQ} {ms:MM} {fr:Fr} {Γ:QE} {m:Option (Out S R)}
   (h:AD tq P cx K l tail base U hd (.a as ops (i+1) ((i,d,.int k z) :: sl) ms Γ m)):AD tq P cx K l tail base U hd (.ld (aL k) z fr a t x A d ty as ops i sl ms Γ m)
 | QJ {hd:QE} {α:Type} {A:LN} {as:LL} {d:Nat} {x:OO} {v:Value} {j:Int} {E:ag α} {z:List α} {o:Bool} {t ty:TI} {ops:LO} {i:Nat} {sl:LQ} {ms:MM} {fr:Fr} {Γ:QE} {Γ1 Γ':Value→List ao} {m:Option (Out S R)} (h:∀ u,sy Γ (ch v 1 j) o (bE E) z (.rd o (bE E) u z) (Γ1 u)) (h2:∀ u,wR (Γ1 u) v j u (Γ' u))
   (k:∀ u,AD tq P cx K l tail base U hd (.a as ops (i+1) ((i,d,u) :: sl) ms (Γ' u) m)):AD tq P cx K l tail base U hd (.ld (bE E) z fr (ch v 1 j) t x A d ty as ops i sl ms Γ m)
 | JL {hd:QE} {us:LN} {A:LN} {as:LL} {d:Nat} {f:FuncId} {xs:List Operand} {aw:Array TypeId} {ty:TI} {ops:LO} {i:Nat} {sl:LQ} {ms:MM} {Γ:QE} {m:Option (Out S R)} (hU:U.getD i []=us) (h:AD tq P cx K l tail base U hd (.oc us f xs aw A d ty as ops i sl ms Γ m)):AD tq P cx K l tail base U hd (.o A (.call ⟨.value (.func f),xs.toArray,aw⟩) d ty as ops i sl ms Γ m)
 | Xb {hd:QE} {β V:Type} {A:LN} {as:LL} {d:Nat} {f:FuncId} {fs bs:LV} {xo:OO} {xs:List Operand} {aw:Array TypeId} {ty:TI} {mo:Option β} {rt:β→V→List Value} {ps:β→V→List ao} {ops:LO} {i:Nat} {sl:LQ} {ms:MM} {fr:Fr} {Γ:QE} {g:β→Option (Out S R)}
   (hv:cK A none sl base fr) (hx:bd fr xo=some (.func (.func f) fs.toArray bs.toArray)) (hf:VO P f) (hc:∀ x:pP ms,Is P f fs bs xs (pw A ms x++fr) (rb A ms x++Γ) mo rt ps) (hi:qg ms) (CU:rf A ms=true) (ho:∀ y v,qj (ps y v)=true)
   (h:∀ y,AD tq P cx K l tail base U hd (.cr (fun v=>mr (rt y v)) (ps y) d as ops i sl ms Γ (g y))):AD tq P cx K l tail base U hd (.o A (.call ⟨.value xo,xs.toArray,aw⟩) d ty as ops i sl ms Γ (mo>>=g))
 | call {hd:QE} {β V:Type} {A:LN} {as:LL} {d:Nat} {f:FuncId} {xs:List Operand} {aw:Array TypeId} {ty:TI} {mo:Option β} {rt:β→V→List Value} {ps:β→V→List ao} {ops:LO} {i:Nat} {sl:LQ} {ms:MM} {fr:Fr} {Γ:QE} {g:β→Option (Out S R)} [hf:bo P f]
   (hv:cK A none sl base fr) (hc:∀ x:pP ms,Ir P f xs (pw A ms x++fr) (rb A ms x++Γ) mo rt ps) (hi:qg ms) (CU:rf A ms=true) (ho:∀ y v,qj (ps y v)=true)
   (h:∀ y,AD tq P cx K l tail base U hd (.cr (fun v=>mr (rt y v)) (ps y) d as ops i sl ms Γ (g y))):AD tq P cx K l tail base U hd (.oc [] f xs aw A d ty as ops i sl ms Γ (mo>>=g))
 | UK {hd:QE} {β V:Type} {A:LN} {as:LL} {d:Nat} {f:FuncId} {xs:List Operand} {aw:Array TypeId} {ty:TI} {mo:Option β} {rt:β→V→List Value} {ps:β→V→List ao} {ops:LO} {i:Nat} {sl:LQ} {ms:MM} {fr:Fr} {Γ:QE} {g:β→Option (Out S R)} [hf:bo P f]
   (hV:((U.set i []).all fun us=>!(us.contains l.length))=true) (hv:cK A none sl base fr) (hc:∀ x:pP ms,BR P f xs (pw A ms x++fr) hd (rb A ms x++Γ) mo rt ps) (hi:qg ms) (CU:rf A ms=true) (ho:∀ y v,qj (ps y v)=true)
   (h:∀ y,AD tq P cx K l tail base U hd (.cr (fun v=>mr (rt y v)) (ps y) d as ops i sl ms Γ (g y))):AD tq P cx K l tail base U hd (.oc [l.length] f xs aw A d ty as ops i sl ms Γ (mo>>=g))
 | UL {hd:QE} {β V:Type} {j1:Nat} {a1:fg} {lu:MM} {A:LN} {as:LL} {d:Nat} {f:FuncId} {xs:List Operand} {aw:Array TypeId} {ty:TI} {mo:Option β} {rt:β→V→List Value} {ps:β→V→List ao} {ops:LO} {i:Nat} {sl:LQ} {ms:MM} {fr:Fr} {Γ:QE} {g:β→Option (Out S R)} [hf:bo P f]
   (h1:A7 ms j1 a1 lu) (On:a1.src=[]) (h4:gh j1 A=true) (hv:cK A none sl base fr) (hc:∀ (q:a1.V) (x:pP lu),BR P f xs (pw A lu x++fr) (a1.ps undef q) (rb A lu x++Γ) mo rt ps) (hi:qg lu) (CU:rf A lu=true) (ho:∀ y v,qj (ps y v)=true)
   (h:∀ y,AD tq P cx K l tail base U hd (.cr (fun v=>mr (rt y v)) (ps y) d as ops i (L9 j1 i sl) lu Γ (g y))):AD tq P cx K l tail base U hd (.oc [j1] f xs aw A d ty as ops i sl ms Γ (mo>>=g))
 | crv {hd:QE} {u:Unit→Value} {d:Nat} {as:LL} {ops:LO} {i:Nat} {sl:LQ} {ms:MM} {Γ:QE} {m:Option (Out S R)} (h:AD tq P cx K l tail base U hd (.a as ops (i+1) ((i,d,u ()) :: sl) ms Γ m)):AD tq P cx K l tail base U hd (.cr u (fun _=>[]) d as ops i sl ms Γ m)
 | crb {hd:QE} {u:Unit→Value} {ps:Unit→List ao} {d:Nat} {as:LL} {ops:LO} {i:Nat} {sl:LQ} {ms:MM} {Γ:QE} {m:Option (Out S R)} (h:AD tq P cx K l tail base U hd (.a as ops (i+1) ((i,d,u ()) :: sl) (⟨i,d,[],Unit,fun _=>u,fun _=>ps⟩ :: ms) Γ m)):AD tq P cx K l tail base U hd (.cr u ps d as ops i sl ms Γ m)
 | crm {hd:QE} {V:Type} {u:V→Value} {ps:V→List ao} {d:Nat} {as:LL} {ops:LO} {i:Nat} {sl:LQ} {ms:MM} {Γ:QE} {m:Option (Out S R)} (h:AD tq P cx K l tail base U hd (.a as ops (i+1) sl (⟨i,d,[],V,fun _=>u,fun _=>ps⟩ :: ms) Γ m)):AD tq P cx K l tail base U hd (.cr u ps d as ops i sl ms Γ m)
 | val {hd:QE} {A:LN} {as:LL} {op:Op} {d:Nat} {ty:TI} {u:Value} {ops:LO} {i:Nat} {sl:LQ} {ms:MM} {fr:Fr} {Γ:QE} {m:Option (Out S R)} (hv:cK A none sl base fr) (hq:VQ P Γ fr op u)
   (h:AD tq P cx K l tail base U hd (.a as ops (i+1) ((i,d,u) :: sl) ms Γ m)):AD tq P cx K l tail base U hd (.o A op d ty as ops i sl ms Γ m)
 | mj {hd:QE} {A:LN} {as:LL} {op:BinOp} {x y:OO} {k k':IntKind} {a b:Int} {t t':TI} {d:Nat} {ty:TI} {ops:LO} {i:Nat} {sl:LQ} {ms:MM} {fr:Fr} {Γ:QE} {f:Int→Option (Out S R)} (hv:cK A none sl base fr) (hx:bd fr x=some (.int k a)) (hy:bd fr y=some (.int k' b)) (hk:Oh op k k')
   (h:∀ z,AD tq P cx K l tail base U hd (.a as ops (i+1) ((i,d,.int k z) :: sl) ms Γ (f z))):AD tq P cx K l tail base U hd (.o A (.binOp op t x y t') d ty as ops i sl ms Γ (pO op k a b>>=f))
 | pz {hd:QE} {as:LL} {ops:LO} {i:Nat} {sl:LQ} {ms:MM} {Γ:QE} {m:Option (Out S R)} (h:AD tq P cx K l tail base U hd (.a as ops i sl ms Γ m)):AD tq P cx K l tail base U hd (.p [] as ops i sl ms Γ m)
 | pe {hd:QE} {e:ao} {Δ:QE} {as:LL} {ops:LO} {i:Nat} {sl:LQ} {ms:MM} {Γ:QE} {m:Option (Out S R)} (h:AD tq P cx K l tail base U hd (.p Δ as ops i sl ms (e :: Γ) m)):AD tq P cx K l tail base U hd (.p (e :: Δ) as ops i sl ms Γ m)
 | Ep {hd:QE} {α V:Type} {Sc:ag α} {cl:α→V→List Value} {en:α→V→List ao} {A:LN} {as:LL} {d n:Nat} {x y:OO} {v:Value} {xs:List α} {k:IntKind} {j:Int} {t ty:TI} {ops:LO} {i:Nat} {sl:LQ} {ms:MM} {fr:Fr} {Γ Γx:QE} {f:α→Option (Out S R)} [ht:El P t n]
   (hy:bd fr y=some (.int k j)) (hr:n5 Γ v false false (pU Sc) xs rn Γx) (hs:Dm Sc V cl en) (hn:Sc.size=n)
   (h:∀ z u,AD tq P cx K l tail base U hd (.p (.aw (ch v n j) (cl z u) :: en z u) as ops (i+1) ((i,d,.pointer (some (ch v n j))) :: sl) ms Γ (f z))):AD tq P cx K l tail base U hd (.ix false v fr x y t A d ty as ops i sl ms Γ (idx xs j>>=f))
 | Q1 {hd:QE} {α V:Type} {Sc:ag α} {cl:α→V→List Value} {en:α→V→List ao} {A:LN} {as:LL} {d n e bt:Nat} {x y:OO} {v:Value} {us:List (List Value)} {xs:List α} {k:IntKind} {j:Int} {t ty:TI} {ops:LO} {i:Nat} {sl:LQ} {ms:MM} {fr:Fr} {Γ Γ1:QE} {f:α→Option (Out S R)} [ht:yU P t e n bt]
   (hy:bd fr y=some (.int k j)) (h1:dj Γ (.own (aI e (iw n)) v us) Γ1) (hg:In (.rd false (tI Sc) (.bool true) (us,xs)) Γ) (hs:Dm Sc V cl en)
   (h:∀ z u,AD tq P cx K l tail base U hd (.p (.rd false (yJ us j) (.bool true) (cl z u) :: en z u) as ops (i+1) ((i,d,.pointer (some (ch v n j))) :: sl) ms Γ (f z))):AD tq P cx K l tail base U hd (.ix false v fr x y t A d ty as ops i sl ms Γ (idx xs j>>=f))
 | VP {hd:QE} {A:LN} {as:LL} {d n e off:Nat} {x:OO} {v u:Value} {us:List (List Value)} {j:Int} {cs:LV} {t ty:TI} {ops:LO} {i:Nat} {sl:LQ} {ms:MM} {fr:Fr} {Γ Γ1:QE} {m:Option (Out S R)} (h1:dj Γ (.own (aI e (iw n)) v us) Γ1) (hp:In (.rd false (yJ us j) (.bool true) cs) Γ) (hc:cs[off]? = some u)
   (k:AD tq P cx K l tail base U hd (.a as ops (i+1) ((i,d,u) :: sl) ms Γ m)):AD tq P cx K l tail base U hd (.la fr ((ch v n j).add off) none t x A d ty as ops i sl ms Γ m)
 | Q2 {hd:QE} {A:LN} {as:LL} {d n e:Nat} {x:OO} {v u:Value} {us:List (List Value)} {j:Int} {cs:LV} {t ty:TI} {ops:LO} {i:Nat} {sl:LQ} {ms:MM} {fr:Fr} {Γ Γ1:QE} {m:Option (Out S R)} (h1:dj Γ (.own (aI e (iw n)) v us) Γ1) (hp:In (.rd false (yJ us j) (.bool true) cs) Γ) (hc:cs[0]? = some u)
   (k:AD tq P cx K l tail base U hd (.a as ops (i+1) ((i,d,u) :: sl) ms Γ m)):AD tq P cx K l tail base U hd (.la fr (ch v n j) none t x A d ty as ops i sl ms Γ m)
 | EM {hd:QE} {β V:Type} {A:LN} {as:LL} {d:Nat} {f:FuncId} {xs:List Operand} {aw:Array TypeId} {ty:TI} {mo:Option β} {rt:β→V→List Value} {ps:β→V→List ao} {ops:LO} {i:Nat} {sl:LQ} {ms:MM} {fr:Fr} {Γ:QE} {g:β→Option (Out S R)} [hf:bo P f]
   (hV:((U.set i []).all fun us=>!(us.contains l.length))=true) (hv:cK A none sl base fr) (hc:∀ x:pP ms,EJ P f xs (pw A ms x++fr) hd Γ mo rt ps) (hi:qg ms) (CU:rf A ms=true)
   (h:∀ y,AD tq P cx K l tail base U hd (.cr (fun v=>mr (rt y v)) (ps y) d as ops i sl ms Γ (g y))):AD tq P cx K l tail base U hd (.oc [l.length] f xs aw A d ty as ops i sl ms Γ (mo>>=g))
 | Ds {o1 o2:Bool} {yv:Value} {fr:Fr} {Γx:QE} {hd:QE} {us:LN} {t e:TI} {E:ag Int} {z0:Int} {bt t1 t2:Nat} {k:IntKind} {xs ys:List Int} {a1:fg} {lu:MM} {f:Unit→Option (Out S R)} {A:LN} {as:LL} {d:Nat} {ty:TI} {ops:LO} {i:Nat} {sl:LQ} {ms:MM} {Γ:QE} [hz:qY P t Int e E z0 bt] (h1:rK ms t1 a1 lu) (h3:∀ u v,a1.ps u v=[.own (aI e (aL k)) (a1.rt u v) xs]) (hu:us=[a1.j]) (h4:gh a1.j A=true) (hv:cK A none sl base fr) (hx:look fr t2=some yv) (hr:n5 Γ yv o1 o2 (aL k) ys rn Γx)
   (h:AD tq P cx K l tail base U hd (.a as ops (i+1) sl (⟨i,d,[],Value,fun _ v=>v,fun _ v=>[.own (aI e (aL k)) v (xs++ys)]⟩ :: lu) Γ (f ()))):AD tq P cx K l tail base U hd (.ap us t1 t2 t A d ty as ops i sl ms Γ (fits bt (xs.length+ys.length)>>=f))
end Go.Dk
namespace Go.Dk
open Go Go.Li
theorem mf {t:Nat} {l:LN}:gh t l=true↔t∈l:=by
 induction l with
 | nil=>simp [gh]
 | cons a l ih=>
  unfold gh
  cases hb:Nat.beq t a with
  | true=>simp [Nat.eq_of_beq_eq_true hb]
  | false=>simp only [cond_false,ih,List.mem_cons]; exact ⟨.inr,fun h=>h.resolve_left fun e=>by rw [e,Nat.beq_refl] at hb; cases hb⟩
def lz (l:LO) (U:LL) (mt:Nat):List (List Nat):=(List.range mt).map fun i=>(List.range l.length).filter (rD l U mt i)
theorem oy {l:LO} {U:LL} {mt i j:Nat} (h:j∈(lz l U mt).getD i []):j∈(bu l).getD i []∧rD l U mt i j=true:=by
 unfold lz at h
 rw [List.getD_eq_getElem?_getD,List.getElem?_map] at h
 by_cases hi:i < mt
 ·rw [List.getElem?_range hi] at h
  have h1:=(List.mem_filter.1 h).2
  refine ⟨?_,h1⟩
  unfold rD at h1
  rw [Bool.and_eq_true] at h1
  simpa using h1.1
 ·rw [List.getElem?_eq_none (by simpa using hi)] at h
  exact absurd h List.not_mem_nil
variable {Z:Nat→Prop}
structure gj (Z:Nat→Prop) (l:LO) (S:List fk) (sl:LQ) (ms:MM):Prop where
 v:∀ p∈sl,∃ j,(j=p.1∨j∈(bu l).getD p.1 [])∧bh l j=some p.2.1∧∃ s,S[j]? = some s∧s.b=true∧∀ f w r x,s.V f w r x→x=p.2.2
 m:∀ a∈ms,(S[a.j]? = some ⟨true,MV Z a⟩∧bh l a.j=some a.d)∨(S[a.j]? = some ⟨true,JU Z a⟩∧bh l a.j=none∧∃ k∈(bu l).getD a.j [],bh l k=some a.d)
 s:∀ i s,S[i]? = some s→Ol Z ((bu l).getD i []) l s
 d:(ms.map (·.j)).Nodup
 t:∀ i j k,j∈(bu l).getD k []→k∈(bu l).getD i []→j∈(bu l).getD i []
theorem gj.lt {l:LO} {S:List fk} {sl:LQ} {ms:MM} (h:gj Z l S sl ms) {a:fg} (ha:a∈ms):a.j < S.length:=by
 rcases h.m a ha with h | h <;> exact (List.getElem?_eq_some_iff.1 h.1).1
theorem gj.Du {l:LO} {S S2:List fk} {sl:LQ} {ms:MM} (h:gj Z l S sl ms) {a:fg} (ha:a∈ms) {g:Nat→List Nat} {r:NV} {w:World} (hd:vh l (S++S2) a.j g r w):MV Z a (g a.j) w r (r a.d):=by
 rcases h.m a ha with h1 | h1
 ·have h2:=hd.1 a.d h1.2
  rw [List.getElem?_append_left (List.getElem?_eq_some_iff.1 h1.1).1,h1.1] at h2
  exact h2
 ·obtain ⟨x,hx⟩:=hd.2 h1.2.1 _ (by rw [List.getElem?_append_left (List.getElem?_eq_some_iff.1 h1.1).1]; exact h1.1) rfl
  exact hx
theorem gj.slot {l:LO} {S:List fk} {sl:LQ} {ms:MM} (h:gj Z l S sl ms) {a:fg} (ha:a∈ms) {i:Nat} (hi:a.j∈(bu l).getD i []):∃ k∈(bu l).getD i [],bh l k=some a.d:=by
 rcases h.m a ha with h1 | ⟨_,_,k,hk,hd⟩
 ·exact ⟨a.j,hi,h1.2⟩
 ·exact ⟨k,h.t i k a.j hk hi,hd⟩
theorem gj.qZ {l:LO} {S S2:List fk} {sl:LQ} {ms:MM} (h:gj Z l S sl ms) {a:fg} (ha:a∈ms):((S++S2)[a.j]? = some ⟨true,MV Z a⟩∧bh l a.j=some a.d)∨((S++S2)[a.j]? = some ⟨true,JU Z a⟩∧bh l a.j=none∧∃ k∈(bu l).getD a.j [],bh l k=some a.d):=by
 rw [List.getElem?_append_left (h.lt ha)]
 exact h.m a ha
theorem gj.Iv {l:LO} {S S2:List fk} {sl:LQ} {ms:MM} (h:gj Z l S sl ms) {p:Nat×Nat×Value} (hp:p∈sl):∃ j,(j=p.1∨j∈(bu l).getD p.1 [])∧bh l j=some p.2.1∧∃ s,(S++S2)[j]? = some s∧s.b=true∧∀ f w r x,s.V f w r x→x=p.2.2:=by
 obtain ⟨j,hj,h1,s,h2,h3⟩:=h.v p hp
 exact ⟨j,hj,h1,s,by rw [List.getElem?_append_left (List.getElem?_eq_some_iff.1 h2).1]; exact h2,h3⟩
theorem gj.zd {l:LO} {S S2:List fk} {sl:LQ} {ms:MM} (h:gj Z l S sl ms) {p:Nat×Nat×Value} (hp:p∈sl) {r:NV} (ho:∀ j,(j=p.1∨j∈(bu l).getD p.1 [])→j < S.length→Old l (S++S2) j r):r p.2.1=p.2.2:=by
 obtain ⟨j,hj,h1,s,h2,h3,h4⟩:=h.v p hp
 have hl:=(List.getElem?_eq_some_iff.1 h2).1
 have:=ho j hj hl _ h1 s (by rw [List.getElem?_append_left hl]; exact h2)
 rw [if_pos h3] at this
 obtain ⟨f,w,hV⟩:=this
 exact h4 f w r _ hV
theorem gj.val {l:LO} {S:List fk} {sl:LQ} {ms:MM} (h:gj Z l S sl ms) {d:Nat} {u:Value} (hd:bh l S.length=some d):gj Z l (S++[sV u]) ((S.length,d,u) :: sl) ms:=by
 refine ⟨?_,fun a ha=>h.qZ ha,?_,h.d,h.t⟩
 ·intro p hp
  rcases List.mem_cons.1 hp with rfl | hp
  ·exact ⟨S.length,.inl rfl,hd,sV u,by simp,rfl,fun _ _ _ _ h=>h⟩
  ·exact h.Iv hp
 ·intro i s hs
  by_cases hi:i < S.length
  ·rw [List.getElem?_append_left hi] at hs; exact h.s i s hs
  ·rw [List.getElem?_append_right (by omega)] at hs
   have tM:i - S.length=0:=by
    have:=(List.getElem?_eq_some_iff.1 hs).1
    simp at this; omega
   rw [tM] at hs
   cases hs
   exact EH.n Iw
theorem gj.mem {l:LO} {S:List fk} {sl:LQ} {ms:MM} (h:gj Z l S sl ms) {b:fg} (hj:b.j=S.length) (hd:bh l S.length=some b.d) (j6:∀ t∈b.src,∃ j∈(bu l).getD S.length [],bh l j=some t):gj Z l (S++[⟨true,MV Z b⟩]) sl (b :: ms):=by
 have bc:∀ a∈ms,a.j < S.length:=fun a ha=>h.lt ha
 refine ⟨fun p hp=>?_,?_,?_,?_,h.t⟩
 ·exact h.Iv hp
 ·intro a ha
  rcases List.mem_cons.1 ha with rfl | ha
  ·exact .inl ⟨by rw [hj]; simp,by rw [hj]; exact hd⟩
  ·exact h.qZ ha
 ·intro i s hs
  by_cases hi:i < S.length
  ·rw [List.getElem?_append_left hi] at hs; exact h.s i s hs
  ·rw [List.getElem?_append_right (by omega)] at hs
   have tM:i - S.length=0:=by
    have:=(List.getElem?_eq_some_iff.1 hs).1
    simp at this; omega
   have Q3:i=S.length:=by omega
   rw [tM] at hs
   cases hs
   rw [Q3]
   exact JV j6
 ·rw [List.map_cons,List.nodup_cons]
  refine ⟨fun hm=>?_,h.d⟩
  obtain ⟨a,ha,he⟩:=List.mem_map.1 hm
  have:=bc a ha
  omega
theorem gj.Xc {l:LO} {S:List fk} {sl:LQ} {ms:MM} (h:gj Z l S sl ms) {j d:Nat} {u:Value} (hd:bh l j=some d) {s:fk} (hs:S[j]? = some s) (hb:s.b=true) (hV:∀ f w r x,s.V f w r x→x=u):gj Z l S ((j,d,u) :: sl) ms:=
 ⟨fun p hp=>by
  rcases List.mem_cons.1 hp with rfl | hp
  ·exact ⟨j,.inl rfl,hd,s,hs,hb,hV⟩
  ·exact h.v p hp,h.m,h.s,h.d,h.t⟩
theorem gj.re {l:LO} {S:List fk} {sl:LQ} {ms:MM} (h:gj Z l S sl ms) {j i:Nat} (hj:j∈(bu l).getD i []):gj Z l S (L9 j i sl) ms:=by
 refine ⟨fun p hp=>?_,h.m,h.s,h.d,h.t⟩
 obtain ⟨q,hq,rfl⟩:=List.mem_map.1 hp
 obtain ⟨k,hk,h1⟩:=h.v q hq
 cases hb:Nat.beq q.1 j with
 | false=>exact ⟨k,hk,h1⟩
 | true=>
  refine ⟨k,.inr ?_,h1⟩
  have VR:=Nat.eq_of_beq_eq_true hb
  show k∈(bu l).getD i []
  rcases hk with rfl | hk
  ·rw [VR]; exact hj
  ·rw [VR] at hk; exact h.t i k j hk hj
theorem gj.Xd {l:LO} {S:List fk} {sl:LQ} {ms:MM} (h:gj Z l S sl ms) {b:fg} (hj:b.j=S.length) (hd:bh l S.length=none) (hk:∃ k∈(bu l).getD S.length [],bh l k=some b.d) (j6:b.src=[]):gj Z l (S++[⟨true,JU Z b⟩]) sl (b :: ms):=by
 have bc:∀ a∈ms,a.j < S.length:=fun a ha=>h.lt ha
 refine ⟨fun p hp=>?_,?_,?_,?_,h.t⟩
 ·exact h.Iv hp
 ·intro a ha
  rcases List.mem_cons.1 ha with rfl | ha
  ·exact .inr ⟨by rw [hj]; simp,by rw [hj]; exact hd,by rw [hj]; exact hk⟩
  ·exact h.qZ ha
 ·intro i s hs
  by_cases hi:i < S.length
  ·rw [List.getElem?_append_left hi] at hs; exact h.s i s hs
  ·rw [List.getElem?_append_right (by omega)] at hs
   have tM:i - S.length=0:=by
    have:=(List.getElem?_eq_some_iff.1 hs).1
    simp at this; omega
   have Q3:i=S.length:=by omega
   rw [tM] at hs
   cases hs
   rw [Q3]
   exact Ip hk fun t ht=>by rw [j6] at ht; cases ht
 ·rw [List.map_cons,List.nodup_cons]
  refine ⟨fun hm=>?_,h.d⟩
  obtain ⟨a,ha,he⟩:=List.mem_map.1 hm
  have:=bc a ha
  omega
theorem jm {l:LO} {m:Nat} {base:Fr} {r r0:NV} (hh:lh l m base=true) (ha:cn r0 base) (ho:∀ t,(∀ j,j < m→bh l j≠some t)→r t=r0 t):cn r base:=by
 intro t v hl
 have hm:∃ u,(t,u)∈base:=by
  clear hh ha
  induction base with
  | nil=>cases hl
  | cons p base ih=>
   obtain ⟨a,u⟩:=p
   unfold look at hl
   cases hb:Nat.beq t a with
   | true=>exact ⟨u,by rw [Nat.eq_of_beq_eq_true hb]; simp⟩
   | false=>rw [hb] at hl; obtain ⟨u',h⟩:=ih hl; exact ⟨u',by simp [h]⟩
 obtain ⟨u,hu⟩:=hm
 rw [ho t fun j hj=>JX hh (t,u) hu j hj]
 exact ha t v hl
section
variable {P:Program} {l:LO} {mt:Nat} {S:List fk} {sl:LQ} {ms:MM} {base fr:Fr} {r r0:NV} {w w0:World} {g:Nat→List Nat} {i:Nat} {A:LN} {U:LL}
theorem ma (hR:gj Z l S sl ms) (hA:A=(lz l U mt).getD i []) (hv:cK A none sl base fr) (hb:cn r base) {S':List fk} (hO:∀ j∈(bu l).getD i [],Old l (S++S') j r):cn r fr:=by
 refine hv.sound hb ?_ (fun _ _ _ h=>nomatch h)
 intro p hp hm
 have hi:=(oy (by rw [← hA]; exact mf.1 hm)).1
 exact hR.zd hp fun j hj _=>hO j (hj.elim (fun e=>e ▸ hi) fun hj=>hR.t i j p.1 hj hi)
theorem Ma {H:LN} {o:Oper} {u:Value} (hh:lh l mt base=true) (ha:cn r0 base) (hR:gj Z l S sl ms) (ho:l[S.length]? = some o) (hg:o.guard=none) (hA:A=(lz l U mt).getD S.length []) (hv:cK A none sl base fr)
  (h:∀ r,cn r fr→∀ w,ak H w0 w→(execOp (ev r) o).run P w = .ok (.value u) w):jx P l mt (S++[sV u]) U r0 w0 H S.length:=
 jx.val ho (by simp) hg fun g r w hC hO hn jy=>h r (ma hR hA hv (jm hh ha jy) hO) w hC
end
end Go.Dk
namespace Go.Dk
open Go Go.Li
section
variable {R S:Type} {P:Program} {cx:Cx R} {K:cy R S} {l tail:LO} {base fr:Fr} {w:World} {Z:Nat→Prop} {U:LL}
def j4 (P:Program) (Z:Nat→Prop) (l:LO) (mt:Nat) (U:LL) (r0:NV) (w0:World) (H:LN) (i:Nat) (sl:LQ) (ms:MM):Prop:=
 ∃ S:List fk,S.length=i∧gj Z l S sl ms∧∀ j,j < i→jx P l mt S U r0 w0 H j
def qm (B:Bs) (Z:Nat→Prop) (hd Γ:QE) (H:LN) (w:World):Prop:=∃ F Hd,(SA Z w hd [] Hd∧(∀ b∈Hd,b∈H∧b < w.heap.size)∧(∀ b∈H,b < w.heap.size)∧Hd.Nodup)∧SA Z w Γ [] F∧Gd B Z (H++F) w
theorem qm.stay {B:Bs} {Γ:QE} {F H:LN} {w w':World} (hS:SA Z w Γ [] F) (hG:Gd B Z (H++F) w) (hC:ak H w w'):SA Z w' Γ [] F:=
 hS.dn hC (fun b hb=>hG.apart b (List.mem_append_left _ hb)) (fun _ _=>List.not_mem_nil) (fun b hb hf=>(List.nodup_append.1 hG.nd).2.2 b hb b hf rfl)
def Fin (P:Program) (cx:Cx R) (K:cy R S) (l l0:LO) (mt:Nat) (U:LL) (hd:QE) (_id:Nat) (base:Fr) (i:Nat) (sl:LQ) (ms:MM) (Γ:QE) (m:Option (Out S R)):Prop:=
 ∀ B o,m=some o→∀ r0 w0 H Z,cn r0 base→qm B Z hd Γ H w0→j4 P Z l mt U r0 w0 H i sl ms→l3 P cx.n l0 (j8 P cx B K o) r0 w0
theorem j4.re {mt:Nat} {r0:NV} {w0:World} {H:LN} {i k j:Nat} {sl:LQ} {ms:MM} (h:j4 P Z l mt U r0 w0 H k sl ms) (hj:j∈(bu l).getD i []):j4 P Z l mt U r0 w0 H k (L9 j i sl) ms:=by
 obtain ⟨S,h1,h2,h3⟩:=h
 exact ⟨S,h1,h2.re hj,h3⟩
structure uh (l:LO) (mt:Nat) (U:LL) (as:LL) (ops:LO) (i:Nat):Prop where
 a:as=(lz l U mt).drop i
 o:ops=(l.take mt).drop i
 le:i≤mt
structure Q4 (l:LO) (mt:Nat) (U:LL) (A:LN) (op:Op) (ty:TI) (as:LL) (ops:LO) (i:Nat):Prop where
 A:A=(lz l U mt).getD i []
 o:∃ pos af,l[i]? = some ⟨none,op,ty,pos,af,none⟩
 n:uh l mt U as ops (i+1)
theorem uh.Iu {mt:Nat} {A:LN} {as:LL} {op:Op} {ty:TI} {pos:String} {af:Array Edge} {ops:LO} {i:Nat} (h:uh l mt U (A :: as) (⟨none,op,ty,pos,af,none⟩ :: ops) i):Q4 l mt U A op ty as ops i:=by
 obtain ⟨h1,h2,h3⟩:=h
 have e1:(lz l U mt)[i]? = some A:=by
  have:=congrArg (fun x=>x[0]?) h1
  simpa using this.symm
 have e2:(l.take mt)[i]? = some ⟨none,op,ty,pos,af,none⟩:=by
  have:=congrArg (fun x=>x[0]?) h2
  simpa using this.symm
 have t1:as=(lz l U mt).drop (i+1):=by
  have:=congrArg List.tail h1
  simpa [List.tail_drop] using this
 have t2:ops=(l.take mt).drop (i+1):=by
  have:=congrArg List.tail h2
  simpa [List.tail_drop] using this
 have hi:i < mt:=by
  have:=(List.getElem?_eq_some_iff.1 e1).1
  simpa [lz] using this
 rw [List.getElem?_take,if_pos hi] at e2
 exact ⟨by rw [List.getD_eq_getElem?_getD,e1]; rfl,⟨pos,af,e2⟩,t1,t2,hi⟩
structure qd (l:LO) (mt:Nat) (U:LL) (A:LN) (op:Op) (d:Nat) (ty:TI) (as:LL) (ops:LO) (i:Nat):Prop where
 A:A=(lz l U mt).getD i []
 o:∃ pos af,l[i]? = some ⟨some d,op,ty,pos,af,none⟩
 n:uh l mt U as ops (i+1)
theorem uh.cons {mt:Nat} {A:LN} {as:LL} {op:Op} {d:Nat} {ty:TI} {pos:String} {af:Array Edge} {ops:LO} {i:Nat} (h:uh l mt U (A :: as) (⟨some d,op,ty,pos,af,none⟩ :: ops) i):qd l mt U A op d ty as ops i:=by
 obtain ⟨h1,h2,h3⟩:=h
 have e1:(lz l U mt)[i]? = some A:=by
  have:=congrArg (fun x=>x[0]?) h1
  simpa using this.symm
 have e2:(l.take mt)[i]? = some ⟨some d,op,ty,pos,af,none⟩:=by
  have:=congrArg (fun x=>x[0]?) h2
  simpa using this.symm
 have t1:as=(lz l U mt).drop (i+1):=by
  have:=congrArg List.tail h1
  simpa [List.tail_drop] using this
 have t2:ops=(l.take mt).drop (i+1):=by
  have:=congrArg List.tail h2
  simpa [List.tail_drop] using this
 have hi:i < mt:=by
  have:=(List.getElem?_eq_some_iff.1 e1).1
  simpa [lz] using this
 rw [List.getElem?_take,if_pos hi] at e2
 exact ⟨by rw [List.getD_eq_getElem?_getD,e1]; rfl,⟨pos,af,e2⟩,t1,t2,hi⟩
theorem uh.next {mt:Nat} {A:LN} {as:LL} {o:Oper} {ops:LO} {i:Nat} (h:uh l mt U (A :: as) (o :: ops) i):A=(lz l U mt).getD i []∧l[i]? = some o∧uh l mt U as ops (i+1):=by
 obtain ⟨h1,h2,h3⟩:=h
 have e1:(lz l U mt)[i]? = some A:=by
  have:=congrArg (fun x=>x[0]?) h1
  simpa using this.symm
 have e2:(l.take mt)[i]? = some o:=by
  have:=congrArg (fun x=>x[0]?) h2
  simpa using this.symm
 have t1:as=(lz l U mt).drop (i+1):=by
  have:=congrArg List.tail h1
  simpa [List.tail_drop] using this
 have t2:ops=(l.take mt).drop (i+1):=by
  have:=congrArg List.tail h2
  simpa [List.tail_drop] using this
 have hi:i < mt:=by
  have:=(List.getElem?_eq_some_iff.1 e1).1
  simpa [lz] using this
 rw [List.getElem?_take,if_pos hi] at e2
 exact ⟨by rw [List.getD_eq_getElem?_getD,e1]; rfl,e2,t1,t2,hi⟩
theorem j4.skip {mt:Nat} {A:LN} {j d:Nat} {p:Bool} {dst:Option Nat} {op:Op} {ty:TI} {pos:String} {af:Array Edge} {i:Nat} {sl:LQ} {ms:MM} {r0:NV} {w0:World} {H:LN} (h:j4 P Z l mt U r0 w0 H i sl ms) (hA:A=(lz l U mt).getD i []) (ho:l[i]? = some ⟨dst,op,ty,pos,af,some (j,p)⟩)
  (hd:bh l j=some d) (hb:It sl j d (!p)=true) (hj:gh j A=true):j4 P Z l mt U r0 w0 H (i+1) sl ms:=by
 obtain ⟨S',hl,hR,hO⟩:=h
 subst hl
 have VS:j∈(bu l).getD S'.length []:=(oy (by rw [← hA]; exact mf.1 hj)).1
 have hm:=JW hb
 have Q5:gj Z l (S'++[⟨false,fun _ _ _ _=>True⟩]) sl ms:=by
  refine ⟨fun q hq=>hR.Iv hq,fun a ha=>hR.qZ ha,fun i s hs=>?_,hR.d,hR.t⟩
  by_cases hi:i < S'.length
  ·rw [List.getElem?_append_left hi] at hs; exact hR.s i s hs
  ·rw [List.getElem?_append_right (by omega)] at hs
   have tM:i - S'.length=0:=by
    have:=(List.getElem?_eq_some_iff.1 hs).1
    simp at this; omega
   rw [tM] at hs
   cases hs
   exact fun _ _ _ _ _ _ _ _ _ _ _ _=>trivial
 refine ⟨S'++[⟨false,fun _ _ _ _=>True⟩],by simp,Q5,fun k hk=>?_⟩
 by_cases h2:k < S'.length
 ·exact jx.more (hO k h2) h2
 ·obtain rfl:k=S'.length:=by omega
  intro o s br hs g r w hC hV kc hn jy r8 hf
  rw [ho] at br
  obtain rfl:=Option.some.inj br
  rw [List.getElem?_append_right (Nat.le_refl _),Nat.sub_self] at hs
  obtain rfl:_=s:=Option.some.inj hs
  rw [if_neg (by simp)]
  have hr:r d = .bool (!p):=hR.zd (S2:=[⟨false,fun _ _ _ _=>True⟩]) hm fun q hq _=>kc q (hq.elim (fun e=>e ▸ VS) fun e=>hR.t _ _ _ e VS)
  unfold Region.wanted
  dsimp only
  rw [Od hd,hr]
  cases p <;> rfl
theorem j4.val {mt:Nat} {A:LN} {op:Op} {d:Nat} {ty:TI} {as:LL} {ops:LO} {i:Nat} {sl:LQ} {ms:MM} {r0:NV} {w0:World} {H:LN} {u:Value} (h:j4 P Z l mt U r0 w0 H i sl ms) (hh:lh l mt base=true) (ha:cn r0 base) (h1:qd l mt U A op d ty as ops i)
  (hv:cK A none sl base fr) (hq:∀ r,cn r fr→∀ pos af g w,ak H w0 w→(execOp (ev r) ⟨some d,op,ty,pos,af,g⟩).run P w = .ok (.value u) w):j4 P Z l mt U r0 w0 H (i+1) ((i,d,u) :: sl) ms:=by
 obtain ⟨S',hl,hR,hO⟩:=h
 subst hl
 obtain ⟨hA,⟨pos,af,ho⟩,_⟩:=h1
 refine ⟨S'++[sV u],by simp,hR.val (by unfold bh; rw [ho]; rfl),fun j hj=>?_⟩
 by_cases h2:j < S'.length
 ·exact jx.more (hO j h2) h2
 ·obtain rfl:j=S'.length:=by omega
  exact Ma hh ha hR ho rfl hA hv fun r hr=>hq r hr _ _ _
def CV (P:Program) (Z:Nat→Prop) (l:LO) (mt:Nat) (U:LL) (r0:NV) (w0:World) (H:LN) (i:Nat) (sl:LQ) (ms:MM) (a:fg):Prop:=
 ∃ S:List fk,S.length=i∧gj Z l S sl ms∧(∀ j,j < i→jx P l mt S U r0 w0 H j)∧
  ∀ V:List Nat→World→(Nat→Value)→Value→Prop,(∀ f w r x,MV Z a f w r x→∃ f',(∀ b∈f',b∈f)∧V f' w r x)→jx P l mt (S++[⟨true,V⟩]) U r0 w0 H i
theorem HL.front {Δ Γ:QE} {Fd F:LN} (h:HL Z w Δ Fd) (hs:SA Z w Γ [] F):SA Z w (Δ++Γ) [] (Fd++F):=by
 induction h with
 | nil=>exact hs
 | own h _ ih=>rw [List.append_assoc]; exact SA.cons ih h
 | fact h _ ih=>exact SA.fact ih h
def ze (A:LN) (g:Nat→List Nat):List fg→List Nat
 | []=>[]
 | a :: l=>bif gh a.j A then g a.j++ze A g l else ze A g l
def HV (Z:Nat→Prop) (w:World) (Δ:QE) (B:LN):Prop:=∃ Vo Vr,(∀ b∈Vo++Vr,b∈B)∧(∀ b∈Vr,b < w.heap.size)∧HL (fun b=>Z b∨b∈Vr) w Δ Vo
theorem HV.front {Δ Γ:QE} {B F:LN} (h:HV Z w Δ B) (hs:SA Z w Γ [] F):∃ G:List Nat,(∀ b∈G,b∈B++F∧b < w.heap.size)∧∃ F':List Nat,(∀ b∈F',b∈G)∧SA (fun b=>Z b∨b∈G) w (Δ++Γ) [] F':=by
 obtain ⟨Vo,Vr,h1,h2,h3⟩:=h
 have hS:=h3.front (hs.mono (Z':=fun b=>Z b∨b∈Vr) (fun _ h=>.inl h) fun _ h=>h)
 refine ⟨Vr++(Vo++F),fun b hb=>?_,Vo++F,fun b hb=>List.mem_append_right _ hb,hS.mono (fun b h=>h.imp id fun h=>List.mem_append_left _ h) fun _ h=>h⟩
 rcases List.mem_append.1 hb with hb | hb
 ·exact ⟨List.mem_append_left _ (h1 b (List.mem_append_right _ hb)),h2 b hb⟩
 ·refine ⟨?_,hS.lt b hb⟩
  rcases List.mem_append.1 hb with hb | hb
  ·exact List.mem_append_left _ (h1 b (List.mem_append_left _ hb))
  ·exact List.mem_append_right _ hb
theorem HV.app {Δ Δ':QE} {f B:LN} (h:HN Z w Δ f) (k:HV Z w Δ' B):HV Z w (Δ++Δ') (f++B):=by
 obtain ⟨Fo,Fr,rfl,h1,h2⟩:=h.all
 obtain ⟨Vo,Vr,k1,k2,k3⟩:=k
 refine ⟨Fo++Vo,Fr++Vr,fun b hb=>?_,fun b hb=>(List.mem_append.1 hb).elim (h1 b) (k2 b),(h2.mono fun b h=>h.imp id fun h=>List.mem_append_left _ h).app (k3.mono fun b h=>h.imp id fun h=>List.mem_append_right _ h)⟩
 have:=fun h=>k1 b h
 simp only [List.mem_append] at hb this ⊢
 rcases hb with (h | h) | h | h
 ·exact .inl (.inl h)
 ·exact .inr (this (.inl h))
 ·exact .inl (.inr h)
 ·exact .inr (this (.inr h))
theorem UM {A:LN} {g:Nat→List Nat} {r:NV}:∀ {ms:MM},qg ms→rf A ms=true→(∀ a∈ms,gh a.j A=true→MV Z a (g a.j) w r (r a.d))→
  ∃ x:pP ms,(∀ p∈pw A ms x,r p.1=p.2)∧HV Z w (rb A ms x) (ze A g ms):=by
 intro ms
 induction ms with
 | nil=>intro _ _ _; exact ⟨(),fun p hp=>absurd hp List.not_mem_nil,[],[],fun b (h:b∈[])=>absurd h List.not_mem_nil,fun b (h:b∈[])=>absurd h List.not_mem_nil,.nil⟩
 | cons a ms ih=>
  intro hi j6 h
  unfold rf at j6
  rw [Bool.and_eq_true] at j6
  cases hi with
  | cons h1 h2=>
   obtain ⟨x,hx,hl⟩:=ih h2 j6.2 fun b hb=>h b (List.mem_cons_of_mem _ hb)
   cases hb:gh a.j A with
   | false=>
    obtain ⟨v⟩:=h1.ne
    refine ⟨(v,x),?_,?_⟩
    ·simp only [pw,hb,cond_false]; exact hx
    ·simp only [rb,ze,hb,cond_false]; exact hl
   | true=>
    obtain ⟨v,e1,e2,_⟩:=h a (by simp) hb
    have es:wT a r=yY a (mF ms x):=by
     have h3:=j6.1
     rw [hb,cond_true,List.all_eq_true] at h3
     refine z6 fun t ht=>?_
     have h4:=h3 t ht
     cases hj:rH t ms with
     | none=>rw [hj] at h4; cases h4
     | some j=>rw [hj] at h4; unfold wk; rw [EG hj h4 hx]
    rw [es] at e1 e2
    refine ⟨(v,x),?_,?_⟩
    ·simp only [pw,hb,cond_true]
     intro p hp
     rcases List.mem_cons.1 hp with rfl | hp
     ·exact e1
     ·exact hx p hp
    ·simp only [rb,ze,hb,cond_true]; exact HV.app e2 hl
theorem Mb {t j:Nat}:∀ {ms:MM},rH t ms=some j→∃ a∈ms,a.j=j∧a.d=t:=by
 intro ms
 induction ms with
 | nil=>intro h; cases h
 | cons a l ih=>
  intro h
  unfold rH at h
  cases hb:Nat.beq t a.d with
  | true=>rw [hb] at h; cases h; exact ⟨a,by simp,rfl,(Nat.eq_of_beq_eq_true hb).symm⟩
  | false=>rw [hb] at h; obtain ⟨b,h1,h2⟩:=ih h; exact ⟨b,List.mem_cons_of_mem _ h1,h2⟩
theorem Pu {mt i:Nat} {A:LN} (hA:A=(lz l U mt).getD i []) {S':List fk} {sl:LQ} {ms:MM} {t:Nat} (hR:gj Z l S' sl ms) (hj:∃ j,rH t ms=some j∧gh j A=true):∃ j∈(bu l).getD i [],bh l j=some t:=by
 obtain ⟨j,h1,h2⟩:=hj
 obtain ⟨a,ha,rfl,rfl⟩:=Mb h1
 exact hR.slot ha (oy (by rw [← hA]; exact mf.1 h2)).1
theorem zd {mt:Nat} {A:LN} {S' S2:List fk} {sl:LQ} {ms:MM} {g:Nat→List Nat} {r:NV} (hR:gj Z l S' sl ms) (hA:A=(lz l U mt).getD S'.length []) (hi:qg ms) (j6:rf A ms=true) (hn:∀ j,rD l U mt S'.length j=true→vh l (S'++S2) j g r w) :
  ∃ x:pP ms,(∀ p∈pw A ms x,r p.1=p.2)∧HV Z w (rb A ms x) (ze A g ms):=
 UM hi j6 fun a hm hb=>by
  exact hR.Du hm (hn a.j (oy (by rw [← hA]; exact mf.1 hb)).2)
theorem j4.mem {mt:Nat} {A:LN} {op:Op} {d:Nat} {ty:TI} {as:LL} {ops:LO} {i:Nat} {sl:LQ} {ms:MM} {r0:NV} {w0:World} {H:LN} {a:fg} (h:j4 P Z l mt U r0 w0 H i sl ms) (h1:qd l mt U A op d ty as ops i) (haj:a.j=i) (had:a.d=d)
  (j6:∀ S',gj Z l S' sl ms→∀ t∈a.src,∃ j∈(bu l).getD i [],bh l j=some t)
  (hq:∀ S' S2,S'.length=i→gj Z l S' sl ms→∀ (g:Nat→List Nat) (r:NV) (w:World),ak H w0 w→(∀ j∈(bu l).getD S'.length [],Old l (S'++S2) j r)→(∀ j,rD l U mt S'.length j=true→vh l (S'++S2) j g r w)→(∀ t,(∀ j,j < mt→bh l j≠some t)→r t=r0 t)→∀ pos af,
   ee P ⟨some d,op,ty,pos,af,none⟩ r w fun v w'=>ak [] w w'∧∃ f,(∀ b∈f,w.heap.size≤b∧b < w'.heap.size)∧MV Z a f w' r v):j4 P Z l mt U r0 w0 H (i+1) sl (a :: ms):=by
 obtain ⟨S',hl,hR,hO⟩:=h
 subst hl
 subst had
 obtain ⟨hA,⟨pos,af,ho⟩,_⟩:=h1
 refine ⟨S'++[⟨true,MV Z a⟩],by simp,hR.mem haj (by unfold bh; rw [ho]; rfl) (j6 S' hR),fun j hj=>?_⟩
 by_cases h2:j < S'.length
 ·exact jx.more (hO j h2) h2
 ·obtain rfl:j=S'.length:=by omega
  exact jx.Mc (V:=MV Z a) ho (by simp) rfl fun g r w hC hO hn jy=>hq S' _ rfl hR g r w hC hO hn jy pos af
theorem rK.sub {ms yL:MM} {a:fg} {t:Nat} (h:rK ms t a yL):a∈ms∧a.d=t∧(∀ b∈yL,b∈ms)∧(yL.map (·.j)).Sublist (ms.map (·.j)):=by
 induction h with
 | here=>exact ⟨by simp,rfl,fun b hb=>List.mem_cons_of_mem _ hb,by simp⟩
 | there _ ih=>
  obtain ⟨h1,h2,h3,h4⟩:=ih
  refine ⟨List.mem_cons_of_mem _ h1,h2,fun b hb=>?_,by simpa using h4⟩
  rcases List.mem_cons.1 hb with rfl | hb
  ·simp
  ·exact List.mem_cons_of_mem _ (h3 b hb)
theorem gj.sub {S':List fk} {sl:LQ} {ms yL:MM} (h:gj Z l S' sl ms) (hm:∀ b∈yL,b∈ms) (hn:(yL.map (·.j)).Sublist (ms.map (·.j))):gj Z l S' sl yL:=⟨h.v,fun a ha=>h.m a (hm a ha),h.s,h.d.sublist hn,h.t⟩
theorem Pv {mt:Nat} {t e et:TI} {E:ag Int} {z0:Int} {bt t1 t2 j2 d2 i d:Nat} {k:IntKind} {y:Int} {xs:List Int} {a1:fg} {ms lu EL:MM} {sl:LQ} {A:LN} {ty:TI} {as:LL} {ops:LO} {r0:NV} {w0:World} {H:LN} (hz:qY P t Int e E z0 bt) (h1:rK ms t1 a1 lu) (h2:rK lu t2 ⟨j2,d2,[],Nat,fun _ b=>.slice (some ⟨b,0,none⟩) 1 1,fun _ b=>[.row b [.int k y] et]⟩ EL) (h3:∀ u v,a1.ps u v=[.own (aI e (aL k)) (a1.rt u v) xs]) (h4:gh a1.j A=true) (h5:gh j2 A=true) (h6:U.getD i []=[a1.j])
  (hf:fits bt (xs.length+1)=some ()) (BP:qd l mt U A (.call ⟨.builtin .append,#[.tmp t1,.tmp t2],#[t,t]⟩) d ty as ops i) (h:j4 P Z l mt U r0 w0 H i sl ms) :
  j4 P Z l mt U r0 w0 H (i+1) sl (⟨i,d,[],Value,fun _ v=>v,fun _ v=>[.own (aI e (aL k)) v (xs++[y])]⟩ :: lu):=by
 obtain ⟨S',hl,hR,hO⟩:=h
 subst hl
 obtain ⟨hA,⟨pos,af,ho⟩,_⟩:=BP
 obtain ⟨b1,b2⟩:=o7 hf
 obtain ⟨q1,hE,i',z,q3,q4,q5,q6,q7,q8⟩:=hz.h
 obtain ⟨m1,m2,m3,m4⟩:=h1.sub
 obtain ⟨n1,n2,_,_⟩:=h2.sub
 refine ⟨S'++[⟨true,MV Z ⟨S'.length,d,[],Value,fun _ v=>v,fun _ v=>[.own (aI e (aL k)) v (xs++[y])]⟩⟩],by simp,(hR.sub m3 m4).mem rfl (by unfold bh; rw [ho]; rfl) (by intro t h; cases h),fun j hj=>?_⟩
 by_cases bc:j < S'.length
 ·exact jx.more (hO j bc) bc
 ·obtain rfl:j=S'.length:=by omega
  intro o' s' br di g r w hC zf kc hn jy ui n9
  rw [ho] at br
  cases br
  rw [List.getElem?_append_right (Nat.le_refl _),Nat.sub_self] at di
  cases di
  rw [if_pos rfl]
  refine ⟨rfl,?_⟩
  have get:∀ a∈ms,gh a.j A=true→MV Z a (g a.j) w r (r a.d):=fun a hm hb=>by
   exact hR.Du hm (hn a.j (oy (by rw [← hA]; exact mf.1 hb)).2)
  obtain ⟨v1,c1,c2,c3⟩:=get a1 m1 h4
  obtain ⟨v2,f1,f2,f3⟩:=get _ (m3 _ n1) h5
  rw [h3,← c1,m2] at c2
  rw [m2] at c1
  simp only at f1 f2
  subst n2
  replace c2:=c2.own rfl
  replace f2:=f2.own rfl
  generalize AE:g a1.j=G1 at c2 c3
  generalize iH:g j2=G2 at f2 f3
  cases c2 with
  | fact h _=>exact h.elim
  | @own _ ff F0 _ EN vi=>
   cases vi
   rw [List.append_nil] at c3
   cases f2 with
   | fact h _=>exact h.elim
   | @own _ gg F0 _ bb vi=>
    cases vi
    obtain ⟨rfl,bb⟩:=bb
    have hb:mw g (U.getD S'.length [])=ff:=by rw [h6]; simp [mw,AE]
    refine px (ee.uU (E:=aL k) (F:=ff) q1 q3 q4 q5 rfl q6 (s:=.tmp t1) (x:=.tmp d2) rfl ⟨EN,c3⟩ (fun b hb=>hb) f1 bb ⟨rfl,rfl⟩ (by rw [q7]; exact b1) b2) ?_
    rintro v w' ⟨BS,f',sG,hV⟩
    rw [hb]
    refine ⟨BS,f',sG,v,rfl,?_,hV.2⟩
    have:=HL.own (Z:=fun _=>False) (e:=.own (aI e (aL k)) v (xs++[y])) (f:=f') hV.1 .nil
    exact .inl (by simpa using this)
theorem ee.w8 {α:Type} {E:ag α} {F f k:LN} {t e:TI} {s x:OO} {i:TypeInfo} {z:Value} {sv yv:Value} {xs ys:List α} {r:NV} {w:World} {d:Option Nat} {ty:TI} {pos:String} {af:Array Edge} (Q6:∀ {h cs x f},E.rep h cs x f→f=[])
  (ht:P.underlying t=some (.slice e)) (hi:P.info? e=some i) (hz:i.zero=some z) (hs:i.size=1) (hE:E.size=1) (w9:z.oneCell'=true)
  (tN:ev r s=sv) (hO:CW (aI e E) xs f w sv) (hF:∀ b∈f,b∈F) (hx:ev r x=yv) (hy:(bE E).rep w.heap [yv] ys k)
  (hb:(xs.length+ys.length) * i.bytes≤140737488355328) (wm:xs.length+ys.length≤maxLen) :
  ee P ⟨d,.call ⟨.builtin .append,#[s,x],#[t,t]⟩,ty,pos,af,none⟩ r w fun v w'=>ak F w w'∧∃ f',(∀ b∈f',(b∈F∨w.heap.size≤b)∧b < w'.heap.size)∧CW (aI e E) (xs++ys) f' w' v:=by
 have qk:=Dv hy
 rcases Nat.eq_zero_or_pos ys.length with AH | AH
 ·obtain rfl:ys=[]:=List.eq_nil_of_length_eq_zero AH
  obtain ⟨b0,c0,BT⟩:=uS hy
  obtain ⟨base,cap,hv,hr⟩:=hO.1
  obtain rfl:sv = .slice base xs.length cap:=by simpa using hv
  have ES:xs.length≤cap:=by
   rcases hr with ⟨_,rfl,rfl,_⟩ | ⟨_,_,_,_,_,_,h,_⟩
   ·simp
   ·exact h
  have mg:=xa (P:=P) (w:=w) (ty:=ty) ht hi (b:=base) (a:=b0) (c:=c0) ES
  subst BT
  have UN:(execOp (ev r) ⟨d,.call ⟨.builtin .append,#[s,x],#[t,t]⟩,ty,pos,af,none⟩).run P w = .ok (.value (.slice base xs.length cap)) w:=by
   simp only [execOp,resolve,invoke,builtin,Sem.run_bind,Sem.run_pure,Result.andThen_ok,List.map_toArray,List.map_cons,List.map_nil,tN,hx,List.length_nil,mg]
  unfold ee
  rw [UN]
  exact ⟨ak.refl _ _,f,fun b hb=>⟨.inl (hF b hb),ag.lt _ hO.1 b hb⟩,by rw [List.append_nil]; exact hO⟩
 ·rcases qk with rfl | ⟨a,c,news,g1,BT,xQ,df,_⟩
  ·simp at AH
  ·obtain ⟨rfl,_⟩:=zg (h':=w.heap) Q6 df
   obtain ⟨v,w',f',h,hC,D6,cw,cq⟩:=o9 (d:=d) (ty:=ty) (pos:=pos) (af:=af) (g:=none) ht hi hz (by rw [hs,hE]) (by rw [cells_one w9,hE]; rfl) tN hO.1 hO.2 (hx.trans BT) xQ df (fun _ h=>nomatch h) AH hb wm
   unfold ee
   rw [h]
   refine ⟨hC.mono hF,f',fun b hb=>⟨?_,ag.lt _ D6 b hb⟩,D6,cq List.nodup_nil⟩
   rcases cw b hb with h | h | h
   ·exact .inl (hF b h)
   ·cases h
   ·exact .inr h
theorem Md {mt:Nat} {t e:TI} {E:ag Int} {z0:Int} {bt t1 t2 i d:Nat} {k:IntKind} {xs ys:List Int} {a1:fg} {ms lu:MM} {sl:LQ} {A:LN} {ty:TI} {as:LL} {ops:LO} {r0:NV} {w0:World} {H:LN} {o1 o2:Bool} {yv:Value} {Γ Γx:QE} {F:LN} (hz:qY P t Int e E z0 bt) (h1:rK ms t1 a1 lu) (h3:∀ u v,a1.ps u v=[.own (aI e (aL k)) (a1.rt u v) xs]) (h4:gh a1.j A=true) (h6:U.getD i []=[a1.j]) (hh:lh l mt base=true) (ha:cn r0 base) (hv:cK A none sl base fr) (hx:look fr t2=some yv) (hr:n5 Γ yv o1 o2 (aL k) ys rn Γx) (hS:∀ w,ak H w0 w→SA Z w Γ [] F)
  (hf:fits bt (xs.length+ys.length)=some ()) (BP:qd l mt U A (.call ⟨.builtin .append,#[.tmp t1,.tmp t2],#[t,t]⟩) d ty as ops i) (h:j4 P Z l mt U r0 w0 H i sl ms) :
  j4 P Z l mt U r0 w0 H (i+1) sl (⟨i,d,[],Value,fun _ v=>v,fun _ v=>[.own (aI e (aL k)) v (xs++ys)]⟩ :: lu):=by
 obtain ⟨S',hl,hR,hO⟩:=h
 subst hl
 obtain ⟨hA,⟨pos,af,ho⟩,_⟩:=BP
 obtain ⟨b1,b2⟩:=o7 hf
 obtain ⟨q1,hE,i',z,q3,q4,q5,q6,q7,q8⟩:=hz.h
 obtain ⟨m1,m2,m3,m4⟩:=h1.sub
 refine ⟨S'++[⟨true,MV Z ⟨S'.length,d,[],Value,fun _ v=>v,fun _ v=>[.own (aI e (aL k)) v (xs++ys)]⟩⟩],by simp,(hR.sub m3 m4).mem rfl (by unfold bh; rw [ho]; rfl) (by intro t h; cases h),fun j hj=>?_⟩
 by_cases bc:j < S'.length
 ·exact jx.more (hO j bc) bc
 ·obtain rfl:j=S'.length:=by omega
  intro o' s' br di g r w hC zf kc hn jy ui n9
  rw [ho] at br
  cases br
  rw [List.getElem?_append_right (Nat.le_refl _),Nat.sub_self] at di
  cases di
  rw [if_pos rfl]
  refine ⟨rfl,?_⟩
  have get:∀ a∈ms,gh a.j A=true→MV Z a (g a.j) w r (r a.d):=fun a hm hb=>by
   exact hR.Du hm (hn a.j (oy (by rw [← hA]; exact mf.1 hb)).2)
  obtain ⟨v1,c1,c2,c3⟩:=get a1 m1 h4
  rw [h3,← c1,m2] at c2
  rw [m2] at c1
  replace c2:=c2.own rfl
  have BT:ev r (.tmp t2)=yv:=ma hR hA hv (jm hh ha jy) kc t2 yv hx
  obtain ⟨_,_,⟨⟨kk,UO,_⟩,_⟩,_⟩:=hr.sound (hS w hC)
  generalize AE:g a1.j=G1 at c2 c3
  cases c2 with
  | fact h _=>exact h.elim
  | @own _ ff F0 _ EN vi=>
   cases vi
   rw [List.append_nil] at c3
   have hb:mw g (U.getD S'.length [])=ff:=by rw [h6]; simp [mw,AE]
   refine px (ee.w8 (E:=aL k) (F:=ff) tL q1 q3 q4 q5 rfl q6 (s:=.tmp t1) (x:=.tmp t2) rfl ⟨EN,c3⟩ (fun b hb=>hb) BT UO (by rw [q7]; exact b1) b2) ?_
   rintro v w' ⟨BS,f',sG,hV⟩
   rw [hb]
   refine ⟨BS,f',sG,v,rfl,?_,hV.2⟩
   have:=HL.own (Z:=fun _=>False) (e:=.own (aI e (aL k)) v (xs++ys)) (f:=f') hV.1 .nil
   exact .inl (by simpa using this)
theorem tA {t:TI} {x y:OO} {i:TypeInfo} {b off:Nat} {cs us:LV} {e:TI} {r:NV} {d:Option Nat} {ty:TI} {pos:String} {af:Array Edge} {gg:Option (Nat×Bool)}
  (hi:P.info? t=some i) (hs:us.length=i.size) (bb:Row w b cs e) (hl:off+us.length≤cs.length) (hx:ev r x = .pointer (some ⟨b,off,none⟩)) (hy:(ev r y).cells.toList=us) (hu:∀ u∈us,u.oneCell'=true) :
  (execOp (ev r) ⟨d,.store t x y,ty,pos,af,gg⟩).run P w = .ok .skip (w.setRow b (cs.take off++us++cs.drop (off+us.length)).toArray):=by
 have h:=run_storeCells_at P b off e us 0 cs.toArray w bb (by simpa using hl) hu
 simp only [Nat.add_zero] at h
 have ru:(ev r y).cells=us.toArray:=by rw [← hy]
 simp only [execOp,Instr.storeAt,Instr.sureAddr,hx,storeVar]
 simp [ru,sizeOf,typeInfo,hi,hs,h]
theorem Pw {mt:Nat} {t e:TI} {t1 j1 n i:Nat} {y:OO} {u:Value} {us cs ds:LV} {ms lu:MM} {sl:LQ} {A:LN} {ty:TI} {as:LL} {ops:LO} {r0:NV} {w0:World} {H:LN} {Γ:QE} {F:LN} (hh:lh l mt base=true) (ha:cn r0 base) (ht:u9 P t n)
  (h1:rK ms t1 ⟨j1,t1,[],Nat,fun _ b=>.pointer (some ⟨b,0,none⟩),fun _ b=>[.row b cs e]⟩ lu) (hv:cK A none sl base fr) (hy:bd fr y=some u) (hc:qH Γ u us) (tJ:us.length=n) (hs:rF us 0 cs ds) (ho:s8 Γ us) (h4:gh j1 A=true) (h6:U.getD i []=[j1])
  (hS:∀ w,ak H w0 w→SA Z w Γ [] F) (BP:Q4 l mt U A (.store t (.tmp t1) y) ty as ops i) (h:j4 P Z l mt U r0 w0 H i sl ms) :
  j4 P Z l mt U r0 w0 H (i+1) sl (⟨i,t1,[],Nat,fun _ b=>.pointer (some ⟨b,0,none⟩),fun _ b=>[.row b ds e]⟩ :: lu):=by
 obtain ⟨S',hl,hR,hO⟩:=h
 subst hl
 obtain ⟨hA,⟨pos,af,VT⟩,_⟩:=BP
 obtain ⟨ti,q1,q2⟩:=ht.h
 obtain ⟨m1,_,m3,m4⟩:=h1.sub
 have CX:=oy (by rw [← hA]; exact mf.1 h4)
 refine ⟨S'++[⟨true,JU Z ⟨S'.length,t1,[],Nat,fun _ b=>.pointer (some ⟨b,0,none⟩),fun _ b=>[.row b ds e]⟩⟩],by simp,(hR.sub m3 m4).Xd (b:=⟨S'.length,t1,[],Nat,fun _ b=>.pointer (some ⟨b,0,none⟩),fun _ b=>[.row b ds e]⟩) rfl (by unfold bh; rw [VT]; rfl) (hR.slot m1 CX.1) rfl,fun j hj=>?_⟩
 by_cases bc:j < S'.length
 ·exact jx.more (hO j bc) bc
 ·obtain rfl:j=S'.length:=by omega
  intro o' s' br di g r w hC zf kc hn jy ui n9
  rw [VT] at br
  cases br
  rw [List.getElem?_append_right (Nat.le_refl _),Nat.sub_self] at di
  cases di
  rw [if_pos rfl]
  refine ⟨rfl,?_⟩
  obtain ⟨b,c1,c2,c3⟩:=hR.Du m1 (hn j1 CX.2)
  simp only at c1 c2
  replace c2:=c2.own rfl
  generalize AE:g j1=G1 at c2 c3
  cases c2 with
  | fact h _=>exact h.elim
  | @own _ ff F0 _ EN vi=>
   cases vi
   obtain ⟨rfl,bb⟩:=EN
   have hb:mw g (U.getD S'.length [])=[b]:=by rw [h6]; simp [mw,AE]
   have hr:=ma hR hA hv (jm hh ha jy) kc
   obtain ⟨e1,e2⟩:=hs.eq
   have EC:=hS w hC
   have mg:=tA (P:=P) (d:=none) (ty:=ty) (pos:=pos) (af:=af) (gg:=none) q1 (by rw [tJ,q2]) bb e1 (x:=.tmp t1) c1 (y:=y) (by rw [aS hr hy]; exact hc.eq EC) (ho.one EC)
   unfold ee
   rw [mg,hb]
   have qA:=setRow_heap w b cs.toArray (cs.take 0++us++cs.drop (0+us.length)).toArray e _ bb
   have Xe:b < w.heap.size:=bb.lt
   refine ⟨⟨rfl,rfl,rfl,Nat.le_refl _,by simp,fun j _ hj=>setRow_other w b j _ fun h=>hj (by simp [h])⟩,[b],fun b' bz=>?_,b,c1,?_,by simp⟩
   ·rw [List.mem_singleton.1 bz]
    exact ⟨.inl (by simp),by simpa using Xe⟩
   ·refine .inl (HL.own (f:=[b]) ⟨rfl,?_⟩ .nil)
    rw [e2]
    exact qA
theorem Px {mt:Nat} {t i d:Nat} {cs:LV} {sl:LQ} {ms:MM} {A:LN} {ty:TI} {as:LL} {ops:LO} {r0:NV} {w0:World} {H:LN} (hz:BG P t cs) (h1:qd l mt U A (.alloc t) d ty as ops i) (h:j4 P Z l mt U r0 w0 H i sl ms) :
   j4 P Z l mt U r0 w0 H (i+1) sl (⟨i,d,[],Nat,fun _ b=>.pointer (some ⟨b,0,none⟩),fun _ b=>[.row b cs t]⟩ :: ms):=by
 obtain ⟨i',z,t1,t2,t3⟩:=hz.h
 refine h.mem h1 rfl rfl (fun _ _ _ h=>nomatch h) fun S' S2 hl hR g r w hC kc hn jy pos af=>px (ee.QZ (cs:=cs) t1 t2 (by rw [← t3])) ?_
 rintro v w' ⟨hC,f,hf,b,e1,e2,bb⟩
 refine ⟨hC,f,hf,b,e2,?_,by rw [e1]; simp⟩
 have:=HL.own (Z:=fun _=>False) (e:=.row b cs t) (f:=[b]) ⟨rfl,bb⟩ .nil
 rw [e1]
 exact .inl (by simpa using this)
theorem Py {mt:Nat} {t:TI} {ps:List (Nat×Operand)} {zc:LV} {pl:List (Nat×Nat)} {A:LN} {as:LL} {d:Nat} {ty:TI} {ops:LO} {i:Nat} {sl:LQ} {ms:MM} {fr:Fr} {hd Γ:QE} {B:Bs} {r0:NV} {w0:World} {H:LN} {X:Value→List Value} {ts:LN} (hh:lh l mt base=true) (hb:BH P t zc pl) (hi:qg ms) (j6:rf A ms=true) (hj:VN A ms ts=true) (hv:cK A none sl base fr)
   (hx:∀ x:pP ms,uF (rb A ms x++Γ) (pw A ms x++fr) pl ps zc (X (yX (wk (mF ms x)) ts))) (h1:qd l mt U A (.build t ps.toArray) d ty as ops i) (ha:cn r0 base) (hs:qm B Z hd Γ H w0) (h:j4 P Z l mt U r0 w0 H i sl ms) :
   j4 P Z l mt U r0 w0 H (i+1) sl (⟨i,d,ts,Unit,fun u _=>.agg (X u).toArray,fun _ _=>[]⟩ :: ms):=by
 have VU:∀ t∈ts,∃ j,rH t ms=some j∧gh j A=true:=fun t ht=>by
  have:=List.all_eq_true.1 hj t ht
  cases hf:rH t ms with
  | none=>rw [hf] at this; cases this
  | some j=>rw [hf] at this; exact ⟨j,rfl,this⟩
 refine h.mem h1 rfl rfl (fun S' hR t' ht=>Pu h1.A hR (VU t' ht)) ?_
 intro S' S2 hl hR g r w hC kc hn jy pos af
 have hA:=h1.A
 rw [← hl] at hA
 have hbs:=ma hR hA hv (jm hh ha jy) kc
 obtain ⟨x,VV,r9⟩:=zd hR hA hi j6 hn
 obtain ⟨F,Hd,⟨vj,xc,te,xd⟩,hS,hG⟩:=hs
 obtain ⟨G,_,_,_,gy⟩:=r9.front (qm.stay hS hG hC)
 have e:yX (wk (mF ms x)) ts=yX r ts:=z6 fun t ht=>by
  obtain ⟨j,h2,h3⟩:=VU t ht
  unfold wk
  rw [EG h2 h3 VV]
 have hF:=hx x
 rw [e] at hF
 have mg:=(VQ.Oi (P:=P) (hb:=hb) hF).sound gy (tb VV hbs) (some d) ty pos af none w (ak.refl _ _)
 unfold ee
 rw [mg]
 exact ⟨ak.refl _ _,[],fun b hb=>absurd hb List.not_mem_nil,(),rfl,.inl .nil,List.nodup_nil⟩
theorem Pz {mt:Nat} {α:Type} {t e:TI} {E:ag α} {z0:α} {bt i d:Nat} {sl:LQ} {ms:MM} {A:LN} {ty:TI} {as:LL} {ops:LO} {r0:NV} {w0:World} {H:LN} (hz:qY P t α e E z0 bt) (h1:qd l mt U A (.buildSlice t 0 #[]) d ty as ops i) (h:j4 P Z l mt U r0 w0 H i sl ms) :
   j4 P Z l mt U r0 w0 H (i+1) sl (⟨i,d,[],Value,fun _ v=>v,fun _ v=>[.own (aI e E) v []]⟩ :: ms):=by
 obtain ⟨t1,_,i',z,t2,_⟩:=hz.h
 refine h.mem h1 rfl rfl (fun _ _ _ h=>nomatch h) fun S' S2 hl hR g r w hC kc hn jy pos af=>px (ee.made (xR (E:=E) t1 t2)) ?_
 rintro v w' ⟨hC,f,hf,hV⟩
 refine ⟨hC,f,hf,v,rfl,?_,hV.2⟩
 have:=HL.own (Z:=fun _=>False) (e:=.own (aI e E) v []) (f:=f) hV.1 .nil
 exact .inl (by simpa using this)
theorem Q7 {mt n:Nat} {α:Type} {t e:TI} {E:ag α} {z0:α} {bt i d:Nat} {sl:LQ} {ms:MM} {A:LN} {ty:TI} {as:LL} {ops:LO} {r0:NV} {w0:World} {H:LN} {x:OO} {z:Int} (hh:lh l mt base=true) (ha:cn r0 base) (hz:qY P t α e E z0 bt) (hv:cK A none sl base fr) (hx:bd fr x=some (.int .i64 z)) (hn:mk bt z=some n) (h1:qd l mt U A (.makeSlice t x x) d ty as ops i) (h:j4 P Z l mt U r0 w0 H i sl ms) :
   j4 P Z l mt U r0 w0 H (i+1) sl (⟨i,d,[],Value,fun _ v=>v,fun _ v=>[.own (aI e E) v (List.replicate n z0)]⟩ :: ms):=by
 obtain ⟨e1,e2,e3⟩:=CR hn
 obtain ⟨t1,hE,i',z',t2,t3,t4,t5,t6,t7⟩:=hz.h
 subst e1
 refine h.mem h1 rfl rfl (fun _ _ _ h=>nomatch h) fun S' S2 hl hR g r w hC kc hn jy pos af=>?_
 have hb:=ma hR (by rw [hl]; exact h1.A) hv (jm hh ha jy) kc
 refine px (ee.made (ET (E:=E) (z0:=z0) t1 t2 t3 t4 hE t5 t7 (aS hb hx) (aS hb hx) (by rw [t6]; exact e2) e3)) ?_
 rintro v w' ⟨hC,f,hf,hV⟩
 refine ⟨hC,f,hf,v,rfl,?_,hV.2⟩
 have:=HL.own (Z:=fun _=>False) (e:=.own (aI e E) v (List.replicate n z0)) (f:=f) hV.1 .nil
 exact .inl (by simpa using this)
theorem Q8 {mt:Nat} {α:Type} {t e:TI} {E:ag α} {z0:α} {bt i d:Nat} {sl:LQ} {ms:MM} {A:LN} {ty:TI} {as:LL} {ops:LO} {r0:NV} {w0:World} {H:LN} {x:OO} {u:Value} {Γ:QE} {F:LN} (hh:lh l mt base=true) (ha:cn r0 base) (hz:qY P t α e E z0 bt) (hv:cK A none sl base fr) (hx:bd fr x=some u) (ho:One Γ u) (hS:∀ w,ak H w0 w→SA Z w Γ [] F) (h1:qd l mt U A (.buildSlice t 1 #[(0,x)]) d ty as ops i) (h:j4 P Z l mt U r0 w0 H i sl ms) :
   j4 P Z l mt U r0 w0 H (i+1) sl (⟨i,d,[],Nat,fun _ b=>.slice (some ⟨b,0,none⟩) 1 1,fun _ b=>[.row b [u] e]⟩ :: ms):=by
 obtain ⟨t1,hE,i',z',t2,t3,t4,t5,t6,t7⟩:=hz.h
 refine h.mem h1 rfl rfl (fun _ _ _ h=>nomatch h) fun S' S2 hl hR g r w hC kc hn jy pos af=>?_
 have hb:=ma hR (by rw [hl]; exact h1.A) hv (jm hh ha jy) kc
 refine px (ee.Es t1 t2 t3 t4 (aS hb hx) (ho.one (hS w hC))) ?_
 rintro v w' ⟨hC,f,hf,b,e1,e2,bb⟩
 refine ⟨hC,f,hf,b,e2,?_,by rw [e1]; simp⟩
 have:=HL.own (Z:=fun _=>False) (e:=.row b [u] e) (f:=[b]) ⟨rfl,bb⟩ .nil
 rw [e1]
 exact .inl (by simpa using this)
theorem Hn {mt n:Nat} {t e:TI} {i d:Nat} {sl:LQ} {ms:MM} {A:LN} {ty:TI} {as:LL} {ops:LO} {r0:NV} {w0:World} {H:LN} {ps:List (Nat×Operand)} {us:LV} {Γ:QE} {F:LN} (hh:lh l mt base=true) (ha:cn r0 base) (hz:Hb P t e) (hv:cK A none sl base fr) (hd:s9 Γ fr 0 ps us) (hn:us.length=n) (hb:(Nat.ble 1 n && Nat.ble n 16777216)=true) (hS:∀ w,ak H w0 w→SA Z w Γ [] F) (h1:qd l mt U A (.buildSlice t n ps.toArray) d ty as ops i) (h:j4 P Z l mt U r0 w0 H i sl ms) :
   j4 P Z l mt U r0 w0 H (i+1) sl (⟨i,d,[],Nat,fun _ b=>.slice (some ⟨b,0,none⟩) n n,fun _ b=>[.row b us e]⟩ :: ms):=by
 refine h.mem h1 rfl rfl (fun _ _ _ h=>nomatch h) fun S' S2 hl hR g r w hC kc hnn jy pos af=>?_
 have bz:=ma hR (by rw [hl]; exact h1.A) hv (jm hh ha jy) kc
 unfold ee
 rw [hd.op bz (hS w hC) hz hn hb]
 refine ⟨ak.alloc _ _ _,[w.heap.size],fun b hb=>by rw [List.mem_singleton.1 hb]; simp,w.heap.size,rfl,?_,by simp⟩
 have:=HL.own (Z:=fun _=>False) (e:=.row w.heap.size us e) (f:=[w.heap.size]) ⟨rfl,heap_alloc_new w _⟩ .nil
 exact .inl (by simpa using this)
theorem Me {mt:Nat} {β V:Type} {A:LN} {as:LL} {d:Nat} {f:FuncId} {xs:List Operand} {aw:Array TypeId} {ty:TI} {mo:Option β} {rt:β→V→List Value} {ps:β→V→List ao} {ops:LO} {i:Nat} {sl:LQ} {ms:MM} {fr:Fr} {hd Γ:QE} {B:Bs} {r0:NV} {w0:World} {H:LN} {y:β} (hh:lh l mt base=true) (hf:bo P f) (hv:cK A none sl base fr)
   (hc:∀ x:pP ms,Ir P f xs (pw A ms x++fr) (rb A ms x++Γ) mo rt ps) (hi:qg ms) (j6:rf A ms=true) (hw:∀ y v,qj (ps y v)=true) (h1:qd l mt U A (.call ⟨.value (.func f),xs.toArray,aw⟩) d ty as ops i) (hy:mo=some y) (ha:cn r0 base) (hs:qm B Z hd Γ H w0) (h:j4 P Z l mt U r0 w0 H i sl ms) :
   CV P Z l mt U r0 w0 H i sl ms ⟨i,d,[],V,fun _ v=>mr (rt y v),fun _=>ps y⟩:=by
 obtain ⟨S',hl,hR,hO⟩:=h
 subst hl
 refine ⟨S',rfl,hR,hO,fun V' hV=>?_⟩
 obtain ⟨hA,⟨pos,af,ho⟩,_⟩:=h1
 refine jx.Mc (V:=V') ho (by simp) rfl fun g r w hC kc hn jy=>?_
 have hb:=ma hR hA hv (jm hh ha jy) kc
 obtain ⟨x,hx,r9⟩:=zd hR hA hi j6 hn
 obtain ⟨BU,sa,hd,hr⟩:=hc x
 obtain ⟨fn,c,f1,f2,f3⟩:=hf.h
 refine Calls.D5 f1 f2 f3 ?_
 rw [pT (tb hx hb) BU]
 obtain ⟨F,Hd,⟨vj,xc,te,xd⟩,hS,hG⟩:=hs
 obtain ⟨G,kz,FV,xe,gy⟩:=r9.front (qm.stay hS hG hC)
 rw [qf] at sa
 refine (sa.2 w (fun b=>Z b∨b∈G) [] (hr.sound (fun _ h=>h) (fun _ b hb=>.inr (xe b hb)) gy hd.ho) List.nodup_nil (fun b hb=>absurd hb List.not_mem_nil)
  (fun b hb=>hb.elim (fun h=>Nat.lt_of_lt_of_le (hG.na b h) hC.size) fun h=>(kz b h).2) y hy).mono ?_
 rintro e w' ⟨v,he,Z2,F2,qy,iH⟩
 have zh:HL (fun _=>False) w' (ps y v) F2:=vb (hw y v) qy
 have bc:=(zh.front (Γ:=[]) (F:=[]) rfl).lt
 obtain ⟨f',cw,BV⟩:=hV F2 w' r _ ⟨v,rfl,.inl zh,iH.nd⟩
 refine ⟨_,he,iH.iz,f',fun b hb=>⟨(iH.low b (cw b hb)).resolve_left List.not_mem_nil,bc b (by simpa using cw b hb)⟩,BV⟩
theorem JY {mt:Nat} {β V:Type} {A:LN} {as:LL} {d:Nat} {f:FuncId} {fs bs:LV} {xo:OO} {xs:List Operand} {aw:Array TypeId} {ty:TI} {mo:Option β} {rt:β→V→List Value} {ps:β→V→List ao} {ops:LO} {i:Nat} {sl:LQ} {ms:MM} {fr:Fr} {hd Γ:QE} {B:Bs} {r0:NV} {w0:World} {H:LN} {y:β} (hh:lh l mt base=true) (hf:bo P f) (hv:cK A none sl base fr)
   (Q9:bd fr xo=some (.func (.func f) fs.toArray bs.toArray)) (hc:∀ x:pP ms,Is P f fs bs xs (pw A ms x++fr) (rb A ms x++Γ) mo rt ps) (hi:qg ms) (j6:rf A ms=true) (hw:∀ y v,qj (ps y v)=true) (h1:qd l mt U A (.call ⟨.value xo,xs.toArray,aw⟩) d ty as ops i) (hy:mo=some y) (ha:cn r0 base) (hs:qm B Z hd Γ H w0) (h:j4 P Z l mt U r0 w0 H i sl ms) :
   CV P Z l mt U r0 w0 H i sl ms ⟨i,d,[],V,fun _ v=>mr (rt y v),fun _=>ps y⟩:=by
 obtain ⟨S',hl,hR,hO⟩:=h
 subst hl
 refine ⟨S',rfl,hR,hO,fun V' hV=>?_⟩
 obtain ⟨hA,⟨pos,af,ho⟩,_⟩:=h1
 refine jx.Mc (V:=V') ho (by simp) rfl fun g r w hC kc hn jy=>?_
 have hb:=ma hR hA hv (jm hh ha jy) kc
 obtain ⟨x,hx,r9⟩:=zd hR hA hi j6 hn
 obtain ⟨BU,k1,k2,sa,hd,hr⟩:=hc x
 obtain ⟨fn,c,f1,f2,f3⟩:=hf.h
 unfold ee
 rw [EB (aS hb Q9) f1 f2 f3,pT (tb hx hb) BU,List.append_assoc,k1.eq,k2.eq]
 obtain ⟨F,Hd,⟨vj,xc,te,xd⟩,hS,hG⟩:=hs
 obtain ⟨G,kz,FV,xe,gy⟩:=r9.front (qm.stay hS hG hC)
 rw [qf] at sa
 refine (sa.2 w (fun b=>Z b∨b∈G) [] (hr.sound (fun _ h=>h) (fun _ b hb=>.inr (xe b hb)) gy hd.ho) List.nodup_nil (fun b hb=>absurd hb List.not_mem_nil)
  (fun b hb=>hb.elim (fun h=>Nat.lt_of_lt_of_le (hG.na b h) hC.size) fun h=>(kz b h).2) y hy).mono ?_
 rintro e w' ⟨v,he,Z2,F2,qy,iH⟩
 have zh:HL (fun _=>False) w' (ps y v) F2:=vb (hw y v) qy
 have bc:=(zh.front (Γ:=[]) (F:=[]) rfl).lt
 obtain ⟨f',cw,BV⟩:=hV F2 w' r _ ⟨v,rfl,.inl zh,iH.nd⟩
 refine ⟨_,he,iH.iz,f',fun b hb=>⟨(iH.low b (cw b hb)).resolve_left List.not_mem_nil,bc b (by simpa using cw b hb)⟩,BV⟩
theorem EU {A:LN} {g:Nat→List Nat} {b:Nat}:∀ {ms:MM},b∈ze A g ms→∃ a∈ms,gh a.j A=true∧b∈g a.j:=by
 intro ms
 induction ms with
 | nil=>intro h; exact absurd h List.not_mem_nil
 | cons a l ih=>
  intro h
  unfold ze at h
  cases hb:gh a.j A with
  | true=>
   rw [hb] at h
   rcases List.mem_append.1 h with h | h
   ·exact ⟨a,by simp,hb,h⟩
   ·obtain ⟨c,h1,h2⟩:=ih h; exact ⟨c,List.mem_cons_of_mem _ h1,h2⟩
  | false=>rw [hb] at h; obtain ⟨c,h1,h2⟩:=ih h; exact ⟨c,List.mem_cons_of_mem _ h1,h2⟩
theorem A9 {mt i:Nat} (h:((U.set i []).all fun us=>!(us.contains l.length))=true):xS l U mt i=true:=by
 unfold xS
 simp only [List.all_eq_true,List.mem_range,Bool.or_eq_true,Bool.not_eq_true'] at h ⊢
 intro k _
 by_cases hk:k=i
 ·exact .inl (.inr (by rw [hk]; exact Nat.beq_refl i))
 ·refine .inl (.inl ?_)
  rw [List.getD_eq_getElem?_getD]
  cases hu:U[k]? with
  | none=>rfl
  | some us=>exact h us (List.mem_of_getElem? (i:=k) (by rw [List.getElem?_set_ne (fun e=>hk e.symm)]; exact hu))
theorem HO.mono {Z':Nat→Prop} (hz:∀ b,Z b→Z' b) {Δ:QE} {F:LN} (h:HO Z w Δ F):HO Z' w Δ F:=by
 induction h with
 | nil=>exact .nil
 | own h _ ih=>exact .own (h.mono hz) ih
 | rd _ ih=>exact .rd ih
 | aw _ ih=>exact .aw ih
theorem JZ {mt:Nat} {β V:Type} {A:LN} {as:LL} {d:Nat} {f:FuncId} {xs:List Operand} {aw:Array TypeId} {ty:TI} {mo:Option β} {rt:β→V→List Value} {ps:β→V→List ao} {ops:LO} {i:Nat} {sl:LQ} {ms:MM} {fr:Fr} {hd Γ:QE} {B:Bs} {r0:NV} {w0:World} {H:LN} {y:β} (hh:lh l mt base=true) (hf:bo P f) (hv:cK A none sl base fr)
   (hU:U.getD i []=[l.length]) (EV:((U.set i []).all fun us=>!(us.contains l.length))=true)
   (hc:∀ x:pP ms,BR P f xs (pw A ms x++fr) hd (rb A ms x++Γ) mo rt ps) (hi:qg ms) (j6:rf A ms=true) (hw:∀ y v,qj (ps y v)=true) (h1:qd l mt U A (.call ⟨.value (.func f),xs.toArray,aw⟩) d ty as ops i) (hy:mo=some y) (ha:cn r0 base) (hs:qm B Z hd Γ H w0) (h:j4 P Z l mt U r0 w0 H i sl ms) :
   CV P Z l mt U r0 w0 H i sl ms ⟨i,d,[],V,fun _ v=>mr (rt y v),fun _=>ps y⟩:=by
 obtain ⟨S',hl,hR,hO⟩:=h
 subst hl
 refine ⟨S',rfl,hR,hO,fun V' hV=>?_⟩
 obtain ⟨hA,⟨pos,af,ho⟩,_⟩:=h1
 intro o' s' br di g r w hC zf kc hn jy ui n9
 rw [ho] at br
 cases br
 rw [List.getElem?_append_right (Nat.le_refl _),Nat.sub_self] at di
 cases di
 rw [if_pos rfl]
 refine ⟨rfl,?_⟩
 obtain ⟨J3,J4,Mf⟩:=zf (A9 EV)
 have hb:=ma hR hA hv (jm hh ha jy) kc
 obtain ⟨x,hx,r9⟩:=zd hR hA hi j6 hn
 obtain ⟨BU,sa,J5,hr⟩:=hc x
 obtain ⟨fn,c,f1,f2,f3⟩:=hf.h
 refine Calls.D5 f1 f2 f3 ?_
 rw [pT (tb hx hb) BU]
 obtain ⟨F,Hd,⟨vj,xc,te,xd⟩,hS,hG⟩:=hs
 obtain ⟨G,kz,FV,xe,gy⟩:=r9.front (qm.stay hS hG hC)
 obtain ⟨Fd,F',J6,_,AI⟩:=J5.sound (vj.fx J3)
 have cw:∀ b∈Fd,b∈H:=fun b hb=>(xc b (AI.mem_iff.1 (List.mem_append_left _ hb))).1
 have cq:=List.nodup_append.1 hG.nd
 have hblk:mw g (U.getD S'.length [])=H:=by rw [hU]; simp [mw,J4]
 rw [hblk]
 rw [qf] at sa
 refine (sa.2 w (fun b=>Z b∨b∈G) Fd (hr.sound (fun _ h=>h) (fun _ b hb=>.inr (xe b hb)) gy (J6.mono fun _ h=>.inl h)) ((AI.nodup_iff.2 xd).sublist (List.sublist_append_left _ _)) (fun b hb=>?_)
  (fun b hb=>hb.elim (fun h=>Nat.lt_of_lt_of_le (hG.na b h) hC.size) fun h=>(kz b h).2) y hy).mono ?_
 ·rintro (hz | hz)
  ·exact hG.apart b (List.mem_append_left _ (cw b hb)) hz
  ·rcases List.mem_append.1 (kz b hz).1 with hz | hz
   ·obtain ⟨a,VW,sH,r6⟩:=EU hz
    have h2:=Mf a.j (oy (by rw [← hA]; exact mf.1 sH)).1 b r6
    have h3:=te b (cw b hb)
    omega
   ·exact cq.2.2 b (cw b hb) b hz rfl
 ·rintro e w' ⟨v,he,Z2,F2,qy,iH⟩
  have zh:HL (fun _=>False) w' (ps y v) F2:=vb (hw y v) qy
  have bc:=(zh.front (Γ:=[]) (F:=[]) rfl).lt
  obtain ⟨f',EW,BV⟩:=hV F2 w' r _ ⟨v,rfl,.inl zh,iH.nd⟩
  exact ⟨_,he,iH.iz.mono cw,f',fun b hb=>⟨(iH.low b (EW b hb)).imp (cw b) id,bc b (by simpa using EW b hb)⟩,BV⟩
theorem A7.sub {ms yL:MM} {a:fg} {t:Nat} (h:A7 ms t a yL):a∈ms∧a.j=t∧(∀ b∈yL,b∈ms)∧(yL.map (·.j)).Sublist (ms.map (·.j))∧((ms.map (·.j)).Nodup→∀ b∈yL,b.j≠t):=by
 induction h with
 | here=>exact ⟨by simp,rfl,fun b hb=>List.mem_cons_of_mem _ hb,by simp,fun hn b hb he=>by rw [List.map_cons,List.nodup_cons] at hn; exact hn.1 (by rw [← he]; exact List.mem_map_of_mem hb)⟩
 | there _ ih=>
  obtain ⟨h1,h2,h3,h4,h5⟩:=ih
  refine ⟨List.mem_cons_of_mem _ h1,h2,fun b hb=>?_,by simpa using h4,fun hn b hb=>?_⟩
  ·rcases List.mem_cons.1 hb with rfl | hb
   ·simp
   ·exact List.mem_cons_of_mem _ (h3 b hb)
  ·rw [List.map_cons,List.nodup_cons] at hn
   rcases List.mem_cons.1 hb with rfl | hb
   ·intro he
    exact hn.1 (by rw [he,← h2]; exact List.mem_map_of_mem h1)
   ·exact h5 hn.2 b hb
theorem J7 {mt:Nat} {β V:Type} {j1:Nat} {a1:fg} {A:LN} {as:LL} {d:Nat} {f:FuncId} {xs:List Operand} {aw:Array TypeId} {ty:TI} {mo:Option β} {rt:β→V→List Value} {ps:β→V→List ao} {ops:LO} {i:Nat} {sl:LQ} {ms lu:MM} {fr:Fr} {hd Γ:QE} {B:Bs} {r0:NV} {w0:World} {H:LN} {y:β} (hh:lh l mt base=true) (hf:bo P f) (hv:cK A none sl base fr)
   (hU:U.getD i []=[j1]) (AE:A7 ms j1 a1 lu) (On:a1.src=[]) (h4:gh j1 A=true)
   (hc:∀ (q:a1.V) (x:pP lu),BR P f xs (pw A lu x++fr) (a1.ps undef q) (rb A lu x++Γ) mo rt ps) (hi:qg lu) (j6:rf A lu=true) (hw:∀ y v,qj (ps y v)=true) (h1:qd l mt U A (.call ⟨.value (.func f),xs.toArray,aw⟩) d ty as ops i) (hy:mo=some y) (ha:cn r0 base) (hs:qm B Z hd Γ H w0) (h:j4 P Z l mt U r0 w0 H i sl ms) :
   CV P Z l mt U r0 w0 H i sl lu ⟨i,d,[],V,fun _ v=>mr (rt y v),fun _=>ps y⟩:=by
 obtain ⟨S',hl,Ra,hO⟩:=h
 subst hl
 obtain ⟨m1,m2,m3,m4,m5⟩:=AE.sub
 have hR:=Ra.sub m3 m4
 refine ⟨S',rfl,hR,hO,fun V' hV=>?_⟩
 obtain ⟨hA,⟨pos,af,ho⟩,_⟩:=h1
 intro o' s' br di g r w hC zf kc hn jy ui n9
 rw [ho] at br
 cases br
 rw [List.getElem?_append_right (Nat.le_refl _),Nat.sub_self] at di
 cases di
 rw [if_pos rfl]
 refine ⟨rfl,?_⟩
 have CX:=oy (by rw [← hA]; exact mf.1 h4)
 have hb:=ma hR hA hv (jm hh ha jy) kc
 obtain ⟨x,hx,r9⟩:=zd hR hA hi j6 hn
 obtain ⟨q,_,AJ,VX⟩:=Ra.Du m1 (hn a1.j (by rw [m2]; exact CX.2))
 have tN:wT a1 r=undef:=by unfold wT; rw [On]; rfl
 rw [tN,m2] at AJ
 rw [m2] at VX
 obtain ⟨BU,sa,J5,hr⟩:=hc q x
 obtain ⟨fn,c,f1,f2,f3⟩:=hf.h
 refine Calls.D5 f1 f2 f3 ?_
 rw [pT (tb hx hb) BU]
 obtain ⟨F,Hd,⟨vj,xc,te,xd⟩,hS,hG⟩:=hs
 have Rb:=qm.stay hS hG hC
 obtain ⟨G,kz,FV,xe,gy⟩:=r9.front Rb
 obtain ⟨Fo,Fr,VY,BW,hq4⟩:=AJ.all
 have hSq:SA (fun b=>Z b∨b∈Fr) w (a1.ps undef q) [] Fo:=by
  have:=hq4.front (Γ:=[]) (F:=[]) rfl
  simpa using this
 have VZ:=List.nodup_append.1 (VY ▸ VX)
 obtain ⟨Fd,F',J6,_,AI⟩:=J5.sound hSq
 have Oo:∀ b∈Fd,b∈Fo:=fun b hb=>AI.mem_iff.1 (List.mem_append_left _ hb)
 have cw:∀ b∈Fd,b∈g j1:=fun b hb=>by rw [VY]; exact List.mem_append_left _ (Oo b hb)
 have cq:=List.nodup_append.1 hG.nd
 have hblk:mw g (U.getD S'.length [])=g j1:=by rw [hU]; simp [mw]
 rw [hblk]
 rw [qf] at sa
 have Ho:∀ b∈g j1,w0.heap.size≤b∨b∈H:=fun b hb=>(n9 j1 CX.1 b hb).1
 refine (sa.2 w (fun b=>Z b∨b∈Fr++G) Fd (hr.sound (fun _ h=>h) (fun _ b hb=>.inr (List.mem_append_right _ (xe b hb))) (gy.mono (fun _ h=>h.imp id fun h=>List.mem_append_right _ h) fun _ h=>h) (J6.mono fun _ h=>h.imp id fun h=>List.mem_append_left _ h)) ((AI.nodup_iff.2 VZ.1).sublist (List.sublist_append_left _ _)) (fun b hb=>?_)
  (fun b hb=>hb.elim (fun h=>Nat.lt_of_lt_of_le (hG.na b h) hC.size) fun h=>(List.mem_append.1 h).elim (BW b) fun h=>(kz b h).2) y hy).mono ?_
 ·rintro (hz | hz)
  ·rcases Ho b (cw b hb) with h | h
   ·have:=hG.na b hz; omega
   ·exact hG.apart b (List.mem_append_left _ h) hz
  ·rcases List.mem_append.1 hz with hz | hz
   ·exact VZ.2.2 b (Oo b hb) b hz rfl
   rcases List.mem_append.1 (kz b hz).1 with hz | hz
   ·obtain ⟨a,VW,sH,r6⟩:=EU hz
    exact ui a.j (oy (by rw [← hA]; exact mf.1 sH)).1 j1 CX.1 (m5 Ra.d a VW) b r6 (cw b hb)
   ·rcases Ho b (cw b hb) with h | h
    ·have:=hS.lt b hz; omega
    ·exact cq.2.2 b h b hz rfl
 ·rintro e w' ⟨v,he,Z2,F2,qy,iH⟩
  have zh:HL (fun _=>False) w' (ps y v) F2:=vb (hw y v) qy
  have bc:=(zh.front (Γ:=[]) (F:=[]) rfl).lt
  obtain ⟨f',EW,BV⟩:=hV F2 w' r _ ⟨v,rfl,.inl zh,iH.nd⟩
  exact ⟨_,he,iH.iz.mono cw,f',fun b hb=>⟨(iH.low b (EW b hb)).imp (cw b) id,bc b (by simpa using EW b hb)⟩,BV⟩
theorem SA.app {Γ Γ':QE} {F F':LN}:∀ {cur:LN},SA Z w Γ' cur F'→SA Z w Γ [] F→SA Z w (Γ'++Γ) cur (F'++F):=by
 induction Γ' generalizing F' with
 | nil=>intro cur h hs; cases h; exact hs.any
 | cons e Γ' ih=>
  intro cur h hs
  cases e with
  | own T v x=>obtain ⟨f,F1,rfl,h1,h2⟩:=h; exact ⟨f,F1++F,by rw [List.append_assoc],h1,ih h2 hs⟩
  | om e E v xs=>obtain ⟨f,F1,rfl,h1,h2⟩:=h; exact ⟨f,F1++F,by rw [List.append_assoc],h1,ih h2 hs⟩
  | row b cs e=>obtain ⟨f,F1,rfl,h1,h2⟩:=h; exact ⟨f,F1++F,by rw [List.append_assoc],h1,ih h2 hs⟩
  | fh e E v xs j u=>obtain ⟨f,F1,rfl,h1,h2⟩:=h; exact ⟨f,F1++F,by rw [List.append_assoc],h1,ih h2 hs⟩
  | rd o T v x=>exact ⟨h.1,ih h.2 hs⟩
  | ad o1 o2 v j T x=>exact ⟨h.1,ih h.2 hs⟩
  | aw p cs=>exact ⟨h.1,ih h.2 hs⟩
  | hd v j u=>exact ⟨h.1,ih h.2 hs⟩
open Classical in
theorem rdN {w':World} {Zc Z2:Nat→Prop} {Fd F2 K:LN} {Δ:QE} (hl:HL Z2 w' Δ F2) (hg:Gd ⟨w,Zc,Fd⟩ Z2 F2 w') (hz:∀ b,Zc b→Z b∨b∈K) (hK:∀ b∈Fd,b∈K) :
  ∃ f,(∀ b∈f,(b∈K∨w.heap.size≤b)∧b < w'.heap.size)∧HN Z w' Δ f∧f.Nodup:=by
 have bc:=(hl.front (Γ:=[]) (F:=[]) rfl).lt
 by_cases ho:qj Δ=true
 ·exact ⟨F2,fun b hb=>⟨(hg.low b hb).imp (hK b) id,bc b (by simpa using hb)⟩,.inl (vb ho hl),hg.nd⟩
 ·let Fr:=(List.range w'.heap.size).filter fun b=>decide (Z2 b∧(b∈K∨w.heap.size≤b))
  have BW:∀ b,b∈Fr↔b < w'.heap.size∧Z2 b∧(b∈K∨w.heap.size≤b):=fun b=>by simp [Fr]
  refine ⟨F2++Fr,fun b hb=>?_,.inr ⟨F2,Fr,rfl,⟨by simpa using ho,fun b hb=>((BW b).1 hb).1⟩,hl.mono fun b hb=>?_⟩,?_⟩
  ·rcases List.mem_append.1 hb with hb | hb
   ·exact ⟨(hg.low b hb).imp (hK b) id,bc b (by simpa using hb)⟩
   ·exact ⟨((BW b).1 hb).2.2,((BW b).1 hb).1⟩
  ·rcases hg.sA b hb with h | h | h
   ·rcases hz b h with h | h
    ·exact .inl h
    ·exact .inr ((BW b).2 ⟨hg.na b hb,hb,.inl h⟩)
   ·exact .inr ((BW b).2 ⟨hg.na b hb,hb,.inl (hK b h)⟩)
   ·exact .inr ((BW b).2 ⟨hg.na b hb,hb,.inr h⟩)
  ·refine tO hg.nd (List.nodup_range.filter _) fun b hb hf=>hg.apart b hb ((BW b).1 hf).2.1
theorem Iy {mt:Nat} {β V:Type} {A:LN} {as:LL} {d:Nat} {f:FuncId} {xs:List Operand} {aw:Array TypeId} {ty:TI} {mo:Option β} {rt:β→V→List Value} {ps:β→V→List ao} {ops:LO} {i:Nat} {sl:LQ} {ms:MM} {fr:Fr} {hd Γ:QE} {B:Bs} {r0:NV} {w0:World} {H:LN} {y:β} (hh:lh l mt base=true) (hf:bo P f) (hv:cK A none sl base fr)
   (hU:U.getD i []=[l.length]) (EV:((U.set i []).all fun us=>!(us.contains l.length))=true)
   (hc:∀ x:pP ms,EJ P f xs (pw A ms x++fr) hd Γ mo rt ps) (hi:qg ms) (j6:rf A ms=true) (h1:qd l mt U A (.call ⟨.value (.func f),xs.toArray,aw⟩) d ty as ops i) (hy:mo=some y) (ha:cn r0 base) (hs:qm B Z hd Γ H w0) (h:j4 P Z l mt U r0 w0 H i sl ms) :
   CV P Z l mt U r0 w0 H i sl ms ⟨i,d,[],V,fun _ v=>mr (rt y v),fun _=>ps y⟩:=by
 obtain ⟨S',hl,hR,hO⟩:=h
 subst hl
 refine ⟨S',rfl,hR,hO,fun V' hV=>?_⟩
 obtain ⟨hA,⟨pos,af,ho⟩,_⟩:=h1
 intro o' s' br di g r w hC zf kc hn jy ui n9
 rw [ho] at br
 cases br
 rw [List.getElem?_append_right (Nat.le_refl _),Nat.sub_self] at di
 cases di
 rw [if_pos rfl]
 refine ⟨rfl,?_⟩
 obtain ⟨J3,J4,Mf⟩:=zf (A9 EV)
 have hb:=ma hR hA hv (jm hh ha jy) kc
 obtain ⟨x,hx,r9⟩:=zd hR hA hi j6 hn
 obtain ⟨BU,sa,J5,hr⟩:=hc x
 obtain ⟨fn,c,f1,f2,f3⟩:=hf.h
 refine Calls.D5 f1 f2 f3 ?_
 rw [pT (tb hx hb) BU]
 obtain ⟨F,Hd,⟨vj,xc,te,xd⟩,hS,hG⟩:=hs
 have Rb:=qm.stay hS hG hC
 obtain ⟨Fd,F',J6,hSr,AI⟩:=J5.sound (vj.fx J3)
 have cw:∀ b∈Fd,b∈H:=fun b hb=>(xc b (AI.mem_iff.1 (List.mem_append_left _ hb))).1
 have cq:=List.nodup_append.1 hG.nd
 have hblk:mw g (U.getD S'.length [])=H:=by rw [hU]; simp [mw,J4]
 rw [hblk]
 rw [qf] at sa
 refine (sa.2 w Z Fd (hr.sound (fun _ h=>h) (fun h=>nomatch h) (hSr.app Rb) J6) ((AI.nodup_iff.2 xd).sublist (List.sublist_append_left _ _)) (fun b hb=>hG.apart b (List.mem_append_left _ (cw b hb)))
  (fun b h=>Nat.lt_of_lt_of_le (hG.na b h) hC.size) y hy).mono ?_
 rintro e w' ⟨v,he,Z2,F2,qy,iH⟩
 obtain ⟨f2,k1,k2,k3⟩:=rdN (Z:=Z) (K:=H) qy iH (fun _ h=>.inl h) cw
 obtain ⟨f',EW,BV⟩:=hV f2 w' r _ ⟨v,rfl,k2,k3⟩
 exact ⟨_,he,iH.iz.mono cw,f',fun b hb=>k1 b (EW b hb),BV⟩
theorem j4.Xf {mt:Nat} {A:LN} {op:Op} {d:Nat} {ty:TI} {as:LL} {ops:LO} {i:Nat} {sl:LQ} {ms:MM} {r0:NV} {w0:World} {H:LN} {u:Value} (h:j4 P Z l mt U r0 w0 H i sl ms) (hh:lh l mt base=true) (ha:cn r0 base) (h1:qd l mt U A op d ty as ops i)
  (hV:(U.zipIdx.all fun p=>!(p.1.contains l.length) || ((bu l).getD p.2 []).contains i)=true) (hv:cK A none sl base fr) (hq:∀ r,cn r fr→∀ pos af g w,ak [] w0 w→(execOp (ev r) ⟨some d,op,ty,pos,af,g⟩).run P w = .ok (.value u) w):j4 P Z l mt U r0 w0 H (i+1) ((i,d,u) :: sl) ms:=by
 obtain ⟨S',hl,hR,hO⟩:=h
 subst hl
 obtain ⟨hA,⟨pos,af,ho⟩,_⟩:=h1
 refine ⟨S'++[sV u],by simp,hR.val (by unfold bh; rw [ho]; rfl),fun j hj=>?_⟩
 by_cases h2:j < S'.length
 ·exact jx.more (hO j h2) h2
 ·obtain rfl:j=S'.length:=by omega
  have hN:xS l U mt S'.length=true:=by
   unfold xS
   simp only [List.all_eq_true,List.mem_range,Bool.or_eq_true,Bool.not_eq_true'] at hV ⊢
   intro k _
   rw [List.getD_eq_getElem?_getD]
   cases hu:U[k]? with
   | none=>exact .inl (.inl rfl)
   | some us=>
    have hm:(us,k)∈U.zipIdx:=by rw [List.mem_zipIdx_iff_getElem?]; exact hu
    exact (hV _ hm).imp .inl id
  intro o' s' br di g r w hC zf kc hn jy ui n9
  rw [ho] at br
  cases br
  rw [List.getElem?_append_right (Nat.le_refl _),Nat.sub_self] at di
  cases di
  rw [if_pos rfl]
  refine ⟨rfl,?_⟩
  unfold ee
  rw [hq r (ma hR hA hv (jm hh ha jy) kc) _ _ _ w (zf hN).1]
  exact ⟨ak.refl _ _,[],fun b hb=>absurd hb List.not_mem_nil,rfl⟩
theorem PB {mt:Nat} {hd jg:QE} {α:Type} {t e e' et:TI} {E E':ag α} {z0:α} {bt t1 t2 j2:Nat} {v u yv:Value} {j:Int} {y:α} {z:List α} {xs:List (List α)} {o1 o2:Bool} {Γx:QE} {EL:MM} {A:LN} {as:LL} {d:Nat} {ty:TI} {ops:LO} {i:Nat} {sl:LQ} {ms:MM} {Γ:QE} {B:Bs} {r0:NV} {w0:World} {H:LN} (hh:lh l mt base=true) (ha:cn r0 base) (hT:qY P t α e E z0 bt) (hU:U.getD i []=[l.length])
   (EV:((U.set i []).all fun us=>!(us.contains l.length))=true) (hv:cK A none sl base fr) (hs:look fr t1=some u) (h2:rK ms t2 ⟨j2,t2,[],Nat,fun _ b=>.slice (some ⟨b,0,none⟩) 1 1,fun _ b=>[.row b [yv] et]⟩ EL) (h5:gh j2 A=true) (hl:Loc hd u (.row v j)) (hz:n5 hd u o1 o2 E' z rn Γx) (h1:dj hd (.own (aI e' (aI e E)) v xs) jg) (hr:RT (aI e E) (bE E')) (hy:AF [] E yv y [])
   (hf:fits bt (z.length+1)=some ()) (BP:qd l mt U A (.call ⟨.builtin .append,#[.tmp t1,.tmp t2],#[t,t]⟩) d ty as ops i) (pY:qm B Z hd Γ H w0) (h:j4 P Z l mt U r0 w0 H i sl ms) :
  j4 P Z l mt U r0 w0 H (i+1) sl (⟨i,d,[],Value,fun _ v'=>v',fun _ v'=>[.own (aI e E) v' (z++[y]),.own (sF e' (aI e E) j.toNat) v xs]⟩ :: ms)∧qm B Z jg Γ H w0:=by
 obtain ⟨F,Hd,⟨vj,xc,te,xd⟩,hS,hG⟩:=pY
 obtain ⟨fm0,F10,Rc,_,Xg⟩:=h1.sound vj
 refine ⟨?_,F,F10,⟨Xg,fun b hb=>xc b (Rc.mem_iff.1 (List.mem_append_right _ hb)),te,(Rc.nodup_iff.2 xd).sublist (List.sublist_append_right _ _)⟩,hS,hG⟩
 obtain ⟨S',BL,hR,hO⟩:=h
 subst BL
 obtain ⟨hA,⟨pos,af,ho⟩,_⟩:=BP
 obtain ⟨b1,b2⟩:=o7 hf
 obtain ⟨q1,q2,ii,zz,q3,q4,q5,q6,q7,_⟩:=hT.h
 obtain ⟨n1,_,_,_⟩:=h2.sub
 refine ⟨S'++[⟨true,MV Z ⟨S'.length,d,[],Value,fun _ v'=>v',fun _ v'=>[.own (aI e E) v' (z++[y]),.own (sF e' (aI e E) j.toNat) v xs]⟩⟩],by simp,hR.mem rfl (by unfold bh; rw [ho]; rfl) (by intro t h; cases h),fun k hk=>?_⟩
 by_cases bc:k < S'.length
 ·exact jx.more (hO k bc) bc
 ·obtain rfl:k=S'.length:=by omega
  intro o' s' br di g r w hC zf kc hn jy ui n9
  rw [ho] at br
  cases br
  rw [List.getElem?_append_right (Nat.le_refl _),Nat.sub_self] at di
  cases di
  rw [if_pos rfl]
  refine ⟨rfl,?_⟩
  obtain ⟨J3,J4,Mf⟩:=zf (A9 EV)
  have Re:=vj.fx J3
  obtain ⟨j0,j1,ji⟩:=Loc.row hl rfl Re
  obtain ⟨de,_,⟨⟨gz,sC,_⟩,_⟩,_⟩:=hz.sound Re
  obtain ⟨fm,F1,qz,V0,_⟩:=h1.sound Re
  obtain ⟨ky,F2,o5,Rf,_⟩:=hy.sound (Z:=Z) (w:=w) (F:=[]) rfl
  have Rh:ky=[]:=by
   cases ky with
   | nil=>rfl
   | cons a l=>exact absurd (o5.mem_iff.1 (List.mem_append_left _ List.mem_cons_self)) List.not_mem_nil
  subst Rh
  rw [qJ V0] at j1
  obtain ⟨k,gm,a1,a2,a3⟩:=EE rfl V0 (List.getElem?_eq_getElem j1) ji
  have Ri:xs[j.toNat]=z:=hr.tH (hr.le.le a1) sC
  rw [Ri] at a1
  have Xh:(k++gm).Nodup:=a2.nodup_iff.2 ((qz.nodup_iff.2 xd).sublist (List.sublist_append_left _ _))
  have Ey:=List.nodup_append.1 Xh
  have Iz:∀ b∈k++gm,b∈H:=fun b hb=>(xc b (qz.mem_iff.1 (List.mem_append_left _ (a2.mem_iff.1 hb)))).1
  obtain ⟨b,c1,c2,c3⟩:=hR.Du n1 (hn j2 (oy (by rw [← hA]; exact mf.1 h5)).2)
  simp only at c1 c2
  replace c2:=c2.own rfl
  generalize AE:g j2=G1 at c2 c3
  cases c2 with
  | fact h _=>exact h.elim
  | @own _ ff F0 _ UP vi=>
   cases vi
   obtain ⟨rfl,bb⟩:=UP
   have hb:=ma hR hA hv (jm hh ha jy) kc
   obtain ⟨v',w',f',mg,BS,df,cw,EX⟩:=o9 (E:=E) (d:=some d) (ty:=ty) (pos:=pos) (af:=af) (g:=none) (r:=r) (s:=.tmp t1) (x:=.tmp t2) (k:=[]) (ys:=[y]) (news:=[yv]) q1 q3 q4 (by rw [q5,q2]) (by rw [cells_one q6,q2]; rfl) (hb _ _ hs) a1 Ey.1 c1 (fun i u hi=>bb.at i u hi) (qv Rf) (fun _ h=>absurd h List.not_mem_nil) (by simp) (by rw [q7]; exact b1) b2
   unfold ee
   rw [mg]
   have hblk:mw g (U.getD S'.length [])=H:=by rw [hU]; simp [mw,J4]
   rw [hblk]
   have V1:(sF e' (aI e E) j.toNat).rep w'.heap [v] xs gm:=ag.dn _ a3 BS fun b hb hk=>Ey.2.2 b hk b hb rfl
   refine ⟨BS.mono fun b hb=>Iz b (List.mem_append_left _ hb),f'++gm,fun b hb=>?_,v',rfl,?_,?_⟩
   ·rcases List.mem_append.1 hb with hb | hb
    ·refine ⟨?_,ag.lt _ df b hb⟩
     rcases cw b hb with h | h | h
     ·exact .inl (Iz b (List.mem_append_left _ h))
     ·exact absurd h List.not_mem_nil
     ·exact .inr h
    ·exact ⟨.inl (Iz b (List.mem_append_right _ hb)),ag.lt _ V1 b hb⟩
   ·have:=HL.own (Z:=fun _=>False) (e:=.own (aI e E) v' (z++[y])) (f:=f') df (HL.own (e:=.own (sF e' (aI e E) j.toNat) v xs) (f:=gm) V1 .nil)
    exact .inl (by simpa using this)
   ·refine tO (EX List.nodup_nil) Ey.2.1 fun b hb hm=>?_
    rcases cw b hb with h | h | h
    ·exact Ey.2.2 b h b hm rfl
    ·exact absurd h List.not_mem_nil
    ·have:=ag.lt _ a3 b hm; omega
end
end Go.Dk
namespace Go.Dk
open Go Go.Li
section
variable {R S:Type} {P:Program} {cx:Cx R} {K:cy R S} {l tail:LO} {base fr:Fr} {U:LL} {hd:QE}
def IB (P:Program) (cx:Cx R) (K:cy R S) (l l0:LO) (mt:Nat) (U:LL) (hd:QE) (id:Nat) (base:Fr):JA R S→Prop
 | .a as ops i sl ms Γ m=>uh l mt U as ops i→Fin P cx K l l0 mt U hd id base i sl ms Γ m
 | .o A op d ty as ops i sl ms Γ m=>qd l mt U A op d ty as ops i→Fin P cx K l l0 mt U hd id base i sl ms Γ m
 | .oc us f xs aw A d ty as ops i sl ms Γ m=>U.getD i []=us→qd l mt U A (.call ⟨.value (.func f),xs.toArray,aw⟩) d ty as ops i→Fin P cx K l l0 mt U hd id base i sl ms Γ m
 | .os A op ty as ops i sl ms Γ m=>Q4 l mt U A op ty as ops i→Fin P cx K l l0 mt U hd id base i sl ms Γ m
 | .ow _ A op d ty as ops i sl ms Γ m=>qd l mt U A op d ty as ops i→Fin P cx K l l0 mt U hd id base i sl ms Γ m
 | .ix _ v fr x y t A d ty as ops i sl ms Γ m=>cK A none sl base fr→bd fr x=some v→qd l mt U A (.indexAddr t x y) d ty as ops i→Fin P cx K l l0 mt U hd id base i sl ms Γ m
 | .lb _ v j fr t x A d ty as ops i sl ms Γ m=>cK A none sl base fr→bd fr x=some (.pointer (some (ch v 1 j)))→NA P t→qd l mt U A (.load t x) d ty as ops i→Fin P cx K l l0 mt U hd id base i sl ms Γ m
 | .ap us t1 t2 t A d ty as ops i sl ms Γ m=>U.getD i []=us→qd l mt U A (.call ⟨.builtin .append,#[.tmp t1,.tmp t2],#[t,t]⟩) d ty as ops i→Fin P cx K l l0 mt U hd id base i sl ms Γ m
 | .la fr a lk t x A d ty as ops i sl ms Γ m=>cK A none sl base fr→bd fr x=some (.pointer (some a))→(match lk with | none=>NA P t | some n=>AG P t n)→qd l mt U A (.load t x) d ty as ops i→Fin P cx K l l0 mt U hd id base i sl ms Γ m
 | .ld E z fr a t x A d ty as ops i sl ms Γ m=>cK A none sl base fr→bd fr x=some (.pointer (some a))→NA P t→qd l mt U A (.load t x) d ty as ops i→
   ∀ B o,m=some o→∀ r0 w0 H Z,cn r0 base→qm B Z hd Γ H w0→(∃ u,∀ w,ak H w0 w→w.cell? a=some u∧∃ g,E.rep w.heap [u] z g)→j4 P Z l mt U r0 w0 H i sl ms→l3 P cx.n l0 (j8 P cx B K o) r0 w0
 | .p Δ as ops i sl ms Γ m=>uh l mt U as ops i→Fin P cx K l l0 mt U hd id base i sl ms (Δ.reverse++Γ) m
 | .cr u ps d as ops i sl ms Γ m=>uh l mt U as ops (i+1)→bh l i=some d→
   ∀ B o,m=some o→∀ r0 w0 H Z,cn r0 base→qm B Z hd Γ H w0→CV P Z l mt U r0 w0 H i sl ms ⟨i,d,[],_,fun _=>u,fun _=>ps⟩→l3 P cx.n l0 (j8 P cx B K o) r0 w0
theorem wo {w:World} {e n:Nat} {v:Value} {us:List (List Value)} {f:LN} {j:Int} {c:LV} (hO:(aI e (iw n)).rep w.heap [v] us f) (hj:0≤j) (hu:us[j.toNat]? = some c):c.length=n∧(∀ u∈c,u.oneCell'=true)∧∀ i u,c[i]? = some u→w.cell? ((ch v n j).add i)=some u:=by
 obtain ⟨_,_,cs,f1,⟨rfl,h1,h2,_⟩,_,h3⟩:=td (((Le.own (Le.refl (iw n)) e).le) hO) j hj hu
 exact ⟨h1,h2,h3⟩
theorem Mg {α:Type} {E:ag α} {h:Array Obj}:∀ {xs:List α} {cs:LV} {f:LN} (n m:Nat),db E h cs xs f→∃ f3,db E h ((cs.drop (n * E.size)).take (m * E.size)) ((xs.drop n).take m) f3∧∀ b∈f3,b∈f:=by
 intro xs
 induction xs with
 | nil=>rintro cs f n m ⟨rfl,rfl⟩; exact ⟨[],by simpa using ⟨rfl,rfl⟩,fun _ h=>h⟩
 | cons x xs ih=>
  rintro cs f n m ⟨c,ds,f1,f2,rfl,rfl,h1,h2⟩
  cases n with
  | zero=>
   cases m with
   | zero=>exact ⟨[],by simpa using ⟨rfl,rfl⟩,fun _ h=>absurd h List.not_mem_nil⟩
   | succ m=>
    obtain ⟨f3,h3,h4⟩:=ih 0 m h2
    simp only [Nat.zero_mul,List.drop_zero] at h3 ⊢
    refine ⟨f1++f3,?_,fun b hb=>(List.mem_append.1 hb).elim (List.mem_append_left _) fun hb=>List.mem_append_right _ (h4 b hb)⟩
    have e:(m+1) * E.size=c.length+m * E.size:=by rw [E.len h1,Nat.add_mul,Nat.one_mul,Nat.add_comm]
    rw [e,List.take_append,List.take_of_length_le (by omega),List.take_succ_cons]
    exact ⟨c,_,f1,f3,rfl,rfl,h1,by simpa using h3⟩
  | succ n=>
   obtain ⟨f3,h3,h4⟩:=ih n m h2
   refine ⟨f3,?_,fun b hb=>List.mem_append_right _ (h4 b hb)⟩
   have e:(n+1) * E.size=c.length+n * E.size:=by rw [E.len h1,Nat.add_mul,Nat.one_mul,Nat.add_comm]
   rw [e,List.drop_append,List.drop_of_length_le (by omega),List.nil_append,List.drop_succ_cons]
   simpa using h3
theorem Mh {Z:Nat→Prop} {w:World} {cur g:LN} {o:Bool} {α:Type} {E:ag α} {base:Option Addr} {cap a b:Nat} {xs:List α} (hE:E.size=1) (hr:(bE E).rep w.heap [.slice base xs.length cap] xs g) (hg:∀ i∈g,sw o Z cur i) (sH:a≤b) (hb:b≤xs.length) (hc:xs.length≤cap) :
  fact Z w cur (.rd o (bE E) (sliced base a b cap 1) ((xs.drop a).take (b - a))):=by
 have hlen:((xs.drop a).take (b - a)).length=b - a:=by rw [List.length_take,List.length_drop]; omega
 obtain ⟨Ig,LF,hv,fi⟩:=hr
 obtain ⟨rfl,rfl⟩ : base=Ig∧cap=LF:=by simpa using hv
 by_cases hj:a=b
 ·subst hj
  exact ⟨[],⟨_,cap - a,by unfold sliced; rw [hlen],.inl ⟨by simp,rfl⟩⟩,fun _ h=>absurd h List.not_mem_nil⟩
 ·rcases fi with ⟨rfl,_⟩ | ⟨b0,off,cr,e',fz,f',rfl,g1,rfl,_,g2⟩
  ·exfalso; simp at hb; omega
  ·have pN : ¬ (cap=a):=by omega
   obtain ⟨f3,df,cw⟩:=Mg a (b - a) g2
   refine ⟨b0 :: f3,⟨some ⟨b0,off+a,none⟩,cap - a,?_,.inr ⟨b0,off+a,cr,e',fz,f3,rfl,g1,rfl,by omega,?_⟩⟩,fun i hi=>?_⟩
   ·unfold sliced
    rw [hlen,if_neg pN]
    simp [gq]
   ·rw [hE,Nat.mul_one,Nat.mul_one,Nat.mul_one,List.drop_take,List.take_take,List.drop_drop,Nat.min_eq_left (by omega)] at df
    rw [hE,Nat.mul_one,hlen]
    exact df
   ·rcases List.mem_cons.1 hi with rfl | hi
    ·exact hg _ (by simp)
    ·exact hg _ (List.mem_cons_of_mem _ (cw i hi))
theorem AD.sound {l0:LO} {tq:Bool} {mt id:Nat} (hh:lh l mt base=true)
  (vi:∀ hd i sl ms Γ m,yZ ms=true→A8 U sl ms=true→(∀ x:pP ms,D P cx (.p (xP sl (mF ms x)) (A6 ms x) base Γ fun fr Γ=>.tg tq (yT tail) l tail K Γ fr m))→IB P cx K l l0 mt U hd id base (.a [] [] i sl ms Γ m))
  {J:JA R S} (h:AD tq P cx K l tail base U hd J):IB P cx K l l0 mt U hd id base J:=by
 have stay:∀ {B:Bs} {Z:Nat→Prop} {hd Γ:QE} {H:LN} {w0:World},qm B Z hd Γ H w0→∃ F Hd,(SA Z w0 hd [] Hd∧(∀ b∈Hd,b∈H∧b < w0.heap.size)∧(∀ b∈H,b < w0.heap.size)∧Hd.Nodup)∧SA Z w0 Γ [] F∧Gd B Z (H++F) w0∧∀ w,ak H w0 w→SA Z w Γ [] F:=by
  rintro B Z hd Γ H w0 ⟨F,Hd,h1,h2,h3⟩
  exact ⟨F,Hd,h1,h2,h3,fun w hC=>qm.stay h2 h3 hC⟩
 induction h with
 | nil hs he h=>exact vi _ _ _ _ _ _ hs he h
 | cons _ ih=>exact fun h=>ih h.cons
 | Iu _ ih=>exact fun h=>ih h.Iu
 | QM h1 hv hy hc hn di ho h4 h6 _ ih=>
  rename_i ht _
  intro h B o br r0 w0 H Z ha hs hp
  obtain ⟨F,_,_,_,_,hK⟩:=stay hs
  exact ih h.n B o br r0 w0 H Z ha hs (Pw hh ha ht h1 hv hy hc hn di ho h4 h6 hK h hp)
 | ixs hv hx _ _ ih=>exact fun h1=>ih hv hx h1
 | @W9 hd α A as d x y v k j t ty o1 o2 E xs ops i sl ms fr Γ jg f ht hy hr hE _ ih=>
  intro hv hx h1 B o ho r0 w0 H Z ha hs hp
  obtain ⟨z,hz,ho⟩:=bind_some ho
  replace hz:=pt hz
  obtain ⟨e,ii,q1,q2,q3⟩:=ht.h
  obtain ⟨F,Hd,⟨hL,J8⟩,hS,hG,hK⟩:=stay hs
  obtain ⟨de,_,⟨⟨n,hn,_⟩,BN⟩,rG⟩:=(hr z).sound hL
  obtain ⟨⟨a,c,kj⟩,bc,_⟩:=td hn j hz.1 hz.2
  refine ih z h1.n B o ho r0 w0 H Z ha ⟨F,Hd,⟨rG (BN hE j z hz.1 hz.2),J8⟩,hS,hG⟩ (hp.val hh ha h1 hv fun r fi _ _ _ w hC=>?_)
  rw [kn q1 q2 ((aS fi hx).trans kj) (aS fi hy) hz.1 (by omega),q3,kj]
  rfl
 | @idx hd α A as d x y v k j t ty o1 o2 E xs ops i sl ms fr Γ Γ' f ht hy hr hE _ ih=>
  intro hv hx h1 B o ho r0 w0 H Z ha hs hp
  obtain ⟨z,hz,ho⟩:=bind_some ho
  replace hz:=pt hz
  obtain ⟨F,Hd,hL,hS,hG,hK⟩:=stay hs
  obtain ⟨de,_,⟨⟨n,hn,_⟩,BN⟩,rG⟩:=(hr z).sound hS
  refine ih z h1.n B o ho r0 w0 H Z ha ⟨F,Hd,hL,rG (BN hE j z hz.1 hz.2),hG⟩ (hp.val hh ha h1 hv fun r fi _ _ _ w hC=>?_)
  obtain ⟨_,_,⟨⟨n',tJ,_⟩,_⟩,_⟩:=(hr z).sound (hK w hC)
  exact Ix ht.h tJ hz (aS fi hx) (aS fi hy) hE w (ak.refl _ _)
 | pz _ ih=>exact ih
 | @pe hd e Δ as ops i sl ms Γ m _ ih=>
  intro h1
  have h2:=ih h1
  have h3:(e :: Δ).reverse++Γ=Δ.reverse++e :: Γ:=by rw [List.reverse_cons,List.append_assoc]; rfl
  rw [h3]
  exact h2
 | @Ep hd α V Sc cl en A as d n x y v xs k j t ty ops i sl ms fr Γ Γx f ht hy hr pM hn _ ih=>
  intro hv hx hA B o ho r0 w0 H Z ha hs hp
  replace pM:SO Sc V cl en:=by cases pM; assumption
  obtain ⟨z,hz,ho⟩:=bind_some ho
  replace hz:=pt hz
  obtain ⟨e,i',h1,h2,h3⟩:=ht.h
  obtain ⟨F,Hd,hL,hS,hG,hK⟩:=stay hs
  obtain ⟨de,_,⟨⟨f0,Dp,r7⟩,_⟩,_⟩:=hr.sound hS
  have hZ:∀ b∈f0,Z b:=fun b hb=>(r7 b hb).elim (fun h=>h) (fun h=>h)
  obtain ⟨⟨a,c,kj⟩,bc,cs,f1,df,JT,ji⟩:=td Dp j hz.1 hz.2
  have tJ:(pU Sc).size=n:=hn
  rw [tJ] at ji
  obtain ⟨u,rfl,pX⟩:=pM.op df.2
  have hblk:Z (ch v n j).block:=by
   obtain ⟨base,cap,kj,fi⟩:=Dp
   rcases fi with ⟨rfl,_⟩ | ⟨b,off,cr,e',fz,f',rfl,_,rfl,_⟩
   ·simp at bc; omega
   ·obtain rfl:v = .slice (some ⟨b,off,none⟩) xs.length cap:=by simpa using kj
    have:(ch (.slice (some ⟨b,off,none⟩) xs.length cap) n j).block=b:=by unfold ch; rw [tG]
    rw [this]; exact hZ b (by simp)
  have Ez:fact Z w0 [] (.aw (ch v n j) (cl z u)):=⟨fun i u' hi=>ji i u' hi,fun _=>hblk⟩
  have dp:HL Z w0 (.aw (ch v n j) (cl z u) :: en z u) []:=.fact Ez (tc (pX Z fun b hb=>hZ b (JT b hb)))
  obtain ⟨F',wi,gy⟩:=dp.build hS
  refine ih z u hA.n B o ho r0 w0 H Z ha ⟨F',Hd,hL,gy,hG.perm (List.Perm.append_left H (by simpa using wi))⟩ (hp.val hh ha hA hv fun r fi _ _ _ w hC=>?_)
  rw [kn h1 h2 ((aS fi hx).trans kj) (aS fi hy) hz.1 (by omega),h3,kj]
  rfl
 | @Q1 hd α V Sc cl en A as d n e bt x y v us xs k j t ty ops i sl ms fr Γ Γ1 f ht hy h1 hg pM _ ih=>
  intro hv hx hA B o ho r0 w0 H Z ha hs hp
  replace pM:SO Sc V cl en:=by cases pM; assumption
  obtain ⟨z,hz,ho⟩:=bind_some ho
  replace hz:=pt hz
  obtain ⟨q1,i',_,q2,_,_,q3,_⟩:=ht.h
  obtain ⟨F,Hd,hL,hS,hG,hK⟩:=stay hs
  obtain ⟨f0,F1,_,hO,_⟩:=h1.sound hS
  obtain ⟨g0,hk,sC⟩:=hg.rd hS []
  obtain ⟨c,g1,e1,e2,e3⟩:=BF j.toNat hk.2.1 hz.2
  obtain ⟨u,rfl,pX⟩:=pM.op e2
  have hlen:us.length=xs.length:=yQ hk.2.1
  have bc:j.toNat < xs.length:=(List.getElem?_eq_some_iff.1 hz.2).1
  have kj:∃ a c,v = .slice (some a) us.length c:=by
   obtain ⟨b0,cap,hv,hr⟩:=hO
   obtain rfl:v = .slice b0 us.length cap:=by simpa using hv
   rcases hr with ⟨_,_,rfl,_⟩ | ⟨b,cur,f',rfl,_⟩
   ·rw [← hlen] at bc; simp at bc
   ·exact ⟨_,_,rfl⟩
  obtain ⟨a,c',rfl⟩:=kj
  have dp:HL Z w0 (.rd false (yJ us j) (.bool true) (cl z u) :: en z u) []:=.fact ⟨[],⟨rfl,⟨hz.1,e1⟩,rfl⟩,fun _ h=>absurd h List.not_mem_nil⟩ (tc (pX Z fun b hb=>sC b (e3 b hb)))
  obtain ⟨F',wi,gy⟩:=dp.build hS
  refine ih z u hA.n B o ho r0 w0 H Z ha ⟨F',Hd,hL,gy,hG.perm (List.Perm.append_left H (by simpa using wi))⟩ (hp.val hh ha hA hv fun r fi _ _ _ w hC=>?_)
  rw [kn q1 q2 (aS fi hx) (aS fi hy) hz.1 (by omega),q3]
  rfl
 | @VP hd A as d n e off x v u us j cs t ty ops i sl ms fr Γ Γ1 m h1 rq hc _ ih=>
  intro hv hx ht hA B o ho r0 w0 H Z ha hs hp
  obtain ⟨F,_,_,hS,_,hK⟩:=stay hs
  refine ih hA.n B o ho r0 w0 H Z ha hs (hp.val hh ha hA hv fun r hr _ _ _ w hC=>?_)
  obtain ⟨f,F1,_,hO,_⟩:=h1.sound (hK w hC)
  obtain ⟨_,⟨_,⟨hj,hu⟩,_⟩,_⟩:=rq.rd (hK w hC) []
  exact Ld ht ((wo hO hj hu).2.2 off u hc) (aS hr hx) w (ak.refl _ _)
 | @Q2 hd A as d n e x v u us j cs t ty ops i sl ms fr Γ Γ1 m h1 rq hc _ ih=>
  intro hv hx ht hA B o ho r0 w0 H Z ha hs hp
  obtain ⟨F,_,_,hS,_,hK⟩:=stay hs
  refine ih hA.n B o ho r0 w0 H Z ha hs (hp.val hh ha hA hv fun r hr _ _ _ w hC=>?_)
  obtain ⟨f,F1,_,hO,_⟩:=h1.sound (hK w hC)
  obtain ⟨_,⟨_,⟨hj,hu⟩,_⟩,_⟩:=rq.rd (hK w hC) []
  exact Ld ht ((wo hO hj hu).2.2 0 u hc) (aS hr hx) w (ak.refl _ _)
 | load hv hx _ ih=>rename_i ht _; exact fun h1=>ih hv hx ht.h h1
 | lsw _ _ ih=>exact fun hv hx ht h1=>ih hv hx ht h1
 | @Xa hd α A as d x v j E z o' t ty ops i sl ms fr Γ Q0 jg m hV h BO _ ih=>
  intro hv hx ht h1 B o ho r0 w0 H Z ha hs hp
  obtain ⟨F,Hd,⟨hL,J8⟩,hS,hG,hK⟩:=stay hs
  obtain ⟨_,⟨u,k,h3,h4,h5⟩,_⟩:=(h (.bool true)).sound hL
  obtain ⟨de,⟨u',k',V2,h5',h6⟩,rG⟩:=(h u).sound hL
  rw [h3] at V2
  cases V2
  exact ih u h1.n B o ho r0 w0 H Z ha ⟨F,Hd,⟨(BO u).sound h3 (rG ⟨k',h5',h6⟩),J8⟩,hS,hG⟩ (hp.Xf hh ha h1 hV hv fun r hr _ _ _ w hC=>Ld ht h3 (aS hr hx) w hC)
 | @QG hd α A as d x v j o E z t ty ops i sl ms fr Γ Γx m h _ ih=>
  intro hv hx ht h1 B o' ho r0 w0 H Z ha hs hp
  obtain ⟨F,Hd,hL,hS,hG,hK⟩:=stay hs
  obtain ⟨_,⟨u,k,h2,h3,_⟩,_⟩:=h.sound hS
  refine ih hv hx ht h1 B o' ho r0 w0 H Z ha hs ⟨u,fun w hC=>?_⟩ hp
  have hb:(ch v 1 j).block ∉ H:=fun hm=>(h.yS hS).elim (fun h=>h.elim (fun h=>absurd h List.not_mem_nil) fun h=>(List.nodup_append.1 hG.nd).2.2 _ hm _ h rfl) fun h=>hG.apart _ (List.mem_append_left _ hm) h
  have hc:=hC.cell hb h2
  obtain ⟨_,⟨u',k',h4,h5,_⟩,_⟩:=h.sound (hK w hC)
  rw [hc] at h4
  cases h4
  exact ⟨hc,k',h5⟩
 | QH h _ ih=>
  intro hv hx ht h1 B o ho r0 w0 H Z ha hs hp
  obtain ⟨F,_,_,hS,_,hK⟩:=stay hs
  exact ih h1.n B o ho r0 w0 H Z ha hs (hp.val hh ha h1 hv fun r hr _ _ _ w hC=>Ld ht (h.sound (hK w hC)) (aS hr hx) w (ak.refl _ _))
 | JM h _ ih=>
  intro hv hx ht h1 B o ho r0 w0 H Z ha hs hp
  obtain ⟨F,_,_,hS,_,hK⟩:=stay hs
  refine ih h1.n B o ho r0 w0 H Z ha hs (hp.val hh ha h1 hv fun r hr _ _ _ w hC=>?_)
  obtain ⟨h2,h3⟩:=h.sound (hK w hC)
  exact Lg ht h2 (aS hr hx) h3 w (ak.refl _ _)
 | QI _ ih=>
  intro hv hx ht h1 B o ho r0 w0 H Z ha hs hu hp
  obtain ⟨u,hu⟩:=hu
  obtain ⟨_,_,h3,_⟩:=hu w0 (ak.refl _ _)
  obtain rfl:u=_:=by simpa using h3
  exact ih h1.n B o ho r0 w0 H Z ha hs (hp.val hh ha h1 hv fun r hr _ _ _ w hC=>Ld ht (hu w hC).1 (aS hr hx) w (ak.refl _ _))
 | @QJ hd α A as d x v j E z o' t ty ops i sl ms fr Γ Γ1 Γ' m h BO _ ih=>
  intro hv hx ht h1 B o ho r0 w0 H Z ha hs hu hp
  obtain ⟨u,hu⟩:=hu
  obtain ⟨h2,_⟩:=hu w0 (ak.refl _ _)
  obtain ⟨F,Hd,hL,hS,hG,hK⟩:=stay hs
  obtain ⟨de,⟨u',k',h4,h5,h6⟩,rG⟩:=(h u).sound hS
  rw [h2] at h4
  cases h4
  exact ih u h1.n B o ho r0 w0 H Z ha ⟨F,Hd,hL,(BO u).sound h2 (rG ⟨k',h5,h6⟩),hG⟩ (hp.val hh ha h1 hv fun r hr _ _ _ w hC=>Ld ht (hu w hC).1 (aS hr hx) w (ak.refl _ _))
 | @Er hd α A as d t e ty E z0 bt ops i sl ms Γ m hz _ ih=>
  intro h1 B o ho r0 w0 H Z ha hs hp
  exact ih h1.n B o ho r0 w0 H Z ha hs (Pz hz h1 hp)
 | JL hU _ ih=>exact fun h1=>ih hU h1
 | @Xb hd β V A as d f fs bs xo xs aw ty mo rt ps ops i sl ms fr Γ g hv Q9 hf hc hi j6 hw _ ih=>
  intro h1 B o ho r0 w0 H Z ha hs hp
  obtain @⟨sG⟩:=hf
  obtain ⟨y,hy,ho⟩:=bind_some ho
  obtain ⟨pos,af,h2⟩:=h1.o
  exact ih y h1.n (by unfold bh; rw [h2]; rfl) B o ho r0 w0 H Z ha hs (JY hh sG hv Q9 hc hi j6 hw h1 hy ha hs hp)
 | @call hd β V A as d f xs aw ty mo rt ps ops i sl ms fr Γ g hf hv hc hi j6 hw _ ih=>
  intro _ h1 B o ho r0 w0 H Z ha hs hp
  obtain ⟨y,hy,ho⟩:=bind_some ho
  obtain ⟨pos,af,h2⟩:=h1.o
  exact ih y h1.n (by unfold bh; rw [h2]; rfl) B o ho r0 w0 H Z ha hs (Me hh hf hv hc hi j6 hw h1 hy ha hs hp)
 | @UK hd β V A as d f xs aw ty mo rt ps ops i sl ms fr Γ g hf hV hv hc hi j6 hw _ ih=>
  intro hU h1 B o ho r0 w0 H Z ha hs hp
  obtain ⟨y,hy,ho⟩:=bind_some ho
  obtain ⟨pos,af,h2⟩:=h1.o
  exact ih y h1.n (by unfold bh; rw [h2]; rfl) B o ho r0 w0 H Z ha hs (JZ hh hf hv hU hV hc hi j6 hw h1 hy ha hs hp)
 | @EM hd β V A as d f xs aw ty mo rt ps ops i sl ms fr Γ g hf hV hv hc hi j6 _ ih=>
  intro hU h1 B o ho r0 w0 H Z ha hs hp
  obtain ⟨y,hy,ho⟩:=bind_some ho
  obtain ⟨pos,af,h2⟩:=h1.o
  exact ih y h1.n (by unfold bh; rw [h2]; rfl) B o ho r0 w0 H Z ha hs (Iy hh hf hv hU hV hc hi j6 h1 hy ha hs hp)
 | @UL hd β V j1 a1 lu A as d f xs aw ty mo rt ps ops i sl ms fr Γ g hf hg On h4 hv hc hi j6 hw _ ih=>
  intro hU h1 B o ho r0 w0 H Z ha hs hp
  obtain ⟨y,hy,ho⟩:=bind_some ho
  obtain ⟨pos,af,h2⟩:=h1.o
  exact ih y h1.n (by unfold bh; rw [h2]; rfl) B o ho r0 w0 H Z ha hs (let ⟨S',e1,e2,e3⟩:=J7 hh hf hv hU hg On h4 hc hi j6 hw h1 hy ha hs hp; ⟨S',e1,e2.re (oy (by rw [← h1.A]; exact mf.1 h4)).1,e3⟩)
 | @crb hd u ps d as ops i sl ms Γ m _ ih=>
  intro h1 jg B o ho r0 w0 H Z ha hs ⟨S',hl,hR,hO,hL⟩
  subst hl
  refine ih h1 B o ho r0 w0 H Z ha hs ⟨S'++[⟨true,MV Z ⟨S'.length,d,[],Unit,fun _=>u,fun _=>ps⟩⟩],by simp,(hR.mem (b:=⟨S'.length,d,[],Unit,fun _=>u,fun _=>ps⟩) rfl jg (fun _ h=>nomatch h)).Xc (s:=⟨true,MV Z ⟨S'.length,d,[],Unit,fun _=>u,fun _=>ps⟩⟩) jg (by simp) rfl (fun f w r x ⟨v,h,_⟩=>h),fun j hj=>?_⟩
  by_cases h2:j < S'.length
  ·exact jx.more (hO j h2) h2
  ·obtain rfl:j=S'.length:=by omega
   exact hL _ fun f w r x h=>⟨f,fun _ h=>h,h⟩
 | @crv hd u d as ops i sl ms Γ m _ ih=>
  intro h1 jg B o ho r0 w0 H Z ha hs ⟨S',hl,hR,hO,hL⟩
  subst hl
  refine ih h1 B o ho r0 w0 H Z ha hs ⟨_,by simp,hR.val jg,fun j hj=>?_⟩
  by_cases h2:j < S'.length
  ·exact jx.more (hO j h2) h2
  ·obtain rfl:j=S'.length:=by omega
   exact hL (pl fun _ _ x=>x=_) fun f w r x ⟨v,h,_⟩=>⟨[],fun _ h=>absurd h List.not_mem_nil,h⟩
 | @crm hd V u ps d as ops i sl ms Γ m _ ih=>
  intro h1 jg B o ho r0 w0 H Z ha hs ⟨S',hl,hR,hO,hL⟩
  subst hl
  refine ih h1 B o ho r0 w0 H Z ha hs ⟨_,by simp,hR.mem rfl jg (fun _ h=>nomatch h),fun j hj=>?_⟩
  by_cases h2:j < S'.length
  ·exact jx.more (hO j h2) h2
  ·obtain rfl:j=S'.length:=by omega
   exact hL _ fun f w r x h=>⟨f,fun _ h=>h,h⟩
 | QK hU _ ih=>exact fun h1=>ih hU h1
 | apH EV hv di h2 h5 hl hz h1 hr hy _ ih=>
  rename_i hT _
  intro hU h B o ho r0 w0 H Z ha hs hp
  obtain ⟨u,hu,ho⟩:=bind_some ho
  obtain ⟨p1,p2⟩:=PB hh ha hT hU EV hv di h2 h5 hl hz h1 hr hy hu h hs hp
  exact ih h.n B o ho r0 w0 H Z ha p2 p1
 | ap1 h1 h2 h3 hw h4 h5 _ ih=>
  rename_i hz _
  intro h6 h B o ho r0 w0 H Z ha hs hp
  obtain ⟨u,hu,ho⟩:=bind_some ho
  exact ih h.n B o ho r0 w0 H Z ha hs (Pv hz h1 h2 h3 h4 h5 (h6.trans hw) hu h hp)
 | Ds h1 h3 hw h4 hv hx hr _ ih=>
  rename_i hz _
  intro h6 h B o ho r0 w0 H Z ha hs hp
  obtain ⟨u,hu,ho⟩:=bind_some ho
  obtain ⟨F,_,_,_,_,hK⟩:=stay hs
  exact ih h.n B o ho r0 w0 H Z ha hs (Md hz h1 h3 h4 (h6.trans hw) hh ha hv hx hr hK hu h hp)
 | sw1 _ _ ih=>exact fun h1=>ih h1
 | sw4 _ _ ih=>exact fun h1=>ih h1
 | QZ _ ih=>
  rename_i hz _
  intro h1 B o ho r0 w0 H Z ha hs hp
  exact ih h1.n B o ho r0 w0 H Z ha hs (Px hz h1 hp)
 | sw5 _ _ ih=>exact fun h1=>ih h1
 | wv hv hq _ ih=>
  intro h1 B o ho r0 w0 H Z ha hs hp
  obtain ⟨F,_,_,_,_,hK⟩:=stay hs
  exact ih h1.n B o ho r0 w0 H Z ha hs (hp.val hh ha h1 hv fun r hr _ _ _ w hC=>hq.sound (hK w hC) hr _ _ _ _ _ w (ak.refl _ _))
 | wlt hv hx ho _ ih=>
  rename_i hz _
  intro h1 B o br r0 w0 H Z ha hs hp
  obtain ⟨F,_,_,_,_,hK⟩:=stay hs
  exact ih h1.n B o br r0 w0 H Z ha hs (Q8 hh ha hz hv hx ho hK h1 hp)
 | ltn hv jg hn hb _ ih=>
  rename_i hz _
  intro h1 B o br r0 w0 H Z ha hs hp
  obtain ⟨F,_,_,_,_,hK⟩:=stay hs
  exact ih h1.n B o br r0 w0 H Z ha hs (Hn hh ha hz hv jg hn hb hK h1 hp)
 | ltu hv jg hn hb _ ih=>
  rename_i hz _
  intro h1 B o br r0 w0 H Z ha hs hp
  obtain ⟨F,_,_,_,_,hK⟩:=stay hs
  exact ih h1.n B o br r0 w0 H Z ha hs (Hn hh ha ⟨hz.h⟩ hv jg hn hb hK h1 hp)
 | @mj hd A as op x y k k' a b t t' d ty ops i sl ms fr Γ f hv hx hy hk _ ih=>
  intro h1 B o ho r0 w0 H Z ha hs hp
  obtain ⟨z,hz,ho⟩:=bind_some ho
  have yW:JK op=true∨k=k':=by
   cases hk with
   | same=>exact .inr rfl
   | sh h=>exact .inl h
  exact ih z h1.n B o ho r0 w0 H Z ha hs (hp.val hh ha h1 hv fun r hr _ _ _ w hC=>JS (aS hr hx) (aS hr hy) yW hz)
 | mk hv hx _ ih=>
  rename_i hz _
  intro h1 B o ho r0 w0 H Z ha hs hp
  obtain ⟨n,hn,ho⟩:=bind_some ho
  exact ih n h1.n B o ho r0 w0 H Z ha hs (Q7 hh ha hz hv hx hn h1 hp)
 | mbl hi j6 _ hj hv hxx _ ih=>
  rename_i hb _ _
  intro h1 B o ho r0 w0 H Z ha hs hp
  exact ih h1.n B o ho r0 w0 H Z ha hs (Py hh hb hi j6 hj hv hxx h1 ha hs hp)
 | val hv hq _ ih=>
  intro h1 B o ho r0 w0 H Z ha hs hp
  obtain ⟨F,_,_,_,_,hK⟩:=stay hs
  exact ih h1.n B o ho r0 w0 H Z ha hs (hp.val hh ha h1 hv fun r hr _ _ _ w hC=>hq.sound (hK w hC) hr _ _ _ _ _ w (ak.refl _ _))
end
end Go.Dk
namespace Go.Dk
open Go Go.Li
section
variable {R S:Type} {P:Program} {cx:Cx R} {K:cy R S} {l tail:LO} {base fr:Fr} {w:World} {Z:Nat→Prop}
theorem GH {n:Nat} {Q:Exit→(Nat→Value)→World→Prop} {r:NV} (hQ:∀ c,¬ Q (.panic c) r w):∀ gv,∀ c,¬ zX P n Q gv (.panic c) r w:=by
 intro gv
 induction gv with
 | nil=>exact hQ
 | cons a gv ih=>cases a <;> exact ih
theorem GI {B:Bs} {b:Kb R S} {o:Out S R} {r:NV}:∀ c,¬ Ij P cx B b o (.panic c) r w:=by
 intro c
 cases b <;> cases o <;> exact fun h=>h
theorem lv {B:Bs} {K:cy R S} {o:Out S R} {r:NV}:∀ c,¬ j8 P cx B K o (.panic c) r w:=GH GI _
def xT (g:Nat→List Nat):List fg→List Nat
 | []=>[]
 | a :: l=>g a.j++xT g l
theorem Bb {g:Nat→List Nat}:∀ {ms:MM} {b:Nat},b∈xT g ms→∃ a∈ms,b∈g a.j:=by
 intro ms
 induction ms with
 | nil=>intro b h; exact absurd h List.not_mem_nil
 | cons a ms ih=>
  intro b h
  rcases List.mem_append.1 h with h | h
  ·exact ⟨a,by simp,h⟩
  ·obtain ⟨c,h1,h2⟩:=ih h
   exact ⟨c,List.mem_cons_of_mem _ h1,h2⟩
theorem Hp {Vo Vr A F:LN} (h:(Vo++Vr).Perm A):((Vo++F)++Vr).Perm (A++F):=by
 refine List.Perm.trans ?_ (h.append_right F)
 rw [List.append_assoc,List.append_assoc]
 exact List.Perm.append_left Vo List.perm_append_comm
theorem Oq {g:Nat→List Nat} {r:NV}:∀ {ms:MM},yZ ms=true→(ms.map (·.j)).Nodup→(∀ a∈ms,∀ b∈ms,a.j≠b.j→ql (g a.j) (g b.j))→(∀ a∈ms,MV Z a (g a.j) w r (r a.d))→
  ∃ x:pP ms,(∀ p∈mF ms x,r p.1=p.2)∧(∃ Vo Vr,(Vo++Vr).Perm (xT g ms)∧(∀ b∈Vr,b < w.heap.size)∧HL (pV Z Vr) w (A6 ms x) Vo)∧(xT g ms).Nodup:=by
 intro ms
 induction ms with
 | nil=>intro _ _ _ _; exact ⟨(),fun p hp=>absurd hp List.not_mem_nil,⟨[],[],.refl _,fun b (h:b∈[])=>absurd h List.not_mem_nil,.nil⟩,List.nodup_nil⟩
 | cons a ms ih=>
  intro j6 hd hi h
  unfold yZ at j6
  rw [Bool.and_eq_true] at j6
  rw [List.map_cons,List.nodup_cons] at hd
  obtain ⟨x,hx,hl,hn⟩:=ih j6.2 hd.2 (fun b hb c hc=>hi b (List.mem_cons_of_mem _ hb) c (List.mem_cons_of_mem _ hc)) fun b hb=>h b (List.mem_cons_of_mem _ hb)
  obtain ⟨v,e1,e2,e3⟩:=h a (by simp)
  have es:wT a r=yY a (mF ms x):=by
   have h3:=j6.1
   rw [List.all_eq_true] at h3
   refine z6 fun t ht=>?_
   unfold wk
   rw [L8 (h3 t ht) hx]
  rw [es] at e1 e2
  refine ⟨(v,x),?_,?_,tO e3 hn ?_⟩
  rotate_left
  ·obtain ⟨Fo,Fr,hf,h1,h2⟩:=e2.all
   obtain ⟨Vo,Vr,k1,k2,k3⟩:=hl
   refine ⟨Fo++Vo,Fr++Vr,?_,fun b hb=>(List.mem_append.1 hb).elim (h1 b) (k2 b),(h2.mono fun b h=>h.imp id fun h=>List.mem_append_left _ h).app (k3.mono fun b h=>h.imp id fun h=>List.mem_append_right _ h)⟩
   show List.Perm _ (g a.j++xT g ms)
   rw [hf]
   refine List.Perm.trans ?_ (k1.append_left (Fo++Fr))
   rw [List.append_assoc,List.append_assoc]
   refine List.Perm.append_left Fo ?_
   rw [← List.append_assoc,← List.append_assoc]
   exact List.Perm.append_right Vr List.perm_append_comm
  rotate_right
  ·intro p hp
   rcases List.mem_cons.1 hp with rfl | hp
   ·exact e1
   ·exact hx p hp
  ·intro b hb hm
   obtain ⟨c,h1,h2⟩:=Bb hm
   exact hi a (by simp) c (List.mem_cons_of_mem _ h1) (fun e=>hd.1 (by rw [e]; exact List.mem_map_of_mem h1)) b hb h2
theorem EY {r:NV} {f:Fr}:∀ {sl:LQ},(∀ p∈sl,r p.2.1=p.2.2)→(∀ p∈f,r p.1=p.2)→∀ p∈xP sl f,r p.1=p.2:=by
 intro sl
 induction sl with
 | nil=>intro _ h; exact h
 | cons a sl ih=>
  intro h1 h2 p hp
  rcases List.mem_cons.1 hp with rfl | hp
  ·exact h1 a (by simp)
  ·exact ih (fun p hp=>h1 p (List.mem_cons_of_mem _ hp)) h2 p hp
theorem Mi {mt:Nat} {U:LL} {J9:QE} (hh:lh l mt base=true) {sl:LQ} {ms:MM} {Γ:QE} {m:Option (Out S R)} (Ka:yZ ms=true) (pX:A8 U sl ms=true)
  (h:∀ x:pP ms,D P cx (.p (xP sl (mF ms x)) (A6 ms x) base Γ fun fr Γ=>.tg false (yT tail) l tail K Γ fr m)) {B:Bs} {o:Out S R} (ho:m=some o) {r0:NV} {w0:World} {H:LN} {Z:Nat→Prop} (ha:cn r0 base) (hs:qm B Z J9 Γ H w0) {S':List fk} (hi:S'.length=mt) (hR:gj Z l S' sl ms) :
  ∀ g r w,vk l mt S' U r0 w0 H (fun j=>j < mt) g r w→WL P l tail r w (j8 P cx B K o .normal):=by
 obtain ⟨F,Hd,⟨vj,xc,te,xd⟩,hS,hG⟩:=hs
 intro g r w hI
 have IC:∀ k j,j∈U.getD k []→∀ a∈ms,a.j≠j:=by
  intro k j hj
  unfold A8 at pX
  rw [Bool.and_eq_true] at pX
  rw [List.getD_eq_getElem?_getD] at hj
  cases hk:U[k]? with
  | none=>rw [hk] at hj; exact absurd hj List.not_mem_nil
  | some us=>
   rw [hk] at hj
   have h1:=List.all_eq_true.1 (List.all_eq_true.1 pX.1 us (List.mem_of_getElem? hk)) j hj
   intro a ha he
   have:=List.all_eq_true.1 h1 a ha
   rw [he,Nat.beq_refl] at this
   cases this
 have hD:∀ j,j < mt→(∀ k,j ∉ U.getD k [])→vh l S' j g r w:=fun j hj hn=>hI.done j hj fun k _=>hn k
 have bc:∀ a∈ms,a.j < mt:=fun a ha=>hi ▸ hR.lt ha
 obtain ⟨x,hx,r9,Rj⟩:=Oq (g:=g) (r:=r) (w:=w) Ka hR.d (fun a ha b hb sH=>hI.ur _ _ (bc a ha) (bc b hb) sH) fun a ha=>by
  have:=hR.Du (S2:=[]) ha (by rw [List.append_nil]; exact hD a.j (bc a ha) (fun k hk=>IC k _ hk a ha rfl))
  exact this
 have BX:=List.nodup_append.1 hG.nd
 have n9:∀ b∈xT g ms,w0.heap.size≤b∨b∈H:=fun b hb=>by
  obtain ⟨a,h1,h2⟩:=Bb hb
  exact (hI.fresh a.j (bc a h1) b h2).1.imp (fun h=>h) (·.1)
 have fy:=qm.stay hS hG hI.iz
 obtain ⟨Vo,Vr,Rk,Rm,r9⟩:=r9
 obtain ⟨F',hp,gy⟩:=r9.build (fy.mono (fun _ h=>.inl h) fun _ h=>h)
 have tP:Gd B Z (xT g ms++F) w:=by
  refine ⟨tO Rj BX.2.1 fun b hb hF=>(n9 b hb).elim (fun h=>Nat.lt_irrefl _ (Nat.lt_of_lt_of_le (hS.lt b hF) h)) (fun h=>BX.2.2 b h b hF rfl),?_,fun b hb=>Nat.lt_of_lt_of_le (hG.na b hb) hI.iz.size,?_,hG.sZ,hG.sA,hG.iz.then hI.iz fun b hb=>hG.low b (List.mem_append_left _ hb)⟩
  ·intro b hb hz
   rcases List.mem_append.1 hb with hb | hb
   ·exact (n9 b hb).elim (fun h=>Nat.lt_irrefl _ (Nat.lt_of_lt_of_le (hG.na b hz) h)) (fun h=>hG.apart b (List.mem_append_left _ h) hz)
   ·exact hG.apart b (List.mem_append_right _ hb) hz
  ·intro b hb
   rcases List.mem_append.1 hb with hb | hb
   ·exact (n9 b hb).elim (fun h=>.inr (Nat.le_trans hG.iz.size h)) (fun h=>hG.low b (List.mem_append_left _ h))
   ·exact hG.low b (List.mem_append_right _ hb)
 have Mj:cn r ((xP sl (mF ms x)).reverse++base):=by
  refine r4 (EY (fun p hp=>?_) hx) (jm hh ha hI.other)
  exact hR.zd (S2:=[]) hp fun j _ hj=>(by rw [List.append_nil]; exact hI.qZ j (hi ▸ hj))
 have:=(h x).sound B o ho r w Mj ⟨_,F',gy,((tP.perm (Hp Rk)).freeze Rm).perm hp⟩
 exact this
theorem PC {mt id:Nat} {U:LL} {Zl:LN} {J9:QE} (hU:((List.range mt).all fun i=>(U.getD i []).all fun u=>Nat.beq u l.length || ((bu l).getD i []).contains u)=true) (hh:lh l mt base=true) (hd:cg cx.n l=true) (hA:xU l mt Zl=true) (hZ:EZ l mt Zl=true) (E0:mt≤l.length) (ht:tail=l.drop mt) {i:Nat} {sl:LQ} {ms:MM} {Γ:QE} {m:Option (Out S R)} (Ka:yZ ms=true) (pX:A8 U sl ms=true)
  (h:∀ x:pP ms,D P cx (.p (xP sl (mF ms x)) (A6 ms x) base Γ fun fr Γ=>.tg false (yT tail) l tail K Γ fr m)):IB P cx K l l mt U J9 id base (.a [] [] i sl ms Γ m):=by
 rintro ⟨_,h2,h3⟩ B o ho r0 w0 H Z ha hs ⟨S',hl,hR,hO⟩
 have hi:i=mt:=by
  have:=congrArg List.length h2
  simp at this
  omega
 subst hl
 have Ro:=hs
 obtain ⟨F,Hd,⟨vj,xc,te,xd⟩,hS,hG⟩:=hs
 refine Rp (N:=Z) (S:=S') (U:=U) (H:=H) hd hA hZ (fun c r w h=>lv c h) E0 hi te hU (fun b hb=>⟨hG.na b hb,fun h=>hG.apart b (List.mem_append_left _ h) hb⟩) (fun i s hs=>hR.s i s hs) (fun j hj=>hO j (by omega)) ?_
 intro g r w hI
 have:=Mi hh Ka pX h ho ha Ro hi hR g r w hI
 rwa [ht] at this
def Kq (q:Option (Bool×Nat×Value)) (f:Fr):Fr:=
 match q with
 | none=>f
 | some (_,d,u)=>(d,u) :: f
theorem Kp.lk {ws:LN} {q:Option (Bool×Nat×Value)} {f g:Fr} (h:Kp ws q f g):(∀ b d u,q=some (b,d,u)→b=gh d ws)→∀ t v,look g t=some v→gh t ws=false∧look (Kq q f) t=some v:=by
 induction h with
 | nil=>intro _ t v h; cases h
 | cons _ ih=>intro _ t v h; exact ih (by rintro b d u h; cases h; rfl) t v h
 | @drop ws d u f g _ ih=>
  intro hq t v h
  obtain ⟨h1,h2⟩:=ih (by rintro b d u h; cases h) t v h
  refine ⟨h1,?_⟩
  show look ((d,u) :: f) t=some v
  unfold look
  cases hb:Nat.beq t d with
  | true=>have:=hq true d u rfl; rw [Nat.eq_of_beq_eq_true hb,← this] at h1; cases h1
  | false=>exact h2
 | @dn ws d u f g _ ih=>
  intro hq t v h
  unfold look at h
  show gh t ws=false∧look ((d,u) :: f) t=some v
  unfold look
  cases hb:Nat.beq t d with
  | true=>rw [hb] at h; exact ⟨by rw [Nat.eq_of_beq_eq_true hb]; exact (hq false d u rfl).symm,h⟩
  | false=>
   rw [hb] at h
   obtain ⟨h1,h2⟩:=ih (by rintro b d u h; cases h) t v h
   unfold gh at h1
   rw [hb] at h1
   exact ⟨h1,h2⟩
theorem Kp.sound {ws:LN} {f g:Fr} {r:NV} (h:Kp ws none f g) (ha:cn r f):cn r g:=
 fun t v hl=>ha t v (h.lk (by rintro b d u h; cases h) t v hl).2
theorem Rq {id:Nat} (hd:QE) (mt:Nat) (Zl:LN) (U as:LL) {ops:LO} {Γ Γ1:QE} {fr:Fr} {m:Option (Out S R)}
  (hB:(P.follows .mixedOrders && cg cx.n l && xU l mt Zl && EZ l mt Zl && Nat.ble mt l.length && (lz l U mt == as) && ((List.range mt).all fun i=>(U.getD i []).all fun u=>Nat.beq u l.length || ((bu l).getD i []).contains u))=true)
  (ho:ops=l.take mt) (ht:tail=l.drop mt) (hf:Kp (xL ops) none fr base) (hh:lh l mt base=true) (he:EO Γ hd Γ1) (E2:OW Γ hd)
  (h:AD false P cx K l tail base U hd (.a as ops 0 [] [] Γ1 m)):∀ B o,m=some o→∀ r w,cn r fr→St B Γ w→l3 P cx.n l (j8 P cx B K o) r w:=by
 simp only [Bool.and_eq_true] at hB
 obtain ⟨⟨⟨⟨⟨⟨_,b2⟩,b3⟩,b4⟩,b5⟩,b6⟩,b7⟩:=hB
 intro B o hm r w ha hs
 obtain ⟨Z,F,hS,hG⟩:=hs
 obtain ⟨Fd,F',h1,h2,h3⟩:=he.sound hS
 have E3:SA Z w hd [] Fd:=by
  have:=(HO.hl E2 hS h1).front (Γ:=[]) (F:=[]) rfl
  simpa using this
 have hX:qm B Z hd Γ1 Fd w:=⟨F',Fd,⟨E3,fun b hb=>⟨hb,E3.lt b hb⟩,E3.lt,(List.nodup_append.1 (hG.perm h3).nd).1⟩,h2,hG.perm h3⟩
 refine AD.sound (id:=id) hh (fun _ _ _ _ _ _ hs he h=>PC b7 hh b2 b3 b4 (Nat.le_of_ble_eq_true b5) ht hs he h) h
  ⟨by rw [List.drop_zero]; exact (eq_of_beq b6).symm,by rw [List.drop_zero]; exact ho,Nat.zero_le _⟩ B o hm r w Fd Z (hf.sound ha) hX ⟨[],rfl,⟨fun _ h=>absurd h List.not_mem_nil,fun _ h=>absurd h List.not_mem_nil,fun i s h=>by simp at h,List.nodup_nil,fun _ _ _ h1 h2=>BZ l (Kc b3) h1 h2⟩,fun j hj=>absurd hj (Nat.not_lt_zero j)⟩
theorem tf {id:Nat} (hd:QE) (mt:Nat) (Zl:LN) (U as:LL) {ops:LO} {Γ Γ1:QE} {fr:Fr} {m:Option (Out S R)}
  (hB:(P.follows .mixedOrders && cg cx.n l && xU l mt Zl && EZ l mt Zl && Nat.ble mt l.length && (lz l U mt == as) && ((List.range mt).all fun i=>(U.getD i []).all fun u=>Nat.beq u l.length || ((bu l).getD i []).contains u))=true)
  (ho:ops=l.take mt) (ht:tail=l.drop mt) (hf:Kp (xL ops) none fr base) (hh:lh l mt base=true) (he:EO Γ hd Γ1) (E2:OW Γ hd)
  (h:AD false P cx K l tail base U hd (.a as ops 0 [] [] Γ1 m)):Bx (n8 P cx (.dr id l K Γ fr m)):=by
 have hm:P.follows .mixedOrders=true:=by
  simp only [Bool.and_eq_true] at hB
  exact hB.1.1.1.1.1.1
 rw [nw]
 intro B o s6 r w ha hs
 exact (Rq (id:=id) hd mt Zl U as hB ho ht hf hh he E2 h B o s6 r w ha hs).W hm
theorem Rs {id:Nat} {l0:LO} (σ π:LN) (hd:QE) (mt:Nat) (Zl:LN) (U as:LL) {ops:LO} {Γ Γ1:QE} {fr:Fr} {m:Option (Out S R)}
  (hB:(P.follows .mixedOrders && Mk l0 σ π && cg cx.n (ou l0 σ π) && xU (ou l0 σ π) mt Zl && EZ (ou l0 σ π) mt Zl && Nat.ble mt (ou l0 σ π).length && (lz (ou l0 σ π) U mt == as) && ((List.range mt).all fun i=>(U.getD i []).all fun u=>Nat.beq u (ou l0 σ π).length || ((bu (ou l0 σ π)).getD i []).contains u))=true)
  (hl:l=ou l0 σ π) (ho:ops=l.take mt) (ht:tail=l.drop mt) (hf:Kp (xL ops) none fr base) (hh:lh l mt base=true) (he:EO Γ hd Γ1) (E2:OW Γ hd)
  (h:AD false P cx K l tail base U hd (.a as ops 0 [] [] Γ1 m)):Bx (n8 P cx (.dr id l0 K Γ fr m)):=by
 subst hl
 simp only [Bool.and_eq_true] at hB
 obtain ⟨⟨⟨⟨⟨⟨⟨b0,b1⟩,b2⟩,b3⟩,b4⟩,b5⟩,b6⟩,b7⟩:=hB
 rw [nw]
 intro B o s6 r w ha hs
 refine ((Rq (id:=id) hd mt Zl U as ?_ ho ht hf hh he E2 h B o s6 r w ha hs).prm b1).W b0
 simp only [Bool.and_eq_true]
 exact ⟨⟨⟨⟨⟨⟨b0,b2⟩,b3⟩,b4⟩,b5⟩,b6⟩,b7⟩
theorem any {id:Nat} (mt:Nat) (Zl:LN) (U as:LL) {ops:LO} {Γ:QE} {fr:Fr} {m:Option (Out S R)}
  (hB:(P.follows .mixedOrders && cg cx.n l && xU l mt Zl && EZ l mt Zl && Nat.ble mt l.length && (lz l U mt == as) && ((List.range mt).all fun i=>(U.getD i []).all fun u=>Nat.beq u l.length || ((bu l).getD i []).contains u))=true)
  (ho:ops=l.take mt) (ht:tail=l.drop mt) (hf:Kp (xL ops) none fr base) (hh:lh l mt base=true)
  (h:AD false P cx K l tail base U [] (.a as ops 0 [] [] Γ m)):Bx (n8 P cx (.dr id l K Γ fr m)):=tf [] mt Zl U as hB ho ht hf hh .nil .nil h
end
end Go.Dk
