/- A calculus of walks: regions that draw their order and make memory. No condition. -/
import Derived.Test.YtbhhmalgcnhniaaGreatDe
import Derived.Laws.Slices
namespace Go.Dk
open Go Go.Li
section
variable {w:World}
def th {α:Type} (e:TI) (E:ai α) (j:Nat):ai (List α) where
 size:=1
 rep h cs xs f:=∃ b cap cur f1 f2 p c0 q,cs=[.slice (some ⟨b,0,none⟩) xs.length cap]∧h[b]? = some (.cells cur e (0,0))∧f=b :: (f1++f2)∧(xs.length≤cap∧cap≤maxLen∧cur.size=cap∧E.size=1)∧cur.toList.take xs.length=p++[c0]++q∧(p.length=j∧j < xs.length)∧
  (∀ i∈f1++f2,i < h.size)∧∀ h':Array Obj,(∀ i∈f1++f2,h'[i]? = h[i]?)→∀ u z k,E.rep h' [u] z k→dj E h' (p++[u]++q) (xs.set j z) (f1++k++f2)
 len:=by rintro h cs x f ⟨b,cap,cur,f1,f2,p,c0,q,rfl,_⟩; rfl
 one:=by rintro h cs x f ⟨b,cap,cur,f1,f2,p,c0,q,rfl,_⟩ v hv; simp at hv; subst hv; rfl
 congr:=by
  rintro h h' cs x f ⟨b,cap,cur,f1,f2,p,c0,q,rfl,h1,rfl,h2,h3,h4,h5,h6⟩ hb
  refine ⟨b,cap,cur,f1,f2,p,c0,q,rfl,(hb b (by simp)).trans h1,rfl,h2,h3,h4,fun i hi=>?_,fun h'' bz=>h6 h'' fun i hi=>(bz i hi).trans (hb i (List.mem_cons_of_mem _ hi))⟩
  have:=hb i (List.mem_cons_of_mem _ hi)
  rw [Array.getElem?_eq_getElem (h5 i hi)] at this
  exact (Array.getElem?_eq_some_iff.1 this).1
 lt:=by
  rintro h cs x f ⟨b,cap,cur,f1,f2,p,c0,q,rfl,h1,rfl,h2,h3,h4,h5,h6⟩ i hi
  rcases List.mem_cons.1 hi with rfl | hi
  ·exact (Array.getElem?_eq_some_iff.1 h1).1
  ·exact h5 i hi
theorem FB {α:Type} {e:TI} {E:ai α} {v u:Value} {xs:List α} {f:LN} {j:Int} {z:α} (h1:E.size=1) (hO:(aJ e E).rep w.heap [v] xs f) (hz:xs[j.toNat]? = some z) (hu:w.cell? (cy v 1 j)=some u) :
  ∃ k g,E.rep w.heap [u] z k∧(k++g).Perm f∧(th e E j.toNat).rep w.heap [v] xs g:=by
 obtain ⟨base,cap,hv,hr⟩:=hO
 obtain rfl:v = .slice base xs.length cap:=by simpa using hv
 have av:j.toNat < xs.length:=(List.getElem?_eq_some_iff.1 hz).1
 rcases hr with ⟨_,_,rfl,_⟩ | ⟨b,cur,f0,rfl,hg,rfl,zt,zJ,wL,dq⟩
 ·simp at av
 ·rw [h1,Nat.mul_one] at wL dq
  have vG:cy (.slice (some ⟨b,0,none⟩) xs.length cap) 1 j = ⟨b,j.toNat,none⟩:=by
   simp only [cy,jg,Nat.zero_add,Nat.mul_one]
  rw [vG,cell_of_row w b _ cur e _ hg] at hu
  have NB:∀ i∈f0,i < w.heap.size:=mc dq
  obtain ⟨c,g0,g1,g2,p,q,Co,hc,hp,zu,s6⟩:=yk j.toNat z dq hz
  subst Co
  rw [h1,Nat.mul_one] at hp
  have Cp:c.length=1:=by rw [E.len zu,h1]
  obtain ⟨c0,rfl⟩ : ∃ c0,c=[c0]:=by match c,Cp with | [c0],_=>exact ⟨c0,rfl⟩
  have HY:c0=u:=by
   have h2:(cur.toList.take xs.length)[j.toNat]? = some c0:=by
    rw [hc,List.append_assoc,List.getElem?_append_right (by omega),hp,Nat.sub_self]; rfl
   rw [List.getElem?_take,if_pos av,Array.getElem?_toList,hu] at h2
   exact (Option.some.inj h2).symm
  subst HY
  refine ⟨g1,b :: (g0++g2),zu,?_,b,cap,cur,g0,g2,p,c0,q,rfl,hg,rfl,⟨zt,zJ,wL,h1⟩,hc,⟨hp,av⟩,fun i hi=>NB i (by rcases List.mem_append.1 hi with hi | hi <;> simp [hi]),fun h' bz u z' k' hr=>s6 h' [u] z' k' (fun i hi=>bz i (by simp [hi])) (fun i hi=>bz i (by simp [hi])) hr⟩
  refine (List.perm_append_comm (l₁:=g1) (l₂:=b :: (g0++g2))).trans ?_
  rw [List.cons_append]
  refine List.Perm.cons b ?_
  rw [List.append_assoc,List.append_assoc]
  exact List.Perm.append_left g0 List.perm_append_comm
end
structure iw where
 j:Nat
 d:Nat
 src:List Nat
 V:Type
 rt:Value→V→Value
 ps:Value→V→List ay
abbrev MM:=List iw
def o6:List iw→Type
 | []=>Unit
 | a :: l=>a.V×o6 l
def zP (f:NV):List Nat→Value
 | []=>undef
 | [t]=>f t
 | ts=>.tuple (ts.map f).toArray
def wX (f:Fr) (t:Nat):Value:=match look f t with
 | some v=>v
 | none=>undef
def xr (a:iw) (r:NV):Value:=zP r a.src
def zQ (a:iw) (f:Fr):Value:=zP (wX f) a.src
theorem AU {f g:NV}:∀ {ts:LN},(∀ t∈ts,f t=g t)→zP f ts=zP g ts:=by
 intro ts h
 match ts,h with
 | [],_=>rfl
 | [t],h=>exact h t (by simp)
 | t :: s :: ts,h=>
  show Value.tuple (List.map f (t :: s :: ts)).toArray=Value.tuple (List.map g (t :: s :: ts)).toArray
  rw [List.map_congr_left h]
def mF:(ms:MM)→o6 ms→Fr
 | [],_=>[]
 | a :: l,x=>(a.d,a.rt (zQ a (mF l x.2)) x.1) :: mF l x.2
def BS:(ms:MM)→o6 ms→List ay
 | [],_=>[]
 | a :: l,x=>a.ps (zQ a (mF l x.2)) x.1++BS l x.2
def n8 (A:LN):(ms:MM)→o6 ms→Fr
 | [],_=>[]
 | a :: l,x=>bif jh a.j A then (a.d,a.rt (zQ a (mF l x.2)) x.1) :: n8 A l x.2 else n8 A l x.2
def qP (A:LN):(ms:MM)→o6 ms→List ay
 | [],_=>[]
 | a :: l,x=>bif jh a.j A then a.ps (zQ a (mF l x.2)) x.1++qP A l x.2 else qP A l x.2
def rz (t:Nat):List iw→Option Nat
 | []=>none
 | a :: l=>bif Nat.beq t a.d then some a.j else rz t l
def yx (ms:MM):List (Nat×Operand)→List Nat
 | []=>[]
 | (_,.tmp s) :: l=>match rz s ms with
  | some _=>s :: yx ms l
  | none=>yx ms l
 | _ :: l=>yx ms l
def XR (s:Nat):List Nat→Option Nat
 | []=>none
 | t :: l=>bif Nat.beq s t then some 0 else (XR s l).map (·+1)
def Zs (v:Value) (k:Nat):Value:=match v with
 | .tuple vs=>vs.toList.getD k undef
 | _=>undef
def Zt (f:Fr) (ts:LN) (u:Value):Operand→Value
 | .tmp s=>match XR s ts with
  | some k=>(match ts with
   | [_]=>u
   | _=>Zs u k)
  | none=>wX f s
 | x=>match bp f x with
  | some v=>v
  | none=>undef
def WZ (k:Nat) (v:Value):List Value:=bif Nat.beq k 1 then [v] else match v with
 | .agg cs=>cs.toList
 | _=>[]
def Qc (pl:List (Nat×Nat)):List (Nat×Value)→List Value→List Value
 | [],cs=>cs
 | (i,v) :: l,cs=>match E9 pl i with
  | some (off,k)=>Qc pl l (cs.take off++WZ k v++cs.drop (off+k))
  | none=>cs
def SR (pl:List (Nat×Nat)) (f:Fr) (ts:LN) (ps:List (Nat×Operand)) (zc:LV) (u:Value):List Value:=Qc pl (ps.map fun p=>(p.1,Zt f ts u p.2)) zc
def XS (A:LN) (ms:MM) (ts:LN):Bool:=ts.all fun t=>match rz t ms with
 | some j=>jh j A
 | none=>false
def qQ (A:LN):List iw→Bool
 | []=>true
 | a :: l=>(bif jh a.j A then a.src.all (fun t=>match rz t l with
   | some j=>jh j A
   | none=>false) else true) && qQ A l
def zR:List iw→Bool
 | []=>true
 | a :: l=>a.src.all (fun t=>(rz t l).isSome) && zR l
theorem FC {A:LN} {r:NV} {t:Nat}:∀ {ms:MM} {x:o6 ms} {j:Nat},rz t ms=some j→jh j A=true→(∀ p∈n8 A ms x,r p.1=p.2)→look (mF ms x) t=some (r t):=by
 intro ms
 induction ms with
 | nil=>intro x j h; cases h
 | cons a l ih=>
  intro x j h hj hp
  unfold rz at h
  unfold mF look
  cases hb:Nat.beq t a.d with
  | true=>
   rw [hb] at h
   cases h
   have:=hp (a.d,a.rt (zQ a (mF l x.2)) x.1) (by unfold n8; rw [hj]; simp)
   simp only [cond_true]
   rw [Nat.eq_of_beq_eq_true hb,this]
  | false=>
   rw [hb] at h
   refine ih h hj fun p hm=>hp p ?_
   unfold n8
   cases jh a.j A with
   | true=>exact List.mem_cons_of_mem _ hm
   | false=>exact hm
theorem NT {r:NV} {t:Nat}:∀ {ms:MM} {x:o6 ms},(rz t ms).isSome=true→(∀ p∈mF ms x,r p.1=p.2)→look (mF ms x) t=some (r t):=by
 intro ms
 induction ms with
 | nil=>intro x h; cases h
 | cons a l ih=>
  intro x h hp
  unfold rz at h
  unfold mF at hp ⊢
  unfold look
  cases hb:Nat.beq t a.d with
  | true=>
   simp only [cond_true]
   rw [Nat.eq_of_beq_eq_true hb,hp (a.d,a.rt (zQ a (mF l x.2)) x.1) (by simp)]
  | false=>
   rw [hb] at h
   exact ih h fun p hm=>hp p (List.mem_cons_of_mem _ hm)
def HN (N:Nat→Prop) (w:World) (Δ:QE) (f:LN):Prop:=HL (fun _=>False) w Δ f∨∃ Fo Fr,f=Fo++Fr∧(rj Δ=false∧∀ b∈Fr,b < w.heap.size)∧HL (fun b=>N b∨b∈Fr) w Δ Fo
def Lf (N:Nat→Prop) (a:iw):List Nat→World→(Nat→Value)→Value→Prop:=fun f w r _=>∃ v:a.V,r a.d=a.rt (xr a r) v∧HN N w (a.ps (xr a r) v) f∧f.Nodup
def MV (N:Nat→Prop) (a:iw):List Nat→World→(Nat→Value)→Value→Prop:=fun f w r x=>∃ v:a.V,x=a.rt (xr a r) v∧HN N w (a.ps (xr a r) v) f∧f.Nodup
def Qd (N:Nat→Prop) (a:LN) (l:LO) (s:ir):Prop:=∀ f F (w w':World) (r r':NV) v,ao F w w'→(∀ b∈f,b ∉ F)→(∀ b∈F,¬ N b)→(∀ j∈a,∀ t,bw l j=some t→r' t=r t)→s.V f w r v→s.V f w' r' v
theorem FD.n {N:Nat→Prop} {a:LN} {l:LO} {s:ir} (h:FD a l s):Qd N a l s:=fun f F w w' r r' v hC hn _=>h f F w w' r r' v hC hn
section
variable {P:Program} {w w':World} {Z:Nat→Prop}
theorem HL.W0 {F H:LN} {Δ:QE} (h:HL (fun _=>False) w Δ F) (hC:ao H w w') (hd:∀ b∈F,b ∉ H):HL (fun _=>False) w' Δ F:=by
 induction h with
 | nil=>exact .nil
 | @own e f F Δ h _ ih=>exact .own (h.ee hC (fun _ _ h=>h) fun b hb hm=>hd b (List.mem_append_left _ hm) hb) (ih fun b hb=>hd b (List.mem_append_right _ hb))
 | @fact e F Δ h _ ih=>
  refine .fact ?_ (ih hd)
  cases e with
  | rd o T v x=>
   obtain ⟨g,h1,h2⟩:=h
   have hg:g=[]:=by
    cases g with
    | nil=>rfl
    | cons b g=>exact absurd (h2 b (by simp)) (by cases o <;> simp [sZ])
   subst hg
   exact ⟨[],T.ee h1 hC (fun _ h=>absurd h List.not_mem_nil),fun _ h=>absurd h List.not_mem_nil⟩
  | ad o1 o2 v j T x=>obtain ⟨_,_,u,g,_,_,h3,_⟩:=h; exact absurd h3 (by cases o1 <;> simp [sZ])
  | bn p cs=>
   have hc:cs=[]:=by
    cases cs with
    | nil=>rfl
    | cons c cs=>exact (h.2 (by simp)).elim
   subst hc
   exact ⟨fun j u hj=>by simp at hj,fun hn=>absurd rfl hn⟩
  | hd v j u=>exact absurd h.2.2.2 List.not_mem_nil
  | _=>exact h.elim
theorem HL.W1 {F H:LN} {Δ:QE} (h:HL Z w Δ F) (hC:ao H w w') (hz:∀ b∈H,¬ Z b) (hd:∀ b∈F,b ∉ H):HL Z w' Δ F:=by
 induction h with
 | nil=>exact .nil
 | @own e f F Δ h _ ih=>exact .own (h.ee hC hz fun b hb hm=>hd b (List.mem_append_left _ hm) hb) (ih fun b hb=>hd b (List.mem_append_right _ hb))
 | @fact e F Δ h _ ih=>exact .fact (h.ee hC hz fun _ _ h=>nomatch h) (ih hd)
theorem HN.ee {N:Nat→Prop} {f H:LN} {Δ:QE} (h:HN N w Δ f) (hC:ao H w w') (hd:∀ b∈f,b ∉ H) (hz:∀ b∈H,¬ N b):HN N w' Δ f:=by
 rcases h with h | ⟨Fo,Fr,rfl,h1,h2⟩
 ·exact .inl (h.W0 hC hd)
 ·exact .inr ⟨Fo,Fr,rfl,⟨h1.1,fun b hb=>Nat.lt_of_lt_of_le (h1.2 b hb) hC.size⟩,h2.W1 hC (fun b hb h=>h.elim (hz b hb) fun h=>hd b (List.mem_append_right _ h) hb) fun b hb=>hd b (List.mem_append_left _ hb)⟩
theorem HN.own {N:Nat→Prop} {f:LN} {Δ:QE} (h:HN N w Δ f) (ho:rj Δ=true):HL (fun _=>False) w Δ f:=by
 rcases h with h | ⟨_,_,_,h1,_⟩
 ·exact h
 ·rw [ho] at h1; cases h1.1
theorem HN.all {N:Nat→Prop} {f:LN} {Δ:QE} (h:HN N w Δ f):∃ Fo Fr,f=Fo++Fr∧(∀ b∈Fr,b < w.heap.size)∧HL (fun b=>N b∨b∈Fr) w Δ Fo:=by
 rcases h with h | ⟨Fo,Fr,rfl,h1,h2⟩
 ·exact ⟨f,[],by simp,fun b (h:b∈[])=>absurd h List.not_mem_nil,h.mono fun _ h=>h.elim⟩
 ·exact ⟨Fo,Fr,rfl,h1.2,h2⟩
theorem HL.up {F:LN} {Δ:QE} (h:HL (fun _=>False) w Δ F):HL Z w Δ F:=by
 induction h with
 | nil=>exact .nil
 | own h _ ih=>exact .own (h.mono fun _ h=>h.elim) ih
 | fact h _ ih=>exact .fact (h.mono (fun _ h=>h.elim) fun _ h=>h) ih
theorem HL.app {Δ Δ':QE} {F F':LN} (h:HL Z w Δ F) (k:HL Z w Δ' F'):HL Z w (Δ++Δ') (F++F'):=by
 induction h with
 | nil=>exact k
 | own h _ ih=>rw [List.append_assoc]; exact .own h ih
 | fact h _ ih=>exact .fact h ih
theorem Il {a:iw} {r r':NV} (h:∀ t∈a.src,r' t=r t):xr a r'=xr a r:=AU h
theorem Lh {l:LO} {a:LN} {b:Bool} {m:iw} (hs:∀ t∈m.src,∃ j∈a,bw l j=some t):Qd Z a l ⟨b,MV Z m⟩:=by
 intro f F w w' r r' x hC hn hz hr ⟨v,h1,h2,h3⟩
 have e:=Il (a:=m) (r:=r) (r':=r') fun t ht=>by
  obtain ⟨j,hj,hd⟩:=hs t ht
  exact hr j hj t hd
 refine ⟨v,by rw [e]; exact h1,by rw [e]; exact h2.ee hC hn hz,h3⟩
theorem Jo {l:LO} {a:LN} {b:Bool} {m:iw} (hd:∃ j∈a,bw l j=some m.d) (hs:∀ t∈m.src,∃ j∈a,bw l j=some t):Qd Z a l ⟨b,Lf Z m⟩:=by
 intro f F w w' r r' x hC hn hz hr ⟨v,h1,h2,h3⟩
 have e:=Il (a:=m) (r:=r) (r':=r') fun t ht=>by
  obtain ⟨j,hj,hd⟩:=hs t ht
  exact hr j hj t hd
 obtain ⟨j,hj,hjd⟩:=hd
 refine ⟨v,by rw [e,hr j hj _ hjd]; exact h1,by rw [e]; exact h2.ee hC hn hz,h3⟩
theorem kh.more {l:LO} {m i:Nat} {U:LL} {S S':List ir} {r0:NV} {w0:World} {H:LN} (h:kh P l m S U r0 w0 H i) (hi:i < S.length):kh P l m (S++S') U r0 w0 H i:=by
 intro o s ho hs g r w hC hV hO hn lr hd hf
 rw [List.getElem?_append_left hi] at hs
 refine h o s ho hs g r w hC hV (fun j hj d j6 s' fc=>hO j hj d j6 s' (by rw [List.getElem?_append_left (List.getElem?_eq_some_iff.1 fc).1]; exact fc)) (fun j hj=>?_) lr hd hf
 have:=hn j hj
 refine ⟨fun d j6=>?_,fun j6 s' fc bz=>?_⟩
 ·have h2:=this.1 d j6
  by_cases hl:j < S.length
  ·rw [List.getElem?_append_left hl] at h2; exact h2
  ·rw [List.getElem?_eq_none (by omega)]; trivial
 ·exact this.2 j6 s' (by rw [List.getElem?_append_left (List.getElem?_eq_some_iff.1 fc).1]; exact fc) bz
end
inductive cL (A:LN):Option (Bool×Nat×Value)→List (Nat×Nat×Value)→Fr→Fr→Prop
 | nil {base:Fr}:cL A none [] base base
 | cons {j d:Nat} {u:Value} {l:LQ} {base fr:Fr} (h:cL A (some (jh j A,d,u)) l base fr):cL A none ((j,d,u) :: l) base fr
 | ee {d:Nat} {u:Value} {l:LQ} {base fr:Fr} (h:cL A none l base fr):cL A (some (true,d,u)) l base ((d,u) :: fr)
 | drop {d:Nat} {u:Value} {l:LQ} {base fr:Fr} (h:cL A none l base fr):cL A (some (false,d,u)) l base fr
theorem s7.zL {Γ Γ':QE} {v:Addr} {o:Bool} {α:Type} {E:ai α} {x:α} {e:ay} (h:s7 Γ v o E x e Γ') {Z:Nat→Prop} {w:World}:∀ {cur F:LN},SA Z w Γ cur F→(v.block∈cur∨v.block∈F)∨Z v.block:=by
 induction h with
 | @ad o1 o2 α E v j x e Γ=>
  intro cur F hS
  obtain ⟨⟨j0,j1,u,g,h1,h2,h3,h4⟩,h5⟩:=hS
  cases o1 with
  | false=>exact .inr h3
  | true=>exact .inl (.inl h3)
 | @there o2 α E v x e a Γ Γ' h ih=>
  intro cur F hS
  cases a with
  | own T v x=>obtain ⟨f,F',rfl,h2,h3⟩:=hS; exact (ih h3).imp (fun h=>.inr (List.mem_append.2 h)) id
  | om e E v xs=>obtain ⟨f,F',rfl,h2,h3⟩:=hS; exact (ih h3).imp (fun h=>.inr (List.mem_append.2 h)) id
  | row b cs e=>obtain ⟨f,F',rfl,h2,h3⟩:=hS; exact (ih h3).imp (fun h=>h.imp id (List.mem_append_right _)) id
  | gv e E v xs j u=>obtain ⟨f,F',rfl,h2,h3⟩:=hS; exact (ih h3).imp (fun h=>.inr (List.mem_append.2 h)) id
  | _=>exact ih hS.2
inductive VQ (P:Program) (Γ:QE) (fr:Fr):Op→Value→Prop
 | mv {x:OO} {v:Value} (hx:bp fr x=some v):VQ P Γ fr (.move x) v
 | add {x y:OO} {t t':TI} {a b:Int} (hx:bp fr x=some (.int .i64 a)) (hy:bp fr y=some (.int .i64 b)):VQ P Γ fr (.binOp .add t x y t') (.int .i64 (ak (a+b)))
 | sub {x y:OO} {t t':TI} {a b:Int} (hx:bp fr x=some (.int .i64 a)) (hy:bp fr y=some (.int .i64 b)):VQ P Γ fr (.binOp .sub t x y t') (.int .i64 (ak (a - b)))
 | NL {x:OO} {a:Addr} (hx:bp fr x=some (.pointer (some a))):VQ P Γ fr (.nilCheck x) (.pointer (some a))
 | Ss {s k off:Nat} {x:OO} {a a':Addr} [hf:uB P s k off] (hx:bp fr x=some (.pointer (some a))) (ha:BR a off a'):VQ P Γ fr (.fieldAddr s x k) (.pointer (some a'))
 | len {x:OO} {v:Value} {t:TI} {n:Nat} [ht:vf P t] (hx:bp fr x=some v) (hr:tW Γ v n):VQ P Γ fr (.call ⟨.builtin .len,#[x],#[t]⟩) (.int .i64 (n:Int))
 | Qa {t:TI} {ps:List (Nat×Operand)} {zc cs:LV} {pl:List (Nat×Nat)} [hb:Cs P t zc pl] (hf:vl Γ fr pl ps zc cs):VQ P Γ fr (.build t ps.toArray) (.agg cs.toArray)
 | SC {x:OO} {k k2:IntKind} {n:Int} {s t:TI} [ht:Ih P s t k2] (hx:bp fr x=some (.int k n)):VQ P Γ fr (.convert s t x) (.int k2 (k2.wrap n))
 | mul {x y:OO} {t t':TI} {a b:Int} (hx:bp fr x=some (.int .i64 a)) (hy:bp fr y=some (.int .i64 b)):VQ P Γ fr (.binOp .mul t x y t') (.int .i64 (ak (a * b)))
 | Qb {κ υ:Type} {x y:OO} {v:Value} {t:TI} {bq:BEq κ} {ek:κ→Value} {eu:υ→Value} {xs:List (κ×υ)} {a:κ} {z0:υ} [ht:Fa P t κ υ bq ek eu] [hz:P8 P t υ eu z0] (hx:bp fr x=some v) (hy:bp fr y=some (ek a)) (hr:Bt ek eu Γ v xs):VQ P Γ fr (.lookup t x y false) (eu ((ie xs a).getD z0))
theorem VQ.sound {P:Program} {Γ:QE} {fr:Fr} {op:Op} {u:Value} (h:VQ P Γ fr op u) {Z:Nat→Prop} {w:World} {cur F:LN} (hS:SA Z w Γ cur F) {r:NV} (ha:cw r fr) (d:Option Nat) (ty:TI) (pos:String) (ah:Array Edge) (g:Option (Nat×Bool)) :
  Rd P w r ⟨d,op,ty,pos,ah,g⟩ u:=by
 cases h with
 | mv hx=>exact Mv _ (aR ha hx)
 | add hx hy=>exact Ba (aR ha hx) (aR ha hy)
 | sub hx hy=>exact Go.Li.Bs (aR ha hx) (aR ha hy)
 | NL hx=>exact Nk (aR ha hx)
 | @Ss s k off x a a' hf hx hq=>rw [hq.eq]; exact Fp hf.h (aR ha hx)
 | @SC x k k2 n s t ht hx=>exact fun _ _=>Ik ht.h.1 ht.h.2 (aR ha hx)
 | mul hx hy=>exact Bm (aR ha hx) (aR ha hy)
 | @len x v t n ht hx hr=>
  obtain ⟨b,c,rfl⟩:=hr.sound hS
  obtain ⟨e,i,h1,_,_⟩:=ht.h
  exact fun _ _=>vI h1 (aR ha hx)
 | @Qb κ υ x y v t bq ek eu xs a z0 ht hz hx hy hr=>
  obtain ⟨f,hm⟩:=hr.sound hS
  obtain ⟨kt,vt,kd,h1,h2,h3⟩:=ht.h
  obtain ⟨kt',vt',i,g1,g2,g3⟩:=hz.h
  rw [h1] at g1
  cases g1
  exact fun w' hC=>Jq (ek:=ek) (qV:=eu) h3 h1 h2 g2 g3 (by rw [aR ha hx]; exact ai.ee _ hm hC fun _ _=>List.not_mem_nil) (aR ha hy)
 | @Qa t ps zc cs pl hb hf=>
  obtain ⟨fs,i,z,h1,h2,h3,h4,h5⟩:=hb.h
  refine Bu ?_
  have:=hf.fill ha hS
  unfold Program.built
  rw [h3,h1]
  simp only [h4,h2]
  rw [show z.cells=zc.toArray by rw [← h5]]
  exact this
theorem cL.sound {A:LN} {q:Option (Bool×Nat×Value)} {sl:LQ} {base fr:Fr} {r:NV} (h:cL A q sl base fr) (hb:cw r base) :
  (∀ p∈sl,jh p.1 A=true→r p.2.1=p.2.2)→(∀ b d u,q=some (b,d,u)→b=true→r d=u)→cw r fr:=by
 induction h with
 | nil=>intro _ _; exact hb
 | @cons j d u l base fr _ ih=>
  intro h1 _
  refine ih hb (fun p hp=>h1 p (by simp [hp])) ?_
  rintro b d' u' he hbt
  cases he
  exact h1 (j,d,u) (by simp) hbt
 | @ee d u l base fr _ ih=>
  intro h1 h2
  intro s v hl
  unfold look at hl
  cases FG:Nat.beq s d with
  | true=>rw [FG] at hl; cases hl; rw [Nat.eq_of_beq_eq_true FG]; exact h2 true d _ rfl rfl
  | false=>rw [FG] at hl; exact ih hb h1 (fun _ _ _ h=>nomatch h) s v hl
 | drop _ ih=>intro h1 _; exact ih hb h1 (fun _ _ _ h=>nomatch h)
def yy:List (Nat×Nat×Value)→Fr→Fr
 | [],f=>f
 | (_,d,u) :: l,f=>(d,u) :: yy l f
inductive Jr (P:Program) (f:FuncId) (xs:List Operand) (fr:Fr) (Γ:QE) {β V:Type} (mo:Option β) (rt:β→V→List Value) (ps:β→V→List ay):Prop
 | mk {vs:LV} {Δ:QE} (hx:vF fr xs=some vs) (hc:Ct P f true mo vs Δ rt ps) (hd:FO Δ) (hr:ER true Γ Δ):Jr P f xs fr Γ mo rt ps
inductive XT (P:Program) (f:FuncId):Prop
 | mk [h:bu P f]:XT P f
inductive Js (P:Program) (f:FuncId) (as bs:LV) (xs:List Operand) (fr:Fr) (Γ:QE) {β V:Type} (mo:Option β) (rt:β→V→List Value) (ps:β→V→List ay):Prop
 | mk {vs us ws:LV} {Δ:QE} (hx:vF fr xs=some vs) (h1:l3 vs bs us) (h2:l3 as us ws) (hc:Ct P f true mo ws Δ rt ps) (hd:FO Δ) (hr:ER true Γ Δ):Js P f as bs xs fr Γ mo rt ps
inductive CC (P:Program) (f:FuncId) (xs:List Operand) (fr:Fr) (hd:QE) (Γ:QE) {β V:Type} (mo:Option β) (rt:β→V→List Value) (ps:β→V→List ay):Prop
 | mk {vs:LV} {Δ Γ':QE} (hx:vF fr xs=some vs) (hc:Ct P f true mo vs Δ rt ps) (ho:EO hd Δ Γ') (hr:ER true Γ Δ):CC P f xs fr hd Γ mo rt ps
inductive pX:List iw→Prop
 | nil:pX []
 | cons {a:iw} {l:MM} (h:Cv a.V) (k:pX l):pX (a :: l)
theorem pX.ne {ms:MM} (h:pX ms):Nonempty (o6 ms):=by
 induction h with
 | nil=>exact ⟨()⟩
 | cons h _ ih=>obtain ⟨a⟩:=h.ne; obtain ⟨b⟩:=ih; exact ⟨(a,b)⟩
inductive Eh:List iw→Nat→Bool→Prop
 | here {a:iw} {l:MM}:Eh (a :: l) a.d true
 | there {a:iw} {l:MM} {t:Nat} {b:Bool} (h:Eh l t b):Eh (a :: l) t b
 | nil {t:Nat}:Eh [] t false
inductive SS (fr:Fr) (t off:Nat):Prop
 | mk {cs:LV} {v:Value} (h:look fr t=some (.agg cs.toArray)) (hc:cs[off]? = some v):SS fr t off
inductive SU (fr:Fr) (Γ:QE) (t n:Nat):Prop
 | mk {v:Value} (h:look fr t=some v) (hc:tW Γ v n):SU fr Γ t n
inductive JA (R S:Type):Type 1
 | a (as:LL) (ops:LO) (i:Nat) (sl:LQ) (ms:MM) (Γ:QE) (m:Option (Out S R))
 | o (A:LN) (op:Op) (d:Nat) (ty:TI) (as:LL) (ops:LO) (i:Nat) (sl:LQ) (ms:MM) (Γ:QE) (m:Option (Out S R))
 | ow (b:Bool) (A:LN) (op:Op) (d:Nat) (ty:TI) (as:LL) (ops:LO) (i:Nat) (sl:LQ) (ms:MM) (Γ:QE) (m:Option (Out S R))
 | ix (b:Bool) (v:Value) (fr:Fr) (x y:OO) (t:TI) (A:LN) (d:Nat) (ty:TI) (as:LL) (ops:LO) (i:Nat) (sl:LQ) (ms:MM) (Γ:QE) (m:Option (Out S R))
 | lb (b:Bool) (v:Value) (j:Int) (fr:Fr) (t:TI) (x:OO) (A:LN) (d:Nat) (ty:TI) (as:LL) (ops:LO) (i:Nat) (sl:LQ) (ms:MM) (Γ:QE) (m:Option (Out S R))
 | ap (us:LN) (t1 t2:Nat) (t:TI) (A:LN) (d:Nat) (ty:TI) (as:LL) (ops:LO) (i:Nat) (sl:LQ) (ms:MM) (Γ:QE) (m:Option (Out S R))
 | la (fr:Fr) (ad:Addr) (lk:Option Nat) (t:TI) (x:OO) (A:LN) (d:Nat) (ty:TI) (as:LL) (ops:LO) (i:Nat) (sl:LQ) (ms:MM) (Γ:QE) (m:Option (Out S R))
 | ld {α:Type} (E:ai α) (z:α) (fr:Fr) (ad:Addr) (t:TI) (x:OO) (A:LN) (d:Nat) (ty:TI) (as:LL) (ops:LO) (i:Nat) (sl:LQ) (ms:MM) (Γ:QE) (m:Option (Out S R))
 | oc (us:LN) (f:FuncId) (xs:List Operand) (bn:Array TypeId) (A:LN) (d:Nat) (ty:TI) (as:LL) (ops:LO) (i:Nat) (sl:LQ) (ms:MM) (Γ:QE) (m:Option (Out S R))
 | os (A:LN) (op:Op) (ty:TI) (as:LL) (ops:LO) (i:Nat) (sl:LQ) (ms:MM) (Γ:QE) (m:Option (Out S R))
 | cr {V:Type} (u:V→Value) (ps:V→List ay) (d:Nat) (as:LL) (ops:LO) (i:Nat) (sl:LQ) (ms:MM) (Γ:QE) (m:Option (Out S R))
 | p (Δ:QE) (as:LL) (ops:LO) (i:Nat) (sl:LQ) (ms:MM) (Γ:QE) (m:Option (Out S R))
inductive Im:List ay→Value→Bool→Prop
 | here {α:Type} {T:ai α} {v:Value} {x:α} {Γ:QE}:Im (.own T v x :: Γ) v true
 | there {e:ay} {v:Value} {b:Bool} {Γ:QE} (h:Im Γ v b):Im (e :: Γ) v b
 | nil {v:Value}:Im [] v false
inductive uc:List iw→Nat→iw→List iw→Prop
 | here {a:iw} {l:MM}:uc (a :: l) a.d a l
 | there {a b:iw} {l l':MM} {t:Nat} (h:uc l t a l'):uc (b :: l) t a (b :: l')
inductive BT:List iw→Nat→iw→List iw→Prop
 | here {a:iw} {l:MM}:BT (a :: l) a.j a l
 | there {a b:iw} {l l':MM} {t:Nat} (h:BT l t a l'):BT (b :: l) t a (b :: l')
def NU (j i:Nat) (sl:LQ):List (Nat×Nat×Value):=sl.map fun p=>bif Nat.beq p.1 j then (i,p.2) else p
def Jt (sl:LQ) (j d:Nat) (b:Bool):Bool:=sl.any fun q=>Nat.beq q.1 j && (Nat.beq q.2.1 d && (match q.2.2 with | .bool c=>(bif b then c else !c) | _=>false))
theorem Lj {sl:LQ} {j d:Nat} {b:Bool} (h:Jt sl j d b=true):(j,d,.bool b)∈sl:=by
 unfold Jt at h
 rw [List.any_eq_true] at h
 obtain ⟨⟨j',d',v⟩,hq,h⟩:=h
 rw [Bool.and_eq_true,Bool.and_eq_true] at h
 obtain ⟨h1,h2,h3⟩:=h
 obtain rfl:j'=j:=Nat.eq_of_beq_eq_true h1
 obtain rfl:d'=d:=Nat.eq_of_beq_eq_true h2
 cases v with
 | bool c=>cases b <;> cases c <;> first | exact hq | (cases h3; done)
 | _=>cases h3
def W2 (sl:LQ):List Nat→Bool
 | [j,d,b]=>Jt sl (j - 1000000) (d - 1000000) (Nat.beq b 1000001)
 | _=>true
def gdB (U:LL) (sl:LQ):Bool:=bif Nat.ble 1000000 ((U.getLastD []).headD 0) then W2 sl (U.getLastD []) else true
def BU (U:LL) (sl:LQ) (ms:MM):Bool:=(U.all fun us=>us.all fun j=>ms.all fun a=>!Nat.beq a.j j) && gdB U sl
inductive AD {R S:Type} (tq:Bool) (P:Program) (cx:Cx R) (K:dk R S) (l tail:LO) (base:Fr) (U:LL):List ay→JA R S→Prop
 | nil {hd:QE} {i:Nat} {sl:LQ} {ms:MM} {Γ:QE} {m:Option (Out S R)} (BV:zR ms=true) (he:BU U sl ms=true) (h:∀ x:o6 ms,D P cx (.p (yy sl (mF ms x)) (BS ms x) base Γ fun fr Γ=>.tg tq (zM tail) l tail K Γ fr m)):AD tq P cx K l tail base U hd (.a [] [] i sl ms Γ m)
 | cons {hd:QE} {A:LN} {as:LL} {op:Op} {d:Nat} {ty:TI} {pos:String} {ah:Array Edge} {ops:LO} {i:Nat} {sl:LQ} {ms:MM} {Γ:QE} {m:Option (Out S R)} (h:AD tq P cx K l tail base U hd (.o A op d ty as ops i sl ms Γ m)) :
   AD tq P cx K l tail base U hd (.a (A :: as) (⟨some d,op,ty,pos,ah,none⟩ :: ops) i sl ms Γ m)
 | Ju {hd:QE} {A:LN} {as:LL} {op:Op} {ty:TI} {pos:String} {ah:Array Edge} {ops:LO} {i:Nat} {sl:LQ} {ms:MM} {Γ:QE} {m:Option (Out S R)} (h:AD tq P cx K l tail base U hd (.os A op ty as ops i sl ms Γ m)) :
   AD tq P cx K l tail base U hd (.a (A :: as) (⟨none,op,ty,pos,ah,none⟩ :: ops) i sl ms Γ m)
 | SB {hd:QE} {t e:TI} {t1 j1 n:Nat} {y:OO} {u:Value} {us cs ds:LV} {o7:MM} {fr:Fr} {A:LN} {as:LL} {ty:TI} {ops:LO} {i:Nat} {sl:LQ} {ms:MM} {Γ:QE} {m:Option (Out S R)} [ht:wS P t n]
   (h1:uc ms t1 ⟨j1,t1,[],Nat,fun _ b=>.pointer (some ⟨b,0,none⟩),fun _ b=>[.row b cs e]⟩ o7) (hv:cL A none sl base fr) (hy:bp fr y=some u) (hc:rn Γ u us) (hn:us.length=n) (hs:sk us 0 cs ds) (ho:tT Γ us) (h4:jh j1 A=true) (h6:U.getD i []=[j1])
   (h:AD tq P cx K l tail base U hd (.a as ops (i+1) sl (⟨i,t1,[],Nat,fun _ b=>.pointer (some ⟨b,0,none⟩),fun _ b=>[.row b ds e]⟩ :: o7) Γ m)):AD tq P cx K l tail base U hd (.os A (.store t (.tmp t1) y) ty as ops i sl ms Γ m)
 | Ff {hd:QE} {α:Type} {A:LN} {as:LL} {d:Nat} {t e ty:TI} {E:ai α} {z0:α} {bt:Nat} {ops:LO} {i:Nat} {sl:LQ} {ms:MM} {Γ:QE} {m:Option (Out S R)} [hz:sH P t α e E z0 bt]
   (h:AD tq P cx K l tail base U hd (.a as ops (i+1) sl (⟨i,d,[],Value,fun _ v=>v,fun _ v=>[.own (aJ e E) v []]⟩ :: ms) Γ m)):AD tq P cx K l tail base U hd (.o A (.buildSlice t 0 #[]) d ty as ops i sl ms Γ m)
 | sw4 {hd:QE} {t st e:Nat} {α:Type} {E:ai α} {z0:α} {bt:Nat} {b:Bool} {A:LN} {as:LL} {d:Nat} {ty:TI} {ops:LO} {i:Nat} {sl:LQ} {ms:MM} {Γ:QE} {m:Option (Out S R)} [hz:sH P st α e E z0 bt] (hw:Eh ms t b) (h:AD tq P cx K l tail base U hd (.ow b A (.buildSlice st 1 #[(0,.tmp t)]) d ty as ops i sl ms Γ m)):AD tq P cx K l tail base U hd (.o A (.buildSlice st 1 #[(0,.tmp t)]) d ty as ops i sl ms Γ m)
 | ltn {hd:QE} {t e:TI} {n:Nat} {ps:List (Nat×Operand)} {us:LV} {fr:Fr} {A:LN} {as:LL} {d:Nat} {ty:TI} {ops:LO} {i:Nat} {sl:LQ} {ms:MM} {Γ:QE} {m:Option (Out S R)} [hz:KY P t e] (hv:cL A none sl base fr) (hl:tV Γ fr 0 ps us) (hn:us.length=n) (hb:(Nat.ble 1 n && Nat.ble n 16777216)=true)
   (h:AD tq P cx K l tail base U hd (.a as ops (i+1) sl (⟨i,d,[],Nat,fun _ b=>.slice (some ⟨b,0,none⟩) n n,fun _ b=>[.row b us e]⟩ :: ms) Γ m)):AD tq P cx K l tail base U hd (.o A (.buildSlice t n ps.toArray) d ty as ops i sl ms Γ m)
 | ltu {hd:QE} {t e:TI} {n:Nat} {ps:List (Nat×Operand)} {us:LV} {fr:Fr} {A:LN} {as:LL} {d:Nat} {ty:TI} {ops:LO} {i:Nat} {sl:LQ} {ms:MM} {Γ:QE} {m:Option (Out S R)} [hz:Ib P t e] (hv:cL A none sl base fr) (hl:tV Γ fr 0 ps us) (hn:us.length=n) (hb:(Nat.ble 1 n && Nat.ble n 16777216)=true)
   (h:AD tq P cx K l tail base U hd (.a as ops (i+1) sl (⟨i,d,[],Nat,fun _ b=>.slice (some ⟨b,0,none⟩) n n,fun _ b=>[.row b us e]⟩ :: ms) Γ m)):AD tq P cx K l tail base U hd (.o A (.buildSlice t n ps.toArray) d ty as ops i sl ms Γ m)
 | sw1 {hd:QE} {t:Nat} {b:Bool} {A:LN} {as:LL} {d:Nat} {ty:TI} {ops:LO} {i:Nat} {sl:LQ} {ms:MM} {Γ:QE} {m:Option (Out S R)} (hw:Eh ms t b) (h:AD tq P cx K l tail base U hd (.ow b A (.move (.tmp t)) d ty as ops i sl ms Γ m)):AD tq P cx K l tail base U hd (.o A (.move (.tmp t)) d ty as ops i sl ms Γ m)
 | sw3 {hd:QE} {s t k:Nat} {b:Bool} {A:LN} {as:LL} {d:Nat} {ty:TI} {ops:LO} {i:Nat} {sl:LQ} {ms:MM} {Γ:QE} {m:Option (Out S R)} (hw:Eh ms t b) (h:AD tq P cx K l tail base U hd (.ow b A (.field s (.tmp t) k) d ty as ops i sl ms Γ m)):AD tq P cx K l tail base U hd (.o A (.field s (.tmp t) k) d ty as ops i sl ms Γ m)
 | wlt {hd:QE} {t e:TI} {α:Type} {E:ai α} {z0:α} {bt:Nat} {u:Value} {x:OO} {fr:Fr} {A:LN} {as:LL} {d:Nat} {ty:TI} {ops:LO} {i:Nat} {sl:LQ} {ms:MM} {Γ:QE} {m:Option (Out S R)} [hz:sH P t α e E z0 bt] (hv:cL A none sl base fr) (hx:bp fr x=some u) (h1:One Γ u)
   (h:AD tq P cx K l tail base U hd (.a as ops (i+1) sl (⟨i,d,[],Nat,fun _ b=>.slice (some ⟨b,0,none⟩) 1 1,fun _ b=>[.row b [u] e]⟩ :: ms) Γ m)):AD tq P cx K l tail base U hd (.ow false A (.buildSlice t 1 #[(0,x)]) d ty as ops i sl ms Γ m)
 | sw5 {hd:QE} {t st:Nat} {b:Bool} {A:LN} {as:LL} {d:Nat} {ty:TI} {ops:LO} {i:Nat} {sl:LQ} {ms:MM} {Γ:QE} {m:Option (Out S R)} (hw:Eh ms t b) (h:AD tq P cx K l tail base U hd (.ow b A (.call ⟨.builtin .len,#[.tmp t],#[st]⟩) d ty as ops i sl ms Γ m)):AD tq P cx K l tail base U hd (.o A (.call ⟨.builtin .len,#[.tmp t],#[st]⟩) d ty as ops i sl ms Γ m)
 | mln {hd:QE} {t n:Nat} {st:TI} {A:LN} {as:LL} {d:Nat} {ty:TI} {ops:LO} {i:Nat} {sl:LQ} {ms:MM} {Γ:QE} {m:Option (Out S R)} [ht:vf P st] (hi:pX ms) (BV:qQ A ms=true) (hx:∀ x:o6 ms,SU (n8 A ms x) (qP A ms x) t n) (h:AD tq P cx K l tail base U hd (.a as ops (i+1) ((i,d,.int .i64 (n:Int)) :: sl) ms Γ m)):AD tq P cx K l tail base U hd (.ow true A (.call ⟨.builtin .len,#[.tmp t],#[st]⟩) d ty as ops i sl ms Γ m)
 | SV {hd:QE} {t:TI} {cs:LV} {A:LN} {as:LL} {d:Nat} {ty:TI} {ops:LO} {i:Nat} {sl:LQ} {ms:MM} {Γ:QE} {m:Option (Out S R)} [hz:Cr P t cs] (h:AD tq P cx K l tail base U hd (.a as ops (i+1) sl (⟨i,d,[],Nat,fun _ b=>.pointer (some ⟨b,0,none⟩),fun _ b=>[.row b cs t]⟩ :: ms) Γ m)):AD tq P cx K l tail base U hd (.o A (.alloc t) d ty as ops i sl ms Γ m)
 | Sz {hd:QE} {us:LN} {t1 t2:Nat} {t:TI} {A:LN} {as:LL} {d:Nat} {ty:TI} {ops:LO} {i:Nat} {sl:LQ} {ms:MM} {Γ:QE} {m:Option (Out S R)} (hU:U.getD i []=us) (h:AD tq P cx K l tail base U hd (.ap us t1 t2 t A d ty as ops i sl ms Γ m)):AD tq P cx K l tail base U hd (.o A (.call ⟨.builtin .append,#[.tmp t1,.tmp t2],#[t,t]⟩) d ty as ops i sl ms Γ m)
 | apH {hd j6:QE} {α:Type} {t e e' et:TI} {E E':ai α} {z0:α} {bt t1 t2 j2:Nat} {v u yv:Value} {j:Int} {y:α} {z:List α} {xs:List (List α)} {o1 o2:Bool} {Γx:QE} {FH:MM} {fr:Fr} {f:Unit→Option (Out S R)} {A:LN} {as:LL} {d:Nat} {ty:TI} {ops:LO} {i:Nat} {sl:LQ} {ms:MM} {Γ:QE} [hT:sH P t α e E z0 bt]
   (hV:((U.set i []).all fun us=>!(us.contains l.length))=true) (hv:cL A none sl base fr) (hs:look fr t1=some u) (h2:uc ms t2 ⟨j2,t2,[],Nat,fun _ b=>.slice (some ⟨b,0,none⟩) 1 1,fun _ b=>[.row b [yv] et]⟩ FH) (h5:jh j2 A=true) (hl:Loc hd u (.row v j)) (hz:p7 hd u o1 o2 E' z s8 Γx) (h1:ep hd (.own (aJ e' (aJ e E)) v xs) j6) (hr:RT (aJ e E) (bF E')) (hy:Br [] E yv y [])
   (h:AD tq P cx K l tail base U j6 (.a as ops (i+1) sl (⟨i,d,[],Value,fun _ v'=>v',fun _ v'=>[.own (aJ e E) v' (z++[y]),.own (th e' (aJ e E) j.toNat) v xs]⟩ :: ms) Γ (f ()))):AD tq P cx K l tail base U hd (.ap [l.length] t1 t2 t A d ty as ops i sl ms Γ (fits bt (z.length+1)>>=f))
 | ap1 {hd:QE} {us:LN} {t e et:TI} {E:ai Int} {z0:Int} {bt t1 t2 j2 d2:Nat} {k:IntKind} {y:Int} {xs:List Int} {a1:iw} {o7 FH:MM} {f:Unit→Option (Out S R)} {A:LN} {as:LL} {d:Nat} {ty:TI} {ops:LO} {i:Nat} {sl:LQ} {ms:MM} {Γ:QE} [hz:sH P t Int e E z0 bt] (h1:uc ms t1 a1 o7) (h2:uc o7 t2 ⟨j2,d2,[],Nat,fun _ b=>.slice (some ⟨b,0,none⟩) 1 1,fun _ b=>[.row b [.int k y] et]⟩ FH) (h3:∀ u v,a1.ps u v=[.own (aJ e (aM k)) (a1.rt u v) xs]) (hu:us=[a1.j]) (h4:jh a1.j A=true) (h5:jh j2 A=true)
   (h:AD tq P cx K l tail base U hd (.a as ops (i+1) sl (⟨i,d,[],Value,fun _ v=>v,fun _ v=>[.own (aJ e (aM k)) v (xs++[y])]⟩ :: o7) Γ (f ()))):AD tq P cx K l tail base U hd (.ap us t1 t2 t A d ty as ops i sl ms Γ (fits bt (xs.length+1)>>=f))
 | wv {hd:QE} {op:Op} {u:Value} {fr:Fr} {A:LN} {as:LL} {d:Nat} {ty:TI} {ops:LO} {i:Nat} {sl:LQ} {ms:MM} {Γ:QE} {m:Option (Out S R)} (hv:cL A none sl base fr) (hq:VQ P Γ fr op u) (h:AD tq P cx K l tail base U hd (.a as ops (i+1) ((i,d,u) :: sl) ms Γ m)):AD tq P cx K l tail base U hd (.ow false A op d ty as ops i sl ms Γ m)
 | mbl {hd:QE} {t:TI} {ps:List (Nat×Operand)} {zc:LV} {pl:List (Nat×Nat)} {fr:Fr} {A:LN} {as:LL} {d:Nat} {ty:TI} {ops:LO} {i:Nat} {sl:LQ} {ms:MM} {Γ:QE} {m:Option (Out S R)} [hb:Cs P t zc pl] (hi:pX ms) (BV:qQ A ms=true) (iv:(yx ms ps).isEmpty=false) (hj:XS A ms (yx ms ps)=true) (hv:cL A none sl base fr)
   (hx:∀ x:o6 ms,vl (qP A ms x++Γ) (n8 A ms x++fr) pl ps zc (SR pl fr (yx ms ps) ps zc (zP (wX (mF ms x)) (yx ms ps))))
   (h:AD tq P cx K l tail base U hd (.a as ops (i+1) sl (⟨i,d,yx ms ps,Unit,fun u _=>.agg (SR pl fr (yx ms ps) ps zc u).toArray,fun _ _=>[]⟩ :: ms) Γ m)):AD tq P cx K l tail base U hd (.o A (.build t ps.toArray) d ty as ops i sl ms Γ m)
 | mfd {hd:QE} {s t k off:Nat} {A:LN} {as:LL} {d:Nat} {ty:TI} {ops:LO} {i:Nat} {sl:LQ} {ms:MM} {Γ:QE} {m:Option (Out S R)} [hf:XK P s k off] (hi:pX ms) (BV:qQ A ms=true) (hj:∃ j,rz t ms=some j∧jh j A=true) (hx:∀ x:o6 ms,SS (n8 A ms x) t off) (h:AD tq P cx K l tail base U hd (.a as ops (i+1) sl (⟨i,d,[t],Unit,fun u _=>Jv u off,fun _ _=>[]⟩ :: ms) Γ m)):AD tq P cx K l tail base U hd (.ow true A (.field s (.tmp t) k) d ty as ops i sl ms Γ m)
 | mk {hd:QE} {t e:TI} {α:Type} {E:ai α} {z0:α} {bt:Nat} {x:OO} {z:Int} {fr:Fr} {f:Nat→Option (Out S R)} {A:LN} {as:LL} {d:Nat} {ty:TI} {ops:LO} {i:Nat} {sl:LQ} {ms:MM} {Γ:QE} [hz:sH P t α e E z0 bt] (hv:cL A none sl base fr) (hx:bp fr x=some (.int .i64 z))
   (h:∀ n,AD tq P cx K l tail base U hd (.a as ops (i+1) sl (⟨i,d,[],Value,fun _ v=>v,fun _ v=>[.own (aJ e E) v (List.replicate n z0)]⟩ :: ms) Γ (f n))):AD tq P cx K l tail base U hd (.o A (.makeSlice t x x) d ty as ops i sl ms Γ (mk bt z>>=f))
 | ixs {hd:QE} {b:Bool} {v:Value} {x y:OO} {t:TI} {fr:Fr} {A:LN} {as:LL} {d:Nat} {ty:TI} {ops:LO} {i:Nat} {sl:LQ} {ms:MM} {Γ:QE} {m:Option (Out S R)} (hv:cL A none sl base fr) (hx:bp fr x=some v) (hw:Im hd v b) (h:AD tq P cx K l tail base U hd (.ix b v fr x y t A d ty as ops i sl ms Γ m)):AD tq P cx K l tail base U hd (.o A (.indexAddr t x y) d ty as ops i sl ms Γ m)
 | idx {hd:QE} {α:Type} {A:LN} {as:LL} {d:Nat} {x y:OO} {v:Value} {k:IntKind} {j:Int} {t ty:TI} {o1 o2:Bool} {E:ai α} {xs:List α} {ops:LO} {i:Nat} {sl:LQ} {ms:MM} {fr:Fr} {Γ:QE} {Γ':α→List ay} {f:α→Option (Out S R)} [ht:vf P t]
   (hy:bp fr y=some (.int k j)) (hr:∀ z,p7 Γ v o1 o2 E xs (.ad o1 o2 v j E z) (Γ' z)) (hE:E.size=1)
   (h:∀ z,AD tq P cx K l tail base U hd (.a as ops (i+1) ((i,d,.pointer (some (cy v 1 j))) :: sl) ms (Γ' z) (f z))):AD tq P cx K l tail base U hd (.ix false v fr x y t A d ty as ops i sl ms Γ (idx xs j>>=f))
 | Zu {hd:QE} {α:Type} {A:LN} {as:LL} {d:Nat} {x y:OO} {v:Value} {k:IntKind} {j:Int} {t ty:TI} {o1 o2:Bool} {E:ai α} {xs:List α} {ops:LO} {i:Nat} {sl:LQ} {ms:MM} {fr:Fr} {Γ:QE} {j6:α→List ay} {f:α→Option (Out S R)} [ht:vf P t]
   (hy:bp fr y=some (.int k j)) (hr:∀ z,p7 hd v o1 o2 E xs (.ad o1 o2 v j E z) (j6 z)) (hE:E.size=1)
   (h:∀ z,AD tq P cx K l tail base U (j6 z) (.a as ops (i+1) ((i,d,.pointer (some (cy v 1 j))) :: sl) ms Γ (f z))):AD tq P cx K l tail base U hd (.ix true v fr x y t A d ty as ops i sl ms Γ (idx xs j>>=f))
 | load {hd:QE} {A:LN} {as:LL} {d:Nat} {x:OO} {a:Addr} {t ty:TI} {lk:Option Nat} {ops:LO} {i:Nat} {sl:LQ} {ms:MM} {fr:Fr} {Γ:QE} {m:Option (Out S R)} [ht:LK P t lk] (hv:cL A none sl base fr) (hx:bp fr x=some (.pointer (some a)))
   (h:AD tq P cx K l tail base U hd (.la fr a lk t x A d ty as ops i sl ms Γ m)):AD tq P cx K l tail base U hd (.o A (.load t x) d ty as ops i sl ms Γ m)
 | lsw {hd:QE} {b:Bool} {v:Value} {j:Int} {x:OO} {t:TI} {fr:Fr} {A:LN} {as:LL} {d:Nat} {ty:TI} {ops:LO} {i:Nat} {sl:LQ} {ms:MM} {Γ:QE} {m:Option (Out S R)} (hw:Im hd v b) (h:AD tq P cx K l tail base U hd (.lb b v j fr t x A d ty as ops i sl ms Γ m)):AD tq P cx K l tail base U hd (.la fr (cy v 1 j) none t x A d ty as ops i sl ms Γ m)
 | Su {hd:QE} {α:Type} {A:LN} {as:LL} {d:Nat} {x:OO} {v:Value} {j:Int} {o:Bool} {E:ai α} {z:α} {t ty:TI} {ops:LO} {i:Nat} {sl:LQ} {ms:MM} {fr:Fr} {Γ Γx:QE} {m:Option (Out S R)} (h:s7 Γ (cy v 1 j) o E z s8 Γx)
   (k:AD tq P cx K l tail base U hd (.ld E z fr (cy v 1 j) t x A d ty as ops i sl ms Γ m)):AD tq P cx K l tail base U hd (.lb false v j fr t x A d ty as ops i sl ms Γ m)
 | Zv {hd:QE} {α:Type} {A:LN} {as:LL} {d:Nat} {x:OO} {v:Value} {j:Int} {E:ai α} {z:List α} {o:Bool} {t ty:TI} {ops:LO} {i:Nat} {sl:LQ} {ms:MM} {fr:Fr} {Γ:QE} {SX j6:Value→List ay} {m:Option (Out S R)} (hV:((U.zipIdx.all fun p=>!(p.1.contains l.length) || ((cb l).getD p.2 []).contains i))=true) (h:∀ u,s7 hd (cy v 1 j) o (bF E) z (.rd o (bF E) u z) (SX u)) (h2:∀ u,xn (SX u) v j u (j6 u))
   (k:∀ u,AD tq P cx K l tail base U (j6 u) (.a as ops (i+1) ((i,d,u) :: sl) ms Γ m)):AD tq P cx K l tail base U hd (.lb true v j fr t x A d ty as ops i sl ms Γ m)
 | Sw {hd:QE} {A:LN} {as:LL} {d:Nat} {x:OO} {a:Addr} {u:Value} {t ty:TI} {ops:LO} {i:Nat} {sl:LQ} {ms:MM} {fr:Fr} {Γ:QE} {m:Option (Out S R)} (h:tQ Γ a u)
   (k:AD tq P cx K l tail base U hd (.a as ops (i+1) ((i,d,u) :: sl) ms Γ m)):AD tq P cx K l tail base U hd (.la fr a none t x A d ty as ops i sl ms Γ m)
 | K3 {hd:QE} {A:LN} {as:LL} {d n:Nat} {x:OO} {a:Addr} {ds:LV} {t ty:TI} {ops:LO} {i:Nat} {sl:LQ} {ms:MM} {fr:Fr} {Γ:QE} {m:Option (Out S R)} (h:tU Γ a n ds)
   (k:AD tq P cx K l tail base U hd (.a as ops (i+1) ((i,d,.agg ds.toArray) :: sl) ms Γ m)):AD tq P cx K l tail base U hd (.la fr a (some n) t x A d ty as ops i sl ms Γ m)
 | Sx {hd:QE} {A:LN} {as:LL} {d:Nat} {x:OO} {a:Addr} {k:IntKind} {z:Int} {t ty:TI} {ops:LO} {i:Nat} {sl:LQ} {ms:MM} {fr:Fr} {Γ:QE} {m:Option (Out S R)}
   (h:AD tq P cx K l tail base U hd (.a as ops (i+1) ((i,d,.int k z) :: sl) ms Γ m)):AD tq P cx K l tail base U hd (.ld (aM k) z fr a t x A d ty as ops i sl ms Γ m)
 | Sy {hd:QE} {α:Type} {A:LN} {as:LL} {d:Nat} {x:OO} {v:Value} {j:Int} {E:ai α} {z:List α} {o:Bool} {t ty:TI} {ops:LO} {i:Nat} {sl:LQ} {ms:MM} {fr:Fr} {Γ:QE} {Γ1 Γ':Value→List ay} {m:Option (Out S R)} (h:∀ u,s7 Γ (cy v 1 j) o (bF E) z (.rd o (bF E) u z) (Γ1 u)) (h2:∀ u,xn (Γ1 u) v j u (Γ' u))
   (k:∀ u,AD tq P cx K l tail base U hd (.a as ops (i+1) ((i,d,u) :: sl) ms (Γ' u) m)):AD tq P cx K l tail base U hd (.ld (bF E) z fr (cy v 1 j) t x A d ty as ops i sl ms Γ m)
 | K0 {hd:QE} {us:LN} {A:LN} {as:LL} {d:Nat} {f:FuncId} {xs:List Operand} {bn:Array TypeId} {ty:TI} {ops:LO} {i:Nat} {sl:LQ} {ms:MM} {Γ:QE} {m:Option (Out S R)} (hU:U.getD i []=us) (h:AD tq P cx K l tail base U hd (.oc us f xs bn A d ty as ops i sl ms Γ m)):AD tq P cx K l tail base U hd (.o A (.call ⟨.value (.func f),xs.toArray,bn⟩) d ty as ops i sl ms Γ m)
 | Zw {hd:QE} {β V:Type} {A:LN} {as:LL} {d:Nat} {f:FuncId} {fs bs:LV} {xo:OO} {xs:List Operand} {bn:Array TypeId} {ty:TI} {mo:Option β} {rt:β→V→List Value} {ps:β→V→List ay} {ops:LO} {i:Nat} {sl:LQ} {ms:MM} {fr:Fr} {Γ:QE} {g:β→Option (Out S R)}
   (hv:cL A none sl base fr) (hx:bp fr xo=some (.func (.func f) fs.toArray bs.toArray)) (hf:XT P f) (hc:∀ x:o6 ms,Js P f fs bs xs (n8 A ms x++fr) (qP A ms x++Γ) mo rt ps) (hi:pX ms) (BV:qQ A ms=true) (ho:∀ y v,rj (ps y v)=true)
   (h:∀ y,AD tq P cx K l tail base U hd (.cr (fun v=>qO (rt y v)) (ps y) d as ops i sl ms Γ (g y))):AD tq P cx K l tail base U hd (.o A (.call ⟨.value xo,xs.toArray,bn⟩) d ty as ops i sl ms Γ (mo>>=g))
 | call {hd:QE} {β V:Type} {A:LN} {as:LL} {d:Nat} {f:FuncId} {xs:List Operand} {bn:Array TypeId} {ty:TI} {mo:Option β} {rt:β→V→List Value} {ps:β→V→List ay} {ops:LO} {i:Nat} {sl:LQ} {ms:MM} {fr:Fr} {Γ:QE} {g:β→Option (Out S R)} [hf:bu P f]
   (hv:cL A none sl base fr) (hc:∀ x:o6 ms,Jr P f xs (n8 A ms x++fr) (qP A ms x++Γ) mo rt ps) (hi:pX ms) (BV:qQ A ms=true) (ho:∀ y v,rj (ps y v)=true)
   (h:∀ y,AD tq P cx K l tail base U hd (.cr (fun v=>qO (rt y v)) (ps y) d as ops i sl ms Γ (g y))):AD tq P cx K l tail base U hd (.oc [] f xs bn A d ty as ops i sl ms Γ (mo>>=g))
 | W3 {hd:QE} {β V:Type} {A:LN} {as:LL} {d:Nat} {f:FuncId} {xs:List Operand} {bn:Array TypeId} {ty:TI} {mo:Option β} {rt:β→V→List Value} {ps:β→V→List ay} {ops:LO} {i:Nat} {sl:LQ} {ms:MM} {fr:Fr} {Γ:QE} {g:β→Option (Out S R)} [hf:bu P f]
   (hV:((U.set i []).all fun us=>!(us.contains l.length))=true) (hv:cL A none sl base fr) (hc:∀ x:o6 ms,CC P f xs (n8 A ms x++fr) hd (qP A ms x++Γ) mo rt ps) (hi:pX ms) (BV:qQ A ms=true) (ho:∀ y v,rj (ps y v)=true)
   (h:∀ y,AD tq P cx K l tail base U hd (.cr (fun v=>qO (rt y v)) (ps y) d as ops i sl ms Γ (g y))):AD tq P cx K l tail base U hd (.oc [l.length] f xs bn A d ty as ops i sl ms Γ (mo>>=g))
 | W4 {hd:QE} {β V:Type} {j1:Nat} {a1:iw} {o7:MM} {A:LN} {as:LL} {d:Nat} {f:FuncId} {xs:List Operand} {bn:Array TypeId} {ty:TI} {mo:Option β} {rt:β→V→List Value} {ps:β→V→List ay} {ops:LO} {i:Nat} {sl:LQ} {ms:MM} {fr:Fr} {Γ:QE} {g:β→Option (Out S R)} [hf:bu P f]
   (h1:BT ms j1 a1 o7) (Qe:a1.src=[]) (h4:jh j1 A=true) (hv:cL A none sl base fr) (hc:∀ (q:a1.V) (x:o6 o7),CC P f xs (n8 A o7 x++fr) (a1.ps undef q) (qP A o7 x++Γ) mo rt ps) (hi:pX o7) (BV:qQ A o7=true) (ho:∀ y v,rj (ps y v)=true)
   (h:∀ y,AD tq P cx K l tail base U hd (.cr (fun v=>qO (rt y v)) (ps y) d as ops i (NU j1 i sl) o7 Γ (g y))):AD tq P cx K l tail base U hd (.oc [j1] f xs bn A d ty as ops i sl ms Γ (mo>>=g))
 | crv {hd:QE} {u:Unit→Value} {d:Nat} {as:LL} {ops:LO} {i:Nat} {sl:LQ} {ms:MM} {Γ:QE} {m:Option (Out S R)} (h:AD tq P cx K l tail base U hd (.a as ops (i+1) ((i,d,u ()) :: sl) ms Γ m)):AD tq P cx K l tail base U hd (.cr u (fun _=>[]) d as ops i sl ms Γ m)
 | crb {hd:QE} {u:Unit→Value} {ps:Unit→List ay} {d:Nat} {as:LL} {ops:LO} {i:Nat} {sl:LQ} {ms:MM} {Γ:QE} {m:Option (Out S R)} (h:AD tq P cx K l tail base U hd (.a as ops (i+1) ((i,d,u ()) :: sl) (⟨i,d,[],Unit,fun _=>u,fun _=>ps⟩ :: ms) Γ m)):AD tq P cx K l tail base U hd (.cr u ps d as ops i sl ms Γ m)
 | crm {hd:QE} {V:Type} {u:V→Value} {ps:V→List ay} {d:Nat} {as:LL} {ops:LO} {i:Nat} {sl:LQ} {ms:MM} {Γ:QE} {m:Option (Out S R)} (h:AD tq P cx K l tail base U hd (.a as ops (i+1) sl (⟨i,d,[],V,fun _=>u,fun _=>ps⟩ :: ms) Γ m)):AD tq P cx K l tail base U hd (.cr u ps d as ops i sl ms Γ m)
 | val {hd:QE} {A:LN} {as:LL} {op:Op} {d:Nat} {ty:TI} {u:Value} {ops:LO} {i:Nat} {sl:LQ} {ms:MM} {fr:Fr} {Γ:QE} {m:Option (Out S R)} (hv:cL A none sl base fr) (hq:VQ P Γ fr op u)
   (h:AD tq P cx K l tail base U hd (.a as ops (i+1) ((i,d,u) :: sl) ms Γ m)):AD tq P cx K l tail base U hd (.o A op d ty as ops i sl ms Γ m)
 | ry {hd:QE} {A:LN} {as:LL} {op:BinOp} {x y:OO} {k k':IntKind} {a b:Int} {t t':TI} {d:Nat} {ty:TI} {ops:LO} {i:Nat} {sl:LQ} {ms:MM} {fr:Fr} {Γ:QE} {f:Int→Option (Out S R)} (hv:cL A none sl base fr) (hx:bp fr x=some (.int k a)) (hy:bp fr y=some (.int k' b)) (hk:P9 op k k')
   (h:∀ z,AD tq P cx K l tail base U hd (.a as ops (i+1) ((i,d,.int k z) :: sl) ms Γ (f z))):AD tq P cx K l tail base U hd (.o A (.binOp op t x y t') d ty as ops i sl ms Γ (sI op k a b>>=f))
 | pz {hd:QE} {as:LL} {ops:LO} {i:Nat} {sl:LQ} {ms:MM} {Γ:QE} {m:Option (Out S R)} (h:AD tq P cx K l tail base U hd (.a as ops i sl ms Γ m)):AD tq P cx K l tail base U hd (.p [] as ops i sl ms Γ m)
 | pe {hd:QE} {e:ay} {Δ:QE} {as:LL} {ops:LO} {i:Nat} {sl:LQ} {ms:MM} {Γ:QE} {m:Option (Out S R)} (h:AD tq P cx K l tail base U hd (.p Δ as ops i sl ms (e :: Γ) m)):AD tq P cx K l tail base U hd (.p (e :: Δ) as ops i sl ms Γ m)
 | Fe {hd:QE} {α V:Type} {Sc:ai α} {cl:α→V→List Value} {en:α→V→List ay} {A:LN} {as:LL} {d n:Nat} {x y:OO} {v:Value} {xs:List α} {k:IntKind} {j:Int} {t ty:TI} {ops:LO} {i:Nat} {sl:LQ} {ms:MM} {fr:Fr} {Γ Γx:QE} {f:α→Option (Out S R)} [ht:Ic P t n]
   (hy:bp fr y=some (.int k j)) (hr:p7 Γ v false false (qx Sc) xs s8 Γx) (hs:Ea Sc V cl en) (hn:Sc.size=n)
   (h:∀ z u,AD tq P cx K l tail base U hd (.p (.bn (cy v n j) (cl z u) :: en z u) as ops (i+1) ((i,d,.pointer (some (cy v n j))) :: sl) ms Γ (f z))):AD tq P cx K l tail base U hd (.ix false v fr x y t A d ty as ops i sl ms Γ (idx xs j>>=f))
 | SY {hd:QE} {α V:Type} {Sc:ai α} {cl:α→V→List Value} {en:α→V→List ay} {A:LN} {as:LL} {d n e bt:Nat} {x y:OO} {v:Value} {us:List (List Value)} {xs:List α} {k:IntKind} {j:Int} {t ty:TI} {ops:LO} {i:Nat} {sl:LQ} {ms:MM} {fr:Fr} {Γ Γ1:QE} {f:α→Option (Out S R)} [ht:zN P t e n bt]
   (hy:bp fr y=some (.int k j)) (h1:ep Γ (.own (aJ e (jx n)) v us) Γ1) (hg:In (.rd false (uA Sc) (.bool true) (us,xs)) Γ) (hs:Ea Sc V cl en)
   (h:∀ z u,AD tq P cx K l tail base U hd (.p (.rd false (zv us j) (.bool true) (cl z u) :: en z u) as ops (i+1) ((i,d,.pointer (some (cy v n j))) :: sl) ms Γ (f z))):AD tq P cx K l tail base U hd (.ix false v fr x y t A d ty as ops i sl ms Γ (idx xs j>>=f))
 | XU {hd:QE} {A:LN} {as:LL} {d n e off:Nat} {x:OO} {v u:Value} {us:List (List Value)} {j:Int} {cs:LV} {t ty:TI} {ops:LO} {i:Nat} {sl:LQ} {ms:MM} {fr:Fr} {Γ Γ1:QE} {m:Option (Out S R)} (h1:ep Γ (.own (aJ e (jx n)) v us) Γ1) (hp:In (.rd false (zv us j) (.bool true) cs) Γ) (hc:cs[off]? = some u)
   (k:AD tq P cx K l tail base U hd (.a as ops (i+1) ((i,d,u) :: sl) ms Γ m)):AD tq P cx K l tail base U hd (.la fr ((cy v n j).add off) none t x A d ty as ops i sl ms Γ m)
 | SZ {hd:QE} {A:LN} {as:LL} {d n e:Nat} {x:OO} {v u:Value} {us:List (List Value)} {j:Int} {cs:LV} {t ty:TI} {ops:LO} {i:Nat} {sl:LQ} {ms:MM} {fr:Fr} {Γ Γ1:QE} {m:Option (Out S R)} (h1:ep Γ (.own (aJ e (jx n)) v us) Γ1) (hp:In (.rd false (zv us j) (.bool true) cs) Γ) (hc:cs[0]? = some u)
   (k:AD tq P cx K l tail base U hd (.a as ops (i+1) ((i,d,u) :: sl) ms Γ m)):AD tq P cx K l tail base U hd (.la fr (cy v n j) none t x A d ty as ops i sl ms Γ m)
end Go.Dk
namespace Go.Dk
open Go Go.Li
theorem oh {t:Nat} {l:LN}:jh t l=true↔t∈l:=by
 induction l with
 | nil=>simp [jh]
 | cons a l ih=>
  unfold jh
  cases hb:Nat.beq t a with
  | true=>simp [Nat.eq_of_beq_eq_true hb]
  | false=>simp only [cond_false,ih,List.mem_cons]; exact ⟨.inr,fun h=>h.resolve_left fun e=>by rw [e,Nat.beq_refl] at hb; cases hb⟩
def ml (l:LO) (U:LL) (mt:Nat):List (List Nat):=(List.range mt).map fun i=>(List.range l.length).filter (sf l U mt i)
theorem qg {l:LO} {U:LL} {mt i j:Nat} (h:j∈(ml l U mt).getD i []):j∈(cb l).getD i []∧sf l U mt i j=true:=by
 unfold ml at h
 rw [List.getD_eq_getElem?_getD,List.getElem?_map] at h
 by_cases hi:i < mt
 ·rw [List.getElem?_range hi] at h
  have h1:=(List.mem_filter.1 h).2
  refine ⟨?_,h1⟩
  unfold sf at h1
  rw [Bool.and_eq_true] at h1
  simpa using h1.1
 ·rw [List.getElem?_eq_none (by simpa using hi)] at h
  exact absurd h List.not_mem_nil
variable {Z:Nat→Prop}
structure je (Z:Nat→Prop) (l:LO) (S:List ir) (sl:LQ) (ms:MM):Prop where
 v:∀ p∈sl,∃ j,(j=p.1∨j∈(cb l).getD p.1 [])∧bw l j=some p.2.1∧∃ s,S[j]? = some s∧s.b=true∧∀ f w r x,s.V f w r x→x=p.2.2
 m:∀ a∈ms,(S[a.j]? = some ⟨true,MV Z a⟩∧bw l a.j=some a.d)∨(S[a.j]? = some ⟨true,Lf Z a⟩∧bw l a.j=none∧∃ k∈(cb l).getD a.j [],bw l k=some a.d)
 s:∀ i s,S[i]? = some s→Qd Z ((cb l).getD i []) l s
 d:(ms.map (·.j)).Nodup
 t:∀ i j k,j∈(cb l).getD k []→k∈(cb l).getD i []→j∈(cb l).getD i []
theorem je.lt {l:LO} {S:List ir} {sl:LQ} {ms:MM} (h:je Z l S sl ms) {a:iw} (ha:a∈ms):a.j < S.length:=by
 rcases h.m a ha with h | h <;> exact (List.getElem?_eq_some_iff.1 h.1).1
theorem je.FI {l:LO} {S S2:List ir} {sl:LQ} {ms:MM} (h:je Z l S sl ms) {a:iw} (ha:a∈ms) {g:Nat→List Nat} {r:NV} {w:World} (hd:vL l (S++S2) a.j g r w):MV Z a (g a.j) w r (r a.d):=by
 rcases h.m a ha with h1 | h1
 ·have h2:=hd.1 a.d h1.2
  rw [List.getElem?_append_left (List.getElem?_eq_some_iff.1 h1.1).1,h1.1] at h2
  exact h2
 ·obtain ⟨x,hx⟩:=hd.2 h1.2.1 _ (by rw [List.getElem?_append_left (List.getElem?_eq_some_iff.1 h1.1).1]; exact h1.1) rfl
  exact hx
theorem je.slot {l:LO} {S:List ir} {sl:LQ} {ms:MM} (h:je Z l S sl ms) {a:iw} (ha:a∈ms) {i:Nat} (hi:a.j∈(cb l).getD i []):∃ k∈(cb l).getD i [],bw l k=some a.d:=by
 rcases h.m a ha with h1 | ⟨_,_,k,hk,hd⟩
 ·exact ⟨a.j,hi,h1.2⟩
 ·exact ⟨k,h.t i k a.j hk hi,hd⟩
theorem je.rW {l:LO} {S S2:List ir} {sl:LQ} {ms:MM} (h:je Z l S sl ms) {a:iw} (ha:a∈ms):((S++S2)[a.j]? = some ⟨true,MV Z a⟩∧bw l a.j=some a.d)∨((S++S2)[a.j]? = some ⟨true,Lf Z a⟩∧bw l a.j=none∧∃ k∈(cb l).getD a.j [],bw l k=some a.d):=by
 rw [List.getElem?_append_left (h.lt ha)]
 exact h.m a ha
theorem je.Jx {l:LO} {S S2:List ir} {sl:LQ} {ms:MM} (h:je Z l S sl ms) {p:Nat×Nat×Value} (hp:p∈sl):∃ j,(j=p.1∨j∈(cb l).getD p.1 [])∧bw l j=some p.2.1∧∃ s,(S++S2)[j]? = some s∧s.b=true∧∀ f w r x,s.V f w r x→x=p.2.2:=by
 obtain ⟨j,hj,h1,s,h2,h3⟩:=h.v p hp
 exact ⟨j,hj,h1,s,by rw [List.getElem?_append_left (List.getElem?_eq_some_iff.1 h2).1]; exact h2,h3⟩
theorem je.zx {l:LO} {S S2:List ir} {sl:LQ} {ms:MM} (h:je Z l S sl ms) {p:Nat×Nat×Value} (hp:p∈sl) {r:NV} (ho:∀ j,(j=p.1∨j∈(cb l).getD p.1 [])→j < S.length→Old l (S++S2) j r):r p.2.1=p.2.2:=by
 obtain ⟨j,hj,h1,s,h2,h3,h4⟩:=h.v p hp
 have hl:=(List.getElem?_eq_some_iff.1 h2).1
 have:=ho j hj hl _ h1 s (by rw [List.getElem?_append_left hl]; exact h2)
 rw [if_pos h3] at this
 obtain ⟨f,w,hV⟩:=this
 exact h4 f w r _ hV
theorem je.val {l:LO} {S:List ir} {sl:LQ} {ms:MM} (h:je Z l S sl ms) {d:Nat} {u:Value} (hd:bw l S.length=some d):je Z l (S++[sV u]) ((S.length,d,u) :: sl) ms:=by
 refine ⟨?_,fun a ha=>h.rW ha,?_,h.d,h.t⟩
 ·intro p hp
  rcases List.mem_cons.1 hp with rfl | hp
  ·exact ⟨S.length,.inl rfl,hd,sV u,by simp,rfl,fun _ _ _ _ h=>h⟩
  ·exact h.Jx hp
 ·intro i s hs
  by_cases hi:i < S.length
  ·rw [List.getElem?_append_left hi] at hs; exact h.s i s hs
  ·rw [List.getElem?_append_right (by omega)] at hs
   have uD:i - S.length=0:=by
    have:=(List.getElem?_eq_some_iff.1 hs).1
    simp at this; omega
   rw [uD] at hs
   cases hs
   exact FD.n Jy
theorem je.mem {l:LO} {S:List ir} {sl:LQ} {ms:MM} (h:je Z l S sl ms) {b:iw} (hj:b.j=S.length) (hd:bw l S.length=some b.d) (kc:∀ t∈b.src,∃ j∈(cb l).getD S.length [],bw l j=some t):je Z l (S++[⟨true,MV Z b⟩]) sl (b :: ms):=by
 have av:∀ a∈ms,a.j < S.length:=fun a ha=>h.lt ha
 refine ⟨fun p hp=>?_,?_,?_,?_,h.t⟩
 ·exact h.Jx hp
 ·intro a ha
  rcases List.mem_cons.1 ha with rfl | ha
  ·exact .inl ⟨by rw [hj]; simp,by rw [hj]; exact hd⟩
  ·exact h.rW ha
 ·intro i s hs
  by_cases hi:i < S.length
  ·rw [List.getElem?_append_left hi] at hs; exact h.s i s hs
  ·rw [List.getElem?_append_right (by omega)] at hs
   have uD:i - S.length=0:=by
    have:=(List.getElem?_eq_some_iff.1 hs).1
    simp at this; omega
   have S0:i=S.length:=by omega
   rw [uD] at hs
   cases hs
   rw [S0]
   exact Lh kc
 ·rw [List.map_cons,List.nodup_cons]
  refine ⟨fun hm=>?_,h.d⟩
  obtain ⟨a,ha,he⟩:=List.mem_map.1 hm
  have:=av a ha
  omega
theorem je.Zx {l:LO} {S:List ir} {sl:LQ} {ms:MM} (h:je Z l S sl ms) {j d:Nat} {u:Value} (hd:bw l j=some d) {s:ir} (hs:S[j]? = some s) (hb:s.b=true) (hV:∀ f w r x,s.V f w r x→x=u):je Z l S ((j,d,u) :: sl) ms:=
 ⟨fun p hp=>by
  rcases List.mem_cons.1 hp with rfl | hp
  ·exact ⟨j,.inl rfl,hd,s,hs,hb,hV⟩
  ·exact h.v p hp,h.m,h.s,h.d,h.t⟩
theorem je.re {l:LO} {S:List ir} {sl:LQ} {ms:MM} (h:je Z l S sl ms) {j i:Nat} (hj:j∈(cb l).getD i []):je Z l S (NU j i sl) ms:=by
 refine ⟨fun p hp=>?_,h.m,h.s,h.d,h.t⟩
 obtain ⟨q,hq,rfl⟩:=List.mem_map.1 hp
 obtain ⟨k,hk,h1⟩:=h.v q hq
 cases hb:Nat.beq q.1 j with
 | false=>exact ⟨k,hk,h1⟩
 | true=>
  refine ⟨k,.inr ?_,h1⟩
  have XV:=Nat.eq_of_beq_eq_true hb
  show k∈(cb l).getD i []
  rcases hk with rfl | hk
  ·rw [XV]; exact hj
  ·rw [XV] at hk; exact h.t i k j hk hj
theorem je.Zy {l:LO} {S:List ir} {sl:LQ} {ms:MM} (h:je Z l S sl ms) {b:iw} (hj:b.j=S.length) (hd:bw l S.length=none) (hk:∃ k∈(cb l).getD S.length [],bw l k=some b.d) (kc:b.src=[]):je Z l (S++[⟨true,Lf Z b⟩]) sl (b :: ms):=by
 have av:∀ a∈ms,a.j < S.length:=fun a ha=>h.lt ha
 refine ⟨fun p hp=>?_,?_,?_,?_,h.t⟩
 ·exact h.Jx hp
 ·intro a ha
  rcases List.mem_cons.1 ha with rfl | ha
  ·exact .inr ⟨by rw [hj]; simp,by rw [hj]; exact hd,by rw [hj]; exact hk⟩
  ·exact h.rW ha
 ·intro i s hs
  by_cases hi:i < S.length
  ·rw [List.getElem?_append_left hi] at hs; exact h.s i s hs
  ·rw [List.getElem?_append_right (by omega)] at hs
   have uD:i - S.length=0:=by
    have:=(List.getElem?_eq_some_iff.1 hs).1
    simp at this; omega
   have S0:i=S.length:=by omega
   rw [uD] at hs
   cases hs
   rw [S0]
   exact Jo hk fun t ht=>by rw [kc] at ht; cases ht
 ·rw [List.map_cons,List.nodup_cons]
  refine ⟨fun hm=>?_,h.d⟩
  obtain ⟨a,ha,he⟩:=List.mem_map.1 hm
  have:=av a ha
  omega
theorem l6 {l:LO} {m:Nat} {base:Fr} {r r0:NV} (hh:mm l m base=true) (ha:cw r0 base) (ho:∀ t,(∀ j,j < m→bw l j≠some t)→r t=r0 t):cw r base:=by
 intro t v hl
 have hm:∃ u,(t,u)∈base:=by
  clear hh ha
  induction base with
  | nil=>cases hl
  | cons p base ih=>
   obtain ⟨a,u⟩:=p
   unfold look at hl
   cases hb:Nat.beq t a with
   | true=>exact ⟨u,by rw [Nat.eq_of_beq_eq_true hb]; simp⟩
   | false=>rw [hb] at hl; obtain ⟨u',h⟩:=ih hl; exact ⟨u',by simp [h]⟩
 obtain ⟨u,hu⟩:=hm
 rw [ho t fun j hj=>Lk hh (t,u) hu j hj]
 exact ha t v hl
section
variable {P:Program} {l:LO} {mt:Nat} {S:List ir} {sl:LQ} {ms:MM} {base fr:Fr} {r r0:NV} {w w0:World} {g:Nat→List Nat} {i:Nat} {A:LN} {U:LL}
theorem pj (hR:je Z l S sl ms) (hA:A=(ml l U mt).getD i []) (hv:cL A none sl base fr) (hb:cw r base) {S':List ir} (hO:∀ j∈(cb l).getD i [],Old l (S++S') j r):cw r fr:=by
 refine hv.sound hb ?_ (fun _ _ _ h=>nomatch h)
 intro p hp hm
 have hi:=(qg (by rw [← hA]; exact oh.1 hm)).1
 exact hR.zx hp fun j hj _=>hO j (hj.elim (fun e=>e ▸ hi) fun hj=>hR.t i j p.1 hj hi)
theorem NW {H:LN} {o:Oper} {u:Value} (hh:mm l mt base=true) (ha:cw r0 base) (hR:je Z l S sl ms) (ho:l[S.length]? = some o) (hg:o.guard=none) (hA:A=(ml l U mt).getD S.length []) (hv:cL A none sl base fr)
  (h:∀ r,cw r fr→∀ w,ao H w0 w→(execOp (ev r) o).run P w = .ok (.value u) w):kh P l mt (S++[sV u]) U r0 w0 H S.length:=
 kh.val ho (by simp) hg fun g r w hC hO hn lr=>h r (pj hR hA hv (l6 hh ha lr) hO) w hC
end
end Go.Dk
namespace Go.Dk
open Go Go.Li
section
variable {R S:Type} {P:Program} {cx:Cx R} {K:dk R S} {l tail:LO} {base fr:Fr} {w:World} {Z:Nat→Prop} {U:LL}
def kv (P:Program) (Z:Nat→Prop) (l:LO) (mt:Nat) (U:LL) (r0:NV) (w0:World) (H:LN) (i:Nat) (sl:LQ) (ms:MM):Prop:=
 ∃ S:List ir,S.length=i∧je Z l S sl ms∧∀ j,j < i→kh P l mt S U r0 w0 H j
def rA (B:Bs) (Z:Nat→Prop) (hd Γ:QE) (H:LN) (w:World):Prop:=∃ F Hd,(SA Z w hd [] Hd∧(∀ b∈Hd,b∈H∧b < w.heap.size)∧(∀ b∈H,b < w.heap.size)∧Hd.Nodup)∧SA Z w Γ [] F∧Gd B Z (H++F) w
theorem rA.stay {B:Bs} {Γ:QE} {F H:LN} {w w':World} (hS:SA Z w Γ [] F) (hG:Gd B Z (H++F) w) (hC:ao H w w'):SA Z w' Γ [] F:=
 hS.ee hC (fun b hb=>hG.apart b (List.mem_append_left _ hb)) (fun _ _=>List.not_mem_nil) (fun b hb hf=>(List.nodup_append.1 hG.nd).2.2 b hb b hf rfl)
def Fin (P:Program) (cx:Cx R) (K:dk R S) (l l0:LO) (mt:Nat) (U:LL) (hd:QE) (_id:Nat) (base:Fr) (i:Nat) (sl:LQ) (ms:MM) (Γ:QE) (m:Option (Out S R)):Prop:=
 ∀ B o,m=some o→∀ r0 w0 H Z,cw r0 base→rA B Z hd Γ H w0→kv P Z l mt U r0 w0 H i sl ms→nv P cx.n l0 (l4 P cx B K o) r0 w0
theorem kv.re {mt:Nat} {r0:NV} {w0:World} {H:LN} {i k j:Nat} {sl:LQ} {ms:MM} (h:kv P Z l mt U r0 w0 H k sl ms) (hj:j∈(cb l).getD i []):kv P Z l mt U r0 w0 H k (NU j i sl) ms:=by
 obtain ⟨S,h1,h2,h3⟩:=h
 exact ⟨S,h1,h2.re hj,h3⟩
structure u6 (l:LO) (mt:Nat) (U:LL) (as:LL) (ops:LO) (i:Nat):Prop where
 a:as=(ml l U mt).drop i
 o:ops=(l.take mt).drop i
 le:i≤mt
structure S3 (l:LO) (mt:Nat) (U:LL) (A:LN) (op:Op) (ty:TI) (as:LL) (ops:LO) (i:Nat):Prop where
 A:A=(ml l U mt).getD i []
 o:∃ pos ah,l[i]? = some ⟨none,op,ty,pos,ah,none⟩
 n:u6 l mt U as ops (i+1)
theorem u6.Ju {mt:Nat} {A:LN} {as:LL} {op:Op} {ty:TI} {pos:String} {ah:Array Edge} {ops:LO} {i:Nat} (h:u6 l mt U (A :: as) (⟨none,op,ty,pos,ah,none⟩ :: ops) i):S3 l mt U A op ty as ops i:=by
 obtain ⟨h1,h2,h3⟩:=h
 have e1:(ml l U mt)[i]? = some A:=by
  have:=congrArg (fun x=>x[0]?) h1
  simpa using this.symm
 have e2:(l.take mt)[i]? = some ⟨none,op,ty,pos,ah,none⟩:=by
  have:=congrArg (fun x=>x[0]?) h2
  simpa using this.symm
 have t1:as=(ml l U mt).drop (i+1):=by
  have:=congrArg List.tail h1
  simpa [List.tail_drop] using this
 have t2:ops=(l.take mt).drop (i+1):=by
  have:=congrArg List.tail h2
  simpa [List.tail_drop] using this
 have hi:i < mt:=by
  have:=(List.getElem?_eq_some_iff.1 e1).1
  simpa [ml] using this
 rw [List.getElem?_take,if_pos hi] at e2
 exact ⟨by rw [List.getD_eq_getElem?_getD,e1]; rfl,⟨pos,ah,e2⟩,t1,t2,hi⟩
structure qt (l:LO) (mt:Nat) (U:LL) (A:LN) (op:Op) (d:Nat) (ty:TI) (as:LL) (ops:LO) (i:Nat):Prop where
 A:A=(ml l U mt).getD i []
 o:∃ pos ah,l[i]? = some ⟨some d,op,ty,pos,ah,none⟩
 n:u6 l mt U as ops (i+1)
theorem u6.cons {mt:Nat} {A:LN} {as:LL} {op:Op} {d:Nat} {ty:TI} {pos:String} {ah:Array Edge} {ops:LO} {i:Nat} (h:u6 l mt U (A :: as) (⟨some d,op,ty,pos,ah,none⟩ :: ops) i):qt l mt U A op d ty as ops i:=by
 obtain ⟨h1,h2,h3⟩:=h
 have e1:(ml l U mt)[i]? = some A:=by
  have:=congrArg (fun x=>x[0]?) h1
  simpa using this.symm
 have e2:(l.take mt)[i]? = some ⟨some d,op,ty,pos,ah,none⟩:=by
  have:=congrArg (fun x=>x[0]?) h2
  simpa using this.symm
 have t1:as=(ml l U mt).drop (i+1):=by
  have:=congrArg List.tail h1
  simpa [List.tail_drop] using this
 have t2:ops=(l.take mt).drop (i+1):=by
  have:=congrArg List.tail h2
  simpa [List.tail_drop] using this
 have hi:i < mt:=by
  have:=(List.getElem?_eq_some_iff.1 e1).1
  simpa [ml] using this
 rw [List.getElem?_take,if_pos hi] at e2
 exact ⟨by rw [List.getD_eq_getElem?_getD,e1]; rfl,⟨pos,ah,e2⟩,t1,t2,hi⟩
theorem u6.next {mt:Nat} {A:LN} {as:LL} {o:Oper} {ops:LO} {i:Nat} (h:u6 l mt U (A :: as) (o :: ops) i):A=(ml l U mt).getD i []∧l[i]? = some o∧u6 l mt U as ops (i+1):=by
 obtain ⟨h1,h2,h3⟩:=h
 have e1:(ml l U mt)[i]? = some A:=by
  have:=congrArg (fun x=>x[0]?) h1
  simpa using this.symm
 have e2:(l.take mt)[i]? = some o:=by
  have:=congrArg (fun x=>x[0]?) h2
  simpa using this.symm
 have t1:as=(ml l U mt).drop (i+1):=by
  have:=congrArg List.tail h1
  simpa [List.tail_drop] using this
 have t2:ops=(l.take mt).drop (i+1):=by
  have:=congrArg List.tail h2
  simpa [List.tail_drop] using this
 have hi:i < mt:=by
  have:=(List.getElem?_eq_some_iff.1 e1).1
  simpa [ml] using this
 rw [List.getElem?_take,if_pos hi] at e2
 exact ⟨by rw [List.getD_eq_getElem?_getD,e1]; rfl,e2,t1,t2,hi⟩
theorem kv.skip {mt:Nat} {A:LN} {j d:Nat} {p:Bool} {dst:Option Nat} {op:Op} {ty:TI} {pos:String} {ah:Array Edge} {i:Nat} {sl:LQ} {ms:MM} {r0:NV} {w0:World} {H:LN} (h:kv P Z l mt U r0 w0 H i sl ms) (hA:A=(ml l U mt).getD i []) (ho:l[i]? = some ⟨dst,op,ty,pos,ah,some (j,p)⟩)
  (hd:bw l j=some d) (hb:Jt sl j d (!p)=true) (hj:jh j A=true):kv P Z l mt U r0 w0 H (i+1) sl ms:=by
 obtain ⟨S',hl,hR,hO⟩:=h
 subst hl
 have pq:j∈(cb l).getD S'.length []:=(qg (by rw [← hA]; exact oh.1 hj)).1
 have hm:=Lj hb
 have hR2:je Z l (S'++[⟨false,fun _ _ _ _=>True⟩]) sl ms:=by
  refine ⟨fun q hq=>hR.Jx hq,fun a ha=>hR.rW ha,fun i s hs=>?_,hR.d,hR.t⟩
  by_cases hi:i < S'.length
  ·rw [List.getElem?_append_left hi] at hs; exact hR.s i s hs
  ·rw [List.getElem?_append_right (by omega)] at hs
   have uD:i - S'.length=0:=by
    have:=(List.getElem?_eq_some_iff.1 hs).1
    simp at this; omega
   rw [uD] at hs
   cases hs
   exact fun _ _ _ _ _ _ _ _ _ _ _ _=>trivial
 refine ⟨S'++[⟨false,fun _ _ _ _=>True⟩],by simp,hR2,fun k hk=>?_⟩
 by_cases h2:k < S'.length
 ·exact kh.more (hO k h2) h2
 ·obtain rfl:k=S'.length:=by omega
  intro o s cj hs g r w hC hV ma hn lr sM hf
  rw [ho] at cj
  obtain rfl:=Option.some.inj cj
  rw [List.getElem?_append_right (Nat.le_refl _),Nat.sub_self] at hs
  obtain rfl:_=s:=Option.some.inj hs
  rw [if_neg (by simp)]
  have hr:r d = .bool (!p):=hR.zx (S2:=[⟨false,fun _ _ _ _=>True⟩]) hm fun q hq _=>ma q (hq.elim (fun e=>e ▸ pq) fun e=>hR.t _ _ _ e pq)
  unfold Region.wanted
  dsimp only
  rw [P4 hd,hr]
  cases p <;> rfl
theorem kv.val {mt:Nat} {A:LN} {op:Op} {d:Nat} {ty:TI} {as:LL} {ops:LO} {i:Nat} {sl:LQ} {ms:MM} {r0:NV} {w0:World} {H:LN} {u:Value} (h:kv P Z l mt U r0 w0 H i sl ms) (hh:mm l mt base=true) (ha:cw r0 base) (h1:qt l mt U A op d ty as ops i)
  (hv:cL A none sl base fr) (hq:∀ r,cw r fr→∀ pos ah g w,ao H w0 w→(execOp (ev r) ⟨some d,op,ty,pos,ah,g⟩).run P w = .ok (.value u) w):kv P Z l mt U r0 w0 H (i+1) ((i,d,u) :: sl) ms:=by
 obtain ⟨S',hl,hR,hO⟩:=h
 subst hl
 obtain ⟨hA,⟨pos,ah,ho⟩,_⟩:=h1
 refine ⟨S'++[sV u],by simp,hR.val (by unfold bw; rw [ho]; rfl),fun j hj=>?_⟩
 by_cases h2:j < S'.length
 ·exact kh.more (hO j h2) h2
 ·obtain rfl:j=S'.length:=by omega
  exact NW hh ha hR ho rfl hA hv fun r hr=>hq r hr _ _ _
def FK (P:Program) (Z:Nat→Prop) (l:LO) (mt:Nat) (U:LL) (r0:NV) (w0:World) (H:LN) (i:Nat) (sl:LQ) (ms:MM) (a:iw):Prop:=
 ∃ S:List ir,S.length=i∧je Z l S sl ms∧(∀ j,j < i→kh P l mt S U r0 w0 H j)∧
  ∀ V:List Nat→World→(Nat→Value)→Value→Prop,(∀ f w r x,MV Z a f w r x→∃ f',(∀ b∈f',b∈f)∧V f' w r x)→kh P l mt (S++[⟨true,V⟩]) U r0 w0 H i
theorem HL.front {Δ Γ:QE} {Fd F:LN} (h:HL Z w Δ Fd) (hs:SA Z w Γ [] F):SA Z w (Δ++Γ) [] (Fd++F):=by
 induction h with
 | nil=>exact hs
 | own h _ ih=>rw [List.append_assoc]; exact SA.cons ih h
 | fact h _ ih=>exact SA.fact ih h
def zS (A:LN) (g:Nat→List Nat):List iw→List Nat
 | []=>[]
 | a :: l=>bif jh a.j A then g a.j++zS A g l else zS A g l
def HV (Z:Nat→Prop) (w:World) (Δ:QE) (B:LN):Prop:=∃ Vo Vr,(∀ b∈Vo++Vr,b∈B)∧(∀ b∈Vr,b < w.heap.size)∧HL (fun b=>Z b∨b∈Vr) w Δ Vo
theorem HV.front {Δ Γ:QE} {B F:LN} (h:HV Z w Δ B) (hs:SA Z w Γ [] F):∃ G:List Nat,(∀ b∈G,b∈B++F∧b < w.heap.size)∧∃ F':List Nat,(∀ b∈F',b∈G)∧SA (fun b=>Z b∨b∈G) w (Δ++Γ) [] F':=by
 obtain ⟨Vo,Vr,h1,h2,h3⟩:=h
 have hS:=h3.front (hs.mono (Z':=fun b=>Z b∨b∈Vr) (fun _ h=>.inl h) fun _ h=>h)
 refine ⟨Vr++(Vo++F),fun b hb=>?_,Vo++F,fun b hb=>List.mem_append_right _ hb,hS.mono (fun b h=>h.imp id fun h=>List.mem_append_left _ h) fun _ h=>h⟩
 rcases List.mem_append.1 hb with hb | hb
 ·exact ⟨List.mem_append_left _ (h1 b (List.mem_append_right _ hb)),h2 b hb⟩
 ·refine ⟨?_,hS.lt b hb⟩
  rcases List.mem_append.1 hb with hb | hb
  ·exact List.mem_append_left _ (h1 b (List.mem_append_left _ hb))
  ·exact List.mem_append_right _ hb
theorem HV.app {Δ Δ':QE} {f B:LN} (h:HN Z w Δ f) (k:HV Z w Δ' B):HV Z w (Δ++Δ') (f++B):=by
 obtain ⟨Fo,Fr,rfl,h1,h2⟩:=h.all
 obtain ⟨Vo,Vr,k1,k2,k3⟩:=k
 refine ⟨Fo++Vo,Fr++Vr,fun b hb=>?_,fun b hb=>(List.mem_append.1 hb).elim (h1 b) (k2 b),(h2.mono fun b h=>h.imp id fun h=>List.mem_append_left _ h).app (k3.mono fun b h=>h.imp id fun h=>List.mem_append_right _ h)⟩
 have:=fun h=>k1 b h
 simp only [List.mem_append] at hb this ⊢
 rcases hb with (h | h) | h | h
 ·exact .inl (.inl h)
 ·exact .inr (this (.inl h))
 ·exact .inl (.inr h)
 ·exact .inr (this (.inr h))
theorem W5 {A:LN} {g:Nat→List Nat} {r:NV}:∀ {ms:MM},pX ms→qQ A ms=true→(∀ a∈ms,jh a.j A=true→MV Z a (g a.j) w r (r a.d))→
  ∃ x:o6 ms,(∀ p∈n8 A ms x,r p.1=p.2)∧HV Z w (qP A ms x) (zS A g ms):=by
 intro ms
 induction ms with
 | nil=>intro _ _ _; exact ⟨(),fun p hp=>absurd hp List.not_mem_nil,[],[],fun b (h:b∈[])=>absurd h List.not_mem_nil,fun b (h:b∈[])=>absurd h List.not_mem_nil,.nil⟩
 | cons a ms ih=>
  intro hi kc h
  unfold qQ at kc
  rw [Bool.and_eq_true] at kc
  cases hi with
  | cons h1 h2=>
   obtain ⟨x,hx,hl⟩:=ih h2 kc.2 fun b hb=>h b (List.mem_cons_of_mem _ hb)
   cases hb:jh a.j A with
   | false=>
    obtain ⟨v⟩:=h1.ne
    refine ⟨(v,x),?_,?_⟩
    ·simp only [n8,hb,cond_false]; exact hx
    ·simp only [qP,zS,hb,cond_false]; exact hl
   | true=>
    obtain ⟨v,e1,e2,_⟩:=h a (by simp) hb
    have es:xr a r=zQ a (mF ms x):=by
     have h3:=kc.1
     rw [hb,cond_true,List.all_eq_true] at h3
     refine AU fun t ht=>?_
     have h4:=h3 t ht
     cases hj:rz t ms with
     | none=>rw [hj] at h4; cases h4
     | some j=>rw [hj] at h4; unfold wX; rw [FC hj h4 hx]
    rw [es] at e1 e2
    refine ⟨(v,x),?_,?_⟩
    ·simp only [n8,hb,cond_true]
     intro p hp
     rcases List.mem_cons.1 hp with rfl | hp
     ·exact e1
     ·exact hx p hp
    ·simp only [qP,zS,hb,cond_true]; exact HV.app e2 hl
theorem NX {t j:Nat}:∀ {ms:MM},rz t ms=some j→∃ a∈ms,a.j=j∧a.d=t:=by
 intro ms
 induction ms with
 | nil=>intro h; cases h
 | cons a l ih=>
  intro h
  unfold rz at h
  cases hb:Nat.beq t a.d with
  | true=>rw [hb] at h; cases h; exact ⟨a,by simp,rfl,(Nat.eq_of_beq_eq_true hb).symm⟩
  | false=>rw [hb] at h; obtain ⟨b,h1,h2⟩:=ih h; exact ⟨b,List.mem_cons_of_mem _ h1,h2⟩
theorem Io {mt i:Nat} {A:LN} (hA:A=(ml l U mt).getD i []) {S':List ir} {sl:LQ} {ms:MM} {t:Nat} (hR:je Z l S' sl ms) (hj:∃ j,rz t ms=some j∧jh j A=true):∃ j∈(cb l).getD i [],bw l j=some t:=by
 obtain ⟨j,h1,h2⟩:=hj
 obtain ⟨a,ha,rfl,rfl⟩:=NX h1
 exact hR.slot ha (qg (by rw [← hA]; exact oh.1 h2)).1
theorem zx {mt:Nat} {A:LN} {S' S2:List ir} {sl:LQ} {ms:MM} {g:Nat→List Nat} {r:NV} (hR:je Z l S' sl ms) (hA:A=(ml l U mt).getD S'.length []) (hi:pX ms) (kc:qQ A ms=true) (hn:∀ j,sf l U mt S'.length j=true→vL l (S'++S2) j g r w) :
  ∃ x:o6 ms,(∀ p∈n8 A ms x,r p.1=p.2)∧HV Z w (qP A ms x) (zS A g ms):=
 W5 hi kc fun a hm hb=>by
  exact hR.FI hm (hn a.j (qg (by rw [← hA]; exact oh.1 hb)).2)
theorem kv.mem {mt:Nat} {A:LN} {op:Op} {d:Nat} {ty:TI} {as:LL} {ops:LO} {i:Nat} {sl:LQ} {ms:MM} {r0:NV} {w0:World} {H:LN} {a:iw} (h:kv P Z l mt U r0 w0 H i sl ms) (h1:qt l mt U A op d ty as ops i) (haj:a.j=i) (had:a.d=d)
  (kc:∀ S',je Z l S' sl ms→∀ t∈a.src,∃ j∈(cb l).getD i [],bw l j=some t)
  (hq:∀ S' S2,S'.length=i→je Z l S' sl ms→∀ (g:Nat→List Nat) (r:NV) (w:World),ao H w0 w→(∀ j∈(cb l).getD S'.length [],Old l (S'++S2) j r)→(∀ j,sf l U mt S'.length j=true→vL l (S'++S2) j g r w)→(∀ t,(∀ j,j < mt→bw l j≠some t)→r t=r0 t)→∀ pos ah,
   ig P ⟨some d,op,ty,pos,ah,none⟩ r w fun v w'=>ao [] w w'∧∃ f,(∀ b∈f,w.heap.size≤b∧b < w'.heap.size)∧MV Z a f w' r v):kv P Z l mt U r0 w0 H (i+1) sl (a :: ms):=by
 obtain ⟨S',hl,hR,hO⟩:=h
 subst hl
 subst had
 obtain ⟨hA,⟨pos,ah,ho⟩,_⟩:=h1
 refine ⟨S'++[⟨true,MV Z a⟩],by simp,hR.mem haj (by unfold bw; rw [ho]; rfl) (kc S' hR),fun j hj=>?_⟩
 by_cases h2:j < S'.length
 ·exact kh.more (hO j h2) h2
 ·obtain rfl:j=S'.length:=by omega
  exact kh.NY (V:=MV Z a) ho (by simp) rfl fun g r w hC hO hn lr=>hq S' _ rfl hR g r w hC hO hn lr pos ah
theorem uc.sub {ms zy:MM} {a:iw} {t:Nat} (h:uc ms t a zy):a∈ms∧a.d=t∧(∀ b∈zy,b∈ms)∧(zy.map (·.j)).Sublist (ms.map (·.j)):=by
 induction h with
 | here=>exact ⟨by simp,rfl,fun b hb=>List.mem_cons_of_mem _ hb,by simp⟩
 | there _ ih=>
  obtain ⟨h1,h2,h3,h4⟩:=ih
  refine ⟨List.mem_cons_of_mem _ h1,h2,fun b hb=>?_,by simpa using h4⟩
  rcases List.mem_cons.1 hb with rfl | hb
  ·simp
  ·exact List.mem_cons_of_mem _ (h3 b hb)
theorem je.sub {S':List ir} {sl:LQ} {ms zy:MM} (h:je Z l S' sl ms) (hm:∀ b∈zy,b∈ms) (hn:(zy.map (·.j)).Sublist (ms.map (·.j))):je Z l S' sl zy:=⟨h.v,fun a ha=>h.m a (hm a ha),h.s,h.d.sublist hn,h.t⟩
theorem Rb {mt:Nat} {t e et:TI} {E:ai Int} {z0:Int} {bt t1 t2 j2 d2 i d:Nat} {k:IntKind} {y:Int} {xs:List Int} {a1:iw} {ms o7 FH:MM} {sl:LQ} {A:LN} {ty:TI} {as:LL} {ops:LO} {r0:NV} {w0:World} {H:LN} (hz:sH P t Int e E z0 bt) (h1:uc ms t1 a1 o7) (h2:uc o7 t2 ⟨j2,d2,[],Nat,fun _ b=>.slice (some ⟨b,0,none⟩) 1 1,fun _ b=>[.row b [.int k y] et]⟩ FH) (h3:∀ u v,a1.ps u v=[.own (aJ e (aM k)) (a1.rt u v) xs]) (h4:jh a1.j A=true) (h5:jh j2 A=true) (h6:U.getD i []=[a1.j])
  (hf:fits bt (xs.length+1)=some ()) (Fu:qt l mt U A (.call ⟨.builtin .append,#[.tmp t1,.tmp t2],#[t,t]⟩) d ty as ops i) (h:kv P Z l mt U r0 w0 H i sl ms) :
  kv P Z l mt U r0 w0 H (i+1) sl (⟨i,d,[],Value,fun _ v=>v,fun _ v=>[.own (aJ e (aM k)) v (xs++[y])]⟩ :: o7):=by
 obtain ⟨S',hl,hR,hO⟩:=h
 subst hl
 obtain ⟨hA,⟨pos,ah,ho⟩,_⟩:=Fu
 obtain ⟨b1,b2⟩:=qp hf
 obtain ⟨q1,hE,i',z,q3,q4,q5,q6,q7,q8⟩:=hz.h
 obtain ⟨m1,m2,m3,m4⟩:=h1.sub
 obtain ⟨n1,n2,_,_⟩:=h2.sub
 refine ⟨S'++[⟨true,MV Z ⟨S'.length,d,[],Value,fun _ v=>v,fun _ v=>[.own (aJ e (aM k)) v (xs++[y])]⟩⟩],by simp,(hR.sub m3 m4).mem rfl (by unfold bw; rw [ho]; rfl) (by intro t h; cases h),fun j hj=>?_⟩
 by_cases av:j < S'.length
 ·exact kh.more (hO j av) av
 ·obtain rfl:j=S'.length:=by omega
  intro o' s' cj fc g r w hC Ei ma hn lr xt qa
  rw [ho] at cj
  cases cj
  rw [List.getElem?_append_right (Nat.le_refl _),Nat.sub_self] at fc
  cases fc
  rw [if_pos rfl]
  refine ⟨rfl,?_⟩
  have get:∀ a∈ms,jh a.j A=true→MV Z a (g a.j) w r (r a.d):=fun a hm hb=>by
   exact hR.FI hm (hn a.j (qg (by rw [← hA]; exact oh.1 hb)).2)
  obtain ⟨v1,c1,c2,c3⟩:=get a1 m1 h4
  obtain ⟨v2,f1,f2,f3⟩:=get _ (m3 _ n1) h5
  rw [h3,← c1,m2] at c2
  rw [m2] at c1
  simp only at f1 f2
  subst n2
  replace c2:=c2.own rfl
  replace f2:=f2.own rfl
  generalize D9:g a1.j=G1 at c2 c3
  generalize nq:g j2=G2 at f2 f3
  cases c2 with
  | fact h _=>exact h.elim
  | @own _ ff F0 _ NZ yz=>
   cases yz
   rw [List.append_nil] at c3
   cases f2 with
   | fact h _=>exact h.elim
   | @own _ gg F0 _ bc yz=>
    cases yz
    obtain ⟨rfl,bc⟩:=bc
    have hb:qh g (U.getD S'.length [])=ff:=by rw [h6]; simp [qh,D9]
    refine qA (ig.vy (E:=aM k) (F:=ff) q1 q3 q4 q5 rfl q6 (s:=.tmp t1) (x:=.tmp d2) rfl ⟨NZ,c3⟩ (fun b hb=>hb) f1 bc ⟨rfl,rfl⟩ (by rw [q7]; exact b1) b2) ?_
    rintro v w' ⟨FL,f',uE,hV⟩
    rw [hb]
    refine ⟨FL,f',uE,v,rfl,?_,hV.2⟩
    have:=HL.own (Z:=fun _=>False) (e:=.own (aJ e (aM k)) v (xs++[y])) (f:=f') hV.1 .nil
    exact .inl (by simpa using this)
theorem ig.AT {α:Type} {E:ai α} {F f k:LN} {t e:TI} {s x:OO} {i:TypeInfo} {z:Value} {sv yv:Value} {xs ys:List α} {r:NV} {w:World} {d:Option Nat} {ty:TI} {pos:String} {ah:Array Edge} (S4:∀ {h cs x f},E.rep h cs x f→f=[])
  (ht:P.underlying t=some (.slice e)) (hi:P.info? e=some i) (hz:i.zero=some z) (hs:i.size=1) (hE:E.size=1) (xD:z.oneCell'=true)
  (uF:ev r s=sv) (hO:DG (aJ e E) xs f w sv) (hF:∀ b∈f,b∈F) (hx:ev r x=yv) (hy:(bF E).rep w.heap [yv] ys k)
  (hb:(xs.length+ys.length) * i.bytes≤140737488355328) (wY:xs.length+ys.length≤maxLen) :
  ig P ⟨d,.call ⟨.builtin .append,#[s,x],#[t,t]⟩,ty,pos,ah,none⟩ r w fun v w'=>ao F w w'∧∃ f',(∀ b∈f',(b∈F∨w.heap.size≤b)∧b < w'.heap.size)∧DG (aJ e E) (xs++ys) f' w' v:=by
 have qF:=Ej hy
 rcases Nat.eq_zero_or_pos ys.length with xE | xE
 ·obtain rfl:ys=[]:=List.eq_nil_of_length_eq_zero xE
  obtain ⟨b0,c0,FM⟩:=vx hy
  obtain ⟨base,cap,hv,hr⟩:=hO.1
  obtain rfl:sv = .slice base xs.length cap:=by simpa using hv
  have FN:xs.length≤cap:=by
   rcases hr with ⟨_,rfl,rfl,_⟩ | ⟨_,_,_,_,_,_,h,_⟩
   ·simp
   ·exact h
  have km:=xF (P:=P) (w:=w) (ty:=ty) ht hi (b:=base) (a:=b0) (c:=c0) FN
  subst FM
  have yA:(execOp (ev r) ⟨d,.call ⟨.builtin .append,#[s,x],#[t,t]⟩,ty,pos,ah,none⟩).run P w = .ok (.value (.slice base xs.length cap)) w:=by
   simp only [execOp,resolve,invoke,builtin,Sem.run_bind,Sem.run_pure,Result.andThen_ok,List.map_toArray,List.map_cons,List.map_nil,uF,hx,List.length_nil,km]
  unfold ig
  rw [yA]
  exact ⟨ao.refl _ _,f,fun b hb=>⟨.inl (hF b hb),ai.lt _ hO.1 b hb⟩,by rw [List.append_nil]; exact hO⟩
 ·rcases qF with rfl | ⟨a,c,news,g1,FM,yB,dq,_⟩
  ·simp at xE
  ·obtain ⟨rfl,_⟩:=zT (h':=w.heap) S4 dq
   obtain ⟨v,w',f',h,hC,EV,du,dw⟩:=pt (d:=d) (ty:=ty) (pos:=pos) (ah:=ah) (g:=none) ht hi hz (by rw [hs,hE]) (by rw [cells_one xD,hE]; rfl) uF hO.1 hO.2 (hx.trans FM) yB dq (fun _ h=>nomatch h) xE hb wY
   unfold ig
   rw [h]
   refine ⟨hC.mono hF,f',fun b hb=>⟨?_,ai.lt _ EV b hb⟩,EV,dw List.nodup_nil⟩
   rcases du b hb with h | h | h
   ·exact .inl (hF b h)
   ·cases h
   ·exact .inr h
theorem uk {t:TI} {x y:OO} {i:TypeInfo} {b off:Nat} {cs us:LV} {e:TI} {r:NV} {d:Option Nat} {ty:TI} {pos:String} {ah:Array Edge} {gg:Option (Nat×Bool)}
  (hi:P.info? t=some i) (hs:us.length=i.size) (bc:Row w b cs e) (hl:off+us.length≤cs.length) (hx:ev r x = .pointer (some ⟨b,off,none⟩)) (hy:(ev r y).cells.toList=us) (hu:∀ u∈us,u.oneCell'=true) :
  (execOp (ev r) ⟨d,.store t x y,ty,pos,ah,gg⟩).run P w = .ok .skip (w.setRow b (cs.take off++us++cs.drop (off+us.length)).toArray):=by
 have h:=run_storeCells_at P b off e us 0 cs.toArray w bc (by simpa using hl) hu
 simp only [Nat.add_zero] at h
 have sb:(ev r y).cells=us.toArray:=by rw [← hy]
 simp only [execOp,Instr.storeAt,Instr.sureAddr,hx,storeVar]
 simp [sb,sizeOf,typeInfo,hi,hs,h]
theorem Rc {mt:Nat} {t e:TI} {t1 j1 n i:Nat} {y:OO} {u:Value} {us cs ds:LV} {ms o7:MM} {sl:LQ} {A:LN} {ty:TI} {as:LL} {ops:LO} {r0:NV} {w0:World} {H:LN} {Γ:QE} {F:LN} (hh:mm l mt base=true) (ha:cw r0 base) (ht:wS P t n)
  (h1:uc ms t1 ⟨j1,t1,[],Nat,fun _ b=>.pointer (some ⟨b,0,none⟩),fun _ b=>[.row b cs e]⟩ o7) (hv:cL A none sl base fr) (hy:bp fr y=some u) (hc:rn Γ u us) (r7:us.length=n) (hs:sk us 0 cs ds) (ho:tT Γ us) (h4:jh j1 A=true) (h6:U.getD i []=[j1])
  (hS:∀ w,ao H w0 w→SA Z w Γ [] F) (Fu:S3 l mt U A (.store t (.tmp t1) y) ty as ops i) (h:kv P Z l mt U r0 w0 H i sl ms) :
  kv P Z l mt U r0 w0 H (i+1) sl (⟨i,t1,[],Nat,fun _ b=>.pointer (some ⟨b,0,none⟩),fun _ b=>[.row b ds e]⟩ :: o7):=by
 obtain ⟨S',hl,hR,hO⟩:=h
 subst hl
 obtain ⟨hA,⟨pos,ah,XW⟩,_⟩:=Fu
 obtain ⟨ti,q1,q2⟩:=ht.h
 obtain ⟨m1,_,m3,m4⟩:=h1.sub
 have DH:=qg (by rw [← hA]; exact oh.1 h4)
 refine ⟨S'++[⟨true,Lf Z ⟨S'.length,t1,[],Nat,fun _ b=>.pointer (some ⟨b,0,none⟩),fun _ b=>[.row b ds e]⟩⟩],by simp,(hR.sub m3 m4).Zy (b:=⟨S'.length,t1,[],Nat,fun _ b=>.pointer (some ⟨b,0,none⟩),fun _ b=>[.row b ds e]⟩) rfl (by unfold bw; rw [XW]; rfl) (hR.slot m1 DH.1) rfl,fun j hj=>?_⟩
 by_cases av:j < S'.length
 ·exact kh.more (hO j av) av
 ·obtain rfl:j=S'.length:=by omega
  intro o' s' cj fc g r w hC Ei ma hn lr xt qa
  rw [XW] at cj
  cases cj
  rw [List.getElem?_append_right (Nat.le_refl _),Nat.sub_self] at fc
  cases fc
  rw [if_pos rfl]
  refine ⟨rfl,?_⟩
  obtain ⟨b,c1,c2,c3⟩:=hR.FI m1 (hn j1 DH.2)
  simp only at c1 c2
  replace c2:=c2.own rfl
  generalize D9:g j1=G1 at c2 c3
  cases c2 with
  | fact h _=>exact h.elim
  | @own _ ff F0 _ NZ yz=>
   cases yz
   obtain ⟨rfl,bc⟩:=NZ
   have hb:qh g (U.getD S'.length [])=[b]:=by rw [h6]; simp [qh,D9]
   have hr:=pj hR hA hv (l6 hh ha lr) ma
   obtain ⟨e1,e2⟩:=hs.eq
   have Fx:=hS w hC
   have km:=uk (P:=P) (d:=none) (ty:=ty) (pos:=pos) (ah:=ah) (gg:=none) q1 (by rw [r7,q2]) bc e1 (x:=.tmp t1) c1 (y:=y) (by rw [aR hr hy]; exact hc.eq Fx) (ho.one Fx)
   unfold ig
   rw [km,hb]
   have tf:=setRow_heap w b cs.toArray (cs.take 0++us++cs.drop (0+us.length)).toArray e _ bc
   have DI:b < w.heap.size:=bc.lt
   refine ⟨⟨rfl,rfl,rfl,Nat.le_refl _,by simp,fun j _ hj=>setRow_other w b j _ fun h=>hj (by simp [h])⟩,[b],fun b' bz=>?_,b,c1,?_,by simp⟩
   ·rw [List.mem_singleton.1 bz]
    exact ⟨.inl (by simp),by simpa using DI⟩
   ·refine .inl (HL.own (f:=[b]) ⟨rfl,?_⟩ .nil)
    rw [e2]
    exact tf
theorem Re {mt:Nat} {t i d:Nat} {cs:LV} {sl:LQ} {ms:MM} {A:LN} {ty:TI} {as:LL} {ops:LO} {r0:NV} {w0:World} {H:LN} (hz:Cr P t cs) (h1:qt l mt U A (.alloc t) d ty as ops i) (h:kv P Z l mt U r0 w0 H i sl ms) :
   kv P Z l mt U r0 w0 H (i+1) sl (⟨i,d,[],Nat,fun _ b=>.pointer (some ⟨b,0,none⟩),fun _ b=>[.row b cs t]⟩ :: ms):=by
 obtain ⟨i',z,t1,t2,t3⟩:=hz.h
 refine h.mem h1 rfl rfl (fun _ _ _ h=>nomatch h) fun S' S2 hl hR g r w hC ma hn lr pos ah=>qA (ig.SV (cs:=cs) t1 t2 (by rw [← t3])) ?_
 rintro v w' ⟨hC,f,hf,b,e1,e2,bc⟩
 refine ⟨hC,f,hf,b,e2,?_,by rw [e1]; simp⟩
 have:=HL.own (Z:=fun _=>False) (e:=.row b cs t) (f:=[b]) ⟨rfl,bc⟩ .nil
 rw [e1]
 exact .inl (by simpa using this)
theorem S5 {mt t n:Nat} {A:LN} {st:TI} {d:Nat} {ty:TI} {as:LL} {ops:LO} {i:Nat} {sl:LQ} {ms:MM} {r0:NV} {w0:World} {H:LN} (h:kv P Z l mt U r0 w0 H i sl ms) (h1:qt l mt U A (.call ⟨.builtin .len,#[.tmp t],#[st]⟩) d ty as ops i) (ht:vf P st) (hi:pX ms) (kc:qQ A ms=true) (hx:∀ x:o6 ms,SU (n8 A ms x) (qP A ms x) t n):kv P Z l mt U r0 w0 H (i+1) ((i,d,.int .i64 (n:Int)) :: sl) ms:=by
 obtain ⟨S',hl,hR,hO⟩:=h
 subst hl
 obtain ⟨hA,⟨pos,ah,ho⟩,_⟩:=h1
 obtain ⟨e,i',q1,_,_⟩:=ht.h
 refine ⟨S'++[sV (.int .i64 (n:Int))],by simp,hR.val (by unfold bw; rw [ho]; rfl),fun j hj=>?_⟩
 by_cases h2:j < S'.length
 ·exact kh.more (hO j h2) h2
 ·obtain rfl:j=S'.length:=by omega
  refine kh.val (v:=.int .i64 (n:Int)) ho (by simp) rfl fun g r w hC ma hn lr=>?_
  obtain ⟨x,hv,hE⟩:=zx hR hA hi kc hn
  obtain ⟨CD,SM⟩:=hx x
  have Ip:=(sJ hv AQ) t _ (by rw [List.append_nil]; exact CD)
  obtain ⟨_,_,_,_,hS⟩:=hE.front (Γ:=[]) (F:=[]) rfl
  rw [List.append_nil] at hS
  obtain ⟨b,c,rfl⟩:=SM.sound hS
  exact vI q1 (x:=.tmp t) Ip
theorem kv.dep {mt t:Nat} {A:LN} {op:Op} {d:Nat} {ty:TI} {as:LL} {ops:LO} {i:Nat} {sl:LQ} {ms:MM} {r0:NV} {w0:World} {H:LN} {X:Value→Value} (h:kv P Z l mt U r0 w0 H i sl ms) (h1:qt l mt U A op d ty as ops i) (hi:pX ms) (kc:qQ A ms=true) (hj:∃ j,rz t ms=some j∧jh j A=true)
  (hq:∀ (r:NV) (x:o6 ms),(∀ p∈n8 A ms x,r p.1=p.2)→∀ w pos ah,(execOp (ev r) ⟨some d,op,ty,pos,ah,none⟩).run P w = .ok (.value (X (r t))) w):kv P Z l mt U r0 w0 H (i+1) sl (⟨i,d,[t],Unit,fun u _=>X u,fun _ _=>[]⟩ :: ms):=by
 refine h.mem h1 rfl rfl (fun S' hR t' ht=>by rw [List.mem_singleton.1 ht]; exact Io h1.A hR hj) ?_
 intro S' S2 hl hR g r w hC ma hn lr pos ah
 obtain ⟨x,hx,_⟩:=zx hR (by rw [hl]; exact h1.A) hi kc hn
 unfold ig
 rw [hq r x hx]
 exact ⟨ao.refl _ _,[],fun b hb=>absurd hb List.not_mem_nil,(),rfl,.inl .nil,List.nodup_nil⟩
theorem Rf {mt:Nat} {t:TI} {ps:List (Nat×Operand)} {zc:LV} {pl:List (Nat×Nat)} {A:LN} {as:LL} {d:Nat} {ty:TI} {ops:LO} {i:Nat} {sl:LQ} {ms:MM} {fr:Fr} {hd Γ:QE} {B:Bs} {r0:NV} {w0:World} {H:LN} {X:Value→List Value} {ts:LN} (hh:mm l mt base=true) (hb:Cs P t zc pl) (hi:pX ms) (kc:qQ A ms=true) (hj:XS A ms ts=true) (hv:cL A none sl base fr)
   (hx:∀ x:o6 ms,vl (qP A ms x++Γ) (n8 A ms x++fr) pl ps zc (X (zP (wX (mF ms x)) ts))) (h1:qt l mt U A (.build t ps.toArray) d ty as ops i) (ha:cw r0 base) (hs:rA B Z hd Γ H w0) (h:kv P Z l mt U r0 w0 H i sl ms) :
   kv P Z l mt U r0 w0 H (i+1) sl (⟨i,d,ts,Unit,fun u _=>.agg (X u).toArray,fun _ _=>[]⟩ :: ms):=by
 have XX:∀ t∈ts,∃ j,rz t ms=some j∧jh j A=true:=fun t ht=>by
  have:=List.all_eq_true.1 hj t ht
  cases hf:rz t ms with
  | none=>rw [hf] at this; cases this
  | some j=>rw [hf] at this; exact ⟨j,rfl,this⟩
 refine h.mem h1 rfl rfl (fun S' hR t' ht=>Io h1.A hR (XX t' ht)) ?_
 intro S' S2 hl hR g r w hC ma hn lr pos ah
 have hA:=h1.A
 rw [← hl] at hA
 have hbs:=pj hR hA hv (l6 hh ha lr) ma
 obtain ⟨x,XY,tj⟩:=zx hR hA hi kc hn
 obtain ⟨F,Hd,⟨zU,zV,u7,zW⟩,hS,hG⟩:=hs
 obtain ⟨G,_,_,_,gw⟩:=tj.front (rA.stay hS hG hC)
 have e:zP (wX (mF ms x)) ts=zP r ts:=AU fun t ht=>by
  obtain ⟨j,h2,h3⟩:=XX t ht
  unfold wX
  rw [FC h2 h3 XY]
 have hF:=hx x
 rw [e] at hF
 have km:=(VQ.Qa (P:=P) (hb:=hb) hF).sound gw (sJ XY hbs) (some d) ty pos ah none w (ao.refl _ _)
 unfold ig
 rw [km]
 exact ⟨ao.refl _ _,[],fun b hb=>absurd hb List.not_mem_nil,(),rfl,.inl .nil,List.nodup_nil⟩
theorem Rh {mt:Nat} {α:Type} {t e:TI} {E:ai α} {z0:α} {bt i d:Nat} {sl:LQ} {ms:MM} {A:LN} {ty:TI} {as:LL} {ops:LO} {r0:NV} {w0:World} {H:LN} (hz:sH P t α e E z0 bt) (h1:qt l mt U A (.buildSlice t 0 #[]) d ty as ops i) (h:kv P Z l mt U r0 w0 H i sl ms) :
   kv P Z l mt U r0 w0 H (i+1) sl (⟨i,d,[],Value,fun _ v=>v,fun _ v=>[.own (aJ e E) v []]⟩ :: ms):=by
 obtain ⟨t1,_,i',z,t2,_⟩:=hz.h
 refine h.mem h1 rfl rfl (fun _ _ _ h=>nomatch h) fun S' S2 hl hR g r w hC ma hn lr pos ah=>qA (ig.made (yC (E:=E) t1 t2)) ?_
 rintro v w' ⟨hC,f,hf,hV⟩
 refine ⟨hC,f,hf,v,rfl,?_,hV.2⟩
 have:=HL.own (Z:=fun _=>False) (e:=.own (aJ e E) v []) (f:=f) hV.1 .nil
 exact .inl (by simpa using this)
theorem S6 {mt n:Nat} {α:Type} {t e:TI} {E:ai α} {z0:α} {bt i d:Nat} {sl:LQ} {ms:MM} {A:LN} {ty:TI} {as:LL} {ops:LO} {r0:NV} {w0:World} {H:LN} {x:OO} {z:Int} (hh:mm l mt base=true) (ha:cw r0 base) (hz:sH P t α e E z0 bt) (hv:cL A none sl base fr) (hx:bp fr x=some (.int .i64 z)) (hn:mk bt z=some n) (h1:qt l mt U A (.makeSlice t x x) d ty as ops i) (h:kv P Z l mt U r0 w0 H i sl ms) :
   kv P Z l mt U r0 w0 H (i+1) sl (⟨i,d,[],Value,fun _ v=>v,fun _ v=>[.own (aJ e E) v (List.replicate n z0)]⟩ :: ms):=by
 obtain ⟨e1,e2,e3⟩:=DE hn
 obtain ⟨t1,hE,i',z',t2,t3,t4,t5,t6,t7⟩:=hz.h
 subst e1
 refine h.mem h1 rfl rfl (fun _ _ _ h=>nomatch h) fun S' S2 hl hR g r w hC ma hn lr pos ah=>?_
 have hb:=pj hR (by rw [hl]; exact h1.A) hv (l6 hh ha lr) ma
 refine qA (ig.made (FP (E:=E) (z0:=z0) t1 t2 t3 t4 hE t5 t7 (aR hb hx) (aR hb hx) (by rw [t6]; exact e2) e3)) ?_
 rintro v w' ⟨hC,f,hf,hV⟩
 refine ⟨hC,f,hf,v,rfl,?_,hV.2⟩
 have:=HL.own (Z:=fun _=>False) (e:=.own (aJ e E) v (List.replicate n z0)) (f:=f) hV.1 .nil
 exact .inl (by simpa using this)
theorem S7 {mt:Nat} {α:Type} {t e:TI} {E:ai α} {z0:α} {bt i d:Nat} {sl:LQ} {ms:MM} {A:LN} {ty:TI} {as:LL} {ops:LO} {r0:NV} {w0:World} {H:LN} {x:OO} {u:Value} {Γ:QE} {F:LN} (hh:mm l mt base=true) (ha:cw r0 base) (hz:sH P t α e E z0 bt) (hv:cL A none sl base fr) (hx:bp fr x=some u) (ho:One Γ u) (hS:∀ w,ao H w0 w→SA Z w Γ [] F) (h1:qt l mt U A (.buildSlice t 1 #[(0,x)]) d ty as ops i) (h:kv P Z l mt U r0 w0 H i sl ms) :
   kv P Z l mt U r0 w0 H (i+1) sl (⟨i,d,[],Nat,fun _ b=>.slice (some ⟨b,0,none⟩) 1 1,fun _ b=>[.row b [u] e]⟩ :: ms):=by
 obtain ⟨t1,hE,i',z',t2,t3,t4,t5,t6,t7⟩:=hz.h
 refine h.mem h1 rfl rfl (fun _ _ _ h=>nomatch h) fun S' S2 hl hR g r w hC ma hn lr pos ah=>?_
 have hb:=pj hR (by rw [hl]; exact h1.A) hv (l6 hh ha lr) ma
 refine qA (ig.Fg t1 t2 t3 t4 (aR hb hx) (ho.one (hS w hC))) ?_
 rintro v w' ⟨hC,f,hf,b,e1,e2,bc⟩
 refine ⟨hC,f,hf,b,e2,?_,by rw [e1]; simp⟩
 have:=HL.own (Z:=fun _=>False) (e:=.row b [u] e) (f:=[b]) ⟨rfl,bc⟩ .nil
 rw [e1]
 exact .inl (by simpa using this)
theorem Iq {mt n:Nat} {t e:TI} {i d:Nat} {sl:LQ} {ms:MM} {A:LN} {ty:TI} {as:LL} {ops:LO} {r0:NV} {w0:World} {H:LN} {ps:List (Nat×Operand)} {us:LV} {Γ:QE} {F:LN} (hh:mm l mt base=true) (ha:cw r0 base) (hz:KY P t e) (hv:cL A none sl base fr) (hd:tV Γ fr 0 ps us) (hn:us.length=n) (hb:(Nat.ble 1 n && Nat.ble n 16777216)=true) (hS:∀ w,ao H w0 w→SA Z w Γ [] F) (h1:qt l mt U A (.buildSlice t n ps.toArray) d ty as ops i) (h:kv P Z l mt U r0 w0 H i sl ms) :
   kv P Z l mt U r0 w0 H (i+1) sl (⟨i,d,[],Nat,fun _ b=>.slice (some ⟨b,0,none⟩) n n,fun _ b=>[.row b us e]⟩ :: ms):=by
 refine h.mem h1 rfl rfl (fun _ _ _ h=>nomatch h) fun S' S2 hl hR g r w hC ma hnn lr pos ah=>?_
 have bz:=pj hR (by rw [hl]; exact h1.A) hv (l6 hh ha lr) ma
 unfold ig
 rw [hd.op bz (hS w hC) hz hn hb]
 refine ⟨ao.alloc _ _ _,[w.heap.size],fun b hb=>by rw [List.mem_singleton.1 hb]; simp,w.heap.size,rfl,?_,by simp⟩
 have:=HL.own (Z:=fun _=>False) (e:=.row w.heap.size us e) (f:=[w.heap.size]) ⟨rfl,heap_alloc_new w _⟩ .nil
 exact .inl (by simpa using this)
theorem N0 {mt:Nat} {β V:Type} {A:LN} {as:LL} {d:Nat} {f:FuncId} {xs:List Operand} {bn:Array TypeId} {ty:TI} {mo:Option β} {rt:β→V→List Value} {ps:β→V→List ay} {ops:LO} {i:Nat} {sl:LQ} {ms:MM} {fr:Fr} {hd Γ:QE} {B:Bs} {r0:NV} {w0:World} {H:LN} {y:β} (hh:mm l mt base=true) (hf:bu P f) (hv:cL A none sl base fr)
   (hc:∀ x:o6 ms,Jr P f xs (n8 A ms x++fr) (qP A ms x++Γ) mo rt ps) (hi:pX ms) (kc:qQ A ms=true) (hw:∀ y v,rj (ps y v)=true) (h1:qt l mt U A (.call ⟨.value (.func f),xs.toArray,bn⟩) d ty as ops i) (hy:mo=some y) (ha:cw r0 base) (hs:rA B Z hd Γ H w0) (h:kv P Z l mt U r0 w0 H i sl ms) :
   FK P Z l mt U r0 w0 H i sl ms ⟨i,d,[],V,fun _ v=>qO (rt y v),fun _=>ps y⟩:=by
 obtain ⟨S',hl,hR,hO⟩:=h
 subst hl
 refine ⟨S',rfl,hR,hO,fun V' hV=>?_⟩
 obtain ⟨hA,⟨pos,ah,ho⟩,_⟩:=h1
 refine kh.NY (V:=V') ho (by simp) rfl fun g r w hC ma hn lr=>?_
 have hb:=pj hR hA hv (l6 hh ha lr) ma
 obtain ⟨x,hx,tj⟩:=zx hR hA hi kc hn
 obtain ⟨FQ,zX,hd,hr⟩:=hc x
 obtain ⟨fn,c,f1,f2,f3⟩:=hf.h
 refine Calls.Jk f1 f2 f3 ?_
 rw [sE (sJ hx hb) FQ]
 obtain ⟨F,Hd,⟨zU,zV,u7,zW⟩,hS,hG⟩:=hs
 obtain ⟨G,mj,FV,zY,gw⟩:=tj.front (rA.stay hS hG hC)
 rw [se] at zX
 refine (zX.2 w (fun b=>Z b∨b∈G) [] (hr.sound (fun _ h=>h) (fun _ b hb=>.inr (zY b hb)) gw hd.ho) List.nodup_nil (fun b hb=>absurd hb List.not_mem_nil)
  (fun b hb=>hb.elim (fun h=>Nat.lt_of_lt_of_le (hG.ri b h) hC.size) fun h=>(mj b h).2) y hy).mono ?_
 rintro e w' ⟨v,he,Z2,F2,qT,nq⟩
 have zZ:HL (fun _=>False) w' (ps y v) F2:=zO (hw y v) qT
 have av:=(zZ.front (Γ:=[]) (F:=[]) rfl).lt
 obtain ⟨f',du,FR⟩:=hV F2 w' r _ ⟨v,rfl,.inl zZ,nq.nd⟩
 refine ⟨_,he,nq.lq,f',fun b hb=>⟨(nq.low b (du b hb)).resolve_left List.not_mem_nil,av b (by simpa using du b hb)⟩,FR⟩
theorem Ll {mt:Nat} {β V:Type} {A:LN} {as:LL} {d:Nat} {f:FuncId} {fs bs:LV} {xo:OO} {xs:List Operand} {bn:Array TypeId} {ty:TI} {mo:Option β} {rt:β→V→List Value} {ps:β→V→List ay} {ops:LO} {i:Nat} {sl:LQ} {ms:MM} {fr:Fr} {hd Γ:QE} {B:Bs} {r0:NV} {w0:World} {H:LN} {y:β} (hh:mm l mt base=true) (hf:bu P f) (hv:cL A none sl base fr)
   (S8:bp fr xo=some (.func (.func f) fs.toArray bs.toArray)) (hc:∀ x:o6 ms,Js P f fs bs xs (n8 A ms x++fr) (qP A ms x++Γ) mo rt ps) (hi:pX ms) (kc:qQ A ms=true) (hw:∀ y v,rj (ps y v)=true) (h1:qt l mt U A (.call ⟨.value xo,xs.toArray,bn⟩) d ty as ops i) (hy:mo=some y) (ha:cw r0 base) (hs:rA B Z hd Γ H w0) (h:kv P Z l mt U r0 w0 H i sl ms) :
   FK P Z l mt U r0 w0 H i sl ms ⟨i,d,[],V,fun _ v=>qO (rt y v),fun _=>ps y⟩:=by
 obtain ⟨S',hl,hR,hO⟩:=h
 subst hl
 refine ⟨S',rfl,hR,hO,fun V' hV=>?_⟩
 obtain ⟨hA,⟨pos,ah,ho⟩,_⟩:=h1
 refine kh.NY (V:=V') ho (by simp) rfl fun g r w hC ma hn lr=>?_
 have hb:=pj hR hA hv (l6 hh ha lr) ma
 obtain ⟨x,hx,tj⟩:=zx hR hA hi kc hn
 obtain ⟨FQ,k1,k2,zX,hd,hr⟩:=hc x
 obtain ⟨fn,c,f1,f2,f3⟩:=hf.h
 unfold ig
 rw [Fw (aR hb S8) f1 f2 f3,sE (sJ hx hb) FQ,List.append_assoc,k1.eq,k2.eq]
 obtain ⟨F,Hd,⟨zU,zV,u7,zW⟩,hS,hG⟩:=hs
 obtain ⟨G,mj,FV,zY,gw⟩:=tj.front (rA.stay hS hG hC)
 rw [se] at zX
 refine (zX.2 w (fun b=>Z b∨b∈G) [] (hr.sound (fun _ h=>h) (fun _ b hb=>.inr (zY b hb)) gw hd.ho) List.nodup_nil (fun b hb=>absurd hb List.not_mem_nil)
  (fun b hb=>hb.elim (fun h=>Nat.lt_of_lt_of_le (hG.ri b h) hC.size) fun h=>(mj b h).2) y hy).mono ?_
 rintro e w' ⟨v,he,Z2,F2,qT,nq⟩
 have zZ:HL (fun _=>False) w' (ps y v) F2:=zO (hw y v) qT
 have av:=(zZ.front (Γ:=[]) (F:=[]) rfl).lt
 obtain ⟨f',du,FR⟩:=hV F2 w' r _ ⟨v,rfl,.inl zZ,nq.nd⟩
 refine ⟨_,he,nq.lq,f',fun b hb=>⟨(nq.low b (du b hb)).resolve_left List.not_mem_nil,av b (by simpa using du b hb)⟩,FR⟩
theorem FU {A:LN} {g:Nat→List Nat} {b:Nat}:∀ {ms:MM},b∈zS A g ms→∃ a∈ms,jh a.j A=true∧b∈g a.j:=by
 intro ms
 induction ms with
 | nil=>intro h; exact absurd h List.not_mem_nil
 | cons a l ih=>
  intro h
  unfold zS at h
  cases hb:jh a.j A with
  | true=>
   rw [hb] at h
   rcases List.mem_append.1 h with h | h
   ·exact ⟨a,by simp,hb,h⟩
   ·obtain ⟨c,h1,h2⟩:=ih h; exact ⟨c,List.mem_cons_of_mem _ h1,h2⟩
  | false=>rw [hb] at h; obtain ⟨c,h1,h2⟩:=ih h; exact ⟨c,List.mem_cons_of_mem _ h1,h2⟩
theorem FW {mt i:Nat} (h:((U.set i []).all fun us=>!(us.contains l.length))=true):yD l U mt i=true:=by
 unfold yD
 simp only [List.all_eq_true,List.mem_range,Bool.or_eq_true,Bool.not_eq_true'] at h ⊢
 intro k _
 by_cases hk:k=i
 ·exact .inl (.inr (by rw [hk]; exact Nat.beq_refl i))
 ·refine .inl (.inl ?_)
  rw [List.getD_eq_getElem?_getD]
  cases hu:U[k]? with
  | none=>rfl
  | some us=>exact h us (List.mem_of_getElem? (i:=k) (by rw [List.getElem?_set_ne (fun e=>hk e.symm)]; exact hu))
theorem HO.mono {Z':Nat→Prop} (hz:∀ b,Z b→Z' b) {Δ:QE} {F:LN} (h:HO Z w Δ F):HO Z' w Δ F:=by
 induction h with
 | nil=>exact .nil
 | own h _ ih=>exact .own (h.mono hz) ih
 | rd _ ih=>exact .rd ih
 | bn _ ih=>exact .bn ih
theorem Lm {mt:Nat} {β V:Type} {A:LN} {as:LL} {d:Nat} {f:FuncId} {xs:List Operand} {bn:Array TypeId} {ty:TI} {mo:Option β} {rt:β→V→List Value} {ps:β→V→List ay} {ops:LO} {i:Nat} {sl:LQ} {ms:MM} {fr:Fr} {hd Γ:QE} {B:Bs} {r0:NV} {w0:World} {H:LN} {y:β} (hh:mm l mt base=true) (hf:bu P f) (hv:cL A none sl base fr)
   (hU:U.getD i []=[l.length]) (Lo:((U.set i []).all fun us=>!(us.contains l.length))=true)
   (hc:∀ x:o6 ms,CC P f xs (n8 A ms x++fr) hd (qP A ms x++Γ) mo rt ps) (hi:pX ms) (kc:qQ A ms=true) (hw:∀ y v,rj (ps y v)=true) (h1:qt l mt U A (.call ⟨.value (.func f),xs.toArray,bn⟩) d ty as ops i) (hy:mo=some y) (ha:cw r0 base) (hs:rA B Z hd Γ H w0) (h:kv P Z l mt U r0 w0 H i sl ms) :
   FK P Z l mt U r0 w0 H i sl ms ⟨i,d,[],V,fun _ v=>qO (rt y v),fun _=>ps y⟩:=by
 obtain ⟨S',hl,hR,hO⟩:=h
 subst hl
 refine ⟨S',rfl,hR,hO,fun V' hV=>?_⟩
 obtain ⟨hA,⟨pos,ah,ho⟩,_⟩:=h1
 intro o' s' cj fc g r w hC Ei ma hn lr xt qa
 rw [ho] at cj
 cases cj
 rw [List.getElem?_append_right (Nat.le_refl _),Nat.sub_self] at fc
 cases fc
 rw [if_pos rfl]
 refine ⟨rfl,?_⟩
 obtain ⟨S9,Ta,Tb⟩:=Ei (FW Lo)
 have hb:=pj hR hA hv (l6 hh ha lr) ma
 obtain ⟨x,hx,tj⟩:=zx hR hA hi kc hn
 obtain ⟨FQ,zX,Tc,hr⟩:=hc x
 obtain ⟨fn,c,f1,f2,f3⟩:=hf.h
 refine Calls.Jk f1 f2 f3 ?_
 rw [sE (sJ hx hb) FQ]
 obtain ⟨F,Hd,⟨zU,zV,u7,zW⟩,hS,hG⟩:=hs
 obtain ⟨G,mj,FV,zY,gw⟩:=tj.front (rA.stay hS hG hC)
 obtain ⟨Fd,F',Td,_,FX⟩:=Tc.sound (zU.ko S9)
 have du:∀ b∈Fd,b∈H:=fun b hb=>(zV b (FX.mem_iff.1 (List.mem_append_left _ hb))).1
 have dw:=List.nodup_append.1 hG.nd
 have hblk:qh g (U.getD S'.length [])=H:=by rw [hU]; simp [qh,Ta]
 rw [hblk]
 rw [se] at zX
 refine (zX.2 w (fun b=>Z b∨b∈G) Fd (hr.sound (fun _ h=>h) (fun _ b hb=>.inr (zY b hb)) gw (Td.mono fun _ h=>.inl h)) ((FX.nodup_iff.2 zW).sublist (List.sublist_append_left _ _)) (fun b hb=>?_)
  (fun b hb=>hb.elim (fun h=>Nat.lt_of_lt_of_le (hG.ri b h) hC.size) fun h=>(mj b h).2) y hy).mono ?_
 ·rintro (hz | hz)
  ·exact hG.apart b (List.mem_append_left _ (du b hb)) hz
  ·rcases List.mem_append.1 (mj b hz).1 with hz | hz
   ·obtain ⟨a,XZ,mi,sa⟩:=FU hz
    have h2:=Tb a.j (qg (by rw [← hA]; exact oh.1 mi)).1 b sa
    have h3:=u7 b (du b hb)
    omega
   ·exact dw.2.2 b (du b hb) b hz rfl
 ·rintro e w' ⟨v,he,Z2,F2,qT,nq⟩
  have zZ:HL (fun _=>False) w' (ps y v) F2:=zO (hw y v) qT
  have av:=(zZ.front (Γ:=[]) (F:=[]) rfl).lt
  obtain ⟨f',Lp,FR⟩:=hV F2 w' r _ ⟨v,rfl,.inl zZ,nq.nd⟩
  exact ⟨_,he,nq.lq.mono du,f',fun b hb=>⟨(nq.low b (Lp b hb)).imp (du b) id,av b (by simpa using Lp b hb)⟩,FR⟩
theorem BT.sub {ms zy:MM} {a:iw} {t:Nat} (h:BT ms t a zy):a∈ms∧a.j=t∧(∀ b∈zy,b∈ms)∧(zy.map (·.j)).Sublist (ms.map (·.j))∧((ms.map (·.j)).Nodup→∀ b∈zy,b.j≠t):=by
 induction h with
 | here=>exact ⟨by simp,rfl,fun b hb=>List.mem_cons_of_mem _ hb,by simp,fun hn b hb he=>by rw [List.map_cons,List.nodup_cons] at hn; exact hn.1 (by rw [← he]; exact List.mem_map_of_mem hb)⟩
 | there _ ih=>
  obtain ⟨h1,h2,h3,h4,h5⟩:=ih
  refine ⟨List.mem_cons_of_mem _ h1,h2,fun b hb=>?_,by simpa using h4,fun hn b hb=>?_⟩
  ·rcases List.mem_cons.1 hb with rfl | hb
   ·simp
   ·exact List.mem_cons_of_mem _ (h3 b hb)
  ·rw [List.map_cons,List.nodup_cons] at hn
   rcases List.mem_cons.1 hb with rfl | hb
   ·intro he
    exact hn.1 (by rw [he,← h2]; exact List.mem_map_of_mem h1)
   ·exact h5 hn.2 b hb
theorem Lq {mt:Nat} {β V:Type} {j1:Nat} {a1:iw} {A:LN} {as:LL} {d:Nat} {f:FuncId} {xs:List Operand} {bn:Array TypeId} {ty:TI} {mo:Option β} {rt:β→V→List Value} {ps:β→V→List ay} {ops:LO} {i:Nat} {sl:LQ} {ms o7:MM} {fr:Fr} {hd Γ:QE} {B:Bs} {r0:NV} {w0:World} {H:LN} {y:β} (hh:mm l mt base=true) (hf:bu P f) (hv:cL A none sl base fr)
   (hU:U.getD i []=[j1]) (D9:BT ms j1 a1 o7) (Qe:a1.src=[]) (h4:jh j1 A=true)
   (hc:∀ (q:a1.V) (x:o6 o7),CC P f xs (n8 A o7 x++fr) (a1.ps undef q) (qP A o7 x++Γ) mo rt ps) (hi:pX o7) (kc:qQ A o7=true) (hw:∀ y v,rj (ps y v)=true) (h1:qt l mt U A (.call ⟨.value (.func f),xs.toArray,bn⟩) d ty as ops i) (hy:mo=some y) (ha:cw r0 base) (hs:rA B Z hd Γ H w0) (h:kv P Z l mt U r0 w0 H i sl ms) :
   FK P Z l mt U r0 w0 H i sl o7 ⟨i,d,[],V,fun _ v=>qO (rt y v),fun _=>ps y⟩:=by
 obtain ⟨S',hl,Te,hO⟩:=h
 subst hl
 obtain ⟨m1,m2,m3,m4,m5⟩:=D9.sub
 have hR:=Te.sub m3 m4
 refine ⟨S',rfl,hR,hO,fun V' hV=>?_⟩
 obtain ⟨hA,⟨pos,ah,ho⟩,_⟩:=h1
 intro o' s' cj fc g r w hC Ei ma hn lr xt qa
 rw [ho] at cj
 cases cj
 rw [List.getElem?_append_right (Nat.le_refl _),Nat.sub_self] at fc
 cases fc
 rw [if_pos rfl]
 refine ⟨rfl,?_⟩
 have DH:=qg (by rw [← hA]; exact oh.1 h4)
 have hb:=pj hR hA hv (l6 hh ha lr) ma
 obtain ⟨x,hx,tj⟩:=zx hR hA hi kc hn
 obtain ⟨q,_,Ir,X0⟩:=Te.FI m1 (hn a1.j (by rw [m2]; exact DH.2))
 have uF:xr a1 r=undef:=by unfold xr; rw [Qe]; rfl
 rw [uF,m2] at Ir
 rw [m2] at X0
 obtain ⟨FQ,zX,Tc,hr⟩:=hc q x
 obtain ⟨fn,c,f1,f2,f3⟩:=hf.h
 refine Calls.Jk f1 f2 f3 ?_
 rw [sE (sJ hx hb) FQ]
 obtain ⟨F,Hd,⟨zU,zV,u7,zW⟩,hS,hG⟩:=hs
 have hSt:=rA.stay hS hG hC
 obtain ⟨G,mj,FV,zY,gw⟩:=tj.front hSt
 obtain ⟨Fo,Fr,X1,hFr,hq4⟩:=Ir.all
 have hSq:SA (fun b=>Z b∨b∈Fr) w (a1.ps undef q) [] Fo:=by
  have:=hq4.front (Γ:=[]) (F:=[]) rfl
  simpa using this
 have X2:=List.nodup_append.1 (X1 ▸ X0)
 obtain ⟨Fd,F',Td,_,FX⟩:=Tc.sound hSq
 have Qf:∀ b∈Fd,b∈Fo:=fun b hb=>FX.mem_iff.1 (List.mem_append_left _ hb)
 have du:∀ b∈Fd,b∈g j1:=fun b hb=>by rw [X1]; exact List.mem_append_left _ (Qf b hb)
 have dw:=List.nodup_append.1 hG.nd
 have hblk:qh g (U.getD S'.length [])=g j1:=by rw [hU]; simp [qh]
 rw [hblk]
 rw [se] at zX
 have Is:∀ b∈g j1,w0.heap.size≤b∨b∈H:=fun b hb=>(qa j1 DH.1 b hb).1
 refine (zX.2 w (fun b=>Z b∨b∈Fr++G) Fd (hr.sound (fun _ h=>h) (fun _ b hb=>.inr (List.mem_append_right _ (zY b hb))) (gw.mono (fun _ h=>h.imp id fun h=>List.mem_append_right _ h) fun _ h=>h) (Td.mono fun _ h=>h.imp id fun h=>List.mem_append_left _ h)) ((FX.nodup_iff.2 X2.1).sublist (List.sublist_append_left _ _)) (fun b hb=>?_)
  (fun b hb=>hb.elim (fun h=>Nat.lt_of_lt_of_le (hG.ri b h) hC.size) fun h=>(List.mem_append.1 h).elim (hFr b) fun h=>(mj b h).2) y hy).mono ?_
 ·rintro (hz | hz)
  ·rcases Is b (du b hb) with h | h
   ·have:=hG.ri b hz; omega
   ·exact hG.apart b (List.mem_append_left _ h) hz
  ·rcases List.mem_append.1 hz with hz | hz
   ·exact X2.2.2 b (Qf b hb) b hz rfl
   rcases List.mem_append.1 (mj b hz).1 with hz | hz
   ·obtain ⟨a,XZ,mi,sa⟩:=FU hz
    exact xt a.j (qg (by rw [← hA]; exact oh.1 mi)).1 j1 DH.1 (m5 Te.d a XZ) b sa (du b hb)
   ·rcases Is b (du b hb) with h | h
    ·have:=hS.lt b hz; omega
    ·exact dw.2.2 b h b hz rfl
 ·rintro e w' ⟨v,he,Z2,F2,qT,nq⟩
  have zZ:HL (fun _=>False) w' (ps y v) F2:=zO (hw y v) qT
  have av:=(zZ.front (Γ:=[]) (F:=[]) rfl).lt
  obtain ⟨f',Lp,FR⟩:=hV F2 w' r _ ⟨v,rfl,.inl zZ,nq.nd⟩
  exact ⟨_,he,nq.lq.mono du,f',fun b hb=>⟨(nq.low b (Lp b hb)).imp (du b) id,av b (by simpa using Lp b hb)⟩,FR⟩
theorem SA.app {Γ Γ':QE} {F F':LN}:∀ {cur:LN},SA Z w Γ' cur F'→SA Z w Γ [] F→SA Z w (Γ'++Γ) cur (F'++F):=by
 induction Γ' generalizing F' with
 | nil=>intro cur h hs; cases h; exact hs.any
 | cons e Γ' ih=>
  intro cur h hs
  cases e with
  | own T v x=>obtain ⟨f,F1,rfl,h1,h2⟩:=h; exact ⟨f,F1++F,by rw [List.append_assoc],h1,ih h2 hs⟩
  | om e E v xs=>obtain ⟨f,F1,rfl,h1,h2⟩:=h; exact ⟨f,F1++F,by rw [List.append_assoc],h1,ih h2 hs⟩
  | row b cs e=>obtain ⟨f,F1,rfl,h1,h2⟩:=h; exact ⟨f,F1++F,by rw [List.append_assoc],h1,ih h2 hs⟩
  | gv e E v xs j u=>obtain ⟨f,F1,rfl,h1,h2⟩:=h; exact ⟨f,F1++F,by rw [List.append_assoc],h1,ih h2 hs⟩
  | rd o T v x=>exact ⟨h.1,ih h.2 hs⟩
  | ad o1 o2 v j T x=>exact ⟨h.1,ih h.2 hs⟩
  | bn p cs=>exact ⟨h.1,ih h.2 hs⟩
  | hd v j u=>exact ⟨h.1,ih h.2 hs⟩
theorem kv.Zz {mt:Nat} {A:LN} {op:Op} {d:Nat} {ty:TI} {as:LL} {ops:LO} {i:Nat} {sl:LQ} {ms:MM} {r0:NV} {w0:World} {H:LN} {u:Value} (h:kv P Z l mt U r0 w0 H i sl ms) (hh:mm l mt base=true) (ha:cw r0 base) (h1:qt l mt U A op d ty as ops i)
  (hV:(U.zipIdx.all fun p=>!(p.1.contains l.length) || ((cb l).getD p.2 []).contains i)=true) (hv:cL A none sl base fr) (hq:∀ r,cw r fr→∀ pos ah g w,ao [] w0 w→(execOp (ev r) ⟨some d,op,ty,pos,ah,g⟩).run P w = .ok (.value u) w):kv P Z l mt U r0 w0 H (i+1) ((i,d,u) :: sl) ms:=by
 obtain ⟨S',hl,hR,hO⟩:=h
 subst hl
 obtain ⟨hA,⟨pos,ah,ho⟩,_⟩:=h1
 refine ⟨S'++[sV u],by simp,hR.val (by unfold bw; rw [ho]; rfl),fun j hj=>?_⟩
 by_cases h2:j < S'.length
 ·exact kh.more (hO j h2) h2
 ·obtain rfl:j=S'.length:=by omega
  have hN:yD l U mt S'.length=true:=by
   unfold yD
   simp only [List.all_eq_true,List.mem_range,Bool.or_eq_true,Bool.not_eq_true'] at hV ⊢
   intro k _
   rw [List.getD_eq_getElem?_getD]
   cases hu:U[k]? with
   | none=>exact .inl (.inl rfl)
   | some us=>
    have hm:(us,k)∈U.zipIdx:=by rw [List.mem_zipIdx_iff_getElem?]; exact hu
    exact (hV _ hm).imp .inl id
  intro o' s' cj fc g r w hC Ei ma hn lr xt qa
  rw [ho] at cj
  cases cj
  rw [List.getElem?_append_right (Nat.le_refl _),Nat.sub_self] at fc
  cases fc
  rw [if_pos rfl]
  refine ⟨rfl,?_⟩
  unfold ig
  rw [hq r (pj hR hA hv (l6 hh ha lr) ma) _ _ _ w (Ei hN).1]
  exact ⟨ao.refl _ _,[],fun b hb=>absurd hb List.not_mem_nil,rfl⟩
theorem Ri {mt:Nat} {hd j6:QE} {α:Type} {t e e' et:TI} {E E':ai α} {z0:α} {bt t1 t2 j2:Nat} {v u yv:Value} {j:Int} {y:α} {z:List α} {xs:List (List α)} {o1 o2:Bool} {Γx:QE} {FH:MM} {A:LN} {as:LL} {d:Nat} {ty:TI} {ops:LO} {i:Nat} {sl:LQ} {ms:MM} {Γ:QE} {B:Bs} {r0:NV} {w0:World} {H:LN} (hh:mm l mt base=true) (ha:cw r0 base) (hT:sH P t α e E z0 bt) (hU:U.getD i []=[l.length])
   (Lo:((U.set i []).all fun us=>!(us.contains l.length))=true) (hv:cL A none sl base fr) (hs:look fr t1=some u) (h2:uc ms t2 ⟨j2,t2,[],Nat,fun _ b=>.slice (some ⟨b,0,none⟩) 1 1,fun _ b=>[.row b [yv] et]⟩ FH) (h5:jh j2 A=true) (hl:Loc hd u (.row v j)) (hz:p7 hd u o1 o2 E' z s8 Γx) (h1:ep hd (.own (aJ e' (aJ e E)) v xs) j6) (hr:RT (aJ e E) (bF E')) (hy:Br [] E yv y [])
   (hf:fits bt (z.length+1)=some ()) (Fu:qt l mt U A (.call ⟨.builtin .append,#[.tmp t1,.tmp t2],#[t,t]⟩) d ty as ops i) (qI:rA B Z hd Γ H w0) (h:kv P Z l mt U r0 w0 H i sl ms) :
  kv P Z l mt U r0 w0 H (i+1) sl (⟨i,d,[],Value,fun _ v'=>v',fun _ v'=>[.own (aJ e E) v' (z++[y]),.own (th e' (aJ e E) j.toNat) v xs]⟩ :: ms)∧rA B Z j6 Γ H w0:=by
 obtain ⟨F,Hd,⟨zU,zV,u7,zW⟩,hS,hG⟩:=qI
 obtain ⟨fm0,F10,Tf,_,ZA⟩:=h1.sound zU
 refine ⟨?_,F,F10,⟨ZA,fun b hb=>zV b (Tf.mem_iff.1 (List.mem_append_right _ hb)),u7,(Tf.nodup_iff.2 zW).sublist (List.sublist_append_right _ _)⟩,hS,hG⟩
 obtain ⟨S',xB,hR,hO⟩:=h
 subst xB
 obtain ⟨hA,⟨pos,ah,ho⟩,_⟩:=Fu
 obtain ⟨b1,b2⟩:=qp hf
 obtain ⟨q1,q2,ii,zz,q3,q4,q5,q6,q7,_⟩:=hT.h
 obtain ⟨n1,_,_,_⟩:=h2.sub
 refine ⟨S'++[⟨true,MV Z ⟨S'.length,d,[],Value,fun _ v'=>v',fun _ v'=>[.own (aJ e E) v' (z++[y]),.own (th e' (aJ e E) j.toNat) v xs]⟩⟩],by simp,hR.mem rfl (by unfold bw; rw [ho]; rfl) (by intro t h; cases h),fun k hk=>?_⟩
 by_cases av:k < S'.length
 ·exact kh.more (hO k av) av
 ·obtain rfl:k=S'.length:=by omega
  intro o' s' cj fc g r w hC Ei ma hn lr xt qa
  rw [ho] at cj
  cases cj
  rw [List.getElem?_append_right (Nat.le_refl _),Nat.sub_self] at fc
  cases fc
  rw [if_pos rfl]
  refine ⟨rfl,?_⟩
  obtain ⟨S9,Ta,Tb⟩:=Ei (FW Lo)
  have Tg:=zU.ko S9
  obtain ⟨j0,j1,j8⟩:=Loc.row hl rfl Tg
  obtain ⟨dv,_,⟨⟨gz,td,_⟩,_⟩,_⟩:=hz.sound Tg
  obtain ⟨fm,F1,rV,X3,_⟩:=h1.sound Tg
  obtain ⟨ky,F2,po,Th,_⟩:=hy.sound (Z:=Z) (w:=w) (F:=[]) rfl
  have FY:ky=[]:=by
   cases ky with
   | nil=>rfl
   | cons a l=>exact absurd (po.mem_iff.1 (List.mem_append_left _ List.mem_cons_self)) List.not_mem_nil
  subst FY
  rw [sm X3] at j1
  obtain ⟨k,gm,a1,a2,a3⟩:=FB rfl X3 (List.getElem?_eq_getElem j1) j8
  have FZ:xs[j.toNat]=z:=hr.tJ (hr.le.le a1) td
  rw [FZ] at a1
  have ZB:(k++gm).Nodup:=a2.nodup_iff.2 ((rV.nodup_iff.2 zW).sublist (List.sublist_append_left _ _))
  have Fq:=List.nodup_append.1 ZB
  have Jz:∀ b∈k++gm,b∈H:=fun b hb=>(zV b (rV.mem_iff.1 (List.mem_append_left _ (a2.mem_iff.1 hb)))).1
  obtain ⟨b,c1,c2,c3⟩:=hR.FI n1 (hn j2 (qg (by rw [← hA]; exact oh.1 h5)).2)
  simp only at c1 c2
  replace c2:=c2.own rfl
  generalize D9:g j2=G1 at c2 c3
  cases c2 with
  | fact h _=>exact h.elim
  | @own _ ff F0 _ W6 yz=>
   cases yz
   obtain ⟨rfl,bc⟩:=W6
   have hb:=pj hR hA hv (l6 hh ha lr) ma
   obtain ⟨v',w',f',km,FL,dq,du,F4⟩:=pt (E:=E) (d:=some d) (ty:=ty) (pos:=pos) (ah:=ah) (g:=none) (r:=r) (s:=.tmp t1) (x:=.tmp t2) (k:=[]) (ys:=[y]) (news:=[yv]) q1 q3 q4 (by rw [q5,q2]) (by rw [cells_one q6,q2]; rfl) (hb _ _ hs) a1 Fq.1 c1 (fun i u hi=>bc.at i u hi) (qM Th) (fun _ h=>absurd h List.not_mem_nil) (by simp) (by rw [q7]; exact b1) b2
   unfold ig
   rw [km]
   have hblk:qh g (U.getD S'.length [])=H:=by rw [hU]; simp [qh,Ta]
   rw [hblk]
   have X4:(th e' (aJ e E) j.toNat).rep w'.heap [v] xs gm:=ai.ee _ a3 FL fun b hb hk=>Fq.2.2 b hk b hb rfl
   refine ⟨FL.mono fun b hb=>Jz b (List.mem_append_left _ hb),f'++gm,fun b hb=>?_,v',rfl,?_,?_⟩
   ·rcases List.mem_append.1 hb with hb | hb
    ·refine ⟨?_,ai.lt _ dq b hb⟩
     rcases du b hb with h | h | h
     ·exact .inl (Jz b (List.mem_append_left _ h))
     ·exact absurd h List.not_mem_nil
     ·exact .inr h
    ·exact ⟨.inl (Jz b (List.mem_append_right _ hb)),ai.lt _ X4 b hb⟩
   ·have:=HL.own (Z:=fun _=>False) (e:=.own (aJ e E) v' (z++[y])) (f:=f') dq (HL.own (e:=.own (th e' (aJ e E) j.toNat) v xs) (f:=gm) X4 .nil)
    exact .inl (by simpa using this)
   ·refine wZ (F4 List.nodup_nil) Fq.2.1 fun b hb hm=>?_
    rcases du b hb with h | h | h
    ·exact Fq.2.2 b h b hm rfl
    ·exact absurd h List.not_mem_nil
    ·have:=ai.lt _ a3 b hm; omega
end
end Go.Dk
namespace Go.Dk
open Go Go.Li
section
variable {R S:Type} {P:Program} {cx:Cx R} {K:dk R S} {l tail:LO} {base fr:Fr} {U:LL} {hd:QE}
def JB (P:Program) (cx:Cx R) (K:dk R S) (l l0:LO) (mt:Nat) (U:LL) (hd:QE) (id:Nat) (base:Fr):JA R S→Prop
 | .a as ops i sl ms Γ m=>u6 l mt U as ops i→Fin P cx K l l0 mt U hd id base i sl ms Γ m
 | .o A op d ty as ops i sl ms Γ m=>qt l mt U A op d ty as ops i→Fin P cx K l l0 mt U hd id base i sl ms Γ m
 | .oc us f xs bn A d ty as ops i sl ms Γ m=>U.getD i []=us→qt l mt U A (.call ⟨.value (.func f),xs.toArray,bn⟩) d ty as ops i→Fin P cx K l l0 mt U hd id base i sl ms Γ m
 | .os A op ty as ops i sl ms Γ m=>S3 l mt U A op ty as ops i→Fin P cx K l l0 mt U hd id base i sl ms Γ m
 | .ow _ A op d ty as ops i sl ms Γ m=>qt l mt U A op d ty as ops i→Fin P cx K l l0 mt U hd id base i sl ms Γ m
 | .ix _ v fr x y t A d ty as ops i sl ms Γ m=>cL A none sl base fr→bp fr x=some v→qt l mt U A (.indexAddr t x y) d ty as ops i→Fin P cx K l l0 mt U hd id base i sl ms Γ m
 | .lb _ v j fr t x A d ty as ops i sl ms Γ m=>cL A none sl base fr→bp fr x=some (.pointer (some (cy v 1 j)))→NA P t→qt l mt U A (.load t x) d ty as ops i→Fin P cx K l l0 mt U hd id base i sl ms Γ m
 | .ap us t1 t2 t A d ty as ops i sl ms Γ m=>U.getD i []=us→qt l mt U A (.call ⟨.builtin .append,#[.tmp t1,.tmp t2],#[t,t]⟩) d ty as ops i→Fin P cx K l l0 mt U hd id base i sl ms Γ m
 | .la fr a lk t x A d ty as ops i sl ms Γ m=>cL A none sl base fr→bp fr x=some (.pointer (some a))→(match lk with | none=>NA P t | some n=>AG P t n)→qt l mt U A (.load t x) d ty as ops i→Fin P cx K l l0 mt U hd id base i sl ms Γ m
 | .ld E z fr a t x A d ty as ops i sl ms Γ m=>cL A none sl base fr→bp fr x=some (.pointer (some a))→NA P t→qt l mt U A (.load t x) d ty as ops i→
   ∀ B o,m=some o→∀ r0 w0 H Z,cw r0 base→rA B Z hd Γ H w0→(∃ u,∀ w,ao H w0 w→w.cell? a=some u∧∃ g,E.rep w.heap [u] z g)→kv P Z l mt U r0 w0 H i sl ms→nv P cx.n l0 (l4 P cx B K o) r0 w0
 | .p Δ as ops i sl ms Γ m=>u6 l mt U as ops i→Fin P cx K l l0 mt U hd id base i sl ms (Δ.reverse++Γ) m
 | .cr u ps d as ops i sl ms Γ m=>u6 l mt U as ops (i+1)→bw l i=some d→
   ∀ B o,m=some o→∀ r0 w0 H Z,cw r0 base→rA B Z hd Γ H w0→FK P Z l mt U r0 w0 H i sl ms ⟨i,d,[],_,fun _=>u,fun _=>ps⟩→nv P cx.n l0 (l4 P cx B K o) r0 w0
theorem w4 {w:World} {e n:Nat} {v:Value} {us:List (List Value)} {f:LN} {j:Int} {c:LV} (hO:(aJ e (jx n)).rep w.heap [v] us f) (hj:0≤j) (hu:us[j.toNat]? = some c):c.length=n∧(∀ u∈c,u.oneCell'=true)∧∀ i u,c[i]? = some u→w.cell? ((cy v n j).add i)=some u:=by
 obtain ⟨_,_,cs,f1,⟨rfl,h1,h2,_⟩,_,h3⟩:=ub (((Le.own (Le.refl (jx n)) e).le) hO) j hj hu
 exact ⟨h1,h2,h3⟩
theorem N1 {α:Type} {E:ai α} {h:Array Obj}:∀ {xs:List α} {cs:LV} {f:LN} (n m:Nat),dj E h cs xs f→∃ f3,dj E h ((cs.drop (n * E.size)).take (m * E.size)) ((xs.drop n).take m) f3∧∀ b∈f3,b∈f:=by
 intro xs
 induction xs with
 | nil=>rintro cs f n m ⟨rfl,rfl⟩; exact ⟨[],by simpa using ⟨rfl,rfl⟩,fun _ h=>h⟩
 | cons x xs ih=>
  rintro cs f n m ⟨c,ds,f1,f2,rfl,rfl,h1,h2⟩
  cases n with
  | zero=>
   cases m with
   | zero=>exact ⟨[],by simpa using ⟨rfl,rfl⟩,fun _ h=>absurd h List.not_mem_nil⟩
   | succ m=>
    obtain ⟨f3,h3,h4⟩:=ih 0 m h2
    simp only [Nat.zero_mul,List.drop_zero] at h3 ⊢
    refine ⟨f1++f3,?_,fun b hb=>(List.mem_append.1 hb).elim (List.mem_append_left _) fun hb=>List.mem_append_right _ (h4 b hb)⟩
    have e:(m+1) * E.size=c.length+m * E.size:=by rw [E.len h1,Nat.add_mul,Nat.one_mul,Nat.add_comm]
    rw [e,List.take_append,List.take_of_length_le (by omega),List.take_succ_cons]
    exact ⟨c,_,f1,f3,rfl,rfl,h1,by simpa using h3⟩
  | succ n=>
   obtain ⟨f3,h3,h4⟩:=ih n m h2
   refine ⟨f3,?_,fun b hb=>List.mem_append_right _ (h4 b hb)⟩
   have e:(n+1) * E.size=c.length+n * E.size:=by rw [E.len h1,Nat.add_mul,Nat.one_mul,Nat.add_comm]
   rw [e,List.drop_append,List.drop_of_length_le (by omega),List.nil_append,List.drop_succ_cons]
   simpa using h3
theorem N2 {Z:Nat→Prop} {w:World} {cur g:LN} {o:Bool} {α:Type} {E:ai α} {base:Option Addr} {cap a b:Nat} {xs:List α} (hE:E.size=1) (hr:(bF E).rep w.heap [.slice base xs.length cap] xs g) (hg:∀ i∈g,sZ o Z cur i) (mi:a≤b) (hb:b≤xs.length) (hc:xs.length≤cap) :
  fact Z w cur (.rd o (bF E) (sliced base a b cap 1) ((xs.drop a).take (b - a))):=by
 have hlen:((xs.drop a).take (b - a)).length=b - a:=by rw [List.length_take,List.length_drop]; omega
 obtain ⟨Jf,ND,hv,fw⟩:=hr
 obtain ⟨rfl,rfl⟩ : base=Jf∧cap=ND:=by simpa using hv
 by_cases hj:a=b
 ·subst hj
  exact ⟨[],⟨_,cap - a,by unfold sliced; rw [hlen],.inl ⟨by simp,rfl⟩⟩,fun _ h=>absurd h List.not_mem_nil⟩
 ·rcases fw with ⟨rfl,_⟩ | ⟨b0,off,cr,e',fz,f',rfl,g1,rfl,_,g2⟩
  ·exfalso; simp at hb; omega
  ·have iv : ¬ (cap=a):=by omega
   obtain ⟨f3,dq,du⟩:=N1 a (b - a) g2
   refine ⟨b0 :: f3,⟨some ⟨b0,off+a,none⟩,cap - a,?_,.inr ⟨b0,off+a,cr,e',fz,f3,rfl,g1,rfl,by omega,?_⟩⟩,fun i hi=>?_⟩
   ·unfold sliced
    rw [hlen,if_neg iv]
    simp [jg]
   ·rw [hE,Nat.mul_one,Nat.mul_one,Nat.mul_one,List.drop_take,List.take_take,List.drop_drop,Nat.min_eq_left (by omega)] at dq
    rw [hE,Nat.mul_one,hlen]
    exact dq
   ·rcases List.mem_cons.1 hi with rfl | hi
    ·exact hg _ (by simp)
    ·exact hg _ (List.mem_cons_of_mem _ (du i hi))
theorem AD.sound {l0:LO} {tq:Bool} {mt id:Nat} (hh:mm l mt base=true)
  (yz:∀ hd i sl ms Γ m,zR ms=true→BU U sl ms=true→(∀ x:o6 ms,D P cx (.p (yy sl (mF ms x)) (BS ms x) base Γ fun fr Γ=>.tg tq (zM tail) l tail K Γ fr m))→JB P cx K l l0 mt U hd id base (.a [] [] i sl ms Γ m))
  {J:JA R S} (h:AD tq P cx K l tail base U hd J):JB P cx K l l0 mt U hd id base J:=by
 have stay:∀ {B:Bs} {Z:Nat→Prop} {hd Γ:QE} {H:LN} {w0:World},rA B Z hd Γ H w0→∃ F Hd,(SA Z w0 hd [] Hd∧(∀ b∈Hd,b∈H∧b < w0.heap.size)∧(∀ b∈H,b < w0.heap.size)∧Hd.Nodup)∧SA Z w0 Γ [] F∧Gd B Z (H++F) w0∧∀ w,ao H w0 w→SA Z w Γ [] F:=by
  rintro B Z hd Γ H w0 ⟨F,Hd,h1,h2,h3⟩
  exact ⟨F,Hd,h1,h2,h3,fun w hC=>rA.stay h2 h3 hC⟩
 induction h with
 | nil hs he h=>exact yz _ _ _ _ _ _ hs he h
 | cons _ ih=>exact fun h=>ih h.cons
 | Ju _ ih=>exact fun h=>ih h.Ju
 | SB h1 hv hy hc hn fc ho h4 h6 _ ih=>
  rename_i ht _
  intro h B o cj r0 w0 H Z ha hs hp
  obtain ⟨F,_,_,_,_,hK⟩:=stay hs
  exact ih h.n B o cj r0 w0 H Z ha hs (Rc hh ha ht h1 hv hy hc hn fc ho h4 h6 hK h hp)
 | ixs hv hx _ _ ih=>exact fun h1=>ih hv hx h1
 | @Zu hd α A as d x y v k j t ty o1 o2 E xs ops i sl ms fr Γ j6 f ht hy hr hE _ ih=>
  intro hv hx h1 B o ho r0 w0 H Z ha hs hp
  obtain ⟨z,hz,ho⟩:=bind_some ho
  replace hz:=n7 hz
  obtain ⟨e,ii,q1,q2,q3⟩:=ht.h
  obtain ⟨F,Hd,⟨hL,Ti⟩,hS,hG,hK⟩:=stay hs
  obtain ⟨dv,_,⟨⟨n,hn,_⟩,Cz⟩,sn⟩:=(hr z).sound hL
  obtain ⟨⟨a,c,ks⟩,av,_⟩:=ub hn j hz.1 hz.2
  refine ih z h1.n B o ho r0 w0 H Z ha ⟨F,Hd,⟨sn (Cz hE j z hz.1 hz.2),Ti⟩,hS,hG⟩ (hp.val hh ha h1 hv fun r fw _ _ _ w hC=>?_)
  rw [l5 q1 q2 ((aR fw hx).trans ks) (aR fw hy) hz.1 (by omega),q3,ks]
  rfl
 | @idx hd α A as d x y v k j t ty o1 o2 E xs ops i sl ms fr Γ Γ' f ht hy hr hE _ ih=>
  intro hv hx h1 B o ho r0 w0 H Z ha hs hp
  obtain ⟨z,hz,ho⟩:=bind_some ho
  replace hz:=n7 hz
  obtain ⟨F,Hd,hL,hS,hG,hK⟩:=stay hs
  obtain ⟨dv,_,⟨⟨n,hn,_⟩,Cz⟩,sn⟩:=(hr z).sound hS
  refine ih z h1.n B o ho r0 w0 H Z ha ⟨F,Hd,hL,sn (Cz hE j z hz.1 hz.2),hG⟩ (hp.val hh ha h1 hv fun r fw _ _ _ w hC=>?_)
  obtain ⟨_,_,⟨⟨n',r7,_⟩,_⟩,_⟩:=(hr z).sound (hK w hC)
  exact Ix ht.h r7 hz (aR fw hx) (aR fw hy) hE w (ao.refl _ _)
 | pz _ ih=>exact ih
 | @pe hd e Δ as ops i sl ms Γ m _ ih=>
  intro h1
  have h2:=ih h1
  have h3:(e :: Δ).reverse++Γ=Δ.reverse++e :: Γ:=by rw [List.reverse_cons,List.append_assoc]; rfl
  rw [h3]
  exact h2
 | @Fe hd α V Sc cl en A as d n x y v xs k j t ty ops i sl ms fr Γ Γx f ht hy hr p8 hn _ ih=>
  intro hv hx hA B o ho r0 w0 H Z ha hs hp
  replace p8:SO Sc V cl en:=by cases p8; assumption
  obtain ⟨z,hz,ho⟩:=bind_some ho
  replace hz:=n7 hz
  obtain ⟨e,i',h1,h2,h3⟩:=ht.h
  obtain ⟨F,Hd,hL,hS,hG,hK⟩:=stay hs
  obtain ⟨dv,_,⟨⟨f0,Ee,sL⟩,_⟩,_⟩:=hr.sound hS
  have hZ:∀ b∈f0,Z b:=fun b hb=>(sL b hb).elim (fun h=>h) (fun h=>h)
  obtain ⟨⟨a,c,ks⟩,av,cs,f1,dq,Lc,j8⟩:=ub Ee j hz.1 hz.2
  have r7:(qx Sc).size=n:=hn
  rw [r7] at j8
  obtain ⟨u,rfl,o5⟩:=p8.op dq.2
  have hblk:Z (cy v n j).block:=by
   obtain ⟨base,cap,ks,fw⟩:=Ee
   rcases fw with ⟨rfl,_⟩ | ⟨b,off,cr,e',fz,f',rfl,_,rfl,_⟩
   ·simp at av; omega
   ·obtain rfl:v = .slice (some ⟨b,off,none⟩) xs.length cap:=by simpa using ks
    have:(cy (.slice (some ⟨b,off,none⟩) xs.length cap) n j).block=b:=by unfold cy; rw [uz]
    rw [this]; exact hZ b (by simp)
  have Ft:fact Z w0 [] (.bn (cy v n j) (cl z u)):=⟨fun i u' hi=>j8 i u' hi,fun _=>hblk⟩
  have cq:HL Z w0 (.bn (cy v n j) (cl z u) :: en z u) []:=.fact Ft (tZ (o5 Z fun b hb=>hZ b (Lc b hb)))
  obtain ⟨F',tK,gw⟩:=cq.build hS
  refine ih z u hA.n B o ho r0 w0 H Z ha ⟨F',Hd,hL,gw,hG.perm (List.Perm.append_left H (by simpa using tK))⟩ (hp.val hh ha hA hv fun r fw _ _ _ w hC=>?_)
  rw [l5 h1 h2 ((aR fw hx).trans ks) (aR fw hy) hz.1 (by omega),h3,ks]
  rfl
 | @SY hd α V Sc cl en A as d n e bt x y v us xs k j t ty ops i sl ms fr Γ Γ1 f ht hy h1 hg p8 _ ih=>
  intro hv hx hA B o ho r0 w0 H Z ha hs hp
  replace p8:SO Sc V cl en:=by cases p8; assumption
  obtain ⟨z,hz,ho⟩:=bind_some ho
  replace hz:=n7 hz
  obtain ⟨q1,i',_,q2,_,_,q3,_⟩:=ht.h
  obtain ⟨F,Hd,hL,hS,hG,hK⟩:=stay hs
  obtain ⟨f0,F1,_,hO,_⟩:=h1.sound hS
  obtain ⟨g0,hk,td⟩:=hg.rd hS []
  obtain ⟨c,g1,e1,e2,e3⟩:=Cq j.toNat hk.2.1 hz.2
  obtain ⟨u,rfl,o5⟩:=p8.op e2
  have hlen:us.length=xs.length:=zK hk.2.1
  have av:j.toNat < xs.length:=(List.getElem?_eq_some_iff.1 hz.2).1
  have ks:∃ a c,v = .slice (some a) us.length c:=by
   obtain ⟨b0,cap,hv,hr⟩:=hO
   obtain rfl:v = .slice b0 us.length cap:=by simpa using hv
   rcases hr with ⟨_,_,rfl,_⟩ | ⟨b,cur,f',rfl,_⟩
   ·rw [← hlen] at av; simp at av
   ·exact ⟨_,_,rfl⟩
  obtain ⟨a,c',rfl⟩:=ks
  have cq:HL Z w0 (.rd false (zv us j) (.bool true) (cl z u) :: en z u) []:=.fact ⟨[],⟨rfl,⟨hz.1,e1⟩,rfl⟩,fun _ h=>absurd h List.not_mem_nil⟩ (tZ (o5 Z fun b hb=>td b (e3 b hb)))
  obtain ⟨F',tK,gw⟩:=cq.build hS
  refine ih z u hA.n B o ho r0 w0 H Z ha ⟨F',Hd,hL,gw,hG.perm (List.Perm.append_left H (by simpa using tK))⟩ (hp.val hh ha hA hv fun r fw _ _ _ w hC=>?_)
  rw [l5 q1 q2 (aR fw hx) (aR fw hy) hz.1 (by omega),q3]
  rfl
 | @XU hd A as d n e off x v u us j cs t ty ops i sl ms fr Γ Γ1 m h1 uC hc _ ih=>
  intro hv hx ht hA B o ho r0 w0 H Z ha hs hp
  obtain ⟨F,_,_,hS,_,hK⟩:=stay hs
  refine ih hA.n B o ho r0 w0 H Z ha hs (hp.val hh ha hA hv fun r hr _ _ _ w hC=>?_)
  obtain ⟨f,F1,_,hO,_⟩:=h1.sound (hK w hC)
  obtain ⟨_,⟨_,⟨hj,hu⟩,_⟩,_⟩:=uC.rd (hK w hC) []
  exact Ld ht ((w4 hO hj hu).2.2 off u hc) (aR hr hx) w (ao.refl _ _)
 | @SZ hd A as d n e x v u us j cs t ty ops i sl ms fr Γ Γ1 m h1 uC hc _ ih=>
  intro hv hx ht hA B o ho r0 w0 H Z ha hs hp
  obtain ⟨F,_,_,hS,_,hK⟩:=stay hs
  refine ih hA.n B o ho r0 w0 H Z ha hs (hp.val hh ha hA hv fun r hr _ _ _ w hC=>?_)
  obtain ⟨f,F1,_,hO,_⟩:=h1.sound (hK w hC)
  obtain ⟨_,⟨_,⟨hj,hu⟩,_⟩,_⟩:=uC.rd (hK w hC) []
  exact Ld ht ((w4 hO hj hu).2.2 0 u hc) (aR hr hx) w (ao.refl _ _)
 | load hv hx _ ih=>rename_i ht _; exact fun h1=>ih hv hx ht.h h1
 | lsw _ _ ih=>exact fun hv hx ht h1=>ih hv hx ht h1
 | @Zv hd α A as d x v j E z o' t ty ops i sl ms fr Γ SX j6 m hV h CA _ ih=>
  intro hv hx ht h1 B o ho r0 w0 H Z ha hs hp
  obtain ⟨F,Hd,⟨hL,Ti⟩,hS,hG,hK⟩:=stay hs
  obtain ⟨_,⟨u,k,h3,h4,h5⟩,_⟩:=(h (.bool true)).sound hL
  obtain ⟨dv,⟨u',k',X5,h5',h6⟩,sn⟩:=(h u).sound hL
  rw [h3] at X5
  cases X5
  exact ih u h1.n B o ho r0 w0 H Z ha ⟨F,Hd,⟨(CA u).sound h3 (sn ⟨k',h5',h6⟩),Ti⟩,hS,hG⟩ (hp.Zz hh ha h1 hV hv fun r hr _ _ _ w hC=>Ld ht h3 (aR hr hx) w hC)
 | @Su hd α A as d x v j o E z t ty ops i sl ms fr Γ Γx m h _ ih=>
  intro hv hx ht h1 B o' ho r0 w0 H Z ha hs hp
  obtain ⟨F,Hd,hL,hS,hG,hK⟩:=stay hs
  obtain ⟨_,⟨u,k,h2,h3,_⟩,_⟩:=h.sound hS
  refine ih hv hx ht h1 B o' ho r0 w0 H Z ha hs ⟨u,fun w hC=>?_⟩ hp
  have hb:(cy v 1 j).block ∉ H:=fun hm=>(h.zL hS).elim (fun h=>h.elim (fun h=>absurd h List.not_mem_nil) fun h=>(List.nodup_append.1 hG.nd).2.2 _ hm _ h rfl) fun h=>hG.apart _ (List.mem_append_left _ hm) h
  have hc:=hC.cell hb h2
  obtain ⟨_,⟨u',k',h4,h5,_⟩,_⟩:=h.sound (hK w hC)
  rw [hc] at h4
  cases h4
  exact ⟨hc,k',h5⟩
 | Sw h _ ih=>
  intro hv hx ht h1 B o ho r0 w0 H Z ha hs hp
  obtain ⟨F,_,_,hS,_,hK⟩:=stay hs
  exact ih h1.n B o ho r0 w0 H Z ha hs (hp.val hh ha h1 hv fun r hr _ _ _ w hC=>Ld ht (h.sound (hK w hC)) (aR hr hx) w (ao.refl _ _))
 | K3 h _ ih=>
  intro hv hx ht h1 B o ho r0 w0 H Z ha hs hp
  obtain ⟨F,_,_,hS,_,hK⟩:=stay hs
  refine ih h1.n B o ho r0 w0 H Z ha hs (hp.val hh ha h1 hv fun r hr _ _ _ w hC=>?_)
  obtain ⟨h2,h3⟩:=h.sound (hK w hC)
  exact Lg ht h2 (aR hr hx) h3 w (ao.refl _ _)
 | Sx _ ih=>
  intro hv hx ht h1 B o ho r0 w0 H Z ha hs hu hp
  obtain ⟨u,hu⟩:=hu
  obtain ⟨_,_,h3,_⟩:=hu w0 (ao.refl _ _)
  obtain rfl:u=_:=by simpa using h3
  exact ih h1.n B o ho r0 w0 H Z ha hs (hp.val hh ha h1 hv fun r hr _ _ _ w hC=>Ld ht (hu w hC).1 (aR hr hx) w (ao.refl _ _))
 | @Sy hd α A as d x v j E z o' t ty ops i sl ms fr Γ Γ1 Γ' m h CA _ ih=>
  intro hv hx ht h1 B o ho r0 w0 H Z ha hs hu hp
  obtain ⟨u,hu⟩:=hu
  obtain ⟨h2,_⟩:=hu w0 (ao.refl _ _)
  obtain ⟨F,Hd,hL,hS,hG,hK⟩:=stay hs
  obtain ⟨dv,⟨u',k',h4,h5,h6⟩,sn⟩:=(h u).sound hS
  rw [h2] at h4
  cases h4
  exact ih u h1.n B o ho r0 w0 H Z ha ⟨F,Hd,hL,(CA u).sound h2 (sn ⟨k',h5,h6⟩),hG⟩ (hp.val hh ha h1 hv fun r hr _ _ _ w hC=>Ld ht (hu w hC).1 (aR hr hx) w (ao.refl _ _))
 | @Ff hd α A as d t e ty E z0 bt ops i sl ms Γ m hz _ ih=>
  intro h1 B o ho r0 w0 H Z ha hs hp
  exact ih h1.n B o ho r0 w0 H Z ha hs (Rh hz h1 hp)
 | K0 hU _ ih=>exact fun h1=>ih hU h1
 | @Zw hd β V A as d f fs bs xo xs bn ty mo rt ps ops i sl ms fr Γ g hv S8 hf hc hi kc hw _ ih=>
  intro h1 B o ho r0 w0 H Z ha hs hp
  obtain @⟨uE⟩:=hf
  obtain ⟨y,hy,ho⟩:=bind_some ho
  obtain ⟨pos,ah,h2⟩:=h1.o
  exact ih y h1.n (by unfold bw; rw [h2]; rfl) B o ho r0 w0 H Z ha hs (Ll hh uE hv S8 hc hi kc hw h1 hy ha hs hp)
 | @call hd β V A as d f xs bn ty mo rt ps ops i sl ms fr Γ g hf hv hc hi kc hw _ ih=>
  intro _ h1 B o ho r0 w0 H Z ha hs hp
  obtain ⟨y,hy,ho⟩:=bind_some ho
  obtain ⟨pos,ah,h2⟩:=h1.o
  exact ih y h1.n (by unfold bw; rw [h2]; rfl) B o ho r0 w0 H Z ha hs (N0 hh hf hv hc hi kc hw h1 hy ha hs hp)
 | @W3 hd β V A as d f xs bn ty mo rt ps ops i sl ms fr Γ g hf hV hv hc hi kc hw _ ih=>
  intro hU h1 B o ho r0 w0 H Z ha hs hp
  obtain ⟨y,hy,ho⟩:=bind_some ho
  obtain ⟨pos,ah,h2⟩:=h1.o
  exact ih y h1.n (by unfold bw; rw [h2]; rfl) B o ho r0 w0 H Z ha hs (Lm hh hf hv hU hV hc hi kc hw h1 hy ha hs hp)
 | @W4 hd β V j1 a1 o7 A as d f xs bn ty mo rt ps ops i sl ms fr Γ g hf hg Qe h4 hv hc hi kc hw _ ih=>
  intro hU h1 B o ho r0 w0 H Z ha hs hp
  obtain ⟨y,hy,ho⟩:=bind_some ho
  obtain ⟨pos,ah,h2⟩:=h1.o
  exact ih y h1.n (by unfold bw; rw [h2]; rfl) B o ho r0 w0 H Z ha hs (let ⟨S',e1,e2,e3⟩:=Lq hh hf hv hU hg Qe h4 hc hi kc hw h1 hy ha hs hp; ⟨S',e1,e2.re (qg (by rw [← h1.A]; exact oh.1 h4)).1,e3⟩)
 | @crb hd u ps d as ops i sl ms Γ m _ ih=>
  intro h1 j6 B o ho r0 w0 H Z ha hs ⟨S',hl,hR,hO,hL⟩
  subst hl
  refine ih h1 B o ho r0 w0 H Z ha hs ⟨S'++[⟨true,MV Z ⟨S'.length,d,[],Unit,fun _=>u,fun _=>ps⟩⟩],by simp,(hR.mem (b:=⟨S'.length,d,[],Unit,fun _=>u,fun _=>ps⟩) rfl j6 (fun _ h=>nomatch h)).Zx (s:=⟨true,MV Z ⟨S'.length,d,[],Unit,fun _=>u,fun _=>ps⟩⟩) j6 (by simp) rfl (fun f w r x ⟨v,h,_⟩=>h),fun j hj=>?_⟩
  by_cases h2:j < S'.length
  ·exact kh.more (hO j h2) h2
  ·obtain rfl:j=S'.length:=by omega
   exact hL _ fun f w r x h=>⟨f,fun _ h=>h,h⟩
 | @crv hd u d as ops i sl ms Γ m _ ih=>
  intro h1 j6 B o ho r0 w0 H Z ha hs ⟨S',hl,hR,hO,hL⟩
  subst hl
  refine ih h1 B o ho r0 w0 H Z ha hs ⟨_,by simp,hR.val j6,fun j hj=>?_⟩
  by_cases h2:j < S'.length
  ·exact kh.more (hO j h2) h2
  ·obtain rfl:j=S'.length:=by omega
   exact hL (pl fun _ _ x=>x=_) fun f w r x ⟨v,h,_⟩=>⟨[],fun _ h=>absurd h List.not_mem_nil,h⟩
 | @crm hd V u ps d as ops i sl ms Γ m _ ih=>
  intro h1 j6 B o ho r0 w0 H Z ha hs ⟨S',hl,hR,hO,hL⟩
  subst hl
  refine ih h1 B o ho r0 w0 H Z ha hs ⟨_,by simp,hR.mem rfl j6 (fun _ h=>nomatch h),fun j hj=>?_⟩
  by_cases h2:j < S'.length
  ·exact kh.more (hO j h2) h2
  ·obtain rfl:j=S'.length:=by omega
   exact hL _ fun f w r x h=>⟨f,fun _ h=>h,h⟩
 | Sz hU _ ih=>exact fun h1=>ih hU h1
 | apH Lo hv fc h2 h5 hl hz h1 hr hy _ ih=>
  rename_i hT _
  intro hU h B o ho r0 w0 H Z ha hs hp
  obtain ⟨u,hu,ho⟩:=bind_some ho
  obtain ⟨p1,p2⟩:=Ri hh ha hT hU Lo hv fc h2 h5 hl hz h1 hr hy hu h hs hp
  exact ih h.n B o ho r0 w0 H Z ha p2 p1
 | ap1 h1 h2 h3 hw h4 h5 _ ih=>
  rename_i hz _
  intro h6 h B o ho r0 w0 H Z ha hs hp
  obtain ⟨u,hu,ho⟩:=bind_some ho
  exact ih h.n B o ho r0 w0 H Z ha hs (Rb hz h1 h2 h3 h4 h5 (h6.trans hw) hu h hp)
 | sw1 _ _ ih=>exact fun h1=>ih h1
 | sw3 _ _ ih=>exact fun h1=>ih h1
 | sw4 _ _ ih=>exact fun h1=>ih h1
 | SV _ ih=>
  rename_i hz _
  intro h1 B o ho r0 w0 H Z ha hs hp
  exact ih h1.n B o ho r0 w0 H Z ha hs (Re hz h1 hp)
 | sw5 _ _ ih=>exact fun h1=>ih h1
 | mln hi kc hx _ ih=>
  rename_i ht _
  intro h1 B o ho r0 w0 H Z ha hs hp
  exact ih h1.n B o ho r0 w0 H Z ha hs (S5 hp h1 ht hi kc hx)
 | wv hv hq _ ih=>
  intro h1 B o ho r0 w0 H Z ha hs hp
  obtain ⟨F,_,_,_,_,hK⟩:=stay hs
  exact ih h1.n B o ho r0 w0 H Z ha hs (hp.val hh ha h1 hv fun r hr _ _ _ w hC=>hq.sound (hK w hC) hr _ _ _ _ _ w (ao.refl _ _))
 | wlt hv hx ho _ ih=>
  rename_i hz _
  intro h1 B o cj r0 w0 H Z ha hs hp
  obtain ⟨F,_,_,_,_,hK⟩:=stay hs
  exact ih h1.n B o cj r0 w0 H Z ha hs (S7 hh ha hz hv hx ho hK h1 hp)
 | ltn hv j6 hn hb _ ih=>
  rename_i hz _
  intro h1 B o cj r0 w0 H Z ha hs hp
  obtain ⟨F,_,_,_,_,hK⟩:=stay hs
  exact ih h1.n B o cj r0 w0 H Z ha hs (Iq hh ha hz hv j6 hn hb hK h1 hp)
 | ltu hv j6 hn hb _ ih=>
  rename_i hz _
  intro h1 B o cj r0 w0 H Z ha hs hp
  obtain ⟨F,_,_,_,_,hK⟩:=stay hs
  exact ih h1.n B o cj r0 w0 H Z ha hs (Iq hh ha ⟨hz.h⟩ hv j6 hn hb hK h1 hp)
 | @ry hd A as op x y k k' a b t t' d ty ops i sl ms fr Γ f hv hx hy hk _ ih=>
  intro h1 B o ho r0 w0 H Z ha hs hp
  obtain ⟨z,hz,ho⟩:=bind_some ho
  have rU:KZ op=true∨k=k':=by
   cases hk with
   | same=>exact .inr rfl
   | sh h=>exact .inl h
  exact ih z h1.n B o ho r0 w0 H Z ha hs (hp.val hh ha h1 hv fun r hr _ _ _ w hC=>K9 (aR hr hx) (aR hr hy) rU hz)
 | mk hv hx _ ih=>
  rename_i hz _
  intro h1 B o ho r0 w0 H Z ha hs hp
  obtain ⟨n,hn,ho⟩:=bind_some ho
  exact ih n h1.n B o ho r0 w0 H Z ha hs (S6 hh ha hz hv hx hn h1 hp)
 | mfd hi kc hj Tj _ ih=>
  rename_i hf _
  intro h1 B o ho r0 w0 H Z ha hs hp
  refine ih h1.n B o ho r0 w0 H Z ha hs (hp.dep (X:=fun u=>Jv u _) h1 hi kc hj fun r x hx w pos ah=>?_)
  obtain ⟨CD,hc⟩:=Tj x
  obtain ⟨fs,f,ds,q1,q2,q3,q4,q5⟩:=hf.h
  have Ip:=(sJ hx AQ) _ _ (by rw [List.append_nil]; exact CD)
  rw [N3 q1 q2 q3 q4 q5 (x:=.tmp _) Ip (by simpa using hc),Ip]
  simp [Jv,hc]
 | mbl hi kc _ hj hv Tj _ ih=>
  rename_i hb _ _
  intro h1 B o ho r0 w0 H Z ha hs hp
  exact ih h1.n B o ho r0 w0 H Z ha hs (Rf hh hb hi kc hj hv Tj h1 ha hs hp)
 | val hv hq _ ih=>
  intro h1 B o ho r0 w0 H Z ha hs hp
  obtain ⟨F,_,_,_,_,hK⟩:=stay hs
  exact ih h1.n B o ho r0 w0 H Z ha hs (hp.val hh ha h1 hv fun r hr _ _ _ w hC=>hq.sound (hK w hC) hr _ _ _ _ _ w (ao.refl _ _))
end
end Go.Dk
namespace Go.Dk
open Go Go.Li
section
variable {R S:Type} {P:Program} {cx:Cx R} {K:dk R S} {l tail:LO} {base fr:Fr} {w:World} {Z:Nat→Prop}
theorem HE {n:Nat} {Q:Exit→(Nat→Value)→World→Prop} {r:NV} (hQ:∀ c,¬ Q (.panic c) r w):∀ jk,∀ c,¬ AR P n Q jk (.panic c) r w:=by
 intro jk
 induction jk with
 | nil=>exact hQ
 | cons a jk ih=>cases a <;> exact ih
theorem HF {B:Bs} {b:Kb R S} {o:Out S R} {r:NV}:∀ c,¬ Ji P cx B b o (.panic c) r w:=by
 intro c
 cases b <;> cases o <;> exact fun h=>h
theorem Bv {B:Bs} {K:dk R S} {o:Out S R} {r:NV}:∀ c,¬ l4 P cx B K o (.panic c) r w:=HE HF _
def yE (g:Nat→List Nat):List iw→List Nat
 | []=>[]
 | a :: l=>g a.j++yE g l
theorem BW {g:Nat→List Nat}:∀ {ms:MM} {b:Nat},b∈yE g ms→∃ a∈ms,b∈g a.j:=by
 intro ms
 induction ms with
 | nil=>intro b h; exact absurd h List.not_mem_nil
 | cons a ms ih=>
  intro b h
  rcases List.mem_append.1 h with h | h
  ·exact ⟨a,by simp,h⟩
  ·obtain ⟨c,h1,h2⟩:=ih h
   exact ⟨c,List.mem_cons_of_mem _ h1,h2⟩
theorem It {Vo Vr A F:LN} (h:(Vo++Vr).Perm A):((Vo++F)++Vr).Perm (A++F):=by
 refine List.Perm.trans ?_ (h.append_right F)
 rw [List.append_assoc,List.append_assoc]
 exact List.Perm.append_left Vo List.perm_append_comm
theorem Qh {g:Nat→List Nat} {r:NV}:∀ {ms:MM},zR ms=true→(ms.map (·.j)).Nodup→(∀ a∈ms,∀ b∈ms,a.j≠b.j→qH (g a.j) (g b.j))→(∀ a∈ms,MV Z a (g a.j) w r (r a.d))→
  ∃ x:o6 ms,(∀ p∈mF ms x,r p.1=p.2)∧(∃ Vo Vr,(Vo++Vr).Perm (yE g ms)∧(∀ b∈Vr,b < w.heap.size)∧HL (qE Z Vr) w (BS ms x) Vo)∧(yE g ms).Nodup:=by
 intro ms
 induction ms with
 | nil=>intro _ _ _ _; exact ⟨(),fun p hp=>absurd hp List.not_mem_nil,⟨[],[],.refl _,fun b (h:b∈[])=>absurd h List.not_mem_nil,.nil⟩,List.nodup_nil⟩
 | cons a ms ih=>
  intro kc hd hi h
  unfold zR at kc
  rw [Bool.and_eq_true] at kc
  rw [List.map_cons,List.nodup_cons] at hd
  obtain ⟨x,hx,hl,hn⟩:=ih kc.2 hd.2 (fun b hb c hc=>hi b (List.mem_cons_of_mem _ hb) c (List.mem_cons_of_mem _ hc)) fun b hb=>h b (List.mem_cons_of_mem _ hb)
  obtain ⟨v,e1,e2,e3⟩:=h a (by simp)
  have es:xr a r=zQ a (mF ms x):=by
   have h3:=kc.1
   rw [List.all_eq_true] at h3
   refine AU fun t ht=>?_
   unfold wX
   rw [NT (h3 t ht) hx]
  rw [es] at e1 e2
  refine ⟨(v,x),?_,?_,wZ e3 hn ?_⟩
  rotate_left
  ·obtain ⟨Fo,Fr,hf,h1,h2⟩:=e2.all
   obtain ⟨Vo,Vr,k1,k2,k3⟩:=hl
   refine ⟨Fo++Vo,Fr++Vr,?_,fun b hb=>(List.mem_append.1 hb).elim (h1 b) (k2 b),(h2.mono fun b h=>h.imp id fun h=>List.mem_append_left _ h).app (k3.mono fun b h=>h.imp id fun h=>List.mem_append_right _ h)⟩
   show List.Perm _ (g a.j++yE g ms)
   rw [hf]
   refine List.Perm.trans ?_ (k1.append_left (Fo++Fr))
   rw [List.append_assoc,List.append_assoc]
   refine List.Perm.append_left Fo ?_
   rw [← List.append_assoc,← List.append_assoc]
   exact List.Perm.append_right Vr List.perm_append_comm
  rotate_right
  ·intro p hp
   rcases List.mem_cons.1 hp with rfl | hp
   ·exact e1
   ·exact hx p hp
  ·intro b hb hm
   obtain ⟨c,h1,h2⟩:=BW hm
   exact hi a (by simp) c (List.mem_cons_of_mem _ h1) (fun e=>hd.1 (by rw [e]; exact List.mem_map_of_mem h1)) b hb h2
theorem F5 {r:NV} {f:Fr}:∀ {sl:LQ},(∀ p∈sl,r p.2.1=p.2.2)→(∀ p∈f,r p.1=p.2)→∀ p∈yy sl f,r p.1=p.2:=by
 intro sl
 induction sl with
 | nil=>intro _ h; exact h
 | cons a sl ih=>
  intro h1 h2 p hp
  rcases List.mem_cons.1 hp with rfl | hp
  ·exact h1 a (by simp)
  ·exact ih (fun p hp=>h1 p (List.mem_cons_of_mem _ hp)) h2 p hp
theorem N4 {mt:Nat} {U:LL} {Lr:QE} (hh:mm l mt base=true) {sl:LQ} {ms:MM} {Γ:QE} {m:Option (Out S R)} (Ls:zR ms=true) (o5:BU U sl ms=true)
  (h:∀ x:o6 ms,D P cx (.p (yy sl (mF ms x)) (BS ms x) base Γ fun fr Γ=>.tg false (zM tail) l tail K Γ fr m)) {B:Bs} {o:Out S R} (ho:m=some o) {r0:NV} {w0:World} {H:LN} {Z:Nat→Prop} (ha:cw r0 base) (hs:rA B Z Lr Γ H w0) {S':List ir} (hi:S'.length=mt) (hR:je Z l S' sl ms) :
  ∀ g r w,vM l mt S' U r0 w0 H (fun j=>j < mt) g r w→WL P l tail r w (l4 P cx B K o .normal):=by
 obtain ⟨F,Hd,⟨zU,zV,u7,zW⟩,hS,hG⟩:=hs
 intro g r w hI
 have JC:∀ k j,j∈U.getD k []→∀ a∈ms,a.j≠j:=by
  intro k j hj
  unfold BU at o5
  rw [Bool.and_eq_true] at o5
  rw [List.getD_eq_getElem?_getD] at hj
  cases hk:U[k]? with
  | none=>rw [hk] at hj; exact absurd hj List.not_mem_nil
  | some us=>
   rw [hk] at hj
   have h1:=List.all_eq_true.1 (List.all_eq_true.1 o5.1 us (List.mem_of_getElem? hk)) j hj
   intro a ha he
   have:=List.all_eq_true.1 h1 a ha
   rw [he,Nat.beq_refl] at this
   cases this
 have hD:∀ j,j < mt→(∀ k,j ∉ U.getD k [])→vL l S' j g r w:=fun j hj hn=>hI.done j hj fun k _=>hn k
 have av:∀ a∈ms,a.j < mt:=fun a ha=>hi ▸ hR.lt ha
 obtain ⟨x,hx,tj,Tk⟩:=Qh (g:=g) (r:=r) (w:=w) Ls hR.d (fun a ha b hb mi=>hI.vh _ _ (av a ha) (av b hb) mi) fun a ha=>by
  have:=hR.FI (S2:=[]) ha (by rw [List.append_nil]; exact hD a.j (av a ha) (fun k hk=>JC k _ hk a ha rfl))
  exact this
 have CE:=List.nodup_append.1 hG.nd
 have qa:∀ b∈yE g ms,w0.heap.size≤b∨b∈H:=fun b hb=>by
  obtain ⟨a,h1,h2⟩:=BW hb
  exact (hI.fresh a.j (av a h1) b h2).1.imp (fun h=>h) (·.1)
 have fl:=rA.stay hS hG hI.lq
 obtain ⟨Vo,Vr,Tl,Tn,tj⟩:=tj
 obtain ⟨F',hp,gw⟩:=tj.build (fl.mono (fun _ h=>.inl h) fun _ h=>h)
 have F6:Gd B Z (yE g ms++F) w:=by
  refine ⟨wZ Tk CE.2.1 fun b hb hF=>(qa b hb).elim (fun h=>Nat.lt_irrefl _ (Nat.lt_of_lt_of_le (hS.lt b hF) h)) (fun h=>CE.2.2 b h b hF rfl),?_,fun b hb=>Nat.lt_of_lt_of_le (hG.ri b hb) hI.lq.size,?_,hG.wO,hG.xp,hG.lq.then hI.lq fun b hb=>hG.low b (List.mem_append_left _ hb)⟩
  ·intro b hb hz
   rcases List.mem_append.1 hb with hb | hb
   ·exact (qa b hb).elim (fun h=>Nat.lt_irrefl _ (Nat.lt_of_lt_of_le (hG.ri b hz) h)) (fun h=>hG.apart b (List.mem_append_left _ h) hz)
   ·exact hG.apart b (List.mem_append_right _ hb) hz
  ·intro b hb
   rcases List.mem_append.1 hb with hb | hb
   ·exact (qa b hb).elim (fun h=>.inr (Nat.le_trans hG.lq.size h)) (fun h=>hG.low b (List.mem_append_left _ h))
   ·exact hG.low b (List.mem_append_right _ hb)
 have N5:cw r ((yy sl (mF ms x)).reverse++base):=by
  refine tX (F5 (fun p hp=>?_) hx) (l6 hh ha hI.other)
  exact hR.zx (S2:=[]) hp fun j _ hj=>(by rw [List.append_nil]; exact hI.rW j (hi ▸ hj))
 have:=(h x).sound B o ho r w N5 ⟨_,F',gw,((F6.perm (It Tl)).freeze Tn).perm hp⟩
 exact this
theorem Rj {mt id:Nat} {U:LL} {Zl:LN} {Lr:QE} (hU:((List.range mt).all fun i=>(U.getD i []).all fun u=>Nat.beq u l.length || ((cb l).getD i []).contains u)=true) (hh:mm l mt base=true) (hd:dp cx.n l=true) (hA:yF l mt Zl=true) (hZ:F7 l mt Zl=true) (F8:mt≤l.length) (ht:tail=l.drop mt) {i:Nat} {sl:LQ} {ms:MM} {Γ:QE} {m:Option (Out S R)} (Ls:zR ms=true) (o5:BU U sl ms=true)
  (h:∀ x:o6 ms,D P cx (.p (yy sl (mF ms x)) (BS ms x) base Γ fun fr Γ=>.tg false (zM tail) l tail K Γ fr m)):JB P cx K l l mt U Lr id base (.a [] [] i sl ms Γ m):=by
 rintro ⟨_,h2,h3⟩ B o ho r0 w0 H Z ha hs ⟨S',hl,hR,hO⟩
 have hi:i=mt:=by
  have:=congrArg List.length h2
  simp at this
  omega
 subst hl
 have hs2:=hs
 obtain ⟨F,Hd,⟨zU,zV,u7,zW⟩,hS,hG⟩:=hs
 refine Tp (N:=Z) (S:=S') (U:=U) (H:=H) hd hA hZ (fun c r w h=>Bv c h) F8 hi u7 hU (fun b hb=>⟨hG.ri b hb,fun h=>hG.apart b (List.mem_append_left _ h) hb⟩) (fun i s hs=>hR.s i s hs) (fun j hj=>hO j (by omega)) ?_
 intro g r w hI
 have:=N4 hh Ls o5 h ho ha hs2 hi hR g r w hI
 rwa [ht] at this
def Kq (q:Option (Bool×Nat×Value)) (f:Fr):Fr:=
 match q with
 | none=>f
 | some (_,d,u)=>(d,u) :: f
theorem Kp.lk {ws:LN} {q:Option (Bool×Nat×Value)} {f g:Fr} (h:Kp ws q f g):(∀ b d u,q=some (b,d,u)→b=jh d ws)→∀ t v,look g t=some v→jh t ws=false∧look (Kq q f) t=some v:=by
 induction h with
 | nil=>intro _ t v h; cases h
 | cons _ ih=>intro _ t v h; exact ih (by rintro b d u h; cases h; rfl) t v h
 | @drop ws d u f g _ ih=>
  intro hq t v h
  obtain ⟨h1,h2⟩:=ih (by rintro b d u h; cases h) t v h
  refine ⟨h1,?_⟩
  show look ((d,u) :: f) t=some v
  unfold look
  cases hb:Nat.beq t d with
  | true=>have:=hq true d u rfl; rw [Nat.eq_of_beq_eq_true hb,← this] at h1; cases h1
  | false=>exact h2
 | @ee ws d u f g _ ih=>
  intro hq t v h
  unfold look at h
  show jh t ws=false∧look ((d,u) :: f) t=some v
  unfold look
  cases hb:Nat.beq t d with
  | true=>rw [hb] at h; exact ⟨by rw [Nat.eq_of_beq_eq_true hb]; exact (hq false d u rfl).symm,h⟩
  | false=>
   rw [hb] at h
   obtain ⟨h1,h2⟩:=ih (by rintro b d u h; cases h) t v h
   unfold jh at h1
   rw [hb] at h1
   exact ⟨h1,h2⟩
theorem Kp.sound {ws:LN} {f g:Fr} {r:NV} (h:Kp ws none f g) (ha:cw r f):cw r g:=
 fun t v hl=>ha t v (h.lk (by rintro b d u h; cases h) t v hl).2
theorem Tq {id:Nat} (hd:QE) (mt:Nat) (Zl:LN) (U as:LL) {ops:LO} {Γ Γ1:QE} {fr:Fr} {m:Option (Out S R)}
  (hB:(P.follows .mixedOrders && dp cx.n l && yF l mt Zl && F7 l mt Zl && Nat.ble mt l.length && (ml l U mt == as) && ((List.range mt).all fun i=>(U.getD i []).all fun u=>Nat.beq u l.length || ((cb l).getD i []).contains u))=true)
  (ho:ops=l.take mt) (ht:tail=l.drop mt) (hf:Kp (yq ops) none fr base) (hh:mm l mt base=true) (he:EO Γ hd Γ1) (F9:OW Γ hd)
  (h:AD false P cx K l tail base U hd (.a as ops 0 [] [] Γ1 m)):∀ B o,m=some o→∀ r w,cw r fr→St B Γ w→nv P cx.n l (l4 P cx B K o) r w:=by
 simp only [Bool.and_eq_true] at hB
 obtain ⟨⟨⟨⟨⟨⟨_,b2⟩,b3⟩,b4⟩,b5⟩,b6⟩,b7⟩:=hB
 intro B o hm r w ha hs
 obtain ⟨Z,F,hS,hG⟩:=hs
 obtain ⟨Fd,F',h1,h2,h3⟩:=he.sound hS
 have Ga:SA Z w hd [] Fd:=by
  have:=(HO.hl F9 hS h1).front (Γ:=[]) (F:=[]) rfl
  simpa using this
 have hX:rA B Z hd Γ1 Fd w:=⟨F',Fd,⟨Ga,fun b hb=>⟨hb,Ga.lt b hb⟩,Ga.lt,(List.nodup_append.1 (hG.perm h3).nd).1⟩,h2,hG.perm h3⟩
 refine AD.sound (id:=id) hh (fun _ _ _ _ _ _ hs he h=>Rj b7 hh b2 b3 b4 (Nat.le_of_ble_eq_true b5) ht hs he h) h
  ⟨by rw [List.drop_zero]; exact (eq_of_beq b6).symm,by rw [List.drop_zero]; exact ho,Nat.zero_le _⟩ B o hm r w Fd Z (hf.sound ha) hX ⟨[],rfl,⟨fun _ h=>absurd h List.not_mem_nil,fun _ h=>absurd h List.not_mem_nil,fun i s h=>by simp at h,List.nodup_nil,fun _ _ _ h1 h2=>CF l (Lt b3) h1 h2⟩,fun j hj=>absurd hj (Nat.not_lt_zero j)⟩
theorem vN {id:Nat} (hd:QE) (mt:Nat) (Zl:LN) (U as:LL) {ops:LO} {Γ Γ1:QE} {fr:Fr} {m:Option (Out S R)}
  (hB:(P.follows .mixedOrders && dp cx.n l && yF l mt Zl && F7 l mt Zl && Nat.ble mt l.length && (ml l U mt == as) && ((List.range mt).all fun i=>(U.getD i []).all fun u=>Nat.beq u l.length || ((cb l).getD i []).contains u))=true)
  (ho:ops=l.take mt) (ht:tail=l.drop mt) (hf:Kp (yq ops) none fr base) (hh:mm l mt base=true) (he:EO Γ hd Γ1) (F9:OW Γ hd)
  (h:AD false P cx K l tail base U hd (.a as ops 0 [] [] Γ1 m)):Bx (p9 P cx (.dr id l K Γ fr m)):=by
 have hm:P.follows .mixedOrders=true:=by
  simp only [Bool.and_eq_true] at hB
  exact hB.1.1.1.1.1.1
 rw [qy]
 intro B o qb r w ha hs
 exact (Tq (id:=id) hd mt Zl U as hB ho ht hf hh he F9 h B o qb r w ha hs).W hm
theorem Tr {id:Nat} {l0:LO} (σ π:LN) (hd:QE) (mt:Nat) (Zl:LN) (U as:LL) {ops:LO} {Γ Γ1:QE} {fr:Fr} {m:Option (Out S R)}
  (hB:(P.follows .mixedOrders && N6 l0 σ π && dp cx.n (pg l0 σ π) && yF (pg l0 σ π) mt Zl && F7 (pg l0 σ π) mt Zl && Nat.ble mt (pg l0 σ π).length && (ml (pg l0 σ π) U mt == as) && ((List.range mt).all fun i=>(U.getD i []).all fun u=>Nat.beq u (pg l0 σ π).length || ((cb (pg l0 σ π)).getD i []).contains u))=true)
  (hl:l=pg l0 σ π) (ho:ops=l.take mt) (ht:tail=l.drop mt) (hf:Kp (yq ops) none fr base) (hh:mm l mt base=true) (he:EO Γ hd Γ1) (F9:OW Γ hd)
  (h:AD false P cx K l tail base U hd (.a as ops 0 [] [] Γ1 m)):Bx (p9 P cx (.dr id l0 K Γ fr m)):=by
 subst hl
 simp only [Bool.and_eq_true] at hB
 obtain ⟨⟨⟨⟨⟨⟨⟨b0,b1⟩,b2⟩,b3⟩,b4⟩,b5⟩,b6⟩,b7⟩:=hB
 rw [qy]
 intro B o qb r w ha hs
 refine ((Tq (id:=id) hd mt Zl U as ?_ ho ht hf hh he F9 h B o qb r w ha hs).prm b1).W b0
 simp only [Bool.and_eq_true]
 exact ⟨⟨⟨⟨⟨⟨b0,b2⟩,b3⟩,b4⟩,b5⟩,b6⟩,b7⟩
theorem any {id:Nat} (mt:Nat) (Zl:LN) (U as:LL) {ops:LO} {Γ:QE} {fr:Fr} {m:Option (Out S R)}
  (hB:(P.follows .mixedOrders && dp cx.n l && yF l mt Zl && F7 l mt Zl && Nat.ble mt l.length && (ml l U mt == as) && ((List.range mt).all fun i=>(U.getD i []).all fun u=>Nat.beq u l.length || ((cb l).getD i []).contains u))=true)
  (ho:ops=l.take mt) (ht:tail=l.drop mt) (hf:Kp (yq ops) none fr base) (hh:mm l mt base=true)
  (h:AD false P cx K l tail base U [] (.a as ops 0 [] [] Γ m)):Bx (p9 P cx (.dr id l K Γ fr m)):=vN [] mt Zl U as hB ho ht hf hh .nil .nil h
end
end Go.Dk
