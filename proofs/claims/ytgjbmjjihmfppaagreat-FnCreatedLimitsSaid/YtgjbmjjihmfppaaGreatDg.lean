/- A calculus of walks: regions that draw their order and make memory. No condition. -/
import Derived.Test.YtgjbmjjihmfppaaGreatDe
import Derived.Laws.Slices
namespace Go.Dk
open Go Go.Li
section
variable {w:World}
def vD {α:Type} (e:TI) (E:ah α) (j:Nat):ah (List α) where
 size:=1
 rep h cs xs f:=∃ b cap cur f1 f2 p c0 q,cs=[.slice (some ⟨b,0,none⟩) xs.length cap]∧h[b]? = some (.cells cur e (0,0))∧f=b :: (f1++f2)∧(xs.length≤cap∧cap≤maxLen∧cur.size=cap∧E.size=1)∧cur.toList.take xs.length=p++[c0]++q∧(p.length=j∧j < xs.length)∧
  (∀ i∈f1++f2,i < h.size)∧∀ h':Array Obj,(∀ i∈f1++f2,h'[i]? = h[i]?)→∀ u z k,E.rep h' [u] z k→ed E h' (p++[u]++q) (xs.set j z) (f1++k++f2)
 len:=by rintro h cs x f ⟨b,cap,cur,f1,f2,p,c0,q,rfl,_⟩; rfl
 one:=by rintro h cs x f ⟨b,cap,cur,f1,f2,p,c0,q,rfl,_⟩ v hv; simp at hv; subst hv; rfl
 congr:=by
  rintro h h' cs x f ⟨b,cap,cur,f1,f2,p,c0,q,rfl,h1,rfl,h2,h3,h4,h5,h6⟩ hb
  refine ⟨b,cap,cur,f1,f2,p,c0,q,rfl,(hb b (by simp)).trans h1,rfl,h2,h3,h4,fun i hi=>?_,fun h'' dc=>h6 h'' fun i hi=>(dc i hi).trans (hb i (List.mem_cons_of_mem _ hi))⟩
  have:=hb i (List.mem_cons_of_mem _ hi)
  rw [Array.getElem?_eq_getElem (h5 i hi)] at this
  exact (Array.getElem?_eq_some_iff.1 this).1
 lt:=by
  rintro h cs x f ⟨b,cap,cur,f1,f2,p,c0,q,rfl,h1,rfl,h2,h3,h4,h5,h6⟩ i hi
  rcases List.mem_cons.1 hi with rfl | hi
  ·exact (Array.getElem?_eq_some_iff.1 h1).1
  ·exact h5 i hi
theorem H7 {α:Type} {e:TI} {E:ah α} {v u:Value} {xs:List α} {f:LN} {j:Int} {z:α} (h1:E.size=1) (hO:(aJ e E).rep w.heap [v] xs f) (hz:xs[j.toNat]? = some z) (hu:w.cell? (di v 1 j)=some u) :
  ∃ k g,E.rep w.heap [u] z k∧(k++g).Perm f∧(vD e E j.toNat).rep w.heap [v] xs g:=by
 obtain ⟨base,cap,hv,hr⟩:=hO
 obtain rfl:v = .slice base xs.length cap:=by simpa using hv
 have bn:j.toNat < xs.length:=(List.getElem?_eq_some_iff.1 hz).1
 rcases hr with ⟨_,_,rfl,_⟩ | ⟨b,cur,f0,rfl,hg,rfl,BL,vu,xJ,ez⟩
 ·simp at bn
 ·rw [h1,Nat.mul_one] at xJ ez
  have yk:di (.slice (some ⟨b,0,none⟩) xs.length cap) 1 j = ⟨b,j.toNat,none⟩:=by
   simp only [di,jk,Nat.zero_add,Nat.mul_one]
  rw [yk,cell_of_row w b _ cur e _ hg] at hu
  have PI:∀ i∈f0,i < w.heap.size:=mx ez
  obtain ⟨c,g0,g1,g2,p,q,B7,hc,hp,BM,su⟩:=AR j.toNat z ez hz
  subst B7
  rw [h1,Nat.mul_one] at hp
  have Eh:c.length=1:=by rw [E.len BM,h1]
  obtain ⟨c0,rfl⟩ : ∃ c0,c=[c0]:=by match c,Eh with | [c0],_=>exact ⟨c0,rfl⟩
  have Vh:c0=u:=by
   have h2:(cur.toList.take xs.length)[j.toNat]? = some c0:=by
    rw [hc,List.append_assoc,List.getElem?_append_right (by omega),hp,Nat.sub_self]; rfl
   rw [List.getElem?_take,if_pos bn,Array.getElem?_toList,hu] at h2
   exact (Option.some.inj h2).symm
  subst Vh
  refine ⟨g1,b :: (g0++g2),BM,?_,b,cap,cur,g0,g2,p,c0,q,rfl,hg,rfl,⟨BL,vu,xJ,h1⟩,hc,⟨hp,bn⟩,fun i hi=>PI i (by rcases List.mem_append.1 hi with hi | hi <;> simp [hi]),fun h' dc u z' k' hr=>su h' [u] z' k' (fun i hi=>dc i (by simp [hi])) (fun i hi=>dc i (by simp [hi])) hr⟩
  refine (List.perm_append_comm (l₁:=g1) (l₂:=b :: (g0++g2))).trans ?_
  rw [List.cons_append]
  refine List.Perm.cons b ?_
  rw [List.append_assoc,List.append_assoc]
  exact List.Perm.append_left g0 List.perm_append_comm
end
structure ie where
 j:Nat
 d:Nat
 src:List Nat
 V:Type
 rt:Value→V→Value
 ps:Value→V→List aX
abbrev MM:=List ie
def ou:List ie→Type
 | []=>Unit
 | a :: l=>a.V×ou l
def zT (f:NV):List Nat→Value
 | []=>undef
 | [t]=>f t
 | ts=>.tuple (ts.map f).toArray
def zp (f:Fr) (t:Nat):Value:=match look f t with
 | some v=>v
 | none=>undef
def xB (a:ie) (r:NV):Value:=zT r a.src
def Ca (a:ie) (f:Fr):Value:=zT (zp f) a.src
theorem C3 {f g:NV}:∀ {ts:LN},(∀ t∈ts,f t=g t)→zT f ts=zT g ts:=by
 intro ts h
 match ts,h with
 | [],_=>rfl
 | [t],h=>exact h t (by simp)
 | t :: s :: ts,h=>
  show Value.tuple (List.map f (t :: s :: ts)).toArray=Value.tuple (List.map g (t :: s :: ts)).toArray
  rw [List.map_congr_left h]
def mF:(ms:MM)→ou ms→Fr
 | [],_=>[]
 | a :: l,x=>(a.d,a.rt (Ca a (mF l x.2)) x.1) :: mF l x.2
def FH:(ms:MM)→ou ms→List aX
 | [],_=>[]
 | a :: l,x=>a.ps (Ca a (mF l x.2)) x.1++FH l x.2
def mz (A:LN):(ms:MM)→ou ms→Fr
 | [],_=>[]
 | a :: l,x=>bif iH a.j A then (a.d,a.rt (Ca a (mF l x.2)) x.1) :: mz A l x.2 else mz A l x.2
def sa (A:LN):(ms:MM)→ou ms→List aX
 | [],_=>[]
 | a :: l,x=>bif iH a.j A then a.ps (Ca a (mF l x.2)) x.1++sa A l x.2 else sa A l x.2
def sw (t:Nat):List ie→Option Nat
 | []=>none
 | a :: l=>bif Nat.beq t a.d then some a.j else sw t l
def AX (ms:MM):List (Nat×Operand)→List Nat
 | []=>[]
 | (_,.tmp s) :: l=>match sw s ms with
  | some _=>s :: AX ms l
  | none=>AX ms l
 | _ :: l=>AX ms l
def ixL (s:Nat):List Nat→Option Nat
 | []=>none
 | t :: l=>bif Nat.beq s t then some 0 else (ixL s l).map (·+1)
def ab5 (v:Value) (k:Nat):Value:=match v with
 | .tuple vs=>vs.toList.getD k undef
 | _=>undef
def ab6 (f:Fr) (ts:LN) (u:Value):Operand→Value
 | .tmp s=>match ixL s ts with
  | some k=>(match ts with
   | [_]=>u
   | _=>ab5 u k)
  | none=>zp f s
 | x=>match bx f x with
  | some v=>v
  | none=>undef
def Zy (k:Nat) (v:Value):List Value:=bif Nat.beq k 1 then [v] else match v with
 | .agg cs=>cs.toList
 | _=>[]
def SE (pl:List (Nat×Nat)):List (Nat×Value)→List Value→List Value
 | [],cs=>cs
 | (i,v) :: l,cs=>match HE pl i with
  | some (off,k)=>SE pl l (cs.take off++Zy k v++cs.drop (off+k))
  | none=>cs
def VN (pl:List (Nat×Nat)) (f:Fr) (ts:LN) (ps:List (Nat×Operand)) (zc:LV) (u:Value):List Value:=SE pl (ps.map fun p=>(p.1,ab6 f ts u p.2)) zc
def tsB (A:LN) (ms:MM) (ts:LN):Bool:=ts.all fun t=>match sw t ms with
 | some j=>iH j A
 | none=>false
def qi (A:LN):List ie→Bool
 | []=>true
 | a :: l=>(bif iH a.j A then a.src.all (fun t=>match sw t l with
   | some j=>iH j A
   | none=>false) else true) && qi A l
def DQ:List ie→Bool
 | []=>true
 | a :: l=>a.src.all (fun t=>(sw t l).isSome) && DQ l
theorem H8 {A:LN} {r:NV} {t:Nat}:∀ {ms:MM} {x:ou ms} {j:Nat},sw t ms=some j→iH j A=true→(∀ p∈mz A ms x,r p.1=p.2)→look (mF ms x) t=some (r t):=by
 intro ms
 induction ms with
 | nil=>intro x j h; cases h
 | cons a l ih=>
  intro x j h hj hp
  unfold sw at h
  unfold mF look
  cases hb:Nat.beq t a.d with
  | true=>
   rw [hb] at h
   cases h
   have:=hp (a.d,a.rt (Ca a (mF l x.2)) x.1) (by unfold mz; rw [hj]; simp)
   simp only [cond_true]
   rw [Nat.eq_of_beq_eq_true hb,this]
  | false=>
   rw [hb] at h
   refine ih h hj fun p hm=>hp p ?_
   unfold mz
   cases iH a.j A with
   | true=>exact List.mem_cons_of_mem _ hm
   | false=>exact hm
theorem P4 {r:NV} {t:Nat}:∀ {ms:MM} {x:ou ms},(sw t ms).isSome=true→(∀ p∈mF ms x,r p.1=p.2)→look (mF ms x) t=some (r t):=by
 intro ms
 induction ms with
 | nil=>intro x h; cases h
 | cons a l ih=>
  intro x h hp
  unfold sw at h
  unfold mF at hp ⊢
  unfold look
  cases hb:Nat.beq t a.d with
  | true=>
   simp only [cond_true]
   rw [Nat.eq_of_beq_eq_true hb,hp (a.d,a.rt (Ca a (mF l x.2)) x.1) (by simp)]
  | false=>
   rw [hb] at h
   exact ih h fun p hm=>hp p (List.mem_cons_of_mem _ hm)
def HN (N:Nat→Prop) (w:World) (Δ:QE) (f:LN):Prop:=HL (fun _=>False) w Δ f∨∃ Fo Fr,f=Fo++Fr∧(s6 Δ=false∧∀ b∈Fr,b < w.heap.size)∧HL (fun b=>N b∨b∈Fr) w Δ Fo
def ND (N:Nat→Prop) (a:ie):List Nat→World→(Nat→Value)→Value→Prop:=fun f w r _=>∃ v:a.V,r a.d=a.rt (xB a r) v∧HN N w (a.ps (xB a r) v) f∧f.Nodup
def MV (N:Nat→Prop) (a:ie):List Nat→World→(Nat→Value)→Value→Prop:=fun f w r x=>∃ v:a.V,x=a.rt (xB a r) v∧HN N w (a.ps (xB a r) v) f∧f.Nodup
def SF (N:Nat→Prop) (a:LN) (l:LO) (s:ik):Prop:=∀ f F (w w':World) (r r':NV) v,aq F w w'→(∀ b∈f,b ∉ F)→(∀ b∈F,¬ N b)→(∀ j∈a,∀ t,b9 l j=some t→r' t=r t)→s.V f w r v→s.V f w' r' v
theorem H9.n {N:Nat→Prop} {a:LN} {l:LO} {s:ik} (h:H9 a l s):SF N a l s:=fun f F w w' r r' v hC hn _=>h f F w w' r r' v hC hn
section
variable {P:Program} {w w':World} {Z:Nat→Prop}
theorem HL.Zz {F H:LN} {Δ:QE} (h:HL (fun _=>False) w Δ F) (hC:aq H w w') (hd:∀ b∈F,b ∉ H):HL (fun _=>False) w' Δ F:=by
 induction h with
 | nil=>exact .nil
 | @own e f F Δ h _ ih=>exact .own (h.ep hC (fun _ _ h=>h) fun b hb hm=>hd b (List.mem_append_left _ hm) hb) (ih fun b hb=>hd b (List.mem_append_right _ hb))
 | @fact e F Δ h _ ih=>
  refine .fact ?_ (ih hd)
  cases e with
  | rd o T v x=>
   obtain ⟨g,h1,h2⟩:=h
   have hg:g=[]:=by
    cases g with
    | nil=>rfl
    | cons b g=>exact absurd (h2 b (by simp)) (by cases o <;> simp [v7])
   subst hg
   exact ⟨[],T.ep h1 hC (fun _ h=>absurd h List.not_mem_nil),fun _ h=>absurd h List.not_mem_nil⟩
  | ad o1 o2 v j T x=>obtain ⟨_,_,u,g,_,_,h3,_⟩:=h; exact absurd h3 (by cases o1 <;> simp [v7])
  | ay p cs=>
   have hc:cs=[]:=by
    cases cs with
    | nil=>rfl
    | cons c cs=>exact (h.2 (by simp)).elim
   subst hc
   exact ⟨fun j u hj=>by simp at hj,fun hn=>absurd rfl hn⟩
  | hd v j u=>exact absurd h.2.2.2 List.not_mem_nil
  | _=>exact h.elim
theorem HL.SG {F H:LN} {Δ:QE} (h:HL Z w Δ F) (hC:aq H w w') (hz:∀ b∈H,¬ Z b) (hd:∀ b∈F,b ∉ H):HL Z w' Δ F:=by
 induction h with
 | nil=>exact .nil
 | @own e f F Δ h _ ih=>exact .own (h.ep hC hz fun b hb hm=>hd b (List.mem_append_left _ hm) hb) (ih fun b hb=>hd b (List.mem_append_right _ hb))
 | @fact e F Δ h _ ih=>exact .fact (h.ep hC hz fun _ _ h=>nomatch h) (ih hd)
theorem HN.ep {N:Nat→Prop} {f H:LN} {Δ:QE} (h:HN N w Δ f) (hC:aq H w w') (hd:∀ b∈f,b ∉ H) (hz:∀ b∈H,¬ N b):HN N w' Δ f:=by
 rcases h with h | ⟨Fo,Fr,rfl,h1,h2⟩
 ·exact .inl (h.Zz hC hd)
 ·exact .inr ⟨Fo,Fr,rfl,⟨h1.1,fun b hb=>Nat.lt_of_lt_of_le (h1.2 b hb) hC.size⟩,h2.SG hC (fun b hb h=>h.elim (hz b hb) fun h=>hd b (List.mem_append_right _ h) hb) fun b hb=>hd b (List.mem_append_left _ hb)⟩
theorem HN.own {N:Nat→Prop} {f:LN} {Δ:QE} (h:HN N w Δ f) (ho:s6 Δ=true):HL (fun _=>False) w Δ f:=by
 rcases h with h | ⟨_,_,_,h1,_⟩
 ·exact h
 ·rw [ho] at h1; cases h1.1
theorem HN.all {N:Nat→Prop} {f:LN} {Δ:QE} (h:HN N w Δ f):∃ Fo Fr,f=Fo++Fr∧(∀ b∈Fr,b < w.heap.size)∧HL (fun b=>N b∨b∈Fr) w Δ Fo:=by
 rcases h with h | ⟨Fo,Fr,rfl,h1,h2⟩
 ·exact ⟨f,[],by simp,fun b (h:b∈[])=>absurd h List.not_mem_nil,h.mono fun _ h=>h.elim⟩
 ·exact ⟨Fo,Fr,rfl,h1.2,h2⟩
theorem HL.up {F:LN} {Δ:QE} (h:HL (fun _=>False) w Δ F):HL Z w Δ F:=by
 induction h with
 | nil=>exact .nil
 | own h _ ih=>exact .own (h.mono fun _ h=>h.elim) ih
 | fact h _ ih=>exact .fact (h.mono (fun _ h=>h.elim) fun _ h=>h) ih
theorem HL.app {Δ Δ':QE} {F F':LN} (h:HL Z w Δ F) (k:HL Z w Δ' F'):HL Z w (Δ++Δ') (F++F'):=by
 induction h with
 | nil=>exact k
 | own h _ ih=>rw [List.append_assoc]; exact .own h ih
 | fact h _ ih=>exact .fact h ih
theorem KP {a:ie} {r r':NV} (h:∀ t∈a.src,r' t=r t):xB a r'=xB a r:=C3 h
theorem NG {l:LO} {a:LN} {b:Bool} {m:ie} (hs:∀ t∈m.src,∃ j∈a,b9 l j=some t):SF Z a l ⟨b,MV Z m⟩:=by
 intro f F w w' r r' x hC hn hz hr ⟨v,h1,h2,h3⟩
 have e:=KP (a:=m) (r:=r) (r':=r') fun t ht=>by
  obtain ⟨j,hj,hd⟩:=hs t ht
  exact hr j hj t hd
 refine ⟨v,by rw [e]; exact h1,by rw [e]; exact h2.ep hC hn hz,h3⟩
theorem LS {l:LO} {a:LN} {b:Bool} {m:ie} (hd:∃ j∈a,b9 l j=some m.d) (hs:∀ t∈m.src,∃ j∈a,b9 l j=some t):SF Z a l ⟨b,ND Z m⟩:=by
 intro f F w w' r r' x hC hn hz hr ⟨v,h1,h2,h3⟩
 have e:=KP (a:=m) (r:=r) (r':=r') fun t ht=>by
  obtain ⟨j,hj,hd⟩:=hs t ht
  exact hr j hj t hd
 obtain ⟨j,hj,hjd⟩:=hd
 refine ⟨v,by rw [e,hr j hj _ hjd]; exact h1,by rw [e]; exact h2.ep hC hn hz,h3⟩
theorem lr.more {l:LO} {m i:Nat} {U:LL} {S S':List ik} {r0:NV} {w0:World} {H:LN} (h:lr P l m S U r0 w0 H i) (hi:i < S.length):lr P l m (S++S') U r0 w0 H i:=by
 intro o s ho hs g r w hC hV hO hn lu hd hf
 rw [List.getElem?_append_left hi] at hs
 refine h o s ho hs g r w hC hV (fun j hj d jd s' e7=>hO j hj d jd s' (by rw [List.getElem?_append_left (List.getElem?_eq_some_iff.1 e7).1]; exact e7)) (fun j hj=>?_) lu hd hf
 have:=hn j hj
 refine ⟨fun d jd=>?_,fun jd s' e7 dc=>?_⟩
 ·have h2:=this.1 d jd
  by_cases hl:j < S.length
  ·rw [List.getElem?_append_left hl] at h2; exact h2
  ·rw [List.getElem?_eq_none (by omega)]; trivial
 ·exact this.2 jd s' (by rw [List.getElem?_append_left (List.getElem?_eq_some_iff.1 e7).1]; exact e7) dc
end
inductive eG (A:LN):Option (Bool×Nat×Value)→List (Nat×Nat×Value)→Fr→Fr→Prop
 | nil {base:Fr}:eG A none [] base base
 | cons {j d:Nat} {u:Value} {l:LQ} {base fr:Fr} (h:eG A (some (iH j A,d,u)) l base fr):eG A none ((j,d,u) :: l) base fr
 | ep {d:Nat} {u:Value} {l:LQ} {base fr:Fr} (h:eG A none l base fr):eG A (some (true,d,u)) l base ((d,u) :: fr)
 | drop {d:Nat} {u:Value} {l:LQ} {base fr:Fr} (h:eG A none l base fr):eG A (some (false,d,u)) l base fr
theorem vv.B9 {Γ Γ':QE} {v:Addr} {o:Bool} {α:Type} {E:ah α} {x:α} {e:aX} (h:vv Γ v o E x e Γ') {Z:Nat→Prop} {w:World}:∀ {cur F:LN},SA Z w Γ cur F→(v.block∈cur∨v.block∈F)∨Z v.block:=by
 induction h with
 | @ad o1 o2 α E v j x e Γ=>
  intro cur F hS
  obtain ⟨⟨j0,j1,u,g,h1,h2,h3,h4⟩,h5⟩:=hS
  cases o1 with
  | false=>exact .inr h3
  | true=>exact .inl (.inl h3)
 | @there o2 α E v x e a Γ Γ' h ih=>
  intro cur F hS
  cases a with
  | own T v x=>obtain ⟨f,F',rfl,h2,h3⟩:=hS; exact (ih h3).imp (fun h=>.inr (List.mem_append.2 h)) id
  | om e E v xs=>obtain ⟨f,F',rfl,h2,h3⟩:=hS; exact (ih h3).imp (fun h=>.inr (List.mem_append.2 h)) id
  | row b cs e=>obtain ⟨f,F',rfl,h2,h3⟩:=hS; exact (ih h3).imp (fun h=>h.imp id (List.mem_append_right _)) id
  | gy e E v xs j u=>obtain ⟨f,F',rfl,h2,h3⟩:=hS; exact (ih h3).imp (fun h=>.inr (List.mem_append.2 h)) id
  | _=>exact ih hS.2
inductive VQ (P:Program) (Γ:QE) (fr:Fr):Op→Value→Prop
 | mv {x:OO} {v:Value} (hx:bx fr x=some v):VQ P Γ fr (.move x) v
 | add {x y:OO} {t t':TI} {a b:Int} (hx:bx fr x=some (.int .i64 a)) (hy:bx fr y=some (.int .i64 b)):VQ P Γ fr (.binOp .add t x y t') (.int .i64 (an (a+b)))
 | sub {x y:OO} {t t':TI} {a b:Int} (hx:bx fr x=some (.int .i64 a)) (hy:bx fr y=some (.int .i64 b)):VQ P Γ fr (.binOp .sub t x y t') (.int .i64 (an (a - b)))
 | PQ {x:OO} {a:Addr} (hx:bx fr x=some (.pointer (some a))):VQ P Γ fr (.nilCheck x) (.pointer (some a))
 | Vs {s k off:Nat} {x:OO} {a a':Addr} [hf:qw P s k off] (hx:bx fr x=some (.pointer (some a))) (ha:DN a off a'):VQ P Γ fr (.fieldAddr s x k) (.pointer (some a'))
 | len {x:OO} {v:Value} {t:TI} {n:Nat} [ht:yo P t] (hx:bx fr x=some v) (hr:vA Γ v n):VQ P Γ fr (.call ⟨.builtin .len,#[x],#[t]⟩) (.int .i64 (n:Int))
 | SC {t:TI} {ps:List (Nat×Operand)} {zc cs:LV} {pl:List (Nat×Nat)} [hb:BP P t zc pl] (hf:xV Γ fr pl ps zc cs):VQ P Γ fr (.build t ps.toArray) (.agg cs.toArray)
 | Vz {x:OO} {k k2:IntKind} {n:Int} {s t:TI} [ht:HH P s t k2] (hx:bx fr x=some (.int k n)):VQ P Γ fr (.convert s t x) (.int k2 (k2.wrap n))
 | mul {x y:OO} {t t':TI} {a b:Int} (hx:bx fr x=some (.int .i64 a)) (hy:bx fr y=some (.int .i64 b)):VQ P Γ fr (.binOp .mul t x y t') (.int .i64 (an (a * b)))
 | PR {x:OO} {v:Value} {t:TI} {n k:Nat} [ht:Ek P t k] (hx:bx fr x=some v) (hr:vA Γ v n):VQ P Γ fr (.call ⟨.builtin .len,#[x],#[t]⟩) (.int .i64 (n:Int))
 | VO {α:Type} {S:ah α} {x:OO} {v:Value} {t:TI} {us:List (List Value)} {xs:List α} {k n e:Nat} {Γ1:QE} [ht:Ek P t k] (hx:bx fr x=some v) (hr:dp Γ (.own (aJ e (ef n)) v us) Γ1) (hg:In (.rd false (qf S) (.bool true) (us,xs)) Γ):VQ P Γ fr (.call ⟨.builtin .len,#[x],#[t]⟩) (.int .i64 (xs.length:Int))
theorem VQ.sound {P:Program} {Γ:QE} {fr:Fr} {op:Op} {u:Value} (h:VQ P Γ fr op u) {Z:Nat→Prop} {w:World} {cur F:LN} (hS:SA Z w Γ cur F) {r:NV} (ha:db r fr) (d:Option Nat) (ty:TI) (pos:String) (af:Array Edge) (g:Option (Nat×Bool)) :
  Rd P w r ⟨d,op,ty,pos,af,g⟩ u:=by
 cases h with
 | mv hx=>exact Mv _ (aY ha hx)
 | add hx hy=>exact Ba (aY ha hx) (aY ha hy)
 | sub hx hy=>exact Go.Li.Bs (aY ha hx) (aY ha hy)
 | PQ hx=>exact Nk (aY ha hx)
 | @Vs s k off x a a' hf hx hq=>rw [hq.eq]; exact Fp hf.h (aY ha hx)
 | @Vz x k k2 n s t ht hx=>exact fun _ _=>KO ht.h.1 ht.h.2 (aY ha hx)
 | mul hx hy=>exact Bm (aY ha hx) (aY ha hy)
 | @len x v t n ht hx hr=>
  obtain ⟨b,c,rfl⟩:=hr.sound hS
  obtain ⟨e,i,h1,_,_⟩:=ht.h
  exact fun _ _=>vB h1 (aY ha hx)
 | @PR x v t n k ht hx hr=>
  obtain ⟨b,c,rfl⟩:=hr.sound hS
  obtain ⟨e,i,h1,_,_⟩:=ht.h
  exact fun _ _=>vB h1 (aY ha hx)
 | @VO α S x v t us xs k n e' Γ1 ht hx hr hg=>
  obtain ⟨f,F1,_,hO,_⟩:=hr.sound hS
  obtain ⟨e,i,h1,_,_⟩:=ht.h
  obtain ⟨g0,hk,_⟩:=hg.rd hS []
  obtain ⟨base,cap,hv,_⟩:=hO
  obtain rfl:v = .slice base us.length cap:=by simpa using hv
  rw [← Ab hk.2.1]
  exact fun _ _=>vB h1 (aY ha hx)
 | @SC t ps zc cs pl hb hf=>
  obtain ⟨fs,i,z,h1,h2,h3,h4,h5⟩:=hb.h
  refine Bu ?_
  have:=hf.fill ha hS
  unfold Program.built
  rw [h3,h1]
  simp only [h4,h2]
  rw [show z.cells=zc.toArray by rw [← h5]]
  exact this
theorem eG.sound {A:LN} {q:Option (Bool×Nat×Value)} {sl:LQ} {base fr:Fr} {r:NV} (h:eG A q sl base fr) (hb:db r base) :
  (∀ p∈sl,iH p.1 A=true→r p.2.1=p.2.2)→(∀ b d u,q=some (b,d,u)→b=true→r d=u)→db r fr:=by
 induction h with
 | nil=>intro _ _; exact hb
 | @cons j d u l base fr _ ih=>
  intro h1 _
  refine ih hb (fun p hp=>h1 p (by simp [hp])) ?_
  rintro b d' u' he hbt
  cases he
  exact h1 (j,d,u) (by simp) hbt
 | @ep d u l base fr _ ih=>
  intro h1 h2
  intro s v hl
  unfold look at hl
  cases tU:Nat.beq s d with
  | true=>rw [tU] at hl; cases hl; rw [Nat.eq_of_beq_eq_true tU]; exact h2 true d _ rfl rfl
  | false=>rw [tU] at hl; exact ih hb h1 (fun _ _ _ h=>nomatch h) s v hl
 | drop _ ih=>intro h1 _; exact ih hb h1 (fun _ _ _ h=>nomatch h)
def Cb:List (Nat×Nat×Value)→Fr→Fr
 | [],f=>f
 | (_,d,u) :: l,f=>(d,u) :: Cb l f
inductive LU (P:Program) (f:FuncId) (xs:List Operand) (fr:Fr) (Γ:QE) {β V:Type} (mo:Option β) (rt:β→V→List Value) (ps:β→V→List aX):Prop
 | mk {vs:LV} {Δ:QE} (hx:vr fr xs=some vs) (hc:Ct P f true mo vs Δ rt ps) (hd:FO Δ) (hr:ER true Γ Δ):LU P f xs fr Γ mo rt ps
inductive FnJ (P:Program) (f:FuncId):Prop
 | mk [h:br P f]:FnJ P f
inductive LW (P:Program) (f:FuncId) (as bs:LV) (xs:List Operand) (fr:Fr) (Γ:QE) {β V:Type} (mo:Option β) (rt:β→V→List Value) (ps:β→V→List aX):Prop
 | mk {vs us ws:LV} {Δ:QE} (hx:vr fr xs=some vs) (h1:pq vs bs us) (h2:pq as us ws) (hc:Ct P f true mo ws Δ rt ps) (hd:FO Δ) (hr:ER true Γ Δ):LW P f as bs xs fr Γ mo rt ps
inductive Ia {β V:Type} (P:Program) (f:FuncId) (xs:List Operand) (fr:Fr) (hd Γ:QE) (mo:Option β) (rt:β→V→List Value) (ps:β→V→List aX):Prop
 | mk {vs:LV} {Δ Γ':QE} (hx:vr fr xs=some vs) (hc:Ct P f false mo vs Δ rt ps) (ho:EO hd Δ Γ') (hr:ER false (Γ'++Γ) Δ):Ia P f xs fr hd Γ mo rt ps
inductive Eu (P:Program) (f:FuncId) (xs:List Operand) (fr:Fr) (hd:QE) (Γ:QE) {β V:Type} (mo:Option β) (rt:β→V→List Value) (ps:β→V→List aX):Prop
 | mk {vs:LV} {Δ Γ':QE} (hx:vr fr xs=some vs) (hc:Ct P f true mo vs Δ rt ps) (ho:EO hd Δ Γ') (hr:ER true Γ Δ):Eu P f xs fr hd Γ mo rt ps
inductive n4:List ie→Prop
 | nil:n4 []
 | cons {a:ie} {l:MM} (h:Em a.V) (k:n4 l):n4 (a :: l)
theorem n4.ne {ms:MM} (h:n4 ms):Nonempty (ou ms):=by
 induction h with
 | nil=>exact ⟨()⟩
 | cons h _ ih=>obtain ⟨a⟩:=h.ne; obtain ⟨b⟩:=ih; exact ⟨(a,b)⟩
inductive Ib:List ie→Nat→Bool→Prop
 | here {a:ie} {l:MM}:Ib (a :: l) a.d true
 | there {a:ie} {l:MM} {t:Nat} {b:Bool} (h:Ib l t b):Ib (a :: l) t b
 | nil {t:Nat}:Ib [] t false
inductive P5 (fr:Fr) (Γ:QE) (t:Nat):Prop
 | mk {v:Value} (h:look fr t=some v) (hc:One Γ v):P5 fr Γ t
inductive P6 (fr:Fr) (t n:Nat):Prop
 | mk {cs:LV} (h:look fr t=some (.agg cs.toArray)) (hl:cs.length=n):P6 fr t n
inductive VP (fr:Fr) (Γ:QE) (t n:Nat):Prop
 | mk {v:Value} (h:look fr t=some v) (hc:vA Γ v n):VP fr Γ t n
inductive JA (R S:Type):Type 1
 | a (as:LL) (ops:LO) (i:Nat) (sl:LQ) (ms:MM) (Γ:QE) (m:Option (Out S R))
 | o (A:LN) (op:Op) (d:Nat) (ty:TI) (as:LL) (ops:LO) (i:Nat) (sl:LQ) (ms:MM) (Γ:QE) (m:Option (Out S R))
 | ow (b:Bool) (A:LN) (op:Op) (d:Nat) (ty:TI) (as:LL) (ops:LO) (i:Nat) (sl:LQ) (ms:MM) (Γ:QE) (m:Option (Out S R))
 | ix (b:Bool) (v:Value) (fr:Fr) (x y:OO) (t:TI) (A:LN) (d:Nat) (ty:TI) (as:LL) (ops:LO) (i:Nat) (sl:LQ) (ms:MM) (Γ:QE) (m:Option (Out S R))
 | lb (b:Bool) (v:Value) (j:Int) (fr:Fr) (t:TI) (x:OO) (A:LN) (d:Nat) (ty:TI) (as:LL) (ops:LO) (i:Nat) (sl:LQ) (ms:MM) (Γ:QE) (m:Option (Out S R))
 | ap (us:LN) (t1 t2:Nat) (t:TI) (A:LN) (d:Nat) (ty:TI) (as:LL) (ops:LO) (i:Nat) (sl:LQ) (ms:MM) (Γ:QE) (m:Option (Out S R))
 | la (fr:Fr) (ad:Addr) (lk:Option Nat) (t:TI) (x:OO) (A:LN) (d:Nat) (ty:TI) (as:LL) (ops:LO) (i:Nat) (sl:LQ) (ms:MM) (Γ:QE) (m:Option (Out S R))
 | ld {α:Type} (E:ah α) (z:α) (fr:Fr) (ad:Addr) (t:TI) (x:OO) (A:LN) (d:Nat) (ty:TI) (as:LL) (ops:LO) (i:Nat) (sl:LQ) (ms:MM) (Γ:QE) (m:Option (Out S R))
 | oc (us:LN) (f:FuncId) (xs:List Operand) (ay:Array TypeId) (A:LN) (d:Nat) (ty:TI) (as:LL) (ops:LO) (i:Nat) (sl:LQ) (ms:MM) (Γ:QE) (m:Option (Out S R))
 | os (A:LN) (op:Op) (ty:TI) (as:LL) (ops:LO) (i:Nat) (sl:LQ) (ms:MM) (Γ:QE) (m:Option (Out S R))
 | cr {V:Type} (u:V→Value) (ps:V→List aX) (d:Nat) (as:LL) (ops:LO) (i:Nat) (sl:LQ) (ms:MM) (Γ:QE) (m:Option (Out S R))
 | p (Δ:QE) (as:LL) (ops:LO) (i:Nat) (sl:LQ) (ms:MM) (Γ:QE) (m:Option (Out S R))
inductive KQ:List aX→Value→Bool→Prop
 | here {α:Type} {T:ah α} {v:Value} {x:α} {Γ:QE}:KQ (.own T v x :: Γ) v true
 | there {e:aX} {v:Value} {b:Bool} {Γ:QE} (h:KQ Γ v b):KQ (e :: Γ) v b
 | nil {v:Value}:KQ [] v false
inductive wD:List ie→Nat→ie→List ie→Prop
 | here {a:ie} {l:MM}:wD (a :: l) a.d a l
 | there {a b:ie} {l l':MM} {t:Nat} (h:wD l t a l'):wD (b :: l) t a (b :: l')
inductive DR:List ie→Nat→ie→List ie→Prop
 | here {a:ie} {l:MM}:DR (a :: l) a.j a l
 | there {a b:ie} {l l':MM} {t:Nat} (h:DR l t a l'):DR (b :: l) t a (b :: l')
def P7 (j i:Nat) (sl:LQ):List (Nat×Nat×Value):=sl.map fun p=>bif Nat.beq p.1 j then (i,p.2) else p
def FI (U:LL) (_sl:LQ) (ms:MM):Bool:=U.all fun us=>us.all fun j=>ms.all fun a=>!Nat.beq a.j j
inductive AD {R S:Type} (tq:Bool) (P:Program) (cx:Cx R) (K:dq R S) (l tail:LO) (base:Fr) (U:LL):List aX→JA R S→Prop
 | nil {hd:QE} {i:Nat} {sl:LQ} {ms:MM} {Γ:QE} {m:Option (Out S R)} (AY:DQ ms=true) (he:FI U sl ms=true) (h:∀ x:ou ms,D P cx (.p (Cb sl (mF ms x)) (FH ms x) base Γ fun fr Γ=>.tg tq (DO tail) l tail K Γ fr m)):AD tq P cx K l tail base U hd (.a [] [] i sl ms Γ m)
 | cons {hd:QE} {A:LN} {as:LL} {op:Op} {d:Nat} {ty:TI} {pos:String} {af:Array Edge} {ops:LO} {i:Nat} {sl:LQ} {ms:MM} {Γ:QE} {m:Option (Out S R)} (h:AD tq P cx K l tail base U hd (.o A op d ty as ops i sl ms Γ m)) :
   AD tq P cx K l tail base U hd (.a (A :: as) (⟨some d,op,ty,pos,af,none⟩ :: ops) i sl ms Γ m)
 | LX {hd:QE} {A:LN} {as:LL} {op:Op} {ty:TI} {pos:String} {af:Array Edge} {ops:LO} {i:Nat} {sl:LQ} {ms:MM} {Γ:QE} {m:Option (Out S R)} (h:AD tq P cx K l tail base U hd (.os A op ty as ops i sl ms Γ m)) :
   AD tq P cx K l tail base U hd (.a (A :: as) (⟨none,op,ty,pos,af,none⟩ :: ops) i sl ms Γ m)
 | Vy {hd:QE} {t e:TI} {t1 j1 n:Nat} {y:OO} {u:Value} {us cs ds:LV} {qh:MM} {fr:Fr} {A:LN} {as:LL} {ty:TI} {ops:LO} {i:Nat} {sl:LQ} {ms:MM} {Γ:QE} {m:Option (Out S R)} [ht:vy P t n]
   (h1:wD ms t1 ⟨j1,t1,[],Nat,fun _ b=>.pointer (some ⟨b,0,none⟩),fun _ b=>[.row b cs e]⟩ qh) (hv:eG A none sl base fr) (hy:bx fr y=some u) (hc:tR Γ u us) (hn:us.length=n) (hs:uO us 0 cs ds) (ho:wq Γ us) (h4:iH j1 A=true) (h6:U.getD i []=[j1])
   (h:AD tq P cx K l tail base U hd (.a as ops (i+1) sl (⟨i,t1,[],Nat,fun _ b=>.pointer (some ⟨b,0,none⟩),fun _ b=>[.row b ds e]⟩ :: qh) Γ m)):AD tq P cx K l tail base U hd (.os A (.store t (.tmp t1) y) ty as ops i sl ms Γ m)
 | HM {hd:QE} {α:Type} {A:LN} {as:LL} {d:Nat} {t e ty:TI} {E:ah α} {z0:α} {bt:Nat} {ops:LO} {i:Nat} {sl:LQ} {ms:MM} {Γ:QE} {m:Option (Out S R)} [hz:tQ P t α e E z0 bt]
   (h:AD tq P cx K l tail base U hd (.a as ops (i+1) sl (⟨i,d,[],Value,fun _ v=>v,fun _ v=>[.own (aJ e E) v []]⟩ :: ms) Γ m)):AD tq P cx K l tail base U hd (.o A (.buildSlice t 0 #[]) d ty as ops i sl ms Γ m)
 | sw4 {hd:QE} {t st e:Nat} {α:Type} {E:ah α} {z0:α} {bt:Nat} {b:Bool} {A:LN} {as:LL} {d:Nat} {ty:TI} {ops:LO} {i:Nat} {sl:LQ} {ms:MM} {Γ:QE} {m:Option (Out S R)} [hz:tQ P st α e E z0 bt] (hw:Ib ms t b) (h:AD tq P cx K l tail base U hd (.ow b A (.buildSlice st 1 #[(0,.tmp t)]) d ty as ops i sl ms Γ m)):AD tq P cx K l tail base U hd (.o A (.buildSlice st 1 #[(0,.tmp t)]) d ty as ops i sl ms Γ m)
 | ltn {hd:QE} {t e:TI} {n:Nat} {ps:List (Nat×Operand)} {us:LV} {fr:Fr} {A:LN} {as:LL} {d:Nat} {ty:TI} {ops:LO} {i:Nat} {sl:LQ} {ms:MM} {Γ:QE} {m:Option (Out S R)} [hz:KK P t e] (hv:eG A none sl base fr) (hl:wx Γ fr 0 ps us) (hn:us.length=n) (hb:(Nat.ble 1 n && Nat.ble n 16777216)=true)
   (h:AD tq P cx K l tail base U hd (.a as ops (i+1) sl (⟨i,d,[],Nat,fun _ b=>.slice (some ⟨b,0,none⟩) n n,fun _ b=>[.row b us e]⟩ :: ms) Γ m)):AD tq P cx K l tail base U hd (.o A (.buildSlice t n ps.toArray) d ty as ops i sl ms Γ m)
 | ltu {hd:QE} {t e:TI} {n:Nat} {ps:List (Nat×Operand)} {us:LV} {fr:Fr} {A:LN} {as:LL} {d:Nat} {ty:TI} {ops:LO} {i:Nat} {sl:LQ} {ms:MM} {Γ:QE} {m:Option (Out S R)} [hz:HF P t e] (hv:eG A none sl base fr) (hl:wx Γ fr 0 ps us) (hn:us.length=n) (hb:(Nat.ble 1 n && Nat.ble n 16777216)=true)
   (h:AD tq P cx K l tail base U hd (.a as ops (i+1) sl (⟨i,d,[],Nat,fun _ b=>.slice (some ⟨b,0,none⟩) n n,fun _ b=>[.row b us e]⟩ :: ms) Γ m)):AD tq P cx K l tail base U hd (.o A (.buildSlice t n ps.toArray) d ty as ops i sl ms Γ m)
 | sw1 {hd:QE} {t:Nat} {b:Bool} {A:LN} {as:LL} {d:Nat} {ty:TI} {ops:LO} {i:Nat} {sl:LQ} {ms:MM} {Γ:QE} {m:Option (Out S R)} (hw:Ib ms t b) (h:AD tq P cx K l tail base U hd (.ow b A (.move (.tmp t)) d ty as ops i sl ms Γ m)):AD tq P cx K l tail base U hd (.o A (.move (.tmp t)) d ty as ops i sl ms Γ m)
 | wlt {hd:QE} {t e:TI} {α:Type} {E:ah α} {z0:α} {bt:Nat} {u:Value} {x:OO} {fr:Fr} {A:LN} {as:LL} {d:Nat} {ty:TI} {ops:LO} {i:Nat} {sl:LQ} {ms:MM} {Γ:QE} {m:Option (Out S R)} [hz:tQ P t α e E z0 bt] (hv:eG A none sl base fr) (hx:bx fr x=some u) (h1:One Γ u)
   (h:AD tq P cx K l tail base U hd (.a as ops (i+1) sl (⟨i,d,[],Nat,fun _ b=>.slice (some ⟨b,0,none⟩) 1 1,fun _ b=>[.row b [u] e]⟩ :: ms) Γ m)):AD tq P cx K l tail base U hd (.ow false A (.buildSlice t 1 #[(0,x)]) d ty as ops i sl ms Γ m)
 | sw5 {hd:QE} {t st:Nat} {b:Bool} {A:LN} {as:LL} {d:Nat} {ty:TI} {ops:LO} {i:Nat} {sl:LQ} {ms:MM} {Γ:QE} {m:Option (Out S R)} (hw:Ib ms t b) (h:AD tq P cx K l tail base U hd (.ow b A (.call ⟨.builtin .len,#[.tmp t],#[st]⟩) d ty as ops i sl ms Γ m)):AD tq P cx K l tail base U hd (.o A (.call ⟨.builtin .len,#[.tmp t],#[st]⟩) d ty as ops i sl ms Γ m)
 | mln {hd:QE} {t n:Nat} {st:TI} {A:LN} {as:LL} {d:Nat} {ty:TI} {ops:LO} {i:Nat} {sl:LQ} {ms:MM} {Γ:QE} {m:Option (Out S R)} [ht:yo P st] (hi:n4 ms) (AY:qi A ms=true) (hx:∀ x:ou ms,VP (mz A ms x) (sa A ms x) t n) (h:AD tq P cx K l tail base U hd (.a as ops (i+1) ((i,d,.int .i64 (n:Int)) :: sl) ms Γ m)):AD tq P cx K l tail base U hd (.ow true A (.call ⟨.builtin .len,#[.tmp t],#[st]⟩) d ty as ops i sl ms Γ m)
 | VR {hd:QE} {t:TI} {cs:LV} {A:LN} {as:LL} {d:Nat} {ty:TI} {ops:LO} {i:Nat} {sl:LQ} {ms:MM} {Γ:QE} {m:Option (Out S R)} [hz:zm P t cs] (h:AD tq P cx K l tail base U hd (.a as ops (i+1) sl (⟨i,d,[],Nat,fun _ b=>.pointer (some ⟨b,0,none⟩),fun _ b=>[.row b cs t]⟩ :: ms) Γ m)):AD tq P cx K l tail base U hd (.o A (.alloc t) d ty as ops i sl ms Γ m)
 | Vx {hd:QE} {us:LN} {t1 t2:Nat} {t:TI} {A:LN} {as:LL} {d:Nat} {ty:TI} {ops:LO} {i:Nat} {sl:LQ} {ms:MM} {Γ:QE} {m:Option (Out S R)} (hU:U.getD i []=us) (h:AD tq P cx K l tail base U hd (.ap us t1 t2 t A d ty as ops i sl ms Γ m)):AD tq P cx K l tail base U hd (.o A (.call ⟨.builtin .append,#[.tmp t1,.tmp t2],#[t,t]⟩) d ty as ops i sl ms Γ m)
 | apH {hd jd:QE} {α:Type} {t e e' et:TI} {E E':ah α} {z0:α} {bt t1 t2 j2:Nat} {v u yv:Value} {j:Int} {y:α} {z:List α} {xs:List (List α)} {o1 o2:Bool} {Γx:QE} {Ic:MM} {fr:Fr} {f:Unit→Option (Out S R)} {A:LN} {as:LL} {d:Nat} {ty:TI} {ops:LO} {i:Nat} {sl:LQ} {ms:MM} {Γ:QE} [hT:tQ P t α e E z0 bt]
   (hV:((U.set i []).all fun us=>!(us.contains l.length))=true) (hv:eG A none sl base fr) (hs:look fr t1=some u) (h2:wD ms t2 ⟨j2,t2,[],Nat,fun _ b=>.slice (some ⟨b,0,none⟩) 1 1,fun _ b=>[.row b [yv] et]⟩ Ic) (h5:iH j2 A=true) (hl:Loc hd u (.row v j)) (hz:qu hd u o1 o2 E' z uF Γx) (h1:dp hd (.own (aJ e' (aJ e E)) v xs) jd) (hr:RT (aJ e E) (bL E')) (hy:Dv [] E yv y [])
   (h:AD tq P cx K l tail base U jd (.a as ops (i+1) sl (⟨i,d,[],Value,fun _ v'=>v',fun _ v'=>[.own (aJ e E) v' (z++[y]),.own (vD e' (aJ e E) j.toNat) v xs]⟩ :: ms) Γ (f ()))):AD tq P cx K l tail base U hd (.ap [l.length] t1 t2 t A d ty as ops i sl ms Γ (fits bt (z.length+1)>>=f))
 | ap1 {hd:QE} {us:LN} {t e et:TI} {E:ah Int} {z0:Int} {bt t1 t2 j2 d2:Nat} {k:IntKind} {y:Int} {xs:List Int} {a1:ie} {qh Ic:MM} {f:Unit→Option (Out S R)} {A:LN} {as:LL} {d:Nat} {ty:TI} {ops:LO} {i:Nat} {sl:LQ} {ms:MM} {Γ:QE} [hz:tQ P t Int e E z0 bt] (h1:wD ms t1 a1 qh) (h2:wD qh t2 ⟨j2,d2,[],Nat,fun _ b=>.slice (some ⟨b,0,none⟩) 1 1,fun _ b=>[.row b [.int k y] et]⟩ Ic) (h3:∀ u v,a1.ps u v=[.own (aJ e (aM k)) (a1.rt u v) xs]) (hu:us=[a1.j]) (h4:iH a1.j A=true) (h5:iH j2 A=true)
   (h:AD tq P cx K l tail base U hd (.a as ops (i+1) sl (⟨i,d,[],Value,fun _ v=>v,fun _ v=>[.own (aJ e (aM k)) v (xs++[y])]⟩ :: qh) Γ (f ()))):AD tq P cx K l tail base U hd (.ap us t1 t2 t A d ty as ops i sl ms Γ (fits bt (xs.length+1)>>=f))
 | wv {hd:QE} {op:Op} {u:Value} {fr:Fr} {A:LN} {as:LL} {d:Nat} {ty:TI} {ops:LO} {i:Nat} {sl:LQ} {ms:MM} {Γ:QE} {m:Option (Out S R)} (hv:eG A none sl base fr) (hq:VQ P Γ fr op u) (h:AD tq P cx K l tail base U hd (.a as ops (i+1) ((i,d,u) :: sl) ms Γ m)):AD tq P cx K l tail base U hd (.ow false A op d ty as ops i sl ms Γ m)
 | mbl {hd:QE} {t:TI} {ps:List (Nat×Operand)} {zc:LV} {pl:List (Nat×Nat)} {fr:Fr} {A:LN} {as:LL} {d:Nat} {ty:TI} {ops:LO} {i:Nat} {sl:LQ} {ms:MM} {Γ:QE} {m:Option (Out S R)} [hb:BP P t zc pl] (hi:n4 ms) (AY:qi A ms=true) (nk:(AX ms ps).isEmpty=false) (hj:tsB A ms (AX ms ps)=true) (hv:eG A none sl base fr)
   (hx:∀ x:ou ms,xV (sa A ms x++Γ) (mz A ms x++fr) pl ps zc (VN pl fr (AX ms ps) ps zc (zT (zp (mF ms x)) (AX ms ps))))
   (h:AD tq P cx K l tail base U hd (.a as ops (i+1) sl (⟨i,d,AX ms ps,Unit,fun u _=>.agg (VN pl fr (AX ms ps) ps zc u).toArray,fun _ _=>[]⟩ :: ms) Γ m)):AD tq P cx K l tail base U hd (.o A (.build t ps.toArray) d ty as ops i sl ms Γ m)
 | mlt {hd:QE} {t:Nat} {NH e:TI} {α:Type} {E:ah α} {z0:α} {bt:Nat} {A:LN} {as:LL} {d:Nat} {ty:TI} {ops:LO} {i:Nat} {sl:LQ} {ms:MM} {Γ:QE} {m:Option (Out S R)} [hz:tQ P NH α e E z0 bt] (hi:n4 ms) (AY:qi A ms=true) (hj:∃ j,sw t ms=some j∧iH j A=true) (hx:∀ x:ou ms,P5 (mz A ms x) (sa A ms x) t)
   (h:AD tq P cx K l tail base U hd (.a as ops (i+1) sl (⟨i,d,[t],Nat,fun _ b=>.slice (some ⟨b,0,none⟩) 1 1,fun u b=>[.row b [u] e]⟩ :: ms) Γ m)):AD tq P cx K l tail base U hd (.ow true A (.buildSlice NH 1 #[(0,.tmp t)]) d ty as ops i sl ms Γ m)
 | mls {hd:QE} {t n:Nat} {NH e:TI} {A:LN} {as:LL} {d:Nat} {ty:TI} {ops:LO} {i:Nat} {sl:LQ} {ms:MM} {Γ:QE} {m:Option (Out S R)} [hz:HG P NH e n] (hb:(Nat.ble 1 1 && Nat.ble (1 * n) 16777216)=true) (hi:n4 ms) (AY:qi A ms=true) (hj:∃ j,sw t ms=some j∧iH j A=true) (hx:∀ x:ou ms,P6 (mz A ms x) t n)
   (h:AD tq P cx K l tail base U hd (.a as ops (i+1) sl (⟨i,d,[t],Nat,fun _ b=>.slice (some ⟨b,0,none⟩) 1 1,fun u b=>[.row b u.cells.toList e]⟩ :: ms) Γ m)):AD tq P cx K l tail base U hd (.o A (.buildSlice NH 1 #[(0,.tmp t)]) d ty as ops i sl ms Γ m)
 | mk {hd:QE} {t e:TI} {α:Type} {E:ah α} {z0:α} {bt:Nat} {x:OO} {z:Int} {fr:Fr} {f:Nat→Option (Out S R)} {A:LN} {as:LL} {d:Nat} {ty:TI} {ops:LO} {i:Nat} {sl:LQ} {ms:MM} {Γ:QE} [hz:tQ P t α e E z0 bt] (hv:eG A none sl base fr) (hx:bx fr x=some (.int .i64 z))
   (h:∀ n,AD tq P cx K l tail base U hd (.a as ops (i+1) sl (⟨i,d,[],Value,fun _ v=>v,fun _ v=>[.own (aJ e E) v (List.replicate n z0)]⟩ :: ms) Γ (f n))):AD tq P cx K l tail base U hd (.o A (.makeSlice t x x) d ty as ops i sl ms Γ (mk bt z>>=f))
 | ixs {hd:QE} {b:Bool} {v:Value} {x y:OO} {t:TI} {fr:Fr} {A:LN} {as:LL} {d:Nat} {ty:TI} {ops:LO} {i:Nat} {sl:LQ} {ms:MM} {Γ:QE} {m:Option (Out S R)} (hv:eG A none sl base fr) (hx:bx fr x=some v) (hw:KQ hd v b) (h:AD tq P cx K l tail base U hd (.ix b v fr x y t A d ty as ops i sl ms Γ m)):AD tq P cx K l tail base U hd (.o A (.indexAddr t x y) d ty as ops i sl ms Γ m)
 | idx {hd:QE} {α:Type} {A:LN} {as:LL} {d:Nat} {x y:OO} {v:Value} {k:IntKind} {j:Int} {t ty:TI} {o1 o2:Bool} {E:ah α} {xs:List α} {ops:LO} {i:Nat} {sl:LQ} {ms:MM} {fr:Fr} {Γ:QE} {Γ':α→List aX} {f:α→Option (Out S R)} [ht:yo P t]
   (hy:bx fr y=some (.int k j)) (hr:∀ z,qu Γ v o1 o2 E xs (.ad o1 o2 v j E z) (Γ' z)) (hE:E.size=1)
   (h:∀ z,AD tq P cx K l tail base U hd (.a as ops (i+1) ((i,d,.pointer (some (di v 1 j))) :: sl) ms (Γ' z) (f z))):AD tq P cx K l tail base U hd (.ix false v fr x y t A d ty as ops i sl ms Γ (idx xs j>>=f))
 | ab7 {hd:QE} {α:Type} {A:LN} {as:LL} {d:Nat} {x y:OO} {v:Value} {k:IntKind} {j:Int} {t ty:TI} {o1 o2:Bool} {E:ah α} {xs:List α} {ops:LO} {i:Nat} {sl:LQ} {ms:MM} {fr:Fr} {Γ:QE} {jd:α→List aX} {f:α→Option (Out S R)} [ht:yo P t]
   (hy:bx fr y=some (.int k j)) (hr:∀ z,qu hd v o1 o2 E xs (.ad o1 o2 v j E z) (jd z)) (hE:E.size=1)
   (h:∀ z,AD tq P cx K l tail base U (jd z) (.a as ops (i+1) ((i,d,.pointer (some (di v 1 j))) :: sl) ms Γ (f z))):AD tq P cx K l tail base U hd (.ix true v fr x y t A d ty as ops i sl ms Γ (idx xs j>>=f))
 | load {hd:QE} {A:LN} {as:LL} {d:Nat} {x:OO} {a:Addr} {t ty:TI} {lk:Option Nat} {ops:LO} {i:Nat} {sl:LQ} {ms:MM} {fr:Fr} {Γ:QE} {m:Option (Out S R)} [ht:LK P t lk] (hv:eG A none sl base fr) (hx:bx fr x=some (.pointer (some a)))
   (h:AD tq P cx K l tail base U hd (.la fr a lk t x A d ty as ops i sl ms Γ m)):AD tq P cx K l tail base U hd (.o A (.load t x) d ty as ops i sl ms Γ m)
 | lsw {hd:QE} {b:Bool} {v:Value} {j:Int} {x:OO} {t:TI} {fr:Fr} {A:LN} {as:LL} {d:Nat} {ty:TI} {ops:LO} {i:Nat} {sl:LQ} {ms:MM} {Γ:QE} {m:Option (Out S R)} (hw:KQ hd v b) (h:AD tq P cx K l tail base U hd (.lb b v j fr t x A d ty as ops i sl ms Γ m)):AD tq P cx K l tail base U hd (.la fr (di v 1 j) none t x A d ty as ops i sl ms Γ m)
 | Vt {hd:QE} {α:Type} {A:LN} {as:LL} {d:Nat} {x:OO} {v:Value} {j:Int} {o:Bool} {E:ah α} {z:α} {t ty:TI} {ops:LO} {i:Nat} {sl:LQ} {ms:MM} {fr:Fr} {Γ Γx:QE} {m:Option (Out S R)} (h:vv Γ (di v 1 j) o E z uF Γx)
   (k:AD tq P cx K l tail base U hd (.ld E z fr (di v 1 j) t x A d ty as ops i sl ms Γ m)):AD tq P cx K l tail base U hd (.lb false v j fr t x A d ty as ops i sl ms Γ m)
 | ab8 {hd:QE} {α:Type} {A:LN} {as:LL} {d:Nat} {x:OO} {v:Value} {j:Int} {E:ah α} {z:List α} {o:Bool} {t ty:TI} {ops:LO} {i:Nat} {sl:LQ} {ms:MM} {fr:Fr} {Γ:QE} {VS jd:Value→List aX} {m:Option (Out S R)} (hV:((U.zipIdx.all fun p=>!(p.1.contains l.length) || ((cj l).getD p.2 []).contains i))=true) (h:∀ u,vv hd (di v 1 j) o (bL E) z (.rd o (bL E) u z) (VS u)) (h2:∀ u,zR (VS u) v j u (jd u))
   (k:∀ u,AD tq P cx K l tail base U (jd u) (.a as ops (i+1) ((i,d,u) :: sl) ms Γ m)):AD tq P cx K l tail base U hd (.lb true v j fr t x A d ty as ops i sl ms Γ m)
 | Vu {hd:QE} {A:LN} {as:LL} {d:Nat} {x:OO} {a:Addr} {u:Value} {t ty:TI} {ops:LO} {i:Nat} {sl:LQ} {ms:MM} {fr:Fr} {Γ:QE} {m:Option (Out S R)} (h:wk Γ a u)
   (k:AD tq P cx K l tail base U hd (.a as ops (i+1) ((i,d,u) :: sl) ms Γ m)):AD tq P cx K l tail base U hd (.la fr a none t x A d ty as ops i sl ms Γ m)
 | Ns {hd:QE} {A:LN} {as:LL} {d n:Nat} {x:OO} {a:Addr} {ds:LV} {t ty:TI} {ops:LO} {i:Nat} {sl:LQ} {ms:MM} {fr:Fr} {Γ:QE} {m:Option (Out S R)} (h:wu Γ a n ds)
   (k:AD tq P cx K l tail base U hd (.a as ops (i+1) ((i,d,.agg ds.toArray) :: sl) ms Γ m)):AD tq P cx K l tail base U hd (.la fr a (some n) t x A d ty as ops i sl ms Γ m)
 | Vv {hd:QE} {A:LN} {as:LL} {d:Nat} {x:OO} {a:Addr} {k:IntKind} {z:Int} {t ty:TI} {ops:LO} {i:Nat} {sl:LQ} {ms:MM} {fr:Fr} {Γ:QE} {m:Option (Out S R)}
   (h:AD tq P cx K l tail base U hd (.a as ops (i+1) ((i,d,.int k z) :: sl) ms Γ m)):AD tq P cx K l tail base U hd (.ld (aM k) z fr a t x A d ty as ops i sl ms Γ m)
 | Vw {hd:QE} {α:Type} {A:LN} {as:LL} {d:Nat} {x:OO} {v:Value} {j:Int} {E:ah α} {z:List α} {o:Bool} {t ty:TI} {ops:LO} {i:Nat} {sl:LQ} {ms:MM} {fr:Fr} {Γ:QE} {Γ1 Γ':Value→List aX} {m:Option (Out S R)} (h:∀ u,vv Γ (di v 1 j) o (bL E) z (.rd o (bL E) u z) (Γ1 u)) (h2:∀ u,zR (Γ1 u) v j u (Γ' u))
   (k:∀ u,AD tq P cx K l tail base U hd (.a as ops (i+1) ((i,d,u) :: sl) ms (Γ' u) m)):AD tq P cx K l tail base U hd (.ld (bL E) z fr (di v 1 j) t x A d ty as ops i sl ms Γ m)
 | Nr {hd:QE} {us:LN} {A:LN} {as:LL} {d:Nat} {f:FuncId} {xs:List Operand} {ay:Array TypeId} {ty:TI} {ops:LO} {i:Nat} {sl:LQ} {ms:MM} {Γ:QE} {m:Option (Out S R)} (hU:U.getD i []=us) (h:AD tq P cx K l tail base U hd (.oc us f xs ay A d ty as ops i sl ms Γ m)):AD tq P cx K l tail base U hd (.o A (.call ⟨.value (.func f),xs.toArray,ay⟩) d ty as ops i sl ms Γ m)
 | ab9 {hd:QE} {β V:Type} {A:LN} {as:LL} {d:Nat} {f:FuncId} {fs bs:LV} {xo:OO} {xs:List Operand} {ay:Array TypeId} {ty:TI} {mo:Option β} {rt:β→V→List Value} {ps:β→V→List aX} {ops:LO} {i:Nat} {sl:LQ} {ms:MM} {fr:Fr} {Γ:QE} {g:β→Option (Out S R)}
   (hv:eG A none sl base fr) (hx:bx fr xo=some (.func (.func f) fs.toArray bs.toArray)) (hf:FnJ P f) (hc:∀ x:ou ms,LW P f fs bs xs (mz A ms x++fr) (sa A ms x++Γ) mo rt ps) (hi:n4 ms) (AY:qi A ms=true) (ho:∀ y v,s6 (ps y v)=true)
   (h:∀ y,AD tq P cx K l tail base U hd (.cr (fun v=>pj (rt y v)) (ps y) d as ops i sl ms Γ (g y))):AD tq P cx K l tail base U hd (.o A (.call ⟨.value xo,xs.toArray,ay⟩) d ty as ops i sl ms Γ (mo>>=g))
 | call {hd:QE} {β V:Type} {A:LN} {as:LL} {d:Nat} {f:FuncId} {xs:List Operand} {ay:Array TypeId} {ty:TI} {mo:Option β} {rt:β→V→List Value} {ps:β→V→List aX} {ops:LO} {i:Nat} {sl:LQ} {ms:MM} {fr:Fr} {Γ:QE} {g:β→Option (Out S R)} [hf:br P f]
   (hv:eG A none sl base fr) (hc:∀ x:ou ms,LU P f xs (mz A ms x++fr) (sa A ms x++Γ) mo rt ps) (hi:n4 ms) (AY:qi A ms=true) (ho:∀ y v,s6 (ps y v)=true)
   (h:∀ y,AD tq P cx K l tail base U hd (.cr (fun v=>pj (rt y v)) (ps y) d as ops i sl ms Γ (g y))):AD tq P cx K l tail base U hd (.oc [] f xs ay A d ty as ops i sl ms Γ (mo>>=g))
 | ZA {hd:QE} {β V:Type} {A:LN} {as:LL} {d:Nat} {f:FuncId} {xs:List Operand} {ay:Array TypeId} {ty:TI} {mo:Option β} {rt:β→V→List Value} {ps:β→V→List aX} {ops:LO} {i:Nat} {sl:LQ} {ms:MM} {fr:Fr} {Γ:QE} {g:β→Option (Out S R)} [hf:br P f]
   (hV:((U.set i []).all fun us=>!(us.contains l.length))=true) (hv:eG A none sl base fr) (hc:∀ x:ou ms,Eu P f xs (mz A ms x++fr) hd (sa A ms x++Γ) mo rt ps) (hi:n4 ms) (AY:qi A ms=true) (ho:∀ y v,s6 (ps y v)=true)
   (h:∀ y,AD tq P cx K l tail base U hd (.cr (fun v=>pj (rt y v)) (ps y) d as ops i sl ms Γ (g y))):AD tq P cx K l tail base U hd (.oc [l.length] f xs ay A d ty as ops i sl ms Γ (mo>>=g))
 | ZB {hd:QE} {β V:Type} {j1:Nat} {a1:ie} {qh:MM} {A:LN} {as:LL} {d:Nat} {f:FuncId} {xs:List Operand} {ay:Array TypeId} {ty:TI} {mo:Option β} {rt:β→V→List Value} {ps:β→V→List aX} {ops:LO} {i:Nat} {sl:LQ} {ms:MM} {fr:Fr} {Γ:QE} {g:β→Option (Out S R)} [hf:br P f]
   (h1:DR ms j1 a1 qh) (SH:a1.src=[]) (h4:iH j1 A=true) (hv:eG A none sl base fr) (hc:∀ (q:a1.V) (x:ou qh),Eu P f xs (mz A qh x++fr) (a1.ps undef q) (sa A qh x++Γ) mo rt ps) (hi:n4 qh) (AY:qi A qh=true) (ho:∀ y v,s6 (ps y v)=true)
   (h:∀ y,AD tq P cx K l tail base U hd (.cr (fun v=>pj (rt y v)) (ps y) d as ops i (P7 j1 i sl) qh Γ (g y))):AD tq P cx K l tail base U hd (.oc [j1] f xs ay A d ty as ops i sl ms Γ (mo>>=g))
 | crv {hd:QE} {u:Unit→Value} {d:Nat} {as:LL} {ops:LO} {i:Nat} {sl:LQ} {ms:MM} {Γ:QE} {m:Option (Out S R)} (h:AD tq P cx K l tail base U hd (.a as ops (i+1) ((i,d,u ()) :: sl) ms Γ m)):AD tq P cx K l tail base U hd (.cr u (fun _=>[]) d as ops i sl ms Γ m)
 | crb {hd:QE} {u:Unit→Value} {ps:Unit→List aX} {d:Nat} {as:LL} {ops:LO} {i:Nat} {sl:LQ} {ms:MM} {Γ:QE} {m:Option (Out S R)} (h:AD tq P cx K l tail base U hd (.a as ops (i+1) ((i,d,u ()) :: sl) (⟨i,d,[],Unit,fun _=>u,fun _=>ps⟩ :: ms) Γ m)):AD tq P cx K l tail base U hd (.cr u ps d as ops i sl ms Γ m)
 | crm {hd:QE} {V:Type} {u:V→Value} {ps:V→List aX} {d:Nat} {as:LL} {ops:LO} {i:Nat} {sl:LQ} {ms:MM} {Γ:QE} {m:Option (Out S R)} (h:AD tq P cx K l tail base U hd (.a as ops (i+1) sl (⟨i,d,[],V,fun _=>u,fun _=>ps⟩ :: ms) Γ m)):AD tq P cx K l tail base U hd (.cr u ps d as ops i sl ms Γ m)
 | val {hd:QE} {A:LN} {as:LL} {op:Op} {d:Nat} {ty:TI} {u:Value} {ops:LO} {i:Nat} {sl:LQ} {ms:MM} {fr:Fr} {Γ:QE} {m:Option (Out S R)} (hv:eG A none sl base fr) (hq:VQ P Γ fr op u)
   (h:AD tq P cx K l tail base U hd (.a as ops (i+1) ((i,d,u) :: sl) ms Γ m)):AD tq P cx K l tail base U hd (.o A op d ty as ops i sl ms Γ m)
 | uG {hd:QE} {A:LN} {as:LL} {op:BinOp} {x y:OO} {k k':IntKind} {a b:Int} {t t':TI} {d:Nat} {ty:TI} {ops:LO} {i:Nat} {sl:LQ} {ms:MM} {fr:Fr} {Γ:QE} {f:Int→Option (Out S R)} (hv:eG A none sl base fr) (hx:bx fr x=some (.int k a)) (hy:bx fr y=some (.int k' b)) (hk:SB op k k')
   (h:∀ z,AD tq P cx K l tail base U hd (.a as ops (i+1) ((i,d,.int k z) :: sl) ms Γ (f z))):AD tq P cx K l tail base U hd (.o A (.binOp op t x y t') d ty as ops i sl ms Γ (wb op k a b>>=f))
 | pz {hd:QE} {as:LL} {ops:LO} {i:Nat} {sl:LQ} {ms:MM} {Γ:QE} {m:Option (Out S R)} (h:AD tq P cx K l tail base U hd (.a as ops i sl ms Γ m)):AD tq P cx K l tail base U hd (.p [] as ops i sl ms Γ m)
 | pe {hd:QE} {e:aX} {Δ:QE} {as:LL} {ops:LO} {i:Nat} {sl:LQ} {ms:MM} {Γ:QE} {m:Option (Out S R)} (h:AD tq P cx K l tail base U hd (.p Δ as ops i sl ms (e :: Γ) m)):AD tq P cx K l tail base U hd (.p (e :: Δ) as ops i sl ms Γ m)
 | HK {hd:QE} {α V:Type} {Sc:ah α} {cl:α→V→List Value} {en:α→V→List aX} {A:LN} {as:LL} {d n:Nat} {x y:OO} {v:Value} {xs:List α} {k:IntKind} {j:Int} {t ty:TI} {ops:LO} {i:Nat} {sl:LQ} {ms:MM} {fr:Fr} {Γ Γx:QE} {f:α→Option (Out S R)} [ht:Ek P t n]
   (hy:bx fr y=some (.int k j)) (hr:qu Γ v false false (iu Sc) xs uF Γx) (hs:Gs Sc V cl en) (hn:Sc.size=n)
   (h:∀ z u,AD tq P cx K l tail base U hd (.p (.ay (di v n j) (cl z u) :: en z u) as ops (i+1) ((i,d,.pointer (some (di v n j))) :: sl) ms Γ (f z))):AD tq P cx K l tail base U hd (.ix false v fr x y t A d ty as ops i sl ms Γ (idx xs j>>=f))
 | VT {hd:QE} {α V:Type} {Sc:ah α} {cl:α→V→List Value} {en:α→V→List aX} {A:LN} {as:LL} {d n e bt:Nat} {x y:OO} {v:Value} {us:List (List Value)} {xs:List α} {k:IntKind} {j:Int} {t ty:TI} {ops:LO} {i:Nat} {sl:LQ} {ms:MM} {fr:Fr} {Γ Γ1:QE} {f:α→Option (Out S R)} [ht:BQ P t e n bt]
   (hy:bx fr y=some (.int k j)) (h1:dp Γ (.own (aJ e (ef n)) v us) Γ1) (hg:In (.rd false (qf Sc) (.bool true) (us,xs)) Γ) (hs:Gs Sc V cl en)
   (h:∀ z u,AD tq P cx K l tail base U hd (.p (.rd false (BN us j) (.bool true) (cl z u) :: en z u) as ops (i+1) ((i,d,.pointer (some (di v n j))) :: sl) ms Γ (f z))):AD tq P cx K l tail base U hd (.ix false v fr x y t A d ty as ops i sl ms Γ (idx xs j>>=f))
 | laG {hd:QE} {A:LN} {as:LL} {d n e off:Nat} {x:OO} {v u:Value} {us:List (List Value)} {j:Int} {cs:LV} {t ty:TI} {ops:LO} {i:Nat} {sl:LQ} {ms:MM} {fr:Fr} {Γ Γ1:QE} {m:Option (Out S R)} (h1:dp Γ (.own (aJ e (ef n)) v us) Γ1) (hp:In (.rd false (BN us j) (.bool true) cs) Γ) (hc:cs[off]? = some u)
   (k:AD tq P cx K l tail base U hd (.a as ops (i+1) ((i,d,u) :: sl) ms Γ m)):AD tq P cx K l tail base U hd (.la fr ((di v n j).add off) none t x A d ty as ops i sl ms Γ m)
 | VU {hd:QE} {A:LN} {as:LL} {d n e:Nat} {x:OO} {v u:Value} {us:List (List Value)} {j:Int} {cs:LV} {t ty:TI} {ops:LO} {i:Nat} {sl:LQ} {ms:MM} {fr:Fr} {Γ Γ1:QE} {m:Option (Out S R)} (h1:dp Γ (.own (aJ e (ef n)) v us) Γ1) (hp:In (.rd false (BN us j) (.bool true) cs) Γ) (hc:cs[0]? = some u)
   (k:AD tq P cx K l tail base U hd (.a as ops (i+1) ((i,d,u) :: sl) ms Γ m)):AD tq P cx K l tail base U hd (.la fr (di v n j) none t x A d ty as ops i sl ms Γ m)
 | NI {hd:QE} {β V:Type} {A:LN} {as:LL} {d:Nat} {f:FuncId} {xs:List Operand} {ay:Array TypeId} {ty:TI} {mo:Option β} {rt:β→V→List Value} {ps:β→V→List aX} {ops:LO} {i:Nat} {sl:LQ} {ms:MM} {fr:Fr} {Γ:QE} {g:β→Option (Out S R)} [hf:br P f]
   (hV:((U.set i []).all fun us=>!(us.contains l.length))=true) (hv:eG A none sl base fr) (hc:∀ x:ou ms,Ia P f xs (mz A ms x++fr) hd Γ mo rt ps) (hi:n4 ms) (AY:qi A ms=true)
   (h:∀ y,AD tq P cx K l tail base U hd (.cr (fun v=>pj (rt y v)) (ps y) d as ops i sl ms Γ (g y))):AD tq P cx K l tail base U hd (.oc [l.length] f xs ay A d ty as ops i sl ms Γ (mo>>=g))
end Go.Dk
namespace Go.Dk
open Go Go.Li
theorem rj {t:Nat} {l:LN}:iH t l=true↔t∈l:=by
 induction l with
 | nil=>simp [iH]
 | cons a l ih=>
  unfold iH
  cases hb:Nat.beq t a with
  | true=>simp [Nat.eq_of_beq_eq_true hb]
  | false=>simp only [cond_false,ih,List.mem_cons]; exact ⟨.inr,fun h=>h.resolve_left fun e=>by rw [e,Nat.beq_refl] at hb; cases hb⟩
def rm (l:LO) (U:LL) (mt:Nat):List (List Nat):=(List.range mt).map fun i=>((cj l).getD i []).filter (vE l U mt i)
theorem th {l:LO} {U:LL} {mt i j:Nat} (h:j∈(rm l U mt).getD i []):j∈(cj l).getD i []∧vE l U mt i j=true:=by
 unfold rm at h
 rw [List.getD_eq_getElem?_getD,List.getElem?_map] at h
 by_cases hi:i < mt
 ·rw [List.getElem?_range hi] at h
  exact List.mem_filter.1 h
 ·rw [List.getElem?_eq_none (by simpa using hi)] at h
  exact absurd h List.not_mem_nil
variable {Z:Nat→Prop}
structure je (Z:Nat→Prop) (l:LO) (S:List ik) (sl:LQ) (ms:MM):Prop where
 v:∀ p∈sl,∃ j,(j=p.1∨j∈(cj l).getD p.1 [])∧b9 l j=some p.2.1∧∃ s,S[j]? = some s∧s.b=true∧∀ f w r x,s.V f w r x→x=p.2.2
 m:∀ a∈ms,(S[a.j]? = some ⟨true,MV Z a⟩∧b9 l a.j=some a.d)∨(S[a.j]? = some ⟨true,ND Z a⟩∧b9 l a.j=none∧∃ k∈(cj l).getD a.j [],b9 l k=some a.d)
 s:∀ i s,S[i]? = some s→SF Z ((cj l).getD i []) l s
 d:(ms.map (·.j)).Nodup
 t:∀ i j k,j∈(cj l).getD k []→k∈(cj l).getD i []→j∈(cj l).getD i []
theorem je.lt {l:LO} {S:List ik} {sl:LQ} {ms:MM} (h:je Z l S sl ms) {a:ie} (ha:a∈ms):a.j < S.length:=by
 rcases h.m a ha with h | h <;> exact (List.getElem?_eq_some_iff.1 h.1).1
theorem je.Ie {l:LO} {S S2:List ik} {sl:LQ} {ms:MM} (h:je Z l S sl ms) {a:ie} (ha:a∈ms) {g:Nat→List Nat} {r:NV} {w:World} (hd:yu l (S++S2) a.j g r w):MV Z a (g a.j) w r (r a.d):=by
 rcases h.m a ha with h1 | h1
 ·have h2:=hd.1 a.d h1.2
  rw [List.getElem?_append_left (List.getElem?_eq_some_iff.1 h1.1).1,h1.1] at h2
  exact h2
 ·obtain ⟨x,hx⟩:=hd.2 h1.2.1 _ (by rw [List.getElem?_append_left (List.getElem?_eq_some_iff.1 h1.1).1]; exact h1.1) rfl
  exact hx
theorem je.slot {l:LO} {S:List ik} {sl:LQ} {ms:MM} (h:je Z l S sl ms) {a:ie} (ha:a∈ms) {i:Nat} (hi:a.j∈(cj l).getD i []):∃ k∈(cj l).getD i [],b9 l k=some a.d:=by
 rcases h.m a ha with h1 | ⟨_,_,k,hk,hd⟩
 ·exact ⟨a.j,hi,h1.2⟩
 ·exact ⟨k,h.t i k a.j hk hi,hd⟩
theorem je.uI {l:LO} {S S2:List ik} {sl:LQ} {ms:MM} (h:je Z l S sl ms) {a:ie} (ha:a∈ms):((S++S2)[a.j]? = some ⟨true,MV Z a⟩∧b9 l a.j=some a.d)∨((S++S2)[a.j]? = some ⟨true,ND Z a⟩∧b9 l a.j=none∧∃ k∈(cj l).getD a.j [],b9 l k=some a.d):=by
 rw [List.getElem?_append_left (h.lt ha)]
 exact h.m a ha
theorem je.P8 {l:LO} {S S2:List ik} {sl:LQ} {ms:MM} (h:je Z l S sl ms) {p:Nat×Nat×Value} (hp:p∈sl):∃ j,(j=p.1∨j∈(cj l).getD p.1 [])∧b9 l j=some p.2.1∧∃ s,(S++S2)[j]? = some s∧s.b=true∧∀ f w r x,s.V f w r x→x=p.2.2:=by
 obtain ⟨j,hj,h1,s,h2,h3⟩:=h.v p hp
 exact ⟨j,hj,h1,s,by rw [List.getElem?_append_left (List.getElem?_eq_some_iff.1 h2).1]; exact h2,h3⟩
theorem je.Ae {l:LO} {S S2:List ik} {sl:LQ} {ms:MM} (h:je Z l S sl ms) {p:Nat×Nat×Value} (hp:p∈sl) {r:NV} (ho:∀ j,(j=p.1∨j∈(cj l).getD p.1 [])→j < S.length→Old l (S++S2) j r):r p.2.1=p.2.2:=by
 obtain ⟨j,hj,h1,s,h2,h3,h4⟩:=h.v p hp
 have hl:=(List.getElem?_eq_some_iff.1 h2).1
 have:=ho j hj hl _ h1 s (by rw [List.getElem?_append_left hl]; exact h2)
 rw [if_pos h3] at this
 obtain ⟨f,w,hV⟩:=this
 exact h4 f w r _ hV
theorem je.val {l:LO} {S:List ik} {sl:LQ} {ms:MM} (h:je Z l S sl ms) {d:Nat} {u:Value} (hd:b9 l S.length=some d):je Z l (S++[sV u]) ((S.length,d,u) :: sl) ms:=by
 refine ⟨?_,fun a ha=>h.uI ha,?_,h.d,h.t⟩
 ·intro p hp
  rcases List.mem_cons.1 hp with rfl | hp
  ·exact ⟨S.length,.inl rfl,hd,sV u,by simp,rfl,fun _ _ _ _ h=>h⟩
  ·exact h.P8 hp
 ·intro i s hs
  by_cases hi:i < S.length
  ·rw [List.getElem?_append_left hi] at hs; exact h.s i s hs
  ·rw [List.getElem?_append_right (by omega)] at hs
   have yw:i - S.length=0:=by
    have:=(List.getElem?_eq_some_iff.1 hs).1
    simp at this; omega
   rw [yw] at hs
   cases hs
   exact H9.n LY
theorem je.mem {l:LO} {S:List ik} {sl:LQ} {ms:MM} (h:je Z l S sl ms) {b:ie} (hj:b.j=S.length) (hd:b9 l S.length=some b.d) (ja:∀ t∈b.src,∃ j∈(cj l).getD S.length [],b9 l j=some t):je Z l (S++[⟨true,MV Z b⟩]) sl (b :: ms):=by
 have bn:∀ a∈ms,a.j < S.length:=fun a ha=>h.lt ha
 refine ⟨fun p hp=>?_,?_,?_,?_,h.t⟩
 ·exact h.P8 hp
 ·intro a ha
  rcases List.mem_cons.1 ha with rfl | ha
  ·exact .inl ⟨by rw [hj]; simp,by rw [hj]; exact hd⟩
  ·exact h.uI ha
 ·intro i s hs
  by_cases hi:i < S.length
  ·rw [List.getElem?_append_left hi] at hs; exact h.s i s hs
  ·rw [List.getElem?_append_right (by omega)] at hs
   have yw:i - S.length=0:=by
    have:=(List.getElem?_eq_some_iff.1 hs).1
    simp at this; omega
   have VV:i=S.length:=by omega
   rw [yw] at hs
   cases hs
   rw [VV]
   exact NG ja
 ·rw [List.map_cons,List.nodup_cons]
  refine ⟨fun hm=>?_,h.d⟩
  obtain ⟨a,ha,he⟩:=List.mem_map.1 hm
  have:=bn a ha
  omega
theorem je.aca {l:LO} {S:List ik} {sl:LQ} {ms:MM} (h:je Z l S sl ms) {j d:Nat} {u:Value} (hd:b9 l j=some d) {s:ik} (hs:S[j]? = some s) (hb:s.b=true) (hV:∀ f w r x,s.V f w r x→x=u):je Z l S ((j,d,u) :: sl) ms:=
 ⟨fun p hp=>by
  rcases List.mem_cons.1 hp with rfl | hp
  ·exact ⟨j,.inl rfl,hd,s,hs,hb,hV⟩
  ·exact h.v p hp,h.m,h.s,h.d,h.t⟩
theorem je.re {l:LO} {S:List ik} {sl:LQ} {ms:MM} (h:je Z l S sl ms) {j i:Nat} (hj:j∈(cj l).getD i []):je Z l S (P7 j i sl) ms:=by
 refine ⟨fun p hp=>?_,h.m,h.s,h.d,h.t⟩
 obtain ⟨q,hq,rfl⟩:=List.mem_map.1 hp
 obtain ⟨k,hk,h1⟩:=h.v q hq
 cases hb:Nat.beq q.1 j with
 | false=>exact ⟨k,hk,h1⟩
 | true=>
  refine ⟨k,.inr ?_,h1⟩
  have hq1:=Nat.eq_of_beq_eq_true hb
  show k∈(cj l).getD i []
  rcases hk with rfl | hk
  ·rw [hq1]; exact hj
  ·rw [hq1] at hk; exact h.t i k j hk hj
theorem je.acb {l:LO} {S:List ik} {sl:LQ} {ms:MM} (h:je Z l S sl ms) {b:ie} (hj:b.j=S.length) (hd:b9 l S.length=none) (hk:∃ k∈(cj l).getD S.length [],b9 l k=some b.d) (ja:b.src=[]):je Z l (S++[⟨true,ND Z b⟩]) sl (b :: ms):=by
 have bn:∀ a∈ms,a.j < S.length:=fun a ha=>h.lt ha
 refine ⟨fun p hp=>?_,?_,?_,?_,h.t⟩
 ·exact h.P8 hp
 ·intro a ha
  rcases List.mem_cons.1 ha with rfl | ha
  ·exact .inr ⟨by rw [hj]; simp,by rw [hj]; exact hd,by rw [hj]; exact hk⟩
  ·exact h.uI ha
 ·intro i s hs
  by_cases hi:i < S.length
  ·rw [List.getElem?_append_left hi] at hs; exact h.s i s hs
  ·rw [List.getElem?_append_right (by omega)] at hs
   have yw:i - S.length=0:=by
    have:=(List.getElem?_eq_some_iff.1 hs).1
    simp at this; omega
   have VV:i=S.length:=by omega
   rw [yw] at hs
   cases hs
   rw [VV]
   exact LS hk fun t ht=>by rw [ja] at ht; cases ht
 ·rw [List.map_cons,List.nodup_cons]
  refine ⟨fun hm=>?_,h.d⟩
  obtain ⟨a,ha,he⟩:=List.mem_map.1 hm
  have:=bn a ha
  omega
theorem lz {l:LO} {m:Nat} {base:Fr} {r r0:NV} (hh:np l m base=true) (ha:db r0 base) (ho:∀ t,(∀ j,j < m→b9 l j≠some t)→r t=r0 t):db r base:=by
 intro t v hl
 have hm:∃ u,(t,u)∈base:=by
  clear hh ha
  induction base with
  | nil=>cases hl
  | cons p base ih=>
   obtain ⟨a,u⟩:=p
   unfold look at hl
   cases hb:Nat.beq t a with
   | true=>exact ⟨u,by rw [Nat.eq_of_beq_eq_true hb]; simp⟩
   | false=>rw [hb] at hl; obtain ⟨u',h⟩:=ih hl; exact ⟨u',by simp [h]⟩
 obtain ⟨u,hu⟩:=hm
 rw [ho t fun j hj=>NJ hh (t,u) hu j hj]
 exact ha t v hl
section
variable {P:Program} {l:LO} {mt:Nat} {S:List ik} {sl:LQ} {ms:MM} {base fr:Fr} {r r0:NV} {w w0:World} {g:Nat→List Nat} {i:Nat} {A:LN} {U:LL}
theorem o9 (hR:je Z l S sl ms) (hA:A=(rm l U mt).getD i []) (hv:eG A none sl base fr) (hb:db r base) {S':List ik} (hO:∀ j∈(cj l).getD i [],Old l (S++S') j r):db r fr:=by
 refine hv.sound hb ?_ (fun _ _ _ h=>nomatch h)
 intro p hp hm
 have hi:=(th (by rw [← hA]; exact rj.1 hm)).1
 exact hR.Ae hp fun j hj _=>hO j (hj.elim (fun e=>e ▸ hi) fun hj=>hR.t i j p.1 hj hi)
theorem P9 {H:LN} {o:Oper} {u:Value} (hh:np l mt base=true) (ha:db r0 base) (hR:je Z l S sl ms) (ho:l[S.length]? = some o) (hg:o.guard=none) (hA:A=(rm l U mt).getD S.length []) (hv:eG A none sl base fr)
  (h:∀ r,db r fr→∀ w,aq H w0 w→(execOp (ev r) o).run P w = .ok (.value u) w):lr P l mt (S++[sV u]) U r0 w0 H S.length:=
 lr.val ho (by simp) hg fun g r w hC hO hn lu=>h r (o9 hR hA hv (lz hh ha lu) hO) w hC
end
end Go.Dk
namespace Go.Dk
open Go Go.Li
section
variable {R S:Type} {P:Program} {cx:Cx R} {K:dq R S} {l tail:LO} {base fr:Fr} {w:World} {Z:Nat→Prop} {U:LL}
def lv (P:Program) (Z:Nat→Prop) (l:LO) (mt:Nat) (U:LL) (r0:NV) (w0:World) (H:LN) (i:Nat) (sl:LQ) (ms:MM):Prop:=
 ∃ S:List ik,S.length=i∧je Z l S sl ms∧∀ j,j < i→lr P l mt S U r0 w0 H j
def tx (B:Bs) (Z:Nat→Prop) (hd Γ:QE) (H:LN) (w:World):Prop:=∃ F Hd,(SA Z w hd [] Hd∧(∀ b∈Hd,b∈H∧b < w.heap.size)∧(∀ b∈H,b < w.heap.size)∧Hd.Nodup)∧SA Z w Γ [] F∧Gd B Z (H++F) w
theorem tx.stay {B:Bs} {Γ:QE} {F H:LN} {w w':World} (hS:SA Z w Γ [] F) (hG:Gd B Z (H++F) w) (hC:aq H w w'):SA Z w' Γ [] F:=
 hS.ep hC (fun b hb=>hG.apart b (List.mem_append_left _ hb)) (fun _ _=>List.not_mem_nil) (fun b hb hf=>(List.nodup_append.1 hG.nd).2.2 b hb b hf rfl)
def Fin (P:Program) (cx:Cx R) (K:dq R S) (l:LO) (mt:Nat) (U:LL) (hd:QE) (_id:Nat) (base:Fr) (i:Nat) (sl:LQ) (ms:MM) (Γ:QE) (m:Option (Out S R)):Prop:=
 ∀ B o,m=some o→∀ r0 w0 H Z,db r0 base→tx B Z hd Γ H w0→lv P Z l mt U r0 w0 H i sl ms→na P cx.n l (mr P cx B K o) r0 w0
theorem lv.re {mt:Nat} {r0:NV} {w0:World} {H:LN} {i k j:Nat} {sl:LQ} {ms:MM} (h:lv P Z l mt U r0 w0 H k sl ms) (hj:j∈(cj l).getD i []):lv P Z l mt U r0 w0 H k (P7 j i sl) ms:=by
 obtain ⟨S,h1,h2,h3⟩:=h
 exact ⟨S,h1,h2.re hj,h3⟩
structure AZ (l:LO) (mt:Nat) (U:LL) (as:LL) (ops:LO) (i:Nat):Prop where
 a:as=(rm l U mt).drop i
 o:ops=(l.take mt).drop i
 le:i≤mt
structure VW (l:LO) (mt:Nat) (U:LL) (A:LN) (op:Op) (ty:TI) (as:LL) (ops:LO) (i:Nat):Prop where
 A:A=(rm l U mt).getD i []
 o:∃ pos af,l[i]? = some ⟨none,op,ty,pos,af,none⟩
 n:AZ l mt U as ops (i+1)
theorem AZ.LX {mt:Nat} {A:LN} {as:LL} {op:Op} {ty:TI} {pos:String} {af:Array Edge} {ops:LO} {i:Nat} (h:AZ l mt U (A :: as) (⟨none,op,ty,pos,af,none⟩ :: ops) i):VW l mt U A op ty as ops i:=by
 obtain ⟨h1,h2,h3⟩:=h
 have e1:(rm l U mt)[i]? = some A:=by
  have:=congrArg (fun x=>x[0]?) h1
  simpa using this.symm
 have e2:(l.take mt)[i]? = some ⟨none,op,ty,pos,af,none⟩:=by
  have:=congrArg (fun x=>x[0]?) h2
  simpa using this.symm
 have t1:as=(rm l U mt).drop (i+1):=by
  have:=congrArg List.tail h1
  simpa [List.tail_drop] using this
 have t2:ops=(l.take mt).drop (i+1):=by
  have:=congrArg List.tail h2
  simpa [List.tail_drop] using this
 have hi:i < mt:=by
  have:=(List.getElem?_eq_some_iff.1 e1).1
  simpa [rm] using this
 rw [List.getElem?_take,if_pos hi] at e2
 exact ⟨by rw [List.getD_eq_getElem?_getD,e1]; rfl,⟨pos,af,e2⟩,t1,t2,hi⟩
structure r5 (l:LO) (mt:Nat) (U:LL) (A:LN) (op:Op) (d:Nat) (ty:TI) (as:LL) (ops:LO) (i:Nat):Prop where
 A:A=(rm l U mt).getD i []
 o:∃ pos af,l[i]? = some ⟨some d,op,ty,pos,af,none⟩
 n:AZ l mt U as ops (i+1)
theorem AZ.cons {mt:Nat} {A:LN} {as:LL} {op:Op} {d:Nat} {ty:TI} {pos:String} {af:Array Edge} {ops:LO} {i:Nat} (h:AZ l mt U (A :: as) (⟨some d,op,ty,pos,af,none⟩ :: ops) i):r5 l mt U A op d ty as ops i:=by
 obtain ⟨h1,h2,h3⟩:=h
 have e1:(rm l U mt)[i]? = some A:=by
  have:=congrArg (fun x=>x[0]?) h1
  simpa using this.symm
 have e2:(l.take mt)[i]? = some ⟨some d,op,ty,pos,af,none⟩:=by
  have:=congrArg (fun x=>x[0]?) h2
  simpa using this.symm
 have t1:as=(rm l U mt).drop (i+1):=by
  have:=congrArg List.tail h1
  simpa [List.tail_drop] using this
 have t2:ops=(l.take mt).drop (i+1):=by
  have:=congrArg List.tail h2
  simpa [List.tail_drop] using this
 have hi:i < mt:=by
  have:=(List.getElem?_eq_some_iff.1 e1).1
  simpa [rm] using this
 rw [List.getElem?_take,if_pos hi] at e2
 exact ⟨by rw [List.getD_eq_getElem?_getD,e1]; rfl,⟨pos,af,e2⟩,t1,t2,hi⟩
theorem lv.val {mt:Nat} {A:LN} {op:Op} {d:Nat} {ty:TI} {as:LL} {ops:LO} {i:Nat} {sl:LQ} {ms:MM} {r0:NV} {w0:World} {H:LN} {u:Value} (h:lv P Z l mt U r0 w0 H i sl ms) (hh:np l mt base=true) (ha:db r0 base) (h1:r5 l mt U A op d ty as ops i)
  (hv:eG A none sl base fr) (hq:∀ r,db r fr→∀ pos af g w,aq H w0 w→(execOp (ev r) ⟨some d,op,ty,pos,af,g⟩).run P w = .ok (.value u) w):lv P Z l mt U r0 w0 H (i+1) ((i,d,u) :: sl) ms:=by
 obtain ⟨S',hl,hR,hO⟩:=h
 subst hl
 obtain ⟨hA,⟨pos,af,ho⟩,_⟩:=h1
 refine ⟨S'++[sV u],by simp,hR.val (by unfold b9; rw [ho]; rfl),fun j hj=>?_⟩
 by_cases h2:j < S'.length
 ·exact lr.more (hO j h2) h2
 ·obtain rfl:j=S'.length:=by omega
  exact P9 hh ha hR ho rfl hA hv fun r hr=>hq r hr _ _ _
def FK (P:Program) (Z:Nat→Prop) (l:LO) (mt:Nat) (U:LL) (r0:NV) (w0:World) (H:LN) (i:Nat) (sl:LQ) (ms:MM) (a:ie):Prop:=
 ∃ S:List ik,S.length=i∧je Z l S sl ms∧(∀ j,j < i→lr P l mt S U r0 w0 H j)∧
  ∀ V:List Nat→World→(Nat→Value)→Value→Prop,(∀ f w r x,MV Z a f w r x→∃ f',(∀ b∈f',b∈f)∧V f' w r x)→lr P l mt (S++[⟨true,V⟩]) U r0 w0 H i
theorem HL.front {Δ Γ:QE} {Fd F:LN} (h:HL Z w Δ Fd) (hs:SA Z w Γ [] F):SA Z w (Δ++Γ) [] (Fd++F):=by
 induction h with
 | nil=>exact hs
 | own h _ ih=>rw [List.append_assoc]; exact SA.cons ih h
 | fact h _ ih=>exact SA.fact ih h
def Cc (A:LN) (g:Nat→List Nat):List ie→List Nat
 | []=>[]
 | a :: l=>bif iH a.j A then g a.j++Cc A g l else Cc A g l
def HV (Z:Nat→Prop) (w:World) (Δ:QE) (B:LN):Prop:=∃ Vo Vr,(∀ b∈Vo++Vr,b∈B)∧(∀ b∈Vr,b < w.heap.size)∧HL (fun b=>Z b∨b∈Vr) w Δ Vo
theorem HV.front {Δ Γ:QE} {B F:LN} (h:HV Z w Δ B) (hs:SA Z w Γ [] F):∃ G:List Nat,(∀ b∈G,b∈B++F∧b < w.heap.size)∧∃ F':List Nat,(∀ b∈F',b∈G)∧SA (fun b=>Z b∨b∈G) w (Δ++Γ) [] F':=by
 obtain ⟨Vo,Vr,h1,h2,h3⟩:=h
 have hS:=h3.front (hs.mono (Z':=fun b=>Z b∨b∈Vr) (fun _ h=>.inl h) fun _ h=>h)
 refine ⟨Vr++(Vo++F),fun b hb=>?_,Vo++F,fun b hb=>List.mem_append_right _ hb,hS.mono (fun b h=>h.imp id fun h=>List.mem_append_left _ h) fun _ h=>h⟩
 rcases List.mem_append.1 hb with hb | hb
 ·exact ⟨List.mem_append_left _ (h1 b (List.mem_append_right _ hb)),h2 b hb⟩
 ·refine ⟨?_,hS.lt b hb⟩
  rcases List.mem_append.1 hb with hb | hb
  ·exact List.mem_append_left _ (h1 b (List.mem_append_left _ hb))
  ·exact List.mem_append_right _ hb
theorem HV.app {Δ Δ':QE} {f B:LN} (h:HN Z w Δ f) (k:HV Z w Δ' B):HV Z w (Δ++Δ') (f++B):=by
 obtain ⟨Fo,Fr,rfl,h1,h2⟩:=h.all
 obtain ⟨Vo,Vr,k1,k2,k3⟩:=k
 refine ⟨Fo++Vo,Fr++Vr,fun b hb=>?_,fun b hb=>(List.mem_append.1 hb).elim (h1 b) (k2 b),(h2.mono fun b h=>h.imp id fun h=>List.mem_append_left _ h).app (k3.mono fun b h=>h.imp id fun h=>List.mem_append_right _ h)⟩
 have:=fun h=>k1 b h
 simp only [List.mem_append] at hb this ⊢
 rcases hb with (h | h) | h | h
 ·exact .inl (.inl h)
 ·exact .inr (this (.inl h))
 ·exact .inl (.inr h)
 ·exact .inr (this (.inr h))
theorem ZC {A:LN} {g:Nat→List Nat} {r:NV}:∀ {ms:MM},n4 ms→qi A ms=true→(∀ a∈ms,iH a.j A=true→MV Z a (g a.j) w r (r a.d))→
  ∃ x:ou ms,(∀ p∈mz A ms x,r p.1=p.2)∧HV Z w (sa A ms x) (Cc A g ms):=by
 intro ms
 induction ms with
 | nil=>intro _ _ _; exact ⟨(),fun p hp=>absurd hp List.not_mem_nil,[],[],fun b (h:b∈[])=>absurd h List.not_mem_nil,fun b (h:b∈[])=>absurd h List.not_mem_nil,.nil⟩
 | cons a ms ih=>
  intro hi ja h
  unfold qi at ja
  rw [Bool.and_eq_true] at ja
  cases hi with
  | cons h1 h2=>
   obtain ⟨x,hx,hl⟩:=ih h2 ja.2 fun b hb=>h b (List.mem_cons_of_mem _ hb)
   cases hb:iH a.j A with
   | false=>
    obtain ⟨v⟩:=h1.ne
    refine ⟨(v,x),?_,?_⟩
    ·simp only [mz,hb,cond_false]; exact hx
    ·simp only [sa,Cc,hb,cond_false]; exact hl
   | true=>
    obtain ⟨v,e1,e2,_⟩:=h a (by simp) hb
    have es:xB a r=Ca a (mF ms x):=by
     have h3:=ja.1
     rw [hb,cond_true,List.all_eq_true] at h3
     refine C3 fun t ht=>?_
     have h4:=h3 t ht
     cases hj:sw t ms with
     | none=>rw [hj] at h4; cases h4
     | some j=>rw [hj] at h4; unfold zp; rw [H8 hj h4 hx]
    rw [es] at e1 e2
    refine ⟨(v,x),?_,?_⟩
    ·simp only [mz,hb,cond_true]
     intro p hp
     rcases List.mem_cons.1 hp with rfl | hp
     ·exact e1
     ·exact hx p hp
    ·simp only [sa,Cc,hb,cond_true]; exact HV.app e2 hl
theorem Qa {t j:Nat}:∀ {ms:MM},sw t ms=some j→∃ a∈ms,a.j=j∧a.d=t:=by
 intro ms
 induction ms with
 | nil=>intro h; cases h
 | cons a l ih=>
  intro h
  unfold sw at h
  cases hb:Nat.beq t a.d with
  | true=>rw [hb] at h; cases h; exact ⟨a,by simp,rfl,(Nat.eq_of_beq_eq_true hb).symm⟩
  | false=>rw [hb] at h; obtain ⟨b,h1,h2⟩:=ih h; exact ⟨b,List.mem_cons_of_mem _ h1,h2⟩
theorem FL {mt i:Nat} {A:LN} (hA:A=(rm l U mt).getD i []) {S':List ik} {sl:LQ} {ms:MM} {t:Nat} (hR:je Z l S' sl ms) (hj:∃ j,sw t ms=some j∧iH j A=true):∃ j∈(cj l).getD i [],b9 l j=some t:=by
 obtain ⟨j,h1,h2⟩:=hj
 obtain ⟨a,ha,rfl,rfl⟩:=Qa h1
 exact hR.slot ha (th (by rw [← hA]; exact rj.1 h2)).1
theorem Ae {mt:Nat} {A:LN} {S' S2:List ik} {sl:LQ} {ms:MM} {g:Nat→List Nat} {r:NV} (hR:je Z l S' sl ms) (hA:A=(rm l U mt).getD S'.length []) (hi:n4 ms) (ja:qi A ms=true) (hn:∀ j,vE l U mt S'.length j=true→yu l (S'++S2) j g r w) :
  ∃ x:ou ms,(∀ p∈mz A ms x,r p.1=p.2)∧HV Z w (sa A ms x) (Cc A g ms):=
 ZC hi ja fun a hm hb=>by
  exact hR.Ie hm (hn a.j (th (by rw [← hA]; exact rj.1 hb)).2)
theorem lv.mem {mt:Nat} {A:LN} {op:Op} {d:Nat} {ty:TI} {as:LL} {ops:LO} {i:Nat} {sl:LQ} {ms:MM} {r0:NV} {w0:World} {H:LN} {a:ie} (h:lv P Z l mt U r0 w0 H i sl ms) (h1:r5 l mt U A op d ty as ops i) (haj:a.j=i) (had:a.d=d)
  (ja:∀ S',je Z l S' sl ms→∀ t∈a.src,∃ j∈(cj l).getD i [],b9 l j=some t)
  (hq:∀ S' S2,S'.length=i→je Z l S' sl ms→∀ (g:Nat→List Nat) (r:NV) (w:World),aq H w0 w→(∀ j∈(cj l).getD S'.length [],Old l (S'++S2) j r)→(∀ j,vE l U mt S'.length j=true→yu l (S'++S2) j g r w)→(∀ t,(∀ j,j < mt→b9 l j≠some t)→r t=r0 t)→∀ pos af,
   gf P ⟨some d,op,ty,pos,af,none⟩ r w fun v w'=>aq [] w w'∧∃ f,(∀ b∈f,w.heap.size≤b∧b < w'.heap.size)∧MV Z a f w' r v):lv P Z l mt U r0 w0 H (i+1) sl (a :: ms):=by
 obtain ⟨S',hl,hR,hO⟩:=h
 subst hl
 subst had
 obtain ⟨hA,⟨pos,af,ho⟩,_⟩:=h1
 refine ⟨S'++[⟨true,MV Z a⟩],by simp,hR.mem haj (by unfold b9; rw [ho]; rfl) (ja S' hR),fun j hj=>?_⟩
 by_cases h2:j < S'.length
 ·exact lr.more (hO j h2) h2
 ·obtain rfl:j=S'.length:=by omega
  exact lr.Qb (V:=MV Z a) ho (by simp) rfl fun g r w hC hO hn lu=>hq S' _ rfl hR g r w hC hO hn lu pos af
theorem wD.sub {ms BS:MM} {a:ie} {t:Nat} (h:wD ms t a BS):a∈ms∧a.d=t∧(∀ b∈BS,b∈ms)∧(BS.map (·.j)).Sublist (ms.map (·.j)):=by
 induction h with
 | here=>exact ⟨by simp,rfl,fun b hb=>List.mem_cons_of_mem _ hb,by simp⟩
 | there _ ih=>
  obtain ⟨h1,h2,h3,h4⟩:=ih
  refine ⟨List.mem_cons_of_mem _ h1,h2,fun b hb=>?_,by simpa using h4⟩
  rcases List.mem_cons.1 hb with rfl | hb
  ·simp
  ·exact List.mem_cons_of_mem _ (h3 b hb)
theorem je.sub {S':List ik} {sl:LQ} {ms BS:MM} (h:je Z l S' sl ms) (hm:∀ b∈BS,b∈ms) (hn:(BS.map (·.j)).Sublist (ms.map (·.j))):je Z l S' sl BS:=⟨h.v,fun a ha=>h.m a (hm a ha),h.s,h.d.sublist hn,h.t⟩
theorem TY {mt:Nat} {t e et:TI} {E:ah Int} {z0:Int} {bt t1 t2 j2 d2 i d:Nat} {k:IntKind} {y:Int} {xs:List Int} {a1:ie} {ms qh Ic:MM} {sl:LQ} {A:LN} {ty:TI} {as:LL} {ops:LO} {r0:NV} {w0:World} {H:LN} (hz:tQ P t Int e E z0 bt) (h1:wD ms t1 a1 qh) (h2:wD qh t2 ⟨j2,d2,[],Nat,fun _ b=>.slice (some ⟨b,0,none⟩) 1 1,fun _ b=>[.row b [.int k y] et]⟩ Ic) (h3:∀ u v,a1.ps u v=[.own (aJ e (aM k)) (a1.rt u v) xs]) (h4:iH a1.j A=true) (h5:iH j2 A=true) (h6:U.getD i []=[a1.j])
  (hf:fits bt (xs.length+1)=some ()) (HX:r5 l mt U A (.call ⟨.builtin .append,#[.tmp t1,.tmp t2],#[t,t]⟩) d ty as ops i) (h:lv P Z l mt U r0 w0 H i sl ms) :
  lv P Z l mt U r0 w0 H (i+1) sl (⟨i,d,[],Value,fun _ v=>v,fun _ v=>[.own (aJ e (aM k)) v (xs++[y])]⟩ :: qh):=by
 obtain ⟨S',hl,hR,hO⟩:=h
 subst hl
 obtain ⟨hA,⟨pos,af,ho⟩,_⟩:=HX
 obtain ⟨b1,b2⟩:=qy hf
 obtain ⟨q1,hE,i',z,q3,q4,q5,q6,q7,q8⟩:=hz.h
 obtain ⟨m1,m2,m3,m4⟩:=h1.sub
 obtain ⟨n1,n2,_,_⟩:=h2.sub
 refine ⟨S'++[⟨true,MV Z ⟨S'.length,d,[],Value,fun _ v=>v,fun _ v=>[.own (aJ e (aM k)) v (xs++[y])]⟩⟩],by simp,(hR.sub m3 m4).mem rfl (by unfold b9; rw [ho]; rfl) (by intro t h; cases h),fun j hj=>?_⟩
 by_cases bn:j < S'.length
 ·exact lr.more (hO j bn) bn
 ·obtain rfl:j=S'.length:=by omega
  intro o' s' cq e7 g r w hC Dx me hn lu yx qz
  rw [ho] at cq
  cases cq
  rw [List.getElem?_append_right (Nat.le_refl _),Nat.sub_self] at e7
  cases e7
  rw [if_pos rfl]
  refine ⟨rfl,?_⟩
  have get:∀ a∈ms,iH a.j A=true→MV Z a (g a.j) w r (r a.d):=fun a hm hb=>by
   exact hR.Ie hm (hn a.j (th (by rw [← hA]; exact rj.1 hb)).2)
  obtain ⟨v1,c1,c2,c3⟩:=get a1 m1 h4
  obtain ⟨v2,f1,f2,f3⟩:=get _ (m3 _ n1) h5
  rw [h3,← c1,m2] at c2
  rw [m2] at c1
  simp only at f1 f2
  subst n2
  replace c2:=c2.own rfl
  replace f2:=f2.own rfl
  generalize Gr:g a1.j=G1 at c2 c3
  generalize jo:g j2=G2 at f2 f3
  cases c2 with
  | fact h _=>exact h.elim
  | @own _ ff F0 _ Qc A0=>
   cases A0
   rw [List.append_nil] at c3
   cases f2 with
   | fact h _=>exact h.elim
   | @own _ gg F0 _ bm A0=>
    cases A0
    obtain ⟨rfl,bm⟩:=bm
    have hb:qj g (U.getD S'.length [])=ff:=by rw [h6]; simp [qj,Gr]
    refine rn (gf.wC (E:=aM k) (F:=ff) q1 q3 q4 q5 rfl q6 (s:=.tmp t1) (x:=.tmp d2) rfl ⟨Qc,c3⟩ (fun b hb=>hb) f1 bm ⟨rfl,rfl⟩ (by rw [q7]; exact b1) b2) ?_
    rintro v w' ⟨Ig,f',vF,hV⟩
    rw [hb]
    refine ⟨Ig,f',vF,v,rfl,?_,hV.2⟩
    have:=HL.own (Z:=fun _=>False) (e:=.own (aJ e (aM k)) v (xs++[y])) (f:=f') hV.1 .nil
    exact .inl (by simpa using this)
theorem gf.C2 {α:Type} {E:ah α} {F f k:LN} {t e:TI} {s x:OO} {i:TypeInfo} {z:Value} {sv yv:Value} {xs ys:List α} {r:NV} {w:World} {d:Option Nat} {ty:TI} {pos:String} {af:Array Edge} (VX:∀ {h cs x f},E.rep h cs x f→f=[])
  (ht:P.underlying t=some (.slice e)) (hi:P.info? e=some i) (hz:i.zero=some z) (hs:i.size=1) (hE:E.size=1) (Af:z.oneCell'=true)
  (w8:ev r s=sv) (hO:FM (aJ e E) xs f w sv) (hF:∀ b∈f,b∈F) (hx:ev r x=yv) (hy:(bL E).rep w.heap [yv] ys k)
  (hb:(xs.length+ys.length) * i.bytes≤140737488355328) (zq:xs.length+ys.length≤maxLen) :
  gf P ⟨d,.call ⟨.builtin .append,#[s,x],#[t,t]⟩,ty,pos,af,none⟩ r w fun v w'=>aq F w w'∧∃ f',(∀ b∈f',(b∈F∨w.heap.size≤b)∧b < w'.heap.size)∧FM (aJ e E) (xs++ys) f' w' v:=by
 have s7:=Gy hy
 rcases Nat.eq_zero_or_pos ys.length with Dy | Dy
 ·obtain rfl:ys=[]:=List.eq_nil_of_length_eq_zero Dy
  obtain ⟨b0,c0,Ih⟩:=wy hy
  obtain ⟨base,cap,hv,hr⟩:=hO.1
  obtain rfl:sv = .slice base xs.length cap:=by simpa using hv
  have Qd:xs.length≤cap:=by
   rcases hr with ⟨_,rfl,rfl,_⟩ | ⟨_,_,_,_,_,_,h,_⟩
   ·simp
   ·exact h
  have lq:=Ag (P:=P) (w:=w) (ty:=ty) ht hi (b:=base) (a:=b0) (c:=c0) Qd
  subst Ih
  have A3:(execOp (ev r) ⟨d,.call ⟨.builtin .append,#[s,x],#[t,t]⟩,ty,pos,af,none⟩).run P w = .ok (.value (.slice base xs.length cap)) w:=by
   simp only [execOp,resolve,invoke,builtin,Sem.run_bind,Sem.run_pure,Result.andThen_ok,List.map_toArray,List.map_cons,List.map_nil,w8,hx,List.length_nil,lq]
  unfold gf
  rw [A3]
  exact ⟨aq.refl _ _,f,fun b hb=>⟨.inl (hF b hb),ah.lt _ hO.1 b hb⟩,by rw [List.append_nil]; exact hO⟩
 ·rcases s7 with rfl | ⟨a,c,news,g1,Ih,A4,ez,_⟩
  ·simp at Dy
  ·obtain ⟨rfl,_⟩:=Cd (h':=w.heap) VX ez
   obtain ⟨v,w',f',h,hC,Ho,df,de⟩:=q9 (d:=d) (ty:=ty) (pos:=pos) (af:=af) (g:=none) ht hi hz (by rw [hs,hE]) (by rw [cells_one Af,hE]; rfl) w8 hO.1 hO.2 (hx.trans Ih) A4 ez (fun _ h=>nomatch h) Dy hb zq
   unfold gf
   rw [h]
   refine ⟨hC.mono hF,f',fun b hb=>⟨?_,ah.lt _ Ho b hb⟩,Ho,de List.nodup_nil⟩
   rcases df b hb with h | h | h
   ·exact .inl (hF b h)
   ·cases h
   ·exact .inr h
theorem wS {t:TI} {x y:OO} {i:TypeInfo} {b off:Nat} {cs us:LV} {e:TI} {r:NV} {d:Option Nat} {ty:TI} {pos:String} {af:Array Edge} {gg:Option (Nat×Bool)}
  (hi:P.info? t=some i) (hs:us.length=i.size) (bm:Row w b cs e) (hl:off+us.length≤cs.length) (hx:ev r x = .pointer (some ⟨b,off,none⟩)) (hy:(ev r y).cells.toList=us) (hu:∀ u∈us,u.oneCell'=true) :
  (execOp (ev r) ⟨d,.store t x y,ty,pos,af,gg⟩).run P w = .ok .skip (w.setRow b (cs.take off++us++cs.drop (off+us.length)).toArray):=by
 have h:=run_storeCells_at P b off e us 0 cs.toArray w bm (by simpa using hl) hu
 simp only [Nat.add_zero] at h
 have tV:(ev r y).cells=us.toArray:=by rw [← hy]
 simp only [execOp,Instr.storeAt,Instr.sureAddr,hx,storeVar]
 simp [tV,sizeOf,typeInfo,hi,hs,h]
theorem TZ {mt:Nat} {t e:TI} {t1 j1 n i:Nat} {y:OO} {u:Value} {us cs ds:LV} {ms qh:MM} {sl:LQ} {A:LN} {ty:TI} {as:LL} {ops:LO} {r0:NV} {w0:World} {H:LN} {Γ:QE} {F:LN} (hh:np l mt base=true) (ha:db r0 base) (ht:vy P t n)
  (h1:wD ms t1 ⟨j1,t1,[],Nat,fun _ b=>.pointer (some ⟨b,0,none⟩),fun _ b=>[.row b cs e]⟩ qh) (hv:eG A none sl base fr) (hy:bx fr y=some u) (hc:tR Γ u us) (w5:us.length=n) (hs:uO us 0 cs ds) (ho:wq Γ us) (h4:iH j1 A=true) (h6:U.getD i []=[j1])
  (hS:∀ w,aq H w0 w→SA Z w Γ [] F) (HX:VW l mt U A (.store t (.tmp t1) y) ty as ops i) (h:lv P Z l mt U r0 w0 H i sl ms) :
  lv P Z l mt U r0 w0 H (i+1) sl (⟨i,t1,[],Nat,fun _ b=>.pointer (some ⟨b,0,none⟩),fun _ b=>[.row b ds e]⟩ :: qh):=by
 obtain ⟨S',hl,hR,hO⟩:=h
 subst hl
 obtain ⟨hA,⟨pos,af,SI⟩,_⟩:=HX
 obtain ⟨ti,q1,q2⟩:=ht.h
 obtain ⟨m1,_,m3,m4⟩:=h1.sub
 have FN:=th (by rw [← hA]; exact rj.1 h4)
 refine ⟨S'++[⟨true,ND Z ⟨S'.length,t1,[],Nat,fun _ b=>.pointer (some ⟨b,0,none⟩),fun _ b=>[.row b ds e]⟩⟩],by simp,(hR.sub m3 m4).acb (b:=⟨S'.length,t1,[],Nat,fun _ b=>.pointer (some ⟨b,0,none⟩),fun _ b=>[.row b ds e]⟩) rfl (by unfold b9; rw [SI]; rfl) (hR.slot m1 FN.1) rfl,fun j hj=>?_⟩
 by_cases bn:j < S'.length
 ·exact lr.more (hO j bn) bn
 ·obtain rfl:j=S'.length:=by omega
  intro o' s' cq e7 g r w hC Dx me hn lu yx qz
  rw [SI] at cq
  cases cq
  rw [List.getElem?_append_right (Nat.le_refl _),Nat.sub_self] at e7
  cases e7
  rw [if_pos rfl]
  refine ⟨rfl,?_⟩
  obtain ⟨b,c1,c2,c3⟩:=hR.Ie m1 (hn j1 FN.2)
  simp only at c1 c2
  replace c2:=c2.own rfl
  generalize Gr:g j1=G1 at c2 c3
  cases c2 with
  | fact h _=>exact h.elim
  | @own _ ff F0 _ Qc A0=>
   cases A0
   obtain ⟨rfl,bm⟩:=Qc
   have hb:qj g (U.getD S'.length [])=[b]:=by rw [h6]; simp [qj,Gr]
   have hr:=o9 hR hA hv (lz hh ha lu) me
   obtain ⟨e1,e2⟩:=hs.eq
   have H5:=hS w hC
   have lq:=wS (P:=P) (d:=none) (ty:=ty) (pos:=pos) (af:=af) (gg:=none) q1 (by rw [w5,q2]) bm e1 (x:=.tmp t1) c1 (y:=y) (by rw [aY hr hy]; exact hc.eq H5) (ho.one H5)
   unfold gf
   rw [lq,hb]
   have tw:=setRow_heap w b cs.toArray (cs.take 0++us++cs.drop (0+us.length)).toArray e _ bm
   have acd:b < w.heap.size:=bm.lt
   refine ⟨⟨rfl,rfl,rfl,Nat.le_refl _,by simp,fun j _ hj=>setRow_other w b j _ fun h=>hj (by simp [h])⟩,[b],fun b' dc=>?_,b,c1,?_,by simp⟩
   ·rw [List.mem_singleton.1 dc]
    exact ⟨.inl (by simp),by simpa using acd⟩
   ·refine .inl (HL.own (f:=[b]) ⟨rfl,?_⟩ .nil)
    rw [e2]
    exact tw
theorem T0 {mt:Nat} {t i d:Nat} {cs:LV} {sl:LQ} {ms:MM} {A:LN} {ty:TI} {as:LL} {ops:LO} {r0:NV} {w0:World} {H:LN} (hz:zm P t cs) (h1:r5 l mt U A (.alloc t) d ty as ops i) (h:lv P Z l mt U r0 w0 H i sl ms) :
   lv P Z l mt U r0 w0 H (i+1) sl (⟨i,d,[],Nat,fun _ b=>.pointer (some ⟨b,0,none⟩),fun _ b=>[.row b cs t]⟩ :: ms):=by
 obtain ⟨i',z,t1,t2,t3⟩:=hz.h
 refine h.mem h1 rfl rfl (fun _ _ _ h=>nomatch h) fun S' S2 hl hR g r w hC me hn lu pos af=>rn (gf.VR (cs:=cs) t1 t2 (by rw [← t3])) ?_
 rintro v w' ⟨hC,f,hf,b,e1,e2,bm⟩
 refine ⟨hC,f,hf,b,e2,?_,by rw [e1]; simp⟩
 have:=HL.own (Z:=fun _=>False) (e:=.row b cs t) (f:=[b]) ⟨rfl,bm⟩ .nil
 rw [e1]
 exact .inl (by simpa using this)
theorem VY {mt t n:Nat} {A:LN} {st:TI} {d:Nat} {ty:TI} {as:LL} {ops:LO} {i:Nat} {sl:LQ} {ms:MM} {r0:NV} {w0:World} {H:LN} (h:lv P Z l mt U r0 w0 H i sl ms) (h1:r5 l mt U A (.call ⟨.builtin .len,#[.tmp t],#[st]⟩) d ty as ops i) (ht:yo P st) (hi:n4 ms) (ja:qi A ms=true) (hx:∀ x:ou ms,VP (mz A ms x) (sa A ms x) t n):lv P Z l mt U r0 w0 H (i+1) ((i,d,.int .i64 (n:Int)) :: sl) ms:=by
 obtain ⟨S',hl,hR,hO⟩:=h
 subst hl
 obtain ⟨hA,⟨pos,af,ho⟩,_⟩:=h1
 obtain ⟨e,i',q1,_,_⟩:=ht.h
 refine ⟨S'++[sV (.int .i64 (n:Int))],by simp,hR.val (by unfold b9; rw [ho]; rfl),fun j hj=>?_⟩
 by_cases h2:j < S'.length
 ·exact lr.more (hO j h2) h2
 ·obtain rfl:j=S'.length:=by omega
  refine lr.val (v:=.int .i64 (n:Int)) ho (by simp) rfl fun g r w hC me hn lu=>?_
  obtain ⟨x,hv,hE⟩:=Ae hR hA hi ja hn
  obtain ⟨Ce,Et⟩:=hx x
  have Gz:=(tf hv Aa) t _ (by rw [List.append_nil]; exact Ce)
  obtain ⟨_,_,_,_,hS⟩:=hE.front (Γ:=[]) (F:=[]) rfl
  rw [List.append_nil] at hS
  obtain ⟨b,c,rfl⟩:=Et.sound hS
  exact vB q1 (x:=.tmp t) Gz
theorem T1 {mt:Nat} {t:TI} {ps:List (Nat×Operand)} {zc:LV} {pl:List (Nat×Nat)} {A:LN} {as:LL} {d:Nat} {ty:TI} {ops:LO} {i:Nat} {sl:LQ} {ms:MM} {fr:Fr} {hd Γ:QE} {B:Bs} {r0:NV} {w0:World} {H:LN} {X:Value→List Value} {ts:LN} (hh:np l mt base=true) (hb:BP P t zc pl) (hi:n4 ms) (ja:qi A ms=true) (hj:tsB A ms ts=true) (hv:eG A none sl base fr)
   (hx:∀ x:ou ms,xV (sa A ms x++Γ) (mz A ms x++fr) pl ps zc (X (zT (zp (mF ms x)) ts))) (h1:r5 l mt U A (.build t ps.toArray) d ty as ops i) (ha:db r0 base) (hs:tx B Z hd Γ H w0) (h:lv P Z l mt U r0 w0 H i sl ms) :
   lv P Z l mt U r0 w0 H (i+1) sl (⟨i,d,ts,Unit,fun u _=>.agg (X u).toArray,fun _ _=>[]⟩ :: ms):=by
 have hts:∀ t∈ts,∃ j,sw t ms=some j∧iH j A=true:=fun t ht=>by
  have:=List.all_eq_true.1 hj t ht
  cases hf:sw t ms with
  | none=>rw [hf] at this; cases this
  | some j=>rw [hf] at this; exact ⟨j,rfl,this⟩
 refine h.mem h1 rfl rfl (fun S' hR t' ht=>FL h1.A hR (hts t' ht)) ?_
 intro S' S2 hl hR g r w hC me hn lu pos af
 have hA:=h1.A
 rw [← hl] at hA
 have hbs:=o9 hR hA hv (lz hh ha lu) me
 obtain ⟨x,hxv,va⟩:=Ae hR hA hi ja hn
 obtain ⟨F,Hd,⟨xK,BT,xC,BU⟩,hS,hG⟩:=hs
 obtain ⟨G,_,_,_,fj⟩:=va.front (tx.stay hS hG hC)
 have e:zT (zp (mF ms x)) ts=zT r ts:=C3 fun t ht=>by
  obtain ⟨j,h2,h3⟩:=hts t ht
  unfold zp
  rw [H8 h2 h3 hxv]
 have hF:=hx x
 rw [e] at hF
 have lq:=(VQ.SC (P:=P) (hb:=hb) hF).sound fj (tf hxv hbs) (some d) ty pos af none w (aq.refl _ _)
 unfold gf
 rw [lq]
 exact ⟨aq.refl _ _,[],fun b hb=>absurd hb List.not_mem_nil,(),rfl,.inl .nil,List.nodup_nil⟩
theorem T2 {mt:Nat} {α:Type} {t e:TI} {E:ah α} {z0:α} {bt i d:Nat} {sl:LQ} {ms:MM} {A:LN} {ty:TI} {as:LL} {ops:LO} {r0:NV} {w0:World} {H:LN} (hz:tQ P t α e E z0 bt) (h1:r5 l mt U A (.buildSlice t 0 #[]) d ty as ops i) (h:lv P Z l mt U r0 w0 H i sl ms) :
   lv P Z l mt U r0 w0 H (i+1) sl (⟨i,d,[],Value,fun _ v=>v,fun _ v=>[.own (aJ e E) v []]⟩ :: ms):=by
 obtain ⟨t1,_,i',z,t2,_⟩:=hz.h
 refine h.mem h1 rfl rfl (fun _ _ _ h=>nomatch h) fun S' S2 hl hR g r w hC me hn lu pos af=>rn (gf.made (A5 (E:=E) t1 t2)) ?_
 rintro v w' ⟨hC,f,hf,hV⟩
 refine ⟨hC,f,hf,v,rfl,?_,hV.2⟩
 have:=HL.own (Z:=fun _=>False) (e:=.own (aJ e E) v []) (f:=f) hV.1 .nil
 exact .inl (by simpa using this)
theorem VZ {mt n:Nat} {α:Type} {t e:TI} {E:ah α} {z0:α} {bt i d:Nat} {sl:LQ} {ms:MM} {A:LN} {ty:TI} {as:LL} {ops:LO} {r0:NV} {w0:World} {H:LN} {x:OO} {z:Int} (hh:np l mt base=true) (ha:db r0 base) (hz:tQ P t α e E z0 bt) (hv:eG A none sl base fr) (hx:bx fr x=some (.int .i64 z)) (hn:mk bt z=some n) (h1:r5 l mt U A (.makeSlice t x x) d ty as ops i) (h:lv P Z l mt U r0 w0 H i sl ms) :
   lv P Z l mt U r0 w0 H (i+1) sl (⟨i,d,[],Value,fun _ v=>v,fun _ v=>[.own (aJ e E) v (List.replicate n z0)]⟩ :: ms):=by
 obtain ⟨e1,e2,e3⟩:=FD hn
 obtain ⟨t1,hE,i',z',t2,t3,t4,t5,t6,t7⟩:=hz.h
 subst e1
 refine h.mem h1 rfl rfl (fun _ _ _ h=>nomatch h) fun S' S2 hl hR g r w hC me hn lu pos af=>?_
 have hb:=o9 hR (by rw [hl]; exact h1.A) hv (lz hh ha lu) me
 refine rn (gf.made (Ii (E:=E) (z0:=z0) t1 t2 t3 t4 hE t5 t7 (aY hb hx) (aY hb hx) (by rw [t6]; exact e2) e3)) ?_
 rintro v w' ⟨hC,f,hf,hV⟩
 refine ⟨hC,f,hf,v,rfl,?_,hV.2⟩
 have:=HL.own (Z:=fun _=>False) (e:=.own (aJ e E) v (List.replicate n z0)) (f:=f) hV.1 .nil
 exact .inl (by simpa using this)
theorem V0 {mt:Nat} {α:Type} {t e:TI} {E:ah α} {z0:α} {bt i d:Nat} {sl:LQ} {ms:MM} {A:LN} {ty:TI} {as:LL} {ops:LO} {r0:NV} {w0:World} {H:LN} {x:OO} {u:Value} {Γ:QE} {F:LN} (hh:np l mt base=true) (ha:db r0 base) (hz:tQ P t α e E z0 bt) (hv:eG A none sl base fr) (hx:bx fr x=some u) (ho:One Γ u) (hS:∀ w,aq H w0 w→SA Z w Γ [] F) (h1:r5 l mt U A (.buildSlice t 1 #[(0,x)]) d ty as ops i) (h:lv P Z l mt U r0 w0 H i sl ms) :
   lv P Z l mt U r0 w0 H (i+1) sl (⟨i,d,[],Nat,fun _ b=>.slice (some ⟨b,0,none⟩) 1 1,fun _ b=>[.row b [u] e]⟩ :: ms):=by
 obtain ⟨t1,hE,i',z',t2,t3,t4,t5,t6,t7⟩:=hz.h
 refine h.mem h1 rfl rfl (fun _ _ _ h=>nomatch h) fun S' S2 hl hR g r w hC me hn lu pos af=>?_
 have hb:=o9 hR (by rw [hl]; exact h1.A) hv (lz hh ha lu) me
 refine rn (gf.FC t1 t2 t3 t4 (aY hb hx) (ho.one (hS w hC))) ?_
 rintro v w' ⟨hC,f,hf,b,e1,e2,bm⟩
 refine ⟨hC,f,hf,b,e2,?_,by rw [e1]; simp⟩
 have:=HL.own (Z:=fun _=>False) (e:=.row b [u] e) (f:=[b]) ⟨rfl,bm⟩ .nil
 rw [e1]
 exact .inl (by simpa using this)
theorem KR {mt n:Nat} {t e:TI} {i d:Nat} {sl:LQ} {ms:MM} {A:LN} {ty:TI} {as:LL} {ops:LO} {r0:NV} {w0:World} {H:LN} {ps:List (Nat×Operand)} {us:LV} {Γ:QE} {F:LN} (hh:np l mt base=true) (ha:db r0 base) (hz:KK P t e) (hv:eG A none sl base fr) (hd:wx Γ fr 0 ps us) (hn:us.length=n) (hb:(Nat.ble 1 n && Nat.ble n 16777216)=true) (hS:∀ w,aq H w0 w→SA Z w Γ [] F) (h1:r5 l mt U A (.buildSlice t n ps.toArray) d ty as ops i) (h:lv P Z l mt U r0 w0 H i sl ms) :
   lv P Z l mt U r0 w0 H (i+1) sl (⟨i,d,[],Nat,fun _ b=>.slice (some ⟨b,0,none⟩) n n,fun _ b=>[.row b us e]⟩ :: ms):=by
 refine h.mem h1 rfl rfl (fun _ _ _ h=>nomatch h) fun S' S2 hl hR g r w hC me hnn lu pos af=>?_
 have dc:=o9 hR (by rw [hl]; exact h1.A) hv (lz hh ha lu) me
 unfold gf
 rw [hd.op dc (hS w hC) hz hn hb]
 refine ⟨aq.alloc _ _ _,[w.heap.size],fun b hb=>by rw [List.mem_singleton.1 hb]; simp,w.heap.size,rfl,?_,by simp⟩
 have:=HL.own (Z:=fun _=>False) (e:=.row w.heap.size us e) (f:=[w.heap.size]) ⟨rfl,heap_alloc_new w _⟩ .nil
 exact .inl (by simpa using this)
theorem T3 {mt t:Nat} {α:Type} {s e:TI} {E:ah α} {z0:α} {bt i d:Nat} {sl:LQ} {ms:MM} {A:LN} {ty:TI} {as:LL} {ops:LO} {r0:NV} {w0:World} {H:LN} (hz:tQ P s α e E z0 bt) (hi:n4 ms) (ja:qi A ms=true) (hj:∃ j,sw t ms=some j∧iH j A=true) (hx:∀ x:ou ms,P5 (mz A ms x) (sa A ms x) t) (h1:r5 l mt U A (.buildSlice s 1 #[(0,.tmp t)]) d ty as ops i) (h:lv P Z l mt U r0 w0 H i sl ms) :
   lv P Z l mt U r0 w0 H (i+1) sl (⟨i,d,[t],Nat,fun _ b=>.slice (some ⟨b,0,none⟩) 1 1,fun u b=>[.row b [u] e]⟩ :: ms):=by
 obtain ⟨t1,hE,i',z',t2,t3,t4,t5,t6,t7⟩:=hz.h
 refine h.mem h1 rfl rfl (fun S' hR t' ht=>by rw [List.mem_singleton.1 ht]; exact FL h1.A hR hj) ?_
 intro S' S2 hl hR g r w hC me hn lu pos af
 obtain ⟨x,hv,hE⟩:=Ae hR (by rw [hl]; exact h1.A) hi ja hn
 obtain ⟨Ce,qk⟩:=hx x
 have Gz:r t=_:=(tf hv Aa) t _ (by rw [List.append_nil]; exact Ce)
 obtain ⟨_,_,_,_,hS⟩:=hE.front (Γ:=[]) (F:=[]) rfl
 rw [List.append_nil] at hS
 refine rn (gf.FC t1 t2 t3 t4 (x:=.tmp t) rfl (by show (r t).oneCell'=true; rw [Gz]; exact qk.one hS)) ?_
 rintro v w' ⟨hC,f,hf,b,e1,e2,bm⟩
 refine ⟨hC,f,hf,b,e2,?_,by rw [e1]; simp⟩
 have:=HL.own (Z:=fun _=>False) (e:=.row b [r t] e) (f:=[b]) ⟨rfl,bm⟩ .nil
 rw [e1]
 exact .inl (by simpa [xB,zT] using this)
theorem T4:∀ cs:List Value,pq cs [] cs:=by
 intro cs
 induction cs with
 | nil=>exact .nil
 | cons c cs ih=>exact .cons ih
theorem T5 {mt t n:Nat} {s e:TI} {i d:Nat} {sl:LQ} {ms:MM} {A:LN} {ty:TI} {as:LL} {ops:LO} {r0:NV} {w0:World} {H:LN} (hz:HG P s e n) (hb:(Nat.ble 1 1 && Nat.ble (1 * n) 16777216)=true) (hi:n4 ms) (ja:qi A ms=true) (hj:∃ j,sw t ms=some j∧iH j A=true) (hx:∀ x:ou ms,P6 (mz A ms x) t n) (h1:r5 l mt U A (.buildSlice s 1 #[(0,.tmp t)]) d ty as ops i) (h:lv P Z l mt U r0 w0 H i sl ms) :
   lv P Z l mt U r0 w0 H (i+1) sl (⟨i,d,[t],Nat,fun _ b=>.slice (some ⟨b,0,none⟩) 1 1,fun u b=>[.row b u.cells.toList e]⟩ :: ms):=by
 refine h.mem h1 rfl rfl (fun S' hR t' ht=>by rw [List.mem_singleton.1 ht]; exact FL h1.A hR hj) ?_
 intro S' S2 hl hR g r w hC me hn lu pos af
 obtain ⟨x,hv,hE⟩:=Ae hR (by rw [hl]; exact h1.A) hi ja hn
 obtain ⟨Ce,hlen⟩:=hx x
 rename_i cs
 have Gz:r t = .agg cs.toArray:=(tf hv Aa) t _ (by rw [List.append_nil]; exact Ce)
 have pr:db r [(t,.agg cs.toArray)]:=(fun t' v' h'=>by
  simp only [look] at h'
  cases h2:Nat.beq t' t with
  | true=>rw [h2] at h'; cases h'; rw [Nat.eq_of_beq_eq_true h2]; exact Gz
  | false=>rw [h2] at h'; cases h')
 have hd:xW [] [(t,.agg cs.toArray)] n 0 [(0,.tmp t)] cs:=.cons (v:=.agg cs.toArray) (by simp [bx,look]) .agg hlen .nil (T4 cs)
 have SI:(execOp (ev r) ⟨some d,.buildSlice s 1 #[(0,.tmp t)],ty,pos,af,none⟩).run P w=_:=hd.op (Z:=fun _=>False) (w:=w) (cur:=[]) (F:=[]) pr rfl hz rfl hb
 unfold gf
 rw [SI]
 refine ⟨aq.alloc _ _ _,[w.heap.size],fun b hb=>by rw [List.mem_singleton.1 hb]; simp,w.heap.size,rfl,?_,by simp⟩
 have xJ:(Value.agg cs.toArray).cells.toList=cs:=rfl
 have:=HL.own (Z:=fun _=>False) (e:=.row w.heap.size (r t).cells.toList e) (f:=[w.heap.size]) ⟨rfl,by rw [Gz,xJ]; exact heap_alloc_new w _⟩ .nil
 exact .inl (by simpa [xB,zT] using this)
theorem Qe {mt:Nat} {β V:Type} {A:LN} {as:LL} {d:Nat} {f:FuncId} {xs:List Operand} {ay:Array TypeId} {ty:TI} {mo:Option β} {rt:β→V→List Value} {ps:β→V→List aX} {ops:LO} {i:Nat} {sl:LQ} {ms:MM} {fr:Fr} {hd Γ:QE} {B:Bs} {r0:NV} {w0:World} {H:LN} {y:β} (hh:np l mt base=true) (hf:br P f) (hv:eG A none sl base fr)
   (hc:∀ x:ou ms,LU P f xs (mz A ms x++fr) (sa A ms x++Γ) mo rt ps) (hi:n4 ms) (ja:qi A ms=true) (hw:∀ y v,s6 (ps y v)=true) (h1:r5 l mt U A (.call ⟨.value (.func f),xs.toArray,ay⟩) d ty as ops i) (hy:mo=some y) (ha:db r0 base) (hs:tx B Z hd Γ H w0) (h:lv P Z l mt U r0 w0 H i sl ms) :
   FK P Z l mt U r0 w0 H i sl ms ⟨i,d,[],V,fun _ v=>pj (rt y v),fun _=>ps y⟩:=by
 obtain ⟨S',hl,hR,hO⟩:=h
 subst hl
 refine ⟨S',rfl,hR,hO,fun V' hV=>?_⟩
 obtain ⟨hA,⟨pos,af,ho⟩,_⟩:=h1
 refine lr.Qb (V:=V') ho (by simp) rfl fun g r w hC me hn lu=>?_
 have hb:=o9 hR hA hv (lz hh ha lu) me
 obtain ⟨x,hx,va⟩:=Ae hR hA hi ja hn
 obtain ⟨Ev,vb,hd,hr⟩:=hc x
 obtain ⟨fn,c,f1,f2,f3⟩:=hf.h
 refine Calls.Hn f1 f2 f3 ?_
 rw [tc (tf hx hb) Ev]
 obtain ⟨F,Hd,⟨xK,BT,xC,BU⟩,hS,hG⟩:=hs
 obtain ⟨G,jq,FV,Cf,fj⟩:=va.front (tx.stay hS hG hC)
 rw [r7] at vb
 refine (vb.2 w (fun b=>Z b∨b∈G) [] (hr.sound (fun _ h=>h) (fun _ b hb=>.inr (Cf b hb)) fj hd.ho) List.nodup_nil (fun b hb=>absurd hb List.not_mem_nil)
  (fun b hb=>hb.elim (fun h=>Nat.lt_of_lt_of_le (hG.nv b h) hC.size) fun h=>(jq b h).2) y hy).mono ?_
 rintro e w' ⟨v,he,Z2,F2,qg,jo⟩
 have Cg:HL (fun _=>False) w' (ps y v) F2:=yq (hw y v) qg
 have bn:=(Cg.front (Γ:=[]) (F:=[]) rfl).lt
 obtain ⟨f',df,Ew⟩:=hV F2 w' r _ ⟨v,rfl,.inl Cg,jo.nd⟩
 refine ⟨_,he,jo.jh,f',fun b hb=>⟨(jo.low b (df b hb)).resolve_left List.not_mem_nil,bn b (by simpa using df b hb)⟩,Ew⟩
theorem NK {mt:Nat} {β V:Type} {A:LN} {as:LL} {d:Nat} {f:FuncId} {fs bs:LV} {xo:OO} {xs:List Operand} {ay:Array TypeId} {ty:TI} {mo:Option β} {rt:β→V→List Value} {ps:β→V→List aX} {ops:LO} {i:Nat} {sl:LQ} {ms:MM} {fr:Fr} {hd Γ:QE} {B:Bs} {r0:NV} {w0:World} {H:LN} {y:β} (hh:np l mt base=true) (hf:br P f) (hv:eG A none sl base fr)
   (V1:bx fr xo=some (.func (.func f) fs.toArray bs.toArray)) (hc:∀ x:ou ms,LW P f fs bs xs (mz A ms x++fr) (sa A ms x++Γ) mo rt ps) (hi:n4 ms) (ja:qi A ms=true) (hw:∀ y v,s6 (ps y v)=true) (h1:r5 l mt U A (.call ⟨.value xo,xs.toArray,ay⟩) d ty as ops i) (hy:mo=some y) (ha:db r0 base) (hs:tx B Z hd Γ H w0) (h:lv P Z l mt U r0 w0 H i sl ms) :
   FK P Z l mt U r0 w0 H i sl ms ⟨i,d,[],V,fun _ v=>pj (rt y v),fun _=>ps y⟩:=by
 obtain ⟨S',hl,hR,hO⟩:=h
 subst hl
 refine ⟨S',rfl,hR,hO,fun V' hV=>?_⟩
 obtain ⟨hA,⟨pos,af,ho⟩,_⟩:=h1
 refine lr.Qb (V:=V') ho (by simp) rfl fun g r w hC me hn lu=>?_
 have hb:=o9 hR hA hv (lz hh ha lu) me
 obtain ⟨x,hx,va⟩:=Ae hR hA hi ja hn
 obtain ⟨Ev,k1,k2,vb,hd,hr⟩:=hc x
 obtain ⟨fn,c,f1,f2,f3⟩:=hf.h
 unfold gf
 rw [H4 (aY hb V1) f1 f2 f3,tc (tf hx hb) Ev,List.append_assoc,k1.eq,k2.eq]
 obtain ⟨F,Hd,⟨xK,BT,xC,BU⟩,hS,hG⟩:=hs
 obtain ⟨G,jq,FV,Cf,fj⟩:=va.front (tx.stay hS hG hC)
 rw [r7] at vb
 refine (vb.2 w (fun b=>Z b∨b∈G) [] (hr.sound (fun _ h=>h) (fun _ b hb=>.inr (Cf b hb)) fj hd.ho) List.nodup_nil (fun b hb=>absurd hb List.not_mem_nil)
  (fun b hb=>hb.elim (fun h=>Nat.lt_of_lt_of_le (hG.nv b h) hC.size) fun h=>(jq b h).2) y hy).mono ?_
 rintro e w' ⟨v,he,Z2,F2,qg,jo⟩
 have Cg:HL (fun _=>False) w' (ps y v) F2:=yq (hw y v) qg
 have bn:=(Cg.front (Γ:=[]) (F:=[]) rfl).lt
 obtain ⟨f',df,Ew⟩:=hV F2 w' r _ ⟨v,rfl,.inl Cg,jo.nd⟩
 refine ⟨_,he,jo.jh,f',fun b hb=>⟨(jo.low b (df b hb)).resolve_left List.not_mem_nil,bn b (by simpa using df b hb)⟩,Ew⟩
theorem Ij {A:LN} {g:Nat→List Nat} {b:Nat}:∀ {ms:MM},b∈Cc A g ms→∃ a∈ms,iH a.j A=true∧b∈g a.j:=by
 intro ms
 induction ms with
 | nil=>intro h; exact absurd h List.not_mem_nil
 | cons a l ih=>
  intro h
  unfold Cc at h
  cases hb:iH a.j A with
  | true=>
   rw [hb] at h
   rcases List.mem_append.1 h with h | h
   ·exact ⟨a,by simp,hb,h⟩
   ·obtain ⟨c,h1,h2⟩:=ih h; exact ⟨c,List.mem_cons_of_mem _ h1,h2⟩
  | false=>rw [hb] at h; obtain ⟨c,h1,h2⟩:=ih h; exact ⟨c,List.mem_cons_of_mem _ h1,h2⟩
theorem DS {mt i:Nat} (h:((U.set i []).all fun us=>!(us.contains l.length))=true):A6 l U mt i=true:=by
 unfold A6
 simp only [List.all_eq_true,List.mem_range,Bool.or_eq_true,Bool.not_eq_true'] at h ⊢
 intro k _
 by_cases hk:k=i
 ·exact .inl (.inr (by rw [hk]; exact Nat.beq_refl i))
 ·refine .inl (.inl ?_)
  rw [List.getD_eq_getElem?_getD]
  cases hu:U[k]? with
  | none=>rfl
  | some us=>exact h us (List.mem_of_getElem? (i:=k) (by rw [List.getElem?_set_ne (fun e=>hk e.symm)]; exact hu))
theorem HO.mono {Z':Nat→Prop} (hz:∀ b,Z b→Z' b) {Δ:QE} {F:LN} (h:HO Z w Δ F):HO Z' w Δ F:=by
 induction h with
 | nil=>exact .nil
 | own h _ ih=>exact .own (h.mono hz) ih
 | rd _ ih=>exact .rd ih
 | ay _ ih=>exact .ay ih
theorem NL {mt:Nat} {β V:Type} {A:LN} {as:LL} {d:Nat} {f:FuncId} {xs:List Operand} {ay:Array TypeId} {ty:TI} {mo:Option β} {rt:β→V→List Value} {ps:β→V→List aX} {ops:LO} {i:Nat} {sl:LQ} {ms:MM} {fr:Fr} {hd Γ:QE} {B:Bs} {r0:NV} {w0:World} {H:LN} {y:β} (hh:np l mt base=true) (hf:br P f) (hv:eG A none sl base fr)
   (hU:U.getD i []=[l.length]) (Ik:((U.set i []).all fun us=>!(us.contains l.length))=true)
   (hc:∀ x:ou ms,Eu P f xs (mz A ms x++fr) hd (sa A ms x++Γ) mo rt ps) (hi:n4 ms) (ja:qi A ms=true) (hw:∀ y v,s6 (ps y v)=true) (h1:r5 l mt U A (.call ⟨.value (.func f),xs.toArray,ay⟩) d ty as ops i) (hy:mo=some y) (ha:db r0 base) (hs:tx B Z hd Γ H w0) (h:lv P Z l mt U r0 w0 H i sl ms) :
   FK P Z l mt U r0 w0 H i sl ms ⟨i,d,[],V,fun _ v=>pj (rt y v),fun _=>ps y⟩:=by
 obtain ⟨S',hl,hR,hO⟩:=h
 subst hl
 refine ⟨S',rfl,hR,hO,fun V' hV=>?_⟩
 obtain ⟨hA,⟨pos,af,ho⟩,_⟩:=h1
 intro o' s' cq e7 g r w hC Dx me hn lu yx qz
 rw [ho] at cq
 cases cq
 rw [List.getElem?_append_right (Nat.le_refl _),Nat.sub_self] at e7
 cases e7
 rw [if_pos rfl]
 refine ⟨rfl,?_⟩
 obtain ⟨NM,NN,Qf⟩:=Dx (DS Ik)
 have hb:=o9 hR hA hv (lz hh ha lu) me
 obtain ⟨x,hx,va⟩:=Ae hR hA hi ja hn
 obtain ⟨Ev,vb,NO,hr⟩:=hc x
 obtain ⟨fn,c,f1,f2,f3⟩:=hf.h
 refine Calls.Hn f1 f2 f3 ?_
 rw [tc (tf hx hb) Ev]
 obtain ⟨F,Hd,⟨xK,BT,xC,BU⟩,hS,hG⟩:=hs
 obtain ⟨G,jq,FV,Cf,fj⟩:=va.front (tx.stay hS hG hC)
 obtain ⟨Fd,F',NP,_,Dz⟩:=NO.sound (xK.ij NM)
 have df:∀ b∈Fd,b∈H:=fun b hb=>(BT b (Dz.mem_iff.1 (List.mem_append_left _ hb))).1
 have de:=List.nodup_append.1 hG.nd
 have hblk:qj g (U.getD S'.length [])=H:=by rw [hU]; simp [qj,NN]
 rw [hblk]
 rw [r7] at vb
 refine (vb.2 w (fun b=>Z b∨b∈G) Fd (hr.sound (fun _ h=>h) (fun _ b hb=>.inr (Cf b hb)) fj (NP.mono fun _ h=>.inl h)) ((Dz.nodup_iff.2 BU).sublist (List.sublist_append_left _ _)) (fun b hb=>?_)
  (fun b hb=>hb.elim (fun h=>Nat.lt_of_lt_of_le (hG.nv b h) hC.size) fun h=>(jq b h).2) y hy).mono ?_
 ·rintro (hz | hz)
  ·exact hG.apart b (List.mem_append_left _ (df b hb)) hz
  ·rcases List.mem_append.1 (jq b hz).1 with hz | hz
   ·obtain ⟨a,ham,mw,pr⟩:=Ij hz
    have h2:=Qf a.j (th (by rw [← hA]; exact rj.1 mw)).1 b pr
    have h3:=xC b (df b hb)
    omega
   ·exact de.2.2 b (df b hb) b hz rfl
 ·rintro e w' ⟨v,he,Z2,F2,qg,jo⟩
  have Cg:HL (fun _=>False) w' (ps y v) F2:=yq (hw y v) qg
  have bn:=(Cg.front (Γ:=[]) (F:=[]) rfl).lt
  obtain ⟨f',Il,Ew⟩:=hV F2 w' r _ ⟨v,rfl,.inl Cg,jo.nd⟩
  exact ⟨_,he,jo.jh.mono df,f',fun b hb=>⟨(jo.low b (Il b hb)).imp (df b) id,bn b (by simpa using Il b hb)⟩,Ew⟩
theorem DR.sub {ms BS:MM} {a:ie} {t:Nat} (h:DR ms t a BS):a∈ms∧a.j=t∧(∀ b∈BS,b∈ms)∧(BS.map (·.j)).Sublist (ms.map (·.j))∧((ms.map (·.j)).Nodup→∀ b∈BS,b.j≠t):=by
 induction h with
 | here=>exact ⟨by simp,rfl,fun b hb=>List.mem_cons_of_mem _ hb,by simp,fun hn b hb he=>by rw [List.map_cons,List.nodup_cons] at hn; exact hn.1 (by rw [← he]; exact List.mem_map_of_mem hb)⟩
 | there _ ih=>
  obtain ⟨h1,h2,h3,h4,h5⟩:=ih
  refine ⟨List.mem_cons_of_mem _ h1,h2,fun b hb=>?_,by simpa using h4,fun hn b hb=>?_⟩
  ·rcases List.mem_cons.1 hb with rfl | hb
   ·simp
   ·exact List.mem_cons_of_mem _ (h3 b hb)
  ·rw [List.map_cons,List.nodup_cons] at hn
   rcases List.mem_cons.1 hb with rfl | hb
   ·intro he
    exact hn.1 (by rw [he,← h2]; exact List.mem_map_of_mem h1)
   ·exact h5 hn.2 b hb
theorem NQ {mt:Nat} {β V:Type} {j1:Nat} {a1:ie} {A:LN} {as:LL} {d:Nat} {f:FuncId} {xs:List Operand} {ay:Array TypeId} {ty:TI} {mo:Option β} {rt:β→V→List Value} {ps:β→V→List aX} {ops:LO} {i:Nat} {sl:LQ} {ms qh:MM} {fr:Fr} {hd Γ:QE} {B:Bs} {r0:NV} {w0:World} {H:LN} {y:β} (hh:np l mt base=true) (hf:br P f) (hv:eG A none sl base fr)
   (hU:U.getD i []=[j1]) (Gr:DR ms j1 a1 qh) (SH:a1.src=[]) (h4:iH j1 A=true)
   (hc:∀ (q:a1.V) (x:ou qh),Eu P f xs (mz A qh x++fr) (a1.ps undef q) (sa A qh x++Γ) mo rt ps) (hi:n4 qh) (ja:qi A qh=true) (hw:∀ y v,s6 (ps y v)=true) (h1:r5 l mt U A (.call ⟨.value (.func f),xs.toArray,ay⟩) d ty as ops i) (hy:mo=some y) (ha:db r0 base) (hs:tx B Z hd Γ H w0) (h:lv P Z l mt U r0 w0 H i sl ms) :
   FK P Z l mt U r0 w0 H i sl qh ⟨i,d,[],V,fun _ v=>pj (rt y v),fun _=>ps y⟩:=by
 obtain ⟨S',hl,V2,hO⟩:=h
 subst hl
 obtain ⟨m1,m2,m3,m4,m5⟩:=Gr.sub
 have hR:=V2.sub m3 m4
 refine ⟨S',rfl,hR,hO,fun V' hV=>?_⟩
 obtain ⟨hA,⟨pos,af,ho⟩,_⟩:=h1
 intro o' s' cq e7 g r w hC Dx me hn lu yx qz
 rw [ho] at cq
 cases cq
 rw [List.getElem?_append_right (Nat.le_refl _),Nat.sub_self] at e7
 cases e7
 rw [if_pos rfl]
 refine ⟨rfl,?_⟩
 have FN:=th (by rw [← hA]; exact rj.1 h4)
 have hb:=o9 hR hA hv (lz hh ha lu) me
 obtain ⟨x,hx,va⟩:=Ae hR hA hi ja hn
 obtain ⟨q,_,DA,hq3⟩:=V2.Ie m1 (hn a1.j (by rw [m2]; exact FN.2))
 have w8:xB a1 r=undef:=by unfold xB; rw [SH]; rfl
 rw [w8,m2] at DA
 rw [m2] at hq3
 obtain ⟨Ev,vb,NO,hr⟩:=hc q x
 obtain ⟨fn,c,f1,f2,f3⟩:=hf.h
 refine Calls.Hn f1 f2 f3 ?_
 rw [tc (tf hx hb) Ev]
 obtain ⟨F,Hd,⟨xK,BT,xC,BU⟩,hS,hG⟩:=hs
 have V3:=tx.stay hS hG hC
 obtain ⟨G,jq,FV,Cf,fj⟩:=va.front V3
 obtain ⟨Fo,Fr,hff,Ey,hq4⟩:=DA.all
 have hSq:SA (fun b=>Z b∨b∈Fr) w (a1.ps undef q) [] Fo:=by
  have:=hq4.front (Γ:=[]) (F:=[]) rfl
  simpa using this
 have hnq:=List.nodup_append.1 (hff ▸ hq3)
 obtain ⟨Fd,F',NP,_,Dz⟩:=NO.sound hSq
 have SJ:∀ b∈Fd,b∈Fo:=fun b hb=>Dz.mem_iff.1 (List.mem_append_left _ hb)
 have df:∀ b∈Fd,b∈g j1:=fun b hb=>by rw [hff]; exact List.mem_append_left _ (SJ b hb)
 have de:=List.nodup_append.1 hG.nd
 have hblk:qj g (U.getD S'.length [])=g j1:=by rw [hU]; simp [qj]
 rw [hblk]
 rw [r7] at vb
 have KS:∀ b∈g j1,w0.heap.size≤b∨b∈H:=fun b hb=>(qz j1 FN.1 b hb).1
 refine (vb.2 w (fun b=>Z b∨b∈Fr++G) Fd (hr.sound (fun _ h=>h) (fun _ b hb=>.inr (List.mem_append_right _ (Cf b hb))) (fj.mono (fun _ h=>h.imp id fun h=>List.mem_append_right _ h) fun _ h=>h) (NP.mono fun _ h=>h.imp id fun h=>List.mem_append_left _ h)) ((Dz.nodup_iff.2 hnq.1).sublist (List.sublist_append_left _ _)) (fun b hb=>?_)
  (fun b hb=>hb.elim (fun h=>Nat.lt_of_lt_of_le (hG.nv b h) hC.size) fun h=>(List.mem_append.1 h).elim (Ey b) fun h=>(jq b h).2) y hy).mono ?_
 ·rintro (hz | hz)
  ·rcases KS b (df b hb) with h | h
   ·have:=hG.nv b hz; omega
   ·exact hG.apart b (List.mem_append_left _ h) hz
  ·rcases List.mem_append.1 hz with hz | hz
   ·exact hnq.2.2 b (SJ b hb) b hz rfl
   rcases List.mem_append.1 (jq b hz).1 with hz | hz
   ·obtain ⟨a,ham,mw,pr⟩:=Ij hz
    exact yx a.j (th (by rw [← hA]; exact rj.1 mw)).1 j1 FN.1 (m5 V2.d a ham) b pr (df b hb)
   ·rcases KS b (df b hb) with h | h
    ·have:=hS.lt b hz; omega
    ·exact de.2.2 b h b hz rfl
 ·rintro e w' ⟨v,he,Z2,F2,qg,jo⟩
  have Cg:HL (fun _=>False) w' (ps y v) F2:=yq (hw y v) qg
  have bn:=(Cg.front (Γ:=[]) (F:=[]) rfl).lt
  obtain ⟨f',Il,Ew⟩:=hV F2 w' r _ ⟨v,rfl,.inl Cg,jo.nd⟩
  exact ⟨_,he,jo.jh.mono df,f',fun b hb=>⟨(jo.low b (Il b hb)).imp (df b) id,bn b (by simpa using Il b hb)⟩,Ew⟩
theorem SA.app {Γ Γ':QE} {F F':LN}:∀ {cur:LN},SA Z w Γ' cur F'→SA Z w Γ [] F→SA Z w (Γ'++Γ) cur (F'++F):=by
 induction Γ' generalizing F' with
 | nil=>intro cur h hs; cases h; exact hs.any
 | cons e Γ' ih=>
  intro cur h hs
  cases e with
  | own T v x=>obtain ⟨f,F1,rfl,h1,h2⟩:=h; exact ⟨f,F1++F,by rw [List.append_assoc],h1,ih h2 hs⟩
  | om e E v xs=>obtain ⟨f,F1,rfl,h1,h2⟩:=h; exact ⟨f,F1++F,by rw [List.append_assoc],h1,ih h2 hs⟩
  | row b cs e=>obtain ⟨f,F1,rfl,h1,h2⟩:=h; exact ⟨f,F1++F,by rw [List.append_assoc],h1,ih h2 hs⟩
  | gy e E v xs j u=>obtain ⟨f,F1,rfl,h1,h2⟩:=h; exact ⟨f,F1++F,by rw [List.append_assoc],h1,ih h2 hs⟩
  | rd o T v x=>exact ⟨h.1,ih h.2 hs⟩
  | ad o1 o2 v j T x=>exact ⟨h.1,ih h.2 hs⟩
  | ay p cs=>exact ⟨h.1,ih h.2 hs⟩
  | hd v j u=>exact ⟨h.1,ih h.2 hs⟩
open Classical in
theorem rdN {w':World} {Zc Z2:Nat→Prop} {Fd F2 K:LN} {Δ:QE} (hl:HL Z2 w' Δ F2) (hg:Gd ⟨w,Zc,Fd⟩ Z2 F2 w') (hz:∀ b,Zc b→Z b∨b∈K) (hK:∀ b∈Fd,b∈K) :
  ∃ f,(∀ b∈f,(b∈K∨w.heap.size≤b)∧b < w'.heap.size)∧HN Z w' Δ f∧f.Nodup:=by
 have bn:=(hl.front (Γ:=[]) (F:=[]) rfl).lt
 by_cases ho:s6 Δ=true
 ·exact ⟨F2,fun b hb=>⟨(hg.low b hb).imp (hK b) id,bn b (by simpa using hb)⟩,.inl (yq ho hl),hg.nd⟩
 ·let Fr:=(List.range w'.heap.size).filter fun b=>decide (Z2 b∧(b∈K∨w.heap.size≤b))
  have Ey:∀ b,b∈Fr↔b < w'.heap.size∧Z2 b∧(b∈K∨w.heap.size≤b):=fun b=>by simp [Fr]
  refine ⟨F2++Fr,fun b hb=>?_,.inr ⟨F2,Fr,rfl,⟨by simpa using ho,fun b hb=>((Ey b).1 hb).1⟩,hl.mono fun b hb=>?_⟩,?_⟩
  ·rcases List.mem_append.1 hb with hb | hb
   ·exact ⟨(hg.low b hb).imp (hK b) id,bn b (by simpa using hb)⟩
   ·exact ⟨((Ey b).1 hb).2.2,((Ey b).1 hb).1⟩
  ·rcases hg.uA b hb with h | h | h
   ·rcases hz b h with h | h
    ·exact .inl h
    ·exact .inr ((Ey b).2 ⟨hg.nv b hb,hb,.inl h⟩)
   ·exact .inr ((Ey b).2 ⟨hg.nv b hb,hb,.inl (hK b h)⟩)
   ·exact .inr ((Ey b).2 ⟨hg.nv b hb,hb,.inr h⟩)
  ·refine w9 hg.nd (List.nodup_range.filter _) fun b hb hf=>hg.apart b hb ((Ey b).1 hf).2.1
theorem LZ {mt:Nat} {β V:Type} {A:LN} {as:LL} {d:Nat} {f:FuncId} {xs:List Operand} {ay:Array TypeId} {ty:TI} {mo:Option β} {rt:β→V→List Value} {ps:β→V→List aX} {ops:LO} {i:Nat} {sl:LQ} {ms:MM} {fr:Fr} {hd Γ:QE} {B:Bs} {r0:NV} {w0:World} {H:LN} {y:β} (hh:np l mt base=true) (hf:br P f) (hv:eG A none sl base fr)
   (hU:U.getD i []=[l.length]) (Ik:((U.set i []).all fun us=>!(us.contains l.length))=true)
   (hc:∀ x:ou ms,Ia P f xs (mz A ms x++fr) hd Γ mo rt ps) (hi:n4 ms) (ja:qi A ms=true) (h1:r5 l mt U A (.call ⟨.value (.func f),xs.toArray,ay⟩) d ty as ops i) (hy:mo=some y) (ha:db r0 base) (hs:tx B Z hd Γ H w0) (h:lv P Z l mt U r0 w0 H i sl ms) :
   FK P Z l mt U r0 w0 H i sl ms ⟨i,d,[],V,fun _ v=>pj (rt y v),fun _=>ps y⟩:=by
 obtain ⟨S',hl,hR,hO⟩:=h
 subst hl
 refine ⟨S',rfl,hR,hO,fun V' hV=>?_⟩
 obtain ⟨hA,⟨pos,af,ho⟩,_⟩:=h1
 intro o' s' cq e7 g r w hC Dx me hn lu yx qz
 rw [ho] at cq
 cases cq
 rw [List.getElem?_append_right (Nat.le_refl _),Nat.sub_self] at e7
 cases e7
 rw [if_pos rfl]
 refine ⟨rfl,?_⟩
 obtain ⟨NM,NN,Qf⟩:=Dx (DS Ik)
 have hb:=o9 hR hA hv (lz hh ha lu) me
 obtain ⟨x,hx,va⟩:=Ae hR hA hi ja hn
 obtain ⟨Ev,vb,NO,hr⟩:=hc x
 obtain ⟨fn,c,f1,f2,f3⟩:=hf.h
 refine Calls.Hn f1 f2 f3 ?_
 rw [tc (tf hx hb) Ev]
 obtain ⟨F,Hd,⟨xK,BT,xC,BU⟩,hS,hG⟩:=hs
 have V3:=tx.stay hS hG hC
 obtain ⟨Fd,F',NP,hSr,Dz⟩:=NO.sound (xK.ij NM)
 have df:∀ b∈Fd,b∈H:=fun b hb=>(BT b (Dz.mem_iff.1 (List.mem_append_left _ hb))).1
 have de:=List.nodup_append.1 hG.nd
 have hblk:qj g (U.getD S'.length [])=H:=by rw [hU]; simp [qj,NN]
 rw [hblk]
 rw [r7] at vb
 refine (vb.2 w Z Fd (hr.sound (fun _ h=>h) (fun h=>nomatch h) (hSr.app V3) NP) ((Dz.nodup_iff.2 BU).sublist (List.sublist_append_left _ _)) (fun b hb=>hG.apart b (List.mem_append_left _ (df b hb)))
  (fun b h=>Nat.lt_of_lt_of_le (hG.nv b h) hC.size) y hy).mono ?_
 rintro e w' ⟨v,he,Z2,F2,qg,jo⟩
 obtain ⟨f2,k1,k2,k3⟩:=rdN (Z:=Z) (K:=H) qg jo (fun _ h=>.inl h) df
 obtain ⟨f',Il,Ew⟩:=hV f2 w' r _ ⟨v,rfl,k2,k3⟩
 exact ⟨_,he,jo.jh.mono df,f',fun b hb=>k1 b (Il b hb),Ew⟩
theorem lv.ace {mt:Nat} {A:LN} {op:Op} {d:Nat} {ty:TI} {as:LL} {ops:LO} {i:Nat} {sl:LQ} {ms:MM} {r0:NV} {w0:World} {H:LN} {u:Value} (h:lv P Z l mt U r0 w0 H i sl ms) (hh:np l mt base=true) (ha:db r0 base) (h1:r5 l mt U A op d ty as ops i)
  (hV:(U.zipIdx.all fun p=>!(p.1.contains l.length) || ((cj l).getD p.2 []).contains i)=true) (hv:eG A none sl base fr) (hq:∀ r,db r fr→∀ pos af g w,aq [] w0 w→(execOp (ev r) ⟨some d,op,ty,pos,af,g⟩).run P w = .ok (.value u) w):lv P Z l mt U r0 w0 H (i+1) ((i,d,u) :: sl) ms:=by
 obtain ⟨S',hl,hR,hO⟩:=h
 subst hl
 obtain ⟨hA,⟨pos,af,ho⟩,_⟩:=h1
 refine ⟨S'++[sV u],by simp,hR.val (by unfold b9; rw [ho]; rfl),fun j hj=>?_⟩
 by_cases h2:j < S'.length
 ·exact lr.more (hO j h2) h2
 ·obtain rfl:j=S'.length:=by omega
  have hN:A6 l U mt S'.length=true:=by
   unfold A6
   simp only [List.all_eq_true,List.mem_range,Bool.or_eq_true,Bool.not_eq_true'] at hV ⊢
   intro k _
   rw [List.getD_eq_getElem?_getD]
   cases hu:U[k]? with
   | none=>exact .inl (.inl rfl)
   | some us=>
    have hm:(us,k)∈U.zipIdx:=by rw [List.mem_zipIdx_iff_getElem?]; exact hu
    exact (hV _ hm).imp .inl id
  intro o' s' cq e7 g r w hC Dx me hn lu yx qz
  rw [ho] at cq
  cases cq
  rw [List.getElem?_append_right (Nat.le_refl _),Nat.sub_self] at e7
  cases e7
  rw [if_pos rfl]
  refine ⟨rfl,?_⟩
  unfold gf
  rw [hq r (o9 hR hA hv (lz hh ha lu) me) _ _ _ w (Dx hN).1]
  exact ⟨aq.refl _ _,[],fun b hb=>absurd hb List.not_mem_nil,rfl⟩
theorem T6 {mt:Nat} {hd jd:QE} {α:Type} {t e e' et:TI} {E E':ah α} {z0:α} {bt t1 t2 j2:Nat} {v u yv:Value} {j:Int} {y:α} {z:List α} {xs:List (List α)} {o1 o2:Bool} {Γx:QE} {Ic:MM} {A:LN} {as:LL} {d:Nat} {ty:TI} {ops:LO} {i:Nat} {sl:LQ} {ms:MM} {Γ:QE} {B:Bs} {r0:NV} {w0:World} {H:LN} (hh:np l mt base=true) (ha:db r0 base) (hT:tQ P t α e E z0 bt) (hU:U.getD i []=[l.length])
   (Ik:((U.set i []).all fun us=>!(us.contains l.length))=true) (hv:eG A none sl base fr) (hs:look fr t1=some u) (h2:wD ms t2 ⟨j2,t2,[],Nat,fun _ b=>.slice (some ⟨b,0,none⟩) 1 1,fun _ b=>[.row b [yv] et]⟩ Ic) (h5:iH j2 A=true) (hl:Loc hd u (.row v j)) (hz:qu hd u o1 o2 E' z uF Γx) (h1:dp hd (.own (aJ e' (aJ e E)) v xs) jd) (hr:RT (aJ e E) (bL E')) (hy:Dv [] E yv y [])
   (hf:fits bt (z.length+1)=some ()) (HX:r5 l mt U A (.call ⟨.builtin .append,#[.tmp t1,.tmp t2],#[t,t]⟩) d ty as ops i) (ot:tx B Z hd Γ H w0) (h:lv P Z l mt U r0 w0 H i sl ms) :
  lv P Z l mt U r0 w0 H (i+1) sl (⟨i,d,[],Value,fun _ v'=>v',fun _ v'=>[.own (aJ e E) v' (z++[y]),.own (vD e' (aJ e E) j.toNat) v xs]⟩ :: ms)∧tx B Z jd Γ H w0:=by
 obtain ⟨F,Hd,⟨xK,BT,xC,BU⟩,hS,hG⟩:=ot
 obtain ⟨fm0,F10,V4,_,acf⟩:=h1.sound xK
 refine ⟨?_,F,F10,⟨acf,fun b hb=>BT b (V4.mem_iff.1 (List.mem_append_right _ hb)),xC,(V4.nodup_iff.2 BU).sublist (List.sublist_append_right _ _)⟩,hS,hG⟩
 obtain ⟨S',Eo,hR,hO⟩:=h
 subst Eo
 obtain ⟨hA,⟨pos,af,ho⟩,_⟩:=HX
 obtain ⟨b1,b2⟩:=qy hf
 obtain ⟨q1,q2,ii,zz,q3,q4,q5,q6,q7,_⟩:=hT.h
 obtain ⟨n1,_,_,_⟩:=h2.sub
 refine ⟨S'++[⟨true,MV Z ⟨S'.length,d,[],Value,fun _ v'=>v',fun _ v'=>[.own (aJ e E) v' (z++[y]),.own (vD e' (aJ e E) j.toNat) v xs]⟩⟩],by simp,hR.mem rfl (by unfold b9; rw [ho]; rfl) (by intro t h; cases h),fun k hk=>?_⟩
 by_cases bn:k < S'.length
 ·exact lr.more (hO k bn) bn
 ·obtain rfl:k=S'.length:=by omega
  intro o' s' cq e7 g r w hC Dx me hn lu yx qz
  rw [ho] at cq
  cases cq
  rw [List.getElem?_append_right (Nat.le_refl _),Nat.sub_self] at e7
  cases e7
  rw [if_pos rfl]
  refine ⟨rfl,?_⟩
  obtain ⟨NM,NN,Qf⟩:=Dx (DS Ik)
  have V5:=xK.ij NM
  obtain ⟨j0,j1,lh⟩:=Loc.row hl rfl V5
  obtain ⟨ee,_,⟨⟨gz,si,_⟩,_⟩,_⟩:=hz.sound V5
  obtain ⟨fm,F1,sm,hOw,_⟩:=h1.sound V5
  obtain ⟨ky,F2,oq,V6,_⟩:=hy.sound (Z:=Z) (w:=w) (F:=[]) rfl
  have V7:ky=[]:=by
   cases ky with
   | nil=>rfl
   | cons a l=>exact absurd (oq.mem_iff.1 (List.mem_append_left _ List.mem_cons_self)) List.not_mem_nil
  subst V7
  rw [tS hOw] at j1
  obtain ⟨k,gm,a1,a2,a3⟩:=H7 rfl hOw (List.getElem?_eq_getElem j1) lh
  have V8:xs[j.toNat]=z:=hr.v8 (hr.le.le a1) si
  rw [V8] at a1
  have acg:(k++gm).Nodup:=a2.nodup_iff.2 ((sm.nodup_iff.2 BU).sublist (List.sublist_append_left _ _))
  have HT:=List.nodup_append.1 acg
  have L5:∀ b∈k++gm,b∈H:=fun b hb=>(BT b (sm.mem_iff.1 (List.mem_append_left _ (a2.mem_iff.1 hb)))).1
  obtain ⟨b,c1,c2,c3⟩:=hR.Ie n1 (hn j2 (th (by rw [← hA]; exact rj.1 h5)).2)
  simp only at c1 c2
  replace c2:=c2.own rfl
  generalize Gr:g j2=G1 at c2 c3
  cases c2 with
  | fact h _=>exact h.elim
  | @own _ ff F0 _ ZD A0=>
   cases A0
   obtain ⟨rfl,bm⟩:=ZD
   have hb:=o9 hR hA hv (lz hh ha lu) me
   obtain ⟨v',w',f',lq,Ig,ez,df,Im⟩:=q9 (E:=E) (d:=some d) (ty:=ty) (pos:=pos) (af:=af) (g:=none) (r:=r) (s:=.tmp t1) (x:=.tmp t2) (k:=[]) (ys:=[y]) (news:=[yv]) q1 q3 q4 (by rw [q5,q2]) (by rw [cells_one q6,q2]; rfl) (hb _ _ hs) a1 HT.1 c1 (fun i u hi=>bm.at i u hi) (tj V6) (fun _ h=>absurd h List.not_mem_nil) (by simp) (by rw [q7]; exact b1) b2
   unfold gf
   rw [lq]
   have hblk:qj g (U.getD S'.length [])=H:=by rw [hU]; simp [qj,NN]
   rw [hblk]
   have hgm:(vD e' (aJ e E) j.toNat).rep w'.heap [v] xs gm:=ah.ep _ a3 Ig fun b hb hk=>HT.2.2 b hk b hb rfl
   refine ⟨Ig.mono fun b hb=>L5 b (List.mem_append_left _ hb),f'++gm,fun b hb=>?_,v',rfl,?_,?_⟩
   ·rcases List.mem_append.1 hb with hb | hb
    ·refine ⟨?_,ah.lt _ ez b hb⟩
     rcases df b hb with h | h | h
     ·exact .inl (L5 b (List.mem_append_left _ h))
     ·exact absurd h List.not_mem_nil
     ·exact .inr h
    ·exact ⟨.inl (L5 b (List.mem_append_right _ hb)),ah.lt _ hgm b hb⟩
   ·have:=HL.own (Z:=fun _=>False) (e:=.own (aJ e E) v' (z++[y])) (f:=f') ez (HL.own (e:=.own (vD e' (aJ e E) j.toNat) v xs) (f:=gm) hgm .nil)
    exact .inl (by simpa using this)
   ·refine w9 (Im List.nodup_nil) HT.2.1 fun b hb hm=>?_
    rcases df b hb with h | h | h
    ·exact HT.2.2 b h b hm rfl
    ·exact absurd h List.not_mem_nil
    ·have:=ah.lt _ a3 b hm; omega
end
end Go.Dk
namespace Go.Dk
open Go Go.Li
section
variable {R S:Type} {P:Program} {cx:Cx R} {K:dq R S} {l tail:LO} {base fr:Fr} {U:LL} {hd:QE}
def L6 (P:Program) (cx:Cx R) (K:dq R S) (l:LO) (mt:Nat) (U:LL) (hd:QE) (id:Nat) (base:Fr):JA R S→Prop
 | .a as ops i sl ms Γ m=>AZ l mt U as ops i→Fin P cx K l mt U hd id base i sl ms Γ m
 | .o A op d ty as ops i sl ms Γ m=>r5 l mt U A op d ty as ops i→Fin P cx K l mt U hd id base i sl ms Γ m
 | .oc us f xs ay A d ty as ops i sl ms Γ m=>U.getD i []=us→r5 l mt U A (.call ⟨.value (.func f),xs.toArray,ay⟩) d ty as ops i→Fin P cx K l mt U hd id base i sl ms Γ m
 | .os A op ty as ops i sl ms Γ m=>VW l mt U A op ty as ops i→Fin P cx K l mt U hd id base i sl ms Γ m
 | .ow _ A op d ty as ops i sl ms Γ m=>r5 l mt U A op d ty as ops i→Fin P cx K l mt U hd id base i sl ms Γ m
 | .ix _ v fr x y t A d ty as ops i sl ms Γ m=>eG A none sl base fr→bx fr x=some v→r5 l mt U A (.indexAddr t x y) d ty as ops i→Fin P cx K l mt U hd id base i sl ms Γ m
 | .lb _ v j fr t x A d ty as ops i sl ms Γ m=>eG A none sl base fr→bx fr x=some (.pointer (some (di v 1 j)))→NA P t→r5 l mt U A (.load t x) d ty as ops i→Fin P cx K l mt U hd id base i sl ms Γ m
 | .ap us t1 t2 t A d ty as ops i sl ms Γ m=>U.getD i []=us→r5 l mt U A (.call ⟨.builtin .append,#[.tmp t1,.tmp t2],#[t,t]⟩) d ty as ops i→Fin P cx K l mt U hd id base i sl ms Γ m
 | .la fr a lk t x A d ty as ops i sl ms Γ m=>eG A none sl base fr→bx fr x=some (.pointer (some a))→(match lk with | none=>NA P t | some n=>AG P t n)→r5 l mt U A (.load t x) d ty as ops i→Fin P cx K l mt U hd id base i sl ms Γ m
 | .ld E z fr a t x A d ty as ops i sl ms Γ m=>eG A none sl base fr→bx fr x=some (.pointer (some a))→NA P t→r5 l mt U A (.load t x) d ty as ops i→
   ∀ B o,m=some o→∀ r0 w0 H Z,db r0 base→tx B Z hd Γ H w0→(∃ u,∀ w,aq H w0 w→w.cell? a=some u∧∃ g,E.rep w.heap [u] z g)→lv P Z l mt U r0 w0 H i sl ms→na P cx.n l (mr P cx B K o) r0 w0
 | .p Δ as ops i sl ms Γ m=>AZ l mt U as ops i→Fin P cx K l mt U hd id base i sl ms (Δ.reverse++Γ) m
 | .cr u ps d as ops i sl ms Γ m=>AZ l mt U as ops (i+1)→b9 l i=some d→
   ∀ B o,m=some o→∀ r0 w0 H Z,db r0 base→tx B Z hd Γ H w0→FK P Z l mt U r0 w0 H i sl ms ⟨i,d,[],_,fun _=>u,fun _=>ps⟩→na P cx.n l (mr P cx B K o) r0 w0
theorem zr {w:World} {e n:Nat} {v:Value} {us:List (List Value)} {f:LN} {j:Int} {c:LV} (hO:(aJ e (ef n)).rep w.heap [v] us f) (hj:0≤j) (hu:us[j.toNat]? = some c):c.length=n∧(∀ u∈c,u.oneCell'=true)∧∀ i u,c[i]? = some u→w.cell? ((di v n j).add i)=some u:=by
 obtain ⟨_,_,cs,f1,⟨rfl,h1,h2,_⟩,_,h3⟩:=ug (((Le.own (Le.refl (ef n)) e).le) hO) j hj hu
 exact ⟨h1,h2,h3⟩
theorem AD.sound {tq:Bool} {mt id:Nat} (hh:np l mt base=true)
  (A0:∀ hd i sl ms Γ m,DQ ms=true→FI U sl ms=true→(∀ x:ou ms,D P cx (.p (Cb sl (mF ms x)) (FH ms x) base Γ fun fr Γ=>.tg tq (DO tail) l tail K Γ fr m))→L6 P cx K l mt U hd id base (.a [] [] i sl ms Γ m))
  {J:JA R S} (h:AD tq P cx K l tail base U hd J):L6 P cx K l mt U hd id base J:=by
 have stay:∀ {B:Bs} {Z:Nat→Prop} {hd Γ:QE} {H:LN} {w0:World},tx B Z hd Γ H w0→∃ F Hd,(SA Z w0 hd [] Hd∧(∀ b∈Hd,b∈H∧b < w0.heap.size)∧(∀ b∈H,b < w0.heap.size)∧Hd.Nodup)∧SA Z w0 Γ [] F∧Gd B Z (H++F) w0∧∀ w,aq H w0 w→SA Z w Γ [] F:=by
  rintro B Z hd Γ H w0 ⟨F,Hd,h1,h2,h3⟩
  exact ⟨F,Hd,h1,h2,h3,fun w hC=>tx.stay h2 h3 hC⟩
 induction h with
 | nil hs he h=>exact A0 _ _ _ _ _ _ hs he h
 | cons _ ih=>exact fun h=>ih h.cons
 | LX _ ih=>exact fun h=>ih h.LX
 | Vy h1 hv hy hc hn e7 ho h4 h6 _ ih=>
  rename_i ht _
  intro h B o cq r0 w0 H Z ha hs hp
  obtain ⟨F,_,_,_,_,hK⟩:=stay hs
  exact ih h.n B o cq r0 w0 H Z ha hs (TZ hh ha ht h1 hv hy hc hn e7 ho h4 h6 hK h hp)
 | ixs hv hx _ _ ih=>exact fun h1=>ih hv hx h1
 | @ab7 hd α A as d x y v k j t ty o1 o2 E xs ops i sl ms fr Γ jd f ht hy hr hE _ ih=>
  intro hv hx h1 B o ho r0 w0 H Z ha hs hp
  obtain ⟨z,hz,ho⟩:=bind_some ho
  replace hz:=ri hz
  obtain ⟨e,ii,q1,q2,q3⟩:=ht.h
  obtain ⟨F,Hd,⟨hL,NR⟩,hS,hG,hK⟩:=stay hs
  obtain ⟨ee,_,⟨⟨n,hn,_⟩,Nx⟩,wA⟩:=(hr z).sound hL
  obtain ⟨⟨a,c,o4⟩,bn,_⟩:=ug hn j hz.1 hz.2
  refine ih z h1.n B o ho r0 w0 H Z ha ⟨F,Hd,⟨wA (Nx hE j z hz.1 hz.2),NR⟩,hS,hG⟩ (hp.val hh ha h1 hv fun r fl _ _ _ w hC=>?_)
  rw [mc q1 q2 ((aY fl hx).trans o4) (aY fl hy) hz.1 (by omega),q3,o4]
  rfl
 | @idx hd α A as d x y v k j t ty o1 o2 E xs ops i sl ms fr Γ Γ' f ht hy hr hE _ ih=>
  intro hv hx h1 B o ho r0 w0 H Z ha hs hp
  obtain ⟨z,hz,ho⟩:=bind_some ho
  replace hz:=ri hz
  obtain ⟨F,Hd,hL,hS,hG,hK⟩:=stay hs
  obtain ⟨ee,_,⟨⟨n,hn,_⟩,Nx⟩,wA⟩:=(hr z).sound hS
  refine ih z h1.n B o ho r0 w0 H Z ha ⟨F,Hd,hL,wA (Nx hE j z hz.1 hz.2),hG⟩ (hp.val hh ha h1 hv fun r fl _ _ _ w hC=>?_)
  obtain ⟨_,_,⟨⟨n',w5,_⟩,_⟩,_⟩:=(hr z).sound (hK w hC)
  exact Ix ht.h w5 hz (aY fl hx) (aY fl hy) hE w (aq.refl _ _)
 | pz _ ih=>exact ih
 | @pe hd e Δ as ops i sl ms Γ m _ ih=>
  intro h1
  have h2:=ih h1
  have h3:(e :: Δ).reverse++Γ=Δ.reverse++e :: Γ:=by rw [List.reverse_cons,List.append_assoc]; rfl
  rw [h3]
  exact h2
 | @HK hd α V Sc cl en A as d n x y v xs k j t ty ops i sl ms fr Γ Γx f ht hy hr r4 hn _ ih=>
  intro hv hx hA B o ho r0 w0 H Z ha hs hp
  replace r4:SO Sc V cl en:=by cases r4; assumption
  obtain ⟨z,hz,ho⟩:=bind_some ho
  replace hz:=ri hz
  obtain ⟨e,i',h1,h2,h3⟩:=ht.h
  obtain ⟨F,Hd,hL,hS,hG,hK⟩:=stay hs
  obtain ⟨ee,_,⟨⟨f0,Dw,wc⟩,_⟩,_⟩:=hr.sound hS
  have hZ:∀ b∈f0,Z b:=fun b hb=>(wc b hb).elim (fun h=>h) (fun h=>h)
  obtain ⟨⟨a,c,o4⟩,bn,cs,f1,ez,Nz,lh⟩:=ug Dw j hz.1 hz.2
  have w5:(iu Sc).size=n:=hn
  rw [w5] at lh
  obtain ⟨u,rfl,tT⟩:=r4.op ez.2
  have hblk:Z (di v n j).block:=by
   obtain ⟨base,cap,o4,fl⟩:=Dw
   rcases fl with ⟨rfl,_⟩ | ⟨b,off,cr,e',fz,f',rfl,_,rfl,_⟩
   ·simp at bn; omega
   ·obtain rfl:v = .slice (some ⟨b,off,none⟩) xs.length cap:=by simpa using o4
    have:(di (.slice (some ⟨b,off,none⟩) xs.length cap) n j).block=b:=by unfold di; rw [wZ]
    rw [this]; exact hZ b (by simp)
  have HW:fact Z w0 [] (.ay (di v n j) (cl z u)):=⟨fun i u' hi=>lh i u' hi,fun _=>hblk⟩
  have dw:HL Z w0 (.ay (di v n j) (cl z u) :: en z u) []:=.fact HW (wz (tT Z fun b hb=>hZ b (Nz b hb)))
  obtain ⟨F',u7,fj⟩:=dw.build hS
  refine ih z u hA.n B o ho r0 w0 H Z ha ⟨F',Hd,hL,fj,hG.perm (List.Perm.append_left H (by simpa using u7))⟩ (hp.val hh ha hA hv fun r fl _ _ _ w hC=>?_)
  rw [mc h1 h2 ((aY fl hx).trans o4) (aY fl hy) hz.1 (by omega),h3,o4]
  rfl
 | @VT hd α V Sc cl en A as d n e bt x y v us xs k j t ty ops i sl ms fr Γ Γ1 f ht hy h1 hg r4 _ ih=>
  intro hv hx hA B o ho r0 w0 H Z ha hs hp
  replace r4:SO Sc V cl en:=by cases r4; assumption
  obtain ⟨z,hz,ho⟩:=bind_some ho
  replace hz:=ri hz
  obtain ⟨q1,i',_,q2,_,_,q3,_⟩:=ht.h
  obtain ⟨F,Hd,hL,hS,hG,hK⟩:=stay hs
  obtain ⟨f0,F1,_,hO,_⟩:=h1.sound hS
  obtain ⟨g0,hk,si⟩:=hg.rd hS []
  obtain ⟨c,g1,e1,e2,e3⟩:=Ei j.toNat hk.2.1 hz.2
  obtain ⟨u,rfl,tT⟩:=r4.op e2
  have hlen:us.length=xs.length:=Ab hk.2.1
  have bn:j.toNat < xs.length:=(List.getElem?_eq_some_iff.1 hz.2).1
  have o4:∃ a c,v = .slice (some a) us.length c:=by
   obtain ⟨b0,cap,hv,hr⟩:=hO
   obtain rfl:v = .slice b0 us.length cap:=by simpa using hv
   rcases hr with ⟨_,_,rfl,_⟩ | ⟨b,cur,f',rfl,_⟩
   ·rw [← hlen] at bn; simp at bn
   ·exact ⟨_,_,rfl⟩
  obtain ⟨a,c',rfl⟩:=o4
  have dw:HL Z w0 (.rd false (BN us j) (.bool true) (cl z u) :: en z u) []:=.fact ⟨[],⟨rfl,⟨hz.1,e1⟩,rfl⟩,fun _ h=>absurd h List.not_mem_nil⟩ (wz (tT Z fun b hb=>si b (e3 b hb)))
  obtain ⟨F',u7,fj⟩:=dw.build hS
  refine ih z u hA.n B o ho r0 w0 H Z ha ⟨F',Hd,hL,fj,hG.perm (List.Perm.append_left H (by simpa using u7))⟩ (hp.val hh ha hA hv fun r fl _ _ _ w hC=>?_)
  rw [mc q1 q2 (aY fl hx) (aY fl hy) hz.1 (by omega),q3]
  rfl
 | @laG hd A as d n e off x v u us j cs t ty ops i sl ms fr Γ Γ1 m h1 r9 hc _ ih=>
  intro hv hx ht hA B o ho r0 w0 H Z ha hs hp
  obtain ⟨F,_,_,hS,_,hK⟩:=stay hs
  refine ih hA.n B o ho r0 w0 H Z ha hs (hp.val hh ha hA hv fun r hr _ _ _ w hC=>?_)
  obtain ⟨f,F1,_,hO,_⟩:=h1.sound (hK w hC)
  obtain ⟨_,⟨_,⟨hj,hu⟩,_⟩,_⟩:=r9.rd (hK w hC) []
  exact Ld ht ((zr hO hj hu).2.2 off u hc) (aY hr hx) w (aq.refl _ _)
 | @VU hd A as d n e x v u us j cs t ty ops i sl ms fr Γ Γ1 m h1 r9 hc _ ih=>
  intro hv hx ht hA B o ho r0 w0 H Z ha hs hp
  obtain ⟨F,_,_,hS,_,hK⟩:=stay hs
  refine ih hA.n B o ho r0 w0 H Z ha hs (hp.val hh ha hA hv fun r hr _ _ _ w hC=>?_)
  obtain ⟨f,F1,_,hO,_⟩:=h1.sound (hK w hC)
  obtain ⟨_,⟨_,⟨hj,hu⟩,_⟩,_⟩:=r9.rd (hK w hC) []
  exact Ld ht ((zr hO hj hu).2.2 0 u hc) (aY hr hx) w (aq.refl _ _)
 | load hv hx _ ih=>rename_i ht _; exact fun h1=>ih hv hx ht.h h1
 | lsw _ _ ih=>exact fun hv hx ht h1=>ih hv hx ht h1
 | @ab8 hd α A as d x v j E z o' t ty ops i sl ms fr Γ VS jd m hV h Er _ ih=>
  intro hv hx ht h1 B o ho r0 w0 H Z ha hs hp
  obtain ⟨F,Hd,⟨hL,NR⟩,hS,hG,hK⟩:=stay hs
  obtain ⟨_,⟨u,k,h3,h4,h5⟩,_⟩:=(h (.bool true)).sound hL
  obtain ⟨ee,⟨u',k',h4',h5',h6⟩,wA⟩:=(h u).sound hL
  rw [h3] at h4'
  cases h4'
  exact ih u h1.n B o ho r0 w0 H Z ha ⟨F,Hd,⟨(Er u).sound h3 (wA ⟨k',h5',h6⟩),NR⟩,hS,hG⟩ (hp.ace hh ha h1 hV hv fun r hr _ _ _ w hC=>Ld ht h3 (aY hr hx) w hC)
 | @Vt hd α A as d x v j o E z t ty ops i sl ms fr Γ Γx m h _ ih=>
  intro hv hx ht h1 B o' ho r0 w0 H Z ha hs hp
  obtain ⟨F,Hd,hL,hS,hG,hK⟩:=stay hs
  obtain ⟨_,⟨u,k,h2,h3,_⟩,_⟩:=h.sound hS
  refine ih hv hx ht h1 B o' ho r0 w0 H Z ha hs ⟨u,fun w hC=>?_⟩ hp
  have hb:(di v 1 j).block ∉ H:=fun hm=>(h.B9 hS).elim (fun h=>h.elim (fun h=>absurd h List.not_mem_nil) fun h=>(List.nodup_append.1 hG.nd).2.2 _ hm _ h rfl) fun h=>hG.apart _ (List.mem_append_left _ hm) h
  have hc:=hC.cell hb h2
  obtain ⟨_,⟨u',k',h4,h5,_⟩,_⟩:=h.sound (hK w hC)
  rw [hc] at h4
  cases h4
  exact ⟨hc,k',h5⟩
 | Vu h _ ih=>
  intro hv hx ht h1 B o ho r0 w0 H Z ha hs hp
  obtain ⟨F,_,_,hS,_,hK⟩:=stay hs
  exact ih h1.n B o ho r0 w0 H Z ha hs (hp.val hh ha h1 hv fun r hr _ _ _ w hC=>Ld ht (h.sound (hK w hC)) (aY hr hx) w (aq.refl _ _))
 | Ns h _ ih=>
  intro hv hx ht h1 B o ho r0 w0 H Z ha hs hp
  obtain ⟨F,_,_,hS,_,hK⟩:=stay hs
  refine ih h1.n B o ho r0 w0 H Z ha hs (hp.val hh ha h1 hv fun r hr _ _ _ w hC=>?_)
  obtain ⟨h2,h3⟩:=h.sound (hK w hC)
  exact Lg ht h2 (aY hr hx) h3 w (aq.refl _ _)
 | Vv _ ih=>
  intro hv hx ht h1 B o ho r0 w0 H Z ha hs hu hp
  obtain ⟨u,hu⟩:=hu
  obtain ⟨_,_,h3,_⟩:=hu w0 (aq.refl _ _)
  obtain rfl:u=_:=by simpa using h3
  exact ih h1.n B o ho r0 w0 H Z ha hs (hp.val hh ha h1 hv fun r hr _ _ _ w hC=>Ld ht (hu w hC).1 (aY hr hx) w (aq.refl _ _))
 | @Vw hd α A as d x v j E z o' t ty ops i sl ms fr Γ Γ1 Γ' m h Er _ ih=>
  intro hv hx ht h1 B o ho r0 w0 H Z ha hs hu hp
  obtain ⟨u,hu⟩:=hu
  obtain ⟨h2,_⟩:=hu w0 (aq.refl _ _)
  obtain ⟨F,Hd,hL,hS,hG,hK⟩:=stay hs
  obtain ⟨ee,⟨u',k',h4,h5,h6⟩,wA⟩:=(h u).sound hS
  rw [h2] at h4
  cases h4
  exact ih u h1.n B o ho r0 w0 H Z ha ⟨F,Hd,hL,(Er u).sound h2 (wA ⟨k',h5,h6⟩),hG⟩ (hp.val hh ha h1 hv fun r hr _ _ _ w hC=>Ld ht (hu w hC).1 (aY hr hx) w (aq.refl _ _))
 | @HM hd α A as d t e ty E z0 bt ops i sl ms Γ m hz _ ih=>
  intro h1 B o ho r0 w0 H Z ha hs hp
  exact ih h1.n B o ho r0 w0 H Z ha hs (T2 hz h1 hp)
 | Nr hU _ ih=>exact fun h1=>ih hU h1
 | @ab9 hd β V A as d f fs bs xo xs ay ty mo rt ps ops i sl ms fr Γ g hv V1 hf hc hi ja hw _ ih=>
  intro h1 B o ho r0 w0 H Z ha hs hp
  obtain @⟨vF⟩:=hf
  obtain ⟨y,hy,ho⟩:=bind_some ho
  obtain ⟨pos,af,h2⟩:=h1.o
  exact ih y h1.n (by unfold b9; rw [h2]; rfl) B o ho r0 w0 H Z ha hs (NK hh vF hv V1 hc hi ja hw h1 hy ha hs hp)
 | @call hd β V A as d f xs ay ty mo rt ps ops i sl ms fr Γ g hf hv hc hi ja hw _ ih=>
  intro _ h1 B o ho r0 w0 H Z ha hs hp
  obtain ⟨y,hy,ho⟩:=bind_some ho
  obtain ⟨pos,af,h2⟩:=h1.o
  exact ih y h1.n (by unfold b9; rw [h2]; rfl) B o ho r0 w0 H Z ha hs (Qe hh hf hv hc hi ja hw h1 hy ha hs hp)
 | @ZA hd β V A as d f xs ay ty mo rt ps ops i sl ms fr Γ g hf hV hv hc hi ja hw _ ih=>
  intro hU h1 B o ho r0 w0 H Z ha hs hp
  obtain ⟨y,hy,ho⟩:=bind_some ho
  obtain ⟨pos,af,h2⟩:=h1.o
  exact ih y h1.n (by unfold b9; rw [h2]; rfl) B o ho r0 w0 H Z ha hs (NL hh hf hv hU hV hc hi ja hw h1 hy ha hs hp)
 | @NI hd β V A as d f xs ay ty mo rt ps ops i sl ms fr Γ g hf hV hv hc hi ja _ ih=>
  intro hU h1 B o ho r0 w0 H Z ha hs hp
  obtain ⟨y,hy,ho⟩:=bind_some ho
  obtain ⟨pos,af,h2⟩:=h1.o
  exact ih y h1.n (by unfold b9; rw [h2]; rfl) B o ho r0 w0 H Z ha hs (LZ hh hf hv hU hV hc hi ja h1 hy ha hs hp)
 | @ZB hd β V j1 a1 qh A as d f xs ay ty mo rt ps ops i sl ms fr Γ g hf hg SH h4 hv hc hi ja hw _ ih=>
  intro hU h1 B o ho r0 w0 H Z ha hs hp
  obtain ⟨y,hy,ho⟩:=bind_some ho
  obtain ⟨pos,af,h2⟩:=h1.o
  exact ih y h1.n (by unfold b9; rw [h2]; rfl) B o ho r0 w0 H Z ha hs (let ⟨S',e1,e2,e3⟩:=NQ hh hf hv hU hg SH h4 hc hi ja hw h1 hy ha hs hp; ⟨S',e1,e2.re (th (by rw [← h1.A]; exact rj.1 h4)).1,e3⟩)
 | @crb hd u ps d as ops i sl ms Γ m _ ih=>
  intro h1 jd B o ho r0 w0 H Z ha hs ⟨S',hl,hR,hO,hL⟩
  subst hl
  refine ih h1 B o ho r0 w0 H Z ha hs ⟨S'++[⟨true,MV Z ⟨S'.length,d,[],Unit,fun _=>u,fun _=>ps⟩⟩],by simp,(hR.mem (b:=⟨S'.length,d,[],Unit,fun _=>u,fun _=>ps⟩) rfl jd (fun _ h=>nomatch h)).aca (s:=⟨true,MV Z ⟨S'.length,d,[],Unit,fun _=>u,fun _=>ps⟩⟩) jd (by simp) rfl (fun f w r x ⟨v,h,_⟩=>h),fun j hj=>?_⟩
  by_cases h2:j < S'.length
  ·exact lr.more (hO j h2) h2
  ·obtain rfl:j=S'.length:=by omega
   exact hL _ fun f w r x h=>⟨f,fun _ h=>h,h⟩
 | @crv hd u d as ops i sl ms Γ m _ ih=>
  intro h1 jd B o ho r0 w0 H Z ha hs ⟨S',hl,hR,hO,hL⟩
  subst hl
  refine ih h1 B o ho r0 w0 H Z ha hs ⟨_,by simp,hR.val jd,fun j hj=>?_⟩
  by_cases h2:j < S'.length
  ·exact lr.more (hO j h2) h2
  ·obtain rfl:j=S'.length:=by omega
   exact hL (pl fun _ _ x=>x=_) fun f w r x ⟨v,h,_⟩=>⟨[],fun _ h=>absurd h List.not_mem_nil,h⟩
 | @crm hd V u ps d as ops i sl ms Γ m _ ih=>
  intro h1 jd B o ho r0 w0 H Z ha hs ⟨S',hl,hR,hO,hL⟩
  subst hl
  refine ih h1 B o ho r0 w0 H Z ha hs ⟨_,by simp,hR.mem rfl jd (fun _ h=>nomatch h),fun j hj=>?_⟩
  by_cases h2:j < S'.length
  ·exact lr.more (hO j h2) h2
  ·obtain rfl:j=S'.length:=by omega
   exact hL _ fun f w r x h=>⟨f,fun _ h=>h,h⟩
 | Vx hU _ ih=>exact fun h1=>ih hU h1
 | apH Ik hv e7 h2 h5 hl hz h1 hr hy _ ih=>
  rename_i hT _
  intro hU h B o ho r0 w0 H Z ha hs hp
  obtain ⟨u,hu,ho⟩:=bind_some ho
  obtain ⟨p1,p2⟩:=T6 hh ha hT hU Ik hv e7 h2 h5 hl hz h1 hr hy hu h hs hp
  exact ih h.n B o ho r0 w0 H Z ha p2 p1
 | ap1 h1 h2 h3 hw h4 h5 _ ih=>
  rename_i hz _
  intro h6 h B o ho r0 w0 H Z ha hs hp
  obtain ⟨u,hu,ho⟩:=bind_some ho
  exact ih h.n B o ho r0 w0 H Z ha hs (TY hz h1 h2 h3 h4 h5 (h6.trans hw) hu h hp)
 | sw1 _ _ ih=>exact fun h1=>ih h1
 | sw4 _ _ ih=>exact fun h1=>ih h1
 | VR _ ih=>
  rename_i hz _
  intro h1 B o ho r0 w0 H Z ha hs hp
  exact ih h1.n B o ho r0 w0 H Z ha hs (T0 hz h1 hp)
 | sw5 _ _ ih=>exact fun h1=>ih h1
 | mln hi ja hx _ ih=>
  rename_i ht _
  intro h1 B o ho r0 w0 H Z ha hs hp
  exact ih h1.n B o ho r0 w0 H Z ha hs (VY hp h1 ht hi ja hx)
 | wv hv hq _ ih=>
  intro h1 B o ho r0 w0 H Z ha hs hp
  obtain ⟨F,_,_,_,_,hK⟩:=stay hs
  exact ih h1.n B o ho r0 w0 H Z ha hs (hp.val hh ha h1 hv fun r hr _ _ _ w hC=>hq.sound (hK w hC) hr _ _ _ _ _ w (aq.refl _ _))
 | wlt hv hx ho _ ih=>
  rename_i hz _
  intro h1 B o cq r0 w0 H Z ha hs hp
  obtain ⟨F,_,_,_,_,hK⟩:=stay hs
  exact ih h1.n B o cq r0 w0 H Z ha hs (V0 hh ha hz hv hx ho hK h1 hp)
 | ltn hv jd hn hb _ ih=>
  rename_i hz _
  intro h1 B o cq r0 w0 H Z ha hs hp
  obtain ⟨F,_,_,_,_,hK⟩:=stay hs
  exact ih h1.n B o cq r0 w0 H Z ha hs (KR hh ha hz hv jd hn hb hK h1 hp)
 | ltu hv jd hn hb _ ih=>
  rename_i hz _
  intro h1 B o cq r0 w0 H Z ha hs hp
  obtain ⟨F,_,_,_,_,hK⟩:=stay hs
  exact ih h1.n B o cq r0 w0 H Z ha hs (KR hh ha ⟨hz.h⟩ hv jd hn hb hK h1 hp)
 | @uG hd A as op x y k k' a b t t' d ty ops i sl ms fr Γ f hv hx hy hk _ ih=>
  intro h1 B o ho r0 w0 H Z ha hs hp
  obtain ⟨z,hz,ho⟩:=bind_some ho
  have w7:Np op=true∨k=k':=by
   cases hk with
   | same=>exact .inr rfl
   | sh h=>exact .inl h
  exact ih z h1.n B o ho r0 w0 H Z ha hs (hp.val hh ha h1 hv fun r hr _ _ _ w hC=>Ny (aY hr hx) (aY hr hy) w7 hz)
 | mk hv hx _ ih=>
  rename_i hz _
  intro h1 B o ho r0 w0 H Z ha hs hp
  obtain ⟨n,hn,ho⟩:=bind_some ho
  exact ih n h1.n B o ho r0 w0 H Z ha hs (VZ hh ha hz hv hx hn h1 hp)
 | mbl hi ja _ hj hv DB _ ih=>
  rename_i hb _ _
  intro h1 B o ho r0 w0 H Z ha hs hp
  exact ih h1.n B o ho r0 w0 H Z ha hs (T1 hh hb hi ja hj hv DB h1 ha hs hp)
 | mlt hi ja hj DB _ ih=>
  rename_i hz _
  intro h1 B o ho r0 w0 H Z ha hs hp
  exact ih h1.n B o ho r0 w0 H Z ha hs (T3 hz hi ja hj DB h1 hp)
 | mls hb hi ja hj DB _ ih=>
  rename_i hz _
  intro h1 B o ho r0 w0 H Z ha hs hp
  exact ih h1.n B o ho r0 w0 H Z ha hs (T5 hz hb hi ja hj DB h1 hp)
 | val hv hq _ ih=>
  intro h1 B o ho r0 w0 H Z ha hs hp
  obtain ⟨F,_,_,_,_,hK⟩:=stay hs
  exact ih h1.n B o ho r0 w0 H Z ha hs (hp.val hh ha h1 hv fun r hr _ _ _ w hC=>hq.sound (hK w hC) hr _ _ _ _ _ w (aq.refl _ _))
end
end Go.Dk
namespace Go.Dk
open Go Go.Li
section
variable {R S:Type} {P:Program} {cx:Cx R} {K:dq R S} {l tail:LO} {base fr:Fr} {w:World} {Z:Nat→Prop}
theorem J7 {n:Nat} {Q:Exit→(Nat→Value)→World→Prop} {r:NV} (hQ:∀ c,¬ Q (.panic c) r w):∀ gh,∀ c,¬ AU P n Q gh (.panic c) r w:=by
 intro gh
 induction gh with
 | nil=>exact hQ
 | cons a gh ih=>cases a <;> exact ih
theorem J8 {B:Bs} {b:Kb R S} {o:Out S R} {r:NV}:∀ c,¬ Hl P cx B b o (.panic c) r w:=by
 intro c
 cases b <;> cases o <;> exact fun h=>h
theorem tk {B:Bs} {K:dq R S} {o:Out S R} {r:NV}:∀ c,¬ mr P cx B K o (.panic c) r w:=J7 J8 _
def A7 (g:Nat→List Nat):List ie→List Nat
 | []=>[]
 | a :: l=>g a.j++A7 g l
theorem DU {g:Nat→List Nat}:∀ {ms:MM} {b:Nat},b∈A7 g ms→∃ a∈ms,b∈g a.j:=by
 intro ms
 induction ms with
 | nil=>intro b h; exact absurd h List.not_mem_nil
 | cons a ms ih=>
  intro b h
  rcases List.mem_append.1 h with h | h
  ·exact ⟨a,by simp,h⟩
  ·obtain ⟨c,h1,h2⟩:=ih h
   exact ⟨c,List.mem_cons_of_mem _ h1,h2⟩
theorem KT {Vo Vr A F:LN} (h:(Vo++Vr).Perm A):((Vo++F)++Vr).Perm (A++F):=by
 refine List.Perm.trans ?_ (h.append_right F)
 rw [List.append_assoc,List.append_assoc]
 exact List.Perm.append_left Vo List.perm_append_comm
theorem SK {g:Nat→List Nat} {r:NV}:∀ {ms:MM},DQ ms=true→(ms.map (·.j)).Nodup→(∀ a∈ms,∀ b∈ms,a.j≠b.j→s8 (g a.j) (g b.j))→(∀ a∈ms,MV Z a (g a.j) w r (r a.d))→
  ∃ x:ou ms,(∀ p∈mF ms x,r p.1=p.2)∧(∃ Vo Vr,(Vo++Vr).Perm (A7 g ms)∧(∀ b∈Vr,b < w.heap.size)∧HL (qv Z Vr) w (FH ms x) Vo)∧(A7 g ms).Nodup:=by
 intro ms
 induction ms with
 | nil=>intro _ _ _ _; exact ⟨(),fun p hp=>absurd hp List.not_mem_nil,⟨[],[],.refl _,fun b (h:b∈[])=>absurd h List.not_mem_nil,.nil⟩,List.nodup_nil⟩
 | cons a ms ih=>
  intro ja hd hi h
  unfold DQ at ja
  rw [Bool.and_eq_true] at ja
  rw [List.map_cons,List.nodup_cons] at hd
  obtain ⟨x,hx,hl,hn⟩:=ih ja.2 hd.2 (fun b hb c hc=>hi b (List.mem_cons_of_mem _ hb) c (List.mem_cons_of_mem _ hc)) fun b hb=>h b (List.mem_cons_of_mem _ hb)
  obtain ⟨v,e1,e2,e3⟩:=h a (by simp)
  have es:xB a r=Ca a (mF ms x):=by
   have h3:=ja.1
   rw [List.all_eq_true] at h3
   refine C3 fun t ht=>?_
   unfold zp
   rw [P4 (h3 t ht) hx]
  rw [es] at e1 e2
  refine ⟨(v,x),?_,?_,w9 e3 hn ?_⟩
  rotate_left
  ·obtain ⟨Fo,Fr,hf,h1,h2⟩:=e2.all
   obtain ⟨Vo,Vr,k1,k2,k3⟩:=hl
   refine ⟨Fo++Vo,Fr++Vr,?_,fun b hb=>(List.mem_append.1 hb).elim (h1 b) (k2 b),(h2.mono fun b h=>h.imp id fun h=>List.mem_append_left _ h).app (k3.mono fun b h=>h.imp id fun h=>List.mem_append_right _ h)⟩
   show List.Perm _ (g a.j++A7 g ms)
   rw [hf]
   refine List.Perm.trans ?_ (k1.append_left (Fo++Fr))
   rw [List.append_assoc,List.append_assoc]
   refine List.Perm.append_left Fo ?_
   rw [← List.append_assoc,← List.append_assoc]
   exact List.Perm.append_right Vr List.perm_append_comm
  rotate_right
  ·intro p hp
   rcases List.mem_cons.1 hp with rfl | hp
   ·exact e1
   ·exact hx p hp
  ·intro b hb hm
   obtain ⟨c,h1,h2⟩:=DU hm
   exact hi a (by simp) c (List.mem_cons_of_mem _ h1) (fun e=>hd.1 (by rw [e]; exact List.mem_map_of_mem h1)) b hb h2
theorem Io {r:NV} {f:Fr}:∀ {sl:LQ},(∀ p∈sl,r p.2.1=p.2.2)→(∀ p∈f,r p.1=p.2)→∀ p∈Cb sl f,r p.1=p.2:=by
 intro sl
 induction sl with
 | nil=>intro _ h; exact h
 | cons a sl ih=>
  intro h1 h2 p hp
  rcases List.mem_cons.1 hp with rfl | hp
  ·exact h1 a (by simp)
  ·exact ih (fun p hp=>h1 p (List.mem_cons_of_mem _ hp)) h2 p hp
theorem T8 {mt id:Nat} {U:LL} {Zl:LN} {V9:QE} (hU:((List.range mt).all fun i=>(U.getD i []).all fun u=>Nat.beq u l.length || ((cj l).getD i []).contains u)=true) (hh:np l mt base=true) (hd:dj cx.n l=true) (hA:A8 l mt Zl=true) (hZ:Ip l mt Zl=true) (Iq:mt≤l.length) (ht:tail=l.drop mt) {i:Nat} {sl:LQ} {ms:MM} {Γ:QE} {m:Option (Out S R)} (Wd:DQ ms=true) (tT:FI U sl ms=true)
  (h:∀ x:ou ms,D P cx (.p (Cb sl (mF ms x)) (FH ms x) base Γ fun fr Γ=>.tg false (DO tail) l tail K Γ fr m)):L6 P cx K l mt U V9 id base (.a [] [] i sl ms Γ m):=by
 rintro ⟨_,h2,h3⟩ B o ho r0 w0 H Z ha hs ⟨S',hl,hR,hO⟩
 have hi:i=mt:=by
  have:=congrArg List.length h2
  simp at this
  omega
 subst hl
 obtain ⟨F,Hd,⟨xK,BT,xC,BU⟩,hS,hG⟩:=hs
 refine We (N:=Z) (S:=S') (U:=U) (H:=H) hd hA hZ (fun c r w h=>tk c h) Iq hi xC hU (fun b hb=>⟨hG.nv b hb,fun h=>hG.apart b (List.mem_append_left _ h) hb⟩) (fun i s hs=>hR.s i s hs) (fun j hj=>hO j (by omega)) ?_
 intro g r w hI
 have L7:∀ k j,j∈U.getD k []→∀ a∈ms,a.j≠j:=by
  intro k j hj
  unfold FI at tT
  rw [List.getD_eq_getElem?_getD] at hj
  cases hk:U[k]? with
  | none=>rw [hk] at hj; exact absurd hj List.not_mem_nil
  | some us=>
   rw [hk] at hj
   have h1:=List.all_eq_true.1 (List.all_eq_true.1 tT us (List.mem_of_getElem? hk)) j hj
   intro a ha he
   have:=List.all_eq_true.1 h1 a ha
   rw [he,Nat.beq_refl] at this
   cases this
 have hD:∀ j,j < mt→(∀ k,j ∉ U.getD k [])→yu l S' j g r w:=fun j hj hn=>hI.done j hj fun k _=>hn k
 have bn:∀ a∈ms,a.j < mt:=fun a ha=>hi ▸ hR.lt ha
 obtain ⟨x,hx,va,Wh⟩:=SK (g:=g) (r:=r) (w:=w) Wd hR.d (fun a ha b hb mw=>hI.xL _ _ (bn a ha) (bn b hb) mw) fun a ha=>by
  have:=hR.Ie (S2:=[]) ha (by rw [List.append_nil]; exact hD a.j (bn a ha) (fun k hk=>L7 k _ hk a ha rfl))
  exact this
 have Ez:=List.nodup_append.1 hG.nd
 have qz:∀ b∈A7 g ms,w0.heap.size≤b∨b∈H:=fun b hb=>by
  obtain ⟨a,h1,h2⟩:=DU hb
  exact (hI.fresh a.j (bn a h1) b h2).1.imp (fun h=>h) (·.1)
 have er:=tx.stay hS hG hI.jh
 obtain ⟨Vo,Vr,Wi,Wj,va⟩:=va
 obtain ⟨F',hp,fj⟩:=va.build (er.mono (fun _ h=>.inl h) fun _ h=>h)
 have xc:Gd B Z (A7 g ms++F) w:=by
  refine ⟨w9 Wh Ez.2.1 fun b hb hF=>(qz b hb).elim (fun h=>Nat.lt_irrefl _ (Nat.lt_of_lt_of_le (hS.lt b hF) h)) (fun h=>Ez.2.2 b h b hF rfl),?_,fun b hb=>Nat.lt_of_lt_of_le (hG.nv b hb) hI.jh.size,?_,hG.uY,hG.uA,hG.jh.then hI.jh fun b hb=>hG.low b (List.mem_append_left _ hb)⟩
  ·intro b hb hz
   rcases List.mem_append.1 hb with hb | hb
   ·exact (qz b hb).elim (fun h=>Nat.lt_irrefl _ (Nat.lt_of_lt_of_le (hG.nv b hz) h)) (fun h=>hG.apart b (List.mem_append_left _ h) hz)
   ·exact hG.apart b (List.mem_append_right _ hb) hz
  ·intro b hb
   rcases List.mem_append.1 hb with hb | hb
   ·exact (qz b hb).elim (fun h=>.inr (Nat.le_trans hG.jh.size h)) (fun h=>hG.low b (List.mem_append_left _ h))
   ·exact hG.low b (List.mem_append_right _ hb)
 have Qh:db r ((Cb sl (mF ms x)).reverse++base):=by
  refine qp (Io (fun p hp=>?_) hx) (lz hh ha hI.other)
  exact hR.Ae (S2:=[]) hp fun j _ hj=>(by rw [List.append_nil]; exact hI.uI j (hi ▸ hj))
 have:=(h x).sound B o ho r w Qh ⟨_,F',fj,((xc.perm (KT Wi)).freeze Wj).perm hp⟩
 rw [ht] at this
 exact this
def Kq (q:Option (Bool×Nat×Value)) (f:Fr):Fr:=
 match q with
 | none=>f
 | some (_,d,u)=>(d,u) :: f
theorem Kp.lk {ws:LN} {q:Option (Bool×Nat×Value)} {f g:Fr} (h:Kp ws q f g):(∀ b d u,q=some (b,d,u)→b=iH d ws)→∀ t v,look g t=some v→iH t ws=false∧look (Kq q f) t=some v:=by
 induction h with
 | nil=>intro _ t v h; cases h
 | cons _ ih=>intro _ t v h; exact ih (by rintro b d u h; cases h; rfl) t v h
 | @drop ws d u f g _ ih=>
  intro hq t v h
  obtain ⟨h1,h2⟩:=ih (by rintro b d u h; cases h) t v h
  refine ⟨h1,?_⟩
  show look ((d,u) :: f) t=some v
  unfold look
  cases hb:Nat.beq t d with
  | true=>have:=hq true d u rfl; rw [Nat.eq_of_beq_eq_true hb,← this] at h1; cases h1
  | false=>exact h2
 | @ep ws d u f g _ ih=>
  intro hq t v h
  unfold look at h
  show iH t ws=false∧look ((d,u) :: f) t=some v
  unfold look
  cases hb:Nat.beq t d with
  | true=>rw [hb] at h; exact ⟨by rw [Nat.eq_of_beq_eq_true hb]; exact (hq false d u rfl).symm,h⟩
  | false=>
   rw [hb] at h
   obtain ⟨h1,h2⟩:=ih (by rintro b d u h; cases h) t v h
   unfold iH at h1
   rw [hb] at h1
   exact ⟨h1,h2⟩
theorem Kp.sound {ws:LN} {f g:Fr} {r:NV} (h:Kp ws none f g) (ha:db r f):db r g:=
 fun t v hl=>ha t v (h.lk (by rintro b d u h; cases h) t v hl).2
theorem Wl {id:Nat} (hd:QE) (mt:Nat) (Zl:LN) (U as:LL) {ops:LO} {Γ Γ1:QE} {fr:Fr} {m:Option (Out S R)}
  (hB:(P.follows .mixedOrders && dj cx.n l && A8 l mt Zl && Ip l mt Zl && Nat.ble mt l.length && (rm l U mt == as) && ((List.range mt).all fun i=>(U.getD i []).all fun u=>Nat.beq u l.length || ((cj l).getD i []).contains u))=true)
  (ho:ops=l.take mt) (ht:tail=l.drop mt) (hf:Kp (AV ops) none fr base) (hh:np l mt base=true) (he:EO Γ hd Γ1) (Ir:OW Γ hd)
  (h:AD false P cx K l tail base U hd (.a as ops 0 [] [] Γ1 m)):∀ B o,m=some o→∀ r w,db r fr→St B Γ w→na P cx.n l (mr P cx B K o) r w:=by
 simp only [Bool.and_eq_true] at hB
 obtain ⟨⟨⟨⟨⟨⟨_,b2⟩,b3⟩,b4⟩,b5⟩,b6⟩,b7⟩:=hB
 intro B o hm r w ha hs
 obtain ⟨Z,F,hS,hG⟩:=hs
 obtain ⟨Fd,F',h1,h2,h3⟩:=he.sound hS
 have Is:SA Z w hd [] Fd:=by
  have:=(HO.hl Ir hS h1).front (Γ:=[]) (F:=[]) rfl
  simpa using this
 have hX:tx B Z hd Γ1 Fd w:=⟨F',Fd,⟨Is,fun b hb=>⟨hb,Is.lt b hb⟩,Is.lt,(List.nodup_append.1 (hG.perm h3).nd).1⟩,h2,hG.perm h3⟩
 refine AD.sound (id:=id) hh (fun _ _ _ _ _ _ hs he h=>T8 b7 hh b2 b3 b4 (Nat.le_of_ble_eq_true b5) ht hs he h) h
  ⟨by rw [List.drop_zero]; exact (eq_of_beq b6).symm,by rw [List.drop_zero]; exact ho,Nat.zero_le _⟩ B o hm r w Fd Z (hf.sound ha) hX ⟨[],rfl,⟨fun _ h=>absurd h List.not_mem_nil,fun _ h=>absurd h List.not_mem_nil,fun i s h=>by simp at h,List.nodup_nil,fun _ _ _ h1 h2=>EA l (NS b3) h1 h2⟩,fun j hj=>absurd hj (Nat.not_lt_zero j)⟩
theorem xD {id:Nat} (hd:QE) (mt:Nat) (Zl:LN) (U as:LL) {ops:LO} {Γ Γ1:QE} {fr:Fr} {m:Option (Out S R)}
  (hB:(P.follows .mixedOrders && dj cx.n l && A8 l mt Zl && Ip l mt Zl && Nat.ble mt l.length && (rm l U mt == as) && ((List.range mt).all fun i=>(U.getD i []).all fun u=>Nat.beq u l.length || ((cj l).getD i []).contains u))=true)
  (ho:ops=l.take mt) (ht:tail=l.drop mt) (hf:Kp (AV ops) none fr base) (hh:np l mt base=true) (he:EO Γ hd Γ1) (Ir:OW Γ hd)
  (h:AD false P cx K l tail base U hd (.a as ops 0 [] [] Γ1 m)):Bx (mb P cx (.dr id l K Γ fr m)):=by
 have hm:P.follows .mixedOrders=true:=by
  simp only [Bool.and_eq_true] at hB
  exact hB.1.1.1.1.1.1
 rw [ma]
 intro B o wg r w ha hs
 exact (Wl (id:=id) hd mt Zl U as hB ho ht hf hh he Ir h B o wg r w ha hs).W hm
theorem Wm {id:Nat} {l0:LO} (σ π:LN) (hd:QE) (mt:Nat) (Zl:LN) (U as:LL) {ops:LO} {Γ Γ1:QE} {fr:Fr} {m:Option (Out S R)}
  (hB:(P.follows .mixedOrders && Qi l0 σ π && dj cx.n (qm l0 σ π) && A8 (qm l0 σ π) mt Zl && Ip (qm l0 σ π) mt Zl && Nat.ble mt (qm l0 σ π).length && (rm (qm l0 σ π) U mt == as) && ((List.range mt).all fun i=>(U.getD i []).all fun u=>Nat.beq u (qm l0 σ π).length || ((cj (qm l0 σ π)).getD i []).contains u))=true)
  (hl:l=qm l0 σ π) (ho:ops=l.take mt) (ht:tail=l.drop mt) (hf:Kp (AV ops) none fr base) (hh:np l mt base=true) (he:EO Γ hd Γ1) (Ir:OW Γ hd)
  (h:AD false P cx K l tail base U hd (.a as ops 0 [] [] Γ1 m)):Bx (mb P cx (.dr id l0 K Γ fr m)):=by
 subst hl
 simp only [Bool.and_eq_true] at hB
 obtain ⟨⟨⟨⟨⟨⟨⟨b0,b1⟩,b2⟩,b3⟩,b4⟩,b5⟩,b6⟩,b7⟩:=hB
 rw [ma]
 intro B o wg r w ha hs
 refine ((Wl (id:=id) hd mt Zl U as ?_ ho ht hf hh he Ir h B o wg r w ha hs).prm b1).W b0
 simp only [Bool.and_eq_true]
 exact ⟨⟨⟨⟨⟨⟨b0,b2⟩,b3⟩,b4⟩,b5⟩,b6⟩,b7⟩
theorem any {id:Nat} (mt:Nat) (Zl:LN) (U as:LL) {ops:LO} {Γ:QE} {fr:Fr} {m:Option (Out S R)}
  (hB:(P.follows .mixedOrders && dj cx.n l && A8 l mt Zl && Ip l mt Zl && Nat.ble mt l.length && (rm l U mt == as) && ((List.range mt).all fun i=>(U.getD i []).all fun u=>Nat.beq u l.length || ((cj l).getD i []).contains u))=true)
  (ho:ops=l.take mt) (ht:tail=l.drop mt) (hf:Kp (AV ops) none fr base) (hh:np l mt base=true)
  (h:AD false P cx K l tail base U [] (.a as ops 0 [] [] Γ m)):Bx (mb P cx (.dr id l K Γ fr m)):=xD [] mt Zl U as hB ho ht hf hh .nil .nil h
end
end Go.Dk
