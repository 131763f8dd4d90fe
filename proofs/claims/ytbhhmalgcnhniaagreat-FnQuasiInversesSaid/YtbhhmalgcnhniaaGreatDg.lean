/- A calculus of walks: regions that draw their order and make memory. No condition. -/
import Derived.Test.YtbhhmalgcnhniaaGreatDe
import Derived.Laws.Slices
namespace Go.Dk
open Go Go.Li
section
variable {w:World}
def uB {α:Type} (e:TI) (E:ai α) (j:Nat):ai (List α) where
 size:=1
 rep h cs xs f:=∃ b cap cur f1 f2 p c0 q,cs=[.slice (some ⟨b,0,none⟩) xs.length cap]∧h[b]? = some (.cells cur e (0,0))∧f=b :: (f1++f2)∧(xs.length≤cap∧cap≤maxLen∧cur.size=cap∧E.size=1)∧cur.toList.take xs.length=p++[c0]++q∧(p.length=j∧j < xs.length)∧
  (∀ i∈f1++f2,i < h.size)∧∀ h':Array Obj,(∀ i∈f1++f2,h'[i]? = h[i]?)→∀ u z k,E.rep h' [u] z k→df E h' (p++[u]++q) (xs.set j z) (f1++k++f2)
 len:=by rintro h cs x f ⟨b,cap,cur,f1,f2,p,c0,q,rfl,_⟩; rfl
 one:=by rintro h cs x f ⟨b,cap,cur,f1,f2,p,c0,q,rfl,_⟩ v hv; simp at hv; subst hv; rfl
 congr:=by
  rintro h h' cs x f ⟨b,cap,cur,f1,f2,p,c0,q,rfl,h1,rfl,h2,h3,h4,h5,h6⟩ hb
  refine ⟨b,cap,cur,f1,f2,p,c0,q,rfl,(hb b (by simp)).trans h1,rfl,h2,h3,h4,fun i hi=>?_,fun h'' cg=>h6 h'' fun i hi=>(cg i hi).trans (hb i (List.mem_cons_of_mem _ hi))⟩
  have:=hb i (List.mem_cons_of_mem _ hi)
  rw [Array.getElem?_eq_getElem (h5 i hi)] at this
  exact (Array.getElem?_eq_some_iff.1 this).1
 lt:=by
  rintro h cs x f ⟨b,cap,cur,f1,f2,p,c0,q,rfl,h1,rfl,h2,h3,h4,h5,h6⟩ i hi
  rcases List.mem_cons.1 hi with rfl | hi
  ·exact (Array.getElem?_eq_some_iff.1 h1).1
  ·exact h5 i hi
theorem Gj {α:Type} {e:TI} {E:ai α} {v u:Value} {xs:List α} {f:LN} {j:Int} {z:α} (h1:E.size=1) (hO:(aI e E).rep w.heap [v] xs f) (hz:xs[j.toNat]? = some z) (hu:w.cell? (cw v 1 j)=some u) :
  ∃ k g,E.rep w.heap [u] z k∧(k++g).Perm f∧(uB e E j.toNat).rep w.heap [v] xs g:=by
 obtain ⟨base,cap,hv,hr⟩:=hO
 obtain rfl:v = .slice base xs.length cap:=by simpa using hv
 have bh:j.toNat < xs.length:=(List.getElem?_eq_some_iff.1 hz).1
 rcases hr with ⟨_,_,rfl,_⟩ | ⟨b,cur,f0,rfl,hg,rfl,BZ,CO,As,dp⟩
 ·simp at bh
 ·rw [h1,Nat.mul_one] at As dp
  have zf:cw (.slice (some ⟨b,0,none⟩) xs.length cap) 1 j = ⟨b,j.toNat,none⟩:=by
   simp only [cw,ir,Nat.zero_add,Nat.mul_one]
  rw [zf,cell_of_row w b _ cur e _ hg] at hu
  have Nv:∀ i∈f0,i < w.heap.size:=l3 dp
  obtain ⟨c,g0,g1,g2,p,q,FL,hc,hp,B0,zg⟩:=zh j.toNat z dp hz
  subst FL
  rw [h1,Nat.mul_one] at hp
  have FM:c.length=1:=by rw [E.len B0,h1]
  obtain ⟨c0,rfl⟩ : ∃ c0,c=[c0]:=by match c,FM with | [c0],_=>exact ⟨c0,rfl⟩
  have SC:c0=u:=by
   have h2:(cur.toList.take xs.length)[j.toNat]? = some c0:=by
    rw [hc,List.append_assoc,List.getElem?_append_right (by omega),hp,Nat.sub_self]; rfl
   rw [List.getElem?_take,if_pos bh,Array.getElem?_toList,hu] at h2
   exact (Option.some.inj h2).symm
  subst SC
  refine ⟨g1,b :: (g0++g2),B0,?_,b,cap,cur,g0,g2,p,c0,q,rfl,hg,rfl,⟨BZ,CO,As,h1⟩,hc,⟨hp,bh⟩,fun i hi=>Nv i (by rcases List.mem_append.1 hi with hi | hi <;> simp [hi]),fun h' cg u z' k' hr=>zg h' [u] z' k' (fun i hi=>cg i (by simp [hi])) (fun i hi=>cg i (by simp [hi])) hr⟩
  refine (List.perm_append_comm (l₁:=g1) (l₂:=b :: (g0++g2))).trans ?_
  rw [List.cons_append]
  refine List.Perm.cons b ?_
  rw [List.append_assoc,List.append_assoc]
  exact List.Perm.append_left g0 List.perm_append_comm
end
structure gj where
 j:Nat
 d:Nat
 src:List Nat
 V:Type
 rt:Value→V→Value
 ps:Value→V→List aq
abbrev MM:=List gj
def qy:List gj→Type
 | []=>Unit
 | a :: l=>a.V×qy l
def AB (f:NV):List Nat→Value
 | []=>undef
 | [t]=>f t
 | ts=>.tuple (ts.map f).toArray
def xR (f:Fr) (t:Nat):Value:=match look f t with
 | some v=>v
 | none=>undef
def yj (a:gj) (r:NV):Value:=AB r a.src
def AE (a:gj) (f:Fr):Value:=AB (xR f) a.src
theorem BB {f g:NV}:∀ {ts:LN},(∀ t∈ts,f t=g t)→AB f ts=AB g ts:=by
 intro ts h
 match ts,h with
 | [],_=>rfl
 | [t],h=>exact h t (by simp)
 | t :: s :: ts,h=>
  show Value.tuple (List.map f (t :: s :: ts)).toArray=Value.tuple (List.map g (t :: s :: ts)).toArray
  rw [List.map_congr_left h]
def mF:(ms:MM)→qy ms→Fr
 | [],_=>[]
 | a :: l,x=>(a.d,a.rt (AE a (mF l x.2)) x.1) :: mF l x.2
def Cq:(ms:MM)→qy ms→List aq
 | [],_=>[]
 | a :: l,x=>a.ps (AE a (mF l x.2)) x.1++Cq l x.2
def ri (A:LN):(ms:MM)→qy ms→Fr
 | [],_=>[]
 | a :: l,x=>bif iu a.j A then (a.d,a.rt (AE a (mF l x.2)) x.1) :: ri A l x.2 else ri A l x.2
def th (A:LN):(ms:MM)→qy ms→List aq
 | [],_=>[]
 | a :: l,x=>bif iu a.j A then a.ps (AE a (mF l x.2)) x.1++th A l x.2 else th A l x.2
def tK (t:Nat):List gj→Option Nat
 | []=>none
 | a :: l=>bif Nat.beq t a.d then some a.j else tK t l
def zo (ms:MM):List (Nat×Operand)→List Nat
 | []=>[]
 | (_,.tmp s) :: l=>match tK s ms with
  | some _=>s :: zo ms l
  | none=>zo ms l
 | _ :: l=>zo ms l
def X2 (s:Nat):List Nat→Option Nat
 | []=>none
 | t :: l=>bif Nat.beq s t then some 0 else (X2 s l).map (·+1)
def Zg (v:Value) (k:Nat):Value:=match v with
 | .tuple vs=>vs.toList.getD k undef
 | _=>undef
def Zh (f:Fr) (ts:LN) (u:Value):Operand→Value
 | .tmp s=>match X2 s ts with
  | some k=>(match ts with
   | [_]=>u
   | _=>Zg u k)
  | none=>xR f s
 | x=>match bn f x with
  | some v=>v
  | none=>undef
def WS (k:Nat) (v:Value):List Value:=bif Nat.beq k 1 then [v] else match v with
 | .agg cs=>cs.toList
 | _=>[]
def Ql (pl:List (Nat×Nat)):List (Nat×Value)→List Value→List Value
 | [],cs=>cs
 | (i,v) :: l,cs=>match FW pl i with
  | some (off,k)=>Ql pl l (cs.take off++WS k v++cs.drop (off+k))
  | none=>cs
def S9 (pl:List (Nat×Nat)) (f:Fr) (ts:LN) (ps:List (Nat×Operand)) (zc:LV) (u:Value):List Value:=Ql pl (ps.map fun p=>(p.1,Zh f ts u p.2)) zc
def X3 (A:LN) (ms:MM) (ts:LN):Bool:=ts.all fun t=>match tK t ms with
 | some j=>iu j A
 | none=>false
def uC (A:LN):List gj→Bool
 | []=>true
 | a :: l=>(bif iu a.j A then a.src.all (fun t=>match tK t l with
   | some j=>iu j A
   | none=>false) else true) && uC A l
def AF:List gj→Bool
 | []=>true
 | a :: l=>a.src.all (fun t=>(tK t l).isSome) && AF l
theorem Gk {A:LN} {r:NV} {t:Nat}:∀ {ms:MM} {x:qy ms} {j:Nat},tK t ms=some j→iu j A=true→(∀ p∈ri A ms x,r p.1=p.2)→look (mF ms x) t=some (r t):=by
 intro ms
 induction ms with
 | nil=>intro x j h; cases h
 | cons a l ih=>
  intro x j h hj hp
  unfold tK at h
  unfold mF look
  cases hb:Nat.beq t a.d with
  | true=>
   rw [hb] at h
   cases h
   have:=hp (a.d,a.rt (AE a (mF l x.2)) x.1) (by unfold ri; rw [hj]; simp)
   simp only [cond_true]
   rw [Nat.eq_of_beq_eq_true hb,this]
  | false=>
   rw [hb] at h
   refine ih h hj fun p hm=>hp p ?_
   unfold ri
   cases iu a.j A with
   | true=>exact List.mem_cons_of_mem _ hm
   | false=>exact hm
theorem NO {r:NV} {t:Nat}:∀ {ms:MM} {x:qy ms},(tK t ms).isSome=true→(∀ p∈mF ms x,r p.1=p.2)→look (mF ms x) t=some (r t):=by
 intro ms
 induction ms with
 | nil=>intro x h; cases h
 | cons a l ih=>
  intro x h hp
  unfold tK at h
  unfold mF at hp ⊢
  unfold look
  cases hb:Nat.beq t a.d with
  | true=>
   simp only [cond_true]
   rw [Nat.eq_of_beq_eq_true hb,hp (a.d,a.rt (AE a (mF l x.2)) x.1) (by simp)]
  | false=>
   rw [hb] at h
   exact ih h fun p hm=>hp p (List.mem_cons_of_mem _ hm)
def HN (N:Nat→Prop) (w:World) (Δ:QE) (f:LN):Prop:=HL (fun _=>False) w Δ f∨∃ Fo Fr,f=Fo++Fr∧(tS Δ=false∧∀ b∈Fr,b < w.heap.size)∧HL (fun b=>N b∨b∈Fr) w Δ Fo
def Lo (N:Nat→Prop) (a:gj):List Nat→World→(Nat→Value)→Value→Prop:=fun f w r _=>∃ v:a.V,r a.d=a.rt (yj a r) v∧HN N w (a.ps (yj a r) v) f∧f.Nodup
def MV (N:Nat→Prop) (a:gj):List Nat→World→(Nat→Value)→Value→Prop:=fun f w r x=>∃ v:a.V,x=a.rt (yj a r) v∧HN N w (a.ps (yj a r) v) f∧f.Nodup
def Qm (N:Nat→Prop) (a:LN) (l:LO) (s:fv):Prop:=∀ f F (w w':World) (r r':NV) v,an F w w'→(∀ b∈f,b ∉ F)→(∀ b∈F,¬ N b)→(∀ j∈a,∀ t,bw l j=some t→r' t=r t)→s.V f w r v→s.V f w' r' v
theorem Gl.n {N:Nat→Prop} {a:LN} {l:LO} {s:fv} (h:Gl a l s):Qm N a l s:=fun f F w w' r r' v hC hn _=>h f F w w' r r' v hC hn
section
variable {P:Program} {w w':World} {Z:Nat→Prop}
theorem HL.WT {F H:LN} {Δ:QE} (h:HL (fun _=>False) w Δ F) (hC:an H w w') (hd:∀ b∈F,b ∉ H):HL (fun _=>False) w' Δ F:=by
 induction h with
 | nil=>exact .nil
 | @own e f F Δ h _ ih=>exact .own (h.ec hC (fun _ _ h=>h) fun b hb hm=>hd b (List.mem_append_left _ hm) hb) (ih fun b hb=>hd b (List.mem_append_right _ hb))
 | @fact e F Δ h _ ih=>
  refine .fact ?_ (ih hd)
  cases e with
  | rd o T v x=>
   obtain ⟨g,h1,h2⟩:=h
   have hg:g=[]:=by
    cases g with
    | nil=>rfl
    | cons b g=>exact absurd (h2 b (by simp)) (by cases o <;> simp [ui])
   subst hg
   exact ⟨[],T.ec h1 hC (fun _ h=>absurd h List.not_mem_nil),fun _ h=>absurd h List.not_mem_nil⟩
  | ad o1 o2 v j T x=>obtain ⟨_,_,u,g,_,_,h3,_⟩:=h; exact absurd h3 (by cases o1 <;> simp [ui])
  | bg p cs=>
   have hc:cs=[]:=by
    cases cs with
    | nil=>rfl
    | cons c cs=>exact (h.2 (by simp)).elim
   subst hc
   exact ⟨fun j u hj=>by simp at hj,fun hn=>absurd rfl hn⟩
  | hd v j u=>exact absurd h.2.2.2 List.not_mem_nil
  | _=>exact h.elim
theorem HL.WU {F H:LN} {Δ:QE} (h:HL Z w Δ F) (hC:an H w w') (hz:∀ b∈H,¬ Z b) (hd:∀ b∈F,b ∉ H):HL Z w' Δ F:=by
 induction h with
 | nil=>exact .nil
 | @own e f F Δ h _ ih=>exact .own (h.ec hC hz fun b hb hm=>hd b (List.mem_append_left _ hm) hb) (ih fun b hb=>hd b (List.mem_append_right _ hb))
 | @fact e F Δ h _ ih=>exact .fact (h.ec hC hz fun _ _ h=>nomatch h) (ih hd)
theorem HN.ec {N:Nat→Prop} {f H:LN} {Δ:QE} (h:HN N w Δ f) (hC:an H w w') (hd:∀ b∈f,b ∉ H) (hz:∀ b∈H,¬ N b):HN N w' Δ f:=by
 rcases h with h | ⟨Fo,Fr,rfl,h1,h2⟩
 ·exact .inl (h.WT hC hd)
 ·exact .inr ⟨Fo,Fr,rfl,⟨h1.1,fun b hb=>Nat.lt_of_lt_of_le (h1.2 b hb) hC.size⟩,h2.WU hC (fun b hb h=>h.elim (hz b hb) fun h=>hd b (List.mem_append_right _ h) hb) fun b hb=>hd b (List.mem_append_left _ hb)⟩
theorem HN.own {N:Nat→Prop} {f:LN} {Δ:QE} (h:HN N w Δ f) (ho:tS Δ=true):HL (fun _=>False) w Δ f:=by
 rcases h with h | ⟨_,_,_,h1,_⟩
 ·exact h
 ·rw [ho] at h1; cases h1.1
theorem HN.all {N:Nat→Prop} {f:LN} {Δ:QE} (h:HN N w Δ f):∃ Fo Fr,f=Fo++Fr∧(∀ b∈Fr,b < w.heap.size)∧HL (fun b=>N b∨b∈Fr) w Δ Fo:=by
 rcases h with h | ⟨Fo,Fr,rfl,h1,h2⟩
 ·exact ⟨f,[],by simp,fun b (h:b∈[])=>absurd h List.not_mem_nil,h.mono fun _ h=>h.elim⟩
 ·exact ⟨Fo,Fr,rfl,h1.2,h2⟩
theorem HL.up {F:LN} {Δ:QE} (h:HL (fun _=>False) w Δ F):HL Z w Δ F:=by
 induction h with
 | nil=>exact .nil
 | own h _ ih=>exact .own (h.mono fun _ h=>h.elim) ih
 | fact h _ ih=>exact .fact (h.mono (fun _ h=>h.elim) fun _ h=>h) ih
theorem HL.app {Δ Δ':QE} {F F':LN} (h:HL Z w Δ F) (k:HL Z w Δ' F'):HL Z w (Δ++Δ') (F++F'):=by
 induction h with
 | nil=>exact k
 | own h _ ih=>rw [List.append_assoc]; exact .own h ih
 | fact h _ ih=>exact .fact h ih
theorem IU {a:gj} {r r':NV} (h:∀ t∈a.src,r' t=r t):yj a r'=yj a r:=BB h
theorem Lp {l:LO} {a:LN} {b:Bool} {m:gj} (hs:∀ t∈m.src,∃ j∈a,bw l j=some t):Qm Z a l ⟨b,MV Z m⟩:=by
 intro f F w w' r r' x hC hn hz hr ⟨v,h1,h2,h3⟩
 have e:=IU (a:=m) (r:=r) (r':=r') fun t ht=>by
  obtain ⟨j,hj,hd⟩:=hs t ht
  exact hr j hj t hd
 refine ⟨v,by rw [e]; exact h1,by rw [e]; exact h2.ec hC hn hz,h3⟩
theorem JC {l:LO} {a:LN} {b:Bool} {m:gj} (hd:∃ j∈a,bw l j=some m.d) (hs:∀ t∈m.src,∃ j∈a,bw l j=some t):Qm Z a l ⟨b,Lo Z m⟩:=by
 intro f F w w' r r' x hC hn hz hr ⟨v,h1,h2,h3⟩
 have e:=IU (a:=m) (r:=r) (r':=r') fun t ht=>by
  obtain ⟨j,hj,hd⟩:=hs t ht
  exact hr j hj t hd
 obtain ⟨j,hj,hjd⟩:=hd
 refine ⟨v,by rw [e,hr j hj _ hjd]; exact h1,by rw [e]; exact h2.ec hC hn hz,h3⟩
theorem jx.more {l:LO} {m i:Nat} {U:LL} {S S':List fv} {r0:NV} {w0:World} {H:LN} (h:jx P l m S U r0 w0 H i) (hi:i < S.length):jx P l m (S++S') U r0 w0 H i:=by
 intro o s ho hs g r w hC hV hO hn ly hd hf
 rw [List.getElem?_append_left hi] at hs
 refine h o s ho hs g r w hC hV (fun j hj d iq s' dy=>hO j hj d iq s' (by rw [List.getElem?_append_left (List.getElem?_eq_some_iff.1 dy).1]; exact dy)) (fun j hj=>?_) ly hd hf
 have:=hn j hj
 refine ⟨fun d iq=>?_,fun iq s' dy cg=>?_⟩
 ·have h2:=this.1 d iq
  by_cases hl:j < S.length
  ·rw [List.getElem?_append_left hl] at h2; exact h2
  ·rw [List.getElem?_eq_none (by omega)]; trivial
 ·exact this.2 iq s' (by rw [List.getElem?_append_left (List.getElem?_eq_some_iff.1 dy).1]; exact dy) cg
end
inductive eS (A:LN):Option (Bool×Nat×Value)→List (Nat×Nat×Value)→Fr→Fr→Prop
 | nil {base:Fr}:eS A none [] base base
 | cons {j d:Nat} {u:Value} {l:LQ} {base fr:Fr} (h:eS A (some (iu j A,d,u)) l base fr):eS A none ((j,d,u) :: l) base fr
 | ec {d:Nat} {u:Value} {l:LQ} {base fr:Fr} (h:eS A none l base fr):eS A (some (true,d,u)) l base ((d,u) :: fr)
 | drop {d:Nat} {u:Value} {l:LQ} {base fr:Fr} (h:eS A none l base fr):eS A (some (false,d,u)) l base fr
theorem uj.Aw {Γ Γ':QE} {v:Addr} {o:Bool} {α:Type} {E:ai α} {x:α} {e:aq} (h:uj Γ v o E x e Γ') {Z:Nat→Prop} {w:World}:∀ {cur F:LN},SA Z w Γ cur F→(v.block∈cur∨v.block∈F)∨Z v.block:=by
 induction h with
 | @ad o1 o2 α E v j x e Γ=>
  intro cur F hS
  obtain ⟨⟨j0,j1,u,g,h1,h2,h3,h4⟩,h5⟩:=hS
  cases o1 with
  | false=>exact .inr h3
  | true=>exact .inl (.inl h3)
 | @there o2 α E v x e a Γ Γ' h ih=>
  intro cur F hS
  cases a with
  | own T v x=>obtain ⟨f,F',rfl,h2,h3⟩:=hS; exact (ih h3).imp (fun h=>.inr (List.mem_append.2 h)) id
  | om e E v xs=>obtain ⟨f,F',rfl,h2,h3⟩:=hS; exact (ih h3).imp (fun h=>.inr (List.mem_append.2 h)) id
  | row b cs e=>obtain ⟨f,F',rfl,h2,h3⟩:=hS; exact (ih h3).imp (fun h=>h.imp id (List.mem_append_right _)) id
  | ew e E v xs j u=>obtain ⟨f,F',rfl,h2,h3⟩:=hS; exact (ih h3).imp (fun h=>.inr (List.mem_append.2 h)) id
  | _=>exact ih hS.2
inductive VQ (P:Program) (Γ:QE) (fr:Fr):Op→Value→Prop
 | mv {x:OO} {v:Value} (hx:bn fr x=some v):VQ P Γ fr (.move x) v
 | add {x y:OO} {t t':TI} {a b:Int} (hx:bn fr x=some (.int .i64 a)) (hy:bn fr y=some (.int .i64 b)):VQ P Γ fr (.binOp .add t x y t') (.int .i64 (aj (a+b)))
 | sub {x y:OO} {t t':TI} {a b:Int} (hx:bn fr x=some (.int .i64 a)) (hy:bn fr y=some (.int .i64 b)):VQ P Γ fr (.binOp .sub t x y t') (.int .i64 (aj (a - b)))
 | ND {x:OO} {a:Addr} (hx:bn fr x=some (.pointer (some a))):VQ P Γ fr (.nilCheck x) (.pointer (some a))
 | SM {s k off:Nat} {x:OO} {a a':Addr} [hf:ry P s k off] (hx:bn fr x=some (.pointer (some a))) (ha:Cp a off a'):VQ P Γ fr (.fieldAddr s x k) (.pointer (some a'))
 | len {x:OO} {v:Value} {t:TI} {n:Nat} [ht:wj P t] (hx:bn fr x=some v) (hr:vb Γ v n):VQ P Γ fr (.call ⟨.builtin .len,#[x],#[t]⟩) (.int .i64 (n:Int))
 | Qj {t:TI} {ps:List (Nat×Operand)} {zc cs:LV} {pl:List (Nat×Nat)} [hb:Af P t zc pl] (hf:wB Γ fr pl ps zc cs):VQ P Γ fr (.build t ps.toArray) (.agg cs.toArray)
 | SX {x:OO} {k k2:IntKind} {n:Int} {s t:TI} [ht:IQ P s t k2] (hx:bn fr x=some (.int k n)):VQ P Γ fr (.convert s t x) (.int k2 (k2.wrap n))
 | mul {x y:OO} {t t':TI} {a b:Int} (hx:bn fr x=some (.int .i64 a)) (hy:bn fr y=some (.int .i64 b)):VQ P Γ fr (.binOp .mul t x y t') (.int .i64 (aj (a * b)))
 | lkp {κ υ:Type} {x y:OO} {v:Value} {t:TI} {bq:BEq κ} {ek:κ→Value} {eu:υ→Value} {xs:List (κ×υ)} {a:κ} {z0:υ} [ht:K6 P t κ υ bq ek eu] [hz:MZc P t υ eu z0] (hx:bn fr x=some v) (hy:bn fr y=some (ek a)) (hr:EJ ek eu Γ v xs):VQ P Γ fr (.lookup t x y false) (eu ((AH xs a).getD z0))
theorem VQ.sound {P:Program} {Γ:QE} {fr:Fr} {op:Op} {u:Value} (h:VQ P Γ fr op u) {Z:Nat→Prop} {w:World} {cur F:LN} (hS:SA Z w Γ cur F) {r:NV} (ha:dc r fr) (d:Option Nat) (ty:TI) (pos:String) (ah:Array Edge) (g:Option (Nat×Bool)) :
  Rd P w r ⟨d,op,ty,pos,ah,g⟩ u:=by
 cases h with
 | mv hx=>exact Mv _ (bC ha hx)
 | add hx hy=>exact Ba (bC ha hx) (bC ha hy)
 | sub hx hy=>exact Go.Li.Bs (bC ha hx) (bC ha hy)
 | ND hx=>exact Nk (bC ha hx)
 | @SM s k off x a a' hf hx hq=>rw [hq.eq]; exact Fp hf.h (bC ha hx)
 | @SX x k k2 n s t ht hx=>exact fun _ _=>IT ht.h.1 ht.h.2 (bC ha hx)
 | mul hx hy=>exact Bm (bC ha hx) (bC ha hy)
 | @len x v t n ht hx hr=>
  obtain ⟨b,c,rfl⟩:=hr.sound hS
  obtain ⟨e,i,h1,_,_⟩:=ht.h
  exact fun _ _=>wT h1 (bC ha hx)
 | @lkp κ υ x y v t bq ek eu xs a z0 ht hz hx hy hr=>
  obtain ⟨f,hm⟩:=hr.sound hS
  obtain ⟨kt,vt,kd,h1,h2,h3⟩:=ht.h
  obtain ⟨kt',vt',i,g1,g2,g3⟩:=hz.h
  rw [h1] at g1
  cases g1
  exact fun w' hC=>JD (ek:=ek) (uz:=eu) h3 h1 h2 g2 g3 (by rw [bC ha hx]; exact ai.ec _ hm hC fun _ _=>List.not_mem_nil) (bC ha hy)
 | @Qj t ps zc cs pl hb hf=>
  obtain ⟨fs,i,z,h1,h2,h3,h4,h5⟩:=hb.h
  refine Bu ?_
  have:=hf.fill ha hS
  unfold Program.built
  rw [h3,h1]
  simp only [h4,h2]
  rw [show z.cells=zc.toArray by rw [← h5]]
  exact this
theorem eS.sound {A:LN} {q:Option (Bool×Nat×Value)} {sl:LQ} {base fr:Fr} {r:NV} (h:eS A q sl base fr) (hb:dc r base) :
  (∀ p∈sl,iu p.1 A=true→r p.2.1=p.2.2)→(∀ b d u,q=some (b,d,u)→b=true→r d=u)→dc r fr:=by
 induction h with
 | nil=>intro _ _; exact hb
 | @cons j d u l base fr _ ih=>
  intro h1 _
  refine ih hb (fun p hp=>h1 p (by simp [hp])) ?_
  rintro b d' u' he hbt
  cases he
  exact h1 (j,d,u) (by simp) hbt
 | @ec d u l base fr _ ih=>
  intro h1 h2
  intro s v hl
  unfold look at hl
  cases Gm:Nat.beq s d with
  | true=>rw [Gm] at hl; cases hl; rw [Nat.eq_of_beq_eq_true Gm]; exact h2 true d _ rfl rfl
  | false=>rw [Gm] at hl; exact ih hb h1 (fun _ _ _ h=>nomatch h) s v hl
 | drop _ ih=>intro h1 _; exact ih hb h1 (fun _ _ _ h=>nomatch h)
def zp:List (Nat×Nat×Value)→Fr→Fr
 | [],f=>f
 | (_,d,u) :: l,f=>(d,u) :: zp l f
inductive JE (P:Program) (f:FuncId) (xs:List Operand) (fr:Fr) (Γ:QE) {β V:Type} (mo:Option β) (rt:β→V→List Value) (ps:β→V→List aq):Prop
 | mk {vs:LV} {Δ:QE} (hx:Ar fr xs=some vs) (hc:Ct P f true mo vs Δ rt ps) (hd:FO Δ) (hr:ER true Γ Δ):JE P f xs fr Γ mo rt ps
inductive C0 (P:Program) (f:FuncId) (xs:List Operand) (fr:Fr) (hd:QE) (Γ:QE) {β V:Type} (mo:Option β) (rt:β→V→List Value) (ps:β→V→List aq):Prop
 | mk {vs:LV} {Δ Γ':QE} (hx:Ar fr xs=some vs) (hc:Ct P f true mo vs Δ rt ps) (ho:EO hd Δ Γ') (hr:ER true Γ Δ):C0 P f xs fr hd Γ mo rt ps
inductive sw:List gj→Prop
 | nil:sw []
 | cons {a:gj} {l:MM} (h:CR a.V) (k:sw l):sw (a :: l)
theorem sw.ne {ms:MM} (h:sw ms):Nonempty (qy ms):=by
 induction h with
 | nil=>exact ⟨()⟩
 | cons h _ ih=>obtain ⟨a⟩:=h.ne; obtain ⟨b⟩:=ih; exact ⟨(a,b)⟩
inductive Gn:List gj→Nat→Bool→Prop
 | here {a:gj} {l:MM}:Gn (a :: l) a.d true
 | there {a:gj} {l:MM} {t:Nat} {b:Bool} (h:Gn l t b):Gn (a :: l) t b
 | nil {t:Nat}:Gn [] t false
inductive Tc (fr:Fr) (Γ:QE) (t n:Nat):Prop
 | mk {v:Value} (h:look fr t=some v) (hc:vb Γ v n):Tc fr Γ t n
inductive JA (R S:Type):Type 1
 | a (as:LL) (ops:LO) (i:Nat) (sl:LQ) (ms:MM) (Γ:QE) (m:Option (Out S R))
 | o (A:LN) (op:Op) (d:Nat) (ty:TI) (as:LL) (ops:LO) (i:Nat) (sl:LQ) (ms:MM) (Γ:QE) (m:Option (Out S R))
 | ow (b:Bool) (A:LN) (op:Op) (d:Nat) (ty:TI) (as:LL) (ops:LO) (i:Nat) (sl:LQ) (ms:MM) (Γ:QE) (m:Option (Out S R))
 | ix (b:Bool) (v:Value) (fr:Fr) (x y:OO) (t:TI) (A:LN) (d:Nat) (ty:TI) (as:LL) (ops:LO) (i:Nat) (sl:LQ) (ms:MM) (Γ:QE) (m:Option (Out S R))
 | lb (b:Bool) (v:Value) (j:Int) (fr:Fr) (t:TI) (x:OO) (A:LN) (d:Nat) (ty:TI) (as:LL) (ops:LO) (i:Nat) (sl:LQ) (ms:MM) (Γ:QE) (m:Option (Out S R))
 | ap (us:LN) (t1 t2:Nat) (t:TI) (A:LN) (d:Nat) (ty:TI) (as:LL) (ops:LO) (i:Nat) (sl:LQ) (ms:MM) (Γ:QE) (m:Option (Out S R))
 | la (fr:Fr) (ad:Addr) (lk:Option Nat) (t:TI) (x:OO) (A:LN) (d:Nat) (ty:TI) (as:LL) (ops:LO) (i:Nat) (sl:LQ) (ms:MM) (Γ:QE) (m:Option (Out S R))
 | ld {α:Type} (E:ai α) (z:α) (fr:Fr) (ad:Addr) (t:TI) (x:OO) (A:LN) (d:Nat) (ty:TI) (as:LL) (ops:LO) (i:Nat) (sl:LQ) (ms:MM) (Γ:QE) (m:Option (Out S R))
 | oc (us:LN) (f:FuncId) (xs:List Operand) (bg:Array TypeId) (A:LN) (d:Nat) (ty:TI) (as:LL) (ops:LO) (i:Nat) (sl:LQ) (ms:MM) (Γ:QE) (m:Option (Out S R))
 | os (A:LN) (op:Op) (ty:TI) (as:LL) (ops:LO) (i:Nat) (sl:LQ) (ms:MM) (Γ:QE) (m:Option (Out S R))
 | cr {V:Type} (u:V→Value) (ps:V→List aq) (d:Nat) (as:LL) (ops:LO) (i:Nat) (sl:LQ) (ms:MM) (Γ:QE) (m:Option (Out S R))
 | p (Δ:QE) (as:LL) (ops:LO) (i:Nat) (sl:LQ) (ms:MM) (Γ:QE) (m:Option (Out S R))
inductive IV:List aq→Value→Bool→Prop
 | here {α:Type} {T:ai α} {v:Value} {x:α} {Γ:QE}:IV (.own T v x :: Γ) v true
 | there {e:aq} {v:Value} {b:Bool} {Γ:QE} (h:IV Γ v b):IV (e :: Γ) v b
 | nil {v:Value}:IV [] v false
inductive vi:List gj→Nat→gj→List gj→Prop
 | here {a:gj} {l:MM}:vi (a :: l) a.d a l
 | there {a b:gj} {l l':MM} {t:Nat} (h:vi l t a l'):vi (b :: l) t a (b :: l')
inductive Cr:List gj→Nat→gj→List gj→Prop
 | here {a:gj} {l:MM}:Cr (a :: l) a.j a l
 | there {a b:gj} {l l':MM} {t:Nat} (h:Cr l t a l'):Cr (b :: l) t a (b :: l')
def NP (j i:Nat) (sl:LQ):List (Nat×Nat×Value):=sl.map fun p=>bif Nat.beq p.1 j then (i,p.2) else p
def JF (sl:LQ) (j d:Nat) (b:Bool):Bool:=sl.any fun q=>Nat.beq q.1 j && (Nat.beq q.2.1 d && (match q.2.2 with | .bool c=>(bif b then c else !c) | _=>false))
theorem Lq {sl:LQ} {j d:Nat} {b:Bool} (h:JF sl j d b=true):(j,d,.bool b)∈sl:=by
 unfold JF at h
 rw [List.any_eq_true] at h
 obtain ⟨⟨j',d',v⟩,hq,h⟩:=h
 rw [Bool.and_eq_true,Bool.and_eq_true] at h
 obtain ⟨h1,h2,h3⟩:=h
 obtain rfl:j'=j:=Nat.eq_of_beq_eq_true h1
 obtain rfl:d'=d:=Nat.eq_of_beq_eq_true h2
 cases v with
 | bool c=>cases b <;> cases c <;> first | exact hq | (cases h3; done)
 | _=>cases h3
def WV (sl:LQ):List Nat→Bool
 | [j,d,b]=>JF sl (j - 1000000) (d - 1000000) (Nat.beq b 1000001)
 | _=>true
def gdB (U:LL) (sl:LQ):Bool:=bif Nat.ble 1000000 ((U.getLastD []).headD 0) then WV sl (U.getLastD []) else true
def Cs (U:LL) (sl:LQ) (ms:MM):Bool:=(U.all fun us=>us.all fun j=>ms.all fun a=>!Nat.beq a.j j) && gdB U sl
inductive AD {R S:Type} (tq:Bool) (P:Program) (cx:Cx R) (K:de R S) (l tail:LO) (base:Fr) (U:LL):List aq→JA R S→Prop
 | nil {hd:QE} {i:Nat} {sl:LQ} {ms:MM} {Γ:QE} {m:Option (Out S R)} (Gp:AF ms=true) (he:Cs U sl ms=true) (h:∀ x:qy ms,D P cx (.p (zp sl (mF ms x)) (Cq ms x) base Γ fun fr Γ=>.tg tq (Ax tail) l tail K Γ fr m)):AD tq P cx K l tail base U hd (.a [] [] i sl ms Γ m)
 | cons {hd:QE} {A:LN} {as:LL} {op:Op} {d:Nat} {ty:TI} {pos:String} {ah:Array Edge} {ops:LO} {i:Nat} {sl:LQ} {ms:MM} {Γ:QE} {m:Option (Out S R)} (h:AD tq P cx K l tail base U hd (.o A op d ty as ops i sl ms Γ m)) :
   AD tq P cx K l tail base U hd (.a (A :: as) (⟨some d,op,ty,pos,ah,none⟩ :: ops) i sl ms Γ m)
 | JG {hd:QE} {A:LN} {as:LL} {op:Op} {ty:TI} {pos:String} {ah:Array Edge} {ops:LO} {i:Nat} {sl:LQ} {ms:MM} {Γ:QE} {m:Option (Out S R)} (h:AD tq P cx K l tail base U hd (.os A op ty as ops i sl ms Γ m)) :
   AD tq P cx K l tail base U hd (.a (A :: as) (⟨none,op,ty,pos,ah,none⟩ :: ops) i sl ms Γ m)
 | SV {hd:QE} {t e:TI} {t1 j1 n:Nat} {y:OO} {u:Value} {us cs ds:LV} {o5:MM} {fr:Fr} {A:LN} {as:LL} {ty:TI} {ops:LO} {i:Nat} {sl:LQ} {ms:MM} {Γ:QE} {m:Option (Out S R)} [ht:wk P t n]
   (h1:vi ms t1 ⟨j1,t1,[],Nat,fun _ b=>.pointer (some ⟨b,0,none⟩),fun _ b=>[.row b cs e]⟩ o5) (hv:eS A none sl base fr) (hy:bn fr y=some u) (hc:su Γ u us) (hn:us.length=n) (hs:tI us 0 cs ds) (ho:u7 Γ us) (h4:iu j1 A=true) (h6:U.getD i []=[j1])
   (h:AD tq P cx K l tail base U hd (.a as ops (i+1) sl (⟨i,t1,[],Nat,fun _ b=>.pointer (some ⟨b,0,none⟩),fun _ b=>[.row b ds e]⟩ :: o5) Γ m)):AD tq P cx K l tail base U hd (.os A (.store t (.tmp t1) y) ty as ops i sl ms Γ m)
 | F5 {hd:QE} {α:Type} {A:LN} {as:LL} {d:Nat} {t e ty:TI} {E:ai α} {z0:α} {bt:Nat} {ops:LO} {i:Nat} {sl:LQ} {ms:MM} {Γ:QE} {m:Option (Out S R)} [hz:uw P t α e E z0 bt]
   (h:AD tq P cx K l tail base U hd (.a as ops (i+1) sl (⟨i,d,[],Value,fun _ v=>v,fun _ v=>[.own (aI e E) v []]⟩ :: ms) Γ m)):AD tq P cx K l tail base U hd (.o A (.buildSlice t 0 #[]) d ty as ops i sl ms Γ m)
 | sw4 {hd:QE} {t st e:Nat} {α:Type} {E:ai α} {z0:α} {bt:Nat} {b:Bool} {A:LN} {as:LL} {d:Nat} {ty:TI} {ops:LO} {i:Nat} {sl:LQ} {ms:MM} {Γ:QE} {m:Option (Out S R)} [hz:uw P st α e E z0 bt] (hw:Gn ms t b) (h:AD tq P cx K l tail base U hd (.ow b A (.buildSlice st 1 #[(0,.tmp t)]) d ty as ops i sl ms Γ m)):AD tq P cx K l tail base U hd (.o A (.buildSlice st 1 #[(0,.tmp t)]) d ty as ops i sl ms Γ m)
 | ltn {hd:QE} {t e:TI} {n:Nat} {ps:List (Nat×Operand)} {us:LV} {fr:Fr} {A:LN} {as:LL} {d:Nat} {ty:TI} {ops:LO} {i:Nat} {sl:LQ} {ms:MM} {Γ:QE} {m:Option (Out S R)} [hz:FX P t e] (hv:eS A none sl base fr) (hl:va Γ fr 0 ps us) (hn:us.length=n) (hb:(Nat.ble 1 n && Nat.ble n 16777216)=true)
   (h:AD tq P cx K l tail base U hd (.a as ops (i+1) sl (⟨i,d,[],Nat,fun _ b=>.slice (some ⟨b,0,none⟩) n n,fun _ b=>[.row b us e]⟩ :: ms) Γ m)):AD tq P cx K l tail base U hd (.o A (.buildSlice t n ps.toArray) d ty as ops i sl ms Γ m)
 | ltu {hd:QE} {t e:TI} {n:Nat} {ps:List (Nat×Operand)} {us:LV} {fr:Fr} {A:LN} {as:LL} {d:Nat} {ty:TI} {ops:LO} {i:Nat} {sl:LQ} {ms:MM} {Γ:QE} {m:Option (Out S R)} [hz:K5 P t e] (hv:eS A none sl base fr) (hl:va Γ fr 0 ps us) (hn:us.length=n) (hb:(Nat.ble 1 n && Nat.ble n 16777216)=true)
   (h:AD tq P cx K l tail base U hd (.a as ops (i+1) sl (⟨i,d,[],Nat,fun _ b=>.slice (some ⟨b,0,none⟩) n n,fun _ b=>[.row b us e]⟩ :: ms) Γ m)):AD tq P cx K l tail base U hd (.o A (.buildSlice t n ps.toArray) d ty as ops i sl ms Γ m)
 | sw1 {hd:QE} {t:Nat} {b:Bool} {A:LN} {as:LL} {d:Nat} {ty:TI} {ops:LO} {i:Nat} {sl:LQ} {ms:MM} {Γ:QE} {m:Option (Out S R)} (hw:Gn ms t b) (h:AD tq P cx K l tail base U hd (.ow b A (.move (.tmp t)) d ty as ops i sl ms Γ m)):AD tq P cx K l tail base U hd (.o A (.move (.tmp t)) d ty as ops i sl ms Γ m)
 | wlt {hd:QE} {t e:TI} {α:Type} {E:ai α} {z0:α} {bt:Nat} {u:Value} {x:OO} {fr:Fr} {A:LN} {as:LL} {d:Nat} {ty:TI} {ops:LO} {i:Nat} {sl:LQ} {ms:MM} {Γ:QE} {m:Option (Out S R)} [hz:uw P t α e E z0 bt] (hv:eS A none sl base fr) (hx:bn fr x=some u) (h1:One Γ u)
   (h:AD tq P cx K l tail base U hd (.a as ops (i+1) sl (⟨i,d,[],Nat,fun _ b=>.slice (some ⟨b,0,none⟩) 1 1,fun _ b=>[.row b [u] e]⟩ :: ms) Γ m)):AD tq P cx K l tail base U hd (.ow false A (.buildSlice t 1 #[(0,x)]) d ty as ops i sl ms Γ m)
 | sw5 {hd:QE} {t st:Nat} {b:Bool} {A:LN} {as:LL} {d:Nat} {ty:TI} {ops:LO} {i:Nat} {sl:LQ} {ms:MM} {Γ:QE} {m:Option (Out S R)} (hw:Gn ms t b) (h:AD tq P cx K l tail base U hd (.ow b A (.call ⟨.builtin .len,#[.tmp t],#[st]⟩) d ty as ops i sl ms Γ m)):AD tq P cx K l tail base U hd (.o A (.call ⟨.builtin .len,#[.tmp t],#[st]⟩) d ty as ops i sl ms Γ m)
 | mln {hd:QE} {t n:Nat} {st:TI} {A:LN} {as:LL} {d:Nat} {ty:TI} {ops:LO} {i:Nat} {sl:LQ} {ms:MM} {Γ:QE} {m:Option (Out S R)} [ht:wj P st] (hi:sw ms) (Gp:uC A ms=true) (hx:∀ x:qy ms,Tc (ri A ms x) (th A ms x) t n) (h:AD tq P cx K l tail base U hd (.a as ops (i+1) ((i,d,.int .i64 (n:Int)) :: sl) ms Γ m)):AD tq P cx K l tail base U hd (.ow true A (.call ⟨.builtin .len,#[.tmp t],#[st]⟩) d ty as ops i sl ms Γ m)
 | Qn {hd:QE} {t:TI} {cs:LV} {A:LN} {as:LL} {d:Nat} {ty:TI} {ops:LO} {i:Nat} {sl:LQ} {ms:MM} {Γ:QE} {m:Option (Out S R)} [hz:B1 P t cs] (h:AD tq P cx K l tail base U hd (.a as ops (i+1) sl (⟨i,d,[],Nat,fun _ b=>.pointer (some ⟨b,0,none⟩),fun _ b=>[.row b cs t]⟩ :: ms) Γ m)):AD tq P cx K l tail base U hd (.o A (.alloc t) d ty as ops i sl ms Γ m)
 | SU {hd:QE} {us:LN} {t1 t2:Nat} {t:TI} {A:LN} {as:LL} {d:Nat} {ty:TI} {ops:LO} {i:Nat} {sl:LQ} {ms:MM} {Γ:QE} {m:Option (Out S R)} (hU:U.getD i []=us) (h:AD tq P cx K l tail base U hd (.ap us t1 t2 t A d ty as ops i sl ms Γ m)):AD tq P cx K l tail base U hd (.o A (.call ⟨.builtin .append,#[.tmp t1,.tmp t2],#[t,t]⟩) d ty as ops i sl ms Γ m)
 | apH {hd iq:QE} {α:Type} {t e e' et:TI} {E E':ai α} {z0:α} {bt t1 t2 j2:Nat} {v u yv:Value} {j:Int} {y:α} {z:List α} {xs:List (List α)} {o1 o2:Bool} {Γx:QE} {Gq:MM} {fr:Fr} {f:Unit→Option (Out S R)} {A:LN} {as:LL} {d:Nat} {ty:TI} {ops:LO} {i:Nat} {sl:LQ} {ms:MM} {Γ:QE} [hT:uw P t α e E z0 bt]
   (hV:((U.set i []).all fun us=>!(us.contains l.length))=true) (hv:eS A none sl base fr) (hs:look fr t1=some u) (h2:vi ms t2 ⟨j2,t2,[],Nat,fun _ b=>.slice (some ⟨b,0,none⟩) 1 1,fun _ b=>[.row b [yv] et]⟩ Gq) (h5:iu j2 A=true) (hl:Loc hd u (.row v j)) (hz:qa hd u o1 o2 E' z uk Γx) (h1:ee hd (.own (aI e' (aI e E)) v xs) iq) (hr:RT (aI e E) (bG E')) (hy:B2 [] E yv y [])
   (h:AD tq P cx K l tail base U iq (.a as ops (i+1) sl (⟨i,d,[],Value,fun _ v'=>v',fun _ v'=>[.own (aI e E) v' (z++[y]),.own (uB e' (aI e E) j.toNat) v xs]⟩ :: ms) Γ (f ()))):AD tq P cx K l tail base U hd (.ap [l.length] t1 t2 t A d ty as ops i sl ms Γ (fits bt (z.length+1)>>=f))
 | ap1 {hd:QE} {us:LN} {t e et:TI} {E:ai Int} {z0:Int} {bt t1 t2 j2 d2:Nat} {k:IntKind} {y:Int} {xs:List Int} {a1:gj} {o5 Gq:MM} {f:Unit→Option (Out S R)} {A:LN} {as:LL} {d:Nat} {ty:TI} {ops:LO} {i:Nat} {sl:LQ} {ms:MM} {Γ:QE} [hz:uw P t Int e E z0 bt] (h1:vi ms t1 a1 o5) (h2:vi o5 t2 ⟨j2,d2,[],Nat,fun _ b=>.slice (some ⟨b,0,none⟩) 1 1,fun _ b=>[.row b [.int k y] et]⟩ Gq) (h3:∀ u v,a1.ps u v=[.own (aI e (aK k)) (a1.rt u v) xs]) (hu:us=[a1.j]) (h4:iu a1.j A=true) (h5:iu j2 A=true)
   (h:AD tq P cx K l tail base U hd (.a as ops (i+1) sl (⟨i,d,[],Value,fun _ v=>v,fun _ v=>[.own (aI e (aK k)) v (xs++[y])]⟩ :: o5) Γ (f ()))):AD tq P cx K l tail base U hd (.ap us t1 t2 t A d ty as ops i sl ms Γ (fits bt (xs.length+1)>>=f))
 | wv {hd:QE} {op:Op} {u:Value} {fr:Fr} {A:LN} {as:LL} {d:Nat} {ty:TI} {ops:LO} {i:Nat} {sl:LQ} {ms:MM} {Γ:QE} {m:Option (Out S R)} (hv:eS A none sl base fr) (hq:VQ P Γ fr op u) (h:AD tq P cx K l tail base U hd (.a as ops (i+1) ((i,d,u) :: sl) ms Γ m)):AD tq P cx K l tail base U hd (.ow false A op d ty as ops i sl ms Γ m)
 | mbl {hd:QE} {t:TI} {ps:List (Nat×Operand)} {zc:LV} {pl:List (Nat×Nat)} {fr:Fr} {A:LN} {as:LL} {d:Nat} {ty:TI} {ops:LO} {i:Nat} {sl:LQ} {ms:MM} {Γ:QE} {m:Option (Out S R)} [hb:Af P t zc pl] (hi:sw ms) (Gp:uC A ms=true) (qc:(zo ms ps).isEmpty=false) (hj:X3 A ms (zo ms ps)=true) (hv:eS A none sl base fr)
   (hx:∀ x:qy ms,wB (th A ms x++Γ) (ri A ms x++fr) pl ps zc (S9 pl fr (zo ms ps) ps zc (AB (xR (mF ms x)) (zo ms ps))))
   (h:AD tq P cx K l tail base U hd (.a as ops (i+1) sl (⟨i,d,zo ms ps,Unit,fun u _=>.agg (S9 pl fr (zo ms ps) ps zc u).toArray,fun _ _=>[]⟩ :: ms) Γ m)):AD tq P cx K l tail base U hd (.o A (.build t ps.toArray) d ty as ops i sl ms Γ m)
 | mk {hd:QE} {t e:TI} {α:Type} {E:ai α} {z0:α} {bt:Nat} {x:OO} {z:Int} {fr:Fr} {f:Nat→Option (Out S R)} {A:LN} {as:LL} {d:Nat} {ty:TI} {ops:LO} {i:Nat} {sl:LQ} {ms:MM} {Γ:QE} [hz:uw P t α e E z0 bt] (hv:eS A none sl base fr) (hx:bn fr x=some (.int .i64 z))
   (h:∀ n,AD tq P cx K l tail base U hd (.a as ops (i+1) sl (⟨i,d,[],Value,fun _ v=>v,fun _ v=>[.own (aI e E) v (List.replicate n z0)]⟩ :: ms) Γ (f n))):AD tq P cx K l tail base U hd (.o A (.makeSlice t x x) d ty as ops i sl ms Γ (mk bt z>>=f))
 | ixs {hd:QE} {b:Bool} {v:Value} {x y:OO} {t:TI} {fr:Fr} {A:LN} {as:LL} {d:Nat} {ty:TI} {ops:LO} {i:Nat} {sl:LQ} {ms:MM} {Γ:QE} {m:Option (Out S R)} (hv:eS A none sl base fr) (hx:bn fr x=some v) (hw:IV hd v b) (h:AD tq P cx K l tail base U hd (.ix b v fr x y t A d ty as ops i sl ms Γ m)):AD tq P cx K l tail base U hd (.o A (.indexAddr t x y) d ty as ops i sl ms Γ m)
 | idx {hd:QE} {α:Type} {A:LN} {as:LL} {d:Nat} {x y:OO} {v:Value} {k:IntKind} {j:Int} {t ty:TI} {o1 o2:Bool} {E:ai α} {xs:List α} {ops:LO} {i:Nat} {sl:LQ} {ms:MM} {fr:Fr} {Γ:QE} {Γ':α→List aq} {f:α→Option (Out S R)} [ht:wj P t]
   (hy:bn fr y=some (.int k j)) (hr:∀ z,qa Γ v o1 o2 E xs (.ad o1 o2 v j E z) (Γ' z)) (hE:E.size=1)
   (h:∀ z,AD tq P cx K l tail base U hd (.a as ops (i+1) ((i,d,.pointer (some (cw v 1 j))) :: sl) ms (Γ' z) (f z))):AD tq P cx K l tail base U hd (.ix false v fr x y t A d ty as ops i sl ms Γ (idx xs j>>=f))
 | Zi {hd:QE} {α:Type} {A:LN} {as:LL} {d:Nat} {x y:OO} {v:Value} {k:IntKind} {j:Int} {t ty:TI} {o1 o2:Bool} {E:ai α} {xs:List α} {ops:LO} {i:Nat} {sl:LQ} {ms:MM} {fr:Fr} {Γ:QE} {iq:α→List aq} {f:α→Option (Out S R)} [ht:wj P t]
   (hy:bn fr y=some (.int k j)) (hr:∀ z,qa hd v o1 o2 E xs (.ad o1 o2 v j E z) (iq z)) (hE:E.size=1)
   (h:∀ z,AD tq P cx K l tail base U (iq z) (.a as ops (i+1) ((i,d,.pointer (some (cw v 1 j))) :: sl) ms Γ (f z))):AD tq P cx K l tail base U hd (.ix true v fr x y t A d ty as ops i sl ms Γ (idx xs j>>=f))
 | load {hd:QE} {A:LN} {as:LL} {d:Nat} {x:OO} {a:Addr} {t ty:TI} {lk:Option Nat} {ops:LO} {i:Nat} {sl:LQ} {ms:MM} {fr:Fr} {Γ:QE} {m:Option (Out S R)} [ht:LK P t lk] (hv:eS A none sl base fr) (hx:bn fr x=some (.pointer (some a)))
   (h:AD tq P cx K l tail base U hd (.la fr a lk t x A d ty as ops i sl ms Γ m)):AD tq P cx K l tail base U hd (.o A (.load t x) d ty as ops i sl ms Γ m)
 | lsw {hd:QE} {b:Bool} {v:Value} {j:Int} {x:OO} {t:TI} {fr:Fr} {A:LN} {as:LL} {d:Nat} {ty:TI} {ops:LO} {i:Nat} {sl:LQ} {ms:MM} {Γ:QE} {m:Option (Out S R)} (hw:IV hd v b) (h:AD tq P cx K l tail base U hd (.lb b v j fr t x A d ty as ops i sl ms Γ m)):AD tq P cx K l tail base U hd (.la fr (cw v 1 j) none t x A d ty as ops i sl ms Γ m)
 | SN {hd:QE} {α:Type} {A:LN} {as:LL} {d:Nat} {x:OO} {v:Value} {j:Int} {o:Bool} {E:ai α} {z:α} {t ty:TI} {ops:LO} {i:Nat} {sl:LQ} {ms:MM} {fr:Fr} {Γ Γx:QE} {m:Option (Out S R)} (h:uj Γ (cw v 1 j) o E z uk Γx)
   (k:AD tq P cx K l tail base U hd (.ld E z fr (cw v 1 j) t x A d ty as ops i sl ms Γ m)):AD tq P cx K l tail base U hd (.lb false v j fr t x A d ty as ops i sl ms Γ m)
 | Zj {hd:QE} {α:Type} {A:LN} {as:LL} {d:Nat} {x:OO} {v:Value} {j:Int} {E:ai α} {z:List α} {o:Bool} {t ty:TI} {ops:LO} {i:Nat} {sl:LQ} {ms:MM} {fr:Fr} {Γ:QE} {Td iq:Value→List aq} {m:Option (Out S R)} (hV:((U.zipIdx.all fun p=>!(p.1.contains l.length) || ((b9 l).getD p.2 []).contains i))=true) (h:∀ u,uj hd (cw v 1 j) o (bG E) z (.rd o (bG E) u z) (Td u)) (h2:∀ u,yh (Td u) v j u (iq u))
   (k:∀ u,AD tq P cx K l tail base U (iq u) (.a as ops (i+1) ((i,d,u) :: sl) ms Γ m)):AD tq P cx K l tail base U hd (.lb true v j fr t x A d ty as ops i sl ms Γ m)
 | SP {hd:QE} {A:LN} {as:LL} {d:Nat} {x:OO} {a:Addr} {u:Value} {t ty:TI} {ops:LO} {i:Nat} {sl:LQ} {ms:MM} {fr:Fr} {Γ:QE} {m:Option (Out S R)} (h:u5 Γ a u)
   (k:AD tq P cx K l tail base U hd (.a as ops (i+1) ((i,d,u) :: sl) ms Γ m)):AD tq P cx K l tail base U hd (.la fr a none t x A d ty as ops i sl ms Γ m)
 | K9 {hd:QE} {A:LN} {as:LL} {d n:Nat} {x:OO} {a:Addr} {ds:LV} {t ty:TI} {ops:LO} {i:Nat} {sl:LQ} {ms:MM} {fr:Fr} {Γ:QE} {m:Option (Out S R)} (h:u9 Γ a n ds)
   (k:AD tq P cx K l tail base U hd (.a as ops (i+1) ((i,d,.agg ds.toArray) :: sl) ms Γ m)):AD tq P cx K l tail base U hd (.la fr a (some n) t x A d ty as ops i sl ms Γ m)
 | SR {hd:QE} {A:LN} {as:LL} {d:Nat} {x:OO} {a:Addr} {k:IntKind} {z:Int} {t ty:TI} {ops:LO} {i:Nat} {sl:LQ} {ms:MM} {fr:Fr} {Γ:QE} {m:Option (Out S R)}
   (h:AD tq P cx K l tail base U hd (.a as ops (i+1) ((i,d,.int k z) :: sl) ms Γ m)):AD tq P cx K l tail base U hd (.ld (aK k) z fr a t x A d ty as ops i sl ms Γ m)
 | SS {hd:QE} {α:Type} {A:LN} {as:LL} {d:Nat} {x:OO} {v:Value} {j:Int} {E:ai α} {z:List α} {o:Bool} {t ty:TI} {ops:LO} {i:Nat} {sl:LQ} {ms:MM} {fr:Fr} {Γ:QE} {Γ1 Γ':Value→List aq} {m:Option (Out S R)} (h:∀ u,uj Γ (cw v 1 j) o (bG E) z (.rd o (bG E) u z) (Γ1 u)) (h2:∀ u,yh (Γ1 u) v j u (Γ' u))
   (k:∀ u,AD tq P cx K l tail base U hd (.a as ops (i+1) ((i,d,u) :: sl) ms (Γ' u) m)):AD tq P cx K l tail base U hd (.ld (bG E) z fr (cw v 1 j) t x A d ty as ops i sl ms Γ m)
 | K8 {hd:QE} {us:LN} {A:LN} {as:LL} {d:Nat} {f:FuncId} {xs:List Operand} {bg:Array TypeId} {ty:TI} {ops:LO} {i:Nat} {sl:LQ} {ms:MM} {Γ:QE} {m:Option (Out S R)} (hU:U.getD i []=us) (h:AD tq P cx K l tail base U hd (.oc us f xs bg A d ty as ops i sl ms Γ m)):AD tq P cx K l tail base U hd (.o A (.call ⟨.value (.func f),xs.toArray,bg⟩) d ty as ops i sl ms Γ m)
 | call {hd:QE} {β V:Type} {A:LN} {as:LL} {d:Nat} {f:FuncId} {xs:List Operand} {bg:Array TypeId} {ty:TI} {mo:Option β} {rt:β→V→List Value} {ps:β→V→List aq} {ops:LO} {i:Nat} {sl:LQ} {ms:MM} {fr:Fr} {Γ:QE} {g:β→Option (Out S R)} [hf:bm P f]
   (hv:eS A none sl base fr) (hc:∀ x:qy ms,JE P f xs (ri A ms x++fr) (th A ms x++Γ) mo rt ps) (hi:sw ms) (Gp:uC A ms=true) (ho:∀ y v,tS (ps y v)=true)
   (h:∀ y,AD tq P cx K l tail base U hd (.cr (fun v=>tH (rt y v)) (ps y) d as ops i sl ms Γ (g y))):AD tq P cx K l tail base U hd (.oc [] f xs bg A d ty as ops i sl ms Γ (mo>>=g))
 | WW {hd:QE} {β V:Type} {A:LN} {as:LL} {d:Nat} {f:FuncId} {xs:List Operand} {bg:Array TypeId} {ty:TI} {mo:Option β} {rt:β→V→List Value} {ps:β→V→List aq} {ops:LO} {i:Nat} {sl:LQ} {ms:MM} {fr:Fr} {Γ:QE} {g:β→Option (Out S R)} [hf:bm P f]
   (hV:((U.set i []).all fun us=>!(us.contains l.length))=true) (hv:eS A none sl base fr) (hc:∀ x:qy ms,C0 P f xs (ri A ms x++fr) hd (th A ms x++Γ) mo rt ps) (hi:sw ms) (Gp:uC A ms=true) (ho:∀ y v,tS (ps y v)=true)
   (h:∀ y,AD tq P cx K l tail base U hd (.cr (fun v=>tH (rt y v)) (ps y) d as ops i sl ms Γ (g y))):AD tq P cx K l tail base U hd (.oc [l.length] f xs bg A d ty as ops i sl ms Γ (mo>>=g))
 | WX {hd:QE} {β V:Type} {j1:Nat} {a1:gj} {o5:MM} {A:LN} {as:LL} {d:Nat} {f:FuncId} {xs:List Operand} {bg:Array TypeId} {ty:TI} {mo:Option β} {rt:β→V→List Value} {ps:β→V→List aq} {ops:LO} {i:Nat} {sl:LQ} {ms:MM} {fr:Fr} {Γ:QE} {g:β→Option (Out S R)} [hf:bm P f]
   (h1:Cr ms j1 a1 o5) (Qo:a1.src=[]) (h4:iu j1 A=true) (hv:eS A none sl base fr) (hc:∀ (q:a1.V) (x:qy o5),C0 P f xs (ri A o5 x++fr) (a1.ps undef q) (th A o5 x++Γ) mo rt ps) (hi:sw o5) (Gp:uC A o5=true) (ho:∀ y v,tS (ps y v)=true)
   (h:∀ y,AD tq P cx K l tail base U hd (.cr (fun v=>tH (rt y v)) (ps y) d as ops i (NP j1 i sl) o5 Γ (g y))):AD tq P cx K l tail base U hd (.oc [j1] f xs bg A d ty as ops i sl ms Γ (mo>>=g))
 | crv {hd:QE} {u:Unit→Value} {d:Nat} {as:LL} {ops:LO} {i:Nat} {sl:LQ} {ms:MM} {Γ:QE} {m:Option (Out S R)} (h:AD tq P cx K l tail base U hd (.a as ops (i+1) ((i,d,u ()) :: sl) ms Γ m)):AD tq P cx K l tail base U hd (.cr u (fun _=>[]) d as ops i sl ms Γ m)
 | crb {hd:QE} {u:Unit→Value} {ps:Unit→List aq} {d:Nat} {as:LL} {ops:LO} {i:Nat} {sl:LQ} {ms:MM} {Γ:QE} {m:Option (Out S R)} (h:AD tq P cx K l tail base U hd (.a as ops (i+1) ((i,d,u ()) :: sl) (⟨i,d,[],Unit,fun _=>u,fun _=>ps⟩ :: ms) Γ m)):AD tq P cx K l tail base U hd (.cr u ps d as ops i sl ms Γ m)
 | crm {hd:QE} {V:Type} {u:V→Value} {ps:V→List aq} {d:Nat} {as:LL} {ops:LO} {i:Nat} {sl:LQ} {ms:MM} {Γ:QE} {m:Option (Out S R)} (h:AD tq P cx K l tail base U hd (.a as ops (i+1) sl (⟨i,d,[],V,fun _=>u,fun _=>ps⟩ :: ms) Γ m)):AD tq P cx K l tail base U hd (.cr u ps d as ops i sl ms Γ m)
 | val {hd:QE} {A:LN} {as:LL} {op:Op} {d:Nat} {ty:TI} {u:Value} {ops:LO} {i:Nat} {sl:LQ} {ms:MM} {fr:Fr} {Γ:QE} {m:Option (Out S R)} (hv:eS A none sl base fr) (hq:VQ P Γ fr op u)
   (h:AD tq P cx K l tail base U hd (.a as ops (i+1) ((i,d,u) :: sl) ms Γ m)):AD tq P cx K l tail base U hd (.o A op d ty as ops i sl ms Γ m)
 | tv {hd:QE} {A:LN} {as:LL} {op:BinOp} {x y:OO} {k k':IntKind} {a b:Int} {t t':TI} {d:Nat} {ty:TI} {ops:LO} {i:Nat} {sl:LQ} {ms:MM} {fr:Fr} {Γ:QE} {f:Int→Option (Out S R)} (hv:eS A none sl base fr) (hx:bn fr x=some (.int k a)) (hy:bn fr y=some (.int k' b)) (hk:Qi op k k')
   (h:∀ z,AD tq P cx K l tail base U hd (.a as ops (i+1) ((i,d,.int k z) :: sl) ms Γ (f z))):AD tq P cx K l tail base U hd (.o A (.binOp op t x y t') d ty as ops i sl ms Γ (uV op k a b>>=f))
 | pz {hd:QE} {as:LL} {ops:LO} {i:Nat} {sl:LQ} {ms:MM} {Γ:QE} {m:Option (Out S R)} (h:AD tq P cx K l tail base U hd (.a as ops i sl ms Γ m)):AD tq P cx K l tail base U hd (.p [] as ops i sl ms Γ m)
 | pe {hd:QE} {e:aq} {Δ:QE} {as:LL} {ops:LO} {i:Nat} {sl:LQ} {ms:MM} {Γ:QE} {m:Option (Out S R)} (h:AD tq P cx K l tail base U hd (.p Δ as ops i sl ms (e :: Γ) m)):AD tq P cx K l tail base U hd (.p (e :: Δ) as ops i sl ms Γ m)
 | F4 {hd:QE} {α V:Type} {Sc:ai α} {cl:α→V→List Value} {en:α→V→List aq} {A:LN} {as:LL} {d n:Nat} {x y:OO} {v:Value} {xs:List α} {k:IntKind} {j:Int} {t ty:TI} {ops:LO} {i:Nat} {sl:LQ} {ms:MM} {fr:Fr} {Γ Γx:QE} {f:α→Option (Out S R)} [ht:IL P t n]
   (hy:bn fr y=some (.int k j)) (hr:qa Γ v false false (rf Sc) xs uk Γx) (hs:EI Sc V cl en) (hn:Sc.size=n)
   (h:∀ z u,AD tq P cx K l tail base U hd (.p (.bg (cw v n j) (cl z u) :: en z u) as ops (i+1) ((i,d,.pointer (some (cw v n j))) :: sl) ms Γ (f z))):AD tq P cx K l tail base U hd (.ix false v fr x y t A d ty as ops i sl ms Γ (idx xs j>>=f))
 | Te {hd:QE} {α V:Type} {Sc:ai α} {cl:α→V→List Value} {en:α→V→List aq} {A:LN} {as:LL} {d n e bt:Nat} {x y:OO} {v:Value} {us:List (List Value)} {xs:List α} {k:IntKind} {j:Int} {t ty:TI} {ops:LO} {i:Nat} {sl:LQ} {ms:MM} {fr:Fr} {Γ Γ1:QE} {f:α→Option (Out S R)} [ht:Ay P t e n bt]
   (hy:bn fr y=some (.int k j)) (h1:ee Γ (.own (aI e (iy n)) v us) Γ1) (hg:In (.rd false (vF Sc) (.bool true) (us,xs)) Γ) (hs:EI Sc V cl en)
   (h:∀ z u,AD tq P cx K l tail base U hd (.p (.rd false (Ac us j) (.bool true) (cl z u) :: en z u) as ops (i+1) ((i,d,.pointer (some (cw v n j))) :: sl) ms Γ (f z))):AD tq P cx K l tail base U hd (.ix false v fr x y t A d ty as ops i sl ms Γ (idx xs j>>=f))
 | X4 {hd:QE} {A:LN} {as:LL} {d n e off:Nat} {x:OO} {v u:Value} {us:List (List Value)} {j:Int} {cs:LV} {t ty:TI} {ops:LO} {i:Nat} {sl:LQ} {ms:MM} {fr:Fr} {Γ Γ1:QE} {m:Option (Out S R)} (h1:ee Γ (.own (aI e (iy n)) v us) Γ1) (hp:In (.rd false (Ac us j) (.bool true) cs) Γ) (hc:cs[off]? = some u)
   (k:AD tq P cx K l tail base U hd (.a as ops (i+1) ((i,d,u) :: sl) ms Γ m)):AD tq P cx K l tail base U hd (.la fr ((cw v n j).add off) none t x A d ty as ops i sl ms Γ m)
 | Tf {hd:QE} {A:LN} {as:LL} {d n e:Nat} {x:OO} {v u:Value} {us:List (List Value)} {j:Int} {cs:LV} {t ty:TI} {ops:LO} {i:Nat} {sl:LQ} {ms:MM} {fr:Fr} {Γ Γ1:QE} {m:Option (Out S R)} (h1:ee Γ (.own (aI e (iy n)) v us) Γ1) (hp:In (.rd false (Ac us j) (.bool true) cs) Γ) (hc:cs[0]? = some u)
   (k:AD tq P cx K l tail base U hd (.a as ops (i+1) ((i,d,u) :: sl) ms Γ m)):AD tq P cx K l tail base U hd (.la fr (cw v n j) none t x A d ty as ops i sl ms Γ m)
end Go.Dk
namespace Go.Dk
open Go Go.Li
theorem n9 {t:Nat} {l:LN}:iu t l=true↔t∈l:=by
 induction l with
 | nil=>simp [iu]
 | cons a l ih=>
  unfold iu
  cases hb:Nat.beq t a with
  | true=>simp [Nat.eq_of_beq_eq_true hb]
  | false=>simp only [cond_false,ih,List.mem_cons]; exact ⟨.inr,fun h=>h.resolve_left fun e=>by rw [e,Nat.beq_refl] at hb; cases hb⟩
def l8 (l:LO) (U:LL) (mt:Nat):List (List Nat):=(List.range mt).map fun i=>(List.range l.length).filter (tF l U mt i)
theorem qm {l:LO} {U:LL} {mt i j:Nat} (h:j∈(l8 l U mt).getD i []):j∈(b9 l).getD i []∧tF l U mt i j=true:=by
 unfold l8 at h
 rw [List.getD_eq_getElem?_getD,List.getElem?_map] at h
 by_cases hi:i < mt
 ·rw [List.getElem?_range hi] at h
  have h1:=(List.mem_filter.1 h).2
  refine ⟨?_,h1⟩
  unfold tF at h1
  rw [Bool.and_eq_true] at h1
  simpa using h1.1
 ·rw [List.getElem?_eq_none (by simpa using hi)] at h
  exact absurd h List.not_mem_nil
variable {Z:Nat→Prop}
structure gy (Z:Nat→Prop) (l:LO) (S:List fv) (sl:LQ) (ms:MM):Prop where
 v:∀ p∈sl,∃ j,(j=p.1∨j∈(b9 l).getD p.1 [])∧bw l j=some p.2.1∧∃ s,S[j]? = some s∧s.b=true∧∀ f w r x,s.V f w r x→x=p.2.2
 m:∀ a∈ms,(S[a.j]? = some ⟨true,MV Z a⟩∧bw l a.j=some a.d)∨(S[a.j]? = some ⟨true,Lo Z a⟩∧bw l a.j=none∧∃ k∈(b9 l).getD a.j [],bw l k=some a.d)
 s:∀ i s,S[i]? = some s→Qm Z ((b9 l).getD i []) l s
 d:(ms.map (·.j)).Nodup
 t:∀ i j k,j∈(b9 l).getD k []→k∈(b9 l).getD i []→j∈(b9 l).getD i []
theorem gy.lt {l:LO} {S:List fv} {sl:LQ} {ms:MM} (h:gy Z l S sl ms) {a:gj} (ha:a∈ms):a.j < S.length:=by
 rcases h.m a ha with h | h <;> exact (List.getElem?_eq_some_iff.1 h.1).1
theorem gy.Gr {l:LO} {S S2:List fv} {sl:LQ} {ms:MM} (h:gy Z l S sl ms) {a:gj} (ha:a∈ms) {g:Nat→List Nat} {r:NV} {w:World} (hd:wV l (S++S2) a.j g r w):MV Z a (g a.j) w r (r a.d):=by
 rcases h.m a ha with h1 | h1
 ·have h2:=hd.1 a.d h1.2
  rw [List.getElem?_append_left (List.getElem?_eq_some_iff.1 h1.1).1,h1.1] at h2
  exact h2
 ·obtain ⟨x,hx⟩:=hd.2 h1.2.1 _ (by rw [List.getElem?_append_left (List.getElem?_eq_some_iff.1 h1.1).1]; exact h1.1) rfl
  exact hx
theorem gy.slot {l:LO} {S:List fv} {sl:LQ} {ms:MM} (h:gy Z l S sl ms) {a:gj} (ha:a∈ms) {i:Nat} (hi:a.j∈(b9 l).getD i []):∃ k∈(b9 l).getD i [],bw l k=some a.d:=by
 rcases h.m a ha with h1 | ⟨_,_,k,hk,hd⟩
 ·exact ⟨a.j,hi,h1.2⟩
 ·exact ⟨k,h.t i k a.j hk hi,hd⟩
theorem gy.tc {l:LO} {S S2:List fv} {sl:LQ} {ms:MM} (h:gy Z l S sl ms) {a:gj} (ha:a∈ms):((S++S2)[a.j]? = some ⟨true,MV Z a⟩∧bw l a.j=some a.d)∨((S++S2)[a.j]? = some ⟨true,Lo Z a⟩∧bw l a.j=none∧∃ k∈(b9 l).getD a.j [],bw l k=some a.d):=by
 rw [List.getElem?_append_left (h.lt ha)]
 exact h.m a ha
theorem gy.JH {l:LO} {S S2:List fv} {sl:LQ} {ms:MM} (h:gy Z l S sl ms) {p:Nat×Nat×Value} (hp:p∈sl):∃ j,(j=p.1∨j∈(b9 l).getD p.1 [])∧bw l j=some p.2.1∧∃ s,(S++S2)[j]? = some s∧s.b=true∧∀ f w r x,s.V f w r x→x=p.2.2:=by
 obtain ⟨j,hj,h1,s,h2,h3⟩:=h.v p hp
 exact ⟨j,hj,h1,s,by rw [List.getElem?_append_left (List.getElem?_eq_some_iff.1 h2).1]; exact h2,h3⟩
theorem gy.B3 {l:LO} {S S2:List fv} {sl:LQ} {ms:MM} (h:gy Z l S sl ms) {p:Nat×Nat×Value} (hp:p∈sl) {r:NV} (ho:∀ j,(j=p.1∨j∈(b9 l).getD p.1 [])→j < S.length→Old l (S++S2) j r):r p.2.1=p.2.2:=by
 obtain ⟨j,hj,h1,s,h2,h3,h4⟩:=h.v p hp
 have hl:=(List.getElem?_eq_some_iff.1 h2).1
 have:=ho j hj hl _ h1 s (by rw [List.getElem?_append_left hl]; exact h2)
 rw [if_pos h3] at this
 obtain ⟨f,w,hV⟩:=this
 exact h4 f w r _ hV
theorem gy.val {l:LO} {S:List fv} {sl:LQ} {ms:MM} (h:gy Z l S sl ms) {d:Nat} {u:Value} (hd:bw l S.length=some d):gy Z l (S++[sV u]) ((S.length,d,u) :: sl) ms:=by
 refine ⟨?_,fun a ha=>h.tc ha,?_,h.d,h.t⟩
 ·intro p hp
  rcases List.mem_cons.1 hp with rfl | hp
  ·exact ⟨S.length,.inl rfl,hd,sV u,by simp,rfl,fun _ _ _ _ h=>h⟩
  ·exact h.JH hp
 ·intro i s hs
  by_cases hi:i < S.length
  ·rw [List.getElem?_append_left hi] at hs; exact h.s i s hs
  ·rw [List.getElem?_append_right (by omega)] at hs
   have vJ:i - S.length=0:=by
    have:=(List.getElem?_eq_some_iff.1 hs).1
    simp at this; omega
   rw [vJ] at hs
   cases hs
   exact Gl.n JI
theorem gy.mem {l:LO} {S:List fv} {sl:LQ} {ms:MM} (h:gy Z l S sl ms) {b:gj} (hj:b.j=S.length) (hd:bw l S.length=some b.d) (lz:∀ t∈b.src,∃ j∈(b9 l).getD S.length [],bw l j=some t):gy Z l (S++[⟨true,MV Z b⟩]) sl (b :: ms):=by
 have bh:∀ a∈ms,a.j < S.length:=fun a ha=>h.lt ha
 refine ⟨fun p hp=>?_,?_,?_,?_,h.t⟩
 ·exact h.JH hp
 ·intro a ha
  rcases List.mem_cons.1 ha with rfl | ha
  ·exact .inl ⟨by rw [hj]; simp,by rw [hj]; exact hd⟩
  ·exact h.tc ha
 ·intro i s hs
  by_cases hi:i < S.length
  ·rw [List.getElem?_append_left hi] at hs; exact h.s i s hs
  ·rw [List.getElem?_append_right (by omega)] at hs
   have vJ:i - S.length=0:=by
    have:=(List.getElem?_eq_some_iff.1 hs).1
    simp at this; omega
   have Tg:i=S.length:=by omega
   rw [vJ] at hs
   cases hs
   rw [Tg]
   exact Lp lz
 ·rw [List.map_cons,List.nodup_cons]
  refine ⟨fun hm=>?_,h.d⟩
  obtain ⟨a,ha,he⟩:=List.mem_map.1 hm
  have:=bh a ha
  omega
theorem gy.Zk {l:LO} {S:List fv} {sl:LQ} {ms:MM} (h:gy Z l S sl ms) {j d:Nat} {u:Value} (hd:bw l j=some d) {s:fv} (hs:S[j]? = some s) (hb:s.b=true) (hV:∀ f w r x,s.V f w r x→x=u):gy Z l S ((j,d,u) :: sl) ms:=
 ⟨fun p hp=>by
  rcases List.mem_cons.1 hp with rfl | hp
  ·exact ⟨j,.inl rfl,hd,s,hs,hb,hV⟩
  ·exact h.v p hp,h.m,h.s,h.d,h.t⟩
theorem gy.re {l:LO} {S:List fv} {sl:LQ} {ms:MM} (h:gy Z l S sl ms) {j i:Nat} (hj:j∈(b9 l).getD i []):gy Z l S (NP j i sl) ms:=by
 refine ⟨fun p hp=>?_,h.m,h.s,h.d,h.t⟩
 obtain ⟨q,hq,rfl⟩:=List.mem_map.1 hp
 obtain ⟨k,hk,h1⟩:=h.v q hq
 cases hb:Nat.beq q.1 j with
 | false=>exact ⟨k,hk,h1⟩
 | true=>
  refine ⟨k,.inr ?_,h1⟩
  have X5:=Nat.eq_of_beq_eq_true hb
  show k∈(b9 l).getD i []
  rcases hk with rfl | hk
  ·rw [X5]; exact hj
  ·rw [X5] at hk; exact h.t i k j hk hj
theorem gy.Zm {l:LO} {S:List fv} {sl:LQ} {ms:MM} (h:gy Z l S sl ms) {b:gj} (hj:b.j=S.length) (hd:bw l S.length=none) (hk:∃ k∈(b9 l).getD S.length [],bw l k=some b.d) (lz:b.src=[]):gy Z l (S++[⟨true,Lo Z b⟩]) sl (b :: ms):=by
 have bh:∀ a∈ms,a.j < S.length:=fun a ha=>h.lt ha
 refine ⟨fun p hp=>?_,?_,?_,?_,h.t⟩
 ·exact h.JH hp
 ·intro a ha
  rcases List.mem_cons.1 ha with rfl | ha
  ·exact .inr ⟨by rw [hj]; simp,by rw [hj]; exact hd,by rw [hj]; exact hk⟩
  ·exact h.tc ha
 ·intro i s hs
  by_cases hi:i < S.length
  ·rw [List.getElem?_append_left hi] at hs; exact h.s i s hs
  ·rw [List.getElem?_append_right (by omega)] at hs
   have vJ:i - S.length=0:=by
    have:=(List.getElem?_eq_some_iff.1 hs).1
    simp at this; omega
   have Tg:i=S.length:=by omega
   rw [vJ] at hs
   cases hs
   rw [Tg]
   exact JC hk fun t ht=>by rw [lz] at ht; cases ht
 ·rw [List.map_cons,List.nodup_cons]
  refine ⟨fun hm=>?_,h.d⟩
  obtain ⟨a,ha,he⟩:=List.mem_map.1 hm
  have:=bh a ha
  omega
theorem l4 {l:LO} {m:Nat} {base:Fr} {r r0:NV} (hh:mm l m base=true) (ha:dc r0 base) (ho:∀ t,(∀ j,j < m→bw l j≠some t)→r t=r0 t):dc r base:=by
 intro t v hl
 have hm:∃ u,(t,u)∈base:=by
  clear hh ha
  induction base with
  | nil=>cases hl
  | cons p base ih=>
   obtain ⟨a,u⟩:=p
   unfold look at hl
   cases hb:Nat.beq t a with
   | true=>exact ⟨u,by rw [Nat.eq_of_beq_eq_true hb]; simp⟩
   | false=>rw [hb] at hl; obtain ⟨u',h⟩:=ih hl; exact ⟨u',by simp [h]⟩
 obtain ⟨u,hu⟩:=hm
 rw [ho t fun j hj=>Lr hh (t,u) hu j hj]
 exact ha t v hl
section
variable {P:Program} {l:LO} {mt:Nat} {S:List fv} {sl:LQ} {ms:MM} {base fr:Fr} {r r0:NV} {w w0:World} {g:Nat→List Nat} {i:Nat} {A:LN} {U:LL}
theorem qn (hR:gy Z l S sl ms) (hA:A=(l8 l U mt).getD i []) (hv:eS A none sl base fr) (hb:dc r base) {S':List fv} (hO:∀ j∈(b9 l).getD i [],Old l (S++S') j r):dc r fr:=by
 refine hv.sound hb ?_ (fun _ _ _ h=>nomatch h)
 intro p hp hm
 have hi:=(qm (by rw [← hA]; exact n9.1 hm)).1
 exact hR.B3 hp fun j hj _=>hO j (hj.elim (fun e=>e ▸ hi) fun hj=>hR.t i j p.1 hj hi)
theorem NQ {H:LN} {o:Oper} {u:Value} (hh:mm l mt base=true) (ha:dc r0 base) (hR:gy Z l S sl ms) (ho:l[S.length]? = some o) (hg:o.guard=none) (hA:A=(l8 l U mt).getD S.length []) (hv:eS A none sl base fr)
  (h:∀ r,dc r fr→∀ w,an H w0 w→(execOp (ev r) o).run P w = .ok (.value u) w):jx P l mt (S++[sV u]) U r0 w0 H S.length:=
 jx.val ho (by simp) hg fun g r w hC hO hn ly=>h r (qn hR hA hv (l4 hh ha ly) hO) w hC
end
end Go.Dk
namespace Go.Dk
open Go Go.Li
section
variable {R S:Type} {P:Program} {cx:Cx R} {K:de R S} {l tail:LO} {base fr:Fr} {w:World} {Z:Nat→Prop} {U:LL}
def ke (P:Program) (Z:Nat→Prop) (l:LO) (mt:Nat) (U:LL) (r0:NV) (w0:World) (H:LN) (i:Nat) (sl:LQ) (ms:MM):Prop:=
 ∃ S:List fv,S.length=i∧gy Z l S sl ms∧∀ j,j < i→jx P l mt S U r0 w0 H j
def tA (B:Bs) (Z:Nat→Prop) (hd Γ:QE) (H:LN) (w:World):Prop:=∃ F Hd,(SA Z w hd [] Hd∧(∀ b∈Hd,b∈H∧b < w.heap.size)∧(∀ b∈H,b < w.heap.size)∧Hd.Nodup)∧SA Z w Γ [] F∧Gd B Z (H++F) w
theorem tA.stay {B:Bs} {Γ:QE} {F H:LN} {w w':World} (hS:SA Z w Γ [] F) (hG:Gd B Z (H++F) w) (hC:an H w w'):SA Z w' Γ [] F:=
 hS.ec hC (fun b hb=>hG.apart b (List.mem_append_left _ hb)) (fun _ _=>List.not_mem_nil) (fun b hb hf=>(List.nodup_append.1 hG.nd).2.2 b hb b hf rfl)
def Fin (P:Program) (cx:Cx R) (K:de R S) (l l0:LO) (mt:Nat) (U:LL) (hd:QE) (_id:Nat) (base:Fr) (i:Nat) (sl:LQ) (ms:MM) (Γ:QE) (m:Option (Out S R)):Prop:=
 ∀ B o,m=some o→∀ r0 w0 H Z,dc r0 base→tA B Z hd Γ H w0→ke P Z l mt U r0 w0 H i sl ms→nm P cx.n l0 (km P cx B K o) r0 w0
theorem ke.re {mt:Nat} {r0:NV} {w0:World} {H:LN} {i k j:Nat} {sl:LQ} {ms:MM} (h:ke P Z l mt U r0 w0 H k sl ms) (hj:j∈(b9 l).getD i []):ke P Z l mt U r0 w0 H k (NP j i sl) ms:=by
 obtain ⟨S,h1,h2,h3⟩:=h
 exact ⟨S,h1,h2.re hj,h3⟩
structure wc (l:LO) (mt:Nat) (U:LL) (as:LL) (ops:LO) (i:Nat):Prop where
 a:as=(l8 l U mt).drop i
 o:ops=(l.take mt).drop i
 le:i≤mt
structure Th (l:LO) (mt:Nat) (U:LL) (A:LN) (op:Op) (ty:TI) (as:LL) (ops:LO) (i:Nat):Prop where
 A:A=(l8 l U mt).getD i []
 o:∃ pos ah,l[i]? = some ⟨none,op,ty,pos,ah,none⟩
 n:wc l mt U as ops (i+1)
theorem wc.JG {mt:Nat} {A:LN} {as:LL} {op:Op} {ty:TI} {pos:String} {ah:Array Edge} {ops:LO} {i:Nat} (h:wc l mt U (A :: as) (⟨none,op,ty,pos,ah,none⟩ :: ops) i):Th l mt U A op ty as ops i:=by
 obtain ⟨h1,h2,h3⟩:=h
 have e1:(l8 l U mt)[i]? = some A:=by
  have:=congrArg (fun x=>x[0]?) h1
  simpa using this.symm
 have e2:(l.take mt)[i]? = some ⟨none,op,ty,pos,ah,none⟩:=by
  have:=congrArg (fun x=>x[0]?) h2
  simpa using this.symm
 have t1:as=(l8 l U mt).drop (i+1):=by
  have:=congrArg List.tail h1
  simpa [List.tail_drop] using this
 have t2:ops=(l.take mt).drop (i+1):=by
  have:=congrArg List.tail h2
  simpa [List.tail_drop] using this
 have hi:i < mt:=by
  have:=(List.getElem?_eq_some_iff.1 e1).1
  simpa [l8] using this
 rw [List.getElem?_take,if_pos hi] at e2
 exact ⟨by rw [List.getD_eq_getElem?_getD,e1]; rfl,⟨pos,ah,e2⟩,t1,t2,hi⟩
structure sc (l:LO) (mt:Nat) (U:LL) (A:LN) (op:Op) (d:Nat) (ty:TI) (as:LL) (ops:LO) (i:Nat):Prop where
 A:A=(l8 l U mt).getD i []
 o:∃ pos ah,l[i]? = some ⟨some d,op,ty,pos,ah,none⟩
 n:wc l mt U as ops (i+1)
theorem wc.cons {mt:Nat} {A:LN} {as:LL} {op:Op} {d:Nat} {ty:TI} {pos:String} {ah:Array Edge} {ops:LO} {i:Nat} (h:wc l mt U (A :: as) (⟨some d,op,ty,pos,ah,none⟩ :: ops) i):sc l mt U A op d ty as ops i:=by
 obtain ⟨h1,h2,h3⟩:=h
 have e1:(l8 l U mt)[i]? = some A:=by
  have:=congrArg (fun x=>x[0]?) h1
  simpa using this.symm
 have e2:(l.take mt)[i]? = some ⟨some d,op,ty,pos,ah,none⟩:=by
  have:=congrArg (fun x=>x[0]?) h2
  simpa using this.symm
 have t1:as=(l8 l U mt).drop (i+1):=by
  have:=congrArg List.tail h1
  simpa [List.tail_drop] using this
 have t2:ops=(l.take mt).drop (i+1):=by
  have:=congrArg List.tail h2
  simpa [List.tail_drop] using this
 have hi:i < mt:=by
  have:=(List.getElem?_eq_some_iff.1 e1).1
  simpa [l8] using this
 rw [List.getElem?_take,if_pos hi] at e2
 exact ⟨by rw [List.getD_eq_getElem?_getD,e1]; rfl,⟨pos,ah,e2⟩,t1,t2,hi⟩
theorem wc.next {mt:Nat} {A:LN} {as:LL} {o:Oper} {ops:LO} {i:Nat} (h:wc l mt U (A :: as) (o :: ops) i):A=(l8 l U mt).getD i []∧l[i]? = some o∧wc l mt U as ops (i+1):=by
 obtain ⟨h1,h2,h3⟩:=h
 have e1:(l8 l U mt)[i]? = some A:=by
  have:=congrArg (fun x=>x[0]?) h1
  simpa using this.symm
 have e2:(l.take mt)[i]? = some o:=by
  have:=congrArg (fun x=>x[0]?) h2
  simpa using this.symm
 have t1:as=(l8 l U mt).drop (i+1):=by
  have:=congrArg List.tail h1
  simpa [List.tail_drop] using this
 have t2:ops=(l.take mt).drop (i+1):=by
  have:=congrArg List.tail h2
  simpa [List.tail_drop] using this
 have hi:i < mt:=by
  have:=(List.getElem?_eq_some_iff.1 e1).1
  simpa [l8] using this
 rw [List.getElem?_take,if_pos hi] at e2
 exact ⟨by rw [List.getD_eq_getElem?_getD,e1]; rfl,e2,t1,t2,hi⟩
theorem ke.skip {mt:Nat} {A:LN} {j d:Nat} {p:Bool} {dst:Option Nat} {op:Op} {ty:TI} {pos:String} {ah:Array Edge} {i:Nat} {sl:LQ} {ms:MM} {r0:NV} {w0:World} {H:LN} (h:ke P Z l mt U r0 w0 H i sl ms) (hA:A=(l8 l U mt).getD i []) (ho:l[i]? = some ⟨dst,op,ty,pos,ah,some (j,p)⟩)
  (hd:bw l j=some d) (hb:JF sl j d (!p)=true) (hj:iu j A=true):ke P Z l mt U r0 w0 H (i+1) sl ms:=by
 obtain ⟨S',hl,hR,hO⟩:=h
 subst hl
 have ES:j∈(b9 l).getD S'.length []:=(qm (by rw [← hA]; exact n9.1 hj)).1
 have hm:=Lq hb
 have hR2:gy Z l (S'++[⟨false,fun _ _ _ _=>True⟩]) sl ms:=by
  refine ⟨fun q hq=>hR.JH hq,fun a ha=>hR.tc ha,fun i s hs=>?_,hR.d,hR.t⟩
  by_cases hi:i < S'.length
  ·rw [List.getElem?_append_left hi] at hs; exact hR.s i s hs
  ·rw [List.getElem?_append_right (by omega)] at hs
   have vJ:i - S'.length=0:=by
    have:=(List.getElem?_eq_some_iff.1 hs).1
    simp at this; omega
   rw [vJ] at hs
   cases hs
   exact fun _ _ _ _ _ _ _ _ _ _ _ _=>trivial
 refine ⟨S'++[⟨false,fun _ _ _ _=>True⟩],by simp,hR2,fun k hk=>?_⟩
 by_cases h2:k < S'.length
 ·exact jx.more (hO k h2) h2
 ·obtain rfl:k=S'.length:=by omega
  intro o s cc hs g r w hC hV mq hn ly tX hf
  rw [ho] at cc
  obtain rfl:=Option.some.inj cc
  rw [List.getElem?_append_right (Nat.le_refl _),Nat.sub_self] at hs
  obtain rfl:_=s:=Option.some.inj hs
  rw [if_neg (by simp)]
  have hr:r d = .bool (!p):=hR.B3 (S2:=[⟨false,fun _ _ _ _=>True⟩]) hm fun q hq _=>mq q (hq.elim (fun e=>e ▸ ES) fun e=>hR.t _ _ _ e ES)
  unfold Region.wanted
  dsimp only
  rw [Qd hd,hr]
  cases p <;> rfl
theorem ke.val {mt:Nat} {A:LN} {op:Op} {d:Nat} {ty:TI} {as:LL} {ops:LO} {i:Nat} {sl:LQ} {ms:MM} {r0:NV} {w0:World} {H:LN} {u:Value} (h:ke P Z l mt U r0 w0 H i sl ms) (hh:mm l mt base=true) (ha:dc r0 base) (h1:sc l mt U A op d ty as ops i)
  (hv:eS A none sl base fr) (hq:∀ r,dc r fr→∀ pos ah g w,an H w0 w→(execOp (ev r) ⟨some d,op,ty,pos,ah,g⟩).run P w = .ok (.value u) w):ke P Z l mt U r0 w0 H (i+1) ((i,d,u) :: sl) ms:=by
 obtain ⟨S',hl,hR,hO⟩:=h
 subst hl
 obtain ⟨hA,⟨pos,ah,ho⟩,_⟩:=h1
 refine ⟨S'++[sV u],by simp,hR.val (by unfold bw; rw [ho]; rfl),fun j hj=>?_⟩
 by_cases h2:j < S'.length
 ·exact jx.more (hO j h2) h2
 ·obtain rfl:j=S'.length:=by omega
  exact NQ hh ha hR ho rfl hA hv fun r hr=>hq r hr _ _ _
def JJ (P:Program) (Z:Nat→Prop) (l:LO) (mt:Nat) (U:LL) (r0:NV) (w0:World) (H:LN) (i:Nat) (sl:LQ) (ms:MM) (a:gj):Prop:=
 ∃ S:List fv,S.length=i∧gy Z l S sl ms∧(∀ j,j < i→jx P l mt S U r0 w0 H j)∧
  ∀ V:List Nat→World→(Nat→Value)→Value→Prop,(∀ f w r x,MV Z a f w r x→∃ f',(∀ b∈f',b∈f)∧V f' w r x)→jx P l mt (S++[⟨true,V⟩]) U r0 w0 H i
theorem HL.front {Δ Γ:QE} {Fd F:LN} (h:HL Z w Δ Fd) (hs:SA Z w Γ [] F):SA Z w (Δ++Γ) [] (Fd++F):=by
 induction h with
 | nil=>exact hs
 | own h _ ih=>rw [List.append_assoc]; exact SA.cons ih h
 | fact h _ ih=>exact SA.fact ih h
def AI (A:LN) (g:Nat→List Nat):List gj→List Nat
 | []=>[]
 | a :: l=>bif iu a.j A then g a.j++AI A g l else AI A g l
def HV (Z:Nat→Prop) (w:World) (Δ:QE) (B:LN):Prop:=∃ Vo Vr,(∀ b∈Vo++Vr,b∈B)∧(∀ b∈Vr,b < w.heap.size)∧HL (fun b=>Z b∨b∈Vr) w Δ Vo
theorem HV.front {Δ Γ:QE} {B F:LN} (h:HV Z w Δ B) (hs:SA Z w Γ [] F):∃ G:List Nat,(∀ b∈G,b∈B++F∧b < w.heap.size)∧∃ F':List Nat,(∀ b∈F',b∈G)∧SA (fun b=>Z b∨b∈G) w (Δ++Γ) [] F':=by
 obtain ⟨Vo,Vr,h1,h2,h3⟩:=h
 have hS:=h3.front (hs.mono (Z':=fun b=>Z b∨b∈Vr) (fun _ h=>.inl h) fun _ h=>h)
 refine ⟨Vr++(Vo++F),fun b hb=>?_,Vo++F,fun b hb=>List.mem_append_right _ hb,hS.mono (fun b h=>h.imp id fun h=>List.mem_append_left _ h) fun _ h=>h⟩
 rcases List.mem_append.1 hb with hb | hb
 ·exact ⟨List.mem_append_left _ (h1 b (List.mem_append_right _ hb)),h2 b hb⟩
 ·refine ⟨?_,hS.lt b hb⟩
  rcases List.mem_append.1 hb with hb | hb
  ·exact List.mem_append_left _ (h1 b (List.mem_append_left _ hb))
  ·exact List.mem_append_right _ hb
theorem HV.app {Δ Δ':QE} {f B:LN} (h:HN Z w Δ f) (k:HV Z w Δ' B):HV Z w (Δ++Δ') (f++B):=by
 obtain ⟨Fo,Fr,rfl,h1,h2⟩:=h.all
 obtain ⟨Vo,Vr,k1,k2,k3⟩:=k
 refine ⟨Fo++Vo,Fr++Vr,fun b hb=>?_,fun b hb=>(List.mem_append.1 hb).elim (h1 b) (k2 b),(h2.mono fun b h=>h.imp id fun h=>List.mem_append_left _ h).app (k3.mono fun b h=>h.imp id fun h=>List.mem_append_right _ h)⟩
 have:=fun h=>k1 b h
 simp only [List.mem_append] at hb this ⊢
 rcases hb with (h | h) | h | h
 ·exact .inl (.inl h)
 ·exact .inr (this (.inl h))
 ·exact .inl (.inr h)
 ·exact .inr (this (.inr h))
theorem WY {A:LN} {g:Nat→List Nat} {r:NV}:∀ {ms:MM},sw ms→uC A ms=true→(∀ a∈ms,iu a.j A=true→MV Z a (g a.j) w r (r a.d))→
  ∃ x:qy ms,(∀ p∈ri A ms x,r p.1=p.2)∧HV Z w (th A ms x) (AI A g ms):=by
 intro ms
 induction ms with
 | nil=>intro _ _ _; exact ⟨(),fun p hp=>absurd hp List.not_mem_nil,[],[],fun b (h:b∈[])=>absurd h List.not_mem_nil,fun b (h:b∈[])=>absurd h List.not_mem_nil,.nil⟩
 | cons a ms ih=>
  intro hi lz h
  unfold uC at lz
  rw [Bool.and_eq_true] at lz
  cases hi with
  | cons h1 h2=>
   obtain ⟨x,hx,hl⟩:=ih h2 lz.2 fun b hb=>h b (List.mem_cons_of_mem _ hb)
   cases hb:iu a.j A with
   | false=>
    obtain ⟨v⟩:=h1.ne
    refine ⟨(v,x),?_,?_⟩
    ·simp only [ri,hb,cond_false]; exact hx
    ·simp only [th,AI,hb,cond_false]; exact hl
   | true=>
    obtain ⟨v,e1,e2,_⟩:=h a (by simp) hb
    have es:yj a r=AE a (mF ms x):=by
     have h3:=lz.1
     rw [hb,cond_true,List.all_eq_true] at h3
     refine BB fun t ht=>?_
     have h4:=h3 t ht
     cases hj:tK t ms with
     | none=>rw [hj] at h4; cases h4
     | some j=>rw [hj] at h4; unfold xR; rw [Gk hj h4 hx]
    rw [es] at e1 e2
    refine ⟨(v,x),?_,?_⟩
    ·simp only [ri,hb,cond_true]
     intro p hp
     rcases List.mem_cons.1 hp with rfl | hp
     ·exact e1
     ·exact hx p hp
    ·simp only [th,AI,hb,cond_true]; exact HV.app e2 hl
theorem NR {t j:Nat}:∀ {ms:MM},tK t ms=some j→∃ a∈ms,a.j=j∧a.d=t:=by
 intro ms
 induction ms with
 | nil=>intro h; cases h
 | cons a l ih=>
  intro h
  unfold tK at h
  cases hb:Nat.beq t a.d with
  | true=>rw [hb] at h; cases h; exact ⟨a,by simp,rfl,(Nat.eq_of_beq_eq_true hb).symm⟩
  | false=>rw [hb] at h; obtain ⟨b,h1,h2⟩:=ih h; exact ⟨b,List.mem_cons_of_mem _ h1,h2⟩
theorem Rq {mt i:Nat} {A:LN} (hA:A=(l8 l U mt).getD i []) {S':List fv} {sl:LQ} {ms:MM} {t:Nat} (hR:gy Z l S' sl ms) (hj:∃ j,tK t ms=some j∧iu j A=true):∃ j∈(b9 l).getD i [],bw l j=some t:=by
 obtain ⟨j,h1,h2⟩:=hj
 obtain ⟨a,ha,rfl,rfl⟩:=NR h1
 exact hR.slot ha (qm (by rw [← hA]; exact n9.1 h2)).1
theorem B3 {mt:Nat} {A:LN} {S' S2:List fv} {sl:LQ} {ms:MM} {g:Nat→List Nat} {r:NV} (hR:gy Z l S' sl ms) (hA:A=(l8 l U mt).getD S'.length []) (hi:sw ms) (lz:uC A ms=true) (hn:∀ j,tF l U mt S'.length j=true→wV l (S'++S2) j g r w) :
  ∃ x:qy ms,(∀ p∈ri A ms x,r p.1=p.2)∧HV Z w (th A ms x) (AI A g ms):=
 WY hi lz fun a hm hb=>by
  exact hR.Gr hm (hn a.j (qm (by rw [← hA]; exact n9.1 hb)).2)
theorem ke.mem {mt:Nat} {A:LN} {op:Op} {d:Nat} {ty:TI} {as:LL} {ops:LO} {i:Nat} {sl:LQ} {ms:MM} {r0:NV} {w0:World} {H:LN} {a:gj} (h:ke P Z l mt U r0 w0 H i sl ms) (h1:sc l mt U A op d ty as ops i) (haj:a.j=i) (had:a.d=d)
  (lz:∀ S',gy Z l S' sl ms→∀ t∈a.src,∃ j∈(b9 l).getD i [],bw l j=some t)
  (hq:∀ S' S2,S'.length=i→gy Z l S' sl ms→∀ (g:Nat→List Nat) (r:NV) (w:World),an H w0 w→(∀ j∈(b9 l).getD S'.length [],Old l (S'++S2) j r)→(∀ j,tF l U mt S'.length j=true→wV l (S'++S2) j g r w)→(∀ t,(∀ j,j < mt→bw l j≠some t)→r t=r0 t)→∀ pos ah,
   gf P ⟨some d,op,ty,pos,ah,none⟩ r w fun v w'=>an [] w w'∧∃ f,(∀ b∈f,w.heap.size≤b∧b < w'.heap.size)∧MV Z a f w' r v):ke P Z l mt U r0 w0 H (i+1) sl (a :: ms):=by
 obtain ⟨S',hl,hR,hO⟩:=h
 subst hl
 subst had
 obtain ⟨hA,⟨pos,ah,ho⟩,_⟩:=h1
 refine ⟨S'++[⟨true,MV Z a⟩],by simp,hR.mem haj (by unfold bw; rw [ho]; rfl) (lz S' hR),fun j hj=>?_⟩
 by_cases h2:j < S'.length
 ·exact jx.more (hO j h2) h2
 ·obtain rfl:j=S'.length:=by omega
  exact jx.Ti (V:=MV Z a) ho (by simp) rfl fun g r w hC hO hn ly=>hq S' _ rfl hR g r w hC hO hn ly pos ah
theorem vi.sub {ms Ah:MM} {a:gj} {t:Nat} (h:vi ms t a Ah):a∈ms∧a.d=t∧(∀ b∈Ah,b∈ms)∧(Ah.map (·.j)).Sublist (ms.map (·.j)):=by
 induction h with
 | here=>exact ⟨by simp,rfl,fun b hb=>List.mem_cons_of_mem _ hb,by simp⟩
 | there _ ih=>
  obtain ⟨h1,h2,h3,h4⟩:=ih
  refine ⟨List.mem_cons_of_mem _ h1,h2,fun b hb=>?_,by simpa using h4⟩
  rcases List.mem_cons.1 hb with rfl | hb
  ·simp
  ·exact List.mem_cons_of_mem _ (h3 b hb)
theorem gy.sub {S':List fv} {sl:LQ} {ms Ah:MM} (h:gy Z l S' sl ms) (hm:∀ b∈Ah,b∈ms) (hn:(Ah.map (·.j)).Sublist (ms.map (·.j))):gy Z l S' sl Ah:=⟨h.v,fun a ha=>h.m a (hm a ha),h.s,h.d.sublist hn,h.t⟩
theorem Rs {mt:Nat} {t e et:TI} {E:ai Int} {z0:Int} {bt t1 t2 j2 d2 i d:Nat} {k:IntKind} {y:Int} {xs:List Int} {a1:gj} {ms o5 Gq:MM} {sl:LQ} {A:LN} {ty:TI} {as:LL} {ops:LO} {r0:NV} {w0:World} {H:LN} (hz:uw P t Int e E z0 bt) (h1:vi ms t1 a1 o5) (h2:vi o5 t2 ⟨j2,d2,[],Nat,fun _ b=>.slice (some ⟨b,0,none⟩) 1 1,fun _ b=>[.row b [.int k y] et]⟩ Gq) (h3:∀ u v,a1.ps u v=[.own (aI e (aK k)) (a1.rt u v) xs]) (h4:iu a1.j A=true) (h5:iu j2 A=true) (h6:U.getD i []=[a1.j])
  (hf:fits bt (xs.length+1)=some ()) (Ge:sc l mt U A (.call ⟨.builtin .append,#[.tmp t1,.tmp t2],#[t,t]⟩) d ty as ops i) (h:ke P Z l mt U r0 w0 H i sl ms) :
  ke P Z l mt U r0 w0 H (i+1) sl (⟨i,d,[],Value,fun _ v=>v,fun _ v=>[.own (aI e (aK k)) v (xs++[y])]⟩ :: o5):=by
 obtain ⟨S',hl,hR,hO⟩:=h
 subst hl
 obtain ⟨hA,⟨pos,ah,ho⟩,_⟩:=Ge
 obtain ⟨b1,b2⟩:=qx hf
 obtain ⟨q1,hE,i',z,q3,q4,q5,q6,q7,q8⟩:=hz.h
 obtain ⟨m1,m2,m3,m4⟩:=h1.sub
 obtain ⟨n1,n2,_,_⟩:=h2.sub
 refine ⟨S'++[⟨true,MV Z ⟨S'.length,d,[],Value,fun _ v=>v,fun _ v=>[.own (aI e (aK k)) v (xs++[y])]⟩⟩],by simp,(hR.sub m3 m4).mem rfl (by unfold bw; rw [ho]; rfl) (by intro t h; cases h),fun j hj=>?_⟩
 by_cases bh:j < S'.length
 ·exact jx.more (hO j bh) bh
 ·obtain rfl:j=S'.length:=by omega
  intro o' s' cc dy g r w hC ET mq hn ly yk qd
  rw [ho] at cc
  cases cc
  rw [List.getElem?_append_right (Nat.le_refl _),Nat.sub_self] at dy
  cases dy
  rw [if_pos rfl]
  refine ⟨rfl,?_⟩
  have get:∀ a∈ms,iu a.j A=true→MV Z a (g a.j) w r (r a.d):=fun a hm hb=>by
   exact hR.Gr hm (hn a.j (qm (by rw [← hA]; exact n9.1 hb)).2)
  obtain ⟨v1,c1,c2,c3⟩:=get a1 m1 h4
  obtain ⟨v2,f1,f2,f3⟩:=get _ (m3 _ n1) h5
  rw [h3,← c1,m2] at c2
  rw [m2] at c1
  simp only at f1 f2
  subst n2
  replace c2:=c2.own rfl
  replace f2:=f2.own rfl
  generalize EH:g a1.j=G1 at c2 c3
  generalize pg:g j2=G2 at f2 f3
  cases c2 with
  | fact h _=>exact h.elim
  | @own _ ff F0 _ NS zq=>
   cases zq
   rw [List.append_nil] at c3
   cases f2 with
   | fact h _=>exact h.elim
   | @own _ gg F0 _ bj zq=>
    cases zq
    obtain ⟨rfl,bj⟩:=bj
    have hb:qo g (U.getD S'.length [])=ff:=by rw [h6]; simp [qo,EH]
    refine rj (gf.wN (E:=aK k) (F:=ff) q1 q3 q4 q5 rfl q6 (s:=.tmp t1) (x:=.tmp d2) rfl ⟨NS,c3⟩ (fun b hb=>hb) f1 bj ⟨rfl,rfl⟩ (by rw [q7]; exact b1) b2) ?_
    rintro v w' ⟨Gs,f',wW,hV⟩
    rw [hb]
    refine ⟨Gs,f',wW,v,rfl,?_,hV.2⟩
    have:=HL.own (Z:=fun _=>False) (e:=.own (aI e (aK k)) v (xs++[y])) (f:=f') hV.1 .nil
    exact .inl (by simpa using this)
theorem gf.BA {α:Type} {E:ai α} {F f k:LN} {t e:TI} {s x:OO} {i:TypeInfo} {z:Value} {sv yv:Value} {xs ys:List α} {r:NV} {w:World} {d:Option Nat} {ty:TI} {pos:String} {ah:Array Edge} (Tj:∀ {h cs x f},E.rep h cs x f→f=[])
  (ht:P.underlying t=some (.slice e)) (hi:P.info? e=some i) (hz:i.zero=some z) (hs:i.size=1) (hE:E.size=1) (uX:z.oneCell'=true)
  (vK:ev r s=sv) (hO:D6 (aI e E) xs f w sv) (hF:∀ b∈f,b∈F) (hx:ev r x=yv) (hy:(bG E).rep w.heap [yv] ys k)
  (hb:(xs.length+ys.length) * i.bytes≤140737488355328) (xS:xs.length+ys.length≤maxLen) :
  gf P ⟨d,.call ⟨.builtin .append,#[s,x],#[t,t]⟩,ty,pos,ah,none⟩ r w fun v w'=>an F w w'∧∃ f',(∀ b∈f',(b∈F∨w.heap.size≤b)∧b < w'.heap.size)∧D6 (aI e E) (xs++ys) f' w' v:=by
 have rz:=EU hy
 rcases Nat.eq_zero_or_pos ys.length with B4 | B4
 ·obtain rfl:ys=[]:=List.eq_nil_of_length_eq_zero B4
  obtain ⟨b0,c0,Gt⟩:=wM hy
  obtain ⟨base,cap,hv,hr⟩:=hO.1
  obtain rfl:sv = .slice base xs.length cap:=by simpa using hv
  have Gu:xs.length≤cap:=by
   rcases hr with ⟨_,rfl,rfl,_⟩ | ⟨_,_,_,_,_,_,h,_⟩
   ·simp
   ·exact h
  have mr:=yC (P:=P) (w:=w) (ty:=ty) ht hi (b:=base) (a:=b0) (c:=c0) Gu
  subst Gt
  have WZ:(execOp (ev r) ⟨d,.call ⟨.builtin .append,#[s,x],#[t,t]⟩,ty,pos,ah,none⟩).run P w = .ok (.value (.slice base xs.length cap)) w:=by
   simp only [execOp,resolve,invoke,builtin,Sem.run_bind,Sem.run_pure,Result.andThen_ok,List.map_toArray,List.map_cons,List.map_nil,vK,hx,List.length_nil,mr]
  unfold gf
  rw [WZ]
  exact ⟨an.refl _ _,f,fun b hb=>⟨.inl (hF b hb),ai.lt _ hO.1 b hb⟩,by rw [List.append_nil]; exact hO⟩
 ·rcases rz with rfl | ⟨a,c,news,g1,Gt,zr,dp,_⟩
  ·simp at B4
  ·obtain ⟨rfl,_⟩:=AJ (h':=w.heap) Tj dp
   obtain ⟨v,w',f',h,hC,Fx,dq,dt⟩:=pj (d:=d) (ty:=ty) (pos:=pos) (ah:=ah) (g:=none) ht hi hz (by rw [hs,hE]) (by rw [cells_one uX,hE]; rfl) vK hO.1 hO.2 (hx.trans Gt) zr dp (fun _ h=>nomatch h) B4 hb xS
   unfold gf
   rw [h]
   refine ⟨hC.mono hF,f',fun b hb=>⟨?_,ai.lt _ Fx b hb⟩,Fx,dt List.nodup_nil⟩
   rcases dq b hb with h | h | h
   ·exact .inl (hF b h)
   ·cases h
   ·exact .inr h
theorem vv {t:TI} {x y:OO} {i:TypeInfo} {b off:Nat} {cs us:LV} {e:TI} {r:NV} {d:Option Nat} {ty:TI} {pos:String} {ah:Array Edge} {gg:Option (Nat×Bool)}
  (hi:P.info? t=some i) (hs:us.length=i.size) (bj:Row w b cs e) (hl:off+us.length≤cs.length) (hx:ev r x = .pointer (some ⟨b,off,none⟩)) (hy:(ev r y).cells.toList=us) (hu:∀ u∈us,u.oneCell'=true) :
  (execOp (ev r) ⟨d,.store t x y,ty,pos,ah,gg⟩).run P w = .ok .skip (w.setRow b (cs.take off++us++cs.drop (off+us.length)).toArray):=by
 have h:=run_storeCells_at P b off e us 0 cs.toArray w bj (by simpa using hl) hu
 simp only [Nat.add_zero] at h
 have tB:(ev r y).cells=us.toArray:=by rw [← hy]
 simp only [execOp,Instr.storeAt,Instr.sureAddr,hx,storeVar]
 simp [tB,sizeOf,typeInfo,hi,hs,h]
theorem Ru {mt:Nat} {t e:TI} {t1 j1 n i:Nat} {y:OO} {u:Value} {us cs ds:LV} {ms o5:MM} {sl:LQ} {A:LN} {ty:TI} {as:LL} {ops:LO} {r0:NV} {w0:World} {H:LN} {Γ:QE} {F:LN} (hh:mm l mt base=true) (ha:dc r0 base) (ht:wk P t n)
  (h1:vi ms t1 ⟨j1,t1,[],Nat,fun _ b=>.pointer (some ⟨b,0,none⟩),fun _ b=>[.row b cs e]⟩ o5) (hv:eS A none sl base fr) (hy:bn fr y=some u) (hc:su Γ u us) (vG:us.length=n) (hs:tI us 0 cs ds) (ho:u7 Γ us) (h4:iu j1 A=true) (h6:U.getD i []=[j1])
  (hS:∀ w,an H w0 w→SA Z w Γ [] F) (Ge:Th l mt U A (.store t (.tmp t1) y) ty as ops i) (h:ke P Z l mt U r0 w0 H i sl ms) :
  ke P Z l mt U r0 w0 H (i+1) sl (⟨i,t1,[],Nat,fun _ b=>.pointer (some ⟨b,0,none⟩),fun _ b=>[.row b ds e]⟩ :: o5):=by
 obtain ⟨S',hl,hR,hO⟩:=h
 subst hl
 obtain ⟨hA,⟨pos,ah,X6⟩,_⟩:=Ge
 obtain ⟨ti,q1,q2⟩:=ht.h
 obtain ⟨m1,_,m3,m4⟩:=h1.sub
 have D8:=qm (by rw [← hA]; exact n9.1 h4)
 refine ⟨S'++[⟨true,Lo Z ⟨S'.length,t1,[],Nat,fun _ b=>.pointer (some ⟨b,0,none⟩),fun _ b=>[.row b ds e]⟩⟩],by simp,(hR.sub m3 m4).Zm (b:=⟨S'.length,t1,[],Nat,fun _ b=>.pointer (some ⟨b,0,none⟩),fun _ b=>[.row b ds e]⟩) rfl (by unfold bw; rw [X6]; rfl) (hR.slot m1 D8.1) rfl,fun j hj=>?_⟩
 by_cases bh:j < S'.length
 ·exact jx.more (hO j bh) bh
 ·obtain rfl:j=S'.length:=by omega
  intro o' s' cc dy g r w hC ET mq hn ly yk qd
  rw [X6] at cc
  cases cc
  rw [List.getElem?_append_right (Nat.le_refl _),Nat.sub_self] at dy
  cases dy
  rw [if_pos rfl]
  refine ⟨rfl,?_⟩
  obtain ⟨b,c1,c2,c3⟩:=hR.Gr m1 (hn j1 D8.2)
  simp only at c1 c2
  replace c2:=c2.own rfl
  generalize EH:g j1=G1 at c2 c3
  cases c2 with
  | fact h _=>exact h.elim
  | @own _ ff F0 _ NS zq=>
   cases zq
   obtain ⟨rfl,bj⟩:=NS
   have hb:qo g (U.getD S'.length [])=[b]:=by rw [h6]; simp [qo,EH]
   have hr:=qn hR hA hv (l4 hh ha ly) mq
   obtain ⟨e1,e2⟩:=hs.eq
   have Gg:=hS w hC
   have mr:=vv (P:=P) (d:=none) (ty:=ty) (pos:=pos) (ah:=ah) (gg:=none) q1 (by rw [vG,q2]) bj e1 (x:=.tmp t1) c1 (y:=y) (by rw [bC hr hy]; exact hc.eq Gg) (ho.one Gg)
   unfold gf
   rw [mr,hb]
   have uA:=setRow_heap w b cs.toArray (cs.take 0++us++cs.drop (0+us.length)).toArray e _ bj
   have Zo:b < w.heap.size:=bj.lt
   refine ⟨⟨rfl,rfl,rfl,Nat.le_refl _,by simp,fun j _ hj=>setRow_other w b j _ fun h=>hj (by simp [h])⟩,[b],fun b' cg=>?_,b,c1,?_,by simp⟩
   ·rw [List.mem_singleton.1 cg]
    exact ⟨.inl (by simp),by simpa using Zo⟩
   ·refine .inl (HL.own (f:=[b]) ⟨rfl,?_⟩ .nil)
    rw [e2]
    exact uA
theorem Rv {mt:Nat} {t i d:Nat} {cs:LV} {sl:LQ} {ms:MM} {A:LN} {ty:TI} {as:LL} {ops:LO} {r0:NV} {w0:World} {H:LN} (hz:B1 P t cs) (h1:sc l mt U A (.alloc t) d ty as ops i) (h:ke P Z l mt U r0 w0 H i sl ms) :
   ke P Z l mt U r0 w0 H (i+1) sl (⟨i,d,[],Nat,fun _ b=>.pointer (some ⟨b,0,none⟩),fun _ b=>[.row b cs t]⟩ :: ms):=by
 obtain ⟨i',z,t1,t2,t3⟩:=hz.h
 refine h.mem h1 rfl rfl (fun _ _ _ h=>nomatch h) fun S' S2 hl hR g r w hC mq hn ly pos ah=>rj (gf.Qn (cs:=cs) t1 t2 (by rw [← t3])) ?_
 rintro v w' ⟨hC,f,hf,b,e1,e2,bj⟩
 refine ⟨hC,f,hf,b,e2,?_,by rw [e1]; simp⟩
 have:=HL.own (Z:=fun _=>False) (e:=.row b cs t) (f:=[b]) ⟨rfl,bj⟩ .nil
 rw [e1]
 exact .inl (by simpa using this)
theorem Tk {mt t n:Nat} {A:LN} {st:TI} {d:Nat} {ty:TI} {as:LL} {ops:LO} {i:Nat} {sl:LQ} {ms:MM} {r0:NV} {w0:World} {H:LN} (h:ke P Z l mt U r0 w0 H i sl ms) (h1:sc l mt U A (.call ⟨.builtin .len,#[.tmp t],#[st]⟩) d ty as ops i) (ht:wj P st) (hi:sw ms) (lz:uC A ms=true) (hx:∀ x:qy ms,Tc (ri A ms x) (th A ms x) t n):ke P Z l mt U r0 w0 H (i+1) ((i,d,.int .i64 (n:Int)) :: sl) ms:=by
 obtain ⟨S',hl,hR,hO⟩:=h
 subst hl
 obtain ⟨hA,⟨pos,ah,ho⟩,_⟩:=h1
 obtain ⟨e,i',q1,_,_⟩:=ht.h
 refine ⟨S'++[sV (.int .i64 (n:Int))],by simp,hR.val (by unfold bw; rw [ho]; rfl),fun j hj=>?_⟩
 by_cases h2:j < S'.length
 ·exact jx.more (hO j h2) h2
 ·obtain rfl:j=S'.length:=by omega
  refine jx.val (v:=.int .i64 (n:Int)) ho (by simp) rfl fun g r w hC mq hn ly=>?_
  obtain ⟨x,hv,hE⟩:=B3 hR hA hi lz hn
  obtain ⟨Gv,S7⟩:=hx x
  have Tl:=(wL hv DZ) t _ (by rw [List.append_nil]; exact Gv)
  obtain ⟨_,_,_,_,hS⟩:=hE.front (Γ:=[]) (F:=[]) rfl
  rw [List.append_nil] at hS
  obtain ⟨b,c,rfl⟩:=S7.sound hS
  exact wT q1 (x:=.tmp t) Tl
theorem Rw {mt:Nat} {t:TI} {ps:List (Nat×Operand)} {zc:LV} {pl:List (Nat×Nat)} {A:LN} {as:LL} {d:Nat} {ty:TI} {ops:LO} {i:Nat} {sl:LQ} {ms:MM} {fr:Fr} {hd Γ:QE} {B:Bs} {r0:NV} {w0:World} {H:LN} {X:Value→List Value} {ts:LN} (hh:mm l mt base=true) (hb:Af P t zc pl) (hi:sw ms) (lz:uC A ms=true) (hj:X3 A ms ts=true) (hv:eS A none sl base fr)
   (hx:∀ x:qy ms,wB (th A ms x++Γ) (ri A ms x++fr) pl ps zc (X (AB (xR (mF ms x)) ts))) (h1:sc l mt U A (.build t ps.toArray) d ty as ops i) (ha:dc r0 base) (hs:tA B Z hd Γ H w0) (h:ke P Z l mt U r0 w0 H i sl ms) :
   ke P Z l mt U r0 w0 H (i+1) sl (⟨i,d,ts,Unit,fun u _=>.agg (X u).toArray,fun _ _=>[]⟩ :: ms):=by
 have X7:∀ t∈ts,∃ j,tK t ms=some j∧iu j A=true:=fun t ht=>by
  have:=List.all_eq_true.1 hj t ht
  cases hf:tK t ms with
  | none=>rw [hf] at this; cases this
  | some j=>rw [hf] at this; exact ⟨j,rfl,this⟩
 refine h.mem h1 rfl rfl (fun S' hR t' ht=>Rq h1.A hR (X7 t' ht)) ?_
 intro S' S2 hl hR g r w hC mq hn ly pos ah
 have hA:=h1.A
 rw [← hl] at hA
 have hbs:=qn hR hA hv (l4 hh ha ly) mq
 obtain ⟨x,X8,td⟩:=B3 hR hA hi lz hn
 obtain ⟨F,Hd,⟨B5,B6,wX,B7⟩,hS,hG⟩:=hs
 obtain ⟨G,_,_,_,jf⟩:=td.front (tA.stay hS hG hC)
 have e:AB (xR (mF ms x)) ts=AB r ts:=BB fun t ht=>by
  obtain ⟨j,h2,h3⟩:=X7 t ht
  unfold xR
  rw [Gk h2 h3 X8]
 have hF:=hx x
 rw [e] at hF
 have mr:=(VQ.Qj (P:=P) (hb:=hb) hF).sound jf (wL X8 hbs) (some d) ty pos ah none w (an.refl _ _)
 unfold gf
 rw [mr]
 exact ⟨an.refl _ _,[],fun b hb=>absurd hb List.not_mem_nil,(),rfl,.inl .nil,List.nodup_nil⟩
theorem Rx {mt:Nat} {α:Type} {t e:TI} {E:ai α} {z0:α} {bt i d:Nat} {sl:LQ} {ms:MM} {A:LN} {ty:TI} {as:LL} {ops:LO} {r0:NV} {w0:World} {H:LN} (hz:uw P t α e E z0 bt) (h1:sc l mt U A (.buildSlice t 0 #[]) d ty as ops i) (h:ke P Z l mt U r0 w0 H i sl ms) :
   ke P Z l mt U r0 w0 H (i+1) sl (⟨i,d,[],Value,fun _ v=>v,fun _ v=>[.own (aI e E) v []]⟩ :: ms):=by
 obtain ⟨t1,_,i',z,t2,_⟩:=hz.h
 refine h.mem h1 rfl rfl (fun _ _ _ h=>nomatch h) fun S' S2 hl hR g r w hC mq hn ly pos ah=>rj (gf.made (zt (E:=E) t1 t2)) ?_
 rintro v w' ⟨hC,f,hf,hV⟩
 refine ⟨hC,f,hf,v,rfl,?_,hV.2⟩
 have:=HL.own (Z:=fun _=>False) (e:=.own (aI e E) v []) (f:=f) hV.1 .nil
 exact .inl (by simpa using this)
theorem Tn {mt n:Nat} {α:Type} {t e:TI} {E:ai α} {z0:α} {bt i d:Nat} {sl:LQ} {ms:MM} {A:LN} {ty:TI} {as:LL} {ops:LO} {r0:NV} {w0:World} {H:LN} {x:OO} {z:Int} (hh:mm l mt base=true) (ha:dc r0 base) (hz:uw P t α e E z0 bt) (hv:eS A none sl base fr) (hx:bn fr x=some (.int .i64 z)) (hn:mk bt z=some n) (h1:sc l mt U A (.makeSlice t x x) d ty as ops i) (h:ke P Z l mt U r0 w0 H i sl ms) :
   ke P Z l mt U r0 w0 H (i+1) sl (⟨i,d,[],Value,fun _ v=>v,fun _ v=>[.own (aI e E) v (List.replicate n z0)]⟩ :: ms):=by
 obtain ⟨e1,e2,e3⟩:=D5 hn
 obtain ⟨t1,hE,i',z',t2,t3,t4,t5,t6,t7⟩:=hz.h
 subst e1
 refine h.mem h1 rfl rfl (fun _ _ _ h=>nomatch h) fun S' S2 hl hR g r w hC mq hn ly pos ah=>?_
 have hb:=qn hR (by rw [hl]; exact h1.A) hv (l4 hh ha ly) mq
 refine rj (gf.made (Gw (E:=E) (z0:=z0) t1 t2 t3 t4 hE t5 t7 (bC hb hx) (bC hb hx) (by rw [t6]; exact e2) e3)) ?_
 rintro v w' ⟨hC,f,hf,hV⟩
 refine ⟨hC,f,hf,v,rfl,?_,hV.2⟩
 have:=HL.own (Z:=fun _=>False) (e:=.own (aI e E) v (List.replicate n z0)) (f:=f) hV.1 .nil
 exact .inl (by simpa using this)
theorem Tp {mt:Nat} {α:Type} {t e:TI} {E:ai α} {z0:α} {bt i d:Nat} {sl:LQ} {ms:MM} {A:LN} {ty:TI} {as:LL} {ops:LO} {r0:NV} {w0:World} {H:LN} {x:OO} {u:Value} {Γ:QE} {F:LN} (hh:mm l mt base=true) (ha:dc r0 base) (hz:uw P t α e E z0 bt) (hv:eS A none sl base fr) (hx:bn fr x=some u) (ho:One Γ u) (hS:∀ w,an H w0 w→SA Z w Γ [] F) (h1:sc l mt U A (.buildSlice t 1 #[(0,x)]) d ty as ops i) (h:ke P Z l mt U r0 w0 H i sl ms) :
   ke P Z l mt U r0 w0 H (i+1) sl (⟨i,d,[],Nat,fun _ b=>.slice (some ⟨b,0,none⟩) 1 1,fun _ b=>[.row b [u] e]⟩ :: ms):=by
 obtain ⟨t1,hE,i',z',t2,t3,t4,t5,t6,t7⟩:=hz.h
 refine h.mem h1 rfl rfl (fun _ _ _ h=>nomatch h) fun S' S2 hl hR g r w hC mq hn ly pos ah=>?_
 have hb:=qn hR (by rw [hl]; exact h1.A) hv (l4 hh ha ly) mq
 refine rj (gf.F6 t1 t2 t3 t4 (bC hb hx) (ho.one (hS w hC))) ?_
 rintro v w' ⟨hC,f,hf,b,e1,e2,bj⟩
 refine ⟨hC,f,hf,b,e2,?_,by rw [e1]; simp⟩
 have:=HL.own (Z:=fun _=>False) (e:=.row b [u] e) (f:=[b]) ⟨rfl,bj⟩ .nil
 rw [e1]
 exact .inl (by simpa using this)
theorem IW {mt n:Nat} {t e:TI} {i d:Nat} {sl:LQ} {ms:MM} {A:LN} {ty:TI} {as:LL} {ops:LO} {r0:NV} {w0:World} {H:LN} {ps:List (Nat×Operand)} {us:LV} {Γ:QE} {F:LN} (hh:mm l mt base=true) (ha:dc r0 base) (hz:FX P t e) (hv:eS A none sl base fr) (hd:va Γ fr 0 ps us) (hn:us.length=n) (hb:(Nat.ble 1 n && Nat.ble n 16777216)=true) (hS:∀ w,an H w0 w→SA Z w Γ [] F) (h1:sc l mt U A (.buildSlice t n ps.toArray) d ty as ops i) (h:ke P Z l mt U r0 w0 H i sl ms) :
   ke P Z l mt U r0 w0 H (i+1) sl (⟨i,d,[],Nat,fun _ b=>.slice (some ⟨b,0,none⟩) n n,fun _ b=>[.row b us e]⟩ :: ms):=by
 refine h.mem h1 rfl rfl (fun _ _ _ h=>nomatch h) fun S' S2 hl hR g r w hC mq hnn ly pos ah=>?_
 have cg:=qn hR (by rw [hl]; exact h1.A) hv (l4 hh ha ly) mq
 unfold gf
 rw [hd.op cg (hS w hC) hz hn hb]
 refine ⟨an.alloc _ _ _,[w.heap.size],fun b hb=>by rw [List.mem_singleton.1 hb]; simp,w.heap.size,rfl,?_,by simp⟩
 have:=HL.own (Z:=fun _=>False) (e:=.row w.heap.size us e) (f:=[w.heap.size]) ⟨rfl,heap_alloc_new w _⟩ .nil
 exact .inl (by simpa using this)
theorem NT {mt:Nat} {β V:Type} {A:LN} {as:LL} {d:Nat} {f:FuncId} {xs:List Operand} {bg:Array TypeId} {ty:TI} {mo:Option β} {rt:β→V→List Value} {ps:β→V→List aq} {ops:LO} {i:Nat} {sl:LQ} {ms:MM} {fr:Fr} {hd Γ:QE} {B:Bs} {r0:NV} {w0:World} {H:LN} {y:β} (hh:mm l mt base=true) (hf:bm P f) (hv:eS A none sl base fr)
   (hc:∀ x:qy ms,JE P f xs (ri A ms x++fr) (th A ms x++Γ) mo rt ps) (hi:sw ms) (lz:uC A ms=true) (hw:∀ y v,tS (ps y v)=true) (h1:sc l mt U A (.call ⟨.value (.func f),xs.toArray,bg⟩) d ty as ops i) (hy:mo=some y) (ha:dc r0 base) (hs:tA B Z hd Γ H w0) (h:ke P Z l mt U r0 w0 H i sl ms) :
   JJ P Z l mt U r0 w0 H i sl ms ⟨i,d,[],V,fun _ v=>tH (rt y v),fun _=>ps y⟩:=by
 obtain ⟨S',hl,hR,hO⟩:=h
 subst hl
 refine ⟨S',rfl,hR,hO,fun V' hV=>?_⟩
 obtain ⟨hA,⟨pos,ah,ho⟩,_⟩:=h1
 refine jx.Ti (V:=V') ho (by simp) rfl fun g r w hC mq hn ly=>?_
 have hb:=qn hR hA hv (l4 hh ha ly) mq
 obtain ⟨x,hx,td⟩:=B3 hR hA hi lz hn
 obtain ⟨Ls,EV,hd,hr⟩:=hc x
 obtain ⟨fn,c,f1,f2,f3⟩:=hf.h
 refine Calls.Jx f1 f2 f3 ?_
 rw [yy (wL hx hb) Ls]
 obtain ⟨F,Hd,⟨B5,B6,wX,B7⟩,hS,hG⟩:=hs
 obtain ⟨G,nb,FV,C1,jf⟩:=td.front (tA.stay hS hG hC)
 rw [vu] at EV
 refine (EV.2 w (fun b=>Z b∨b∈G) [] (hr.sound (fun _ h=>h) (fun _ b hb=>.inr (C1 b hb)) jf hd.ho) List.nodup_nil (fun b hb=>absurd hb List.not_mem_nil)
  (fun b hb=>hb.elim (fun h=>Nat.lt_of_lt_of_le (hG.tb b h) hC.size) fun h=>(nb b h).2) y hy).mono ?_
 rintro e w' ⟨v,he,Z2,F2,uW,pg⟩
 have EW:HL (fun _=>False) w' (ps y v) F2:=CU (hw y v) uW
 have bh:=(EW.front (Γ:=[]) (F:=[]) rfl).lt
 obtain ⟨f',dq,Lt⟩:=hV F2 w' r _ ⟨v,rfl,.inl EW,pg.nd⟩
 refine ⟨_,he,pg.j9,f',fun b hb=>⟨(pg.low b (dq b hb)).resolve_left List.not_mem_nil,bh b (by simpa using dq b hb)⟩,Lt⟩
theorem Gx {A:LN} {g:Nat→List Nat} {b:Nat}:∀ {ms:MM},b∈AI A g ms→∃ a∈ms,iu a.j A=true∧b∈g a.j:=by
 intro ms
 induction ms with
 | nil=>intro h; exact absurd h List.not_mem_nil
 | cons a l ih=>
  intro h
  unfold AI at h
  cases hb:iu a.j A with
  | true=>
   rw [hb] at h
   rcases List.mem_append.1 h with h | h
   ·exact ⟨a,by simp,hb,h⟩
   ·obtain ⟨c,h1,h2⟩:=ih h; exact ⟨c,List.mem_cons_of_mem _ h1,h2⟩
  | false=>rw [hb] at h; obtain ⟨c,h1,h2⟩:=ih h; exact ⟨c,List.mem_cons_of_mem _ h1,h2⟩
theorem Gy {mt i:Nat} (h:((U.set i []).all fun us=>!(us.contains l.length))=true):zu l U mt i=true:=by
 unfold zu
 simp only [List.all_eq_true,List.mem_range,Bool.or_eq_true,Bool.not_eq_true'] at h ⊢
 intro k _
 by_cases hk:k=i
 ·exact .inl (.inr (by rw [hk]; exact Nat.beq_refl i))
 ·refine .inl (.inl ?_)
  rw [List.getD_eq_getElem?_getD]
  cases hu:U[k]? with
  | none=>rfl
  | some us=>exact h us (List.mem_of_getElem? (i:=k) (by rw [List.getElem?_set_ne (fun e=>hk e.symm)]; exact hu))
theorem HO.mono {Z':Nat→Prop} (hz:∀ b,Z b→Z' b) {Δ:QE} {F:LN} (h:HO Z w Δ F):HO Z' w Δ F:=by
 induction h with
 | nil=>exact .nil
 | own h _ ih=>exact .own (h.mono hz) ih
 | rd _ ih=>exact .rd ih
 | bg _ ih=>exact .bg ih
theorem Lu {mt:Nat} {β V:Type} {A:LN} {as:LL} {d:Nat} {f:FuncId} {xs:List Operand} {bg:Array TypeId} {ty:TI} {mo:Option β} {rt:β→V→List Value} {ps:β→V→List aq} {ops:LO} {i:Nat} {sl:LQ} {ms:MM} {fr:Fr} {hd Γ:QE} {B:Bs} {r0:NV} {w0:World} {H:LN} {y:β} (hh:mm l mt base=true) (hf:bm P f) (hv:eS A none sl base fr)
   (hU:U.getD i []=[l.length]) (Lv:((U.set i []).all fun us=>!(us.contains l.length))=true)
   (hc:∀ x:qy ms,C0 P f xs (ri A ms x++fr) hd (th A ms x++Γ) mo rt ps) (hi:sw ms) (lz:uC A ms=true) (hw:∀ y v,tS (ps y v)=true) (h1:sc l mt U A (.call ⟨.value (.func f),xs.toArray,bg⟩) d ty as ops i) (hy:mo=some y) (ha:dc r0 base) (hs:tA B Z hd Γ H w0) (h:ke P Z l mt U r0 w0 H i sl ms) :
   JJ P Z l mt U r0 w0 H i sl ms ⟨i,d,[],V,fun _ v=>tH (rt y v),fun _=>ps y⟩:=by
 obtain ⟨S',hl,hR,hO⟩:=h
 subst hl
 refine ⟨S',rfl,hR,hO,fun V' hV=>?_⟩
 obtain ⟨hA,⟨pos,ah,ho⟩,_⟩:=h1
 intro o' s' cc dy g r w hC ET mq hn ly yk qd
 rw [ho] at cc
 cases cc
 rw [List.getElem?_append_right (Nat.le_refl _),Nat.sub_self] at dy
 cases dy
 rw [if_pos rfl]
 refine ⟨rfl,?_⟩
 obtain ⟨Tq,Tr,Ts⟩:=ET (Gy Lv)
 have hb:=qn hR hA hv (l4 hh ha ly) mq
 obtain ⟨x,hx,td⟩:=B3 hR hA hi lz hn
 obtain ⟨Ls,EV,Tt,hr⟩:=hc x
 obtain ⟨fn,c,f1,f2,f3⟩:=hf.h
 refine Calls.Jx f1 f2 f3 ?_
 rw [yy (wL hx hb) Ls]
 obtain ⟨F,Hd,⟨B5,B6,wX,B7⟩,hS,hG⟩:=hs
 obtain ⟨G,nb,FV,C1,jf⟩:=td.front (tA.stay hS hG hC)
 obtain ⟨Fd,F',Tu,_,Gz⟩:=Tt.sound (B5.kh Tq)
 have dq:∀ b∈Fd,b∈H:=fun b hb=>(B6 b (Gz.mem_iff.1 (List.mem_append_left _ hb))).1
 have dt:=List.nodup_append.1 hG.nd
 have hblk:qo g (U.getD S'.length [])=H:=by rw [hU]; simp [qo,Tr]
 rw [hblk]
 rw [vu] at EV
 refine (EV.2 w (fun b=>Z b∨b∈G) Fd (hr.sound (fun _ h=>h) (fun _ b hb=>.inr (C1 b hb)) jf (Tu.mono fun _ h=>.inl h)) ((Gz.nodup_iff.2 B7).sublist (List.sublist_append_left _ _)) (fun b hb=>?_)
  (fun b hb=>hb.elim (fun h=>Nat.lt_of_lt_of_le (hG.tb b h) hC.size) fun h=>(nb b h).2) y hy).mono ?_
 ·rintro (hz | hz)
  ·exact hG.apart b (List.mem_append_left _ (dq b hb)) hz
  ·rcases List.mem_append.1 (nb b hz).1 with hz | hz
   ·obtain ⟨a,X9,wo,ph⟩:=Gx hz
    have h2:=Ts a.j (qm (by rw [← hA]; exact n9.1 wo)).1 b ph
    have h3:=wX b (dq b hb)
    omega
   ·exact dt.2.2 b (dq b hb) b hz rfl
 ·rintro e w' ⟨v,he,Z2,F2,uW,pg⟩
  have EW:HL (fun _=>False) w' (ps y v) F2:=CU (hw y v) uW
  have bh:=(EW.front (Γ:=[]) (F:=[]) rfl).lt
  obtain ⟨f',Lw,Lt⟩:=hV F2 w' r _ ⟨v,rfl,.inl EW,pg.nd⟩
  exact ⟨_,he,pg.j9.mono dq,f',fun b hb=>⟨(pg.low b (Lw b hb)).imp (dq b) id,bh b (by simpa using Lw b hb)⟩,Lt⟩
theorem Cr.sub {ms Ah:MM} {a:gj} {t:Nat} (h:Cr ms t a Ah):a∈ms∧a.j=t∧(∀ b∈Ah,b∈ms)∧(Ah.map (·.j)).Sublist (ms.map (·.j))∧((ms.map (·.j)).Nodup→∀ b∈Ah,b.j≠t):=by
 induction h with
 | here=>exact ⟨by simp,rfl,fun b hb=>List.mem_cons_of_mem _ hb,by simp,fun hn b hb he=>by rw [List.map_cons,List.nodup_cons] at hn; exact hn.1 (by rw [← he]; exact List.mem_map_of_mem hb)⟩
 | there _ ih=>
  obtain ⟨h1,h2,h3,h4,h5⟩:=ih
  refine ⟨List.mem_cons_of_mem _ h1,h2,fun b hb=>?_,by simpa using h4,fun hn b hb=>?_⟩
  ·rcases List.mem_cons.1 hb with rfl | hb
   ·simp
   ·exact List.mem_cons_of_mem _ (h3 b hb)
  ·rw [List.map_cons,List.nodup_cons] at hn
   rcases List.mem_cons.1 hb with rfl | hb
   ·intro he
    exact hn.1 (by rw [he,← h2]; exact List.mem_map_of_mem h1)
   ·exact h5 hn.2 b hb
theorem Lx {mt:Nat} {β V:Type} {j1:Nat} {a1:gj} {A:LN} {as:LL} {d:Nat} {f:FuncId} {xs:List Operand} {bg:Array TypeId} {ty:TI} {mo:Option β} {rt:β→V→List Value} {ps:β→V→List aq} {ops:LO} {i:Nat} {sl:LQ} {ms o5:MM} {fr:Fr} {hd Γ:QE} {B:Bs} {r0:NV} {w0:World} {H:LN} {y:β} (hh:mm l mt base=true) (hf:bm P f) (hv:eS A none sl base fr)
   (hU:U.getD i []=[j1]) (EH:Cr ms j1 a1 o5) (Qo:a1.src=[]) (h4:iu j1 A=true)
   (hc:∀ (q:a1.V) (x:qy o5),C0 P f xs (ri A o5 x++fr) (a1.ps undef q) (th A o5 x++Γ) mo rt ps) (hi:sw o5) (lz:uC A o5=true) (hw:∀ y v,tS (ps y v)=true) (h1:sc l mt U A (.call ⟨.value (.func f),xs.toArray,bg⟩) d ty as ops i) (hy:mo=some y) (ha:dc r0 base) (hs:tA B Z hd Γ H w0) (h:ke P Z l mt U r0 w0 H i sl ms) :
   JJ P Z l mt U r0 w0 H i sl o5 ⟨i,d,[],V,fun _ v=>tH (rt y v),fun _=>ps y⟩:=by
 obtain ⟨S',hl,Tv,hO⟩:=h
 subst hl
 obtain ⟨m1,m2,m3,m4,m5⟩:=EH.sub
 have hR:=Tv.sub m3 m4
 refine ⟨S',rfl,hR,hO,fun V' hV=>?_⟩
 obtain ⟨hA,⟨pos,ah,ho⟩,_⟩:=h1
 intro o' s' cc dy g r w hC ET mq hn ly yk qd
 rw [ho] at cc
 cases cc
 rw [List.getElem?_append_right (Nat.le_refl _),Nat.sub_self] at dy
 cases dy
 rw [if_pos rfl]
 refine ⟨rfl,?_⟩
 have D8:=qm (by rw [← hA]; exact n9.1 h4)
 have hb:=qn hR hA hv (l4 hh ha ly) mq
 obtain ⟨x,hx,td⟩:=B3 hR hA hi lz hn
 obtain ⟨q,_,IX,Ya⟩:=Tv.Gr m1 (hn a1.j (by rw [m2]; exact D8.2))
 have vK:yj a1 r=undef:=by unfold yj; rw [Qo]; rfl
 rw [vK,m2] at IX
 rw [m2] at Ya
 obtain ⟨Ls,EV,Tt,hr⟩:=hc q x
 obtain ⟨fn,c,f1,f2,f3⟩:=hf.h
 refine Calls.Jx f1 f2 f3 ?_
 rw [yy (wL hx hb) Ls]
 obtain ⟨F,Hd,⟨B5,B6,wX,B7⟩,hS,hG⟩:=hs
 have hSt:=tA.stay hS hG hC
 obtain ⟨G,nb,FV,C1,jf⟩:=td.front hSt
 obtain ⟨Fo,Fr,Yb,hFr,hq4⟩:=IX.all
 have hSq:SA (fun b=>Z b∨b∈Fr) w (a1.ps undef q) [] Fo:=by
  have:=hq4.front (Γ:=[]) (F:=[]) rfl
  simpa using this
 have Yc:=List.nodup_append.1 (Yb ▸ Ya)
 obtain ⟨Fd,F',Tu,_,Gz⟩:=Tt.sound hSq
 have Qp:∀ b∈Fd,b∈Fo:=fun b hb=>Gz.mem_iff.1 (List.mem_append_left _ hb)
 have dq:∀ b∈Fd,b∈g j1:=fun b hb=>by rw [Yb]; exact List.mem_append_left _ (Qp b hb)
 have dt:=List.nodup_append.1 hG.nd
 have hblk:qo g (U.getD S'.length [])=g j1:=by rw [hU]; simp [qo]
 rw [hblk]
 rw [vu] at EV
 have IY:∀ b∈g j1,w0.heap.size≤b∨b∈H:=fun b hb=>(qd j1 D8.1 b hb).1
 refine (EV.2 w (fun b=>Z b∨b∈Fr++G) Fd (hr.sound (fun _ h=>h) (fun _ b hb=>.inr (List.mem_append_right _ (C1 b hb))) (jf.mono (fun _ h=>h.imp id fun h=>List.mem_append_right _ h) fun _ h=>h) (Tu.mono fun _ h=>h.imp id fun h=>List.mem_append_left _ h)) ((Gz.nodup_iff.2 Yc.1).sublist (List.sublist_append_left _ _)) (fun b hb=>?_)
  (fun b hb=>hb.elim (fun h=>Nat.lt_of_lt_of_le (hG.tb b h) hC.size) fun h=>(List.mem_append.1 h).elim (hFr b) fun h=>(nb b h).2) y hy).mono ?_
 ·rintro (hz | hz)
  ·rcases IY b (dq b hb) with h | h
   ·have:=hG.tb b hz; omega
   ·exact hG.apart b (List.mem_append_left _ h) hz
  ·rcases List.mem_append.1 hz with hz | hz
   ·exact Yc.2.2 b (Qp b hb) b hz rfl
   rcases List.mem_append.1 (nb b hz).1 with hz | hz
   ·obtain ⟨a,X9,wo,ph⟩:=Gx hz
    exact yk a.j (qm (by rw [← hA]; exact n9.1 wo)).1 j1 D8.1 (m5 Tv.d a X9) b ph (dq b hb)
   ·rcases IY b (dq b hb) with h | h
    ·have:=hS.lt b hz; omega
    ·exact dt.2.2 b h b hz rfl
 ·rintro e w' ⟨v,he,Z2,F2,uW,pg⟩
  have EW:HL (fun _=>False) w' (ps y v) F2:=CU (hw y v) uW
  have bh:=(EW.front (Γ:=[]) (F:=[]) rfl).lt
  obtain ⟨f',Lw,Lt⟩:=hV F2 w' r _ ⟨v,rfl,.inl EW,pg.nd⟩
  exact ⟨_,he,pg.j9.mono dq,f',fun b hb=>⟨(pg.low b (Lw b hb)).imp (dq b) id,bh b (by simpa using Lw b hb)⟩,Lt⟩
theorem SA.app {Γ Γ':QE} {F F':LN}:∀ {cur:LN},SA Z w Γ' cur F'→SA Z w Γ [] F→SA Z w (Γ'++Γ) cur (F'++F):=by
 induction Γ' generalizing F' with
 | nil=>intro cur h hs; cases h; exact hs.any
 | cons e Γ' ih=>
  intro cur h hs
  cases e with
  | own T v x=>obtain ⟨f,F1,rfl,h1,h2⟩:=h; exact ⟨f,F1++F,by rw [List.append_assoc],h1,ih h2 hs⟩
  | om e E v xs=>obtain ⟨f,F1,rfl,h1,h2⟩:=h; exact ⟨f,F1++F,by rw [List.append_assoc],h1,ih h2 hs⟩
  | row b cs e=>obtain ⟨f,F1,rfl,h1,h2⟩:=h; exact ⟨f,F1++F,by rw [List.append_assoc],h1,ih h2 hs⟩
  | ew e E v xs j u=>obtain ⟨f,F1,rfl,h1,h2⟩:=h; exact ⟨f,F1++F,by rw [List.append_assoc],h1,ih h2 hs⟩
  | rd o T v x=>exact ⟨h.1,ih h.2 hs⟩
  | ad o1 o2 v j T x=>exact ⟨h.1,ih h.2 hs⟩
  | bg p cs=>exact ⟨h.1,ih h.2 hs⟩
  | hd v j u=>exact ⟨h.1,ih h.2 hs⟩
theorem ke.Zp {mt:Nat} {A:LN} {op:Op} {d:Nat} {ty:TI} {as:LL} {ops:LO} {i:Nat} {sl:LQ} {ms:MM} {r0:NV} {w0:World} {H:LN} {u:Value} (h:ke P Z l mt U r0 w0 H i sl ms) (hh:mm l mt base=true) (ha:dc r0 base) (h1:sc l mt U A op d ty as ops i)
  (hV:(U.zipIdx.all fun p=>!(p.1.contains l.length) || ((b9 l).getD p.2 []).contains i)=true) (hv:eS A none sl base fr) (hq:∀ r,dc r fr→∀ pos ah g w,an [] w0 w→(execOp (ev r) ⟨some d,op,ty,pos,ah,g⟩).run P w = .ok (.value u) w):ke P Z l mt U r0 w0 H (i+1) ((i,d,u) :: sl) ms:=by
 obtain ⟨S',hl,hR,hO⟩:=h
 subst hl
 obtain ⟨hA,⟨pos,ah,ho⟩,_⟩:=h1
 refine ⟨S'++[sV u],by simp,hR.val (by unfold bw; rw [ho]; rfl),fun j hj=>?_⟩
 by_cases h2:j < S'.length
 ·exact jx.more (hO j h2) h2
 ·obtain rfl:j=S'.length:=by omega
  have hN:zu l U mt S'.length=true:=by
   unfold zu
   simp only [List.all_eq_true,List.mem_range,Bool.or_eq_true,Bool.not_eq_true'] at hV ⊢
   intro k _
   rw [List.getD_eq_getElem?_getD]
   cases hu:U[k]? with
   | none=>exact .inl (.inl rfl)
   | some us=>
    have hm:(us,k)∈U.zipIdx:=by rw [List.mem_zipIdx_iff_getElem?]; exact hu
    exact (hV _ hm).imp .inl id
  intro o' s' cc dy g r w hC ET mq hn ly yk qd
  rw [ho] at cc
  cases cc
  rw [List.getElem?_append_right (Nat.le_refl _),Nat.sub_self] at dy
  cases dy
  rw [if_pos rfl]
  refine ⟨rfl,?_⟩
  unfold gf
  rw [hq r (qn hR hA hv (l4 hh ha ly) mq) _ _ _ w (ET hN).1]
  exact ⟨an.refl _ _,[],fun b hb=>absurd hb List.not_mem_nil,rfl⟩
theorem Ry {mt:Nat} {hd iq:QE} {α:Type} {t e e' et:TI} {E E':ai α} {z0:α} {bt t1 t2 j2:Nat} {v u yv:Value} {j:Int} {y:α} {z:List α} {xs:List (List α)} {o1 o2:Bool} {Γx:QE} {Gq:MM} {A:LN} {as:LL} {d:Nat} {ty:TI} {ops:LO} {i:Nat} {sl:LQ} {ms:MM} {Γ:QE} {B:Bs} {r0:NV} {w0:World} {H:LN} (hh:mm l mt base=true) (ha:dc r0 base) (hT:uw P t α e E z0 bt) (hU:U.getD i []=[l.length])
   (Lv:((U.set i []).all fun us=>!(us.contains l.length))=true) (hv:eS A none sl base fr) (hs:look fr t1=some u) (h2:vi ms t2 ⟨j2,t2,[],Nat,fun _ b=>.slice (some ⟨b,0,none⟩) 1 1,fun _ b=>[.row b [yv] et]⟩ Gq) (h5:iu j2 A=true) (hl:Loc hd u (.row v j)) (hz:qa hd u o1 o2 E' z uk Γx) (h1:ee hd (.own (aI e' (aI e E)) v xs) iq) (hr:RT (aI e E) (bG E')) (hy:B2 [] E yv y [])
   (hf:fits bt (z.length+1)=some ()) (Ge:sc l mt U A (.call ⟨.builtin .append,#[.tmp t1,.tmp t2],#[t,t]⟩) d ty as ops i) (r4:tA B Z hd Γ H w0) (h:ke P Z l mt U r0 w0 H i sl ms) :
  ke P Z l mt U r0 w0 H (i+1) sl (⟨i,d,[],Value,fun _ v'=>v',fun _ v'=>[.own (aI e E) v' (z++[y]),.own (uB e' (aI e E) j.toNat) v xs]⟩ :: ms)∧tA B Z iq Γ H w0:=by
 obtain ⟨F,Hd,⟨B5,B6,wX,B7⟩,hS,hG⟩:=r4
 obtain ⟨fm0,F10,Tw,_,Zq⟩:=h1.sound B5
 refine ⟨?_,F,F10,⟨Zq,fun b hb=>B6 b (Tw.mem_iff.1 (List.mem_append_right _ hb)),wX,(Tw.nodup_iff.2 B7).sublist (List.sublist_append_right _ _)⟩,hS,hG⟩
 obtain ⟨S',CV,hR,hO⟩:=h
 subst CV
 obtain ⟨hA,⟨pos,ah,ho⟩,_⟩:=Ge
 obtain ⟨b1,b2⟩:=qx hf
 obtain ⟨q1,q2,ii,zz,q3,q4,q5,q6,q7,_⟩:=hT.h
 obtain ⟨n1,_,_,_⟩:=h2.sub
 refine ⟨S'++[⟨true,MV Z ⟨S'.length,d,[],Value,fun _ v'=>v',fun _ v'=>[.own (aI e E) v' (z++[y]),.own (uB e' (aI e E) j.toNat) v xs]⟩⟩],by simp,hR.mem rfl (by unfold bw; rw [ho]; rfl) (by intro t h; cases h),fun k hk=>?_⟩
 by_cases bh:k < S'.length
 ·exact jx.more (hO k bh) bh
 ·obtain rfl:k=S'.length:=by omega
  intro o' s' cc dy g r w hC ET mq hn ly yk qd
  rw [ho] at cc
  cases cc
  rw [List.getElem?_append_right (Nat.le_refl _),Nat.sub_self] at dy
  cases dy
  rw [if_pos rfl]
  refine ⟨rfl,?_⟩
  obtain ⟨Tq,Tr,Ts⟩:=ET (Gy Lv)
  have Tx:=B5.kh Tq
  obtain ⟨j0,j1,jy⟩:=Loc.row hl rfl Tx
  obtain ⟨dj,_,⟨⟨gz,ur,_⟩,_⟩,_⟩:=hz.sound Tx
  obtain ⟨fm,F1,tW,Yd,_⟩:=h1.sound Tx
  obtain ⟨ky,F2,qh,Tz,_⟩:=hy.sound (Z:=Z) (w:=w) (F:=[]) rfl
  have TA:ky=[]:=by
   cases ky with
   | nil=>rfl
   | cons a l=>exact absurd (qh.mem_iff.1 (List.mem_append_left _ List.mem_cons_self)) List.not_mem_nil
  subst TA
  rw [vc Yd] at j1
  obtain ⟨k,gm,a1,a2,a3⟩:=Gj rfl Yd (List.getElem?_eq_getElem j1) jy
  have TB:xs[j.toNat]=z:=hr.vE (hr.le.le a1) ur
  rw [TB] at a1
  have Zr:(k++gm).Nodup:=a2.nodup_iff.2 ((tW.nodup_iff.2 B7).sublist (List.sublist_append_left _ _))
  have Gb:=List.nodup_append.1 Zr
  have JK:∀ b∈k++gm,b∈H:=fun b hb=>(B6 b (tW.mem_iff.1 (List.mem_append_left _ (a2.mem_iff.1 hb)))).1
  obtain ⟨b,c1,c2,c3⟩:=hR.Gr n1 (hn j2 (qm (by rw [← hA]; exact n9.1 h5)).2)
  simp only at c1 c2
  replace c2:=c2.own rfl
  generalize EH:g j2=G1 at c2 c3
  cases c2 with
  | fact h _=>exact h.elim
  | @own _ ff F0 _ W0 zq=>
   cases zq
   obtain ⟨rfl,bj⟩:=W0
   have hb:=qn hR hA hv (l4 hh ha ly) mq
   obtain ⟨v',w',f',mr,Gs,dp,dq,GA⟩:=pj (E:=E) (d:=some d) (ty:=ty) (pos:=pos) (ah:=ah) (g:=none) (r:=r) (s:=.tmp t1) (x:=.tmp t2) (k:=[]) (ys:=[y]) (news:=[yv]) q1 q3 q4 (by rw [q5,q2]) (by rw [cells_one q6,q2]; rfl) (hb _ _ hs) a1 Gb.1 c1 (fun i u hi=>bj.at i u hi) (r6 Tz) (fun _ h=>absurd h List.not_mem_nil) (by simp) (by rw [q7]; exact b1) b2
   unfold gf
   rw [mr]
   have hblk:qo g (U.getD S'.length [])=H:=by rw [hU]; simp [qo,Tr]
   rw [hblk]
   have Ye:(uB e' (aI e E) j.toNat).rep w'.heap [v] xs gm:=ai.ec _ a3 Gs fun b hb hk=>Gb.2.2 b hk b hb rfl
   refine ⟨Gs.mono fun b hb=>JK b (List.mem_append_left _ hb),f'++gm,fun b hb=>?_,v',rfl,?_,?_⟩
   ·rcases List.mem_append.1 hb with hb | hb
    ·refine ⟨?_,ai.lt _ dp b hb⟩
     rcases dq b hb with h | h | h
     ·exact .inl (JK b (List.mem_append_left _ h))
     ·exact absurd h List.not_mem_nil
     ·exact .inr h
    ·exact ⟨.inl (JK b (List.mem_append_right _ hb)),ai.lt _ Ye b hb⟩
   ·have:=HL.own (Z:=fun _=>False) (e:=.own (aI e E) v' (z++[y])) (f:=f') dp (HL.own (e:=.own (uB e' (aI e E) j.toNat) v xs) (f:=gm) Ye .nil)
    exact .inl (by simpa using this)
   ·refine xT (GA List.nodup_nil) Gb.2.1 fun b hb hm=>?_
    rcases dq b hb with h | h | h
    ·exact Gb.2.2 b h b hm rfl
    ·exact absurd h List.not_mem_nil
    ·have:=ai.lt _ a3 b hm; omega
end
end Go.Dk
namespace Go.Dk
open Go Go.Li
section
variable {R S:Type} {P:Program} {cx:Cx R} {K:de R S} {l tail:LO} {base fr:Fr} {U:LL} {hd:QE}
def JL (P:Program) (cx:Cx R) (K:de R S) (l l0:LO) (mt:Nat) (U:LL) (hd:QE) (id:Nat) (base:Fr):JA R S→Prop
 | .a as ops i sl ms Γ m=>wc l mt U as ops i→Fin P cx K l l0 mt U hd id base i sl ms Γ m
 | .o A op d ty as ops i sl ms Γ m=>sc l mt U A op d ty as ops i→Fin P cx K l l0 mt U hd id base i sl ms Γ m
 | .oc us f xs bg A d ty as ops i sl ms Γ m=>U.getD i []=us→sc l mt U A (.call ⟨.value (.func f),xs.toArray,bg⟩) d ty as ops i→Fin P cx K l l0 mt U hd id base i sl ms Γ m
 | .os A op ty as ops i sl ms Γ m=>Th l mt U A op ty as ops i→Fin P cx K l l0 mt U hd id base i sl ms Γ m
 | .ow _ A op d ty as ops i sl ms Γ m=>sc l mt U A op d ty as ops i→Fin P cx K l l0 mt U hd id base i sl ms Γ m
 | .ix _ v fr x y t A d ty as ops i sl ms Γ m=>eS A none sl base fr→bn fr x=some v→sc l mt U A (.indexAddr t x y) d ty as ops i→Fin P cx K l l0 mt U hd id base i sl ms Γ m
 | .lb _ v j fr t x A d ty as ops i sl ms Γ m=>eS A none sl base fr→bn fr x=some (.pointer (some (cw v 1 j)))→NA P t→sc l mt U A (.load t x) d ty as ops i→Fin P cx K l l0 mt U hd id base i sl ms Γ m
 | .ap us t1 t2 t A d ty as ops i sl ms Γ m=>U.getD i []=us→sc l mt U A (.call ⟨.builtin .append,#[.tmp t1,.tmp t2],#[t,t]⟩) d ty as ops i→Fin P cx K l l0 mt U hd id base i sl ms Γ m
 | .la fr a lk t x A d ty as ops i sl ms Γ m=>eS A none sl base fr→bn fr x=some (.pointer (some a))→(match lk with | none=>NA P t | some n=>AG P t n)→sc l mt U A (.load t x) d ty as ops i→Fin P cx K l l0 mt U hd id base i sl ms Γ m
 | .ld E z fr a t x A d ty as ops i sl ms Γ m=>eS A none sl base fr→bn fr x=some (.pointer (some a))→NA P t→sc l mt U A (.load t x) d ty as ops i→
   ∀ B o,m=some o→∀ r0 w0 H Z,dc r0 base→tA B Z hd Γ H w0→(∃ u,∀ w,an H w0 w→w.cell? a=some u∧∃ g,E.rep w.heap [u] z g)→ke P Z l mt U r0 w0 H i sl ms→nm P cx.n l0 (km P cx B K o) r0 w0
 | .p Δ as ops i sl ms Γ m=>wc l mt U as ops i→Fin P cx K l l0 mt U hd id base i sl ms (Δ.reverse++Γ) m
 | .cr u ps d as ops i sl ms Γ m=>wc l mt U as ops (i+1)→bw l i=some d→
   ∀ B o,m=some o→∀ r0 w0 H Z,dc r0 base→tA B Z hd Γ H w0→JJ P Z l mt U r0 w0 H i sl ms ⟨i,d,[],_,fun _=>u,fun _=>ps⟩→nm P cx.n l0 (km P cx B K o) r0 w0
theorem xU {w:World} {e n:Nat} {v:Value} {us:List (List Value)} {f:LN} {j:Int} {c:LV} (hO:(aI e (iy n)).rep w.heap [v] us f) (hj:0≤j) (hu:us[j.toNat]? = some c):c.length=n∧(∀ u∈c,u.oneCell'=true)∧∀ i u,c[i]? = some u→w.cell? ((cw v n j).add i)=some u:=by
 obtain ⟨_,_,cs,f1,⟨rfl,h1,h2,_⟩,_,h3⟩:=vh (((Le.own (Le.refl (iy n)) e).le) hO) j hj hu
 exact ⟨h1,h2,h3⟩
theorem NU {α:Type} {E:ai α} {h:Array Obj}:∀ {xs:List α} {cs:LV} {f:LN} (n m:Nat),df E h cs xs f→∃ f3,df E h ((cs.drop (n * E.size)).take (m * E.size)) ((xs.drop n).take m) f3∧∀ b∈f3,b∈f:=by
 intro xs
 induction xs with
 | nil=>rintro cs f n m ⟨rfl,rfl⟩; exact ⟨[],by simpa using ⟨rfl,rfl⟩,fun _ h=>h⟩
 | cons x xs ih=>
  rintro cs f n m ⟨c,ds,f1,f2,rfl,rfl,h1,h2⟩
  cases n with
  | zero=>
   cases m with
   | zero=>exact ⟨[],by simpa using ⟨rfl,rfl⟩,fun _ h=>absurd h List.not_mem_nil⟩
   | succ m=>
    obtain ⟨f3,h3,h4⟩:=ih 0 m h2
    simp only [Nat.zero_mul,List.drop_zero] at h3 ⊢
    refine ⟨f1++f3,?_,fun b hb=>(List.mem_append.1 hb).elim (List.mem_append_left _) fun hb=>List.mem_append_right _ (h4 b hb)⟩
    have e:(m+1) * E.size=c.length+m * E.size:=by rw [E.len h1,Nat.add_mul,Nat.one_mul,Nat.add_comm]
    rw [e,List.take_append,List.take_of_length_le (by omega),List.take_succ_cons]
    exact ⟨c,_,f1,f3,rfl,rfl,h1,by simpa using h3⟩
  | succ n=>
   obtain ⟨f3,h3,h4⟩:=ih n m h2
   refine ⟨f3,?_,fun b hb=>List.mem_append_right _ (h4 b hb)⟩
   have e:(n+1) * E.size=c.length+n * E.size:=by rw [E.len h1,Nat.add_mul,Nat.one_mul,Nat.add_comm]
   rw [e,List.drop_append,List.drop_of_length_le (by omega),List.nil_append,List.drop_succ_cons]
   simpa using h3
theorem NW {Z:Nat→Prop} {w:World} {cur g:LN} {o:Bool} {α:Type} {E:ai α} {base:Option Addr} {cap a b:Nat} {xs:List α} (hE:E.size=1) (hr:(bG E).rep w.heap [.slice base xs.length cap] xs g) (hg:∀ i∈g,ui o Z cur i) (wo:a≤b) (hb:b≤xs.length) (hc:xs.length≤cap) :
  fact Z w cur (.rd o (bG E) (sliced base a b cap 1) ((xs.drop a).take (b - a))):=by
 have hlen:((xs.drop a).take (b - a)).length=b - a:=by rw [List.length_take,List.length_drop]; omega
 obtain ⟨Jt,Nx,hv,gp⟩:=hr
 obtain ⟨rfl,rfl⟩ : base=Jt∧cap=Nx:=by simpa using hv
 by_cases hj:a=b
 ·subst hj
  exact ⟨[],⟨_,cap - a,by unfold sliced; rw [hlen],.inl ⟨by simp,rfl⟩⟩,fun _ h=>absurd h List.not_mem_nil⟩
 ·rcases gp with ⟨rfl,_⟩ | ⟨b0,off,cr,e',fz,f',rfl,g1,rfl,_,g2⟩
  ·exfalso; simp at hb; omega
  ·have qc : ¬ (cap=a):=by omega
   obtain ⟨f3,dp,dq⟩:=NU a (b - a) g2
   refine ⟨b0 :: f3,⟨some ⟨b0,off+a,none⟩,cap - a,?_,.inr ⟨b0,off+a,cr,e',fz,f3,rfl,g1,rfl,by omega,?_⟩⟩,fun i hi=>?_⟩
   ·unfold sliced
    rw [hlen,if_neg qc]
    simp [ir]
   ·rw [hE,Nat.mul_one,Nat.mul_one,Nat.mul_one,List.drop_take,List.take_take,List.drop_drop,Nat.min_eq_left (by omega)] at dp
    rw [hE,Nat.mul_one,hlen]
    exact dp
   ·rcases List.mem_cons.1 hi with rfl | hi
    ·exact hg _ (by simp)
    ·exact hg _ (List.mem_cons_of_mem _ (dq i hi))
theorem AD.sound {l0:LO} {tq:Bool} {mt id:Nat} (hh:mm l mt base=true)
  (zq:∀ hd i sl ms Γ m,AF ms=true→Cs U sl ms=true→(∀ x:qy ms,D P cx (.p (zp sl (mF ms x)) (Cq ms x) base Γ fun fr Γ=>.tg tq (Ax tail) l tail K Γ fr m))→JL P cx K l l0 mt U hd id base (.a [] [] i sl ms Γ m))
  {J:JA R S} (h:AD tq P cx K l tail base U hd J):JL P cx K l l0 mt U hd id base J:=by
 have stay:∀ {B:Bs} {Z:Nat→Prop} {hd Γ:QE} {H:LN} {w0:World},tA B Z hd Γ H w0→∃ F Hd,(SA Z w0 hd [] Hd∧(∀ b∈Hd,b∈H∧b < w0.heap.size)∧(∀ b∈H,b < w0.heap.size)∧Hd.Nodup)∧SA Z w0 Γ [] F∧Gd B Z (H++F) w0∧∀ w,an H w0 w→SA Z w Γ [] F:=by
  rintro B Z hd Γ H w0 ⟨F,Hd,h1,h2,h3⟩
  exact ⟨F,Hd,h1,h2,h3,fun w hC=>tA.stay h2 h3 hC⟩
 induction h with
 | nil hs he h=>exact zq _ _ _ _ _ _ hs he h
 | cons _ ih=>exact fun h=>ih h.cons
 | JG _ ih=>exact fun h=>ih h.JG
 | SV h1 hv hy hc hn dy ho h4 h6 _ ih=>
  rename_i ht _
  intro h B o cc r0 w0 H Z ha hs hp
  obtain ⟨F,_,_,_,_,hK⟩:=stay hs
  exact ih h.n B o cc r0 w0 H Z ha hs (Ru hh ha ht h1 hv hy hc hn dy ho h4 h6 hK h hp)
 | ixs hv hx _ _ ih=>exact fun h1=>ih hv hx h1
 | @Zi hd α A as d x y v k j t ty o1 o2 E xs ops i sl ms fr Γ iq f ht hy hr hE _ ih=>
  intro hv hx h1 B o ho r0 w0 H Z ha hs hp
  obtain ⟨z,hz,ho⟩:=bind_some ho
  replace hz:=p3 hz
  obtain ⟨e,ii,q1,q2,q3⟩:=ht.h
  obtain ⟨F,Hd,⟨hL,TC⟩,hS,hG,hK⟩:=stay hs
  obtain ⟨dj,_,⟨⟨n,hn,_⟩,CX⟩,tJ⟩:=(hr z).sound hL
  obtain ⟨⟨a,c,nt⟩,bh,_⟩:=vh hn j hz.1 hz.2
  refine ih z h1.n B o ho r0 w0 H Z ha ⟨F,Hd,⟨tJ (CX hE j z hz.1 hz.2),TC⟩,hS,hG⟩ (hp.val hh ha h1 hv fun r gp _ _ _ w hC=>?_)
  rw [kn q1 q2 ((bC gp hx).trans nt) (bC gp hy) hz.1 (by omega),q3,nt]
  rfl
 | @idx hd α A as d x y v k j t ty o1 o2 E xs ops i sl ms fr Γ Γ' f ht hy hr hE _ ih=>
  intro hv hx h1 B o ho r0 w0 H Z ha hs hp
  obtain ⟨z,hz,ho⟩:=bind_some ho
  replace hz:=p3 hz
  obtain ⟨F,Hd,hL,hS,hG,hK⟩:=stay hs
  obtain ⟨dj,_,⟨⟨n,hn,_⟩,CX⟩,tJ⟩:=(hr z).sound hS
  refine ih z h1.n B o ho r0 w0 H Z ha ⟨F,Hd,hL,tJ (CX hE j z hz.1 hz.2),hG⟩ (hp.val hh ha h1 hv fun r gp _ _ _ w hC=>?_)
  obtain ⟨_,_,⟨⟨n',vG,_⟩,_⟩,_⟩:=(hr z).sound (hK w hC)
  exact Ix ht.h vG hz (bC gp hx) (bC gp hy) hE w (an.refl _ _)
 | pz _ ih=>exact ih
 | @pe hd e Δ as ops i sl ms Γ m _ ih=>
  intro h1
  have h2:=ih h1
  have h3:(e :: Δ).reverse++Γ=Δ.reverse++e :: Γ:=by rw [List.reverse_cons,List.append_assoc]; rfl
  rw [h3]
  exact h2
 | @F4 hd α V Sc cl en A as d n x y v xs k j t ty ops i sl ms fr Γ Γx f ht hy hr qb hn _ ih=>
  intro hv hx hA B o ho r0 w0 H Z ha hs hp
  replace qb:SO Sc V cl en:=by cases qb; assumption
  obtain ⟨z,hz,ho⟩:=bind_some ho
  replace hz:=p3 hz
  obtain ⟨e,i',h1,h2,h3⟩:=ht.h
  obtain ⟨F,Hd,hL,hS,hG,hK⟩:=stay hs
  obtain ⟨dj,_,⟨⟨f0,EM,wm⟩,_⟩,_⟩:=hr.sound hS
  have hZ:∀ b∈f0,Z b:=fun b hb=>(wm b hb).elim (fun h=>h) (fun h=>h)
  obtain ⟨⟨a,c,nt⟩,bh,cs,f1,dp,Ll,jy⟩:=vh EM j hz.1 hz.2
  have vG:(rf Sc).size=n:=hn
  rw [vG] at jy
  obtain ⟨u,rfl,ql⟩:=qb.op dp.2
  have hblk:Z (cw v n j).block:=by
   obtain ⟨base,cap,nt,gp⟩:=EM
   rcases gp with ⟨rfl,_⟩ | ⟨b,off,cr,e',fz,f',rfl,_,rfl,_⟩
   ·simp at bh; omega
   ·obtain rfl:v = .slice (some ⟨b,off,none⟩) xs.length cap:=by simpa using nt
    have:(cw (.slice (some ⟨b,off,none⟩) xs.length cap) n j).block=b:=by unfold cw; rw [vD]
    rw [this]; exact hZ b (by simp)
  have Gc:fact Z w0 [] (.bg (cw v n j) (cl z u)):=⟨fun i u' hi=>jy i u' hi,fun _=>hblk⟩
  have dx:HL Z w0 (.bg (cw v n j) (cl z u) :: en z u) []:=.fact Gc (ve (ql Z fun b hb=>hZ b (Ll b hb)))
  obtain ⟨F',xP,jf⟩:=dx.build hS
  refine ih z u hA.n B o ho r0 w0 H Z ha ⟨F',Hd,hL,jf,hG.perm (List.Perm.append_left H (by simpa using xP))⟩ (hp.val hh ha hA hv fun r gp _ _ _ w hC=>?_)
  rw [kn h1 h2 ((bC gp hx).trans nt) (bC gp hy) hz.1 (by omega),h3,nt]
  rfl
 | @Te hd α V Sc cl en A as d n e bt x y v us xs k j t ty ops i sl ms fr Γ Γ1 f ht hy h1 hg qb _ ih=>
  intro hv hx hA B o ho r0 w0 H Z ha hs hp
  replace qb:SO Sc V cl en:=by cases qb; assumption
  obtain ⟨z,hz,ho⟩:=bind_some ho
  replace hz:=p3 hz
  obtain ⟨q1,i',_,q2,_,_,q3,_⟩:=ht.h
  obtain ⟨F,Hd,hL,hS,hG,hK⟩:=stay hs
  obtain ⟨f0,F1,_,hO,_⟩:=h1.sound hS
  obtain ⟨g0,hk,ur⟩:=hg.rd hS []
  obtain ⟨c,g1,e1,e2,e3⟩:=CP j.toNat hk.2.1 hz.2
  obtain ⟨u,rfl,ql⟩:=qb.op e2
  have hlen:us.length=xs.length:=Au hk.2.1
  have bh:j.toNat < xs.length:=(List.getElem?_eq_some_iff.1 hz.2).1
  have nt:∃ a c,v = .slice (some a) us.length c:=by
   obtain ⟨b0,cap,hv,hr⟩:=hO
   obtain rfl:v = .slice b0 us.length cap:=by simpa using hv
   rcases hr with ⟨_,_,rfl,_⟩ | ⟨b,cur,f',rfl,_⟩
   ·rw [← hlen] at bh; simp at bh
   ·exact ⟨_,_,rfl⟩
  obtain ⟨a,c',rfl⟩:=nt
  have dx:HL Z w0 (.rd false (Ac us j) (.bool true) (cl z u) :: en z u) []:=.fact ⟨[],⟨rfl,⟨hz.1,e1⟩,rfl⟩,fun _ h=>absurd h List.not_mem_nil⟩ (ve (ql Z fun b hb=>ur b (e3 b hb)))
  obtain ⟨F',xP,jf⟩:=dx.build hS
  refine ih z u hA.n B o ho r0 w0 H Z ha ⟨F',Hd,hL,jf,hG.perm (List.Perm.append_left H (by simpa using xP))⟩ (hp.val hh ha hA hv fun r gp _ _ _ w hC=>?_)
  rw [kn q1 q2 (bC gp hx) (bC gp hy) hz.1 (by omega),q3]
  rfl
 | @X4 hd A as d n e off x v u us j cs t ty ops i sl ms fr Γ Γ1 m h1 vI hc _ ih=>
  intro hv hx ht hA B o ho r0 w0 H Z ha hs hp
  obtain ⟨F,_,_,hS,_,hK⟩:=stay hs
  refine ih hA.n B o ho r0 w0 H Z ha hs (hp.val hh ha hA hv fun r hr _ _ _ w hC=>?_)
  obtain ⟨f,F1,_,hO,_⟩:=h1.sound (hK w hC)
  obtain ⟨_,⟨_,⟨hj,hu⟩,_⟩,_⟩:=vI.rd (hK w hC) []
  exact Ld ht ((xU hO hj hu).2.2 off u hc) (bC hr hx) w (an.refl _ _)
 | @Tf hd A as d n e x v u us j cs t ty ops i sl ms fr Γ Γ1 m h1 vI hc _ ih=>
  intro hv hx ht hA B o ho r0 w0 H Z ha hs hp
  obtain ⟨F,_,_,hS,_,hK⟩:=stay hs
  refine ih hA.n B o ho r0 w0 H Z ha hs (hp.val hh ha hA hv fun r hr _ _ _ w hC=>?_)
  obtain ⟨f,F1,_,hO,_⟩:=h1.sound (hK w hC)
  obtain ⟨_,⟨_,⟨hj,hu⟩,_⟩,_⟩:=vI.rd (hK w hC) []
  exact Ld ht ((xU hO hj hu).2.2 0 u hc) (bC hr hx) w (an.refl _ _)
 | load hv hx _ ih=>rename_i ht _; exact fun h1=>ih hv hx ht.h h1
 | lsw _ _ ih=>exact fun hv hx ht h1=>ih hv hx ht h1
 | @Zj hd α A as d x v j E z o' t ty ops i sl ms fr Γ Td iq m hV h CY _ ih=>
  intro hv hx ht h1 B o ho r0 w0 H Z ha hs hp
  obtain ⟨F,Hd,⟨hL,TC⟩,hS,hG,hK⟩:=stay hs
  obtain ⟨_,⟨u,k,h3,h4,h5⟩,_⟩:=(h (.bool true)).sound hL
  obtain ⟨dj,⟨u',k',Yf,h5',h6⟩,tJ⟩:=(h u).sound hL
  rw [h3] at Yf
  cases Yf
  exact ih u h1.n B o ho r0 w0 H Z ha ⟨F,Hd,⟨(CY u).sound h3 (tJ ⟨k',h5',h6⟩),TC⟩,hS,hG⟩ (hp.Zp hh ha h1 hV hv fun r hr _ _ _ w hC=>Ld ht h3 (bC hr hx) w hC)
 | @SN hd α A as d x v j o E z t ty ops i sl ms fr Γ Γx m h _ ih=>
  intro hv hx ht h1 B o' ho r0 w0 H Z ha hs hp
  obtain ⟨F,Hd,hL,hS,hG,hK⟩:=stay hs
  obtain ⟨_,⟨u,k,h2,h3,_⟩,_⟩:=h.sound hS
  refine ih hv hx ht h1 B o' ho r0 w0 H Z ha hs ⟨u,fun w hC=>?_⟩ hp
  have hb:(cw v 1 j).block ∉ H:=fun hm=>(h.Aw hS).elim (fun h=>h.elim (fun h=>absurd h List.not_mem_nil) fun h=>(List.nodup_append.1 hG.nd).2.2 _ hm _ h rfl) fun h=>hG.apart _ (List.mem_append_left _ hm) h
  have hc:=hC.cell hb h2
  obtain ⟨_,⟨u',k',h4,h5,_⟩,_⟩:=h.sound (hK w hC)
  rw [hc] at h4
  cases h4
  exact ⟨hc,k',h5⟩
 | SP h _ ih=>
  intro hv hx ht h1 B o ho r0 w0 H Z ha hs hp
  obtain ⟨F,_,_,hS,_,hK⟩:=stay hs
  exact ih h1.n B o ho r0 w0 H Z ha hs (hp.val hh ha h1 hv fun r hr _ _ _ w hC=>Ld ht (h.sound (hK w hC)) (bC hr hx) w (an.refl _ _))
 | K9 h _ ih=>
  intro hv hx ht h1 B o ho r0 w0 H Z ha hs hp
  obtain ⟨F,_,_,hS,_,hK⟩:=stay hs
  refine ih h1.n B o ho r0 w0 H Z ha hs (hp.val hh ha h1 hv fun r hr _ _ _ w hC=>?_)
  obtain ⟨h2,h3⟩:=h.sound (hK w hC)
  exact Lg ht h2 (bC hr hx) h3 w (an.refl _ _)
 | SR _ ih=>
  intro hv hx ht h1 B o ho r0 w0 H Z ha hs hu hp
  obtain ⟨u,hu⟩:=hu
  obtain ⟨_,_,h3,_⟩:=hu w0 (an.refl _ _)
  obtain rfl:u=_:=by simpa using h3
  exact ih h1.n B o ho r0 w0 H Z ha hs (hp.val hh ha h1 hv fun r hr _ _ _ w hC=>Ld ht (hu w hC).1 (bC hr hx) w (an.refl _ _))
 | @SS hd α A as d x v j E z o' t ty ops i sl ms fr Γ Γ1 Γ' m h CY _ ih=>
  intro hv hx ht h1 B o ho r0 w0 H Z ha hs hu hp
  obtain ⟨u,hu⟩:=hu
  obtain ⟨h2,_⟩:=hu w0 (an.refl _ _)
  obtain ⟨F,Hd,hL,hS,hG,hK⟩:=stay hs
  obtain ⟨dj,⟨u',k',h4,h5,h6⟩,tJ⟩:=(h u).sound hS
  rw [h2] at h4
  cases h4
  exact ih u h1.n B o ho r0 w0 H Z ha ⟨F,Hd,hL,(CY u).sound h2 (tJ ⟨k',h5,h6⟩),hG⟩ (hp.val hh ha h1 hv fun r hr _ _ _ w hC=>Ld ht (hu w hC).1 (bC hr hx) w (an.refl _ _))
 | @F5 hd α A as d t e ty E z0 bt ops i sl ms Γ m hz _ ih=>
  intro h1 B o ho r0 w0 H Z ha hs hp
  exact ih h1.n B o ho r0 w0 H Z ha hs (Rx hz h1 hp)
 | K8 hU _ ih=>exact fun h1=>ih hU h1
 | @call hd β V A as d f xs bg ty mo rt ps ops i sl ms fr Γ g hf hv hc hi lz hw _ ih=>
  intro _ h1 B o ho r0 w0 H Z ha hs hp
  obtain ⟨y,hy,ho⟩:=bind_some ho
  obtain ⟨pos,ah,h2⟩:=h1.o
  exact ih y h1.n (by unfold bw; rw [h2]; rfl) B o ho r0 w0 H Z ha hs (NT hh hf hv hc hi lz hw h1 hy ha hs hp)
 | @WW hd β V A as d f xs bg ty mo rt ps ops i sl ms fr Γ g hf hV hv hc hi lz hw _ ih=>
  intro hU h1 B o ho r0 w0 H Z ha hs hp
  obtain ⟨y,hy,ho⟩:=bind_some ho
  obtain ⟨pos,ah,h2⟩:=h1.o
  exact ih y h1.n (by unfold bw; rw [h2]; rfl) B o ho r0 w0 H Z ha hs (Lu hh hf hv hU hV hc hi lz hw h1 hy ha hs hp)
 | @WX hd β V j1 a1 o5 A as d f xs bg ty mo rt ps ops i sl ms fr Γ g hf hg Qo h4 hv hc hi lz hw _ ih=>
  intro hU h1 B o ho r0 w0 H Z ha hs hp
  obtain ⟨y,hy,ho⟩:=bind_some ho
  obtain ⟨pos,ah,h2⟩:=h1.o
  exact ih y h1.n (by unfold bw; rw [h2]; rfl) B o ho r0 w0 H Z ha hs (let ⟨S',e1,e2,e3⟩:=Lx hh hf hv hU hg Qo h4 hc hi lz hw h1 hy ha hs hp; ⟨S',e1,e2.re (qm (by rw [← h1.A]; exact n9.1 h4)).1,e3⟩)
 | @crb hd u ps d as ops i sl ms Γ m _ ih=>
  intro h1 iq B o ho r0 w0 H Z ha hs ⟨S',hl,hR,hO,hL⟩
  subst hl
  refine ih h1 B o ho r0 w0 H Z ha hs ⟨S'++[⟨true,MV Z ⟨S'.length,d,[],Unit,fun _=>u,fun _=>ps⟩⟩],by simp,(hR.mem (b:=⟨S'.length,d,[],Unit,fun _=>u,fun _=>ps⟩) rfl iq (fun _ h=>nomatch h)).Zk (s:=⟨true,MV Z ⟨S'.length,d,[],Unit,fun _=>u,fun _=>ps⟩⟩) iq (by simp) rfl (fun f w r x ⟨v,h,_⟩=>h),fun j hj=>?_⟩
  by_cases h2:j < S'.length
  ·exact jx.more (hO j h2) h2
  ·obtain rfl:j=S'.length:=by omega
   exact hL _ fun f w r x h=>⟨f,fun _ h=>h,h⟩
 | @crv hd u d as ops i sl ms Γ m _ ih=>
  intro h1 iq B o ho r0 w0 H Z ha hs ⟨S',hl,hR,hO,hL⟩
  subst hl
  refine ih h1 B o ho r0 w0 H Z ha hs ⟨_,by simp,hR.val iq,fun j hj=>?_⟩
  by_cases h2:j < S'.length
  ·exact jx.more (hO j h2) h2
  ·obtain rfl:j=S'.length:=by omega
   exact hL (pl fun _ _ x=>x=_) fun f w r x ⟨v,h,_⟩=>⟨[],fun _ h=>absurd h List.not_mem_nil,h⟩
 | @crm hd V u ps d as ops i sl ms Γ m _ ih=>
  intro h1 iq B o ho r0 w0 H Z ha hs ⟨S',hl,hR,hO,hL⟩
  subst hl
  refine ih h1 B o ho r0 w0 H Z ha hs ⟨_,by simp,hR.mem rfl iq (fun _ h=>nomatch h),fun j hj=>?_⟩
  by_cases h2:j < S'.length
  ·exact jx.more (hO j h2) h2
  ·obtain rfl:j=S'.length:=by omega
   exact hL _ fun f w r x h=>⟨f,fun _ h=>h,h⟩
 | SU hU _ ih=>exact fun h1=>ih hU h1
 | apH Lv hv dy h2 h5 hl hz h1 hr hy _ ih=>
  rename_i hT _
  intro hU h B o ho r0 w0 H Z ha hs hp
  obtain ⟨u,hu,ho⟩:=bind_some ho
  obtain ⟨p1,p2⟩:=Ry hh ha hT hU Lv hv dy h2 h5 hl hz h1 hr hy hu h hs hp
  exact ih h.n B o ho r0 w0 H Z ha p2 p1
 | ap1 h1 h2 h3 hw h4 h5 _ ih=>
  rename_i hz _
  intro h6 h B o ho r0 w0 H Z ha hs hp
  obtain ⟨u,hu,ho⟩:=bind_some ho
  exact ih h.n B o ho r0 w0 H Z ha hs (Rs hz h1 h2 h3 h4 h5 (h6.trans hw) hu h hp)
 | sw1 _ _ ih=>exact fun h1=>ih h1
 | sw4 _ _ ih=>exact fun h1=>ih h1
 | Qn _ ih=>
  rename_i hz _
  intro h1 B o ho r0 w0 H Z ha hs hp
  exact ih h1.n B o ho r0 w0 H Z ha hs (Rv hz h1 hp)
 | sw5 _ _ ih=>exact fun h1=>ih h1
 | mln hi lz hx _ ih=>
  rename_i ht _
  intro h1 B o ho r0 w0 H Z ha hs hp
  exact ih h1.n B o ho r0 w0 H Z ha hs (Tk hp h1 ht hi lz hx)
 | wv hv hq _ ih=>
  intro h1 B o ho r0 w0 H Z ha hs hp
  obtain ⟨F,_,_,_,_,hK⟩:=stay hs
  exact ih h1.n B o ho r0 w0 H Z ha hs (hp.val hh ha h1 hv fun r hr _ _ _ w hC=>hq.sound (hK w hC) hr _ _ _ _ _ w (an.refl _ _))
 | wlt hv hx ho _ ih=>
  rename_i hz _
  intro h1 B o cc r0 w0 H Z ha hs hp
  obtain ⟨F,_,_,_,_,hK⟩:=stay hs
  exact ih h1.n B o cc r0 w0 H Z ha hs (Tp hh ha hz hv hx ho hK h1 hp)
 | ltn hv iq hn hb _ ih=>
  rename_i hz _
  intro h1 B o cc r0 w0 H Z ha hs hp
  obtain ⟨F,_,_,_,_,hK⟩:=stay hs
  exact ih h1.n B o cc r0 w0 H Z ha hs (IW hh ha hz hv iq hn hb hK h1 hp)
 | ltu hv iq hn hb _ ih=>
  rename_i hz _
  intro h1 B o cc r0 w0 H Z ha hs hp
  obtain ⟨F,_,_,_,_,hK⟩:=stay hs
  exact ih h1.n B o cc r0 w0 H Z ha hs (IW hh ha ⟨hz.h⟩ hv iq hn hb hK h1 hp)
 | @tv hd A as op x y k k' a b t t' d ty ops i sl ms fr Γ f hv hx hy hk _ ih=>
  intro h1 B o ho r0 w0 H Z ha hs hp
  obtain ⟨z,hz,ho⟩:=bind_some ho
  have Az:K7 op=true∨k=k':=by
   cases hk with
   | same=>exact .inr rfl
   | sh h=>exact .inl h
  exact ih z h1.n B o ho r0 w0 H Z ha hs (hp.val hh ha h1 hv fun r hr _ _ _ w hC=>Lj (bC hr hx) (bC hr hy) Az hz)
 | mk hv hx _ ih=>
  rename_i hz _
  intro h1 B o ho r0 w0 H Z ha hs hp
  obtain ⟨n,hn,ho⟩:=bind_some ho
  exact ih n h1.n B o ho r0 w0 H Z ha hs (Tn hh ha hz hv hx hn h1 hp)
 | mbl hi lz _ hj hv hxx _ ih=>
  rename_i hb _ _
  intro h1 B o ho r0 w0 H Z ha hs hp
  exact ih h1.n B o ho r0 w0 H Z ha hs (Rw hh hb hi lz hj hv hxx h1 ha hs hp)
 | val hv hq _ ih=>
  intro h1 B o ho r0 w0 H Z ha hs hp
  obtain ⟨F,_,_,_,_,hK⟩:=stay hs
  exact ih h1.n B o ho r0 w0 H Z ha hs (hp.val hh ha h1 hv fun r hr _ _ _ w hC=>hq.sound (hK w hC) hr _ _ _ _ _ w (an.refl _ _))
end
end Go.Dk
namespace Go.Dk
open Go Go.Li
section
variable {R S:Type} {P:Program} {cx:Cx R} {K:de R S} {l tail:LO} {base fr:Fr} {w:World} {Z:Nat→Prop}
theorem Ii {n:Nat} {Q:Exit→(Nat→Value)→World→Prop} {r:NV} (hQ:∀ c,¬ Q (.panic c) r w):∀ fu,∀ c,¬ zk P n Q fu (.panic c) r w:=by
 intro fu
 induction fu with
 | nil=>exact hQ
 | cons a fu ih=>cases a <;> exact ih
theorem Ij {B:Bs} {b:Kb R S} {o:Out S R} {r:NV}:∀ c,¬ Fv P cx B b o (.panic c) r w:=by
 intro c
 cases b <;> cases o <;> exact fun h=>h
theorem B8 {B:Bs} {K:de R S} {o:Out S R} {r:NV}:∀ c,¬ km P cx B K o (.panic c) r w:=Ii Ij _
def zv (g:Nat→List Nat):List gj→List Nat
 | []=>[]
 | a :: l=>g a.j++zv g l
theorem Cu {g:Nat→List Nat}:∀ {ms:MM} {b:Nat},b∈zv g ms→∃ a∈ms,b∈g a.j:=by
 intro ms
 induction ms with
 | nil=>intro b h; exact absurd h List.not_mem_nil
 | cons a ms ih=>
  intro b h
  rcases List.mem_append.1 h with h | h
  ·exact ⟨a,by simp,h⟩
  ·obtain ⟨c,h1,h2⟩:=ih h
   exact ⟨c,List.mem_cons_of_mem _ h1,h2⟩
theorem IZ {Vo Vr A F:LN} (h:(Vo++Vr).Perm A):((Vo++F)++Vr).Perm (A++F):=by
 refine List.Perm.trans ?_ (h.append_right F)
 rw [List.append_assoc,List.append_assoc]
 exact List.Perm.append_left Vo List.perm_append_comm
theorem Qq {g:Nat→List Nat} {r:NV}:∀ {ms:MM},AF ms=true→(ms.map (·.j)).Nodup→(∀ a∈ms,∀ b∈ms,a.j≠b.j→sb (g a.j) (g b.j))→(∀ a∈ms,MV Z a (g a.j) w r (r a.d))→
  ∃ x:qy ms,(∀ p∈mF ms x,r p.1=p.2)∧(∃ Vo Vr,(Vo++Vr).Perm (zv g ms)∧(∀ b∈Vr,b < w.heap.size)∧HL (rv Z Vr) w (Cq ms x) Vo)∧(zv g ms).Nodup:=by
 intro ms
 induction ms with
 | nil=>intro _ _ _ _; exact ⟨(),fun p hp=>absurd hp List.not_mem_nil,⟨[],[],.refl _,fun b (h:b∈[])=>absurd h List.not_mem_nil,.nil⟩,List.nodup_nil⟩
 | cons a ms ih=>
  intro lz hd hi h
  unfold AF at lz
  rw [Bool.and_eq_true] at lz
  rw [List.map_cons,List.nodup_cons] at hd
  obtain ⟨x,hx,hl,hn⟩:=ih lz.2 hd.2 (fun b hb c hc=>hi b (List.mem_cons_of_mem _ hb) c (List.mem_cons_of_mem _ hc)) fun b hb=>h b (List.mem_cons_of_mem _ hb)
  obtain ⟨v,e1,e2,e3⟩:=h a (by simp)
  have es:yj a r=AE a (mF ms x):=by
   have h3:=lz.1
   rw [List.all_eq_true] at h3
   refine BB fun t ht=>?_
   unfold xR
   rw [NO (h3 t ht) hx]
  rw [es] at e1 e2
  refine ⟨(v,x),?_,?_,xT e3 hn ?_⟩
  rotate_left
  ·obtain ⟨Fo,Fr,hf,h1,h2⟩:=e2.all
   obtain ⟨Vo,Vr,k1,k2,k3⟩:=hl
   refine ⟨Fo++Vo,Fr++Vr,?_,fun b hb=>(List.mem_append.1 hb).elim (h1 b) (k2 b),(h2.mono fun b h=>h.imp id fun h=>List.mem_append_left _ h).app (k3.mono fun b h=>h.imp id fun h=>List.mem_append_right _ h)⟩
   show List.Perm _ (g a.j++zv g ms)
   rw [hf]
   refine List.Perm.trans ?_ (k1.append_left (Fo++Fr))
   rw [List.append_assoc,List.append_assoc]
   refine List.Perm.append_left Fo ?_
   rw [← List.append_assoc,← List.append_assoc]
   exact List.Perm.append_right Vr List.perm_append_comm
  rotate_right
  ·intro p hp
   rcases List.mem_cons.1 hp with rfl | hp
   ·exact e1
   ·exact hx p hp
  ·intro b hb hm
   obtain ⟨c,h1,h2⟩:=Cu hm
   exact hi a (by simp) c (List.mem_cons_of_mem _ h1) (fun e=>hd.1 (by rw [e]; exact List.mem_map_of_mem h1)) b hb h2
theorem GB {r:NV} {f:Fr}:∀ {sl:LQ},(∀ p∈sl,r p.2.1=p.2.2)→(∀ p∈f,r p.1=p.2)→∀ p∈zp sl f,r p.1=p.2:=by
 intro sl
 induction sl with
 | nil=>intro _ h; exact h
 | cons a sl ih=>
  intro h1 h2 p hp
  rcases List.mem_cons.1 hp with rfl | hp
  ·exact h1 a (by simp)
  ·exact ih (fun p hp=>h1 p (List.mem_cons_of_mem _ hp)) h2 p hp
theorem NX {mt:Nat} {U:LL} {Ly:QE} (hh:mm l mt base=true) {sl:LQ} {ms:MM} {Γ:QE} {m:Option (Out S R)} (Lz:AF ms=true) (ql:Cs U sl ms=true)
  (h:∀ x:qy ms,D P cx (.p (zp sl (mF ms x)) (Cq ms x) base Γ fun fr Γ=>.tg false (Ax tail) l tail K Γ fr m)) {B:Bs} {o:Out S R} (ho:m=some o) {r0:NV} {w0:World} {H:LN} {Z:Nat→Prop} (ha:dc r0 base) (hs:tA B Z Ly Γ H w0) {S':List fv} (hi:S'.length=mt) (hR:gy Z l S' sl ms) :
  ∀ g r w,wY l mt S' U r0 w0 H (fun j=>j < mt) g r w→WL P l tail r w (km P cx B K o .normal):=by
 obtain ⟨F,Hd,⟨B5,B6,wX,B7⟩,hS,hG⟩:=hs
 intro g r w hI
 have JM:∀ k j,j∈U.getD k []→∀ a∈ms,a.j≠j:=by
  intro k j hj
  unfold Cs at ql
  rw [Bool.and_eq_true] at ql
  rw [List.getD_eq_getElem?_getD] at hj
  cases hk:U[k]? with
  | none=>rw [hk] at hj; exact absurd hj List.not_mem_nil
  | some us=>
   rw [hk] at hj
   have h1:=List.all_eq_true.1 (List.all_eq_true.1 ql.1 us (List.mem_of_getElem? hk)) j hj
   intro a ha he
   have:=List.all_eq_true.1 h1 a ha
   rw [he,Nat.beq_refl] at this
   cases this
 have hD:∀ j,j < mt→(∀ k,j ∉ U.getD k [])→wV l S' j g r w:=fun j hj hn=>hI.done j hj fun k _=>hn k
 have bh:∀ a∈ms,a.j < mt:=fun a ha=>hi ▸ hR.lt ha
 obtain ⟨x,hx,td,TD⟩:=Qq (g:=g) (r:=r) (w:=w) Lz hR.d (fun a ha b hb wo=>hI.wq _ _ (bh a ha) (bh b hb) wo) fun a ha=>by
  have:=hR.Gr (S2:=[]) ha (by rw [List.append_nil]; exact hD a.j (bh a ha) (fun k hk=>JM k _ hk a ha rfl))
  exact this
 have C2:=List.nodup_append.1 hG.nd
 have qd:∀ b∈zv g ms,w0.heap.size≤b∨b∈H:=fun b hb=>by
  obtain ⟨a,h1,h2⟩:=Cu hb
  exact (hI.fresh a.j (bh a h1) b h2).1.imp (fun h=>h) (·.1)
 have ik:=tA.stay hS hG hI.j9
 obtain ⟨Vo,Vr,TE,TF,td⟩:=td
 obtain ⟨F',hp,jf⟩:=td.build (ik.mono (fun _ h=>.inl h) fun _ h=>h)
 have GC:Gd B Z (zv g ms++F) w:=by
  refine ⟨xT TD C2.2.1 fun b hb hF=>(qd b hb).elim (fun h=>Nat.lt_irrefl _ (Nat.lt_of_lt_of_le (hS.lt b hF) h)) (fun h=>C2.2.2 b h b hF rfl),?_,fun b hb=>Nat.lt_of_lt_of_le (hG.tb b hb) hI.j9.size,?_,hG.xK,hG.yi,hG.j9.then hI.j9 fun b hb=>hG.low b (List.mem_append_left _ hb)⟩
  ·intro b hb hz
   rcases List.mem_append.1 hb with hb | hb
   ·exact (qd b hb).elim (fun h=>Nat.lt_irrefl _ (Nat.lt_of_lt_of_le (hG.tb b hz) h)) (fun h=>hG.apart b (List.mem_append_left _ h) hz)
   ·exact hG.apart b (List.mem_append_right _ hb) hz
  ·intro b hb
   rcases List.mem_append.1 hb with hb | hb
   ·exact (qd b hb).elim (fun h=>.inr (Nat.le_trans hG.j9.size h)) (fun h=>hG.low b (List.mem_append_left _ h))
   ·exact hG.low b (List.mem_append_right _ hb)
 have NY:dc r ((zp sl (mF ms x)).reverse++base):=by
  refine qk (GB (fun p hp=>?_) hx) (l4 hh ha hI.other)
  exact hR.B3 (S2:=[]) hp fun j _ hj=>(by rw [List.append_nil]; exact hI.tc j (hi ▸ hj))
 have:=(h x).sound B o ho r w NY ⟨_,F',jf,((GC.perm (IZ TE)).freeze TF).perm hp⟩
 exact this
theorem Rz {mt id:Nat} {U:LL} {Zl:LN} {Ly:QE} (hU:((List.range mt).all fun i=>(U.getD i []).all fun u=>Nat.beq u l.length || ((b9 l).getD i []).contains u)=true) (hh:mm l mt base=true) (hd:di cx.n l=true) (hA:zw l mt Zl=true) (hZ:GD l mt Zl=true) (EX:mt≤l.length) (ht:tail=l.drop mt) {i:Nat} {sl:LQ} {ms:MM} {Γ:QE} {m:Option (Out S R)} (Lz:AF ms=true) (ql:Cs U sl ms=true)
  (h:∀ x:qy ms,D P cx (.p (zp sl (mF ms x)) (Cq ms x) base Γ fun fr Γ=>.tg false (Ax tail) l tail K Γ fr m)):JL P cx K l l mt U Ly id base (.a [] [] i sl ms Γ m):=by
 rintro ⟨_,h2,h3⟩ B o ho r0 w0 H Z ha hs ⟨S',hl,hR,hO⟩
 have hi:i=mt:=by
  have:=congrArg List.length h2
  simp at this
  omega
 subst hl
 have hs2:=hs
 obtain ⟨F,Hd,⟨B5,B6,wX,B7⟩,hS,hG⟩:=hs
 refine TG (N:=Z) (S:=S') (U:=U) (H:=H) hd hA hZ (fun c r w h=>B8 c h) EX hi wX hU (fun b hb=>⟨hG.tb b hb,fun h=>hG.apart b (List.mem_append_left _ h) hb⟩) (fun i s hs=>hR.s i s hs) (fun j hj=>hO j (by omega)) ?_
 intro g r w hI
 have:=NX hh Lz ql h ho ha hs2 hi hR g r w hI
 rwa [ht] at this
def Kq (q:Option (Bool×Nat×Value)) (f:Fr):Fr:=
 match q with
 | none=>f
 | some (_,d,u)=>(d,u) :: f
theorem Kp.lk {ws:LN} {q:Option (Bool×Nat×Value)} {f g:Fr} (h:Kp ws q f g):(∀ b d u,q=some (b,d,u)→b=iu d ws)→∀ t v,look g t=some v→iu t ws=false∧look (Kq q f) t=some v:=by
 induction h with
 | nil=>intro _ t v h; cases h
 | cons _ ih=>intro _ t v h; exact ih (by rintro b d u h; cases h; rfl) t v h
 | @drop ws d u f g _ ih=>
  intro hq t v h
  obtain ⟨h1,h2⟩:=ih (by rintro b d u h; cases h) t v h
  refine ⟨h1,?_⟩
  show look ((d,u) :: f) t=some v
  unfold look
  cases hb:Nat.beq t d with
  | true=>have:=hq true d u rfl; rw [Nat.eq_of_beq_eq_true hb,← this] at h1; cases h1
  | false=>exact h2
 | @ec ws d u f g _ ih=>
  intro hq t v h
  unfold look at h
  show iu t ws=false∧look ((d,u) :: f) t=some v
  unfold look
  cases hb:Nat.beq t d with
  | true=>rw [hb] at h; exact ⟨by rw [Nat.eq_of_beq_eq_true hb]; exact (hq false d u rfl).symm,h⟩
  | false=>
   rw [hb] at h
   obtain ⟨h1,h2⟩:=ih (by rintro b d u h; cases h) t v h
   unfold iu at h1
   rw [hb] at h1
   exact ⟨h1,h2⟩
theorem Kp.sound {ws:LN} {f g:Fr} {r:NV} (h:Kp ws none f g) (ha:dc r f):dc r g:=
 fun t v hl=>ha t v (h.lk (by rintro b d u h; cases h) t v hl).2
theorem TH {id:Nat} (hd:QE) (mt:Nat) (Zl:LN) (U as:LL) {ops:LO} {Γ Γ1:QE} {fr:Fr} {m:Option (Out S R)}
  (hB:(P.follows .mixedOrders && di cx.n l && zw l mt Zl && GD l mt Zl && Nat.ble mt l.length && (l8 l U mt == as) && ((List.range mt).all fun i=>(U.getD i []).all fun u=>Nat.beq u l.length || ((b9 l).getD i []).contains u))=true)
  (ho:ops=l.take mt) (ht:tail=l.drop mt) (hf:Kp (zm ops) none fr base) (hh:mm l mt base=true) (he:EO Γ hd Γ1) (GF:OW Γ hd)
  (h:AD false P cx K l tail base U hd (.a as ops 0 [] [] Γ1 m)):∀ B o,m=some o→∀ r w,dc r fr→St B Γ w→nm P cx.n l (km P cx B K o) r w:=by
 simp only [Bool.and_eq_true] at hB
 obtain ⟨⟨⟨⟨⟨⟨_,b2⟩,b3⟩,b4⟩,b5⟩,b6⟩,b7⟩:=hB
 intro B o hm r w ha hs
 obtain ⟨Z,F,hS,hG⟩:=hs
 obtain ⟨Fd,F',h1,h2,h3⟩:=he.sound hS
 have GG:SA Z w hd [] Fd:=by
  have:=(HO.hl GF hS h1).front (Γ:=[]) (F:=[]) rfl
  simpa using this
 have hX:tA B Z hd Γ1 Fd w:=⟨F',Fd,⟨GG,fun b hb=>⟨hb,GG.lt b hb⟩,GG.lt,(List.nodup_append.1 (hG.perm h3).nd).1⟩,h2,hG.perm h3⟩
 refine AD.sound (id:=id) hh (fun _ _ _ _ _ _ hs he h=>Rz b7 hh b2 b3 b4 (Nat.le_of_ble_eq_true b5) ht hs he h) h
  ⟨by rw [List.drop_zero]; exact (eq_of_beq b6).symm,by rw [List.drop_zero]; exact ho,Nat.zero_le _⟩ B o hm r w Fd Z (hf.sound ha) hX ⟨[],rfl,⟨fun _ h=>absurd h List.not_mem_nil,fun _ h=>absurd h List.not_mem_nil,fun i s h=>by simp at h,List.nodup_nil,fun _ _ _ h1 h2=>C3 l (LA b3) h1 h2⟩,fun j hj=>absurd hj (Nat.not_lt_zero j)⟩
theorem ym {id:Nat} (hd:QE) (mt:Nat) (Zl:LN) (U as:LL) {ops:LO} {Γ Γ1:QE} {fr:Fr} {m:Option (Out S R)}
  (hB:(P.follows .mixedOrders && di cx.n l && zw l mt Zl && GD l mt Zl && Nat.ble mt l.length && (l8 l U mt == as) && ((List.range mt).all fun i=>(U.getD i []).all fun u=>Nat.beq u l.length || ((b9 l).getD i []).contains u))=true)
  (ho:ops=l.take mt) (ht:tail=l.drop mt) (hf:Kp (zm ops) none fr base) (hh:mm l mt base=true) (he:EO Γ hd Γ1) (GF:OW Γ hd)
  (h:AD false P cx K l tail base U hd (.a as ops 0 [] [] Γ1 m)):Bx (na P cx (.dr id l K Γ fr m)):=by
 have hm:P.follows .mixedOrders=true:=by
  simp only [Bool.and_eq_true] at hB
  exact hB.1.1.1.1.1.1
 rw [mg]
 intro B o uY r w ha hs
 exact (TH (id:=id) hd mt Zl U as hB ho ht hf hh he GF h B o uY r w ha hs).W hm
theorem Zs {id:Nat} {l0:LO} (σ π:LN) (hd:QE) (mt:Nat) (Zl:LN) (U as:LL) {ops:LO} {Γ Γ1:QE} {fr:Fr} {m:Option (Out S R)}
  (hB:(P.follows .mixedOrders && NZ l0 σ π && di cx.n (o9 l0 σ π) && zw (o9 l0 σ π) mt Zl && GD (o9 l0 σ π) mt Zl && Nat.ble mt (o9 l0 σ π).length && (l8 (o9 l0 σ π) U mt == as) && ((List.range mt).all fun i=>(U.getD i []).all fun u=>Nat.beq u (o9 l0 σ π).length || ((b9 (o9 l0 σ π)).getD i []).contains u))=true)
  (hl:l=o9 l0 σ π) (ho:ops=l.take mt) (ht:tail=l.drop mt) (hf:Kp (zm ops) none fr base) (hh:mm l mt base=true) (he:EO Γ hd Γ1) (GF:OW Γ hd)
  (h:AD false P cx K l tail base U hd (.a as ops 0 [] [] Γ1 m)):Bx (na P cx (.dr id l0 K Γ fr m)):=by
 subst hl
 simp only [Bool.and_eq_true] at hB
 obtain ⟨⟨⟨⟨⟨⟨⟨b0,b1⟩,b2⟩,b3⟩,b4⟩,b5⟩,b6⟩,b7⟩:=hB
 rw [mg]
 intro B o uY r w ha hs
 refine ((TH (id:=id) hd mt Zl U as ?_ ho ht hf hh he GF h B o uY r w ha hs).prm b1).W b0
 simp only [Bool.and_eq_true]
 exact ⟨⟨⟨⟨⟨⟨b0,b2⟩,b3⟩,b4⟩,b5⟩,b6⟩,b7⟩
theorem any {id:Nat} (mt:Nat) (Zl:LN) (U as:LL) {ops:LO} {Γ:QE} {fr:Fr} {m:Option (Out S R)}
  (hB:(P.follows .mixedOrders && di cx.n l && zw l mt Zl && GD l mt Zl && Nat.ble mt l.length && (l8 l U mt == as) && ((List.range mt).all fun i=>(U.getD i []).all fun u=>Nat.beq u l.length || ((b9 l).getD i []).contains u))=true)
  (ho:ops=l.take mt) (ht:tail=l.drop mt) (hf:Kp (zm ops) none fr base) (hh:mm l mt base=true)
  (h:AD false P cx K l tail base U [] (.a as ops 0 [] [] Γ m)):Bx (na P cx (.dr id l K Γ fr m)):=ym [] mt Zl U as hB ho ht hf hh .nil .nil h
end
end Go.Dk
