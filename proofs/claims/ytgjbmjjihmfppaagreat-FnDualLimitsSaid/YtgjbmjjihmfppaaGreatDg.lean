/- A calculus of walks: regions that draw their order and make memory. No condition. -/
import Derived.Test.YtgjbmjjihmfppaaGreatDe
import Derived.Laws.Slices
namespace Go.Dk
open Go Go.Li
section
variable {w:World}
def rm {α:Type} (e:TI) (E:af α) (j:Nat):af (List α) where
 size:=1
 rep h cs xs f:=∃ b cap cur f1 f2 p c0 q,cs=[.slice (some ⟨b,0,none⟩) xs.length cap]∧h[b]? = some (.cells cur e (0,0))∧f=b :: (f1++f2)∧(xs.length≤cap∧cap≤maxLen∧cur.size=cap∧E.size=1)∧cur.toList.take xs.length=p++[c0]++q∧(p.length=j∧j < xs.length)∧
  (∀ i∈f1++f2,i < h.size)∧∀ h':Array Obj,(∀ i∈f1++f2,h'[i]? = h[i]?)→∀ u z k,E.rep h' [u] z k→dx E h' (p++[u]++q) (xs.set j z) (f1++k++f2)
 len:=by rintro h cs x f ⟨b,cap,cur,f1,f2,p,c0,q,rfl,_⟩; rfl
 one:=by rintro h cs x f ⟨b,cap,cur,f1,f2,p,c0,q,rfl,_⟩ v hv; simp at hv; subst hv; rfl
 congr:=by
  rintro h h' cs x f ⟨b,cap,cur,f1,f2,p,c0,q,rfl,h1,rfl,h2,h3,h4,h5,h6⟩ hb
  refine ⟨b,cap,cur,f1,f2,p,c0,q,rfl,(hb b (by simp)).trans h1,rfl,h2,h3,h4,fun i hi=>?_,fun h'' cu=>h6 h'' fun i hi=>(cu i hi).trans (hb i (List.mem_cons_of_mem _ hi))⟩
  have:=hb i (List.mem_cons_of_mem _ hi)
  rw [Array.getElem?_eq_getElem (h5 i hi)] at this
  exact (Array.getElem?_eq_some_iff.1 this).1
 lt:=by
  rintro h cs x f ⟨b,cap,cur,f1,f2,p,c0,q,rfl,h1,rfl,h2,h3,h4,h5,h6⟩ i hi
  rcases List.mem_cons.1 hi with rfl | hi
  ·exact (Array.getElem?_eq_some_iff.1 h1).1
  ·exact h5 i hi
theorem B4 {α:Type} {e:TI} {E:af α} {v u:Value} {xs:List α} {f:LN} {j:Int} {z:α} (h1:E.size=1) (hO:(aK e E).rep w.heap [v] xs f) (hz:xs[j.toNat]? = some z) (hu:w.cell? (dc v 1 j)=some u) :
  ∃ k g,E.rep w.heap [u] z k∧(k++g).Perm f∧(rm e E j.toNat).rep w.heap [v] xs g:=by
 obtain ⟨base,cap,hv,hr⟩:=hO
 obtain rfl:v = .slice base xs.length cap:=by simpa using hv
 have bc:j.toNat < xs.length:=(List.getElem?_eq_some_iff.1 hz).1
 rcases hr with ⟨_,_,rfl,_⟩ | ⟨b,cur,f0,rfl,hg,rfl,xx,tI,vG,dq⟩
 ·simp at bc
 ·rw [h1,Nat.mul_one] at vG dq
  have wo:dc (.slice (some ⟨b,0,none⟩) xs.length cap) 1 j = ⟨b,j.toNat,none⟩:=by
   simp only [dc,ja,Nat.zero_add,Nat.mul_one]
  rw [wo,cell_of_row w b _ cur e _ hg] at hu
  have M8:∀ i∈f0,i < w.heap.size:=ml dq
  obtain ⟨c,g0,g1,g2,p,q,Ak,hc,hp,zU,rE⟩:=yV j.toNat z dq hz
  subst Ak
  rw [h1,Nat.mul_one] at hp
  have Cq:c.length=1:=by rw [E.len zU,h1]
  obtain ⟨c0,rfl⟩ : ∃ c0,c=[c0]:=by match c,Cq with | [c0],_=>exact ⟨c0,rfl⟩
  have Sp:c0=u:=by
   have h2:(cur.toList.take xs.length)[j.toNat]? = some c0:=by
    rw [hc,List.append_assoc,List.getElem?_append_right (by omega),hp,Nat.sub_self]; rfl
   rw [List.getElem?_take,if_pos bc,Array.getElem?_toList,hu] at h2
   exact (Option.some.inj h2).symm
  subst Sp
  refine ⟨g1,b :: (g0++g2),zU,?_,b,cap,cur,g0,g2,p,c0,q,rfl,hg,rfl,⟨xx,tI,vG,h1⟩,hc,⟨hp,bc⟩,fun i hi=>M8 i (by rcases List.mem_append.1 hi with hi | hi <;> simp [hi]),fun h' cu u z' k' hr=>rE h' [u] z' k' (fun i hi=>cu i (by simp [hi])) (fun i hi=>cu i (by simp [hi])) hr⟩
  refine (List.perm_append_comm (l₁:=g1) (l₂:=b :: (g0++g2))).trans ?_
  rw [List.cons_append]
  refine List.Perm.cons b ?_
  rw [List.append_assoc,List.append_assoc]
  exact List.Perm.append_left g0 List.perm_append_comm
end
structure fg where
 j:Nat
 d:Nat
 src:List Nat
 V:Type
 rt:Value→V→Value
 ps:Value→V→List av
abbrev MM:=List fg
def lq:List fg→Type
 | []=>Unit
 | a :: l=>a.V×lq l
def yd (f:NV):List Nat→Value
 | []=>undef
 | [t]=>f t
 | ts=>.tuple (ts.map f).toArray
def xE (f:Fr) (t:Nat):Value:=match look f t with
 | some v=>v
 | none=>undef
def tR (a:fg) (r:NV):Value:=yd r a.src
def Ao (a:fg) (f:Fr):Value:=yd (xE f) a.src
theorem Bf {f g:NV}:∀ {ts:LN},(∀ t∈ts,f t=g t)→yd f ts=yd g ts:=by
 intro ts h
 match ts,h with
 | [],_=>rfl
 | [t],h=>exact h t (by simp)
 | t :: s :: ts,h=>
  show Value.tuple (List.map f (t :: s :: ts)).toArray=Value.tuple (List.map g (t :: s :: ts)).toArray
  rw [List.map_congr_left h]
def mF:(ms:MM)→lq ms→Fr
 | [],_=>[]
 | a :: l,x=>(a.d,a.rt (Ao a (mF l x.2)) x.1) :: mF l x.2
def DE:(ms:MM)→lq ms→List av
 | [],_=>[]
 | a :: l,x=>a.ps (Ao a (mF l x.2)) x.1++DE l x.2
def jj (A:LN):(ms:MM)→lq ms→Fr
 | [],_=>[]
 | a :: l,x=>bif dt a.j A then (a.d,a.rt (Ao a (mF l x.2)) x.1) :: jj A l x.2 else jj A l x.2
def qx (A:LN):(ms:MM)→lq ms→List av
 | [],_=>[]
 | a :: l,x=>bif dt a.j A then a.ps (Ao a (mF l x.2)) x.1++qx A l x.2 else qx A l x.2
def o7 (t:Nat):List fg→Option Nat
 | []=>none
 | a :: l=>bif Nat.beq t a.d then some a.j else o7 t l
def ze (ms:MM):List (Nat×Operand)→List Nat
 | []=>[]
 | (_,.tmp s) :: l=>match o7 s ms with
  | some _=>s :: ze ms l
  | none=>ze ms l
 | _ :: l=>ze ms l
def XM (s:Nat):List Nat→Option Nat
 | []=>none
 | t :: l=>bif Nat.beq s t then some 0 else (XM s l).map (·+1)
def Za (v:Value) (k:Nat):Value:=match v with
 | .tuple vs=>vs.toList.getD k undef
 | _=>undef
def Zb (f:Fr) (ts:LN) (u:Value):Operand→Value
 | .tmp s=>match XM s ts with
  | some k=>(match ts with
   | [_]=>u
   | _=>Za u k)
  | none=>xE f s
 | x=>match bb f x with
  | some v=>v
  | none=>undef
def W0 (k:Nat) (v:Value):List Value:=bif Nat.beq k 1 then [v] else match v with
 | .agg cs=>cs.toList
 | _=>[]
def PY (pl:List (Nat×Nat)):List (Nat×Value)→List Value→List Value
 | [],cs=>cs
 | (i,v) :: l,cs=>match Fk pl i with
  | some (off,k)=>PY pl l (cs.take off++W0 k v++cs.drop (off+k))
  | none=>cs
def S3 (pl:List (Nat×Nat)) (f:Fr) (ts:LN) (ps:List (Nat×Operand)) (zc:LV) (u:Value):List Value:=PY pl (ps.map fun p=>(p.1,Zb f ts u p.2)) zc
def XN (A:LN) (ms:MM) (ts:LN):Bool:=ts.all fun t=>match o7 t ms with
 | some j=>dt j A
 | none=>false
def kz (A:LN):List fg→Bool
 | []=>true
 | a :: l=>(bif dt a.j A then a.src.all (fun t=>match o7 t l with
   | some j=>dt j A
   | none=>false) else true) && kz A l
def B5:List fg→Bool
 | []=>true
 | a :: l=>a.src.all (fun t=>(o7 t l).isSome) && B5 l
theorem FG {A:LN} {r:NV} {t:Nat}:∀ {ms:MM} {x:lq ms} {j:Nat},o7 t ms=some j→dt j A=true→(∀ p∈jj A ms x,r p.1=p.2)→look (mF ms x) t=some (r t):=by
 intro ms
 induction ms with
 | nil=>intro x j h; cases h
 | cons a l ih=>
  intro x j h hj hp
  unfold o7 at h
  unfold mF look
  cases hb:Nat.beq t a.d with
  | true=>
   rw [hb] at h
   cases h
   have:=hp (a.d,a.rt (Ao a (mF l x.2)) x.1) (by unfold jj; rw [hj]; simp)
   simp only [cond_true]
   rw [Nat.eq_of_beq_eq_true hb,this]
  | false=>
   rw [hb] at h
   refine ih h hj fun p hm=>hp p ?_
   unfold jj
   cases dt a.j A with
   | true=>exact List.mem_cons_of_mem _ hm
   | false=>exact hm
theorem Nz {r:NV} {t:Nat}:∀ {ms:MM} {x:lq ms},(o7 t ms).isSome=true→(∀ p∈mF ms x,r p.1=p.2)→look (mF ms x) t=some (r t):=by
 intro ms
 induction ms with
 | nil=>intro x h; cases h
 | cons a l ih=>
  intro x h hp
  unfold o7 at h
  unfold mF at hp ⊢
  unfold look
  cases hb:Nat.beq t a.d with
  | true=>
   simp only [cond_true]
   rw [Nat.eq_of_beq_eq_true hb,hp (a.d,a.rt (Ao a (mF l x.2)) x.1) (by simp)]
  | false=>
   rw [hb] at h
   exact ih h fun p hm=>hp p (List.mem_cons_of_mem _ hm)
def HN (N:Nat→Prop) (w:World) (Δ:QE) (f:LN):Prop:=HL (fun _=>False) w Δ f∨∃ Fo Fr,f=Fo++Fr∧(rB Δ=false∧∀ b∈Fr,b < w.heap.size)∧HL (fun b=>N b∨b∈Fr) w Δ Fo
def KV (N:Nat→Prop) (a:fg):List Nat→World→(Nat→Value)→Value→Prop:=fun f w r _=>∃ v:a.V,r a.d=a.rt (tR a r) v∧HN N w (a.ps (tR a r) v) f∧f.Nodup
def MV (N:Nat→Prop) (a:fg):List Nat→World→(Nat→Value)→Value→Prop:=fun f w r x=>∃ v:a.V,x=a.rt (tR a r) v∧HN N w (a.ps (tR a r) v) f∧f.Nodup
def PZ (N:Nat→Prop) (a:LN) (l:LO) (s:gx):Prop:=∀ f F (w w':World) (r r':NV) v,ak F w w'→(∀ b∈f,b ∉ F)→(∀ b∈F,¬ N b)→(∀ j∈a,∀ t,bn l j=some t→r' t=r t)→s.V f w r v→s.V f w' r' v
theorem FH.n {N:Nat→Prop} {a:LN} {l:LO} {s:gx} (h:FH a l s):PZ N a l s:=fun f F w w' r r' v hC hn _=>h f F w w' r r' v hC hn
section
variable {P:Program} {w w':World} {Z:Nat→Prop}
theorem HL.W1 {F H:LN} {Δ:QE} (h:HL (fun _=>False) w Δ F) (hC:ak H w w') (hd:∀ b∈F,b ∉ H):HL (fun _=>False) w' Δ F:=by
 induction h with
 | nil=>exact .nil
 | @own e f F Δ h _ ih=>exact .own (h.ep hC (fun _ _ h=>h) fun b hb hm=>hd b (List.mem_append_left _ hm) hb) (ih fun b hb=>hd b (List.mem_append_right _ hb))
 | @fact e F Δ h _ ih=>
  refine .fact ?_ (ih hd)
  cases e with
  | rd o T v x=>
   obtain ⟨g,h1,h2⟩:=h
   have hg:g=[]:=by
    cases g with
    | nil=>rfl
    | cons b g=>exact absurd (h2 b (by simp)) (by cases o <;> simp [tH])
   subst hg
   exact ⟨[],T.ep h1 hC (fun _ h=>absurd h List.not_mem_nil),fun _ h=>absurd h List.not_mem_nil⟩
  | ad o1 o2 v j T x=>obtain ⟨_,_,u,g,_,_,h3,_⟩:=h; exact absurd h3 (by cases o1 <;> simp [tH])
  | aq p cs=>
   have hc:cs=[]:=by
    cases cs with
    | nil=>rfl
    | cons c cs=>exact (h.2 (by simp)).elim
   subst hc
   exact ⟨fun j u hj=>by simp at hj,fun hn=>absurd rfl hn⟩
  | hd v j u=>exact absurd h.2.2.2 List.not_mem_nil
  | _=>exact h.elim
theorem HL.W2 {F H:LN} {Δ:QE} (h:HL Z w Δ F) (hC:ak H w w') (hz:∀ b∈H,¬ Z b) (hd:∀ b∈F,b ∉ H):HL Z w' Δ F:=by
 induction h with
 | nil=>exact .nil
 | @own e f F Δ h _ ih=>exact .own (h.ep hC hz fun b hb hm=>hd b (List.mem_append_left _ hm) hb) (ih fun b hb=>hd b (List.mem_append_right _ hb))
 | @fact e F Δ h _ ih=>exact .fact (h.ep hC hz fun _ _ h=>nomatch h) (ih hd)
theorem HN.ep {N:Nat→Prop} {f H:LN} {Δ:QE} (h:HN N w Δ f) (hC:ak H w w') (hd:∀ b∈f,b ∉ H) (hz:∀ b∈H,¬ N b):HN N w' Δ f:=by
 rcases h with h | ⟨Fo,Fr,rfl,h1,h2⟩
 ·exact .inl (h.W1 hC hd)
 ·exact .inr ⟨Fo,Fr,rfl,⟨h1.1,fun b hb=>Nat.lt_of_lt_of_le (h1.2 b hb) hC.size⟩,h2.W2 hC (fun b hb h=>h.elim (hz b hb) fun h=>hd b (List.mem_append_right _ h) hb) fun b hb=>hd b (List.mem_append_left _ hb)⟩
theorem HN.own {N:Nat→Prop} {f:LN} {Δ:QE} (h:HN N w Δ f) (ho:rB Δ=true):HL (fun _=>False) w Δ f:=by
 rcases h with h | ⟨_,_,_,h1,_⟩
 ·exact h
 ·rw [ho] at h1; cases h1.1
theorem HN.all {N:Nat→Prop} {f:LN} {Δ:QE} (h:HN N w Δ f):∃ Fo Fr,f=Fo++Fr∧(∀ b∈Fr,b < w.heap.size)∧HL (fun b=>N b∨b∈Fr) w Δ Fo:=by
 rcases h with h | ⟨Fo,Fr,rfl,h1,h2⟩
 ·exact ⟨f,[],by simp,fun b (h:b∈[])=>absurd h List.not_mem_nil,h.mono fun _ h=>h.elim⟩
 ·exact ⟨Fo,Fr,rfl,h1.2,h2⟩
theorem HL.up {F:LN} {Δ:QE} (h:HL (fun _=>False) w Δ F):HL Z w Δ F:=by
 induction h with
 | nil=>exact .nil
 | own h _ ih=>exact .own (h.mono fun _ h=>h.elim) ih
 | fact h _ ih=>exact .fact (h.mono (fun _ h=>h.elim) fun _ h=>h) ih
theorem HL.app {Δ Δ':QE} {F F':LN} (h:HL Z w Δ F) (k:HL Z w Δ' F'):HL Z w (Δ++Δ') (F++F'):=by
 induction h with
 | nil=>exact k
 | own h _ ih=>rw [List.append_assoc]; exact .own h ih
 | fact h _ ih=>exact .fact h ih
theorem Ih {a:fg} {r r':NV} (h:∀ t∈a.src,r' t=r t):tR a r'=tR a r:=Bf h
theorem KW {l:LO} {a:LN} {b:Bool} {m:fg} (hs:∀ t∈m.src,∃ j∈a,bn l j=some t):PZ Z a l ⟨b,MV Z m⟩:=by
 intro f F w w' r r' x hC hn hz hr ⟨v,h1,h2,h3⟩
 have e:=Ih (a:=m) (r:=r) (r':=r') fun t ht=>by
  obtain ⟨j,hj,hd⟩:=hs t ht
  exact hr j hj t hd
 refine ⟨v,by rw [e]; exact h1,by rw [e]; exact h2.ep hC hn hz,h3⟩
theorem Jf {l:LO} {a:LN} {b:Bool} {m:fg} (hd:∃ j∈a,bn l j=some m.d) (hs:∀ t∈m.src,∃ j∈a,bn l j=some t):PZ Z a l ⟨b,KV Z m⟩:=by
 intro f F w w' r r' x hC hn hz hr ⟨v,h1,h2,h3⟩
 have e:=Ih (a:=m) (r:=r) (r':=r') fun t ht=>by
  obtain ⟨j,hj,hd⟩:=hs t ht
  exact hr j hj t hd
 obtain ⟨j,hj,hjd⟩:=hd
 refine ⟨v,by rw [e,hr j hj _ hjd]; exact h1,by rw [e]; exact h2.ep hC hn hz,h3⟩
theorem je.more {l:LO} {m i:Nat} {U:LL} {S S':List gx} {r0:NV} {w0:World} {H:LN} (h:je P l m S U r0 w0 H i) (hi:i < S.length):je P l m (S++S') U r0 w0 H i:=by
 intro o s ho hs g r w hC hV hO hn ij hd hf
 rw [List.getElem?_append_left hi] at hs
 refine h o s ho hs g r w hC hV (fun j hj d ib s' da=>hO j hj d ib s' (by rw [List.getElem?_append_left (List.getElem?_eq_some_iff.1 da).1]; exact da)) (fun j hj=>?_) ij hd hf
 have:=hn j hj
 refine ⟨fun d ib=>?_,fun ib s' da cu=>?_⟩
 ·have h2:=this.1 d ib
  by_cases hl:j < S.length
  ·rw [List.getElem?_append_left hl] at h2; exact h2
  ·rw [List.getElem?_eq_none (by omega)]; trivial
 ·exact this.2 ib s' (by rw [List.getElem?_append_left (List.getElem?_eq_some_iff.1 da).1]; exact da) cu
end
inductive cZ (A:LN):Option (Bool×Nat×Value)→List (Nat×Nat×Value)→Fr→Fr→Prop
 | nil {base:Fr}:cZ A none [] base base
 | cons {j d:Nat} {u:Value} {l:LQ} {base fr:Fr} (h:cZ A (some (dt j A,d,u)) l base fr):cZ A none ((j,d,u) :: l) base fr
 | ep {d:Nat} {u:Value} {l:LQ} {base fr:Fr} (h:cZ A none l base fr):cZ A (some (true,d,u)) l base ((d,u) :: fr)
 | drop {d:Nat} {u:Value} {l:LQ} {base fr:Fr} (h:cZ A none l base fr):cZ A (some (false,d,u)) l base fr
theorem tK.Al {Γ Γ':QE} {v:Addr} {o:Bool} {α:Type} {E:af α} {x:α} {e:av} (h:tK Γ v o E x e Γ') {Z:Nat→Prop} {w:World}:∀ {cur F:LN},SA Z w Γ cur F→(v.block∈cur∨v.block∈F)∨Z v.block:=by
 induction h with
 | @ad o1 o2 α E v j x e Γ=>
  intro cur F hS
  obtain ⟨⟨j0,j1,u,g,h1,h2,h3,h4⟩,h5⟩:=hS
  cases o1 with
  | false=>exact .inr h3
  | true=>exact .inl (.inl h3)
 | @there o2 α E v x e a Γ Γ' h ih=>
  intro cur F hS
  cases a with
  | own T v x=>obtain ⟨f,F',rfl,h2,h3⟩:=hS; exact (ih h3).imp (fun h=>.inr (List.mem_append.2 h)) id
  | om e E v xs=>obtain ⟨f,F',rfl,h2,h3⟩:=hS; exact (ih h3).imp (fun h=>.inr (List.mem_append.2 h)) id
  | row b cs e=>obtain ⟨f,F',rfl,h2,h3⟩:=hS; exact (ih h3).imp (fun h=>h.imp id (List.mem_append_right _)) id
  | fw e E v xs j u=>obtain ⟨f,F',rfl,h2,h3⟩:=hS; exact (ih h3).imp (fun h=>.inr (List.mem_append.2 h)) id
  | _=>exact ih hS.2
inductive VQ (P:Program) (Γ:QE) (fr:Fr):Op→Value→Prop
 | mv {x:OO} {v:Value} (hx:bb fr x=some v):VQ P Γ fr (.move x) v
 | as {x:OO} {v:Value} (hx:bb fr x=some v):VQ P Γ fr (.assign x) v
 | add {x y:OO} {t t':TI} {a b:Int} (hx:bb fr x=some (.int .i64 a)) (hy:bb fr y=some (.int .i64 b)):VQ P Γ fr (.binOp .add t x y t') (.int .i64 (ai (a+b)))
 | sub {x y:OO} {t t':TI} {a b:Int} (hx:bb fr x=some (.int .i64 a)) (hy:bb fr y=some (.int .i64 b)):VQ P Γ fr (.binOp .sub t x y t') (.int .i64 (ai (a - b)))
 | lss {x y:OO} {t t':TI} {k:IntKind} {a b:Int} (hx:bb fr x=some (.int k a)) (hy:bb fr y=some (.int k b)):VQ P Γ fr (.binOp .lss t x y t') (.bool (decide (a < b)))
 | eql {x y:OO} {t t':TI} {k:IntKind} {a b:Int} (hx:bb fr x=some (.int k a)) (hy:bb fr y=some (.int k b)):VQ P Γ fr (.binOp .eql t x y t') (.bool (a == b))
 | neq {x y:OO} {t t':TI} {k:IntKind} {a b:Int} (hx:bb fr x=some (.int k a)) (hy:bb fr y=some (.int k b)):VQ P Γ fr (.binOp .neq t x y t') (.bool (a != b))
 | not {x:OO} {t:TI} {b:Bool} (hx:bb fr x=some (.bool b)):VQ P Γ fr (.unOp .not t x) (.bool (!b))
 | Ni {x:OO} {a:Addr} (hx:bb fr x=some (.pointer (some a))):VQ P Γ fr (.nilCheck x) (.pointer (some a))
 | ext {x:OO} {k:Nat} {vs:LV} {v:Value} (hx:bb fr x=some (.tuple vs.toArray)) (hv:vs[k]? = some v):VQ P Γ fr (.extract x k) v
 | SE {s k off:Nat} {x:OO} {a a':Addr} [hf:rC P s k off] (hx:bb fr x=some (.pointer (some a))) (ha:BZ a off a'):VQ P Γ fr (.fieldAddr s x k) (.pointer (some a'))
 | len {x:OO} {v:Value} {t:TI} {n:Nat} [ht:vI P t] (hx:bb fr x=some v) (hr:tN Γ v n):VQ P Γ fr (.call ⟨.builtin .len,#[x],#[t]⟩) (.int .i64 (n:Int))
 | PV {t:TI} {ps:List (Nat×Operand)} {zc cs:LV} {pl:List (Nat×Nat)} [hb:zX P t zc pl] (hf:vS Γ fr pl ps zc cs):VQ P Γ fr (.build t ps.toArray) (.agg cs.toArray)
 | Nl {x y:OO} {k k':IntKind} {a b:Int} {aq:Array TypeId} (hx:bb fr x=some (.int k a)) (hy:bb fr y=some (.int k' b)):VQ P Γ fr (.call ⟨.builtin .max,#[x,y],aq⟩) (.int k (if b > a then b else a))
 | Nn {x y:OO} {k k':IntKind} {a b:Int} {aq:Array TypeId} (hx:bb fr x=some (.int k a)) (hy:bb fr y=some (.int k' b)):VQ P Γ fr (.call ⟨.builtin .min,#[x,y],aq⟩) (.int k (if b < a then b else a))
 | SP {x:OO} {k k2:IntKind} {n:Int} {s t:TI} [ht:Ic P s t k2] (hx:bb fr x=some (.int k n)):VQ P Γ fr (.convert s t x) (.int k2 (k2.wrap n))
 | mul {x y:OO} {t t':TI} {a b:Int} (hx:bb fr x=some (.int .i64 a)) (hy:bb fr y=some (.int .i64 b)):VQ P Γ fr (.binOp .mul t x y t') (.int .i64 (ai (a * b)))
 | gtr {x y:OO} {t t':TI} {k:IntKind} {a b:Int} (hx:bb fr x=some (.int k a)) (hy:bb fr y=some (.int k b)):VQ P Γ fr (.binOp .gtr t x y t') (.bool (decide (a > b)))
 | geq {x y:OO} {t t':TI} {k:IntKind} {a b:Int} (hx:bb fr x=some (.int k a)) (hy:bb fr y=some (.int k b)):VQ P Γ fr (.binOp .geq t x y t') (.bool (decide (a ≥ b)))
 | leq {x y:OO} {t t':TI} {k:IntKind} {a b:Int} (hx:bb fr x=some (.int k a)) (hy:bb fr y=some (.int k b)):VQ P Γ fr (.binOp .leq t x y t') (.bool (decide (a≤b)))
 | SK {s k off:Nat} {x:OO} {cs:LV} {v:Value} [hf:Sz P s k off] (hx:bb fr x=some (.agg cs.toArray)) (hc:cs[off]? = some v):VQ P Γ fr (.field s x k) v
 | Nj {x:OO} {v:Value} {t:TI} {n k:Nat} [ht:Cu P t k] (hx:bb fr x=some v) (hr:tN Γ v n):VQ P Γ fr (.call ⟨.builtin .len,#[x],#[t]⟩) (.int .i64 (n:Int))
 | S4 {α:Type} {S:af α} {x:OO} {v:Value} {t:TI} {us:List (List Value)} {xs:List α} {k n e:Nat} {Γ1:QE} [ht:Cu P t k] (hx:bb fr x=some v) (hr:de Γ (.own (aK e (iz n)) v us) Γ1) (hg:In (.rd false (sL S) (.bool true) (us,xs)) Γ):VQ P Γ fr (.call ⟨.builtin .len,#[x],#[t]⟩) (.int .i64 (xs.length:Int))
theorem VQ.sound {P:Program} {Γ:QE} {fr:Fr} {op:Op} {u:Value} (h:VQ P Γ fr op u) {Z:Nat→Prop} {w:World} {cur F:LN} (hS:SA Z w Γ cur F) {r:NV} (ha:cq r fr) (d:Option Nat) (ty:TI) (pos:String) (ab:Array Edge) (g:Option (Nat×Bool)) :
  Rd P w r ⟨d,op,ty,pos,ab,g⟩ u:=by
 cases h with
 | mv hx=>exact Mv _ (aR ha hx)
 | as hx=>exact Av _ (aR ha hx)
 | add hx hy=>exact Ba (aR ha hx) (aR ha hy)
 | sub hx hy=>exact Go.Li.Bs (aR ha hx) (aR ha hy)
 | lss hx hy=>exact Bl (aR ha hx) (aR ha hy)
 | eql hx hy=>exact Be (aR ha hx) (aR ha hy)
 | neq hx hy=>exact Bn (aR ha hx) (aR ha hy)
 | not hx=>exact Nt (aR ha hx)
 | Ni hx=>exact Nk (aR ha hx)
 | ext hx hv=>exact Ex _ (aR ha hx) (by simpa using hv)
 | @SE s k off x a a' hf hx hq=>rw [hq.eq]; exact Fp hf.h (aR ha hx)
 | Nl hx hy=>exact fun _ _=>KO (aR ha hx) (aR ha hy)
 | Nn hx hy=>exact fun _ _=>KP (aR ha hx) (aR ha hy)
 | @SP x k k2 n s t ht hx=>exact fun _ _=>Ig ht.h.1 ht.h.2 (aR ha hx)
 | mul hx hy=>exact Bm (aR ha hx) (aR ha hy)
 | gtr hx hy=>exact Bg (aR ha hx) (aR ha hy)
 | geq hx hy=>exact Bh (aR ha hx) (aR ha hy)
 | leq hx hy=>exact Go.Li.Bk (aR ha hx) (aR ha hy)
 | @SK s k off x cs v hf hx hc=>
  obtain ⟨fs,f,ds,h1,h2,h3,h4,h5⟩:=hf.h
  exact fun _ _=>B3 h1 h2 h3 h4 h5 (aR ha hx) (by simpa using hc)
 | @len x v t n ht hx hr=>
  obtain ⟨b,c,rfl⟩:=hr.sound hS
  obtain ⟨e,i,h1,_,_⟩:=ht.h
  exact fun _ _=>tO h1 (aR ha hx)
 | @Nj x v t n k ht hx hr=>
  obtain ⟨b,c,rfl⟩:=hr.sound hS
  obtain ⟨e,i,h1,_,_⟩:=ht.h
  exact fun _ _=>tO h1 (aR ha hx)
 | @S4 α S x v t us xs k n e' Γ1 ht hx hr hg=>
  obtain ⟨f,F1,_,hO,_⟩:=hr.sound hS
  obtain ⟨e,i,h1,_,_⟩:=ht.h
  obtain ⟨g0,hk,_⟩:=hg.rd hS []
  obtain ⟨base,cap,hv,_⟩:=hO
  obtain rfl:v = .slice base us.length cap:=by simpa using hv
  rw [← yq hk.2.1]
  exact fun _ _=>tO h1 (aR ha hx)
 | @PV t ps zc cs pl hb hf=>
  obtain ⟨fs,i,z,h1,h2,h3,h4,h5⟩:=hb.h
  refine Bu ?_
  have:=hf.fill ha hS
  unfold Program.built
  rw [h3,h1]
  simp only [h4,h2]
  rw [show z.cells=zc.toArray by rw [← h5]]
  exact this
theorem cZ.sound {A:LN} {q:Option (Bool×Nat×Value)} {sl:LQ} {base fr:Fr} {r:NV} (h:cZ A q sl base fr) (hb:cq r base) :
  (∀ p∈sl,dt p.1 A=true→r p.2.1=p.2.2)→(∀ b d u,q=some (b,d,u)→b=true→r d=u)→cq r fr:=by
 induction h with
 | nil=>intro _ _; exact hb
 | @cons j d u l base fr _ ih=>
  intro h1 _
  refine ih hb (fun p hp=>h1 p (by simp [hp])) ?_
  rintro b d' u' he hbt
  cases he
  exact h1 (j,d,u) (by simp) hbt
 | @ep d u l base fr _ ih=>
  intro h1 h2
  intro s v hl
  unfold look at hl
  cases r9:Nat.beq s d with
  | true=>rw [r9] at hl; cases hl; rw [Nat.eq_of_beq_eq_true r9]; exact h2 true d _ rfl rfl
  | false=>rw [r9] at hl; exact ih hb h1 (fun _ _ _ h=>nomatch h) s v hl
 | drop _ ih=>intro h1 _; exact ih hb h1 (fun _ _ _ h=>nomatch h)
def Ap:List (Nat×Nat×Value)→Fr→Fr
 | [],f=>f
 | (_,d,u) :: l,f=>(d,u) :: Ap l f
inductive Jg (P:Program) (f:FuncId) (xs:List Operand) (fr:Fr) (Γ:QE) {β V:Type} (mo:Option β) (rt:β→V→List Value) (ps:β→V→List av):Prop
 | mk {vs:LV} {Δ:QE} (hx:tG fr xs=some vs) (hc:Ct P f true mo vs Δ rt ps) (hd:FO Δ) (hr:ER true Γ Δ):Jg P f xs fr Γ mo rt ps
inductive XO (P:Program) (f:FuncId):Prop
 | mk [h:bw P f]:XO P f
inductive XP (P:Program) (t:TI) (nm:String) (f:FuncId):Prop
 | mk [h:PR P t nm f]:XP P t nm f
inductive CE (P:Program) (f:FuncId) (as bs:LV) (xs:List Operand) (fr:Fr) (Γ:QE) {β V:Type} (mo:Option β) (rt:β→V→List Value) (ps:β→V→List av):Prop
 | mk {vs us ws:LV} {Δ:QE} (hx:tG fr xs=some vs) (h1:nb vs bs us) (h2:nb as us ws) (hc:Ct P f true mo ws Δ rt ps) (hd:FO Δ) (hr:ER true Γ Δ):CE P f as bs xs fr Γ mo rt ps
inductive Jh {β V:Type} (P:Program) (f:FuncId) (xs:List Operand) (fr:Fr) (Γ:QE) (mo:Option β) (rt:β→V→List Value) (ps:β→V→List av):Prop
 | mk {vs:LV} {Δ:QE} (hx:tG fr xs=some vs) (hc:Ct P f false mo vs Δ rt ps) (hd:FO Δ) (hr:ER false Γ Δ):Jh P f xs fr Γ mo rt ps
inductive Aq {β V:Type} (P:Program) (f:FuncId) (xs:List Operand) (fr:Fr) (hd Γ:QE) (mo:Option β) (rt:β→V→List Value) (ps:β→V→List av):Prop
 | mk {vs:LV} {Δ Γ':QE} (hx:tG fr xs=some vs) (hc:Ct P f false mo vs Δ rt ps) (ho:EO hd Δ Γ') (hr:ER false (Γ'++Γ) Δ):Aq P f xs fr hd Γ mo rt ps
inductive CF (P:Program) (f:FuncId) (xs:List Operand) (fr:Fr) (hd:QE) (Γ:QE) {β V:Type} (mo:Option β) (rt:β→V→List Value) (ps:β→V→List av):Prop
 | mk {vs:LV} {Δ Γ':QE} (hx:tG fr xs=some vs) (hc:Ct P f true mo vs Δ rt ps) (ho:EO hd Δ Γ') (hr:ER true Γ Δ):CF P f xs fr hd Γ mo rt ps
inductive jw:List fg→Prop
 | nil:jw []
 | cons {a:fg} {l:MM} (h:Cw a.V) (k:jw l):jw (a :: l)
theorem jw.ne {ms:MM} (h:jw ms):Nonempty (lq ms):=by
 induction h with
 | nil=>exact ⟨()⟩
 | cons h _ ih=>obtain ⟨a⟩:=h.ne; obtain ⟨b⟩:=ih; exact ⟨(a,b)⟩
inductive BN:List fg→Nat→Bool→Prop
 | here {a:fg} {l:MM}:BN (a :: l) a.d true
 | there {a:fg} {l:MM} {t:Nat} {b:Bool} (h:BN l t b):BN (a :: l) t b
 | nil {t:Nat}:BN [] t false
inductive S5 (fr:Fr) (t off:Nat):Prop
 | mk {cs:LV} {v:Value} (h:look fr t=some (.agg cs.toArray)) (hc:cs[off]? = some v):S5 fr t off
inductive S6 (fr:Fr) (t k:Nat):Prop
 | mk {cs:LV} {v:Value} (h:look fr t=some (.tuple cs.toArray)) (hc:cs[k]? = some v):S6 fr t k
inductive NB (fr:Fr) (Γ:QE) (t:Nat):Prop
 | mk {v:Value} (h:look fr t=some v) (hc:One Γ v):NB fr Γ t
inductive NC (fr:Fr) (t n:Nat):Prop
 | mk {cs:LV} (h:look fr t=some (.agg cs.toArray)) (hl:cs.length=n):NC fr t n
inductive S7 (fr:Fr) (Γ:QE) (t n:Nat):Prop
 | mk {v:Value} (h:look fr t=some v) (hc:tN Γ v n):S7 fr Γ t n
inductive JA (R S:Type):Type 1
 | a (as:LL) (ops:LO) (i:Nat) (sl:LQ) (ms:MM) (Γ:QE) (m:Option (Out S R))
 | o (A:LN) (op:Op) (d:Nat) (ty:TI) (as:LL) (ops:LO) (i:Nat) (sl:LQ) (ms:MM) (Γ:QE) (m:Option (Out S R))
 | ow (b:Bool) (A:LN) (op:Op) (d:Nat) (ty:TI) (as:LL) (ops:LO) (i:Nat) (sl:LQ) (ms:MM) (Γ:QE) (m:Option (Out S R))
 | ix (b:Bool) (v:Value) (fr:Fr) (x y:OO) (t:TI) (A:LN) (d:Nat) (ty:TI) (as:LL) (ops:LO) (i:Nat) (sl:LQ) (ms:MM) (Γ:QE) (m:Option (Out S R))
 | lb (b:Bool) (v:Value) (j:Int) (fr:Fr) (t:TI) (x:OO) (A:LN) (d:Nat) (ty:TI) (as:LL) (ops:LO) (i:Nat) (sl:LQ) (ms:MM) (Γ:QE) (m:Option (Out S R))
 | ap (us:LN) (t1 t2:Nat) (t:TI) (A:LN) (d:Nat) (ty:TI) (as:LL) (ops:LO) (i:Nat) (sl:LQ) (ms:MM) (Γ:QE) (m:Option (Out S R))
 | la (fr:Fr) (ad:Addr) (lk:Option Nat) (t:TI) (x:OO) (A:LN) (d:Nat) (ty:TI) (as:LL) (ops:LO) (i:Nat) (sl:LQ) (ms:MM) (Γ:QE) (m:Option (Out S R))
 | ld {α:Type} (E:af α) (z:α) (fr:Fr) (ad:Addr) (t:TI) (x:OO) (A:LN) (d:Nat) (ty:TI) (as:LL) (ops:LO) (i:Nat) (sl:LQ) (ms:MM) (Γ:QE) (m:Option (Out S R))
 | oc (us:LN) (f:FuncId) (xs:List Operand) (aq:Array TypeId) (A:LN) (d:Nat) (ty:TI) (as:LL) (ops:LO) (i:Nat) (sl:LQ) (ms:MM) (Γ:QE) (m:Option (Out S R))
 | os (A:LN) (op:Op) (ty:TI) (as:LL) (ops:LO) (i:Nat) (sl:LQ) (ms:MM) (Γ:QE) (m:Option (Out S R))
 | cr {V:Type} (u:V→Value) (ps:V→List av) (d:Nat) (as:LL) (ops:LO) (i:Nat) (sl:LQ) (ms:MM) (Γ:QE) (m:Option (Out S R))
 | p (Δ:QE) (as:LL) (ops:LO) (i:Nat) (sl:LQ) (ms:MM) (Γ:QE) (m:Option (Out S R))
inductive Ii:List av→Value→Bool→Prop
 | here {α:Type} {T:af α} {v:Value} {x:α} {Γ:QE}:Ii (.own T v x :: Γ) v true
 | there {e:av} {v:Value} {b:Bool} {Γ:QE} (h:Ii Γ v b):Ii (e :: Γ) v b
 | nil {v:Value}:Ii [] v false
inductive l5:List fg→Nat→fg→List fg→Prop
 | here {a:fg} {l:MM}:l5 (a :: l) a.d a l
 | there {a b:fg} {l l':MM} {t:Nat} (h:l5 l t a l'):l5 (b :: l) t a (b :: l')
inductive zf:List fg→Nat→fg→List fg→Prop
 | here {a:fg} {l:MM}:zf (a :: l) a.j a l
 | there {a b:fg} {l l':MM} {t:Nat} (h:zf l t a l'):zf (b :: l) t a (b :: l')
def Ji (j i:Nat) (sl:LQ):List (Nat×Nat×Value):=sl.map fun p=>bif Nat.beq p.1 j then (i,p.2) else p
def DF (U:LL) (_sl:LQ) (ms:MM):Bool:=U.all fun us=>us.all fun j=>ms.all fun a=>!Nat.beq a.j j
inductive AD {R S:Type} (tq:Bool) (P:Program) (cx:Cx R) (K:dh R S) (l tail:LO) (base:Fr) (U:LL):List av→JA R S→Prop
 | nil {hd:QE} {i:Nat} {sl:LQ} {ms:MM} {Γ:QE} {m:Option (Out S R)} (sH:B5 ms=true) (he:DF U sl ms=true) (h:∀ x:lq ms,D P cx (.p (Ap sl (mF ms x)) (DE ms x) base Γ fun fr Γ=>.tg tq (B0 tail) l tail K Γ fr m)):AD tq P cx K l tail base U hd (.a [] [] i sl ms Γ m)
 | cons {hd:QE} {A:LN} {as:LL} {op:Op} {d:Nat} {ty:TI} {pos:String} {ab:Array Edge} {ops:LO} {i:Nat} {sl:LQ} {ms:MM} {Γ:QE} {m:Option (Out S R)} (h:AD tq P cx K l tail base U hd (.o A op d ty as ops i sl ms Γ m)) :
   AD tq P cx K l tail base U hd (.a (A :: as) (⟨some d,op,ty,pos,ab,none⟩ :: ops) i sl ms Γ m)
 | Jj {hd:QE} {A:LN} {as:LL} {op:Op} {ty:TI} {pos:String} {ab:Array Edge} {ops:LO} {i:Nat} {sl:LQ} {ms:MM} {Γ:QE} {m:Option (Out S R)} (h:AD tq P cx K l tail base U hd (.os A op ty as ops i sl ms Γ m)) :
   AD tq P cx K l tail base U hd (.a (A :: as) (⟨none,op,ty,pos,ab,none⟩ :: ops) i sl ms Γ m)
 | SN {hd:QE} {t e:TI} {t1 j1 n:Nat} {y:OO} {u:Value} {us cs ds:LV} {fl:MM} {fr:Fr} {A:LN} {as:LL} {ty:TI} {ops:LO} {i:Nat} {sl:LQ} {ms:MM} {Γ:QE} {m:Option (Out S R)} [ht:ur P t n]
   (h1:l5 ms t1 ⟨j1,t1,[],Nat,fun _ b=>.pointer (some ⟨b,0,none⟩),fun _ b=>[.row b cs e]⟩ fl) (hv:cZ A none sl base fr) (hy:bb fr y=some u) (hc:r6 Γ u us) (hn:us.length=n) (hs:ba us 0 cs ds) (ho:bd Γ us) (h4:dt j1 A=true) (h6:U.getD i []=[j1])
   (h:AD tq P cx K l tail base U hd (.a as ops (i+1) sl (⟨i,t1,[],Nat,fun _ b=>.pointer (some ⟨b,0,none⟩),fun _ b=>[.row b ds e]⟩ :: fl) Γ m)):AD tq P cx K l tail base U hd (.os A (.store t (.tmp t1) y) ty as ops i sl ms Γ m)
 | Fv {hd:QE} {α:Type} {A:LN} {as:LL} {d:Nat} {t e ty:TI} {E:af α} {z0:α} {bt:Nat} {ops:LO} {i:Nat} {sl:LQ} {ms:MM} {Γ:QE} {m:Option (Out S R)} [hz:qS P t α e E z0 bt]
   (h:AD tq P cx K l tail base U hd (.a as ops (i+1) sl (⟨i,d,[],Value,fun _ v=>v,fun _ v=>[.own (aK e E) v []]⟩ :: ms) Γ m)):AD tq P cx K l tail base U hd (.o A (.buildSlice t 0 #[]) d ty as ops i sl ms Γ m)
 | sw4 {hd:QE} {t st e:Nat} {α:Type} {E:af α} {z0:α} {bt:Nat} {b:Bool} {A:LN} {as:LL} {d:Nat} {ty:TI} {ops:LO} {i:Nat} {sl:LQ} {ms:MM} {Γ:QE} {m:Option (Out S R)} [hz:qS P st α e E z0 bt] (hw:BN ms t b) (h:AD tq P cx K l tail base U hd (.ow b A (.buildSlice st 1 #[(0,.tmp t)]) d ty as ops i sl ms Γ m)):AD tq P cx K l tail base U hd (.o A (.buildSlice st 1 #[(0,.tmp t)]) d ty as ops i sl ms Γ m)
 | ltn {hd:QE} {t e:TI} {n:Nat} {ps:List (Nat×Operand)} {us:LV} {fr:Fr} {A:LN} {as:LL} {d:Nat} {ty:TI} {ops:LO} {i:Nat} {sl:LQ} {ms:MM} {Γ:QE} {m:Option (Out S R)} [hz:KE P t e] (hv:cZ A none sl base fr) (hl:uK Γ fr 0 ps us) (hn:us.length=n) (hb:(Nat.ble 1 n && Nat.ble n 16777216)=true)
   (h:AD tq P cx K l tail base U hd (.a as ops (i+1) sl (⟨i,d,[],Nat,fun _ b=>.slice (some ⟨b,0,none⟩) n n,fun _ b=>[.row b us e]⟩ :: ms) Γ m)):AD tq P cx K l tail base U hd (.o A (.buildSlice t n ps.toArray) d ty as ops i sl ms Γ m)
 | ltu {hd:QE} {t e:TI} {n:Nat} {ps:List (Nat×Operand)} {us:LV} {fr:Fr} {A:LN} {as:LL} {d:Nat} {ty:TI} {ops:LO} {i:Nat} {sl:LQ} {ms:MM} {Γ:QE} {m:Option (Out S R)} [hz:KF P t e] (hv:cZ A none sl base fr) (hl:uK Γ fr 0 ps us) (hn:us.length=n) (hb:(Nat.ble 1 n && Nat.ble n 16777216)=true)
   (h:AD tq P cx K l tail base U hd (.a as ops (i+1) sl (⟨i,d,[],Nat,fun _ b=>.slice (some ⟨b,0,none⟩) n n,fun _ b=>[.row b us e]⟩ :: ms) Γ m)):AD tq P cx K l tail base U hd (.o A (.buildSlice t n ps.toArray) d ty as ops i sl ms Γ m)
 | sw1 {hd:QE} {t:Nat} {b:Bool} {A:LN} {as:LL} {d:Nat} {ty:TI} {ops:LO} {i:Nat} {sl:LQ} {ms:MM} {Γ:QE} {m:Option (Out S R)} (hw:BN ms t b) (h:AD tq P cx K l tail base U hd (.ow b A (.move (.tmp t)) d ty as ops i sl ms Γ m)):AD tq P cx K l tail base U hd (.o A (.move (.tmp t)) d ty as ops i sl ms Γ m)
 | sw2 {hd:QE} {t k:Nat} {b:Bool} {A:LN} {as:LL} {d:Nat} {ty:TI} {ops:LO} {i:Nat} {sl:LQ} {ms:MM} {Γ:QE} {m:Option (Out S R)} (hw:BN ms t b) (h:AD tq P cx K l tail base U hd (.ow b A (.extract (.tmp t) k) d ty as ops i sl ms Γ m)):AD tq P cx K l tail base U hd (.o A (.extract (.tmp t) k) d ty as ops i sl ms Γ m)
 | sw3 {hd:QE} {s t k:Nat} {b:Bool} {A:LN} {as:LL} {d:Nat} {ty:TI} {ops:LO} {i:Nat} {sl:LQ} {ms:MM} {Γ:QE} {m:Option (Out S R)} (hw:BN ms t b) (h:AD tq P cx K l tail base U hd (.ow b A (.field s (.tmp t) k) d ty as ops i sl ms Γ m)):AD tq P cx K l tail base U hd (.o A (.field s (.tmp t) k) d ty as ops i sl ms Γ m)
 | sw6 {hd:QE} {t:Nat} {it:TI} {b:Bool} {A:LN} {as:LL} {d:Nat} {ty:TI} {ops:LO} {i:Nat} {sl:LQ} {ms:MM} {Γ:QE} {m:Option (Out S R)} (hw:BN ms t b) (h:AD tq P cx K l tail base U hd (.ow b A (.makeInterface it (.tmp t)) d ty as ops i sl ms Γ m)):AD tq P cx K l tail base U hd (.o A (.makeInterface it (.tmp t)) d ty as ops i sl ms Γ m)
 | wlt {hd:QE} {t e:TI} {α:Type} {E:af α} {z0:α} {bt:Nat} {u:Value} {x:OO} {fr:Fr} {A:LN} {as:LL} {d:Nat} {ty:TI} {ops:LO} {i:Nat} {sl:LQ} {ms:MM} {Γ:QE} {m:Option (Out S R)} [hz:qS P t α e E z0 bt] (hv:cZ A none sl base fr) (hx:bb fr x=some u) (h1:One Γ u)
   (h:AD tq P cx K l tail base U hd (.a as ops (i+1) sl (⟨i,d,[],Nat,fun _ b=>.slice (some ⟨b,0,none⟩) 1 1,fun _ b=>[.row b [u] e]⟩ :: ms) Γ m)):AD tq P cx K l tail base U hd (.ow false A (.buildSlice t 1 #[(0,x)]) d ty as ops i sl ms Γ m)
 | sw5 {hd:QE} {t st:Nat} {b:Bool} {A:LN} {as:LL} {d:Nat} {ty:TI} {ops:LO} {i:Nat} {sl:LQ} {ms:MM} {Γ:QE} {m:Option (Out S R)} (hw:BN ms t b) (h:AD tq P cx K l tail base U hd (.ow b A (.call ⟨.builtin .len,#[.tmp t],#[st]⟩) d ty as ops i sl ms Γ m)):AD tq P cx K l tail base U hd (.o A (.call ⟨.builtin .len,#[.tmp t],#[st]⟩) d ty as ops i sl ms Γ m)
 | mln {hd:QE} {t n:Nat} {st:TI} {A:LN} {as:LL} {d:Nat} {ty:TI} {ops:LO} {i:Nat} {sl:LQ} {ms:MM} {Γ:QE} {m:Option (Out S R)} [ht:vI P st] (hi:jw ms) (sH:kz A ms=true) (hx:∀ x:lq ms,S7 (jj A ms x) (qx A ms x) t n) (h:AD tq P cx K l tail base U hd (.a as ops (i+1) ((i,d,.int .i64 (n:Int)) :: sl) ms Γ m)):AD tq P cx K l tail base U hd (.ow true A (.call ⟨.builtin .len,#[.tmp t],#[st]⟩) d ty as ops i sl ms Γ m)
 | S8 {hd:QE} {t:TI} {cs:LV} {A:LN} {as:LL} {d:Nat} {ty:TI} {ops:LO} {i:Nat} {sl:LQ} {ms:MM} {Γ:QE} {m:Option (Out S R)} [hz:xB P t cs] (h:AD tq P cx K l tail base U hd (.a as ops (i+1) sl (⟨i,d,[],Nat,fun _ b=>.pointer (some ⟨b,0,none⟩),fun _ b=>[.row b cs t]⟩ :: ms) Γ m)):AD tq P cx K l tail base U hd (.o A (.alloc t) d ty as ops i sl ms Γ m)
 | wl0 {hd:QE} {st:TI} {c:Value} {A:LN} {as:LL} {d:Nat} {ty:TI} {ops:LO} {i:Nat} {sl:LQ} {ms:MM} {Γ:QE} {m:Option (Out S R)} (h:AD tq P cx K l tail base U hd (.ow false A (.buildSlice st 1 #[(0,.const c)]) d ty as ops i sl ms Γ m)):AD tq P cx K l tail base U hd (.o A (.buildSlice st 1 #[(0,.const c)]) d ty as ops i sl ms Γ m)
 | SM {hd:QE} {us:LN} {t1 t2:Nat} {t:TI} {A:LN} {as:LL} {d:Nat} {ty:TI} {ops:LO} {i:Nat} {sl:LQ} {ms:MM} {Γ:QE} {m:Option (Out S R)} (hU:U.getD i []=us) (h:AD tq P cx K l tail base U hd (.ap us t1 t2 t A d ty as ops i sl ms Γ m)):AD tq P cx K l tail base U hd (.o A (.call ⟨.builtin .append,#[.tmp t1,.tmp t2],#[t,t]⟩) d ty as ops i sl ms Γ m)
 | apH {hd ib:QE} {α:Type} {t e e' et:TI} {E E':af α} {z0:α} {bt t1 t2 j2:Nat} {v u yv:Value} {j:Int} {y:α} {z:List α} {xs:List (List α)} {o1 o2:Bool} {Γx:QE} {sa:MM} {fr:Fr} {f:Unit→Option (Out S R)} {A:LN} {as:LL} {d:Nat} {ty:TI} {ops:LO} {i:Nat} {sl:LQ} {ms:MM} {Γ:QE} [hT:qS P t α e E z0 bt]
   (hV:((U.set i []).all fun us=>!(us.contains l.length))=true) (hv:cZ A none sl base fr) (hs:look fr t1=some u) (h2:l5 ms t2 ⟨j2,t2,[],Nat,fun _ b=>.slice (some ⟨b,0,none⟩) 1 1,fun _ b=>[.row b [yv] et]⟩ sa) (h5:dt j2 A=true) (hl:Loc hd u (.row v j)) (hz:lz hd u o1 o2 E' z qc Γx) (h1:de hd (.own (aK e' (aK e E)) v xs) ib) (hr:RT (aK e E) (aE E')) (hy:BL [] E yv y [])
   (h:AD tq P cx K l tail base U ib (.a as ops (i+1) sl (⟨i,d,[],Value,fun _ v'=>v',fun _ v'=>[.own (aK e E) v' (z++[y]),.own (rm e' (aK e E) j.toNat) v xs]⟩ :: ms) Γ (f ()))):AD tq P cx K l tail base U hd (.ap [l.length] t1 t2 t A d ty as ops i sl ms Γ (fits bt (z.length+1)>>=f))
 | apL {hd ib:QE} {t e e' e3 et:TI} {kk:IntKind} {E':af (List Int)} {z0:List Int} {bt t1 t2 t3 j2 j3 n:Nat} {v u:Value} {us:LV} {j:Int} {ys:List Int} {z:List (List Int)} {xs:List (List (List Int))} {o1 o2:Bool} {Γx:QE} {sa Ar:MM} {fr:Fr} {f:Unit→Option (Out S R)} {A:LN} {as:LL} {d:Nat} {ty:TI} {ops:LO} {i:Nat} {sl:LQ} {ms:MM} {Γ:QE} [hT:qS P t (List Int) e (aK e3 (aC kk)) z0 bt]
   (hV:((U.set i []).all fun us=>!(us.contains l.length))=true) (hv:cZ A none sl base fr) (hs:look fr t1=some u) (h2:l5 ms t2 ⟨j2,t2,[t3],Nat,fun _ b=>.slice (some ⟨b,0,none⟩) 1 1,fun u b=>[.row b [u] et]⟩ sa) (h3:l5 sa t3 ⟨j3,t3,[],Nat,fun _ b=>.slice (some ⟨b,0,none⟩) n n,fun _ b=>[.row b us e3]⟩ Ar) (h5:dt j2 A=true) (h6:dt j3 A=true) (hl:Loc hd u (.row v j)) (hz:lz hd u o1 o2 E' z qc Γx) (h1:de hd (.own (aK e' (aK e (aK e3 (aC kk)))) v xs) ib) (hr:RT (aK e (aK e3 (aC kk))) (aE E')) (hi:yt kk us ys) (hn:us.length=n) (hb:Nat.ble n 16777216=true)
   (h:AD tq P cx K l tail base U ib (.a as ops (i+1) sl (⟨i,d,[],Value,fun _ v'=>v',fun _ v'=>[.own (aK e (aK e3 (aC kk))) v' (z++[ys]),.own (rm e' (aK e (aK e3 (aC kk))) j.toNat) v xs]⟩ :: Ar) Γ (f ()))):AD tq P cx K l tail base U hd (.ap [l.length,j3] t1 t2 t A d ty as ops i sl ms Γ (fits bt (z.length+1)>>=f))
 | apM {hd:QE} {t e e3 et:TI} {kk:IntKind} {z0:List Int} {bt t1 t2 t3 j1 j2 j3 n:Nat} {us:LV} {ys:List Int} {z:List (List Int)} {a1:fg} {fl sa Ar:MM} {f:Unit→Option (Out S R)} {A:LN} {as:LL} {d:Nat} {ty:TI} {ops:LO} {i:Nat} {sl:LQ} {ms:MM} {Γ:QE} [hT:qS P t (List Int) e (aK e3 (aC kk)) z0 bt]
   (h1:l5 ms t1 a1 fl) (h2:l5 fl t2 ⟨j2,t2,[t3],Nat,fun _ b=>.slice (some ⟨b,0,none⟩) 1 1,fun u b=>[.row b [u] et]⟩ sa) (h3:l5 sa t3 ⟨j3,t3,[],Nat,fun _ b=>.slice (some ⟨b,0,none⟩) n n,fun _ b=>[.row b us e3]⟩ Ar) (hp:∀ u v,a1.ps u v=[.own (aK e (aK e3 (aC kk))) (a1.rt u v) z]) (hj:a1.j=j1) (ks:Nat.beq j1 j3=false) (h4:dt j1 A=true) (h5:dt j2 A=true) (h6:dt j3 A=true) (hi:yt kk us ys) (hn:us.length=n) (hb:Nat.ble n 16777216=true)
   (h:AD tq P cx K l tail base U hd (.a as ops (i+1) sl (⟨i,d,[],Value,fun _ v'=>v',fun _ v'=>[.own (aK e (aK e3 (aC kk))) v' (z++[ys])]⟩ :: Ar) Γ (f ()))):AD tq P cx K l tail base U hd (.ap [j1,j3] t1 t2 t A d ty as ops i sl ms Γ (fits bt (z.length+1)>>=f))
 | ap1 {hd:QE} {us:LN} {t e et:TI} {E:af Int} {z0:Int} {bt t1 t2 j2 d2:Nat} {k:IntKind} {y:Int} {xs:List Int} {a1:fg} {fl sa:MM} {f:Unit→Option (Out S R)} {A:LN} {as:LL} {d:Nat} {ty:TI} {ops:LO} {i:Nat} {sl:LQ} {ms:MM} {Γ:QE} [hz:qS P t Int e E z0 bt] (h1:l5 ms t1 a1 fl) (h2:l5 fl t2 ⟨j2,d2,[],Nat,fun _ b=>.slice (some ⟨b,0,none⟩) 1 1,fun _ b=>[.row b [.int k y] et]⟩ sa) (h3:∀ u v,a1.ps u v=[.own (aK e (aC k)) (a1.rt u v) xs]) (hu:us=[a1.j]) (h4:dt a1.j A=true) (h5:dt j2 A=true)
   (h:AD tq P cx K l tail base U hd (.a as ops (i+1) sl (⟨i,d,[],Value,fun _ v=>v,fun _ v=>[.own (aK e (aC k)) v (xs++[y])]⟩ :: fl) Γ (f ()))):AD tq P cx K l tail base U hd (.ap us t1 t2 t A d ty as ops i sl ms Γ (fits bt (xs.length+1)>>=f))
 | wv {hd:QE} {op:Op} {u:Value} {fr:Fr} {A:LN} {as:LL} {d:Nat} {ty:TI} {ops:LO} {i:Nat} {sl:LQ} {ms:MM} {Γ:QE} {m:Option (Out S R)} (hv:cZ A none sl base fr) (hq:VQ P Γ fr op u) (h:AD tq P cx K l tail base U hd (.a as ops (i+1) ((i,d,u) :: sl) ms Γ m)):AD tq P cx K l tail base U hd (.ow false A op d ty as ops i sl ms Γ m)
 | mmv {hd:QE} {t:Nat} {A:LN} {as:LL} {d:Nat} {ty:TI} {ops:LO} {i:Nat} {sl:LQ} {ms:MM} {Γ:QE} {m:Option (Out S R)} (hi:jw ms) (sH:kz A ms=true) (hj:∃ j,o7 t ms=some j∧dt j A=true) (h:AD tq P cx K l tail base U hd (.a as ops (i+1) sl (⟨i,d,[t],Unit,fun u _=>u,fun _ _=>[]⟩ :: ms) Γ m)):AD tq P cx K l tail base U hd (.ow true A (.move (.tmp t)) d ty as ops i sl ms Γ m)
 | mbl {hd:QE} {t:TI} {ps:List (Nat×Operand)} {zc:LV} {pl:List (Nat×Nat)} {fr:Fr} {A:LN} {as:LL} {d:Nat} {ty:TI} {ops:LO} {i:Nat} {sl:LQ} {ms:MM} {Γ:QE} {m:Option (Out S R)} [hb:zX P t zc pl] (hi:jw ms) (sH:kz A ms=true) (ks:(ze ms ps).isEmpty=false) (hj:XN A ms (ze ms ps)=true) (hv:cZ A none sl base fr)
   (hx:∀ x:lq ms,vS (qx A ms x++Γ) (jj A ms x++fr) pl ps zc (S3 pl fr (ze ms ps) ps zc (yd (xE (mF ms x)) (ze ms ps))))
   (h:AD tq P cx K l tail base U hd (.a as ops (i+1) sl (⟨i,d,ze ms ps,Unit,fun u _=>.agg (S3 pl fr (ze ms ps) ps zc u).toArray,fun _ _=>[]⟩ :: ms) Γ m)):AD tq P cx K l tail base U hd (.o A (.build t ps.toArray) d ty as ops i sl ms Γ m)
 | mex {hd:QE} {t k:Nat} {A:LN} {as:LL} {d:Nat} {ty:TI} {ops:LO} {i:Nat} {sl:LQ} {ms:MM} {Γ:QE} {m:Option (Out S R)} (hi:jw ms) (sH:kz A ms=true) (hj:∃ j,o7 t ms=some j∧dt j A=true) (hx:∀ x:lq ms,S6 (jj A ms x) t k) (h:AD tq P cx K l tail base U hd (.a as ops (i+1) sl (⟨i,d,[t],Unit,fun u _=>Jk u k,fun _ _=>[]⟩ :: ms) Γ m)):AD tq P cx K l tail base U hd (.ow true A (.extract (.tmp t) k) d ty as ops i sl ms Γ m)
 | mfd {hd:QE} {s t k off:Nat} {A:LN} {as:LL} {d:Nat} {ty:TI} {ops:LO} {i:Nat} {sl:LQ} {ms:MM} {Γ:QE} {m:Option (Out S R)} [hf:Sz P s k off] (hi:jw ms) (sH:kz A ms=true) (hj:∃ j,o7 t ms=some j∧dt j A=true) (hx:∀ x:lq ms,S5 (jj A ms x) t off) (h:AD tq P cx K l tail base U hd (.a as ops (i+1) sl (⟨i,d,[t],Unit,fun u _=>Jl u off,fun _ _=>[]⟩ :: ms) Γ m)):AD tq P cx K l tail base U hd (.ow true A (.field s (.tmp t) k) d ty as ops i sl ms Γ m)
 | mif {hd:QE} {t:Nat} {it:TI} {A:LN} {as:LL} {d:Nat} {ty:TI} {ops:LO} {i:Nat} {sl:LQ} {ms:MM} {Γ:QE} {m:Option (Out S R)} [hf:SB P it] (hi:jw ms) (sH:kz A ms=true) (hj:∃ j,o7 t ms=some j∧dt j A=true) (h:AD tq P cx K l tail base U hd (.a as ops (i+1) sl (⟨i,d,[t],Unit,fun u _=>.iface it u,fun _ _=>[]⟩ :: ms) Γ m)):AD tq P cx K l tail base U hd (.ow true A (.makeInterface it (.tmp t)) d ty as ops i sl ms Γ m)
 | mlt {hd:QE} {t:Nat} {KX e:TI} {α:Type} {E:af α} {z0:α} {bt:Nat} {A:LN} {as:LL} {d:Nat} {ty:TI} {ops:LO} {i:Nat} {sl:LQ} {ms:MM} {Γ:QE} {m:Option (Out S R)} [hz:qS P KX α e E z0 bt] (hi:jw ms) (sH:kz A ms=true) (hj:∃ j,o7 t ms=some j∧dt j A=true) (hx:∀ x:lq ms,NB (jj A ms x) (qx A ms x) t)
   (h:AD tq P cx K l tail base U hd (.a as ops (i+1) sl (⟨i,d,[t],Nat,fun _ b=>.slice (some ⟨b,0,none⟩) 1 1,fun u b=>[.row b [u] e]⟩ :: ms) Γ m)):AD tq P cx K l tail base U hd (.ow true A (.buildSlice KX 1 #[(0,.tmp t)]) d ty as ops i sl ms Γ m)
 | XQ {hd:QE} {t n:Nat} {KX e:TI} {A:LN} {as:LL} {d:Nat} {ty:TI} {ops:LO} {i:Nat} {sl:LQ} {ms:MM} {Γ:QE} {m:Option (Out S R)} [hz:Fm P KX e n] (hb:(Nat.ble 1 1 && Nat.ble (1 * n) 16777216)=true) (hi:jw ms) (sH:kz A ms=true) (hj:∃ j,o7 t ms=some j∧dt j A=true) (hx:∀ x:lq ms,NC (jj A ms x) t n)
   (h:AD tq P cx K l tail base U hd (.a as ops (i+1) sl (⟨i,d,[t],Nat,fun _ b=>.slice (some ⟨b,0,none⟩) 1 1,fun u b=>[.row b u.cells.toList e]⟩ :: ms) Γ m)):AD tq P cx K l tail base U hd (.o A (.buildSlice KX 1 #[(0,.tmp t)]) d ty as ops i sl ms Γ m)
 | mk {hd:QE} {t e:TI} {α:Type} {E:af α} {z0:α} {bt:Nat} {x:OO} {z:Int} {fr:Fr} {f:Nat→Option (Out S R)} {A:LN} {as:LL} {d:Nat} {ty:TI} {ops:LO} {i:Nat} {sl:LQ} {ms:MM} {Γ:QE} [hz:qS P t α e E z0 bt] (hv:cZ A none sl base fr) (hx:bb fr x=some (.int .i64 z))
   (h:∀ n,AD tq P cx K l tail base U hd (.a as ops (i+1) sl (⟨i,d,[],Value,fun _ v=>v,fun _ v=>[.own (aK e E) v (List.replicate n z0)]⟩ :: ms) Γ (f n))):AD tq P cx K l tail base U hd (.o A (.makeSlice t x x) d ty as ops i sl ms Γ (mk bt z>>=f))
 | ixs {hd:QE} {b:Bool} {v:Value} {x y:OO} {t:TI} {fr:Fr} {A:LN} {as:LL} {d:Nat} {ty:TI} {ops:LO} {i:Nat} {sl:LQ} {ms:MM} {Γ:QE} {m:Option (Out S R)} (hv:cZ A none sl base fr) (hx:bb fr x=some v) (hw:Ii hd v b) (h:AD tq P cx K l tail base U hd (.ix b v fr x y t A d ty as ops i sl ms Γ m)):AD tq P cx K l tail base U hd (.o A (.indexAddr t x y) d ty as ops i sl ms Γ m)
 | idx {hd:QE} {α:Type} {A:LN} {as:LL} {d:Nat} {x y:OO} {v:Value} {k:IntKind} {j:Int} {t ty:TI} {o1 o2:Bool} {E:af α} {xs:List α} {ops:LO} {i:Nat} {sl:LQ} {ms:MM} {fr:Fr} {Γ:QE} {Γ':α→List av} {f:α→Option (Out S R)} [ht:vI P t]
   (hy:bb fr y=some (.int k j)) (hr:∀ z,lz Γ v o1 o2 E xs (.ad o1 o2 v j E z) (Γ' z)) (hE:E.size=1)
   (h:∀ z,AD tq P cx K l tail base U hd (.a as ops (i+1) ((i,d,.pointer (some (dc v 1 j))) :: sl) ms (Γ' z) (f z))):AD tq P cx K l tail base U hd (.ix false v fr x y t A d ty as ops i sl ms Γ (idx xs j>>=f))
 | Zd {hd:QE} {α:Type} {A:LN} {as:LL} {d:Nat} {x y:OO} {v:Value} {k:IntKind} {j:Int} {t ty:TI} {o1 o2:Bool} {E:af α} {xs:List α} {ops:LO} {i:Nat} {sl:LQ} {ms:MM} {fr:Fr} {Γ:QE} {ib:α→List av} {f:α→Option (Out S R)} [ht:vI P t]
   (hy:bb fr y=some (.int k j)) (hr:∀ z,lz hd v o1 o2 E xs (.ad o1 o2 v j E z) (ib z)) (hE:E.size=1)
   (h:∀ z,AD tq P cx K l tail base U (ib z) (.a as ops (i+1) ((i,d,.pointer (some (dc v 1 j))) :: sl) ms Γ (f z))):AD tq P cx K l tail base U hd (.ix true v fr x y t A d ty as ops i sl ms Γ (idx xs j>>=f))
 | load {hd:QE} {A:LN} {as:LL} {d:Nat} {x:OO} {a:Addr} {t ty:TI} {lk:Option Nat} {ops:LO} {i:Nat} {sl:LQ} {ms:MM} {fr:Fr} {Γ:QE} {m:Option (Out S R)} [ht:LK P t lk] (hv:cZ A none sl base fr) (hx:bb fr x=some (.pointer (some a)))
   (h:AD tq P cx K l tail base U hd (.la fr a lk t x A d ty as ops i sl ms Γ m)):AD tq P cx K l tail base U hd (.o A (.load t x) d ty as ops i sl ms Γ m)
 | lsw {hd:QE} {b:Bool} {v:Value} {j:Int} {x:OO} {t:TI} {fr:Fr} {A:LN} {as:LL} {d:Nat} {ty:TI} {ops:LO} {i:Nat} {sl:LQ} {ms:MM} {Γ:QE} {m:Option (Out S R)} (hw:Ii hd v b) (h:AD tq P cx K l tail base U hd (.lb b v j fr t x A d ty as ops i sl ms Γ m)):AD tq P cx K l tail base U hd (.la fr (dc v 1 j) none t x A d ty as ops i sl ms Γ m)
 | SF {hd:QE} {α:Type} {A:LN} {as:LL} {d:Nat} {x:OO} {v:Value} {j:Int} {o:Bool} {E:af α} {z:α} {t ty:TI} {ops:LO} {i:Nat} {sl:LQ} {ms:MM} {fr:Fr} {Γ Γx:QE} {m:Option (Out S R)} (h:tK Γ (dc v 1 j) o E z qc Γx)
   (k:AD tq P cx K l tail base U hd (.ld E z fr (dc v 1 j) t x A d ty as ops i sl ms Γ m)):AD tq P cx K l tail base U hd (.lb false v j fr t x A d ty as ops i sl ms Γ m)
 | Ze {hd:QE} {α:Type} {A:LN} {as:LL} {d:Nat} {x:OO} {v:Value} {j:Int} {E:af α} {z:List α} {o:Bool} {t ty:TI} {ops:LO} {i:Nat} {sl:LQ} {ms:MM} {fr:Fr} {Γ:QE} {S9 ib:Value→List av} {m:Option (Out S R)} (hV:((U.zipIdx.all fun p=>!(p.1.contains l.length) || ((cg l).getD p.2 []).contains i))=true) (h:∀ u,tK hd (dc v 1 j) o (aE E) z (.rd o (aE E) u z) (S9 u)) (h2:∀ u,ya (S9 u) v j u (ib u))
   (k:∀ u,AD tq P cx K l tail base U (ib u) (.a as ops (i+1) ((i,d,u) :: sl) ms Γ m)):AD tq P cx K l tail base U hd (.lb true v j fr t x A d ty as ops i sl ms Γ m)
 | SG {hd:QE} {A:LN} {as:LL} {d:Nat} {x:OO} {a:Addr} {u:Value} {t ty:TI} {ops:LO} {i:Nat} {sl:LQ} {ms:MM} {fr:Fr} {Γ:QE} {m:Option (Out S R)} (h:tL Γ a u)
   (k:AD tq P cx K l tail base U hd (.a as ops (i+1) ((i,d,u) :: sl) ms Γ m)):AD tq P cx K l tail base U hd (.la fr a none t x A d ty as ops i sl ms Γ m)
 | KJ {hd:QE} {A:LN} {as:LL} {d n:Nat} {x:OO} {a:Addr} {ds:LV} {t ty:TI} {ops:LO} {i:Nat} {sl:LQ} {ms:MM} {fr:Fr} {Γ:QE} {m:Option (Out S R)} (h:bg Γ a n ds)
   (k:AD tq P cx K l tail base U hd (.a as ops (i+1) ((i,d,.agg ds.toArray) :: sl) ms Γ m)):AD tq P cx K l tail base U hd (.la fr a (some n) t x A d ty as ops i sl ms Γ m)
 | SH {hd:QE} {A:LN} {as:LL} {d:Nat} {x:OO} {a:Addr} {k:IntKind} {z:Int} {t ty:TI} {ops:LO} {i:Nat} {sl:LQ} {ms:MM} {fr:Fr} {Γ:QE} {m:Option (Out S R)}
   (h:AD tq P cx K l tail base U hd (.a as ops (i+1) ((i,d,.int k z) :: sl) ms Γ m)):AD tq P cx K l tail base U hd (.ld (aC k) z fr a t x A d ty as ops i sl ms Γ m)
 | SI {hd:QE} {A:LN} {as:LL} {d:Nat} {x:OO} {a:Addr} {z:Bool} {t ty:TI} {ops:LO} {i:Nat} {sl:LQ} {ms:MM} {fr:Fr} {Γ:QE} {m:Option (Out S R)}
   (h:AD tq P cx K l tail base U hd (.a as ops (i+1) ((i,d,.bool z) :: sl) ms Γ m)):AD tq P cx K l tail base U hd (.ld kh z fr a t x A d ty as ops i sl ms Γ m)
 | SJ {hd:QE} {α:Type} {A:LN} {as:LL} {d:Nat} {x:OO} {v:Value} {j:Int} {E:af α} {z:List α} {o:Bool} {t ty:TI} {ops:LO} {i:Nat} {sl:LQ} {ms:MM} {fr:Fr} {Γ:QE} {Γ1 Γ':Value→List av} {m:Option (Out S R)} (h:∀ u,tK Γ (dc v 1 j) o (aE E) z (.rd o (aE E) u z) (Γ1 u)) (h2:∀ u,ya (Γ1 u) v j u (Γ' u))
   (k:∀ u,AD tq P cx K l tail base U hd (.a as ops (i+1) ((i,d,u) :: sl) ms (Γ' u) m)):AD tq P cx K l tail base U hd (.ld (aE E) z fr (dc v 1 j) t x A d ty as ops i sl ms Γ m)
 | KH {hd:QE} {us:LN} {A:LN} {as:LL} {d:Nat} {f:FuncId} {xs:List Operand} {aq:Array TypeId} {ty:TI} {ops:LO} {i:Nat} {sl:LQ} {ms:MM} {Γ:QE} {m:Option (Out S R)} (hU:U.getD i []=us) (h:AD tq P cx K l tail base U hd (.oc us f xs aq A d ty as ops i sl ms Γ m)):AD tq P cx K l tail base U hd (.o A (.call ⟨.value (.func f),xs.toArray,aq⟩) d ty as ops i sl ms Γ m)
 | Zf {hd:QE} {β V:Type} {A:LN} {as:LL} {d:Nat} {f:FuncId} {fs bs:LV} {xo:OO} {xs:List Operand} {aq:Array TypeId} {ty:TI} {mo:Option β} {rt:β→V→List Value} {ps:β→V→List av} {ops:LO} {i:Nat} {sl:LQ} {ms:MM} {fr:Fr} {Γ:QE} {g:β→Option (Out S R)}
   (hv:cZ A none sl base fr) (hx:bb fr xo=some (.func (.func f) fs.toArray bs.toArray)) (hf:XO P f) (hc:∀ x:lq ms,CE P f fs bs xs (jj A ms x++fr) (qx A ms x++Γ) mo rt ps) (hi:jw ms) (sH:kz A ms=true) (ho:∀ y v,rB (ps y v)=true)
   (h:∀ y,AD tq P cx K l tail base U hd (.cr (fun v=>na (rt y v)) (ps y) d as ops i sl ms Γ (g y))):AD tq P cx K l tail base U hd (.o A (.call ⟨.value xo,xs.toArray,aq⟩) d ty as ops i sl ms Γ (mo>>=g))
 | Zg {hd:QE} {β V:Type} {A:LN} {as:LL} {d:Nat} {f:FuncId} {it:TI} {name nm:String} {u:Value} {xo:OO} {xs:List Operand} {aq:Array TypeId} {ty:TI} {mo:Option β} {rt:β→V→List Value} {ps:β→V→List av} {ops:LO} {i:Nat} {sl:LQ} {ms:MM} {fr:Fr} {Γ:QE} {g:β→Option (Out S R)}
   (hv:cZ A none sl base fr) (hx:bb fr xo=some (.iface it u)) (hf:XP P it nm f) (hn:Bx (name=nm)) (hc:∀ x:lq ms,CE P f [u] [] xs (jj A ms x++fr) (qx A ms x++Γ) mo rt ps) (hi:jw ms) (sH:kz A ms=true) (ho:∀ y v,rB (ps y v)=true)
   (h:∀ y,AD tq P cx K l tail base U hd (.cr (fun v=>na (rt y v)) (ps y) d as ops i sl ms Γ (g y))):AD tq P cx K l tail base U hd (.o A (.call ⟨.invoke xo name,xs.toArray,aq⟩) d ty as ops i sl ms Γ (mo>>=g))
 | call {hd:QE} {β V:Type} {A:LN} {as:LL} {d:Nat} {f:FuncId} {xs:List Operand} {aq:Array TypeId} {ty:TI} {mo:Option β} {rt:β→V→List Value} {ps:β→V→List av} {ops:LO} {i:Nat} {sl:LQ} {ms:MM} {fr:Fr} {Γ:QE} {g:β→Option (Out S R)} [hf:bw P f]
   (hv:cZ A none sl base fr) (hc:∀ x:lq ms,Jg P f xs (jj A ms x++fr) (qx A ms x++Γ) mo rt ps) (hi:jw ms) (sH:kz A ms=true) (ho:∀ y v,rB (ps y v)=true)
   (h:∀ y,AD tq P cx K l tail base U hd (.cr (fun v=>na (rt y v)) (ps y) d as ops i sl ms Γ (g y))):AD tq P cx K l tail base U hd (.oc [] f xs aq A d ty as ops i sl ms Γ (mo>>=g))
 | W3 {hd:QE} {β V:Type} {A:LN} {as:LL} {d:Nat} {f:FuncId} {xs:List Operand} {aq:Array TypeId} {ty:TI} {mo:Option β} {rt:β→V→List Value} {ps:β→V→List av} {ops:LO} {i:Nat} {sl:LQ} {ms:MM} {fr:Fr} {Γ:QE} {g:β→Option (Out S R)} [hf:bw P f]
   (hV:((U.set i []).all fun us=>!(us.contains l.length))=true) (hv:cZ A none sl base fr) (hc:∀ x:lq ms,CF P f xs (jj A ms x++fr) hd (qx A ms x++Γ) mo rt ps) (hi:jw ms) (sH:kz A ms=true) (ho:∀ y v,rB (ps y v)=true)
   (h:∀ y,AD tq P cx K l tail base U hd (.cr (fun v=>na (rt y v)) (ps y) d as ops i sl ms Γ (g y))):AD tq P cx K l tail base U hd (.oc [l.length] f xs aq A d ty as ops i sl ms Γ (mo>>=g))
 | W4 {hd:QE} {β V:Type} {j1:Nat} {a1:fg} {fl:MM} {A:LN} {as:LL} {d:Nat} {f:FuncId} {xs:List Operand} {aq:Array TypeId} {ty:TI} {mo:Option β} {rt:β→V→List Value} {ps:β→V→List av} {ops:LO} {i:Nat} {sl:LQ} {ms:MM} {fr:Fr} {Γ:QE} {g:β→Option (Out S R)} [hf:bw P f]
   (h1:zf ms j1 a1 fl) (CG:a1.src=[]) (h4:dt j1 A=true) (hv:cZ A none sl base fr) (hc:∀ (q:a1.V) (x:lq fl),CF P f xs (jj A fl x++fr) (a1.ps undef q) (qx A fl x++Γ) mo rt ps) (hi:jw fl) (sH:kz A fl=true) (ho:∀ y v,rB (ps y v)=true)
   (h:∀ y,AD tq P cx K l tail base U hd (.cr (fun v=>na (rt y v)) (ps y) d as ops i (Ji j1 i sl) fl Γ (g y))):AD tq P cx K l tail base U hd (.oc [j1] f xs aq A d ty as ops i sl ms Γ (mo>>=g))
 | crv {hd:QE} {u:Unit→Value} {d:Nat} {as:LL} {ops:LO} {i:Nat} {sl:LQ} {ms:MM} {Γ:QE} {m:Option (Out S R)} (h:AD tq P cx K l tail base U hd (.a as ops (i+1) ((i,d,u ()) :: sl) ms Γ m)):AD tq P cx K l tail base U hd (.cr u (fun _=>[]) d as ops i sl ms Γ m)
 | crb {hd:QE} {u:Unit→Value} {ps:Unit→List av} {d:Nat} {as:LL} {ops:LO} {i:Nat} {sl:LQ} {ms:MM} {Γ:QE} {m:Option (Out S R)} (h:AD tq P cx K l tail base U hd (.a as ops (i+1) ((i,d,u ()) :: sl) (⟨i,d,[],Unit,fun _=>u,fun _=>ps⟩ :: ms) Γ m)):AD tq P cx K l tail base U hd (.cr u ps d as ops i sl ms Γ m)
 | crm {hd:QE} {V:Type} {u:V→Value} {ps:V→List av} {d:Nat} {as:LL} {ops:LO} {i:Nat} {sl:LQ} {ms:MM} {Γ:QE} {m:Option (Out S R)} (h:AD tq P cx K l tail base U hd (.a as ops (i+1) sl (⟨i,d,[],V,fun _=>u,fun _=>ps⟩ :: ms) Γ m)):AD tq P cx K l tail base U hd (.cr u ps d as ops i sl ms Γ m)
 | val {hd:QE} {A:LN} {as:LL} {op:Op} {d:Nat} {ty:TI} {u:Value} {ops:LO} {i:Nat} {sl:LQ} {ms:MM} {fr:Fr} {Γ:QE} {m:Option (Out S R)} (hv:cZ A none sl base fr) (hq:VQ P Γ fr op u)
   (h:AD tq P cx K l tail base U hd (.a as ops (i+1) ((i,d,u) :: sl) ms Γ m)):AD tq P cx K l tail base U hd (.o A op d ty as ops i sl ms Γ m)
 | sN {hd:QE} {A:LN} {as:LL} {op:BinOp} {x y:OO} {k k':IntKind} {a b:Int} {t t':TI} {d:Nat} {ty:TI} {ops:LO} {i:Nat} {sl:LQ} {ms:MM} {fr:Fr} {Γ:QE} {f:Int→Option (Out S R)} (hv:cZ A none sl base fr) (hx:bb fr x=some (.int k a)) (hy:bb fr y=some (.int k' b)) (hk:PU op k k')
   (h:∀ z,AD tq P cx K l tail base U hd (.a as ops (i+1) ((i,d,.int k z) :: sl) ms Γ (f z))):AD tq P cx K l tail base U hd (.o A (.binOp op t x y t') d ty as ops i sl ms Γ (uw op k a b>>=f))
 | XR {hd:QE} {α β:Type} {A:LN} {as:LL} {d:Nat} {x y:OO} {v:Value} {k:IntKind} {j:Int} {t ty:TI} {o1 o2 p1 p2:Bool} {E:af α} {E2:af β} {z:β} {xs:List α} {ops:LO} {i:Nat} {sl:LQ} {ms:MM} {fr:Fr} {Γ Γx:QE} {m:Option (Out S R)} [ht:vI P t]
   (hy:bb fr y=some (.int k j)) (hr:lz Γ v o1 o2 E xs qc Γx) (hi:In (.ad p1 p2 v j E2 z) Γ) (hE:E.size=1)
   (h:AD tq P cx K l tail base U hd (.a as ops (i+1) ((i,d,.pointer (some (dc v 1 j))) :: sl) ms Γ m)):AD tq P cx K l tail base U hd (.ix false v fr x y t A d ty as ops i sl ms Γ m)
 | pz {hd:QE} {as:LL} {ops:LO} {i:Nat} {sl:LQ} {ms:MM} {Γ:QE} {m:Option (Out S R)} (h:AD tq P cx K l tail base U hd (.a as ops i sl ms Γ m)):AD tq P cx K l tail base U hd (.p [] as ops i sl ms Γ m)
 | pe {hd:QE} {e:av} {Δ:QE} {as:LL} {ops:LO} {i:Nat} {sl:LQ} {ms:MM} {Γ:QE} {m:Option (Out S R)} (h:AD tq P cx K l tail base U hd (.p Δ as ops i sl ms (e :: Γ) m)):AD tq P cx K l tail base U hd (.p (e :: Δ) as ops i sl ms Γ m)
 | Fu {hd:QE} {α V:Type} {Sc:af α} {cl:α→V→List Value} {en:α→V→List av} {A:LN} {as:LL} {d n:Nat} {x y:OO} {v:Value} {xs:List α} {k:IntKind} {j:Int} {t ty:TI} {ops:LO} {i:Nat} {sl:LQ} {ms:MM} {fr:Fr} {Γ Γx:QE} {f:α→Option (Out S R)} [ht:Cu P t n]
   (hy:bb fr y=some (.int k j)) (hr:lz Γ v false false (n7 Sc) xs qc Γx) (hs:Ea Sc V cl en) (hn:Sc.size=n)
   (h:∀ z u,AD tq P cx K l tail base U hd (.p (.aq (dc v n j) (cl z u) :: en z u) as ops (i+1) ((i,d,.pointer (some (dc v n j))) :: sl) ms Γ (f z))):AD tq P cx K l tail base U hd (.ix false v fr x y t A d ty as ops i sl ms Γ (idx xs j>>=f))
 | Tb {hd:QE} {α V:Type} {Sc:af α} {cl:α→V→List Value} {en:α→V→List av} {A:LN} {as:LL} {d n e bt:Nat} {x y:OO} {v:Value} {us:List (List Value)} {xs:List α} {k:IntKind} {j:Int} {t ty:TI} {ops:LO} {i:Nat} {sl:LQ} {ms:MM} {fr:Fr} {Γ Γ1:QE} {f:α→Option (Out S R)} [ht:zY P t e n bt]
   (hy:bb fr y=some (.int k j)) (h1:de Γ (.own (aK e (iz n)) v us) Γ1) (hg:In (.rd false (sL Sc) (.bool true) (us,xs)) Γ) (hs:Ea Sc V cl en)
   (h:∀ z u,AD tq P cx K l tail base U hd (.p (.rd false (zV us j) (.bool true) (cl z u) :: en z u) as ops (i+1) ((i,d,.pointer (some (dc v n j))) :: sl) ms Γ (f z))):AD tq P cx K l tail base U hd (.ix false v fr x y t A d ty as ops i sl ms Γ (idx xs j>>=f))
 | XS {hd:QE} {A:LN} {as:LL} {d n e off:Nat} {x:OO} {v u:Value} {us:List (List Value)} {j:Int} {cs:LV} {t ty:TI} {ops:LO} {i:Nat} {sl:LQ} {ms:MM} {fr:Fr} {Γ Γ1:QE} {m:Option (Out S R)} (h1:de Γ (.own (aK e (iz n)) v us) Γ1) (hp:In (.rd false (zV us j) (.bool true) cs) Γ) (hc:cs[off]? = some u)
   (k:AD tq P cx K l tail base U hd (.a as ops (i+1) ((i,d,u) :: sl) ms Γ m)):AD tq P cx K l tail base U hd (.la fr ((dc v n j).add off) none t x A d ty as ops i sl ms Γ m)
 | Tc {hd:QE} {A:LN} {as:LL} {d n e:Nat} {x:OO} {v u:Value} {us:List (List Value)} {j:Int} {cs:LV} {t ty:TI} {ops:LO} {i:Nat} {sl:LQ} {ms:MM} {fr:Fr} {Γ Γ1:QE} {m:Option (Out S R)} (h1:de Γ (.own (aK e (iz n)) v us) Γ1) (hp:In (.rd false (zV us j) (.bool true) cs) Γ) (hc:cs[0]? = some u)
   (k:AD tq P cx K l tail base U hd (.a as ops (i+1) ((i,d,u) :: sl) ms Γ m)):AD tq P cx K l tail base U hd (.la fr (dc v n j) none t x A d ty as ops i sl ms Γ m)
 | W5 {hd:QE} {β V:Type} {A:LN} {as:LL} {d:Nat} {f:FuncId} {xs:List Operand} {aq:Array TypeId} {ty:TI} {mo:Option β} {rt:β→V→List Value} {ps:β→V→List av} {ops:LO} {i:Nat} {sl:LQ} {ms:MM} {fr:Fr} {Γ:QE} {g:β→Option (Out S R)} [hf:bw P f]
   (hv:cZ A none sl base fr) (hc:∀ x:lq ms,Jh P f xs (jj A ms x++fr) Γ mo rt ps) (hi:jw ms) (sH:kz A ms=true)
   (h:∀ y,AD tq P cx K l tail base U hd (.cr (fun v=>na (rt y v)) (ps y) d as ops i sl ms Γ (g y))):AD tq P cx K l tail base U hd (.oc [] f xs aq A d ty as ops i sl ms Γ (mo>>=g))
 | Td {hd:QE} {β V:Type} {A:LN} {as:LL} {d:Nat} {f:FuncId} {xs:List Operand} {aq:Array TypeId} {ty:TI} {mo:Option β} {rt:β→V→List Value} {ps:β→V→List av} {ops:LO} {i:Nat} {sl:LQ} {ms:MM} {fr:Fr} {Γ:QE} {g:β→Option (Out S R)} [hf:bw P f]
   (hV:((U.set i []).all fun us=>!(us.contains l.length))=true) (hv:cZ A none sl base fr) (hc:∀ x:lq ms,Aq P f xs (jj A ms x++fr) hd Γ mo rt ps) (hi:jw ms) (sH:kz A ms=true)
   (h:∀ y,AD tq P cx K l tail base U hd (.cr (fun v=>na (rt y v)) (ps y) d as ops i sl ms Γ (g y))):AD tq P cx K l tail base U hd (.oc [l.length] f xs aq A d ty as ops i sl ms Γ (mo>>=g))
 | Te {hd:QE} {β V:Type} {j1:Nat} {a1:fg} {fl:MM} {A:LN} {as:LL} {d:Nat} {f:FuncId} {xs:List Operand} {aq:Array TypeId} {ty:TI} {mo:Option β} {rt:β→V→List Value} {ps:β→V→List av} {ops:LO} {i:Nat} {sl:LQ} {ms:MM} {fr:Fr} {Γ:QE} {g:β→Option (Out S R)} [hf:bw P f]
   (h1:zf ms j1 a1 fl) (CG:a1.src=[]) (h4:dt j1 A=true) (hv:cZ A none sl base fr) (hc:∀ (q:a1.V) (x:lq fl),Aq P f xs ((a1.d,a1.rt undef q) :: (jj A fl x++fr)) (a1.ps undef q) Γ mo rt ps) (hi:jw fl) (sH:kz A fl=true)
   (h:∀ y,AD tq P cx K l tail base U hd (.cr (fun v=>na (rt y v)) (ps y) d as ops i (Ji j1 i sl) fl Γ (g y))):AD tq P cx K l tail base U hd (.oc [j1] f xs aq A d ty as ops i sl ms Γ (mo>>=g))
 | slH {hd:QE} {α:Type} {o:Bool} {A:LN} {as:LL} {d:Nat} {x lo hi:OO} {v:Value} {k1 k2:IntKind} {a b:Int} {E T:af α} {xs:List α} {t e ty:TI} {ops:LO} {i:Nat} {sl:LQ} {ms:MM} {fr:Fr} {Γ Γ1:QE} {Γ':Value→List α→List av} {f:List α→Option (Out S R)} [ht:vI P t]
   (hv:cZ A none sl base fr) (hx:bb fr x=some v) (Ij:bb fr lo=some (.int k1 a)) (KY:bb fr hi=some (.int k2 b)) (hc:de Γ (.own (aK e T) v xs) Γ1) (hr:∀ v' ys,lz Γ v o o E xs (.rd o (aE E) v' ys) (Γ' v' ys)) (hE:E.size=1)
   (h:∀ v' ys,AD tq P cx K l tail base U hd (.a as ops (i+1) ((i,d,v') :: sl) ms (Γ' v' ys) (f ys))):AD tq P cx K l tail base U hd (.o A (.slice t x (some lo) (some hi) none) d ty as ops i sl ms Γ (ND xs a b>>=f))
 | P1 {o1 o2:Bool} {yv:Value} {fr:Fr} {Γx:QE} {hd:QE} {us:LN} {t e:TI} {E:af Int} {z0:Int} {bt t1 t2:Nat} {k:IntKind} {xs ys:List Int} {a1:fg} {fl:MM} {f:Unit→Option (Out S R)} {A:LN} {as:LL} {d:Nat} {ty:TI} {ops:LO} {i:Nat} {sl:LQ} {ms:MM} {Γ:QE} [hz:qS P t Int e E z0 bt] (h1:l5 ms t1 a1 fl) (h3:∀ u v,a1.ps u v=[.own (aK e (aC k)) (a1.rt u v) xs]) (hu:us=[a1.j]) (h4:dt a1.j A=true) (hv:cZ A none sl base fr) (hx:look fr t2=some yv) (hr:lz Γ yv o1 o2 (aC k) ys qc Γx)
   (h:AD tq P cx K l tail base U hd (.a as ops (i+1) sl (⟨i,d,[],Value,fun _ v=>v,fun _ v=>[.own (aK e (aC k)) v (xs++ys)]⟩ :: fl) Γ (f ()))):AD tq P cx K l tail base U hd (.ap us t1 t2 t A d ty as ops i sl ms Γ (fits bt (xs.length+ys.length)>>=f))
 | P3 {e2:TI} {a2:fg} {sa:MM} {hd:QE} {us:LN} {t e:TI} {E:af Int} {z0:Int} {bt t1 t2:Nat} {k:IntKind} {xs ys:List Int} {a1:fg} {fl:MM} {f:Unit→Option (Out S R)} {A:LN} {as:LL} {d:Nat} {ty:TI} {ops:LO} {i:Nat} {sl:LQ} {ms:MM} {Γ:QE} [hz:qS P t Int e E z0 bt] (h1:l5 ms t1 a1 fl) (h3:∀ u v,a1.ps u v=[.own (aK e (aC k)) (a1.rt u v) xs]) (hu:us=[a1.j]) (h4:dt a1.j A=true) (h2:l5 fl t2 a2 sa) (h7:∀ u v,a2.ps u v=[.own (aK e2 (aC k)) (a2.rt u v) ys]) (h5:dt a2.j A=true)
   (h:AD tq P cx K l tail base U hd (.a as ops (i+1) sl (⟨i,d,[],Value,fun _ v=>v,fun _ v=>[.own (aK e (aC k)) v (xs++ys)]⟩ :: fl) Γ (f ()))):AD tq P cx K l tail base U hd (.ap us t1 t2 t A d ty as ops i sl ms Γ (fits bt (xs.length+ys.length)>>=f))
end Go.Dk
namespace Go.Dk
open Go Go.Li
theorem jc {t:Nat} {l:LN}:dt t l=true↔t∈l:=by
 induction l with
 | nil=>simp [dt]
 | cons a l ih=>
  unfold dt
  cases hb:Nat.beq t a with
  | true=>simp [Nat.eq_of_beq_eq_true hb]
  | false=>simp only [cond_false,ih,List.mem_cons]; exact ⟨.inr,fun h=>h.resolve_left fun e=>by rw [e,Nat.beq_refl] at hb; cases hb⟩
def ra (l:LO) (U:LL) (mt:Nat):List (List Nat):=(List.range mt).map fun i=>((cg l).getD i []).filter (tS l U mt i)
theorem km {l:LO} {U:LL} {mt i j:Nat} (h:j∈(ra l U mt).getD i []):j∈(cg l).getD i []∧tS l U mt i j=true:=by
 unfold ra at h
 rw [List.getD_eq_getElem?_getD,List.getElem?_map] at h
 by_cases hi:i < mt
 ·rw [List.getElem?_range hi] at h
  exact List.mem_filter.1 h
 ·rw [List.getElem?_eq_none (by simpa using hi)] at h
  exact absurd h List.not_mem_nil
variable {Z:Nat→Prop}
structure jf (Z:Nat→Prop) (l:LO) (S:List gx) (sl:LQ) (ms:MM):Prop where
 v:∀ p∈sl,∃ j,(j=p.1∨j∈(cg l).getD p.1 [])∧bn l j=some p.2.1∧∃ s,S[j]? = some s∧s.b=true∧∀ f w r x,s.V f w r x→x=p.2.2
 m:∀ a∈ms,(S[a.j]? = some ⟨true,MV Z a⟩∧bn l a.j=some a.d)∨(S[a.j]? = some ⟨true,KV Z a⟩∧bn l a.j=none∧∃ k∈(cg l).getD a.j [],bn l k=some a.d)
 s:∀ i s,S[i]? = some s→PZ Z ((cg l).getD i []) l s
 d:(ms.map (·.j)).Nodup
 t:∀ i j k,j∈(cg l).getD k []→k∈(cg l).getD i []→j∈(cg l).getD i []
theorem jf.lt {l:LO} {S:List gx} {sl:LQ} {ms:MM} (h:jf Z l S sl ms) {a:fg} (ha:a∈ms):a.j < S.length:=by
 rcases h.m a ha with h | h <;> exact (List.getElem?_eq_some_iff.1 h.1).1
theorem jf.wD {l:LO} {S S2:List gx} {sl:LQ} {ms:MM} (h:jf Z l S sl ms) {a:fg} (ha:a∈ms) {g:Nat→List Nat} {r:NV} {w:World} (hd:wE l (S++S2) a.j g r w):MV Z a (g a.j) w r (r a.d):=by
 rcases h.m a ha with h1 | h1
 ·have h2:=hd.1 a.d h1.2
  rw [List.getElem?_append_left (List.getElem?_eq_some_iff.1 h1.1).1,h1.1] at h2
  exact h2
 ·obtain ⟨x,hx⟩:=hd.2 h1.2.1 _ (by rw [List.getElem?_append_left (List.getElem?_eq_some_iff.1 h1.1).1]; exact h1.1) rfl
  exact hx
theorem jf.slot {l:LO} {S:List gx} {sl:LQ} {ms:MM} (h:jf Z l S sl ms) {a:fg} (ha:a∈ms) {i:Nat} (hi:a.j∈(cg l).getD i []):∃ k∈(cg l).getD i [],bn l k=some a.d:=by
 rcases h.m a ha with h1 | ⟨_,_,k,hk,hd⟩
 ·exact ⟨a.j,hi,h1.2⟩
 ·exact ⟨k,h.t i k a.j hk hi,hd⟩
theorem jf.sO {l:LO} {S S2:List gx} {sl:LQ} {ms:MM} (h:jf Z l S sl ms) {a:fg} (ha:a∈ms):((S++S2)[a.j]? = some ⟨true,MV Z a⟩∧bn l a.j=some a.d)∨((S++S2)[a.j]? = some ⟨true,KV Z a⟩∧bn l a.j=none∧∃ k∈(cg l).getD a.j [],bn l k=some a.d):=by
 rw [List.getElem?_append_left (h.lt ha)]
 exact h.m a ha
theorem jf.NG {l:LO} {S S2:List gx} {sl:LQ} {ms:MM} (h:jf Z l S sl ms) {p:Nat×Nat×Value} (hp:p∈sl):∃ j,(j=p.1∨j∈(cg l).getD p.1 [])∧bn l j=some p.2.1∧∃ s,(S++S2)[j]? = some s∧s.b=true∧∀ f w r x,s.V f w r x→x=p.2.2:=by
 obtain ⟨j,hj,h1,s,h2,h3⟩:=h.v p hp
 exact ⟨j,hj,h1,s,by rw [List.getElem?_append_left (List.getElem?_eq_some_iff.1 h2).1]; exact h2,h3⟩
theorem jf.va {l:LO} {S S2:List gx} {sl:LQ} {ms:MM} (h:jf Z l S sl ms) {p:Nat×Nat×Value} (hp:p∈sl) {r:NV} (ho:∀ j,(j=p.1∨j∈(cg l).getD p.1 [])→j < S.length→Old l (S++S2) j r):r p.2.1=p.2.2:=by
 obtain ⟨j,hj,h1,s,h2,h3,h4⟩:=h.v p hp
 have hl:=(List.getElem?_eq_some_iff.1 h2).1
 have:=ho j hj hl _ h1 s (by rw [List.getElem?_append_left hl]; exact h2)
 rw [if_pos h3] at this
 obtain ⟨f,w,hV⟩:=this
 exact h4 f w r _ hV
theorem jf.val {l:LO} {S:List gx} {sl:LQ} {ms:MM} (h:jf Z l S sl ms) {d:Nat} {u:Value} (hd:bn l S.length=some d):jf Z l (S++[sV u]) ((S.length,d,u) :: sl) ms:=by
 refine ⟨?_,fun a ha=>h.sO ha,?_,h.d,h.t⟩
 ·intro p hp
  rcases List.mem_cons.1 hp with rfl | hp
  ·exact ⟨S.length,.inl rfl,hd,sV u,by simp,rfl,fun _ _ _ _ h=>h⟩
  ·exact h.NG hp
 ·intro i s hs
  by_cases hi:i < S.length
  ·rw [List.getElem?_append_left hi] at hs; exact h.s i s hs
  ·rw [List.getElem?_append_right (by omega)] at hs
   have wF:i - S.length=0:=by
    have:=(List.getElem?_eq_some_iff.1 hs).1
    simp at this; omega
   rw [wF] at hs
   cases hs
   exact FH.n Jm
theorem jf.mem {l:LO} {S:List gx} {sl:LQ} {ms:MM} (h:jf Z l S sl ms) {b:fg} (hj:b.j=S.length) (hd:bn l S.length=some b.d) (er:∀ t∈b.src,∃ j∈(cg l).getD S.length [],bn l j=some t):jf Z l (S++[⟨true,MV Z b⟩]) sl (b :: ms):=by
 have bc:∀ a∈ms,a.j < S.length:=fun a ha=>h.lt ha
 refine ⟨fun p hp=>?_,?_,?_,?_,h.t⟩
 ·exact h.NG hp
 ·intro a ha
  rcases List.mem_cons.1 ha with rfl | ha
  ·exact .inl ⟨by rw [hj]; simp,by rw [hj]; exact hd⟩
  ·exact h.sO ha
 ·intro i s hs
  by_cases hi:i < S.length
  ·rw [List.getElem?_append_left hi] at hs; exact h.s i s hs
  ·rw [List.getElem?_append_right (by omega)] at hs
   have wF:i - S.length=0:=by
    have:=(List.getElem?_eq_some_iff.1 hs).1
    simp at this; omega
   have Tf:i=S.length:=by omega
   rw [wF] at hs
   cases hs
   rw [Tf]
   exact KW er
 ·rw [List.map_cons,List.nodup_cons]
  refine ⟨fun hm=>?_,h.d⟩
  obtain ⟨a,ha,he⟩:=List.mem_map.1 hm
  have:=bc a ha
  omega
theorem jf.Zh {l:LO} {S:List gx} {sl:LQ} {ms:MM} (h:jf Z l S sl ms) {j d:Nat} {u:Value} (hd:bn l j=some d) {s:gx} (hs:S[j]? = some s) (hb:s.b=true) (hV:∀ f w r x,s.V f w r x→x=u):jf Z l S ((j,d,u) :: sl) ms:=
 ⟨fun p hp=>by
  rcases List.mem_cons.1 hp with rfl | hp
  ·exact ⟨j,.inl rfl,hd,s,hs,hb,hV⟩
  ·exact h.v p hp,h.m,h.s,h.d,h.t⟩
theorem jf.re {l:LO} {S:List gx} {sl:LQ} {ms:MM} (h:jf Z l S sl ms) {j i:Nat} (hj:j∈(cg l).getD i []):jf Z l S (Ji j i sl) ms:=by
 refine ⟨fun p hp=>?_,h.m,h.s,h.d,h.t⟩
 obtain ⟨q,hq,rfl⟩:=List.mem_map.1 hp
 obtain ⟨k,hk,h1⟩:=h.v q hq
 cases hb:Nat.beq q.1 j with
 | false=>exact ⟨k,hk,h1⟩
 | true=>
  refine ⟨k,.inr ?_,h1⟩
  have KZ:=Nat.eq_of_beq_eq_true hb
  show k∈(cg l).getD i []
  rcases hk with rfl | hk
  ·rw [KZ]; exact hj
  ·rw [KZ] at hk; exact h.t i k j hk hj
theorem jf.Zi {l:LO} {S:List gx} {sl:LQ} {ms:MM} (h:jf Z l S sl ms) {b:fg} (hj:b.j=S.length) (hd:bn l S.length=none) (hk:∃ k∈(cg l).getD S.length [],bn l k=some b.d) (er:b.src=[]):jf Z l (S++[⟨true,KV Z b⟩]) sl (b :: ms):=by
 have bc:∀ a∈ms,a.j < S.length:=fun a ha=>h.lt ha
 refine ⟨fun p hp=>?_,?_,?_,?_,h.t⟩
 ·exact h.NG hp
 ·intro a ha
  rcases List.mem_cons.1 ha with rfl | ha
  ·exact .inr ⟨by rw [hj]; simp,by rw [hj]; exact hd,by rw [hj]; exact hk⟩
  ·exact h.sO ha
 ·intro i s hs
  by_cases hi:i < S.length
  ·rw [List.getElem?_append_left hi] at hs; exact h.s i s hs
  ·rw [List.getElem?_append_right (by omega)] at hs
   have wF:i - S.length=0:=by
    have:=(List.getElem?_eq_some_iff.1 hs).1
    simp at this; omega
   have Tf:i=S.length:=by omega
   rw [wF] at hs
   cases hs
   rw [Tf]
   exact Jf hk fun t ht=>by rw [er] at ht; cases ht
 ·rw [List.map_cons,List.nodup_cons]
  refine ⟨fun hm=>?_,h.d⟩
  obtain ⟨a,ha,he⟩:=List.mem_map.1 hm
  have:=bc a ha
  omega
theorem iu {l:LO} {m:Nat} {base:Fr} {r r0:NV} (hh:lr l m base=true) (ha:cq r0 base) (ho:∀ t,(∀ j,j < m→bn l j≠some t)→r t=r0 t):cq r base:=by
 intro t v hl
 have hm:∃ u,(t,u)∈base:=by
  clear hh ha
  induction base with
  | nil=>cases hl
  | cons p base ih=>
   obtain ⟨a,u⟩:=p
   unfold look at hl
   cases hb:Nat.beq t a with
   | true=>exact ⟨u,by rw [Nat.eq_of_beq_eq_true hb]; simp⟩
   | false=>rw [hb] at hl; obtain ⟨u',h⟩:=ih hl; exact ⟨u',by simp [h]⟩
 obtain ⟨u,hu⟩:=hm
 rw [ho t fun j hj=>K0 hh (t,u) hu j hj]
 exact ha t v hl
section
variable {P:Program} {l:LO} {mt:Nat} {S:List gx} {sl:LQ} {ms:MM} {base fr:Fr} {r r0:NV} {w w0:World} {g:Nat→List Nat} {i:Nat} {A:LN} {U:LL}
theorem lj (hR:jf Z l S sl ms) (hA:A=(ra l U mt).getD i []) (hv:cZ A none sl base fr) (hb:cq r base) {S':List gx} (hO:∀ j∈(cg l).getD i [],Old l (S++S') j r):cq r fr:=by
 refine hv.sound hb ?_ (fun _ _ _ h=>nomatch h)
 intro p hp hm
 have hi:=(km (by rw [← hA]; exact jc.1 hm)).1
 exact hR.va hp fun j hj _=>hO j (hj.elim (fun e=>e ▸ hi) fun hj=>hR.t i j p.1 hj hi)
theorem NH {H:LN} {o:Oper} {u:Value} (hh:lr l mt base=true) (ha:cq r0 base) (hR:jf Z l S sl ms) (ho:l[S.length]? = some o) (hg:o.guard=none) (hA:A=(ra l U mt).getD S.length []) (hv:cZ A none sl base fr)
  (h:∀ r,cq r fr→∀ w,ak H w0 w→(execOp (ev r) o).run P w = .ok (.value u) w):je P l mt (S++[sV u]) U r0 w0 H S.length:=
 je.val ho (by simp) hg fun g r w hC hO hn ij=>h r (lj hR hA hv (iu hh ha ij) hO) w hC
end
end Go.Dk
namespace Go.Dk
open Go Go.Li
section
variable {R S:Type} {P:Program} {cx:Cx R} {K:dh R S} {l tail:LO} {base fr:Fr} {w:World} {Z:Nat→Prop} {U:LL}
def ic (P:Program) (Z:Nat→Prop) (l:LO) (mt:Nat) (U:LL) (r0:NV) (w0:World) (H:LN) (i:Nat) (sl:LQ) (ms:MM):Prop:=
 ∃ S:List gx,S.length=i∧jf Z l S sl ms∧∀ j,j < i→je P l mt S U r0 w0 H j
def pj (B:Bs) (Z:Nat→Prop) (hd Γ:QE) (H:LN) (w:World):Prop:=∃ F Hd,(SA Z w hd [] Hd∧(∀ b∈Hd,b∈H∧b < w.heap.size)∧(∀ b∈H,b < w.heap.size)∧Hd.Nodup)∧SA Z w Γ [] F∧Gd B Z (H++F) w
theorem pj.stay {B:Bs} {Γ:QE} {F H:LN} {w w':World} (hS:SA Z w Γ [] F) (hG:Gd B Z (H++F) w) (hC:ak H w w'):SA Z w' Γ [] F:=
 hS.ep hC (fun b hb=>hG.apart b (List.mem_append_left _ hb)) (fun _ _=>List.not_mem_nil) (fun b hb hf=>(List.nodup_append.1 hG.nd).2.2 b hb b hf rfl)
def Fin (P:Program) (cx:Cx R) (K:dh R S) (l:LO) (mt:Nat) (U:LL) (hd:QE) (_id:Nat) (base:Fr) (i:Nat) (sl:LQ) (ms:MM) (Γ:QE) (m:Option (Out S R)):Prop:=
 ∀ B o,m=some o→∀ r0 w0 H Z,cq r0 base→pj B Z hd Γ H w0→ic P Z l mt U r0 w0 H i sl ms→n8 P cx.n l (mi P cx B K o) r0 w0
theorem ic.re {mt:Nat} {r0:NV} {w0:World} {H:LN} {i k j:Nat} {sl:LQ} {ms:MM} (h:ic P Z l mt U r0 w0 H k sl ms) (hj:j∈(cg l).getD i []):ic P Z l mt U r0 w0 H k (Ji j i sl) ms:=by
 obtain ⟨S,h1,h2,h3⟩:=h
 exact ⟨S,h1,h2.re hj,h3⟩
structure zg (l:LO) (mt:Nat) (U:LL) (as:LL) (ops:LO) (i:Nat):Prop where
 a:as=(ra l U mt).drop i
 o:ops=(l.take mt).drop i
 le:i≤mt
structure Tg (l:LO) (mt:Nat) (U:LL) (A:LN) (op:Op) (ty:TI) (as:LL) (ops:LO) (i:Nat):Prop where
 A:A=(ra l U mt).getD i []
 o:∃ pos ab,l[i]? = some ⟨none,op,ty,pos,ab,none⟩
 n:zg l mt U as ops (i+1)
theorem zg.Jj {mt:Nat} {A:LN} {as:LL} {op:Op} {ty:TI} {pos:String} {ab:Array Edge} {ops:LO} {i:Nat} (h:zg l mt U (A :: as) (⟨none,op,ty,pos,ab,none⟩ :: ops) i):Tg l mt U A op ty as ops i:=by
 obtain ⟨h1,h2,h3⟩:=h
 have e1:(ra l U mt)[i]? = some A:=by
  have:=congrArg (fun x=>x[0]?) h1
  simpa using this.symm
 have e2:(l.take mt)[i]? = some ⟨none,op,ty,pos,ab,none⟩:=by
  have:=congrArg (fun x=>x[0]?) h2
  simpa using this.symm
 have t1:as=(ra l U mt).drop (i+1):=by
  have:=congrArg List.tail h1
  simpa [List.tail_drop] using this
 have t2:ops=(l.take mt).drop (i+1):=by
  have:=congrArg List.tail h2
  simpa [List.tail_drop] using this
 have hi:i < mt:=by
  have:=(List.getElem?_eq_some_iff.1 e1).1
  simpa [ra] using this
 rw [List.getElem?_take,if_pos hi] at e2
 exact ⟨by rw [List.getD_eq_getElem?_getD,e1]; rfl,⟨pos,ab,e2⟩,t1,t2,hi⟩
structure mx (l:LO) (mt:Nat) (U:LL) (A:LN) (op:Op) (d:Nat) (ty:TI) (as:LL) (ops:LO) (i:Nat):Prop where
 A:A=(ra l U mt).getD i []
 o:∃ pos ab,l[i]? = some ⟨some d,op,ty,pos,ab,none⟩
 n:zg l mt U as ops (i+1)
theorem zg.cons {mt:Nat} {A:LN} {as:LL} {op:Op} {d:Nat} {ty:TI} {pos:String} {ab:Array Edge} {ops:LO} {i:Nat} (h:zg l mt U (A :: as) (⟨some d,op,ty,pos,ab,none⟩ :: ops) i):mx l mt U A op d ty as ops i:=by
 obtain ⟨h1,h2,h3⟩:=h
 have e1:(ra l U mt)[i]? = some A:=by
  have:=congrArg (fun x=>x[0]?) h1
  simpa using this.symm
 have e2:(l.take mt)[i]? = some ⟨some d,op,ty,pos,ab,none⟩:=by
  have:=congrArg (fun x=>x[0]?) h2
  simpa using this.symm
 have t1:as=(ra l U mt).drop (i+1):=by
  have:=congrArg List.tail h1
  simpa [List.tail_drop] using this
 have t2:ops=(l.take mt).drop (i+1):=by
  have:=congrArg List.tail h2
  simpa [List.tail_drop] using this
 have hi:i < mt:=by
  have:=(List.getElem?_eq_some_iff.1 e1).1
  simpa [ra] using this
 rw [List.getElem?_take,if_pos hi] at e2
 exact ⟨by rw [List.getD_eq_getElem?_getD,e1]; rfl,⟨pos,ab,e2⟩,t1,t2,hi⟩
theorem ic.val {mt:Nat} {A:LN} {op:Op} {d:Nat} {ty:TI} {as:LL} {ops:LO} {i:Nat} {sl:LQ} {ms:MM} {r0:NV} {w0:World} {H:LN} {u:Value} (h:ic P Z l mt U r0 w0 H i sl ms) (hh:lr l mt base=true) (ha:cq r0 base) (h1:mx l mt U A op d ty as ops i)
  (hv:cZ A none sl base fr) (hq:∀ r,cq r fr→∀ pos ab g w,ak H w0 w→(execOp (ev r) ⟨some d,op,ty,pos,ab,g⟩).run P w = .ok (.value u) w):ic P Z l mt U r0 w0 H (i+1) ((i,d,u) :: sl) ms:=by
 obtain ⟨S',hl,hR,hO⟩:=h
 subst hl
 obtain ⟨hA,⟨pos,ab,ho⟩,_⟩:=h1
 refine ⟨S'++[sV u],by simp,hR.val (by unfold bn; rw [ho]; rfl),fun j hj=>?_⟩
 by_cases h2:j < S'.length
 ·exact je.more (hO j h2) h2
 ·obtain rfl:j=S'.length:=by omega
  exact NH hh ha hR ho rfl hA hv fun r hr=>hq r hr _ _ _
def zh (P:Program) (Z:Nat→Prop) (l:LO) (mt:Nat) (U:LL) (r0:NV) (w0:World) (H:LN) (i:Nat) (sl:LQ) (ms:MM) (a:fg):Prop:=
 ∃ S:List gx,S.length=i∧jf Z l S sl ms∧(∀ j,j < i→je P l mt S U r0 w0 H j)∧
  ∀ V:List Nat→World→(Nat→Value)→Value→Prop,(∀ f w r x,MV Z a f w r x→∃ f',(∀ b∈f',b∈f)∧V f' w r x)→je P l mt (S++[⟨true,V⟩]) U r0 w0 H i
theorem HL.front {Δ Γ:QE} {Fd F:LN} (h:HL Z w Δ Fd) (hs:SA Z w Γ [] F):SA Z w (Δ++Γ) [] (Fd++F):=by
 induction h with
 | nil=>exact hs
 | own h _ ih=>rw [List.append_assoc]; exact SA.cons ih h
 | fact h _ ih=>exact SA.fact ih h
def As (A:LN) (g:Nat→List Nat):List fg→List Nat
 | []=>[]
 | a :: l=>bif dt a.j A then g a.j++As A g l else As A g l
def HV (Z:Nat→Prop) (w:World) (Δ:QE) (B:LN):Prop:=∃ Vo Vr,(∀ b∈Vo++Vr,b∈B)∧(∀ b∈Vr,b < w.heap.size)∧HL (fun b=>Z b∨b∈Vr) w Δ Vo
theorem HV.front {Δ Γ:QE} {B F:LN} (h:HV Z w Δ B) (hs:SA Z w Γ [] F):∃ G:List Nat,(∀ b∈G,b∈B++F∧b < w.heap.size)∧∃ F':List Nat,(∀ b∈F',b∈G)∧SA (fun b=>Z b∨b∈G) w (Δ++Γ) [] F':=by
 obtain ⟨Vo,Vr,h1,h2,h3⟩:=h
 have hS:=h3.front (hs.mono (Z':=fun b=>Z b∨b∈Vr) (fun _ h=>.inl h) fun _ h=>h)
 refine ⟨Vr++(Vo++F),fun b hb=>?_,Vo++F,fun b hb=>List.mem_append_right _ hb,hS.mono (fun b h=>h.imp id fun h=>List.mem_append_left _ h) fun _ h=>h⟩
 rcases List.mem_append.1 hb with hb | hb
 ·exact ⟨List.mem_append_left _ (h1 b (List.mem_append_right _ hb)),h2 b hb⟩
 ·refine ⟨?_,hS.lt b hb⟩
  rcases List.mem_append.1 hb with hb | hb
  ·exact List.mem_append_left _ (h1 b (List.mem_append_left _ hb))
  ·exact List.mem_append_right _ hb
theorem HV.app {Δ Δ':QE} {f B:LN} (h:HN Z w Δ f) (k:HV Z w Δ' B):HV Z w (Δ++Δ') (f++B):=by
 obtain ⟨Fo,Fr,rfl,h1,h2⟩:=h.all
 obtain ⟨Vo,Vr,k1,k2,k3⟩:=k
 refine ⟨Fo++Vo,Fr++Vr,fun b hb=>?_,fun b hb=>(List.mem_append.1 hb).elim (h1 b) (k2 b),(h2.mono fun b h=>h.imp id fun h=>List.mem_append_left _ h).app (k3.mono fun b h=>h.imp id fun h=>List.mem_append_right _ h)⟩
 have:=fun h=>k1 b h
 simp only [List.mem_append] at hb this ⊢
 rcases hb with (h | h) | h | h
 ·exact .inl (.inl h)
 ·exact .inr (this (.inl h))
 ·exact .inl (.inr h)
 ·exact .inr (this (.inr h))
theorem W6 {A:LN} {g:Nat→List Nat} {r:NV}:∀ {ms:MM},jw ms→kz A ms=true→(∀ a∈ms,dt a.j A=true→MV Z a (g a.j) w r (r a.d))→
  ∃ x:lq ms,(∀ p∈jj A ms x,r p.1=p.2)∧HV Z w (qx A ms x) (As A g ms):=by
 intro ms
 induction ms with
 | nil=>intro _ _ _; exact ⟨(),fun p hp=>absurd hp List.not_mem_nil,[],[],fun b (h:b∈[])=>absurd h List.not_mem_nil,fun b (h:b∈[])=>absurd h List.not_mem_nil,.nil⟩
 | cons a ms ih=>
  intro hi er h
  unfold kz at er
  rw [Bool.and_eq_true] at er
  cases hi with
  | cons h1 h2=>
   obtain ⟨x,hx,hl⟩:=ih h2 er.2 fun b hb=>h b (List.mem_cons_of_mem _ hb)
   cases hb:dt a.j A with
   | false=>
    obtain ⟨v⟩:=h1.ne
    refine ⟨(v,x),?_,?_⟩
    ·simp only [jj,hb,cond_false]; exact hx
    ·simp only [qx,As,hb,cond_false]; exact hl
   | true=>
    obtain ⟨v,e1,e2,_⟩:=h a (by simp) hb
    have es:tR a r=Ao a (mF ms x):=by
     have h3:=er.1
     rw [hb,cond_true,List.all_eq_true] at h3
     refine Bf fun t ht=>?_
     have h4:=h3 t ht
     cases hj:o7 t ms with
     | none=>rw [hj] at h4; cases h4
     | some j=>rw [hj] at h4; unfold xE; rw [FG hj h4 hx]
    rw [es] at e1 e2
    refine ⟨(v,x),?_,?_⟩
    ·simp only [jj,hb,cond_true]
     intro p hp
     rcases List.mem_cons.1 hp with rfl | hp
     ·exact e1
     ·exact hx p hp
    ·simp only [qx,As,hb,cond_true]; exact HV.app e2 hl
theorem NI {t j:Nat}:∀ {ms:MM},o7 t ms=some j→∃ a∈ms,a.j=j∧a.d=t:=by
 intro ms
 induction ms with
 | nil=>intro h; cases h
 | cons a l ih=>
  intro h
  unfold o7 at h
  cases hb:Nat.beq t a.d with
  | true=>rw [hb] at h; cases h; exact ⟨a,by simp,rfl,(Nat.eq_of_beq_eq_true hb).symm⟩
  | false=>rw [hb] at h; obtain ⟨b,h1,h2⟩:=ih h; exact ⟨b,List.mem_cons_of_mem _ h1,h2⟩
theorem Bi {mt i:Nat} {A:LN} (hA:A=(ra l U mt).getD i []) {S':List gx} {sl:LQ} {ms:MM} {t:Nat} (hR:jf Z l S' sl ms) (hj:∃ j,o7 t ms=some j∧dt j A=true):∃ j∈(cg l).getD i [],bn l j=some t:=by
 obtain ⟨j,h1,h2⟩:=hj
 obtain ⟨a,ha,rfl,rfl⟩:=NI h1
 exact hR.slot ha (km (by rw [← hA]; exact jc.1 h2)).1
theorem va {mt:Nat} {A:LN} {S' S2:List gx} {sl:LQ} {ms:MM} {g:Nat→List Nat} {r:NV} (hR:jf Z l S' sl ms) (hA:A=(ra l U mt).getD S'.length []) (hi:jw ms) (er:kz A ms=true) (hn:∀ j,tS l U mt S'.length j=true→wE l (S'++S2) j g r w) :
  ∃ x:lq ms,(∀ p∈jj A ms x,r p.1=p.2)∧HV Z w (qx A ms x) (As A g ms):=
 W6 hi er fun a hm hb=>by
  exact hR.wD hm (hn a.j (km (by rw [← hA]; exact jc.1 hb)).2)
theorem ic.mem {mt:Nat} {A:LN} {op:Op} {d:Nat} {ty:TI} {as:LL} {ops:LO} {i:Nat} {sl:LQ} {ms:MM} {r0:NV} {w0:World} {H:LN} {a:fg} (h:ic P Z l mt U r0 w0 H i sl ms) (h1:mx l mt U A op d ty as ops i) (haj:a.j=i) (had:a.d=d)
  (er:∀ S',jf Z l S' sl ms→∀ t∈a.src,∃ j∈(cg l).getD i [],bn l j=some t)
  (hq:∀ S' S2,S'.length=i→jf Z l S' sl ms→∀ (g:Nat→List Nat) (r:NV) (w:World),ak H w0 w→(∀ j∈(cg l).getD S'.length [],Old l (S'++S2) j r)→(∀ j,tS l U mt S'.length j=true→wE l (S'++S2) j g r w)→(∀ t,(∀ j,j < mt→bn l j≠some t)→r t=r0 t)→∀ pos ab,
   fj P ⟨some d,op,ty,pos,ab,none⟩ r w fun v w'=>ak [] w w'∧∃ f,(∀ b∈f,w.heap.size≤b∧b < w'.heap.size)∧MV Z a f w' r v):ic P Z l mt U r0 w0 H (i+1) sl (a :: ms):=by
 obtain ⟨S',hl,hR,hO⟩:=h
 subst hl
 subst had
 obtain ⟨hA,⟨pos,ab,ho⟩,_⟩:=h1
 refine ⟨S'++[⟨true,MV Z a⟩],by simp,hR.mem haj (by unfold bn; rw [ho]; rfl) (er S' hR),fun j hj=>?_⟩
 by_cases h2:j < S'.length
 ·exact je.more (hO j h2) h2
 ·obtain rfl:j=S'.length:=by omega
  exact je.FI (V:=MV Z a) ho (by simp) rfl fun g r w hC hO hn ij=>hq S' _ rfl hR g r w hC hO hn ij pos ab
theorem l5.sub {ms z7:MM} {a:fg} {t:Nat} (h:l5 ms t a z7):a∈ms∧a.d=t∧(∀ b∈z7,b∈ms)∧(z7.map (·.j)).Sublist (ms.map (·.j)):=by
 induction h with
 | here=>exact ⟨by simp,rfl,fun b hb=>List.mem_cons_of_mem _ hb,by simp⟩
 | there _ ih=>
  obtain ⟨h1,h2,h3,h4⟩:=ih
  refine ⟨List.mem_cons_of_mem _ h1,h2,fun b hb=>?_,by simpa using h4⟩
  rcases List.mem_cons.1 hb with rfl | hb
  ·simp
  ·exact List.mem_cons_of_mem _ (h3 b hb)
theorem jf.sub {S':List gx} {sl:LQ} {ms z7:MM} (h:jf Z l S' sl ms) (hm:∀ b∈z7,b∈ms) (hn:(z7.map (·.j)).Sublist (ms.map (·.j))):jf Z l S' sl z7:=⟨h.v,fun a ha=>h.m a (hm a ha),h.s,h.d.sublist hn,h.t⟩
theorem Rb {mt:Nat} {t e et:TI} {E:af Int} {z0:Int} {bt t1 t2 j2 d2 i d:Nat} {k:IntKind} {y:Int} {xs:List Int} {a1:fg} {ms fl sa:MM} {sl:LQ} {A:LN} {ty:TI} {as:LL} {ops:LO} {r0:NV} {w0:World} {H:LN} (hz:qS P t Int e E z0 bt) (h1:l5 ms t1 a1 fl) (h2:l5 fl t2 ⟨j2,d2,[],Nat,fun _ b=>.slice (some ⟨b,0,none⟩) 1 1,fun _ b=>[.row b [.int k y] et]⟩ sa) (h3:∀ u v,a1.ps u v=[.own (aK e (aC k)) (a1.rt u v) xs]) (h4:dt a1.j A=true) (h5:dt j2 A=true) (h6:U.getD i []=[a1.j])
  (hf:fits bt (xs.length+1)=some ()) (wA:mx l mt U A (.call ⟨.builtin .append,#[.tmp t1,.tmp t2],#[t,t]⟩) d ty as ops i) (h:ic P Z l mt U r0 w0 H i sl ms) :
  ic P Z l mt U r0 w0 H (i+1) sl (⟨i,d,[],Value,fun _ v=>v,fun _ v=>[.own (aK e (aC k)) v (xs++[y])]⟩ :: fl):=by
 obtain ⟨S',hl,hR,hO⟩:=h
 subst hl
 obtain ⟨hA,⟨pos,ab,ho⟩,_⟩:=wA
 obtain ⟨b1,b2⟩:=iH hf
 obtain ⟨q1,hE,i',z,q3,q4,q5,q6,q7,q8⟩:=hz.h
 obtain ⟨m1,m2,m3,m4⟩:=h1.sub
 obtain ⟨n1,n2,_,_⟩:=h2.sub
 refine ⟨S'++[⟨true,MV Z ⟨S'.length,d,[],Value,fun _ v=>v,fun _ v=>[.own (aK e (aC k)) v (xs++[y])]⟩⟩],by simp,(hR.sub m3 m4).mem rfl (by unfold bn; rw [ho]; rfl) (by intro t h; cases h),fun j hj=>?_⟩
 by_cases bc:j < S'.length
 ·exact je.more (hO j bc) bc
 ·obtain rfl:j=S'.length:=by omega
  intro o' s' br da g r w hC vJ ig hn ij sb nj
  rw [ho] at br
  cases br
  rw [List.getElem?_append_right (Nat.le_refl _),Nat.sub_self] at da
  cases da
  rw [if_pos rfl]
  refine ⟨rfl,?_⟩
  have get:∀ a∈ms,dt a.j A=true→MV Z a (g a.j) w r (r a.d):=fun a hm hb=>by
   exact hR.wD hm (hn a.j (km (by rw [← hA]; exact jc.1 hb)).2)
  obtain ⟨v1,c1,c2,c3⟩:=get a1 m1 h4
  obtain ⟨v2,f1,f2,f3⟩:=get _ (m3 _ n1) h5
  rw [h3,← c1,m2] at c2
  rw [m2] at c1
  simp only at f1 f2
  subst n2
  replace c2:=c2.own rfl
  replace f2:=f2.own rfl
  generalize vH:g a1.j=G1 at c2 c3
  generalize iw:g j2=G2 at f2 f3
  cases c2 with
  | fact h _=>exact h.elim
  | @own _ ff F0 _ wG rT=>
   cases rT
   rw [List.append_nil] at c3
   cases f2 with
   | fact h _=>exact h.elim
   | @own _ gg F0 _ aX rT=>
    cases rT
    obtain ⟨rfl,aX⟩:=aX
    have hb:ll g (U.getD S'.length [])=ff:=by rw [h6]; simp [ll,vH]
    refine n9 (fj.su (E:=aC k) (F:=ff) q1 q3 q4 q5 rfl q6 (s:=.tmp t1) (x:=.tmp d2) rfl ⟨wG,c3⟩ (fun b hb=>hb) f1 aX ⟨rfl,rfl⟩ (by rw [q7]; exact b1) b2) ?_
    rintro v w' ⟨vK,f',rO,hV⟩
    rw [hb]
    refine ⟨vK,f',rO,v,rfl,?_,hV.2⟩
    have:=HL.own (Z:=fun _=>False) (e:=.own (aK e (aC k)) v (xs++[y])) (f:=f') hV.1 .nil
    exact .inl (by simpa using this)
theorem fj.te {α:Type} {E:af α} {F f k:LN} {t e:TI} {s x:OO} {i:TypeInfo} {z:Value} {sv yv:Value} {xs ys:List α} {r:NV} {w:World} {d:Option Nat} {ty:TI} {pos:String} {ab:Array Edge} (Th:∀ {h cs x f},E.rep h cs x f→f=[])
  (ht:P.underlying t=some (.slice e)) (hi:P.info? e=some i) (hz:i.zero=some z) (hs:i.size=1) (hE:E.size=1) (yx:z.oneCell'=true)
  (th:ev r s=sv) (hO:DG (aK e E) xs f w sv) (hF:∀ b∈f,b∈F) (hx:ev r x=yv) (hy:(aE E).rep w.heap [yv] ys k)
  (hb:(xs.length+ys.length) * i.bytes≤140737488355328) (xF:xs.length+ys.length≤maxLen) :
  fj P ⟨d,.call ⟨.builtin .append,#[s,x],#[t,t]⟩,ty,pos,ab,none⟩ r w fun v w'=>ak F w w'∧∃ f',(∀ b∈f',(b∈F∨w.heap.size≤b)∧b < w'.heap.size)∧DG (aK e E) (xs++ys) f' w' v:=by
 have rL:=Ei hy
 rcases Nat.eq_zero_or_pos ys.length with BO | BO
 ·obtain rfl:ys=[]:=List.eq_nil_of_length_eq_zero BO
  obtain ⟨b0,c0,Au⟩:=sn hy
  obtain ⟨base,cap,hv,hr⟩:=hO.1
  obtain rfl:sv = .slice base xs.length cap:=by simpa using hv
  have FK:xs.length≤cap:=by
   rcases hr with ⟨_,rfl,rfl,_⟩ | ⟨_,_,_,_,_,_,h,_⟩
   ·simp
   ·exact h
  have jk:=yy (P:=P) (w:=w) (ty:=ty) ht hi (b:=base) (a:=b0) (c:=c0) FK
  subst Au
  have zi:(execOp (ev r) ⟨d,.call ⟨.builtin .append,#[s,x],#[t,t]⟩,ty,pos,ab,none⟩).run P w = .ok (.value (.slice base xs.length cap)) w:=by
   simp only [execOp,resolve,invoke,builtin,Sem.run_bind,Sem.run_pure,Result.andThen_ok,List.map_toArray,List.map_cons,List.map_nil,th,hx,List.length_nil,jk]
  unfold fj
  rw [zi]
  exact ⟨ak.refl _ _,f,fun b hb=>⟨.inl (hF b hb),af.lt _ hO.1 b hb⟩,by rw [List.append_nil]; exact hO⟩
 ·rcases rL with rfl | ⟨a,c,news,g1,Au,zj,dq,_⟩
  ·simp at BO
  ·obtain ⟨rfl,_⟩:=Aw (h':=w.heap) Th dq
   obtain ⟨v,w',f',h,hC,E6,b9,df⟩:=my (d:=d) (ty:=ty) (pos:=pos) (ab:=ab) (g:=none) ht hi hz (by rw [hs,hE]) (by rw [cells_one yx,hE]; rfl) th hO.1 hO.2 (hx.trans Au) zj dq (fun _ h=>nomatch h) BO hb xF
   unfold fj
   rw [h]
   refine ⟨hC.mono hF,f',fun b hb=>⟨?_,af.lt _ E6 b hb⟩,E6,df List.nodup_nil⟩
   rcases b9 b hb with h | h | h
   ·exact .inl (hF b h)
   ·cases h
   ·exact .inr h
theorem NJ {mt:Nat} {t e:TI} {E:af Int} {z0:Int} {bt t1 t2 i d:Nat} {k:IntKind} {xs ys:List Int} {a1:fg} {ms fl:MM} {sl:LQ} {A:LN} {ty:TI} {as:LL} {ops:LO} {r0:NV} {w0:World} {H:LN} {o1 o2:Bool} {yv:Value} {Γ Γx:QE} {F:LN} (hz:qS P t Int e E z0 bt) (h1:l5 ms t1 a1 fl) (h3:∀ u v,a1.ps u v=[.own (aK e (aC k)) (a1.rt u v) xs]) (h4:dt a1.j A=true) (h6:U.getD i []=[a1.j]) (hh:lr l mt base=true) (ha:cq r0 base) (hv:cZ A none sl base fr) (hx:look fr t2=some yv) (hr:lz Γ yv o1 o2 (aC k) ys qc Γx) (hS:∀ w,ak H w0 w→SA Z w Γ [] F)
  (hf:fits bt (xs.length+ys.length)=some ()) (wA:mx l mt U A (.call ⟨.builtin .append,#[.tmp t1,.tmp t2],#[t,t]⟩) d ty as ops i) (h:ic P Z l mt U r0 w0 H i sl ms) :
  ic P Z l mt U r0 w0 H (i+1) sl (⟨i,d,[],Value,fun _ v=>v,fun _ v=>[.own (aK e (aC k)) v (xs++ys)]⟩ :: fl):=by
 obtain ⟨S',hl,hR,hO⟩:=h
 subst hl
 obtain ⟨hA,⟨pos,ab,ho⟩,_⟩:=wA
 obtain ⟨b1,b2⟩:=iH hf
 obtain ⟨q1,hE,i',z,q3,q4,q5,q6,q7,q8⟩:=hz.h
 obtain ⟨m1,m2,m3,m4⟩:=h1.sub
 refine ⟨S'++[⟨true,MV Z ⟨S'.length,d,[],Value,fun _ v=>v,fun _ v=>[.own (aK e (aC k)) v (xs++ys)]⟩⟩],by simp,(hR.sub m3 m4).mem rfl (by unfold bn; rw [ho]; rfl) (by intro t h; cases h),fun j hj=>?_⟩
 by_cases bc:j < S'.length
 ·exact je.more (hO j bc) bc
 ·obtain rfl:j=S'.length:=by omega
  intro o' s' br da g r w hC vJ ig hn ij sb nj
  rw [ho] at br
  cases br
  rw [List.getElem?_append_right (Nat.le_refl _),Nat.sub_self] at da
  cases da
  rw [if_pos rfl]
  refine ⟨rfl,?_⟩
  have get:∀ a∈ms,dt a.j A=true→MV Z a (g a.j) w r (r a.d):=fun a hm hb=>by
   exact hR.wD hm (hn a.j (km (by rw [← hA]; exact jc.1 hb)).2)
  obtain ⟨v1,c1,c2,c3⟩:=get a1 m1 h4
  rw [h3,← c1,m2] at c2
  rw [m2] at c1
  replace c2:=c2.own rfl
  have Au:ev r (.tmp t2)=yv:=lj hR hA hv (iu hh ha ij) ig t2 yv hx
  obtain ⟨_,_,⟨⟨kk,Jn,_⟩,_⟩,_⟩:=hr.sound (hS w hC)
  generalize vH:g a1.j=G1 at c2 c3
  cases c2 with
  | fact h _=>exact h.elim
  | @own _ ff F0 _ wG rT=>
   cases rT
   rw [List.append_nil] at c3
   have hb:ll g (U.getD S'.length [])=ff:=by rw [h6]; simp [ll,vH]
   refine n9 (fj.te (E:=aC k) (F:=ff) tf q1 q3 q4 q5 rfl q6 (s:=.tmp t1) (x:=.tmp t2) rfl ⟨wG,c3⟩ (fun b hb=>hb) Au Jn (by rw [q7]; exact b1) b2) ?_
   rintro v w' ⟨vK,f',rO,hV⟩
   rw [hb]
   refine ⟨vK,f',rO,v,rfl,?_,hV.2⟩
   have:=HL.own (Z:=fun _=>False) (e:=.own (aK e (aC k)) v (xs++ys)) (f:=f') hV.1 .nil
   exact .inl (by simpa using this)
theorem NK {mt:Nat} {t e:TI} {E:af Int} {z0:Int} {bt t1 t2 i d:Nat} {k:IntKind} {xs ys:List Int} {a1:fg} {ms fl:MM} {sl:LQ} {A:LN} {ty:TI} {as:LL} {ops:LO} {r0:NV} {w0:World} {H:LN} {e2:TI} {a2:fg} {sa:MM} (hz:qS P t Int e E z0 bt) (h1:l5 ms t1 a1 fl) (h3:∀ u v,a1.ps u v=[.own (aK e (aC k)) (a1.rt u v) xs]) (h4:dt a1.j A=true) (h6:U.getD i []=[a1.j]) (h2:l5 fl t2 a2 sa) (h7:∀ u v,a2.ps u v=[.own (aK e2 (aC k)) (a2.rt u v) ys]) (h5:dt a2.j A=true)
  (hf:fits bt (xs.length+ys.length)=some ()) (wA:mx l mt U A (.call ⟨.builtin .append,#[.tmp t1,.tmp t2],#[t,t]⟩) d ty as ops i) (h:ic P Z l mt U r0 w0 H i sl ms) :
  ic P Z l mt U r0 w0 H (i+1) sl (⟨i,d,[],Value,fun _ v=>v,fun _ v=>[.own (aK e (aC k)) v (xs++ys)]⟩ :: fl):=by
 obtain ⟨S',hl,hR,hO⟩:=h
 subst hl
 obtain ⟨hA,⟨pos,ab,ho⟩,_⟩:=wA
 obtain ⟨b1,b2⟩:=iH hf
 obtain ⟨q1,hE,i',z,q3,q4,q5,q6,q7,q8⟩:=hz.h
 obtain ⟨m1,m2,m3,m4⟩:=h1.sub
 obtain ⟨n1,n2,_,_⟩:=h2.sub
 refine ⟨S'++[⟨true,MV Z ⟨S'.length,d,[],Value,fun _ v=>v,fun _ v=>[.own (aK e (aC k)) v (xs++ys)]⟩⟩],by simp,(hR.sub m3 m4).mem rfl (by unfold bn; rw [ho]; rfl) (by intro t h; cases h),fun j hj=>?_⟩
 by_cases bc:j < S'.length
 ·exact je.more (hO j bc) bc
 ·obtain rfl:j=S'.length:=by omega
  intro o' s' br da g r w hC vJ ig hn ij sb nj
  rw [ho] at br
  cases br
  rw [List.getElem?_append_right (Nat.le_refl _),Nat.sub_self] at da
  cases da
  rw [if_pos rfl]
  refine ⟨rfl,?_⟩
  have get:∀ a∈ms,dt a.j A=true→MV Z a (g a.j) w r (r a.d):=fun a hm hb=>by
   exact hR.wD hm (hn a.j (km (by rw [← hA]; exact jc.1 hb)).2)
  obtain ⟨v1,c1,c2,c3⟩:=get a1 m1 h4
  rw [h3,← c1,m2] at c2
  rw [m2] at c1
  replace c2:=c2.own rfl
  obtain ⟨v2,f1,f2,f3⟩:=get a2 (m3 _ n1) h5
  rw [h7,← f1,n2] at f2
  replace f2:=f2.own rfl
  have Au:ev r (.tmp t2)=r t2:=rfl
  obtain ⟨kk,Jn⟩ : ∃ kk,(aE (aC k)).rep w.heap [r t2] ys kk:=by
   generalize g a2.j=G2 at f2
   cases f2 with
   | fact h _=>exact h.elim
   | @own _ gg F0 _ wG rT=>exact ⟨_,(Le.own (Le.refl (aC k)) e2).le wG⟩
  generalize vH:g a1.j=G1 at c2 c3
  cases c2 with
  | fact h _=>exact h.elim
  | @own _ ff F0 _ wG rT=>
   cases rT
   rw [List.append_nil] at c3
   have hb:ll g (U.getD S'.length [])=ff:=by rw [h6]; simp [ll,vH]
   refine n9 (fj.te (E:=aC k) (F:=ff) tf q1 q3 q4 q5 rfl q6 (s:=.tmp t1) (x:=.tmp t2) rfl ⟨wG,c3⟩ (fun b hb=>hb) Au Jn (by rw [q7]; exact b1) b2) ?_
   rintro v w' ⟨vK,f',rO,hV⟩
   rw [hb]
   refine ⟨vK,f',rO,v,rfl,?_,hV.2⟩
   have:=HL.own (Z:=fun _=>False) (e:=.own (aK e (aC k)) v (xs++ys)) (f:=f') hV.1 .nil
   exact .inl (by simpa using this)
theorem uX {t:TI} {x y:OO} {i:TypeInfo} {b off:Nat} {cs us:LV} {e:TI} {r:NV} {d:Option Nat} {ty:TI} {pos:String} {ab:Array Edge} {gg:Option (Nat×Bool)}
  (hi:P.info? t=some i) (hs:us.length=i.size) (aX:Row w b cs e) (hl:off+us.length≤cs.length) (hx:ev r x = .pointer (some ⟨b,off,none⟩)) (hy:(ev r y).cells.toList=us) (hu:∀ u∈us,u.oneCell'=true) :
  (execOp (ev r) ⟨d,.store t x y,ty,pos,ab,gg⟩).run P w = .ok .skip (w.setRow b (cs.take off++us++cs.drop (off+us.length)).toArray):=by
 have h:=run_storeCells_at P b off e us 0 cs.toArray w aX (by simpa using hl) hu
 simp only [Nat.add_zero] at h
 have sd:(ev r y).cells=us.toArray:=by rw [← hy]
 simp only [execOp,Instr.storeAt,Instr.sureAddr,hx,storeVar]
 simp [sd,sizeOf,typeInfo,hi,hs,h]
theorem Rc {mt:Nat} {t e:TI} {t1 j1 n i:Nat} {y:OO} {u:Value} {us cs ds:LV} {ms fl:MM} {sl:LQ} {A:LN} {ty:TI} {as:LL} {ops:LO} {r0:NV} {w0:World} {H:LN} {Γ:QE} {F:LN} (hh:lr l mt base=true) (ha:cq r0 base) (ht:ur P t n)
  (h1:l5 ms t1 ⟨j1,t1,[],Nat,fun _ b=>.pointer (some ⟨b,0,none⟩),fun _ b=>[.row b cs e]⟩ fl) (hv:cZ A none sl base fr) (hy:bb fr y=some u) (hc:r6 Γ u us) (ox:us.length=n) (hs:ba us 0 cs ds) (ho:bd Γ us) (h4:dt j1 A=true) (h6:U.getD i []=[j1])
  (hS:∀ w,ak H w0 w→SA Z w Γ [] F) (wA:Tg l mt U A (.store t (.tmp t1) y) ty as ops i) (h:ic P Z l mt U r0 w0 H i sl ms) :
  ic P Z l mt U r0 w0 H (i+1) sl (⟨i,t1,[],Nat,fun _ b=>.pointer (some ⟨b,0,none⟩),fun _ b=>[.row b ds e]⟩ :: fl):=by
 obtain ⟨S',hl,hR,hO⟩:=h
 subst hl
 obtain ⟨hA,⟨pos,ab,Ik⟩,_⟩:=wA
 obtain ⟨ti,q1,q2⟩:=ht.h
 obtain ⟨m1,_,m3,m4⟩:=h1.sub
 have zk:=km (by rw [← hA]; exact jc.1 h4)
 refine ⟨S'++[⟨true,KV Z ⟨S'.length,t1,[],Nat,fun _ b=>.pointer (some ⟨b,0,none⟩),fun _ b=>[.row b ds e]⟩⟩],by simp,(hR.sub m3 m4).Zi (b:=⟨S'.length,t1,[],Nat,fun _ b=>.pointer (some ⟨b,0,none⟩),fun _ b=>[.row b ds e]⟩) rfl (by unfold bn; rw [Ik]; rfl) (hR.slot m1 zk.1) rfl,fun j hj=>?_⟩
 by_cases bc:j < S'.length
 ·exact je.more (hO j bc) bc
 ·obtain rfl:j=S'.length:=by omega
  intro o' s' br da g r w hC vJ ig hn ij sb nj
  rw [Ik] at br
  cases br
  rw [List.getElem?_append_right (Nat.le_refl _),Nat.sub_self] at da
  cases da
  rw [if_pos rfl]
  refine ⟨rfl,?_⟩
  obtain ⟨b,c1,c2,c3⟩:=hR.wD m1 (hn j1 zk.2)
  simp only at c1 c2
  replace c2:=c2.own rfl
  generalize vH:g j1=G1 at c2 c3
  cases c2 with
  | fact h _=>exact h.elim
  | @own _ ff F0 _ wG rT=>
   cases rT
   obtain ⟨rfl,aX⟩:=wG
   have hb:ll g (U.getD S'.length [])=[b]:=by rw [h6]; simp [ll,vH]
   have hr:=lj hR hA hv (iu hh ha ij) ig
   obtain ⟨e1,e2⟩:=hs.eq
   have FE:=hS w hC
   have jk:=uX (P:=P) (d:=none) (ty:=ty) (pos:=pos) (ab:=ab) (gg:=none) q1 (by rw [ox,q2]) aX e1 (x:=.tmp t1) c1 (y:=y) (by rw [aR hr hy]; exact hc.eq FE) (ho.one FE)
   unfold fj
   rw [jk,hb]
   have rG:=setRow_heap w b cs.toArray (cs.take 0++us++cs.drop (0+us.length)).toArray e _ aX
   have Zj:b < w.heap.size:=aX.lt
   refine ⟨⟨rfl,rfl,rfl,Nat.le_refl _,by simp,fun j _ hj=>setRow_other w b j _ fun h=>hj (by simp [h])⟩,[b],fun b' cu=>?_,b,c1,?_,by simp⟩
   ·rw [List.mem_singleton.1 cu]
    exact ⟨.inl (by simp),by simpa using Zj⟩
   ·refine .inl (HL.own (f:=[b]) ⟨rfl,?_⟩ .nil)
    rw [e2]
    exact rG
theorem Re {mt:Nat} {t i d:Nat} {cs:LV} {sl:LQ} {ms:MM} {A:LN} {ty:TI} {as:LL} {ops:LO} {r0:NV} {w0:World} {H:LN} (hz:xB P t cs) (h1:mx l mt U A (.alloc t) d ty as ops i) (h:ic P Z l mt U r0 w0 H i sl ms) :
   ic P Z l mt U r0 w0 H (i+1) sl (⟨i,d,[],Nat,fun _ b=>.pointer (some ⟨b,0,none⟩),fun _ b=>[.row b cs t]⟩ :: ms):=by
 obtain ⟨i',z,t1,t2,t3⟩:=hz.h
 refine h.mem h1 rfl rfl (fun _ _ _ h=>nomatch h) fun S' S2 hl hR g r w hC ig hn ij pos ab=>n9 (fj.S8 (cs:=cs) t1 t2 (by rw [← t3])) ?_
 rintro v w' ⟨hC,f,hf,b,e1,e2,aX⟩
 refine ⟨hC,f,hf,b,e2,?_,by rw [e1]; simp⟩
 have:=HL.own (Z:=fun _=>False) (e:=.row b cs t) (f:=[b]) ⟨rfl,aX⟩ .nil
 rw [e1]
 exact .inl (by simpa using this)
theorem Ti {mt t n:Nat} {A:LN} {st:TI} {d:Nat} {ty:TI} {as:LL} {ops:LO} {i:Nat} {sl:LQ} {ms:MM} {r0:NV} {w0:World} {H:LN} (h:ic P Z l mt U r0 w0 H i sl ms) (h1:mx l mt U A (.call ⟨.builtin .len,#[.tmp t],#[st]⟩) d ty as ops i) (ht:vI P st) (hi:jw ms) (er:kz A ms=true) (hx:∀ x:lq ms,S7 (jj A ms x) (qx A ms x) t n):ic P Z l mt U r0 w0 H (i+1) ((i,d,.int .i64 (n:Int)) :: sl) ms:=by
 obtain ⟨S',hl,hR,hO⟩:=h
 subst hl
 obtain ⟨hA,⟨pos,ab,ho⟩,_⟩:=h1
 obtain ⟨e,i',q1,_,_⟩:=ht.h
 refine ⟨S'++[sV (.int .i64 (n:Int))],by simp,hR.val (by unfold bn; rw [ho]; rfl),fun j hj=>?_⟩
 by_cases h2:j < S'.length
 ·exact je.more (hO j h2) h2
 ·obtain rfl:j=S'.length:=by omega
  refine je.val (v:=.int .i64 (n:Int)) ho (by simp) rfl fun g r w hC ig hn ij=>?_
  obtain ⟨x,hv,hE⟩:=va hR hA hi er hn
  obtain ⟨wH,SY⟩:=hx x
  have xG:=(mm hv uG) t _ (by rw [List.append_nil]; exact wH)
  obtain ⟨_,_,_,_,hS⟩:=hE.front (Γ:=[]) (F:=[]) rfl
  rw [List.append_nil] at hS
  obtain ⟨b,c,rfl⟩:=SY.sound hS
  exact tO q1 (x:=.tmp t) xG
theorem ic.dep {mt t:Nat} {A:LN} {op:Op} {d:Nat} {ty:TI} {as:LL} {ops:LO} {i:Nat} {sl:LQ} {ms:MM} {r0:NV} {w0:World} {H:LN} {X:Value→Value} (h:ic P Z l mt U r0 w0 H i sl ms) (h1:mx l mt U A op d ty as ops i) (hi:jw ms) (er:kz A ms=true) (hj:∃ j,o7 t ms=some j∧dt j A=true)
  (hq:∀ (r:NV) (x:lq ms),(∀ p∈jj A ms x,r p.1=p.2)→∀ w pos ab,(execOp (ev r) ⟨some d,op,ty,pos,ab,none⟩).run P w = .ok (.value (X (r t))) w):ic P Z l mt U r0 w0 H (i+1) sl (⟨i,d,[t],Unit,fun u _=>X u,fun _ _=>[]⟩ :: ms):=by
 refine h.mem h1 rfl rfl (fun S' hR t' ht=>by rw [List.mem_singleton.1 ht]; exact Bi h1.A hR hj) ?_
 intro S' S2 hl hR g r w hC ig hn ij pos ab
 obtain ⟨x,hx,_⟩:=va hR (by rw [hl]; exact h1.A) hi er hn
 unfold fj
 rw [hq r x hx]
 exact ⟨ak.refl _ _,[],fun b hb=>absurd hb List.not_mem_nil,(),rfl,.inl .nil,List.nodup_nil⟩
theorem Rf {mt:Nat} {t:TI} {ps:List (Nat×Operand)} {zc:LV} {pl:List (Nat×Nat)} {A:LN} {as:LL} {d:Nat} {ty:TI} {ops:LO} {i:Nat} {sl:LQ} {ms:MM} {fr:Fr} {hd Γ:QE} {B:Bs} {r0:NV} {w0:World} {H:LN} {X:Value→List Value} {ts:LN} (hh:lr l mt base=true) (hb:zX P t zc pl) (hi:jw ms) (er:kz A ms=true) (hj:XN A ms ts=true) (hv:cZ A none sl base fr)
   (hx:∀ x:lq ms,vS (qx A ms x++Γ) (jj A ms x++fr) pl ps zc (X (yd (xE (mF ms x)) ts))) (h1:mx l mt U A (.build t ps.toArray) d ty as ops i) (ha:cq r0 base) (hs:pj B Z hd Γ H w0) (h:ic P Z l mt U r0 w0 H i sl ms) :
   ic P Z l mt U r0 w0 H (i+1) sl (⟨i,d,ts,Unit,fun u _=>.agg (X u).toArray,fun _ _=>[]⟩ :: ms):=by
 have XT:∀ t∈ts,∃ j,o7 t ms=some j∧dt j A=true:=fun t ht=>by
  have:=List.all_eq_true.1 hj t ht
  cases hf:o7 t ms with
  | none=>rw [hf] at this; cases this
  | some j=>rw [hf] at this; exact ⟨j,rfl,this⟩
 refine h.mem h1 rfl rfl (fun S' hR t' ht=>Bi h1.A hR (XT t' ht)) ?_
 intro S' S2 hl hR g r w hC ig hn ij pos ab
 have hA:=h1.A
 rw [← hl] at hA
 have hbs:=lj hR hA hv (iu hh ha ij) ig
 obtain ⟨x,XU,rX⟩:=va hR hA hi er hn
 obtain ⟨F,Hd,⟨tj,uA,rU,uB⟩,hS,hG⟩:=hs
 obtain ⟨G,_,_,_,fx⟩:=rX.front (pj.stay hS hG hC)
 have e:yd (xE (mF ms x)) ts=yd r ts:=Bf fun t ht=>by
  obtain ⟨j,h2,h3⟩:=XT t ht
  unfold xE
  rw [FG h2 h3 XU]
 have hF:=hx x
 rw [e] at hF
 have jk:=(VQ.PV (P:=P) (hb:=hb) hF).sound fx (mm XU hbs) (some d) ty pos ab none w (ak.refl _ _)
 unfold fj
 rw [jk]
 exact ⟨ak.refl _ _,[],fun b hb=>absurd hb List.not_mem_nil,(),rfl,.inl .nil,List.nodup_nil⟩
theorem Rh {mt:Nat} {α:Type} {t e:TI} {E:af α} {z0:α} {bt i d:Nat} {sl:LQ} {ms:MM} {A:LN} {ty:TI} {as:LL} {ops:LO} {r0:NV} {w0:World} {H:LN} (hz:qS P t α e E z0 bt) (h1:mx l mt U A (.buildSlice t 0 #[]) d ty as ops i) (h:ic P Z l mt U r0 w0 H i sl ms) :
   ic P Z l mt U r0 w0 H (i+1) sl (⟨i,d,[],Value,fun _ v=>v,fun _ v=>[.own (aK e E) v []]⟩ :: ms):=by
 obtain ⟨t1,_,i',z,t2,_⟩:=hz.h
 refine h.mem h1 rfl rfl (fun _ _ _ h=>nomatch h) fun S' S2 hl hR g r w hC ig hn ij pos ab=>n9 (fj.made (zl (E:=E) t1 t2)) ?_
 rintro v w' ⟨hC,f,hf,hV⟩
 refine ⟨hC,f,hf,v,rfl,?_,hV.2⟩
 have:=HL.own (Z:=fun _=>False) (e:=.own (aK e E) v []) (f:=f) hV.1 .nil
 exact .inl (by simpa using this)
theorem Tj {mt n:Nat} {α:Type} {t e:TI} {E:af α} {z0:α} {bt i d:Nat} {sl:LQ} {ms:MM} {A:LN} {ty:TI} {as:LL} {ops:LO} {r0:NV} {w0:World} {H:LN} {x:OO} {z:Int} (hh:lr l mt base=true) (ha:cq r0 base) (hz:qS P t α e E z0 bt) (hv:cZ A none sl base fr) (hx:bb fr x=some (.int .i64 z)) (hn:mk bt z=some n) (h1:mx l mt U A (.makeSlice t x x) d ty as ops i) (h:ic P Z l mt U r0 w0 H i sl ms) :
   ic P Z l mt U r0 w0 H (i+1) sl (⟨i,d,[],Value,fun _ v=>v,fun _ v=>[.own (aK e E) v (List.replicate n z0)]⟩ :: ms):=by
 obtain ⟨e1,e2,e3⟩:=DB hn
 obtain ⟨t1,hE,i',z',t2,t3,t4,t5,t6,t7⟩:=hz.h
 subst e1
 refine h.mem h1 rfl rfl (fun _ _ _ h=>nomatch h) fun S' S2 hl hR g r w hC ig hn ij pos ab=>?_
 have hb:=lj hR (by rw [hl]; exact h1.A) hv (iu hh ha ij) ig
 refine n9 (fj.made (FL (E:=E) (z0:=z0) t1 t2 t3 t4 hE t5 t7 (aR hb hx) (aR hb hx) (by rw [t6]; exact e2) e3)) ?_
 rintro v w' ⟨hC,f,hf,hV⟩
 refine ⟨hC,f,hf,v,rfl,?_,hV.2⟩
 have:=HL.own (Z:=fun _=>False) (e:=.own (aK e E) v (List.replicate n z0)) (f:=f) hV.1 .nil
 exact .inl (by simpa using this)
theorem Tk {mt:Nat} {α:Type} {t e:TI} {E:af α} {z0:α} {bt i d:Nat} {sl:LQ} {ms:MM} {A:LN} {ty:TI} {as:LL} {ops:LO} {r0:NV} {w0:World} {H:LN} {x:OO} {u:Value} {Γ:QE} {F:LN} (hh:lr l mt base=true) (ha:cq r0 base) (hz:qS P t α e E z0 bt) (hv:cZ A none sl base fr) (hx:bb fr x=some u) (ho:One Γ u) (hS:∀ w,ak H w0 w→SA Z w Γ [] F) (h1:mx l mt U A (.buildSlice t 1 #[(0,x)]) d ty as ops i) (h:ic P Z l mt U r0 w0 H i sl ms) :
   ic P Z l mt U r0 w0 H (i+1) sl (⟨i,d,[],Nat,fun _ b=>.slice (some ⟨b,0,none⟩) 1 1,fun _ b=>[.row b [u] e]⟩ :: ms):=by
 obtain ⟨t1,hE,i',z',t2,t3,t4,t5,t6,t7⟩:=hz.h
 refine h.mem h1 rfl rfl (fun _ _ _ h=>nomatch h) fun S' S2 hl hR g r w hC ig hn ij pos ab=>?_
 have hb:=lj hR (by rw [hl]; exact h1.A) hv (iu hh ha ij) ig
 refine n9 (fj.DA t1 t2 t3 t4 (aR hb hx) (ho.one (hS w hC))) ?_
 rintro v w' ⟨hC,f,hf,b,e1,e2,aX⟩
 refine ⟨hC,f,hf,b,e2,?_,by rw [e1]; simp⟩
 have:=HL.own (Z:=fun _=>False) (e:=.row b [u] e) (f:=[b]) ⟨rfl,aX⟩ .nil
 rw [e1]
 exact .inl (by simpa using this)
theorem Il {mt n:Nat} {t e:TI} {i d:Nat} {sl:LQ} {ms:MM} {A:LN} {ty:TI} {as:LL} {ops:LO} {r0:NV} {w0:World} {H:LN} {ps:List (Nat×Operand)} {us:LV} {Γ:QE} {F:LN} (hh:lr l mt base=true) (ha:cq r0 base) (hz:KE P t e) (hv:cZ A none sl base fr) (hd:uK Γ fr 0 ps us) (hn:us.length=n) (hb:(Nat.ble 1 n && Nat.ble n 16777216)=true) (hS:∀ w,ak H w0 w→SA Z w Γ [] F) (h1:mx l mt U A (.buildSlice t n ps.toArray) d ty as ops i) (h:ic P Z l mt U r0 w0 H i sl ms) :
   ic P Z l mt U r0 w0 H (i+1) sl (⟨i,d,[],Nat,fun _ b=>.slice (some ⟨b,0,none⟩) n n,fun _ b=>[.row b us e]⟩ :: ms):=by
 refine h.mem h1 rfl rfl (fun _ _ _ h=>nomatch h) fun S' S2 hl hR g r w hC ig hnn ij pos ab=>?_
 have cu:=lj hR (by rw [hl]; exact h1.A) hv (iu hh ha ij) ig
 unfold fj
 rw [hd.op cu (hS w hC) hz hn hb]
 refine ⟨ak.alloc _ _ _,[w.heap.size],fun b hb=>by rw [List.mem_singleton.1 hb]; simp,w.heap.size,rfl,?_,by simp⟩
 have:=HL.own (Z:=fun _=>False) (e:=.row w.heap.size us e) (f:=[w.heap.size]) ⟨rfl,heap_alloc_new w _⟩ .nil
 exact .inl (by simpa using this)
theorem Ri {mt t:Nat} {α:Type} {s e:TI} {E:af α} {z0:α} {bt i d:Nat} {sl:LQ} {ms:MM} {A:LN} {ty:TI} {as:LL} {ops:LO} {r0:NV} {w0:World} {H:LN} (hz:qS P s α e E z0 bt) (hi:jw ms) (er:kz A ms=true) (hj:∃ j,o7 t ms=some j∧dt j A=true) (hx:∀ x:lq ms,NB (jj A ms x) (qx A ms x) t) (h1:mx l mt U A (.buildSlice s 1 #[(0,.tmp t)]) d ty as ops i) (h:ic P Z l mt U r0 w0 H i sl ms) :
   ic P Z l mt U r0 w0 H (i+1) sl (⟨i,d,[t],Nat,fun _ b=>.slice (some ⟨b,0,none⟩) 1 1,fun u b=>[.row b [u] e]⟩ :: ms):=by
 obtain ⟨t1,hE,i',z',t2,t3,t4,t5,t6,t7⟩:=hz.h
 refine h.mem h1 rfl rfl (fun S' hR t' ht=>by rw [List.mem_singleton.1 ht]; exact Bi h1.A hR hj) ?_
 intro S' S2 hl hR g r w hC ig hn ij pos ab
 obtain ⟨x,hv,hE⟩:=va hR (by rw [hl]; exact h1.A) hi er hn
 obtain ⟨wH,sS⟩:=hx x
 have xG:r t=_:=(mm hv uG) t _ (by rw [List.append_nil]; exact wH)
 obtain ⟨_,_,_,_,hS⟩:=hE.front (Γ:=[]) (F:=[]) rfl
 rw [List.append_nil] at hS
 refine n9 (fj.DA t1 t2 t3 t4 (x:=.tmp t) rfl (by show (r t).oneCell'=true; rw [xG]; exact sS.one hS)) ?_
 rintro v w' ⟨hC,f,hf,b,e1,e2,aX⟩
 refine ⟨hC,f,hf,b,e2,?_,by rw [e1]; simp⟩
 have:=HL.own (Z:=fun _=>False) (e:=.row b [r t] e) (f:=[b]) ⟨rfl,aX⟩ .nil
 rw [e1]
 exact .inl (by simpa [tR,yd] using this)
theorem Rj:∀ cs:List Value,nb cs [] cs:=by
 intro cs
 induction cs with
 | nil=>exact .nil
 | cons c cs ih=>exact .cons ih
theorem Rk {mt t n:Nat} {s e:TI} {i d:Nat} {sl:LQ} {ms:MM} {A:LN} {ty:TI} {as:LL} {ops:LO} {r0:NV} {w0:World} {H:LN} (hz:Fm P s e n) (hb:(Nat.ble 1 1 && Nat.ble (1 * n) 16777216)=true) (hi:jw ms) (er:kz A ms=true) (hj:∃ j,o7 t ms=some j∧dt j A=true) (hx:∀ x:lq ms,NC (jj A ms x) t n) (h1:mx l mt U A (.buildSlice s 1 #[(0,.tmp t)]) d ty as ops i) (h:ic P Z l mt U r0 w0 H i sl ms) :
   ic P Z l mt U r0 w0 H (i+1) sl (⟨i,d,[t],Nat,fun _ b=>.slice (some ⟨b,0,none⟩) 1 1,fun u b=>[.row b u.cells.toList e]⟩ :: ms):=by
 refine h.mem h1 rfl rfl (fun S' hR t' ht=>by rw [List.mem_singleton.1 ht]; exact Bi h1.A hR hj) ?_
 intro S' S2 hl hR g r w hC ig hn ij pos ab
 obtain ⟨x,hv,hE⟩:=va hR (by rw [hl]; exact h1.A) hi er hn
 obtain ⟨wH,hlen⟩:=hx x
 rename_i cs
 have xG:r t = .agg cs.toArray:=(mm hv uG) t _ (by rw [List.append_nil]; exact wH)
 have qd:cq r [(t,.agg cs.toArray)]:=(fun t' v' h'=>by
  simp only [look] at h'
  cases h2:Nat.beq t' t with
  | true=>rw [h2] at h'; cases h'; rw [Nat.eq_of_beq_eq_true h2]; exact xG
  | false=>rw [h2] at h'; cases h')
 have hd:vT [] [(t,.agg cs.toArray)] n 0 [(0,.tmp t)] cs:=.cons (v:=.agg cs.toArray) (by simp [bb,look]) .agg hlen .nil (Rj cs)
 have Ik:(execOp (ev r) ⟨some d,.buildSlice s 1 #[(0,.tmp t)],ty,pos,ab,none⟩).run P w=_:=hd.op (Z:=fun _=>False) (w:=w) (cur:=[]) (F:=[]) qd rfl hz rfl hb
 unfold fj
 rw [Ik]
 refine ⟨ak.alloc _ _ _,[w.heap.size],fun b hb=>by rw [List.mem_singleton.1 hb]; simp,w.heap.size,rfl,?_,by simp⟩
 have vG:(Value.agg cs.toArray).cells.toList=cs:=rfl
 have:=HL.own (Z:=fun _=>False) (e:=.row w.heap.size (r t).cells.toList e) (f:=[w.heap.size]) ⟨rfl,by rw [xG,vG]; exact heap_alloc_new w _⟩ .nil
 exact .inl (by simpa [tR,yd] using this)
theorem NL {mt:Nat} {β V:Type} {A:LN} {as:LL} {d:Nat} {f:FuncId} {xs:List Operand} {aq:Array TypeId} {ty:TI} {mo:Option β} {rt:β→V→List Value} {ps:β→V→List av} {ops:LO} {i:Nat} {sl:LQ} {ms:MM} {fr:Fr} {hd Γ:QE} {B:Bs} {r0:NV} {w0:World} {H:LN} {y:β} (hh:lr l mt base=true) (hf:bw P f) (hv:cZ A none sl base fr)
   (hc:∀ x:lq ms,Jg P f xs (jj A ms x++fr) (qx A ms x++Γ) mo rt ps) (hi:jw ms) (er:kz A ms=true) (hw:∀ y v,rB (ps y v)=true) (h1:mx l mt U A (.call ⟨.value (.func f),xs.toArray,aq⟩) d ty as ops i) (hy:mo=some y) (ha:cq r0 base) (hs:pj B Z hd Γ H w0) (h:ic P Z l mt U r0 w0 H i sl ms) :
   zh P Z l mt U r0 w0 H i sl ms ⟨i,d,[],V,fun _ v=>na (rt y v),fun _=>ps y⟩:=by
 obtain ⟨S',hl,hR,hO⟩:=h
 subst hl
 refine ⟨S',rfl,hR,hO,fun V' hV=>?_⟩
 obtain ⟨hA,⟨pos,ab,ho⟩,_⟩:=h1
 refine je.FI (V:=V') ho (by simp) rfl fun g r w hC ig hn ij=>?_
 have hb:=lj hR hA hv (iu hh ha ij) ig
 obtain ⟨x,hx,rX⟩:=va hR hA hi er hn
 obtain ⟨wI,se,hd,hr⟩:=hc x
 obtain ⟨fn,c,f1,f2,f3⟩:=hf.h
 refine Calls.Bc f1 f2 f3 ?_
 rw [qb (mm hx hb) wI]
 obtain ⟨F,Hd,⟨tj,uA,rU,uB⟩,hS,hG⟩:=hs
 obtain ⟨G,mj,FV,Ax,fx⟩:=rX.front (pj.stay hS hG hC)
 rw [qm] at se
 refine (se.2 w (fun b=>Z b∨b∈G) [] (hr.sound (fun _ h=>h) (fun _ b hb=>.inr (Ax b hb)) fx hd.ho) List.nodup_nil (fun b hb=>absurd hb List.not_mem_nil)
  (fun b hb=>hb.elim (fun h=>Nat.lt_of_lt_of_le (hG.ov b h) hC.size) fun h=>(mj b h).2) y hy).mono ?_
 rintro e w' ⟨v,he,Z2,F2,nu,iw⟩
 have xH:HL (fun _=>False) w' (ps y v) F2:=wy (hw y v) nu
 have bc:=(xH.front (Γ:=[]) (F:=[]) rfl).lt
 obtain ⟨f',b9,wJ⟩:=hV F2 w' r _ ⟨v,rfl,.inl xH,iw.nd⟩
 refine ⟨_,he,iw.j4,f',fun b hb=>⟨(iw.low b (b9 b hb)).resolve_left List.not_mem_nil,bc b (by simpa using b9 b hb)⟩,wJ⟩
theorem K1 {mt:Nat} {β V:Type} {A:LN} {as:LL} {d:Nat} {f:FuncId} {fs bs:LV} {xo:OO} {xs:List Operand} {aq:Array TypeId} {ty:TI} {mo:Option β} {rt:β→V→List Value} {ps:β→V→List av} {ops:LO} {i:Nat} {sl:LQ} {ms:MM} {fr:Fr} {hd Γ:QE} {B:Bs} {r0:NV} {w0:World} {H:LN} {y:β} (hh:lr l mt base=true) (hf:bw P f) (hv:cZ A none sl base fr)
   (FM:bb fr xo=some (.func (.func f) fs.toArray bs.toArray)) (hc:∀ x:lq ms,CE P f fs bs xs (jj A ms x++fr) (qx A ms x++Γ) mo rt ps) (hi:jw ms) (er:kz A ms=true) (hw:∀ y v,rB (ps y v)=true) (h1:mx l mt U A (.call ⟨.value xo,xs.toArray,aq⟩) d ty as ops i) (hy:mo=some y) (ha:cq r0 base) (hs:pj B Z hd Γ H w0) (h:ic P Z l mt U r0 w0 H i sl ms) :
   zh P Z l mt U r0 w0 H i sl ms ⟨i,d,[],V,fun _ v=>na (rt y v),fun _=>ps y⟩:=by
 obtain ⟨S',hl,hR,hO⟩:=h
 subst hl
 refine ⟨S',rfl,hR,hO,fun V' hV=>?_⟩
 obtain ⟨hA,⟨pos,ab,ho⟩,_⟩:=h1
 refine je.FI (V:=V') ho (by simp) rfl fun g r w hC ig hn ij=>?_
 have hb:=lj hR hA hv (iu hh ha ij) ig
 obtain ⟨x,hx,rX⟩:=va hR hA hi er hn
 obtain ⟨wI,k1,k2,se,hd,hr⟩:=hc x
 obtain ⟨fn,c,f1,f2,f3⟩:=hf.h
 unfold fj
 rw [FD (aR hb FM) f1 f2 f3,qb (mm hx hb) wI,List.append_assoc,k1.eq,k2.eq]
 obtain ⟨F,Hd,⟨tj,uA,rU,uB⟩,hS,hG⟩:=hs
 obtain ⟨G,mj,FV,Ax,fx⟩:=rX.front (pj.stay hS hG hC)
 rw [qm] at se
 refine (se.2 w (fun b=>Z b∨b∈G) [] (hr.sound (fun _ h=>h) (fun _ b hb=>.inr (Ax b hb)) fx hd.ho) List.nodup_nil (fun b hb=>absurd hb List.not_mem_nil)
  (fun b hb=>hb.elim (fun h=>Nat.lt_of_lt_of_le (hG.ov b h) hC.size) fun h=>(mj b h).2) y hy).mono ?_
 rintro e w' ⟨v,he,Z2,F2,nu,iw⟩
 have xH:HL (fun _=>False) w' (ps y v) F2:=wy (hw y v) nu
 have bc:=(xH.front (Γ:=[]) (F:=[]) rfl).lt
 obtain ⟨f',b9,wJ⟩:=hV F2 w' r _ ⟨v,rfl,.inl xH,iw.nd⟩
 refine ⟨_,he,iw.j4,f',fun b hb=>⟨(iw.low b (b9 b hb)).resolve_left List.not_mem_nil,bc b (by simpa using b9 b hb)⟩,wJ⟩
theorem K2 {mt:Nat} {β V:Type} {A:LN} {as:LL} {d:Nat} {f:FuncId} {it:TI} {nm:String} {u:Value} {xo:OO} {xs:List Operand} {aq:Array TypeId} {ty:TI} {mo:Option β} {rt:β→V→List Value} {ps:β→V→List av} {ops:LO} {i:Nat} {sl:LQ} {ms:MM} {fr:Fr} {hd Γ:QE} {B:Bs} {r0:NV} {w0:World} {H:LN} {y:β} (hh:lr l mt base=true) (hf:PR P it nm f) (hv:cZ A none sl base fr)
   (FM:bb fr xo=some (.iface it u)) (hc:∀ x:lq ms,CE P f [u] [] xs (jj A ms x++fr) (qx A ms x++Γ) mo rt ps) (hi:jw ms) (er:kz A ms=true) (hw:∀ y v,rB (ps y v)=true) (h1:mx l mt U A (.call ⟨.invoke xo nm,xs.toArray,aq⟩) d ty as ops i) (hy:mo=some y) (ha:cq r0 base) (hs:pj B Z hd Γ H w0) (h:ic P Z l mt U r0 w0 H i sl ms) :
   zh P Z l mt U r0 w0 H i sl ms ⟨i,d,[],V,fun _ v=>na (rt y v),fun _=>ps y⟩:=by
 obtain ⟨S',hl,hR,hO⟩:=h
 subst hl
 refine ⟨S',rfl,hR,hO,fun V' hV=>?_⟩
 obtain ⟨hA,⟨pos,ab,ho⟩,_⟩:=h1
 refine je.FI (V:=V') ho (by simp) rfl fun g r w hC ig hn ij=>?_
 have hb:=lj hR hA hv (iu hh ha ij) ig
 obtain ⟨x,hx,rX⟩:=va hR hA hi er hn
 obtain ⟨wI,k1,k2,se,hd,hr⟩:=hc x
 have f1:=hf.h
 unfold fj
 rw [Ef f1 (aR hb FM),qb (mm hx hb) wI]
 have k3:=k2.eq
 rw [← k1.eq,List.append_nil,List.singleton_append] at k3
 rw [k3]
 obtain ⟨F,Hd,⟨tj,uA,rU,uB⟩,hS,hG⟩:=hs
 obtain ⟨G,mj,FV,Ax,fx⟩:=rX.front (pj.stay hS hG hC)
 rw [qm] at se
 refine (se.2 w (fun b=>Z b∨b∈G) [] (hr.sound (fun _ h=>h) (fun _ b hb=>.inr (Ax b hb)) fx hd.ho) List.nodup_nil (fun b hb=>absurd hb List.not_mem_nil)
  (fun b hb=>hb.elim (fun h=>Nat.lt_of_lt_of_le (hG.ov b h) hC.size) fun h=>(mj b h).2) y hy).mono ?_
 rintro e w' ⟨v,he,Z2,F2,nu,iw⟩
 have xH:HL (fun _=>False) w' (ps y v) F2:=wy (hw y v) nu
 have bc:=(xH.front (Γ:=[]) (F:=[]) rfl).lt
 obtain ⟨f',b9,wJ⟩:=hV F2 w' r _ ⟨v,rfl,.inl xH,iw.nd⟩
 refine ⟨_,he,iw.j4,f',fun b hb=>⟨(iw.low b (b9 b hb)).resolve_left List.not_mem_nil,bc b (by simpa using b9 b hb)⟩,wJ⟩
theorem FN {A:LN} {g:Nat→List Nat} {b:Nat}:∀ {ms:MM},b∈As A g ms→∃ a∈ms,dt a.j A=true∧b∈g a.j:=by
 intro ms
 induction ms with
 | nil=>intro h; exact absurd h List.not_mem_nil
 | cons a l ih=>
  intro h
  unfold As at h
  cases hb:dt a.j A with
  | true=>
   rw [hb] at h
   rcases List.mem_append.1 h with h | h
   ·exact ⟨a,by simp,hb,h⟩
   ·obtain ⟨c,h1,h2⟩:=ih h; exact ⟨c,List.mem_cons_of_mem _ h1,h2⟩
  | false=>rw [hb] at h; obtain ⟨c,h1,h2⟩:=ih h; exact ⟨c,List.mem_cons_of_mem _ h1,h2⟩
theorem zm {mt i:Nat} (h:((U.set i []).all fun us=>!(us.contains l.length))=true):zn l U mt i=true:=by
 unfold zn
 simp only [List.all_eq_true,List.mem_range,Bool.or_eq_true,Bool.not_eq_true'] at h ⊢
 intro k _
 by_cases hk:k=i
 ·exact .inl (.inr (by rw [hk]; exact Nat.beq_refl i))
 ·refine .inl (.inl ?_)
  rw [List.getD_eq_getElem?_getD]
  cases hu:U[k]? with
  | none=>rfl
  | some us=>exact h us (List.mem_of_getElem? (i:=k) (by rw [List.getElem?_set_ne (fun e=>hk e.symm)]; exact hu))
theorem HO.mono {Z':Nat→Prop} (hz:∀ b,Z b→Z' b) {Δ:QE} {F:LN} (h:HO Z w Δ F):HO Z' w Δ F:=by
 induction h with
 | nil=>exact .nil
 | own h _ ih=>exact .own (h.mono hz) ih
 | rd _ ih=>exact .rd ih
 | aq _ ih=>exact .aq ih
theorem K3 {mt:Nat} {β V:Type} {A:LN} {as:LL} {d:Nat} {f:FuncId} {xs:List Operand} {aq:Array TypeId} {ty:TI} {mo:Option β} {rt:β→V→List Value} {ps:β→V→List av} {ops:LO} {i:Nat} {sl:LQ} {ms:MM} {fr:Fr} {hd Γ:QE} {B:Bs} {r0:NV} {w0:World} {H:LN} {y:β} (hh:lr l mt base=true) (hf:bw P f) (hv:cZ A none sl base fr)
   (hU:U.getD i []=[l.length]) (Ay:((U.set i []).all fun us=>!(us.contains l.length))=true)
   (hc:∀ x:lq ms,CF P f xs (jj A ms x++fr) hd (qx A ms x++Γ) mo rt ps) (hi:jw ms) (er:kz A ms=true) (hw:∀ y v,rB (ps y v)=true) (h1:mx l mt U A (.call ⟨.value (.func f),xs.toArray,aq⟩) d ty as ops i) (hy:mo=some y) (ha:cq r0 base) (hs:pj B Z hd Γ H w0) (h:ic P Z l mt U r0 w0 H i sl ms) :
   zh P Z l mt U r0 w0 H i sl ms ⟨i,d,[],V,fun _ v=>na (rt y v),fun _=>ps y⟩:=by
 obtain ⟨S',hl,hR,hO⟩:=h
 subst hl
 refine ⟨S',rfl,hR,hO,fun V' hV=>?_⟩
 obtain ⟨hA,⟨pos,ab,ho⟩,_⟩:=h1
 intro o' s' br da g r w hC vJ ig hn ij sb nj
 rw [ho] at br
 cases br
 rw [List.getElem?_append_right (Nat.le_refl _),Nat.sub_self] at da
 cases da
 rw [if_pos rfl]
 refine ⟨rfl,?_⟩
 obtain ⟨FP,FQ,FR⟩:=vJ (zm Ay)
 have hb:=lj hR hA hv (iu hh ha ij) ig
 obtain ⟨x,hx,rX⟩:=va hR hA hi er hn
 obtain ⟨wI,se,FU,hr⟩:=hc x
 obtain ⟨fn,c,f1,f2,f3⟩:=hf.h
 refine Calls.Bc f1 f2 f3 ?_
 rw [qb (mm hx hb) wI]
 obtain ⟨F,Hd,⟨tj,uA,rU,uB⟩,hS,hG⟩:=hs
 obtain ⟨G,mj,FV,Ax,fx⟩:=rX.front (pj.stay hS hG hC)
 obtain ⟨Fd,F',FW,_,yz⟩:=FU.sound (tj.jb FP)
 have b9:∀ b∈Fd,b∈H:=fun b hb=>(uA b (yz.mem_iff.1 (List.mem_append_left _ hb))).1
 have df:=List.nodup_append.1 hG.nd
 have hblk:ll g (U.getD S'.length [])=H:=by rw [hU]; simp [ll,FQ]
 rw [hblk]
 rw [qm] at se
 refine (se.2 w (fun b=>Z b∨b∈G) Fd (hr.sound (fun _ h=>h) (fun _ b hb=>.inr (Ax b hb)) fx (FW.mono fun _ h=>.inl h)) ((yz.nodup_iff.2 uB).sublist (List.sublist_append_left _ _)) (fun b hb=>?_)
  (fun b hb=>hb.elim (fun h=>Nat.lt_of_lt_of_le (hG.ov b h) hC.size) fun h=>(mj b h).2) y hy).mono ?_
 ·rintro (hz | hz)
  ·exact hG.apart b (List.mem_append_left _ (b9 b hb)) hz
  ·rcases List.mem_append.1 (mj b hz).1 with hz | hz
   ·obtain ⟨a,XV,vb,qd⟩:=FN hz
    have h2:=FR a.j (km (by rw [← hA]; exact jc.1 vb)).1 b qd
    have h3:=rU b (b9 b hb)
    omega
   ·exact df.2.2 b (b9 b hb) b hz rfl
 ·rintro e w' ⟨v,he,Z2,F2,nu,iw⟩
  have xH:HL (fun _=>False) w' (ps y v) F2:=wy (hw y v) nu
  have bc:=(xH.front (Γ:=[]) (F:=[]) rfl).lt
  obtain ⟨f',CH,wJ⟩:=hV F2 w' r _ ⟨v,rfl,.inl xH,iw.nd⟩
  exact ⟨_,he,iw.j4.mono b9,f',fun b hb=>⟨(iw.low b (CH b hb)).imp (b9 b) id,bc b (by simpa using CH b hb)⟩,wJ⟩
theorem zf.sub {ms z7:MM} {a:fg} {t:Nat} (h:zf ms t a z7):a∈ms∧a.j=t∧(∀ b∈z7,b∈ms)∧(z7.map (·.j)).Sublist (ms.map (·.j))∧((ms.map (·.j)).Nodup→∀ b∈z7,b.j≠t):=by
 induction h with
 | here=>exact ⟨by simp,rfl,fun b hb=>List.mem_cons_of_mem _ hb,by simp,fun hn b hb he=>by rw [List.map_cons,List.nodup_cons] at hn; exact hn.1 (by rw [← he]; exact List.mem_map_of_mem hb)⟩
 | there _ ih=>
  obtain ⟨h1,h2,h3,h4,h5⟩:=ih
  refine ⟨List.mem_cons_of_mem _ h1,h2,fun b hb=>?_,by simpa using h4,fun hn b hb=>?_⟩
  ·rcases List.mem_cons.1 hb with rfl | hb
   ·simp
   ·exact List.mem_cons_of_mem _ (h3 b hb)
  ·rw [List.map_cons,List.nodup_cons] at hn
   rcases List.mem_cons.1 hb with rfl | hb
   ·intro he
    exact hn.1 (by rw [he,← h2]; exact List.mem_map_of_mem h1)
   ·exact h5 hn.2 b hb
theorem K4 {mt:Nat} {β V:Type} {j1:Nat} {a1:fg} {A:LN} {as:LL} {d:Nat} {f:FuncId} {xs:List Operand} {aq:Array TypeId} {ty:TI} {mo:Option β} {rt:β→V→List Value} {ps:β→V→List av} {ops:LO} {i:Nat} {sl:LQ} {ms fl:MM} {fr:Fr} {hd Γ:QE} {B:Bs} {r0:NV} {w0:World} {H:LN} {y:β} (hh:lr l mt base=true) (hf:bw P f) (hv:cZ A none sl base fr)
   (hU:U.getD i []=[j1]) (vH:zf ms j1 a1 fl) (CG:a1.src=[]) (h4:dt j1 A=true)
   (hc:∀ (q:a1.V) (x:lq fl),CF P f xs (jj A fl x++fr) (a1.ps undef q) (qx A fl x++Γ) mo rt ps) (hi:jw fl) (er:kz A fl=true) (hw:∀ y v,rB (ps y v)=true) (h1:mx l mt U A (.call ⟨.value (.func f),xs.toArray,aq⟩) d ty as ops i) (hy:mo=some y) (ha:cq r0 base) (hs:pj B Z hd Γ H w0) (h:ic P Z l mt U r0 w0 H i sl ms) :
   zh P Z l mt U r0 w0 H i sl fl ⟨i,d,[],V,fun _ v=>na (rt y v),fun _=>ps y⟩:=by
 obtain ⟨S',hl,Im,hO⟩:=h
 subst hl
 obtain ⟨m1,m2,m3,m4,m5⟩:=vH.sub
 have hR:=Im.sub m3 m4
 refine ⟨S',rfl,hR,hO,fun V' hV=>?_⟩
 obtain ⟨hA,⟨pos,ab,ho⟩,_⟩:=h1
 intro o' s' br da g r w hC vJ ig hn ij sb nj
 rw [ho] at br
 cases br
 rw [List.getElem?_append_right (Nat.le_refl _),Nat.sub_self] at da
 cases da
 rw [if_pos rfl]
 refine ⟨rfl,?_⟩
 have zk:=km (by rw [← hA]; exact jc.1 h4)
 have hb:=lj hR hA hv (iu hh ha ij) ig
 obtain ⟨x,hx,rX⟩:=va hR hA hi er hn
 obtain ⟨q,_,CI,K5⟩:=Im.wD m1 (hn a1.j (by rw [m2]; exact zk.2))
 have th:tR a1 r=undef:=by unfold tR; rw [CG]; rfl
 rw [th,m2] at CI
 rw [m2] at K5
 obtain ⟨wI,se,FU,hr⟩:=hc q x
 obtain ⟨fn,c,f1,f2,f3⟩:=hf.h
 refine Calls.Bc f1 f2 f3 ?_
 rw [qb (mm hx hb) wI]
 obtain ⟨F,Hd,⟨tj,uA,rU,uB⟩,hS,hG⟩:=hs
 have FX:=pj.stay hS hG hC
 obtain ⟨G,mj,FV,Ax,fx⟩:=rX.front FX
 obtain ⟨Fo,Fr,Io,Az,Tl⟩:=CI.all
 have Tn:SA (fun b=>Z b∨b∈Fr) w (a1.ps undef q) [] Fo:=by
  have:=Tl.front (Γ:=[]) (F:=[]) rfl
  simpa using this
 have K6:=List.nodup_append.1 (Io ▸ K5)
 obtain ⟨Fd,F',FW,_,yz⟩:=FU.sound Tn
 have CJ:∀ b∈Fd,b∈Fo:=fun b hb=>yz.mem_iff.1 (List.mem_append_left _ hb)
 have b9:∀ b∈Fd,b∈g j1:=fun b hb=>by rw [Io]; exact List.mem_append_left _ (CJ b hb)
 have df:=List.nodup_append.1 hG.nd
 have hblk:ll g (U.getD S'.length [])=g j1:=by rw [hU]; simp [ll]
 rw [hblk]
 rw [qm] at se
 have Ej:∀ b∈g j1,w0.heap.size≤b∨b∈H:=fun b hb=>(nj j1 zk.1 b hb).1
 refine (se.2 w (fun b=>Z b∨b∈Fr++G) Fd (hr.sound (fun _ h=>h) (fun _ b hb=>.inr (List.mem_append_right _ (Ax b hb))) (fx.mono (fun _ h=>h.imp id fun h=>List.mem_append_right _ h) fun _ h=>h) (FW.mono fun _ h=>h.imp id fun h=>List.mem_append_left _ h)) ((yz.nodup_iff.2 K6.1).sublist (List.sublist_append_left _ _)) (fun b hb=>?_)
  (fun b hb=>hb.elim (fun h=>Nat.lt_of_lt_of_le (hG.ov b h) hC.size) fun h=>(List.mem_append.1 h).elim (Az b) fun h=>(mj b h).2) y hy).mono ?_
 ·rintro (hz | hz)
  ·rcases Ej b (b9 b hb) with h | h
   ·have:=hG.ov b hz; omega
   ·exact hG.apart b (List.mem_append_left _ h) hz
  ·rcases List.mem_append.1 hz with hz | hz
   ·exact K6.2.2 b (CJ b hb) b hz rfl
   rcases List.mem_append.1 (mj b hz).1 with hz | hz
   ·obtain ⟨a,XV,vb,qd⟩:=FN hz
    exact sb a.j (km (by rw [← hA]; exact jc.1 vb)).1 j1 zk.1 (m5 Im.d a XV) b qd (b9 b hb)
   ·rcases Ej b (b9 b hb) with h | h
    ·have:=hS.lt b hz; omega
    ·exact df.2.2 b h b hz rfl
 ·rintro e w' ⟨v,he,Z2,F2,nu,iw⟩
  have xH:HL (fun _=>False) w' (ps y v) F2:=wy (hw y v) nu
  have bc:=(xH.front (Γ:=[]) (F:=[]) rfl).lt
  obtain ⟨f',CH,wJ⟩:=hV F2 w' r _ ⟨v,rfl,.inl xH,iw.nd⟩
  exact ⟨_,he,iw.j4.mono b9,f',fun b hb=>⟨(iw.low b (CH b hb)).imp (b9 b) id,bc b (by simpa using CH b hb)⟩,wJ⟩
theorem SA.app {Γ Γ':QE} {F F':LN}:∀ {cur:LN},SA Z w Γ' cur F'→SA Z w Γ [] F→SA Z w (Γ'++Γ) cur (F'++F):=by
 induction Γ' generalizing F' with
 | nil=>intro cur h hs; cases h; exact hs.any
 | cons e Γ' ih=>
  intro cur h hs
  cases e with
  | own T v x=>obtain ⟨f,F1,rfl,h1,h2⟩:=h; exact ⟨f,F1++F,by rw [List.append_assoc],h1,ih h2 hs⟩
  | om e E v xs=>obtain ⟨f,F1,rfl,h1,h2⟩:=h; exact ⟨f,F1++F,by rw [List.append_assoc],h1,ih h2 hs⟩
  | row b cs e=>obtain ⟨f,F1,rfl,h1,h2⟩:=h; exact ⟨f,F1++F,by rw [List.append_assoc],h1,ih h2 hs⟩
  | fw e E v xs j u=>obtain ⟨f,F1,rfl,h1,h2⟩:=h; exact ⟨f,F1++F,by rw [List.append_assoc],h1,ih h2 hs⟩
  | rd o T v x=>exact ⟨h.1,ih h.2 hs⟩
  | ad o1 o2 v j T x=>exact ⟨h.1,ih h.2 hs⟩
  | aq p cs=>exact ⟨h.1,ih h.2 hs⟩
  | hd v j u=>exact ⟨h.1,ih h.2 hs⟩
open Classical in
theorem Tp {w':World} {Zc Z2:Nat→Prop} {Fd F2 K:LN} {Δ:QE} (hl:HL Z2 w' Δ F2) (hg:Gd ⟨w,Zc,Fd⟩ Z2 F2 w') (hz:∀ b,Zc b→Z b∨b∈K) (hK:∀ b∈Fd,b∈K) :
  ∃ f,(∀ b∈f,(b∈K∨w.heap.size≤b)∧b < w'.heap.size)∧HN Z w' Δ f∧f.Nodup:=by
 have bc:=(hl.front (Γ:=[]) (F:=[]) rfl).lt
 by_cases ho:rB Δ=true
 ·exact ⟨F2,fun b hb=>⟨(hg.low b hb).imp (hK b) id,bc b (by simpa using hb)⟩,.inl (wy ho hl),hg.nd⟩
 ·let Fr:=(List.range w'.heap.size).filter fun b=>decide (Z2 b∧(b∈K∨w.heap.size≤b))
  have Az:∀ b,b∈Fr↔b < w'.heap.size∧Z2 b∧(b∈K∨w.heap.size≤b):=fun b=>by simp [Fr]
  refine ⟨F2++Fr,fun b hb=>?_,.inr ⟨F2,Fr,rfl,⟨by simpa using ho,fun b hb=>((Az b).1 hb).1⟩,hl.mono fun b hb=>?_⟩,?_⟩
  ·rcases List.mem_append.1 hb with hb | hb
   ·exact ⟨(hg.low b hb).imp (hK b) id,bc b (by simpa using hb)⟩
   ·exact ⟨((Az b).1 hb).2.2,((Az b).1 hb).1⟩
  ·rcases hg.vz b hb with h | h | h
   ·rcases hz b h with h | h
    ·exact .inl h
    ·exact .inr ((Az b).2 ⟨hg.ov b hb,hb,.inl h⟩)
   ·exact .inr ((Az b).2 ⟨hg.ov b hb,hb,.inl (hK b h)⟩)
   ·exact .inr ((Az b).2 ⟨hg.ov b hb,hb,.inr h⟩)
  ·refine tk hg.nd (List.nodup_range.filter _) fun b hb hf=>hg.apart b hb ((Az b).1 hf).2.1
theorem K7 {mt:Nat} {β V:Type} {A:LN} {as:LL} {d:Nat} {f:FuncId} {xs:List Operand} {aq:Array TypeId} {ty:TI} {mo:Option β} {rt:β→V→List Value} {ps:β→V→List av} {ops:LO} {i:Nat} {sl:LQ} {ms:MM} {fr:Fr} {hd Γ:QE} {B:Bs} {r0:NV} {w0:World} {H:LN} {y:β} (hh:lr l mt base=true) (hf:bw P f) (hv:cZ A none sl base fr)
   (hc:∀ x:lq ms,Jh P f xs (jj A ms x++fr) Γ mo rt ps) (hi:jw ms) (er:kz A ms=true) (h1:mx l mt U A (.call ⟨.value (.func f),xs.toArray,aq⟩) d ty as ops i) (hy:mo=some y) (ha:cq r0 base) (hs:pj B Z hd Γ H w0) (h:ic P Z l mt U r0 w0 H i sl ms) :
   zh P Z l mt U r0 w0 H i sl ms ⟨i,d,[],V,fun _ v=>na (rt y v),fun _=>ps y⟩:=by
 obtain ⟨S',hl,hR,hO⟩:=h
 subst hl
 refine ⟨S',rfl,hR,hO,fun V' hV=>?_⟩
 obtain ⟨hA,⟨pos,ab,ho⟩,_⟩:=h1
 refine je.FI (V:=V') ho (by simp) rfl fun g r w hC ig hn ij=>?_
 have hb:=lj hR hA hv (iu hh ha ij) ig
 obtain ⟨x,hx,rX⟩:=va hR hA hi er hn
 obtain ⟨wI,se,hd,hr⟩:=hc x
 obtain ⟨fn,c,f1,f2,f3⟩:=hf.h
 refine Calls.Bc f1 f2 f3 ?_
 rw [qb (mm hx hb) wI]
 obtain ⟨F,Hd,⟨tj,uA,rU,uB⟩,hS,hG⟩:=hs
 have FX:=pj.stay hS hG hC
 rw [qm] at se
 refine (se.2 w Z [] (hr.sound (fun _ h=>h) (fun h=>nomatch h) FX hd.ho) List.nodup_nil (fun b hb=>absurd hb List.not_mem_nil)
  (fun b h=>Nat.lt_of_lt_of_le (hG.ov b h) hC.size) y hy).mono ?_
 rintro e w' ⟨v,he,Z2,F2,nu,iw⟩
 obtain ⟨f2,k1,k2,k3⟩:=Tp (Z:=Z) (K:=[]) nu iw (fun _ h=>.inl h) fun _ h=>h
 obtain ⟨f',b9,wJ⟩:=hV f2 w' r _ ⟨v,rfl,k2,k3⟩
 exact ⟨_,he,iw.j4,f',fun b hb=>⟨(k1 b (b9 b hb)).1.resolve_left List.not_mem_nil,(k1 b (b9 b hb)).2⟩,wJ⟩
theorem Jo {mt:Nat} {β V:Type} {A:LN} {as:LL} {d:Nat} {f:FuncId} {xs:List Operand} {aq:Array TypeId} {ty:TI} {mo:Option β} {rt:β→V→List Value} {ps:β→V→List av} {ops:LO} {i:Nat} {sl:LQ} {ms:MM} {fr:Fr} {hd Γ:QE} {B:Bs} {r0:NV} {w0:World} {H:LN} {y:β} (hh:lr l mt base=true) (hf:bw P f) (hv:cZ A none sl base fr)
   (hU:U.getD i []=[l.length]) (Ay:((U.set i []).all fun us=>!(us.contains l.length))=true)
   (hc:∀ x:lq ms,Aq P f xs (jj A ms x++fr) hd Γ mo rt ps) (hi:jw ms) (er:kz A ms=true) (h1:mx l mt U A (.call ⟨.value (.func f),xs.toArray,aq⟩) d ty as ops i) (hy:mo=some y) (ha:cq r0 base) (hs:pj B Z hd Γ H w0) (h:ic P Z l mt U r0 w0 H i sl ms) :
   zh P Z l mt U r0 w0 H i sl ms ⟨i,d,[],V,fun _ v=>na (rt y v),fun _=>ps y⟩:=by
 obtain ⟨S',hl,hR,hO⟩:=h
 subst hl
 refine ⟨S',rfl,hR,hO,fun V' hV=>?_⟩
 obtain ⟨hA,⟨pos,ab,ho⟩,_⟩:=h1
 intro o' s' br da g r w hC vJ ig hn ij sb nj
 rw [ho] at br
 cases br
 rw [List.getElem?_append_right (Nat.le_refl _),Nat.sub_self] at da
 cases da
 rw [if_pos rfl]
 refine ⟨rfl,?_⟩
 obtain ⟨FP,FQ,FR⟩:=vJ (zm Ay)
 have hb:=lj hR hA hv (iu hh ha ij) ig
 obtain ⟨x,hx,rX⟩:=va hR hA hi er hn
 obtain ⟨wI,se,FU,hr⟩:=hc x
 obtain ⟨fn,c,f1,f2,f3⟩:=hf.h
 refine Calls.Bc f1 f2 f3 ?_
 rw [qb (mm hx hb) wI]
 obtain ⟨F,Hd,⟨tj,uA,rU,uB⟩,hS,hG⟩:=hs
 have FX:=pj.stay hS hG hC
 obtain ⟨Fd,F',FW,Tq,yz⟩:=FU.sound (tj.jb FP)
 have b9:∀ b∈Fd,b∈H:=fun b hb=>(uA b (yz.mem_iff.1 (List.mem_append_left _ hb))).1
 have df:=List.nodup_append.1 hG.nd
 have hblk:ll g (U.getD S'.length [])=H:=by rw [hU]; simp [ll,FQ]
 rw [hblk]
 rw [qm] at se
 refine (se.2 w Z Fd (hr.sound (fun _ h=>h) (fun h=>nomatch h) (Tq.app FX) FW) ((yz.nodup_iff.2 uB).sublist (List.sublist_append_left _ _)) (fun b hb=>hG.apart b (List.mem_append_left _ (b9 b hb)))
  (fun b h=>Nat.lt_of_lt_of_le (hG.ov b h) hC.size) y hy).mono ?_
 rintro e w' ⟨v,he,Z2,F2,nu,iw⟩
 obtain ⟨f2,k1,k2,k3⟩:=Tp (Z:=Z) (K:=H) nu iw (fun _ h=>.inl h) b9
 obtain ⟨f',CH,wJ⟩:=hV f2 w' r _ ⟨v,rfl,k2,k3⟩
 exact ⟨_,he,iw.j4.mono b9,f',fun b hb=>k1 b (CH b hb),wJ⟩
theorem Jp {mt:Nat} {β V:Type} {j1:Nat} {a1:fg} {A:LN} {as:LL} {d:Nat} {f:FuncId} {xs:List Operand} {aq:Array TypeId} {ty:TI} {mo:Option β} {rt:β→V→List Value} {ps:β→V→List av} {ops:LO} {i:Nat} {sl:LQ} {ms fl:MM} {fr:Fr} {hd Γ:QE} {B:Bs} {r0:NV} {w0:World} {H:LN} {y:β} (hh:lr l mt base=true) (hf:bw P f) (hv:cZ A none sl base fr)
   (hU:U.getD i []=[j1]) (vH:zf ms j1 a1 fl) (CG:a1.src=[]) (h4:dt j1 A=true)
   (hc:∀ (q:a1.V) (x:lq fl),Aq P f xs ((a1.d,a1.rt undef q) :: (jj A fl x++fr)) (a1.ps undef q) Γ mo rt ps) (hi:jw fl) (er:kz A fl=true) (h1:mx l mt U A (.call ⟨.value (.func f),xs.toArray,aq⟩) d ty as ops i) (hy:mo=some y) (ha:cq r0 base) (hs:pj B Z hd Γ H w0) (h:ic P Z l mt U r0 w0 H i sl ms) :
   zh P Z l mt U r0 w0 H i sl fl ⟨i,d,[],V,fun _ v=>na (rt y v),fun _=>ps y⟩:=by
 obtain ⟨S',hl,Im,hO⟩:=h
 subst hl
 obtain ⟨m1,m2,m3,m4,m5⟩:=vH.sub
 have hR:=Im.sub m3 m4
 refine ⟨S',rfl,hR,hO,fun V' hV=>?_⟩
 obtain ⟨hA,⟨pos,ab,ho⟩,_⟩:=h1
 intro o' s' br da g r w hC vJ ig hn ij sb nj
 rw [ho] at br
 cases br
 rw [List.getElem?_append_right (Nat.le_refl _),Nat.sub_self] at da
 cases da
 rw [if_pos rfl]
 refine ⟨rfl,?_⟩
 have zk:=km (by rw [← hA]; exact jc.1 h4)
 have hb:=lj hR hA hv (iu hh ha ij) ig
 obtain ⟨x,hx,rX⟩:=va hR hA hi er hn
 obtain ⟨q,KZ,CI,K5⟩:=Im.wD m1 (hn a1.j (by rw [m2]; exact zk.2))
 have th:tR a1 r=undef:=by unfold tR; rw [CG]; rfl
 rw [th,m2] at CI
 rw [th] at KZ
 rw [m2] at K5
 obtain ⟨wI,se,FU,hr⟩:=hc q x
 obtain ⟨fn,c,f1,f2,f3⟩:=hf.h
 refine Calls.Bc f1 f2 f3 ?_
 rw [qb (mm (g:=(a1.d,a1.rt undef q) :: jj A fl x) (fun p hp=>(List.mem_cons.1 hp).elim (fun e=>e ▸ KZ) (hx p)) hb) wI]
 obtain ⟨F,Hd,⟨tj,uA,rU,uB⟩,hS,hG⟩:=hs
 have FX:=pj.stay hS hG hC
 obtain ⟨Fo,Fr,Io,Az,Tl⟩:=CI.all
 have Tn:SA (fun b=>Z b∨b∈Fr) w (a1.ps undef q) [] Fo:=by
  have:=Tl.front (Γ:=[]) (F:=[]) rfl
  simpa using this
 have K6:=List.nodup_append.1 (Io ▸ K5)
 obtain ⟨Fd,F',FW,Tq,yz⟩:=FU.sound Tn
 have CJ:∀ b∈Fd,b∈Fo:=fun b hb=>yz.mem_iff.1 (List.mem_append_left _ hb)
 have b9:∀ b∈Fd,b∈g j1:=fun b hb=>by rw [Io]; exact List.mem_append_left _ (CJ b hb)
 have df:=List.nodup_append.1 hG.nd
 have hblk:ll g (U.getD S'.length [])=g j1:=by rw [hU]; simp [ll]
 rw [hblk]
 rw [qm] at se
 have Ej:∀ b∈g j1,w0.heap.size≤b∨b∈H:=fun b hb=>(nj j1 zk.1 b hb).1
 refine (se.2 w (fun b=>Z b∨b∈Fr) Fd (hr.sound (fun _ h=>h) (fun h=>nomatch h) (Tq.app (FX.mono (fun _ h=>.inl h) fun _ h=>h)) FW) ((yz.nodup_iff.2 K6.1).sublist (List.sublist_append_left _ _)) (fun b hb=>?_)
  (fun b hb=>hb.elim (fun h=>Nat.lt_of_lt_of_le (hG.ov b h) hC.size) (Az b)) y hy).mono ?_
 ·rintro (hz | hz)
  ·rcases Ej b (b9 b hb) with h | h
   ·have:=hG.ov b hz; omega
   ·exact hG.apart b (List.mem_append_left _ h) hz
  ·exact K6.2.2 b (CJ b hb) b hz rfl
 ·rintro e w' ⟨v,he,Z2,F2,nu,iw⟩
  obtain ⟨f2,k1,k2,k3⟩:=Tp (Z:=Z) (K:=g j1) nu iw (fun b h=>h.imp id fun h=>by rw [Io]; exact List.mem_append_right _ h) b9
  obtain ⟨f',CH,wJ⟩:=hV f2 w' r _ ⟨v,rfl,k2,k3⟩
  exact ⟨_,he,iw.j4.mono b9,f',fun b hb=>k1 b (CH b hb),wJ⟩
theorem ic.Zk {mt:Nat} {A:LN} {op:Op} {d:Nat} {ty:TI} {as:LL} {ops:LO} {i:Nat} {sl:LQ} {ms:MM} {r0:NV} {w0:World} {H:LN} {u:Value} (h:ic P Z l mt U r0 w0 H i sl ms) (hh:lr l mt base=true) (ha:cq r0 base) (h1:mx l mt U A op d ty as ops i)
  (hV:(U.zipIdx.all fun p=>!(p.1.contains l.length) || ((cg l).getD p.2 []).contains i)=true) (hv:cZ A none sl base fr) (hq:∀ r,cq r fr→∀ pos ab g w,ak [] w0 w→(execOp (ev r) ⟨some d,op,ty,pos,ab,g⟩).run P w = .ok (.value u) w):ic P Z l mt U r0 w0 H (i+1) ((i,d,u) :: sl) ms:=by
 obtain ⟨S',hl,hR,hO⟩:=h
 subst hl
 obtain ⟨hA,⟨pos,ab,ho⟩,_⟩:=h1
 refine ⟨S'++[sV u],by simp,hR.val (by unfold bn; rw [ho]; rfl),fun j hj=>?_⟩
 by_cases h2:j < S'.length
 ·exact je.more (hO j h2) h2
 ·obtain rfl:j=S'.length:=by omega
  have hN:zn l U mt S'.length=true:=by
   unfold zn
   simp only [List.all_eq_true,List.mem_range,Bool.or_eq_true,Bool.not_eq_true'] at hV ⊢
   intro k _
   rw [List.getD_eq_getElem?_getD]
   cases hu:U[k]? with
   | none=>exact .inl (.inl rfl)
   | some us=>
    have hm:(us,k)∈U.zipIdx:=by rw [List.mem_zipIdx_iff_getElem?]; exact hu
    exact (hV _ hm).imp .inl id
  intro o' s' br da g r w hC vJ ig hn ij sb nj
  rw [ho] at br
  cases br
  rw [List.getElem?_append_right (Nat.le_refl _),Nat.sub_self] at da
  cases da
  rw [if_pos rfl]
  refine ⟨rfl,?_⟩
  unfold fj
  rw [hq r (lj hR hA hv (iu hh ha ij) ig) _ _ _ w (vJ hN).1]
  exact ⟨ak.refl _ _,[],fun b hb=>absurd hb List.not_mem_nil,rfl⟩
theorem Rm {mt:Nat} {hd ib:QE} {α:Type} {t e e' et:TI} {E E':af α} {z0:α} {bt t1 t2 j2:Nat} {v u yv:Value} {j:Int} {y:α} {z:List α} {xs:List (List α)} {o1 o2:Bool} {Γx:QE} {sa:MM} {A:LN} {as:LL} {d:Nat} {ty:TI} {ops:LO} {i:Nat} {sl:LQ} {ms:MM} {Γ:QE} {B:Bs} {r0:NV} {w0:World} {H:LN} (hh:lr l mt base=true) (ha:cq r0 base) (hT:qS P t α e E z0 bt) (hU:U.getD i []=[l.length])
   (Ay:((U.set i []).all fun us=>!(us.contains l.length))=true) (hv:cZ A none sl base fr) (hs:look fr t1=some u) (h2:l5 ms t2 ⟨j2,t2,[],Nat,fun _ b=>.slice (some ⟨b,0,none⟩) 1 1,fun _ b=>[.row b [yv] et]⟩ sa) (h5:dt j2 A=true) (hl:Loc hd u (.row v j)) (hz:lz hd u o1 o2 E' z qc Γx) (h1:de hd (.own (aK e' (aK e E)) v xs) ib) (hr:RT (aK e E) (aE E')) (hy:BL [] E yv y [])
   (hf:fits bt (z.length+1)=some ()) (wA:mx l mt U A (.call ⟨.builtin .append,#[.tmp t1,.tmp t2],#[t,t]⟩) d ty as ops i) (qe:pj B Z hd Γ H w0) (h:ic P Z l mt U r0 w0 H i sl ms) :
  ic P Z l mt U r0 w0 H (i+1) sl (⟨i,d,[],Value,fun _ v'=>v',fun _ v'=>[.own (aK e E) v' (z++[y]),.own (rm e' (aK e E) j.toNat) v xs]⟩ :: ms)∧pj B Z ib Γ H w0:=by
 obtain ⟨F,Hd,⟨tj,uA,rU,uB⟩,hS,hG⟩:=qe
 obtain ⟨fm0,Tr,FY,_,NM⟩:=h1.sound tj
 refine ⟨?_,F,Tr,⟨NM,fun b hb=>uA b (FY.mem_iff.1 (List.mem_append_right _ hb)),rU,(FY.nodup_iff.2 uB).sublist (List.sublist_append_right _ _)⟩,hS,hG⟩
 obtain ⟨S',yu,hR,hO⟩:=h
 subst yu
 obtain ⟨hA,⟨pos,ab,ho⟩,_⟩:=wA
 obtain ⟨b1,b2⟩:=iH hf
 obtain ⟨q1,q2,ii,zz,q3,q4,q5,q6,q7,_⟩:=hT.h
 obtain ⟨n1,_,_,_⟩:=h2.sub
 refine ⟨S'++[⟨true,MV Z ⟨S'.length,d,[],Value,fun _ v'=>v',fun _ v'=>[.own (aK e E) v' (z++[y]),.own (rm e' (aK e E) j.toNat) v xs]⟩⟩],by simp,hR.mem rfl (by unfold bn; rw [ho]; rfl) (by intro t h; cases h),fun k hk=>?_⟩
 by_cases bc:k < S'.length
 ·exact je.more (hO k bc) bc
 ·obtain rfl:k=S'.length:=by omega
  intro o' s' br da g r w hC vJ ig hn ij sb nj
  rw [ho] at br
  cases br
  rw [List.getElem?_append_right (Nat.le_refl _),Nat.sub_self] at da
  cases da
  rw [if_pos rfl]
  refine ⟨rfl,?_⟩
  obtain ⟨FP,FQ,FR⟩:=vJ (zm Ay)
  have FZ:=tj.jb FP
  obtain ⟨j0,j1,jo⟩:=Loc.row hl rfl FZ
  obtain ⟨dj,_,⟨⟨gz,oK,_⟩,_⟩,_⟩:=hz.sound FZ
  obtain ⟨fm,F1,rv,K8,_⟩:=h1.sound FZ
  obtain ⟨ky,F2,nh,Ts,_⟩:=hy.sound (Z:=Z) (w:=w) (F:=[]) rfl
  have Tt:ky=[]:=by
   cases ky with
   | nil=>rfl
   | cons a l=>exact absurd (nh.mem_iff.1 (List.mem_append_left _ List.mem_cons_self)) List.not_mem_nil
  subst Tt
  rw [qZ K8] at j1
  obtain ⟨k,gm,a1,a2,a3⟩:=B4 rfl K8 (List.getElem?_eq_getElem j1) jo
  have K9:xs[j.toNat]=z:=hr.tJ (hr.le.le a1) oK
  rw [K9] at a1
  have NN:(k++gm).Nodup:=a2.nodup_iff.2 ((rv.nodup_iff.2 uB).sublist (List.sublist_append_left _ _))
  have zZ:=List.nodup_append.1 NN
  have xI:∀ b∈k++gm,b∈H:=fun b hb=>(uA b (rv.mem_iff.1 (List.mem_append_left _ (a2.mem_iff.1 hb)))).1
  obtain ⟨b,c1,c2,c3⟩:=hR.wD n1 (hn j2 (km (by rw [← hA]; exact jc.1 h5)).2)
  simp only at c1 c2
  replace c2:=c2.own rfl
  generalize vH:g j2=G1 at c2 c3
  cases c2 with
  | fact h _=>exact h.elim
  | @own _ ff F0 _ CK rT=>
   cases rT
   obtain ⟨rfl,aX⟩:=CK
   have hb:=lj hR hA hv (iu hh ha ij) ig
   obtain ⟨v',w',f',jk,vK,dq,b9,zo⟩:=my (E:=E) (d:=some d) (ty:=ty) (pos:=pos) (ab:=ab) (g:=none) (r:=r) (s:=.tmp t1) (x:=.tmp t2) (k:=[]) (ys:=[y]) (news:=[yv]) q1 q3 q4 (by rw [q5,q2]) (by rw [cells_one q6,q2]; rfl) (hb _ _ hs) a1 zZ.1 c1 (fun i u hi=>aX.at i u hi) (pq Ts) (fun _ h=>absurd h List.not_mem_nil) (by simp) (by rw [q7]; exact b1) b2
   unfold fj
   rw [jk]
   have hblk:ll g (U.getD S'.length [])=H:=by rw [hU]; simp [ll,FQ]
   rw [hblk]
   have Lb:(rm e' (aK e E) j.toNat).rep w'.heap [v] xs gm:=af.ep _ a3 vK fun b hb hk=>zZ.2.2 b hk b hb rfl
   refine ⟨vK.mono fun b hb=>xI b (List.mem_append_left _ hb),f'++gm,fun b hb=>?_,v',rfl,?_,?_⟩
   ·rcases List.mem_append.1 hb with hb | hb
    ·refine ⟨?_,af.lt _ dq b hb⟩
     rcases b9 b hb with h | h | h
     ·exact .inl (xI b (List.mem_append_left _ h))
     ·exact absurd h List.not_mem_nil
     ·exact .inr h
    ·exact ⟨.inl (xI b (List.mem_append_right _ hb)),af.lt _ Lb b hb⟩
   ·have:=HL.own (Z:=fun _=>False) (e:=.own (aK e E) v' (z++[y])) (f:=f') dq (HL.own (e:=.own (rm e' (aK e E) j.toNat) v xs) (f:=gm) Lb .nil)
    exact .inl (by simpa using this)
   ·refine tk (zo List.nodup_nil) zZ.2.1 fun b hb hm=>?_
    rcases b9 b hb with h | h | h
    ·exact zZ.2.2 b h b hm rfl
    ·exact absurd h List.not_mem_nil
    ·have:=af.lt _ a3 b hm; omega
theorem Ro {mt:Nat} {hd ib:QE} {t e e' e3 et:TI} {kk:IntKind} {E':af (List Int)} {z0:List Int} {bt t1 t2 t3 j2 j3 n:Nat} {v u:Value} {us:LV} {j:Int} {ys:List Int} {z:List (List Int)} {xs:List (List (List Int))} {o1 o2:Bool} {Γx:QE} {sa Ar:MM} {A:LN} {as:LL} {d:Nat} {ty:TI} {ops:LO} {i:Nat} {sl:LQ} {ms:MM} {Γ:QE} {B:Bs} {r0:NV} {w0:World} {H:LN} (hh:lr l mt base=true) (ha:cq r0 base) (hT:qS P t (List Int) e (aK e3 (aC kk)) z0 bt) (hU:U.getD i []=[l.length,j3])
   (Ay:((U.set i []).all fun us=>!(us.contains l.length))=true) (hv:cZ A none sl base fr) (hs:look fr t1=some u) (h2:l5 ms t2 ⟨j2,t2,[t3],Nat,fun _ b=>.slice (some ⟨b,0,none⟩) 1 1,fun u b=>[.row b [u] et]⟩ sa) (h3:l5 sa t3 ⟨j3,t3,[],Nat,fun _ b=>.slice (some ⟨b,0,none⟩) n n,fun _ b=>[.row b us e3]⟩ Ar) (h5:dt j2 A=true) (h6:dt j3 A=true) (hl:Loc hd u (.row v j)) (hz:lz hd u o1 o2 E' z qc Γx) (h1:de hd (.own (aK e' (aK e (aK e3 (aC kk)))) v xs) ib) (hr:RT (aK e (aK e3 (aC kk))) (aE E')) (hi:yt kk us ys) (ox:us.length=n) (cu:Nat.ble n 16777216=true)
   (hf:fits bt (z.length+1)=some ()) (wA:mx l mt U A (.call ⟨.builtin .append,#[.tmp t1,.tmp t2],#[t,t]⟩) d ty as ops i) (qe:pj B Z hd Γ H w0) (h:ic P Z l mt U r0 w0 H i sl ms) :
  ic P Z l mt U r0 w0 H (i+1) sl (⟨i,d,[],Value,fun _ v'=>v',fun _ v'=>[.own (aK e (aK e3 (aC kk))) v' (z++[ys]),.own (rm e' (aK e (aK e3 (aC kk))) j.toNat) v xs]⟩ :: Ar)∧pj B Z ib Γ H w0:=by
 obtain ⟨F,Hd,⟨tj,uA,rU,uB⟩,hS,hG⟩:=qe
 obtain ⟨fm0,Tr,FY,_,NM⟩:=h1.sound tj
 refine ⟨?_,F,Tr,⟨NM,fun b hb=>uA b (FY.mem_iff.1 (List.mem_append_right _ hb)),rU,(FY.nodup_iff.2 uB).sublist (List.sublist_append_right _ _)⟩,hS,hG⟩
 obtain ⟨S',yu,hR,hO⟩:=h
 subst yu
 obtain ⟨hA,⟨pos,ab,ho⟩,_⟩:=wA
 obtain ⟨b1,b2⟩:=iH hf
 obtain ⟨q1,q2,ii,zz,q3,q4,q5,q6,q7,_⟩:=hT.h
 obtain ⟨n1,_,m3,m4⟩:=h2.sub
 obtain ⟨n3,_,m5,m6⟩:=h3.sub
 refine ⟨S'++[⟨true,MV Z ⟨S'.length,d,[],Value,fun _ v'=>v',fun _ v'=>[.own (aK e (aK e3 (aC kk))) v' (z++[ys]),.own (rm e' (aK e (aK e3 (aC kk))) j.toNat) v xs]⟩⟩],by simp,(hR.sub (fun b hb=>m3 b (m5 b hb)) (m6.trans m4)).mem rfl (by unfold bn; rw [ho]; rfl) (by intro t h; cases h),fun k hk=>?_⟩
 by_cases bc:k < S'.length
 ·exact je.more (hO k bc) bc
 ·obtain rfl:k=S'.length:=by omega
  intro o' s' br da g r w hC vJ ig hn ij sb nj
  rw [ho] at br
  cases br
  rw [List.getElem?_append_right (Nat.le_refl _),Nat.sub_self] at da
  cases da
  rw [if_pos rfl]
  refine ⟨rfl,?_⟩
  obtain ⟨FP,FQ,FR⟩:=vJ (zm Ay)
  have FZ:=tj.jb FP
  obtain ⟨j0,j1,jo⟩:=Loc.row hl rfl FZ
  obtain ⟨dj,_,⟨⟨gz,oK,_⟩,_⟩,_⟩:=hz.sound FZ
  obtain ⟨fm,F1,rv,K8,_⟩:=h1.sound FZ
  rw [qZ K8] at j1
  obtain ⟨k,gm,a1,a2,a3⟩:=B4 rfl K8 (List.getElem?_eq_getElem j1) jo
  have K9:xs[j.toNat]=z:=hr.tJ (hr.le.le a1) oK
  rw [K9] at a1
  have NN:(k++gm).Nodup:=a2.nodup_iff.2 ((rv.nodup_iff.2 uB).sublist (List.sublist_append_left _ _))
  have zZ:=List.nodup_append.1 NN
  have xI:∀ b∈k++gm,b∈H:=fun b hb=>(uA b (rv.mem_iff.1 (List.mem_append_left _ (a2.mem_iff.1 hb)))).1
  have Lc:=km (by rw [← hA]; exact jc.1 h6)
  obtain ⟨b,c1,c2,c3⟩:=hR.wD n1 (hn j2 (km (by rw [← hA]; exact jc.1 h5)).2)
  obtain ⟨b3,d1,d2,d3⟩:=hR.wD (m3 _ n3) (hn j3 Lc.2)
  replace c1:r t2 = .slice (some ⟨b,0,none⟩) 1 1:=c1
  replace c2:HL (fun _=>False) w [.row b [r t3] et] (g j2):=c2.own rfl
  replace d1:r t3 = .slice (some ⟨b3,0,none⟩) n n:=d1
  replace d2:HL (fun _=>False) w [.row b3 us e3] (g j3):=d2.own rfl
  have XW:=FR j3 Lc.1
  generalize vH:g j2=G1 at c2 c3
  generalize Tu:g j3=G3 at d2 d3 XW
  cases c2 with
  | fact h _=>exact h.elim
  | @own _ ff F0 _ CK rT=>
   cases rT
   obtain ⟨rfl,aX⟩:=CK
   cases d2 with
   | fact h _=>exact h.elim
   | @own _ ff3 F3 _ vU Jq=>
    cases Jq
    obtain ⟨rfl,vU⟩:=vU
    obtain ⟨e1,e2⟩:=yt.sound hi w.heap
    have za:=Nat.le_of_ble_eq_true cu
    have hE:(aK e3 (aC kk)).rep w.heap [r t3] ys [b3]:=by
     rw [d1]
     refine ⟨some ⟨b3,0,none⟩,n,by rw [← ox,e1],.inr ⟨b3,us.toArray,[],rfl,vU,rfl,by rw [← ox,e1]; exact Nat.le_refl _,Nat.le_trans za (by decide),by rw [show (aC kk).size=1 from rfl,Nat.mul_one]; simp [ox],?_⟩⟩
     rw [show (aC kk).size=1 from rfl,Nat.mul_one,List.toList_toArray,← e1,List.take_length]
     exact e2
    have ye:w0.heap.size≤b3:=XW b3 (by simp)
    have Jr:∀ b∈k++gm,b≠b3:=fun b hb he=>by
     have:=rU b (xI b hb)
     omega
    have hb:=lj hR hA hv (iu hh ha ij) ig
    obtain ⟨v',w',f',jk,vK,dq,b9,zo⟩:=my (E:=aK e3 (aC kk)) (d:=some d) (ty:=ty) (pos:=pos) (ab:=ab) (g:=none) (r:=r) (s:=.tmp t1) (x:=.tmp t2) (k:=[b3]) (ys:=[ys]) (news:=[r t3]) q1 q3 q4 (by rw [q5,q2]) (by rw [cells_one q6,q2]; rfl) (hb _ _ hs) a1 zZ.1 c1 (fun i u hi=>aX.at i u hi) (pq hE) (fun b hb hm=>Jr b (List.mem_append_left _ hm) (List.mem_singleton.1 hb)) (by simp) (by rw [q7]; exact b1) b2
    unfold fj
    rw [jk]
    have hblk:ll g (U.getD S'.length [])=H++[b3]:=by rw [hU]; simp [ll,FQ,Tu]
    rw [hblk]
    have Lb:(rm e' (aK e (aK e3 (aC kk))) j.toNat).rep w'.heap [v] xs gm:=af.ep _ a3 vK fun b hb hk=>zZ.2.2 b hk b hb rfl
    refine ⟨vK.mono fun b hb=>List.mem_append_left _ (xI b (List.mem_append_left _ hb)),f'++gm,fun b hb=>?_,v',rfl,?_,?_⟩
    ·rcases List.mem_append.1 hb with hb | hb
     ·refine ⟨?_,af.lt _ dq b hb⟩
      rcases b9 b hb with h | h | h
      ·exact .inl (List.mem_append_left _ (xI b (List.mem_append_left _ h)))
      ·exact .inl (List.mem_append_right _ h)
      ·exact .inr h
     ·exact ⟨.inl (List.mem_append_left _ (xI b (List.mem_append_right _ hb))),af.lt _ Lb b hb⟩
    ·have:=HL.own (Z:=fun _=>False) (e:=.own (aK e (aK e3 (aC kk))) v' (z++[ys])) (f:=f') dq (HL.own (e:=.own (rm e' (aK e (aK e3 (aC kk))) j.toNat) v xs) (f:=gm) Lb .nil)
     exact .inl (by simpa using this)
    ·refine tk (zo (by simp)) zZ.2.1 fun b hb hm=>?_
     rcases b9 b hb with h | h | h
     ·exact zZ.2.2 b h b hm rfl
     ·exact Jr b (List.mem_append_right _ hm) (List.mem_singleton.1 h)
     ·have:=af.lt _ a3 b hm; omega
theorem Rp {mt:Nat} {t e e3 et:TI} {kk:IntKind} {z0:List Int} {bt t1 t2 t3 j1 j2 j3 n:Nat} {us:LV} {ys:List Int} {z:List (List Int)} {a1:fg} {fl sa Ar:MM} {A:LN} {as:LL} {d:Nat} {ty:TI} {ops:LO} {i:Nat} {sl:LQ} {ms:MM} {r0:NV} {w0:World} {H:LN} (hT:qS P t (List Int) e (aK e3 (aC kk)) z0 bt) (hU:U.getD i []=[j1,j3])
   (h1:l5 ms t1 a1 fl) (h2:l5 fl t2 ⟨j2,t2,[t3],Nat,fun _ b=>.slice (some ⟨b,0,none⟩) 1 1,fun u b=>[.row b [u] et]⟩ sa) (h3:l5 sa t3 ⟨j3,t3,[],Nat,fun _ b=>.slice (some ⟨b,0,none⟩) n n,fun _ b=>[.row b us e3]⟩ Ar) (hp:∀ u v,a1.ps u v=[.own (aK e (aK e3 (aC kk))) (a1.rt u v) z]) (hj:a1.j=j1) (ks:Nat.beq j1 j3=false) (h4:dt j1 A=true) (h5:dt j2 A=true) (h6:dt j3 A=true) (hi:yt kk us ys) (ox:us.length=n) (cu:Nat.ble n 16777216=true)
   (hf:fits bt (z.length+1)=some ()) (wA:mx l mt U A (.call ⟨.builtin .append,#[.tmp t1,.tmp t2],#[t,t]⟩) d ty as ops i) (h:ic P Z l mt U r0 w0 H i sl ms) :
  ic P Z l mt U r0 w0 H (i+1) sl (⟨i,d,[],Value,fun _ v'=>v',fun _ v'=>[.own (aK e (aK e3 (aC kk))) v' (z++[ys])]⟩ :: Ar):=by
 obtain ⟨S',yu,hR,hO⟩:=h
 subst yu
 subst hj
 obtain ⟨hA,⟨pos,ab,ho⟩,_⟩:=wA
 obtain ⟨b1,b2⟩:=iH hf
 obtain ⟨q1,q2,ii,zz,q3,q4,q5,q6,q7,_⟩:=hT.h
 obtain ⟨k1,k2,k3,k4⟩:=h1.sub
 obtain ⟨n1,_,m3,m4⟩:=h2.sub
 obtain ⟨n3,_,m5,m6⟩:=h3.sub
 refine ⟨S'++[⟨true,MV Z ⟨S'.length,d,[],Value,fun _ v'=>v',fun _ v'=>[.own (aK e (aK e3 (aC kk))) v' (z++[ys])]⟩⟩],by simp,(hR.sub (fun b hb=>k3 b (m3 b (m5 b hb))) ((m6.trans m4).trans k4)).mem rfl (by unfold bn; rw [ho]; rfl) (by intro t h; cases h),fun k hk=>?_⟩
 by_cases bc:k < S'.length
 ·exact je.more (hO k bc) bc
 ·obtain rfl:k=S'.length:=by omega
  intro o' s' br da g r w hC vJ ig hn ij sb nj
  rw [ho] at br
  cases br
  rw [List.getElem?_append_right (Nat.le_refl _),Nat.sub_self] at da
  cases da
  rw [if_pos rfl]
  refine ⟨rfl,?_⟩
  have Ip:=km (by rw [← hA]; exact jc.1 h4)
  have Lc:=km (by rw [← hA]; exact jc.1 h6)
  obtain ⟨v1,p1,p2,p3⟩:=hR.wD k1 (hn a1.j Ip.2)
  rw [hp,← p1,k2] at p2
  replace p2:=p2.own rfl
  obtain ⟨b,c1,c2,c3⟩:=hR.wD (k3 _ n1) (hn j2 (km (by rw [← hA]; exact jc.1 h5)).2)
  obtain ⟨b3,d1,d2,d3⟩:=hR.wD (k3 _ (m3 _ n3)) (hn j3 Lc.2)
  replace c1:r t2 = .slice (some ⟨b,0,none⟩) 1 1:=c1
  replace c2:HL (fun _=>False) w [.row b [r t3] et] (g j2):=c2.own rfl
  replace d1:r t3 = .slice (some ⟨b3,0,none⟩) n n:=d1
  replace d2:HL (fun _=>False) w [.row b3 us e3] (g j3):=d2.own rfl
  have NO:=sb a1.j Ip.1 j3 Lc.1 (fun e=>by rw [e,Nat.beq_refl] at ks; cases ks)
  generalize vH:g j2=G1 at c2 c3
  generalize Tu:g j3=G3 at d2 d3 NO
  generalize iw:g a1.j=G2 at p2 p3 NO
  cases c2 with
  | fact h _=>exact h.elim
  | @own _ ff F0 _ CK rT=>
   cases rT
   obtain ⟨rfl,aX⟩:=CK
   cases d2 with
   | fact h _=>exact h.elim
   | @own _ ff3 F3 _ vU Jq=>
    cases Jq
    obtain ⟨rfl,vU⟩:=vU
    cases p2 with
    | fact h _=>exact h.elim
    | @own _ k F4 _ wG W7=>
     cases W7
     rw [List.append_nil] at p3
     obtain ⟨e1,e2⟩:=yt.sound hi w.heap
     have za:=Nat.le_of_ble_eq_true cu
     have hE:(aK e3 (aC kk)).rep w.heap [r t3] ys [b3]:=by
      rw [d1]
      refine ⟨some ⟨b3,0,none⟩,n,by rw [← ox,e1],.inr ⟨b3,us.toArray,[],rfl,vU,rfl,by rw [← ox,e1]; exact Nat.le_refl _,Nat.le_trans za (by decide),by rw [show (aC kk).size=1 from rfl,Nat.mul_one]; simp [ox],?_⟩⟩
      rw [show (aC kk).size=1 from rfl,Nat.mul_one,List.toList_toArray,← e1,List.take_length]
      exact e2
     have Jr:∀ b∈k,b≠b3:=fun b hb he=>NO b (by simpa using hb) (by simp [he])
     obtain ⟨v',w',f',jk,vK,dq,b9,zo⟩:=my (E:=aK e3 (aC kk)) (d:=some d) (ty:=ty) (pos:=pos) (ab:=ab) (g:=none) (r:=r) (s:=.tmp t1) (x:=.tmp t2) (k:=[b3]) (ys:=[ys]) (news:=[r t3]) q1 q3 q4 (by rw [q5,q2]) (by rw [cells_one q6,q2]; rfl) rfl wG p3 c1 (fun i u hi=>aX.at i u hi) (pq hE) (fun b hb hm=>Jr b hm (List.mem_singleton.1 hb)) (by simp) (by rw [q7]; exact b1) b2
     unfold fj
     rw [jk]
     have hblk:ll g (U.getD S'.length [])=k++[b3]:=by rw [hU]; simp [ll,iw,Tu]
     rw [hblk]
     refine ⟨vK.mono fun b hb=>List.mem_append_left _ hb,f',fun b hb=>?_,v',rfl,?_,zo (by simp)⟩
     ·refine ⟨?_,af.lt _ dq b hb⟩
      rcases b9 b hb with h | h | h
      ·exact .inl (List.mem_append_left _ h)
      ·exact .inl (List.mem_append_right _ h)
      ·exact .inr h
     ·have:=HL.own (Z:=fun _=>False) (e:=.own (aK e (aK e3 (aC kk))) v' (z++[ys])) (f:=f') dq .nil
      exact .inl (by simpa using this)
end
end Go.Dk
namespace Go.Dk
open Go Go.Li
section
variable {R S:Type} {P:Program} {cx:Cx R} {K:dh R S} {l tail:LO} {base fr:Fr} {U:LL} {hd:QE}
def Js (P:Program) (cx:Cx R) (K:dh R S) (l:LO) (mt:Nat) (U:LL) (hd:QE) (id:Nat) (base:Fr):JA R S→Prop
 | .a as ops i sl ms Γ m=>zg l mt U as ops i→Fin P cx K l mt U hd id base i sl ms Γ m
 | .o A op d ty as ops i sl ms Γ m=>mx l mt U A op d ty as ops i→Fin P cx K l mt U hd id base i sl ms Γ m
 | .oc us f xs aq A d ty as ops i sl ms Γ m=>U.getD i []=us→mx l mt U A (.call ⟨.value (.func f),xs.toArray,aq⟩) d ty as ops i→Fin P cx K l mt U hd id base i sl ms Γ m
 | .os A op ty as ops i sl ms Γ m=>Tg l mt U A op ty as ops i→Fin P cx K l mt U hd id base i sl ms Γ m
 | .ow _ A op d ty as ops i sl ms Γ m=>mx l mt U A op d ty as ops i→Fin P cx K l mt U hd id base i sl ms Γ m
 | .ix _ v fr x y t A d ty as ops i sl ms Γ m=>cZ A none sl base fr→bb fr x=some v→mx l mt U A (.indexAddr t x y) d ty as ops i→Fin P cx K l mt U hd id base i sl ms Γ m
 | .lb _ v j fr t x A d ty as ops i sl ms Γ m=>cZ A none sl base fr→bb fr x=some (.pointer (some (dc v 1 j)))→NA P t→mx l mt U A (.load t x) d ty as ops i→Fin P cx K l mt U hd id base i sl ms Γ m
 | .ap us t1 t2 t A d ty as ops i sl ms Γ m=>U.getD i []=us→mx l mt U A (.call ⟨.builtin .append,#[.tmp t1,.tmp t2],#[t,t]⟩) d ty as ops i→Fin P cx K l mt U hd id base i sl ms Γ m
 | .la fr a lk t x A d ty as ops i sl ms Γ m=>cZ A none sl base fr→bb fr x=some (.pointer (some a))→(match lk with | none=>NA P t | some n=>AG P t n)→mx l mt U A (.load t x) d ty as ops i→Fin P cx K l mt U hd id base i sl ms Γ m
 | .ld E z fr a t x A d ty as ops i sl ms Γ m=>cZ A none sl base fr→bb fr x=some (.pointer (some a))→NA P t→mx l mt U A (.load t x) d ty as ops i→
   ∀ B o,m=some o→∀ r0 w0 H Z,cq r0 base→pj B Z hd Γ H w0→(∃ u,∀ w,ak H w0 w→w.cell? a=some u∧∃ g,E.rep w.heap [u] z g)→ic P Z l mt U r0 w0 H i sl ms→n8 P cx.n l (mi P cx B K o) r0 w0
 | .p Δ as ops i sl ms Γ m=>zg l mt U as ops i→Fin P cx K l mt U hd id base i sl ms (Δ.reverse++Γ) m
 | .cr u ps d as ops i sl ms Γ m=>zg l mt U as ops (i+1)→bn l i=some d→
   ∀ B o,m=some o→∀ r0 w0 H Z,cq r0 base→pj B Z hd Γ H w0→zh P Z l mt U r0 w0 H i sl ms ⟨i,d,[],_,fun _=>u,fun _=>ps⟩→n8 P cx.n l (mi P cx B K o) r0 w0
theorem xJ {w:World} {e n:Nat} {v:Value} {us:List (List Value)} {f:LN} {j:Int} {c:LV} (hO:(aK e (iz n)).rep w.heap [v] us f) (hj:0≤j) (hu:us[j.toNat]? = some c):c.length=n∧(∀ u∈c,u.oneCell'=true)∧∀ i u,c[i]? = some u→w.cell? ((dc v n j).add i)=some u:=by
 obtain ⟨_,_,cs,f1,⟨rfl,h1,h2,_⟩,_,h3⟩:=sr (((Le.own (Le.refl (iz n)) e).le) hO) j hj hu
 exact ⟨h1,h2,h3⟩
theorem NP {α:Type} {E:af α} {h:Array Obj}:∀ {xs:List α} {cs:LV} {f:LN} (n m:Nat),dx E h cs xs f→∃ f3,dx E h ((cs.drop (n * E.size)).take (m * E.size)) ((xs.drop n).take m) f3∧∀ b∈f3,b∈f:=by
 intro xs
 induction xs with
 | nil=>rintro cs f n m ⟨rfl,rfl⟩; exact ⟨[],by simpa using ⟨rfl,rfl⟩,fun _ h=>h⟩
 | cons x xs ih=>
  rintro cs f n m ⟨c,ds,f1,f2,rfl,rfl,h1,h2⟩
  cases n with
  | zero=>
   cases m with
   | zero=>exact ⟨[],by simpa using ⟨rfl,rfl⟩,fun _ h=>absurd h List.not_mem_nil⟩
   | succ m=>
    obtain ⟨f3,h3,h4⟩:=ih 0 m h2
    simp only [Nat.zero_mul,List.drop_zero] at h3 ⊢
    refine ⟨f1++f3,?_,fun b hb=>(List.mem_append.1 hb).elim (List.mem_append_left _) fun hb=>List.mem_append_right _ (h4 b hb)⟩
    have e:(m+1) * E.size=c.length+m * E.size:=by rw [E.len h1,Nat.add_mul,Nat.one_mul,Nat.add_comm]
    rw [e,List.take_append,List.take_of_length_le (by omega),List.take_succ_cons]
    exact ⟨c,_,f1,f3,rfl,rfl,h1,by simpa using h3⟩
  | succ n=>
   obtain ⟨f3,h3,h4⟩:=ih n m h2
   refine ⟨f3,?_,fun b hb=>List.mem_append_right _ (h4 b hb)⟩
   have e:(n+1) * E.size=c.length+n * E.size:=by rw [E.len h1,Nat.add_mul,Nat.one_mul,Nat.add_comm]
   rw [e,List.drop_append,List.drop_of_length_le (by omega),List.nil_append,List.drop_succ_cons]
   simpa using h3
theorem NQ {Z:Nat→Prop} {w:World} {cur g:LN} {o:Bool} {α:Type} {E:af α} {base:Option Addr} {cap a b:Nat} {xs:List α} (hE:E.size=1) (hr:(aE E).rep w.heap [.slice base xs.length cap] xs g) (hg:∀ i∈g,tH o Z cur i) (vb:a≤b) (hb:b≤xs.length) (hc:xs.length≤cap) :
  fact Z w cur (.rd o (aE E) (sliced base a b cap 1) ((xs.drop a).take (b - a))):=by
 have hlen:((xs.drop a).take (b - a)).length=b - a:=by rw [List.length_take,List.length_drop]; omega
 obtain ⟨I7,Na,hv,fc⟩:=hr
 obtain ⟨rfl,rfl⟩ : base=I7∧cap=Na:=by simpa using hv
 by_cases hj:a=b
 ·subst hj
  exact ⟨[],⟨_,cap - a,by unfold sliced; rw [hlen],.inl ⟨by simp,rfl⟩⟩,fun _ h=>absurd h List.not_mem_nil⟩
 ·rcases fc with ⟨rfl,_⟩ | ⟨b0,off,cr,e',fz,f',rfl,g1,rfl,g2⟩
  ·exfalso; simp at hb; omega
  ·have ks : ¬ (cap=a):=by omega
   obtain ⟨f3,dq,b9⟩:=NP a (b - a) g2
   refine ⟨b0 :: f3,⟨some ⟨b0,off+a,none⟩,cap - a,?_,.inr ⟨b0,off+a,cr,e',fz,f3,rfl,g1,rfl,?_⟩⟩,fun i hi=>?_⟩
   ·unfold sliced
    rw [hlen,if_neg ks]
    simp [ja]
   ·rw [hE,Nat.mul_one,Nat.mul_one,Nat.mul_one,List.drop_take,List.take_take,List.drop_drop,Nat.min_eq_left (by omega)] at dq
    rw [hE,Nat.mul_one,hlen]
    exact dq
   ·rcases List.mem_cons.1 hi with rfl | hi
    ·exact hg _ (by simp)
    ·exact hg _ (List.mem_cons_of_mem _ (b9 i hi))
theorem AD.sound {tq:Bool} {mt id:Nat} (hh:lr l mt base=true)
  (rT:∀ hd i sl ms Γ m,B5 ms=true→DF U sl ms=true→(∀ x:lq ms,D P cx (.p (Ap sl (mF ms x)) (DE ms x) base Γ fun fr Γ=>.tg tq (B0 tail) l tail K Γ fr m))→Js P cx K l mt U hd id base (.a [] [] i sl ms Γ m))
  {J:JA R S} (h:AD tq P cx K l tail base U hd J):Js P cx K l mt U hd id base J:=by
 have stay:∀ {B:Bs} {Z:Nat→Prop} {hd Γ:QE} {H:LN} {w0:World},pj B Z hd Γ H w0→∃ F Hd,(SA Z w0 hd [] Hd∧(∀ b∈Hd,b∈H∧b < w0.heap.size)∧(∀ b∈H,b < w0.heap.size)∧Hd.Nodup)∧SA Z w0 Γ [] F∧Gd B Z (H++F) w0∧∀ w,ak H w0 w→SA Z w Γ [] F:=by
  rintro B Z hd Γ H w0 ⟨F,Hd,h1,h2,h3⟩
  exact ⟨F,Hd,h1,h2,h3,fun w hC=>pj.stay h2 h3 hC⟩
 induction h with
 | nil hs he h=>exact rT _ _ _ _ _ _ hs he h
 | cons _ ih=>exact fun h=>ih h.cons
 | Jj _ ih=>exact fun h=>ih h.Jj
 | SN h1 hv hy hc hn da ho h4 h6 _ ih=>
  rename_i ht _
  intro h B o br r0 w0 H Z ha hs hp
  obtain ⟨F,_,_,_,_,hK⟩:=stay hs
  exact ih h.n B o br r0 w0 H Z ha hs (Rc hh ha ht h1 hv hy hc hn da ho h4 h6 hK h hp)
 | ixs hv hx _ _ ih=>exact fun h1=>ih hv hx h1
 | @Zd hd α A as d x y v k j t ty o1 o2 E xs ops i sl ms fr Γ ib f ht hy hr hE _ ih=>
  intro hv hx h1 B o ho r0 w0 H Z ha hs hp
  obtain ⟨z,hz,ho⟩:=bind_some ho
  replace hz:=q9 hz
  obtain ⟨e,ii,q1,q2,q3⟩:=ht.h
  obtain ⟨F,Hd,⟨hL,Tv⟩,hS,hG,hK⟩:=stay hs
  obtain ⟨dj,_,⟨⟨n,hn,_⟩,KN⟩,sR⟩:=(hr z).sound hL
  obtain ⟨⟨a,c,mw⟩,bc,_⟩:=sr hn j hz.1 hz.2
  refine ih z h1.n B o ho r0 w0 H Z ha ⟨F,Hd,⟨sR (KN hE j z hz.1 hz.2),Tv⟩,hS,hG⟩ (hp.val hh ha h1 hv fun r fc _ _ _ w hC=>?_)
  rw [l4 q1 q2 ((aR fc hx).trans mw) (aR fc hy) hz.1 (by omega),q3,mw]
  rfl
 | @idx hd α A as d x y v k j t ty o1 o2 E xs ops i sl ms fr Γ Γ' f ht hy hr hE _ ih=>
  intro hv hx h1 B o ho r0 w0 H Z ha hs hp
  obtain ⟨z,hz,ho⟩:=bind_some ho
  replace hz:=q9 hz
  obtain ⟨F,Hd,hL,hS,hG,hK⟩:=stay hs
  obtain ⟨dj,_,⟨⟨n,hn,_⟩,KN⟩,sR⟩:=(hr z).sound hS
  refine ih z h1.n B o ho r0 w0 H Z ha ⟨F,Hd,hL,sR (KN hE j z hz.1 hz.2),hG⟩ (hp.val hh ha h1 hv fun r fc _ _ _ w hC=>?_)
  obtain ⟨_,_,⟨⟨n',ox,_⟩,_⟩,_⟩:=(hr z).sound (hK w hC)
  exact Ix ht.h ox hz (aR fc hx) (aR fc hy) hE w (ak.refl _ _)
 | @XR hd α β A as d x y v k j t ty o1 o2 p1 p2 E E2 z xs ops i sl ms fr Γ Γx m ht hy hr hi hE _ ih=>
  intro hv hx h1 B o ho r0 w0 H Z ha hs hp
  obtain ⟨F,Hd,hL,hS,hG,hK⟩:=stay hs
  refine ih h1.n B o ho r0 w0 H Z ha ⟨F,Hd,hL,hS,hG⟩ (hp.val hh ha h1 hv fun r fc _ _ _ w hC=>?_)
  obtain ⟨_,_,⟨⟨n',ox,_⟩,_⟩,_⟩:=hr.sound (hK w hC)
  obtain ⟨j0,j1⟩:=hi.ad hS
  obtain ⟨a,c,mw⟩:=sn ox
  have bc:j.toNat < xs.length:=by rw [mw] at j1; exact j1
  exact Ix ht.h ox ⟨j0,List.getElem?_eq_getElem bc⟩ (aR fc hx) (aR fc hy) hE w (ak.refl _ _)
 | pz _ ih=>exact ih
 | @pe hd e Δ as ops i sl ms Γ m _ ih=>
  intro h1
  have h2:=ih h1
  have h3:(e :: Δ).reverse++Γ=Δ.reverse++e :: Γ:=by rw [List.reverse_cons,List.append_assoc]; rfl
  rw [h3]
  exact h2
 | @Fu hd α V Sc cl en A as d n x y v xs k j t ty ops i sl ms fr Γ Γx f ht hy hr oy hn _ ih=>
  intro hv hx hA B o ho r0 w0 H Z ha hs hp
  replace oy:SO Sc V cl en:=by cases oy; assumption
  obtain ⟨z,hz,ho⟩:=bind_some ho
  replace hz:=q9 hz
  obtain ⟨e,i',h1,h2,h3⟩:=ht.h
  obtain ⟨F,Hd,hL,hS,hG,hK⟩:=stay hs
  obtain ⟨dj,_,⟨⟨f0,BM,td⟩,_⟩,_⟩:=hr.sound hS
  have hZ:∀ b∈f0,Z b:=fun b hb=>(td b hb).elim (fun h=>h) (fun h=>h)
  obtain ⟨⟨a,c,mw⟩,bc,cs,f1,dq,KT,jo⟩:=sr BM j hz.1 hz.2
  have ox:(n7 Sc).size=n:=hn
  rw [ox] at jo
  obtain ⟨u,rfl,r7⟩:=oy.op dq.2
  have hblk:Z (dc v n j).block:=by
   obtain ⟨base,cap,mw,fc⟩:=BM
   rcases fc with ⟨rfl,_⟩ | ⟨b,off,cr,e',fz,f',rfl,_,rfl,_⟩
   ·simp at bc; omega
   ·obtain rfl:v = .slice (some ⟨b,off,none⟩) xs.length cap:=by simpa using mw
    have:(dc (.slice (some ⟨b,off,none⟩) xs.length cap) n j).block=b:=by unfold dc; rw [u7]
    rw [this]; exact hZ b (by simp)
  have Fz:fact Z w0 [] (.aq (dc v n j) (cl z u)):=⟨fun i u' hi=>jo i u' hi,fun _=>hblk⟩
  have ew:HL Z w0 (.aq (dc v n j) (cl z u) :: en z u) []:=.fact Fz (uM (r7 Z fun b hb=>hZ b (KT b hb)))
  obtain ⟨F',ux,fx⟩:=ew.build hS
  refine ih z u hA.n B o ho r0 w0 H Z ha ⟨F',Hd,hL,fx,hG.perm (List.Perm.append_left H (by simpa using ux))⟩ (hp.val hh ha hA hv fun r fc _ _ _ w hC=>?_)
  rw [l4 h1 h2 ((aR fc hx).trans mw) (aR fc hy) hz.1 (by omega),h3,mw]
  rfl
 | @Tb hd α V Sc cl en A as d n e bt x y v us xs k j t ty ops i sl ms fr Γ Γ1 f ht hy h1 hg oy _ ih=>
  intro hv hx hA B o ho r0 w0 H Z ha hs hp
  replace oy:SO Sc V cl en:=by cases oy; assumption
  obtain ⟨z,hz,ho⟩:=bind_some ho
  replace hz:=q9 hz
  obtain ⟨q1,i',_,q2,_,_,q3,_⟩:=ht.h
  obtain ⟨F,Hd,hL,hS,hG,hK⟩:=stay hs
  obtain ⟨f0,F1,_,hO,_⟩:=h1.sound hS
  obtain ⟨g0,hk,oK⟩:=hg.rd hS []
  obtain ⟨c,g1,e1,e2,e3⟩:=Cr j.toNat hk.2.1 hz.2
  obtain ⟨u,rfl,r7⟩:=oy.op e2
  have hlen:us.length=xs.length:=yq hk.2.1
  have bc:j.toNat < xs.length:=(List.getElem?_eq_some_iff.1 hz.2).1
  have mw:∃ a c,v = .slice (some a) us.length c:=by
   obtain ⟨b0,cap,hv,hr⟩:=hO
   obtain rfl:v = .slice b0 us.length cap:=by simpa using hv
   rcases hr with ⟨_,_,rfl,_⟩ | ⟨b,cur,f',rfl,_⟩
   ·rw [← hlen] at bc; simp at bc
   ·exact ⟨_,_,rfl⟩
  obtain ⟨a,c',rfl⟩:=mw
  have ew:HL Z w0 (.rd false (zV us j) (.bool true) (cl z u) :: en z u) []:=.fact ⟨[],⟨rfl,⟨hz.1,e1⟩,rfl⟩,fun _ h=>absurd h List.not_mem_nil⟩ (uM (r7 Z fun b hb=>oK b (e3 b hb)))
  obtain ⟨F',ux,fx⟩:=ew.build hS
  refine ih z u hA.n B o ho r0 w0 H Z ha ⟨F',Hd,hL,fx,hG.perm (List.Perm.append_left H (by simpa using ux))⟩ (hp.val hh ha hA hv fun r fc _ _ _ w hC=>?_)
  rw [l4 q1 q2 (aR fc hx) (aR fc hy) hz.1 (by omega),q3]
  rfl
 | @XS hd A as d n e off x v u us j cs t ty ops i sl ms fr Γ Γ1 m h1 rN hc _ ih=>
  intro hv hx ht hA B o ho r0 w0 H Z ha hs hp
  obtain ⟨F,_,_,hS,_,hK⟩:=stay hs
  refine ih hA.n B o ho r0 w0 H Z ha hs (hp.val hh ha hA hv fun r hr _ _ _ w hC=>?_)
  obtain ⟨f,F1,_,hO,_⟩:=h1.sound (hK w hC)
  obtain ⟨_,⟨_,⟨hj,hu⟩,_⟩,_⟩:=rN.rd (hK w hC) []
  exact Ld ht ((xJ hO hj hu).2.2 off u hc) (aR hr hx) w (ak.refl _ _)
 | @Tc hd A as d n e x v u us j cs t ty ops i sl ms fr Γ Γ1 m h1 rN hc _ ih=>
  intro hv hx ht hA B o ho r0 w0 H Z ha hs hp
  obtain ⟨F,_,_,hS,_,hK⟩:=stay hs
  refine ih hA.n B o ho r0 w0 H Z ha hs (hp.val hh ha hA hv fun r hr _ _ _ w hC=>?_)
  obtain ⟨f,F1,_,hO,_⟩:=h1.sound (hK w hC)
  obtain ⟨_,⟨_,⟨hj,hu⟩,_⟩,_⟩:=rN.rd (hK w hC) []
  exact Ld ht ((xJ hO hj hu).2.2 0 u hc) (aR hr hx) w (ak.refl _ _)
 | load hv hx _ ih=>rename_i ht _; exact fun h1=>ih hv hx ht.h h1
 | lsw _ _ ih=>exact fun hv hx ht h1=>ih hv hx ht h1
 | @slH hd α o A as d x lo hi v k1 k2 a b E T xs t e ty ops i sl ms fr Γ Γ1 Γ' f ht hv hx Ij KY hc hr hE _ ih=>
  intro h1 B oo ho r0 w0 H Z ha hs hp
  obtain ⟨ys,Tw,ho⟩:=bind_some ho
  obtain ⟨j0,j1,j2,rfl⟩:=Lf Tw
  obtain ⟨e',i',q1,q2,q3⟩:=ht.h
  obtain ⟨F,Hd,hL,hS,hG,hK⟩:=stay hs
  obtain ⟨f1,F1,_,hO,_⟩:=hc.sound hS
  obtain ⟨base,cap,rfl,FK⟩ : ∃ base cap,v = .slice base xs.length cap∧xs.length≤cap:=by
   obtain ⟨base,cap,hv,hr⟩:=hO
   refine ⟨base,cap,by simpa using hv,?_⟩
   rcases hr with ⟨_,rfl,rfl,_⟩ | ⟨b0,cur,f0,_,_,_,xx,_⟩
   ·simp
   ·exact xx
  obtain ⟨dj,_,⟨⟨g0,hg0,td⟩,_⟩,sR⟩:=(hr (sliced base a.toNat b.toNat cap 1) ((xs.drop a.toNat).take (b.toNat - a.toNat))).sound hS
  have hf:=NQ (a:=a.toNat) (b:=b.toNat) hE hg0 (fun i hi=>(td i hi).elim (fun h=>h) fun h=>h) (by omega) (by omega) FK
  refine ih _ _ h1.n B oo ho r0 w0 H Z ha ⟨F,Hd,hL,sR hf,hG⟩ (hp.val hh ha h1 hv fun r fc _ _ _ w hC=>?_)
  have q4:P.elem t=e':=by simp [Program.elem,q1]
  have ru:(sizeOf (P.elem t)).run P w = .ok 1 w:=by rw [q4]; simp [sizeOf,typeInfo,q2,q3]
  simp [execOp,aR fc hx,aR fc Ij,aR fc KY,run_sliceAt_slice w t _ _ _ _ (by rw [q4]; exact q1),run_slice_lh (P:=P) w t base xs.length cap (by rw [q4]; exact q1) k1 k2 a b j0 j1 (by omega),ru,Result.andThen]
 | @Ze hd α A as d x v j E z o' t ty ops i sl ms fr Γ S9 ib m hV h CC _ ih=>
  intro hv hx ht h1 B o ho r0 w0 H Z ha hs hp
  obtain ⟨F,Hd,⟨hL,Tv⟩,hS,hG,hK⟩:=stay hs
  obtain ⟨_,⟨u,k,h3,h4,h5⟩,_⟩:=(h (.bool true)).sound hL
  obtain ⟨dj,⟨u',k',XX,h5',h6⟩,sR⟩:=(h u).sound hL
  rw [h3] at XX
  cases XX
  exact ih u h1.n B o ho r0 w0 H Z ha ⟨F,Hd,⟨(CC u).sound h3 (sR ⟨k',h5',h6⟩),Tv⟩,hS,hG⟩ (hp.Zk hh ha h1 hV hv fun r hr _ _ _ w hC=>Ld ht h3 (aR hr hx) w hC)
 | @SF hd α A as d x v j o E z t ty ops i sl ms fr Γ Γx m h _ ih=>
  intro hv hx ht h1 B o' ho r0 w0 H Z ha hs hp
  obtain ⟨F,Hd,hL,hS,hG,hK⟩:=stay hs
  obtain ⟨_,⟨u,k,h2,h3,_⟩,_⟩:=h.sound hS
  refine ih hv hx ht h1 B o' ho r0 w0 H Z ha hs ⟨u,fun w hC=>?_⟩ hp
  have hb:(dc v 1 j).block ∉ H:=fun hm=>(h.Al hS).elim (fun h=>h.elim (fun h=>absurd h List.not_mem_nil) fun h=>(List.nodup_append.1 hG.nd).2.2 _ hm _ h rfl) fun h=>hG.apart _ (List.mem_append_left _ hm) h
  have hc:=hC.cell hb h2
  obtain ⟨_,⟨u',k',h4,h5,_⟩,_⟩:=h.sound (hK w hC)
  rw [hc] at h4
  cases h4
  exact ⟨hc,k',h5⟩
 | SG h _ ih=>
  intro hv hx ht h1 B o ho r0 w0 H Z ha hs hp
  obtain ⟨F,_,_,hS,_,hK⟩:=stay hs
  exact ih h1.n B o ho r0 w0 H Z ha hs (hp.val hh ha h1 hv fun r hr _ _ _ w hC=>Ld ht (h.sound (hK w hC)) (aR hr hx) w (ak.refl _ _))
 | KJ h _ ih=>
  intro hv hx ht h1 B o ho r0 w0 H Z ha hs hp
  obtain ⟨F,_,_,hS,_,hK⟩:=stay hs
  refine ih h1.n B o ho r0 w0 H Z ha hs (hp.val hh ha h1 hv fun r hr _ _ _ w hC=>?_)
  obtain ⟨h2,h3⟩:=h.sound (hK w hC)
  exact Lg ht h2 (aR hr hx) h3 w (ak.refl _ _)
 | SH _ ih=>
  intro hv hx ht h1 B o ho r0 w0 H Z ha hs hu hp
  obtain ⟨u,hu⟩:=hu
  obtain ⟨_,_,h3,_⟩:=hu w0 (ak.refl _ _)
  obtain rfl:u=_:=by simpa using h3
  exact ih h1.n B o ho r0 w0 H Z ha hs (hp.val hh ha h1 hv fun r hr _ _ _ w hC=>Ld ht (hu w hC).1 (aR hr hx) w (ak.refl _ _))
 | SI _ ih=>
  intro hv hx ht h1 B o ho r0 w0 H Z ha hs hu hp
  obtain ⟨u,hu⟩:=hu
  obtain ⟨_,_,h3,_⟩:=hu w0 (ak.refl _ _)
  obtain rfl:u=_:=by simpa using h3
  exact ih h1.n B o ho r0 w0 H Z ha hs (hp.val hh ha h1 hv fun r hr _ _ _ w hC=>Ld ht (hu w hC).1 (aR hr hx) w (ak.refl _ _))
 | @SJ hd α A as d x v j E z o' t ty ops i sl ms fr Γ Γ1 Γ' m h CC _ ih=>
  intro hv hx ht h1 B o ho r0 w0 H Z ha hs hu hp
  obtain ⟨u,hu⟩:=hu
  obtain ⟨h2,_⟩:=hu w0 (ak.refl _ _)
  obtain ⟨F,Hd,hL,hS,hG,hK⟩:=stay hs
  obtain ⟨dj,⟨u',k',h4,h5,h6⟩,sR⟩:=(h u).sound hS
  rw [h2] at h4
  cases h4
  exact ih u h1.n B o ho r0 w0 H Z ha ⟨F,Hd,hL,(CC u).sound h2 (sR ⟨k',h5,h6⟩),hG⟩ (hp.val hh ha h1 hv fun r hr _ _ _ w hC=>Ld ht (hu w hC).1 (aR hr hx) w (ak.refl _ _))
 | @Fv hd α A as d t e ty E z0 bt ops i sl ms Γ m hz _ ih=>
  intro h1 B o ho r0 w0 H Z ha hs hp
  exact ih h1.n B o ho r0 w0 H Z ha hs (Rh hz h1 hp)
 | KH hU _ ih=>exact fun h1=>ih hU h1
 | @Zf hd β V A as d f fs bs xo xs aq ty mo rt ps ops i sl ms fr Γ g hv FM hf hc hi er hw _ ih=>
  intro h1 B o ho r0 w0 H Z ha hs hp
  obtain @⟨rO⟩:=hf
  obtain ⟨y,hy,ho⟩:=bind_some ho
  obtain ⟨pos,ab,h2⟩:=h1.o
  exact ih y h1.n (by unfold bn; rw [h2]; rfl) B o ho r0 w0 H Z ha hs (K1 hh rO hv FM hc hi er hw h1 hy ha hs hp)
 | @Zg hd β V A as d f it name nm u xo xs aq ty mo rt ps ops i sl ms fr Γ g hv FM hf hn hc hi er hw _ ih=>
  intro h1 B o ho r0 w0 H Z ha hs hp
  obtain @⟨rO⟩:=hf
  rw [l3] at hn
  subst hn
  obtain ⟨y,hy,ho⟩:=bind_some ho
  obtain ⟨pos,ab,h2⟩:=h1.o
  exact ih y h1.n (by unfold bn; rw [h2]; rfl) B o ho r0 w0 H Z ha hs (K2 hh rO hv FM hc hi er hw h1 hy ha hs hp)
 | @call hd β V A as d f xs aq ty mo rt ps ops i sl ms fr Γ g hf hv hc hi er hw _ ih=>
  intro _ h1 B o ho r0 w0 H Z ha hs hp
  obtain ⟨y,hy,ho⟩:=bind_some ho
  obtain ⟨pos,ab,h2⟩:=h1.o
  exact ih y h1.n (by unfold bn; rw [h2]; rfl) B o ho r0 w0 H Z ha hs (NL hh hf hv hc hi er hw h1 hy ha hs hp)
 | @W3 hd β V A as d f xs aq ty mo rt ps ops i sl ms fr Γ g hf hV hv hc hi er hw _ ih=>
  intro hU h1 B o ho r0 w0 H Z ha hs hp
  obtain ⟨y,hy,ho⟩:=bind_some ho
  obtain ⟨pos,ab,h2⟩:=h1.o
  exact ih y h1.n (by unfold bn; rw [h2]; rfl) B o ho r0 w0 H Z ha hs (K3 hh hf hv hU hV hc hi er hw h1 hy ha hs hp)
 | @W5 hd β V A as d f xs aq ty mo rt ps ops i sl ms fr Γ g hf hv hc hi er _ ih=>
  intro hU h1 B o ho r0 w0 H Z ha hs hp
  obtain ⟨y,hy,ho⟩:=bind_some ho
  obtain ⟨pos,ab,h2⟩:=h1.o
  exact ih y h1.n (by unfold bn; rw [h2]; rfl) B o ho r0 w0 H Z ha hs (K7 hh hf hv hc hi er h1 hy ha hs hp)
 | @Td hd β V A as d f xs aq ty mo rt ps ops i sl ms fr Γ g hf hV hv hc hi er _ ih=>
  intro hU h1 B o ho r0 w0 H Z ha hs hp
  obtain ⟨y,hy,ho⟩:=bind_some ho
  obtain ⟨pos,ab,h2⟩:=h1.o
  exact ih y h1.n (by unfold bn; rw [h2]; rfl) B o ho r0 w0 H Z ha hs (Jo hh hf hv hU hV hc hi er h1 hy ha hs hp)
 | @Te hd β V j1 a1 fl A as d f xs aq ty mo rt ps ops i sl ms fr Γ g hf hg CG h4 hv hc hi er _ ih=>
  intro hU h1 B o ho r0 w0 H Z ha hs hp
  obtain ⟨y,hy,ho⟩:=bind_some ho
  obtain ⟨pos,ab,h2⟩:=h1.o
  exact ih y h1.n (by unfold bn; rw [h2]; rfl) B o ho r0 w0 H Z ha hs (let ⟨S',e1,e2,e3⟩:=Jp hh hf hv hU hg CG h4 hc hi er h1 hy ha hs hp; ⟨S',e1,e2.re (km (by rw [← h1.A]; exact jc.1 h4)).1,e3⟩)
 | @W4 hd β V j1 a1 fl A as d f xs aq ty mo rt ps ops i sl ms fr Γ g hf hg CG h4 hv hc hi er hw _ ih=>
  intro hU h1 B o ho r0 w0 H Z ha hs hp
  obtain ⟨y,hy,ho⟩:=bind_some ho
  obtain ⟨pos,ab,h2⟩:=h1.o
  exact ih y h1.n (by unfold bn; rw [h2]; rfl) B o ho r0 w0 H Z ha hs (let ⟨S',e1,e2,e3⟩:=K4 hh hf hv hU hg CG h4 hc hi er hw h1 hy ha hs hp; ⟨S',e1,e2.re (km (by rw [← h1.A]; exact jc.1 h4)).1,e3⟩)
 | @crb hd u ps d as ops i sl ms Γ m _ ih=>
  intro h1 ib B o ho r0 w0 H Z ha hs ⟨S',hl,hR,hO,hL⟩
  subst hl
  refine ih h1 B o ho r0 w0 H Z ha hs ⟨S'++[⟨true,MV Z ⟨S'.length,d,[],Unit,fun _=>u,fun _=>ps⟩⟩],by simp,(hR.mem (b:=⟨S'.length,d,[],Unit,fun _=>u,fun _=>ps⟩) rfl ib (fun _ h=>nomatch h)).Zh (s:=⟨true,MV Z ⟨S'.length,d,[],Unit,fun _=>u,fun _=>ps⟩⟩) ib (by simp) rfl (fun f w r x ⟨v,h,_⟩=>h),fun j hj=>?_⟩
  by_cases h2:j < S'.length
  ·exact je.more (hO j h2) h2
  ·obtain rfl:j=S'.length:=by omega
   exact hL _ fun f w r x h=>⟨f,fun _ h=>h,h⟩
 | @crv hd u d as ops i sl ms Γ m _ ih=>
  intro h1 ib B o ho r0 w0 H Z ha hs ⟨S',hl,hR,hO,hL⟩
  subst hl
  refine ih h1 B o ho r0 w0 H Z ha hs ⟨_,by simp,hR.val ib,fun j hj=>?_⟩
  by_cases h2:j < S'.length
  ·exact je.more (hO j h2) h2
  ·obtain rfl:j=S'.length:=by omega
   exact hL (pl fun _ _ x=>x=_) fun f w r x ⟨v,h,_⟩=>⟨[],fun _ h=>absurd h List.not_mem_nil,h⟩
 | @crm hd V u ps d as ops i sl ms Γ m _ ih=>
  intro h1 ib B o ho r0 w0 H Z ha hs ⟨S',hl,hR,hO,hL⟩
  subst hl
  refine ih h1 B o ho r0 w0 H Z ha hs ⟨_,by simp,hR.mem rfl ib (fun _ h=>nomatch h),fun j hj=>?_⟩
  by_cases h2:j < S'.length
  ·exact je.more (hO j h2) h2
  ·obtain rfl:j=S'.length:=by omega
   exact hL _ fun f w r x h=>⟨f,fun _ h=>h,h⟩
 | SM hU _ ih=>exact fun h1=>ih hU h1
 | apL Ay hv da h2 h3 h5 h6 hl hz h1 hr hi hn hb _ ih=>
  rename_i hT _
  intro hU h B o ho r0 w0 H Z ha hs hp
  obtain ⟨u,hu,ho⟩:=bind_some ho
  obtain ⟨p1,p2⟩:=Ro hh ha hT hU Ay hv da h2 h3 h5 h6 hl hz h1 hr hi hn hb hu h hs hp
  exact ih h.n B o ho r0 w0 H Z ha p2 p1
 | apH Ay hv da h2 h5 hl hz h1 hr hy _ ih=>
  rename_i hT _
  intro hU h B o ho r0 w0 H Z ha hs hp
  obtain ⟨u,hu,ho⟩:=bind_some ho
  obtain ⟨p1,p2⟩:=Rm hh ha hT hU Ay hv da h2 h5 hl hz h1 hr hy hu h hs hp
  exact ih h.n B o ho r0 w0 H Z ha p2 p1
 | apM h1 h2 h3 ux hj ks h4 h5 h6 hi hn hb _ ih=>
  rename_i hT _
  intro hU h B o ho r0 w0 H Z ha hs hp
  obtain ⟨u,hu,ho⟩:=bind_some ho
  exact ih h.n B o ho r0 w0 H Z ha hs (Rp hT hU h1 h2 h3 ux hj ks h4 h5 h6 hi hn hb hu h hp)
 | ap1 h1 h2 h3 hw h4 h5 _ ih=>
  rename_i hz _
  intro h6 h B o ho r0 w0 H Z ha hs hp
  obtain ⟨u,hu,ho⟩:=bind_some ho
  exact ih h.n B o ho r0 w0 H Z ha hs (Rb hz h1 h2 h3 h4 h5 (h6.trans hw) hu h hp)
 | P1 h1 h3 hw h4 hv hx hr _ ih=>
  rename_i hz _
  intro h6 h B o ho r0 w0 H Z ha hs hp
  obtain ⟨u,hu,ho⟩:=bind_some ho
  obtain ⟨F,_,_,_,_,hK⟩:=stay hs
  exact ih h.n B o ho r0 w0 H Z ha hs (NJ hz h1 h3 h4 (h6.trans hw) hh ha hv hx hr hK hu h hp)
 | P3 h1 h3 hw h4 h2 h7 h5 _ ih=>
  rename_i hz _
  intro h6 h B o ho r0 w0 H Z ha hs hp
  obtain ⟨u,hu,ho⟩:=bind_some ho
  exact ih h.n B o ho r0 w0 H Z ha hs (NK hz h1 h3 h4 (h6.trans hw) h2 h7 h5 hu h hp)
 | sw1 _ _ ih=>exact fun h1=>ih h1
 | sw2 _ _ ih=>exact fun h1=>ih h1
 | sw3 _ _ ih=>exact fun h1=>ih h1
 | sw4 _ _ ih=>exact fun h1=>ih h1
 | sw6 _ _ ih=>exact fun h1=>ih h1
 | wl0 _ ih=>exact fun h1=>ih h1
 | S8 _ ih=>
  rename_i hz _
  intro h1 B o ho r0 w0 H Z ha hs hp
  exact ih h1.n B o ho r0 w0 H Z ha hs (Re hz h1 hp)
 | sw5 _ _ ih=>exact fun h1=>ih h1
 | mln hi er hx _ ih=>
  rename_i ht _
  intro h1 B o ho r0 w0 H Z ha hs hp
  exact ih h1.n B o ho r0 w0 H Z ha hs (Ti hp h1 ht hi er hx)
 | wv hv hq _ ih=>
  intro h1 B o ho r0 w0 H Z ha hs hp
  obtain ⟨F,_,_,_,_,hK⟩:=stay hs
  exact ih h1.n B o ho r0 w0 H Z ha hs (hp.val hh ha h1 hv fun r hr _ _ _ w hC=>hq.sound (hK w hC) hr _ _ _ _ _ w (ak.refl _ _))
 | wlt hv hx ho _ ih=>
  rename_i hz _
  intro h1 B o br r0 w0 H Z ha hs hp
  obtain ⟨F,_,_,_,_,hK⟩:=stay hs
  exact ih h1.n B o br r0 w0 H Z ha hs (Tk hh ha hz hv hx ho hK h1 hp)
 | ltn hv ib hn hb _ ih=>
  rename_i hz _
  intro h1 B o br r0 w0 H Z ha hs hp
  obtain ⟨F,_,_,_,_,hK⟩:=stay hs
  exact ih h1.n B o br r0 w0 H Z ha hs (Il hh ha hz hv ib hn hb hK h1 hp)
 | ltu hv ib hn hb _ ih=>
  rename_i hz _
  intro h1 B o br r0 w0 H Z ha hs hp
  obtain ⟨F,_,_,_,_,hK⟩:=stay hs
  exact ih h1.n B o br r0 w0 H Z ha hs (Il hh ha ⟨hz.h⟩ hv ib hn hb hK h1 hp)
 | @sN hd A as op x y k k' a b t t' d ty ops i sl ms fr Γ f hv hx hy hk _ ih=>
  intro h1 B o ho r0 w0 H Z ha hs hp
  obtain ⟨z,hz,ho⟩:=bind_some ho
  have wz:KG op=true∨k=k':=by
   cases hk with
   | same=>exact .inr rfl
   | sh h=>exact .inl h
  exact ih z h1.n B o ho r0 w0 H Z ha hs (hp.val hh ha h1 hv fun r hr _ _ _ w hC=>KR (aR hr hx) (aR hr hy) wz hz)
 | mk hv hx _ ih=>
  rename_i hz _
  intro h1 B o ho r0 w0 H Z ha hs hp
  obtain ⟨n,hn,ho⟩:=bind_some ho
  exact ih n h1.n B o ho r0 w0 H Z ha hs (Tj hh ha hz hv hx hn h1 hp)
 | mmv hi er hj _ ih=>
  intro h1 B o ho r0 w0 H Z ha hs hp
  exact ih h1.n B o ho r0 w0 H Z ha hs (hp.dep (X:=fun u=>u) h1 hi er hj fun r x hx w pos ab=>(Mv (W:=w) _ rfl) w (ak.refl _ _))
 | @mex hd t k A as d ty ops i sl ms Γ m hi er hj xK _ ih=>
  intro h1 B o ho r0 w0 H Z ha hs hp
  refine ih h1.n B o ho r0 w0 H Z ha hs (hp.dep (X:=fun u=>Jk u _) h1 hi er hj fun r x hx w pos ab=>?_)
  obtain ⟨wH,hc⟩:=xK x
  have xG:=(mm hx uG) _ _ (by rw [List.append_nil]; exact wH)
  have:=(Ex (W:=w) (P:=P) (r:=r) (d:=some d) (ty:=ty) (pos:=pos) (ab:=ab) (g:=none) _ (x:=.tmp t) xG (by simpa using hc)) w (ak.refl _ _)
  rw [this,xG]
  simp [Jk,hc]
 | mfd hi er hj xK _ ih=>
  rename_i hf _
  intro h1 B o ho r0 w0 H Z ha hs hp
  refine ih h1.n B o ho r0 w0 H Z ha hs (hp.dep (X:=fun u=>Jl u _) h1 hi er hj fun r x hx w pos ab=>?_)
  obtain ⟨wH,hc⟩:=xK x
  obtain ⟨fs,f,ds,q1,q2,q3,q4,q5⟩:=hf.h
  have xG:=(mm hx uG) _ _ (by rw [List.append_nil]; exact wH)
  rw [B3 q1 q2 q3 q4 q5 (x:=.tmp _) xG (by simpa using hc),xG]
  simp [Jl,hc]
 | mif hi er hj _ ih=>
  rename_i hf _
  intro h1 B o ho r0 w0 H Z ha hs hp
  obtain ⟨ds,q1,q2⟩:=hf.h
  exact ih h1.n B o ho r0 w0 H Z ha hs (hp.dep (X:=fun u=>.iface _ u) h1 hi er hj fun r x hx w pos ab=>(If (W:=w) q1 q2 _ rfl) w (ak.refl _ _))
 | mbl hi er _ hj hv xK _ ih=>
  rename_i hb _ _
  intro h1 B o ho r0 w0 H Z ha hs hp
  exact ih h1.n B o ho r0 w0 H Z ha hs (Rf hh hb hi er hj hv xK h1 ha hs hp)
 | mlt hi er hj xK _ ih=>
  rename_i hz _
  intro h1 B o ho r0 w0 H Z ha hs hp
  exact ih h1.n B o ho r0 w0 H Z ha hs (Ri hz hi er hj xK h1 hp)
 | XQ hb hi er hj xK _ ih=>
  rename_i hz _
  intro h1 B o ho r0 w0 H Z ha hs hp
  exact ih h1.n B o ho r0 w0 H Z ha hs (Rk hz hb hi er hj xK h1 hp)
 | val hv hq _ ih=>
  intro h1 B o ho r0 w0 H Z ha hs hp
  obtain ⟨F,_,_,_,_,hK⟩:=stay hs
  exact ih h1.n B o ho r0 w0 H Z ha hs (hp.val hh ha h1 hv fun r hr _ _ _ w hC=>hq.sound (hK w hC) hr _ _ _ _ _ w (ak.refl _ _))
end
end Go.Dk
namespace Go.Dk
open Go Go.Li
section
variable {R S:Type} {P:Program} {cx:Cx R} {K:dh R S} {l tail:LO} {base fr:Fr} {w:World} {Z:Nat→Prop}
theorem HC {n:Nat} {Q:Exit→(Nat→Value)→World→Prop} {r:NV} (hQ:∀ c,¬ Q (.panic c) r w):∀ fy,∀ c,¬ yY P n Q fy (.panic c) r w:=by
 intro fy
 induction fy with
 | nil=>exact hQ
 | cons a fy ih=>cases a <;> exact ih
theorem HD {B:Bs} {b:Kb R S} {o:Out S R} {r:NV}:∀ c,¬ E4 P cx B b o (.panic c) r w:=by
 intro c
 cases b <;> cases o <;> exact fun h=>h
theorem yf {B:Bs} {K:dh R S} {o:Out S R} {r:NV}:∀ c,¬ mi P cx B K o (.panic c) r w:=HC HD _
def zp (g:Nat→List Nat):List fg→List Nat
 | []=>[]
 | a :: l=>g a.j++zp g l
theorem B6 {g:Nat→List Nat}:∀ {ms:MM} {b:Nat},b∈zp g ms→∃ a∈ms,b∈g a.j:=by
 intro ms
 induction ms with
 | nil=>intro b h; exact absurd h List.not_mem_nil
 | cons a ms ih=>
  intro b h
  rcases List.mem_append.1 h with h | h
  ·exact ⟨a,by simp,h⟩
  ·obtain ⟨c,h1,h2⟩:=ih h
   exact ⟨c,List.mem_cons_of_mem _ h1,h2⟩
theorem Iq {Vo Vr A F:LN} (h:(Vo++Vr).Perm A):((Vo++F)++Vr).Perm (A++F):=by
 refine List.Perm.trans ?_ (h.append_right F)
 rw [List.append_assoc,List.append_assoc]
 exact List.Perm.append_left Vo List.perm_append_comm
theorem P4 {g:Nat→List Nat} {r:NV}:∀ {ms:MM},B5 ms=true→(ms.map (·.j)).Nodup→(∀ a∈ms,∀ b∈ms,a.j≠b.j→rM (g a.j) (g b.j))→(∀ a∈ms,MV Z a (g a.j) w r (r a.d))→
  ∃ x:lq ms,(∀ p∈mF ms x,r p.1=p.2)∧(∃ Vo Vr,(Vo++Vr).Perm (zp g ms)∧(∀ b∈Vr,b < w.heap.size)∧HL (rq Z Vr) w (DE ms x) Vo)∧(zp g ms).Nodup:=by
 intro ms
 induction ms with
 | nil=>intro _ _ _ _; exact ⟨(),fun p hp=>absurd hp List.not_mem_nil,⟨[],[],.refl _,fun b (h:b∈[])=>absurd h List.not_mem_nil,.nil⟩,List.nodup_nil⟩
 | cons a ms ih=>
  intro er hd hi h
  unfold B5 at er
  rw [Bool.and_eq_true] at er
  rw [List.map_cons,List.nodup_cons] at hd
  obtain ⟨x,hx,hl,hn⟩:=ih er.2 hd.2 (fun b hb c hc=>hi b (List.mem_cons_of_mem _ hb) c (List.mem_cons_of_mem _ hc)) fun b hb=>h b (List.mem_cons_of_mem _ hb)
  obtain ⟨v,e1,e2,e3⟩:=h a (by simp)
  have es:tR a r=Ao a (mF ms x):=by
   have h3:=er.1
   rw [List.all_eq_true] at h3
   refine Bf fun t ht=>?_
   unfold xE
   rw [Nz (h3 t ht) hx]
  rw [es] at e1 e2
  refine ⟨(v,x),?_,?_,tk e3 hn ?_⟩
  rotate_left
  ·obtain ⟨Fo,Fr,hf,h1,h2⟩:=e2.all
   obtain ⟨Vo,Vr,k1,k2,k3⟩:=hl
   refine ⟨Fo++Vo,Fr++Vr,?_,fun b hb=>(List.mem_append.1 hb).elim (h1 b) (k2 b),(h2.mono fun b h=>h.imp id fun h=>List.mem_append_left _ h).app (k3.mono fun b h=>h.imp id fun h=>List.mem_append_right _ h)⟩
   show List.Perm _ (g a.j++zp g ms)
   rw [hf]
   refine List.Perm.trans ?_ (k1.append_left (Fo++Fr))
   rw [List.append_assoc,List.append_assoc]
   refine List.Perm.append_left Fo ?_
   rw [← List.append_assoc,← List.append_assoc]
   exact List.Perm.append_right Vr List.perm_append_comm
  rotate_right
  ·intro p hp
   rcases List.mem_cons.1 hp with rfl | hp
   ·exact e1
   ·exact hx p hp
  ·intro b hb hm
   obtain ⟨c,h1,h2⟩:=B6 hm
   exact hi a (by simp) c (List.mem_cons_of_mem _ h1) (fun e=>hd.1 (by rw [e]; exact List.mem_map_of_mem h1)) b hb h2
theorem F5 {r:NV} {f:Fr}:∀ {sl:LQ},(∀ p∈sl,r p.2.1=p.2.2)→(∀ p∈f,r p.1=p.2)→∀ p∈Ap sl f,r p.1=p.2:=by
 intro sl
 induction sl with
 | nil=>intro _ h; exact h
 | cons a sl ih=>
  intro h1 h2 p hp
  rcases List.mem_cons.1 hp with rfl | hp
  ·exact h1 a (by simp)
  ·exact ih (fun p hp=>h1 p (List.mem_cons_of_mem _ hp)) h2 p hp
theorem Rq {mt id:Nat} {U:LL} {Zl:LN} {Tx:QE} (hU:((List.range mt).all fun i=>(U.getD i []).all fun u=>Nat.beq u l.length || ((cg l).getD i []).contains u)=true) (hh:lr l mt base=true) (hd:dk cx.n l=true) (hA:zq l mt Zl=true) (hZ:F6 l mt Zl=true) (F7:mt≤l.length) (ht:tail=l.drop mt) {i:Nat} {sl:LQ} {ms:MM} {Γ:QE} {m:Option (Out S R)} (Tz:B5 ms=true) (r7:DF U sl ms=true)
  (h:∀ x:lq ms,D P cx (.p (Ap sl (mF ms x)) (DE ms x) base Γ fun fr Γ=>.tg false (B0 tail) l tail K Γ fr m)):Js P cx K l mt U Tx id base (.a [] [] i sl ms Γ m):=by
 rintro ⟨_,h2,h3⟩ B o ho r0 w0 H Z ha hs ⟨S',hl,hR,hO⟩
 have hi:i=mt:=by
  have:=congrArg List.length h2
  simp at this
  omega
 subst hl
 obtain ⟨F,Hd,⟨tj,uA,rU,uB⟩,hS,hG⟩:=hs
 refine TA (N:=Z) (S:=S') (U:=U) (H:=H) hd hA hZ (fun c r w h=>yf c h) F7 hi rU hU (fun b hb=>⟨hG.ov b hb,fun h=>hG.apart b (List.mem_append_left _ h) hb⟩) (fun i s hs=>hR.s i s hs) (fun j hj=>hO j (by omega)) ?_
 intro g r w hI
 have Jt:∀ k j,j∈U.getD k []→∀ a∈ms,a.j≠j:=by
  intro k j hj
  unfold DF at r7
  rw [List.getD_eq_getElem?_getD] at hj
  cases hk:U[k]? with
  | none=>rw [hk] at hj; exact absurd hj List.not_mem_nil
  | some us=>
   rw [hk] at hj
   have h1:=List.all_eq_true.1 (List.all_eq_true.1 r7 us (List.mem_of_getElem? hk)) j hj
   intro a ha he
   have:=List.all_eq_true.1 h1 a ha
   rw [he,Nat.beq_refl] at this
   cases this
 have hD:∀ j,j < mt→(∀ k,j ∉ U.getD k [])→wE l S' j g r w:=fun j hj hn=>hI.done j hj fun k _=>hn k
 have bc:∀ a∈ms,a.j < mt:=fun a ha=>hi ▸ hR.lt ha
 obtain ⟨x,hx,rX,TB⟩:=P4 (g:=g) (r:=r) (w:=w) Tz hR.d (fun a ha b hb vb=>hI.vL _ _ (bc a ha) (bc b hb) vb) fun a ha=>by
  have:=hR.wD (S2:=[]) ha (by rw [List.append_nil]; exact hD a.j (bc a ha) (fun k hk=>Jt k _ hk a ha rfl))
  exact this
 have CL:=List.nodup_append.1 hG.nd
 have nj:∀ b∈zp g ms,w0.heap.size≤b∨b∈H:=fun b hb=>by
  obtain ⟨a,h1,h2⟩:=B6 hb
  exact (hI.fresh a.j (bc a h1) b h2).1.imp (fun h=>h) (·.1)
 have ed:=pj.stay hS hG hI.j4
 obtain ⟨Vo,Vr,TC,TD,rX⟩:=rX
 obtain ⟨F',hp,fx⟩:=rX.build (ed.mono (fun _ h=>.inl h) fun _ h=>h)
 have F8:Gd B Z (zp g ms++F) w:=by
  refine ⟨tk TB CL.2.1 fun b hb hF=>(nj b hb).elim (fun h=>Nat.lt_irrefl _ (Nat.lt_of_lt_of_le (hS.lt b hF) h)) (fun h=>CL.2.2 b h b hF rfl),?_,fun b hb=>Nat.lt_of_lt_of_le (hG.ov b hb) hI.j4.size,?_,hG.wu,hG.vz,hG.j4.then hI.j4 fun b hb=>hG.low b (List.mem_append_left _ hb)⟩
  ·intro b hb hz
   rcases List.mem_append.1 hb with hb | hb
   ·exact (nj b hb).elim (fun h=>Nat.lt_irrefl _ (Nat.lt_of_lt_of_le (hG.ov b hz) h)) (fun h=>hG.apart b (List.mem_append_left _ h) hz)
   ·exact hG.apart b (List.mem_append_right _ hb) hz
  ·intro b hb
   rcases List.mem_append.1 hb with hb | hb
   ·exact (nj b hb).elim (fun h=>.inr (Nat.le_trans hG.j4.size h)) (fun h=>hG.low b (List.mem_append_left _ h))
   ·exact hG.low b (List.mem_append_right _ hb)
 have NR:cq r ((Ap sl (mF ms x)).reverse++base):=by
  refine qR (F5 (fun p hp=>?_) hx) (iu hh ha hI.other)
  exact hR.va (S2:=[]) hp fun j _ hj=>(by rw [List.append_nil]; exact hI.sO j (hi ▸ hj))
 have:=(h x).sound B o ho r w NR ⟨_,F',fx,((F8.perm (Iq TC)).freeze TD).perm hp⟩
 rw [ht] at this
 exact this
def Kq (q:Option (Bool×Nat×Value)) (f:Fr):Fr:=
 match q with
 | none=>f
 | some (_,d,u)=>(d,u) :: f
theorem Kp.lk {ws:LN} {q:Option (Bool×Nat×Value)} {f g:Fr} (h:Kp ws q f g):(∀ b d u,q=some (b,d,u)→b=dt d ws)→∀ t v,look g t=some v→dt t ws=false∧look (Kq q f) t=some v:=by
 induction h with
 | nil=>intro _ t v h; cases h
 | cons _ ih=>intro _ t v h; exact ih (by rintro b d u h; cases h; rfl) t v h
 | @drop ws d u f g _ ih=>
  intro hq t v h
  obtain ⟨h1,h2⟩:=ih (by rintro b d u h; cases h) t v h
  refine ⟨h1,?_⟩
  show look ((d,u) :: f) t=some v
  unfold look
  cases hb:Nat.beq t d with
  | true=>have:=hq true d u rfl; rw [Nat.eq_of_beq_eq_true hb,← this] at h1; cases h1
  | false=>exact h2
 | @ep ws d u f g _ ih=>
  intro hq t v h
  unfold look at h
  show dt t ws=false∧look ((d,u) :: f) t=some v
  unfold look
  cases hb:Nat.beq t d with
  | true=>rw [hb] at h; exact ⟨by rw [Nat.eq_of_beq_eq_true hb]; exact (hq false d u rfl).symm,h⟩
  | false=>
   rw [hb] at h
   obtain ⟨h1,h2⟩:=ih (by rintro b d u h; cases h) t v h
   unfold dt at h1
   rw [hb] at h1
   exact ⟨h1,h2⟩
theorem Kp.sound {ws:LN} {f g:Fr} {r:NV} (h:Kp ws none f g) (ha:cq r f):cq r g:=
 fun t v hl=>ha t v (h.lk (by rintro b d u h; cases h) t v hl).2
theorem TE {id:Nat} (hd:QE) (mt:Nat) (Zl:LN) (U as:LL) {ops:LO} {Γ Γ1:QE} {fr:Fr} {m:Option (Out S R)}
  (hB:(P.follows .mixedOrders && dk cx.n l && zq l mt Zl && F6 l mt Zl && Nat.ble mt l.length && (ra l U mt == as) && ((List.range mt).all fun i=>(U.getD i []).all fun u=>Nat.beq u l.length || ((cg l).getD i []).contains u))=true)
  (ho:ops=l.take mt) (ht:tail=l.drop mt) (hf:Kp (yZ ops) none fr base) (hh:lr l mt base=true) (he:EO Γ hd Γ1) (F9:OW Γ hd)
  (h:AD false P cx K l tail base U hd (.a as ops 0 [] [] Γ1 m)):∀ B o,m=some o→∀ r w,cq r fr→St B Γ w→n8 P cx.n l (mi P cx B K o) r w:=by
 simp only [Bool.and_eq_true] at hB
 obtain ⟨⟨⟨⟨⟨⟨_,b2⟩,b3⟩,b4⟩,b5⟩,b6⟩,b7⟩:=hB
 intro B o hm r w ha hs
 obtain ⟨Z,F,hS,hG⟩:=hs
 obtain ⟨Fd,F',h1,h2,h3⟩:=he.sound hS
 have Ga:SA Z w hd [] Fd:=by
  have:=(HO.hl F9 hS h1).front (Γ:=[]) (F:=[]) rfl
  simpa using this
 have hX:pj B Z hd Γ1 Fd w:=⟨F',Fd,⟨Ga,fun b hb=>⟨hb,Ga.lt b hb⟩,Ga.lt,(List.nodup_append.1 (hG.perm h3).nd).1⟩,h2,hG.perm h3⟩
 refine AD.sound (id:=id) hh (fun _ _ _ _ _ _ hs he h=>Rq b7 hh b2 b3 b4 (Nat.le_of_ble_eq_true b5) ht hs he h) h
  ⟨by rw [List.drop_zero]; exact (eq_of_beq b6).symm,by rw [List.drop_zero]; exact ho,Nat.zero_le _⟩ B o hm r w Fd Z (hf.sound ha) hX ⟨[],rfl,⟨fun _ h=>absurd h List.not_mem_nil,fun _ h=>absurd h List.not_mem_nil,fun i s h=>by simp at h,List.nodup_nil,fun _ _ _ h1 h2=>CM l (Lh b3) h1 h2⟩,fun j hj=>absurd hj (Nat.not_lt_zero j)⟩
theorem yg {id:Nat} (hd:QE) (mt:Nat) (Zl:LN) (U as:LL) {ops:LO} {Γ Γ1:QE} {fr:Fr} {m:Option (Out S R)}
  (hB:(P.follows .mixedOrders && dk cx.n l && zq l mt Zl && F6 l mt Zl && Nat.ble mt l.length && (ra l U mt == as) && ((List.range mt).all fun i=>(U.getD i []).all fun u=>Nat.beq u l.length || ((cg l).getD i []).contains u))=true)
  (ho:ops=l.take mt) (ht:tail=l.drop mt) (hf:Kp (yZ ops) none fr base) (hh:lr l mt base=true) (he:EO Γ hd Γ1) (F9:OW Γ hd)
  (h:AD false P cx K l tail base U hd (.a as ops 0 [] [] Γ1 m)):Bx (ni P cx (.dr id l K Γ fr m)):=by
 have hm:P.follows .mixedOrders=true:=by
  simp only [Bool.and_eq_true] at hB
  exact hB.1.1.1.1.1.1
 rw [l3]
 intro B o uC r w ha hs
 exact (TE (id:=id) hd mt Zl U as hB ho ht hf hh he F9 h B o uC r w ha hs).W hm
theorem TF {id:Nat} {l0:LO} (σ π:LN) (hd:QE) (mt:Nat) (Zl:LN) (U as:LL) {ops:LO} {Γ Γ1:QE} {fr:Fr} {m:Option (Out S R)}
  (hB:(P.follows .mixedOrders && NS l0 σ π && dk cx.n (qy l0 σ π) && zq (qy l0 σ π) mt Zl && F6 (qy l0 σ π) mt Zl && Nat.ble mt (qy l0 σ π).length && (ra (qy l0 σ π) U mt == as) && ((List.range mt).all fun i=>(U.getD i []).all fun u=>Nat.beq u (qy l0 σ π).length || ((cg (qy l0 σ π)).getD i []).contains u))=true)
  (hl:l=qy l0 σ π) (ho:ops=l.take mt) (ht:tail=l.drop mt) (hf:Kp (yZ ops) none fr base) (hh:lr l mt base=true) (he:EO Γ hd Γ1) (F9:OW Γ hd)
  (h:AD false P cx K l tail base U hd (.a as ops 0 [] [] Γ1 m)):Bx (ni P cx (.dr id l0 K Γ fr m)):=by
 subst hl
 simp only [Bool.and_eq_true] at hB
 obtain ⟨⟨⟨⟨⟨⟨⟨b0,b1⟩,b2⟩,b3⟩,b4⟩,b5⟩,b6⟩,b7⟩:=hB
 rw [l3]
 intro B o uC r w ha hs
 refine ((TE (id:=id) hd mt Zl U as ?_ ho ht hf hh he F9 h B o uC r w ha hs).prm b1).W b0
 simp only [Bool.and_eq_true]
 exact ⟨⟨⟨⟨⟨⟨b0,b2⟩,b3⟩,b4⟩,b5⟩,b6⟩,b7⟩
theorem any {id:Nat} (mt:Nat) (Zl:LN) (U as:LL) {ops:LO} {Γ:QE} {fr:Fr} {m:Option (Out S R)}
  (hB:(P.follows .mixedOrders && dk cx.n l && zq l mt Zl && F6 l mt Zl && Nat.ble mt l.length && (ra l U mt == as) && ((List.range mt).all fun i=>(U.getD i []).all fun u=>Nat.beq u l.length || ((cg l).getD i []).contains u))=true)
  (ho:ops=l.take mt) (ht:tail=l.drop mt) (hf:Kp (yZ ops) none fr base) (hh:lr l mt base=true)
  (h:AD false P cx K l tail base U [] (.a as ops 0 [] [] Γ m)):Bx (ni P cx (.dr id l K Γ fr m)):=yg [] mt Zl U as hB ho ht hf hh .nil .nil h
end
end Go.Dk
